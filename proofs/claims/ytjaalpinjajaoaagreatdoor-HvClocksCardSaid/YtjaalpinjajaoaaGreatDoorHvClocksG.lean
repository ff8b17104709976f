/-
  Part 7 of the proof of HvClocks: rules, and walks of functions. Conditions: none.
-/
import Derived.Test.YtjaalpinjajaoaaGreatDoorHvClocksF
namespace Go.Proofs.YtjaalpinjajaoaaGreatDoor
open Go.Proofs.Tryz
set_option linter.unusedSimpArgs false
set_option linter.unusedVariables false
set_option maxRecDepth 20000
set_option linter.defProp false
set_option synthInstance.maxSize 8192
set_option synthInstance.maxHeartbeats 2000000
variable{W0:World}{R:List HP}
variable {ops:Array Oper}{c:Cfg}{fn:Func}{g:Gu}{z:Gz}{p wk:Int}{l:List (Int×Int)}{cs:List (Nat×Nat×List Value)}{es:List Evt}{A:List HP}{wl words ws:List Nat}{pg:List Pl}{fr fr':List az}{x:Mm}{d e f i j k len n w wg:Nat}{a:Option Addr}{rd:Option Nat}{po:Po}{P:Program}{s:QS}{r:Rg3}
section
open Go.RowKit
set_option synthInstance.maxSize 1000
set_option synthInstance.maxHeartbeats 400000
def vz(cf:Cfg)(a:Nat):Value:=if a<cf.nl.length then .tuple #[.agg (fZ (eB cf a)).toArray,.int .i64 (jK cf a),.int .i64 0]else .tuple #[.agg #[.int .i64 0,.int .i64 0],.int .i64 0,.int .i64 3]
theorem AA (cb : Nat) (q : Cw) (hq : CwOk q) (cf : Cfg) (ps pb db qb tb : Nat) (h : CfK W0 cf) (hn : cf.nl.length ≤ 4) : sQ W0 228 [pV cb] (pt cb (cy q) :: pt q.hb (cY cf ps pb db qb tb) :: R) (vz cf q.a) (pt cb (cy q) :: pt q.hb (cY cf ps pb db qb tb) :: R) := by
 have ha := hq.a
 by_cases hl : q.a < cf.nl.length
 obtain ⟨g, o, hna, hc⟩ := (h.ok.n (pt cb (cy q) :: pt q.hb (cY cf ps pb db qb tb) :: R)).at_ hl
 obtain ⟨x, hx⟩ : ∃ x, cf.nl[q.a] = x := ⟨_, rfl⟩
 rw [hx] at hc
 rw [vz, Qad hl, show eB cf q.a = x by simp [eB, List.getD, hl, hx]]
 refine am func228 ntmps228 ?_
 refine dT (cP yU) fun b1 => ?_
 refine aa rfl (aU rfl) (aa rfl (aU rfl) (aI (aA (aG (aG ?_)))))
 refine dY [(cb, 0, _), (q.hb, 0, _)] 18 mixed rfl (bj (bj bI)) (fun hS => ?_)
 refine aj 0 4 hS ?_
 refine aE 4 hS (dW fP aX rfl rfl (i := 0) rfl cl dg) ?_
 refine aE 5 hS (aY (d6 (k := 0) (j := 3) rfl rfl)) ?_
 refine aE 6 hS (cv (Gi aq)) ?_
 refine aj 7 3 hS ?_
 refine aE 10 hS (aY (d6 (k := 0) (j := 8) rfl rfl)) ?_
 refine aj 11 3 hS ?_
 refine aE 14 hS (aY (d6 (k := 1) (j := 4) rfl rfl)) ?_
 refine aj 15 1 hS ?_
 refine aE 16 hS (cv (Gi aq)) ?_
 refine aj 17 1 hS ?_
 refine eY ?_
 refine aA ?_
 refine aB rfl (fun c1 => ?_) fun c1 => ?_
 omega
 refine fH (aA (aG (aM (aa rfl (aV rfl) (aa rfl (fJ rfl) ?_)))))
 refine aa rfl (bT rfl lX rfl mX rfl dg) ?_
 refine aa rfl (bT rfl nz rfl vH rfl dg) ?_
 refine aa rfl (dW fP aX rfl rfl (i := 0) rfl cl dg) ?_
 refine aa rfl (bO jP rfl (aO rfl)) ?_
 refine aa rfl (uK uC ez rfl (bS aq)) ?_
 refine aa rfl (aU rfl) (aI (aA (aG ?_)))
 refine dY [(cb, 0, _), (q.hb, 0, _), (g, o + q.a * 2, fZ x)] 23 mixed rfl (bj (bj (dA hc.weak bI))) (fun hS => ?_)
 refine aj 0 9 hS ?_
 refine aE 9 hS (g7 O4 FG rfl hna rfl rfl hl dg) ?_
 refine cI 10 rfl rfl rfl hS (jg NL FG rfl (i6 (k := 2) rfl) rfl) ?_
 refine cI 11 rfl rfl rfl hS (aV rfl) ?_
 refine cI 12 rfl rfl rfl hS (fJ rfl) ?_
 refine cI 13 rfl rfl rfl hS (bT rfl lX rfl AY rfl dg) ?_
 refine cI 14 rfl rfl rfl hS (bO NU rfl (by first | exact d6 (k := 0) rfl rfl | exact d6 (k := 1) rfl rfl | exact d6 (k := 2) rfl rfl)) ?_
 refine cI 15 rfl rfl rfl hS (fJ rfl) ?_
 refine cI 16 rfl rfl rfl hS (bT rfl Jd rfl tq rfl dg) ?_
 refine aE 17 hS (cV (tK (l1 := dU cf) (l2 := [pV ps, pV pb, pV db, pV qb, pV tb]) (i6 (k := 1) rfl))) ?_
 refine aj 18 1 hS ?_
 refine iX 19 rfl rfl (aK call175 (SK cf h q.a)) (bj (bj (dA hc.weak bI))) fun hS => ?_
 refine lI 20 rfl rfl aR (bj (bj (dA hc.weak bI))) fun hS => ?_
 refine aj 21 2 hS ?_
 refine aS ?_
 exact bJ (.cons (bX NL FG rfl rfl) (.cons (bA rfl) (.cons (bA rfl) .nil))) ax
 rw [vz, Qab hl]
 refine am func228 ntmps228 ?_
 refine bU fun b1 => ?_
 refine dY [(cb, 0, _), (q.hb, 0, _)] 18 mixed rfl (bj (bj bI)) (fun hS => ?_)
 refine aj 0 4 hS ?_
 refine aE 4 hS (dW fP aX rfl rfl (i := 0) rfl cl dg) ?_
 refine aj 5 1 hS ?_
 refine aE 6 hS (cv (Gi aq)) ?_
 refine aj 7 9 hS ?_
 refine aE 16 hS (cv (Gi aq)) ?_
 refine aj 17 1 hS ?_
 refine aS ?_
 refine aB rfl (fun c1 => ?_) fun c1 => ?_
 refine au 3 ?_
 refine aJ aR ?_
 exact bJ (.cons (bX NL FG rfl rfl) (.cons (bA rfl) (.cons (bA rfl) .nil))) ax
 omega
theorem b7x (cb : Nat) (q : Cw) (hq : CwOk q) (cf : Cfg) (ps pb db qb tb : Nat) (h : CfK W0 cf) (hn : cf.nl.length ≤ 4) (hl : cf.nl.length ≤ q.a) : sQ W0 144 ([pV cb] ++ [] ++ []) (pt cb (cy q) :: pt q.hb (cY cf ps pb db qb tb) :: R) (.tuple #[iQ 3, wV 0]) (pt cb (cy q) :: pt q.hb (cY cf ps pb db qb tb) :: R) := by
 simp only [Qaq]
 refine am OY ntmps144 ?_
 refine eS (dj Db (AA cb q hq cf ps pb db qb tb h hn)) ?_
 rw [vz, Qab aq]
 refine aw ?_
 refine dT (cP yU) fun b4 => ?_
 refine fw 13 aR ?_
 refine ap (fun c2 => ?_) fun c2 => ?_
 exact aZ ax
 exact absurd cl c2
theorem b7y (cb : Nat) (q : Cw) (hq : CwOk q) (cf : Cfg) (ps pb db qb tb : Nat) (h : CfK W0 cf) (hn : cf.nl.length ≤ 4) (hl : q.a < cf.nl.length) (hi : (eB cf q.a).2 ≠ q.i) : sQ W0 144 ([pV cb] ++ [] ++ []) (pt cb (cy q) :: pt q.hb (cY cf ps pb db qb tb) :: R) (.tuple #[iQ 4, wV 0]) (pt cb (cy q) :: pt q.hb (cY cf ps pb db qb tb) :: R) := by
 simp only [Qaq]
 refine am OY ntmps144 ?_
 refine eS (dj Db (AA cb q hq cf ps pb db qb tb h hn)) ?_
 rw [vz, Qad hl]
 refine aw ?_
 refine dT (cP yU) fun b4 => ?_
 refine aJ aR ?_
 refine ap (fun c2 => ?_) fun c2 => ?_
 exact absurd rfl c2
 refine bH [b4, cb] 9 fun hS => ?_
 refine aj 0 9 hS ?_
 refine aS ?_
 refine ap (fun c4 => ?_) fun c4 => ?_
 exact aZ ax
 exact absurd hi sm
theorem b7z (cb : Nat) (q : Cw) (z : Gz) (g : Gu) (hq : CwOk q) (cf : Cfg) (ps pb db qb tb : Nat) (h : CfK W0 cf) (hn : cf.nl.length ≤ 4) (hl : q.a < cf.nl.length) (hi : (eB cf q.a).2 = q.i) (fr : List az) (hF : bD fr) (f : Nat) (hf0 : jK cf q.a = (f : Int)) (hf : f < fr.length) (hrd : cn g.rd q.a < 4294967296) (hE : gW fr f 0 4 = cn g.rd q.a) : sQ W0 144 ([pV cb] ++ [] ++ []) (pt cb (cy q) :: pt q.hb (cY cf ps pb db qb tb) :: pt q.gb (bN z g) :: aH ps fr :: R) (.tuple #[iQ 3, wV 0]) (pt cb (cy q) :: pt q.hb (cY cf ps pb db qb tb) :: pt q.gb (bN z g) :: aH ps fr :: R) := by
 simp only [Qaq]
 have ha := hq.a
 have ha4 : q.a < 4 := aq
 refine am OY ntmps144 ?_
 refine eS (dj Db (AA cb q hq cf ps pb db qb tb h hn)) ?_
 rw [vz, Qad hl, hf0]
 refine aw ?_
 refine dT (cP yU) fun b4 => ?_
 refine aJ aR ?_
 refine ap (fun c2 => ?_) fun c2 => ?_
 exact absurd rfl c2
 refine bH [b4, cb] 9 fun hS => ?_
 refine aj 0 9 hS ?_
 refine aS ?_
 refine ap (fun c4 => ?_) fun c4 => ?_
 exact absurd hi c4
 refine ac (dW fP aX rfl rfl (i := 0) rfl cl dg) ?_
 refine ac (cv (bS aq)) ?_
 refine dY [(cb, 0, _), (q.hb, 0, _)] 22 mixed rfl (bj (bj bI)) (fun hS => ?_)
 refine aj 0 14 hS ?_
 refine fp (is := [14, 19]) ld rfl ⟨?_, ?_, trivial⟩
 refine dB (ar OZ (Iv W0 _ q.gb z g q.a ha4)) ?_; clear hS
 rintro _ B_ ⟨rfl, hB_⟩
 obtain rfl := hB_.symm
 refine ⟨aW, fun hS => ?_⟩
 refine fp (is := [15, 19]) ld rfl ⟨?_, ?_, trivial⟩
 refine dB (ar G9 (CJ ps fr f (cn g.rd q.a) hF hf hrd)) ?_; clear hS
 rintro _ B_ ⟨rfl, hB_⟩
 obtain rfl := hB_.symm
 rw [yE, Qad hE]
 refine ⟨aW, fun hS => ?_⟩
 refine aj 16 3 hS ?_
 refine co 19 (cP yV) ?_; clear hS
 rintro _ _ ⟨b8, rfl, rfl⟩
 refine ⟨aW, fun hS => ?_⟩
 refine cp 20 aR fun hS => ?_
 refine aj 21 1 hS ?_
 refine aS ?_
 refine aB rfl (fun c8 => ?_) fun c8 => ?_
 exact absurd rfl c8
 refine aw ?_
 refine ap (fun c10 => ?_) fun c10 => ?_
 exact aZ ax
 exact absurd cl c10
 skip
 refine dB (cP yV) ?_; clear hS
 rintro _ _ ⟨b8, rfl, rfl⟩
 refine ⟨aW, fun hS => ?_⟩
 refine co 15 (ar G9 (CJ ps fr f (cn g.rd q.a) hF hf hrd)) ?_; clear hS
 rintro _ B_ ⟨rfl, hB_⟩
 obtain rfl := hB_.symm
 rw [yE, Qad hE]
 refine ⟨aW, fun hS => ?_⟩
 refine aj 16 3 hS ?_
 refine cp 20 aR fun hS => ?_
 refine aj 21 1 hS ?_
 refine aS ?_
 refine aB rfl (fun c8 => ?_) fun c8 => ?_
 exact absurd rfl c8
 refine aw ?_
 refine ap (fun c10 => ?_) fun c10 => ?_
 exact aZ ax
 exact absurd cl c10
 skip
 refine dB (cP yV) ?_; clear hS
 rintro _ _ ⟨b8, rfl, rfl⟩
 refine ⟨aW, fun hS => ?_⟩
 refine bQ 14 (ar OZ (Iv W0 _ q.gb z g q.a ha4)) fun hS => ?_
 refine co 15 (ar G9 (CJ ps fr f (cn g.rd q.a) hF hf hrd)) ?_; clear hS
 rintro _ B_ ⟨rfl, hB_⟩
 obtain rfl := hB_.symm
 rw [yE, Qad hE]
 refine ⟨aW, fun hS => ?_⟩
 refine aj 16 3 hS ?_
 refine cp 20 aR fun hS => ?_
 refine aj 21 1 hS ?_
 refine aS ?_
 refine aB rfl (fun c8 => ?_) fun c8 => ?_
 exact absurd rfl c8
 refine aw ?_
 refine ap (fun c10 => ?_) fun c10 => ?_
 exact aZ ax
 exact absurd cl c10
abbrev VI(fr:List az)(f n:Nat):Nat:=gW fr f ((4+4*(IA (gW fr f 0 4) n %8):Nat):Int) 4
abbrev Fg(fr:List az)(f n:Nat):Nat:=u32 (((IA (gW fr f 0 4) n:Nat):Int)+1)
theorem b7A (cb : Nat) (q : Cw) (z : Gz) (g : Gu) (hq : CwOk q) (cf : Cfg) (ps pb db qb tb : Nat) (h : CfK W0 cf) (hn : cf.nl.length ≤ 4) (hl : q.a < cf.nl.length) (hi : (eB cf q.a).2 = q.i) (fr : List az) (hF : bD fr) (f : Nat) (hf0 : jK cf q.a = (f : Int)) (hf : f < fr.length) (hrd : cn g.rd q.a < 4294967296) (hr4 : g.rd.length = 4) (hE : ¬ gW fr f 0 4 = cn g.rd q.a) : sQ W0 144 ([pV cb] ++ [] ++ []) (pt cb (cy q) :: pt q.hb (cY cf ps pb db qb tb) :: pt q.gb (bN z g) :: aH ps fr :: R) (.tuple #[iQ 0, wV (VI fr f (cn g.rd q.a))]) (pt cb (cy q) :: pt q.hb (cY cf ps pb db qb tb) :: pt q.gb (bN z (CG g q.a (Fg fr f (cn g.rd q.a)))) :: aH ps fr :: R) := by
 simp only [Qaq]
 have ha := hq.a
 have ha4 : q.a < 4 := aq
 refine am OY ntmps144 ?_
 refine eS (dj Db (AA cb q hq cf ps pb db qb tb h hn)) ?_
 rw [vz, Qad hl, hf0]
 refine aw ?_
 refine dT (cP yU) fun b4 => ?_
 refine aJ aR ?_
 refine ap (fun c2 => ?_) fun c2 => ?_
 exact absurd rfl c2
 refine bH [b4, cb] 9 fun hS => ?_
 refine aj 0 9 hS ?_
 refine aS ?_
 refine ap (fun c4 => ?_) fun c4 => ?_
 exact absurd hi c4
 refine ac (dW fP aX rfl rfl (i := 0) rfl cl dg) ?_
 refine ac (cv (bS aq)) ?_
 refine dY [(cb, 0, _), (q.hb, 0, _)] 22 mixed rfl (bj (bj bI)) (fun hS => ?_)
 refine aj 0 14 hS ?_
 refine fp (is := [14, 19]) ld rfl ⟨?_, ?_, trivial⟩
 refine dB (ar OZ (Iv W0 _ q.gb z g q.a ha4)) ?_; clear hS
 rintro _ B_ ⟨rfl, hB_⟩
 obtain rfl := hB_.symm
 refine ⟨aW, fun hS => ?_⟩
 refine fp (is := [15, 19]) ld rfl ⟨?_, ?_, trivial⟩
 refine dB (ar G9 (CJ ps fr f (cn g.rd q.a) hF hf hrd)) ?_; clear hS
 rintro _ B_ ⟨rfl, hB_⟩
 obtain rfl := hB_.symm
 rw [yE, Qab hE]
 refine ⟨aW, fun hS => ?_⟩
 refine aj 16 3 hS ?_
 refine co 19 (cP yV) ?_; clear hS
 rintro _ _ ⟨b8, rfl, rfl⟩
 refine ⟨aW, fun hS => ?_⟩
 refine cp 20 aR fun hS => ?_
 refine aj 21 1 hS ?_
 refine aS ?_
 refine aB rfl (fun c8 => ?_) fun c8 => ?_
 exact absurd rfl c8
 refine au 8 ?_
 refine et ?_
 refine bH [b8, cb] 9 fun hS => ?_
 refine aj 0 8 hS ?_
 refine bQ 8 (ar YK (MV W0 _ q.gb z g hr4 q.a (Fg fr f (cn g.rd q.a)) ha4)) fun hS => ?_
 refine aS ?_
 refine bH [b8] 4 fun hS => ?_
 refine aj 0 4 hS ?_
 refine aS ?_
 exact aZ ax
 skip
 refine dB (cP yV) ?_; clear hS
 rintro _ _ ⟨b8, rfl, rfl⟩
 refine ⟨aW, fun hS => ?_⟩
 refine co 15 (ar G9 (CJ ps fr f (cn g.rd q.a) hF hf hrd)) ?_; clear hS
 rintro _ B_ ⟨rfl, hB_⟩
 obtain rfl := hB_.symm
 rw [yE, Qab hE]
 refine ⟨aW, fun hS => ?_⟩
 refine aj 16 3 hS ?_
 refine cp 20 aR fun hS => ?_
 refine aj 21 1 hS ?_
 refine aS ?_
 refine aB rfl (fun c8 => ?_) fun c8 => ?_
 exact absurd rfl c8
 refine au 8 ?_
 refine et ?_
 refine bH [b8, cb] 9 fun hS => ?_
 refine aj 0 8 hS ?_
 refine bQ 8 (ar YK (MV W0 _ q.gb z g hr4 q.a (Fg fr f (cn g.rd q.a)) ha4)) fun hS => ?_
 refine aS ?_
 refine bH [b8] 4 fun hS => ?_
 refine aj 0 4 hS ?_
 refine aS ?_
 exact aZ ax
 skip
 refine dB (cP yV) ?_; clear hS
 rintro _ _ ⟨b8, rfl, rfl⟩
 refine ⟨aW, fun hS => ?_⟩
 refine bQ 14 (ar OZ (Iv W0 _ q.gb z g q.a ha4)) fun hS => ?_
 refine co 15 (ar G9 (CJ ps fr f (cn g.rd q.a) hF hf hrd)) ?_; clear hS
 rintro _ B_ ⟨rfl, hB_⟩
 obtain rfl := hB_.symm
 rw [yE, Qab hE]
 refine ⟨aW, fun hS => ?_⟩
 refine aj 16 3 hS ?_
 refine cp 20 aR fun hS => ?_
 refine aj 21 1 hS ?_
 refine aS ?_
 refine aB rfl (fun c8 => ?_) fun c8 => ?_
 exact absurd rfl c8
 refine au 8 ?_
 refine et ?_
 refine bH [b8, cb] 9 fun hS => ?_
 refine aj 0 8 hS ?_
 refine bQ 8 (ar YK (MV W0 _ q.gb z g hr4 q.a (Fg fr f (cn g.rd q.a)) ha4)) fun hS => ?_
 refine aS ?_
 refine bH [b8] 4 fun hS => ?_
 refine aj 0 4 hS ?_
 refine aS ?_
 exact aZ ax
end
section
open Go.RowKit
set_option synthInstance.maxSize 1000
set_option synthInstance.maxHeartbeats 400000
theorem b7B (cb : Nat) (q : Cw) (hq : CwOk q) (cf : Cfg) (ps pb db qb tb : Nat) (h : CfK W0 cf) (hn : cf.nl.length ≤ 4) (hl : cf.nl.length ≤ q.a) : sQ W0 143 ([pV cb] ++ [] ++ []) (pt cb (cy q) :: pt q.hb (cY cf ps pb db qb tb) :: R) (.tuple #[iQ 3, wV 0]) (pt cb (cy q) :: pt q.hb (cY cf ps pb db qb tb) :: R) := by
 simp only [Qaq]
 refine am YL ntmps143 ?_
 refine eS (dj Db (AA cb q hq cf ps pb db qb tb h hn)) ?_
 rw [vz, Qab aq]
 refine aw ?_
 refine dT (cP yU) fun b4 => ?_
 refine fw 13 aR ?_
 refine ap (fun c2 => ?_) fun c2 => ?_
 exact aZ ax
 exact absurd cl c2
theorem b7C (cb : Nat) (q : Cw) (hq : CwOk q) (cf : Cfg) (ps pb db qb tb : Nat) (h : CfK W0 cf) (hn : cf.nl.length ≤ 4) (hl : q.a < cf.nl.length) (hi : (eB cf q.a).1 ≠ q.i) : sQ W0 143 ([pV cb] ++ [] ++ []) (pt cb (cy q) :: pt q.hb (cY cf ps pb db qb tb) :: R) (.tuple #[iQ 4, wV 0]) (pt cb (cy q) :: pt q.hb (cY cf ps pb db qb tb) :: R) := by
 simp only [Qaq]
 refine am YL ntmps143 ?_
 refine eS (dj Db (AA cb q hq cf ps pb db qb tb h hn)) ?_
 rw [vz, Qad hl]
 refine aw ?_
 refine dT (cP yU) fun b4 => ?_
 refine aJ aR ?_
 refine ap (fun c2 => ?_) fun c2 => ?_
 exact absurd rfl c2
 refine bH [b4, cb] 9 fun hS => ?_
 refine aj 0 9 hS ?_
 refine aS ?_
 refine ap (fun c4 => ?_) fun c4 => ?_
 exact aZ ax
 exact absurd hi sm
theorem b7D W0 R cb q(hq:CwOk q)cf ps pb db qb tb(h:CfK W0 cf)(hn:cf.nl.length≤4)(hl:q.a<cf.nl.length)(hi:(eB cf q.a).1=q.i)fr(hF:bD fr)(f:Nat)(hf0:jK cf q.a=f)(hf:f<fr.length)
    lg(hla:q.la=some ⟨lg,0,none⟩)(gbs:List Nat)sp(hgl:gbs.length=q.ln)(j:Nat)(hj:(eB cf q.a).2=j)b2(hj2:gbs[j]?=some b2)z2 g2(hb:g2.ln<4000000000000000000):
    bE Tryz.prog W0 143 ([pV cb]++[]++[]) (pt cb (cy q)::pt q.hb (cY cf ps pb db qb tb)::pt lg (ae (gbs.map pV++sp) 49)::aH ps fr::pt b2 (bN z2 g2)::ew z2.x.v (g2.ls,g2.ln)::R)
      (λv B=>v=.tuple #[iQ 0,wV 0]/\B=pt cb (cy q)::pt q.hb (cY cf ps pb db qb tb)::pt lg (ae (gbs.map pV++sp) 49)::aH ps (yD fr f q.b)::pt b2 (bN z2 g2)::ew z2.x.v (jb g2.ls g2.ln 4,gz g2.ls g2.ln 4)::R):=by
 simp only[Qaq]
 have ha:=hq.a
 have hbw:=hq.b
 have hjl:j<gbs.length:=by
  rcases Qaz j gbs.length with e|e
  exact e
  rw[QaU e]at hj2;cases hj2
 have hcell:(gbs.map pV++sp)[j*1]?=some (pV b2):=by
  rw[QaP,QaO (by rw[QaD];exact hjl),QbL,hj2];rfl
 refine am YL ntmps143 ?_
 refine eS (dj Db (AA cb q hq cf ps pb db qb tb h hn)) ?_
 rw[vz,Qad hl,hf0]
 refine aw (dT (cP yU) λb4=>?_)
 refine aJ aR (ap (λc2=>?_) λc2=>?_)
 exact absurd rfl c2
 refine bH [b4,cb] 9 λhS=>?_
 refine aj 0 9 hS ?_
 refine aS ?_
 apply ap<;>intro c4
 exact absurd hi c4
 refine dY [(cb,0,_),(q.hb,0,_)] 16 mixed rfl (bj (bj bI)) (λhS=>?_)
 refine aj 0 12 hS ?_
 refine aE 12 hS (dW fP aX rfl rfl (i:=1) rfl cl dg) ?_
 refine aj 13 1 hS ?_
 refine bQ 14 (ar call229 (b7u ps fr f q.b hF hf hbw)) λhS=>?_
 refine aj 15 1 hS ?_
 refine aS (bH [b4,cb] 8 λhS=>?_)
 refine aj 0 8 hS ?_
 refine aS (aB rfl (λc7=>?_) λc7=>?_)
 refine bH [cb,b4,lg] 10 λhS=>?_
 refine aj 0 6 hS ?_
 refine aE 6 hS (g7 vI qP rfl hla rfl hj aq dg) ?_
 refine aE 7 hS (aY (d6 (k:=2) rfl hcell)) ?_
 refine bQ 8 (ar uE (t7 W0 _ b2 z2 g2)) λhS=>?_
 refine co 9 (ar vM (ui z2.x.v g2.ls g2.ln 4 hb)) ?_;clear hS
 rintro _ B_ ⟨rfl,hB_⟩
 subst hB_
 rw[Qad (show dR 4=true by decide),Qad (show dR 4=true by decide),show Int.toNat 4=4 from rfl]
 refine⟨aW,λhS=>?_⟩
 exact aS (aZ ax)
 omega
end
section
open Go.RowKit
set_option synthInstance.maxSize 1000
set_option synthInstance.maxHeartbeats 400000
def jd(n:Nat):FuncId:=if n=0 then 238 else if n=1 then 239 else if n=2\/n=3 then 240 else if n=4 then 241 else if n=5 then 242
  else if n=6 then 243 else if n=10 then 244 else if n=11 then 245 else if n=12 then 246 else if n=15 then 247 else 248
def k7(n:Nat):FuncId:=if n=7 then 142 else if n=8 then 143 else if n=9 then 144 else if n=13 then 145 else if n=14 then 146 else jd n
theorem b7E (cb : Nat) (q : Cw) : sQ W0 147 [pV cb] (pt cb (cy q) :: R) (.func (.func (jd q.n)) #[pV cb] #[]) (pt cb (cy q) :: R) := by
 refine iW func147 ntmps147 rfl rfl ?_
 refine aG (aM (aa rfl (aU rfl) (aI (aA (aG (aG (aM (aa rfl (aV rfl) (aa rfl (fJ rfl) ?_)))))))))
 refine aa rfl (bT rfl lX rfl mX rfl dg) ?_
 refine aa rfl (bT rfl nz rfl aX rfl dg) ?_
 refine aa rfl (bO jP rfl (aO rfl)) ?_
 refine aI (aA (jR (aG (aM (aa rfl (gL rfl rfl) (aa rfl (aU rfl) (aI (aA ?_))))))))
 refine aB rfl (fun c2 => ?_) fun c2 => ?_
 · refine au 10 ?_
   refine ag ?_
   refine aP ?_
   refine Qak (fun x => Value.func (.func x) #[pV cb] #[]) (?_ : _ = jd q.n)
   rw [jd]
   repeat first | rw [Qad (by omega)] | rw [Qab (by omega)]
 refine aG (aM (aa rfl (gL rfl rfl) (aa rfl (aU rfl) (aI (aA ?_)))))
 refine aB rfl (fun c4 => ?_) fun c4 => ?_
 · refine au 10 ?_
   refine ag ?_
   refine aP ?_
   refine Qak (fun x => Value.func (.func x) #[pV cb] #[]) (?_ : _ = jd q.n)
   rw [jd]
   repeat first | rw [Qad (by omega)] | rw [Qab (by omega)]
 refine aG (aG (aM (aa rfl (gL rfl rfl) (aa rfl (aU rfl) (aI (aA ?_))))))
 refine aB rfl (fun c6 => ?_) fun c6 => ?_
 · refine au 13 ?_
   refine ag ?_
   refine aP ?_
   refine Qak (fun x => Value.func (.func x) #[pV cb] #[]) (?_ : _ = jd q.n)
   rw [jd]
   repeat first | rw [Qad (by omega)] | rw [Qab (by omega)]
 refine aM (aa rfl (gL rfl rfl) (aa rfl (aU rfl) (aI (aA ?_))))
 refine aB rfl (fun c7 => ?_) fun c7 => ?_
 · refine au 10 ?_
   refine ag ?_
   refine aP ?_
   refine Qak (fun x => Value.func (.func x) #[pV cb] #[]) (?_ : _ = jd q.n)
   rw [jd]
   repeat first | rw [Qad (by omega)] | rw [Qab (by omega)]
 refine aG (aM (aa rfl (gL rfl rfl) (aa rfl (aU rfl) (aI (aA ?_)))))
 refine aB rfl (fun c9 => ?_) fun c9 => ?_
 · refine au 10 ?_
   refine ag ?_
   refine aP ?_
   refine Qak (fun x => Value.func (.func x) #[pV cb] #[]) (?_ : _ = jd q.n)
   rw [jd]
   repeat first | rw [Qad (by omega)] | rw [Qab (by omega)]
 refine aG (aM (aa rfl (gL rfl rfl) (aa rfl (aU rfl) (aI (aA ?_)))))
 refine aB rfl (fun c11 => ?_) fun c11 => ?_
 · refine au 10 ?_
   refine ag ?_
   refine aP ?_
   refine Qak (fun x => Value.func (.func x) #[pV cb] #[]) (?_ : _ = jd q.n)
   rw [jd]
   repeat first | rw [Qad (by omega)] | rw [Qab (by omega)]
 refine aG (aM (aa rfl (gL rfl rfl) (aa rfl (aU rfl) (aI (aA ?_)))))
 refine aB rfl (fun c13 => ?_) fun c13 => ?_
 · refine au 10 ?_
   refine ag ?_
   refine aP ?_
   refine Qak (fun x => Value.func (.func x) #[pV cb] #[]) (?_ : _ = jd q.n)
   rw [jd]
   repeat first | rw [Qad (by omega)] | rw [Qab (by omega)]
 refine aG (aM (aa rfl (gL rfl rfl) (aa rfl (aU rfl) (aI (aA ?_)))))
 refine aB rfl (fun c15 => ?_) fun c15 => ?_
 · refine au 10 ?_
   refine ag ?_
   refine aP ?_
   refine Qak (fun x => Value.func (.func x) #[pV cb] #[]) (?_ : _ = jd q.n)
   rw [jd]
   repeat first | rw [Qad (by omega)] | rw [Qab (by omega)]
 refine aG (aM (aa rfl (gL rfl rfl) (aa rfl (aU rfl) (aI (aA ?_)))))
 refine aB rfl (fun c17 => ?_) fun c17 => ?_
 · refine au 10 ?_
   refine ag ?_
   refine aP ?_
   refine Qak (fun x => Value.func (.func x) #[pV cb] #[]) (?_ : _ = jd q.n)
   rw [jd]
   repeat first | rw [Qad (by omega)] | rw [Qab (by omega)]
 refine aG (aM (aa rfl (gL rfl rfl) (aa rfl (aU rfl) (aI (aA ?_)))))
 refine aB rfl (fun c19 => ?_) fun c19 => ?_
 · refine au 10 ?_
   refine ag ?_
   refine aP ?_
   refine Qak (fun x => Value.func (.func x) #[pV cb] #[]) (?_ : _ = jd q.n)
   rw [jd]
   repeat first | rw [Qad (by omega)] | rw [Qab (by omega)]
 refine aG (aM (aa rfl (gL rfl rfl) (aa rfl (aU rfl) (aI (aA ?_)))))
 refine aB rfl (fun c21 => ?_) fun c21 => ?_
 · refine au 10 ?_
   refine ag ?_
   refine aP ?_
   refine Qak (fun x => Value.func (.func x) #[pV cb] #[]) (?_ : _ = jd q.n)
   rw [jd]
   repeat first | rw [Qad (by omega)] | rw [Qab (by omega)]
 refine aw ?_
 refine ag ?_
 refine aP ?_
 refine Qak (fun x => Value.func (.func x) #[pV cb] #[]) (?_ : _ = jd q.n)
 rw [jd]
 repeat first | rw [Qad (by omega)] | rw [Qab (by omega)]
theorem b7F (cb : Nat) (q : Cw) : sQ W0 76 [pV cb] (pt cb (cy q) :: R) (.func (.func (k7 q.n)) #[pV cb] #[]) (pt cb (cy q) :: R) := by
 refine iW func76 ntmps76 rfl rfl ?_
 refine aG (aM (aa rfl (aU rfl) (aI (aA (aG (aG (aM (aa rfl (aV rfl) (aa rfl (fJ rfl) ?_)))))))))
 refine aa rfl (bT rfl lX rfl mX rfl dg) ?_
 refine aa rfl (bT rfl nz rfl aX rfl dg) ?_
 refine aa rfl (bO jP rfl (aO rfl)) ?_
 refine aI (aA (jR (aG (aM (aa rfl (gL rfl rfl) (aa rfl (aU rfl) (aI (aA ?_))))))))
 refine aB rfl (fun c2 => ?_) fun c2 => ?_
 · refine au 10 ?_
   refine ag ?_
   refine aP ?_
   refine Qak (fun x => Value.func (.func x) #[pV cb] #[]) (?_ : _ = k7 q.n)
   rw [k7]
   repeat first | rw [Qad (by omega)] | rw [Qab (by omega)]
 refine aG (aM (aa rfl (gL rfl rfl) (aa rfl (aU rfl) (aI (aA ?_)))))
 refine aB rfl (fun c4 => ?_) fun c4 => ?_
 · refine au 10 ?_
   refine ag ?_
   refine aP ?_
   refine Qak (fun x => Value.func (.func x) #[pV cb] #[]) (?_ : _ = k7 q.n)
   rw [k7]
   repeat first | rw [Qad (by omega)] | rw [Qab (by omega)]
 refine aG (aM (aa rfl (gL rfl rfl) (aa rfl (aU rfl) (aI (aA ?_)))))
 refine aB rfl (fun c6 => ?_) fun c6 => ?_
 · refine au 10 ?_
   refine ag ?_
   refine aP ?_
   refine Qak (fun x => Value.func (.func x) #[pV cb] #[]) (?_ : _ = k7 q.n)
   rw [k7]
   repeat first | rw [Qad (by omega)] | rw [Qab (by omega)]
 refine aG (aM (aa rfl (gL rfl rfl) (aa rfl (aU rfl) (aI (aA ?_)))))
 refine aB rfl (fun c8 => ?_) fun c8 => ?_
 · refine au 10 ?_
   refine ag ?_
   refine aP ?_
   refine Qak (fun x => Value.func (.func x) #[pV cb] #[]) (?_ : _ = k7 q.n)
   rw [k7]
   repeat first | rw [Qad (by omega)] | rw [Qab (by omega)]
 refine aG (aM (aa rfl (gL rfl rfl) (aa rfl (aU rfl) (aI (aA ?_)))))
 refine aB rfl (fun c10 => ?_) fun c10 => ?_
 · refine au 10 ?_
   refine ag ?_
   refine aP ?_
   refine Qak (fun x => Value.func (.func x) #[pV cb] #[]) (?_ : _ = k7 q.n)
   rw [k7]
   repeat first | rw [Qad (by omega)] | rw [Qab (by omega)]
 refine aw ?_
 refine ao (ar call147 (b7E cb q)) ?_
 refine ag ?_
 refine aP ?_
 refine Qak (fun x => Value.func (.func x) #[pV cb] #[]) (?_ : _ = k7 q.n)
 rw [k7]
 repeat first | rw [Qad (by omega)] | rw [Qab (by omega)]
end
section
open Go.RowKit
theorem b7G (gb : Nat) (z : Gz) (g : Gu) (hl : g.c.rl.length = 16) : sQ W0 75 [pV gb] (pt gb (bN z g) :: pt z.x.r (eJ g.c.rl g.c.pc) :: R) (.tuple #[wV (cn g.c.rl 1), .agg #[wV (cn g.c.rl 2), wV (cn g.c.rl 3), wV (cn g.c.rl 4), wV (cn g.c.rl 5)]]) (pt gb (bN z g) :: pt z.x.r (eJ g.c.rl g.c.pc) :: R) := by
 obtain ⟨⟨rl, pc, cs⟩, qa, qb, qc, ls, ln, tm, hd, rd, ck, es, bd⟩ := g
 dsimp only at hl ⊢
 obtain ⟨a0, a1, a2, a3, a4, a5, a6, a7, a8, a9, a10, a11, a12, a13, a14, a15, rfl⟩ := b2s hl
 refine iW func75 ntmps75 rfl rfl ?_
 refine aG (aM (aa rfl (aU rfl) ?_))
 refine dT (cP c2w) fun b3 => ?_
 refine aI (aA (aG (aM (aa rfl (aV rfl) (eS (dj call141 (b6y W0 _ gb z ⟨⟨[a0, a1, a2, a3, a4, a5, a6, a7, a8, a9, a10, a11, a12, a13, a14, a15], pc, cs⟩, qa, qb, qc, ls, ln, tm, hd, rd, ck, es, bd⟩ hl)) ?_)))))
 refine dT (cP XO) fun br => ?_
 refine eM (eN yN rfl rfl rfl rfl rfl) ?_
 rintro _ _ rfl
 refine aI (aA (aG ?_))
 refine bH [br] 7 fun hS => ?_
 refine aE 0 hS (dW XD aX rfl rfl (i := 1) rfl cl dg) ?_
 refine cI 1 rfl rfl rfl hS (bO jP rfl (d6 (k := 0) rfl rfl)) ?_
 refine aE 2 hS (a9z (i := 2) (h := 6) (o' := 2) XD aX rfl rfl rfl rfl rfl cl cl cl rfl) ?_
 refine aE 3 hS (a9A fP rfl cl) ?_
 refine aE 4 hS (cV (a9B (n := 4) (j := 2) (i6 (k := 0) rfl) rfl)) ?_
 refine aj 5 1 hS ?_
 refine cp 6 aR fun hS => ?_
 refine aS ?_
 exact bJ (.cons (bA rfl) (.cons (bX isAgg90 vH rfl rfl) .nil)) ax
end
section
open Go.RowKit
set_option synthInstance.maxSize 1000
set_option synthInstance.maxHeartbeats 400000
section
variable(W0:World)(R:List HP)(cb:Nat)(q:Cw)(z:Gz)(g:Gu)
theorem VJ(c:q.n≠2)(d:q.n≠3):sQ W0 78 [pV cb] (pt cb (cy q)::R) (.tuple #[]) (pt cb (cy q)::R):=by refine iW YM ntmps78 Z Z ?_;refine aG (aM (aa Z (aV Z) (aa Z (fJ Z) ?_)));refine aa Z (bT Z lX Z mX Z dg) ?_;refine aa Z (bT Z nz Z aX Z dg) ?_;refine aa Z (bO jP Z (aO Z)) ?_;refine aI (aA (jR (aG (aM (aa Z (gL Z Z) (aa Z (aU Z) (aI (aA ?_))))))));apply aB Z<;>intro a;omega;refine aG (aM (aa Z (gL Z Z) (aa Z (aU Z) (aI (aA ?_)))));apply aB Z<;>intro b;omega;refine aw (bP (.inr Z) .nil ?_);exact ax
theorem b7H(e:q.n=2)(a:g.clock<1000000000)(b:g.c.rl.length=16):sQ W0 78 [pV cb] (pt cb (cy q)::gN q.gb z g R) (.tuple #[]) (pt cb (cy q)::gN q.gb z (t6 (qG g) 4 0 0 g.c.pc) R):=by refine iW YM ntmps78 Z Z ?_;refine aG (aM (aa Z (aV Z) (aa Z (fJ Z) ?_)));refine aa Z (bT Z lX Z mX Z dg) ?_;refine aa Z (bT Z nz Z aX Z dg) ?_;refine aa Z (bO jP Z (aO Z)) ?_;refine aI (aA (jR (aG (aM (aa Z (gL Z Z) (aa Z (aU Z) (aI (aA ?_))))))));apply aB Z<;>intro d;refine au 6 (ao (dF call150 (b6v W0 _ q.gb z g a b)) ?_);refine bP (.inr Z) .nil ?_;exact ax;omega
theorem b7I(h2:q.n=3)(hc:CfK W0 z.c)(hr:rt z.c=true)(hi:z.i<z.c.gl.length)(hk:g.clock<1000000000)x(h:GMem z.i x)(h0:0<x.po.length)(n:Nat)(hn:(cC z.c z.i).2.1=n)(hpar:n≤rQ z.i x.po)a cap ws(hw:z.wv=.slice a ws.length cap)(hs:∀A,Ent A R->bZ (aQ W0 A) a 1 pJ ws)(hb:∀y∈ws,y<4294967296)(hwl:ws.length≤128):sP W0 78 [pV cb] (pt cb (cy q)::pt q.gb (bN z g)::ie z.tr g.es::cR z.x.m ⟨z.pv,z.ps,z.pm,g.bud,x.fr,x.pg⟩::cz z.pb (z.ps,x.po)::aH z.ps x.fr::R) (λv B=>∃y q0 q1 q2,v=.tuple #[]/\B=pt cb (cy q)::pt q.gb (bN { z with x:=y,q0:=q0,q1:=q1,q2:=q2 } (oe g))::ie z.tr (oe g).es::cz z.pb (z.ps,(jN z.i n ws x).po)::aH z.ps (jN z.i n ws x).fr::Il y q0 q1 q2 z.i z.pv z.ps z.pm (jN z.i n ws x).fr (jN z.i n ws x).pg R):=by refine iW YM ntmps78 Z Z ?_;refine aG (aM (aa Z (aV Z) (aa Z (fJ Z) ?_)));refine aa Z (bT Z lX Z mX Z dg) ?_;refine aa Z (bT Z nz Z aX Z dg) ?_;refine aa Z (bO jP Z (aO Z)) ?_;refine aI (aA (jR (aG (aM (aa Z (gL Z Z) (aa Z (aU Z) (aI (aA ?_))))))));apply aB Z<;>intro d;omega;refine aG (aM (aa Z (gL Z Z) (aa Z (aU Z) (aI (aA ?_)))));apply aB Z<;>intro e;refine au 6 (aF Z (PI call151 Z (Vr W0 _ q.gb z g hc hr hi hk x h h0 n hn hpar a cap ws hw (λA f=>hs A (f.trans inferInstance)) hb hwl)) ?_);rintro _ j ⟨y,q0,q1,q2,rfl,b⟩;subst b;refine aw (bP (.inr Z) .nil ?_);exact⟨_,⟨y,q0,q1,q2,Z,Z⟩,IO⟩;omega
end
end
section
open Go.RowKit
set_option synthInstance.maxSize 1000
set_option synthInstance.maxHeartbeats 400000
def un(e w:Nat):Nat:=if e≠0/\e≠11 then 0 else w
@[reducible] def wX(gb i hb lg ln lc:Nat)(g:Gu):Cw:=⟨gb,i,cn g.c.rl 1,cn g.c.rl 2,cn g.c.rl 3,cn g.c.rl 4,cn g.c.rl 5,0,hb,some ⟨lg,0,none⟩,ln,lc⟩
theorem N4{a:List Nat}{b:List Value}{g:Nat}(h:a[i]?=some g):(a.map pV++b)[i*1]?=some (pV g):=by rw[QaP,QaO (by rw[QaD];exact(QbH.1 h).1),QbL,h];rfl
theorem VK W0 hb cf ps pb db qb tb a cap(gbs:List Nat)i gb(hg:gbs[i]?=some gb)(hi4:gbs.length≤4)z g(hl:g.c.rl.length=16)X
    (Q:Nat->Nat->Int->Gu->List HP->Prop)(hQ:∀{e w wk g2 Y},Q e w wk g2 Y->g2.clock<1000000000/\g2.c.rl.length=16/\e<1000)(Z:List HP->Int->Int->Prop)
    (hcall:∀args w,(callFunc (k7 (cn g.c.rl 1)) args).run Tryz.prog w=.ok (.enter (k7 (cn g.c.rl 1)) args) w)
    (hDo:∀cb lg sp,bE Tryz.prog W0 (k7 (cn g.c.rl 1)) ([pV cb]++[]++[]) (pt cb (cy (wX gb i hb lg gbs.length cap g))::pt hb (cY cf ps pb db qb tb)::pt lg (ae (gbs.map pV++sp) 49)::gN gb z g X)
      (λv B=>∃e w wk g2 Y,Q e w wk g2 Y/\v=.tuple #[iQ e,wV w]/\B=pt cb (cy { wX gb i hb lg gbs.length cap g with w:=wk })::pt hb (cY cf ps pb db qb tb)::pt lg (ae (gbs.map pV++sp) 49)::gN gb z g2 Y))
    (hEnd:∀{e w wk g2 Y},Q e w wk g2 Y->∀cb (q:Cw),q.gb=gb->q.n=cn g.c.rl 1->∀lg O1 O2,bE Tryz.prog W0 78 [pV cb] (pt cb (cy q)::pt hb O1::pt lg O2::gN gb z (Av g2 e (un e w)) Y) (λv B=>v=.tuple #[]/\∃V,Z V e wk/\B=pt cb (cy q)::pt hb O1::pt lg O2::V)):
    bE Tryz.prog W0 32 [pV hb,.slice a gbs.length cap,iQ i] (pt hb (cY cf ps pb db qb tb)::osl 49 1 (.slice a gbs.length cap) (gbs.map pV)::gN gb z g X)
      (λv B=>∃e wk V,Z V e wk/\v=.tuple #[iQ e,iQ wk]/\B=pt hb (cY cf ps pb db qb tb)::osl 49 1 (.slice a gbs.length cap) (gbs.map pV)::V):=by
 have hi:=(QbH.1 hg).1
 refine jj 8 func32 ntmps32 ?_
 refine ix (r:=osl 49 1) (b:=.slice a gbs.length cap) (qf (λh1 h2=>by have:=Qak List.length h2;rw[QaD,Qca]at this;omega) λlg nn c2 sp h1 h2 h3 h4 h5=>?_)
 cases h1
 refine aw (cW 1 (ar D7 (Aa hb cf ps pb db qb tb)) ?_)
 apply d7 rfl rfl rfl<;>intro g1_3
 exact absurd g1_3 cl
 refine aw (d7 rfl rfl rfl (λg1_7=>?_) λg1_7=>?_)
 omega
 refine aw (d7 rfl rfl rfl (λg1_13=>?_) λg1_13=>?_)
 omega
 refine aw (ac (cu hi) ?_)
 refine jU 5 (aY (aO (N4 hg))) ?_
 apply aB rfl<;>intro c1
 cases c1
 refine aw (aa rfl (cu hi) ?_)
 refine ac (aY (aO (N4 hg))) ?_
 refine ao (dj call75 (b7G gb z g hl)) ?_
 refine bU λb9=>?_
 refine aJ aR ?_
 refine bH [lg,b9] 13 λhS=>?_
 refine aj 0 2 hS ?_
 refine aE 2 hS (cu hi) ?_
 refine aE 3 hS (aY (d6 (k:=0) rfl (N4 hg))) ?_
 refine aj 4 3 hS ?_
 refine aE 7 hS (eH nz zeroValue165 (aT qP (aT bu (aT aX (aT vH (aT bu eG))))) (cJ rfl qP rfl rfl (Qaa rfl) SetL.eq (cJ rfl bu rfl rfl (Qaa rfl) SetL.eq (cJ rfl aX rfl rfl (Qaa rfl) SetL.eq (iU rfl vH rfl rfl (Qaa rfl) SetRL.eq eE))))) ?_
 refine aj 8 2 hS ?_
 refine aE 10 hS (eH lX zeroValue167 (aT mX (aT AY (aT Jc eG))) (iU rfl mX rfl rfl (Qaa rfl) SetRL.eq (cJ rfl AY rfl rfl (Qaa rfl) SetL.eq (cJ rfl Jc rfl rfl (Qaa rfl) SetL.eq eE)))) ?_
 refine co 11 (l8 rfl) ?_;clear hS
 rintro _ _ ⟨cb,rfl,rfl⟩
 refine⟨aW,λhS=>?_⟩
 refine aj 12 1 hS ?_
 refine aS (py (b:=cb) (o':=cy (wX gb i hb lg gbs.length cap g)) rfl ?_)
 refine aw (ao (ar call76 (b7F cb (wX gb i hb lg gbs.length cap g))) ?_)
 refine gK (B:=pt cb (cy (wX gb i hb lg gbs.length cap g))::pt hb (cY cf ps pb db qb tb)::pt lg (ae (gbs.map pV++sp) 49)::gN gb z g X) inferInstance ?_
 refine aw (aF rfl (iV (us:=[pV cb]) (cs:=[]) rfl hcall rfl (hDo cb lg sp)) ?_)
 rintro _ B_ ⟨e,w,wk,g2,Y,hq2,rfl,hB_⟩
 subst hB_
 obtain⟨hk2,hl2,he2⟩:=hQ hq2
 refine au 7 (fA (λw':Nat=>w'=un e w) (λw'=>[(10,pV cb),(12,iQ e),(13,wV w')]) (λ_=>pt cb (cy { wX gb i hb lg gbs.length cap g with w:=wk })::pt hb (cY cf ps pb db qb tb)::pt lg (ae (gbs.map pV++sp) 49)::gN gb z g2 Y) ?_ ?_)
 refine au 5 ?_
 apply e9<;>intro g7_3
 apply ap<;>intro c7
 refine cZ 0 ?_
 rw[un,Qad aq]
 refine cZ w ?_
 rw[un,Qab aq]
 refine cZ w ?_
 rw[un,Qab aq]
 intro w' hw'
 refine aw (ao (dF call77 (b6x W0 _ gb z g2 hk2 hl2 e w' aq)) ?_)
 subst hw'
 refine gK (B:=pt cb (cy { wX gb i hb lg gbs.length cap g with w:=wk })::pt hb (cY cf ps pb db qb tb)::pt lg (ae (gbs.map pV++sp) 49)::gN gb z (Av g2 e (un e w)) Y) inferInstance ?_
 refine aw (aF rfl (aK call78 (hEnd hq2 cb _ rfl rfl lg _ _)) ?_)
 rintro _ B_ ⟨rfl,V,hV,hB_⟩
 subst hB_
 refine aw (bH [cb] 8 λhS=>?_)
 refine aj 0 8 hS ?_
 refine aS (aZ ⟨_,⟨e,wk,V,hV,rfl,rfl⟩,?_⟩)
 have en:=jG (E:=49) (sz:=1) (g:=lg) (n:=gbs.length) (cap:=cap) (xs:=gbs.map pV) (sp:=sp) (A:=pt lg (ae (gbs.map pV++sp) 49)::V) (B:=V) h2 h3 (by rw[QaD];omega) h5
 exact(inferInstance:Ent _ (pt hb (cY cf ps pb db qb tb)::pt lg (ae (gbs.map pV++sp) 49)::V)).trans (Ent.cons en)
end
section
open Go.RowKit
set_option synthInstance.maxSize 1000
set_option synthInstance.maxHeartbeats 400000
theorem VL{tx pg port len r}:∀(k:Nat) {x:SvS},SvOk len r x->(jL tx pg port k x).c≤x.c+k/\(jL tx pg port k x).n≤x.n+9*k/\(jL tx pg port k x).b≤x.b+36*k
 |0,x,h=>⟨Qai _,Qai _,Qai _⟩
 |k+1,x,h=>by
  obtain⟨d,e,f,g⟩:=LR (tx:=tx) (pg:=pg) (port:=port) h;rw[jL];split;obtain⟨a,b,c⟩:=VL (tx:=tx) (pg:=pg) (port:=port) k d;omega;omega
theorem VM{pg who len r}:∀(k:Nat) {x:SbS},SbOk len r x->(kI pg who k x).c≤x.c+k/\(kI pg who k x).n≤x.n+9*k/\(kI pg who k x).b≤x.b+512*k
 |0,x,h=>⟨Qai _,Qai _,Qai _⟩
 |k+1,x,h=>by
  obtain⟨d,e,f,g⟩:=LX (pg:=pg) (who:=who) h;rw[kI];split;obtain⟨a,b,c⟩:=VM (pg:=pg) (who:=who) k d;omega;omega
theorem yF{fr}(d:bD fr)pg tx port{s}(a:QL s){q}(e:jp q):(fM tx fr pg port s q).c≤8/\(fM tx fr pg port s q).n≤72/\(fM tx fr pg port s q).b≤288:=by have h:(fM tx fr pg port s q).c≤0+s.r.n.toNat/\(fM tx fr pg port s q).n≤0+9*s.r.n.toNat/\(fM tx fr pg port s q).b≤0+36*s.r.n.toNat:=VL (tx:=tx) (pg:=pg) (port:=port) s.r.n.toNat (x:=⟨fr,0,s,q,0,0,0,0⟩) (len:=fr.length) (r:=s.r) ⟨d,Z,aag,a.ok,Z,e⟩;have f:=a.n;exact⟨aq,aq,aq⟩
theorem N5{fr}(d:bD fr)pg who{s}(a:QL s){x}(e:DkOk x):(ml fr pg who s x).c≤8/\(ml fr pg who s x).n≤72/\(ml fr pg who s x).b≤4096:=by have h:(ml fr pg who s x).c≤0+s.r.n.toNat/\(ml fr pg who s x).n≤0+9*s.r.n.toNat/\(ml fr pg who s x).b≤0+512*s.r.n.toNat:=VM (pg:=pg) (who:=who) s.r.n.toNat (x:=⟨fr,0,s,x,0,0,0,0⟩) (len:=fr.length) (r:=s.r) ⟨d,Z,aag,a.ok,Z,e⟩;have f:=a.n;exact⟨aq,aq,aq⟩
section
variable(W0:World)(R:List HP)(cb:Nat)(q:Cw)(hq:CwOk q)(z:Gz)(g:Gu)(cf:Cfg)(ps pb db qb tb:Nat)(h:CfK W0 cf)(hb:g.ln<4000000000000000000)(fr:List az)(hF:bD fr)(pg:List Pl)(s:QS)(hs:QL s)
include hq h hb hF hs
theorem b7J(k:q.a=1)(l:du cf q.i≠none)u(j:jp u):bE Tryz.prog W0 142 ([pV cb]++[]++[])
    (pt cb (cy q)::pt q.hb (cY cf ps pb db qb tb)::pt q.gb (bN z g)::ew z.x.v (g.ls,g.ln)::pt z.q1 (qO true s)::cR z.x.m ⟨z.pv,z.ps,z.pm,g.bud,fr,pg⟩::aH z.ps fr::dC qb u::R)
    (λv B=>∃y,rR y (fM true fr pg (dP (du cf q.i)) s u)/\SvOk fr.length s.r y/\v=yC y.c y.w/\B=pt cb (cy { q with w:=(y.n+y.b:Nat) })::pt q.hb (cY cf ps pb db qb tb)::pt q.gb (bN z g)::ew z.x.v (if 0<y.c then jb g.ls g.ln 2 else g.ls,if 0<y.c then gz g.ls g.ln 2 else g.ln)::pt z.q1 (qO true y.s)::cR z.x.m ⟨z.pv,z.ps,z.pm,g.bud,y.fr,pg⟩::aH z.ps y.fr::dC qb y.ps::R):=by have t:=yF hF pg true (dP (du cf q.i)) hs j;refine ig (B:=pt cb (cy q)::pt q.hb (cY cf ps pb db qb tb)::pt q.gb (bN z g)::ew z.x.v (g.ls,g.ln)::kH 0 (bB [pt z.q1 (qO true s),cR z.x.m ⟨z.pv,z.ps,z.pm,g.bud,fr,pg⟩,aH z.ps fr,dC qb u])::R) (Ent.cons (Ent.cons (Ent.cons (Ent.cons (ke (A:=[_,_,_,_])))))) ?_;refine cF (N3 W0 R cb q hq z g cf ps pb db qb tb h aq (.inr l) hb 2 cl _ (λc n b w D=>∃y,rR y (fM true fr pg (dP (du cf q.i)) s u)/\SvOk fr.length s.r y/\c=y.c/\n=y.n/\b=y.b/\w=y.w/\D=bB [pt z.q1 (qO true y.s),cR z.x.m ⟨z.pv,z.ps,z.pm,g.bud,y.fr,pg⟩,aH z.ps y.fr,dC qb y.ps]) ?_ ?_) λv B d=>?_;rintro c n b w D ⟨y,⟨C,E,F,G,H,I,J⟩,o,rfl,rfl,rfl,rfl,rfl⟩;omega;intro p;refine ig (Ent.cons (Ent.cons (Ent.cons kd))) ?_;refine cF (b7o W0 p cb q z g cf ps pb db qb tb fr pg s hs (dP (du cf q.i)) k u j) λv B d=>?_;obtain⟨y,e,f,rfl,rfl⟩:=d;exact g5;obtain⟨c,n,b,w,D,⟨y,e,f,rfl,rfl,rfl,rfl,rfl⟩,rfl,rfl⟩:=d;exact sn
theorem b7K(k:q.a=2)(l:du cf q.i≠none)u(j:jp u):bE Tryz.prog W0 142 ([pV cb]++[]++[])
    (pt cb (cy q)::pt q.hb (cY cf ps pb db qb tb)::pt q.gb (bN z g)::ew z.x.v (g.ls,g.ln)::pt z.q2 (qO true s)::cR z.x.m ⟨z.pv,z.ps,z.pm,g.bud,fr,pg⟩::aH z.ps fr::dC qb u::R)
    (λv B=>∃y,rR y (fM false fr pg (dP (du cf q.i)) s u)/\SvOk fr.length s.r y/\v=yC y.c y.w/\B=pt cb (cy { q with w:=(y.n+y.b:Nat) })::pt q.hb (cY cf ps pb db qb tb)::pt q.gb (bN z g)::ew z.x.v (if 0<y.c then jb g.ls g.ln 3 else g.ls,if 0<y.c then gz g.ls g.ln 3 else g.ln)::pt z.q2 (qO true y.s)::cR z.x.m ⟨z.pv,z.ps,z.pm,g.bud,y.fr,pg⟩::aH z.ps y.fr::dC qb y.ps::R):=by have t:=yF hF pg false (dP (du cf q.i)) hs j;refine ig (B:=pt cb (cy q)::pt q.hb (cY cf ps pb db qb tb)::pt q.gb (bN z g)::ew z.x.v (g.ls,g.ln)::kH 0 (bB [pt z.q2 (qO true s),cR z.x.m ⟨z.pv,z.ps,z.pm,g.bud,fr,pg⟩,aH z.ps fr,dC qb u])::R) (Ent.cons (Ent.cons (Ent.cons (Ent.cons (ke (A:=[_,_,_,_])))))) ?_;refine cF (N3 W0 R cb q hq z g cf ps pb db qb tb h aq (.inr l) hb 3 cl _ (λc n b w D=>∃y,rR y (fM false fr pg (dP (du cf q.i)) s u)/\SvOk fr.length s.r y/\c=y.c/\n=y.n/\b=y.b/\w=y.w/\D=bB [pt z.q2 (qO true y.s),cR z.x.m ⟨z.pv,z.ps,z.pm,g.bud,y.fr,pg⟩,aH z.ps y.fr,dC qb y.ps]) ?_ ?_) λv B d=>?_;rintro c n b w D ⟨y,⟨C,E,F,G,H,I,J⟩,o,rfl,rfl,rfl,rfl,rfl⟩;omega;intro p;refine ig (Ent.cons (Ent.cons (Ent.cons kd))) ?_;refine cF (b7p W0 p cb q z g cf ps pb db qb tb fr pg s hs (dP (du cf q.i)) k u j) λv B d=>?_;obtain⟨y,e,f,rfl,rfl⟩:=d;exact g5;obtain⟨c,n,b,w,D,⟨y,e,f,rfl,rfl,rfl,rfl,rfl⟩,rfl,rfl⟩:=d;exact sn
theorem b7L(j:q.a=0)x(k:DkOk x)(l:q.i<cf.gl.length):bE Tryz.prog W0 142 ([pV cb]++[]++[])
    (pt cb (cy q)::pt q.hb (cY cf ps pb db qb tb)::pt q.gb (bN z g)::ew z.x.v (g.ls,g.ln)::pt z.q0 (qO true s)::cR z.x.m ⟨z.pv,z.ps,z.pm,g.bud,fr,pg⟩::aH z.ps fr::dQ db x::R)
    (λv B=>∃y,yB y (ml fr pg (cC cf q.i).1 s x)/\SbOk fr.length s.r y/\v=yC y.c y.w/\B=pt cb (cy { q with w:=(y.n+y.b:Nat) })::pt q.hb (cY cf ps pb db qb tb)::pt q.gb (bN z g)::ew z.x.v (if 0<y.c then jb g.ls g.ln 1 else g.ls,if 0<y.c then gz g.ls g.ln 1 else g.ln)::pt z.q0 (qO true y.s)::cR z.x.m ⟨z.pv,z.ps,z.pm,g.bud,y.fr,pg⟩::aH z.ps y.fr::dQ db y.x::R):=by have t:=N5 hF pg (cC cf q.i).1 hs k;refine ig (B:=pt cb (cy q)::pt q.hb (cY cf ps pb db qb tb)::pt q.gb (bN z g)::ew z.x.v (g.ls,g.ln)::kH 0 (bB [pt z.q0 (qO true s),cR z.x.m ⟨z.pv,z.ps,z.pm,g.bud,fr,pg⟩,aH z.ps fr,dQ db x])::R) (Ent.cons (Ent.cons (Ent.cons (Ent.cons (ke (A:=[_,_,_,_])))))) ?_;refine cF (N3 W0 R cb q hq z g cf ps pb db qb tb h aq (.inl j) hb 1 cl _ (λc n b w D=>∃y,yB y (ml fr pg (cC cf q.i).1 s x)/\SbOk fr.length s.r y/\c=y.c/\n=y.n/\b=y.b/\w=y.w/\D=bB [pt z.q0 (qO true y.s),cR z.x.m ⟨z.pv,z.ps,z.pm,g.bud,y.fr,pg⟩,aH z.ps y.fr,dQ db y.x]) ?_ ?_) λv B d=>?_;rintro c n b w D ⟨y,⟨u,C,E,F,G,H,I⟩,o,rfl,rfl,rfl,rfl,rfl⟩;omega;intro p;refine ig (Ent.cons (Ent.cons (Ent.cons kd))) ?_;refine cF (b7q W0 p cb q z g cf ps pb db qb tb fr pg s hs (dP (du cf q.i)) j x k h l hq.i) λv B d=>?_;obtain⟨y,e,f,rfl,rfl⟩:=d;exact g5;obtain⟨c,n,b,w,D,⟨y,e,f,rfl,rfl,rfl,rfl,rfl⟩,rfl,rfl⟩:=d;exact sn
end
end
section
open Go.RowKit
set_option synthInstance.maxSize 1000
set_option synthInstance.maxHeartbeats 400000
theorem b7M (cb : Nat) (q : Cw) (hi : q.i < 4) : sQ W0 238 ([pV cb] ++ [] ++ []) (pt cb (cy q) :: R) (.tuple #[iQ 0, wV q.i]) (pt cb (cy q) :: R) := by
 simp only [Qaq]
 refine am func238 ntmps238 ?_
 refine bH [] 8 fun hS => ?_
 refine aj 0 4 hS ?_
 refine aj 6 1 hS ?_
 refine bQ 4 (dJ (aY (aO rfl))) fun hS => ?_
 refine aE 5 hS (cv (eh aq)) ?_
 refine aj 7 1 hS ?_
 refine aS ?_
 exact aZ ax
theorem b7N n:∀a w,(callFunc (jd n) a).run Tryz.prog w=.ok (.enter (jd n) a) w:=by unfold jd;split;exact call238;split;exact call239;split;exact call240;split;exact call241;split;exact call242;split;exact call243;split;exact call244;split;exact call245;split;exact call246;split;exact call247;exact call248
theorem VN n:∀a w,(callFunc (k7 n) a).run Tryz.prog w=.ok (.enter (k7 n) a) w:=by unfold k7;split;exact call142;split;exact call143;split;exact call144;split;exact call145;split;exact call146;exact b7N n
theorem b7O W0 hb cf ps pb db qb tb a cap(b:List Nat)i gb(s:b[i]?=some gb)(n:b.length≤4)z g(t:g.c.rl.length=16)X
    (Q:Nat->Nat->Int->Gu->List HP->Prop)(u:∀{e w f d Y},Q e w f d Y->d.clock<1000000000/\d.c.rl.length=16/\e<1000)
    (x:cn g.c.rl 1≠2)(y:cn g.c.rl 1≠3)
    (o:∀j k r,bE Tryz.prog W0 (k7 (cn g.c.rl 1)) ([pV j]++[]++[]) (pt j (cy (wX gb i hb k b.length cap g))::pt hb (cY cf ps pb db qb tb)::pt k (ae (b.map pV++r) 49)::gN gb z g X)
      (λv B=>∃e w f d Y,Q e w f d Y/\v=.tuple #[iQ e,wV w]/\B=pt j (cy { wX gb i hb k b.length cap g with w:=f })::pt hb (cY cf ps pb db qb tb)::pt k (ae (b.map pV++r) 49)::gN gb z d Y)):
    bE Tryz.prog W0 32 [pV hb,.slice a b.length cap,iQ i] (pt hb (cY cf ps pb db qb tb)::osl 49 1 (.slice a b.length cap) (b.map pV)::gN gb z g X)
      (λv B=>∃e w f d Y,Q e w f d Y/\v=.tuple #[iQ e,iQ f]/\B=pt hb (cY cf ps pb db qb tb)::osl 49 1 (.slice a b.length cap) (b.map pV)::gN gb z (Av d e (un e w)) Y):=by refine cF (VK W0 hb cf ps pb db qb tb a cap b i gb s n z g t X Q u (λV e f=>∃(h:Nat) (w:Nat) (d:Gu) (Y:List HP),e=h/\Q h w f d Y/\V=gN gb z (Av d h (un h w)) Y) (VN _) o ?_) λv B m=>?_;intro e w f d Y p j q A l k C D;refine cF (VJ W0 _ j q (by rw[l];exact x) (by rw[l];exact y)) λv B m=>?_;exact⟨_,⟨m.1,_,⟨e,w,d,Y,Z,p,Z⟩,Z⟩,by rw[m.2];exact ent_refl⟩;obtain⟨e,f,V,⟨h,w,d,Y,rfl,p,rfl⟩,rfl,rfl⟩:=m;exact⟨_,⟨h,w,f,d,Y,p,Z,Z⟩,ent_refl⟩
end
section
open Go.RowKit
end
section
open Go.RowKit
attribute [local irreducible] dV
end
section
open Go.RowKit
theorem Fh{F:Fence}{tmps:Array Value}{R R':Ending->World->Prop}(hR:∀e w,R e w->R' e w):
    ∀(ds:List Deferred) (u:FrameMode) (w:World),LeavesInM F n P fn tmps R ds u w->LeavesInM F n P fn tmps R' ds u w
 |[],.returning,w,h=>by
  obtain⟨v,h1,h2⟩:=(show ∃v,(results fn tmps).run P w=.ok v w/\R (.returned v) w from h)
  exact⟨v,h1,hR _ _ h2⟩
 |[],.panicking c,w,h=>hR _ _ h
 |[],.run,w,h=>h
 |d::ds,u,w,h=>by
  obtain⟨hu,h⟩:=h;refine⟨hu,?_⟩;rcases h with ⟨r,w',h1,h2,h3⟩|⟨h0,fv,cap,f,args,h1,h2,h3,h4⟩;exact .inl ⟨r,w',h1,h2,Fh hR ds u w' h3⟩;refine .inr ⟨h0,fv,cap,f,args,h1,h2,h3,h4.mono ?_⟩;intro e u' w' he
  cases e with
  |returned v=>exact Fh hR ds _ _ he
  |panicked c=>exact Fh hR ds _ _ he
  |outgrown=>exact hR _ _ he
theorem b7P{o:Oper}{a K K' Q Q'}(hk:∀a w,K a w->K' a w)(hq:∀e a w,Q e a w->Q' e a w):
    ∀{r:Result Next},o.upon P a K Q r->o.upon P a K' Q' r
 | .ok (.value v) w,h=>hk _ _ h
 | .ok .skip w,h=>hk _ _ h
 | .ok (.defer d) w,h=>hk _ _ h
 | .ok (.enter f args) w,h=>Calls.mono (show Calls P f args w _ from h) (by
     intro e w' he
     cases e with
     |returned v=>exact hk _ _ he
     |panicked c=>exact hq _ _ _ he
     |outgrown=>exact Qde he λa h=>Qde h λw h=>⟨a,w,hq _ _ _ h⟩)
 | .ok (.row row args) w,h=>Rows.mono (show Rows P row args w _ from h) (λv w' he=>hk _ _ he)
 | .halt (.panic v) w,h=>hq _ _ _ h
theorem b7Q{o:Oper}{a K K' Q Q'}(hk:∀a w,K a w->K' a w)(hq:∀e a w,Q e a w->Q' e a w):
    ∀{r:Result Next},o.uponIn (FW rd) 0 P a K Q r->o.uponIn (FW rd) 0 P a K' Q' r
 | .ok (.value v) w,h=>hk _ _ h
 | .ok .skip w,h=>hk _ _ h
 | .ok (.defer d) w,h=>hk _ _ h
 | .ok (.enter f args) w,h=>⟨h.1,CallsIn.mono h.2 (by
     intro e w' he
     cases e with
     |returned v=>exact hk _ _ he
     |panicked c=>exact hq _ _ _ he
     |outgrown=>exact Qde he λa h=>Qde h λw h=>⟨a,w,hq _ _ _ h⟩)⟩
 | .ok (.row row args) w,h=>⟨h.1,RowsIn.mono h.2 (λv w' he=>hk _ _ he)⟩
 | .ok (.round l f tmps assign body) w,h=>⟨h.1,RoundIn.mono h.2 (by
     intro e w' he
     cases e with
     |returned v=>exact hk _ _ he
     |panicked c=>exact hq _ _ _ he
     |outgrown=>exact Qde he λa h=>Qde h λw h=>⟨a,w,hq _ _ _ h⟩)⟩
 | .halt (.panic v) w,h=>hq _ _ _ h
theorem IB{Q d:Exit->Act->World->Prop}(b:∀e a w,Q e a w->d e a w):∀(l:List Oper) (a:Act) (w:World),cH rd P ops Q l a w->cH rd P ops d l a w
 |[],a,w,h=>b _ _ _ h
 |o::l,a,w,h=>by
  simp only[cH]at h ⊢;split at h
  rename_i c
  rw[Qad c];rcases h with h|h;exact .inl (b7P (λa w k=>IB b l a w k) b h);exact .inr ⟨h.1,b7Q (λa w k=>IB b l a w k) b h.2⟩
  rename_i c
  rw[Qab c];exact IB b l _ _ h
theorem b7R{W0 w:World}{Post Post':Value->List HP->Prop}(hO:Own W0 w A)(hP:∀v B,Post' v B->∃B',Post v B'/\Ent (B++A) B'):
    ∀(ex:Exit) (a:Act) (w':World),nJ P w fn Post' ex a w'->nJ P W0 fn Post ex a w':=by
 have hR:∀(e:Ending) (w':World),(∃v B,e=.returned v/\Post' v B/\Own w w' B)->∃v B,e=.returned v/\Post v B/\Own W0 w' B:=by
  rintro e w' ⟨v,B,rfl,hp,hO'⟩;obtain⟨B',h1,h2⟩:=hP v B hp;exact⟨v,B',Z,h1,(hO.step hO').ent h2⟩
 intro ex a w' h
 cases ex with
 |normal=>exact Fh hR _ _ _ h
 |ret=>exact Fh hR _ _ _ h
 |exit id=>exact h
 |goto l=>exact h
 |panic c=>exact h
 |outgrown=>exact h
theorem b7S{W0:World}{N:FSz}{l:List Oper}{y:Code}{Post:Value->List HP->Prop}(Post':Value->List HP->Prop){e:bK} 
    (hP:∀v B,Post' v B->∃B',Post v B'/\Ent (B++A) B')(h:∀W,Own W0 W A->aC W N (cH none P ops (Exit.then (y.wpR none P (nJ P W fn Post')) (nJ P W fn Post')) l) e []):
    aC W0 N (cH none P ops (Exit.then (y.wpR none P (nJ P W0 fn Post)) (nJ P W0 fn Post)) l) e A:=by
 intro a w hF hO;have hm:=b7R (P:=P) (fn:=fn) hO hP;refine IB ?_ _ _ _ (h w hO a w hF (Own.refl w));intro ex a' w' hq
 cases ex with
 |normal=>exact Code.wpIn_mono hm hq
 |ret=>exact hm .ret a' w' hq
 |exit id=>exact hm (.exit id) a' w' hq
 |goto l=>exact hm (.goto l) a' w' hq
 |panic c=>exact hm (.panic c) a' w' hq
 |outgrown=>exact hm .outgrown a' w' hq
theorem b7T{rl e w}(h:RlOk rl)(b:e<4294967296)(c:w<4294967296):RlOk (EI rl e w):=by have a:=(h.set 1 e b).set 2 w c;rw[sH,sH,Qab cl,Qab cl]at a;exact a
theorem Fi{a b}(h:CpOk g.c)(d:a<4294967296)(e:b<4294967296):CpOk (gH g a b).2.c:=by unfold gH;split;exact h;exact h.enter d e
theorem wY g a b:(gH g a b).2.bud=g.bud/\(gH g a b).2.clock=g.clock:=by unfold gH;split<;>exact⟨Z,Z⟩
theorem b7U{e:Eff}(h:CpOk g.c)(b:EfOk e)(a:bD fr):CpOk (kY g fr pg e).1.2.c/\bD (kY g fr pg e).2/\(kY g fr pg e).2.length=fr.length/\(kY g fr pg e).1.2.bud≤g.bud+3/\(kY g fr pg e).1.2.clock=g.clock:=by
 unfold kY
 split
 unfold uk
 split
 exact⟨Fi h (fy _) b.addr,a,Z,by rw[(wY _ _ _).1];exact Qai _,(wY _ _ _).2⟩
 refine⟨⟨h.r.set _ _ ?_,b.pc,h.cs⟩,a,Z,Qai _,Z⟩
 split
 exact b6d (F5 a)
 exact F5 a
 split
 unfold ul
 split
 exact⟨Fi h (fy _) b.addr,Vh a,Vi,by rw[(wY _ _ _).1];exact Qai _,(wY _ _ _).2⟩
 exact⟨⟨h.r,b.pc,h.cs⟩,Vh a,Vi,Qai _,Z⟩
 split
 exact⟨Fi h (by have:=b.cause;omega) b.tval,a,Z,by rw[(wY _ _ _).1];omega,(wY _ _ _).2⟩
 split; · exact⟨⟨h.r,b.pc,h.cs⟩,a,Z,by show g.bud≤_;omega,Z⟩
 split; · exact⟨⟨h.r,b.pc,h.cs⟩,a,Z,by show g.bud≤_;omega,Z⟩
 split; · exact⟨h,a,Z,by show g.bud≤_;omega,Z⟩
 exact⟨h,a,Z,by show g.bud≤_;omega,Z⟩
theorem b7V(h:CpOk g.c)(e:i<4)(a:bD fr):CpOk (kt i g fr pg).1.2.c/\bD (kt i g fr pg).2/\(kt i g fr pg).2.length=fr.length/\(kt i g fr pg).1.2.bud≤g.bud+6/\(kt i g fr pg).1.2.clock=g.clock:=by unfold kt;split;exact⟨Fi h (fy _) h.pc,a,Z,by rw[(wY _ _ _).1];show g.bud+3≤_;omega,(wY _ _ _).2⟩;split;grind[Fi,F5,wY];have b:=QM (id:=i) (clock:=fF g.clock) (i:=kl (vy g fr pg g.c.pc 4 0)) h (QI _).2.1 e;obtain⟨f,j,k,d,l⟩:=b7U (g:=CB (lS g) (sI i (fF g.clock) (kl (vy g fr pg g.c.pc 4 0)) g.c).2) (fr:=fr) (pg:=pg) b.2 b.1 a;exact⟨f,j,k,by have d:_≤g.bud+3+3:=d;omega,l⟩
theorem b7W{g}(h:CpOk g.c):CpOk (jc g).2.c/\(jc g).2.clock=g.clock/\(jc g).2.bud=g.bud/\(jc g).2.ln=g.ln/\(jc g).2.tm=g.tm:=by
 unfold jc;split
 cases q:mg g.ls with
 |none=>exact⟨h,Z,Z,Z,Z⟩
 |some n=>
  have:=(I6 q).1;exact⟨h.enter aq cl,Z,Z,Z,Z⟩
 grind
theorem b7X g:(kJ g).ln≤g.ln+1:=by grind[F6,gz]
theorem b7Y(h:CpOk g.c)(f:i<4)(b:bD fr):CpOk (gB i g fr pg).1.2.c/\bD (gB i g fr pg).2/\(gB i g fr pg).2.length=fr.length/\(gB i g fr pg).1.2.bud≤g.bud+6/\(gB i g fr pg).1.2.clock=g.clock+1/\(gB i g fr pg).1.2.ln≤g.ln+1/\(gB i g fr pg).1.2.tm.now=g.tm.now:=by
 have d:=b7X (kK g)
 unfold gB
 split; · exact⟨h,b,Z,by show g.bud≤_;omega,Z,by show g.ln≤_;omega,Z⟩
 have a:=b7W (g:=kJ (kK g)) h
 split
 exact⟨a.1,b,Z,by rw[a.2.2.1];show g.bud≤_;omega,by rw[a.2.1],by rw[a.2.2.2.1];exact d,by rw[a.2.2.2.2];rfl⟩
 obtain⟨j,k,l,e,m⟩:=b7V (i:=i) (fr:=fr) (pg:=pg) a.1 f b
 obtain⟨p,n,o⟩:=Vk i (jc (kJ (kK g))).2 fr pg
 exact⟨j,k,l,by rw[a.2.2.1]at e;exact e,by rw[m,a.2.1],by rw[n,a.2.2.2.1];exact d,by rw[o,a.2.2.2.2];rfl⟩
theorem GMem.saved(h:GMem i ⟨fr,pg,po⟩)(l:bD fr')(c:fr'.length=fr.length)(m:∀f:Nat,f<fr.length->(∀t,bG pg t=true->(cB pg t).1≠(f:Int))->fr'.getD f []=fr.getD f []):GMem i ⟨fr',pg,po⟩:=by
 refine⟨l,h.po,h.pg,h.len.trans c.symm,by show PlOk fr'.length pg;rw[c];exact h.pl,h.own,h.all,h.far,λf d e=>?_⟩;have a:f<fr.length:=by have:=h.len;dsimp only at this d;omega
 dsimp only;rw[m f a λt q g=>?_];exact h.nul f d e;have j:=q;simp only[bG,Qam]at j;obtain⟨k,rfl,n⟩:=nP j.1;rcases Qaz k 8 with b|b;have:=h.own k b q;dsimp only at this e;rw[g,Qae,e]at this;have:=(QcX this).2;cases this;have:=h.far k b q;dsimp only at this e;rw[g,Qae,e]at this;exact this Z
theorem Fj{a:Int}{o w:Int}{x:Nat}(h:a≠(f:Int)):(jn fr a o w x).getD f []=fr.getD f []:=by
 unfold jn;split
 rename_i q
 simp only[rk,Qam]at q;obtain⟨k,rfl,b⟩:=wc q.1;rw[Qae];exact Ar (λe=>h (by rw[e]));rfl
theorem b7Z{c:Bool}{a:Int}{b:Bool}{d:Nat}{w:Int}{x:Nat}(h:∀t,bG pg t=true->(cB pg t).1≠(f:Int)):(qF fr pg c a b d w x).getD f []=fr.getD f []:=by
 unfold qF;split;split
 rename_i q
 obtain⟨i,j,k,e,l,g,m⟩:=UO q;rw[g];exact Fj (h _ (UP e));rfl;rfl
theorem b70{e:Eff}(h:∀t,bG pg t=true->(cB pg t).1≠(f:Int)):(kY g fr pg e).2.getD f []=fr.getD f []:=by grind[kY,b7Z]
theorem b71(h:∀t,bG pg t=true->(cB pg t).1≠(f:Int)):(gB i g fr pg).2.getD f []=fr.getD f []:=by grind[gB,kt,b70]
theorem b72{B R:List HP}:Ent (B++(A++R)) R:=by rw[<-QaM];exact(Ent.ofPerm QaQ).trans ent_app
theorem VO:CpOk g0.c:=⟨⟨Z,λx a=>by
 have:=Qcx a
 omega⟩,cl,⟨Z,cl⟩⟩
abbrev iO(g:Gu)(n:Int):Gu:={ g with ls:=if dR n then jb g.ls g.ln n.toNat else g.ls,ln:=if dR n then gz g.ls g.ln n.toNat else g.ln }
attribute [local irreducible] dK dV
def mR(x0 x:Mm):Prop:=x.po.length=x0.po.length/\∀f,(dw x.po f).1=(dw x0.po f).1
theorem mR.rfl' x:mR x x:=⟨Z,λ_=>Z⟩
theorem mR.set{a:Mm}(h:mR a x){b c:Bool}(d:f<x.po.length)(g:dw x.po f=((i:Int),b)):mR a ⟨fr,pg,x.po.set f ((i:Int),c)⟩:=by
 refine⟨by rw[Qal];exact h.1,λk=>?_⟩;dsimp only;rw[kT d];split
 rename_i e;rw[e, <-h.2 f,g]
 exact h.2 k
theorem mR.take{a:Mm}(h:mR a x):mR a (lT i p x):=by
 unfold lT;split
 cases e:cG x.po i with
 |nil=>exact h
 |cons f l=>
  have b:=nR.1 (show f∈cG x.po i by rw[e];simp);exact h.set b.1 b.2
 exact h
theorem b73 i p x:(lT i p x).fr=x.fr:=by unfold lT;split;cases cG x.po i<;>rfl;rfl
theorem mR.gave{b:Mm}(h:mR b x)(c:GMem i x):mR b (mh i p x):=by
 unfold mh;split
 rename_i q
 simp only[Qam]at q;obtain⟨n,rfl,g⟩:=yy q.1;obtain⟨f,d,j,a⟩:=c.at_ q.2;have e:=c.own n g q.2;rw[d,Qae]at e;rw[Qae,pR,d,Qae];exact h.set a e;exact h
theorem mR.anew{a:Mm}(h:mR a x)(b:GMem i x)(c:i<16):mR a (jN i n ws x):=by obtain⟨d,e⟩:=Ip b c 8 (Qai _);obtain⟨g,j⟩:=Iq (who:=i) (words:=dm ws n) (x:=⟨(dK i 8 x).fr,(dK i 8 x).po,(dK i 8 x).pg⟩) n;exact⟨g.trans (d.trans h.1),λf=>(j f).trans ((e f).trans (h.2 f))⟩
theorem Fl g a b:(gH g a b).2.qa=g.qa/\(gH g a b).2.qb=g.qb/\(gH g a b).2.qc=g.qc:=by unfold gH;split<;>exact⟨Z,Z,Z⟩
theorem VP:(gB i g fr pg).1.2.qa=g.qa/\(gB i g fr pg).1.2.qb=g.qb/\(gB i g fr pg).1.2.qc=g.qc:=by
 unfold gB
 split; · exact⟨Z,Z,Z⟩
 have a:(jc (kJ (kK g))).2.qa=g.qa/\(jc (kJ (kK g))).2.qb=g.qb/\(jc (kJ (kK g))).2.qc=g.qc:=by
  unfold jc
  split
  cases mg (kJ (kK g)).ls<;>exact⟨Z,Z,Z⟩
  exact⟨Z,Z,Z⟩
 split; · exact a
 generalize (jc (kJ (kK g))).2=q at a
 suffices h:(kt i q fr pg).1.2.qa=q.qa/\(kt i q fr pg).1.2.qb=q.qb/\(kt i q fr pg).1.2.qc=q.qc by rw[h.1,h.2.1,h.2.2];exact a
 unfold kt
 split; · exact Fl _ _ _
 split; · exact Fl _ _ _
 unfold kY
 split
 unfold uk
 split
 exact Fl _ _ _
 exact⟨Z,Z,Z⟩
 split
 unfold ul
 split
 exact Fl _ _ _
 exact⟨Z,Z,Z⟩
 split; · exact Fl _ _ _
 split; · exact⟨Z,Z,Z⟩
 split; · exact⟨Z,Z,Z⟩
 split<;>exact⟨Z,Z,Z⟩
end
section
open Go.RowKit
structure Oth (j : Nat) (fr : List az) (po : Po) (fr' : List az) (po' : Po) : Prop where
  F : bD fr'
  P : PoOk po'
  fl : fr'.length = fr.length
  pl : po'.length = po.length
  par : ∀ f, (dw po' f).1 = (dw po f).1
  pe : ∀ f, (dw po f).1 = (j : Int) → dw po' f = dw po f
  fe : ∀ f, (dw po f).1 = (j : Int) → fr'.getD f [] = fr.getD f []
section
variable{i j:Nat}{fr fr' f1 f2 f3:List az}{pg:List Pl}{po po' p1 p2 p3:Po}
theorem Oth.rfl'(a:bD fr)(b:PoOk po):Oth j fr po fr po:=⟨a,b,Z,Z,λ_=>Z,λ_ _=>Z,λ_ _=>Z⟩
theorem Oth.trans(a:Oth j f1 p1 f2 p2)(b:Oth j f2 p2 f3 p3):Oth j f1 p1 f3 p3:=
  ⟨b.F,b.P,b.fl.trans a.fl,b.pl.trans a.pl,λf=>(b.par f).trans (a.par f),λf h=>(b.pe f ((a.par f).trans h)).trans (a.pe f h),λf h=>(b.fe f ((a.par f).trans h)).trans (a.fe f h)⟩
theorem GMem.oth(h:GMem j ⟨fr,pg,po⟩)(o:Oth j fr po fr' po'):GMem j ⟨fr',pg,po'⟩:=by
 have a:∀f b,dw po' f=((j:Int),b)->dw po f=((j:Int),b)/\(dw po f).1=(j:Int):=λf b e=>by
  have i:(dw po f).1=(j:Int):=by rw[<-o.par f,e]
  exact⟨by rw[<-o.pe f i];exact e,i⟩
 refine⟨o.F,o.P,h.pg,o.pl.trans (h.len.trans o.fl.symm),by show PlOk fr'.length pg;rw[o.fl];exact h.pl,λt c d=>?_,λf g e=>?_,λt c d=>?_,λf g e=>?_⟩;have e:=h.own t c d;dsimp only at e ⊢;rw[o.pe _ (by rw[e]),e];exact h.all f (by rw[<-o.pl];exact g) (a f _ e).1;show(dw po' _).1≠_;rw[o.par];exact h.far t c d;show fr'.getD f []=gy;rw[o.fe f (a f _ e).2];exact h.nul f (by rw[<-o.pl];exact g) (a f _ e).1
theorem MOk.oth{L:List Ln}{T:List It}(h:MOk fr pg d L T)(g:GMem j ⟨fr,pg,po⟩)(o:Oth j fr po fr' po'):MOk fr' pg d L T:=
  h.frame o.fl o.F λt a b=>o.fe _ (by have e:=g.own t a b;dsimp only at e;rw[e])
def VR(pg:List Pl)(po:Po):Prop:=∀t:Nat,8≤t->bG pg t=true->(dw po (cB pg t).1.toNat).1= -1
theorem b74(a:j≠i)(h:GMem i ⟨fr,pg,po⟩)(g:VR pg po)(l:bD fr')(m:fr'.length=fr.length)(n:∀f:Nat,(∀t,bG pg t=true->(cB pg t).1≠f)->fr'.getD f []=fr.getD f []):Oth j fr po fr' po:=by refine⟨l,h.po,m,Z,λ_=>Z,λ_ _=>Z,λf e=>n f λt q c=>?_⟩;have d:=q;simp only[bG,Qam]at d;obtain⟨k,rfl,o⟩:=nP d.1;rcases Qaz k 8 with b|b;have:=h.own k b q;dsimp only at this;rw[c,Qae]at this;rw[this]at e;exact a (by have:(i:Int)=j:=e;omega);have:=g k b q;rw[c,Qae,e]at this;omega
theorem N6(hij:j≠i)(hP:PoOk po)(hi:i<16){f b c}(hf:f<po.length)(ho:dw po f=((i:Int),b))(hF:bD fr')(hl:fr'.length=fr.length)(hs:∀k,k≠f->fr'.getD k []=fr.getD k []):Oth j fr po fr' (po.set f (i,c)):=by
 have key:∀k,(dw po k).1=(j:Int)->k≠f:=λk e e2=>hij (by rw[e2,ho]at e;have:(i:Int)=j:=e;omega);refine⟨hF,hP.set hf n4 aac,hl,by rw[Qal],λk=>?_,λk e=>?_,λk e=>hs k (key k e)⟩;rw[kT hf];split
 rename_i e;rw[e,ho]
 rfl;rw[kT hf,Qab (key k e)]
end
section
variable{i j:Nat}(hij:j≠i)
include hij
theorem b75(h:GMem i x)(b:i<16):Oth j x.fr x.po (lT i p x).fr (lT i p x).po:=by
 unfold lT;split
 cases e:cG x.po i with
 |nil=>exact Oth.rfl' h.fr h.po
 |cons f l=>
  have a:=nR.1 (show f∈cG x.po i by rw[e];simp);exact N6 hij h.po b a.1 a.2 h.fr Z λ_ _=>Z
 exact Oth.rfl' h.fr h.po
theorem VS(h:GMem i x)(e:i<16)(g:n<8)(b:bG x.pg n=true):Oth j x.fr x.po (pR i n x).fr (pR i n x).po:=by obtain⟨f,c,l,a⟩:=h.at_ b;have d:=h.own n g b;rw[c,Qae]at d;unfold pR;rw[c,Qae];exact N6 hij h.po e a d (MI h.fr f) (Qal ..) λk m=>Ar m
theorem b76(h:GMem i x)(a:i<16):Oth j x.fr x.po (mh i p x).fr (mh i p x).po:=by
 unfold mh;split
 rename_i q
 simp only[Qam]at q;obtain⟨n,rfl,b⟩:=yy q.1;exact VS hij h a b q.2;exact Oth.rfl' h.fr h.po
theorem VT{x}(h:GMem i x)(a:i<16):∀n,n≤8->Oth j x.fr x.po (dK i n x).fr (dK i n x).po
 |0,_=>Oth.rfl' h.fr h.po
 |n+1,d=>by
  have b:=VT h a n aq;have c:=h.strip a n aq;rw[dK,qH];split
  rename_i q
  exact b.trans (VS hij c a aq q);exact b
theorem N7{ws x}(h:GMem i (As x))(a:i<16)(b:we x.pg 0 8):∀n,n≤8->n≤(cG x.po i).length->Oth j x.fr x.po (dV i ws n x).fr (dV i ws n x).po
 |0,_,_=>Oth.rfl' h.fr h.po
 |n+1,q,r=>by
  have c:=N7 (ws:=ws) h a b n aq aq;have d:=h.lay (words:=ws) a b n aq aq;have s:=GZ (who:=i) (words:=ws) (x:=x) n;rw[dV,lK]
  cases e:cG (dV i ws n x).po i with
  |nil=>exact c
  |cons f l=>
   have g:=nR.1 (show f∈cG (dV i ws n x).po i by rw[e];simp);obtain⟨m,o⟩:=zN (f:=f) (l:=iz ws n) (k:=0) d.fr;exact c.trans (N6 hij d.po a g.1 g.2 m o λk p=>MN p)
attribute [local irreducible] dK dV
theorem b77(h:GMem i x)(a:i<16)(b:n≤8)(c:n≤rQ i x.po):Oth j x.fr x.po (jN i n ws x).fr (jN i n ws x).po:=by have d:=h.strip a 8 (Qai _);exact(VT hij h a 8 (Qai _)).trans (N7 (ws:=dm ws n) (x:=⟨(dK i 8 x).fr,(dK i 8 x).po,(dK i 8 x).pg⟩) hij d a (Io h a) n b (by rw[MR h a];exact c))
end
structure Ls where
  g : Gu
  pg : List Pl
  bx : List ByteArray
  fr : List az
  po : Po
  dk : Dk
  pt : List Prt
  gt : Gt
variable {L:Ls}
abbrev Ls.mm(L:Ls):Mm:=⟨L.fr,L.pg,L.po⟩
abbrev Ls.put(L:Ls)(x:Mm):Ls:={ L with fr:=x.fr,pg:=x.pg,po:=x.po }
abbrev Ls.wg(L:Ls)(g:Gu):Ls:={ L with g:=g }
structure Lr where
  e : Nat
  w : Nat
  k : Int
  L : Ls
abbrev Ls.r(L:Ls)(k:Nat):Nat:=cn L.g.c.rl k
abbrev qI(e:Nat)(L:Ls):Lr:=⟨e,0,0,L⟩
def AB(w:Int):Nat:=if w≠0 then 11 else 0
def AC(c:Nat)(w:Int):Nat:=if w≠0 then ed w else c
theorem N8 c w:yC c w=.tuple #[iQ (AB w),wV (AC c w)]:=by unfold yC AB AC;split<;>rfl
abbrev Fo(g:Gu)(c k:Nat):Gu:={ g with ls:=if 0<c then jb g.ls g.ln k else g.ls,ln:=if 0<c then gz g.ls g.ln k else g.ln }
abbrev ol(c:Cfg)(i:Nat)(L:Ls):SbS:=ml L.fr L.pg (cC c i).1 L.g.qa L.dk
abbrev om(c:Cfg)(i:Nat)(L:Ls):SvS:=fM true L.fr L.pg (dP (du c i)) L.g.qb L.pt
abbrev je(c:Cfg)(i:Nat)(L:Ls):SvS:=fM false L.fr L.pg (dP (du c i)) L.g.qc L.pt
abbrev b78(y:SbS)(L:Ls):Ls:={ L with g:={ Fo L.g y.c 1 with qa:=y.s },fr:=y.fr,dk:=y.x }
abbrev b79(y:SvS)(L:Ls):Ls:={ L with g:={ Fo L.g y.c 2 with qb:=y.s },fr:=y.fr,pt:=y.ps }
abbrev VU(y:SvS)(L:Ls):Ls:={ L with g:={ Fo L.g y.c 3 with qc:=y.s },fr:=y.fr,pt:=y.ps }
def wZ(c:Cfg)(i:Nat)(L:Ls):Lr:=
  if 3≤L.r 2 then qI 1 L
  else if L.r 2=0 then⟨AB (ol c i L).w,AC (ol c i L).c (ol c i L).w,(((ol c i L).n+(ol c i L).b:Nat):Int),b78 (ol c i L) L⟩
  else if du c i=none then qI 3 L
  else if L.r 2=1 then⟨AB (om c i L).w,AC (om c i L).c (om c i L).w,(((om c i L).n+(om c i L).b:Nat):Int),b79 (om c i L) L⟩
  else⟨AB (je c i L).w,AC (je c i L).c (je c i L).w,(((je c i L).n+(je c i L).b:Nat):Int),VU (je c i L) L⟩
abbrev uo(c:Cfg)(a:Nat):Nat:=(jK c a).toNat
def x9(c:Cfg)(i:Nat)(L:Ls):Lr:=
  if c.nl.length≤L.r 2 then qI 3 L
  else if (eB c (L.r 2)).2≠(i:Int)then qI 4 L
  else if gW L.fr (uo c (L.r 2)) 0 4=cn L.g.rd (L.r 2)then qI 3 L
  else⟨0,VI L.fr (uo c (L.r 2)) (cn L.g.rd (L.r 2)),0,L.wg (CG L.g (L.r 2) (Fg L.fr (uo c (L.r 2)) (cn L.g.rd (L.r 2))))⟩
abbrev qC(i:Nat)(g:Gu):Cw:=⟨0,i,cn g.c.rl 1,cn g.c.rl 2,cn g.c.rl 3,cn g.c.rl 4,cn g.c.rl 5,0,0,none,0,0⟩
abbrev lw(L:Ls):List Nat:=jX L.fr L.pg (L.r 3) (L.r 4)
def xa(c:Cfg)(i:Nat)(L:Ls):Lr:=
  if oj c (qC i L.g) L.fr L.pg≠0 then qI (oj c (qC i L.g) L.fr L.pg).toNat L
  else⟨(mi L.gt i (L.r 2) (lw L).length).toNat,0,if mi L.gt i (L.r 2) (lw L).length=0 then((lw L).length:Int)else 0,{ L with gt:=nr L.gt i (L.r 2) (m8 (lw L)) }⟩
def xb(L:Ls):Lr:=
  if d9 L.fr.length L.pg (L.r 2) 16=false then qI 1 L
  else match L.bx with
    |[]=>qI 3 L
    |s::l=>⟨0,s.size,(s.size:Nat),{ L with fr:=kU L.fr L.pg (L.r 2) (bL s),bx:=l }⟩
abbrev rS(L:Ls):Rg3:=⟨L.r 3,L.r 4,L.r 5,((L.r 2/256:Nat):Int)⟩
abbrev rT(g:Gu)(d:Nat)(f:QS->QS):Gu:=if d=0 then { g with qa:=f g.qa }else if d=1 then { g with qb:=f g.qb }else { g with qc:=f g.qc }
def vA(L:Ls):Lr:=
  if 3≤L.r 2%256 then qI 1 L
  else⟨(wW L.fr.length L.pg (rS L)).toNat,0,0,L.wg (rT L.g (L.r 2%256) (pS L.fr.length L.pg (rS L)))⟩
abbrev yG(L:Ls):Int:=((fF L.g.clock+L.r 2:Nat):Int)
def yH(i:Nat)(L:Ls):Lr:=
  if L.r 1=0 then⟨0,i,0,L⟩
  else if L.r 1=1 then⟨0,fF L.g.clock,0,L⟩
  else if L.r 1=2\/L.r 1=3 then qI 0 L
  else if L.r 1=4 then⟨(wS i (L.r 2) L.mm).toNat,0,0,L.put (lT i (L.r 2) L.mm)⟩
  else if L.r 1=5 then⟨(wT (L.r 2) L.mm).toNat,0,0,L.put (mh i (L.r 2) L.mm)⟩
  else if L.r 1=6 then vA L
  else if L.r 1=10 then⟨if dR (L.r 2)then 0 else 1,0,0,L.wg { L.g with ls:=if dR (L.r 2)then Fb L.g.ls (L.r 2) (decide (L.r 3≠0))else L.g.ls }⟩
  else if L.r 1=11 then⟨(um (L.r 2) (L.r 3)).toNat,0,0,L.wg { L.g with ls:=Ax L.g.ls (L.r 2) (L.r 3) }⟩
  else if L.r 1=12 then⟨if dR (L.r 2)then 0 else 1,0,0,L.wg (iO L.g (L.r 2))⟩
  else if L.r 1=15 then⟨(vx L.g.tm (yG L)).toNat,u32 ((Cx L.g.tm (yG L):Nat):Int),0,L.wg { L.g with tm:=yr L.g.tm (yG L) }⟩
  else qI 1 L
def mn(c:Cfg)(i:Nat)(L:Ls):Nat:=if c.nl.length≤L.r 2 then 3 else if (eB c (L.r 2)).1≠(i:Int)then 4 else 0
def p9(c:Cfg)(i:Nat)(L:Ls):Lr:=if mn c i L=0 then⟨0,0,0,{ L with fr:=yD L.fr (uo c (L.r 2)) (L.r 3) }⟩else qI (mn c i L) L
def jz(c:Cfg)(i:Nat)(L:Ls):Lr:=
  if L.r 1=7 then wZ c i L else if L.r 1=8 then p9 c i L else if L.r 1=9 then x9 c i L else if L.r 1=13 then xa c i L else if L.r 1=14 then xb L else yH i L
abbrev rU(r:Lr):Ls:=r.L.wg (Av r.L.g r.e (un r.e r.w))
def rV(i n:Nat)(wl:List Nat)(k:Nat)(L:Ls):Ls:=
  if k=2 then L.wg (t6 (qG L.g) 4 0 0 L.g.c.pc)else if k=3 then(L.put (jN i n wl L.mm)).wg (oe L.g)else L
abbrev ge(c:Cfg)(i n:Nat)(wl:List Nat)(L:Ls):Ls:=rV i n wl (L.r 1) (rU (jz c i L))
def mT(x0 x:Mm):Prop:=∀t:Nat,8≤t->bG x.pg t=bG x0.pg t/\cB x.pg t=cB x0.pg t
theorem mT.rfl' x:mT x x:=λ_ _=>⟨Z,Z⟩
theorem mT.trans{y z}(h:mT x y)(k:mT y z):mT x z:=λt a=>⟨(k t a).1.trans (h t a).1,(k t a).2.trans (h t a).2⟩
theorem VV{pg n p}(a:n<8){t:Nat}(b:8≤t):bG (gX pg n p) t=bG pg t/\cB (gX pg n p) t=cB pg t:=by unfold gX;split;exact fY aq;exact⟨Z,Z⟩
theorem b8a i p x:mT x (lT i p x):=λt a=>by
 unfold lT;split
 rename_i q
 simp only[Qam]at q;obtain⟨n,rfl,b⟩:=yy q.1
 cases cG x.po i with
 |nil=>exact⟨Z,Z⟩
 |cons f l=>exact VV aq a
 exact⟨Z,Z⟩
theorem VW{i n x}(a:x.pg.length=12)(b:n<8):mT x (pR i n x):=λt c=>
  ⟨by show bG (j9 x.pg n) t=_;rw[F8 a,Qav aq,Bool.and_true],Ih aq⟩
theorem b8b(a:x.pg.length=12):mT x (mh i p x):=by
 unfold mh;split
 rename_i q
 simp only[Qam]at q;obtain⟨n,rfl,b⟩:=yy q.1;exact VW a b;exact mT.rfl' x
theorem VX{i x}(h:GMem i x)(a:i<16):∀n,n≤8->mT x (dK i n x)
 |0,_=>mT.rfl' x
 |n+1,c=>by
  have b:=VX h a n aq;rw[dK,qH];split;exact b.trans (VW (h.strip a n aq).pg.len aq);exact b
theorem VY{who words x}:∀n,n≤8->mT (As x) (As (dV who words n x))
 |0,_=>mT.rfl' _
 |n+1,c=>by
  have a:=VY (who:=who) (words:=words) (x:=x) n aq;refine a.trans λt b=>?_;rw[dV,lK]
  cases cG (dV who words n x).po who with
  |nil=>exact⟨Z,Z⟩
  |cons f l=>exact VV (pg:=(dV who words n x).pg) aq b
attribute [local irreducible] dK dV
theorem b8c(h:GMem i x)(a:i<16)(b:n≤8):mT x (jN i n ws x):=
  (VX h a 8 (Qai _)).trans (VY (x:=⟨(dK i 8 x).fr,(dK i 8 x).po,(dK i 8 x).pg⟩) n b)
end
variable {L:Ls}
section
open Go.RowKit
theorem N9{c}(d:rt c=true)(i:Nat):∀k,k≤c.nl.length->(fz c i k gd).length=12/\∀t:Nat,8≤t->bG (fz c i k gd) t=decide (t<8+k/\j5 (eB c (t-8)) i≠0)/\(bG (fz c i k gd) t=true->cB (fz c i k gd) t=(jK c (t-8:Nat),j5 (eB c (t-8)) i))
 |0,_=>⟨Z,λt b=>⟨by rw[show fz c i 0 gd=gd from Z,yz,Qat aq],λq=>absurd q (by rw[show fz c i 0 gd=gd from Z,yz];decide)⟩⟩
 |k+1,B=>by
  obtain⟨f,g⟩:=N9 d i k aq;have h:=eI d;have s:=h.nn;have u:=h.nd;have C:=wA h.gs c.gl.length (Qai _);have v:=y3 c c.gl.length;rw[fz];split
  rename_i a
  refine⟨f,λt b=>?_⟩;obtain⟨j,l⟩:=g t b;refine⟨?_,l⟩;rw[j];apply QaY.2;constructor;rintro⟨p,q⟩;exact⟨aq,q⟩;rintro⟨p,q⟩;refine⟨?_,q⟩;rcases Qaz t (8+k)with e|e;exact e;exfalso;have:t-8=k:=aq;rw[this]at q;exact q a
  rename_i a
  have w:1≤j5 (eB c k) i/\j5 (eB c k) i≤3:=by
   revert a
   unfold j5;split;intro _;decide;split;intro _;decide;intro q;exact absurd Z q
  have x:jK c (k:Int)=eT c c.gl.length+k:=by rw[jK,Qad ⟨d,aq,aq⟩]
  have m:bG (fz c i k gd) ((8+k:Nat):Int)=false:=by
   rw[(g (8+k) aq).1,Qat aq]
  have n:((jK c (k:Int),j5 (eB c k) i):Pl)≠(0,0):=λe=>a (QcX e).2;have y:kx (fz c i k gd) ((8+k:Nat):Int) (jK c (k:Int),j5 (eB c k) i)=0:=by
   rw[kx,Qad ⟨Qav aq,Qav (by dsimp only;omega)⟩,m];rfl
  have A:gX (fz c i k gd) ((8+k:Nat):Int) (jK c (k:Int),j5 (eB c k) i)=(fz c i k gd).set (8+k) (jK c (k:Int),j5 (eB c k) i):=by rw[gX,Qad y,Qae]
  rw[A];have o:=Al f (show 8+k<12 by omega) n;refine⟨by rw[Qal];exact f,λt b=>?_⟩;by_cases e:t=8+k;subst e;rw[show 8+k-8=k by omega];exact⟨by rw[o.1,Qav ⟨aq,a⟩],λ_=>o.2⟩;obtain⟨j,l⟩:=g t b;have r:(t:Int)≠((8+k:Nat):Int):=aq;rw[(fY r).1,(fY r).2];refine⟨?_,l⟩;rw[j];apply QaY.2;constructor<;>rintro⟨p,q⟩<;>exact⟨aq,q⟩
abbrev AD(c:Cfg)(i:Nat):List Pl:=fz c i c.nl.length gd
def uq(pg pg':List Pl):Prop:=∀t:Nat,8≤t->bG pg' t=bG pg t/\cB pg' t=cB pg t
theorem uq.trans{p q r}(a:uq p q)(b:uq q r):uq p r:=λt h=>⟨(b t h).1.trans (a t h).1,(b t h).2.trans (a t h).2⟩
theorem mT.e {x y} (h : mT x y) : uq x.pg y.pg := h
theorem b8d{c}(d:rt c=true){i t:Nat}(e:8≤t)(a:bG (AD c i) t=true):∃k,k<c.nl.length/\t=8+k/\cB (AD c i) t=(jK c k,j5 (eB c k) i)/\j5 (eB c k) i≠0:=by obtain⟨f,g⟩:=(N9 d i c.nl.length (Qai _)).2 t e;have b:=a;rw[f,Qag]at b;exact⟨t-8,aq,aq,g a,b.2⟩
theorem b8e{c}(e:rt c=true){i k:Nat}(g:k<c.nl.length)(f:j5 (eB c k) i≠0):bG (AD c i) (8+k:Nat)=true/\cB (AD c i) (8+k:Nat)=(jK c k,j5 (eB c k) i):=by obtain⟨a,b⟩:=(N9 e i c.nl.length (Qai _)).2 (8+k) aq;rw[show 8+k-8=k by omega]at a b;have d:=a.trans (Qav ⟨aq,f⟩);exact⟨d,b d⟩
theorem IC{c}(d:rt c=true){k}(l:k<c.nl.length):∃f:Nat,jK c k=f/\f<dG c/\(dw (iB c (dG c)) f).1= -1/\vn c f=(2,(k:Int)):=by
 have b:=eI d;have m:=wA b.gs c.gl.length (Qai _);have h:=y3 c c.gl.length;have i:=b.nd;have e:(((eT c c.gl.length).toNat+k:Nat):Int)=eT c c.gl.length+k:=aq;have g:(eT c c.gl.length).toNat+k<dG c:=by rw[dG];omega
 have a:lL c (((eT c c.gl.length).toNat+k:Nat):Int)=none:=by
  cases q:lL c (((eT c c.gl.length).toNat+k:Nat):Int)with
  |none=>rfl
  |some j=>
   have n:=(Ew b).1 q;have o:=Hn b (show j+1≤c.gl.length by omega) (Qai _);omega
 refine⟨(eT c c.gl.length).toNat+k,by rw[jK,Qad ⟨d,aq,aq⟩,e],g,by rw[Cd g,Qad g,a];rfl,?_⟩;rw[vn,Qad ⟨d,aq,aq⟩,a,LC];exact Prod.ext rfl (by show(((eT c c.gl.length).toNat+k:Nat):Int)-eT c c.gl.length=(k:Int);omega)
structure GuI (g : Gu) : Prop where
  rd : g.rd.length = 4
  rb : ∀ x ∈ g.rd, x < 4294967296
  qa : QL g.qa
  qb : QL g.qb
  qc : QL g.qc
  es : g.es.length ≤ 4096
structure GB (g : Gu) (k b l t : Int) : Prop where
  c : CpOk g.c
  k : (g.clock : Int) ≤ k
  b : (g.bud : Int) ≤ b
  l : g.ln ≤ l
  t : g.tm.now ≤ t
structure GtI (c : Cfg) (x : Gt) : Prop where
  who : x.who = c.gate
  cats : x.cats = c.cats
  quota : x.quota = c.quota
  us : 0 ≤ x.us ∧ x.us ≤ c.quota
  sz : ∀ r ∈ x.l, r.s.size ≤ 16
structure LI (c : Cfg) (i : Nat) (L : Ls) : Prop where
  m : GMem i L.mm
  pl : L.po.length = dG c
  pp : ∀ f, (dw L.po f).1 = (dw (iB c (dG c)) f).1
  f : uq (AD c i) L.pg
  g : GuI L.g
  dk : DkOk L.dk
  pt : jp L.pt
  gt : GtI c L.gt
  bx : L.bx.length ≤ 4 ∧ ∀ s ∈ L.bx, s.size ≤ 16
structure Wr (pg : List Pl) (fr fr' : List az) : Prop where
  F : bD fr'
  l : fr'.length = fr.length
  n : ∀ f : Nat, (∀ t, bG pg t = true → (cB pg t).1 ≠ (f : Int)) → fr'.getD f [] = fr.getD f []
theorem Touch.wr{d'}(h:Touch pg fr d fr' d'):Wr pg fr fr':=⟨h.F,h.l,h.n⟩
section
variable{c:Cfg}{i:Nat}{L:Ls}
theorem LI.farN(a:rt c=true)(h:LI c i L):VR L.pg L.po:=λt b d=>by
 obtain⟨e,g⟩:=h.f t b;rw[e]at d;obtain⟨k,j,rfl,l,o⟩:=b8d a b d;obtain⟨f,m,_,n,_⟩:=IC a j;rw[g,l,m,Qae,h.pp,n]
theorem LI.len (h : LI c i L) : L.fr.length = dG c := h.m.len.symm.trans h.pl
theorem LI.wr(h:LI c i L)(w:Wr L.pg L.fr fr):LI c i { L with fr:=fr }:=
  ⟨GMem.saved h.m w.F w.l λf _ q=>w.n f q,h.pl,h.pp,h.f,h.g,h.dk,h.pt,h.gt,h.bx⟩
theorem LI.wo(a:rt c=true)(h:LI c i L)(w:Wr L.pg L.fr fr)(b:j≠i):Oth j L.fr L.po fr L.po:=b74 b h.m (h.farN a) w.F w.l w.n
theorem LI.wg {g} (h : LI c i L) (hg : GuI g) : LI c i (L.wg g) := ⟨h.m, h.pl, h.pp, h.f, hg, h.dk, h.pt, h.gt, h.bx⟩
theorem LI.put(h:LI c i L)(b:GMem i x)(a:mR L.mm x)(d:mT L.mm x):LI c i (L.put x):=⟨b,a.1.trans h.pl,λf=>(a.2 f).trans (h.pp f),h.f.trans d.e,h.g,h.dk,h.pt,h.gt,h.bx⟩
theorem LI.oth{c:Cfg}{i:Nat}{L M:Ls}(h:LI c j L)(a:LI c i M)(o:Oth j L.fr L.po M.fr M.po):LI c j { M with g:=L.g,pg:=L.pg,bx:=L.bx }:=
  ⟨GMem.oth h.m o,a.pl,a.pp,h.f,h.g,a.dk,a.pt,a.gt,h.bx⟩
end
theorem QL.zero:QL dS:=⟨⟨λh=>n8,λh=>n8,λh=>n8,cl,cl⟩,⟨cl,cl,cl⟩,cl,cl⟩
theorem QL.lay(h:QL s)(a:r.ok):QL (pS n pg r s):=by
 unfold pS;split
 rename_i q
 simp only[u7,Qam,w5]at q;obtain⟨⟨⟨f,b⟩,c⟩,g,d⟩:=q;have e:=S9.1 d;have i:=(xS.1 b).1;have j:=(xS.1 c).1;exact⟨⟨λ_=>e,λ_=>by show r.avail≤1000;omega,λ_=>by show r.used≤1000;omega,by show(0:Nat)<65536;decide,by show(0:Nat)<65536;decide⟩,a,by show 0≤r.n;omega,by show r.n≤8;omega⟩;exact h
theorem QL.sv(h:QL s){y:SvS}(a:SvOk len s.r y):QL y.s:=⟨a.s,by rw[a.r];exact h.r,by rw[a.r];exact h.n⟩
theorem QL.sb(h:QL s){y:SbS}(a:SbOk len s.r y):QL y.s:=⟨a.qs,by rw[a.r];exact h.r,by rw[a.r];exact h.n⟩
section
variable{g:Gu}{k b l t:Int}
theorem GB.le{k' b' l' t'}(h:GB g k b l t)(a:k≤k')(d:b≤b')(e:l≤l')(f:t≤t'):GB g k' b' l' t':=⟨h.c,by have:=h.k;omega,by have:=h.b;omega,by have:=h.l;omega,by have:=h.t;omega⟩
theorem GB.line{g'}(h:GB g k b l t)(a:g'.c=g.c)(d:g'.clock=g.clock)(e:g'.bud=g.bud)(f:g'.ln≤g.ln+1)(i:g'.tm.now≤g.tm.now+1):GB g' k b (l+1) (t+1):=
  ⟨by rw[a];exact h.c,by rw[d];exact h.k,by rw[e];exact h.b,by have:=h.l;omega,by have:=h.t;omega⟩
theorem ID g c k:(Fo g c k).ln≤g.ln+1:=by have:=F6 g.ls g.ln k;show(if 0<c then gz g.ls g.ln k else g.ln)≤_;split<;>omega
theorem b8f x d:(yr x d).now≤x.now+1:=by unfold yr;split;split;exact Qan _;omega;omega
theorem GuI.reads{g:Gu}(h:GuI g)(k:Nat)(a:w<4294967296):GuI (CG g k w):=⟨by show(g.rd.set k w).length=4;rw[Qal];exact h.rd,λx b=>by
 rcases Qbm b with q|q;exact h.rb x q
 rw[q];exact a,h.qa,h.qb,h.qc,h.es⟩
theorem GuI.rdA{g}(h:GuI g)k:cn g.rd k<4294967296:=by
 unfold cn;rw[Qao]
 cases e:g.rd[k]? with
 |none=>decide
 |some x=>exact h.rb x (Qcu e)
end
theorem b8g(b:bD fr)f off:gW fr f off 4<4294967296:=by
 unfold gW;split
 rename_i c
 obtain⟨i,d,a⟩:=wc c;rw[d,Qae];exact Ks (b.get a).2;decide
theorem VZ x i l n:0≤mi x i l n/\mi x i l n<15:=by
 unfold mi
 split; · decide
 split; · decide
 split; · decide
 split<;>decide
theorem b8h{x i l n}(h:mi x i l n=0):(1≤n/\n≤16)/\n≤x.quota-x.us:=by
 unfold mi at h
 split at h; · exact absurd h cl
 split at h; · exact absurd h cl
 split at h; · exact absurd h cl
 split at h; · exact absurd h cl
 exact⟨aq,aq⟩
theorem W2 c q fr pg:0≤oj c q fr pg/\oj c q fr pg<15:=by
 unfold oj
 split; · decide
 split; · decide
 split<;>decide
theorem Na{e}(h:es.length≤4096):(yu es e).length≤4096:=by unfold yu;split;rw[Qaf,QaR];omega;exact h
theorem b8i po i:(cG po i).length≤rQ i po:=by unfold cG rQ;rw[<-List.countP_eq_length_filter, <-List.countP_eq_length_filter];refine List.countP_mono_left λf _ h=>?_;rw[eq_of_beq h];exact beq_self_eq_true _
theorem b8j(a:w<4294967296):un e w<4294967296:=by unfold un;split<;>omega
theorem W3{f}:(rT g d f).c=g.c/\(rT g d f).clock=g.clock/\(rT g d f).bud=g.bud/\(rT g d f).ln=g.ln/\(rT g d f).tm=g.tm/\(rT g d f).es=g.es:=by unfold rT;split;exact⟨Z,Z,Z,Z,Z,Z⟩;split<;>exact⟨Z,Z,Z,Z,Z,Z⟩
theorem GuI.of{g'}(h:GuI g)(a:g'.rd=g.rd)(b:g'.qa=g.qa)(c:g'.qb=g.qb)(d:g'.qc=g.qc)(e:g'.es.length≤4096):GuI g':=⟨by rw[a];exact h.rd,by rw[a];exact h.rb,by rw[b];exact h.qa,by rw[c];exact h.qb,by rw[d];exact h.qc,e⟩
structure CaOk (c : Cfg) (i : Nat) (L : Ls) (k b l t : Int) (r : Lr) : Prop where
  li : LI c i r.L
  b : GB r.L.g k b (l + 1) (t + 1)
  o : ∀ j, j ≠ i → Oth j L.fr L.po r.L.fr r.L.po
  e : r.e < 1000
  w : r.w < 4294967296
  bs : r.L.bx.length ≤ L.bx.length
theorem vB{k b l t:Int}{p:Prop}[Decidable p]{x y:Lr}(a:p->CaOk c i L k b l t x)(d:¬p->CaOk c i L k b l t y):CaOk c i L k b l t (if p then x else y):=by by_cases q:p;rw[Qad q];exact a q;rw[Qab q];exact d q
section
variable{c:Cfg}{i:Nat}{L:Ls}{k b l t:Int}(hr:rt c=true)(hi:i<c.gl.length)(hk9:k<1000000000)(h:LI c i L)(hb:GB L.g k b l t)
include h hb
theorem qJ{e w wk}(a:e<1000)(d:w<4294967296):CaOk c i L k b l t ⟨e,w,wk,L⟩:=⟨h,hb.le (Qan _) (Qan _) aq aq,λj _=>Oth.rfl' h.m.fr h.m.po,a,d,Qai _⟩
theorem CK(d:e<1000)(f:w<4294967296)(n:GuI g)(o:g.c=L.g.c)(p:g.clock=L.g.clock)(a:g.bud=L.g.bud)(q:g.ln≤L.g.ln+1)(r:g.tm.now≤L.g.tm.now+1):CaOk c i L k b l t ⟨e,w,wk,L.wg g⟩:=
  ⟨h.wg n,hb.line o p a q r,λj _=>Oth.rfl' h.m.fr h.m.po,d,f,Qai _⟩
theorem W4{e w wk x}(a:e<1000)(d:w<4294967296)(f:GMem i x)(g:mR L.mm x)(m:mT L.mm x)(n:∀j,j≠i->Oth j L.fr L.po x.fr x.po):CaOk c i L k b l t ⟨e,w,wk,L.put x⟩:=
  ⟨h.put f g m,hb.le (Qan _) (Qan _) aq aq,n,a,d,Qai _⟩
include hr
theorem b8k:CaOk c i L k b l t (wZ c i L):=by
 have C:Pgs L.pg:=h.m.pg;have q:bD L.fr:=h.m.fr;have u:PlOk L.fr.length L.pg:=h.m.pl;have v:∀w:Int,AB w<1000:=λw=>by unfold AB;split<;>decide
 have A:∀(c:Nat) (w:Int),c<1000->AC c w<4294967296:=λc w D=>by
  unfold AC;split;exact Lp _;omega
 unfold wZ;split;exact qJ h hb cl cl;split;have e:=h.g.qa;have a:SbOk L.fr.length L.g.qa.r (ol c i L):=b7l q L.pg (cC c i).1 e h.dk;have o:=N5 q L.pg (cC c i).1 e h.dk;have p:Wr L.pg L.fr (ol c i L).fr:=(N0 C (who:=(cC c i).1) u L.g.qa.r.n.toNat (X:=⟨L.fr,0,L.g.qa,L.dk,0,0,0,0⟩) q Z aag).wr;obtain⟨y,s⟩:∃y,ol c i L=y:=⟨_,Z⟩
 rw[show ml L.fr L.pg (cC c i).1 L.g.qa L.dk=y from s]at o;rw[s]at a p ⊢;have d:=h.wr p;exact⟨⟨d.m,d.pl,d.pp,d.f,⟨h.g.rd,h.g.rb,e.sb a,h.g.qb,h.g.qc,h.g.es⟩,a.x,h.pt,h.gt,h.bx⟩,hb.line Z Z Z (ID _ _ _) abw,λj B=>h.wo hr p B,v _,A _ _ aq,Qai _⟩;split;exact qJ h hb cl cl;split;have e:=h.g.qb;have a:SvOk L.fr.length L.g.qb.r (om c i L):=N2 q L.pg true (dP (du c i)) e h.pt;have o:=yF q L.pg true (dP (du c i)) e h.pt;have p:Wr L.pg L.fr (om c i L).fr:=(CI C (tx:=true) (port:=dP (du c i)) u L.g.qb.r.n.toNat (X:=⟨L.fr,0,L.g.qb,L.pt,0,0,0,0⟩) q Z aag).wr;obtain⟨y,s⟩:∃y,om c i L=y:=⟨_,Z⟩
 rw[show fM true L.fr L.pg (dP (du c i)) L.g.qb L.pt=y from s]at o;rw[s]at a p ⊢;have d:=h.wr p;exact⟨⟨d.m,d.pl,d.pp,d.f,⟨h.g.rd,h.g.rb,h.g.qa,e.sv a,h.g.qc,h.g.es⟩,h.dk,a.ps,h.gt,h.bx⟩,hb.line Z Z Z (ID _ _ _) abw,λj B=>h.wo hr p B,v _,A _ _ aq,Qai _⟩;have e:=h.g.qc;have a:SvOk L.fr.length L.g.qc.r (je c i L):=N2 q L.pg false (dP (du c i)) e h.pt;have o:=yF q L.pg false (dP (du c i)) e h.pt;have p:Wr L.pg L.fr (je c i L).fr:=(CI C (tx:=false) (port:=dP (du c i)) u L.g.qc.r.n.toNat (X:=⟨L.fr,0,L.g.qc,L.pt,0,0,0,0⟩) q Z aag).wr;obtain⟨y,s⟩:∃y,je c i L=y:=⟨_,Z⟩
 rw[show fM false L.fr L.pg (dP (du c i)) L.g.qc L.pt=y from s]at o;rw[s]at a p ⊢;have d:=h.wr p;exact⟨⟨d.m,d.pl,d.pp,d.f,⟨h.g.rd,h.g.rb,h.g.qa,h.g.qb,e.sv a,h.g.es⟩,h.dk,a.ps,h.gt,h.bx⟩,hb.line Z Z Z (ID _ _ _) abw,λj B=>h.wo hr p B,v _,A _ _ aq,Qai _⟩
omit hr
theorem b8l:CaOk c i L k b l t (x9 c i L):=by unfold x9;split;exact qJ h hb cl cl;split;exact qJ h hb cl cl;split;exact qJ h hb cl cl;exact CK h hb cl (b8g h.m.fr _ _) (h.g.reads _ (fy _)) Z Z Z (by show L.g.ln≤_;omega) abw
theorem b8m:CaOk c i L k b l t (xa c i L):=by
 unfold xa;have n:=W2 c (qC i L.g) L.fr L.pg;split;exact qJ h hb aq cl
 rename_i o
 have p:=VZ L.gt i (L.r 2) (lw L).length;refine⟨⟨h.m,h.pl,h.pp,h.f,h.g,h.dk,h.pt,?_,h.bx⟩,hb.le (Qan _) (Qan _) aq aq,λj _=>Oth.rfl' h.m.fr h.m.po,by show(mi L.gt i (L.r 2) (lw L).length).toNat<1000;omega,by show(0:Nat)<4294967296;decide,Qai _⟩;have a:=h.gt;show GtI c (nr L.gt i (L.r 2) (m8 (lw L)));unfold nr;rw[Et];split
 rename_i q
 obtain⟨s,u⟩:=b8h q;refine⟨a.who,a.cats,a.quota,?_,λr e=>?_⟩;have:=a.us;have:=a.quota;show 0≤L.gt.us+((m8 (lw L)).size:Int)/\L.gt.us+((m8 (lw L)).size:Int)≤c.quota;rw[Et];omega;rcases Qba.1 e with d|d;exact a.sz r d;rw[Qbw.1 d];show(m8 (lw L)).size≤16;rw[Et];omega;exact a
include hr
theorem b8n:CaOk c i L k b l t (xb L):=by
 unfold xb;split;exact qJ h hb cl cl;split;exact qJ h hb cl cl
 rename_i s n e
 have d:=h.bx;rw[e]at d;have u:s.size≤16:=d.2 s n4;have o:Wr L.pg L.fr (kU L.fr L.pg (L.r 2) (bL s)):=(MW h.m.pg h.m.pl h.m.fr (show 0<4096 by decide)).wr;have a:=h.wr o;exact⟨⟨a.m,a.pl,a.pp,a.f,a.g,a.dk,a.pt,a.gt,by have:=d.1;simp at this;show n.length≤4;omega,λy p=>d.2 y (Qaj _ p)⟩,hb.le (Qan _) (Qan _) aq aq,λj q=>h.wo hr o q,by show(0:Nat)<1000;decide,by show s.size<4294967296;omega,by show n.length≤L.bx.length;rw[e];simp⟩
omit hr
theorem b8o:CaOk c i L k b l t (vA L):=by
 unfold vA;split;exact qJ h hb cl cl;have a:(rS L).ok:=⟨hb.c.r.at_ _,hb.c.r.at_ _,hb.c.r.at_ _⟩
 obtain⟨e,j,m,n,o,q⟩:=W3 (g:=L.g) (d:=L.r 2%256) (f:=pS L.fr.length L.pg (rS L));have p:GuI (rT L.g (L.r 2%256) (pS L.fr.length L.pg (rS L))):=by
  unfold rT;split;exact⟨h.g.rd,h.g.rb,h.g.qa.lay a,h.g.qb,h.g.qc,h.g.es⟩;split;exact⟨h.g.rd,h.g.rb,h.g.qa,h.g.qb.lay a,h.g.qc,h.g.es⟩;exact⟨h.g.rd,h.g.rb,h.g.qa,h.g.qb,h.g.qc.lay a,h.g.es⟩
 exact CK h hb (by unfold wW;split<;>decide) cl p e j m (by rw[n];omega) (by rw[o];omega)
include hi hr hk9
theorem b8p:CaOk c i L k b l t (yH i L):=by
 have n:=eI hr;have o:=n.g4;have d:L.g.ln≤L.g.ln+1:=aq;have e:L.g.tm.now≤L.g.tm.now+1:=aq;have a:i<16:=aq;unfold yH;apply vB<;>intro _;exact qJ h hb cl aq;apply vB<;>intro _;have:=hb.k;exact qJ h hb cl (by unfold fF;omega);apply vB<;>intro _;exact qJ h hb cl cl;apply vB<;>intro _
 · exact W4 h hb (by unfold wS;(repeat' split);all_goals decide) cl (h.m.take a) ((mR.rfl' _).take) (b8a _ _ _) λj f=>b75 f h.m a
 apply vB<;>intro _
 · exact W4 h hb (by unfold wT;(repeat' split);all_goals decide) cl (h.m.gave a) ((mR.rfl' _).gave h.m) (b8b h.m.pg.len) λj f=>b76 f h.m a
 apply vB<;>intro _;exact b8o h hb;apply vB<;>intro _;exact CK h hb (by split<;>decide) cl (h.g.of Z Z Z Z h.g.es) Z Z Z d e;apply vB<;>intro _;exact CK h hb (by unfold um;split<;>decide) cl (h.g.of Z Z Z Z h.g.es) Z Z Z d e;apply vB<;>intro _;refine CK h hb (by split<;>decide) cl (h.g.of Z Z Z Z h.g.es) Z Z Z ?_ e;have:=F6 L.g.ls L.g.ln ((L.r 2:Nat):Int).toNat;show(if _ then gz L.g.ls L.g.ln ((L.r 2:Nat):Int).toNat else L.g.ln)≤_;split<;>omega;apply vB<;>intro _
 · exact CK h hb (by unfold vx;(repeat' split);all_goals decide) (fy _) (h.g.of Z Z Z Z h.g.es) Z Z Z d (b8f _ _)
 exact qJ h hb cl cl
omit hk9
theorem b8q:CaOk c i L k b l t (p9 c i L):=by
 have p:mn c i L<1000:=by unfold mn;(repeat' split);all_goals decide
 unfold p9;split
 rename_i a
 have g:L.r 2<c.nl.length:=by
  rcases Qaz (L.r 2) c.nl.length with q|q;exact q;exfalso;unfold mn at a;rw[Qad q]at a;exact absurd a cl
 have s:(eB c (L.r 2)).1=(i:Int):=by
  by_cases q:(eB c (L.r 2)).1=(i:Int);exact q;exfalso;unfold mn at a;rw[Qab aq,Qad q]at a;exact absurd a cl
 obtain⟨f,n,E,F,_⟩:=IC hr g;have u:j5 (eB c (L.r 2)) i≠0:=by unfold j5;rw[Qad s.symm];decide
 obtain⟨v,w⟩:=b8e hr (i:=i) g u;obtain⟨x,y⟩:=h.f (8+L.r 2) aq;have A:uo c (L.r 2)=f:=by rw[uo,n,Qae]
 have o:Wr L.pg L.fr (yD L.fr (uo c (L.r 2)) (L.r 3)):=by
  rw[A];refine⟨vd (vd h.m.fr),tP.trans tP,λB q=>?_⟩;have d:(f:Int)≠(B:Int):=λe=>q ((8+L.r 2:Nat):Int) (by rw[x,v]) (by rw[y,w,n,e]);unfold yD;rw[Fj d,Fj d]
 have C:=h.wr o;exact⟨C,hb.le (Qan _) (Qan _) aq aq,λj D=>h.wo hr o D,by show(0:Nat)<1000;decide,by show(0:Nat)<4294967296;decide,Qai _⟩;exact qJ h hb p cl
include hk9
theorem Nb:CaOk c i L k b l t (jz c i L):=by unfold jz;split;exact b8k hr h hb;split;exact b8q hr hi h hb;split;exact b8l h hb;split;exact b8m h hb;split;exact b8n hr h hb;exact b8p hr hi hk9 h hb
end
section
variable{c:Cfg}{i n:Nat}{wl:List Nat}{L:Ls}{k b l t:Int}(hr:rt c=true)(hi:i<c.gl.length)(hn:(cC c i).2.1=(n:Int))
theorem LI.an{r}(h:CaOk c i L k b l t r):LI c i (rU r):=h.li.wg (h.li.g.of Z Z Z Z (Na h.li.g.es))
theorem GB.an{r}(h:CaOk c i L k b l t r):GB (rU r).g k b (l+1) (t+1):=
  ⟨⟨b7T h.b.c.r (by have:=h.e;omega) (b8j h.w),by show ec r.L.g.c.pc<_;unfold ec;exact fy _,h.b.c.cs⟩,h.b.k,h.b.b,h.b.l,h.b.t⟩
theorem GB.anew(h:GB g k b l t)(a:0≤b/\0≤l/\0≤t):GB (oe g) k b l t:=
  ⟨VO,h.k,by show((0:Nat):Int)≤b;omega,by show(0:Int)≤l;omega,by show(0:Int)≤t;omega⟩
theorem GuI.anew(h:GuI g):GuI (oe g):=⟨Z,λx a=>by
 have:x∈[0,0,0,0]:=a
 simp at this;omega,QL.zero,QL.zero,QL.zero,Na h.es⟩
include hr hi hn
theorem Nc(h:LI c i L):n≤rQ i L.po/\n≤8/\0<L.po.length:=by
 have a:=eI hr;have b:=a.gs i hi;have d:=LE a hi;have e:=a.nd;have g:rQ i L.po=rQ i (iB c (dG c)):=by
  unfold rQ;rw[h.pl,wC];exact Qak List.length (Qci λf _=>by rw[h.pp f])
 have:=b8i (iB c (dG c)) i;refine⟨by rw[g];omega,aq,by rw[h.pl,dG];omega⟩
attribute [local irreducible] dK dV
theorem LI.anew(h:LI c i L):LI c i ((L.put (jN i n wl L.mm)).wg (oe L.g))/\∀j,j≠i->Oth j L.fr L.po (jN i n wl L.mm).fr (jN i n wl L.mm).po:=by have d:=eI hr;have e:=d.g4;obtain⟨b,a,k⟩:=Nc hr hi hn h;exact⟨(h.put (h.m.anew aq a b) ((mR.rfl' L.mm).anew h.m aq) (b8c h.m aq a)).wg h.g.anew,λj f=>b77 f h.m aq a b⟩
structure DoLk (c : Cfg) (i : Nat) (L : Ls) (k b l t : Int) (M : Ls) : Prop where
  li : LI c i M
  b : GB M.g k b (l + 1) (t + 1)
  o : ∀ j, j ≠ i → Oth j L.fr L.po M.fr M.po
theorem W5(e:k<1000000000)(h:LI c i L)(r:GB L.g k b l t)(s:0≤b/\0≤l/\0≤t):DoLk c i L k b l t (ge c i n wl L):=by
 have f:=Nb hr hi e h r;have d:=LI.an f;have a:=GB.an f;obtain⟨M,p⟩:∃M,rU (jz c i L)=M:=⟨_,Z⟩
 have m:∀j,j≠i->Oth j L.fr L.po M.fr M.po:=by rw[<-p];exact f.o
 unfold ge;rw[p]at d a ⊢;unfold rV;split;exact⟨d.wg (d.g.of Z Z Z Z (Na d.g.es)),⟨a.c,a.k,a.b,a.l,a.t⟩,m⟩;split;obtain⟨u,v⟩:=LI.anew (wl:=wl) hr hi hn d;exact⟨u,a.anew ⟨s.1,aq,aq⟩,λj q=>(m j q).trans (v j q)⟩;exact⟨d,a,m⟩
end
end
section
open Go.RowKit
set_option synthInstance.maxSize 1000
set_option synthInstance.maxHeartbeats 400000
abbrev IE(q:Cw):Rg3:=⟨q.b,q.c,q.d,((q.a/256:Nat):Int)⟩
theorem b8r (cb : Nat) (q : Cw) (hq : CwOk q) (hd : 3 ≤ q.a % 256) : sQ W0 243 ([pV cb] ++ [] ++ []) (pt cb (cy q) :: R) (.tuple #[iQ 1, wV 0]) (pt cb (cy q) :: R) := by
 simp only [Qaq]
 have ha := hq.a
 refine am func243 ntmps243 ?_
 refine ac (dW fP aX rfl rfl (i := 0) rfl cl dg) ?_
 refine ac (kg rfl rfl cl (oC q.a 256)) ?_
 refine aB rfl (fun c2 => ?_) fun c2 => ?_
 refine au 8 ?_
 exact aZ ax
 omega
theorem Nf (cb : Nat) (q : Cw) (z : Gz) (g : Gu) (hq : CwOk q) (hd : q.a % 256 < 3) (qb : Nat) (hqb : t8 z (q.a % 256) = qb) (s : QS) (fr : List az) (pg : List Pl) : sQ W0 243 ([pV cb] ++ [] ++ []) (pt cb (cy q) :: pt q.gb (bN z g) :: pt qb (qO true s) :: cR z.x.m ⟨z.pv, z.ps, z.pm, g.bud, fr, pg⟩ :: aH z.ps fr :: R) (.tuple #[iQ (wW fr.length pg (IE q)), wV 0]) (pt cb (cy q) :: pt q.gb (bN z g) :: pt qb (qO true (pS fr.length pg (IE q) s)) :: cR z.x.m ⟨z.pv, z.ps, z.pm, g.bud, fr, pg⟩ :: aH z.ps fr :: R) := by
 simp only [Qaq]
 have ha := hq.a
 have hr : (IE q).ok := ⟨hq.b, hq.c, hq.d⟩
 refine iW func243 ntmps243 rfl rfl ?_
 refine aG (aM (aa rfl (aU rfl) (aa rfl (aU rfl) (aI (aA (aG (aM (aa rfl (aV rfl) (aa rfl (fJ rfl) ?_)))))))))
 refine aa rfl (bT rfl lX rfl mX rfl dg) ?_
 refine aa rfl (bT rfl nz rfl vH rfl dg) ?_
 refine aa rfl (dW fP aX rfl rfl (i := 0) rfl cl dg) ?_
 refine aa rfl (bO jP rfl (aO rfl)) ?_
 refine aa rfl (kg rfl rfl cl (oC q.a 256)) ?_
 refine aa rfl (aU rfl) (aI (aA (aG (aG (aM (aa rfl (aV rfl) (aa rfl (z8 rfl rfl) (aI (aA ?_)))))))))
 refine aB rfl (fun c2 => ?_) fun c2 => ?_
 omega
 refine fH (aA (aG ?_))
 refine bH [cb] 29 fun hS => ?_
 refine aj 0 4 hS ?_
 refine aE 4 hS (dW fP aX rfl rfl (i := 1) rfl cl dg) ?_
 refine aj 5 5 hS ?_
 refine aE 10 hS (dW fP aX rfl rfl (i := 2) rfl cl dg) ?_
 refine aj 11 5 hS ?_
 refine aE 16 hS (dW fP aX rfl rfl (i := 3) rfl cl dg) ?_
 refine aj 17 5 hS ?_
 refine aE 22 hS (dW fP aX rfl rfl (i := 0) rfl cl dg) ?_
 refine aj 23 1 hS ?_
 refine aE 24 hS (qT rfl rfl cl (by rw [show ((q.a : Int).tdiv 256) = ((q.a / 256 : Nat) : Int) from uW q.a 256]; exact eh aq : IntKind.wrap .u32 ((q.a : Int).tdiv 256) = ((q.a / 256 : Nat) : Int))) ?_
 refine aE 25 hS (cv (bS aq)) ?_
 refine cI 26 rfl rfl rfl hS (eH Oa c2B (aT aX (aT aX (aT aX (aT bu eG)))) (cJ rfl aX rfl rfl (Qaa rfl) SetL.eq (cJ rfl aX rfl rfl (Qaa rfl) SetL.eq (cJ rfl aX rfl rfl (Qaa rfl) SetL.eq (cJ rfl bu rfl rfl (Qaa rfl) SetL.eq eE))))) ?_
 refine co 27 (cP c2B) ?_; clear hS
 rintro _ _ ⟨b5, rfl, rfl⟩
 refine ⟨aW, fun hS => ?_⟩
 refine cp 28 aR fun hS => ?_
 refine aS ?_
 refine bH [cb, b5] 18 fun hS => ?_
 refine aj 0 6 hS ?_
 refine aE 6 hS (cv (bS aq)) ?_
 refine aj 8 5 hS ?_
 refine aj 14 1 hS ?_
 refine co 7 (ar D9 (Ay W0 _ q.gb z g (q.a % 256) hd)) ?_; clear hS
 rintro _ B_ ⟨rfl, hB_⟩
 obtain rfl := hB_.symm
 rw [hqb]
 refine ⟨aW, fun hS => ?_⟩
 refine bQ 13 (ar tA (rP W0 _ q.gb z g)) fun hS => ?_
 refine bQ 15 (dF call322 (b65 z.x.m z.pv z.ps z.pm g.bud fr pg qb s (IE q) hr)) fun hS => ?_
 refine aj 16 2 hS ?_
 refine aS ?_
 exact aZ ax
end
section
open Go.RowKit
set_option synthInstance.maxSize 4000
theorem W6{f h i k a:Nat}{b:Po}(g:GMem j ⟨fr,pg,po⟩)(o:Oth j fr po fr' b):∀l,cR f ⟨h,i,k,a,fr,pg⟩ l->cR f ⟨h,i,k,a,fr',pg⟩ l:=λl ⟨C,⟨m,n,c,T,L,e,d,p,q,r,s,t⟩,u⟩=>
  ⟨C,⟨m,n,c,T,L,e,d,p,q,r,s.oth g o,t⟩,u⟩
theorem b8s{A R1 bm pv ps pm bud j fr fr' pg po po'}[h:Tk cR bm A ⟨pv,ps,pm,bud,fr,pg⟩ R1](g:GMem j ⟨fr,pg,po⟩)(o:Oth j fr po fr' po'):Ent A (cR bm ⟨pv,ps,pm,bud,fr',pg⟩::R1):=
  (Ent.ofPerm h.perm).trans ⟨λm ⟨a,b,c,d,e⟩=>⟨m,[],⟨a,b,c,W6 g o a d,e⟩,n4⟩⟩
structure Hb where
  cf : Cfg
  i : Nat
  gb : Nat
  wg : Nat
  wl : List Nat
  hb : Nat
  db : Nat
  qb : Nat
  tb : Nat
  cap : Nat
  gbs : List Nat
abbrev Hb.q(D:Hb)(lg:Nat)(g:Gu)(k:Int):Cw:=⟨D.gb,D.i,cn g.c.rl 1,cn g.c.rl 2,cn g.c.rl 3,cn g.c.rl 4,cn g.c.rl 5,k,D.hb,some ⟨lg,0,none⟩,D.gbs.length,D.cap⟩
abbrev Hb.X(D:Hb)(z:Gz)(L:Ls)(R:List HP):List HP:=pt z.x.c (fj L.g.c.cs z.i)::ew z.x.v (L.g.ls,L.g.ln)::mQ z.x.t L.g.tm::cR z.x.m ⟨z.pv,z.ps,z.pm,L.g.bud,L.fr,L.pg⟩::pt z.q0 (qO true L.g.qa)::pt z.q1 (qO true L.g.qb)::pt z.q2 (qO true L.g.qc)::pt D.wg (ae (D.wl.map wV) 62)::oi z.bx L.bx::aH z.ps L.fr::cz z.pb (z.ps,L.po)::dQ D.db L.dk::dC D.qb L.pt::jO D.tb L.gt::R
abbrev Hb.ho(D:Hb)(z:Gz):Obj:=cY D.cf z.ps z.pb D.db D.qb D.tb
abbrev Hb.A(D:Hb)(cb lg:Nat)(sp:List Value)(z:Gz)(g:Gu)(k:Int)(L:Ls)(R:List HP):List HP:=pt cb (cy (D.q lg g k))::pt D.hb (D.ho z)::pt lg (ae (D.gbs.map pV++sp) 49)::gN D.gb z L.g (D.X z L R)
def nt(W0:World)(D:Hb)(cb lg:Nat)(sp:List Value)(z:Gz)(L:Ls)(f:FuncId)(r:Lr)(R:List HP):Prop:=bE Tryz.prog W0 f ([pV cb]++[]++[]) (D.A cb lg sp z L.g 0 L R) (λv B=>v=.tuple #[.int .i64 (r.e:Nat),wV r.w]/\B=D.A cb lg sp z L.g r.k r.L R)
structure HdI (W0 : World) (D : Hb) (z : Gz) (L : Ls) (k b0 l0 t : Int) : Prop where
  ok : CfK W0 D.cf
  r : rt D.cf = true
  hi : D.i < D.cf.gl.length
  zi : z.i = D.i
  zc : z.c = D.cf
  zw : z.wv = .slice (some ⟨D.wg, 0, none⟩) D.wl.length D.wl.length
  wb : (∀ y ∈ D.wl, y < 4294967296) ∧ D.wl.length ≤ 128
  l : LI D.cf D.i L
  b : GB L.g k b0 l0 t
  k9 : k < 1000000000
  l9 : l0 < 4000000000000000000
  t9 : t < 700
  gl : L.gt.l.length < 100000
section
variable{W0:World}{D:Hb}{cb lg:Nat}{sp:List Value}{z:Gz}{L:Ls}{k b l t:Int}{R:List HP}(h:HdI W0 D z L k b l t)
include h
theorem HdI.i4:D.i<4:=by have:=(eI h.r).g4;have:=h.hi;omega
theorem HdI.q k:CwOk (D.q lg L.g k):=⟨h.i4,h.b.c.r.at_ _,h.b.c.r.at_ _,h.b.c.r.at_ _,h.b.c.r.at_ _,h.b.c.r.at_ _⟩
theorem HdI.ck:L.g.clock<1000000000:=by have:=h.b.k;have:=h.k9;omega
theorem HdI.z4:z.i<4:=by rw[h.zi];exact h.i4
theorem HdI.m:GMem z.i L.mm:=by rw[h.zi];exact h.l.m
theorem HdI.p0:0<L.mm.po.length:=by have:=(eI h.r).nd;show 0<L.po.length;rw[h.l.pl,dG];omega
theorem b8t : nt W0 D cb lg sp z L 238 ⟨0, D.i, 0, L⟩ R := cF (b7M cb _ h.i4) fun v B hB => by
 obtain ⟨rfl, rfl⟩ := hB
 exact ax
theorem b8u:nt W0 D cb lg sp z L 239 ⟨0,fF L.g.clock,0,L⟩ R:=eR tF (cF (b6N W0 _ cb (D.q lg L.g 0) z L.g h.ck) λv B a=>by
 obtain⟨rfl,rfl⟩:=a
 exact⟨_,⟨Z,Z⟩,inferInstance⟩)
omit h in
theorem b8v:nt W0 D cb lg sp z L 240 (qI 0 L) R:=cF (b6L W0 _ cb) λv B a=>by
 obtain⟨rfl,rfl⟩:=a;exact ax
omit h in
theorem b8w:nt W0 D cb lg sp z L 248 (qI 1 L) R:=cF (b6M W0 _ cb) λv B a=>by
 obtain⟨rfl,rfl⟩:=a;exact ax
theorem b8x:nt W0 D cb lg sp z L 241 ⟨(wS D.i (L.r 2) L.mm).toNat,0,0,L.put (lT D.i (L.r 2) L.mm)⟩ R:=by
 have a:=h.zi;have b:=h.z4;have l:=h.m;obtain⟨c,n,o,p,d,f,j,s,t,u,w,G,y⟩:=z;dsimp only at a;subst a
 exact eR xy (cF (b6O W0 _ cb (D.q lg L.g 0) ⟨c,n,o,p,d,f,j,s,t,u,w,D.i,y⟩ L.g (h.q 0) b L.mm l h.p0) λv B C=>by
 obtain⟨rfl,rfl⟩:=C;have e:((wS D.i (L.r 2) L.mm).toNat:Int)=wS D.i (L.r 2) L.mm:=QbZ (by unfold wS;split<;>(try split)<;>(try split)<;>decide);refine⟨_,⟨?_,Z⟩,?_⟩;rw[e];have k:=b73 D.i ((L.r 2:Nat):Int) L.mm;obtain⟨x,E⟩:∃x,lT D.i ((L.r 2:Nat):Int) L.mm=x:=⟨_,Z⟩
 rw[E]at k ⊢;have F:L.fr=x.fr:=k.symm;show Ent (_::_::cR c.m ⟨d,f,j,L.g.bud,x.fr,x.pg⟩::_) (D.A cb lg sp _ L.g 0 (L.put x) R);rw[F]
 exact inferInstance)
theorem b8y:nt W0 D cb lg sp z L 242 ⟨(wT (L.r 2) L.mm).toNat,0,0,L.put (mh D.i (L.r 2) L.mm)⟩ R:=by
 have a:=h.zi;have b:=h.z4;have c:=h.m;obtain⟨d,f,j,k,l,n,o,p,s,t,u,y,w⟩:=z;dsimp only at a;subst a
 exact eR tH (cF (b6P W0 _ cb (D.q lg L.g 0) ⟨d,f,j,k,l,n,o,p,s,t,u,D.i,w⟩ L.g (h.q 0) b L.mm c) λv B x=>by
 obtain⟨rfl,rfl⟩:=x;have e:((wT (L.r 2) L.mm).toNat:Int)=wT (L.r 2) L.mm:=QbZ (by unfold wT;split<;>(try split)<;>decide);refine aP ?_
 rw[e])
theorem b8z : nt W0 D cb lg sp z L 243 (vA L) R := by
 have hq : CwOk (D.q lg L.g 0) := h.q 0
 by_cases hd : 3 ≤ L.r 2 % 256
 rw [vA, Qad hd]
 exact eR uO (cF (b8r cb (D.q lg L.g 0) hq hd) fun v B hB => by
  obtain ⟨rfl, rfl⟩ := hB
  exact ⟨_, ⟨rfl, rfl⟩, inferInstance⟩)
 rw [vA, Qab hd]
 have e : ((wW L.fr.length L.pg (rS L)).toNat : Int) = wW L.fr.length L.pg (rS L) := QbZ (by unfold wW; split <;> decide)
 have h3 : L.r 2 % 256 = 0 ∨ L.r 2 % 256 = 1 ∨ L.r 2 % 256 = 2 := aq
 rcases h3 with q | q | q
 refine eR tH (cF (Nf cb (D.q lg L.g 0) z L.g hq (by show L.r 2 % 256 < 3; omega) z.q0 (by show t8 z (L.r 2 % 256) = z.q0; rw [q]; rfl) L.g.qa L.fr L.pg) fun v B hB => ?_)
 obtain ⟨rfl, rfl⟩ := hB
 refine ⟨_, ⟨by rw [e], rfl⟩, ?_⟩
 rw [show rT L.g (L.r 2 % 256) (pS L.fr.length L.pg (rS L)) = { L.g with qa := pS L.fr.length L.pg (rS L) L.g.qa } by rw [q]; rfl]
 exact IO
 refine eR tH (cF (Nf cb (D.q lg L.g 0) z L.g hq (by show L.r 2 % 256 < 3; omega) z.q1 (by show t8 z (L.r 2 % 256) = z.q1; rw [q]; rfl) L.g.qb L.fr L.pg) fun v B hB => ?_)
 obtain ⟨rfl, rfl⟩ := hB
 refine ⟨_, ⟨by rw [e], rfl⟩, ?_⟩
 rw [show rT L.g (L.r 2 % 256) (pS L.fr.length L.pg (rS L)) = { L.g with qb := pS L.fr.length L.pg (rS L) L.g.qb } by rw [q]; rfl]
 exact IO
 refine eR tH (cF (Nf cb (D.q lg L.g 0) z L.g hq (by show L.r 2 % 256 < 3; omega) z.q2 (by show t8 z (L.r 2 % 256) = z.q2; rw [q]; rfl) L.g.qc L.fr L.pg) fun v B hB => ?_)
 obtain ⟨rfl, rfl⟩ := hB
 refine ⟨_, ⟨by rw [e], rfl⟩, ?_⟩
 rw [show rT L.g (L.r 2 % 256) (pS L.fr.length L.pg (rS L)) = { L.g with qc := pS L.fr.length L.pg (rS L) L.g.qc } by rw [q]; rfl]
 exact IO
theorem b8A:nt W0 D cb lg sp z L 244 ⟨if dR (L.r 2)then 0 else 1,0,0,L.wg { L.g with ls:=if dR (L.r 2)then Fb L.g.ls (L.r 2) (decide (L.r 3≠0))else L.g.ls }⟩ R:=eR qi (cF (b6Q W0 _ cb (D.q lg L.g 0) z L.g (h.q 0)) λv B a=>by
 obtain⟨rfl,rfl⟩:=a;refine aP ?_;show _=Value.tuple #[iQ ((if dR (L.r 2)then 0 else 1:Nat):Int),wV 0]
 split<;>rfl)
theorem b8B:nt W0 D cb lg sp z L 245 ⟨(um (L.r 2) (L.r 3)).toNat,0,0,L.wg { L.g with ls:=Ax L.g.ls (L.r 2) (L.r 3) }⟩ R:=eR qi (cF (b6R W0 _ cb (D.q lg L.g 0) z L.g (h.q 0)) λv B a=>by
 obtain⟨rfl,rfl⟩:=a;have e:((um (L.r 2) (L.r 3)).toNat:Int)=um (L.r 2) (L.r 3):=QbZ (by unfold um;split<;>decide);refine aP ?_
 rw[e])
theorem b8C:nt W0 D cb lg sp z L 246 ⟨if dR (L.r 2)then 0 else 1,0,0,L.wg (iO L.g (L.r 2))⟩ R:=eR qi (cF (b6S W0 _ cb (D.q lg L.g 0) z L.g (h.q 0) (by have:=h.b.l;have:=h.l9;omega)) λv B a=>by
 obtain⟨rfl,rfl⟩:=a;refine⟨_,⟨?_,Z⟩,?_⟩;show _=Value.tuple #[iQ ((if dR (L.r 2)then 0 else 1:Nat):Int),wV 0];split<;>rfl;show Ent _ (D.A cb lg sp z L.g 0 (L.wg { L.g with ls:=if dR (L.r 2)then jb L.g.ls L.g.ln (L.r 2)else L.g.ls,ln:=if dR (L.r 2)then gz L.g.ls L.g.ln (L.r 2)else L.g.ln }) R)
 exact inferInstance)
theorem b8D:nt W0 D cb lg sp z L 247 ⟨(vx L.g.tm (yG L)).toNat,u32 (Cx L.g.tm (yG L)),0,L.wg { L.g with tm:=yr L.g.tm (yG L) }⟩ R:=eR qi (cF (b6T W0 _ cb (D.q lg L.g 0) z L.g (h.q 0) h.ck (by have:=h.b.t;have:=h.t9;omega)) λv B a=>by
 obtain⟨rfl,rfl⟩:=a;have e:((vx L.g.tm (yG L)).toNat:Int)=vx L.g.tm (yG L):=QbZ (by unfold vx;split<;>(try split)<;>decide);refine aP ?_
 rw[e])
theorem b8E:nt W0 D cb lg sp z L 142 (wZ D.cf D.i L) R:=by
 have C:CwOk (D.q lg L.g 0):=h.q 0;have A:L.g.ln<4000000000000000000:=by have:=h.b.l;have:=h.l9;omega
 unfold wZ;by_cases P:3≤L.r 2;rw[Qad P]
 exact eR tF (cF (b7r cb (D.q lg L.g 0) C D.cf z.ps z.pb D.db D.qb D.tb h.ok P) λv B p=>by
  obtain⟨rfl,rfl⟩:=p
  exact⟨_,⟨Z,Z⟩,inferInstance⟩)
 rw[Qab P];by_cases O:L.r 2=0;rw[Qad O];refine eR DD (cF (b7L W0 _ cb (D.q lg L.g 0) C z L.g D.cf z.ps z.pb D.db D.qb D.tb h.ok A L.fr h.l.m.fr L.pg L.g.qa h.l.g.qa O L.dk h.l.dk h.hi) λv B p=>?_);obtain⟨y,⟨E,F,G,H,I,J,K⟩,M,rfl,rfl⟩:=p;have a:y.fr=(ol D.cf D.i L).fr:=E;have d:y.s=(ol D.cf D.i L).s:=F;have e:y.x=(ol D.cf D.i L).x:=G;have f:y.c=(ol D.cf D.i L).c:=H;have j:y.n=(ol D.cf D.i L).n:=I;have k:y.b=(ol D.cf D.i L).b:=J;have o:y.w=(ol D.cf D.i L).w:=K;obtain⟨u,t⟩:∃u,ol D.cf D.i L=u:=⟨_,Z⟩
 rw[t]at a d e f j k o;rw[t,N8,a,d,e,f,j,k,o];exact ax;rw[Qab O];by_cases N:du D.cf D.i=none;rw[Qad N]
 exact eR tF (cF (b7s cb (D.q lg L.g 0) C D.cf z.ps z.pb D.db D.qb D.tb h.ok (by show L.r 2<3;omega) O N) λv B p=>by
  obtain⟨rfl,rfl⟩:=p
  exact⟨_,⟨Z,Z⟩,inferInstance⟩)
 rw[Qab N];by_cases Q:L.r 2=1;rw[Qad Q];refine eR DD (cF (b7J W0 _ cb (D.q lg L.g 0) C z L.g D.cf z.ps z.pb D.db D.qb D.tb h.ok A L.fr h.l.m.fr L.pg L.g.qb h.l.g.qb Q N L.pt h.l.pt) λv B p=>?_);obtain⟨y,⟨E,F,G,H,I,J,K⟩,M,rfl,rfl⟩:=p;have a:y.fr=(om D.cf D.i L).fr:=E;have d:y.s=(om D.cf D.i L).s:=F;have e:y.ps=(om D.cf D.i L).ps:=G;have f:y.c=(om D.cf D.i L).c:=H;have j:y.n=(om D.cf D.i L).n:=I;have k:y.b=(om D.cf D.i L).b:=J;have o:y.w=(om D.cf D.i L).w:=K;obtain⟨u,t⟩:∃u,om D.cf D.i L=u:=⟨_,Z⟩
 rw[t]at a d e f j k o;rw[t,N8,a,d,e,f,j,k,o];exact ax;rw[Qab Q];refine eR DD (cF (b7K W0 _ cb (D.q lg L.g 0) C z L.g D.cf z.ps z.pb D.db D.qb D.tb h.ok A L.fr h.l.m.fr L.pg L.g.qc h.l.g.qc (by show L.r 2=2;omega) N L.pt h.l.pt) λv B p=>?_);obtain⟨y,⟨E,F,G,H,I,J,K⟩,M,rfl,rfl⟩:=p;have a:y.fr=(je D.cf D.i L).fr:=E;have d:y.s=(je D.cf D.i L).s:=F;have e:y.ps=(je D.cf D.i L).ps:=G;have f:y.c=(je D.cf D.i L).c:=H;have j:y.n=(je D.cf D.i L).n:=I;have k:y.b=(je D.cf D.i L).b:=J;have o:y.w=(je D.cf D.i L).w:=K;obtain⟨u,t⟩:∃u,je D.cf D.i L=u:=⟨_,Z⟩
 rw[t]at a d e f j k o;rw[t,N8,a,d,e,f,j,k,o];exact ax
theorem b8F:nt W0 D cb lg sp z L 144 (x9 D.cf D.i L) R:=by
 have e:CwOk (D.q lg L.g 0):=h.q 0
 have a:=(eI h.r).nn
 unfold x9
 by_cases k:D.cf.nl.length≤L.r 2
 rw[Qad k]
 exact eR tF (cF (b7x cb (D.q lg L.g 0) e D.cf z.ps z.pb D.db D.qb D.tb h.ok a k) λv B b=>by
  obtain⟨rfl,rfl⟩:=b
  exact⟨_,⟨rfl,rfl⟩,inferInstance⟩)
 rw[Qab k]
 by_cases n:(eB D.cf (L.r 2)).2≠(D.i:Int)
 rw[Qad n]
 exact eR tF (cF (b7y cb (D.q lg L.g 0) e D.cf z.ps z.pb D.db D.qb D.tb h.ok a (by show L.r 2<_;omega) n) λv B b=>by
  obtain⟨rfl,rfl⟩:=b
  exact⟨_,⟨rfl,rfl⟩,inferInstance⟩)
 rw[Qab n]
 have c:(eB D.cf (L.r 2)).2=(D.i:Int):=aq
 obtain⟨f,o,p,_⟩:=IC h.r (show L.r 2<D.cf.nl.length by omega)
 have d:f<L.fr.length:=by rw[h.l.len];exact p
 have s:uo D.cf (L.r 2)=f:=by rw[uo,o,Qae]
 rw[s]
 by_cases j:gW L.fr f 0 4=cn L.g.rd (L.r 2)
 rw[Qad j]
 exact eR xy (cF (b7z cb (D.q lg L.g 0) z L.g e D.cf z.ps z.pb D.db D.qb D.tb h.ok a (by show L.r 2<_;omega) c L.fr h.l.m.fr f o d (h.l.g.rdA _) j) λv B b=>by
  obtain⟨rfl,rfl⟩:=b
  exact⟨_,⟨rfl,rfl⟩,inferInstance⟩)
 rw[Qab j]
 exact eR xy (cF (b7A cb (D.q lg L.g 0) z L.g e D.cf z.ps z.pb D.db D.qb D.tb h.ok a (by show L.r 2<_;omega) c L.fr h.l.m.fr f o d (h.l.g.rdA _) h.l.g.rd j) λv B b=>by
  obtain⟨rfl,rfl⟩:=b
  exact⟨_,⟨rfl,rfl⟩,inferInstance⟩)
theorem b8G:nt W0 D cb lg sp z L 145 (xa D.cf D.i L) R:=by have d:CwOk (D.q lg L.g 0):=h.q 0;have e:=W2 D.cf (qC D.i L.g) L.fr L.pg;have f:=(EH h.r).2.2;have a:=h.l.gt;unfold xa;by_cases b:oj D.cf (qC D.i L.g) L.fr L.pg≠0;rw[Qad b];refine eR tH (cF (b7a cb (D.q lg L.g 0) z L.g d D.cf z.ps z.pb D.db D.qb D.tb L.fr L.pg b) λv B c=>?_);obtain⟨rfl,rfl⟩:=c;refine aP ?_;show Value.tuple #[iQ (oj D.cf (qC D.i L.g) L.fr L.pg),wV 0]=Value.tuple #[iQ (((oj D.cf (qC D.i L.g) L.fr L.pg).toNat:Nat):Int),wV 0];rw[QbZ e.1];rw[Qab b];have j:=VZ L.gt D.i (L.r 2) (lw L).length;refine eR xz (cF (b7b cb (D.q lg L.g 0) z L.g d D.cf z.ps z.pb D.db D.qb D.tb L.fr L.pg h.l.m.fr (by show oj D.cf (qC D.i L.g) L.fr L.pg=0;omega) L.gt h.gl (by have:=a.us;have:=a.quota;omega) (lw L) Z) λv B c=>?_);obtain⟨rfl,rfl⟩:=c;refine aP ?_;show Value.tuple #[iQ (mi L.gt D.i (L.r 2) (lw L).length),wV 0]=Value.tuple #[iQ (((mi L.gt D.i (L.r 2) (lw L).length).toNat:Nat):Int),wV 0];rw[QbZ j.1]
theorem b8H:nt W0 D cb lg sp z L 146 (xb L) R:=by
 have d:CwOk (D.q lg L.g 0):=h.q 0;unfold xb;by_cases c:d9 L.fr.length L.pg (L.r 2) 16=false;rw[Qad c]
 exact eR xy (cF (b67 cb (D.q lg L.g 0) z L.g d L.fr L.pg c) λv B b=>by
  obtain⟨rfl,rfl⟩:=b
  exact⟨_,⟨Z,Z⟩,inferInstance⟩)
 rw[Qab c];have i:d9 L.fr.length L.pg (L.r 2) 16=true:=by simpa using c
 obtain⟨j,a⟩:∃j,L.bx=j:=⟨_,Z⟩
 have e:=h.l.bx;rw[a]at e;obtain⟨g,k,f,m,p,t,n,u⟩:=L;dsimp only at a;subst a
 cases f with
 |nil=>
  exact eR tH (cF (b68 cb (D.q lg g 0) z g d m k i) λv B b=>by
   obtain⟨rfl,rfl⟩:=b
   exact⟨_,⟨Z,Z⟩,inferInstance⟩)
 |cons s o=>
  exact eR tH (cF (b69 cb (D.q lg g 0) z g d m k s o (by have:=e.1;simp at this;omega) (e.2 s n4) i) λv B b=>by
   obtain⟨rfl,rfl⟩:=b
   exact⟨_,⟨Z,Z⟩,inferInstance⟩)
theorem b8I(he:mn D.cf D.i L≠0):nt W0 D cb lg sp z L 143 (p9 D.cf D.i L) R:=by
 have e:CwOk (D.q lg L.g 0):=h.q 0
 have a:=(eI h.r).nn
 rw[p9,Qab he]
 unfold mn at he ⊢
 by_cases b:D.cf.nl.length≤L.r 2
 rw[Qad b]
 exact eR tF (cF (b7B cb (D.q lg L.g 0) e D.cf z.ps z.pb D.db D.qb D.tb h.ok a b) λv B c=>by
  obtain⟨rfl,rfl⟩:=c
  exact⟨_,⟨rfl,rfl⟩,inferInstance⟩)
 rw[Qab b]at he ⊢
 by_cases d:(eB D.cf (L.r 2)).1≠(D.i:Int)
 rw[Qad d]
 exact eR tF (cF (b7C cb (D.q lg L.g 0) e D.cf z.ps z.pb D.db D.qb D.tb h.ok a (by show L.r 2<_;omega) d) λv B c=>by
  obtain⟨rfl,rfl⟩:=c
  exact⟨_,⟨rfl,rfl⟩,inferInstance⟩)
 rw[Qab d]at he;exact absurd rfl he
theorem b8J(a:mn D.cf D.i L=0){j c:Nat}(y:(eB D.cf (L.r 2)).2=j)(d:D.gbs[j]?=some c)z2 g2(n:g2.ln<4000000000000000000):
    bE Tryz.prog W0 143 ([pV cb]++[]++[]) (D.A cb lg sp z L.g 0 L (pt c (bN z2 g2)::ew z2.x.v (g2.ls,g2.ln)::R)) (λv B=>v=.tuple #[iQ ((p9 D.cf D.i L).e),wV (p9 D.cf D.i L).w]/\B=D.A cb lg sp z L.g (p9 D.cf D.i L).k (p9 D.cf D.i L).L (pt c (bN z2 g2)::ew z2.x.v (jb g2.ls g2.ln 4,gz g2.ls g2.ln 4)::R)):=by
 have C:CwOk (D.q lg L.g 0):=h.q 0;have o:=(eI h.r).nn;rw[p9,Qad a];have s:L.r 2<D.cf.nl.length:=by
  rcases Qaz (L.r 2) D.cf.nl.length with q|q;exact q;exfalso;unfold mn at a;rw[Qad q]at a;exact absurd a cl
 have E:(eB D.cf (L.r 2)).1=(D.i:Int):=by
  by_cases q:(eB D.cf (L.r 2)).1=(D.i:Int);exact q;exfalso;unfold mn at a;rw[Qab aq,Qad q]at a;exact absurd a cl
 obtain⟨f,t,F,G,_⟩:=IC h.r s;have p:f<L.fr.length:=by rw[h.l.len];exact F
 have H:uo D.cf (L.r 2)=f:=by rw[uo,t,Qae]
 have I:Oth D.i L.fr L.po (yD L.fr f (L.r 3)) L.po:=⟨vd (vd h.l.m.fr),h.l.m.po,tP.trans tP,Z,λ_=>Z,λ_ _=>Z,λu q=>by
  have b:(f:Int)≠(u:Int):=λe=>by
   obtain rfl:f=u:=aq;rw[h.l.pp,G]at q;omega
  unfold yD
  rw[Fj b,Fj b]⟩
 rw[H];refine eR xz (cF (b7D W0 _ cb (D.q lg L.g 0) C D.cf z.ps z.pb D.db D.qb D.tb h.ok o s E L.fr h.l.m.fr f t p lg Z D.gbs sp Z j y c d z2 g2 n) λv B J=>?_);obtain⟨rfl,rfl⟩:=J;exact⟨_,⟨Z,Z⟩,(b8s (bm:=z.x.m) (pv:=z.pv) (ps:=z.ps) (pm:=z.pm) (bud:=L.g.bud) h.l.m I).trans inferInstance⟩
end
end
section
open Go.RowKit
set_option synthInstance.maxSize 4000
def Zs(z z':Gz):Prop:=∃y q0 q1 q2,z'={ z with x:=y,q0:=q0,q1:=q1,q2:=q2 }
theorem Zs.rfl' z:Zs z z:=⟨z.x,z.q0,z.q1,z.q2,Z⟩
abbrev Hb.n(D:Hb):Nat:=(cC D.cf D.i).2.1.toNat
section
variable{W0:World}{D:Hb}{cb lg:Nat}{sp:List Value}{z:Gz}{L:Ls}{k b l t:Int}{R:List HP}(h:HdI W0 D z L k b l t)
include h
theorem b8K(s:L.r 1=8->mn D.cf D.i L≠0):nt W0 D cb lg sp z L (k7 (L.r 1)) (jz D.cf D.i L) R:=by unfold jz k7;by_cases j:L.r 1=7;rw[Qad j,Qad j];exact b8E h;rw[Qab j,Qab j];by_cases g:L.r 1=8;rw[Qad g,Qad g];exact b8I h (s g);rw[Qab g,Qab g];by_cases k:L.r 1=9;rw[Qad k,Qad k];exact b8F h;rw[Qab k,Qab k];by_cases a:L.r 1=13;rw[Qad a,Qad a];exact b8G h;rw[Qab a,Qab a];by_cases b:L.r 1=14;rw[Qad b,Qad b];exact b8H h;rw[Qab b,Qab b];unfold yH jd;by_cases l:L.r 1=0;rw[Qad l,Qad l];exact b8t h;rw[Qab l,Qab l];by_cases m:L.r 1=1;rw[Qad m,Qad m];exact b8u h;rw[Qab m,Qab m];by_cases n:L.r 1=2\/L.r 1=3;rw[Qad n,Qad n];exact b8v;rw[Qab n,Qab n];by_cases o:L.r 1=4;rw[Qad o,Qad o];exact b8x h;rw[Qab o,Qab o];by_cases p:L.r 1=5;rw[Qad p,Qad p];exact b8y h;rw[Qab p,Qab p];by_cases q:L.r 1=6;rw[Qad q,Qad q];exact b8z h;rw[Qab q,Qab q];by_cases c:L.r 1=10;rw[Qad c,Qad c];exact b8A h;rw[Qab c,Qab c];by_cases d:L.r 1=11;rw[Qad d,Qad d];exact b8B h;rw[Qab d,Qab d];by_cases e:L.r 1=12;rw[Qad e,Qad e];exact b8C h;rw[Qab e,Qab e];by_cases f:L.r 1=15;rw[Qad f,Qad f];exact b8D h;rw[Qab f,Qab f];exact b8w
theorem b8L{r}(hc:CaOk D.cf D.i L k b l t r){R}cb q(hqg:q.gb=D.gb)n(hqn:q.n=n)lg O1 O2:sP W0 78 [pV cb] (pt cb (cy q)::pt D.hb O1::pt lg O2::gN D.gb z (rU r).g (D.X z (rU r) R)) (λv B=>v=.tuple #[]/\∃z',Zs z z'/\B=pt cb (cy q)::pt D.hb O1::pt lg O2::gN D.gb z' (rV D.i D.n D.wl n (rU r)).g (D.X z' (rV D.i D.n D.wl n (rU r)) R)):=by
 obtain⟨U,i',E,a',b',c',d',w',V,W,Y,Z⟩:=q;dsimp only at hqg hqn;subst hqg hqn;have p:=LI.an hc;have s:=GB.an hc;obtain⟨M,hM⟩:∃M,rU r=M:=⟨_,ρ⟩
 rw[hM]at p s ⊢;have x0:=h.k9;have F:M.g.clock<1000000000:=by have:=s.k;omega
 unfold rV;by_cases j:E=2;rw[Qad j];refine eR xy (cF (b7H W0 _ cb _ z M.g j F s.c.r.len) λv B a=>?_);obtain⟨rfl,rfl⟩:=a;exact⟨_,⟨ρ,z,Zs.rfl' z,ρ⟩,IO⟩;rw[Qab j];by_cases o:E=3;rw[Qad o];have G:(cC D.cf D.i).2.1=((D.n:Nat):Int):=by
  have:=(eI h.r).gs D.i h.hi;show(cC D.cf D.i).2.1=(((cC D.cf D.i).2.1.toNat:Nat):Int);omega
 obtain⟨p1,p2,p3⟩:=Nc h.r h.hi G p;have d:=h.zi;have e:=h.zc;have f:=h.zw;obtain⟨zx,u,w,C,H,I,J,K,N,O,P,zi,zc⟩:=z;dsimp only at d e f;subst d e;refine eR xz (cF (b7I W0 _ cb _ ⟨zx,u,w,C,H,I,J,K,N,O,P,D.i,D.cf⟩ M.g o h.ok h.r h.hi F M.mm p.m p3 D.n G p1 (some ⟨D.wg,0,none⟩) D.wl.length D.wl f (λA hA=>bZ.weak (k:=hA) (uU (b:=D.wg) (λ_=>ρ) (SA D.wl).symm)) h.wb.1 h.wb.2) λv B a=>?_);obtain⟨y,Q,S,T,rfl,rfl⟩:=a;obtain⟨x,hx⟩:∃x,jN D.i D.n D.wl M.mm=x:=⟨_,ρ⟩
 rw[hx];exact⟨_,⟨ρ,⟨y,Q,S,T,H,I,J,K,N,O,P,D.i,D.cf⟩,⟨y,Q,S,T,ρ⟩,ρ⟩,IO⟩;rw[Qab o];refine cF (VJ W0 _ cb _ j o) λv B a=>?_;obtain⟨rfl,rfl⟩:=a;exact⟨_,⟨ρ,z,Zs.rfl' z,ρ⟩,ent_refl⟩
theorem b8M(y:L.r 1=8->mn D.cf D.i L≠0)(A:D.gbs[D.i]?=some D.gb)(C:D.gbs.length≤4)a:sP W0 32 [pV D.hb,.slice a D.gbs.length D.cap,iQ D.i] (pt D.hb (D.ho z)::osl 49 1 (.slice a D.gbs.length D.cap) (D.gbs.map pV)::gN D.gb z L.g (D.X z L R)) (λv B=>∃d,Zs z d/\v=.tuple #[iQ ((jz D.cf D.i L).e),iQ (jz D.cf D.i L).k]/\B=pt D.hb (D.ho z)::osl 49 1 (.slice a D.gbs.length D.cap) (D.gbs.map pV)::gN D.gb d (ge D.cf D.i D.n D.wl L).g (D.X d (ge D.cf D.i D.n D.wl L) R)):=by
 have o:=Nb h.r h.hi h.k9 h.l h.b;obtain⟨r,s⟩:∃r,jz D.cf D.i L=r:=⟨_,Z⟩
 have E:∀f j t,nt W0 D f j t z L (k7 (L.r 1)) r R:=λf j t=>by rw[<-s];exact b8K h y
 rw[s]at o;have F:ge D.cf D.i D.n D.wl L=rV D.i D.n D.wl (L.r 1) (rU r):=by rw[<-s]
 rw[s,F]
 refine cF (VK W0 D.hb D.cf z.ps z.pb D.db D.qb D.tb a D.cap D.gbs D.i D.gb A C z L.g h.b.c.r.len (D.X z L R)
   (λe w m u Y=>e=r.e/\w=r.w/\m=r.k/\u=r.L.g/\Y=D.X z r.L R) ?_
   (λV e m=>e=((r.e:Nat):Int)/\m=r.k/\∃d,Zs z d/\V=gN D.gb d (rV D.i D.n D.wl (L.r 1) (rU r)).g (D.X d (rV D.i D.n D.wl (L.r 1) (rU r)) R)) (VN _) ?_ ?_) λv B p=>?_
 rintro e w m u Y ⟨rfl,rfl,rfl,rfl,rfl⟩;exact⟨by have:=o.b.k;have:=h.k9;omega,o.b.c.r.len,o.e⟩;intro f j t;refine cF (E f j t) λv B p=>?_;obtain⟨rfl,rfl⟩:=p;exact⟨_,⟨r.e,r.w,r.k,r.L.g,D.X z r.L R,⟨Z,Z,Z,Z,Z⟩,Z,Z⟩,ent_refl⟩;rintro e w m u Y ⟨rfl,rfl,rfl,rfl,rfl⟩ f q hqg hqn j O1 O2;refine cF (b8L h o f q hqg (L.r 1) hqn j O1 O2) λv B p=>?_;obtain⟨rfl,d,x,rfl⟩:=p;exact⟨_,⟨Z,_,⟨Z,Z,d,x,Z⟩,Z⟩,ent_refl⟩;obtain⟨e,m,V,⟨rfl,rfl,d,x,rfl⟩,rfl,rfl⟩:=p;exact⟨_,⟨d,x,Z,Z⟩,ent_refl⟩
theorem b8N(E:L.r 1=8)(H:mn D.cf D.i L=0)(I:D.gbs[D.i]?=some D.gb)(J:D.gbs.length≤4)a{j m:Nat}(K:(eB D.cf (L.r 2)).2=j)(q:D.gbs[j]?=some m)z2 d(s:d.ln<4000000000000000000):
    bE Tryz.prog W0 32 [pV D.hb,.slice a D.gbs.length D.cap,iQ D.i] (pt D.hb (D.ho z)::osl 49 1 (.slice a D.gbs.length D.cap) (D.gbs.map pV)::gN D.gb z L.g (D.X z L (pt m (bN z2 d)::ew z2.x.v (d.ls,d.ln)::R)))
      (λv B=>v=.tuple #[iQ ((jz D.cf D.i L).e),iQ (jz D.cf D.i L).k]/\B=pt D.hb (D.ho z)::osl 49 1 (.slice a D.gbs.length D.cap) (D.gbs.map pV)::gN D.gb z (ge D.cf D.i D.n D.wl L).g (D.X z (ge D.cf D.i D.n D.wl L) (pt m (bN z2 d)::ew z2.x.v (jb d.ls d.ln 4,gz d.ls d.ln 4)::R))):=by
 have o:=Nb h.r h.hi h.k9 h.l h.b;have f:jz D.cf D.i L=p9 D.cf D.i L:=by rw[jz,Qab aq,Qad E]
 have M:k7 (L.r 1)=143:=by rw[k7,Qab aq,Qad E]
 obtain⟨r,p⟩:∃r,p9 D.cf D.i L=r:=⟨_,Z⟩
 have F:=λ(t u:Nat) (y:List Value)=>b8J (cb:=t) (lg:=u) (sp:=y) (R:=R) h H K q z2 d s;have N:ge D.cf D.i D.n D.wl L=rU r:=by
  rw[<-p, <-f];show rV D.i D.n D.wl (L.r 1) _=_;rw[rV,Qab aq,Qab aq]
 rw[f,p]at o;rw[f,p,N];simp only[p]at F
 refine cF (b7O W0 D.hb D.cf z.ps z.pb D.db D.qb D.tb a D.cap D.gbs D.i D.gb I J z L.g h.b.c.r.len (D.X z L (pt m (bN z2 d)::ew z2.x.v (d.ls,d.ln)::R))
   (λe w A G Y=>e=r.e/\w=r.w/\A=r.k/\G=r.L.g/\Y=D.X z r.L (pt m (bN z2 d)::ew z2.x.v (jb d.ls d.ln 4,gz d.ls d.ln 4)::R)) ?_ (by show L.r 1≠2;omega) (by show L.r 1≠3;omega) ?_) λv B C=>?_
 rintro e w A d Y ⟨rfl,rfl,rfl,rfl,rfl⟩;exact⟨by have:=o.b.k;have:=h.k9;omega,o.b.c.r.len,o.e⟩;intro t u y;rw[show k7 (cn L.g.c.rl 1)=143 from M];refine cF (F t u y) λv B C=>?_;obtain⟨rfl,rfl⟩:=C;exact⟨_,⟨r.e,r.w,r.k,r.L.g,_,⟨Z,Z,Z,Z,Z⟩,Z,Z⟩,ent_refl⟩;obtain⟨e,w,A,G,Y,⟨rfl,rfl,rfl,rfl,rfl⟩,rfl,rfl⟩:=C;exact⟨_,⟨Z,Z⟩,ent_refl⟩
end
end
section
open Go.RowKit
def lU(s:Int×Int):Bool:=decide (0≤s.1/\s.1<4/\1≤s.2/\s.2≤32)
theorem b8O (s : Int × Int) : sQ W0 59 [.agg (fZ s).toArray] R (.bool (lU s)) R := by
 refine am func59 ntmps59 ?_
 refine bR fun b => ?_
 refine ap (fun c1 => ?_) fun c1 => ?_
 refine ag ?_
 rw [lU, Qat aq]
 exact ax
 refine ap (fun c2 => ?_) fun c2 => ?_
 refine ag ?_
 rw [lU, Qat aq]
 exact ax
 refine e9 (fun g4_4 => ?_) fun g4_4 => ?_
 refine ag ?_
 refine ⟨_, ⟨Qak Value.bool ?_, rfl⟩, IO⟩
 rw [lU, Qah]
 simp only [Qas, QaA, QbB]
 omega
 refine ag ?_
 refine ⟨_, ⟨Qak Value.bool ?_, rfl⟩, IO⟩
 rw [lU, Qah]
 simp only [Qas, QaA, QbB]
 omega
def fN(l:List (Int×Int)):Nat->Int
 |0=>0
 |k+1=>fN l k+(l.getD k (0,0)).2
theorem IF{l}(h:∀i,i<l.length->lU (l.getD i (0,0))=true):∀k,k≤l.length->0≤fN l k/\fN l k≤32*k
 |0,_=>⟨Qan _,Qan _⟩
 |k+1,a=>by
  obtain⟨b,c⟩:=IF h k aq;have:=h k aq;simp only[lU,Qas]at this;rw[fN];omega
theorem b8P (b : Nat) (s x : Int) (hs : 0 ≤ s ∧ s ≤ 1000) (hx : 0 ≤ x ∧ x ≤ 1000) : sQ W0 58 ([] ++ [iQ x] ++ [pV b]) (pt b (ae [iQ s] 3) :: R) (iQ (s + x)) (pt b (ae [iQ (s + x)] 3) :: R) := by
 refine iW func58 ntmps58 rfl rfl ?_
 refine aG (aM (aa rfl (aU rfl) (aI (aA (aG (aM (aa rfl (bO cM rfl (aO rfl)) ?_)))))))
 refine aa rfl (aV rfl) ?_
 refine aa rfl (dI rfl rfl (bS aq)) ?_
 refine eM (iG bu rfl rfl rfl (Qaa rfl) SetL.eq) ?_
 rintro _ _ rfl
 refine aI (aA (aG (aM (aa rfl (bO cM rfl (aO rfl)) ?_))))
 refine aa rfl (aU rfl) (aI (aA (dX (bP (.inl rfl) (.cons (bA rfl) .nil) ?_))))
 exact ⟨_, ⟨rfl, rfl⟩, IO⟩
def Ng(l:List (Int×Int))(k:Nat):List Int:=(List.range 8).map λj=>if j<k then fN l (j+1)else 0
@[reducible] def AE(a:Option Addr)(n c:Nat)(l:List (Int×Int))(k:Nat):List Value:=.slice a n c::(Ng l k).map (.int .i64)
theorem b8Q{a n c l k}(h:k<8):(AE a n c l k).set (1+k*1) (iQ (fN l (k+1)))=AE a n c l (k+1):=by have:k=0\/k=1\/k=2\/k=3\/k=4\/k=5\/k=6\/k=7:=aq;rcases this with rfl|rfl|rfl|rfl|rfl|rfl|rfl|rfl<;>rfl
theorem b8R{c:Nat}:(AE a n c l k).length=9:=by simp[AE,Ng]
abbrev qK(a:Option Addr)(n c:Nat)(l:List (Int×Int))(k:Nat):Obj:=ae (AE a n c l k) 147
theorem b8S(l:List (Int×Int)):gO (l.flatMap fZ)=true:=by
 induction l with
 |nil=>rfl
 |cons x l a=>
  rw[QaT,gO,List.all_append,Qam];exact⟨rfl,a⟩
theorem b8T (l : List (Int × Int)) (a : Option Addr) (n c : Nat) (hl : l.length = n) (hN : n ≤ 1000) (hs : bZ (aQ W0 R) a 2 fZ l) : sP W0 57 [.slice a n c] R (fun v B => ∃ a' c', v = .slice a' n c' ∧ B = osl 114 2 (.slice a' n c') (l.flatMap fZ) :: R) := by
 subst hl
 refine am func57 ntmps57 ?_
 refine ac (zo yR rfl rfl) ?_
 refine aB rfl (fun c1 => ?_) fun c1 => ?_
 refine au 7 ?_
 refine ag ?_
 have h0 : l = [] := by
  rcases l with _ | ⟨x, l⟩
  rfl
  obtain ⟨b, o, h, _⟩ := hs 0 x rfl
  rw [c1] at h; cases h
 subst h0
 exact ⟨_, ⟨none, 0, rfl, rfl⟩, eW⟩
 have hsrc := hs.src (fun _ => rfl) (fun _ => trivial)
 refine fH (aA (aG (aM (aF rfl (zp yR J6 rfl) ?_))))
 rintro _ _ ⟨b1, rfl, rfl⟩
 refine aw ?_
 refine aF rfl (zv (sz := 2) (by_ := 16) (info := Tryz.t114) yR ld rfl rfl rfl rfl cl rfl rfl (news := l.flatMap fZ) (by
 rcases hsrc with h | ⟨bs, os, h1, h2⟩
 left; rw [h]; rfl
 right; exact ⟨bs, os, h1, h2.weak⟩) (by rw [dy (k := 2) (fun _ => rfl)]) (b8S l) n5 aq) ?_
 rintro _ _ ⟨a1, c1, rfl, rfl⟩
 refine aw ?_
 refine ag ?_
 rw [Qac, Qar]
 exact ⟨_, ⟨_, _, rfl, rfl⟩, IO⟩
theorem b8U (l : List (Int × Int)) (a : Option Addr) (c : Nat) (hs : ∀ A, bZ (aQ W0 A) a 2 fZ l) (h1 : 1 ≤ l.length) (h8 : l.length ≤ 8) (hl : ∀ i, i < l.length → lU (l.getD i (0, 0)) = true) : sP W0 21 [.slice a l.length c] R (fun v B => ∃ tb a' c', v = .tuple #[pV tb, iQ 0] ∧ B = pt tb (qK a' l.length c' l l.length) :: osl 114 2 (.slice a' l.length c') (l.flatMap fZ) :: R) := by
 refine am func21 ntmps21 ?_
 refine d7 rfl rfl rfl (fun g1_4 => ?_) fun g1_4 => ?_
 omega
 refine aw ?_
 refine aB rfl (fun c1 => ?_) fun c1 => ?_
 omega
 refine aw ?_
 refine aF rfl (aK call57 (b8T l a l.length c rfl aq (hs _))) ?_
 rintro _ B_ ⟨a', c', rfl, hB_⟩
 obtain rfl := hB_.symm
 refine aw ?_
 refine bR fun tb => ?_
 refine dh (pw pq rfl) fun b5 => ?_
 refine aJ dr ?_
 refine fI (fun k : Nat => k ≤ l.length) (fun k => [(0, .slice a l.length c), (4, pV tb), (5, pV b5), (6, .func (.func 58) #[] #[pV b5]), (22, .slice a l.length c), (23, iQ (l.length : Nat)), (24, iQ k)]) (fun k => pt b5 (ae [iQ (fN l k)] 3) :: pt tb (qK a' l.length c' l k) :: osl 114 2 (.slice a' l.length c') (l.flatMap fZ) :: R) (fun k => l.length - k) 0 ?_ ?_ ?_ ?_
 exact Qay _
 · repeat (first | exact cQ | refine cA rfl ?_)
 show Ent _ (pt b5 (ae [iQ 0] 3) :: pt tb (ae [.slice a' l.length c', iQ 0, iQ 0, iQ 0, iQ 0, iQ 0, iQ 0, iQ 0, iQ 0] 147) :: osl 114 2 (.slice a' l.length c') (l.flatMap fZ) :: R)
 exact IO
 intro k hk
 refine aw ?_
 refine ap (fun c7 => ?_) fun c7 => ?_
 have hk1 : k < l.length := aq
 obtain ⟨g, o, hga, hc⟩ := (hs []).at_ hk1
 obtain ⟨x, hx⟩ : ∃ x, l[k] = x := ⟨_, rfl⟩
 rw [hx] at hc
 have hA : l.getD k (0, 0) = x := by simp [List.getD, hk1, hx]
 have hok := hl k hk1
 rw [hA] at hok
 have hok2 : 0 ≤ x.1 ∧ x.1 < 4 ∧ 1 ≤ x.2 ∧ x.2 ≤ 32 := by simpa only [lU, Qas] using hok
 have hsum := IF hl k hk
 have hst : fN l (k + 1) = fN l k + x.2 := by rw [fN, hA]
 refine ac (g7 yR J6 rfl hga rfl rfl hk1 dg) ?_
 refine ac (cV hc.weak) ?_
 refine bU fun b8 => ?_
 refine aJ aR ?_
 refine eS (aK call59 (b8O x)) ?_
 rw [hok]
 refine au 3 ?_
 refine et ?_
 refine bH [b8] 10 fun hS => ?_
 refine aj 0 5 hS ?_
 refine aj 6 2 hS ?_
 refine co 5 (kO (List.Perm.swap _ _ _) (iV (us := []) (cs := [pV b5]) rfl call58 rfl (b8P b5 (fN l k) x.2 aq aq))) ?_; clear hS
 rintro _ B_ ⟨rfl, hB_⟩
 obtain rfl := hB_.symm
 rw [← hst]
 refine ⟨aW, fun hS => ?_⟩
 refine aE 8 hS (iy (show k < 8 by omega)) ?_
 refine cp 9 (fg (by rw [b8R]; omega) (b8Q aq)) fun hS => ?_
 refine aS ?_
 refine ac cK ?_
 exact d8 (k + 1) aq
 refine aZ ?_
 obtain rfl : k = l.length := aq
 exact ⟨_, ⟨tb, a', c', rfl, rfl⟩, IO⟩
abbrev W7(n:Nat):Obj:=ae [.slice none 0 0,.slice none 0 0,.slice none 0 0,.slice none 0 0,.int .i64 n] 120
theorem IG{c}(a:rt c=true):1≤c.sl.length/\c.sl.length≤8/\∀i,i<c.sl.length->lU (c.sl.getD i (0,0))=true:=by have b:=eI a;have d:=b.g4;obtain⟨_,_,_,_,_,_,k,_⟩:=vZ a;simp only[xE,Qbh,Qbc]at k;refine⟨aq,aq,λi e=>?_⟩;have:=zH k.2 e;simp only[zC,m0,Qcq,Qam,Qas]at this;simp only[lU,Qas];omega
structure Tn where
  g : Int
  s : Nat
  o : Int
  f : Nat
def gY(l:List (Int×Int))(k:Int):Nat:=((List.range l.length).find? λi=>decide (k<fN l (i+1))).getD 0
abbrev AF(l:List (Int×Int))(i:Nat):Int×Int:=l.getD i (0,0)
abbrev fk(l:List (Int×Int)):Nat:=(fN l l.length).toNat
def ka(l:List (Int×Int))(n:Nat):Tn:=⟨(AF l (gY l ((n %fk l:Nat):Int))).1,gY l ((n %fk l:Nat):Int),((n %fk l:Nat):Int)-fN l (gY l ((n %fk l:Nat):Int)),n/fk l⟩
theorem b8V{l}(h:∀i,i<l.length->lU (l.getD i (0,0))=true){i j}(a:i≤j)(d:j≤l.length):fN l i≤fN l j:=by
 induction j with
 |zero=>rw[show i=0 by omega];exact Qan _
 |succ j b=>
  rcases Qaz j i with q|q;rw[show i=j+1 by omega];exact Qan _;have e:=b q aq;have c:=h j aq;simp only[lU,Qas]at c;rw[fN];omega
theorem W8{l k i}(a:i<l.length)(b:k<fN l (i+1))(c:∀j,j<i->¬k<fN l (j+1)):gY l k=i:=by
 have:(List.range l.length).find? (λi=>decide (k<fN l (i+1)))=some i:=by
  rw[Qce];exact⟨Qav b,i,by simpa using a,n4,λj d=>by simp;have:=c j d;omega⟩
 rw[gY,this];rfl
theorem CL{l}(a:1≤l.length)(h:∀i,i<l.length->lU (l.getD i (0,0))=true):1≤fk l/\(fk l)=fN l l.length/\fk l≤32*l.length:=by have c:=IF h l.length (Qai _);have d:=b8V h (i:=1) (j:=l.length) a (Qai _);have b:=h 0 aq;simp only[lU,Qas]at b;have e:fN l 1=0+(l.getD 0 (0,0)).2:=Z;unfold fk;exact⟨aq,aq,aq⟩
theorem IH{l}(o:1≤l.length)(h:∀i,i<l.length->lU (l.getD i (0,0))=true){k}(r:k<fk l):gY l k<l.length/\fN l (gY l k)≤k/\k<fN l (gY l k+1)/\∀j,j<gY l k->¬k<fN l (j+1):=by
 obtain⟨s,t,_⟩:=CL o h;have f:∃i,i<l.length/\(k:Int)<fN l (i+1):=⟨l.length-1,by omega,by rw[show l.length-1+1=l.length by omega];omega⟩
 have g:∀n,(∃i,i<n/\i<l.length/\(k:Int)<fN l (i+1))->∃i,i<l.length/\(k:Int)<fN l (i+1)/\∀j,j<i->¬(k:Int)<fN l (j+1):=by
  intro n
  induction n with
  |zero=>rintro⟨i,q,_⟩;omega
  |succ n p=>
   rintro⟨i,m,d,c⟩;by_cases q:∃i,i<n/\i<l.length/\(k:Int)<fN l (i+1);exact p q;exact⟨i,d,c,λj u e=>q ⟨j,aq,aq,e⟩⟩
 obtain⟨i,m,d,c⟩:=g l.length (by obtain⟨i,a,b⟩:=f;exact⟨i,a,a,b⟩);rw[W8 m d c];refine⟨m,?_,d,c⟩
 cases i with
 |zero=>show(0:Int)≤k;omega
 |succ i=>have:=c i (Nat.lt_succ_self i);omega
structure It6 where
  a : Int
  g : Int
  k : Int
  c : Int
  s : ByteArray
  p : Nat
  hp : p < 1000
variable {inp:List (List It6)}
instance:Inhabited It6:=⟨⟨0,0,0,0,ByteArray.empty,0,by decide⟩⟩
abbrev ut(x:It6):Int:=(x.p:Int)+x.a*100000000000000000000
def yI(R:List It6):Option It6:=R.find? λx=>R.all λy=>decide (ut x≤ut y)
def iD(n:Int):Nat->List It6->List It6×List It6
 |0,R=>([],R)
 |f+1,R=>match yI R with
   |some x=>if x.a≤n then(x::(iD n f (R.filter λy=>y.p != x.p)).1,(iD n f (R.filter λy=>y.p != x.p)).2)else([],R)
   |none=>([],R)
def nu(R:List It6):Prop:=(R.map (·.p)).Nodup/\∀x∈R,x.p<1000
theorem b8W{R:List It6}(h:nu R){x y}(a:x∈R)(b:y∈R)(e:ut x=ut y):x=y:=by
 have k:=h.2 x a;have l:=h.2 y b;have:x.p=y.p:=by unfold ut at e;omega
 obtain⟨i,c,rfl⟩:=Qbi.1 a;obtain⟨j,d,rfl⟩:=Qbi.1 b;have g:=h.1;have f:=List.pairwise_iff_getElem.1 g;rcases Nat.lt_trichotomy i j with q|q|q;exact absurd (by rw[Qcg,Qcg];exact this) (f i j (by simpa using c) (by simpa using d) q);subst q;rfl;exact absurd (by rw[Qcg,Qcg];exact this.symm) (f j i (by simpa using d) (by simpa using c) q)
theorem W9{R:List It6}(h:nu R){x}(a:x∈R)(c:∀y∈R,ut x≤ut y):yI R=some x:=by
 cases e:yI R with
 |none=>
  exfalso;have:=Qch.1 e x a;exact this (Qbx.2 λy f=>Qav (c y f))
 |some z=>
  have d:=QbI e;have b:=QcW e;have g:=Qaw (Qbx.1 b x a);exact Qak some (b8W h d a (by have:=c z d;omega))
theorem b8X{R:List It6}(h:R=[]):yI R=none:=by subst h;rfl
theorem Nh{R:List It6}(h:nu R)p:nu (R.filter p):=⟨(QbJ.map _).nodup h.1,λx a=>h.2 x (QaG.1 a).1⟩
theorem II{n}:∀(f:Nat) {R:List It6},nu R->nu (iD n f R).2/\(iD n f R).2.length≤R.length/\(iD n f R).1.length≤f/\∀x∈(iD n f R).1,x∈R
 |0,R,h=>⟨h,Qai _,Qai _,λx hx=>aa2⟩
 |f+1,R,h=>by
  rw[iD];split
  rename_i x e
  split;obtain⟨h1,h2,h3,h4⟩:=II (n:=n) f (Nh h λy=>y.p != x.p);have hl:(R.filter λy=>y.p != x.p).length≤R.length:=QaW _ _;refine⟨h1,Qbe h2 hl,aac,λy hy=>?_⟩;rcases QaX.1 hy with q|q;rw[q];exact QbI e;exact(QaG.1 (h4 y q)).1;exact⟨h,Qai _,Qay _,λx hx=>aa2⟩;exact⟨h,Qai _,Qay _,λx hx=>aa2⟩
structure Gp where
  g : Gu
  pg : List Pl
  bx : List ByteArray
instance:Inhabited Gp:=⟨⟨g0,gd,[]⟩⟩
structure Ms where
  gs : List Gp
  fr : List az
  po : Po
  dk : Dk
  pt : List Prt
  gt : Gt
  inp : List (List It6)
  n : Nat
variable {S:Ms}
abbrev Ms.at_(S:Ms)(i:Nat):Gp:=S.gs.getD i default
abbrev Ms.ls(S:Ms)(i:Nat):Ls:=⟨(S.at_ i).g,(S.at_ i).pg,(S.at_ i).bx,S.fr,S.po,S.dk,S.pt,S.gt⟩
abbrev Ms.sl(S:Ms)(i:Nat)(L:Ls):Ms:={ S with gs:=S.gs.set i ⟨L.g,L.pg,L.bx⟩,fr:=L.fr,po:=L.po,dk:=L.dk,pt:=L.pt,gt:=L.gt }
abbrev Ms.sg(S:Ms)(i:Nat)(y:Gp):Ms:={ S with gs:=S.gs.set i y }
structure Mw where
  c : Cfg
  wl : List (List Nat)
variable {M:Mw}
abbrev Mw.w(M:Mw)(i:Nat):List Nat:=M.wl.getD i []
abbrev Mw.n(M:Mw)(i:Nat):Nat:=(cC M.c i).2.1.toNat
def qL(M:Mw)(i:Nat)(S:Ms):Ms:=
  if (S.ls i).r 1=8/\mn M.c i (S.ls i)=0 then
    (S.sl i (ge M.c i (M.n i) (M.w i) (S.ls i))).sg (eB M.c ((S.ls i).r 2)).2.toNat { S.at_ (eB M.c ((S.ls i).r 2)).2.toNat with g:=iO (S.at_ (eB M.c ((S.ls i).r 2)).2.toNat).g 4 }
  else S.sl i (ge M.c i (M.n i) (M.w i) (S.ls i))
def yJ(c:Cfg)(i:Nat)(L:Ls):Nat:=if du c i=none then 0 else(je c i L).n+(je c i L).b
def pd(c:Cfg)(i:Nat)(L:Ls):Ls:=if du c i=none then L else VU (je c i L) L
def vC(c:Cfg)(i n:Nat)(wl:List Nat)(x:It6)(L:Ls):Ls:=
  if x.k=0 then(if du c i=none then L else if qw L.pt (dP (du c i)) x.s=0 then { L with pt:=qx L.pt (dP (du c i)) x.s,g:=iO L.g 6 }else { L with pt:=qx L.pt (dP (du c i)) x.s })
  else if x.k=1 then L.wg (iO L.g x.c)
  else(L.put (jN i n wl L.mm)).wg (oe L.g)
abbrev kL(c:Cfg)(i n:Nat)(wl:List Nat)(l:List It6)(L:Ls):Ls:=l.foldl (λL x=>vC c i n wl x L) L
abbrev nv(i:Nat)(S:Ms):List It6×List It6:=iD (S.n:Nat) 4 (S.inp.getD i [])
def AG(M:Mw)(i:Nat)(S:Ms):Ms:=
  { S.sl i (pd M.c i (kL M.c i (M.n i) (M.w i) (nv i S).1 (S.ls i)))with inp:=S.inp.set i (nv i S).2 }
def AH(M:Mw)(i:Nat)(S:Ms):Nat:=(nv i S).1.length+yJ M.c i (kL M.c i (M.n i) (M.w i) (nv i S).1 (S.ls i))
def vD(l:List ByteArray)(s:ByteArray):List ByteArray:=if 4<(l++[s]).length then(l++[s]).drop ((l++[s]).length-4)else l++[s]
def Fp(x:Rls)(y:Gp):Gp:={ y with bx:=vD y.bx x.s,g:=iO y.g 5 }
def gZ(c:Cfg)(x:Rls):Nat->List Gp->List Gp
 |0,gs=>gs
 |k+1,gs=>if (cC c k).1=x.l then(gZ c x k gs).set k (Fp x ((gZ c x k gs).getD k default))else gZ c x k gs
def lx(c:Cfg)(x:Rls):Nat->Nat
 |0=>0
 |k+1=>if (cC c k).1=x.l then lx c x k+x.s.size else lx c x k
abbrev rW(c:Cfg)(x:Rls)(gs:List Gp):List Gp:=gZ c x c.gl.length gs
abbrev mo(x:Gt):List Rls:=x.l.drop x.fm.toNat
abbrev xd(x:Gt):Gt:={ x with fm:=(x.l.length:Nat),fn:=x.fn+1,us:=0 }
def AI(c:Cfg)(S:Ms):Ms:={ S with gs:=(mo S.gt).foldl (λgs x=>rW c x gs) S.gs,gt:=xd S.gt }
def AJ(c:Cfg)(S:Ms):Nat:=(mo S.gt).foldl (λk x=>k+lx c x c.gl.length) 0
abbrev Ni(i:Nat)(L:Ls):Int:=(gB i L.g L.fr L.pg).1.1
abbrev tc(i:Nat)(L:Ls):Ls:={ L with g:=(gB i L.g L.fr L.pg).1.2,fr:=(gB i L.g L.fr L.pg).2 }
def CM(M:Mw)(t:Tn)(S:Ms):Ms:=if t.s=0/\t.o=0/\0<S.n then AI M.c S else S
def yK(M:Mw)(t:Tn)(S:Ms):Nat:=if t.s=0/\t.o=0/\0<S.n then AJ M.c S else 0
def AK(M:Mw)(t:Tn)(S:Ms):Ms:=if t.o=0 then AG M t.g.toNat S else S
def yL(M:Mw)(t:Tn)(S:Ms):Nat:=if t.o=0 then AH M t.g.toNat S else 0
def CN(t:Tn)(S:Ms):Ms:=S.sl t.g.toNat (tc t.g.toNat (S.ls t.g.toNat))
def Nj(t:Tn)(S:Ms):Int:=Ni t.g.toNat (S.ls t.g.toNat)
def AL(M:Mw)(t:Tn)(x:Int)(S:Ms):Ms:=if x=3 then qL M t.g.toNat S else S
def Nk(M:Mw)(t:Tn)(x:Int)(S:Ms):Int:=if x=3 then(jz M.c t.g.toNat (S.ls t.g.toNat)).k else 0
abbrev jA(M:Mw)(S:Ms):Ms:=CM M (ka M.c.sl S.n) S
abbrev oo(M:Mw)(S:Ms):Ms:=AK M (ka M.c.sl S.n) (jA M S)
abbrev pf(M:Mw)(S:Ms):Ms:=CN (ka M.c.sl S.n) (oo M S)
abbrev rX(M:Mw)(S:Ms):Int:=Nj (ka M.c.sl S.n) (oo M S)
abbrev oq(M:Mw)(S:Ms):Ms:=AL M (ka M.c.sl S.n) (rX M S) (pf M S)
def uu(M:Mw)(S:Ms):Ms:={ oq M S with n:=S.n+1 }
def AM(M:Mw)(S:Ms):Int:=1+(yK M (ka M.c.sl S.n) S:Nat)+(yL M (ka M.c.sl S.n) (jA M S):Nat)+Nk M (ka M.c.sl S.n) (rX M S) (pf M S)
theorem Nl{e}(h:es.length≤4096):(yu es e).length≤4096:=by unfold yu;split;rw[Qaf,QaR];omega;exact h
theorem Nm{a b}(h:g.es.length≤4096):(gH g a b).2.es.length≤4096:=by unfold gH;split<;>exact Nl h
theorem b8Y{e:Eff}(h:g.es.length≤4096):(kY g fr pg e).1.2.es.length≤4096:=by
 unfold kY uk ul
 repeat' (first|exact Nm h|exact Nl h|exact h|split)
theorem b8Z(h:g.es.length≤4096):(gB i g fr pg).1.2.es.length≤4096:=by
 have a:(jc (kJ (kK g))).2.es.length≤4096:=by
  unfold jc;split
  cases mg (kJ (kK g)).ls with
  |none=>exact h
  |some n=>exact Nl h
  exact h
 unfold gB;split;exact h;split;exact a;unfold kt;split;exact Nm a;split;exact Nm a;exact b8Y a
theorem mV{a:List Gp}{y:Gp}(b:i<a.length):(a.set i y).getD j default=if j=i then y else a.getD j default:=by by_cases e:j=i;subst e;rw[Qad Z];exact ML b;rw[Qab e];exact Ar e
theorem b80{ps}(h:jp ps)i s:jp (qx ps i s):=by
 unfold qx;split
 rename_i q
 unfold qw at q;split at q
 rename_i f
 obtain⟨k,rfl,c,_⟩:=BW f;split at q;exact absurd q cl
 rename_i m
 have g:=h.1.at_ c;have d:=h.at_ c;rw[Qae];have e:nU ps (k:Int)=ps.getD k default:=by rw[nU,Qae]
 rw[e];refine h.set ?_ ?_;unfold kC;split;exact g
 rename_i j
 have:¬nT (ps.getD k default)≤(ps.getD k default).l.length:=λe=>j (Qav e);show((ps.getD k default).l++[s]).length≤nT (ps.getD k default);rw[Qaf,QaR];omega;intro y a;unfold kC at a;split at a;exact d y a;rcases Qba.1 a with b|b;exact d y b;rw[Qbw.1 b];omega;exact absurd q cl;exact h
theorem Wa{n}:∀(f:Nat) {R:List It6},∀x∈(iD n f R).2,x∈R
 |0,_,_,a=>a
 |f+1,R,x,a=>by
  rw[iD]at a;split at a;split at a;exact(QaG.1 (Wa f x a)).1;exact a;exact a
theorem Fq g a b:(gH g a b).2.rd=g.rd:=by unfold gH;split<;>rfl
theorem b81:(gB i g fr pg).1.2.rd=g.rd:=by
 unfold gB
 split; · rfl
 have a:(jc (kJ (kK g))).2.rd=g.rd:=by
  unfold jc
  split
  cases mg (kJ (kK g)).ls<;>rfl
  rfl
 split; · exact a
 generalize (jc (kJ (kK g))).2=q at a
 suffices h:(kt i q fr pg).1.2.rd=q.rd by rw[h];exact a
 unfold kt
 split; · exact Fq _ _ _
 split; · exact Fq _ _ _
 unfold kY
 split
 unfold uk
 split
 exact Fq _ _ _
 rfl
 split
 unfold ul
 split
 exact Fq _ _ _
 rfl
 split; · exact Fq _ _ _
 split; · rfl
 split; · rfl
 split<;>rfl
theorem b82:(jz c i L).L.gt.fm=L.gt.fm/\L.gt.l.length≤(jz c i L).L.gt.l.length/\(jz c i L).L.gt.l.length≤L.gt.l.length+1:=by
 have b:∀{r:Lr},r.L.gt=L.gt->r.L.gt.fm=L.gt.fm/\L.gt.l.length≤r.L.gt.l.length/\r.L.gt.l.length≤L.gt.l.length+1:=λe=>by rw[e];exact⟨Z,Qai _,Qdd _⟩
 unfold jz
 split
 refine b ?_
 unfold wZ
 split; · rfl
 split; · rfl
 split; · rfl
 split<;>rfl
 split
 refine b ?_
 unfold p9
 split<;>rfl
 split
 refine b ?_
 unfold x9
 split; · rfl
 split; · rfl
 split<;>rfl
 split
 unfold xa
 split
 exact b Z
 show(nr L.gt i (L.r 2) (m8 (lw L))).fm=_/\_≤(nr L.gt i (L.r 2) (m8 (lw L))).l.length/\(nr L.gt i (L.r 2) (m8 (lw L))).l.length≤_
 unfold nr
 split
 exact⟨Z,by rw[Qaf];omega,by rw[Qaf,QaR];exact Qai _⟩
 exact⟨Z,Qai _,Qdd _⟩
 split
 refine b ?_
 unfold xb
 split; · rfl
 split<;>rfl
 refine b ?_
 have a:∀{p:Prop} [Decidable p] {x y:Lr},x.L.gt=L.gt->y.L.gt=L.gt->(if p then x else y).L.gt=L.gt:=λ{p} _ {x y} d f=>by
  by_cases q:p
  rw[Qad q];exact d
  rw[Qab q];exact f
 unfold yH
 refine a Z (a Z (a Z (a Z (a Z (a ?_ (a Z (a Z (a Z (a Z Z)))))))))
 unfold vA;split<;>rfl
theorem b83:(ge c i n wl L).gt.fm=L.gt.fm/\L.gt.l.length≤(ge c i n wl L).gt.l.length/\(ge c i n wl L).gt.l.length≤L.gt.l.length+1:=by
 have h:=b82 (c:=c) (i:=i) (L:=L)
 unfold ge rV
 split; · exact h
 split<;>exact h
theorem Wb{c i L}(d:rt c=true)(f:i<c.gl.length)(h:mn c i L=0):∃j:Nat,(eB c (L.r 2)).2=j/\j<c.gl.length/\j≠i:=by
 have e:L.r 2<c.nl.length:=by
  rcases Qaz (L.r 2) c.nl.length with q|q;exact q;exfalso;unfold mn at h;rw[Qad q]at h;exact absurd h cl
 have g:(eB c (L.r 2)).1=(i:Int):=by
  by_cases q:(eB c (L.r 2)).1=(i:Int);exact q;exfalso;unfold mn at h;rw[Qab aq,Qad q]at h;exact absurd h cl
 obtain⟨_,_,_,_,_,a,_⟩:=vZ d;simp only[uY,Qbh,Qbc]at a;have b:=zH a.2 e;rw[show c.nl.getD (L.r 2) (0,0)=eB c (L.r 2)from Z]at b;simp only[zE,m0,Qcq,Qam,Qas]at b;exact⟨(eB c (L.r 2)).2.toNat,aq,aq,aq⟩
structure MJ (M : Mw) (S : Ms) (k b l t : Int) : Prop where
  r : rt M.c = true
  len : S.gs.length = M.c.gl.length
  li : ∀ i, i < M.c.gl.length → LI M.c i (S.ls i)
  gb : ∀ i, i < M.c.gl.length → GB (S.at_ i).g k b l t
  nn : 0 ≤ k ∧ 0 ≤ b ∧ 0 ≤ l ∧ 0 ≤ t
  gl : (S.gt.l.length : Int) ≤ t
  gf : 0 ≤ S.gt.fm ∧ S.gt.fm ≤ (S.gt.l.length : Nat)
  il : S.inp.length = 4
  iq : ∀ i, nu (S.inp.getD i []) ∧ (S.inp.getD i []).length ≤ 256 ∧ ∀ x ∈ S.inp.getD i [], (0 ≤ x.k ∧ x.k ≤ 2) ∧ x.s.size < 9223372036854775808
section
variable{M:Mw}{S:Ms}{k b l t:Int}
theorem MJ.le{k' b' l' t'}(h:MJ M S k b l t)(a:k≤k')(c:b≤b')(d:l≤l')(e:t≤t'):MJ M S k' b' l' t':=
  ⟨h.r,h.len,h.li,λi f=>(h.gb i f).le a c d e,abv,by have:=h.gl;omega,h.gf,h.il,h.iq⟩
theorem MJ.sl{k' b' l' t'}(h:MJ M S k b l t){i}(o:i<M.c.gl.length){L}(n:LI M.c i L)(p:GB L.g k' b' l' t')(q:∀j,j≠i->Oth j S.fr S.po L.fr L.po)(s:k≤k')(u:b≤b')(v:l≤l')(w:t≤t')(d:L.gt.l.length≤t')(f:0≤L.gt.fm/\L.gt.fm≤L.gt.l.length):MJ M (S.sl i L) k' b' l' t':=by
 have a:i<S.gs.length:=by rw[h.len];exact o
 refine⟨h.r,(Qal ..).trans h.len,λj m=>?_,λj m=>?_,abv,d,f,h.il,h.iq⟩;show LI M.c j ⟨((S.gs.set i ⟨L.g,L.pg,L.bx⟩).getD j default).g,((S.gs.set i ⟨L.g,L.pg,L.bx⟩).getD j default).pg,((S.gs.set i ⟨L.g,L.pg,L.bx⟩).getD j default).bx,L.fr,L.po,L.dk,L.pt,L.gt⟩;rw[mV a];by_cases e:j=i;subst e;rw[Qad Z];exact n;rw[Qab e];exact LI.oth (h.li j m) n (q j e);show GB ((S.gs.set i ⟨L.g,L.pg,L.bx⟩).getD j default).g k' b' l' t';rw[mV a];by_cases e:j=i;subst e;rw[Qad Z];exact p;rw[Qab e];exact(h.gb j m).le s u v w
theorem MJ.sg{l'}(h:MJ M S k b l t){i}(o:i<M.c.gl.length){y}(p:y.pg=(S.at_ i).pg)(q:y.bx.length≤4/\∀s∈y.bx,s.size≤16)(u:GuI y.g)(v:GB y.g k b l' t)(w:l≤l'):MJ M (S.sg i y) k b l' t:=by
 have d:i<S.gs.length:=by rw[h.len];exact o
 refine⟨h.r,(Qal ..).trans h.len,λj n=>?_,λj n=>?_,abv,h.gl,h.gf,h.il,h.iq⟩;show LI M.c j ⟨((S.gs.set i y).getD j default).g,((S.gs.set i y).getD j default).pg,((S.gs.set i y).getD j default).bx,S.fr,S.po,S.dk,S.pt,S.gt⟩;rw[mV d];by_cases e:j=i;subst e;rw[Qad Z];have a:=h.li j n;rw[p];exact⟨a.m,a.pl,a.pp,a.f,u,a.dk,a.pt,a.gt,q⟩;rw[Qab e];exact h.li j n;show GB ((S.gs.set i y).getD j default).g k b l' t;rw[mV d];by_cases e:j=i;subst e;rw[Qad Z];exact v;rw[Qab e];exact(h.gb j n).le (Qan _) (Qan _) w (Qan _)
theorem GB.raise(h:GB g k b l t)(n:Int):GB (iO g n) k b (l+1) t:=by refine⟨h.c,h.k,h.b,?_,h.t⟩;have:=h.l;have:=F6 g.ls g.ln n.toNat;show(if _ then gz g.ls g.ln n.toNat else g.ln)≤_;split<;>omega
theorem GuI.raise(h:GuI g)n:GuI (iO g n):=h.of Z Z Z Z h.es
theorem b84{l s}(h:l.length≤4/\∀x∈l,x.size≤16)(c:s.size≤16):(vD l s).length≤4/\∀x∈vD l s,x.size≤16:=by
 have d:(l++[s]).length=l.length+1:=n4;have a:∀x∈l++[s],x.size≤16:=λx b=>by
  rcases Qba.1 b with q|q;exact h.2 x q;rw[Qbw.1 q];exact c
 unfold vD;split;exact⟨abq,λx b=>a x (QbC b)⟩;exact⟨aq,a⟩
theorem Nn{x}(q:x.s.size≤16):∀n,n≤M.c.gl.length->∀{S:Ms} {l:Int},MJ M S k b l t->(∀j,n≤j->(gZ M.c x n S.gs).getD j default=S.gs.getD j default)/\MJ M { S with gs:=gZ M.c x n S.gs } k b (l+1) t
 |0,_,S,l,h=>⟨λ_ _=>Z,h.le (Qan _) (Qan _) aq (Qan _)⟩
 |n+1,u,S,l,h=>by
  obtain⟨m,o⟩:=Nn q n aq h;have d:=o.len;rw[gZ];split;have p:n<(gZ M.c x n S.gs).length:=by have:(gZ M.c x n S.gs).length=M.c.gl.length:=d;omega
  refine⟨λj r=>?_,?_⟩;rw[mV p,Qab aq];exact m j aq;have e:(gZ M.c x n S.gs).getD n default=S.gs.getD n default:=m n (Qai _);rw[e];have a:n<M.c.gl.length:=aq;have f:=h.li n a;refine(MJ.sg (i:=n) (S:={ S with gs:=gZ M.c x n S.gs }) o a ?_ ?_ ?_ ?_ (Qan _));show(S.gs.getD n default).pg=((gZ M.c x n S.gs).getD n default).pg;rw[e];exact b84 f.bx q;exact f.g.raise 5;exact(h.gb n a).raise 5;exact⟨λj r=>m j aq,o⟩
theorem Wc(a:List Rls)(d:∀r∈a,r.s.size≤16):∀{S:Ms} {l:Int},MJ M S k b l t->MJ M { S with gs:=a.foldl (λe x=>rW M.c x e) S.gs } k b (l+a.length) t:=by
 induction a with
 |nil=>exact λ{S l} h=>aaa
 |cons r a f=>
  intro S l h;have g:=(Nn (M:=M) (k:=k) (b:=b) (t:=t) (d r n4) M.c.gl.length (Qai _) h).2;have i:=f (λy j=>d y (Qaj _ j)) g;rw[List.foldl_cons,QaK];exact i.le (Qan _) (Qan _) aq (Qan _)
theorem MJ.dl(h:MJ M S k b l t):MJ M (AI M.c S) k b (l+t) t:=by have n:=eI h.r;have o:=n.g1;have j:=(h.li 0 aq).gt;have p:=Wc (M:=M) (k:=k) (b:=b) (t:=t) (mo S.gt) (λr q=>j.sz r (QbC q)) h;have v:(mo S.gt).length≤S.gt.l.length:=abq;have d:=p.le (k':=k) (b':=b) (l':=l+t) (t':=t) (Qan _) (Qan _) (by have:=h.gl;omega) (Qan _);refine⟨d.r,d.len,λi s=>?_,d.gb,d.nn,d.gl,⟨by show(0:Int)≤(S.gt.l.length:Nat);omega,Qan _⟩,d.il,d.iq⟩;have a:=d.li i s;have e:=a.gt;have u:=(EH h.r).2.2.1;exact⟨a.m,a.pl,a.pp,a.f,a.g,a.dk,a.pt,⟨e.who,e.cats,e.quota,⟨Qan _,by show(0:Int)≤M.c.quota;exact u⟩,e.sz⟩,a.bx⟩
end
structure BrOk (c : Cfg) (i : Nat) (L : Ls) (k b l t : Int) (N : Ls) : Prop where
  li : LI c i N
  b : GB N.g k b l t
  o : ∀ j, j ≠ i → Oth j L.fr L.po N.fr N.po
  g : N.gt = L.gt
section
variable{c:Cfg}{i n:Nat}{wl:List Nat}{L:Ls}{k b l t:Int}(hr:rt c=true)(hi:i<c.gl.length)
include hr
theorem Wd(h:LI c i L)(d:GB L.g k b l t):BrOk c i L k b (l+1) t (pd c i L):=by
 have u:Pgs L.pg:=h.m.pg;have q:bD L.fr:=h.m.fr;have o:PlOk L.fr.length L.pg:=h.m.pl;unfold pd;split;exact⟨h,d.le (Qan _) (Qan _) aq (Qan _),λj _=>Oth.rfl' h.m.fr h.m.po,Z⟩;have s:=h.g.qc;have a:SvOk L.fr.length L.g.qc.r (je c i L):=N2 q L.pg false (dP (du c i)) s h.pt;have p:Wr L.pg L.fr (je c i L).fr:=(CI u (tx:=false) (port:=dP (du c i)) o L.g.qc.r.n.toNat (X:=⟨L.fr,0,L.g.qc,L.pt,0,0,0,0⟩) q Z aag).wr;obtain⟨y,v⟩:∃y,je c i L=y:=⟨_,Z⟩
 rw[v]at a p ⊢;have e:=h.wr p;have x:=ID L.g y.c 3;exact⟨⟨e.m,e.pl,e.pp,e.f,⟨h.g.rd,h.g.rb,h.g.qa,h.g.qb,s.sv a,h.g.es⟩,h.dk,a.ps,h.gt,h.bx⟩,⟨d.c,d.k,d.b,by have:=d.l;show(Fo L.g y.c 3).ln≤_;omega,d.t⟩,λj w=>h.wo hr p w,Z⟩
include hi
theorem b85(q:(cC c i).2.1=n){x}(h:LI c i L)(o:GB L.g k b l t)(p:0≤b/\0≤l/\0≤t):BrOk c i L k b (l+1) t (vC c i n wl x L):=by have a:∀j,j≠i->Oth j L.fr L.po L.fr L.po:=λj _=>Oth.rfl' h.m.fr h.m.po;have d:=o.le (k':=k) (b':=b) (l':=l+1) (t':=t) (Qan _) (Qan _) aq (Qan _);have e:jp (qx L.pt (dP (du c i)) x.s):=b80 h.pt _ _;unfold vC;split;split;exact⟨h,d,a,Z⟩;split;exact⟨⟨h.m,h.pl,h.pp,h.f,h.g.raise 6,h.dk,e,h.gt,h.bx⟩,o.raise 6,a,Z⟩;exact⟨⟨h.m,h.pl,h.pp,h.f,h.g,h.dk,e,h.gt,h.bx⟩,d,a,Z⟩;split;exact⟨h.wg (h.g.raise x.c),o.raise x.c,a,Z⟩;obtain⟨r,u⟩:=LI.anew (wl:=wl) hr hi q h;exact⟨r,d.anew ⟨p.1,aq,p.2.2⟩,u,Z⟩
theorem IJ(q:(cC c i).2.1=n):∀(a:List It6) {L:Ls} {l:Int},LI c i L->GB L.g k b l t->0≤b/\0≤l/\0≤t->BrOk c i L k b (l+a.length) t (kL c i n wl a L)
 |[],L,l,h,p,d=>⟨h,p.le (Qan _) (Qan _) n4 (Qan _),λj _=>Oth.rfl' h.m.fr h.m.po,Z⟩
 |x::a,L,l,h,p,d=>by
  have e:=b85 (x:=x) (wl:=wl) hr hi q h p d;have f:=IJ q a e.li e.b ⟨d.1,aq,d.2.2⟩;exact⟨f.li,f.b.le (Qan _) (Qan _) (by rw[QaK];omega) (Qan _),λj r=>(e.o j r).trans (f.o j r),f.g.trans e.g⟩
end
section
variable{M:Mw}{S:Ms}{k b l t:Int}
theorem CO(a:rt M.c=true)(b:i<M.c.gl.length):(cC M.c i).2.1=((M.n i:Nat):Int):=by have:=(eI a).gs i b;show(cC M.c i).2.1=(((cC M.c i).2.1.toNat:Nat):Int);omega
theorem MJ.bg(h:MJ M S k b l t){i}(d:i<M.c.gl.length):MJ M (AG M i S) k b (l+5) t:=by obtain⟨y,F,A⟩:=h.iq i;obtain⟨B,C,D,G⟩:=II (n:=(S.n:Nat)) 4 y;have f:=IJ (wl:=M.w i) h.r d (CO h.r d) (nv i S).1 (h.li i d) (h.gb i d) ⟨h.nn.2.1,h.nn.2.2.1,h.nn.2.2.2⟩;have m:=Wd h.r f.li f.b;have u:(pd M.c i (kL M.c i (M.n i) (M.w i) (nv i S).1 (S.ls i))).gt=S.gt:=m.g.trans f.g;have a:=h.sl (k':=k) (b':=b) (l':=l+5) (t':=t) d m.li (m.b.le (Qan _) (Qan _) (by have:(nv i S).1.length≤4:=D;omega) (Qan _)) (λj v=>(f.o j v).trans (m.o j v)) (Qan _) (Qan _) aq (Qan _) (by rw[u];exact h.gl) (by rw[u];exact h.gf);refine⟨a.r,a.len,a.li,a.gb,a.nn,a.gl,a.gf,(Qal ..).trans h.il,λj=>?_⟩;show nu ((S.inp.set i (nv i S).2).getD j [])/\((S.inp.set i (nv i S).2).getD j []).length≤256/\∀x∈(S.inp.set i (nv i S).2).getD j [],(0≤x.k/\x.k≤2)/\x.s.size<9223372036854775808;by_cases e:i<S.inp.length;by_cases q:j=i;subst q;have p:(S.inp.set j (nv j S).2).getD j []=(nv j S).2:=ML e;rw[p];exact⟨B,by have:(nv j S).2.length≤(S.inp.getD j []).length:=C;omega,λx E=>A x (Wa 4 x E)⟩;have p:(S.inp.set i (nv i S).2).getD j []=S.inp.getD j []:=Ar q;rw[p];exact h.iq j;rw[List.set_eq_of_length_le aq];exact h.iq j
theorem We{c i L k b l t}(o:rt c=true)(E:i<c.gl.length)(d:LI c i L)(e:GB L.g k b l t):LI c i (tc i L)/\GB (tc i L).g (k+1) (b+6) (l+1) t/\∀j,j≠i->Oth j L.fr L.po (tc i L).fr (tc i L).po:=by
 have r:=eI o;have s:=r.g4;obtain⟨u,v,w,F,x,G,y⟩:=b7Y (i:=i) (fr:=L.fr) (pg:=L.pg) e.c aq d.m.fr;have h:=b8Z (i:=i) (fr:=L.fr) (pg:=L.pg) d.g.es;obtain⟨A,B,C⟩:=VP (i:=i) (g:=L.g) (fr:=L.fr) (pg:=L.pg);have n:=b81 (i:=i) (g:=L.g) (fr:=L.fr) (pg:=L.pg);have p:Wr L.pg L.fr (gB i L.g L.fr L.pg).2:=⟨v,w,λf q=>b71 q⟩
 have a:=d.wr p;refine⟨⟨a.m,a.pl,a.pp,a.f,d.g.of n A B C h,a.dk,a.pt,a.gt,a.bx⟩,⟨u,?_,?_,?_,?_⟩,λj D=>d.wo o p D⟩;have:=e.k;show((gB i L.g L.fr L.pg).1.2.clock:Int)≤_;rw[x];omega;have:=e.b;show((gB i L.g L.fr L.pg).1.2.bud:Int)≤_;omega;have:=e.l;show(gB i L.g L.fr L.pg).1.2.ln≤_;omega;have:=e.t;show(gB i L.g L.fr L.pg).1.2.tm.now≤_;rw[y];exact this
theorem MJ.st(h:MJ M S k b l t){i}(a:i<M.c.gl.length):MJ M (S.sl i (tc i (S.ls i))) (k+1) (b+6) (l+1) t:=by obtain⟨d,e,f⟩:=We h.r a (h.li i a) (h.gb i a);exact h.sl a d e f aq aq aq (Qan _) h.gl h.gf
theorem MJ.do_(h:MJ M S k b l t)(v:k<1000000000){i}(p:i<M.c.gl.length):MJ M (qL M i S) k b (l+1) (t+1):=by
 have E:=h.li i p;have F:=h.gb i p;have x:=W5 (wl:=M.w i) h.r p (CO h.r p) v E F ⟨h.nn.2.1,h.nn.2.2.1,h.nn.2.2.2⟩;obtain⟨G,C⟩:=b83 (i:=i) (n:=M.n i) (wl:=M.w i) (c:=M.c) (L:=S.ls i)
 have d:MJ M (S.sl i (ge M.c i (M.n i) (M.w i) (S.ls i))) k b (l+1) (t+1):=h.sl p x.li x.b x.o (Qan _) (Qan _) aq aq (by have:=h.gl;show((ge M.c i (M.n i) (M.w i) (S.ls i)).gt.l.length:Int)≤_;have:(ge M.c i (M.n i) (M.w i) (S.ls i)).gt.l.length≤S.gt.l.length+1:=C.2;omega) (by
   have:=h.gf;have H:(ge M.c i (M.n i) (M.w i) (S.ls i)).gt.fm=S.gt.fm:=G;have N:S.gt.l.length≤(ge M.c i (M.n i) (M.w i) (S.ls i)).gt.l.length:=C.1
   rw[H];omega)
 unfold qL;split
 rename_i q
 obtain⟨j,I,s⟩:=Wb h.r p q.2;rw[I,Qae];obtain⟨f,s⟩:=s;have A:i<S.gs.length:=by rw[h.len];exact p
 have J:=d.li j f;have u:=h.gb j f;have e:(S.sl i (ge M.c i (M.n i) (M.w i) (S.ls i))).at_ j=S.at_ j:=by
  show(S.gs.set i _).getD j default=_;rw[mV A,Qab s]
 have m:=h.li j f;refine⟨d.r,(Qal ..).trans d.len,λa B=>?_,λa B=>?_,d.nn,d.gl,d.gf,d.il,d.iq⟩;have K:=(d.sg (l':=l+2) f (y:={ S.at_ j with g:=iO (S.at_ j).g 4 }) (by rw[e]) m.bx (m.g.raise 4) ((u.raise 4).le (Qan _) (Qan _) aq aq) aq).li a B;exact K;show GB (((S.sl i (ge M.c i (M.n i) (M.w i) (S.ls i))).gs.set j { S.at_ j with g:=iO (S.at_ j).g 4 }).getD a default).g k b (l+1) (t+1);rw[mV (by rw[d.len];exact f)];by_cases D:a=j;subst D;rw[Qad Z];exact(u.raise 4).le (Qan _) (Qan _) (Qan _) aq;rw[Qab D];exact d.gb a B;exact d
theorem IK(a:rt c=true)n:∃g:Nat,(ka c.sl n).g=g/\g<c.gl.length/\(ka c.sl n).s<c.sl.length/\0≤(ka c.sl n).o:=by obtain⟨b,j,d⟩:=IG a;obtain⟨i,k,l⟩:=CL b d;obtain⟨e,m,p,q⟩:=IH b d (Qbq n i);obtain⟨_,_,_,_,_,_,f,_⟩:=vZ a;simp only[xE,Qbh,Qbc]at f;have h:=zH f.2 e;simp only[zC,m0,Qcq,Qam,Qas]at h;have r:0≤(AF c.sl (gY c.sl ((n %fk c.sl:Nat):Int))).1/\(AF c.sl (gY c.sl ((n %fk c.sl:Nat):Int))).1<(c.gl.length:Nat):=h.1;refine⟨((AF c.sl (gY c.sl ((n %fk c.sl:Nat):Int))).1).toNat,?_,?_,e,?_⟩;show(AF c.sl (gY c.sl ((n %fk c.sl:Nat):Int))).1=_;omega;omega;show 0≤((n %fk c.sl:Nat):Int)-fN c.sl (gY c.sl ((n %fk c.sl:Nat):Int));omega
theorem MJ.step(h:MJ M S k b l t)(j:k<100000000):MJ M (uu M S) (k+1) (b+6) (l+t+7) (t+1):=by
 obtain⟨g,e,c,_⟩:=IK h.r S.n;have p:=h.nn;have d:MJ M (jA M S) k b (l+t) t:=by
  unfold jA CM;split;exact h.dl;exact h.le (Qan _) (Qan _) aq (Qan _)
 have m:MJ M (oo M S) k b (l+t+5) t:=by
  unfold oo AK;split;rw[e,Qae];exact d.bg c;exact d.le (Qan _) (Qan _) aq (Qan _)
 have f:MJ M (pf M S) (k+1) (b+6) (l+t+5+1) t:=by
  unfold pf CN;rw[e,Qae];exact m.st c
 have a:MJ M (oq M S) (k+1) (b+6) (l+t+5+1+1) (t+1):=by
  unfold oq AL;split;rw[e,Qae];exact f.do_ aq c;exact f.le (Qan _) (Qan _) aq aq
 exact⟨a.r,a.len,a.li,λi o=>(a.gb i o).le (Qan _) (Qan _) aq (Qan _),aq,a.gl,a.gf,a.il,a.iq⟩
end
end
variable {inp:List (List It6)}{S:Ms}{M:Mw}
section
open Go.RowKit
set_option synthInstance.maxSize 4000
theorem gi.cons_imp{a b:HP}{c:List HP}(h:∀l,a l->b l)(k:∀l,gi A l->gi c l):∀l,gi (a::A) l->gi (b::c) l:=λl ⟨d,f,e,g,i⟩=>⟨d,f,e,h d g,k f i⟩
theorem No{α:Type}{f g}:∀{L:List α},(∀x∈L,∀l,f x l->g x l)->∀l,gi (L.map f) l->gi (L.map g) l
 |[],_,_,h=>h
 |x::L,a,l,h=>gi.cons_imp (a x n4) (No λy b=>a y (Qaj _ b)) l h
structure Gq where
  c : Cfg
  i : Nat
  ps : Nat
  pb : Nat
  wl : List Nat
  y : Gp
  fr : List az
structure Zq (q : Gq) (z : Gz) (wg : Nat) : Prop where
  c : z.c = q.c
  i : z.i = q.i
  ps : z.ps = q.ps
  pb : z.pb = q.pb
  w : z.wv = .slice (some ⟨wg, 0, none⟩) q.wl.length q.wl.length
abbrev kM(gb:Nat)(q:Gq)(z:Gz)(wg:Nat)(R:List HP):List HP:=gA gb z q.y.g ⟨q.fr,q.y.pg,[]⟩ (pt wg (ae (q.wl.map wV) 62)::oi z.bx q.y.bx::R)
def iP(gb:Nat)(q:Gq):HP:=chk (λC=>∃z wg,Zq q z wg/\C=kM gb q z wg [])
section
variable{P:Program}{W0:World}{N:FSz}{K:Act->World->Prop}{e:bK}{A R:List HP}{gb:Nat}{q:Gq}{f:FuncId}{args:List Value}{Post:Value->List HP->Prop}
theorem Wg(h:∀z a,Zq q z a->bE P W0 f args (kM gb q z a R) Post):bE P W0 f args (iP gb q::R) Post:=
  uP λC b=>by obtain⟨z,a,c,rfl⟩:=b;exact h z a c
theorem Np(a:Zq q z wg):Ent (kM gb q z wg R) (iP gb q::R):=
  fT (R:=R) (C:=kM gb q z wg []) ⟨z,wg,a,Z⟩
theorem b86[f:Tk iP gb A q R](h:∀z a,Zq q z a->aC W0 N K e (kM gb q z a R)):aC W0 N K e A:=
  ix (r:=iP) (b:=gb) (oz λC c=>by obtain⟨z,a,d,rfl⟩:=c;exact h z a d)
end
theorem Nq{e:Nat}{q:Gq}{f:Po}(g:GMem q.i ⟨q.fr,q.y.pg,po⟩)(o:Oth q.i q.fr po fr' f):∀l,iP e q l->iP e { q with fr:=fr' } l:=λl ⟨C,⟨z,j,d,k⟩,m⟩=>by
 subst k;refine⟨kM e { q with fr:=fr' } z j [],⟨z,j,⟨d.c,d.i,d.ps,d.pb,d.w⟩,Z⟩,?_⟩;have b:∀(a:HP) (l:List (Nat×Obj)),a l->a l:=λ_ _ h=>h;exact gi.cons_imp (b _) (gi.cons_imp (b _) (gi.cons_imp (b _) (gi.cons_imp (b _) (gi.cons_imp (b _) (gi.cons_imp (b _) (gi.cons_imp (W6 g o) λ_ h=>h)))))) l m
structure Mx where
  M : Mw
  ho : Nat
  ps : Nat
  pb : Nat
  db : Nat
  qb : Nat
  tb : Nat
  a : Option Addr
  cap : Nat
  gbs : List Nat
abbrev Mx.gb(D:Mx)(i:Nat):Nat:=D.gbs.getD i 0
abbrev Mx.q(D:Mx)(S:Ms)(i:Nat):Gq:=⟨D.M.c,i,D.ps,D.pb,D.M.w i,S.at_ i,S.fr⟩
abbrev Mx.gs(D:Mx)(S:Ms)(l:List Nat):List HP:=l.map λi=>iP (D.gb i) (D.q S i)
abbrev Mx.al(D:Mx):List Nat:=List.range D.gbs.length
abbrev Mx.ot(D:Mx)(i:Nat):List Nat:=D.al.filter (· != i)
abbrev Mx.go(D:Mx):HP:=osl 49 1 (.slice D.a D.gbs.length D.cap) (D.gbs.map pV)
abbrev Mx.hO(D:Mx):Obj:=cY D.M.c D.ps D.pb D.db D.qb D.tb
abbrev Mx.sh(D:Mx)(S:Ms)(R:List HP):List HP:=aH D.ps S.fr::cz D.pb (D.ps,S.po)::dQ D.db S.dk::dC D.qb S.pt::jO D.tb S.gt::R
abbrev Mx.H(D:Mx)(S:Ms)(R:List HP):List HP:=pt D.ho D.hO::D.go::D.sh S (kH 2 (bB (D.gs S D.al))::R)
abbrev Mx.O(D:Mx)(S:Ms)(i:Nat)(z:Gz)(wg:Nat)(R:List HP):List HP:=pt D.ho D.hO::D.go::kM (D.gb i) (D.q S i) z wg (D.sh S (kH 2 (bB (D.gs S (D.ot i)))::R))
def dH(ho:Nat)(x:Mx×Ms):HP:=bB (x.1.H x.2 [])
theorem Wh{l:List Nat}(h:l.Nodup)(a:i∈l):l.Perm (i::l.filter (· != i)):=by rw[<-h.erase_eq_filter i];exact List.perm_cons_erase a
section
variable{P:Program}{W0:World}{D:Mx}{S:Ms}{B R:List HP}{f:FuncId}{args:List Value}{Post:Value->List HP->Prop}{i:Nat}{l:List Nat}
theorem Fs:Ent (dH D.ho (D,S)::R) (D.H S R):=kd (A:=D.H S [])
theorem Nr:Ent (D.H S R) (dH D.ho (D,S)::R):=ke (A:=D.H S [])
theorem Ns(h:l.Nodup)(a:i∈l):Ent (kH 2 (bB (D.gs S l))::R) (iP (D.gb i) (D.q S i)::kH 2 (bB (D.gs S (l.filter (· != i))))::R):=by refine(kd (A:=D.gs S l) (R:=R)).trans ?_;exact(Ent.ofPerm (((Wh h a).map _).append_right R)).trans (Ent.cons ke)
theorem Wi(h:l.Nodup)(a:i∈l):Ent (iP (D.gb i) (D.q S i)::kH 2 (bB (D.gs S (l.filter (· != i))))::R) (kH 2 (bB (D.gs S l))::R):=by refine(Ent.cons kd).trans ?_;have b:=((Wh h a).map (λi=>iP (D.gb i) (D.q S i))).symm.append_right R;exact(Ent.ofPerm b).trans (ke (A:=D.gs S l))
theorem b87{S'}(h:∀j∈l,∀m,iP (D.gb j) (D.q S j) m->iP (D.gb j) (D.q S' j) m):Ent (kH 2 (bB (D.gs S l))::R) (kH 2 (bB (D.gs S' l))::R):=
  ⟨λm ⟨a,b,c,d,e⟩=>⟨m,[],⟨a,b,c,No h a d,e⟩,n4⟩⟩
theorem IL:D.al.Nodup:=QcS
theorem IM:i∈D.al↔i<D.gbs.length:=QbX
theorem Wj:(D.ot i).Nodup:=IL.filter _
theorem IN:j∈D.ot i↔j<D.gbs.length/\j≠i:=by simp only[Mx.ot,QaG,IM,Qcr]
theorem Ft(b:i<D.gbs.length)(h:∀z a,Zq (D.q S i) z a->bE P W0 f args (D.O S i z a R) Post):bE P W0 f args (dH D.ho (D,S)::R) Post:=by refine ig Fs (ig (B:=iP (D.gb i) (D.q S i)::pt D.ho D.hO::D.go::D.sh S (kH 2 (bB (D.gs S (D.ot i)))::R)) ?_ (Wg λz a c=>?_));refine Ent.trans (B:=kH 2 (bB (D.gs S D.al))::pt D.ho D.hO::D.go::D.sh S R) inferInstance ?_;exact(Ns IL (IM.2 b)).trans inferInstance;exact ig inferInstance (h z a c)
theorem IP(a:i<D.gbs.length)(b:Zq (D.q S i) z wg):Ent (D.O S i z wg R) (dH D.ho (D,S)::R):=by refine Ent.trans (B:=kM (D.gb i) (D.q S i) z wg (kH 2 (bB (D.gs S (D.ot i)))::pt D.ho D.hO::D.go::D.sh S R)) inferInstance ?_;refine(Np b).trans ((Wi IL (IM.2 a)).trans ?_);exact Ent.trans (B:=D.H S R) inferInstance Nr
end
theorem Wk{D:Mx}{k b l t:Int}{R:List HP}(h:MJ D.M S k b l t)(n:D.gbs.length=D.M.c.gl.length)(p:i<D.gbs.length)(r:∀j,j≠i->Oth j S.fr S.po L.fr L.po){js:List Nat}(a:∀j∈js,j<D.gbs.length/\j≠i):
    Ent (kH 2 (bB (D.gs S js))::R) (kH 2 (bB (D.gs (S.sl i L) js))::R):=by
 have d:i<S.gs.length:=by rw[h.len, <-n];exact p
 have e:∀j,j≠i->(S.sl i L).at_ j=S.at_ j:=λj a=>by
  show(S.gs.set i ⟨L.g,L.pg,L.bx⟩).getD j default=_;rw[mV d,Qab a]
 refine b87 λj f m s=>?_;obtain⟨u,o⟩:=a j f;have:=Nq (q:=D.q S j) (h.li j (by rw[<-n];exact u)).m (r j o) m s;show iP (D.gb j) ⟨D.M.c,j,D.ps,D.pb,D.M.w j,(S.sl i L).at_ j,L.fr⟩ m;rw[e j o];exact this
abbrev Mx.P(D:Mx)(S:Ms)(i:Nat)(L:Ls)(z:Gz)(wg:Nat)(R:List HP):List HP:=pt D.ho D.hO::D.go::kM (D.gb i) ⟨D.M.c,i,D.ps,D.pb,D.M.w i,⟨L.g,L.pg,L.bx⟩,L.fr⟩ z wg (aH D.ps L.fr::cz D.pb (D.ps,L.po)::dQ D.db L.dk::dC D.qb L.pt::jO D.tb L.gt::kH 2 (bB (D.gs S (D.ot i)))::R)
theorem IQ{D:Mx}{k b l t:Int}{R:List HP}(m:MJ D.M S k b l t)(n:D.gbs.length=D.M.c.gl.length)(d:i<D.gbs.length)(o:∀j,j≠i->Oth j S.fr S.po L.fr L.po)(a:Zq (D.q S i) z wg):Ent (D.P S i L z wg R) (dH D.ho (D,S.sl i L)::R):=by
 have f:i<S.gs.length:=by rw[m.len, <-n];exact d
 have e:(S.sl i L).at_ i=⟨L.g,L.pg,L.bx⟩:=by
  show(S.gs.set i ⟨L.g,L.pg,L.bx⟩).getD i default=_;rw[mV f,Qad Z]
 have h:Zq (D.q (S.sl i L) i) z wg:=⟨a.c,a.i,a.ps,a.pb,a.w⟩
 have p:D.q (S.sl i L) i=⟨D.M.c,i,D.ps,D.pb,D.M.w i,⟨L.g,L.pg,L.bx⟩,L.fr⟩:=by
  show(⟨D.M.c,i,D.ps,D.pb,D.M.w i,(S.sl i L).at_ i,L.fr⟩:Gq)=_;rw[e]
 refine Ent.trans (B:=kH 2 (bB (D.gs S (D.ot i)))::pt D.ho D.hO::D.go::kM (D.gb i) ⟨D.M.c,i,D.ps,D.pb,D.M.w i,⟨L.g,L.pg,L.bx⟩,L.fr⟩ z wg (aH D.ps L.fr::cz D.pb (D.ps,L.po)::dQ D.db L.dk::dC D.qb L.pt::jO D.tb L.gt::R)) inferInstance ?_;refine(Wk m n d o λj r=>IN.1 r).trans ?_;refine Ent.trans (B:=D.O (S.sl i L) i z wg R) ?_ (IP d h);show Ent _ (pt D.ho D.hO::D.go::kM (D.gb i) (D.q (S.sl i L) i) z wg _);rw[p];exact IO
end
section
open Go.RowKit
set_option synthInstance.maxSize 1000
set_option synthInstance.maxHeartbeats 400000
theorem b88 (ho gb i : Nat) (cf : Cfg) (ps pb db qb tb : Nat) (h : CfK W0 cf) (hp : du cf i = none) : sQ W0 71 [pV ho, pV gb, iQ i] (pt ho (cY cf ps pb db qb tb) :: R) (iQ ((0 : Nat) : Int)) (pt ho (cY cf ps pb db qb tb) :: R) := by
 refine am func71 ntmps71 ?_
 refine cW 1 (ar D7 (Aa ho cf ps pb db qb tb)) ?_
 refine d7 rfl rfl rfl (fun g1_3 => ?_) fun g1_3 => ?_
 exact absurd g1_3 cl
 refine aw ?_
 refine aB rfl (fun c1 => ?_) fun c1 => ?_
 first | cases c1 | exact absurd c1 (by simp)
 refine aw ?_
 refine ac (cV (tK (l1 := dU cf) (l2 := [pV ps, pV pb, pV db, pV qb, pV tb]) (eQ (b := ho)))) ?_
 refine eS (aK Da (Az cf h.ok i)) ?_
 rw [hp, show dP none = -1 from rfl]
 refine aw ?_
 refine ap (fun c4 => ?_) fun c4 => ?_
 exact ag ax
 exact absurd rfl c4
theorem b89 (ho gb i : Nat) (z : Gz) (g : Gu) (cf : Cfg) (ps pb db qb tb : Nat) (h : CfK W0 cf) (hp : du cf i ≠ none) (hb : g.ln < 4000000000000000000) (fr : List az) (pg : List Pl) (s : QS) (hs : QL s) (u : List Prt) (hu : jp u) (hd : (fM false fr pg (dP (du cf i)) s u).c ≤ 8 ∧ (fM false fr pg (dP (du cf i)) s u).n ≤ 72 ∧ (fM false fr pg (dP (du cf i)) s u).b ≤ 288) : sP W0 71 [pV ho, pV gb, .int .i64 i] (pt ho (cY cf ps pb db qb tb) :: pt gb (bN z g) :: ew z.x.v (g.ls, g.ln) :: pt z.q2 (qO true s) :: cR z.x.m ⟨z.pv, z.ps, z.pm, g.bud, fr, pg⟩ :: aH z.ps fr :: dC qb u :: R) (fun v B => ∃ y, rR y (fM false fr pg (dP (du cf i)) s u) ∧ v = .int .i64 ((y.n + y.b : Nat) : Int) ∧ B = pt ho (cY cf ps pb db qb tb) :: pt gb (bN z g) :: ew z.x.v (if 0 < y.c then jb g.ls g.ln 3 else g.ls, if 0 < y.c then gz g.ls g.ln 3 else g.ln) :: pt z.q2 (qO true y.s) :: cR z.x.m ⟨z.pv, z.ps, z.pm, g.bud, y.fr, pg⟩ :: aH z.ps y.fr :: dC qb y.ps :: R) := by
 obtain ⟨j, hj⟩ := Option.ne_none_iff_exists'.1 hp
 obtain ⟨port, hpt⟩ : ∃ p, dP (du cf i) = p := ⟨_, rfl⟩
 have hp1 : port ≠ -1 := by rw [← hpt, hj]; show ((j : Nat) : Int) ≠ -1; omega
 rw [hpt] at hd ⊢
 refine jj 9 func71 ntmps71 ?_
 refine eS (eg D7 rfl (Aa ho cf ps pb db qb tb)) ?_
 refine aa rfl (aV rfl) ?_
 refine d7 rfl rfl rfl (fun g1_3 => ?_) fun g1_3 => ?_
 exact absurd g1_3 cl
 refine au 6 ?_
 refine aB rfl (fun c1 => ?_) fun c1 => ?_
 first | cases c1 | exact absurd c1 (by simp)
 refine au 7 ?_
 refine aa rfl (jg J3 tq rfl (tK (l1 := dU cf) (l2 := [pV ps, pV pb, pV db, pV qb, pV tb]) (eQ (b := ho))) rfl) ?_
 refine aa rfl (aV rfl) (eS (gx Da rfl (Az cf h.ok i)) ?_)
 rw [hpt]
 refine au 10 ?_
 refine aB rfl (fun c4 => ?_) fun c4 => ?_
 omega
 refine au 3 ?_
 refine dY [(ho, 0, _)] 12 mixed rfl (bj bI) (fun hS => ?_)
 refine aj 0 1 hS ?_
 refine aj 2 1 hS ?_
 refine aj 4 5 hS ?_
 refine fp (is := [1, 10]) ld rfl ⟨?_, ?_, trivial⟩
 skip
 refine lH rfl rfl (eg tA rfl (rP W0 _ gb z g)) rfl ?_; clear hS
 rintro _ B_ ⟨rfl, hB_⟩
 obtain rfl := hB_.symm
 refine ⟨(bj bI), fun hS => ?_⟩
 refine fp (is := [3, 10]) ld rfl ⟨?_, ?_, trivial⟩
 skip
 refine lH rfl rfl (eg D9 rfl (Ay W0 _ gb z g 2 cl)) rfl ?_; clear hS
 rintro _ B_ ⟨rfl, hB_⟩
 obtain rfl := hB_.symm
 rw [show t8 z 2 = z.q2 from rfl]
 refine ⟨(bj bI), fun hS => ?_⟩
 refine fp (is := [9, 10]) ld rfl ⟨?_, ?_, trivial⟩
 skip
 refine lH rfl rfl (gU JI rfl (Fe W0 _ z.x.m z.pv z.ps z.pm g.bud fr pg z.q2 s hs qb u hu port)) rfl ?_; clear hS
 rintro _ B_ ⟨y, hy1, hy2, rfl, hB_⟩
 obtain rfl := hB_.symm
 have hc8 : y.c ≤ 8 ∧ y.n ≤ 72 ∧ y.b ≤ 288 := by
  obtain ⟨e1, e2, e3, e4, e5, e6, e7⟩ := hy1
  omega
 refine ⟨(bj bI), fun hS => ?_⟩
 refine iw 10 ld rfl rfl (cP vJ) rfl ?_; clear hS
 rintro _ _ ⟨b5, rfl, rfl⟩
 refine ⟨(bj bI), fun hS => ?_⟩
 refine lI 11 rfl rfl (eN ny rfl rfl rfl rfl rfl) (bj bI) fun hS => ?_
 refine eY ?_
 refine aA ?_
 refine fA (fun _ : Unit => True) (fun _ => [(8, pV b5)]) (fun _ => pt b5 (ae [.int .i64 (y.c : Nat), .int .i64 (y.n : Nat), .int .i64 (y.b : Nat), .int .i64 y.w] 230) :: pt ho (cY cf ps pb db qb tb) :: pt gb (bN z g) :: ew z.x.v (if 0 < y.c then jb g.ls g.ln 3 else g.ls, if 0 < y.c then gz g.ls g.ln 3 else g.ln) :: pt z.q2 (qO true y.s) :: cR z.x.m ⟨z.pv, z.ps, z.pm, g.bud, y.fr, pg⟩ :: aH z.ps y.fr :: dC qb y.ps :: R) ?_ ?_
 skip
 refine au 7 ?_
 refine aB rfl (fun c7 => ?_) fun c7 => ?_
 refine au 2 ?_
 refine eS (eg uE rfl (t7 W0 _ gb z g)) ?_
 refine eS (eg vM rfl (ui z.x.v g.ls g.ln 3 hb)) ?_
 rw [Qad (show dR 3 = true by decide), Qad (show dR 3 = true by decide), Qad (show dR 3 = true by decide), show (3 : Int).toNat = 3 from rfl]
 refine au 2 ?_
 refine cZ () ?_ (he := ?_)
 trivial
 first | rw [Qad (show 0 < y.c by omega), Qad (show 0 < y.c by omega)] | rw [Qab (show ¬ 0 < y.c by omega), Qab (show ¬ 0 < y.c by omega)]
 exact IO
 refine au 2 ?_
 refine cZ () ?_ (he := ?_)
 trivial
 first | rw [Qad (show 0 < y.c by omega), Qad (show 0 < y.c by omega)] | rw [Qab (show ¬ 0 < y.c by omega), Qab (show ¬ 0 < y.c by omega)]
 exact IO
 intro _ _
 refine au 3 ?_
 refine cW 4 (gx JJ rfl (Ff y.c y.n y.b y.w aq aq)) ?_
 refine ag ?_
 exact ⟨_, ⟨y, hy1, rfl, rfl⟩, IO⟩
 skip
 refine lH rfl rfl (cP vJ) rfl ?_; clear hS
 rintro _ _ ⟨b5, rfl, rfl⟩
 refine ⟨(bj bI), fun hS => ?_⟩
 refine iw 9 ld rfl rfl (gU JI rfl (Fe W0 _ z.x.m z.pv z.ps z.pm g.bud fr pg z.q2 s hs qb u hu port)) rfl ?_; clear hS
 rintro _ B_ ⟨y, hy1, hy2, rfl, hB_⟩
 obtain rfl := hB_.symm
 have hc8 : y.c ≤ 8 ∧ y.n ≤ 72 ∧ y.b ≤ 288 := by
  obtain ⟨e1, e2, e3, e4, e5, e6, e7⟩ := hy1
  omega
 refine ⟨(bj bI), fun hS => ?_⟩
 refine lI 11 rfl rfl (eN ny rfl rfl rfl rfl rfl) (bj bI) fun hS => ?_
 refine eY ?_
 refine aA ?_
 refine fA (fun _ : Unit => True) (fun _ => [(8, pV b5)]) (fun _ => pt b5 (ae [.int .i64 (y.c : Nat), .int .i64 (y.n : Nat), .int .i64 (y.b : Nat), .int .i64 y.w] 230) :: pt ho (cY cf ps pb db qb tb) :: pt gb (bN z g) :: ew z.x.v (if 0 < y.c then jb g.ls g.ln 3 else g.ls, if 0 < y.c then gz g.ls g.ln 3 else g.ln) :: pt z.q2 (qO true y.s) :: cR z.x.m ⟨z.pv, z.ps, z.pm, g.bud, y.fr, pg⟩ :: aH z.ps y.fr :: dC qb y.ps :: R) ?_ ?_
 skip
 refine au 7 ?_
 refine aB rfl (fun c7 => ?_) fun c7 => ?_
 refine au 2 ?_
 refine eS (eg uE rfl (t7 W0 _ gb z g)) ?_
 refine eS (eg vM rfl (ui z.x.v g.ls g.ln 3 hb)) ?_
 rw [Qad (show dR 3 = true by decide), Qad (show dR 3 = true by decide), Qad (show dR 3 = true by decide), show (3 : Int).toNat = 3 from rfl]
 refine au 2 ?_
 refine cZ () ?_ (he := ?_)
 trivial
 first | rw [Qad (show 0 < y.c by omega), Qad (show 0 < y.c by omega)] | rw [Qab (show ¬ 0 < y.c by omega), Qab (show ¬ 0 < y.c by omega)]
 exact IO
 refine au 2 ?_
 refine cZ () ?_ (he := ?_)
 trivial
 first | rw [Qad (show 0 < y.c by omega), Qad (show 0 < y.c by omega)] | rw [Qab (show ¬ 0 < y.c by omega), Qab (show ¬ 0 < y.c by omega)]
 exact IO
 intro _ _
 refine au 3 ?_
 refine cW 4 (gx JJ rfl (Ff y.c y.n y.b y.w aq aq)) ?_
 refine ag ?_
 exact ⟨_, ⟨y, hy1, rfl, rfl⟩, IO⟩
 skip
 refine lH rfl rfl (cP vJ) rfl ?_; clear hS
 rintro _ _ ⟨b5, rfl, rfl⟩
 refine ⟨(bj bI), fun hS => ?_⟩
 refine iw 3 ld rfl rfl (eg D9 rfl (Ay W0 _ gb z g 2 cl)) rfl ?_; clear hS
 rintro _ B_ ⟨rfl, hB_⟩
 obtain rfl := hB_.symm
 rw [show t8 z 2 = z.q2 from rfl]
 refine ⟨(bj bI), fun hS => ?_⟩
 refine iw 9 ld rfl rfl (gU JI rfl (Fe W0 _ z.x.m z.pv z.ps z.pm g.bud fr pg z.q2 s hs qb u hu port)) rfl ?_; clear hS
 rintro _ B_ ⟨y, hy1, hy2, rfl, hB_⟩
 obtain rfl := hB_.symm
 have hc8 : y.c ≤ 8 ∧ y.n ≤ 72 ∧ y.b ≤ 288 := by
  obtain ⟨e1, e2, e3, e4, e5, e6, e7⟩ := hy1
  omega
 refine ⟨(bj bI), fun hS => ?_⟩
 refine lI 11 rfl rfl (eN ny rfl rfl rfl rfl rfl) (bj bI) fun hS => ?_
 refine eY ?_
 refine aA ?_
 refine fA (fun _ : Unit => True) (fun _ => [(8, pV b5)]) (fun _ => pt b5 (ae [.int .i64 (y.c : Nat), .int .i64 (y.n : Nat), .int .i64 (y.b : Nat), .int .i64 y.w] 230) :: pt ho (cY cf ps pb db qb tb) :: pt gb (bN z g) :: ew z.x.v (if 0 < y.c then jb g.ls g.ln 3 else g.ls, if 0 < y.c then gz g.ls g.ln 3 else g.ln) :: pt z.q2 (qO true y.s) :: cR z.x.m ⟨z.pv, z.ps, z.pm, g.bud, y.fr, pg⟩ :: aH z.ps y.fr :: dC qb y.ps :: R) ?_ ?_
 skip
 refine au 7 ?_
 refine aB rfl (fun c7 => ?_) fun c7 => ?_
 refine au 2 ?_
 refine eS (eg uE rfl (t7 W0 _ gb z g)) ?_
 refine eS (eg vM rfl (ui z.x.v g.ls g.ln 3 hb)) ?_
 rw [Qad (show dR 3 = true by decide), Qad (show dR 3 = true by decide), Qad (show dR 3 = true by decide), show (3 : Int).toNat = 3 from rfl]
 refine au 2 ?_
 refine cZ () ?_ (he := ?_)
 trivial
 first | rw [Qad (show 0 < y.c by omega), Qad (show 0 < y.c by omega)] | rw [Qab (show ¬ 0 < y.c by omega), Qab (show ¬ 0 < y.c by omega)]
 exact IO
 refine au 2 ?_
 refine cZ () ?_ (he := ?_)
 trivial
 first | rw [Qad (show 0 < y.c by omega), Qad (show 0 < y.c by omega)] | rw [Qab (show ¬ 0 < y.c by omega), Qab (show ¬ 0 < y.c by omega)]
 exact IO
 intro _ _
 refine au 3 ?_
 refine cW 4 (gx JJ rfl (Ff y.c y.n y.b y.w aq aq)) ?_
 refine ag ?_
 exact ⟨_, ⟨y, hy1, rfl, rfl⟩, IO⟩
 skip
 refine lH rfl rfl (cP vJ) rfl ?_; clear hS
 rintro _ _ ⟨b5, rfl, rfl⟩
 refine ⟨(bj bI), fun hS => ?_⟩
 refine iX 1 rfl rfl (eg tA rfl (rP W0 _ gb z g)) (bj bI) fun hS => ?_
 refine iw 3 ld rfl rfl (eg D9 rfl (Ay W0 _ gb z g 2 cl)) rfl ?_; clear hS
 rintro _ B_ ⟨rfl, hB_⟩
 obtain rfl := hB_.symm
 rw [show t8 z 2 = z.q2 from rfl]
 refine ⟨(bj bI), fun hS => ?_⟩
 refine iw 9 ld rfl rfl (gU JI rfl (Fe W0 _ z.x.m z.pv z.ps z.pm g.bud fr pg z.q2 s hs qb u hu port)) rfl ?_; clear hS
 rintro _ B_ ⟨y, hy1, hy2, rfl, hB_⟩
 obtain rfl := hB_.symm
 have hc8 : y.c ≤ 8 ∧ y.n ≤ 72 ∧ y.b ≤ 288 := by
  obtain ⟨e1, e2, e3, e4, e5, e6, e7⟩ := hy1
  omega
 refine ⟨(bj bI), fun hS => ?_⟩
 refine lI 11 rfl rfl (eN ny rfl rfl rfl rfl rfl) (bj bI) fun hS => ?_
 refine eY ?_
 refine aA ?_
 refine fA (fun _ : Unit => True) (fun _ => [(8, pV b5)]) (fun _ => pt b5 (ae [.int .i64 (y.c : Nat), .int .i64 (y.n : Nat), .int .i64 (y.b : Nat), .int .i64 y.w] 230) :: pt ho (cY cf ps pb db qb tb) :: pt gb (bN z g) :: ew z.x.v (if 0 < y.c then jb g.ls g.ln 3 else g.ls, if 0 < y.c then gz g.ls g.ln 3 else g.ln) :: pt z.q2 (qO true y.s) :: cR z.x.m ⟨z.pv, z.ps, z.pm, g.bud, y.fr, pg⟩ :: aH z.ps y.fr :: dC qb y.ps :: R) ?_ ?_
 skip
 refine au 7 ?_
 refine aB rfl (fun c7 => ?_) fun c7 => ?_
 refine au 2 ?_
 refine eS (eg uE rfl (t7 W0 _ gb z g)) ?_
 refine eS (eg vM rfl (ui z.x.v g.ls g.ln 3 hb)) ?_
 rw [Qad (show dR 3 = true by decide), Qad (show dR 3 = true by decide), Qad (show dR 3 = true by decide), show (3 : Int).toNat = 3 from rfl]
 refine au 2 ?_
 refine cZ () ?_ (he := ?_)
 trivial
 first | rw [Qad (show 0 < y.c by omega), Qad (show 0 < y.c by omega)] | rw [Qab (show ¬ 0 < y.c by omega), Qab (show ¬ 0 < y.c by omega)]
 exact IO
 refine au 2 ?_
 refine cZ () ?_ (he := ?_)
 trivial
 first | rw [Qad (show 0 < y.c by omega), Qad (show 0 < y.c by omega)] | rw [Qab (show ¬ 0 < y.c by omega), Qab (show ¬ 0 < y.c by omega)]
 exact IO
 intro _ _
 refine au 3 ?_
 refine cW 4 (gx JJ rfl (Ff y.c y.n y.b y.w aq aq)) ?_
 refine ag ?_
 exact ⟨_, ⟨y, hy1, rfl, rfl⟩, IO⟩
end
section
open Go.RowKit
set_option synthInstance.maxSize 4000
structure MxI (W0 : World) (D : Mx) : Prop where
  ok : CfK W0 D.M.c
  len : D.gbs.length = D.M.c.gl.length
  w : ∀ i, (∀ y ∈ D.M.w i, y < 4294967296) ∧ (D.M.w i).length ≤ 128
abbrev MK(M:Mw)(S:Ms):Prop:=MJ M S 600 9600 600000 600
abbrev Mx.D(D:Mx)(i wg:Nat):Hb:=⟨D.M.c,i,D.gb i,wg,D.M.w i,D.ho,D.db,D.qb,D.tb,D.cap,D.gbs⟩
abbrev Wl(D:Mx)(S:Ms)(j:Nat)(z:Gz)(wg:Nat)(R:List HP):List HP:=pt z.x.r (eJ (S.at_ j).g.c.rl (S.at_ j).g.c.pc)::pt z.x.c (fj (S.at_ j).g.c.cs z.i)::ie z.tr (S.at_ j).g.es::mQ z.x.t (S.at_ j).g.tm::cR z.x.m ⟨z.pv,z.ps,z.pm,(S.at_ j).g.bud,S.fr,(S.at_ j).pg⟩::pt z.q0 (qO true (S.at_ j).g.qa)::pt z.q1 (qO true (S.at_ j).g.qb)::pt z.q2 (qO true (S.at_ j).g.qc)::pt wg (ae ((D.M.w j).map wV) 62)::oi z.bx (S.at_ j).bx::R
theorem b9a g:iO g 4={ g with ls:=jb g.ls g.ln 4,ln:=gz g.ls g.ln 4 }:=Z
section
variable{W0:World}{D:Mx}{S:Ms}{R:List HP}{i:Nat}(hW:MxI W0 D)(hM:MK D.M S)(hi:i<D.gbs.length)
include hW hM hi
omit hM in
theorem yM:i<D.M.c.gl.length:=by rw[<-hW.len];exact hi
theorem b9b(C:∀A,bF (aQ W0 A) 1 0 ja)(E:∀A,bF (aQ W0 A) 0 0 ko):sQ W0 30 [pV (D.gb i)] (dH D.ho (D,S)::R) (iQ (Ni i (S.ls i))) (dH D.ho (D,S.sl i (tc i (S.ls i)))::R):=by
 have h:=yM hW hi;have F:=(eI hM.r).g4;have n:=hM.li i h;have d:=hM.gb i h;obtain⟨_,_,G⟩:=We hM.r h n d;refine Ft hi λz H e=>?_;have f:=e.i.symm;have I:GOk z (S.at_ i).g 600:=⟨d.c,by rw[e.i];show i<4;omega,by have:=d.k;omega,by have:=d.b;omega,by have:=d.l;omega,by have:=d.t;omega⟩
 have a:=IQ (R:=R) hM hW.len hi G e;obtain⟨o,p,q⟩:=VP (i:=i) (g:=(S.at_ i).g) (fr:=S.fr) (pg:=(S.at_ i).pg);obtain⟨x,J,K,L,M,N,O,Q,T,U,V,W,X⟩:=z;have u:=e.ps;have w:=e.pb;dsimp only at f u w;subst f u w;refine eR DD (cF (b6q W0 _ (D.gb i) _ (S.at_ i).g 600 S.fr (S.at_ i).pg C E I (Qai _) n.m.fr) λv B j=>?_);obtain⟨rfl,rfl⟩:=j;refine⟨_,⟨Z,Z⟩,Ent.trans ?_ a⟩;show Ent _ (D.P S i ⟨(gB i (S.at_ i).g S.fr (S.at_ i).pg).1.2,(S.at_ i).pg,(S.at_ i).bx,(gB i (S.at_ i).g S.fr (S.at_ i).pg).2,S.po,S.dk,S.pt,S.gt⟩ _ H R);obtain⟨s,y⟩:∃s,gB i (S.at_ i).g S.fr (S.at_ i).pg=s:=⟨_,Z⟩
 rw[y]at o p q;show Ent (gS _ _ (gB i (S.at_ i).g S.fr (S.at_ i).pg).1.2 (gB i (S.at_ i).g S.fr (S.at_ i).pg).2 _ _) _;rw[y, <-o, <-p, <-q];exact IO
theorem mcI{z wg}(a:Zq (D.q S i) z wg):HdI W0 (D.D i wg) z (S.ls i) 600 9600 600000 600:=by have b:=yM hW hi;exact⟨hW.ok,hM.r,b,a.i,a.c,a.w,hW.w i,hM.li i b,hM.gb i b,cl,cl,cl,by have:=hM.gl;show S.gt.l.length<100000;omega⟩
theorem b9d : sQ W0 71 [pV D.ho, pV (D.gb i), iQ i] (dH D.ho (D, S) :: R) (iQ (yJ D.M.c i (S.ls i))) (dH D.ho (D, S.sl i (pd D.M.c i (S.ls i))) :: R) := by
 have hg := yM hW hi
 have hL := hM.li i hg
 have hB := hM.gb i hg
 have ho := (Wd hM.r hL hB).o
 have hln : (S.at_ i).g.ln < 4000000000000000000 := by have := hB.l; omega
 have hbd := yF hL.m.fr (S.at_ i).pg false (dP (du D.M.c i)) hL.g.qc hL.pt
 refine Ft hi fun z wg hz => ?_
 have close := IQ (R := R) hM hW.len hi ho hz
 have hzi := hz.i.symm
 obtain ⟨x, q0, q1, q2, pv, ps, pm, pb, bx, tr, wv, zi, zc⟩ := z
 have h3 := hz.ps
 have h4 := hz.pb
 dsimp only at hzi h3 h4
 subst hzi h3 h4
 by_cases hp : du D.M.c i = none
 rw [yJ, Qad hp]
 rw [pd, Qad hp] at close ⊢
 refine cF (P := Tryz.prog) (b88 D.ho (D.gb i) i D.M.c D.ps D.pb D.db D.qb D.tb hW.ok hp) fun v B hB2 => ?_
 obtain ⟨rfl, rfl⟩ := hB2
 exact ⟨_, ⟨rfl, rfl⟩, Ent.trans inferInstance close⟩
 rw [yJ, Qab hp]
 rw [pd, Qab hp] at close ⊢
 refine eR GK (cF (b89 D.ho (D.gb i) i ⟨x, q0, q1, q2, pv, D.ps, pm, D.pb, bx, tr, wv, i, zc⟩ (S.at_ i).g D.M.c D.ps D.pb D.db D.qb D.tb hW.ok hp hln S.fr (S.at_ i).pg (S.at_ i).g.qc hL.g.qc S.pt hL.pt hbd) fun v B hB2 => ?_)
 obtain ⟨y, ⟨e1, e2, e3, e4, e5, e6, e7⟩, rfl, rfl⟩ := hB2
 have e1' : y.fr = (je D.M.c i (S.ls i)).fr := e1
 have e2' : y.s = (je D.M.c i (S.ls i)).s := e2
 have e3' : y.ps = (je D.M.c i (S.ls i)).ps := e3
 have e4' : y.c = (je D.M.c i (S.ls i)).c := e4
 have e5' : y.n = (je D.M.c i (S.ls i)).n := e5
 have e6' : y.b = (je D.M.c i (S.ls i)).b := e6
 obtain ⟨u, hu⟩ : ∃ u, je D.M.c i (S.ls i) = u := ⟨_, rfl⟩
 rw [hu] at e1' e2' e3' e4' e5' e6' close
 rw [hu, e1', e2', e3', e4', e5', e6']
 exact ⟨_, ⟨rfl, rfl⟩, Ent.trans inferInstance close⟩
theorem b9e:sQ W0 32 [pV D.ho,.slice D.a D.gbs.length D.cap,iQ i] (dH D.ho (D,S)::R) (.tuple #[iQ ((jz D.M.c i (S.ls i)).e),iQ (jz D.M.c i (S.ls i)).k]) (dH D.ho (D,qL D.M i S)::R):=by
 have hg:=yM hW hi;have xc:=(eI hM.r).g4;have b:=hW.len;have hL:=hM.li i hg;have hB:=hM.gb i hg;have hd:=W5 (wl:=D.M.w i) hM.r hg (CO hM.r hg) cl hL hB ⟨cl,cl,cl⟩;have x0:D.gbs[i]?=some (D.gb i):=abp;refine Ft hi λz F d=>?_;have hI:=mcI hW hM hi d;have J:=d.ps;have K:=d.pb;by_cases Y:(S.ls i).r 1=8/\mn D.M.c i (S.ls i)=0;rw[qL,Qad Y];obtain⟨j,hj,N,P⟩:=Wb hM.r hg Y.2;have x1:j<D.gbs.length:=by rw[b];exact N
 have x5:D.gbs[j]?=some (D.gb j):=by simp[Mx.gb,List.getD,x1]
 have x6:=hM.gb j N;rw[hj,Qae];have x2:j∈D.ot i:=IN.2 ⟨x1,P⟩;refine ig (B:=iP (D.gb j) (D.q S j)::kH 2 (bB (D.gs S ((D.ot i).filter (· != j))))::pt D.ho D.hO::D.go::kM (D.gb i) (D.q S i) z F (D.sh S R)) ?_ (Wg λZ Q G=>?_);refine Ent.trans (B:=kH 2 (bB (D.gs S (D.ot i)))::pt D.ho D.hO::D.go::kM (D.gb i) (D.q S i) z F (D.sh S R)) inferInstance ?_;exact Ns Wj x2;obtain⟨x,I,C,E,f,ps,h,pb,p,s,t,u,A⟩:=z;dsimp only at J K;subst J K;refine ig (B:=pt D.ho D.hO::D.go::gN (D.gb i) ⟨x,I,C,E,f,D.ps,h,D.pb,p,s,t,u,A⟩ (S.at_ i).g ((D.D i F).X ⟨x,I,C,E,f,D.ps,h,D.pb,p,s,t,u,A⟩ (S.ls i) (pt (D.gb j) (bN Z (S.at_ j).g)::ew Z.x.v ((S.at_ j).g.ls,(S.at_ j).g.ln)::Wl D S j Z Q (kH 2 (bB (D.gs S ((D.ot i).filter (· != j))))::R)))) inferInstance ?_;refine cF (b8N (R:=Wl D S j Z Q (kH 2 (bB (D.gs S ((D.ot i).filter (· != j))))::R)) hI Y.1 Y.2 x0 (by show D.gbs.length≤4;omega) D.a hj x5 Z (S.at_ j).g (by have:=x6.l;omega)) λv B U=>?_;obtain⟨rfl,rfl⟩:=U;refine⟨_,⟨ρ,ρ⟩,?_⟩;obtain⟨T,hT⟩:∃T,ge D.M.c i (D.M.n i) (D.M.w i) (S.ls i)=T:=⟨_,ρ⟩
 have x3:DoLk D.M.c i (S.ls i) 600 9600 600000 600 T:=by rw[<-hT];exact hd
 show Ent (pt D.ho D.hO::D.go::gN (D.gb i) ⟨x,I,C,E,f,D.ps,h,D.pb,p,s,t,u,A⟩ (ge D.M.c i (D.M.n i) (D.M.w i) (S.ls i)).g ((D.D i F).X ⟨x,I,C,E,f,D.ps,h,D.pb,p,s,t,u,A⟩ (ge D.M.c i (D.M.n i) (D.M.w i) (S.ls i)) _)) (dH D.ho (D,(S.sl i (ge D.M.c i (D.M.n i) (D.M.w i) (S.ls i))).sg j { S.at_ j with g:=iO (S.at_ j).g 4 })::R);rw[hT];have x7:i<S.gs.length:=by rw[hM.len, <-b];exact hi
 have H:j<S.gs.length:=by rw[hM.len];exact N
 refine Ent.trans (B:=kM (D.gb j) ⟨D.M.c,j,D.ps,D.pb,D.M.w j,{ S.at_ j with g:=iO (S.at_ j).g 4 },S.fr⟩ Z Q (kH 2 (bB (D.gs S ((D.ot i).filter (· != j))))::pt D.ho D.hO::D.go::kM (D.gb i) ⟨D.M.c,i,D.ps,D.pb,D.M.w i,⟨T.g,T.pg,T.bx⟩,T.fr⟩ ⟨x,I,C,E,f,D.ps,h,D.pb,p,s,t,u,A⟩ F (aH D.ps T.fr::cz D.pb (D.ps,T.po)::dQ D.db T.dk::dC D.qb T.pt::jO D.tb T.gt::R))) ?_ ?_;rw[b9a];exact IO;refine(Np (q:=⟨D.M.c,j,D.ps,D.pb,D.M.w j,{ S.at_ j with g:=iO (S.at_ j).g 4 },S.fr⟩) ⟨G.c,G.i,G.ps,G.pb,G.w⟩).trans ?_;have x8:D.q ((S.sl i T).sg j { S.at_ j with g:=iO (S.at_ j).g 4 }) j=⟨D.M.c,j,D.ps,D.pb,D.M.w j,{ S.at_ j with g:=iO (S.at_ j).g 4 },T.fr⟩:=by
  show(⟨D.M.c,j,D.ps,D.pb,D.M.w j,((S.gs.set i ⟨T.g,T.pg,T.bx⟩).set j { S.at_ j with g:=iO (S.at_ j).g 4 }).getD j default,T.fr⟩:Gq)=_;rw[mV (by rw[Qal];exact H),Qad ρ]
 have x4:D.q ((S.sl i T).sg j { S.at_ j with g:=iO (S.at_ j).g 4 }) i=⟨D.M.c,i,D.ps,D.pb,D.M.w i,⟨T.g,T.pg,T.bx⟩,T.fr⟩:=by
  show(⟨D.M.c,i,D.ps,D.pb,D.M.w i,((S.gs.set i ⟨T.g,T.pg,T.bx⟩).set j { S.at_ j with g:=iO (S.at_ j).g 4 }).getD i default,T.fr⟩:Gq)=_;rw[mV (by rw[Qal];exact H),Qab (λe=>P e.symm),mV x7,Qad ρ]
 have e1:∀B,Ent (iP (D.gb j) ⟨D.M.c,j,D.ps,D.pb,D.M.w j,{ S.at_ j with g:=iO (S.at_ j).g 4 },S.fr⟩::B) (iP (D.gb j) (D.q ((S.sl i T).sg j { S.at_ j with g:=iO (S.at_ j).g 4 }) j)::B):=λB=>by
  rw[x8];exact⟨λm ⟨l1,l2,C,E,q3⟩=>⟨m,[],⟨l1,l2,C,Nq (q:=⟨D.M.c,j,D.ps,D.pb,D.M.w j,{ S.at_ j with g:=iO (S.at_ j).g 4 },S.fr⟩) (hM.li j N).m (x3.o j P) l1 E,q3⟩,n4⟩⟩
 refine(e1 _).trans ?_;have e2:=Wk (D:=D) (S:=S) (R:=pt D.ho D.hO::D.go::kM (D.gb i) ⟨D.M.c,i,D.ps,D.pb,D.M.w i,⟨T.g,T.pg,T.bx⟩,T.fr⟩ ⟨x,I,C,E,f,D.ps,h,D.pb,p,s,t,u,A⟩ F (aH D.ps T.fr::cz D.pb (D.ps,T.po)::dQ D.db T.dk::dC D.qb T.pt::jO D.tb T.gt::R)) hM b hi (L:=T) x3.o (js:=(D.ot i).filter (· != j)) λa ha=>IN.1 (QaG.1 ha).1;refine(Ent.cons e2).trans ?_;have e3:D.gs (S.sl i T) ((D.ot i).filter (· != j))=D.gs ((S.sl i T).sg j { S.at_ j with g:=iO (S.at_ j).g 4 }) ((D.ot i).filter (· != j)):=QbY λa ha=>by
  have x9:=(QaG.1 ha).2;have:a≠j:=by simpa using x9
  show iP (D.gb a) ⟨D.M.c,a,D.ps,D.pb,D.M.w a,(S.gs.set i ⟨T.g,T.pg,T.bx⟩).getD a default,T.fr⟩=iP (D.gb a) ⟨D.M.c,a,D.ps,D.pb,D.M.w a,((S.gs.set i ⟨T.g,T.pg,T.bx⟩).set j { S.at_ j with g:=iO (S.at_ j).g 4 }).getD a default,T.fr⟩;rw[mV (i:=j) (by rw[Qal];exact H),Qab this]
 rw[e3];refine(Wi Wj x2).trans ?_;obtain⟨V,hV⟩:∃V,(S.sl i T).sg j { S.at_ j with g:=iO (S.at_ j).g 4 }=V:=⟨_,ρ⟩
 have xa:V.fr=T.fr/\V.po=T.po/\V.dk=T.dk/\V.pt=T.pt/\V.gt=T.gt:=by rw[<-hV];exact⟨ρ,ρ,ρ,ρ,ρ⟩
 rw[hV]at x4 ⊢;obtain⟨f1,f2,f3,f4,f5⟩:=xa;rw[<-f1, <-f2, <-f3, <-f4, <-f5,f1];refine Ent.trans (B:=D.O V i ⟨x,I,C,E,f,D.ps,h,D.pb,p,s,t,u,A⟩ F R) ?_ (IP hi ⟨d.c,d.i,d.ps,d.pb,d.w⟩);show Ent _ (pt D.ho D.hO::D.go::kM (D.gb i) (D.q V i) _ F (aH D.ps V.fr::cz D.pb (D.ps,V.po)::dQ D.db V.dk::dC D.qb V.pt::jO D.tb V.gt::kH 2 (bB (D.gs V (D.ot i)))::R));rw[x4,f1];exact IO;rw[qL,Qab Y];have xd:=hM;have xb:(S.ls i).r 1=8->mn D.M.c i (S.ls i)≠0:=λh1 h2=>Y ⟨h1,h2⟩;obtain⟨x,I,C,E,f,ps,h,pb,p,s,t,u,A⟩:=z;dsimp only at J K;subst J K;refine ig (B:=pt D.ho D.hO::D.go::gN (D.gb i) ⟨x,I,C,E,f,D.ps,h,D.pb,p,s,t,u,A⟩ (S.at_ i).g ((D.D i F).X ⟨x,I,C,E,f,D.ps,h,D.pb,p,s,t,u,A⟩ (S.ls i) (kH 2 (bB (D.gs S (D.ot i)))::R))) inferInstance ?_;refine cF (b8M (R:=kH 2 (bB (D.gs S (D.ot i)))::R) hI xb x0 (by show D.gbs.length≤4;omega) D.a) λv B U=>?_;obtain⟨z',⟨y,p0,p1,p2,rfl⟩,rfl,rfl⟩:=U;refine⟨_,⟨ρ,ρ⟩,?_⟩;have W:=IQ (R:=R) hM b hi (L:=ge D.M.c i (D.M.n i) (D.M.w i) (S.ls i)) hd.o (z:=⟨y,p0,p1,p2,f,D.ps,h,D.pb,p,s,t,u,A⟩) (wg:=F) ⟨d.c,d.i,d.ps,d.pb,d.w⟩;refine Ent.trans ?_ W;show Ent (pt D.ho D.hO::D.go::gN (D.gb i) ⟨y,p0,p1,p2,f,D.ps,h,D.pb,p,s,t,u,A⟩ (ge D.M.c i (D.M.n i) (D.M.w i) (S.ls i)).g ((D.D i F).X ⟨y,p0,p1,p2,f,D.ps,h,D.pb,p,s,t,u,A⟩ (ge D.M.c i (D.M.n i) (D.M.w i) (S.ls i)) _)) _;obtain⟨T,hT⟩:∃T,ge D.M.c i (D.M.n i) (D.M.w i) (S.ls i)=T:=⟨_,ρ⟩
 rw[hT];exact IO
end
end
section
open Go.RowKit
instance:Hk It6 where
  ky:=ut
theorem b9f(x y:It6):(if x.a≠y.a then decide (x.a<y.a)else decide (x.p<y.p))=decide (Hk.ky x<Hk.ky y):=by have b:=x.hp;have c:=y.hp;show _=decide (ut x<ut y);unfold ut;split<;>exact QaY.2 aq
theorem b9g{R l a:List It6}{y}(c:nu R)(g:l.Perm R)(h:l.Perm (y::a))(i:∀x∈a,Hk.ky y≤Hk.ky x):yI R=some y/\a.Perm (R.filter λx=>x.p != y.p):=by
 have b:R.Perm (y::a):=g.symm.trans h;have j:y∈R:=b.mem_iff.2 (Qax ..);refine⟨W9 c j λz k=>?_,?_⟩;rcases QaX.1 (b.mem_iff.1 k)with q|q;rw[q];exact Qan _;exact i z q;have d:((y::a).map (·.p)).Nodup:=(b.map (·.p)).nodup_iff.1 c.1;rw[QaE,QbO]at d;have f:=b.filter (λx=>x.p != y.p);have m:a.filter (λx=>x.p != y.p)=a:=Qbp.2 λx n=>by
  rw[Qcr];exact λe=>d.1 (QaZ.2 ⟨x,n,e⟩)
 rw[QcA n4,m]at f;exact f.symm
theorem b9h{R:List It6}{l}(d:nu R)(a:l.Perm R)(f:Hp.Heap l l.length)(b:0<l.length):yI R=some (l.getD 0 default):=by
 have e:l.getD 0 default=l[0]:=by simp[List.getD,b]
 rw[e];refine W9 d (a.mem_iff.1 (QaC _)) λz g=>?_;obtain⟨i,c,rfl⟩:=Qbi.1 (a.mem_iff.2 g);have h:=Hp.heap_min f i c;rw[Hp.us_eq b,Hp.us_eq c]at h;exact h
theorem Nt{R:List It6}{n:Int}(h:R=[]):iD n f R=([],R):=by
 cases f with
 |zero=>rfl
 |succ f=>rw[iD,b8X h]
theorem Nu{R:List It6}{n:Int}{x:It6}(h:yI R=some x)(q:¬x.a≤n):iD n f R=([],R):=by
 cases f with
 |zero=>rfl
 |succ f=>rw[iD,h];dsimp only;rw[Qab q]
theorem b9i{R:List It6}{n:Int}{x:It6}(h:yI R=some x)(q:x.a≤n):iD n (f+1) R=(x::(iD n f (R.filter λy=>y.p != x.p)).1,(iD n f (R.filter λy=>y.p != x.p)).2):=by rw[iD,h];dsimp only;rw[Qad q]
@[reducible] def ly(x:It6):List Value:=[.int .i64 x.a,.int .i64 x.g,.int .i64 x.k,.int .i64 x.c,sV x.s]
@[reducible] def jB(x:It6):List Value:=[.int .i64 x.a,.int .i64 x.g,.int .i64 x.k,.int .i64 x.c,sV x.s,.int .i64 (x.p:Nat)]
theorem pi x:(jB x).length=6:=Z
theorem AN(a:List It6)sp i(b:i<a.length):((a.flatMap jB++sp).drop (i*6)).take 6=jB (a.getD i default):=by rw[uM pi a i sp b];simp[List.getD,b]
theorem IR(a:List It6)sp i x(b:i<a.length):ee (a.flatMap jB++sp) (i*6) (jB x)=(a.set i x).flatMap jB++sp:=zj pi a i x sp b
theorem IS(a:List It6)sp i(b:i<a.length):i*6+6≤(a.flatMap jB++sp).length:=by rw[Qaf,dy pi];omega
theorem Wm{a:List It6}(h:i<a.length):a≠[]:=λe=>by rw[e]at h;simp at h
abbrev iE(o:Nat):Nat->List It6×List Value->HP:=pF 120 128 6 jB o
abbrev uv(o b:Nat):Value:=.pointer (some ⟨b,o,none⟩)
theorem b9j (o b : Nat) (its : List It6) (cs : List Value) : sQ W0 116 [uv o b] (iE o b (its, cs) :: R) (iQ (its.length : Nat)) (iE o b (its, cs) :: R) := by
 refine ve fun a c ho => ?_
 refine am func116 ntmps116 ?_
 refine ac (aY (aO (eA ho))) ?_
 refine ag ?_
 exact ⟨_, ⟨rfl, rfl⟩, kz rfl rfl ho rfl⟩
theorem Wn{b a:Nat}{l d:List Value}(e:cs[k]?=some (b,0,l))(f:(l.drop a).take n=d):bF (SC cs) b a d:=λi v c=>by
 subst f;rw[List.getElem?_take]at c;split at c;rw[QbP]at c;have:=i6 e (a+i) v c
 rwa[Qac]at this
 cases c
theorem b9k (o b : Nat) (its : List It6) (cs : List Value) (i k : Nat) (hi : i < its.length) (hk : k < its.length) : sQ W0 533 [uv o b, iQ i, iQ k] (iE o b (its, cs) :: R) (.bool (decide (Hp.us its i < Hp.us its k))) (iE o b (its, cs) :: R) := by
 refine ru pi (Wm hi) cl fun g c sp ho h1 h2 h3 => ?_
 obtain ⟨x, hx⟩ : ∃ x, its.getD i default = x := ⟨_, rfl⟩
 obtain ⟨y, hy⟩ : ∃ y, its.getD k default = y := ⟨_, rfl⟩
 have rx := AN its sp i hi
 have ry := AN its sp k hk
 rw [hx] at rx
 rw [hy] at ry
 rw [show Hp.us its i = Hk.ky x by rw [Hp.us, hx], show Hp.us its k = Hk.ky y by rw [Hp.us, hy], ← b9f]
 refine am func533 ntmps533 ?_
 refine bH [b, g] 18 fun hS => ?_
 refine aj 0 3 hS ?_
 refine aE 3 hS (aY (d6 (k := 0) rfl (eA ho))) ?_
 refine aj 4 1 hS ?_
 refine aE 5 hS (cu hi) ?_
 refine aE 6 hS (cV (Wn (k := 1) rfl rx)) ?_
 refine aj 7 3 hS ?_
 refine aE 10 hS (aY (d6 (k := 0) rfl (eA ho))) ?_
 refine aj 11 1 hS ?_
 refine aE 12 hS (cu hk) ?_
 refine aE 13 hS (cV (Wn (k := 1) rfl ry)) ?_
 refine fp (is := [14, 15]) ld rfl ⟨?_, ?_, trivial⟩
 refine dB (cP B4) ?_; clear hS
 rintro _ _ ⟨b7, rfl, rfl⟩
 refine ⟨aW, fun hS => ?_⟩
 refine co 15 (cP B4) ?_; clear hS
 rintro _ _ ⟨b8, rfl, rfl⟩
 refine ⟨aW, fun hS => ?_⟩
 refine cp 16 aR fun hS => ?_
 refine cp 17 aR fun hS => ?_
 refine aS ?_
 refine ap (fun c2 => ?_) fun c2 => ?_
 refine ag ?_
 rw [Qad c2]
 exact ⟨_, ⟨rfl, rfl⟩, jJ pi rfl rfl ho rfl h1 h2 h3⟩
 refine ag ?_
 rw [Qab c2]
 refine ⟨_, ⟨Qak Value.bool (QaY.2 aq), rfl⟩, jJ pi rfl rfl ho rfl h1 h2 h3⟩
 skip
 refine dB (cP B4) ?_; clear hS
 rintro _ _ ⟨b8, rfl, rfl⟩
 refine ⟨aW, fun hS => ?_⟩
 refine co 14 (cP B4) ?_; clear hS
 rintro _ _ ⟨b7, rfl, rfl⟩
 refine ⟨aW, fun hS => ?_⟩
 refine cp 16 aR fun hS => ?_
 refine cp 17 aR fun hS => ?_
 refine aS ?_
 refine ap (fun c2 => ?_) fun c2 => ?_
 refine ag ?_
 rw [Qad c2]
 exact ⟨_, ⟨rfl, rfl⟩, jJ pi rfl rfl ho rfl h1 h2 h3⟩
 refine ag ?_
 rw [Qab c2]
 refine ⟨_, ⟨Qak Value.bool (QaY.2 aq), rfl⟩, jJ pi rfl rfl ho rfl h1 h2 h3⟩
theorem b9l (o b : Nat) (its : List It6) (cs : List Value) (i k : Nat) (hi : i < its.length) (hk : k < its.length) : sQ W0 536 [uv o b, iQ i, iQ k] (iE o b (its, cs) :: R) (.tuple #[]) (iE o b (Hp.swapL its i k, cs) :: R) := by
 refine ru pi (Wm hi) cl fun g c sp ho h1 h2 h3 => ?_
 refine am func536 ntmps536 ?_
 refine bH [b] 28 fun hS => ?_
 refine aj 0 3 hS ?_
 refine aE 3 hS (aY (d6 (k := 0) rfl (eA ho))) ?_
 refine aj 4 4 hS ?_
 refine aE 8 hS (aY (d6 (k := 0) rfl (eA ho))) ?_
 refine aj 9 4 hS ?_
 refine aE 13 hS (aY (d6 (k := 0) rfl (eA ho))) ?_
 refine aj 14 1 hS ?_
 refine aE 15 hS (cu hk) ?_
 refine aj 17 3 hS ?_
 refine aE 20 hS (aY (d6 (k := 0) rfl (eA ho))) ?_
 refine aj 21 1 hS ?_
 refine aE 22 hS (cu hi) ?_
 refine fp (is := [16, 23]) ld rfl ⟨?_, ?_, trivial⟩
 refine dB (dJ (cV (cT (AN its sp k hk) rfl))) ?_; clear hS
 rintro _ _ ⟨rfl, rfl⟩
 refine ⟨aW, fun hS => ?_⟩
 refine bQ 23 (dJ (cV (cT (AN its sp i hi) rfl))) fun hS => ?_
 refine aE 24 hS (cu hi) ?_
 refine cp 25 (kh (IS its sp i hi) (IR its sp i (its.getD k default) hi)) fun hS => ?_
 refine aE 26 hS (cu hk) ?_
 refine cp 27 (kh (IS (its.set i (its.getD k default)) sp k abx) (IR (its.set i (its.getD k default)) sp k (its.getD i default) abx)) fun hS => ?_
 refine aS ?_
 refine bP (.inr rfl) .nil ?_
 exact ⟨_, ⟨rfl, rfl⟩, jJ pi rfl rfl ho (by simp [Hp.swapL]) (by simpa [Hp.swapL] using h1) h2 (by rw [Qaf, dy pi] at h3 ⊢; simpa [Hp.swapL] using h3)⟩
 skip
 refine dB (dJ (cV (cT (AN its sp i hi) rfl))) ?_; clear hS
 rintro _ _ ⟨rfl, rfl⟩
 refine ⟨aW, fun hS => ?_⟩
 refine bQ 16 (dJ (cV (cT (AN its sp k hk) rfl))) fun hS => ?_
 refine aE 24 hS (cu hi) ?_
 refine cp 25 (kh (IS its sp i hi) (IR its sp i (its.getD k default) hi)) fun hS => ?_
 refine aE 26 hS (cu hk) ?_
 refine cp 27 (kh (IS (its.set i (its.getD k default)) sp k abx) (IR (its.set i (its.getD k default)) sp k (its.getD i default) abx)) fun hS => ?_
 refine aS ?_
 refine bP (.inr rfl) .nil ?_
 exact ⟨_, ⟨rfl, rfl⟩, jJ pi rfl rfl ho (by simp [Hp.swapL]) (by simpa [Hp.swapL] using h1) h2 (by rw [Qaf, dy pi] at h3 ⊢; simpa [Hp.swapL] using h3)⟩
theorem b9m (o b : Nat) (its : List It6) (x : It6) (cs : List Value) : sQ W0 534 [uv o b] (iE o b (its ++ [x], cs) :: R) (.iface 128 (.agg (jB x).toArray)) (iE o b (its, cs) :: R) := by
 refine ru pi n4 cl fun g c sp ho h1 h2 h3 => ?_
 have hl : (its ++ [x]).length = its.length + 1 := n4
 rw [hl] at h1 ⊢
 have hg : (its ++ [x]).getD its.length default = x := by simp [List.getD]
 have hr := AN (its ++ [x]) sp its.length aq
 rw [hg] at hr
 have he : (its ++ [x]).flatMap jB ++ sp = its.flatMap jB ++ (jB x ++ sp) := n4
 refine am func534 ntmps534 ?_
 refine ac (aY (aO (eA ho))) ?_
 refine ac (mY rfl rfl (aai : IntKind.wrap .i64 (((its.length + 1 : Nat) : Int) - 1) = ((its.length : Nat) : Int))) ?_
 refine ac (aY (aO (eA ho))) ?_
 refine ac (cu aq) ?_
 refine ac (cV (cT hr rfl)) ?_
 refine bU fun b1 => ?_
 refine aJ aR ?_
 refine ac (aY (aO (eA ho))) ?_
 refine ac (qd D2 J7 rfl rfl rfl aq) ?_
 refine aJ (fg (by rw [Qal]; exact ho) set_set) ?_
 refine ag ?_
 rw [he]
 exact ⟨_, ⟨rfl, rfl⟩, jJ (sp := jB x ++ sp) pi rfl rfl ho rfl (by omega) h2 (by rw [← he]; exact h3)⟩
theorem b9n (o b : Nat) (its : List It6) (x : It6) (cs : List Value) (hn : its.length < 1000) : sQ W0 535 [uv o b, .iface 128 (.agg (jB x).toArray)] (iE o b (its, cs) :: R) (.tuple #[]) (iE o b (its ++ [x], cs) :: R) := by
 refine ve fun a c ho => ?_
 have he : its.flatMap jB ++ [jB x].flatten = (its ++ [x]).flatMap jB := n4
 refine iW func535 ntmps535 rfl rfl ?_
 refine bH [] 12 fun hS => ?_
 refine aj 0 4 hS ?_
 refine aj 5 1 hS ?_
 refine aE 6 hS (uN O3 (fun _ h => n8) rfl) ?_
 refine fp (is := [4, 7]) ld rfl ⟨?_, ?_, trivial⟩
 refine dB (dJ (aY (aO (eA ho)))) ?_; clear hS
 rintro _ _ ⟨rfl, rfl⟩
 refine ⟨aW, fun hS => ?_⟩
 refine iw 7 ld rfl rfl (ji D2 J7 B4 rfl (fK rfl rfl iH) rfl cl cl cl) rfl ?_; clear hS
 rintro _ _ ⟨b1, rfl, rfl⟩
 refine ⟨aW, fun hS => ?_⟩
 refine co 8 (fR (sz := 6) (by_ := 56) (info := Tryz.t128) D2 ld rfl rfl rfl rfl cl rfl rfl eQ rfl rfl n5 aq) ?_; clear hS
 rintro _ _ ⟨a1, c1, rfl, rfl⟩
 refine ⟨aW, fun hS => ?_⟩
 refine aj 9 2 hS ?_
 refine cp 11 (fg (by rw [Qal]; exact ho) set_set) fun hS => ?_
 refine eY ?_
 refine bP (.inr rfl) .nil ?_
 exact ⟨_, ⟨rfl, rfl⟩, kz (its := its ++ [x]) he rfl ho n4⟩
 skip
 refine lH rfl rfl (ji D2 J7 B4 rfl (fK rfl rfl iH) rfl cl cl cl) rfl ?_; clear hS
 rintro _ _ ⟨b1, rfl, rfl⟩
 refine ⟨aW, fun hS => ?_⟩
 refine bQ 4 (dJ (aY (aO (eA ho)))) fun hS => ?_
 refine co 8 (fR (sz := 6) (by_ := 56) (info := Tryz.t128) D2 ld rfl rfl rfl rfl cl rfl rfl eQ rfl rfl n5 aq) ?_; clear hS
 rintro _ _ ⟨a1, c1, rfl, rfl⟩
 refine ⟨aW, fun hS => ?_⟩
 refine aj 9 2 hS ?_
 refine cp 11 (fg (by rw [Qal]; exact ho) set_set) fun hS => ?_
 refine aS ?_
 refine bP (.inr rfl) .nil ?_
 exact ⟨_, ⟨rfl, rfl⟩, kz (its := its ++ [x]) he rfl ho n4⟩
section
variable(w:World)(a:Addr)
theorem b9o:(method (Tryz.prog.types.size+Made.depth) 123 (.pointer (some a)) "Len").run Tryz.prog w=.ok (116,.pointer (some a)) w:=ld
theorem b9p:(method (Tryz.prog.types.size+Made.depth) 123 (.pointer (some a)) "Less").run Tryz.prog w=.ok (533,.pointer (some a)) w:=ld
theorem b9q:(method (Tryz.prog.types.size+Made.depth) 123 (.pointer (some a)) "Swap").run Tryz.prog w=.ok (536,.pointer (some a)) w:=ld
theorem b9r:(method (Tryz.prog.types.size+Made.depth) 123 (.pointer (some a)) "Push").run Tryz.prog w=.ok (535,.pointer (some a)) w:=ld
theorem b9s:(method (Tryz.prog.types.size+Made.depth) 123 (.pointer (some a)) "Pop").run Tryz.prog w=.ok (534,.pointer (some a)) w:=ld
end
def Wo(W0:World)(o b:Nat)(cs:List Value):HpO W0 It6 where
  T:=123
  p:=uv o b
  el:=λx=>.iface 128 (.agg (jB x).toArray)
  H:=λl=>iE o b (l,cs)
  fL:=116
  fE:=533
  fS:=536
  fU:=535
  fO:=534
  mL:=λu=>b9o u _
  mE:=λu=>b9p u _
  mS:=λu=>b9q u _
  mU:=λu=>b9r u _
  mO:=λu=>b9s u _
  cL:=call116
  cE:=call533
  cS:=call536
  cU:=call535
  cO:=call534
  sL:=λR l=>b9j o b l cs
  sE:=λR l i j hi hj=>b9k o b l cs i j hi hj
  sS:=λR l i j hi hj=>b9l o b l cs i j hi hj
  sU:=λR l x hl=>b9n o b l x cs hl
  sO:=λR l x=>b9m o b l x cs
theorem b9t (o b : Nat) (its : List It6) (x : It6) (cs : List Value) (hN : its.length < 900) (hh : Hp.Heap its its.length) : sP W0 50 [.iface 123 (uv o b), .iface 128 (.agg (jB x).toArray)] (iE o b (its, cs) :: R) (fun v B => v = .tuple #[] ∧ ∃ its', B = iE o b (its', cs) :: R ∧ its'.Perm (its ++ [x]) ∧ Hp.Heap its' its'.length) :=
  Hp.heapPush_spec (Wo W0 o b cs) R its x hN hh
theorem b9u (o b : Nat) (its : List It6) (cs : List Value) (hN : its.length < 900) (h0 : its ≠ []) (hh : Hp.Heap its its.length) : sP W0 117 [.iface 123 (uv o b)] (iE o b (its, cs) :: R) (fun v B => ∃ x its', v = .iface 128 (.agg (jB x).toArray) ∧ B = iE o b (its', cs) :: R ∧ (its' ++ [x]).Perm its ∧ Hp.Heap its' its'.length ∧ ∀ y ∈ its, Hk.ky x ≤ Hk.ky y) :=
  Hp.heapPop_spec (Wo W0 o b cs) R its hN h0 hh
end
section
open Go.RowKit
set_option synthInstance.maxSize 1000
set_option synthInstance.maxHeartbeats 400000
structure Rw6 where
  a : Option Addr
  c : Nat
  l : List It6
variable {rs:List Rw6}
instance:Inhabited Rw6:=⟨⟨none,0,[]⟩⟩
abbrev lz(rs:List Rw6)(i:Nat):Rw6:=rs.getD i default
@[reducible] def rY(rs:List Rw6)(i:Nat):Value:=.slice (lz rs i).a (lz rs i).l.length (lz rs i).c
@[reducible] def jC(n:Nat)(rs:List Rw6):List Value:=[rY rs 0,rY rs 1,rY rs 2,rY rs 3,.int .i64 n]
abbrev CP(n:Nat)(rs:List Rw6):Obj:=ae (jC n rs) 120
abbrev Fu(rs:List Rw6)(i:Nat):HP:=osl 128 6 (rY rs i) ((lz rs i).l.flatMap jB)
abbrev td(rs:List Rw6)(l:List Nat):List HP:=l.map (Fu rs)
def IT(rs:List Rw6)(I:List (List It6)):Prop:=∀i,i<4->(lz rs i).l.Perm (I.getD i [])/\Hp.Heap (lz rs i).l (lz rs i).l.length
def gC(b:Nat)(x:Nat×List (List It6)):HP:=chk (λC=>∃rs:List Rw6,rs.length=4/\IT rs x.2/\C=[pt b (CP x.1 rs),kH 3 (bB (td rs [0,1,2,3]))])
abbrev mp(rs:List Rw6)(i:Nat):HP:=kH 3 (bB (td rs ([0,1,2,3].filter (· != i))))
theorem b9v{n rs i}(a:i<4):(jC n rs).set i (rY rs i)=jC n rs:=by have:i=0\/i=1\/i=2\/i=3:=aq;exact s0
theorem Wp{rs}(a:rs.length=4){i}(b:i<4){r}j:lz (rs.set i r) j=if j=i then r else lz rs j:=by by_cases e:j=i;subst e;rw[Qad Z];simp[lz,List.getD,show j<rs.length by omega];rw[Qab e];simp only[lz,Qao];rw[Qbb aq]
theorem b9w{n rs}(b:rs.length=4){i}(d:i<4){r}:(jC n rs).set i (.slice r.a r.l.length r.c)=jC n (rs.set i r):=by have e:=Wp b d (r:=r);have:i=0\/i=1\/i=2\/i=3:=aq;simp only[jC,rY,e];exact s0
theorem Wq{i}(b:i<4):[0,1,2,3].Perm (i::[0,1,2,3].filter (· != i)):=by
 have h:i∈[0,1,2,3]:=by
  have:i=0\/i=1\/i=2\/i=3:=aq;rcases this with rfl|rfl|rfl|rfl<;>decide
 have a:[0,1,2,3].Nodup:=cl;rw[<-a.erase_eq_filter i];exact List.perm_cons_erase h
section
variable{W0:World}{N:FSz}{K:Act->World->Prop}{e:bK}{A B R:List HP}{b n i:Nat}{I:List (List It6)}
theorem b9x(a:i<4):Ent (pt b (CP n rs)::kH 3 (bB (td rs [0,1,2,3]))::R) (iE i b ((lz rs i).l,jC n rs)::mp rs i::R):=by refine(Ent.cons kd).trans ?_;refine(Ent.ofPerm ((((Wq a).map (Fu rs)).append_right R).cons _)).trans ?_;rw[QaE,Qau];refine Ent.trans (B:=pt b (ae ((jC n rs).set i (rY rs i)) 120)::Fu rs i::mp rs i::R) ?_ ?_;rw[b9v a];exact Ent.cons (Ent.cons ke);exact kz (its:=(lz rs i).l) Z Z (by show i<5;omega) Z
theorem Ws[j:Tk gC b A (n,I) R](c:i<4)(h:∀a,a.length=4->IT a I->aC W0 N K e (iE i b ((lz a i).l,jC n a)::mp a i::R)):aC W0 N K e A:=
  ix (r:=gC) (b:=b) (oz λC d=>by
 obtain⟨a,f,g,rfl⟩:=d
 exact gK (B:=iE i b ((lz a i).l,jC n a)::mp a i::R) (b9x c) (h a f g))
theorem CQ{rs}(h:rs.length=4)(s:IT rs I)(y:I.length=4)(k:i<4){l L}(t:l.Perm L)(u:Hp.Heap l l.length):Ent (iE i b (l,jC n rs)::mp rs i::R) (gC b (n,I.set i L)::R):=by
 refine Rf (R:=mp rs i::R) λC v=>?_;obtain⟨_,a,c,rfl⟩:=v;have e:=Wp h k (r:=⟨a,c,l⟩);have m:∃d:List Rw6,d.length=4/\IT d (I.set i L)/\[pt b (CP n (rs.set i ⟨a,c,l⟩)),kH 3 (bB (td (rs.set i ⟨a,c,l⟩) [0,1,2,3]))]=[pt b (CP n d),kH 3 (bB (td d [0,1,2,3]))]:=by
  refine⟨rs.set i ⟨a,c,l⟩,by rw[Qal];exact h,λj o=>?_,Z⟩;rw[e];by_cases q:j=i;subst q;rw[Qad Z];have:(I.set j L).getD j []=L:=by simp[List.getD,show j<I.length by omega]
  rw[this];exact⟨t,u⟩;rw[Qab q];have:(I.set i L).getD j []=I.getD j []:=by simp only[Qao];rw[Qbb aq]
  rw[this];exact s j o
 have f:=b9w (n:=n) h k (r:=⟨a,c,l⟩);dsimp only at f;refine Ent.trans ?_ (fT (R:=R) m);show Ent ([pt b (ae ((jC n rs).set i (.slice a l.length c)) 120),osl 128 6 (.slice a l.length c) (l.flatMap jB)]++mp rs i::R) ([pt b (CP n (rs.set i ⟨a,c,l⟩)),kH 3 (bB (td (rs.set i ⟨a,c,l⟩) [0,1,2,3]))]++R);rw[f];refine Ent.cons ?_;have w:Fu (rs.set i ⟨a,c,l⟩) i=osl 128 6 (.slice a l.length c) (l.flatMap jB):=by
  show osl _ 6 (rY (rs.set i ⟨a,c,l⟩) i) ((lz (rs.set i ⟨a,c,l⟩) i).l.flatMap jB)=_;rw[rY,e,Qad Z]
 have x:td (rs.set i ⟨a,c,l⟩) ([0,1,2,3].filter (· != i))=td rs ([0,1,2,3].filter (· != i)):=QbY λj o=>by
  have p:=(QaG.1 o).2;have:j≠i:=by simpa using p
  show osl _ 6 (rY (rs.set i ⟨a,c,l⟩) j) ((lz (rs.set i ⟨a,c,l⟩) j).l.flatMap jB)=osl _ 6 (rY rs j) ((lz rs j).l.flatMap jB);rw[rY,e,Qab this]
 refine(Ent.cons kd).trans ?_;refine Ent.trans ?_ ke;have g:((td (rs.set i ⟨a,c,l⟩) [0,1,2,3])++R).Perm (Fu (rs.set i ⟨a,c,l⟩) i::(td (rs.set i ⟨a,c,l⟩) ([0,1,2,3].filter (· != i))++R)):=((Wq k).map _).append_right R;rw[w,x]at g;exact Ent.ofPerm g.symm
theorem b9y:Ent (pt b (W7 n)::R) (gC b (n,[[],[],[],[]])::R):=by refine Ent.trans (B:=[pt b (CP n (List.replicate 4 default)),kH 3 (bB (td (List.replicate 4 default) [0,1,2,3]))]++R) ?_ (fT (R:=R) ⟨List.replicate 4 default,Z,λi d=>?_,Z⟩);refine Ent.cons ?_;refine Ent.trans (B:=td (List.replicate 4 default) [0,1,2,3]++R) ?_ ke;exact(eW (E:=128) (sz:=6) (k:=(eW (E:=128) (sz:=6) (k:=(eW (E:=128) (sz:=6) (k:=(eW (E:=128) (sz:=6) (k:=ent_refl))))))));have:i=0\/i=1\/i=2\/i=3:=aq;rcases this with rfl|rfl|rfl|rfl<;>exact⟨QaS _,λc a=>absurd a (QbD c)⟩
end
end
variable {rs:List Rw6}
section
open Go.RowKit
attribute [local irreducible] dK dV
theorem Wt{c}(d:rt c=true){i}(h:i<c.gl.length):GMem i ⟨List.replicate (dG c) gy,gd,iB c (dG c)⟩:=by
 have g:=eI d;have b:(List.replicate (dG c) gy).length=dG c:=n4;refine GMem.none (bD.new _) (LD g _) (by rw[wC,b]) (λf a e=>?_) (λf a _=>?_);rw[wC]at a;rw[Cd a,Qad a]at e
 cases q:lL c f with
 |some j=>rw[q]at e;have:=(QcX e).2;cases this
 |none=>rw[q]at e;have:=(QcX e).2;cases this
 rw[wC]at a;simp[List.getD,a]
end
section
open Go.RowKit
theorem Wu{c i p q}(m:p.length=12)(n:q.length=12)(h:uq p q):∀k,k≤4->(fz c i k p).length=12/\(fz c i k q).length=12/\uq (fz c i k p) (fz c i k q)
 |0,_=>⟨m,n,h⟩
 |k+1,u=>by
  obtain⟨g,j,l⟩:=Wu (c:=c) (i:=i) m n h k aq;rw[fz,fz];split;exact⟨g,j,l⟩;have e:kx (fz c i k q) ((8+k:Nat):Int) (jK c k,j5 (eB c k) i)=kx (fz c i k p) ((8+k:Nat):Int) (jK c k,j5 (eB c k) i):=by
   unfold kx;rw[(l (8+k) aq).1]
  unfold gX;rw[e];split
  rename_i z
  rw[Qae];refine⟨by rw[Qal];exact g,by rw[Qal];exact j,λt r=>?_⟩;by_cases s:t=8+k;subst s;have f:((jK c k,j5 (eB c k) i):Pl)≠(0,0):=λd=>by
   have o:nO (jK c k,j5 (eB c k) i)=true:=by
    unfold kx at z;split at z
    rename_i y;exact y.2
    exact absurd z cl
   rw[d]at o;exact absurd o cl
  have a:=Al g (show 8+k<12 by omega) f;have b:=Al j (show 8+k<12 by omega) f;exact⟨b.1.trans a.1.symm,b.2.trans a.2.symm⟩;have d:(t:Int)≠((8+k:Nat):Int):=aq;rw[(fY d).1,(fY d).2,(fY d).1,(fY d).2];exact l t r;exact⟨g,j,l⟩
theorem Wv{who words x}:∀n,n≤8->uq x.pg (dV who words n x).pg
 |0,_=>λ_ _=>⟨Z,Z⟩
 |n+1,b=>λt a=>by
  have h:=Wv (who:=who) (words:=words) (x:=x) n aq t a;rw[dV,lK]
  cases e:cG (dV who words n x).po who with
  |nil=>exact h
  |cons f l=>
   dsimp only;unfold gX;split;rw[Qae,(fY (show(t:Int)≠(n:Int) by omega)).1,(fY (show(t:Int)≠(n:Int) by omega)).2];exact h;exact h
abbrev AO(c:Cfg):List az:=List.replicate (dG c) gy
abbrev xe(c:Cfg):Po:=iB c (dG c)
theorem Ww{a:Po}(o:Oth j fr po fr' a):cG a j=cG po j:=by
 unfold cG;rw[o.pl];refine Qci λf _=>?_;by_cases e:(dw po f).1=(j:Int);rw[o.pe f e];have b:(dw a f).1≠(j:Int):=by rw[o.par];exact e
 rw[beq_eq_false_iff_ne.2 (λq=>b (by rw[q])),beq_eq_false_iff_ne.2 (λq=>e (by rw[q]))]
theorem b9z(g:rt c=true){b:Nat}(h:eT c c.gl.length=(b:Int))(l:k<c.nl.length):(dw (xe c) (b+k)).1≠(i:Int):=λe=>by
 have d:=eI g;have a:=y3 c c.gl.length;have f:b+k<dG c:=by rw[dG,a,h];omega
 rw[Cd f,Qad f]at e
 cases q:lL c ((b+k:Nat):Int)with
 |some j=>
  have m:=(Ew d).1 q;have n:=Hn d (show j+1≤c.gl.length by omega) (Qai _);omega
 |none=>rw[q]at e;simp[A5]at e
theorem Nv{c}(a:rt c=true){i}(d:i<c.gl.length){ws fr po}(o:Oth i (AO c) (xe c) fr po):GMem i (jy c i ws fr po)/\uq (AD c i) (jy c i ws fr po).pg/\∀j,j≠i->Oth j fr po (jy c i ws fr po).fr (jy c i ws fr po).po:=by
 have h:=eI a;have s:=h.g4;have u:=h.gs i d;have l:=h.nn;have g:GMem i ⟨fr,gd,po⟩:=GMem.oth (Wt a d) o;have r:po.length=fr.length:=g.len;have m:fr.length=dG c:=o.fl.trans n4;have p:(cC c i).2.1≤((cG po i).length:Int):=by
  have:=LE h d;rw[Ww o];show _≤((cG (iB c (dG c)) i).length:Int);omega
 refine⟨GMem.made a d g.fr g.po r p (λf v e=>?_) g.nul (λb k w y=>by rw[o.par];exact b9z a w y) m,?_,λj A=>?_⟩;obtain⟨t,_,q,_⟩:=g.all f v e;exact absurd q (by rw[yz];decide);refine(Wu (q:=(laid c i ws fr po).pg) (show gd.length=12 from Z) ?_ (Wv (x:=⟨fr,po,gd⟩) _ aq) c.nl.length l).2.2;exact(BM (who:=i) (words:=dm ws (cC c i).2.1.toNat) (x:=⟨fr,po,gd⟩) aq (n:=(cC c i).2.1.toNat) ⟨g.fr,g.po,Hw,r⟩).pg.len;exact N7 (ws:=dm ws (cC c i).2.1.toNat) (x:=⟨fr,po,gd⟩) A g aq LO (cC c i).2.1.toNat aq (by show _≤(cG po i).length;omega)
def dE(M:Mw):Nat->List Gp×List az×Po
 |0=>([],AO M.c,xe M.c)
 |k+1=>((dE M k).1++[⟨g0,(jy M.c k (M.w k) (dE M k).2.1 (dE M k).2.2).pg,[]⟩],(jy M.c k (M.w k) (dE M k).2.1 (dE M k).2.2).fr,(jy M.c k (M.w k) (dE M k).2.1 (dE M k).2.2).po)
structure MzI (c : Cfg) (k : Nat) (S : List Gp × List az × Po) : Prop where
  len : S.1.length = k
  ot : ∀ j, k ≤ j → j < c.gl.length → Oth j (AO c) (xe c) S.2.1 S.2.2
  pl : S.2.2.length = dG c
  pp : ∀ f, (dw S.2.2 f).1 = (dw (xe c) f).1
  gm : ∀ i, i < k → GMem i ⟨S.2.1, (S.1.getD i default).pg, S.2.2⟩ ∧ uq (AD c i) (S.1.getD i default).pg ∧ (S.1.getD i default).g = g0 ∧ (S.1.getD i default).bx = []
theorem Fv{M}(b:rt M.c=true):∀k,k≤M.c.gl.length->MzI M.c k (dE M k)
 |0,_=>⟨Z,λj _ n=>Oth.rfl' (bD.new _) (LD (eI b) _),wC ..,λ_=>Z,λi l=>absurd l (QbD _)⟩
 |k+1,y=>by
  have h:=Fv (M:=M) b k aq;obtain⟨d,g,a⟩:=Nv b (show k<M.c.gl.length by omega) (ws:=M.w k) (h.ot k (Qai _) (by omega));obtain⟨S,o⟩:∃S,dE M k=S:=⟨_,Z⟩
  rw[dE];rw[o]at h d g a ⊢;obtain⟨x,p⟩:∃x,jy M.c k (M.w k) S.2.1 S.2.2=x:=⟨_,Z⟩
  rw[p]at d g a ⊢;have m:=a (k+1) aq;refine⟨by rw[Qaf,h.len,QaR],λj n r=>(h.ot j aq r).trans (a j aq),m.pl.trans h.pl,λf=>(m.par f).trans (h.pp f),λi l=>?_⟩;rcases Qaz i k with q|q;have e:(S.1++[(⟨g0,x.pg,[]⟩:Gp)]).getD i default=S.1.getD i default:=by
   rw[Qao,QaO (by rw[h.len];exact q), <-Qao]
  obtain⟨s,t,u,v⟩:=h.gm i q;dsimp only;rw[e];exact⟨GMem.oth s (a i aq),t,u,v⟩;obtain rfl:i=k:=aq;have e:(S.1++[(⟨g0,x.pg,[]⟩:Gp)]).getD i default=⟨g0,x.pg,[]⟩:=by
   rw[Qao,Qbj (by rw[h.len];exact Qai _),h.len,Nat.sub_self];rfl
  dsimp only;rw[e];exact⟨d,g,Z,Z⟩
def te(M:Mw)(x:Dk)(inp:List (List It6)):Ms:=⟨(dE M M.c.gl.length).1,(dE M M.c.gl.length).2.1,(dE M M.c.gl.length).2.2,x,pG M.c.pl,⟨[],0,0,0,M.c.cats,M.c.gate,M.c.quota⟩,inp,0⟩
theorem b9A(a:rt M.c=true){x:Dk}(j:Nat):((te M x inp).at_ j).g=g0:=by have h:=Fv (M:=M) a M.c.gl.length (Qai _);rcases Qaz j M.c.gl.length with q|q;exact(h.gm j q).2.2.1;show((dE M M.c.gl.length).1.getD j default).g=g0;rw[Qao,QaU (by rw[h.len];exact q)];rfl
theorem MJ.new{M}(a:rt M.c=true){x}(m:DkOk x){inp}(n:inp.length=4)(o:∀i,nu (inp.getD i [])/\(inp.getD i []).length≤256/\∀x∈inp.getD i [],(0≤x.k/\x.k≤2)/\x.s.size<9223372036854775808):MJ M (te M x inp) 0 0 0 0:=by
 have h:=Fv (M:=M) a M.c.gl.length (Qai _);have b:=(Tg (Tj a)).1;obtain⟨u,v,p⟩:=EH a;refine⟨a,h.len,λi d=>?_,λi d=>?_,aq,Qan _,⟨Qan _,Qan _⟩,n,o⟩;obtain⟨f,j,e,l⟩:=h.gm i d;show LI M.c i ⟨((dE M M.c.gl.length).1.getD i default).g,((dE M M.c.gl.length).1.getD i default).pg,((dE M M.c.gl.length).1.getD i default).bx,(dE M M.c.gl.length).2.1,(dE M M.c.gl.length).2.2,x,pG M.c.pl,⟨[],0,0,0,M.c.cats,M.c.gate,M.c.quota⟩⟩;rw[e,l]
 exact⟨f,h.pl,h.pp,j,⟨Z,λy q=>by
  have:y∈[0,0,0,0]:=q
  simp at this;omega,QL.zero,QL.zero,QL.zero,Qay _⟩,m,b1N b,⟨Z,Z,Z,⟨Qan _,p.1⟩,λr a=>by cases a⟩,⟨Qay _,λs t=>by cases t⟩⟩
 obtain⟨f,j,e,l⟩:=h.gm i d;show GB ((dE M M.c.gl.length).1.getD i default).g 0 0 0 0;rw[e];exact⟨VO,Qan _,Qan _,Qan _,Qan _⟩
def rZ(l:List It6):List It6:=l.zipIdx.map λx=>{ x.1 with p:=x.2 %1000,hp:=Qbq _ (by decide) }
abbrev uw(k:Int):Bool:=decide (0≤k/\k≤2)
def ou(l:List It6)(i:Nat):List It6:=(rZ l).filter λx=>x.g==(i:Int)&&uw x.k
theorem b9B{l}(h:l.length≤1000):(rZ l).map (·.p)=List.range l.length:=by unfold rZ;rw[QcE];show l.zipIdx.map ((λn=>n %1000)∘Prod.snd)=_;rw[<-QcE,List.zipIdx_map_snd,List.range_eq_range'];refine(QbY λn a=>?_).trans (List.map_id _);have:=(List.mem_range'_1.1 a).2;exact Nat.mod_eq_of_lt aq
theorem b9C{l x}(h:x∈rZ l):∃y∈l,x.a=y.a/\x.g=y.g/\x.k=y.k/\x.c=y.c/\x.s=y.s:=by obtain⟨⟨y,n⟩,b,rfl⟩:=QaZ.1 h;exact⟨y,(List.mem_zipIdx b).2.2▸QaC _,Z,Z,Z,Z,Z⟩
theorem b9D{l}(h:l.length≤256)(b:∀x∈l,x.s.size<9223372036854775808)i:nu (ou l i)/\(ou l i).length≤256/\∀x∈ou l i,(0≤x.k/\x.k≤2)/\x.s.size<9223372036854775808:=by
 have j:(rZ l).length=l.length:=by simp[rZ]
 have c:nu (rZ l):=⟨by rw[b9B aq];exact QcS,λx _=>x.hp⟩
 refine⟨Nh c _,Qbe (QaW _ _) aq,λx d=>?_⟩;obtain⟨f,a⟩:=QaG.1 d;rw[Qam]at a;obtain⟨y,g,_,_,_,_,e⟩:=b9C f;exact⟨Qaw a.2,by rw[e];exact b y g⟩
def lB(l:List (Int×Int))(i:Int):Nat->Int
 |0=>0
 |n+1=>if (ka l n).g=i then lB l i n+1 else lB l i n
theorem Fw g a b:(gH g a b).2.clock=g.clock:=by unfold gH;split<;>rfl
theorem b9E:(gB i g fr pg).1.2.clock=g.clock+1:=by
 unfold gB
 split; · rfl
 have a:(jc (kJ (kK g))).2.clock=g.clock+1:=by
  unfold jc
  split
  cases mg (kJ (kK g)).ls<;>rfl
  rfl
 split; · exact a
 generalize (jc (kJ (kK g))).2=q at a
 suffices h:(kt i q fr pg).1.2.clock=q.clock by rw[h];exact a
 unfold kt
 split; · exact Fw _ _ _
 split; · exact Fw _ _ _
 unfold kY
 split
 unfold uk
 split
 exact Fw _ _ _
 rfl
 split
 unfold ul
 split
 exact Fw _ _ _
 rfl
 split; · exact Fw _ _ _
 split; · rfl
 split; · rfl
 split<;>rfl
section
variable{c:Cfg}{i n:Nat}{wl:List Nat}{L:Ls}
theorem b9F:(jz c i L).L.g.clock=L.g.clock:=by
 have a:∀{p:Prop} [Decidable p] {x y:Lr},x.L.g.clock=L.g.clock->y.L.g.clock=L.g.clock->(if p then x else y).L.g.clock=L.g.clock:=λ{p} _ {x y} b d=>by
  by_cases q:p;rw[Qad q];exact b;rw[Qab q];exact d
 unfold jz;refine a ?_ (a ?_ (a ?_ (a ?_ (a ?_ ?_))));unfold wZ;exact a Z (a Z (a Z (a Z Z)));unfold p9;exact a Z Z;unfold x9;exact a Z (a Z (a Z Z));unfold xa;exact a Z Z;unfold xb;refine a Z ?_;split<;>rfl;unfold yH;refine a Z (a Z (a Z (a Z (a Z (a ?_ (a Z (a Z (a Z (a Z Z)))))))));unfold vA;exact a Z W3.2.1
theorem b9G:(ge c i n wl L).g.clock=L.g.clock:=by have h:=b9F (c:=c) (i:=i) (L:=L);unfold ge rV;split;exact h;split<;>exact h
theorem b9H:(pd c i L).g.clock=L.g.clock:=by unfold pd;split<;>rfl
theorem b9I{x}:(vC c i n wl x L).g.clock=L.g.clock:=by unfold vC;split;split;rfl;split<;>rfl;split<;>rfl
end
theorem Wx:∀(a:List It6) {L:Ls},(kL c i n wl a L).g.clock=L.g.clock
 |[],_=>Z
 |_::a,_=>(Wx a).trans b9I
theorem Wy{c x}:∀(n:Nat) {gs:List Gp},(gZ c x n gs).length=gs.length/\∀j,((gZ c x n gs).getD j default).g.clock=(gs.getD j default).g.clock
 |0,_=>⟨Z,λ_=>Z⟩
 |n+1,gs=>by
  obtain⟨b,a⟩:=Wy (c:=c) (x:=x) n (gs:=gs);rw[gZ];split;refine⟨(Qal ..).trans b,λj=>?_⟩;rcases Qaz n (gZ c x n gs).length with q|q;rw[mV q];by_cases e:j=n;subst e;rw[Qad Z];exact a j;rw[Qab e];exact a j;rw[List.set_eq_of_length_le q];exact a j;exact⟨b,a⟩
theorem Wz{c}:∀(a:List Rls) {gs:List Gp},(a.foldl (λgs x=>rW c x gs) gs).length=gs.length/\∀j,((a.foldl (λgs x=>rW c x gs) gs).getD j default).g.clock=(gs.getD j default).g.clock
 |[],_=>⟨Z,λ_=>Z⟩
 |r::a,gs=>by
  obtain⟨b,d⟩:=Wz (c:=c) a (gs:=rW c r gs);obtain⟨e,f⟩:=Wy (c:=c) (x:=r) c.gl.length (gs:=gs);exact⟨b.trans e,λj=>(d j).trans (f j)⟩
theorem Nw(a:i<S.gs.length)(h:L.g.clock=(S.at_ i).g.clock+d)(j:Nat):((S.sl i L).at_ j).g.clock=(S.at_ j).g.clock+if j=i then d else 0:=by show((S.gs.set i ⟨L.g,L.pg,L.bx⟩).getD j default).g.clock=_;rw[mV a];by_cases e:j=i;subst e;rw[Qad Z,Qad Z];exact h;rw[Qab e,Qab e];rfl
theorem b9J(f:i<S.gs.length):(qL M i S).gs.length=S.gs.length/\∀j,((qL M i S).at_ j).g.clock=(S.at_ j).g.clock:=by
 have h:=λj=>Nw (S:=S) (i:=i) (L:=ge M.c i (M.n i) (M.w i) (S.ls i)) (d:=0) f b9G j;have a:∀j,((S.sl i (ge M.c i (M.n i) (M.w i) (S.ls i))).at_ j).g.clock=(S.at_ j).g.clock:=λj=>by
  rw[h j];split<;>rfl
 unfold qL;split;generalize (eB M.c ((S.ls i).r 2)).2.toNat=q;refine⟨(Qal ..).trans (Qal ..),λj=>?_⟩;rcases Qaz q (S.sl i (ge M.c i (M.n i) (M.w i) (S.ls i))).gs.length with e|e;show(((S.sl i (ge M.c i (M.n i) (M.w i) (S.ls i))).gs.set q { S.at_ q with g:=iO (S.at_ q).g 4 }).getD j default).g.clock=_;rw[mV e];by_cases b:j=q;subst b;rw[Qad Z];rw[Qab b];exact a j;show(((S.sl i (ge M.c i (M.n i) (M.w i) (S.ls i))).gs.set q { S.at_ q with g:=iO (S.at_ q).g 4 }).getD j default).g.clock=_;rw[List.set_eq_of_length_le e];exact a j;exact⟨Qal ..,a⟩
theorem b9K{M S k b l t}(h:MJ M S k b l t){g}(A:g<M.c.gl.length)(e:(ka M.c.sl S.n).g=g)j:((uu M S).at_ j).g.clock=(S.at_ j).g.clock+if j=g then 1 else 0:=by
 have s:=h.len;have a:(jA M S).gs.length=S.gs.length/\∀j,((jA M S).at_ j).g.clock=(S.at_ j).g.clock:=by
  unfold jA CM;split;exact Wz (c:=M.c) (mo S.gt) (gs:=S.gs);exact⟨Z,λ_=>Z⟩
 obtain⟨f,m⟩:∃x,jA M S=x:=⟨_,Z⟩
 have o:(oo M S).gs.length=S.gs.length/\∀j,((oo M S).at_ j).g.clock=(S.at_ j).g.clock:=by
  unfold oo AK;rw[m]at a ⊢;split;rw[e,Qae];refine⟨(Qal ..).trans a.1,λj=>?_⟩;have v:=Nw (S:=f) (i:=g) (L:=pd M.c g (kL M.c g (M.n g) (M.w g) (nv g f).1 (f.ls g))) (d:=0) aq (b9H.trans (Wx _)) j;refine Eq.trans v ?_;rw[<-a.2 j];split<;>rfl;exact a
 obtain⟨u,p⟩:∃x,oo M S=x:=⟨_,Z⟩
 have q:(pf M S).gs.length=S.gs.length/\∀j,((pf M S).at_ j).g.clock=(S.at_ j).g.clock+if j=g then 1 else 0:=by
  unfold pf CN;rw[p]at o ⊢;rw[e,Qae];refine⟨(Qal ..).trans o.1,λj=>?_⟩;rw[Nw (S:=u) (i:=g) (L:=tc g (u.ls g)) (d:=1) aq b9E j,o.2 j]
 obtain⟨y,r⟩:∃x,pf M S=x:=⟨_,Z⟩
 show((oq M S).at_ j).g.clock=_;unfold oq AL;rw[r]at q ⊢;split;rw[e,Qae,(b9J (M:=M) (S:=y) (i:=g) aq).2 j];exact q.2 j;exact q.2 j
theorem b9L{P:Gt->Prop}(h:P L.gt)(b:∀l s,P (nr L.gt i l s)):P (jz c i L).L.gt:=by
 have a:∀{p:Prop} [Decidable p] {x y:Lr},P x.L.gt->P y.L.gt->P (if p then x else y).L.gt:=λ{p} _ {x y} d e=>by
  by_cases q:p;rw[Qad q];exact d;rw[Qab q];exact e
 unfold jz;refine a ?_ (a ?_ (a ?_ (a ?_ (a ?_ ?_))));unfold wZ;exact a h (a h (a h (a h h)));unfold p9;exact a h h;unfold x9;exact a h (a h (a h h));unfold xa;exact a h (b _ _);unfold xb;refine a h ?_;split<;>exact h;unfold yH;refine a h (a h (a h (a h (a h (a ?_ (a h (a h (a h (a h h)))))))));unfold vA;exact a h h
theorem b9M{P:Gt->Prop}(h:P L.gt)(b:∀l s,P (nr L.gt i l s)):P (ge c i n wl L).gt:=by have a:=b9L (c:=c) h b;unfold ge rV;split;exact a;split<;>exact a
theorem b9N:(pd c i L).gt=L.gt:=by unfold pd;split<;>rfl
theorem b9O{x:It6}:(vC c i n wl x L).gt=L.gt:=by unfold vC;split;split;rfl;split<;>rfl;split<;>rfl
theorem WA:∀(a:List It6) {L:Ls},(kL c i n wl a L).gt=L.gt
 |[],_=>Z
 |_::a,_=>(WA a).trans b9O
theorem b9P{P:Gt->Prop}(h:P S.gt)(a:∀l s,P (nr S.gt i l s)):P (qL M i S).gt:=by have b:=b9M (c:=M.c) (i:=i) (n:=M.n i) (wl:=M.w i) (L:=S.ls i) h a;unfold qL;split<;>exact b
theorem b9Q{P:Gt->Prop}(h:P (jA M S).gt)(b:∀(i:Nat) l s,P (nr (jA M S).gt i l s)):P (uu M S).gt:=by
 have c:(oo M S).gt=(jA M S).gt:=by
  unfold oo AK;split;exact b9N.trans (WA _);rfl
 have a:(pf M S).gt=(jA M S).gt:=c;show P (oq M S).gt;unfold oq AL;split;exact b9P (by rw[a];exact h) (by rw[a];exact b _);rw[a];exact h
theorem b9R{l}(c:1≤l.length)(h:∀i,i<l.length->lU (l.getD i (0,0))=true)n:((ka l n).s=0/\(ka l n).o=0)↔n %fk l=0:=by obtain⟨d,m,p⟩:=CL c h;obtain⟨q,r,t,u⟩:=IH c h (Qbq n d);show gY l ((n %fk l:Nat):Int)=0/\((n %fk l:Nat):Int)-fN l (gY l ((n %fk l:Nat):Int))=0↔_;constructor;rintro⟨a,b⟩;rw[a]at b;have:fN l 0=0:=Z;omega;intro e;rw[e];have f:=h 0 aq;simp only[lU,Qas]at f;have g:gY l ((0:Nat):Int)=0:=W8 aq (by show((0:Nat):Int)<0+(l.getD 0 (0,0)).2;omega) λj k=>absurd k (QbD _);rw[g];exact⟨Z,Z⟩
structure GtN (p n : Nat) (x : Gt) : Prop where
  f : x.fn = (((n - 1) / p : Nat) : Int)
  r : ∀ r ∈ x.l, r.f * (p : Int) < (n : Int)
theorem GtN.new{p cats who quota}:GtN p 0 ⟨[],0,0,0,cats,who,quota⟩:=⟨n4,λr a=>by cases a⟩
theorem GtN.step{M S}(v:1≤M.c.sl.length)(w:∀i,i<M.c.sl.length->lU (M.c.sl.getD i (0,0))=true)(h:GtN (fk M.c.sl) S.n S.gt):GtN (fk M.c.sl) (S.n+1) (uu M S).gt:=by
 obtain⟨A,_⟩:=CL v w;have o:=b9R v w S.n;obtain⟨p,B⟩:∃p,fk M.c.sl=p:=⟨_,Z⟩
 rw[B]at h A o ⊢;have a:(jA M S).gt.fn=((S.n/p:Nat):Int)/\∀r∈(jA M S).gt.l,r.f*(p:Int)<((S.n+1:Nat):Int):=by
  unfold jA CM;split
  rename_i q
  have t:S.n %p=0:=o.1 ⟨q.1,q.2.1⟩;refine⟨?_,λr g=>by have:=h.r r g;omega⟩;show S.gt.fn+1=_;obtain⟨k,j⟩:∃k,S.n=k+1:=⟨S.n-1,aq⟩
  rw[h.f,j,Nat.add_sub_cancel];have:=Nat.succ_div (a:=k) (b:=p);have u:p∣k+1:=Nat.dvd_of_mod_eq_zero (by rw[<-j];exact t);rw[Qad u]at this;omega
  rename_i q
  refine⟨?_,λr g=>by have:=h.r r g;omega⟩;rw[h.f];rcases QcC S.n with e|e;rw[e];have t:S.n %p≠0:=λy=>q ⟨(o.2 y).1,(o.2 y).2,e⟩;obtain⟨k,j⟩:∃k,S.n=k+1:=⟨S.n-1,aq⟩
  rw[j,Nat.add_sub_cancel];have:=Nat.succ_div (a:=k) (b:=p);have u:¬p∣k+1:=λd=>t (by rw[j];exact Nat.mod_eq_zero_of_dvd d);rw[Qab u]at this;omega
 have m:=b9Q (M:=M) (S:=S) (P:=λx=>x.fn=((S.n/p:Nat):Int)/\∀r∈x.l,r.f*(p:Int)<((S.n+1:Nat):Int)) a λi l s=>by
  unfold nr;split;refine⟨a.1,λr g=>?_⟩;rcases Qba.1 g with q|q;exact a.2 r q;obtain rfl:=Qbw.1 q;show(jA M S).gt.fn*(p:Int)<_;rw[a.1];have:=Nat.div_mul_le_self S.n p;have e:((S.n/p:Nat):Int)*(p:Int)=((S.n/p*p:Nat):Int):=n4;rw[e];omega;exact a
 exact⟨by rw[Nat.add_sub_cancel];exact m.1,m.2⟩
structure MA (M : Mw) (x0 : Dk) (S : Ms) : Prop where
  mj : MJ M S (S.n : Nat) (6 * S.n : Nat) (S.n * S.n + 7 * S.n : Nat) (S.n : Nat)
  ck : ∀ j : Nat, j < M.c.gl.length → ((S.at_ j).g.clock : Int) = lB M.c.sl j S.n
  gn : GtN (fk M.c.sl) S.n S.gt
theorem MA.new(a:rt M.c=true){x:Dk}(b:DkOk x)(d:inp.length=4)(e:∀i,nu (inp.getD i [])/\(inp.getD i []).length≤256/\∀x∈inp.getD i [],(0≤x.k/\x.k≤2)/\x.s.size<9223372036854775808):MA M x (te M x inp):=by have f:=λj=>b9A (M:=M) a (x:=x) (inp:=inp) j;exact⟨MJ.new a b d e,λj g=>by rw[f];rfl,GtN.new⟩
theorem MA.step{M x0 S}(h:MA M x0 S)(p:S.n<400):MA M x0 (uu M S):=by
 have a:=h.mj.r;obtain⟨g,e,d,_⟩:=IK a S.n;obtain⟨f,s,i⟩:=IG a;have k:=h.mj.step aq;refine⟨?_,λj l=>?_,GtN.step f i h.gn⟩;have m:(S.n+1)*(S.n+1)=S.n*S.n+2*S.n+1:=by rw[Qdc,Nat.mul_add,QaP,Nat.one_mul];omega
 exact k.le (by show _≤((S.n+1:Nat):Int);omega) (by show _≤((6*(S.n+1):Nat):Int);omega) (by show _≤(((S.n+1)*(S.n+1)+7*(S.n+1):Nat):Int);rw[m];omega) (by show _≤((S.n+1:Nat):Int);omega);have o:=b9K h.mj d e j;have b:=h.ck j l;show(((uu M S).at_ j).g.clock:Int)=if (ka M.c.sl S.n).g=(j:Int)then lB M.c.sl j S.n+1 else lB M.c.sl j S.n;rw[o,e];by_cases q:j=g;subst q;rw[Qad Z,Qad Z, <-b];rfl;rw[Qab q,Qab aq, <-b];rfl
def hJ(M:Mw):Nat->Ms->Ms
 |0,S=>S
 |k+1,S=>uu M (hJ M k S)
theorem IU:∀k,(hJ M k S).n=S.n+k
 |0=>Z
 |k+1=>by show(hJ M k S).n+1=_;rw[IU k];omega
theorem MA.steps{M x0 S}(h:MA M x0 S):∀k,S.n+k≤400->MA M x0 (hJ M k S)
 |0,_=>h
 |k+1,q=>(h.steps k aq).step (by rw[IU];omega)
end
end Go.Proofs.YtjaalpinjajaoaaGreatDoor
