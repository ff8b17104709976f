/-
  Part 5 of the proof of GuestMade: rules, and walks of functions. Conditions: none.
-/
import Derived.Test.YtofillmoflhijaaGreatDoorGuestMadeD
namespace Go.Proofs.YtofillmoflhijaaGreatDoor
open Go.Proofs.Tryz
set_option linter.unusedSimpArgs false
set_option linter.unusedVariables false
set_option maxRecDepth 20000
set_option linter.defProp false
set_option synthInstance.maxSize 8192
set_option synthInstance.maxHeartbeats 2000000
variable {W0 : World} {R : List HP}
section
open Go.RowKit
@[reducible] def d9 (e : Eff) : List Value := [.int .i64 e.k, wV e.pc, wV e.addr, .int .i64 e.width, .bool e.signed, .int .i64 e.d, wV e.val, wV e.cause, wV e.tval]
@[reducible] def Xz (i : Ins) (rb cb : Nat) (clock : Int) : List Value := rQ i ++ [pV rb, pV cb, .int .i64 clock]
abbrev lG (i : Ins) (rb cb : Nat) (clock : Int) : Obj := a7 (Xz i rb cb clock) 357
abbrev ej (sb : Nat) (i : Ins) (rb cb : Nat) (clock : Int) (x : Cpu) (id : Nat) (R : List HP) : List HP := pt sb (lG i rb cb clock) :: pt rb (d8 x.rl x.pc) :: pt cb (dh x.cs id) :: R
section
variable (W0 : World) (R : List HP) (sb : Nat) (i : Ins) (rb cb : Nat) (clock : Int) (x : Cpu) (id : Nat)
theorem nM (hx : CpOk x) (n : Nat) (hn : n < 16) : sQ W0 353 [pV sb, iQ n] (pt sb (lG i rb cb clock) :: pt rb (d8 x.rl x.pc) :: R) (wV (cY x.rl n)) (pt sb (lG i rb cb clock) :: pt rb (d8 x.rl x.pc) :: R) := by
 refine ab func353 ntmps353 ?_
 refine ac (ah call140 (FX rb x.rl x.pc n hx.r.len hn)) ?_
 exact a8 aj
theorem oQ (hx : CpOk x) : sQ W0 355 [pV sb] (pt sb (lG i rb cb clock) :: pt rb (d8 x.rl x.pc) :: R) (wV (cZ x.pc)) (pt sb (lG i rb cb clock) :: pt rb (d8 x.rl x.pc) :: R) := by
 refine ab func355 ntmps355 ?_
 refine ac (ah sf (pT rb x.rl x.pc hx.r.len)) ?_
 refine a6 (dr rfl rfl (g8 _)) ?_
 exact a8 aj
theorem H6 (hx : CpOk x) : sQ W0 361 [pV sb] (pt sb (lG i rb cb clock) :: pt rb (d8 x.rl x.pc) :: R) (wV (nt x.pc i.im)) (pt sb (lG i rb cb clock) :: pt rb (d8 x.rl x.pc) :: R) := by
 refine ab func361 ntmps361 ?_
 refine bB [sb] 14 fun hS => ?_
 refine ae 0 4 hS ?_
 refine ae 5 5 hS ?_
 refine av 10 hS (cT (g8 i.im)) ?_
 refine av 11 hS (ug rfl rfl (g8 _)) ?_
 refine bJ 4 (ah sf (pT rb x.rl x.pc hx.r.len)) fun hS => ?_
 refine av 12 hS (dr rfl rfl (g8 _)) ?_
 refine ae 13 1 hS ?_
 refine aI ?_
 exact a8 aj
theorem vK (hx : CpOk x) (pc : Nat) : sQ W0 360 [pV sb, wV pc] (pt sb (lG i rb cb clock) :: pt rb (d8 x.rl x.pc) :: R) (.agg (d9 (kt x pc).1).toArray) (pt sb (lG i rb cb clock) :: pt rb (d8 (kt x pc).2.rl (kt x pc).2.pc) :: R) := by
 refine ab func360 ntmps360 ?_
 refine bu fun b1 => ?_
 refine am rfl (lh CB rfl (xR rb x.rl x.pc pc hx.r.len)) ?_
 rintro _ B_ ⟨rfl, hB_⟩
 obtain rfl := hB_.symm
 refine aN (aD (aP (aZ (aa rfl (aL rfl) (aa rfl (fw yZ nX (aM aO (aM bF (aM bF (aM aO (aM jZ (aM aO (aM bF (aM bF (aM bF fq))))))))) (cQ rfl aO rfl rfl (Qaa rfl) SetL.eq (cQ rfl bF rfl rfl (Qaa rfl) SetL.eq fp))) ?_)))))
 refine eW (fG fD rfl rfl rfl rfl rfl) ?_
 rintro _ _ rfl
 refine aN (aD (dT ?_))
 exact bi (.cons (bD gm fD rfl rfl) .nil) aj
theorem vL (hx : CpOk x) (hi : i.d < 16) (v pc : Nat) (hv : v < 4294967296) : sP W0 354 [pV sb, wV v, wV pc] (pt sb (lG i rb cb clock) :: pt rb (d8 x.rl x.pc) :: R) (fun r B => r = .agg (d9 (iB i x v pc).1).toArray ∧ B = pt sb (lG i rb cb clock) :: pt rb (d8 (iB i x v pc).2.rl (iB i x v pc).2.pc) :: R) := by
 have hir : kB (i.d : Int) = true := by grind [kB]
 refine ab func354 ntmps354 ?_
 refine bu fun b1 => ?_
 refine bB [sb] 11 fun hS => ?_
 refine ae 0 10 hS ?_
 refine cg 10 (ah call141 (GM rb x.rl x.pc v i.d hx.r.len)) ?_; clear hS
 rintro _ B_ ⟨rfl, hB_⟩
 obtain rfl := hB_.symm
 rw [Qaf hir, Qaf hir, Qam]
 refine ⟨aK, fun hS => ?_⟩
 refine aI ?_
 refine ac (cH zk (vK W0 _ sb i rb cb clock { x with rl := nr x.rl i.d v } ⟨hx.r.set i.d v hv, hx.pc, hx.cs⟩ pc)) ?_
 refine ax aC ?_
 exact bi (.cons (bD gm fD rfl rfl) .nil) aj
theorem tK {W0 : World} {R : List HP} (c t : Nat) : sQ W0 241 [wV c, wV t] R (.agg (d9 (ko c t)).toArray) R := by
 refine ab func241 ntmps241 ?_
 refine dX (dt nX) fun b1 => ?_
 refine aN (aD (aP (aZ (aa rfl (aL rfl) (aa rfl (aL rfl) (aa rfl (fw yZ nX (aM aO (aM bF (aM bF (aM aO (aM jZ (aM aO (aM bF (aM bF (aM bF fq))))))))) (cQ rfl aO rfl rfl (Qaa rfl) SetL.eq (cQ rfl bF rfl rfl (Qaa rfl) SetL.eq (cQ rfl bF rfl rfl (Qaa rfl) SetL.eq fp)))) ?_))))))
 refine eW (fG fD rfl rfl rfl rfl rfl) ?_
 rintro _ _ rfl
 refine aN (aD (dT ?_))
 exact bi (.cons (bD gm fD rfl rfl) .nil) aj
theorem XA : sQ W0 358 [pV sb] (pt sb (lG i rb cb clock) :: R) (iQ ((lw i.op : Nat) : Int)) (pt sb (lG i rb cb clock) :: R) := by
 refine ab func358 ntmps358 ?_
 refine cA (fun g1_7 => ?_) fun g1_7 => ?_
 refine a8 ?_
 rw [lw, Qaf (by omega)]
 exact aj
 refine ag (fun c1 => ?_) fun c1 => ?_
 refine a8 ?_
 rw [lw, Qaf (by omega)]
 exact aj
 refine a8 ?_
 rw [lw, Qac (by omega)]
 exact aj
def Bz (f : FuncId) (o : Eff × Cpu) : Prop := (∀ args w, (callFunc f args).run Tryz.prog w = .ok (.enter f args) w) ∧ ∀ R, bc Tryz.prog W0 f ([pV sb] ++ [] ++ []) (ej sb i rb cb clock x id R) (fun v B => v = .agg (d9 o.1).toArray ∧ B = ej sb i rb cb clock o.2 id R)
theorem XB (hx : CpOk x) (hi : i.d < 16) (ha : i.a < 16) (hb : i.b < 16) (h : 1 ≤ i.op ∧ i.op ≤ 13) : sQ W0 315 [pV sb] (ej sb i rb cb clock x id R) (.agg (d9 (iB i x (lv i.op (cY x.rl i.a) (cY x.rl i.b)) (cZ x.pc)).1).toArray) (ej sb i rb cb clock (iB i x (lv i.op (cY x.rl i.a) (cY x.rl i.b)) (cZ x.pc)).2 id R) := by
 have h1 := hx.r.at_ i.a
 have h2 := hx.r.at_ i.b
 refine ab func315 ntmps315 ?_
 refine bu fun b1 => ?_
 refine bB [sb] 25 fun hS => ?_
 refine ae 0 11 hS ?_
 refine ae 12 6 hS ?_
 refine bJ 11 (cH pd (nM W0 _ sb i rb cb clock x hx i.a ha)) fun hS => ?_
 refine bJ 18 (cH pd (nM W0 _ sb i rb cb clock x hx i.b hb)) fun hS => ?_
 refine bJ 19 (ao call352 (H0 W0 _ (cY x.rl i.a) (cY x.rl i.b) i.op h h1 h2)) fun hS => ?_
 refine ae 20 5 hS ?_
 refine aI ?_
 refine ac (cH qy (oQ W0 _ sb i rb cb clock x hx)) ?_
 refine ac (cH zl (vL W0 _ sb i rb cb clock x hx hi (lv i.op (cY x.rl i.a) (cY x.rl i.b)) (cZ x.pc) (xi h1 h2))) ?_
 refine ax aC ?_
 exact bi (.cons (bD gm fD rfl rfl) .nil) aj
theorem XC (hx : CpOk x) (hi : i.d < 16) (ha : i.a < 16) (h : 14 ≤ i.op ∧ i.op ≤ 21) : sQ W0 316 [pV sb] (ej sb i rb cb clock x id R) (.agg (d9 (iB i x (lv (i6 i.op) (cY x.rl i.a) (u32 i.im)) (cZ x.pc)).1).toArray) (ej sb i rb cb clock (iB i x (lv (i6 i.op) (cY x.rl i.a) (u32 i.im)) (cZ x.pc)).2 id R) := by
 have h1 := hx.r.at_ i.a
 have hp : 1 ≤ i6 i.op ∧ i6 i.op ≤ 13 := by
  grind [i6]
 refine ab func316 ntmps316 ?_
 refine bu fun b1 => ?_
 refine ac (ao call356 (Xk W0 _ i.op h)) ?_
 refine bB [sb] 20 fun hS => ?_
 refine ae 0 7 hS ?_
 refine ae 8 5 hS ?_
 refine av 13 hS (cT (g8 i.im)) ?_
 refine bJ 7 (cH pd (nM W0 _ sb i rb cb clock x hx i.a ha)) fun hS => ?_
 refine bJ 14 (ao call352 (H0 W0 _ (cY x.rl i.a) (u32 i.im) (i6 i.op) hp h1 (dC _))) fun hS => ?_
 refine ae 15 5 hS ?_
 refine aI ?_
 refine ac (cH qy (oQ W0 _ sb i rb cb clock x hx)) ?_
 refine ac (cH zl (vL W0 _ sb i rb cb clock x hx hi (lv (i6 i.op) (cY x.rl i.a) (u32 i.im)) (cZ x.pc) (xi h1 (dC _)))) ?_
 refine ax aC ?_
 exact bi (.cons (bD gm fD rfl rfl) .nil) aj
theorem XD (hx : CpOk x) (hi : i.d < 16) : sQ W0 317 [pV sb] (ej sb i rb cb clock x id R) (.agg (d9 (iB i x (uX i.im) (cZ x.pc)).1).toArray) (ej sb i rb cb clock (iB i x (uX i.im) (cZ x.pc)).2 id R) := by
 refine ab func317 ntmps317 ?_
 refine bu fun b1 => ?_
 refine ac (ao call357 (Xl W0 _ i.im)) ?_
 refine ac (cH qy (oQ W0 _ sb i rb cb clock x hx)) ?_
 refine ac (cH zl (vL W0 _ sb i rb cb clock x hx hi (uX i.im) (cZ x.pc) (dC _))) ?_
 refine ax aC ?_
 exact bi (.cons (bD gm fD rfl rfl) .nil) aj
theorem XE (hx : CpOk x) (ha : i.a < 16) (hb : i.b < 16) (h : 23 ≤ i.op ∧ i.op ≤ 27) : sQ W0 318 [pV sb] (ej sb i rb cb clock x id R) (.agg (d9 (sY i x)).toArray) (ej sb i rb cb clock x id R) := by
 have hw : lw i.op < 4294967296 := by grind [Ak]
 have hw0 : lw i.op ≠ 0 := by grind [lw]
 obtain ⟨at_, hat⟩ : ∃ a, nu (cY x.rl i.a) i.im = a := ⟨_, rfl⟩
 obtain ⟨m, hm⟩ : ∃ m, lw i.op = m := ⟨_, rfl⟩
 rw [sY, hat, hm]
 rw [hm] at hw hw0
 refine ab func318 ntmps318 ?_
 refine bu fun b2 => ?_
 refine j9 (b := b2) (o' := a7 (d9 sX) 276) rfl ?_
 refine bB [sb] 18 fun hS => ?_
 refine ae 0 6 hS ?_
 refine ae 7 5 hS ?_
 refine av 12 hS (cT (g8 i.im)) ?_
 refine ae 14 1 hS ?_
 refine bJ 6 (cH pd (nM W0 _ sb i rb cb clock x hx i.a ha)) fun hS => ?_
 refine av 13 hS (dr rfl rfl (show _ = ((at_ : Nat) : Int) by rw [← hat]; exact g8 _)) ?_
 refine cg 15 (ah call358 (XA W0 _ sb i rb cb clock)) ?_; clear hS
 rintro _ B_ ⟨rfl, hB_⟩
 obtain rfl := hB_.symm
 rw [hm]
 refine ⟨aK, fun hS => ?_⟩
 refine ae 16 2 hS ?_
 refine aI ?_
 refine a6 (cT (dP (by omega))) ?_
 refine a6 (k7 rfl rfl (by omega) (oc at_ m)) ?_
 refine ag (fun c2 => ?_) fun c2 => ?_
 refine ac (ao wq (tK 2 at_)) ?_
 refine ax aC ?_
 refine bi (.cons (bD gm fD rfl rfl) .nil) ?_
 rw [Qaf (by omega)]
 exact aj
 rw [Qac (by omega)]
 refine am rfl (zF qy rfl (oQ W0 _ sb i rb cb clock x hx)) ?_
 rintro _ B_ ⟨rfl, hB_⟩
 obtain rfl := hB_.symm
 refine aa rfl (fw yZ nX (aM aO (aM bF (aM bF (aM aO (aM jZ (aM aO (aM bF (aM bF (aM bF fq))))))))) (cQ rfl aO rfl rfl (Qaa rfl) SetL.eq (cQ rfl bF rfl rfl (Qaa rfl) SetL.eq (cQ rfl aO rfl rfl (Qaa rfl) SetL.eq (cQ rfl bF rfl rfl (Qaa rfl) SetL.eq fp))))) ?_
 refine am rfl (dt nX) ?_
 rintro _ _ ⟨b5, rfl, rfl⟩
 refine iT 2 aC ?_
 refine dO (fun _ : Unit => True) (fun _ => [(2, pV b2), (5, pV b5)]) (fun _ => pt b2 (a7 (d9 sX) 276) :: pt b5 (a7 (d9 (if i.op = 26 ∨ i.op = 27 then ⟨2, cZ x.pc, at_, m, false, 0, cY x.rl i.b, 0, 0⟩ else ⟨1, cZ x.pc, at_, m, decide (i.op = 24), i.d, 0, 0, 0⟩)) 276) :: ej sb i rb cb clock x id R) ?_ ?_
 refine au 1 ?_
 refine j9 (b := b5) (o' := a7 (d9 ⟨1, cZ x.pc, at_, m, false, 0, 0, 0, 0⟩) 276) rfl ?_
 refine aw ?_
 refine ag (fun c6 => ?_) fun c6 => ?_
 refine ac (cH pd (nM W0 _ sb i rb cb clock x hx i.b hb)) ?_
 refine ax (kd (by exact rfl : (d9 ⟨1, cZ x.pc, at_, m, false, 0, 0, 0, 0⟩).set 0 (iQ 2) = d9 ⟨2, cZ x.pc, at_, m, false, 0, 0, 0, 0⟩)) ?_
 refine ax (kd (by exact rfl : (d9 ⟨2, cZ x.pc, at_, m, false, 0, 0, 0, 0⟩).set 6 (wV (cY x.rl i.b)) = d9 ⟨2, cZ x.pc, at_, m, false, 0, cY x.rl i.b, 0, 0⟩)) ?_
 refine cu () ?_ (he := ?_)
 trivial
 rw [Qaf (by omega)]
 exact IO
 refine ag (fun c7 => ?_) fun c7 => ?_
 refine ac (cH pd (nM W0 _ sb i rb cb clock x hx i.b hb)) ?_
 refine ax (kd (by exact rfl : (d9 ⟨1, cZ x.pc, at_, m, false, 0, 0, 0, 0⟩).set 0 (iQ 2) = d9 ⟨2, cZ x.pc, at_, m, false, 0, 0, 0, 0⟩)) ?_
 refine ax (kd (by exact rfl : (d9 ⟨2, cZ x.pc, at_, m, false, 0, 0, 0, 0⟩).set 6 (wV (cY x.rl i.b)) = d9 ⟨2, cZ x.pc, at_, m, false, 0, cY x.rl i.b, 0, 0⟩)) ?_
 refine cu () ?_ (he := ?_)
 trivial
 rw [Qaf (by omega)]
 exact IO
 refine ag (fun c8 => ?_) fun c8 => ?_
 refine ax (kd (by exact rfl : (d9 ⟨1, cZ x.pc, at_, m, false, 0, 0, 0, 0⟩).set 4 (.bool true) = d9 ⟨1, cZ x.pc, at_, m, true, 0, 0, 0, 0⟩)) ?_
 refine ax (kd (by exact rfl : (d9 ⟨1, cZ x.pc, at_, m, true, 0, 0, 0, 0⟩).set 5 (iQ i.d) = d9 ⟨1, cZ x.pc, at_, m, true, i.d, 0, 0, 0⟩)) ?_
 refine cu () ?_ (he := ?_)
 trivial
 rw [Qac (by omega), Qak (by omega)]
 exact IO
 refine ax (kd (by exact rfl : (d9 ⟨1, cZ x.pc, at_, m, false, 0, 0, 0, 0⟩).set 5 (iQ i.d) = d9 ⟨1, cZ x.pc, at_, m, false, i.d, 0, 0, 0⟩)) ?_
 refine cu () ?_ (he := ?_)
 trivial
 rw [Qac (by omega), Qaq (by omega)]
 exact IO
 intro _ _
 refine aw ?_
 refine ax aC ?_
 exact bi (.cons (bD gm fD rfl rfl) .nil) aj
theorem XF (hx : CpOk x) (ha : i.a < 16) (hb : i.b < 16) (h : 28 ≤ i.op ∧ i.op ≤ 31) : sQ W0 319 [pV sb] (ej sb i rb cb clock x id R) (.agg (d9 (kt x (if uW i.op (cY x.rl i.a) (cY x.rl i.b) then nt x.pc i.im else cZ x.pc)).1).toArray) (ej sb i rb cb clock (kt x (if uW i.op (cY x.rl i.a) (cY x.rl i.b) then nt x.pc i.im else cZ x.pc)).2 id R) := by
 obtain ⟨z, hz⟩ : ∃ z, uW i.op (cY x.rl i.a) (cY x.rl i.b) = z := ⟨_, rfl⟩
 refine ab func319 ntmps319 ?_
 refine bu fun b1 => ?_
 refine bB [sb] 25 fun hS => ?_
 refine ae 0 11 hS ?_
 refine ae 12 6 hS ?_
 refine bJ 11 (cH pd (nM W0 _ sb i rb cb clock x hx i.a ha)) fun hS => ?_
 refine bJ 18 (cH pd (nM W0 _ sb i rb cb clock x hx i.b hb)) fun hS => ?_
 refine cg 19 (ao call359 (Xj W0 _ (cY x.rl i.a) (cY x.rl i.b) i.op h)) ?_; clear hS
 rintro _ B_ ⟨rfl, hB_⟩
 obtain rfl := hB_.symm
 rw [hz]
 refine ⟨aK, fun hS => ?_⟩
 refine ae 20 5 hS ?_
 refine aI ?_
 refine ag (fun c2 => ?_) fun c2 => ?_
 rw [Qaf c2]
 refine ac (cH call361 (H6 W0 _ sb i rb cb clock x hx)) ?_
 refine ac (cH zk (vK W0 _ sb i rb cb clock x hx (nt x.pc i.im))) ?_
 refine ax aC ?_
 exact bi (.cons (bD gm fD rfl rfl) .nil) aj
 rw [Qac c2]
 refine ac (cH qy (oQ W0 _ sb i rb cb clock x hx)) ?_
 refine ac (cH zk (vK W0 _ sb i rb cb clock x hx (cZ x.pc))) ?_
 refine ax aC ?_
 exact bi (.cons (bD gm fD rfl rfl) .nil) aj
theorem XG (hx : CpOk x) (hi : i.d < 16) (ha : i.a < 16) : sQ W0 320 [pV sb] (ej sb i rb cb clock x id R) (.agg (d9 (iB i x (cZ x.pc) (if i.op = 33 then nu (cY x.rl i.a) i.im else nt x.pc i.im)).1).toArray) (ej sb i rb cb clock (iB i x (cZ x.pc) (if i.op = 33 then nu (cY x.rl i.a) i.im else nt x.pc i.im)).2 id R) := by
 refine ab func320 ntmps320 ?_
 refine bu fun b2 => ?_
 refine j9 (b := b2) (o' := a7 (d9 sX) 276) rfl ?_
 refine aw ?_
 refine dK 3 (cH call361 (H6 W0 _ sb i rb cb clock x hx)) ?_
 refine dO (fun _ : Unit => True) (fun _ => [(0, pV sb), (2, pV b2), (3, wV (if i.op = 33 then nu (cY x.rl i.a) i.im else nt x.pc i.im))]) (fun _ => pt b2 (a7 (d9 sX) 276) :: ej sb i rb cb clock x id R) ?_ ?_
 refine au 10 ?_
 refine ag (fun c2 => ?_) fun c2 => ?_
 refine bB [sb] 15 fun hS => ?_
 refine ae 0 6 hS ?_
 refine ae 7 5 hS ?_
 refine av 12 hS (cT (g8 i.im)) ?_
 refine bJ 6 (cH pd (nM W0 _ sb i rb cb clock x hx i.a ha)) fun hS => ?_
 refine av 13 hS (dr rfl rfl (g8 _)) ?_
 refine ae 14 1 hS ?_
 refine aI ?_
 refine eE () ?_ ?_ ?_
 trivial
 · rw [Qaf (by omega)]
   repeat (first | exact ci | refine bQ rfl ?_)
 exact IO
 refine eE () ?_ ?_ ?_
 trivial
 · rw [Qac (by omega)]
   repeat (first | exact ci | refine bQ rfl ?_)
 exact IO
 intro _ _
 refine aw ?_
 refine ac (cH qy (oQ W0 _ sb i rb cb clock x hx)) ?_
 refine ac (cH zl (vL W0 _ sb i rb cb clock x hx hi (cZ x.pc) (if i.op = 33 then nu (cY x.rl i.a) i.im else nt x.pc i.im) (dC _))) ?_
 refine ax aC ?_
 exact bi (.cons (bD gm fD rfl rfl) .nil) aj
theorem XH (hx : CpOk x) : sQ W0 366 [pV sb] (ej sb i rb cb clock x id R) (.agg (d9 ⟨rk i.op, cZ x.pc, 0, 0, false, 0, 0, 0, 0⟩).toArray) (ej sb i rb cb clock x id R) := by
 refine ab func366 ntmps366 ?_
 refine dX (dt nX) fun b2 => ?_
 refine au 3 ?_
 refine j9 (b := b2) (o' := a7 (d9 sX) 276) rfl ?_
 refine au 4 ?_
 refine dO (fun _ : Unit => True) (fun _ => [(0, pV sb), (2, pV b2), (3, iQ ((rk i.op : Nat) : Int))]) (fun _ => pt b2 (a7 (d9 sX) 276) :: ej sb i rb cb clock x id R) ?_ ?_
 refine au 16 ?_
 refine ag (fun c3 => ?_) fun c3 => ?_
 refine eE () ?_ ?_ ?_
 trivial
 · rw [rk, Qaf (by omega)]
   repeat (first | exact ci | refine bQ rfl ?_)
 exact IO
 refine ag (fun c5 => ?_) fun c5 => ?_
 refine eE () ?_ ?_ ?_
 trivial
 · rw [rk, Qac (by omega), Qaf (by omega)]
   repeat (first | exact ci | refine bQ rfl ?_)
 exact IO
 refine eE () ?_ ?_ ?_
 trivial
 · rw [rk, Qac (by omega), Qac (by omega)]
   repeat (first | exact ci | refine bQ rfl ?_)
 exact IO
 intro _ _
 refine aw ?_
 refine am rfl (zF qy rfl (oQ W0 _ sb i rb cb clock x hx)) ?_
 rintro _ B_ ⟨rfl, hB_⟩
 obtain rfl := hB_.symm
 refine aa rfl (fw yZ nX (aM aO (aM bF (aM bF (aM aO (aM jZ (aM aO (aM bF (aM bF (aM bF fq))))))))) (cQ rfl aO rfl rfl (Qaa rfl) SetL.eq (cQ rfl bF rfl rfl (Qaa rfl) SetL.eq fp))) ?_
 refine eW (fG fD rfl rfl rfl rfl rfl) ?_
 rintro _ _ rfl
 refine aN (aD (dT ?_))
 exact bi (.cons (bD gm fD rfl rfl) .nil) aj
theorem H7 (hx : CpOk x) (h : i.op = 34 ∨ i.op = 41) : sQ W0 362 [pV sb] (ej sb i rb cb clock x id R) (.agg (d9 (if i.op = 34 then ko 6 0 else ko 8 x.pc)).toArray) (ej sb i rb cb clock x id R) := by
 refine ab func362 ntmps362 ?_
 refine bu fun b1 => ?_
 refine ag (fun c1 => ?_) fun c1 => ?_
 refine ac (ah sf (pT rb x.rl x.pc hx.r.len)) ?_
 refine ac (ao wq (tK 8 x.pc)) ?_
 refine ax aC ?_
 refine bi (.cons (bD gm fD rfl rfl) .nil) ?_
 rw [Qac (by omega)]
 exact aj
 refine ac (ao wq (tK 6 0)) ?_
 refine ax aC ?_
 refine bi (.cons (bD gm fD rfl rfl) .nil) ?_
 rw [Qaf (by omega)]
 exact aj
theorem XI (hx : CpOk x) : sQ W0 363 [pV sb] (ej sb i rb cb clock x id R) (.agg (d9 (kt { x with cs := pK x.cs } (dD x.cs 2)).1).toArray) (ej sb i rb cb clock (kt { x with cs := pK x.cs } (dD x.cs 2)).2 id R) := by
 refine ab func363 ntmps363 ?_
 refine bu fun b1 => ?_
 refine ac (ah call395 (WW cb hx.cs)) ?_
 refine ac (cH zk (vK W0 _ sb i rb cb clock x hx (dD x.cs 2))) ?_
 refine ax aC ?_
 exact bi (.cons (bD gm fD rfl rfl) .nil) aj
theorem XJ (hx : CpOk x) (hi : i.d < 16) (hid : id < 4) (hc : 0 ≤ clock) (hk : eg x.cs = true) (n : Nat) (hn : i.im = (n : Int)) (h9 : n < 9) : sQ W0 364 [pV sb] (ej sb i rb cb clock x id R) (.agg (d9 (iB i x (pL x.cs id clock.toNat n) (cZ x.pc)).1).toArray) (ej sb i rb cb clock (iB i x (pL x.cs id clock.toNat n) (cZ x.pc)).2 id R) := by
 obtain ⟨op, d, a, b, im⟩ := i
 dsimp only at hn hi
 subst hn
 refine ab func364 ntmps364 ?_
 refine bu fun b1 => ?_
 refine bB [sb] 19 fun hS => ?_
 refine ae 0 13 hS ?_
 refine cg 13 (ah call313 (GO cb hx.cs hid n h9 clock hc)) ?_; clear hS
 rintro _ B_ ⟨rfl, hB_⟩
 obtain rfl := hB_.symm
 rw [hk, Qaf rfl]
 refine ⟨aK, fun hS => ?_⟩
 refine ae 14 5 hS ?_
 refine aI ?_
 refine ac (cH qy (oQ W0 _ sb ⟨op, d, a, b, n⟩ rb cb clock x hx)) ?_
 refine ac (cH zl (vL W0 _ sb ⟨op, d, a, b, n⟩ rb cb clock x hx hi (pL x.cs id clock.toNat n) (cZ x.pc) (EB hx.cs hid))) ?_
 refine ax aC ?_
 exact bi (.cons (bD gm fD rfl rfl) .nil) aj
theorem BA {W0 : World} {R : List HP} (hH : ∀ A, aT (aB W0 A) 0 0 iL) (i : Ins) (hv : jx i = true) : sQ W0 242 [.agg (rQ i).toArray] R (wV (oB i)) R := by
 refine ab func242 ntmps242 ?_
 refine aS fun b1 => ?_
 refine ac (ao call314 (Xy hH i hv)) ?_
 exact a8 aj
theorem XK (hH : ∀ A, aT (aB W0 A) 0 0 iL) (hx : CpOk x) (hv : jx i = true) (ha : i.a < 16) (hk : eg x.cs = true) (n : Nat) (hn : i.im = (n : Int)) (h9 : n < 9) : sQ W0 365 [pV sb] (ej sb i rb cb clock x id R) (.agg (d9 (if n ≤ 6 then kt { x with cs := x.cs.set n (kR n (cY x.rl i.a)) } (cZ x.pc) else (ko 1 (oB i), x)).1).toArray) (ej sb i rb cb clock (if n ≤ 6 then kt { x with cs := x.cs.set n (kR n (cY x.rl i.a)) } (cZ x.pc) else (ko 1 (oB i), x)).2 id R) := by
 obtain ⟨op, d, a, b, im⟩ := i
 dsimp only at hn ha ⊢
 subst hn
 refine ab func365 ntmps365 ?_
 refine bu fun b1 => ?_
 refine bB [sb] 18 fun hS => ?_
 refine ae 0 15 hS ?_
 refine bJ 15 (cH pd (nM W0 _ sb ⟨op, d, a, b, n⟩ rb cb clock x hx a ha)) fun hS => ?_
 refine bJ 16 (ah call396 (WT cb hx.cs n (cY x.rl a) h9 (hx.r.at_ a) hk)) fun hS => ?_
 refine ae 17 1 hS ?_
 refine aI ?_
 refine ag (fun c2 => ?_) fun c2 => ?_
 have h6 : ¬ n ≤ 6 := fun q => by rw [Qaf q] at c2; exact absurd rfl c2
 simp only [Qac h6]
 refine a6 (cJ (mi (vs := rQ ⟨op, d, a, b, n⟩) rfl)) ?_
 refine ac (ao Ja (BA hH ⟨op, d, a, b, n⟩ hv)) ?_
 refine ac (ao wq (tK 1 (oB ⟨op, d, a, b, n⟩))) ?_
 refine ax aC ?_
 exact bi (.cons (bD gm fD rfl rfl) .nil) aj
 have h6 : n ≤ 6 := by
  omega
 simp only [Qaf h6]
 refine ac (cH qy (oQ W0 _ sb ⟨op, d, a, b, n⟩ rb cb clock x hx)) ?_
 refine ac (cH zk (vK W0 _ sb ⟨op, d, a, b, n⟩ rb cb clock x hx (cZ x.pc))) ?_
 refine ax aC ?_
 exact bi (.cons (bD gm fD rfl rfl) .nil) aj
theorem m7 {f : FuncId} {o o' : Eff × Cpu} (hc : ∀ args w, (callFunc f args).run Tryz.prog w = .ok (.enter f args) w) (e : o = o') (h : ∀ R, bc Tryz.prog W0 f [pV sb] (ej sb i rb cb clock x id R) (fun v B => v = .agg (d9 o'.1).toArray ∧ B = ej sb i rb cb clock o'.2 id R)) : Bz W0 sb i rb cb clock x id f o := ⟨hc, by rw [e]; exact h⟩
theorem H8 {i : Ins} (hv : jx i = true) (h : i.op = 37 ∨ i.op = 38) : ∃ n : Nat, i.im = (n : Int) ∧ n < 9 := by
 have := (xh hv).2.2.2.2
 rw [eN, Qac (by omega), Qaf h] at this
 have := Qas this
 exact ⟨i.im.toNat, by omega, by omega⟩
theorem XL (hH : ∀ A, aT (aB W0 A) 0 0 iL) (hx : CpOk x) (hv : jx i = true) (hid : id < 4) (hc : 0 ≤ clock) (h : 34 ≤ i.op) (hk : jM i.op = true → eg x.cs = true) : sP W0 321 [pV sb] (ej sb i rb cb clock x id R) (fun v B => ∃ f, v = .func (.func f) #[pV sb] #[] ∧ B = ej sb i rb cb clock x id R ∧ Bz W0 sb i rb cb clock x id f (nv id clock.toNat i x)) := by
 obtain ⟨h1, hd, ha, hb, him⟩ := xh hv
 refine ab func321 ntmps321 ?_
 refine ag (fun c2 => ?_) fun c2 => ?_
 refine a8 ?_
 refine ⟨_, ⟨_, rfl, rfl, m7 W0 sb i rb cb clock x id (o' := (if i.op = 34 then ko 6 0 else ko 8 x.pc, x)) call362 ?_ fun R => H7 W0 R sb i rb cb clock x id hx (by omega)⟩, IO⟩
 unfold nv
 split
 rfl
 rw [Qaf (by omega)]
 refine ag (fun c3 => ?_) fun c3 => ?_
 refine a8 ?_
 refine ⟨_, ⟨_, rfl, rfl, m7 W0 sb i rb cb clock x id (o' := (if i.op = 34 then ko 6 0 else ko 8 x.pc, x)) call362 ?_ fun R => H7 W0 R sb i rb cb clock x id hx (by omega)⟩, IO⟩
 unfold nv
 split
 rfl
 rw [Qaf (by omega)]
 refine ag (fun c5 => ?_) fun c5 => ?_
 refine a8 ?_
 refine ⟨_, ⟨_, rfl, rfl, m7 W0 sb i rb cb clock x id call363 ?_ fun R => XI W0 R sb i rb cb clock x id hx⟩, IO⟩
 rw [nv, Qac (by omega), Qac (by omega), Qaf (by omega)]
 refine ag (fun c7 => ?_) fun c7 => ?_
 refine a8 ?_
 obtain ⟨n, hn, h9⟩ := H8 hv (by omega)
 refine ⟨_, ⟨_, rfl, rfl, m7 W0 sb i rb cb clock x id call364 ?_ fun R => XJ W0 R sb i rb cb clock x id hx hd hid hc (hk (Qak (by omega))) n hn h9⟩, IO⟩
 rw [nv, Qac (by omega), Qac (by omega), Qac (by omega), Qaf (by omega), hn, Qam]
 refine ag (fun c9 => ?_) fun c9 => ?_
 refine a8 ?_
 obtain ⟨n, hn, h9⟩ := H8 hv (by omega)
 refine ⟨_, ⟨_, rfl, rfl, m7 W0 sb i rb cb clock x id call365 ?_ fun R => XK W0 R sb i rb cb clock x id hH hx hv ha (hk (Qak (by omega))) n hn h9⟩, IO⟩
 rw [nv, Qac (by omega), Qac (by omega), Qac (by omega), Qac (by omega), Qaf (by omega), hn, Qam]
 refine a8 ?_
 refine ⟨_, ⟨_, rfl, rfl, m7 W0 sb i rb cb clock x id (o' := (⟨rk i.op, cZ x.pc, 0, 0, false, 0, 0, 0, 0⟩, x)) call366 ?_ fun R => XH W0 R sb i rb cb clock x id hx⟩, IO⟩
 rw [nv, Qac (by omega), Qac (by omega), Qac (by omega), Qac (by omega), Qac (by omega)]
theorem yt (hH : ∀ A, aT (aB W0 A) 0 0 iL) (hx : CpOk x) (hv : jx i = true) (hid : id < 4) (hc : 0 ≤ clock) (hk : jM i.op = true → eg x.cs = true) : sP W0 243 [pV sb] (ej sb i rb cb clock x id R) (fun v B => ∃ f, v = .func (.func f) #[pV sb] #[] ∧ B = ej sb i rb cb clock x id R ∧ Bz W0 sb i rb cb clock x id f (mr id clock.toNat i x)) := by
 obtain ⟨h1, hd, ha, hb, him⟩ := xh hv
 refine ab func243 ntmps243 ?_
 refine ag (fun c2 => ?_) fun c2 => ?_
 refine a8 ?_
 refine ⟨_, ⟨_, rfl, rfl, m7 W0 sb i rb cb clock x id call315 ?_ fun R => XB W0 R sb i rb cb clock x id hx hd ha hb (by omega)⟩, IO⟩
 rw [mr, Qaf (by omega)]
 refine ag (fun c4 => ?_) fun c4 => ?_
 refine a8 ?_
 refine ⟨_, ⟨_, rfl, rfl, m7 W0 sb i rb cb clock x id call316 ?_ fun R => XC W0 R sb i rb cb clock x id hx hd ha (by omega)⟩, IO⟩
 rw [mr, Qac (by omega), Qaf (by omega)]
 refine ag (fun c6 => ?_) fun c6 => ?_
 refine a8 ?_
 refine ⟨_, ⟨_, rfl, rfl, m7 W0 sb i rb cb clock x id call317 ?_ fun R => XD W0 R sb i rb cb clock x id hx hd⟩, IO⟩
 rw [mr, Qac (by omega), Qac (by omega), Qaf (by omega)]
 refine ag (fun c8 => ?_) fun c8 => ?_
 refine a8 ?_
 refine ⟨_, ⟨_, rfl, rfl, m7 W0 sb i rb cb clock x id (o' := (sY i x, x)) call318 ?_ fun R => XE W0 R sb i rb cb clock x id hx ha hb (by omega)⟩, IO⟩
 rw [mr, Qac (by omega), Qac (by omega), Qac (by omega), Qaf (by omega)]
 refine ag (fun c10 => ?_) fun c10 => ?_
 refine a8 ?_
 refine ⟨_, ⟨_, rfl, rfl, m7 W0 sb i rb cb clock x id call319 ?_ fun R => XF W0 R sb i rb cb clock x id hx ha hb (by omega)⟩, IO⟩
 rw [mr, Qac (by omega), Qac (by omega), Qac (by omega), Qac (by omega), Qaf (by omega)]
 refine ag (fun c12 => ?_) fun c12 => ?_
 refine a8 ?_
 refine ⟨_, ⟨_, rfl, rfl, m7 W0 sb i rb cb clock x id call320 ?_ fun R => XG W0 R sb i rb cb clock x id hx hd ha⟩, IO⟩
 rw [mr, Qac (by omega), Qac (by omega), Qac (by omega), Qac (by omega), Qac (by omega), Qaf (by omega)]
 refine am rfl (dQ call321 (XL W0 _ sb i rb cb clock x id hH hx hv hid hc (by omega) hk)) ?_
 rintro _ B_ ⟨f, rfl, hB_, hf⟩
 obtain rfl := hB_.symm
 rw [show nv id clock.toNat i x = mr id clock.toNat i x by rw [mr, Qac (by omega), Qac (by omega), Qac (by omega), Qac (by omega), Qac (by omega), Qac (by omega)]] at hf
 refine aw ?_
 refine a8 ?_
 exact ⟨_, ⟨f, rfl, rfl, hf⟩, IO⟩
theorem XM {W0 : World} {R : List HP} (cb : Nat) (cs : List Nat) (id : Nat) (h : CsOk cs) (hid : id < 4) : sQ W0 239 [pV cb] (pt cb (dh cs id) :: R) (.bool false) (pt cb (dh cs id) :: R) := by
 refine ab func239 ntmps239 ?_
 refine ac (ah call313 (GO cb h hid 0 (by decide) 0 (by decide))) ?_
 refine a8 ?_
 refine aE ?_
 cases eg cs <;> rfl
theorem BB (hH : ∀ A, aT (aB W0 A) 0 0 iL) (hx : CpOk x) (hv : jx i = true) (hid : id < 4) (hc : 0 ≤ clock) : sQ W0 167 [.agg (rQ i).toArray, pV rb, pV cb, iQ clock] (pt rb (d8 x.rl x.pc) :: pt cb (dh x.cs id) :: R) (.tuple #[.agg (d9 (lU id clock.toNat i x).1).toArray, iQ 0]) (pt rb (d8 (lU id clock.toNat i x).2.rl (lU id clock.toNat i x).2.pc) :: pt cb (dh (lU id clock.toNat i x).2.cs id) :: R) := by
 obtain ⟨kb, hkb⟩ : ∃ k, eg x.cs = k := ⟨_, rfl⟩
 obtain ⟨ki, hki⟩ : ∃ k, jM i.op = k := ⟨_, rfl⟩
 have hz : ∀ z : Bool, (z && false) = false := fun z => by cases z <;> rfl
 rw [lU, hkb, hki]
 refine ab func167 ntmps167 ?_
 refine aS fun b4 => ?_
 refine bu fun b8 => ?_
 refine ac (ah call140 (FX rb x.rl x.pc 0 hx.r.len (by decide))) ?_
 refine ag (fun c2 => ?_) fun c2 => ?_
 exact absurd rfl c2
 refine ac (ah call109 (GP cb hx.cs)) ?_
 refine a6 (uC kF bF Cf rfl) ?_
 refine a6 (si Tryz.eqGuardType102 rfl rfl (xJ (i := Tryz.t46) (ms := x.cs.map Int.ofNat) (ns := [0, 0, 0, 0, 0, 0, 0]) kF (by kernel_rfl) (by kernel_rfl) qu l8 (by rw [QbY]; rfl) rfl (by rw [Qax]; exact hx.cs.len) rfl)) ?_
 refine cM (fun g4_5 => ?_) fun g4_5 => ?_
 refine dK 3 (ah call239 (XM cb x.cs id hx.cs hid)) ?_
 refine aA rfl (fun c4 => ?_) fun c4 => ?_
 first | exact absurd c4 (by decide) | (cases c4)
 refine aw ?_
 refine ac (ao Cz (yq hH i)) ?_
 refine aA rfl (fun c6 => ?_) fun c6 => ?_
 rw [hv] at c6; exact absurd c6 (by decide)
 refine aw ?_
 refine ac (ao call240 (H5 i.op)) ?_
 rw [hki]
 refine cM (fun g8_4 => ?_) fun g8_4 => ?_
 refine ac (ah wt (tI cb hx.cs)) ?_
 rw [show rP x.cs = [.bool (jK x.cs), iQ (jL x.cs), .bool (!kb)] by rw [rP, hkb]]
 refine a6 (FU rfl Cc rfl md rfl) ?_
 refine ag (fun c8 => ?_) fun c8 => ?_
 refine ac (ao Ja (BA hH i hv)) ?_
 refine ac (ao wq (tK 7 (oB i))) ?_
 refine ax aC ?_
 refine bi (.cons (bD gm fD rfl rfl) (.cons (bz rfl) .nil)) ?_
 rw [Qaf (by grind)]
 exact aj
 have hnk : jM i.op = true → eg x.cs = true := fun q => by
  rw [hki] at q
  rw [hkb]
  first | (simpa using c8) | (subst q; exact absurd rfl g8_4) | exact absurd q g8_4
 have hno : (ki && !kb) = false := by
  grind
 rw [hno, Qac (by decide)]
 refine a6 (fw z3 CC (aM nV (aM qo (aM qp (aM aO fq)))) (iP rfl nV rfl rfl (Qaa rfl) SetRL.eq (cQ rfl qo rfl rfl (Qaa rfl) SetL.eq (cQ rfl qp rfl rfl (Qaa rfl) SetL.eq (cQ rfl aO rfl rfl (Qaa rfl) SetL.eq fp))))) ?_
 refine aS fun sb => ?_
 refine am rfl (dQ CE (yt W0 _ sb i rb cb clock x id hH hx hv hid hc hnk)) ?_
 rintro _ B_ ⟨f, rfl, hB_, hf⟩
 obtain rfl := hB_.symm
 refine aw ?_
 refine ac (ix pB (gx (us := [pV sb]) (cs := []) rfl hf.1 rfl (hf.2 _))) ?_
 refine ax aC ?_
 exact bi (.cons (bD gm fD rfl rfl) (.cons (bz rfl) .nil)) aj
 have hnk : jM i.op = true → eg x.cs = true := fun q => by
  rw [hki] at q
  rw [hkb]
  first | (simpa using c8) | (subst q; exact absurd rfl g8_4) | exact absurd q g8_4
 have hno : (ki && !kb) = false := by
  grind
 rw [hno, Qac (by decide)]
 refine a6 (fw z3 CC (aM nV (aM qo (aM qp (aM aO fq)))) (iP rfl nV rfl rfl (Qaa rfl) SetRL.eq (cQ rfl qo rfl rfl (Qaa rfl) SetL.eq (cQ rfl qp rfl rfl (Qaa rfl) SetL.eq (cQ rfl aO rfl rfl (Qaa rfl) SetL.eq fp))))) ?_
 refine aS fun sb => ?_
 refine am rfl (dQ CE (yt W0 _ sb i rb cb clock x id hH hx hv hid hc hnk)) ?_
 rintro _ B_ ⟨f, rfl, hB_, hf⟩
 obtain rfl := hB_.symm
 refine aw ?_
 refine ac (ix pB (gx (us := [pV sb]) (cs := []) rfl hf.1 rfl (hf.2 _))) ?_
 refine ax aC ?_
 exact bi (.cons (bD gm fD rfl rfl) (.cons (bz rfl) .nil)) aj
 refine ac (ao Cz (yq hH i)) ?_
 refine aA rfl (fun c6 => ?_) fun c6 => ?_
 rw [hv] at c6; exact absurd c6 (by decide)
 refine aw ?_
 refine ac (ao call240 (H5 i.op)) ?_
 rw [hki]
 refine cM (fun g8_4 => ?_) fun g8_4 => ?_
 refine ac (ah wt (tI cb hx.cs)) ?_
 rw [show rP x.cs = [.bool (jK x.cs), iQ (jL x.cs), .bool (!kb)] by rw [rP, hkb]]
 refine a6 (FU rfl Cc rfl md rfl) ?_
 refine ag (fun c8 => ?_) fun c8 => ?_
 refine ac (ao Ja (BA hH i hv)) ?_
 refine ac (ao wq (tK 7 (oB i))) ?_
 refine ax aC ?_
 refine bi (.cons (bD gm fD rfl rfl) (.cons (bz rfl) .nil)) ?_
 rw [Qaf (by grind)]
 exact aj
 have hnk : jM i.op = true → eg x.cs = true := fun q => by
  rw [hki] at q
  rw [hkb]
  first | (simpa using c8) | (subst q; exact absurd rfl g8_4) | exact absurd q g8_4
 have hno : (ki && !kb) = false := by
  grind
 rw [hno, Qac (by decide)]
 refine a6 (fw z3 CC (aM nV (aM qo (aM qp (aM aO fq)))) (iP rfl nV rfl rfl (Qaa rfl) SetRL.eq (cQ rfl qo rfl rfl (Qaa rfl) SetL.eq (cQ rfl qp rfl rfl (Qaa rfl) SetL.eq (cQ rfl aO rfl rfl (Qaa rfl) SetL.eq fp))))) ?_
 refine aS fun sb => ?_
 refine am rfl (dQ CE (yt W0 _ sb i rb cb clock x id hH hx hv hid hc hnk)) ?_
 rintro _ B_ ⟨f, rfl, hB_, hf⟩
 obtain rfl := hB_.symm
 refine aw ?_
 refine ac (ix pB (gx (us := [pV sb]) (cs := []) rfl hf.1 rfl (hf.2 _))) ?_
 refine ax aC ?_
 exact bi (.cons (bD gm fD rfl rfl) (.cons (bz rfl) .nil)) aj
 have hnk : jM i.op = true → eg x.cs = true := fun q => by
  rw [hki] at q
  rw [hkb]
  first | (simpa using c8) | (subst q; exact absurd rfl g8_4) | exact absurd q g8_4
 have hno : (ki && !kb) = false := by
  grind
 rw [hno, Qac (by decide)]
 refine a6 (fw z3 CC (aM nV (aM qo (aM qp (aM aO fq)))) (iP rfl nV rfl rfl (Qaa rfl) SetRL.eq (cQ rfl qo rfl rfl (Qaa rfl) SetL.eq (cQ rfl qp rfl rfl (Qaa rfl) SetL.eq (cQ rfl aO rfl rfl (Qaa rfl) SetL.eq fp))))) ?_
 refine aS fun sb => ?_
 refine am rfl (dQ CE (yt W0 _ sb i rb cb clock x id hH hx hv hid hc hnk)) ?_
 rintro _ B_ ⟨f, rfl, hB_, hf⟩
 obtain rfl := hB_.symm
 refine aw ?_
 refine ac (ix pB (gx (us := [pV sb]) (cs := []) rfl hf.1 rfl (hf.2 _))) ?_
 refine ax aC ?_
 exact bi (.cons (bD gm fD rfl rfl) (.cons (bz rfl) .nil)) aj
end
def qf (r : Int) (a0 a1 a2 : Bool) : Int :=
  let x0 := eU .i64 r 8
  let x1 := if eU .i64 r 4 ≠ 0 ∧ a0 = true then jn .i64 x0 4 else x0
  let x2 := if eU .i64 r 1 ≠ 0 ∧ a1 = true then jn .i64 x1 1 else x1
  if eU .i64 r 2 ≠ 0 ∧ a2 = true then jn .i64 x2 2 else x2
theorem XN (pg : List Pl) (r p : Int) : fC pg r p 3 = qf r (decide (gy pg p 0 = 0)) (decide (gy pg p 1 = 0)) (decide (gy pg p 2 = 0)) := by
 grind [fC, qf, nL]
theorem XO : ∀ n : Nat, n < 16 → ∀ a0 a1 a2 : Bool, (0 ≤ qf (n : Int) a0 a1 a2 ∧ qf (n : Int) a0 a1 a2 < 16) ∧ (dY (qf (n : Int) a0 a1 a2) 1 = true → dY (n : Int) 1 = true ∧ a1 = true) ∧ (dY (qf (n : Int) a0 a1 a2) 2 = true → dY (n : Int) 2 = true ∧ a2 = true) ∧ (dY (qf (n : Int) a0 a1 a2) 4 = true → dY (n : Int) 4 = true ∧ a0 = true) ∧ (dY (qf (n : Int) a0 a1 a2) 8 = true → dY (n : Int) 8 = true) := by
 decide +kernel
theorem XP (pg : List Pl) (n : Nat) (hn : n < 16) (p : Int) : (0 ≤ fC pg (n : Int) p 3 ∧ fC pg (n : Int) p 3 < 16) ∧ (∀ k, ml k = true → dY (fC pg (n : Int) p 3) (iV k) = true → gy pg p k = 0) ∧ ∀ c, c = 1 ∨ c = 2 ∨ c = 4 ∨ c = 8 → dY (fC pg (n : Int) p 3) c = true → dY (n : Int) c = true := by
 obtain ⟨h0, h1, h2, h4, h8⟩ := XO n hn (decide (gy pg p 0 = 0)) (decide (gy pg p 1 = 0)) (decide (gy pg p 2 = 0))
 rw [XN]
 refine ⟨h0, fun k hk hb => ?_, fun c hc hb => ?_⟩
 have hk := Qas hk
 rcases hk with rfl | rfl | rfl
 exact Qas (h4 hb).2
 exact Qas (h1 hb).2
 exact Qas (h2 hb).2
 grind
theorem XQ {a b : Nat} (h : a / 64 = b / 64) : a / 1024 = b / 1024 := by omega
theorem XR {fr : List ap} {pg : List Pl} {root : Int} {va va' : Nat} (h : WkOkM fr pg root va) (hv : va' < 16384) (he : va' / 64 = va / 64) : bO fr pg root va' = bO fr pg root va ∧ eZ fr pg va' root = eZ fr pg va root := by
 have hu := XQ he
 have e1 : eZ fr pg va' root = eZ fr pg va root := by grind [eZ]
 have e2 : iW fr pg va' root = iW fr pg va root := by grind [iW]
 have e3 : ∀ s, km fr pg va' root s = km fr pg va root s := fun s => by unfold km; rw [hu]
 refine ⟨?_, e1⟩
 rw [bO, bO, Qaf hv, Qaf h.lim, e2, h.rb, Qaf rfl, Qaf rfl]
 simp only [eL]
 rw [e1, e3]
 unfold ou
 rw [he]
theorem XS {fr : List ap} {pg : List Pl} {root : Int} {va : Nat} (h : WkOkM fr pg root va) (hp : aX pg (bO fr pg root va).p = true) :
    LOk fr pg 0 ⟨d6 root va, ((bO fr pg root va).p, (cy pg (bO fr pg root va).p).1, fC pg (bO fr pg root va).r (bO fr pg root va).p 3), (bO fr pg root va).root, (bO fr pg root va).leaf⟩ := by
 obtain ⟨s, hs⟩ : ∃ s, bO fr pg root va = s := ⟨_, rfl⟩
 have he := h.eq
 rw [hs] at he hp ⊢
 have hn : ∃ n : Nat, s.r = (n : Int) ∧ n < 16 := ⟨oe (eC fr pg (eZ fr pg va root) (va / 64)), by rw [he], by unfold oe; split; decide; exact DJ _⟩
 obtain ⟨n, hn, hn16⟩ := hn
 obtain ⟨g1, g2, g3⟩ := XP pg n hn16 s.p
 rw [← hn] at g1 g2 g3
 have hon : s.on = true := by
  rw [he]
  have hl := h.lf
  unfold oj at hl
  show od _ = true
  unfold od
  split at hl
  omega
  grind [sJ]
 have hrt : s.root = root := by rw [he]
 have hlf : s.leaf = eZ fr pg va root := by rw [he]
 refine ⟨⟨?_, ?_⟩, ⟨hp, rfl⟩, g2, g1, fun _ _ va' hv hk => ?_⟩
 show 0 ≤ s.root ∧ s.root < 8
 rw [hrt]; exact (re.1 (yj.1 h.rb).1).1
 show 0 ≤ s.leaf ∧ s.leaf < 8
 rw [hlf]; exact (re.1 h.lt).1
 have hk' : va' / 64 = va / 64 := by
  have : ((va' / 64 : Nat) : Int) = ((va / 64 : Nat) : Int) := hk
  omega
 obtain ⟨e1, e2⟩ := XR h hv hk'
 show WkOkM fr pg root va' ∧ root = s.root ∧ eZ fr pg va' root = s.leaf ∧ (bO fr pg root va').on = true ∧ (bO fr pg root va').p = s.p ∧ ∀ c, c = 1 ∨ c = 2 ∨ c = 4 ∨ c = 8 → dY (fC pg s.r s.p 3) c = true → dY (bO fr pg root va').r c = true
 rw [e1, e2, hs]
 refine ⟨yk (by grind), hrt.symm, hlf.symm, hon, rfl, fun c hc hb => ?_⟩
 exact g3 c hc hb
theorem MOk.fill {fr : List ap} {pg : List Pl} {L : List Ln} {T T' : List It} (h : MOk fr pg 0 L T) {k : cF} {e : ib} {r l : Int} (room now : Nat) (hz : LOk fr pg 0 ⟨k, e, r, l⟩)
    (hT : ∀ y ∈ T', y ∈ je room now k (jf k e r l L).e (gj (jT L r l) T) ∧ (j0 y.key (jU k e r l L)).isSome = true) : MOk fr pg 0 (jU k e r l L) T' := by
 refine ⟨h.F, by decide, h.P, h.pl, (h.ti.fill k e r l room now).sub' fun y hy => QaL.2 (hT y hy), fun x hx => ?_⟩
 rw [Be k e r l L h.ti.len] at hx
 rcases Qbc.1 hx with q | q
 obtain ⟨z, hz2, rfl⟩ := Qbm.1 q
 have := h.ln z (Bc hz2).1
 unfold d4; split
 exact this.nar
 exact this
 obtain rfl : x = jf k e r l L := by simpa using q
 rcases Bf k e r l L with z | z
 grind
 rw [z]; exact hz.nar
theorem XT {its T : List It} {now : Nat} (l : List Int) : ∀ {its T : List It}, Rep its now T → Rep (gj l its) now (gj l T) := by
 induction l with
 | nil => exact fun h => h
 | cons p l ih => exact fun h => ih (h.nar p)
theorem H9 (l : List Int) : ∀ T : List It, (gj l T).length = T.length := by
 induction l with
 | nil => exact fun _ => rfl
 | cons p l ih => exact fun T => (ih _).trans (Qax _)
theorem XU (l : List Int) (p : Int) (T : List It) : gj (l ++ [p]) T = (gj l T).map (gZ p) := by simp [gj, List.foldl_append]
theorem XV (l : List Int) : ∀ {T : List It}, (∀ y ∈ T, i64 y.er) → ∀ y ∈ gj l T, i64 y.er := by
 induction l with
 | nil => exact fun h => h
 | cons p l ih =>
  intro T h
  refine ih fun y hy => ?_
  obtain ⟨z, hz, rfl⟩ := Qbm.1 hy
  exact VE (h z hz)
theorem MOk.er {fr : List ap} {pg : List Pl} {d : Nat} {L : List Ln} {T : List It} (h : MOk fr pg d L T) {its : List It} {now : Nat} (hR : Rep its now T) : ∀ y ∈ its, i64 y.er := fun y hy => by
 obtain ⟨x, hx, _, e⟩ := h.ti.sub y (hR.perm.mem_iff.1 hy)
 have := (h.ln x hx).r
 have e2 : y.er = x.e.2.2 := by rw [e]; rfl
 rw [e2]
 exact ⟨by omega, by omega⟩
theorem MOk.ei {fr : List ap} {pg : List Pl} {d : Nat} {L : List Ln} {T : List It} (h : MOk fr pg d L T) : ∀ x ∈ L, i64 x.e.2.2 := fun x hx => by
 have := (h.ln x hx).r
 exact ⟨by omega, by omega⟩
theorem XW (W0 : World) (R : List HP) (hK : ∀ A, aT (aB W0 A) 1 0 fX) (ba bm pv bt bs ps pm : Nat) (on : Bool) (root : Int) (user : Bool) (va : Nat) (hva : va < 4294967296) (kind : Int) (its : List It) (room now : Nat) (T : List It) (L : List Ln) (fr : List ap) (pg : List Pl) (hR : Rep its now T) (hT : T.length ≤ room) (hr : room ≤ 4) (hn : now < 1000000) (h : MOk fr pg 0 L T) (hw : WkOkM fr pg root va) (hp : aX pg (bO fr pg root va).p = true) (o : Int) (fast : Bool) : sP W0 349 [pQ ba, .agg #[iQ (bO fr pg root va).p, iQ (cy pg (bO fr pg root va).p).1, iQ o, .bool fast]] (pt ba (gC bm on root user va kind) :: pt bm (cN pv bt bs) :: aJ bt (its, d3 room now) :: bG bs L :: dZ pv ps pm 0 fr pg R) (fun v B => v = .tuple #[] ∧ ∃ its' T' L' now', Rep its' now' T' ∧ T'.length ≤ room ∧ MOk fr pg 0 L' T' ∧ now' ≤ now + 1 ∧ (∃ x ∈ L', x.k = d6 root va ∧ (x.e.2.2 = fC pg (bO fr pg root va).r (bO fr pg root va).p 3 ∨ x.e.2.2 = fk (fC pg (bO fr pg root va).r (bO fr pg root va).p 3))) ∧ B = pt ba (gC bm on root user va kind) :: pt bm (cN pv bt bs) :: aJ bt (its', d3 room now') :: bG bs L' :: dZ pv ps pm 0 fr pg R) := by
 have hfo := XS hw hp
 obtain ⟨s, hs⟩ : ∃ s, bO fr pg root va = s := ⟨_, rfl⟩
 rw [hs] at hfo hp ⊢
 obtain ⟨f, hf⟩ : ∃ f, (cy pg s.p).1 = f := ⟨_, rfl⟩
 obtain ⟨gv, hgv⟩ : ∃ g, fC pg s.r s.p 3 = g := ⟨_, rfl⟩
 rw [hf, hgv] at hfo
 rw [hf, hgv]
 have hei : i64 gv := by
  have : 0 ≤ gv ∧ gv < 16 := hfo.r
  exact ⟨by omega, by omega⟩
 have ho1 : rK s.root = true := Qak hfo.own.1
 have ho2 : rK s.leaf = true := Qak hfo.own.2
 have hll := h.ti.len
 have hti := h.ti.fill (d6 root va) (s.p, f, gv) s.root s.leaf room now
 have hgn : j0 (d6 root va) (jU (d6 root va) (s.p, f, gv) s.root s.leaf L) = some (jf (d6 root va) (s.p, f, gv) s.root s.leaf L) := by
  have hm : jf (d6 root va) (s.p, f, gv) s.root s.leaf L ∈ jU (d6 root va) (s.p, f, gv) s.root s.leaf L := by grind [Be]
  have := rJ hti.keys hm
  rwa [yg] at this
 have hfl := fun T' q => h.fill (T' := T') room now hfo q
 have hze : (jf (d6 root va) (s.p, f, gv) s.root s.leaf L).e.2.2 = gv ∨ (jf (d6 root va) (s.p, f, gv) s.root s.leaf L).e.2.2 = fk gv := by
  rcases Bf (d6 root va) (s.p, f, gv) s.root s.leaf L with q | q
  grind
  rw [q]; exact .inr rfl
 obtain ⟨L2, hL2⟩ : ∃ l, jU (d6 root va) (s.p, f, gv) s.root s.leaf L = l := ⟨_, rfl⟩
 obtain ⟨z, hz⟩ : ∃ z, jf (d6 root va) (s.p, f, gv) s.root s.leaf L = z := ⟨_, rfl⟩
 obtain ⟨fs, hfs⟩ : ∃ l, jT L s.root s.leaf = l := ⟨_, rfl⟩
 rw [hL2, hz] at hgn
 rw [hz] at hze
 have hzm := tD hgn
 rw [hL2, hz, hfs] at hfl
 rw [hL2] at hti
 have hl2 := hti.len
 have hfn : fs.length ≤ 2 := by
  grind [jT]
 have hRn := fun l => XT (its := its) (T := T) l hR
 have hNl := fun l => H9 l its
 have hNt := fun l => H9 l T
 have hNi := fun l => XV l (h.er hR)
 have hil := hR.length
 refine ab func349 ntmps349 ?_
 refine dX (i3 rfl) fun b3 => ?_
 refine au 11 ?_
 refine dO (fun b5 : Nat => True) (fun b5 => [(0, pQ ba), (3, pQ b3), (4, pQ bm), (5, pQ b5)]) (fun b5 => pt b3 (a7 [iQ s.p, iQ f, iQ o, .bool fast] 245) :: pt b5 (a7 (pH s) 402) :: pt ba (gC bm on root user va kind) :: pt bm (cN pv bt bs) :: aJ bt (its, d3 room now) :: bG bs L :: dZ pv ps pm 0 fr pg R) ?_ ?_
 refine bB [ba, bm] 16 fun hS => ?_
 refine ae 0 13 hS ?_
 refine eG (is := [13, 14]) (by kernel_rfl) rfl ⟨?_, ?_, trivial⟩
 refine di (dQ IG (Ag pv ps pm 0 fr pg h.P h.F root va hva)) ?_; clear hS
 rintro _ B_ ⟨rfl, hB_⟩
 subst hB_
 rw [hs]
 refine ⟨aK, fun hS => ?_⟩
 refine cg 14 (dt Ch) ?_; clear hS
 rintro _ _ ⟨b5, rfl, rfl⟩
 refine ⟨aK, fun hS => ?_⟩
 refine cq 15 aC fun hS => ?_
 refine aI ?_
 exact cu b5 trivial
 skip
 refine di (dt Ch) ?_; clear hS
 rintro _ _ ⟨b5, rfl, rfl⟩
 refine ⟨aK, fun hS => ?_⟩
 refine cg 13 (dQ IG (Ag pv ps pm 0 fr pg h.P h.F root va hva)) ?_; clear hS
 rintro _ B_ ⟨rfl, hB_⟩
 subst hB_
 rw [hs]
 refine ⟨aK, fun hS => ?_⟩
 refine cq 15 aC fun hS => ?_
 refine aI ?_
 exact cu b5 trivial
 intro b5 _
 refine dO (fun b6 : Nat => True) (fun b6 => [(0, pQ ba), (3, pQ b3), (4, pQ bm), (5, pQ b5), (6, pQ b6)]) (fun b6 => pt b6 (a7 [iQ s.p, iQ f, iQ gv] 385) :: pt b5 (a7 (pH s) 402) :: pt ba (gC bm on root user va kind) :: pt bm (cN pv bt bs) :: aJ bt (its, d3 room now) :: bG bs L :: dZ pv ps pm 0 fr pg R) ?_ ?_
 refine bB [b3, b5] 11 fun hS => ?_
 refine ae 0 6 hS ?_
 refine av 6 hS (cJ (rL (us := [.bool s.on, iQ s.r, iQ s.p]) (ws := [iQ s.fault, iQ s.root, iQ s.leaf]) (gr (k := 1) rfl) rfl)) ?_
 refine eG (is := [7, 9]) (by kernel_rfl) rfl ⟨?_, ?_, trivial⟩
 refine di (dQ call387 (GK hK bm pv bt bs ps pm 0 s.on s.r s.p pg h.P)) ?_; clear hS
 rintro _ B_ ⟨rfl, hB_⟩
 subst hB_
 rw [hgv]
 refine ⟨aK, fun hS => ?_⟩
 refine ae 8 1 hS ?_
 refine cg 9 (dt lJ) ?_; clear hS
 rintro _ _ ⟨b6, rfl, rfl⟩
 refine ⟨aK, fun hS => ?_⟩
 refine cq 10 aC fun hS => ?_
 refine aI ?_
 exact cu b6 trivial
 skip
 refine di (dt lJ) ?_; clear hS
 rintro _ _ ⟨b6, rfl, rfl⟩
 refine ⟨aK, fun hS => ?_⟩
 refine cg 7 (dQ call387 (GK hK bm pv bt bs ps pm 0 s.on s.r s.p pg h.P)) ?_; clear hS
 rintro _ B_ ⟨rfl, hB_⟩
 subst hB_
 rw [hgv]
 refine ⟨aK, fun hS => ?_⟩
 refine ae 8 1 hS ?_
 refine cq 10 aC fun hS => ?_
 refine aI ?_
 exact cu b6 trivial
 intro b6 _
 refine aw ?_
 refine bB [bm, ba, b6, b5] 17 fun hS => ?_
 refine ae 0 5 hS ?_
 refine ae 6 5 hS ?_
 refine bJ 5 (ah mf (lE ba bm on root user va hva kind)) fun hS => ?_
 refine cg 11 (ah call388 (Wy bs L hll h.ei (d6 root va) (s.p, f, gv) hei s.root s.leaf ho1 ho2)) ?_; clear hS
 rintro _ B_ ⟨af, cf, rfl, hB_⟩
 subst hB_
 rw [hL2, hfs]
 refine ⟨aK, fun hS => ?_⟩
 refine ae 12 5 hS ?_
 refine aI ?_
 refine ag (fun c5 => ?_) fun c5 => ?_
 exact absurd rfl c5
 refine fQ (fun i : Nat => i ≤ fs.length) (fun i => [(0, pQ ba), (4, pQ bm), (57, .slice af fs.length cf), (58, iQ (fs.length : Nat)), (59, iQ i)]) (fun i => pt ba (gC bm on root user va kind) :: pt bm (cN pv bt bs) :: aJ bt (gj (fs.take i) its, d3 room now) :: bG bs L2 :: osl 3 1 (.slice af fs.length cf) (fs.flatMap iI) :: dZ pv ps pm 0 fr pg R) (fun i => fs.length - i) 0 ?_ ?_ ?_ ?_
 omega
 · repeat (first | exact ci | refine bQ rfl ?_)
 rw [show gj (fs.take 0) its = its from rfl]
 exact IO
 intro i hi
 refine aw ?_
 refine ag (fun c7 => ?_) fun c7 => ?_
 have hi1 : i < fs.length := by omega
 refine ke (E := 3) (sz := 1) (a := af) (c := cf) (n := fs.length) iI fs (fun _ => rfl) (by decide) rfl (fun hs => ?_)
 obtain ⟨g, o, hga, hc⟩ := hs.at_ hi1
 obtain ⟨q, hq⟩ : ∃ q, fs[i] = q := ⟨_, rfl⟩
 have htk : fs.take (i + 1) = fs.take i ++ [q] := by rw [Qan hi1, hq]
 have hNs : gj (fs.take (i + 1)) its = (gj (fs.take i) its).map (gZ q) := by rw [htk, XU]
 have hN1 := hNl (fs.take i)
 have hN2 := hNi (fs.take i)
 rw [hq] at hc
 refine aw ?_
 refine a6 (dH fe aO rfl hga rfl rfl hi1 (by first | exact Qab _ | rfl)) ?_
 refine a6 (aG (aT.weak hc 0 _ rfl)) ?_
 refine ac (ah call389 (VH bt (gj (fs.take i) its) (iQ room) (iQ now) q (by omega) hN2)) ?_
 refine a6 bS ?_
 refine bE (i + 1) ?_ (he := ?_)
 omega
 rw [hNs]
 exact IO
 obtain rfl : i = fs.length := by omega
 have hR3 := hRn (fs.take fs.length)
 have hN3 := hNt (fs.take fs.length)
 rw [QbR] at hR3 hN3 ⊢
 refine bB [bm, ba] 13 fun hS => ?_
 refine ae 0 5 hS ?_
 refine eG (is := [5, 10]) (by kernel_rfl) rfl ⟨?_, ?_, trivial⟩
 refine di (ah mf (lE ba bm on root user va hva kind)) ?_; clear hS
 rintro _ B_ ⟨rfl, hB_⟩
 obtain rfl := hB_.symm
 refine ⟨aK, fun hS => ?_⟩
 refine eG (is := [6, 10]) (by kernel_rfl) rfl ⟨?_, ?_, trivial⟩
 refine di (ah se (qd bs L2 (by omega) (d6 root va))) ?_; clear hS
 rintro _ B_ ⟨rfl, hB_⟩
 subst hB_
 rw [qe, hgn]
 refine ⟨aK, fun hS => ?_⟩
 refine ae 7 3 hS ?_
 refine cg 10 (dt lJ) ?_; clear hS
 rintro _ _ ⟨b11, rfl, rfl⟩
 refine ⟨aK, fun hS => ?_⟩
 refine cq 11 aC fun hS => ?_
 refine ae 12 1 hS ?_
 refine fy ?_
 refine aw ?_
 refine ag (fun c12 => ?_) fun c12 => ?_
 refine bB [bm, ba, b11] 8 fun hS => ?_
 refine ae 0 5 hS ?_
 refine ae 6 1 hS ?_
 refine bJ 5 (ah mf (lE ba bm on root user va hva kind)) fun hS => ?_
 refine cg 7 (ah wm (tA bt (gj fs its) room now (gj fs T) (d6 root va) z.e hR3 (by omega) hr hn)) ?_; clear hS
 rintro _ B_ ⟨rfl, its2, hB_, hR2⟩
 subst hB_
 have hpl := tz (now := now) (k := d6 root va) (e := z.e) (show (gj fs T).length ≤ room by omega)
 refine ⟨aK, fun hS => ?_⟩
 refine aI ?_
 refine am rfl (dQ Jb (Bp bm pv bt bs its2 (iQ room) (iQ ((now + 1 : Nat) : Int)) (now + 1) room _ L2 hR2 hpl hr hl2)) ?_
 rintro _ B_ ⟨rfl, its3, T3, hB_, hR4, hT4, hI4⟩
 subst hB_
 refine aw ?_
 refine bM (.inr rfl) .nil ?_
 exact ⟨_, ⟨rfl, its3, T3, L2, now + 1, hR4, hT4, hfl T3 hI4, by omega, ⟨z, hzm.1, hzm.2, hze⟩, rfl⟩, IO⟩
 exact absurd rfl c12
 skip
 refine di (dt lJ) ?_; clear hS
 rintro _ _ ⟨b11, rfl, rfl⟩
 refine ⟨aK, fun hS => ?_⟩
 refine cg 6 (ah se (qd bs L2 (by omega) (d6 root va))) ?_; clear hS
 rintro _ B_ ⟨rfl, hB_⟩
 subst hB_
 rw [qe, hgn]
 refine ⟨aK, fun hS => ?_⟩
 refine ae 7 3 hS ?_
 refine cq 11 aC fun hS => ?_
 refine ae 12 1 hS ?_
 refine fy ?_
 refine aw ?_
 refine ag (fun c12 => ?_) fun c12 => ?_
 refine bB [bm, ba, b11] 8 fun hS => ?_
 refine ae 0 5 hS ?_
 refine ae 6 1 hS ?_
 refine bJ 5 (ah mf (lE ba bm on root user va hva kind)) fun hS => ?_
 refine cg 7 (ah wm (tA bt (gj fs its) room now (gj fs T) (d6 root va) z.e hR3 (by omega) hr hn)) ?_; clear hS
 rintro _ B_ ⟨rfl, its2, hB_, hR2⟩
 subst hB_
 have hpl := tz (now := now) (k := d6 root va) (e := z.e) (show (gj fs T).length ≤ room by omega)
 refine ⟨aK, fun hS => ?_⟩
 refine aI ?_
 refine am rfl (dQ Jb (Bp bm pv bt bs its2 (iQ room) (iQ ((now + 1 : Nat) : Int)) (now + 1) room _ L2 hR2 hpl hr hl2)) ?_
 rintro _ B_ ⟨rfl, its3, T3, hB_, hR4, hT4, hI4⟩
 subst hB_
 refine aw ?_
 refine bM (.inr rfl) .nil ?_
 exact ⟨_, ⟨rfl, its3, T3, L2, now + 1, hR4, hT4, hfl T3 hI4, by omega, ⟨z, hzm.1, hzm.2, hze⟩, rfl⟩, IO⟩
 exact absurd rfl c12
 skip
 refine di (dt lJ) ?_; clear hS
 rintro _ _ ⟨b11, rfl, rfl⟩
 refine ⟨aK, fun hS => ?_⟩
 refine bJ 5 (ah mf (lE ba bm on root user va hva kind)) fun hS => ?_
 refine cg 6 (ah se (qd bs L2 (by omega) (d6 root va))) ?_; clear hS
 rintro _ B_ ⟨rfl, hB_⟩
 subst hB_
 rw [qe, hgn]
 refine ⟨aK, fun hS => ?_⟩
 refine ae 7 3 hS ?_
 refine cq 11 aC fun hS => ?_
 refine ae 12 1 hS ?_
 refine fy ?_
 refine aw ?_
 refine ag (fun c12 => ?_) fun c12 => ?_
 refine bB [bm, ba, b11] 8 fun hS => ?_
 refine ae 0 5 hS ?_
 refine ae 6 1 hS ?_
 refine bJ 5 (ah mf (lE ba bm on root user va hva kind)) fun hS => ?_
 refine cg 7 (ah wm (tA bt (gj fs its) room now (gj fs T) (d6 root va) z.e hR3 (by omega) hr hn)) ?_; clear hS
 rintro _ B_ ⟨rfl, its2, hB_, hR2⟩
 subst hB_
 have hpl := tz (now := now) (k := d6 root va) (e := z.e) (show (gj fs T).length ≤ room by omega)
 refine ⟨aK, fun hS => ?_⟩
 refine aI ?_
 refine am rfl (dQ Jb (Bp bm pv bt bs its2 (iQ room) (iQ ((now + 1 : Nat) : Int)) (now + 1) room _ L2 hR2 hpl hr hl2)) ?_
 rintro _ B_ ⟨rfl, its3, T3, hB_, hR4, hT4, hI4⟩
 subst hB_
 refine aw ?_
 refine bM (.inr rfl) .nil ?_
 exact ⟨_, ⟨rfl, its3, T3, L2, now + 1, hR4, hT4, hfl T3 hI4, by omega, ⟨z, hzm.1, hzm.2, hze⟩, rfl⟩, IO⟩
 exact absurd rfl c12
theorem BC (k va : Nat) : (64 * k + va % 64) / 64 = k ∧ (64 * k + va % 64) % 64 = va % 64 := by omega
structure FnOk (fr : List ap) (pg : List Pl) (root : Int) (user : Bool) (va : Nat) (kind : Int) : Prop where
  wk : WkOkM fr pg root va
  th : aX pg (bO fr pg root va).p = true
  P : eM lS fr pg true root user va kind = (bO fr pg root va).p
  F : eM lr fr pg true root user va kind = (cy pg (bO fr pg root va).p).1
  O : eM lu fr pg true root user va kind = ((va % 64 : Nat) : Int)
theorem Ha {fr : List ap} {pg : List Pl} {root : Int} {user : Bool} {va : Nat} {kind : Int} (h : gB fr pg true root user va kind = 0) : FnOk fr pg root user va kind := by
 obtain ⟨s, hs⟩ : ∃ s, bO fr pg root va = s := ⟨_, rfl⟩
 obtain ⟨k, hk, hk32⟩ := xf fr pg root va
 unfold gB at h
 rw [Qaf rfl, hs] at h
 by_cases h1 : s.fault ≠ 0
 omega
 rw [Qac h1] at h
 by_cases h2 : nk s kind user = true
 case neg => rw [Qac h2] at h; exact absurd h (by decide)
 rw [Qaf h2] at h
 rw [hs] at hk
 have hpa : jJ s va = 64 * k + va % 64 := by rw [jJ, hk]; rfl
 obtain ⟨p1, p2⟩ := BC k va
 have hth : aX pg s.p = true := by
  grind [ee, gy]
 have hX : ∀ g, eM g fr pg true root user va kind = g fr.length pg (jJ s va) 1 kind := fun g => by
  unfold eM
  rw [Qaf rfl, hs, Qac h1, Qaf h2]
 refine ⟨yk (by grind), by rw [hs]; exact hth, ?_, ?_, ?_⟩
 grind [lS]
 grind [lr]
 grind [lu]
theorem XX {fr : List ap} {pg : List Pl} {L : List Ln} {T : List It} (h : MOk fr pg 0 L T) {x : Ln} (hx : x ∈ L) {root : Int} {user : Bool} {va : Nat} {kind : Int} (hv : va < 16384) (hk : x.k = d6 root va) (hm : jV x.e kind user = true) :
    gB fr pg true root user va kind = 0 ∧ eM lS fr pg true root user va kind = x.e.1 ∧ eM lr fr pg true root user va kind = x.e.2.1 ∧ eM lu fr pg true root user va kind = ((va % 64 : Nat) : Int) := by
 have hl := h.ln x hx
 obtain ⟨q1, q2, q3, q4, q5, q6⟩ := hl.wk (by simp) (by simp) va hv (by rw [hk]; rfl)
 have hr : x.k.1 = root := by rw [hk]; rfl
 rw [hr] at q1 q4 q5 q6
 obtain ⟨s, hs⟩ : ∃ s, bO fr pg root va = s := ⟨_, rfl⟩
 obtain ⟨k, hkk, hk32⟩ := xf fr pg root va
 have hf0 : s.fault = 0 := by rw [← hs, q1.eq]
 rw [hs] at q4 q5 q6 hkk
 have hpa : jJ s va = 64 * k + va % 64 := by grind [jJ]
 obtain ⟨p1, p2⟩ := BC k va
 have hep : x.e.1 = (k : Int) := by omega
 simp only [jV, Qar, Bool.and_true] at hm
 obtain ⟨m1, m2, m3⟩ := hm
 have hnr : iV kind = 1 ∨ iV kind = 2 ∨ iV kind = 4 ∨ iV kind = 8 := by
  unfold iV
  rcases Qas m1 with rfl | rfl | rfl
  omega
  omega
  omega
 have hal : nk s kind user = true := by
  grind [nk]
 have hth := hl.at_.1
 rw [hep] at hth
 have hk12 : k < 12 := by
  simp only [aX, Qar] at hth
  obtain ⟨i, hi, hi2⟩ := lp hth.1
  omega
 have hE : ee fr.length pg (jJ s va) 1 kind = 0 := by
  unfold ee
  rw [hpa, p1, Qaf (by grind [g5]), Qaf (by omega), Qaf (by rw [← hep]; exact hl.al kind m1 m2), Qaf (h.pl.rng _ hth)]
 have he : gB fr pg true root user va kind = 0 := by
  grind [gB]
 obtain ⟨_, _, e1, e2, e3⟩ := Ha he
 rw [hs, hkk] at e1 e2
 exact ⟨he, by rw [e1, hep], by rw [e2, ← hl.at_.2, hep], e3⟩
theorem XY {S : World → Prop} {b off k : Nat} {us vs : List Value} (h : aT S b off vs) (e : (vs.drop k).take us.length = us) : aT S b (off + k) us := fun i v hi => by
 have hlt := (List.getElem?_eq_some_iff.1 hi).1
 have := h (k + i) v (by
   rw [← e, List.getElem?_take] at hi
   rw [Qaf hlt, Qce] at hi
   exact hi)
 rwa [← QbZ] at this
theorem XZ (hK : ∀ A, aT (aB W0 A) 1 0 fX) (ba bm pv bt bs ps pm : Nat) (on : Bool) (root : Int) (user : Bool) (va : Nat) (hva : va < 4294967296) (kind : Int) (its : List It) (room now : Nat) (T : List It) (L : List Ln) (fr : List ap) (pg : List Pl) (hR : Rep its now T) (hT : T.length ≤ room) (hr : room ≤ 4) (hn : now < 1000000) (h : MOk fr pg 0 L T) (hw : WkOkM fr pg root va) (hp : aX pg (bO fr pg root va).p = true) (p f : Int) (e1 : p = (bO fr pg root va).p) (e2 : f = (cy pg (bO fr pg root va).p).1) (o : Int) (fast : Bool) : sP W0 349 [pQ ba, .agg #[iQ p, iQ f, iQ o, .bool fast]] (pt ba (gC bm on root user va kind) :: pt bm (cN pv bt bs) :: aJ bt (its, d3 room now) :: bG bs L :: dZ pv ps pm 0 fr pg R) (fun v B => v = .tuple #[] ∧ ∃ its' T' L' now', Rep its' now' T' ∧ T'.length ≤ room ∧ MOk fr pg 0 L' T' ∧ now' ≤ now + 1 ∧ (∃ x ∈ L', x.k = d6 root va ∧ (x.e.2.2 = fC pg (bO fr pg root va).r (bO fr pg root va).p 3 ∨ x.e.2.2 = fk (fC pg (bO fr pg root va).r (bO fr pg root va).p 3))) ∧ B = pt ba (gC bm on root user va kind) :: pt bm (cN pv bt bs) :: aJ bt (its', d3 room now') :: bG bs L' :: dZ pv ps pm 0 fr pg R) := by
 grind [XW]
theorem Y0 (W0 : World) (R : List HP) (hK : ∀ A, aT (aB W0 A) 1 0 fX) (ba bm pv bt bs ps pm : Nat) (root : Int) (user : Bool) (va : Nat) (hva : va < 4294967296) (kind : Int) (its : List It) (room now : Nat) (T : List It) (L : List Ln) (fr : List ap) (pg : List Pl) (hR : Rep its now T) (hT : T.length ≤ room) (hr : room ≤ 4) (hn : now < 1000000) (h : MOk fr pg 0 L T) :
    bc Tryz.prog W0 308 [pQ ba] (pt ba (gC bm true root user va kind) :: pt bm (cN pv bt bs) :: aJ bt (its, d3 room now) :: bG bs L :: dZ pv ps pm 0 fr pg R)
      (fun v B => v = .tuple #[.agg (uU fr pg true root user va kind).toArray, iQ (gB fr pg true root user va kind)] ∧ ∃ its' T' L' now', Rep its' now' T' ∧ T'.length ≤ room ∧ MOk fr pg 0 L' T' ∧ now' ≤ now + 1 ∧ (gB fr pg true root user va kind = 0 → ∃ x ∈ L', x.k = d6 root va ∧ (x.e.2.2 = fC pg (bO fr pg root va).r (bO fr pg root va).p 3 ∨ x.e.2.2 = fk (fC pg (bO fr pg root va).r (bO fr pg root va).p 3))) ∧ B = pt bm (cN pv bt bs) :: aJ bt (its', d3 room now') :: bG bs L' :: dZ pv ps pm 0 fr pg R) := by
 have hok := fun q => Ha (fr := fr) (pg := pg) (root := root) (user := user) (va := va) (kind := kind) q
 refine ab func308 ntmps308 ?_
 refine dX (dt w7) fun b2 => ?_
 refine au 3 ?_
 refine dO (fun b4 : Nat => True) (fun b4 => [(0, pQ ba), (2, pQ b2), (4, pQ b4), (5, iQ (gB fr pg true root user va kind))]) (fun b4 => pt b2 (a7 [iQ 0, iQ 0, iQ 0, .bool false] 245) :: pt b4 (a7 (uU fr pg true root user va kind) 245) :: pt ba (gC bm true root user va kind) :: pt bm (cN pv bt bs) :: aJ bt (its, d3 room now) :: bG bs L :: dZ pv ps pm 0 fr pg R) ?_ ?_
 refine bB [ba, bm] 26 fun hS => ?_
 refine ae 0 10 hS ?_
 refine av 10 hS (cJ (XY (k := 1) (us := rf true root user) (gr (k := 0) rfl) rfl)) ?_
 refine ae 11 8 hS ?_
 refine eG (is := [19, 23]) (by kernel_rfl) rfl ⟨?_, ?_, trivial⟩
 refine di (dQ CF (xg pv ps pm 0 fr pg h.P h.F true root user va hva kind)) ?_; clear hS
 rintro _ B_ ⟨rfl, hB_⟩
 obtain rfl := hB_.symm
 refine ⟨aK, fun hS => ?_⟩
 refine ae 20 3 hS ?_
 refine cg 23 (dt w7) ?_; clear hS
 rintro _ _ ⟨b4, rfl, rfl⟩
 refine ⟨aK, fun hS => ?_⟩
 refine cq 24 aC fun hS => ?_
 refine ae 25 1 hS ?_
 refine aI ?_
 exact cu b4 trivial
 skip
 refine di (dt w7) ?_; clear hS
 rintro _ _ ⟨b4, rfl, rfl⟩
 refine ⟨aK, fun hS => ?_⟩
 refine bJ 19 (dQ CF (xg pv ps pm 0 fr pg h.P h.F true root user va hva kind)) fun hS => ?_
 refine ae 20 3 hS ?_
 refine cq 24 aC fun hS => ?_
 refine ae 25 1 hS ?_
 refine aI ?_
 exact cu b4 trivial
 intro b4 _
 refine dO (fun X : List It × List It × List Ln × Nat => Rep X.1 X.2.2.2 X.2.1 ∧ X.2.1.length ≤ room ∧ MOk fr pg 0 X.2.2.1 X.2.1 ∧ X.2.2.2 ≤ now + 1 ∧ (gB fr pg true root user va kind = 0 → ∃ x ∈ X.2.2.1, x.k = d6 root va ∧ (x.e.2.2 = fC pg (bO fr pg root va).r (bO fr pg root va).p 3 ∨ x.e.2.2 = fk (fC pg (bO fr pg root va).r (bO fr pg root va).p 3)))) (fun X => [(2, pQ b2), (4, pQ b4), (5, iQ (gB fr pg true root user va kind))]) (fun X => pt b2 (a7 [iQ 0, iQ 0, iQ 0, .bool false] 245) :: pt b4 (a7 (uU fr pg true root user va kind) 245) :: pt bm (cN pv bt bs) :: aJ bt (X.1, d3 room X.2.2.2) :: bG bs X.2.2.1 :: dZ pv ps pm 0 fr pg R) ?_ ?_
 refine au 6 ?_
 refine ag (fun c2 => ?_) fun c2 => ?_
 obtain ⟨hw, hp, eP, eF, eO⟩ := hok c2
 refine am rfl (EM call349 rfl (XZ hK ba bm pv bt bs ps pm true root user va hva kind its room now T L fr pg hR hT hr hn h hw hp (eM lS fr pg true root user va kind) (eM lr fr pg true root user va kind) eP eF (eM lu fr pg true root user va kind) false)) ?_
 rintro _ B_ ⟨rfl, its2, T2, L2, now2, hR2, hT2, h2, hn2, hex, hB_⟩
 subst hB_
 refine aw ?_
 refine cu (its2, T2, L2, now2) ?_
 grind
 refine cu (its, T, L, now) ?_
 grind
 intro ⟨its2, T2, L2, now2⟩ ⟨hR2, hT2, h2, hn2, hex⟩
 dsimp only at hR2 hT2 h2 hn2 hex ⊢
 refine aw ?_
 refine ax aC ?_
 refine bi (.cons (bD ek dI rfl rfl) (.cons (bz rfl) .nil)) ?_
 exact ⟨_, ⟨rfl, its2, T2, L2, now2, hR2, hT2, h2, hn2, hex, rfl⟩, IO⟩
theorem MOk.tl {fr : List ap} {pg : List Pl} {d : Nat} {L : List Ln} {T T' : List It} (h : MOk fr pg d L T) (ht : TI L T') : MOk fr pg d L T' := ⟨h.F, h.dl, h.P, h.pl, ht, h.ln⟩
@[reducible] def tL (ba : Nat) : List Value := [.func (.func 306) #[.pointer (some ⟨ba, 0, none⟩)] #[], .func (.func 307) #[.pointer (some ⟨ba, 0, none⟩)] #[]]
theorem Y1 {W0 : World} {N : FSz} {e : aH} {R : List HP} {ba bm pv bt bs : Nat} {on : Bool} {root : Int} {user : Bool} {va : Nat} {kind : Int} {its : List It} {room now i : Nat} {T : List It} {L : List Ln} {fx : Operand} {v : Value} (hva : va < 4294967296) (hR : Rep its now T) (hT : T.length ≤ room) (hr : room ≤ 4) (hn : now < 1000000) (hti : TI L T) (hi : i < 2) (hv : (tL ba)[i]? = some v) (hx : ev e fx = some v) :
    cn Tryz.prog W0 N e (pt ba (gC bm on root user va kind) :: pt bm (cN pv bt bs) :: aJ bt (its, d3 room now) :: bG bs L :: R) (.call { callee := .value fx, args := #[], argTypes := #[] })
      (fun v B => ∃ o its' T' now', v = .tuple #[.agg (Br o va).toArray, .bool o.isSome] ∧ Bs L (d6 root va) kind user o ∧ (i = 1 → o = none → ∀ x ∈ L, x.k = d6 root va → jV x.e kind user = false) ∧ Rep its' now' T' ∧ T'.length ≤ room ∧ TI L T' ∧ now' ≤ now + 1 ∧ B = pt ba (gC bm on root user va kind) :: pt bm (cN pv bt bs) :: aJ bt (its', d3 room now') :: bG bs L :: R) := by
 have h2 : i = 0 ∨ i = 1 := by omega
 rcases h2 with rfl | rfl
 cases hv
 exact gx (us := [pQ ba]) (vs := []) (cs := []) hx call306 rfl (gH (WN ba bm pv bt bs on root user va hva kind its room now T L hR hT hr hn hti) fun v B hB => by
  obtain ⟨o, its', T', now', e1, e2, e3⟩ := hB
  exact ⟨B, ⟨o, its', T', now', e1, e2, fun q => (by cases q), e3⟩, ent_refl⟩)
 cases hv
 exact gx (us := [pQ ba]) (vs := []) (cs := []) hx call307 rfl (gH (WO ba bm pv bt bs on root user va hva kind its room now T L hR hT hr hn hti) fun v B hB => by
  obtain ⟨o, its', T', now', e1, e2, e3, e4⟩ := hB
  exact ⟨B, ⟨o, its', T', now', e1, e2, fun _ => e3, e4⟩, ent_refl⟩)
structure FnX (fr : List ap) (pg : List Pl) (d : Nat) (on : Bool) (root : Int) (user : Bool) (va : Nat) (kind : Int) (L L' : List Ln) (fast : Bool) (d' : Nat) : Prop where
  hit : fast = true → (on = true ∧ gB fr pg on root user va kind = 0) ∧ ∃ x ∈ L', x.e.1 = eM lS fr pg on root user va kind ∧ jV x.e kind user = true
  old : fast = true → ∃ x ∈ L, x.k = d6 root va
  new : fast = false → on = true → va < 16384 → gB fr pg on root user va kind = 0 → ∃ x ∈ L', x.k = d6 root va ∧ (x.e.2.2 = fC pg (bO fr pg root va).r (bO fr pg root va).p 3 ∨ x.e.2.2 = fk (fC pg (bO fr pg root va).r (bO fr pg root va).p 3))
  can : d = 0 → on = true → va < 16384 → ∀ x ∈ L, x.k = d6 root va → jV x.e kind user = true → fast = true
  dz : on = true → va < 16384 → d' = 0
theorem Hb (hK : ∀ A, aT (aB W0 A) 1 0 fX) (bm pv bt bs ps pm d : Nat) (on : Bool) (root : Int) (user : Bool) (va : Nat) (hva : va < 4294967296) (kind : Int) (its : List It) (room now : Nat) (T : List It) (L : List Ln) (fr : List ap) (pg : List Pl) (hR : Rep its now T) (hT : T.length ≤ room) (hr : room ≤ 4) (hn : now < 900000) (h : MOk fr pg d L T) : sP W0 235 [.pointer (some ⟨bm, 0, none⟩), .agg (rf on root user).toArray, .int .u32 va, .int .i64 kind] (pt bm (cN pv bt bs) :: aJ bt (its, d3 room now) :: bG bs L :: dZ pv ps pm d fr pg R) (fun v B => ∃ fast its' T' L' now' d', v = .tuple #[.agg #[.int .i64 (eM lS fr pg on root user va kind), .int .i64 (eM lr fr pg on root user va kind), .int .i64 (eM lu fr pg on root user va kind), .bool fast], .int .i64 (gB fr pg on root user va kind)] ∧ FnX fr pg d on root user va kind L L' fast d' ∧ Rep its' now' T' ∧ T'.length ≤ room ∧ MOk fr pg d' L' T' ∧ now' ≤ now + 3 ∧ B = pt bm (cN pv bt bs) :: aJ bt (its', d3 room now') :: bG bs L' :: dZ pv ps pm d' fr pg R) := by
 refine js 2 func235 ntmps235 ?_
 refine dX (i3 rfl) fun b5 => ?_
 refine dX (dt w7) fun b8 => ?_
 refine au 7 ?_
 refine dK 2 (lh CG rfl (ym bm pv bt bs)) ?_
 refine aA rfl (fun c1 => ?_) fun c1 => ?_
 exact absurd c1 (by decide)
 refine au 9 ?_
 refine cR rfl rfl rfl (fun g3_4 => ?_) fun g3_4 => ?_
 refine au 6 ?_
 refine fH [(bm, 0, _), (b5, 0, _)] 12 mixed rfl (bZ (bZ bL)) (fun hS => ?_)
 refine ae 0 4 hS ?_
 refine aQ 4 rfl rfl rfl hS (eV yS tW rfl (by first | exact gr (k := 0) rfl | exact gr (k := 1) rfl) rfl) ?_
 refine ae 5 2 hS ?_
 refine jt 7 rfl rfl (un CF rfl (xg pv ps pm d fr pg h.P h.F on root user va hva kind)) (bZ (bZ bL)) fun hS => ?_
 refine ae 8 2 hS ?_
 refine iU 10 rfl rfl (fG dI rfl rfl rfl rfl rfl) (bZ (bZ bL)) fun hS => ?_
 refine ae 11 1 hS ?_
 refine fy ?_
 refine au 3 ?_
 refine bi (.cons (bD ek dI rfl rfl) (.cons (bz rfl) .nil)) ?_
 exact ⟨_, ⟨false, its, T, L, now, d, rfl, ⟨fun q => (by cases q), fun q => (by cases q), fun _ q1 q2 => (by first | omega | simp_all), fun _ q1 q2 => (by first | omega | simp_all), fun q1 q2 => (by first | omega | simp_all)⟩, hR, hT, h, by omega, rfl⟩, IO⟩
 refine au 6 ?_
 refine aA rfl (fun c3 => ?_) fun c3 => ?_
 refine aP ?_
 refine fH [(bm, 0, _), (b5, 0, _)] 12 mixed rfl (bZ (bZ bL)) (fun hS => ?_)
 refine ae 0 4 hS ?_
 refine aQ 4 rfl rfl rfl hS (eV yS tW rfl (by first | exact gr (k := 0) rfl | exact gr (k := 1) rfl) rfl) ?_
 refine ae 5 2 hS ?_
 refine jt 7 rfl rfl (un CF rfl (xg pv ps pm d fr pg h.P h.F on root user va hva kind)) (bZ (bZ bL)) fun hS => ?_
 refine ae 8 2 hS ?_
 refine iU 10 rfl rfl (fG dI rfl rfl rfl rfl rfl) (bZ (bZ bL)) fun hS => ?_
 refine ae 11 1 hS ?_
 refine fy ?_
 refine au 3 ?_
 refine bi (.cons (bD ek dI rfl rfl) (.cons (bz rfl) .nil)) ?_
 exact ⟨_, ⟨false, its, T, L, now, d, rfl, ⟨fun q => (by cases q), fun q => (by cases q), fun _ q1 q2 => (by first | omega | simp_all), fun _ q1 q2 => (by first | omega | simp_all), fun q1 q2 => (by first | omega | simp_all)⟩, hR, hT, h, by omega, rfl⟩, IO⟩
 refine au 3 ?_
 obtain rfl : on = true := by cases on <;> simp_all
 have hv4 : va < 16384 := by omega
 refine au 2 ?_
 refine am rfl (ng call199 rfl (GI bm pv bt bs ps pm d its (.int .i64 room) (.int .i64 now) now room T L fr pg hR hT hr h)) ?_
 rintro _ B_ ⟨rfl, its1, T1, L1, hB_, hR1, hT1, h1, hsub, hsame⟩
 subst hB_
 have hL0 : d = 0 → L1 = L := fun q => hsame (by rw [q]; decide)
 refine au 8 ?_
 refine aa rfl (fw a1P zeroValue420 (aM Ia (aM tW (aM bF (aM aO fq)))) (cQ rfl Ia rfl rfl (Qaa rfl) SetL.eq (iP rfl tW rfl rfl (Qaa rfl) SetRL.eq (cQ rfl bF rfl rfl (Qaa rfl) SetL.eq (cQ rfl aO rfl rfl (Qaa rfl) SetL.eq fp))))) ?_
 refine dX (i3 rfl) fun ba => ?_
 refine au 7 ?_
 refine aa rfl (uu rfl rfl) ?_
 refine aa rfl (aL rfl) (aa rfl (uu rfl rfl) ?_)
 refine dX (jG Iq sizeOf421 zeroValue421 rfl rfl rfl rfl rfl (by decide) (by decide)) fun bl => ?_
 refine au 5 ?_
 refine fQ (fun X : Nat × List It × List It × Nat => X.1 ≤ 2 ∧ Rep X.2.1 X.2.2.2 X.2.2.1 ∧ X.2.2.1.length ≤ room ∧ TI L1 X.2.2.1 ∧ X.2.2.2 ≤ now + X.1 ∧ (X.1 = 2 → ∀ x ∈ L1, x.k = d6 root va → jV x.e kind user = false)) (fun X => [(8, .pointer (some ⟨b8, 0, none⟩)), (10, .pointer (some ⟨ba, 0, none⟩)), (47, .slice (some ⟨bl, 0, none⟩) 2 2), (48, .int .i64 2), (49, .int .i64 X.1)]) (fun X => pt bl (a7 (tL ba) 421) :: pt b8 (a7 [.int .i64 0, .int .i64 0, .int .i64 0, .bool false] 245) :: pt ba (gC bm true root user va kind) :: pt bm (cN pv bt bs) :: aJ bt (X.2.1, d3 room X.2.2.2) :: bG bs L1 :: dZ pv ps pm 0 fr pg R) (fun X => 2 - X.1) (0, its1, T1, now) ?_ ?_ ?_ ?_
 exact ⟨QaU _, hR1, hT1, h1.ti, Qap _, fun q => absurd (show (0 : Nat) = 2 from q) (by decide)⟩
 · repeat (first | exact ci | refine bQ rfl ?_)
 show Ent _ (pt bl (a7 (tL ba) 421) :: pt b8 (a7 [.int .i64 0, .int .i64 0, .int .i64 0, .bool false] 245) :: pt ba (gC bm true root user va kind) :: pt bm (cN pv bt bs) :: aJ bt (its1, d3 room now) :: bG bs L1 :: dZ pv ps pm 0 fr pg R)
 exact IO
 intro ⟨i, its2, T2, now2⟩ ⟨hi, hR2, hT2, ht2, hn2, hno2⟩
 dsimp only at hi hR2 hT2 ht2 hn2 hno2 ⊢
 refine au 6 ?_
 refine aA rfl (fun c8 => ?_) fun c8 => ?_
 refine au 5 ?_
 have hi2 : i < 2 := by omega
 have hl2 : i < (tL ba).length := hi2
 obtain ⟨fv, hfv⟩ : ∃ v, (tL ba)[i]? = some v := ⟨_, Qbd hl2⟩
 refine aZ ?_
 refine aa rfl (gn Iq sizeOf421 rfl rfl rfl hi2 (by first | exact Qab _ | rfl)) ?_
 refine gJ 6 (bW isAgg421 rfl (aF (by rw [QaA]; exact hfv))) ?_
 refine am rfl (pw inferInstance (Y1 (R := pt bl (a7 (tL ba) 421) :: pt b8 (a7 [.int .i64 0, .int .i64 0, .int .i64 0, .bool false] 245) :: dZ pv ps pm 0 fr pg R) (ba := ba) (bm := bm) (pv := pv) (bt := bt) (bs := bs) (on := true) (root := root) (user := user) (kind := kind) (its := its2) (L := L1) hva hR2 hT2 hr (by omega) ht2 hi2 hfv rfl)) ?_
 rintro _ B_ ⟨o, its3, T3, now3, rfl, hlk, hnk, hR3, hT3, ht3, hn3, hB_⟩
 subst hB_
 refine au 3 ?_
 refine dX (dt w7) fun b13 => ?_
 refine iT 8 (fG dI rfl rfl rfl rfl rfl) ?_
 refine aA rfl (fun c11 => ?_) fun c11 => ?_
 refine au 3 ?_
 refine iT 9 (fG dI rfl rfl rfl rfl rfl) ?_
 refine bi (.cons (bD ek dI rfl rfl) (.cons (bz rfl) .nil)) ?_
 obtain ⟨x, rfl⟩ : ∃ x, o = some x := by cases o <;> simp_all
 obtain ⟨hx, hkx, hmx⟩ := hlk x rfl
 obtain ⟨e0, e1, e2, e3⟩ := XX h1 hx hv4 hkx hmx
 refine ⟨_, ⟨true, its3, T3, L1, now3, 0, ?_, ⟨fun _ => ⟨⟨rfl, e0⟩, x, hx, e1.symm, hmx⟩, fun _ => ⟨x, hsub x hx, hkx⟩, fun q => (by cases q), fun _ _ _ _ _ _ _ => rfl, fun _ _ => rfl⟩, hR3, hT3, h1.tl ht3, by omega, rfl⟩, IO⟩
 rw [e0, e1, e2, e3]; rfl
 refine au 4 ?_
 refine gJ 3 (JZ rfl rfl) ?_
 exact bE (i + 1, its3, T3, now3) (⟨by omega, hR3, hT3, ht3, by dsimp only; omega, fun q => hnk (by dsimp only at q; omega) (by cases o <;> simp_all)⟩)
 refine au 6 ?_
 obtain rfl : i = 2 := by omega
 have h2 := h1.tl ht2
 refine au 2 ?_
 refine am rfl (EM call308 rfl (Y0 W0 _ hK ba bm pv bt bs ps pm root user va hva kind its2 room now2 T2 L1 fr pg hR2 hT2 hr (by omega) h2)) ?_
 rintro _ B_ ⟨rfl, its4, T4, L4, now4, hR4, hT4, h4, hn4, hex, hB_⟩
 subst hB_
 refine au 2 ?_
 refine iT 4 (fG dI rfl rfl rfl rfl rfl) ?_
 refine bi (.cons (bD ek dI rfl rfl) (.cons (bz rfl) .nil)) ?_
 exact ⟨_, ⟨false, its4, T4, L4, now4, 0, rfl, ⟨fun q => (by cases q), fun q => (by cases q), fun _ _ _ q => hex q, fun q _ _ x hx hk hm => (by
   rw [hno2 rfl x (by rw [hL0 q]; exact hx) hk] at hm; cases hm), fun _ _ => rfl⟩, hR4, hT4, h4, by omega, rfl⟩, IO⟩
theorem Y2 {fr : List ap} {pg : List Pl} {on : Bool} {root : Int} {user : Bool} {va : Nat} {kind : Int} (h : gB fr pg on root user va kind = 0) :
    ∃ pa : Nat, pa < 768 ∧ pa % 64 = va % 64 ∧ ee fr.length pg pa 1 kind = 0 ∧ eM lS fr pg on root user va kind = ((pa / 64 : Nat) : Int) ∧ eM lr fr pg on root user va kind = (cy pg ((pa / 64 : Nat) : Int)).1 ∧ eM lu fr pg on root user va kind = ((pa % 64 : Nat) : Int) := by
 cases on with
 | false =>
  have hX : ∀ g, eM g fr pg false root user va kind = g fr.length pg va 1 kind := fun g => by unfold eM; rw [Qac (by decide)]
  have h : ee fr.length pg va 1 kind = 0 := by grind [gB]
  exact ⟨va, (A6 h).1, rfl, h, by rw [hX, lS, Qaf h], by rw [hX, lr, Qaf h], by rw [hX, lu, Qaf h]⟩
 | true =>
  obtain ⟨s, hs⟩ : ∃ s, bO fr pg root va = s := ⟨_, rfl⟩
  obtain ⟨k, hk, hk32⟩ := xf fr pg root va
  unfold gB at h
  rw [Qaf rfl, hs] at h
  by_cases h1 : s.fault ≠ 0
  omega
  rw [Qac h1] at h
  by_cases h2 : nk s kind user = true
  case neg => rw [Qac h2] at h; exact absurd h (by decide)
  rw [Qaf h2] at h
  rw [hs] at hk
  have hpa : jJ s va = 64 * k + va % 64 := by rw [jJ, hk]; rfl
  obtain ⟨p1, p2⟩ := BC k va
  have hX : ∀ g, eM g fr pg true root user va kind = g fr.length pg (jJ s va) 1 kind := fun g => by
   unfold eM
   rw [Qaf rfl, hs, Qac h1, Qaf h2]
  exact ⟨jJ s va, (A6 h).1, by rw [hpa, p2], h, by rw [hX, lS, Qaf h], by rw [hX, lr, Qaf h], by rw [hX, lu, Qaf h]⟩
theorem a3K {va pa : Nat} {w : Int} (h : g5 va w = true) (e : pa % 64 = va % 64) : g5 pa w = true := by
 have := Qas h
 refine Qak ⟨this.1, ?_⟩
 obtain ⟨h1 | h1 | h1, h2⟩ := this <;> subst h1 <;> omega
theorem Y3 {n : Nat} {pg : List Pl} {va pa : Nat} {w kind : Int} (h : ee n pg pa 1 kind = 0) (ha : g5 va w = true) (e : pa % 64 = va % 64) : ee n pg pa w kind = 0 := by
 grind [g5, ee]
theorem Y4 {n : Nat} {pg : List Pl} {pa : Nat} {kind : Int} (h : ee n pg pa 1 kind = 0) : aX pg ((pa / 64 : Nat) : Int) = true := by
 grind [g5, ee, gy]
def qg (fr : List ap) (pg : List Pl) (on : Bool) (root : Int) (user : Bool) (va : Nat) (w kind : Int) : Nat := if g5 va w then (if gB fr pg on root user va kind = 0 then kN fr (eM lr fr pg on root user va kind) (eM lu fr pg on root user va kind) w else 0) else 0
def nN (fr : List ap) (pg : List Pl) (on : Bool) (root : Int) (user : Bool) (va : Nat) (w kind : Int) : Int := if g5 va w then gB fr pg on root user va kind else 1
def m8 (fr : List ap) (pg : List Pl) (on : Bool) (root : Int) (user : Bool) (va : Nat) (w : Int) (x : Nat) : List ap := if g5 va w then (if gB fr pg on root user va 2 = 0 then eY fr (eM lr fr pg on root user va 2) (eM lu fr pg on root user va 2) w x else fr) else fr
theorem Hc (va : Nat) (hva : va < 4294967296) (w : Int) : sQ W0 234 [.int .u32 va, iQ w] R (.bool (g5 va w)) R := by
 refine ab func234 ntmps234 ?_
 refine cA (fun g1_3 => ?_) fun g1_3 => ?_
 refine a6 (cT (dP (by omega))) ?_
 refine a6 (k7 rfl rfl (by omega) (Qbj (by omega))) ?_
 refine a8 ?_
 refine aE ?_
 refine Qah Value.bool ?_
 rw [Qae]; simp only [g5, Qaj, Qby]
 first
   | omega
   | (simp only [Qal, QaN]; omega)
   | (constructor <;> intro q <;> simp_all <;> omega)
 refine cA (fun g1_7 => ?_) fun g1_7 => ?_
 refine a6 (cT (dP (by omega))) ?_
 refine a6 (k7 rfl rfl (by omega) (Qbj (by omega))) ?_
 refine a8 ?_
 refine aE ?_
 refine Qah Value.bool ?_
 rw [Qae]; simp only [g5, Qaj, Qby]
 first
   | omega
   | (simp only [Qal, QaN]; omega)
   | (constructor <;> intro q <;> simp_all <;> omega)
 refine cM (fun g1_11 => ?_) fun g1_11 => ?_
 refine a6 (cT (dP (by omega))) ?_
 refine a6 (k7 rfl rfl (by omega) (Qbj (by omega))) ?_
 refine a8 ?_
 refine aE ?_
 refine Qah Value.bool ?_
 rw [Qae]; simp only [g5, Qaj, Qby]
 first
   | omega
   | (simp only [Qal, QaN]; omega)
   | (constructor <;> intro q <;> simp_all <;> omega)
 refine a8 ?_
 refine aE ?_
 refine Qah Value.bool ?_
 rw [Qae]; simp only [g5, Qaj, Qby]
 first
   | omega
   | (simp only [Qal, QaN]; omega)
   | (constructor <;> intro q <;> simp_all <;> omega)
theorem Y5 (W0 : World) (R : List HP) (hK : ∀ A, aT (aB W0 A) 1 0 fX) (bm pv bt bs ps pm d : Nat) (on : Bool) (root : Int) (user : Bool) (va : Nat) (hva : va < 4294967296) (w kind : Int) (its : List It) (room now : Nat) (T : List It) (L : List Ln) (fr : List ap) (pg : List Pl) (hR : Rep its now T) (hT : T.length ≤ room) (hr : room ≤ 4) (hn : now < 900000) (h : MOk fr pg d L T) :
    bc Tryz.prog W0 163 [pQ bm, .agg (rf on root user).toArray, .int .u32 va, iQ w, iQ kind] (pt bm (cN pv bt bs) :: aJ bt (its, d3 room now) :: bG bs L :: dZ pv ps pm d fr pg R)
      (fun v B => v = .tuple #[.int .u32 (qg fr pg on root user va w kind : Nat), iQ (nN fr pg on root user va w kind)] ∧ ∃ its' T' L' now' d', Rep its' now' T' ∧ T'.length ≤ room ∧ MOk fr pg d' L' T' ∧ now' ≤ now + 3 ∧ B = pt bm (cN pv bt bs) :: aJ bt (its', d3 room now') :: bG bs L' :: dZ pv ps pm d' fr pg R) := by
 obtain ⟨al, hal⟩ : ∃ a, g5 va w = a := ⟨_, rfl⟩
 rw [qg, nN, hal]
 refine ab func163 ntmps163 ?_
 refine aS fun b6 => ?_
 refine ac (ah CG (ym bm pv bt bs)) ?_
 refine ac (ao call234 (Hc va hva w)) ?_
 rw [hal]
 refine ag (fun c3 => ?_) fun c3 => ?_
 refine az ?_
 have ha : al = false := by grind
 rw [ha, Qac (by decide), Qac (by decide)]
 exact ⟨_, ⟨rfl, its, T, L, now, d, hR, hT, h, by omega, rfl⟩, IO⟩
 have ha : al = true := by grind
 rw [ha, Qaf rfl, Qaf rfl]
 refine am rfl (wO call235 rfl (Hb hK bm pv bt bs ps pm d on root user va hva kind its room now T L fr pg hR hT hr hn h)) ?_
 rintro _ B_ ⟨fast, its2, T2, L2, now2, d2, rfl, hfast, hR2, hT2, h2, hn2, hB_⟩
 subst hB_
 refine aw ?_
 refine bu fun b12 => ?_
 refine ax aC ?_
 refine ag (fun c6 => ?_) fun c6 => ?_
 refine az ?_
 rw [Qac c6]
 exact ⟨_, ⟨rfl, its2, T2, L2, now2, d2, hR2, hT2, h2, hn2, rfl⟩, IO⟩
 rw [Qaf (by omega)]
 refine bB [bm, b12] 16 fun hS => ?_
 refine ae 0 4 hS ?_
 refine ae 5 5 hS ?_
 refine bJ 4 (ah Jc (A8 pv ps pm d2)) fun hS => ?_
 refine bJ 10 (ah call236 (E2 ps fr _ _ w h.F)) fun hS => ?_
 refine ae 11 5 hS ?_
 refine aI ?_
 refine az ?_
 exact ⟨_, ⟨by rw [show gB fr pg on root user va kind = 0 by omega] <;> rfl, its2, T2, L2, now2, d2, hR2, hT2, h2, hn2, rfl⟩, IO⟩
theorem Y6 {n : Nat} (h : n < 16) (hb : dY (n : Int) 2 = true) : wB (n : Int) = true := by
 have key : ∀ n : Nat, n < 16 → dY (n : Int) 2 = true → wB (n : Int) = true := by decide +kernel
 exact key n h hb
theorem Hd {d p t : Nat} (h : Nat.testBit (d ||| 2 ^ p) t = false) : Nat.testBit d t = false ∧ t ≠ p := by
 grind
theorem Y7 (W0 : World) (R : List HP) (hK : ∀ A, aT (aB W0 A) 1 0 fX) (bm pv bt bs ps pm d : Nat) (on : Bool) (root : Int) (user : Bool) (va : Nat) (hva : va < 4294967296) (w : Int) (x : Nat) (hx : x < 4294967296) (its : List It) (room now : Nat) (T : List It) (L : List Ln) (fr : List ap) (pg : List Pl) (hR : Rep its now T) (hT : T.length ≤ room) (hr : room ≤ 4) (hn : now < 900000) (h : MOk fr pg d L T) :
    bc Tryz.prog W0 324 [pQ bm, .agg (rf on root user).toArray, .int .u32 va, iQ w, .int .u32 x] (pt bm (cN pv bt bs) :: aJ bt (its, d3 room now) :: bG bs L :: dZ pv ps pm d fr pg R)
      (fun v B => v = iQ (nN fr pg on root user va w 2) ∧ ∃ its' T' L' now' d', Rep its' now' T' ∧ T'.length ≤ room ∧ MOk (m8 fr pg on root user va w x) pg d' L' T' ∧ now' ≤ now + 3 ∧ B = pt bm (cN pv bt bs) :: aJ bt (its', d3 room now') :: bG bs L' :: dZ pv ps pm d' (m8 fr pg on root user va w x) pg R) := by
 obtain ⟨al, hal⟩ : ∃ a, g5 va w = a := ⟨_, rfl⟩
 rw [m8, nN, hal]
 have hpa := fun q => Y2 (fr := fr) (pg := pg) (on := on) (root := root) (user := user) (va := va) (kind := 2) q
 obtain ⟨E, hE⟩ : ∃ e, gB fr pg on root user va 2 = e := ⟨_, rfl⟩
 rw [hE] at hpa
 refine ab func324 ntmps324 ?_
 refine aS fun b6 => ?_
 refine ac (ah CG (ym bm pv bt bs)) ?_
 refine ac (ao call234 (Hc va hva w)) ?_
 rw [hal]
 refine ag (fun c3 => ?_) fun c3 => ?_
 refine a8 ?_
 have ha : al = false := by grind
 rw [ha, Qac (by decide), Qac (by decide)]
 exact ⟨_, ⟨rfl, its, T, L, now, d, hR, hT, h, by omega, rfl⟩, IO⟩
 have ha : al = true := by grind
 rw [ha, Qaf rfl, Qaf rfl, hE]
 refine am rfl (wO call235 rfl (Hb hK bm pv bt bs ps pm d on root user va hva 2 its room now T L fr pg hR hT hr hn h)) ?_
 rintro _ B_ ⟨fast, its2, T2, L2, now2, d2, rfl, hfast, hR2, hT2, h2, hn2, hB_⟩
 subst hB_
 rw [hE]
 replace hfast := hfast.hit
 rw [hE] at hfast
 refine aw ?_
 refine bu fun b11 => ?_
 refine ax aC ?_
 refine ag (fun c6 => ?_) fun c6 => ?_
 refine a8 ?_
 rw [Qac c6]
 exact ⟨_, ⟨rfl, its2, T2, L2, now2, d2, hR2, hT2, h2, hn2, rfl⟩, IO⟩
 obtain rfl : E = 0 := by omega
 rw [Qaf rfl]
 obtain ⟨pa, p1, p2, p3, p4, p5, p6⟩ := hpa rfl
 have hth := Y4 p3
 have hfw := Y3 (w := w) p3 (hal.trans ha) p2
 rw [p4, p5, p6]
 rw [p4] at hfast
 refine ag (fun c8 => ?_) fun c8 => ?_
 have hno : ∀ y ∈ L2, ∀ t, t = y.rt ∨ t = y.lf → Nat.testBit d2 t.toNat = false → t ≠ ((pa / 64 : Nat) : Int) := fun y hy t ht _ e => by
  obtain ⟨_, z, hz, e1, hm⟩ := hfast (by simp_all)
  simp only [jV, Qar] at hm
  have hzr := (h2.ln z hz).r
  have hb : dY z.e.2.2 2 = true := hm.1.2.1
  have hw : wB z.e.2.2 = true := by
   obtain ⟨n, hn⟩ : ∃ n : Nat, z.e.2.2 = (n : Int) := ⟨z.e.2.2.toNat, by omega⟩
   rw [hn] at hb ⊢
   exact Y6 (by omega) hb
  have ht2 := h2.ti.nowr z hz hw
  rw [← Qaz, rI] at ht2
  exact ht2 ⟨y, hy, by rw [rH, e1, ← e]; exact ht.imp Eq.symm Eq.symm⟩
 have hms := h2.save hth ((pa % 64 : Nat) : Int) w x h2.dl (fun t q => q) hno
 refine bB [bm, b11] 12 fun hS => ?_
 refine ae 0 4 hS ?_
 refine ae 5 6 hS ?_
 refine bJ 4 (ah Jc (A8 pv ps pm d2)) fun hS => ?_
 refine bJ 11 (ah IC (A4 ps fr _ _ w x hx h2.F)) fun hS => ?_
 refine aI ?_
 refine a8 ?_
 exact ⟨_, ⟨rfl, its2, T2, L2, now2, d2, hR2, hT2, hms, hn2, rfl⟩, IO⟩
 have hpl : pa / 64 < 12 := by omega
 have hdl : d2 ||| 2 ^ (pa / 64) < 4096 := Nat.or_lt_two_pow (n := 12) h2.dl (E7 hpl)
 have hms := h2.save hth ((pa % 64 : Nat) : Int) w x hdl (fun t q => (Hd q).1) (fun y hy t ht hb e => by
  have h1 := (h2.ln y hy).own
  have h3 := (Hd hb).2
  rcases ht with rfl | rfl <;> omega)
 have hvF : uO fr pg pa w x = eY fr (cy pg ((pa / 64 : Nat) : Int)).1 ((pa % 64 : Nat) : Int) w x := by grind [uO]
 have hvD : uP fr pg pa w d2 = d2 ||| 2 ^ (pa / 64) := by grind [uP]
 refine bB [bm, b11] 15 fun hS => ?_
 refine ae 0 6 hS ?_
 refine av 6 hS (kK (64 * (pa / 64))) ?_
 refine ae 7 2 hS ?_
 refine av 9 hS (dG pa) ?_
 refine av 10 hS (cT (dP (by omega))) ?_
 refine ae 11 2 hS ?_
 refine cg 13 (dQ call65 (Rf pv ps pm d2 fr pg h2.P h2.F h2.dl pa (by omega) w x hx)) ?_; clear hS
 rintro _ B_ ⟨rfl, hB_⟩
 subst hB_
 rw [hvF, hvD, hfw]
 refine ⟨aK, fun hS => ?_⟩
 refine ae 14 1 hS ?_
 refine aI ?_
 refine a8 ?_
 exact ⟨_, ⟨rfl, its2, T2, L2, now2, _, hR2, hT2, hms, hn2, rfl⟩, IO⟩
theorem He {pg : List Pl} {n m : Nat} {p : Pl} (h : m ≠ n) : fT (pg.set n p) m = fT pg m := by
 grind [fT]
theorem jg {pg : List Pl} {n : Nat} {t : Int} {p : Pl} (h : t ≠ (n : Int)) : aX (pg.set n p) t = aX pg t ∧ cy (pg.set n p) t = cy pg t := by
 have key : aX (pg.set n p) t = aX pg t := by
  unfold aX
  cases hp : jI t with
  | false => rfl
  | true =>
   obtain ⟨i, rfl, hi⟩ := lp hp
   rw [Qam, He (by omega)]
 refine ⟨key, ?_⟩
 unfold cy
 rw [key]
 by_cases hth : aX pg t = true
 rw [Qaf hth, Qaf hth]
 simp only [aX, Qar] at hth
 obtain ⟨i, rfl, hi⟩ := lp hth.1
 rw [Qam, He (by omega)]
 grind
theorem yu {pg : List Pl} {n : Nat} {p : Pl} (hl : pg.length = 12) (hn : n < 12) (hp : p ≠ (0, 0)) : aX (pg.set n p) (n : Int) = true ∧ cy (pg.set n p) (n : Int) = p := by
 have h1 : fT (pg.set n p) n = p := by grind [fT]
 have h2 : aX (pg.set n p) (n : Int) = true := by
  unfold aX
  rw [Qam, h1, Qar]
  exact ⟨Qak (by omega), by simpa using hp⟩
 exact ⟨h2, by rw [cy, Qaf h2, Qam, h1]⟩
theorem PlOk.set {N n : Nat} {pg : List Pl} {p : Pl} (h : PlOk N pg) (hl : pg.length = 12) (hn : n < 12) (hp : p ≠ (0, 0)) (hN : p.1 < (N : Int)) (hd : ∀ t, aX pg t = true → (cy pg t).1 ≠ p.1) : PlOk N (pg.set n p) := by
 have hg := yu hl hn hp
 refine ⟨fun t ht => ?_, fun s t hs ht e => ?_⟩
 by_cases q : t = (n : Int)
 grind
 rw [(jg q).1] at ht; rw [(jg q).2]; exact h.rng t ht
 by_cases q : s = (n : Int)
 grind [jg]
 rw [(jg q).1] at hs
 by_cases r : t = (n : Int)
 simp_all [jg]
 rw [(jg r).1] at ht
 rw [(jg q).2, (jg r).2] at e
 exact h.inj s t hs ht e
theorem MOk.flush {fr : List ap} {pg : List Pl} {L : List Ln} {T : List It} (h : MOk fr pg 0 L T) : MOk fr pg 0 [] [] := ⟨h.F, h.dl, h.P, h.pl, TI.nil, fun x hx => by simp at hx⟩
theorem Y8 (bm pv bt bs ps pm d : Nat) (its : List It) (room now : Nat) (T : List It) (L : List Ln) (fr : List ap) (pg : List Pl) (hR : Rep its now T) (hT : T.length ≤ room) (hr : room ≤ 4) (h : MOk fr pg d L T) : sP W0 325 [.pointer (some ⟨bm, 0, none⟩)] (pt bm (cN pv bt bs) :: aJ bt (its, d3 room now) :: bG bs L :: pt pv (cp ps pm d) :: R) (fun v B => ∃ k its', v = .int .i64 k ∧ B = pt bm (cN pv bt bs) :: aJ bt (its', d3 room now) :: bG bs [] :: pt pv (cp ps pm 0) :: R ∧ Rep its' now [] ∧ MOk fr pg 0 [] []) := by
 refine js 9 func325 ntmps325 ?_
 refine dK 2 (lh CG rfl (ym bm pv bt bs)) ?_
 refine aA rfl (fun c1 => ?_) fun c1 => ?_
 exact absurd c1 (by decide)
 refine au 5 ?_
 refine am rfl (ng call199 rfl (GI bm pv bt bs ps pm d its (.int .i64 room) (.int .i64 now) now room T L fr pg hR hT hr h)) ?_
 rintro _ B_ ⟨rfl, its1, T1, L1, hB_, hR1, hT1, h1, _⟩
 subst hB_
 have hil := hR1.length
 have hll := h1.ti.len
 refine au 8 ?_
 refine am rfl (lh call367 rfl (VL bt its1 (.int .i64 room) (.int .i64 now) now T1 hR1 (by omega))) ?_
 rintro _ B_ ⟨rfl, its2, hB_, hR2⟩
 subst hB_
 refine au 8 ?_
 refine dK 4 (lh call368 rfl (Wg bs L1 (by omega))) ?_
 refine a8 ?_
 exact ⟨_, ⟨_, its2, rfl, rfl, hR2, h1.flush⟩, IO⟩
structure Mu where
  pv : Nat
  ps : Nat
  pm : Nat
  bud : Nat
  fr : List ap
  pg : List Pl
def jh (bm : Nat) (x : Mu) : HP := chk (fun C => ∃ bt bs its T L now d, Rep its now T ∧ T.length ≤ 4 ∧ now ≤ x.bud ∧ MOk x.fr x.pg d L T ∧ C = [pt bm (cN x.pv bt bs), aJ bt (its, d3 4 now), bG bs L, pt x.pv (cp x.ps x.pm d), pt x.pm (bI x.pg)])
section
variable {P : Program} {W0 : World} {N : FSz} {K : Act → World → Prop} {e : aH} {R : List HP} {bm pv ps pm bud : Nat} {fr : List ap} {pg : List Pl} {f : FuncId} {args : List Value} {Post : Value → List HP → Prop}
theorem tM (h : ∀ bt bs its T L now d, Rep its now T → T.length ≤ 4 → now ≤ bud → MOk fr pg d L T → bc P W0 f args (pt bm (cN pv bt bs) :: aJ bt (its, d3 4 now) :: bG bs L :: pt pv (cp ps pm d) :: pt pm (bI pg) :: R) Post) : bc P W0 f args (jh bm ⟨pv, ps, pm, bud, fr, pg⟩ :: R) Post :=
  qK fun C hC => by obtain ⟨bt, bs, its, T, L, now, d, h1, h2, h3, h4, rfl⟩ := hC; exact h bt bs its T L now d h1 h2 h3 h4
theorem rR {bt bs now d : Nat} {its T : List It} {L : List Ln} (h1 : Rep its now T) (h2 : T.length ≤ 4) (h3 : now ≤ bud) (h4 : MOk fr pg d L T) : Ent (pt bm (cN pv bt bs) :: aJ bt (its, d3 4 now) :: bG bs L :: pt pv (cp ps pm d) :: pt pm (bI pg) :: R) (jh bm ⟨pv, ps, pm, bud, fr, pg⟩ :: R) :=
  en (R := R) (C := [_, _, _, _, _]) ⟨bt, bs, its, T, L, now, d, h1, h2, h3, h4, rfl⟩
end
section
variable (W0 : World) (R : List HP) (bm pv ps pm bud : Nat) (fr : List ap) (pg : List Pl)
theorem Hf (hK : ∀ A, aT (aB W0 A) 1 0 fX) (hb : bud < 800000) (on : Bool) (root : Int) (user : Bool) (va : Nat) (hva : va < 4294967296) (w kind : Int) :
    bc Tryz.prog W0 163 [pV bm, .agg (rf on root user).toArray, .int .u32 va, .int .i64 w, .int .i64 kind] (jh bm ⟨pv, ps, pm, bud, fr, pg⟩ :: bj ps fr :: R)
      (fun v B => v = .tuple #[wV (qg fr pg on root user va w kind), .int .i64 (nN fr pg on root user va w kind)] ∧ B = jh bm ⟨pv, ps, pm, bud + 3, fr, pg⟩ :: bj ps fr :: R) := by
 refine tM fun bt bs its T L now d h1 h2 h3 h4 => ?_
 refine sF (B := pt bm (cN pv bt bs) :: aJ bt (its, d3 4 now) :: bG bs L :: dZ pv ps pm d fr pg R) inferInstance ?_
 refine gH (Y5 W0 R hK bm pv bt bs ps pm d on root user va hva w kind its 4 now T L fr pg h1 h2 (by decide) (by omega) h4) fun v B hB => ?_
 obtain ⟨rfl, its', T', L', now', d', k1, k2, k3, k4, rfl⟩ := hB
 refine ⟨_, ⟨rfl, rfl⟩, ?_⟩
 exact Ent.trans (B := pt bm (cN pv bt bs) :: aJ bt (its', d3 4 now') :: bG bs L' :: pt pv (cp ps pm d') :: pt pm (bI pg) :: bj ps fr :: R) inferInstance (rR k1 k2 (by omega) k3)
theorem Y9 (hK : ∀ A, aT (aB W0 A) 1 0 fX) (hb : bud < 800000) (on : Bool) (root : Int) (user : Bool) (va : Nat) (hva : va < 4294967296) (w : Int) (x : Nat) (hx : x < 4294967296) :
    bc Tryz.prog W0 324 [pV bm, .agg (rf on root user).toArray, .int .u32 va, .int .i64 w, .int .u32 x] (jh bm ⟨pv, ps, pm, bud, fr, pg⟩ :: bj ps fr :: R)
      (fun v B => v = .int .i64 (nN fr pg on root user va w 2) ∧ B = jh bm ⟨pv, ps, pm, bud + 3, m8 fr pg on root user va w x, pg⟩ :: bj ps (m8 fr pg on root user va w x) :: R) := by
 refine tM fun bt bs its T L now d h1 h2 h3 h4 => ?_
 refine sF (B := pt bm (cN pv bt bs) :: aJ bt (its, d3 4 now) :: bG bs L :: dZ pv ps pm d fr pg R) inferInstance ?_
 refine gH (Y7 W0 R hK bm pv bt bs ps pm d on root user va hva w x hx its 4 now T L fr pg h1 h2 (by decide) (by omega) h4) fun v B hB => ?_
 obtain ⟨rfl, its', T', L', now', d', k1, k2, k3, k4, rfl⟩ := hB
 refine ⟨_, ⟨rfl, rfl⟩, ?_⟩
 exact Ent.trans (B := pt bm (cN pv bt bs) :: aJ bt (its', d3 4 now') :: bG bs L' :: pt pv (cp ps pm d') :: pt pm (bI pg) :: bj ps (m8 fr pg on root user va w x) :: R) inferInstance (rR k1 k2 (by omega) k3)
theorem Ya : bc Tryz.prog W0 325 [pV bm] (jh bm ⟨pv, ps, pm, bud, fr, pg⟩ :: R) (fun v B => ∃ k, v = .int .i64 k ∧ B = jh bm ⟨pv, ps, pm, bud, fr, pg⟩ :: R) := by
 refine tM fun bt bs its T L now d h1 h2 h3 h4 => ?_
 refine gH (Y8 bm pv bt bs ps pm d its 4 now T L fr pg h1 h2 (by decide) h4) fun v B hB => ?_
 obtain ⟨k, its', rfl, rfl, k1, k2⟩ := hB
 exact ⟨_, ⟨k, rfl, rfl⟩, rR k1 (by decide) h3 k2⟩
end
structure VIt where
  n : Int
  p : Int
  s : Int
  hs : 0 ≤ s ∧ s < 10000000000000000000
instance : Hk VIt where
  default := ⟨0, 0, 0, by decide⟩
  ky := fun x => x.s - x.p * 100000000000000000000
@[reducible] def eT (x : VIt) : List Value := [.int .i64 x.n, .int .i64 x.p, .int .i64 x.s]
theorem ji (x : VIt) : (eT x).length = 3 := rfl
theorem qi (its : List VIt) (sp : List Value) (i : Nat) (hi : i < its.length) : ((its.flatMap eT ++ sp).drop (i * 3)).take 3 = eT (its.getD i default) := by
 simp_all [pq, ji, List.getD]
theorem yw (its : List VIt) (sp : List Value) (i : Nat) (x : VIt) (hi : i < its.length) : cz (its.flatMap eT ++ sp) (i * 3) (eT x) = (its.set i x).flatMap eT ++ sp := sy ji its i x sp hi
theorem yx (its : List VIt) (sp : List Value) (i : Nat) (hi : i < its.length) : i * 3 + 3 ≤ (its.flatMap eT ++ sp).length := by
 rw [Qad, cj ji]; omega
theorem Hg {its : List VIt} {i : Nat} (h : i < its.length) : its ≠ [] := fun e => by rw [e] at h; simp at h
abbrev dv : Nat → List VIt × List Value → HP := kS 229 317 3 eT 32
abbrev oR (b : Nat) : Value := .pointer (some ⟨b, 32, none⟩)
theorem Hh (b : Nat) (its : List VIt) (cs : List Value) : sQ W0 232 [oR b] (dv b (its, cs) :: R) (iQ (its.length : Nat)) (dv b (its, cs) :: R) := by
 refine pM fun a c ho => ?_
 refine ab func232 ntmps232 ?_
 refine a6 (aG (aF (dE ho))) ?_
 refine a8 ?_
 exact ⟨_, ⟨rfl, rfl⟩, lx rfl rfl ho rfl⟩
theorem Yb (b : Nat) (its : List VIt) (cs : List Value) (i k : Nat) (hi : i < its.length) (hk : k < its.length) : sQ W0 500 [oR b, iQ i, iQ k] (dv b (its, cs) :: R) (.bool (decide (Hp.us its i < Hp.us its k))) (dv b (its, cs) :: R) := by
 refine nx ji (Hg hi) (by decide) fun g c sp ho h1 h2 h3 => ?_
 obtain ⟨x, hx⟩ : ∃ x, its.getD i default = x := ⟨_, rfl⟩
 obtain ⟨y, hy⟩ : ∃ y, its.getD k default = y := ⟨_, rfl⟩
 have rx := qi its sp i hi
 have ry := qi its sp k hk
 rw [hx] at rx
 rw [hy] at ry
 have e1 : Hp.us its i = x.s - x.p * 100000000000000000000 := by rw [Hp.us, hx]; rfl
 have e2 : Hp.us its k = y.s - y.p * 100000000000000000000 := by rw [Hp.us, hy]; rfl
 have b1 := x.hs
 have b2 := y.hs
 refine lk func500 ntmps500 rfl rfl ?_
 refine aP (aZ (aa rfl (bC rfl) (aN (aD (aP ?_)))))
 refine fH [(b, 0, _), (g, i * 3, eT x), (g, k * 3, eT y)] 18 mixed rfl (bZ (cB (bU rx rfl) (cB (bU ry rfl) bL))) (fun hS => ?_)
 refine ae 0 3 hS ?_
 refine av 3 hS (aG (co (k := 0) rfl (dE ho))) ?_
 refine ae 4 1 hS ?_
 refine av 5 hS (bA hi) ?_
 refine aQ 6 rfl rfl rfl hS (eV I5 w4 rfl (gr (k := 1) rfl) rfl) ?_
 refine aQ 7 rfl rfl rfl hS (aL rfl) ?_
 refine aQ 8 rfl rfl rfl hS (jp rfl) ?_
 refine aQ 9 rfl rfl rfl hS (cG rfl a1L rfl sizeOf225 rfl (by first | exact Qab _ | rfl)) ?_
 refine av 10 hS (aG (co (k := 0) rfl (dE ho))) ?_
 refine ae 11 1 hS ?_
 refine av 12 hS (bA hk) ?_
 refine aQ 13 rfl rfl rfl hS (eV I5 w4 rfl (gr (k := 2) rfl) rfl) ?_
 refine eG (is := [14, 15]) (by kernel_rfl) rfl ⟨?_, ?_, trivial⟩
 refine di (dt u7) ?_; clear hS
 rintro _ _ ⟨bx, rfl, rfl⟩
 refine ⟨(bZ (cB (bU rx rfl) (cB (bU ry rfl) bL))), fun hS => ?_⟩
 refine cg 15 (dt u7) ?_; clear hS
 rintro _ _ ⟨by_, rfl, rfl⟩
 refine ⟨(bZ (cB (bU rx rfl) (cB (bU ry rfl) bL))), fun hS => ?_⟩
 refine iU 16 rfl rfl aC (bZ (cB (bU rx rfl) (cB (bU ry rfl) bL))) fun hS => ?_
 refine iU 17 rfl rfl aC (bZ (cB (bU rx rfl) (cB (bU ry rfl) bL))) fun hS => ?_
 refine aI ?_
 refine ag (fun c2 => ?_) fun c2 => ?_
 refine a8 ?_
 rw [e1, e2]
 refine ⟨_, ⟨Qah Value.bool ?_, rfl⟩, iE ji rfl rfl ho rfl h1 h2 h3⟩
 rw [Qae, Qag, Qag]
 have : x.p ≠ y.p := by omega
 omega
 refine a8 ?_
 rw [e1, e2]
 refine ⟨_, ⟨Qah Value.bool ?_, rfl⟩, iE ji rfl rfl ho rfl h1 h2 h3⟩
 rw [Qae, Qag, Qag]
 have : x.p = y.p := by omega
 omega
 skip
 refine di (dt u7) ?_; clear hS
 rintro _ _ ⟨by_, rfl, rfl⟩
 refine ⟨(bZ (cB (bU rx rfl) (cB (bU ry rfl) bL))), fun hS => ?_⟩
 refine cg 14 (dt u7) ?_; clear hS
 rintro _ _ ⟨bx, rfl, rfl⟩
 refine ⟨(bZ (cB (bU rx rfl) (cB (bU ry rfl) bL))), fun hS => ?_⟩
 refine iU 16 rfl rfl aC (bZ (cB (bU rx rfl) (cB (bU ry rfl) bL))) fun hS => ?_
 refine iU 17 rfl rfl aC (bZ (cB (bU rx rfl) (cB (bU ry rfl) bL))) fun hS => ?_
 refine aI ?_
 refine ag (fun c2 => ?_) fun c2 => ?_
 refine a8 ?_
 rw [e1, e2]
 refine ⟨_, ⟨Qah Value.bool ?_, rfl⟩, iE ji rfl rfl ho rfl h1 h2 h3⟩
 rw [Qae, Qag, Qag]
 have : x.p ≠ y.p := by omega
 omega
 refine a8 ?_
 rw [e1, e2]
 refine ⟨_, ⟨Qah Value.bool ?_, rfl⟩, iE ji rfl rfl ho rfl h1 h2 h3⟩
 rw [Qae, Qag, Qag]
 have : x.p = y.p := by omega
 omega
theorem Yc (b : Nat) (its : List VIt) (cs : List Value) (i k : Nat) (hi : i < its.length) (hk : k < its.length) : sQ W0 503 [oR b, iQ i, iQ k] (dv b (its, cs) :: R) (.tuple #[]) (dv b (Hp.swapL its i k, cs) :: R) := by
 refine nx ji (Hg hi) (by decide) fun g c sp ho h1 h2 h3 => ?_
 refine ab func503 ntmps503 ?_
 refine bB [b] 28 fun hS => ?_
 refine ae 0 3 hS ?_
 refine av 3 hS (aG (co (k := 0) rfl (dE ho))) ?_
 refine ae 4 4 hS ?_
 refine av 8 hS (aG (co (k := 0) rfl (dE ho))) ?_
 refine ae 9 4 hS ?_
 refine av 13 hS (aG (co (k := 0) rfl (dE ho))) ?_
 refine ae 14 1 hS ?_
 refine av 15 hS (bA hk) ?_
 refine ae 17 3 hS ?_
 refine av 20 hS (aG (co (k := 0) rfl (dE ho))) ?_
 refine ae 21 1 hS ?_
 refine av 22 hS (bA hi) ?_
 refine eG (is := [16, 23]) (by kernel_rfl) rfl ⟨?_, ?_, trivial⟩
 refine di (db (cJ (bU (qi its sp k hk) rfl))) ?_; clear hS
 rintro _ _ ⟨rfl, rfl⟩
 refine ⟨aK, fun hS => ?_⟩
 refine bJ 23 (db (cJ (bU (qi its sp i hi) rfl))) fun hS => ?_
 refine av 24 hS (bA hi) ?_
 refine cq 25 (gK (yx its sp i hi) (yw its sp i (its.getD k default) hi)) fun hS => ?_
 refine av 26 hS (bA hk) ?_
 refine cq 27 (gK (yx (its.set i (its.getD k default)) sp k (by grind)) (yw (its.set i (its.getD k default)) sp k (its.getD i default) (by grind))) fun hS => ?_
 refine aI ?_
 refine bM (.inr rfl) .nil ?_
 exact ⟨_, ⟨rfl, rfl⟩, iE ji rfl rfl ho (by simp [Hp.swapL]) (by omega) h2 (by rw [Qad, cj ji] at h3 ⊢; simpa [Hp.swapL] using h3)⟩
 skip
 refine di (db (cJ (bU (qi its sp i hi) rfl))) ?_; clear hS
 rintro _ _ ⟨rfl, rfl⟩
 refine ⟨aK, fun hS => ?_⟩
 refine bJ 16 (db (cJ (bU (qi its sp k hk) rfl))) fun hS => ?_
 refine av 24 hS (bA hi) ?_
 refine cq 25 (gK (yx its sp i hi) (yw its sp i (its.getD k default) hi)) fun hS => ?_
 refine av 26 hS (bA hk) ?_
 refine cq 27 (gK (yx (its.set i (its.getD k default)) sp k (by grind)) (yw (its.set i (its.getD k default)) sp k (its.getD i default) (by grind))) fun hS => ?_
 refine aI ?_
 refine bM (.inr rfl) .nil ?_
 exact ⟨_, ⟨rfl, rfl⟩, iE ji rfl rfl ho (by simp [Hp.swapL]) (by omega) h2 (by rw [Qad, cj ji] at h3 ⊢; simpa [Hp.swapL] using h3)⟩
theorem Yd (b : Nat) (its : List VIt) (x : VIt) (cs : List Value) : sQ W0 501 [oR b] (dv b (its ++ [x], cs) :: R) (.iface 317 (.agg (eT x).toArray)) (dv b (its, cs) :: R) := by
 refine nx ji (by simp) (by decide) fun g c sp ho h1 h2 h3 => ?_
 have hl : (its ++ [x]).length = its.length + 1 := by simp
 rw [hl] at h1 ⊢
 have hg : (its ++ [x]).getD its.length default = x := by grind
 have hr := qi (its ++ [x]) sp its.length (by omega)
 rw [hg] at hr
 have he : (its ++ [x]).flatMap eT ++ sp = its.flatMap eT ++ (eT x ++ sp) := by simp
 refine ab func501 ntmps501 ?_
 refine a6 (aG (aF (dE ho))) ?_
 refine a6 (iq rfl rfl (by rw [bN (by simp only [maxLen] at h2; omega)]; omega : IntKind.wrap .i64 (((its.length + 1 : Nat) : Int) - 1) = ((its.length : Nat) : Int))) ?_
 refine a6 (aG (aF (dE ho))) ?_
 refine a6 (bA (by omega)) ?_
 refine a6 (cJ (bU hr rfl)) ?_
 refine bu fun b1 => ?_
 refine ax aC ?_
 refine a6 (aG (aF (dE ho))) ?_
 refine a6 (lO w5 w4 rfl rfl rfl (by omega)) ?_
 refine ax (dx (by rw [Qao]; exact ho) set_set) ?_
 refine a8 ?_
 rw [he]
 exact ⟨_, ⟨rfl, rfl⟩, iE (sp := eT x ++ sp) ji rfl rfl ho rfl (by omega) h2 (by rw [← he]; exact h3)⟩
theorem Ye (b : Nat) (its : List VIt) (x : VIt) (cs : List Value) (hn : its.length < 1000) : sQ W0 502 [oR b, .iface 317 (.agg (eT x).toArray)] (dv b (its, cs) :: R) (.tuple #[]) (dv b (its ++ [x], cs) :: R) := by
 refine pM fun a c ho => ?_
 have he : its.flatMap eT ++ [eT x].flatten = (its ++ [x]).flatMap eT := by simp
 refine lk func502 ntmps502 rfl rfl ?_
 refine bB [] 12 fun hS => ?_
 refine ae 0 4 hS ?_
 refine ae 5 1 hS ?_
 refine av 6 hS (pu Io (fun _ h => by cases h) rfl) ?_
 refine eG (is := [4, 7]) (by kernel_rfl) rfl ⟨?_, ?_, trivial⟩
 refine di (db (aG (aF (dE ho)))) ?_; clear hS
 rintro _ _ ⟨rfl, rfl⟩
 refine ⟨aK, fun hS => ?_⟩
 refine li 7 (by kernel_rfl) rfl rfl (iz w5 w4 u7 rfl (eJ rfl rfl gG) rfl (by decide) (by decide) (by decide)) rfl ?_; clear hS
 rintro _ _ ⟨b1, rfl, rfl⟩
 refine ⟨aK, fun hS => ?_⟩
 refine cg 8 (eI (sz := 3) (by_ := 24) (info := Tryz.t317) w5 (by kernel_rfl) rfl rfl rfl rfl (by decide) rfl rfl eA rfl rfl (by simp only [maxLen]; omega) (by omega)) ?_; clear hS
 rintro _ _ ⟨a1, c1, rfl, rfl⟩
 refine ⟨aK, fun hS => ?_⟩
 refine ae 9 2 hS ?_
 refine cq 11 (dx (by grind) set_set) fun hS => ?_
 refine fy ?_
 refine bM (.inr rfl) .nil ?_
 exact ⟨_, ⟨rfl, rfl⟩, lx (its := its ++ [x]) he rfl ho (by simp)⟩
 skip
 refine kJ rfl rfl (iz w5 w4 u7 rfl (eJ rfl rfl gG) rfl (by decide) (by decide) (by decide)) rfl ?_; clear hS
 rintro _ _ ⟨b1, rfl, rfl⟩
 refine ⟨aK, fun hS => ?_⟩
 refine bJ 4 (db (aG (aF (dE ho)))) fun hS => ?_
 refine cg 8 (eI (sz := 3) (by_ := 24) (info := Tryz.t317) w5 (by kernel_rfl) rfl rfl rfl rfl (by decide) rfl rfl eA rfl rfl (by simp only [maxLen]; omega) (by omega)) ?_; clear hS
 rintro _ _ ⟨a1, c1, rfl, rfl⟩
 refine ⟨aK, fun hS => ?_⟩
 refine ae 9 2 hS ?_
 refine cq 11 (dx (by grind) set_set) fun hS => ?_
 refine aI ?_
 refine bM (.inr rfl) .nil ?_
 exact ⟨_, ⟨rfl, rfl⟩, lx (its := its ++ [x]) he rfl ho (by simp)⟩
section
variable (w : World) (a : Addr)
theorem Yf : (method (Tryz.prog.types.size + Made.depth) 315 (.pointer (some a)) "Len").run Tryz.prog w = .ok (232, .pointer (some a)) w := by kernel_rfl
theorem Yg : (method (Tryz.prog.types.size + Made.depth) 315 (.pointer (some a)) "Less").run Tryz.prog w = .ok (500, .pointer (some a)) w := by kernel_rfl
theorem Yh : (method (Tryz.prog.types.size + Made.depth) 315 (.pointer (some a)) "Swap").run Tryz.prog w = .ok (503, .pointer (some a)) w := by kernel_rfl
theorem Yi : (method (Tryz.prog.types.size + Made.depth) 315 (.pointer (some a)) "Push").run Tryz.prog w = .ok (502, .pointer (some a)) w := by kernel_rfl
theorem Yj : (method (Tryz.prog.types.size + Made.depth) 315 (.pointer (some a)) "Pop").run Tryz.prog w = .ok (501, .pointer (some a)) w := by kernel_rfl
end
def BD (W0 : World) (b : Nat) (cs : List Value) : HpO W0 VIt where
  T := 315
  p := oR b
  el := fun x => .iface 317 (.agg (eT x).toArray)
  H := fun l => dv b (l, cs)
  fL := 232
  fE := 500
  fS := 503
  fU := 502
  fO := 501
  mL := fun u => Yf u _
  mE := fun u => Yg u _
  mS := fun u => Yh u _
  mU := fun u => Yi u _
  mO := fun u => Yj u _
  cL := call232
  cE := call500
  cS := call503
  cU := call502
  cO := call501
  sL := fun R l => Hh b l cs
  sE := fun R l i j hi hj => Yb b l cs i j hi hj
  sS := fun R l i j hi hj => Yc b l cs i j hi hj
  sU := fun R l x hl => Ye b l x cs hl
  sO := fun R l x => Yd b l x cs
theorem Yk (b : Nat) (its : List VIt) (x : VIt) (cs : List Value) (hN : its.length < 900) (hh : Hp.Heap its its.length) : sP W0 149 [.iface 315 (oR b), .iface 317 (.agg (eT x).toArray)] (dv b (its, cs) :: R) (fun v B => v = .tuple #[] ∧ ∃ its', B = dv b (its', cs) :: R ∧ its'.Perm (its ++ [x]) ∧ Hp.Heap its' its'.length) :=
  Hp.heapPush_spec (BD W0 b cs) R its x hN hh
theorem Yl (b : Nat) (its : List VIt) (cs : List Value) (hN : its.length < 900) (h0 : its ≠ []) (hh : Hp.Heap its its.length) : sP W0 196 [.iface 315 (oR b)] (dv b (its, cs) :: R) (fun v B => ∃ x its', v = .iface 317 (.agg (eT x).toArray) ∧ B = dv b (its', cs) :: R ∧ (its' ++ [x]).Perm its ∧ Hp.Heap its' its'.length ∧ ∀ y ∈ its, Hk.ky x ≤ Hk.ky y) :=
  Hp.heapPop_spec (BD W0 b cs) R its hN h0 hh
namespace Hp
variable {W0 : World} {α : Type} [Hk α] (o : HpO W0 α)
theorem heapRemove_spec (R : List HP) (its : List α) (i : Nat) (hN : its.length < 900) (hi : i < its.length) (hh : Heap its its.length) : sP W0 272 [iv o, iQ i] (kH 0 (o.H its) :: R) (fun v B => ∃ its', v = o.el (its.getD i default) ∧ B = kH 0 (o.H its') :: R ∧ (its' ++ [its.getD i default]).Perm its ∧ Heap its' its'.length) := by
 obtain ⟨n, hn⟩ : ∃ n, its.length = n + 1 := ⟨its.length - 1, by omega⟩
 have hs : i ≠ n → gL (swapL its i n) i n := fun hin c hc h0 => ⟨fun h1 h2 => by
  rw [iX (by omega) (by omega), iX (by omega) (by omega), Qac h2, Qac h1, Qac (by omega), Qac (by omega)]
  exact hh c (by omega) h0, fun h1 h2 => by
  rw [iX (by omega) (by omega), iX (by omega) (by omega), Qac (by omega), Qac (by omega), Qac (by omega), Qac (by omega)]
  have k1 := hh c (by omega) h0
  have k2 := hh i (by omega) h2
  rw [h1] at k1; omega⟩
 have hsl := v4 its i n
 have fin : ∀ l : List α, l.Perm its → Heap l n → l.getD n default = its.getD i default → ∃ l', l = l' ++ [its.getD i default] ∧ l'.length = n ∧ Heap l' l'.length := fun l hp hH hx => by
  have := hp.length_eq
  obtain ⟨l', x, rfl, hl', hx'⟩ := ve (l := l) (n := n) (by omega)
  rw [hx] at hx'; subst hx'
  exact ⟨l', rfl, hl', by rw [hl']; exact vf hH (by omega)⟩
 have hend : i ≠ n → (swapL its i n).getD n default = its.getD i default := fun h => by
  rw [oC (by omega) (by omega), Qac (by omega), Qaf rfl]
 refine ab func272 ntmps272 ?_
 refine ac (dV rfl o.mL o.cL rfl (o.sL _ its)) ?_
 refine a6 (lQ n) ?_
 refine ag (fun c2 => ?_) fun c2 => ?_
 have hin : i ≠ n := by omega
 refine ac (dV rfl o.mS o.cS rfl (o.sS _ its i n (by omega) (by omega))) ?_
 refine am rfl (ah w9 (t2 o _ (swapL its i n) i n (by omega) (by omega) (by omega) (hs hin))) ?_
 rintro _ _ ⟨l, m, rfl, rfl, hD⟩
 have hll := hD.perm.length_eq
 refine aw ?_
 refine ag (fun c4 => ?_) fun c4 => ?_
 have hm : m = false := by simpa using c4
 obtain ⟨rfl, hmin⟩ := hD.no hm
 refine am rfl (ah zc (sZ o _ (swapL its i n) i n (by omega) (by omega) (by omega) (xk (hs hin) hmin))) ?_
 rintro _ _ ⟨rfl, l, rfl, hp, hH, ht⟩
 obtain ⟨l', rfl, hl', hH⟩ := fin l (hp.trans (iC (by omega) (by omega))) hH ((ht n (Qap _)).trans (hend hin))
 replace hp := hp.trans (iC (by omega) (by omega))
 generalize its.getD i default = x at hp ⊢
 refine aw ?_
 refine ac (dV rfl o.mO o.cO rfl (o.sO _ l' x)) ?_
 refine a8 ?_
 exact ⟨_, ⟨l', rfl, rfl, by first | exact hp | exact QaI _, hH⟩, IO⟩
 have hm : m = true := by simpa using c4
 obtain ⟨l', rfl, hl', hH⟩ := fin l (hD.perm.trans (iC (by omega) (by omega))) (hD.yes hm) ((hD.tail n (Qap _)).trans (hend hin))
 have hp := hD.perm.trans (iC (l := its) (i := i) (j := n) (by omega) (by omega))
 generalize its.getD i default = x at hp ⊢
 refine ac (dV rfl o.mO o.cO rfl (o.sO _ l' x)) ?_
 refine a8 ?_
 exact ⟨_, ⟨l', rfl, rfl, by first | exact hp | exact QaI _, hH⟩, IO⟩
 obtain rfl : n = i := by omega
 obtain ⟨l', hl, hl', hH⟩ := fin its (QaI _) (Ap hh (by omega)) rfl
 have hp : (l' ++ [its.getD n default]).Perm its := by rw [← hl]
 generalize hx : its.getD n default = x at hl hp ⊢
 rw [hl]
 refine ac (dV rfl o.mO o.cO rfl (o.sO _ l' x)) ?_
 refine a8 ?_
 exact ⟨_, ⟨l', rfl, rfl, by first | exact hp | exact QaI _, hH⟩, IO⟩
end Hp
structure Li where
  w : Bool
  m : Bool
  p : Int
  s : Int
  hs : 0 ≤ s ∧ s < 10000000000000000000
instance : Inhabited Li := ⟨⟨false, false, 0, 0, by decide⟩⟩
@[reducible] def mw (x : Li) : List Value := [.bool x.w, .bool x.m, .int .i64 x.p, .int .i64 x.s]
theorem qj (x : Li) : (mw x).length = 4 := rfl
def d5 (ls : List Li) (now : Int) : List Value := ls.flatMap mw ++ [.slice none 0 0, .int .i64 now, .bool true]
theorem vM {ls : List Li} {now : Int} (h : ls.length = 8) : (d5 ls now).length = 35 := by
 rw [d5, Qad, cj qj, h]; rfl
theorem Ym {ls : List Li} {now : Int} (h : ls.length = 8) : (d5 ls now)[34]? = some (.bool true) := by
 rw [d5, Qbi (by rw [cj qj, h]; decide), cj qj, h]; rfl
theorem Hi {ls : List Li} {now : Int} (h : ls.length = 8) : (d5 ls now)[33]? = some (iQ now) := by
 rw [d5, Qbi (by rw [cj qj, h]; decide), cj qj, h]; rfl
theorem Yn {ls : List Li} {now : Int} {n j : Nat} (hn : n < ls.length) (hj : j < 4) : (d5 ls now)[n * 4 + j]? = (mw (ls.getD n default))[j]? := by
 simp_all [d5, lj, qj]
theorem Yo {W0 : World} {A R : List HP} {T E : TypeId} {sz o b off : Nat} {α : Type} {f : α → List Value} {its : List α} {cs vs : List Value} [hk : Tk (kS T E sz f o) b A (its, cs) R] (h : ∀ j v, vs[j]? = some v → off + j ≠ o ∧ cs[off + j]? = some v) : aT (aB W0 A) b off vs :=
  fun j v hj => vd (o := o) (f := f) (T := T) (E := E) (sz := sz) (h j v hj).1 (h j v hj).2
theorem Hj (b : Nat) (its : List VIt) (ls : List Li) (now : Int) (h : ls.length = 8) : sQ W0 193 [pV b] (dv b (its, d5 ls now) :: R) (.bool false) (dv b (its, d5 ls now) :: R) := by
 refine ab func193 ntmps193 ?_
 refine cR rfl rfl rfl (fun g1_3 => ?_) fun g1_3 => ?_
 cases g1_3
 refine aw ?_
 refine a6 (aG (vd (b := b) (T := 229) (E := 317) (sz := 3) (f := eT) (o := 32) (by decide) (Ym h))) ?_
 exact a8 aj
def jz (n : Int) : Bool := decide (0 ≤ n ∧ n < 8)
theorem BE (b : Nat) (its : List VIt) (ls : List Li) (now : Int) (h : ls.length = 8) (n : Int) : sQ W0 120 [pV b, iQ n] (dv b (its, d5 ls now) :: R) (iQ (if jz n then 0 else 1)) (dv b (its, d5 ls now) :: R) := by
 refine ab func120 ntmps120 ?_
 refine ac (ah call193 (Hj b its ls now h)) ?_
 refine ag (fun c3 => ?_) fun c3 => ?_
 refine a8 ?_
 rw [Qac (by grind [jz])]
 exact aj
 refine ag (fun c4 => ?_) fun c4 => ?_
 refine a8 ?_
 rw [Qac (by grind [jz])]
 exact aj
 refine a8 ?_
 rw [Qaf (by grind [jz])]
 exact aj
theorem Yp (b : Nat) (its : List VIt) (cs : List Value) (i : Nat) (hN : its.length < 900) (hi : i < its.length) (hh : Hp.Heap its its.length) : sP W0 272 [.iface 315 (oR b), iQ i] (dv b (its, cs) :: R) (fun v B => ∃ its', v = .iface 317 (.agg (eT (its.getD i default)).toArray) ∧ B = dv b (its', cs) :: R ∧ (its' ++ [its.getD i default]).Perm its ∧ Hp.Heap its' its'.length) :=
  Hp.heapRemove_spec (BD W0 b cs) R its i hN hi hh
theorem Hl {its' its : List VIt} {x : VIt} {n : Int} (hp : (its' ++ [x]).Perm its) (hx : x.n = n) (hnd : (its.map (·.n)).Nodup) : its'.Perm (its.filter fun y => y.n != n) := by
 have h1 := hp.filter (fun y => y.n != n)
 have h2 : ((its' ++ [x]).map (·.n)).Nodup := (hp.map (·.n)).symm.nodup hnd
 have h3 : ∀ y ∈ its', (y.n != n) = true := fun y hy => by
  rw [QaF, Qbo] at h2
  have := h2.2.2 _ (List.mem_map_of_mem hy) _ (Qcf.2 rfl)
  simp only [Qcz, ne_eq]
  intro e; exact this (by rw [e, ← hx])
 rw [QbH, Qbe.2 h3] at h1
 have h4 : [x].filter (fun y => y.n != n) = [] := by simp [hx]
 rw [h4, Qav] at h1
 exact h1
theorem Yq (b : Nat) (its : List VIt) (ls : List Li) (now : Int) (h : ls.length = 8) (n : Int) (hN : its.length < 900) (hh : Hp.Heap its its.length) (hnd : (its.map (·.n)).Nodup) : sP W0 194 [pV b, iQ n] (dv b (its, d5 ls now) :: R) (fun v B => v = .tuple #[] ∧ ∃ its', B = dv b (its', d5 ls now) :: R ∧ its'.Perm (its.filter fun y => y.n != n) ∧ Hp.Heap its' its'.length) := by
 by_cases h0 : its = []
 subst h0
 refine pM fun a c ho => ?_
 refine ab func194 ntmps194 ?_
 refine a6 (aG (aF (dE ho))) ?_
 refine cK (fun _ : Unit => True) (fun _ => [(11, iQ 0), (12, iQ 0)]) (fun _ => pt b (a7 ((d5 ls now).set 32 (.slice a ([] : List VIt).length c)) 229) :: osl 317 3 (.slice a ([] : List VIt).length c) (([] : List VIt).flatMap eT) :: R) (fun _ => 0) () ?_ ?_
 trivial
 intro _ _
 refine aw ?_
 refine aA rfl (fun c1 => ?_) fun c1 => ?_
 omega
 refine aw ?_
 refine bM (.inr rfl) .nil ?_
 exact ⟨_, ⟨rfl, [], rfl, QaI _, hh⟩, lx rfl rfl ho rfl⟩
 refine nx ji h0 (by decide) fun g c sp ho h1 h2 h3 => ?_
 refine ab func194 ntmps194 ?_
 refine a6 (aG (aF (dE ho))) ?_
 refine cK (fun k : Nat => k ≤ its.length ∧ ∀ j, j < k → (its.getD j default).n ≠ n) (fun k => [(0, pV b), (1, iQ n), (10, .slice (some ⟨g, 0, none⟩) its.length c), (11, iQ (its.length : Nat)), (12, iQ k)]) (fun k => pt b (a7 ((d5 ls now).set 32 (.slice (some ⟨g, 0, none⟩) its.length c)) 229) :: pt g (a7 (its.flatMap eT ++ sp) 317) :: R) (fun k => its.length - k) 0 ?_ ?_
 grind
 intro k ⟨hk, hj⟩
 refine aw ?_
 refine ag (fun c1 => ?_) fun c1 => ?_
 have hk1 : k < its.length := by omega
 obtain ⟨x, hx⟩ : ∃ x, its.getD k default = x := ⟨_, rfl⟩
 have rx := qi its sp k hk1
 rw [hx] at rx
 refine a6 (bA hk1) ?_
 refine a6 (cJ (bU rx rfl)) ?_
 refine bu fun b5 => ?_
 refine ax aC ?_
 refine ag (fun c3 => ?_) fun c3 => ?_
 refine fF (B := dv b (its, d5 ls now) :: pt b5 (a7 (eT x) 317) :: R) (iE ji rfl rfl ho rfl h1 h2 h3) ?_
 refine aw ?_
 refine am rfl (ah call272 (Yp b its (d5 ls now) k hN hk1 hh)) ?_
 rintro _ B_ ⟨its', rfl, hB_, hp, hH⟩
 obtain rfl := hB_.symm
 refine aw ?_
 refine bM (.inl rfl) .nil ?_
 rw [hx] at hp
 exact ⟨_, ⟨rfl, its', rfl, Hl hp (by omega) hnd, hH⟩, IO⟩
 refine a6 bS ?_
 refine bE (k + 1) ?_
 grind
 refine bM (.inr rfl) .nil ?_
 obtain rfl : k = its.length := by omega
 refine ⟨_, ⟨rfl, its, rfl, ?_, hh⟩, iE ji rfl rfl ho rfl h1 h2 h3⟩
 rw [Qbe.2 fun y hy => ?_]
 obtain ⟨j, hj1, rfl⟩ := Qbl.1 hy
 have := hj j hj1
 rw [Qau, Qbd hj1] at this
 simpa using this
theorem BF {W0 : World} {A R : List HP} {b : Nat} {its : List VIt} {ls : List Li} {now : Int} {n : Nat} [hk : Tk dv b A (its, d5 ls now) R] (hls : ls.length = 8) (hn : n < 8) : aT (aB W0 A) b (n * 4) (mw (ls.getD n default)) :=
  Yo (T := 229) (E := 317) (sz := 3) (o := 32) (f := eT) (its := its) (cs := d5 ls now) (R := R) (hk := hk) fun j v hv => by
 have hj : j < 4 := by
  grind
 exact ⟨by omega, (Yn (by omega) hj).trans hv⟩
def oS (n : Int) (x : Li) : List VIt := if x.w && !x.m then [⟨n, x.p, x.s, x.hs⟩] else []
theorem Yr (b : Nat) (its : List VIt) (ls : List Li) (now : Int) (h : ls.length = 8) (n : Nat) (hn : n < 8) (hN : its.length < 800) (hh : Hp.Heap its its.length) (hnd : (its.map (·.n)).Nodup) : sP W0 121 [pV b, iQ n] (dv b (its, d5 ls now) :: R) (fun v B => v = .tuple #[] ∧ ∃ its', B = dv b (its', d5 ls now) :: R ∧ its'.Perm ((its.filter fun y => y.n != (n : Int)) ++ oS n (ls.getD n default)) ∧ Hp.Heap its' its'.length) := by
 obtain ⟨x, hx⟩ : ∃ x, ls.getD n default = x := ⟨_, rfl⟩
 rw [hx]
 refine ab func121 ntmps121 ?_
 refine am rfl (ah call194 (Yq b its ls now h (n : Int) (by omega) hh hnd)) ?_
 rintro _ B_ ⟨rfl, its1, hB_, hp1, hH1⟩
 obtain rfl := hB_.symm
 have hl1 : its1.length ≤ its.length := by rw [hp1.length_eq]; exact QaT _ _
 have hline : aT (aB W0 (dv b (its1, d5 ls now) :: R)) b (n * 4) (mw x) := by grind [BF]
 refine aw ?_
 refine a6 (i4 hn) ?_
 refine a6 (cJ hline) ?_
 refine bu fun bl => ?_
 refine ax aC ?_
 refine cM (fun g2_3 => ?_) fun g2_3 => ?_
 refine ag (fun c2 => ?_) fun c2 => ?_
 refine bB [bl] 12 fun hS => ?_
 refine ae 0 11 hS ?_
 refine cg 11 (ah Cp (Yk b its1 ⟨n, x.p, x.s, x.hs⟩ (d5 ls now) (by omega) hH1)) ?_; clear hS
 rintro _ B_ ⟨rfl, its2, hB_, hp2, hH2⟩
 obtain rfl := hB_.symm
 refine ⟨aK, fun hS => ?_⟩
 refine aI ?_
 refine bM (.inr rfl) .nil ?_
 refine ⟨_, ⟨rfl, its2, rfl, ?_, hH2⟩, IO⟩
 rw [oS, Qaf (by simp_all)]
 exact hp2.trans (hp1.append_right _)
 refine bM (.inr rfl) .nil ?_
 refine ⟨_, ⟨rfl, its1, rfl, ?_, hH1⟩, IO⟩
 rw [oS, Qac (by simp_all), Qav]
 exact hp1
 refine bM (.inr rfl) .nil ?_
 refine ⟨_, ⟨rfl, its1, rfl, ?_, hH1⟩, IO⟩
 rw [oS, Qac (by simp_all), Qav]
 exact hp1
theorem Ys {ls : List Li} {now x : Int} {v : Value} (h : ls.length = 8) : ((d5 ls now).set 32 v).set 33 (iQ x) = (d5 ls x).set 32 v := by
 have e : (ls.flatMap mw).length = 32 := by rw [cj qj, h]
 have g : ∀ y : Int, (d5 ls y).set 32 v = ls.flatMap mw ++ [v, iQ y, .bool true] := fun y => by
  rw [d5, Qbp _ _ (by omega), e]; rfl
 rw [g, g, Qbp _ _ (by omega), e]; rfl
theorem BG {ls : List Li} {now : Int} {v u : Value} {n j : Nat} {y : Li} (h : ls.length = 8) (hn : n < 8) (hj : j < 4) (hy : mw y = (mw (ls.getD n default)).set j u) : ((d5 ls now).set 32 v).set (n * 4 + j) u = (d5 (ls.set n y) now).set 32 v := by
 rw [List.set_comm _ _ (by omega)]
 rw [d5, mW qj ls n j u y _ (by omega) hj (by rw [hy]; simp [List.getD, show n < ls.length by omega])]
 rfl
theorem BH {W0 : World} {A R : List HP} {b : Nat} {ls : List Li} {now : Int} {v : Value} [hk : Tk pt b A (a7 ((d5 ls now).set 32 v) 229) R] (h : ls.length = 8) : aT (aB W0 A) b 33 [iQ now] := fun j u hj => by
 match j, hj with
 | 0, hj =>
  rw [← QaY hj]
  exact aF (by rw [QaV (by decide)]; exact Hi h)
 | j + 1, hj => cases hj
theorem Yt (b : Nat) (its : List VIt) (ls : List Li) (now : Int) (h : ls.length = 8) (n : Nat) (hn : n < 8) (hN : its.length < 800) (hh : Hp.Heap its its.length) (hnd : (its.map (·.n)).Nodup) (hw : (ls.getD n default).w = false) (hb : 0 ≤ now + 1 ∧ now + 1 < 10000000000000000000) (hb2 : 0 ≤ now ∧ now < 4611686018427387904) : sP W0 51 [pV b, iQ n] (dv b (its, d5 ls now) :: R) (fun v B => v = iQ 0 ∧ ∃ its', B = dv b (its', d5 (ls.set n ⟨true, (ls.getD n default).m, (ls.getD n default).p, now + 1, hb⟩) (now + 1)) :: R ∧ its'.Perm ((its.filter fun y => y.n != (n : Int)) ++ oS n ⟨true, (ls.getD n default).m, (ls.getD n default).p, now + 1, hb⟩) ∧ Hp.Heap its' its'.length) := by
 obtain ⟨x, hx⟩ : ∃ x, ls.getD n default = x := ⟨_, rfl⟩
 have hnl : n < ls.length := by omega
 have hin : jz (n : Int) = true := by grind [jz]
 rw [hx] at hw ⊢
 refine ab Jd ntmps51 ?_
 refine n1 (ah Je (BE b its ls now h (n : Int))) ?_
 rw [Qaf hin]
 have hline : aT (aB W0 (dv b (its, d5 ls now) :: R)) b (n * 4) (mw x) := by grind [BF]
 refine au 9 ?_
 refine i5 ?_
 refine gJ 1 (i4 hn) ?_
 refine a6 (aG (hline 0 _ rfl)) ?_
 refine ag (fun c4 => ?_) fun c4 => ?_
 refine xp (b := b) (T := 229) (E := 317) (sz := 3) (f := eT) (o := 32) fun a c ho => ?_
 refine aw ?_
 refine a6 (aG (aF (by rw [QaV (by decide)]; exact Hi h))) ?_
 refine a6 bS ?_
 refine ax (dx (by grind [Qao, vM]) (Ys h)) ?_
 refine fH [(b, 33, [iQ (now + 1)])] 18 mixed rfl (cB (BH (by simp [h])) bL) (fun hS => ?_)
 refine ae 0 7 hS ?_
 refine av 7 hS (aG (wE (k := 0) rfl)) ?_
 refine ae 8 2 hS ?_
 refine av 10 hS (i4 hn) ?_
 refine ae 11 1 hS ?_
 refine ae 13 2 hS ?_
 refine iU 12 rfl rfl (dx (by grind [vM]) (BG (y := ⟨true, x.m, x.p, x.s, x.hs⟩) h hn (by decide) (by rw [hx]; rfl))) (cB (BH (by simp [h])) bL) fun hS => ?_
 refine av 15 hS (i4 hn) ?_
 refine ae 16 1 hS ?_
 refine iU 17 rfl rfl (dx (by grind [Qao, vM]) (BG (y := ⟨true, x.m, x.p, now + 1, hb⟩) (by simp [h]) hn (by decide) (by grind))) (cB (BH (by simp [h])) bL) fun hS => ?_
 refine aI ?_
 rw [List.set_set]
 refine fF (B := dv b (its, d5 (ls.set n ⟨true, x.m, x.p, now + 1, hb⟩) (now + 1)) :: R) (lx rfl rfl (by grind [vM]) rfl) ?_
 refine aw ?_
 refine am rfl (ah call121 (Yr b its (ls.set n ⟨true, x.m, x.p, now + 1, hb⟩) (now + 1) (by simp [h]) n hn hN hh hnd)) ?_
 rintro _ B_ ⟨rfl, its', hB_, hp, hH⟩
 obtain rfl := hB_.symm
 rw [show (ls.set n ⟨true, x.m, x.p, now + 1, hb⟩).getD n default = ⟨true, x.m, x.p, now + 1, hb⟩ by simp [List.getD, hnl]] at hp
 refine aw ?_
 refine a8 ?_
 exact ⟨_, ⟨rfl, its', rfl, hp, hH⟩, IO⟩
 exact absurd (by rw [hw]; decide) c4
theorem Yu (b : Nat) (its : List VIt) (ls : List Li) (now : Int) (h : ls.length = 8) (n : Nat) (hn : n < 8) (hw : (ls.getD n default).w = true) : sQ W0 51 [pV b, iQ n] (dv b (its, d5 ls now) :: R) (iQ 0) (dv b (its, d5 ls now) :: R) := by
 obtain ⟨x, hx⟩ : ∃ x, ls.getD n default = x := ⟨_, rfl⟩
 have hin : jz (n : Int) = true := by grind [jz]
 rw [hx] at hw
 refine ab Jd ntmps51 ?_
 refine n1 (ah Je (BE b its ls now h (n : Int))) ?_
 rw [Qaf hin]
 have hline : aT (aB W0 (dv b (its, d5 ls now) :: R)) b (n * 4) (mw x) := by grind [BF]
 refine au 9 ?_
 refine i5 ?_
 refine gJ 1 (i4 hn) ?_
 refine a6 (aG (hline 0 _ rfl)) ?_
 refine ag (fun c4 => ?_) fun c4 => ?_
 exact absurd c4 (by rw [hw]; decide)
 exact a8 aj
theorem Yv (b : Nat) (its : List VIt) (ls : List Li) (now : Int) (h : ls.length = 8) (n : Int) (hn : jz n = false) : sQ W0 51 [pV b, iQ n] (dv b (its, d5 ls now) :: R) (iQ 1) (dv b (its, d5 ls now) :: R) := by
 refine ab Jd ntmps51 ?_
 refine n1 (ah Je (BE b its ls now h n)) ?_
 rw [Qac (by grind)]
 refine aw ?_
 refine ag (fun c2 => ?_) fun c2 => ?_
 exact a8 aj
 exact absurd (by decide) c2
end
section
def iM (ls : List Li) (n : Nat) : Bool := (ls.getD n default).w && !(ls.getD n default).m
def my (ls : List Li) (n : Nat) : VIt := ⟨n, (ls.getD n default).p, (ls.getD n default).s, (ls.getD n default).hs⟩
def jA (ls : List Li) : List VIt := ((List.range 8).filter (iM ls)).map (my ls)
theorem Yw (ls : List Li) (n : Nat) : oS (n : Int) (ls.getD n default) = if iM ls n then [my ls n] else [] := rfl
theorem BI {ls : List Li} {y : VIt} : y ∈ jA ls ↔ ∃ n, n < 8 ∧ iM ls n = true ∧ my ls n = y := by
 simp only [jA, Qbm, QaL, Qbs]
 exact ⟨fun ⟨n, ⟨h1, h2⟩, h3⟩ => ⟨n, h1, h2, h3⟩, fun ⟨n, h1, h2, h3⟩ => ⟨n, ⟨h1, h2⟩, h3⟩⟩
theorem Hm (ls : List Li) : (jA ls).length ≤ 8 := by
 rw [jA, Qax]
 exact QaR (QaT _ _) (by simp)
theorem Hn {α β : Type} {f : α → β} (hf : ∀ a b, f a = f b → a = b) : ∀ {l : List α}, l.Nodup → (l.map f).Nodup
 | [], _ => List.nodup_nil
 | a :: l, h => by
  rw [QbW] at h
  rw [QaG, QbW]
  refine ⟨fun hm => ?_, Hn hf h.2⟩
  obtain ⟨b, hb, e⟩ := Qbm.1 hm
  exact h.1 (hf _ _ e ▸ hb)
theorem Yx (ls : List Li) : ((jA ls).map (·.n)).Nodup := by
 rw [jA, QbY]
 refine Hn (fun a b e => ?_) (List.nodup_range.sublist QbA)
 have : ((a : Nat) : Int) = ((b : Nat) : Int) := e
 omega
theorem Yy (n : Nat) (hn : n < 8) : (List.range 8).Perm ((List.range 8).filter (· != n) ++ [n]) := by
 refine (List.perm_ext_iff_of_nodup List.nodup_range ?_).2 fun a => ?_
 rw [Qbo]
 refine ⟨List.nodup_range.sublist QbA, by simp, fun a ha b hb e => ?_⟩
 rw [Qcf] at hb
 have := (QaL.1 ha).2
 subst hb; subst e
 simp at this
 simp only [Qbc, QaL, Qbs, Qcf, Qcz, ne_eq]
 omega
theorem Yz (ls : List Li) (n : Nat) : ((jA ls).filter fun y => y.n != (n : Int)) = (((List.range 8).filter (· != n)).filter (iM ls)).map (my ls) := by
 rw [jA, List.filter_map, List.filter_filter, List.filter_filter]
 congr 1
 apply List.filter_congr
 intro a _
 have : ((fun y : VIt => y.n != (n : Int)) ∘ my ls) a = (a != n) := by
  show (((a : Nat) : Int) != ((n : Nat) : Int)) = (a != n)
  rw [Qae, Qcz, Qcz]
  omega
 rw [this, Bool.and_comm]
theorem vN {α : Type} [Inhabited α] {l : List α} {n k : Nat} {x : α} (h : k ≠ n) : (l.set n x).getD k default = l.getD k default := by
 simp only [Qau]
 rw [QaV (fun e => h e.symm)]
theorem yy {α : Type} [Inhabited α] {l : List α} {n : Nat} {x : α} (h : n < l.length) : (l.set n x).getD n default = x := by
 simp [List.getD, h]
theorem YA {ls ls' : List Li} {n : Nat} (h : ∀ k, k ≠ n → ls'.getD k default = ls.getD k default) : (((List.range 8).filter (· != n)).filter (iM ls')).map (my ls') = (((List.range 8).filter (· != n)).filter (iM ls)).map (my ls) := by
 have e : ((List.range 8).filter (· != n)).filter (iM ls') = ((List.range 8).filter (· != n)).filter (iM ls) := by
  apply List.filter_congr
  intro a ha
  have : a ≠ n := by simpa using (QaL.1 ha).2
  unfold iM; rw [h a this]
 rw [e]
 apply List.map_congr_left
 intro a ha
 have : a ≠ n := by simpa using (QaL.1 (QaL.1 ha).1).2
 unfold my; congr 1 <;> rw [h a this]
theorem Ho {ls : List Li} {n : Nat} {x : Li} (hn : n < 8) (hl : ls.length = 8) : (((jA ls).filter fun y => y.n != (n : Int)) ++ oS n x).Perm (jA (ls.set n x)) := by
 have e := (((Yy n hn).filter (iM (ls.set n x))).map (my (ls.set n x))).symm
 rw [QbH, QaF, YA (fun k hk => vN hk), ← Yz] at e
 have hx : (([n] : List Nat).filter (iM (ls.set n x))).map (my (ls.set n x)) = oS n x := by
  have := Yw (ls.set n x) n
  rw [yy (by omega)] at this
  rw [this, List.filter_cons, List.filter_nil]
  split <;> rfl
 rw [hx] at e
 exact e
def oT (ls : List Li) (n : Nat) : Int := (ls.getD n default).s - (ls.getD n default).p * 100000000000000000000
def rS (ls : List Li) (n : Nat) : Bool := iM ls n && (List.range 8).all fun k => !iM ls k || decide (oT ls n ≤ oT ls k)
def jX (ls : List Li) : Option Nat := (List.range 8).find? (rS ls)
structure VOk (ls : List Li) (now : Int) : Prop where
  len : ls.length = 8
  nn : 0 ≤ now
  le : ∀ n, n < 8 → (ls.getD n default).s ≤ now
  ne : ∀ n m, n < 8 → m < 8 → n ≠ m → (ls.getD n default).w = true → (ls.getD m default).w = true → (ls.getD n default).s ≠ (ls.getD m default).s
theorem YB {ls : List Li} {now : Int} (h : VOk ls now) {n m : Nat} (hn : n < 8) (hm : m < 8) (h1 : iM ls n = true) (h2 : iM ls m = true) (e : oT ls n = oT ls m) : n = m := by
 rcases Nat.decEq n m with q | q
 have a1 := (ls.getD n default).hs
 have a2 := (ls.getD m default).hs
 simp only [iM, Qar] at h1 h2
 have := h.ne n m hn hm q h1.1 h2.1
 unfold oT at e
 omega
 exact q
theorem YC {ls : List Li} {now : Int} (h : VOk ls now) (hr : jA ls = []) : jX ls = none := by
 unfold jX
 rw [QbS]
 intro n hn hf
 simp only [rS, Qar] at hf
 have : my ls n ∈ jA ls := BI.2 ⟨n, by simpa using hn, hf.1, rfl⟩
 rw [hr] at this
 cases this
theorem YD {ls : List Li} {now : Int} (h : VOk ls now) {n : Nat} (hn : n < 8) (hu : iM ls n = true) (hm : ∀ k, k < 8 → iM ls k = true → oT ls n ≤ oT ls k) : jX ls = some n := by
 have hf : rS ls n = true := by
  simp only [rS, Qar, QbF]
  refine ⟨hu, fun k hk => ?_⟩
  cases q : iM ls k with
  | false => rfl
  | true => simpa using hm k (by simpa using hk) q
 unfold jX
 cases q : (List.range 8).find? (rS ls) with
 | none =>
  rw [QbS] at q
  exact absurd hf (q n (by simpa using hn))
 | some m =>
  have h1 := List.find?_some q
  have h2 : m < 8 := by simpa using QbV q
  simp only [rS, Qar, QbF] at h1
  have h3 : oT ls m ≤ oT ls n := by
   have := h1.2 n (by simpa using hn)
   simpa [hu] using this
  rw [YB h hn h2 hu h1.1 (Int.le_antisymm (hm m h2 h1.1) h3)]
theorem yz {ls : List Li} {n : Nat} (h : jX ls = some n) : n < 8 ∧ iM ls n = true := by
 unfold jX at h
 have h1 := List.find?_some h
 simp only [rS, Qar] at h1
 exact ⟨by simpa using QbV h, h1.1⟩
def nO (ls : List Li) (now : Int) (n : Nat) : List Li := if h : (ls.getD n default).w = false ∧ 0 ≤ now + 1 ∧ now + 1 < 10000000000000000000 then ls.set n ⟨true, (ls.getD n default).m, (ls.getD n default).p, now + 1, h.2⟩ else ls
def l6 (ls : List Li) (now : Int) (n : Nat) : Int := if (ls.getD n default).w = false then now + 1 else now
def tN (ls : List Li) (n : Nat) : List Li := ls.set n ⟨false, (ls.getD n default).m, (ls.getD n default).p, (ls.getD n default).s, (ls.getD n default).hs⟩
theorem VOk.set {ls : List Li} {now now' : Int} {n : Nat} {x : Li} (h : VOk ls now) (h1 : now ≤ now') (h2 : x.s ≤ now') (h3 : x.w = true → now < x.s ∨ (ls.getD n default).w = true ∧ x.s = (ls.getD n default).s) : VOk (ls.set n x) now' := by
 refine ⟨by rw [Qao, h.len], by have := h.nn; omega, fun k hk => ?_, fun a b ha hb hab hwa hwb => ?_⟩
 by_cases q : k = n
 subst q; rw [yy (by rw [h.len]; exact hk)]; exact h2
 rw [vN q]; have := h.le k hk; omega
 by_cases qa : a = n
 have qb : b ≠ n := fun e => hab (qa.trans e.symm)
 subst qa
 rw [yy (by rw [h.len]; exact ha)] at hwa ⊢
 rw [vN qb] at hwb ⊢
 rcases h3 hwa with q | ⟨q1, q2⟩
 have := h.le b hb; omega
 rw [q2]; exact h.ne a b ha hb hab q1 hwb
 rw [vN qa] at hwa ⊢
 by_cases qb : b = n
 subst qb
 rw [yy (by rw [h.len]; exact hb)] at hwb ⊢
 rcases h3 hwb with q | ⟨q1, q2⟩
 have := h.le a ha; omega
 rw [q2]; exact h.ne a b ha hb hab hwa q1
 rw [vN qb] at hwb ⊢
 exact h.ne a b ha hb hab hwa hwb
theorem VOk.raise {ls : List Li} {now : Int} {n : Nat} (h : VOk ls now) : VOk (nO ls now n) (l6 ls now n) := by
 unfold nO l6
 split
 rename_i q
 rw [Qaf q.1]
 exact h.set (by omega) (QcD _) fun _ => .inl (by show now < now + 1; omega)
 split
 exact ⟨h.len, by have := h.nn; omega, fun k hk => by have := h.le k hk; omega, h.ne⟩
 exact h
theorem VOk.take {ls : List Li} {now : Int} {n : Nat} (h : VOk ls now) (hn : n < 8) : VOk (tN ls n) now := h.set (QcD _) (h.le n hn) fun e => by cases e
end
section
open Go.RowKit
def l7 (b : Nat) (x : List Li × Int) : HP := chk (fun C => ∃ its : List VIt, its.Perm (jA x.1) ∧ Hp.Heap its its.length ∧ VOk x.1 x.2 ∧ C = [dv b (its, d5 x.1 x.2)])
section
variable {P : Program} {W0 : World} {N : FSz} {K : Act → World → Prop} {e : aH} {A R B : List HP} {b : Nat} {ls : List Li} {now : Int} {f : FuncId} {args : List Value} {Post : Value → List HP → Prop}
theorem Hq (h : ∀ its : List VIt, its.Perm (jA ls) → Hp.Heap its its.length → VOk ls now → bc P W0 f args (dv b (its, d5 ls now) :: R) Post) : bc P W0 f args (l7 b (ls, now) :: R) Post :=
  qK fun C hC => by obtain ⟨its, h1, h2, h3, rfl⟩ := hC; exact h its h1 h2 h3
theorem vO {its : List VIt} [h : Tk dv b A (its, d5 ls now) R] (h1 : its.Perm (jA ls)) (h2 : Hp.Heap its its.length) (h3 : VOk ls now) [k : Ent R B] : Ent A (l7 b (ls, now) :: B) :=
  (Ent.ofPerm h.perm).trans ((Ent.cons k).trans (en (R := B) (C := [_]) ⟨its, h1, h2, h3, rfl⟩))
theorem YE : Ent (pt b (a7 ((d5 (List.replicate 8 default) 0).set 32 dm) 229) :: R) (l7 b (List.replicate 8 default, 0) :: R) := by
 have e : Ent (pt b (a7 ((d5 (List.replicate 8 default) 0).set 32 dm) 229) :: R) (dv b ([], d5 (List.replicate 8 default) 0) :: R) :=
   (Ent.cons (eH (E := 317) (sz := 3) (A := R) (B := R))).trans (en (R := R) (C := [_, _]) ⟨by decide, none, 0, rfl⟩)
 refine e.trans (en (R := R) (C := [_]) ⟨[], ?_, fun c hc => absurd hc (Qcx c), ?_, rfl⟩)
 exact QaI _
 refine ⟨rfl, QcD _, fun n hn => ?_, fun n m hn hm _ h => ?_⟩
 have : n = 0 ∨ n = 1 ∨ n = 2 ∨ n = 3 ∨ n = 4 ∨ n = 5 ∨ n = 6 ∨ n = 7 := by omega
 rcases this with rfl | rfl | rfl | rfl | rfl | rfl | rfl | rfl <;> decide
 have : n = 0 ∨ n = 1 ∨ n = 2 ∨ n = 3 ∨ n = 4 ∨ n = 5 ∨ n = 6 ∨ n = 7 := by omega
 rcases this with rfl | rfl | rfl | rfl | rfl | rfl | rfl | rfl <;> exact absurd h (by decide)
end
theorem YF {n : Int} (h : jz n = true) : ∃ k : Nat, n = (k : Int) ∧ k < 8 := by
 have := Qas h
 exact ⟨n.toNat, by omega, by omega⟩
theorem Hr {its : List VIt} {ls : List Li} (h : its.Perm (jA ls)) : (its.map (·.n)).Nodup := (h.map (·.n)).symm.nodup (Yx ls)
theorem YG (b : Nat) (ls : List Li) (now : Int) (n : Int) (hb : now < 4000000000000000000) : sQ W0 51 [pV b, iQ n] (l7 b (ls, now) :: R) (iQ (if jz n then 0 else 1)) (l7 b (if jz n then nO ls now n.toNat else ls, if jz n then l6 ls now n.toNat else now) :: R) := by
 refine Hq fun its h1 h2 h3 => ?_
 have hN : its.length ≤ 8 := by rw [h1.length_eq]; exact Hm ls
 have h0 := h3.nn
 by_cases hn : jz n = true
 obtain ⟨k, rfl, hk⟩ := YF hn
 rw [Qaf hn, Qaf hn, Qaf hn, Qam]
 by_cases hw : (ls.getD k default).w = true
 refine gH (Yu b its ls now h3.len k hk hw) fun v B hB => ?_
 obtain ⟨rfl, rfl⟩ := hB
 have e1 : nO ls now k = ls := by rw [nO, dif_neg (by rw [hw]; simp)]
 have e2 : l6 ls now k = now := by rw [l6, Qac (by rw [hw]; decide)]
 rw [e1, e2]
 exact ⟨_, ⟨rfl, rfl⟩, vO h1 h2 h3⟩
 have hw2 : (ls.getD k default).w = false := by simpa using hw
 have hs : 0 ≤ now + 1 ∧ now + 1 < 10000000000000000000 := by omega
 have hR := h3.raise (n := k)
 refine gH (Yt b its ls now h3.len k hk (by omega) h2 (Hr h1) hw2 hs (by omega)) fun v B hB => ?_
 obtain ⟨rfl, its', rfl, hp, hH⟩ := hB
 have e1 : nO ls now k = ls.set k ⟨true, (ls.getD k default).m, (ls.getD k default).p, now + 1, hs⟩ := by rw [nO, dif_pos ⟨hw2, hs⟩]
 have e2 : l6 ls now k = now + 1 := by rw [l6, Qaf hw2]
 rw [e1, e2] at hR
 rw [e1, e2]
 refine ⟨_, ⟨rfl, rfl⟩, vO (hp.trans ?_) hH hR⟩
 exact ((h1.filter _).append_right _).trans (Ho hk h3.len)
 rw [Qac hn, Qac hn, Qac hn]
 refine gH (Yv b its ls now h3.len n (by simpa using hn)) fun v B hB => ?_
 obtain ⟨rfl, rfl⟩ := hB
 exact ⟨_, ⟨rfl, rfl⟩, vO h1 h2 h3⟩
def mz (ls : List Li) : List Li := match jX ls with | some n => tN ls n | none => ls
theorem YH {ls : List Li} {now : Int} (h : VOk ls now) : VOk (mz ls) now := by
 unfold mz
 cases q : jX ls with
 | none => exact h
 | some n => exact h.take (yz q).1
theorem YI (b : Nat) (ls : List Li) (now : Int) : sQ W0 161 [pV b] (l7 b (ls, now) :: R) (.tuple #[iQ (((jX ls).getD 0 : Nat) : Int), .bool (jX ls).isSome]) (l7 b (mz ls, now) :: R) := by
 refine Hq fun its h1 h2 h3 => ?_
 have hN : its.length ≤ 8 := by rw [h1.length_eq]; exact Hm ls
 have hT := YH h3
 refine ab func161 ntmps161 ?_
 refine dK 1 (ah call193 (Hj b its ls now h3.len)) ?_
 refine cR rfl rfl rfl (fun g1_3 => ?_) fun g1_3 => ?_
 first | exact absurd g1_3 (by decide) | cases g1_3
 refine aw ?_
 refine ac (ah call232 (Hh b its (d5 ls now))) ?_
 refine ag (fun c1 => ?_) fun c1 => ?_
 refine az ?_
 have h0 : its = [] := Qbh.1 (by omega)
 have hb : jX ls = none := YC h3 (by simp_all)
 have ht : mz ls = ls := by grind [mz]
 rw [hb, ht]
 exact ⟨_, ⟨rfl, rfl⟩, vO h1 h2 h3⟩
 refine am rfl (ah zd (Yl b its (d5 ls now) (by omega) (fun e => by subst e; exact c1 rfl) h2)) ?_
 rintro _ B_ ⟨x, its', rfl, hB_, hp, hH, hmin⟩
 obtain rfl := hB_.symm
 obtain ⟨n, hn, hu, rfl⟩ := BI.1 ((hp.trans h1).mem_iff.1 (show x ∈ its' ++ [x] by simp))
 have hbest : jX ls = some n := YD h3 hn hu fun k hk hku => hmin _ (h1.mem_iff.2 (BI.2 ⟨k, hk, hku, rfl⟩))
 have ht : mz ls = tN ls n := by grind [mz]
 rw [ht] at hT
 have hperm : its'.Perm (jA (tN ls n)) := by
  have e1 := (Hl hp (n := (n : Int)) rfl (Hr h1)).trans (h1.filter _)
  have e2 := Ho (x := ⟨false, (ls.getD n default).m, (ls.getD n default).p, (ls.getD n default).s, (ls.getD n default).hs⟩) hn h3.len
  rw [show oS (n : Int) ⟨false, (ls.getD n default).m, (ls.getD n default).p, (ls.getD n default).s, (ls.getD n default).hs⟩ = [] from rfl, Qav] at e2
  exact e1.trans e2
 refine a6 (pu Io (fun _ h => by cases h) rfl) ?_
 refine bu fun b4 => ?_
 refine ax aC ?_
 refine xp (b := b) (T := 229) (E := 317) (sz := 3) (f := eT) (o := 32) fun a c ho => ?_
 refine bB [b4] 8 fun hS => ?_
 refine ae 0 5 hS ?_
 refine av 5 hS (i4 hn) ?_
 refine ae 6 1 hS ?_
 refine cq 7 (dx (by grind) (BG (j := 0) (y := ⟨false, (ls.getD n default).m, (ls.getD n default).p, (ls.getD n default).s, (ls.getD n default).hs⟩) h3.len hn (by decide) rfl)) fun hS => ?_
 refine aI ?_
 refine az ?_
 rw [hbest, ht]
 refine ⟨_, ⟨rfl, rfl⟩, ?_⟩
 refine Ent.trans (B := dv b (its', d5 (tN ls n) now) :: R) (lx rfl rfl (by rw [vM (by simp [tN, h3.len])]; decide) rfl) ?_
 exact vO hperm hH hT
structure TIt where
  d : Int
  s : Int
  i : Int
  hs : 0 ≤ s ∧ s < 10000000000000000000
instance : Hk TIt where
  default := ⟨0, 0, 0, by decide⟩
  ky := fun x => x.s + x.d * 100000000000000000000
@[reducible] def fY (x : TIt) : List Value := [.int .i64 x.d, .int .i64 x.s, .int .i64 x.i]
theorem jB (x : TIt) : (fY x).length = 3 := rfl
theorem YJ (its : List TIt) (sp : List Value) (i j : Nat) (hi : i < its.length) (hj : j < 3) : (its.flatMap fY ++ sp)[i * 3 + j]? = (fY (its.getD i default))[j]? := by
 simp_all [lj, jB, List.getD]
theorem rT (its : List TIt) (sp : List Value) (i : Nat) (hi : i < its.length) : ((its.flatMap fY ++ sp).drop (i * 3)).take 3 = fY (its.getD i default) := by
 simp_all [pq, jB, List.getD]
theorem yA (its : List TIt) (sp : List Value) (i : Nat) (x : TIt) (hi : i < its.length) : cz (its.flatMap fY ++ sp) (i * 3) (fY x) = (its.set i x).flatMap fY ++ sp := sy jB its i x sp hi
theorem yB (its : List TIt) (sp : List Value) (i : Nat) (hi : i < its.length) : i * 3 + 3 ≤ (its.flatMap fY ++ sp).length := by
 rw [Qad, cj jB]; omega
theorem Hs {its : List TIt} {i : Nat} (h : i < its.length) : its ≠ [] := fun e => by rw [e] at h; simp at h
abbrev gD : Nat → List TIt × List Value → HP := kS 256 262 3 fY 0
abbrev nP (b : Nat) : Value := .pointer (some ⟨b, 0, none⟩)
theorem Ht (b : Nat) (its : List TIt) (cs : List Value) : sQ W0 230 [nP b] (gD b (its, cs) :: R) (iQ (its.length : Nat)) (gD b (its, cs) :: R) := by
 refine pM fun a c ho => ?_
 refine ab func230 ntmps230 ?_
 refine a6 (aG (aF (dE ho))) ?_
 refine a8 ?_
 exact ⟨_, ⟨rfl, rfl⟩, lx rfl rfl ho rfl⟩
theorem Hu (x y : TIt) : sQ W0 495 [.agg #[iQ x.d, iQ x.s], .agg #[iQ y.d, iQ y.s]] R (.bool (decide (Hk.ky x < Hk.ky y))) R := by
 have e1 : Hk.ky x = x.s + x.d * 100000000000000000000 := rfl
 have e2 : Hk.ky y = y.s + y.d * 100000000000000000000 := rfl
 have b1 := x.hs
 have b2 := y.hs
 refine ab func495 ntmps495 ?_
 refine aS fun b1 => ?_
 refine aS fun b2 => ?_
 refine ag (fun c1 => ?_) fun c1 => ?_
 refine a8 ?_
 rw [e1, e2]
 refine ⟨_, ⟨Qah Value.bool ?_, rfl⟩, IO⟩
 rw [Qae, Qag, Qag]
 have : x.d ≠ y.d := by omega
 omega
 refine a8 ?_
 rw [e1, e2]
 refine ⟨_, ⟨Qah Value.bool ?_, rfl⟩, IO⟩
 rw [Qae, Qag, Qag]
 have : x.d = y.d := by omega
 omega
theorem YK (b : Nat) (its : List TIt) (cs : List Value) (i k : Nat) (hi : i < its.length) (hk : k < its.length) : sQ W0 491 [nP b, iQ i, iQ k] (gD b (its, cs) :: R) (.bool (decide (Hp.us its i < Hp.us its k))) (gD b (its, cs) :: R) := by
 refine nx jB (Hs hi) (by decide) fun g c sp ho h1 h2 h3 => ?_
 obtain ⟨x, hx⟩ : ∃ x, its.getD i default = x := ⟨_, rfl⟩
 obtain ⟨y, hy⟩ : ∃ y, its.getD k default = y := ⟨_, rfl⟩
 have rx := Qah (fun l => l.take 2) (rT its sp i hi)
 have ry := Qah (fun l => l.take 2) (rT its sp k hk)
 rw [hx, List.take_take] at rx
 rw [hy, List.take_take] at ry
 rw [show Hp.us its i = Hk.ky x by rw [Hp.us, hx], show Hp.us its k = Hk.ky y by rw [Hp.us, hy]]
 refine ab func491 ntmps491 ?_
 refine bB [b, g] 18 fun hS => ?_
 refine ae 0 3 hS ?_
 refine av 3 hS (aG (co (k := 0) rfl (dE ho))) ?_
 refine ae 4 1 hS ?_
 refine av 5 hS (bA hi) ?_
 refine ae 6 1 hS ?_
 refine ae 8 3 hS ?_
 refine av 11 hS (aG (co (k := 0) rfl (dE ho))) ?_
 refine ae 12 1 hS ?_
 refine av 13 hS (bA hk) ?_
 refine ae 14 1 hS ?_
 refine eG (is := [7, 15]) (by kernel_rfl) rfl ⟨?_, ?_, trivial⟩
 refine di (db (cJ (bU (vs := [iQ x.d, iQ x.s]) rx rfl))) ?_; clear hS
 rintro _ _ ⟨rfl, rfl⟩
 refine ⟨aK, fun hS => ?_⟩
 refine bJ 15 (db (cJ (bU (vs := [iQ y.d, iQ y.s]) ry rfl))) fun hS => ?_
 refine bJ 16 (ao call495 (Hu x y)) fun hS => ?_
 refine ae 17 1 hS ?_
 refine aI ?_
 refine a8 ?_
 exact ⟨_, ⟨rfl, rfl⟩, iE jB rfl rfl ho rfl h1 h2 h3⟩
 skip
 refine di (db (cJ (bU (vs := [iQ y.d, iQ y.s]) ry rfl))) ?_; clear hS
 rintro _ _ ⟨rfl, rfl⟩
 refine ⟨aK, fun hS => ?_⟩
 refine bJ 7 (db (cJ (bU (vs := [iQ x.d, iQ x.s]) rx rfl))) fun hS => ?_
 refine bJ 16 (ao call495 (Hu x y)) fun hS => ?_
 refine ae 17 1 hS ?_
 refine aI ?_
 refine a8 ?_
 exact ⟨_, ⟨rfl, rfl⟩, iE jB rfl rfl ho rfl h1 h2 h3⟩
theorem YL (b : Nat) (its : List TIt) (cs : List Value) (i k : Nat) (hi : i < its.length) (hk : k < its.length) : sQ W0 494 [nP b, iQ i, iQ k] (gD b (its, cs) :: R) (.tuple #[]) (gD b (Hp.swapL its i k, cs) :: R) := by
 refine nx jB (Hs hi) (by decide) fun g c sp ho h1 h2 h3 => ?_
 refine ab func494 ntmps494 ?_
 refine bB [b] 28 fun hS => ?_
 refine ae 0 3 hS ?_
 refine av 3 hS (aG (co (k := 0) rfl (dE ho))) ?_
 refine ae 4 4 hS ?_
 refine av 8 hS (aG (co (k := 0) rfl (dE ho))) ?_
 refine ae 9 4 hS ?_
 refine av 13 hS (aG (co (k := 0) rfl (dE ho))) ?_
 refine ae 14 1 hS ?_
 refine av 15 hS (bA hk) ?_
 refine ae 17 3 hS ?_
 refine av 20 hS (aG (co (k := 0) rfl (dE ho))) ?_
 refine ae 21 1 hS ?_
 refine av 22 hS (bA hi) ?_
 refine eG (is := [16, 23]) (by kernel_rfl) rfl ⟨?_, ?_, trivial⟩
 refine di (db (cJ (bU (rT its sp k hk) rfl))) ?_; clear hS
 rintro _ _ ⟨rfl, rfl⟩
 refine ⟨aK, fun hS => ?_⟩
 refine bJ 23 (db (cJ (bU (rT its sp i hi) rfl))) fun hS => ?_
 refine av 24 hS (bA hi) ?_
 refine cq 25 (gK (yB its sp i hi) (yA its sp i (its.getD k default) hi)) fun hS => ?_
 refine av 26 hS (bA hk) ?_
 refine cq 27 (gK (yB (its.set i (its.getD k default)) sp k (by grind)) (yA (its.set i (its.getD k default)) sp k (its.getD i default) (by grind))) fun hS => ?_
 refine aI ?_
 refine bM (.inr rfl) .nil ?_
 exact ⟨_, ⟨rfl, rfl⟩, iE jB rfl rfl ho (by simp [Hp.swapL]) (by omega) h2 (by rw [Qad, cj jB] at h3 ⊢; simpa [Hp.swapL] using h3)⟩
 skip
 refine di (db (cJ (bU (rT its sp i hi) rfl))) ?_; clear hS
 rintro _ _ ⟨rfl, rfl⟩
 refine ⟨aK, fun hS => ?_⟩
 refine bJ 16 (db (cJ (bU (rT its sp k hk) rfl))) fun hS => ?_
 refine av 24 hS (bA hi) ?_
 refine cq 25 (gK (yB its sp i hi) (yA its sp i (its.getD k default) hi)) fun hS => ?_
 refine av 26 hS (bA hk) ?_
 refine cq 27 (gK (yB (its.set i (its.getD k default)) sp k (by grind)) (yA (its.set i (its.getD k default)) sp k (its.getD i default) (by grind))) fun hS => ?_
 refine aI ?_
 refine bM (.inr rfl) .nil ?_
 exact ⟨_, ⟨rfl, rfl⟩, iE jB rfl rfl ho (by simp [Hp.swapL]) (by omega) h2 (by rw [Qad, cj jB] at h3 ⊢; simpa [Hp.swapL] using h3)⟩
theorem YM (b : Nat) (its : List TIt) (x : TIt) (cs : List Value) : sQ W0 492 [nP b] (gD b (its ++ [x], cs) :: R) (.iface 262 (.agg (fY x).toArray)) (gD b (its, cs) :: R) := by
 refine nx jB (by simp) (by decide) fun g c sp ho h1 h2 h3 => ?_
 have hl : (its ++ [x]).length = its.length + 1 := by simp
 rw [hl] at h1 ⊢
 have hg : (its ++ [x]).getD its.length default = x := by grind
 have hr := rT (its ++ [x]) sp its.length (by omega)
 rw [hg] at hr
 have he : (its ++ [x]).flatMap fY ++ sp = its.flatMap fY ++ (fY x ++ sp) := by simp
 refine ab func492 ntmps492 ?_
 refine a6 (aG (aF (dE ho))) ?_
 refine a6 (iq rfl rfl (by rw [bN (by simp only [maxLen] at h2; omega)]; omega : IntKind.wrap .i64 (((its.length + 1 : Nat) : Int) - 1) = ((its.length : Nat) : Int))) ?_
 refine a6 (aG (aF (dE ho))) ?_
 refine a6 (bA (by omega)) ?_
 refine a6 (cJ (bU hr rfl)) ?_
 refine bu fun b1 => ?_
 refine ax aC ?_
 refine a6 (aG (aF (dE ho))) ?_
 refine a6 (lO tZ yW rfl rfl rfl (by omega)) ?_
 refine ax (dx (by rw [Qao]; exact ho) set_set) ?_
 refine a8 ?_
 rw [he]
 exact ⟨_, ⟨rfl, rfl⟩, iE (sp := fY x ++ sp) jB rfl rfl ho rfl (by omega) h2 (by rw [← he]; exact h3)⟩
theorem YN (b : Nat) (its : List TIt) (x : TIt) (cs : List Value) (hn : its.length < 1000) : sQ W0 493 [nP b, .iface 262 (.agg (fY x).toArray)] (gD b (its, cs) :: R) (.tuple #[]) (gD b (its ++ [x], cs) :: R) := by
 refine pM fun a c ho => ?_
 have he : its.flatMap fY ++ [fY x].flatten = (its ++ [x]).flatMap fY := by simp
 refine lk func493 ntmps493 rfl rfl ?_
 refine bB [] 12 fun hS => ?_
 refine ae 0 4 hS ?_
 refine ae 5 1 hS ?_
 refine av 6 hS (pu Il (fun _ h => by cases h) rfl) ?_
 refine eG (is := [4, 7]) (by kernel_rfl) rfl ⟨?_, ?_, trivial⟩
 refine di (db (aG (aF (dE ho)))) ?_; clear hS
 rintro _ _ ⟨rfl, rfl⟩
 refine ⟨aK, fun hS => ?_⟩
 refine li 7 (by kernel_rfl) rfl rfl (iz tZ yW Ix rfl (eJ rfl rfl gG) rfl (by decide) (by decide) (by decide)) rfl ?_; clear hS
 rintro _ _ ⟨b1, rfl, rfl⟩
 refine ⟨aK, fun hS => ?_⟩
 refine cg 8 (eI (sz := 3) (by_ := 24) (info := Tryz.t262) tZ (by kernel_rfl) rfl rfl rfl rfl (by decide) rfl rfl eA rfl rfl (by simp only [maxLen]; omega) (by omega)) ?_; clear hS
 rintro _ _ ⟨a1, c1, rfl, rfl⟩
 refine ⟨aK, fun hS => ?_⟩
 refine ae 9 2 hS ?_
 refine cq 11 (dx (by grind) set_set) fun hS => ?_
 refine fy ?_
 refine bM (.inr rfl) .nil ?_
 exact ⟨_, ⟨rfl, rfl⟩, lx (its := its ++ [x]) he rfl ho (by simp)⟩
 skip
 refine kJ rfl rfl (iz tZ yW Ix rfl (eJ rfl rfl gG) rfl (by decide) (by decide) (by decide)) rfl ?_; clear hS
 rintro _ _ ⟨b1, rfl, rfl⟩
 refine ⟨aK, fun hS => ?_⟩
 refine bJ 4 (db (aG (aF (dE ho)))) fun hS => ?_
 refine cg 8 (eI (sz := 3) (by_ := 24) (info := Tryz.t262) tZ (by kernel_rfl) rfl rfl rfl rfl (by decide) rfl rfl eA rfl rfl (by simp only [maxLen]; omega) (by omega)) ?_; clear hS
 rintro _ _ ⟨a1, c1, rfl, rfl⟩
 refine ⟨aK, fun hS => ?_⟩
 refine ae 9 2 hS ?_
 refine cq 11 (dx (by grind) set_set) fun hS => ?_
 refine aI ?_
 refine bM (.inr rfl) .nil ?_
 exact ⟨_, ⟨rfl, rfl⟩, lx (its := its ++ [x]) he rfl ho (by simp)⟩
section
variable (w : World) (a : Addr)
theorem YO : (method (Tryz.prog.types.size + Made.depth) 258 (.pointer (some a)) "Len").run Tryz.prog w = .ok (230, .pointer (some a)) w := by kernel_rfl
theorem YP : (method (Tryz.prog.types.size + Made.depth) 258 (.pointer (some a)) "Less").run Tryz.prog w = .ok (491, .pointer (some a)) w := by kernel_rfl
theorem YQ : (method (Tryz.prog.types.size + Made.depth) 258 (.pointer (some a)) "Swap").run Tryz.prog w = .ok (494, .pointer (some a)) w := by kernel_rfl
theorem YR : (method (Tryz.prog.types.size + Made.depth) 258 (.pointer (some a)) "Push").run Tryz.prog w = .ok (493, .pointer (some a)) w := by kernel_rfl
theorem YS : (method (Tryz.prog.types.size + Made.depth) 258 (.pointer (some a)) "Pop").run Tryz.prog w = .ok (492, .pointer (some a)) w := by kernel_rfl
end
def YT (W0 : World) (b : Nat) (cs : List Value) : HpO W0 TIt where
  T := 258
  p := nP b
  el := fun x => .iface 262 (.agg (fY x).toArray)
  H := fun l => gD b (l, cs)
  fL := 230
  fE := 491
  fS := 494
  fU := 493
  fO := 492
  mL := fun u => YO u _
  mE := fun u => YP u _
  mS := fun u => YQ u _
  mU := fun u => YR u _
  mO := fun u => YS u _
  cL := call230
  cE := call491
  cS := call494
  cU := call493
  cO := call492
  sL := fun R l => Ht b l cs
  sE := fun R l i j hi hj => YK b l cs i j hi hj
  sS := fun R l i j hi hj => YL b l cs i j hi hj
  sU := fun R l x hl => YN b l x cs hl
  sO := fun R l x => YM b l x cs
theorem YU (b : Nat) (its : List TIt) (cs : List Value) (hN : its.length < 900) (h0 : its ≠ []) (hh : Hp.Heap its its.length) : sP W0 196 [.iface 258 (nP b)] (gD b (its, cs) :: R) (fun v B => ∃ x its', v = .iface 262 (.agg (fY x).toArray) ∧ B = gD b (its', cs) :: R ∧ (its' ++ [x]).Perm its ∧ Hp.Heap its' its'.length ∧ ∀ y ∈ its, Hk.ky x ≤ Hk.ky y) :=
  Hp.heapPop_spec (YT W0 b cs) R its hN h0 hh
def iN (us : List Bool) (now : Int) : List Value := .slice none 0 0 :: (us.map Value.bool ++ [.int .i64 now, .bool true])
theorem Hv {us : List Bool} {now : Int} (h : us.length = 4) : (iN us now).length = 7 := by
 simp [iN, h]
theorem YV {us : List Bool} {now : Int} (h : us.length = 4) : (iN us now)[6]? = some (.bool true) := by
 obtain ⟨a, b, c, d, rfl⟩ : ∃ a b c d, us = [a, b, c, d] := by
  match us, h with
  | [a, b, c, d], _ => exact ⟨a, b, c, d, rfl⟩
 rfl
theorem YW {us : List Bool} {now : Int} {v : Value} {u : Bool} {n : Nat} (h : us.length = 4) (hn : n < 4) : ((iN us now).set 0 v).set (1 + n * 1) (.bool u) = (iN (us.set n u) now).set 0 v := by
 obtain ⟨a, b, c, d, rfl⟩ : ∃ a b c d, us = [a, b, c, d] := by
  match us, h with
  | [a, b, c, d], _ => exact ⟨a, b, c, d, rfl⟩
 match n, hn with
 | 0, _ => rfl
 | 1, _ => rfl
 | 2, _ => rfl
 | 3, _ => rfl
theorem YX (b : Nat) (its : List TIt) (us : List Bool) (now : Int) (h : us.length = 4) : sQ W0 147 [nP b] (gD b (its, iN us now) :: R) (.bool false) (gD b (its, iN us now) :: R) := by
 refine ab func147 ntmps147 ?_
 refine cR rfl rfl rfl (fun g1_3 => ?_) fun g1_3 => ?_
 cases g1_3
 refine aw ?_
 refine a6 (aG (vd (b := b) (T := 256) (E := 262) (sz := 3) (f := fY) (o := 0) (by decide) (YV h))) ?_
 exact a8 aj
theorem YY {W0 : World} {N : FSz} {K : Act → World → Prop} {e : aH} {R A : List HP} {T E : TypeId} {sz o b : Nat} {α : Type} {f : α → List Value} {its : List α} {cs : List Value} [hk : Tk (kS T E sz f o) b A (its, cs) R] (hf : ∀ x, (f x).length = sz) (h0 : its ≠ []) (hz : 0 < sz)
    (h : ∀ g c sp, o < cs.length → its.length ≤ c → c ≤ maxLen → (its.flatMap f ++ sp).length = c * sz → ai W0 N K e (pt b (a7 (cs.set o (.slice (some ⟨g, 0, none⟩) its.length c)) T) :: pt g (a7 (its.flatMap f ++ sp) E) :: R)) : ai W0 N K e A :=
  xp (b := b) (T := T) (E := E) (sz := sz) (f := f) (o := o) fun a c ho => fJ (r := osl E sz) (b := .slice a its.length c) (kc (fun _ h2 => by
      have := cj hf its
      rw [h2] at this
      have h3 : its.length = 0 := by
        grind
      exact absurd (Qbh.1 h3) h0) fun g n cap sp h1 h2 h3 h4 h5 => by
    cases h1
    exact mg (List.Perm.swap _ _ _) (h g c sp ho h2 h3 h5))
structure TOk (us : List Bool) (now : Int) (ti : List TIt) : Prop where
  len : us.length = 4
  nn : (ti.length : Int) ≤ now
  id : ∀ x ∈ ti, 0 ≤ x.i ∧ x.i < 4
structure Tm where
  us : List Bool
  now : Int
  ti : List TIt
def m9 (b : Nat) (x : Tm) : HP := chk (fun C => ∃ its : List TIt, its.Perm x.ti ∧ Hp.Heap its its.length ∧ TOk x.us x.now x.ti ∧ C = [gD b (its, iN x.us x.now)])
section
variable {P : Program} {W0 : World} {N : FSz} {K : Act → World → Prop} {e : aH} {A R B : List HP} {b : Nat} {x : Tm} {f : FuncId} {args : List Value} {Post : Value → List HP → Prop}
theorem YZ (h : ∀ its : List TIt, its.Perm x.ti → Hp.Heap its its.length → TOk x.us x.now x.ti → bc P W0 f args (gD b (its, iN x.us x.now) :: R) Post) : bc P W0 f args (m9 b x :: R) Post :=
  qK fun C hC => by obtain ⟨its, h1, h2, h3, rfl⟩ := hC; exact h its h1 h2 h3
theorem Hw {its ti : List TIt} {us : List Bool} {now : Int} [h : Tk gD b A (its, iN us now) R] (h1 : its.Perm ti) (h2 : Hp.Heap its its.length) (h3 : TOk us now ti) [k : Ent R B] : Ent A (m9 b ⟨us, now, ti⟩ :: B) :=
  (Ent.ofPerm h.perm).trans ((Ent.cons k).trans (en (R := B) (C := [_]) ⟨its, h1, h2, h3, rfl⟩))
theorem Z0 : Ent (pt b (a7 ((iN [false, false, false, false] 0).set 0 dm) 256) :: R) (m9 b ⟨[false, false, false, false], 0, []⟩ :: R) := by
 have e : Ent (pt b (a7 ((iN [false, false, false, false] 0).set 0 dm) 256) :: R) (gD b ([], iN [false, false, false, false] 0) :: R) :=
   (Ent.cons (eH (E := 262) (sz := 3) (A := R) (B := R))).trans (en (R := R) (C := [_, _]) ⟨by decide, none, 0, rfl⟩)
 exact e.trans (en (R := R) (C := [_]) ⟨[], QaI _, fun c hc => absurd hc (Qcx c), ⟨rfl, QcD _, fun x hx => by cases hx⟩, rfl⟩)
end
def ii (us : List Bool) (F : List TIt) : List Bool := us.mapIdx fun j u => u && !(F.any fun x => x.i == (j : Int))
theorem tO (us : List Bool) (F : List TIt) : (ii us F).length = us.length := by simp [ii]
theorem Z1 (us : List Bool) : ii us [] = us := by
 apply QaQ (by simp [ii])
 intro i h1 h2
 simp [ii]
theorem Hy (us : List Bool) (F : List TIt) (i : Nat) (h : i < us.length) : (ii us F)[i]'(by rw [tO]; exact h) = (us[i] && !(F.any fun x => x.i == (i : Int))) := by simp [ii]
theorem Z2 {us : List Bool} {F : List TIt} {x : TIt} {k : Nat} (hx : x.i = (k : Int)) : (ii us F).set k false = ii us (F ++ [x]) := by
 apply QaQ (by simp [ii])
 intro i h1 h2
 have hi : i < us.length := by grind [tO]
 have ha : ((F ++ [x]).any fun y => y.i == (i : Int)) = ((F.any fun y => y.i == (i : Int)) || decide (k = i)) := by
  grind
 rw [List.getElem_set, Hy us (F ++ [x]) i hi, Hy us F i hi, ha]
 by_cases q : k = i
 grind
 grind
theorem Hz {us : List Bool} {F F' : List TIt} (h : F.Perm F') : ii us F = ii us F' := by
 grind [ii]
def lH (now : Int) (x : TIt) : Bool := decide (x.d ≤ now)
def tP (x : Tm) (now : Int) : Tm := ⟨ii x.us (x.ti.filter (lH now)), x.now, x.ti.filter fun y => !lH now y⟩
def qk (x : Tm) (now : Int) : Nat := (x.ti.filter (lH now)).length
theorem HA {its F ti : List TIt} {now : Int} (hp : (its ++ F).Perm ti) (h1 : ∀ y ∈ F, lH now y = true) (h2 : ∀ y ∈ its, lH now y = false) : F.Perm (ti.filter (lH now)) ∧ its.Perm (ti.filter fun y => !lH now y) := by
 have a := hp.filter (lH now)
 have b := hp.filter (fun y => !lH now y)
 rw [QbH, List.filter_eq_nil_iff.2 (fun y hy => by rw [h2 y hy]; decide), Qbe.2 h1, Qat] at a
 rw [QbH, Qbe.2 (fun y hy => by rw [h2 y hy]; rfl), List.filter_eq_nil_iff.2 (fun y hy => by rw [h1 y hy]; decide), Qav] at b
 exact ⟨a, b⟩
theorem HB {x y : TIt} (h : Hk.ky x ≤ Hk.ky y) : x.d ≤ y.d := by
 have e1 : Hk.ky x = x.s + x.d * 100000000000000000000 := rfl
 have e2 : Hk.ky y = y.s + y.d * 100000000000000000000 := rfl
 have b1 := x.hs
 have b2 := y.hs
 omega
structure Fr29 where
  its : List TIt
  F : List TIt
  a : Option Addr
  c : Nat
theorem Z3 (b : Nat) (x : Tm) (now : Int) (hb : x.now < 700) : sP W0 158 [nP b, iQ now] (m9 b x :: R) (fun v B => ∃ a c, v = .slice a (qk x now) c ∧ B = m9 b (tP x now) :: R) := by
 obtain ⟨us, tn, ti⟩ := x
 refine YZ fun its h1 h2 h3 => ?_
 dsimp only at h1 h2 h3 hb ⊢
 have hlen : ti.length < 800 := by have := h3.nn; omega
 refine ab func158 ntmps158 ?_
 refine ac (ah call147 (YX b its us tn h3.len)) ?_
 refine fQ (fun X : Fr29 => (X.its ++ X.F).Perm ti ∧ Hp.Heap X.its X.its.length ∧ ∀ y ∈ X.F, lH now y = true) (fun X => [(0, nP b), (1, iQ now), (5, .slice X.a X.F.length X.c)]) (fun X => gD b (X.its, iN (ii us X.F) tn) :: osl 3 1 (.slice X.a X.F.length X.c) (X.F.map fun y => Value.int .i64 y.i) :: R) (fun X => X.its.length) ⟨its, [], none, 0⟩ ?_ ?_ ?_ ?_
 grind
 · repeat (first | exact ci | refine bQ rfl ?_)
 grind [Z1, Ent.cons, eH]
 intro ⟨l, F, a, c⟩ ⟨hp, hH, hF⟩
 dsimp only at hp hH hF ⊢
 have hul : (ii us F).length = 4 := by rw [tO]; exact h3.len
 have hpl := hp.length_eq
 rw [Qad] at hpl
 refine aw ?_
 refine ac (ah call230 (Ht b l (iN (ii us F) tn))) ?_
 refine cM (fun g4_6 => ?_) fun g4_6 => ?_
 have hl0 : l ≠ [] := fun e => by rw [e] at g4_6; exact absurd g4_6 (by decide)
 have hl1 : 0 < l.length := Qca.2 hl0
 have hrow := YJ l
 refine YY (b := b) (T := 256) (E := 262) (sz := 3) (f := fY) (o := 0) jB hl0 (by decide) fun g cc sp ho k1 k2 k3 => ?_
 refine aw ?_
 refine a6 (aG (aF (dE ho))) ?_
 refine a6 (gn tZ yW rfl rfl (i := 0) rfl hl1 (by first | exact Qab _ | rfl)) ?_
 refine a6 (aG (aF (hrow sp 0 0 hl1 (by decide)))) ?_
 refine ag (fun c4 => ?_) fun c4 => ?_
 refine fF (B := gD b (l, iN (ii us F) tn) :: osl 3 1 (.slice a F.length c) (F.map fun y => Value.int .i64 y.i) :: R) (iE jB rfl rfl ho rfl k1 k2 k3) ?_
 refine aw ?_
 refine am rfl (ah zd (YU b l (iN (ii us F) tn) (by omega) hl0 hH)) ?_
 rintro _ B_ ⟨y, l', rfl, hB_, hp2, hH2, hmin⟩
 obtain rfl := hB_.symm
 have hyl : y ∈ l := hp2.mem_iff.1 (by simp)
 have hyt : y ∈ ti := hp.mem_iff.1 (List.mem_append_left _ hyl)
 have hyi := h3.id y hyt
 obtain ⟨k, hk⟩ : ∃ k : Nat, y.i = (k : Int) := ⟨y.i.toNat, by omega⟩
 have hk4 : k < 4 := by omega
 have hdue : lH now y = true := by
  have := hmin (l.getD 0 default) (by
    rw [Qau, Qbd hl1]
    exact QaK hl1)
  exact Qak (Int.le_trans (HB this) c4)
 refine a6 (pu Il (fun _ h => by cases h) rfl) ?_
 refine bu fun b6 => ?_
 refine ax aC ?_
 refine xp (b := b) (T := 256) (E := 262) (sz := 3) (f := fY) (o := 0) fun a2 c2 ho2 => ?_
 refine bB [b6] 7 fun hS => ?_
 refine ae 0 5 hS ?_
 refine av 5 hS (iR underlying254 jZ rfl rfl hk hk4 (by first | exact Qab _ | rfl)) ?_
 refine cq 6 (dx (by grind [Qao, Hv]) ((YW hul hk4).trans (by rw [Z2 hk]))) fun hS => ?_
 refine aI ?_
 refine fF (B := gD b (l', iN (ii us (F ++ [y])) tn) :: pt b6 (a7 (fY y) 262) :: osl 3 1 (.slice a F.length c) (F.map fun y => Value.int .i64 y.i) :: R) (lx rfl rfl (by grind [Hv, tO]) rfl) ?_
 refine aw ?_
 refine d7 (jG fe aO me rfl rfl rfl rfl rfl (by decide) (by decide)) fun b2 => ?_
 refine am rfl (eI (sz := 1) (by_ := 8) (info := Tryz.t3) fe (by kernel_rfl) rfl rfl rfl rfl (by decide) rfl rfl eA rfl rfl (by simp only [maxLen]; omega) (by omega)) ?_
 rintro _ _ ⟨a3, c3, rfl, rfl⟩
 refine aw ?_
 refine ue ⟨l', F ++ [y], a3, c3⟩ ?_ ?_ ?_ ?_
 refine ⟨?_, hH2, fun z hz => ?_⟩
 refine List.Perm.trans ?_ hp
 show (l' ++ (F ++ [y])).Perm (l ++ F)
 refine List.Perm.trans ?_ (hp2.append_right F)
 rw [QaC]
 exact QaS.append_left l'
 grind
 show l'.length < l.length
 have := hp2.length_eq
 rw [Qad] at this
 simp only [QaE, QbB] at this
 omega
 · dsimp only
   rw [show (F ++ [y]).length = F.length + 1 by simp]
   repeat (first | exact ci | refine bQ rfl ?_)
 dsimp only
 rw [show (F ++ [y]).length = F.length + 1 by simp, QaF, QaG, QbO]
 exact IO
 refine a8 ?_
 obtain ⟨q1, q2⟩ := HA (now := now) hp hF (fun y hy => by
  refine Qaq fun q => c4 ?_
  obtain ⟨j, hj, rfl⟩ := Qbl.1 hy
  have := Hp.heap_min hH j hj
  rw [Hp.us, Hp.us_eq hj] at this
  exact Int.le_trans (HB this) q)
 refine ⟨_, ⟨a, c, ?_, rfl⟩, ?_⟩
 show Value.slice a _ c = Value.slice a (ti.filter (lH now)).length c
 rw [q1.length_eq]
 rw [tP, ← Hz q1]
 refine Ent.trans (B := gD b (l, iN (ii us F) tn) :: R) (iE jB rfl rfl ho rfl k1 k2 k3) ?_
 exact Hw q2 hH ⟨by rw [tO]; exact h3.len, by have := h3.nn; have := q2.length_eq; dsimp only; omega, fun z hz => h3.id z (QaL.1 hz).1⟩
 refine a8 ?_
 have hl0 : l = [] := Qbh.1 (by omega)
 subst hl0
 obtain ⟨q1, q2⟩ := HA hp hF (fun y hy => by cases hy)
 refine ⟨_, ⟨a, c, ?_, rfl⟩, ?_⟩
 show Value.slice a _ c = Value.slice a (ti.filter (lH now)).length c
 rw [q1.length_eq]
 rw [tP, ← Hz q1]
 exact Hw q2 hH ⟨by rw [tO]; exact h3.len, by have := h3.nn; have := q2.length_eq; dsimp only; omega, fun z hz => h3.id z (QaL.1 hz).1⟩
structure Gu where
  c : Cpu
  qa : QS
  qb : QS
  qc : QS
  ls : List Li
  ln : Int
  tm : Tm
  halted : Bool
  rd : List Nat
  clock : Nat
  es : List Evt
  bud : Nat
structure Gz where
  x : Bd
  q0 : Nat
  q1 : Nat
  q2 : Nat
  pv : Nat
  ps : Nat
  pm : Nat
  pb : Nat
  bx : Nat
  tr : Nat
  wv : Value
  i : Nat
  c : Cfg
@[reducible] def oU (z : Gz) (g : Gu) : List Value := [pV z.x.r, pV z.x.c, pV z.x.m, pV z.q0, pV z.q1, pV z.q2, pV z.x.v, pV z.x.t, .bool g.halted, wV (cY g.rd 0), wV (cY g.rd 1), wV (cY g.rd 2), wV (cY g.rd 3)] ++ cv z.c ++ [.int .i64 z.i, z.wv, pV z.pb, pV z.pv, pV z.bx, pV z.tr, .int .i64 g.clock]
abbrev e8 (z : Gz) (g : Gu) : Obj := a7 (oU z g) 144
def gk (n : Nat) : Nat := n - 1
def yC (es : List Evt) (e : Evt) : List Evt := if es.length < 4096 then es ++ [e] else es
abbrev rU (g : Gu) (k : Int) (a b p : Nat) : Gu := { g with es := yC g.es ⟨k, ((gk g.clock : Nat) : Int), a, b, p, g.c.rl⟩ }
abbrev ql (g : Gu) (pc : Nat) : Gu := { g with c := ⟨g.c.rl, pc, g.c.cs⟩ }
abbrev oV (g : Gu) : Gu := { g with halted := true }
abbrev ik (g : Gu) : Gu := { g with bud := g.bud + 3 }
abbrev yD (g : Gu) (cause tval : Nat) : Gu := { g with c := ⟨g.c.rl, dD g.c.cs 1, rj g.c.cs g.c.pc cause tval⟩ }
def fP (g : Gu) (cause tval : Nat) : Int × Gu :=
  if dD g.c.cs 1 = 0 then (4, rU (oV g) 6 cause tval g.c.pc) else (1, rU (yD g cause tval) 1 cause tval g.c.pc)
def rV (c : Nat) (f : Int) : Nat := u32 ((c : Int) + ((u32 (16 * ((u32 f : Nat) : Int)) : Nat) : Int))
def oW (w : Nat) (n : Int) : Nat := if n = 1 then u32 (IntKind.wrap .i32 (IntKind.wrap .i8 (w : Int))) else if n = 2 then u32 (IntKind.wrap .i32 (IntKind.wrap .i16 (w : Int))) else w
theorem Z4 {w : Nat} {n : Int} (h : w < 4294967296) : oW w n < 4294967296 := by
 grind [oW, dC]
abbrev nQ (g : Gu) (fr : List ap) (pg : List Pl) (a : Nat) (w k : Int) : Nat := qg fr pg (jK g.c.cs) (jL g.c.cs) (!eg g.c.cs) a w k
abbrev oX (g : Gu) (fr : List ap) (pg : List Pl) (a : Nat) (w k : Int) : Int := nN fr pg (jK g.c.cs) (jL g.c.cs) (!eg g.c.cs) a w k
abbrev yE (g : Gu) (fr : List ap) (pg : List Pl) (a : Nat) (w : Int) (x : Nat) : List ap := m8 fr pg (jK g.c.cs) (jL g.c.cs) (!eg g.c.cs) a w x
abbrev HC (g : Gu) (d v pc : Nat) : Gu := { g with c := ⟨nr g.c.rl d v, pc, g.c.cs⟩ }
def rW (g : Gu) (fr : List ap) (pg : List Pl) (e : Eff) : Int × Gu :=
  if oX g fr pg e.addr e.width 1 ≠ 0 then fP (ik g) (rV 4 (oX g fr pg e.addr e.width 1)) e.addr
  else (0, HC (ik g) e.d (if e.signed then oW (nQ g fr pg e.addr e.width 1) e.width else nQ g fr pg e.addr e.width 1) e.pc)
def rX (g : Gu) (fr : List ap) (pg : List Pl) (e : Eff) : Int × Gu :=
  if oX g fr pg e.addr e.width 2 ≠ 0 then fP (ik g) (rV 5 (oX g fr pg e.addr e.width 2)) e.addr else (0, ql (ik g) e.pc)
def jY (g : Gu) (fr : List ap) (pg : List Pl) (e : Eff) : (Int × Gu) × List ap :=
  if e.k = 1 then (rW g fr pg e, fr)
  else if e.k = 2 then (rX g fr pg e, yE g fr pg e.addr e.width e.val)
  else if e.k = 3 then (fP g e.cause e.tval, fr)
  else if e.k = 6 then ((0, ql g e.pc), fr)
  else if e.k = 5 then ((4, rU (ql (oV g) e.pc) 4 0 0 g.c.pc), fr)
  else if e.k = 4 then ((3, g), fr)
  else ((0, g), fr)
abbrev tQ (g : Gu) (c : Cpu) : Gu := { g with c := c }
def kE (i : Nat) (g : Gu) (fr : List ap) (pg : List Pl) : (Int × Gu) × List ap :=
  if oX g fr pg g.c.pc 4 0 ≠ 0 then (fP (ik g) (rV 3 (oX g fr pg g.c.pc 4 0)) g.c.pc, fr)
  else if jx (fV (nQ g fr pg g.c.pc 4 0)) = false then (fP (ik g) 1 (nQ g fr pg g.c.pc 4 0), fr)
  else jY (tQ (ik g) (lU i (gk g.clock) (fV (nQ g fr pg g.c.pc 4 0)) g.c).2) fr pg (lU i (gk g.clock) (fV (nQ g fr pg g.c.pc 4 0)) g.c).1
abbrev mB (g : Gu) : Gu := { g with tm := tP g.tm ((gk g.clock : Nat) : Int), ls := if qk g.tm ((gk g.clock : Nat) : Int) = 0 then g.ls else nO g.ls g.ln 7, ln := if qk g.tm ((gk g.clock : Nat) : Int) = 0 then g.ln else l6 g.ls g.ln 7 }
abbrev Z5 (g : Gu) : Gu := { g with ls := mz g.ls }
def jC (g : Gu) : Bool × Gu :=
  if ri g.c.cs then (match jX g.ls with
    | some n => (true, rU (yD (Z5 g) (256 + n) 0) 3 (256 + n) 0 g.c.pc)
    | none => (false, g)) else (false, g)
abbrev mD (g : Gu) : Gu := { g with clock := g.clock + 1 }
def j4 (i : Nat) (g : Gu) (fr : List ap) (pg : List Pl) : (Int × Gu) × List ap :=
  if g.halted then ((5, mD g), fr)
  else if (jC (mB (mD g))).1 then ((2, (jC (mB (mD g))).2), fr)
  else kE i (jC (mB (mD g))).2 fr pg
theorem Z6 (b : Nat) (es : List Evt) (k ck : Int) (x y z : Nat) (rl : List Nat) (hl : rl.length = 16) : sP W0 202 [pV b, .agg ([Value.int .i64 k, iQ ck, wV x, wV y, wV z] ++ rl.map wV).toArray] (fi b es :: R) (fun v B => ∃ q, v = iQ q ∧ B = fi b (yC es ⟨k, ck, x, y, z, rl⟩) :: R) := by
 by_cases hn : es.length < 4096
 rw [yC, Qaf hn]
 refine gH (Vo b es k ck x y z rl hl hn) fun v B hB => ?_
 obtain ⟨rfl, rfl⟩ := hB
 exact ⟨_, ⟨0, rfl, rfl⟩, ent_refl⟩
 rw [yC, Qac hn]
 refine ab func202 ntmps202 ?_
 refine aS fun b1 => ?_
 refine ac (ah IS (AY b es)) ?_
 refine xT (b := b) fun a c => ?_
 refine aw ?_
 refine aA rfl (fun c3 => ?_) fun c3 => ?_
 refine au 8 ?_
 refine a8 ?_
 exact ⟨_, ⟨2, rfl, rfl⟩, vo rfl rfl⟩
 omega
structure GOk (z : Gz) (g : Gu) (N : Nat) : Prop where
  c : CpOk g.c
  i : z.i < 4
  clk : g.clock ≤ N
  bud : g.bud ≤ 16 * N
  ln : g.ln ≤ 16 * N
  tn : g.tm.now ≤ N
theorem GOk.k {z : Gz} {g : Gu} {N : Nat} (h : GOk z g N) (hN : N ≤ 700) : g.clock < 1000000000 := by have := h.clk; omega
theorem GOk.cpu {z : Gz} {g g' : Gu} {N : Nat} (h : GOk z g N) (hc : CpOk g'.c) (h1 : g'.clock = g.clock) (h2 : g'.bud ≤ g.bud + 6) (h3 : g'.ln = g.ln) (h4 : g'.tm = g.tm) : GOk z g' (N + 1) :=
  ⟨hc, h.i, by have := h.clk; omega, by have := h.bud; omega, by have := h.ln; omega, by rw [h4]; have := h.tn; omega⟩
abbrev gN (gb : Nat) (z : Gz) (g : Gu) (R : List HP) : List HP := pt gb (e8 z g) :: pt z.x.r (d8 g.c.rl g.c.pc) :: fi z.tr g.es :: R
abbrev gT (gb : Nat) (z : Gz) (g : Gu) (R : List HP) : List HP := pt gb (e8 z g) :: pt z.x.r (d8 g.c.rl g.c.pc) :: pt z.x.c (dh g.c.cs z.i) :: fi z.tr g.es :: R
abbrev gM (gb : Nat) (z : Gz) (g : Gu) (fr : List ap) (pg : List Pl) (R : List HP) : List HP := pt gb (e8 z g) :: pt z.x.r (d8 g.c.rl g.c.pc) :: pt z.x.c (dh g.c.cs z.i) :: fi z.tr g.es :: jh z.x.m ⟨z.pv, z.ps, z.pm, g.bud, fr, pg⟩ :: bj z.ps fr :: R
section
variable (W0 : World) (R : List HP) (gb : Nat) (z : Gz) (g : Gu) (N : Nat) (fr : List ap) (pg : List Pl)
theorem nR : sQ W0 48 [pV gb] (pt gb (e8 z g) :: R) (.bool false) (pt gb (e8 z g) :: R) := by
 refine ab func48 ntmps48 ?_
 refine cR rfl rfl rfl (fun g1_3 => ?_) fun g1_3 => ?_
 cases g1_3
 refine aw ?_
 exact a8 aj
theorem yF (hk : g.clock < 1000000000) : sQ W0 159 [pV gb] (pt gb (e8 z g) :: R) (iQ ((gk g.clock : Nat) : Int)) (pt gb (e8 z g) :: R) := by
 refine ab func159 ntmps159 ?_
 refine a6 eX ?_
 refine a6 (rq rfl rfl (show _ = ((gk g.clock : Nat) : Int) by unfold gk; split <;> omega)) ?_
 exact a8 aj
theorem yG (hk : g.clock < 1000000000) (hl : g.c.rl.length = 16) (k : Int) (x y w : Nat) : sQ W0 136 [pV gb, iQ k, wV x, wV y, wV w] (gN gb z g R) (.tuple #[]) (gN gb z (rU g k x y w) R) := by
 refine ab func136 ntmps136 ?_
 refine bB [gb] 18 fun hS => ?_
 refine ae 0 6 hS ?_
 refine ae 7 8 hS ?_
 refine bJ 6 (ah CH (yF W0 _ gb z g hk)) fun hS => ?_
 refine bJ 15 (ah call75 (FM z.x.r g.c.rl g.c.pc hl)) fun hS => ?_
 refine av 16 hS (Vn hl rfl rfl rfl rfl rfl rfl) ?_
 refine cg 17 (ah call202 (Z6 z.tr g.es k ((gk g.clock : Nat) : Int) x y w g.c.rl hl)) ?_; clear hS
 rintro _ B_ ⟨q, rfl, hB_⟩
 obtain rfl := hB_.symm
 refine ⟨aK, fun hS => ?_⟩
 refine aI ?_
 refine bM (.inr rfl) .nil ?_
 exact aj
theorem vP (h : GOk z g N) (hN : N ≤ 700) (cause tval : Nat) (h1 : cause < 4294967296) (h2 : tval < 4294967296) : sQ W0 164 [pV gb, wV cause, wV tval] (gT gb z g R) (iQ (fP g cause tval).1) (gT gb z (fP g cause tval).2 R) := by
 obtain ⟨tv, htv⟩ : ∃ t, (dD g.c.cs 1 != 0) = t := ⟨_, rfl⟩
 have hz : dD g.c.cs 1 = 0 ↔ tv = false := by grind
 rw [fP]
 refine ab func164 ntmps164 ?_
 refine ac (ah sf (pT z.x.r g.c.rl g.c.pc h.c.r.len)) ?_
 refine ac (ah call231 (GQ z.x.c h.c.cs)) ?_
 rw [htv]
 refine ag (fun c2 => ?_) fun c2 => ?_
 rw [Qaf (hz.2 (by grind))]
 refine ax (kd (by exact rfl : (oU z g).set 8 (.bool true) = oU z (oV g))) ?_
 refine ac (dQ CI (yG W0 _ gb z (oV g) (h.k hN) h.c.r.len 6 cause tval g.c.pc)) ?_
 exact a8 aj
 rw [Qac (fun q => by have := hz.1 q; simp_all)]
 refine ac (ah call162 (GT z.x.c g.c.pc cause tval h.c.cs h.c.pc h1 h2)) ?_
 refine ac (ah CB (xR z.x.r g.c.rl g.c.pc (dD g.c.cs 1) h.c.r.len)) ?_
 refine ac (dQ CI (yG W0 _ gb z (yD g cause tval) (h.k hN) h.c.r.len 1 cause tval g.c.pc)) ?_
 exact a8 aj
theorem HD (g : Gu) (a b : Nat) : (fP g a b).2.bud = g.bud := by unfold fP; split <;> rfl
theorem BJ {W0 : World} {R : List HP} (c : Nat) (f : Int) : sQ W0 165 [wV c, iQ f] R (wV (rV c f)) R := by
 refine ab func165 ntmps165 ?_
 refine a6 (cT (g8 f)) ?_
 refine a6 (ug rfl rfl (g8 _)) ?_
 refine a6 (dr rfl rfl (g8 _)) ?_
 exact a8 aj
theorem yH (hl : g.c.rl.length = 16) (pc : Nat) : sQ W0 323 [pV gb, wV pc] (pt gb (e8 z g) :: pt z.x.r (d8 g.c.rl g.c.pc) :: R) (iQ 0) (pt gb (e8 z g) :: pt z.x.r (d8 g.c.rl pc) :: R) := by
 refine ab func323 ntmps323 ?_
 refine ac (ah CB (xR z.x.r g.c.rl g.c.pc pc hl)) ?_
 exact a8 aj
theorem Z7 {W0 : World} {R : List HP} (w : Nat) (n : Int) : sQ W0 322 [wV w, iQ n] R (wV (oW w n)) R := by
 refine ab func322 ntmps322 ?_
 refine ag (fun c2 => ?_) fun c2 => ?_
 refine a6 (cT rfl) ?_
 refine a6 (cT rfl) ?_
 refine a6 (cT (g8 _)) ?_
 refine a8 ?_
 rw [oW, Qaf (by omega)]
 exact aj
 refine ag (fun c4 => ?_) fun c4 => ?_
 refine a6 (cT rfl) ?_
 refine a6 (cT rfl) ?_
 refine a6 (cT (g8 _)) ?_
 refine a8 ?_
 rw [oW, Qac (by omega), Qaf (by omega)]
 exact aj
 refine a8 ?_
 rw [oW, Qac (by omega), Qac (by omega)]
 exact aj
theorem GOk.tick {z : Gz} {g : Gu} {N : Nat} (h : GOk z g N) : GOk z (ik g) (N + 1) := h.cpu h.c rfl (by grind) rfl rfl
theorem vQ {fr : List ap} {pg : List Pl} {on : Bool} {root : Int} {user : Bool} {va : Nat} {w kind : Int} (hF : cC fr) : qg fr pg on root user va w kind < 4294967296 := by
 unfold qg
 split
 split
 unfold kN
 split
 rename_i hf
 obtain ⟨i, hi, hlt⟩ := pE hf
 rw [hi, Qam]
 exact QK (hF.get hlt).2
 decide
 decide
 decide
theorem HE {fr : List ap} {pg : List Pl} {on : Bool} {root : Int} {user : Bool} {va : Nat} {w : Int} {x : Nat} (hF : cC fr) : cC (m8 fr pg on root user va w x) := by
 grind [m8, A3]
theorem HF {fr : List ap} {pg : List Pl} {on : Bool} {root : Int} {user : Bool} {va : Nat} {w : Int} {x : Nat} : (m8 fr pg on root user va w x).length = fr.length := by
 grind [m8, wT]
theorem Z8 (hK : ∀ A, aT (aB W0 A) 1 0 fX) (h : GOk z g N) (hN : N ≤ 690) (hF : cC fr) (e : Eff) (he : EfOk e) : sQ W0 244 [pV gb, .agg (d9 e).toArray] (gM gb z g fr pg R) (iQ (rW g fr pg e).1) (gM gb z (rW g fr pg e).2 fr pg R) := by
 obtain ⟨F, hF1⟩ : ∃ F, oX g fr pg e.addr e.width 1 = F := ⟨_, rfl⟩
 obtain ⟨w, hw1⟩ : ∃ w, nQ g fr pg e.addr e.width 1 = w := ⟨_, rfl⟩
 have hw : w < 4294967296 := by grind [vQ]
 have ht := h.tick
 have hbd := h.bud
 rw [rW, hF1, hw1]
 refine lk func244 ntmps244 rfl rfl ?_
 refine aP (aZ ?_)
 refine dX (i3 rfl) fun b3 => ?_
 refine aa rfl (bC rfl) (aN (aD (aP ?_)))
 refine bB [gb, b3] 21 fun hS => ?_
 refine ae 0 10 hS ?_
 refine ae 11 4 hS ?_
 refine bJ 10 (ah wt (tI z.x.c h.c.cs)) fun hS => ?_
 refine cg 15 (cH call163 (Hf W0 _ z.x.m z.pv z.ps z.pm g.bud fr pg hK (by omega) (jK g.c.cs) (jL g.c.cs) (!eg g.c.cs) e.addr he.addr e.width 1)) ?_; clear hS
 rintro _ B_ ⟨rfl, hB_⟩
 obtain rfl := hB_.symm
 rw [show nN fr pg (jK g.c.cs) (jL g.c.cs) (!eg g.c.cs) e.addr e.width 1 = F from hF1, show qg fr pg (jK g.c.cs) (jL g.c.cs) (!eg g.c.cs) e.addr e.width 1 = w from hw1]
 refine ⟨aK, fun hS => ?_⟩
 refine ae 16 5 hS ?_
 refine fy ?_
 refine aD (aP (aP (aZ (aa rfl (aL rfl) (aa rfl (lN rfl rfl) (aN (aD ?_)))))))
 refine aA rfl (fun c2 => ?_) fun c2 => ?_
 refine aP ?_
 refine bB [b3] 7 fun hS => ?_
 refine ae 0 2 hS ?_
 refine ae 3 2 hS ?_
 refine bJ 2 (ao Jf (BJ 4 F)) fun hS => ?_
 refine li 5 (by kernel_rfl) rfl rfl (ng zm rfl (vP W0 _ gb z (ik g) (N + 1) ht (by omega) (rV 4 F) e.addr (dC _) he.addr)) rfl ?_; clear hS
 rintro _ B_ ⟨rfl, hB_⟩
 obtain rfl := hB_.symm
 refine ⟨(bZ bL), fun hS => ?_⟩
 refine ae 6 1 hS ?_
 refine aI ?_
 refine a8 ?_
 rw [Qaf c2]
 unfold gM
 rw [HD]
 exact aj
 refine au 2 ?_
 refine dO (fun _ : Unit => True) (fun _ => [(0, pV gb), (3, pV b3), (5, wV (if e.signed then oW w e.width else w))]) (fun _ => pt b3 (a7 (d9 e) 276) :: gM gb z (ik g) fr pg R) ?_ ?_
 refine au 6 ?_
 refine ag (fun c4 => ?_) fun c4 => ?_
 refine ac (ao call322 (Z7 w e.width)) ?_
 refine eE () ?_ ?_ ?_
 trivial
 · rw [Qaf c4]
   repeat (first | exact ci | refine bQ rfl ?_)
 exact IO
 refine eE () ?_ ?_ ?_
 trivial
 · rw [Qac c4]
   repeat (first | exact ci | refine bQ rfl ?_)
 exact IO
 intro _ _
 rw [Qac c2]
 obtain ⟨y, hy⟩ : ∃ y, (if e.signed then oW w e.width else w) = y := ⟨_, rfl⟩
 rw [hy]
 have hir : kB (e.d : Int) = true := by have := he.d; simp only [kB, Qaj]; omega
 refine aw ?_
 refine bB [gb, b3] 9 fun hS => ?_
 refine ae 0 8 hS ?_
 refine cg 8 (ah call141 (GM z.x.r g.c.rl g.c.pc y e.d h.c.r.len)) ?_; clear hS
 rintro _ B_ ⟨rfl, hB_⟩
 obtain rfl := hB_.symm
 rw [Qaf hir, Qaf hir, Qam]
 refine ⟨aK, fun hS => ?_⟩
 refine aI ?_
 refine ac (cH CJ (yH W0 _ gb z (HC (ik g) e.d y g.c.pc) (by show (nr g.c.rl e.d y).length = 16; unfold nr; split <;> simp [h.c.r.len]) e.pc)) ?_
 exact a8 aj
theorem Z9 (hK : ∀ A, aT (aB W0 A) 1 0 fX) (h : GOk z g N) (hN : N ≤ 690) (hF : cC fr) (e : Eff) (he : EfOk e) : sQ W0 245 [pV gb, .agg (d9 e).toArray] (gM gb z g fr pg R) (iQ (rX g fr pg e).1) (gM gb z (rX g fr pg e).2 (yE g fr pg e.addr e.width e.val) pg R) := by
 obtain ⟨F, hF1⟩ : ∃ F, oX g fr pg e.addr e.width 2 = F := ⟨_, rfl⟩
 obtain ⟨fr2, hfr2⟩ : ∃ f, yE g fr pg e.addr e.width e.val = f := ⟨_, rfl⟩
 have ht := h.tick
 have hbd := h.bud
 rw [rX, hF1, hfr2]
 refine lk func245 ntmps245 rfl rfl ?_
 refine aP (aZ ?_)
 refine dX (i3 rfl) fun b3 => ?_
 refine aa rfl (bC rfl) (aN (aD (aP (aP ?_))))
 refine bB [gb, b3] 19 fun hS => ?_
 refine ae 0 10 hS ?_
 refine ae 11 6 hS ?_
 refine bJ 10 (ah wt (tI z.x.c h.c.cs)) fun hS => ?_
 refine cg 17 (cH call324 (Y9 W0 _ z.x.m z.pv z.ps z.pm g.bud fr pg hK (by omega) (jK g.c.cs) (jL g.c.cs) (!eg g.c.cs) e.addr he.addr e.width e.val he.val)) ?_; clear hS
 rintro _ B_ ⟨rfl, hB_⟩
 obtain rfl := hB_.symm
 rw [show nN fr pg (jK g.c.cs) (jL g.c.cs) (!eg g.c.cs) e.addr e.width 2 = F from hF1, show m8 fr pg (jK g.c.cs) (jL g.c.cs) (!eg g.c.cs) e.addr e.width e.val = fr2 from hfr2]
 refine ⟨aK, fun hS => ?_⟩
 refine ae 18 1 hS ?_
 refine fy ?_
 refine aD (aP (aZ (aa rfl (aL rfl) (aa rfl (lN rfl rfl) (aN (aD ?_))))))
 refine aA rfl (fun c2 => ?_) fun c2 => ?_
 refine aP ?_
 refine bB [b3] 7 fun hS => ?_
 refine ae 0 2 hS ?_
 refine ae 3 2 hS ?_
 refine bJ 2 (ao Jf (BJ 5 F)) fun hS => ?_
 refine li 5 (by kernel_rfl) rfl rfl (ng zm rfl (vP W0 _ gb z (ik g) (N + 1) ht (by omega) (rV 5 F) e.addr (dC _) he.addr)) rfl ?_; clear hS
 rintro _ B_ ⟨rfl, hB_⟩
 obtain rfl := hB_.symm
 refine ⟨(bZ bL), fun hS => ?_⟩
 refine ae 6 1 hS ?_
 refine aI ?_
 refine a8 ?_
 rw [Qaf c2]
 unfold gM
 rw [HD]
 exact aj
 refine aw ?_
 refine ac (cH CJ (yH W0 _ gb z (ik g) h.c.r.len e.pc)) ?_
 refine a8 ?_
 rw [Qac c2]
 exact aj
theorem Za (h : GOk z g N) (hN : N ≤ 690) (e : Eff) (he : EfOk e) : sQ W0 246 [pV gb, .agg (d9 e).toArray] (gM gb z g fr pg R) (.int .i64 (fP g e.cause e.tval).1) (gM gb z (fP g e.cause e.tval).2 fr pg R) := by
 have hbud : (fP g e.cause e.tval).2.bud = g.bud := by grind [fP]
 refine js 2 func246 ntmps246 ?_
 refine dX (i3 rfl) fun b3 => ?_
 refine au 10 ?_
 refine dK 4 (ng zm rfl (vP W0 _ gb z g N h (by omega) e.cause e.tval (by have := he.cause; omega) he.tval)) ?_
 refine a8 ?_
 unfold gM
 rw [hbud]
 exact ⟨_, ⟨rfl, rfl⟩, IO⟩
theorem Zb (hl : g.c.rl.length = 16) (e : Eff) : sQ W0 247 [pV gb, .agg (d9 e).toArray] (gM gb z g fr pg R) (iQ 0) (gM gb z (ql g e.pc) fr pg R) := by
 refine ab func247 ntmps247 ?_
 refine aS fun b3 => ?_
 refine am rfl (ah call325 (Ya W0 _ z.x.m z.pv z.ps z.pm g.bud fr pg)) ?_
 rintro _ B_ ⟨q, rfl, hB_⟩
 obtain rfl := hB_.symm
 refine aw ?_
 refine ac (cH CJ (yH W0 _ gb z g hl e.pc)) ?_
 exact a8 aj
theorem Zc (hk : g.clock < 1000000000) (hl : g.c.rl.length = 16) (e : Eff) : sQ W0 248 [pV gb, .agg (d9 e).toArray] (gM gb z g fr pg R) (iQ 4) (gM gb z (rU (ql (oV g) e.pc) 4 0 0 g.c.pc) fr pg R) := by
 refine ab func248 ntmps248 ?_
 refine aS fun b3 => ?_
 refine ac (ah sf (pT z.x.r g.c.rl g.c.pc hl)) ?_
 refine ax (kd (by exact rfl : (oU z g).set 8 (.bool true) = oU z (oV g))) ?_
 refine ac (cH CJ (yH W0 _ gb z (oV g) hl e.pc)) ?_
 refine ac (dQ CI (yG W0 _ gb z (ql (oV g) e.pc) hk hl 4 0 0 g.c.pc)) ?_
 exact a8 aj
def HG (f : FuncId) (e : Eff) (o : (Int × Gu) × List ap) : Prop := (∀ args w, (callFunc f args).run Tryz.prog w = .ok (.enter f args) w) ∧ ∀ R, bc Tryz.prog W0 f ([pV gb] ++ [.agg (d9 e).toArray] ++ []) (gM gb z g fr pg R) (fun v B => v = .int .i64 o.1.1 ∧ B = gM gb z o.1.2 o.2 pg R)
theorem rY {f : FuncId} {e : Eff} {o o' : (Int × Gu) × List ap} (hc : ∀ args w, (callFunc f args).run Tryz.prog w = .ok (.enter f args) w) (eo : o = o') (h : ∀ R, bc Tryz.prog W0 f [pV gb, .agg (d9 e).toArray] (gM gb z g fr pg R) (fun v B => v = iQ o'.1.1 ∧ B = gM gb z o'.1.2 o'.2 pg R)) : HG W0 gb z g fr pg f e o := ⟨hc, by rw [eo]; exact h⟩
theorem Zd (e : Eff) : sQ W0 249 [pV gb, .agg (d9 e).toArray] R (iQ 3) R := by
 refine ab func249 ntmps249 ?_
 refine aS fun b3 => ?_
 exact a8 aj
theorem Ze (e : Eff) : sQ W0 250 [pV gb, .agg (d9 e).toArray] R (iQ 0) R := by
 refine ab func250 ntmps250 ?_
 refine aS fun b3 => ?_
 exact a8 aj
theorem BK (hK : ∀ A, aT (aB W0 A) 1 0 fX) (h : GOk z g N) (hN : N ≤ 690) (hF : cC fr) (e : Eff) (he : EfOk e) : sP W0 168 [pV gb, iQ e.k] R (fun v B => ∃ f, v = .func (.func f) #[pV gb] #[] ∧ B = R ∧ HG W0 gb z g fr pg f e (jY g fr pg e)) := by
 refine ab func168 ntmps168 ?_
 refine ag (fun c2 => ?_) fun c2 => ?_
 refine a8 ?_
 refine ⟨_, ⟨_, rfl, rfl, rY W0 gb z g fr pg (o' := (rW g fr pg e, fr)) call244 ?_ fun R => Z8 W0 R gb z g N fr pg hK h hN hF e he⟩, IO⟩
 rw [jY, Qaf (by omega)]
 refine ag (fun c4 => ?_) fun c4 => ?_
 refine a8 ?_
 refine ⟨_, ⟨_, rfl, rfl, rY W0 gb z g fr pg (o' := (rX g fr pg e, yE g fr pg e.addr e.width e.val)) call245 ?_ fun R => Z9 W0 R gb z g N fr pg hK h hN hF e he⟩, IO⟩
 rw [jY, Qac (by omega), Qaf (by omega)]
 refine ag (fun c6 => ?_) fun c6 => ?_
 refine a8 ?_
 refine ⟨_, ⟨_, rfl, rfl, rY W0 gb z g fr pg (o' := (fP g e.cause e.tval, fr)) call246 ?_ fun R => Za W0 R gb z g N fr pg h hN e he⟩, IO⟩
 rw [jY, Qac (by omega), Qac (by omega), Qaf (by omega)]
 refine ag (fun c8 => ?_) fun c8 => ?_
 refine a8 ?_
 refine ⟨_, ⟨_, rfl, rfl, rY W0 gb z g fr pg (o' := ((0, ql g e.pc), fr)) call247 ?_ fun R => Zb W0 R gb z g fr pg h.c.r.len e⟩, IO⟩
 rw [jY, Qac (by omega), Qac (by omega), Qac (by omega), Qaf (by omega)]
 refine ag (fun c10 => ?_) fun c10 => ?_
 refine a8 ?_
 refine ⟨_, ⟨_, rfl, rfl, rY W0 gb z g fr pg (o' := ((4, rU (ql (oV g) e.pc) 4 0 0 g.c.pc), fr)) call248 ?_ fun R => Zc W0 R gb z g fr pg (h.k (by omega)) h.c.r.len e⟩, IO⟩
 rw [jY, Qac (by omega), Qac (by omega), Qac (by omega), Qac (by omega), Qaf (by omega)]
 refine ag (fun c12 => ?_) fun c12 => ?_
 refine a8 ?_
 refine ⟨_, ⟨_, rfl, rfl, rY W0 gb z g fr pg (o' := ((3, g), fr)) call249 ?_ fun R => Zd W0 _ gb e⟩, IO⟩
 rw [jY, Qac (by omega), Qac (by omega), Qac (by omega), Qac (by omega), Qac (by omega), Qaf (by omega)]
 refine a8 ?_
 refine ⟨_, ⟨_, rfl, rfl, rY W0 gb z g fr pg (o' := ((0, g), fr)) call250 ?_ fun R => Ze W0 _ gb e⟩, IO⟩
 rw [jY, Qac (by omega), Qac (by omega), Qac (by omega), Qac (by omega), Qac (by omega), Qac (by omega)]
theorem Zf (hK : ∀ A, aT (aB W0 A) 1 0 fX) (hH : ∀ A, aT (aB W0 A) 0 0 iL) (h : GOk z g N) (hN : N ≤ 680) (hF : cC fr) : sQ W0 74 [pV gb] (gM gb z g fr pg R) (iQ (kE z.i g fr pg).1.1) (gM gb z (kE z.i g fr pg).1.2 (kE z.i g fr pg).2 pg R) := by
 obtain ⟨F, hF1⟩ : ∃ F, oX g fr pg g.c.pc 4 0 = F := ⟨_, rfl⟩
 obtain ⟨w, hw1⟩ : ∃ w, nQ g fr pg g.c.pc 4 0 = w := ⟨_, rfl⟩
 have hw : w < 4294967296 := by grind [vQ]
 have ht := h.tick
 have hbd := h.bud
 obtain ⟨vb, hvb⟩ : ∃ b, jx (fV w) = b := ⟨_, rfl⟩
 have hd16 := Ez w
 obtain ⟨o, ho⟩ : ∃ o, lU z.i (gk g.clock) (fV w) g.c = o := ⟨_, rfl⟩
 have hok : EfOk o.1 ∧ CpOk o.2 := by rw [← ho]; exact EC h.c hd16.2.1 h.i
 have hcp : GOk z (tQ (ik g) o.2) (N + 1) := ⟨hok.2, ht.i, ht.clk, ht.bud, ht.ln, ht.tn⟩
 have hbud : ∀ (a b : Nat), (fP (ik g) a b).2.bud = g.bud + 3 := fun a b => by unfold fP; split <;> rfl
 rw [kE, hF1, hw1, hvb, ho]
 refine ab func74 ntmps74 ?_
 refine ac (ah sf (pT z.x.r g.c.rl g.c.pc h.c.r.len)) ?_
 refine bB [gb] 18 fun hS => ?_
 refine ae 0 10 hS ?_
 refine ae 11 1 hS ?_
 refine bJ 10 (ah wt (tI z.x.c h.c.cs)) fun hS => ?_
 refine cg 12 (cH call163 (Hf W0 _ z.x.m z.pv z.ps z.pm g.bud fr pg hK (by omega) (jK g.c.cs) (jL g.c.cs) (!eg g.c.cs) g.c.pc h.c.pc 4 0)) ?_; clear hS
 rintro _ B_ ⟨rfl, hB_⟩
 obtain rfl := hB_.symm
 rw [show nN fr pg (jK g.c.cs) (jL g.c.cs) (!eg g.c.cs) g.c.pc 4 0 = F from hF1, show qg fr pg (jK g.c.cs) (jL g.c.cs) (!eg g.c.cs) g.c.pc 4 0 = w from hw1]
 refine ⟨aK, fun hS => ?_⟩
 refine ae 13 5 hS ?_
 refine aI ?_
 refine ag (fun c3 => ?_) fun c3 => ?_
 refine am rfl (fZ Jf rfl (BJ 3 F)) ?_
 rintro _ B_ ⟨rfl, hB_⟩
 obtain rfl := hB_.symm
 refine aa rfl (aL rfl) ?_
 refine am rfl (ng zm rfl (vP W0 _ gb z (ik g) (N + 1) ht (by omega) (rV 3 F) g.c.pc (dC _) h.c.pc)) ?_
 rintro _ B_ ⟨rfl, hB_⟩
 obtain rfl := hB_.symm
 refine aa rfl (bC rfl) (aN (aD (dT (lc (a8 ?_)))))
 rw [Qaf c3]
 unfold gM
 rw [hbud]
 exact aj
 rw [Qac c3]
 refine ac (ao call166 (Xw hH w hw)) ?_
 rw [hvb]
 refine bu fun b6 => ?_
 refine ax aC ?_
 refine aA rfl (fun c6 => ?_) fun c6 => ?_
 refine aP ?_
 refine aZ (aa rfl (aL rfl) (aa rfl (aL rfl) ?_))
 refine am rfl (ng zm rfl (vP W0 _ gb z (ik g) (N + 1) ht (by omega) 1 w (by decide) hw)) ?_
 rintro _ B_ ⟨rfl, hB_⟩
 obtain rfl := hB_.symm
 refine aa rfl (bC rfl) (aN (aD (dT (lc (a8 ?_)))))
 rw [Qaf (by grind)]
 unfold gM
 rw [hbud]
 exact aj
 refine aw ?_
 obtain rfl : vb = true := by grind
 rw [Qac (by decide)]
 refine bB [gb, b6] 20 fun hS => ?_
 refine ae 0 12 hS ?_
 refine eG (is := [12, 17]) (by kernel_rfl) rfl ⟨?_, ?_, trivial⟩
 refine di (ah CH (yF W0 _ gb z g (h.k (by omega)))) ?_; clear hS
 rintro _ B_ ⟨rfl, hB_⟩
 obtain rfl := hB_.symm
 refine ⟨aK, fun hS => ?_⟩
 refine eG (is := [13, 17]) (by kernel_rfl) rfl ⟨?_, ?_, trivial⟩
 refine di (cH Jg (BB W0 _ (fV w) z.x.r z.x.c ((gk g.clock : Nat) : Int) g.c z.i hH h.c hvb h.i (by omega))) ?_; clear hS
 rintro _ B_ ⟨rfl, hB_⟩
 obtain rfl := hB_.symm
 rw [Qam, ho]
 refine ⟨aK, fun hS => ?_⟩
 refine ae 14 3 hS ?_
 refine cg 17 (dt nX) ?_; clear hS
 rintro _ _ ⟨b8, rfl, rfl⟩
 refine ⟨aK, fun hS => ?_⟩
 refine cq 18 aC fun hS => ?_
 refine ae 19 1 hS ?_
 refine aI ?_
 refine ag (fun c9 => ?_) fun c9 => ?_
 exact absurd rfl c9
 refine am rfl (ao Jh (BK W0 _ gb z (tQ (ik g) o.2) (N + 1) fr pg hK hcp (by omega) hF o.1 hok.1)) ?_
 rintro _ B_ ⟨f, rfl, hB_, hf⟩
 obtain rfl := hB_.symm
 refine aw ?_
 refine ac (ix uB (gx (us := [pV gb]) (cs := []) rfl hf.1 rfl (hf.2 _))) ?_
 exact a8 aj
 skip
 refine di (dt nX) ?_; clear hS
 rintro _ _ ⟨b8, rfl, rfl⟩
 refine ⟨aK, fun hS => ?_⟩
 refine cg 13 (cH Jg (BB W0 _ (fV w) z.x.r z.x.c ((gk g.clock : Nat) : Int) g.c z.i hH h.c hvb h.i (by omega))) ?_; clear hS
 rintro _ B_ ⟨rfl, hB_⟩
 obtain rfl := hB_.symm
 rw [Qam, ho]
 refine ⟨aK, fun hS => ?_⟩
 refine ae 14 3 hS ?_
 refine cq 18 aC fun hS => ?_
 refine ae 19 1 hS ?_
 refine aI ?_
 refine ag (fun c9 => ?_) fun c9 => ?_
 exact absurd rfl c9
 refine am rfl (ao Jh (BK W0 _ gb z (tQ (ik g) o.2) (N + 1) fr pg hK hcp (by omega) hF o.1 hok.1)) ?_
 rintro _ B_ ⟨f, rfl, hB_, hf⟩
 obtain rfl := hB_.symm
 refine aw ?_
 refine ac (ix uB (gx (us := [pV gb]) (cs := []) rfl hf.1 rfl (hf.2 _))) ?_
 exact a8 aj
 skip
 refine di (dt nX) ?_; clear hS
 rintro _ _ ⟨b8, rfl, rfl⟩
 refine ⟨aK, fun hS => ?_⟩
 refine bJ 12 (ah CH (yF W0 _ gb z g (h.k (by omega)))) fun hS => ?_
 refine cg 13 (cH Jg (BB W0 _ (fV w) z.x.r z.x.c ((gk g.clock : Nat) : Int) g.c z.i hH h.c hvb h.i (by omega))) ?_; clear hS
 rintro _ B_ ⟨rfl, hB_⟩
 obtain rfl := hB_.symm
 rw [Qam, ho]
 refine ⟨aK, fun hS => ?_⟩
 refine ae 14 3 hS ?_
 refine cq 18 aC fun hS => ?_
 refine ae 19 1 hS ?_
 refine aI ?_
 refine ag (fun c9 => ?_) fun c9 => ?_
 exact absurd rfl c9
 refine am rfl (ao Jh (BK W0 _ gb z (tQ (ik g) o.2) (N + 1) fr pg hK hcp (by omega) hF o.1 hok.1)) ?_
 rintro _ B_ ⟨f, rfl, hB_, hf⟩
 obtain rfl := hB_.symm
 refine aw ?_
 refine ac (ix uB (gx (us := [pV gb]) (cs := []) rfl hf.1 rfl (hf.2 _))) ?_
 exact a8 aj
end
abbrev gI (gb : Nat) (z : Gz) (g : Gu) (R : List HP) : List HP := pt gb (e8 z g) :: pt z.x.r (d8 g.c.rl g.c.pc) :: pt z.x.c (dh g.c.cs z.i) :: fi z.tr g.es :: l7 z.x.v (g.ls, g.ln) :: m9 z.x.t g.tm :: R
abbrev gS (gb : Nat) (z : Gz) (g : Gu) (fr : List ap) (pg : List Pl) (R : List HP) : List HP := pt gb (e8 z g) :: pt z.x.r (d8 g.c.rl g.c.pc) :: pt z.x.c (dh g.c.cs z.i) :: fi z.tr g.es :: l7 z.x.v (g.ls, g.ln) :: m9 z.x.t g.tm :: jh z.x.m ⟨z.pv, z.ps, z.pm, g.bud, fr, pg⟩ :: bj z.ps fr :: R
theorem CpOk.enter {g : Gu} (h : CpOk g.c) {cause tval : Nat} (h1 : cause < 4294967296) (h2 : tval < 4294967296) : CpOk (yD g cause tval).c := ⟨h.r, h.cs.at_ 1, h.cs.enter h.pc h1 h2⟩
theorem HH (ls : List Li) (n : Int) (k : Nat) : l6 ls n k ≤ n + 1 := by unfold l6; split <;> omega
theorem GOk.fired {z : Gz} {g : Gu} {N : Nat} (h : GOk z g N) : GOk z (mB g) (N + 1) := by
 refine ⟨h.c, h.i, by have := h.clk; show g.clock ≤ N + 1; omega, by have := h.bud; show g.bud ≤ _; omega, ?_, by have := h.tn; show g.tm.now ≤ _; omega⟩
 have := h.ln
 have := HH g.ls g.ln 7
 show (if _ then g.ln else l6 g.ls g.ln 7) ≤ _
 split <;> omega
theorem GOk.le {z : Gz} {g : Gu} {N M : Nat} (h : GOk z g N) (hM : N ≤ M) : GOk z g M := ⟨h.c, h.i, by have := h.clk; omega, by have := h.bud; omega, by have := h.ln; omega, by have := h.tn; omega⟩
theorem GOk.int {z : Gz} {g : Gu} {N : Nat} (h : GOk z g N) : GOk z (jC g).2 (N + 1) := by
 unfold jC
 split
 cases q : jX g.ls with
 | none => exact h.le (Nat.le_succ N)
 | some n =>
  have := (yz q).1
  exact ⟨h.c.enter (by omega) (by decide), h.i, by have := h.clk; show g.clock ≤ _; omega, by have := h.bud; show g.bud ≤ _; omega, by have := h.ln; show g.ln ≤ _; omega, by have := h.tn; show g.tm.now ≤ _; omega⟩
 exact h.le (Nat.le_succ N)
theorem GOk.clock {z : Gz} {g : Gu} {N : Nat} (h : GOk z g N) : GOk z (mD g) (N + 1) := ⟨h.c, h.i, by have := h.clk; show g.clock + 1 ≤ _; omega, by have := h.bud; show g.bud ≤ _; omega, by have := h.ln; show g.ln ≤ _; omega, by have := h.tn; show g.tm.now ≤ _; omega⟩
theorem vR (g : Gu) (a b : Nat) : (fP g a b).2.ls = g.ls ∧ (fP g a b).2.ln = g.ln ∧ (fP g a b).2.tm = g.tm := by
 grind [fP]
theorem HI (i : Nat) (g : Gu) (fr : List ap) (pg : List Pl) : (kE i g fr pg).1.2.ls = g.ls ∧ (kE i g fr pg).1.2.ln = g.ln ∧ (kE i g fr pg).1.2.tm = g.tm := by
 unfold kE
 split; · exact vR _ _ _
 split; · exact vR _ _ _
 unfold jY
 split
 grind [rW, vR]
 split
 grind [rX, vR]
 split; · exact vR _ _ _
 split; · exact ⟨rfl, rfl, rfl⟩
 split; · exact ⟨rfl, rfl, rfl⟩
 split; · exact ⟨rfl, rfl, rfl⟩
 exact ⟨rfl, rfl, rfl⟩
section
variable (W0 : World) (R : List HP) (gb : Nat) (z : Gz) (g : Gu) (N : Nat) (fr : List ap) (pg : List Pl)
theorem Zg (h : GOk z g N) (hN : N ≤ 690) : sQ W0 73 [pV gb] (gI gb z g R) (.bool (jC (mB g)).1) (gI gb z (jC (mB g)).2 R) := by
 have htn := h.tn
 have hln := h.ln
 obtain ⟨ob, hob⟩ : ∃ b, ri g.c.cs = b := ⟨_, rfl⟩
 obtain ⟨K, hK⟩ : ∃ K, qk g.tm ((gk g.clock : Nat) : Int) = K := ⟨_, rfl⟩
 obtain ⟨q, hq⟩ : ∃ q, mB g = q := ⟨_, rfl⟩
 have hqc : q.c = g.c := by rw [← hq]
 have hqo : oU z q = oU z g := by rw [← hq]
 have hqe : q.es = g.es := by rw [← hq]
 have hqk : q.clock = g.clock := by rw [← hq]
 rw [hq, jC, hqc, hob]
 refine js 5 func73 ntmps73 ?_
 refine dO (fun _ : Unit => True) (fun _ => [(0, pV gb)]) (fun _ => pt gb (e8 z q) :: pt z.x.r (d8 q.c.rl q.c.pc) :: pt z.x.c (dh q.c.cs z.i) :: fi z.tr q.es :: l7 z.x.v (q.ls, q.ln) :: m9 z.x.t q.tm :: R) ?_ ?_
 refine au 1 ?_
 refine bB [gb] 10 fun hS => ?_
 refine ae 0 6 hS ?_
 refine bJ 6 (ah CH (yF W0 _ gb z g (h.k (by omega)))) fun hS => ?_
 refine cg 7 (ah call158 (Z3 z.x.t g.tm ((gk g.clock : Nat) : Int) (by omega))) ?_; clear hS
 rintro _ B_ ⟨fa, fc, rfl, hB_⟩
 obtain rfl := hB_.symm
 rw [hK]
 refine ⟨aK, fun hS => ?_⟩
 refine ae 8 2 hS ?_
 refine aI ?_
 refine ag (fun c1 => ?_) fun c1 => ?_
 refine ac (ah call51 (YG z.x.v g.ls g.ln 7 (by omega))) ?_
 rw [Qaf (show jz 7 = true by decide), Qaf (show jz 7 = true by decide), Qaf (show jz 7 = true by decide), show (7 : Int).toNat = 7 from rfl]
 refine cu () ?_ (he := ?_)
 trivial
 rw [← hq]
 show Ent _ (pt gb (e8 z g) :: pt z.x.r (d8 g.c.rl g.c.pc) :: pt z.x.c (dh g.c.cs z.i) :: fi z.tr g.es :: l7 z.x.v (if qk g.tm ((gk g.clock : Nat) : Int) = 0 then g.ls else nO g.ls g.ln 7, if qk g.tm ((gk g.clock : Nat) : Int) = 0 then g.ln else l6 g.ls g.ln 7) :: m9 z.x.t (tP g.tm ((gk g.clock : Nat) : Int)) :: R)
 rw [hK, Qac (by omega), Qac (by omega)]
 exact IO
 refine cu () ?_ (he := ?_)
 trivial
 rw [← hq]
 show Ent _ (pt gb (e8 z g) :: pt z.x.r (d8 g.c.rl g.c.pc) :: pt z.x.c (dh g.c.cs z.i) :: fi z.tr g.es :: l7 z.x.v (if qk g.tm ((gk g.clock : Nat) : Int) = 0 then g.ls else nO g.ls g.ln 7, if qk g.tm ((gk g.clock : Nat) : Int) = 0 then g.ln else l6 g.ls g.ln 7) :: m9 z.x.t (tP g.tm ((gk g.clock : Nat) : Int)) :: R)
 rw [hK, Qaf (by omega), Qaf (by omega)]
 exact IO
 intro _ _
 clear hq
 obtain ⟨qc, qa, qb, qcc, qls, qln, qtm, qh, qrd, qclk, qes, qbud⟩ := q
 dsimp only at hqc hqo hqe hqk ⊢
 subst hqc; subst hqe; subst hqk
 have hcs := h.c
 refine aw ?_
 refine ac (ah call160 (WU z.x.c h.c.cs)) ?_
 rw [hob]
 refine ag (fun c3 => ?_) fun c3 => ?_
 refine a8 ?_
 rw [Qac (by simpa using c3)]
 exact aj
 rw [Qaf (by simpa using c3)]
 refine ac (ah call161 (YI z.x.v qls qln)) ?_
 obtain ⟨bo, hbo⟩ : ∃ b, jX qls = b := ⟨_, rfl⟩
 rw [hbo]
 have htk : bo = none → mz qls = qls := fun e => by unfold mz; rw [hbo, e]
 have hlt : ∀ n, bo = some n → n < 8 := fun n e => (yz (hbo.trans e)).1
 refine ag (fun c6 => ?_) fun c6 => ?_
 refine a8 ?_
 cases bo with
 | some n => exact absurd rfl c6
 | none =>
  rw [htk rfl]
  exact aj
 obtain ⟨n, rfl⟩ : ∃ n, bo = some n := by
  cases bo with
  | some n => exact ⟨n, rfl⟩
  | none => simp at c6
 have hn8 := hlt n rfl
 rw [Option.getD_some]
 refine ac (ah sf (pT z.x.r g.c.rl g.c.pc h.c.r.len)) ?_
 refine a6 (cT (dP (by omega))) ?_
 refine a6 (dG (256 + n)) ?_
 refine ac (ah call162 (GT z.x.c g.c.pc (256 + n) 0 h.c.cs h.c.pc (by omega) (by decide))) ?_
 refine ac (ah CB (xR z.x.r g.c.rl g.c.pc (dD g.c.cs 1) h.c.r.len)) ?_
 refine ac (dQ CI (yG W0 _ gb z ⟨⟨g.c.rl, dD g.c.cs 1, rj g.c.cs g.c.pc (256 + n) 0⟩, qa, qb, qcc, mz qls, qln, qtm, qh, qrd, g.clock, g.es, qbud⟩ (h.k (by omega)) h.c.r.len 3 (256 + n) 0 g.c.pc)) ?_
 exact a8 aj
theorem BL (hK : ∀ A, aT (aB W0 A) 1 0 fX) (hH : ∀ A, aT (aB W0 A) 0 0 iL) (h : GOk z g N) (hN : N ≤ 600) (hF : cC fr) : sQ W0 12 [pV gb] (gS gb z g fr pg R) (iQ (j4 z.i g fr pg).1.1) (gS gb z (j4 z.i g fr pg).1.2 (j4 z.i g fr pg).2 pg R) := by
 have hck := h.clk
 have h1 := h.clock
 have h2 := (h1.fired).int
 obtain ⟨q, hq⟩ : ∃ q, jC (mB (mD g)) = q := ⟨_, rfl⟩
 have hqb : q.2.bud = g.bud := by
  grind [jC]
 rw [hq] at h2
 rw [j4, hq]
 refine ab func12 ntmps12 ?_
 refine ac (ah pf (nR W0 _ gb z g)) ?_
 refine a6 (dG (g.clock + 1)) ?_
 refine ax (kd (by exact rfl : (oU z g).set 27 (iQ ((g.clock + 1 : Nat) : Int)) = oU z (mD g))) ?_
 refine ag (fun c4 => ?_) fun c4 => ?_
 refine a8 ?_
 rw [Qaf c4]
 exact aj
 rw [Qac c4]
 refine ac (wO call73 rfl (Zg W0 _ gb z (mD g) (N + 1) h1 (by omega))) ?_
 rw [hq]
 refine ag (fun c6 => ?_) fun c6 => ?_
 refine a8 ?_
 rw [Qaf c6]
 unfold gS
 rw [← hqb]
 exact aj
 rw [Qac c6, ← hqb]
 refine ac (wO call74 rfl (Zf W0 _ gb z q.2 (N + 1 + 1 + 1) fr pg hK hH h2 (by omega) hF)) ?_
 have hxv := HI z.i q.2 fr pg
 refine a8 ?_
 refine ⟨_, ⟨rfl, rfl⟩, ?_⟩
 unfold gS
 rw [hxv.1, hxv.2.1, hxv.2.2]
 exact IO
end
structure Mm where
  fr : List ap
  pg : List Pl
  po : Po
structure GMem (i : Nat) (x : Mm) : Prop where
  fr : cC x.fr
  po : PoOk x.po
  pg : Pgs x.pg
  len : x.po.length = x.fr.length
  pl : PlOk x.fr.length x.pg
  own : ∀ t : Nat, t < 8 → aX x.pg t = true → cV x.po (cy x.pg t).1.toNat = ((i : Int), true)
  all : ∀ f, f < x.po.length → cV x.po f = ((i : Int), true) → ∃ t : Nat, t < 8 ∧ aX x.pg t = true ∧ (cy x.pg t).1 = (f : Int)
  far : ∀ t : Nat, 8 ≤ t → aX x.pg t = true → (cV x.po (cy x.pg t).1.toNat).1 ≠ (i : Int)
  nul : ∀ f, f < x.po.length → cV x.po f = ((i : Int), false) → x.fr.getD f [] = bX
theorem HJ {pg : List Pl} (h : Pgs pg) {t : Int} (ht : aX pg t = true) : 0 ≤ (cy pg t).1 ∧ (cy pg t).1 < 32 := by
 have ht2 := ht
 simp only [aX, Qar, Qaj] at ht2
 obtain ⟨i, rfl, hi⟩ := lp ht2.1
 rw [Qam] at ht2
 rw [cy, Qaf ht, Qam]
 have := h.ok i hi ht2.2
 simp only [jv, Qaj] at this
 omega
def Zh (i n : Nat) (x : Mm) : Mm := ⟨x.fr.set (cy x.pg n).1.toNat bX, Wz x.pg n, x.po.set (cy x.pg n).1.toNat ((i : Int), false)⟩
theorem a3L {α : Type} {l : List α} {n k : Nat} {x d : α} (h : k ≠ n) : (l.set n x).getD k d = l.getD k d := by
 grind
def Zi (i n : Nat) (x : Mm) : Mm := if aX x.pg n then Zh i n x else x
def rZ (i : Nat) : Nat → Mm → Mm
 | 0, x => x
 | n + 1, x => Zi i n (rZ i n x)
theorem yI {pg : List Pl} {n f : Nat} (hl : pg.length = 12) (hn : n < 8) {t : Int} : aX (pg.set n ((f : Int), 3)) t = (aX pg t || decide (t = (n : Int))) := by
 by_cases e : t = (n : Int)
 grind [yu]
 grind [jg]
theorem GMem.come {i n f : Nat} {x : Mm} (h : GMem i x) (hi : i < 16) (hn : n < 8) (ht : aX x.pg n = false) (hf : f < x.po.length) (hfo : cV x.po f = ((i : Int), false)) (fr' : List ap) (hF : cC fr') (hl : fr'.length = x.fr.length) (hs : ∀ k, k ≠ f → fr'.getD k [] = x.fr.getD k []) :
    GMem i ⟨fr', dA x.pg n ((f : Int), 3), x.po.set f ((i : Int), true)⟩ ∧ eB x.pg n ((f : Int), 3) = 0 := by
 have hf32 : f < 32 := by have := h.po.len; omega
 have hE := Fu hn hf32 ht
 have hP : dA x.pg n ((f : Int), 3) = x.pg.set n ((f : Int), 3) := by grind [dA]
 have hpl := h.pg.len
 have hgn := (yu (p := ((f : Int), 3)) hpl (show n < 12 by omega) (by grind)).2
 have hne : ∀ t : Int, aX x.pg t = true → (cy x.pg t).1 ≠ (f : Int) := fun t q e => by
  have ht2 := q
  simp only [aX, Qar] at ht2
  obtain ⟨k, rfl, hk⟩ := lp ht2.1
  rcases QaD k 8 with h8 | h8
  have := h.own k h8 q
  rw [e, Qam, hfo] at this
  have := (Prod.mk.inj this).2; cases this
  have := h.far k h8 q
  rw [e, Qam, hfo] at this
  exact this rfl
 refine ⟨?_, hE⟩
 rw [hP]
 refine ⟨hF, h.po.set hf (by simp) (by simp; omega), ?_, by rw [Qao, hl]; exact h.len, ?_, fun t h8 q => ?_, fun k hk q => ?_, fun t h8 q => ?_, fun k hk q => ?_⟩
 have := uM (n := (n : Int)) (p := ((f : Int), 3)) h.pg
 rwa [hP] at this
 rw [hl]
 exact h.pl.set hpl (by omega) (by grind) (by have := h.len; omega) fun t q e => hne t q e
 dsimp only at q ⊢
 rw [yI hpl hn] at q
 by_cases e : (t : Int) = (n : Int)
 grind [Qam, ku]
 rw [Qaq e, Qcl] at q
 have h1 := HJ h.pg q
 rw [(jg e).2, ku hf, Qac (fun e2 => hne t q (by omega))]
 exact h.own t h8 q
 dsimp only at hk q ⊢
 rw [Qao] at hk
 rw [ku hf] at q
 by_cases e : k = f
 grind [yI]
 rw [Qac e] at q
 obtain ⟨t, h8, h1, h2⟩ := h.all k hk q
 have e2 : (t : Int) ≠ (n : Int) := fun e2 => by rw [e2, ht] at h1; cases h1
 exact ⟨t, h8, by rw [yI hpl hn, h1, Qbg], by rw [(jg e2).2]; exact h2⟩
 dsimp only at q ⊢
 rw [yI hpl hn] at q
 have e : (t : Int) ≠ (n : Int) := by omega
 rw [Qaq e, Qcl] at q
 have h1 := HJ h.pg q
 rw [(jg e).2, ku hf, Qac (fun e2 => hne t q (by omega))]
 exact h.far t h8 q
 dsimp only at hk q ⊢
 rw [Qao] at hk
 rw [ku hf] at q
 by_cases e : k = f
 grind
 rw [Qac e] at q
 rw [hs k e]
 exact h.nul k hk q
theorem Zj {fr : List ap} {f : Nat} {o w : Int} {x : Nat} {k : Nat} (hk : k ≠ f) : (eY fr f o w x).getD k [] = fr.getD k [] := by
 grind [eY]
theorem HK {f : Nat} : ∀ {l : List Nat} {j : Nat} {fr : List ap} {k : Nat}, k ≠ f → (fW f l j fr).getD k [] = fr.getD k []
 | [], _, _, _, _ => rfl
 | y :: t, j, fr, k, h => by rw [fW, HK h, Zj h]
def HM (x : Im) : Mm := ⟨x.fr, x.pg, x.po⟩
theorem GMem.lay {i : Nat} {words : List Nat} {x : Im} (h : GMem i (HM x)) (hi : i < 16) (hf : oD x.pg 0 8) : ∀ n, n ≤ 8 → n ≤ (bP x.po i).length → GMem i (HM (cD i words n x))
 | 0, _, _ => h
 | n + 1, hn, hl => by
  have h1 := h.lay (words := words) hi hf n (by omega) (by omega)
  have h2 := (xo (who := i) (words := words) hf h.pg.len n (by omega)).1 n (Qap _) (by omega)
  have h3 := xn (who := i) (words := words) (x := x) n
  rw [cD, iD]
  cases e : bP (cD i words n x).po i with
  | nil => rw [e] at h3; simp at h3; omega
  | cons f l =>
   have hm := kv.1 (show f ∈ bP (cD i words n x).po i by rw [e]; simp)
   obtain ⟨k1, k2⟩ := rn (f := f) (l := dp words n) (k := 0) h1.fr
   exact (h1.come hi (by omega) h2 hm.1 hm.2 _ k1 k2 (fun k hk => HK hk)).1
section
variable (W0 : World) (R : List HP) (gb : Nat) (z : Gz) (g : Gu) (N : Nat)
theorem HN (hl : g.c.rl.length = 16) : sQ W0 13 [pV gb] (pt gb (e8 z g) :: pt z.x.r (d8 g.c.rl g.c.pc) :: R) (.agg (g.c.rl.map wV).toArray) (pt gb (e8 z g) :: pt z.x.r (d8 g.c.rl g.c.pc) :: R) := by
 refine ab func13 ntmps13 ?_
 refine bu fun b1 => ?_
 refine ac (ah pf (nR W0 _ gb z g)) ?_
 refine ac (ah call75 (FM z.x.r g.c.rl g.c.pc hl)) ?_
 refine ax (fG mJ rfl rfl (by grind) (xQ g.c.rl) rfl) ?_
 exact bi (.cons (bD wd mJ rfl (by grind)) .nil) aj
theorem HO : sQ W0 42 [pV gb] (pt gb (e8 z g) :: R) (pV z.pv) (pt gb (e8 z g) :: R) := by
 refine ab func42 ntmps42 ?_
 refine ac (ah pf (nR W0 _ gb z g)) ?_
 exact a8 aj
theorem Zk : sQ W0 38 [pV gb] (pt gb (e8 z g) :: R) (pV z.tr) (pt gb (e8 z g) :: R) := by
 refine ab func38 ntmps38 ?_
 refine ac (ah pf (nR W0 _ gb z g)) ?_
 exact a8 aj
theorem Zl : sQ W0 40 [pV gb] (pt gb (e8 z g) :: R) (pV z.bx) (pt gb (e8 z g) :: R) := by
 refine ab func40 ntmps40 ?_
 refine ac (ah pf (nR W0 _ gb z g)) ?_
 exact a8 aj
theorem HQ : sQ W0 15 [pV gb] (pt gb (e8 z g) :: R) (iQ g.clock) (pt gb (e8 z g) :: R) := by
 refine ab func15 ntmps15 ?_
 refine ac (ah pf (nR W0 _ gb z g)) ?_
 exact a8 aj
theorem Zm : sQ W0 36 [pV gb] (pt gb (e8 z g) :: R) (.bool g.halted) (pt gb (e8 z g) :: R) := by
 refine ab func36 ntmps36 ?_
 refine ac (ah pf (nR W0 _ gb z g)) ?_
 refine j8 rfl rfl rfl (fun g1_4 => ?_) fun g1_4 => ?_
 refine au 14 ?_
 exact a8 aj
 first | exact absurd rfl g1_4 | exact absurd (by decide) g1_4 | simp at g1_4
theorem HR (hl : g.c.rl.length = 16) : sQ W0 14 [pV gb] (pt gb (e8 z g) :: pt z.x.r (d8 g.c.rl g.c.pc) :: R) (wV g.c.pc) (pt gb (e8 z g) :: pt z.x.r (d8 g.c.rl g.c.pc) :: R) := by
 refine ab func14 ntmps14 ?_
 refine ac (ah pf (nR W0 _ gb z g)) ?_
 refine ac (ah sf (pT z.x.r g.c.rl g.c.pc hl)) ?_
 exact a8 aj
end
section
variable (W0 : World) (R : List HP) (gb : Nat) (z : Gz) (g : Gu) (N : Nat)
end
abbrev HS : Tm := ⟨[false, false, false, false], 0, []⟩
abbrev nS : List Nat := [0, 0, 0, 0, 0, 4, 0]
abbrev BM : List Li := List.replicate 8 default
theorem Zn {b : Nat} {R : List HP} : Ent (pt b (a7 [dm, .bool true] 442) :: R) (bG b [] :: R) :=
  (Ent.cons (eH (E := 389) (sz := 7) (A := R) (B := R))).trans (en (R := R) (C := [_, _]) ⟨none, 0, rfl⟩)
theorem Zo {fr : List ap} {pg : List Pl} (hF : cC fr) (hP : Pgs pg) (hp : PlOk fr.length pg) : MOk fr pg 0 [] [] := ⟨hF, by decide, hP, hp, TI.nil, fun x hx => by simp at hx⟩
abbrev HT (x : Bd) (q0 q1 q2 i pv ps pm : Nat) (fr : List ap) (pg : List Pl) (R : List HP) : List HP := pt x.r (d8 (List.replicate 16 0) 0) :: pt x.c (dh nS i) :: jh x.m ⟨pv, ps, pm, 0, fr, pg⟩ :: l7 x.v (BM, 0) :: m9 x.t HS :: pt q0 (qO true df) :: pt q1 (qO true df) :: pt q2 (qO true df) :: R
theorem Zp {x : Bd} {bt bs q0 q1 q2 i pv ps pm : Nat} {fr : List ap} {pg : List Pl} {R : List HP} (h : MOk fr pg 0 [] []) : Ent (tt x i bt bs pv (kH 6 (bH [pt q0 (qO true df), pt q1 (qO true df), pt q2 (qO true df)]) :: pt pv (cp ps pm 0) :: pt pm (bI pg) :: R)) (HT x q0 q1 q2 i pv ps pm fr pg R) := by
 refine Ent.cons (Ent.cons ?_)
 show Ent (pt x.m (tq pv bt bs) :: aJ bt ([], d3 4 0) :: pt bs (a7 [dm, .bool true] 442) :: pt x.v pU :: pt x.t pW :: kH 6 (bH [pt q0 (qO true df), pt q1 (qO true df), pt q2 (qO true df)]) :: pt pv (cp ps pm 0) :: pt pm (bI pg) :: R) _
 have e1 : Ent (pt x.m (tq pv bt bs) :: aJ bt ([], d3 4 0) :: pt bs (a7 [dm, .bool true] 442) :: pt x.v pU :: pt x.t pW :: kH 6 (bH [pt q0 (qO true df), pt q1 (qO true df), pt q2 (qO true df)]) :: pt pv (cp ps pm 0) :: pt pm (bI pg) :: R)
     (kH 6 (bH [pt q0 (qO true df), pt q1 (qO true df), pt q2 (qO true df)]) :: pt bs (a7 [dm, .bool true] 442) :: pt x.m (tq pv bt bs) :: aJ bt ([], d3 4 0) :: pt pv (cp ps pm 0) :: pt pm (bI pg) :: pt x.v pU :: pt x.t pW :: R) := inferInstance
 refine e1.trans ((mM (A := [pt q0 (qO true df), pt q1 (qO true df), pt q2 (qO true df)])).trans ?_)
 refine Ent.trans (B := pt q0 (qO true df) :: pt q1 (qO true df) :: pt q2 (qO true df) :: bG bs [] :: pt x.m (tq pv bt bs) :: aJ bt ([], d3 4 0) :: pt pv (cp ps pm 0) :: pt pm (bI pg) :: pt x.v pU :: pt x.t pW :: R) (Ent.cons (Ent.cons (Ent.cons Zn))) ?_
 refine Ent.trans (B := pt x.m (cN pv bt bs) :: aJ bt ([], d3 4 0) :: bG bs [] :: pt pv (cp ps pm 0) :: pt pm (bI pg) :: pt q0 (qO true df) :: pt q1 (qO true df) :: pt q2 (qO true df) :: pt x.v pU :: pt x.t pW :: R) inferInstance ?_
 refine (rR (bud := 0) Rep.nil (QaU _) (Qap _) h).trans (Ent.cons ?_)
 refine Ent.trans (B := pt x.v (a7 ((d5 BM 0).set 32 dm) 229) :: pt x.t (a7 ((iN [false, false, false, false] 0).set 0 dm) 256) :: pt q0 (qO true df) :: pt q1 (qO true df) :: pt q2 (qO true df) :: R) ?_ ?_
 exact Ent.trans (B := pt x.v pU :: pt x.t pW :: pt q0 (qO true df) :: pt q1 (qO true df) :: pt q2 (qO true df) :: R) inferInstance ent_refl
 exact YE.trans (Ent.cons Z0)
attribute [local irreducible] rZ
section
variable (W0 : World) (R : List HP) (gb : Nat) (z : Gz) (g : Gu) (N : Nat)
end
theorem vS (t : Int) : aX gY t = false := by
 cases q : aX gY t with
 | false => rfl
 | true =>
  have h := q
  simp only [aX, Qar] at h
  obtain ⟨k, rfl, hk⟩ := lp h.1
  have : k = 0 ∨ k = 1 ∨ k = 2 ∨ k = 3 ∨ k = 4 ∨ k = 5 ∨ k = 6 ∨ k = 7 ∨ k = 8 ∨ k = 9 ∨ k = 10 ∨ k = 11 := by omega
  rcases this with rfl | rfl | rfl | rfl | rfl | rfl | rfl | rfl | rfl | rfl | rfl | rfl <;> exact absurd q (by decide)
theorem GMem.none {i : Nat} {fr : List ap} {po : Po} (hF : cC fr) (hP : PoOk po) (hl : po.length = fr.length) (h1 : ∀ f, f < po.length → cV po f ≠ ((i : Int), true)) (h2 : ∀ f, f < po.length → cV po f = ((i : Int), false) → fr.getD f [] = bX) : GMem i ⟨fr, gY, po⟩ :=
  ⟨hF, hP, vA, hl, ⟨fun t ht => absurd ht (by rw [vS]; decide), fun s t hs => absurd hs (by rw [vS]; decide)⟩, fun t _ ht => absurd ht (by rw [vS]; decide), fun f hf e => absurd e (h1 f hf), fun t _ ht => absurd ht (by rw [vS]; decide), h2⟩
theorem Zq {who i : Nat} {words : List Nat} {x : Im} : (iD who words x i).po.length = x.po.length ∧ (∀ f, (cV (iD who words x i).po f).1 = (cV x.po f).1) := by
 unfold iD
 cases e : bP x.po who with
 | nil => exact ⟨rfl, fun _ => rfl⟩
 | cons f l =>
  have hf := kv.1 (show f ∈ bP x.po who by rw [e]; simp)
  refine ⟨Qao .., fun k => ?_⟩
  dsimp only
  rw [ku hf.1]
  split
  grind
  rfl
theorem yJ {who : Nat} {words : List Nat} {x : Im} : ∀ n, (cD who words n x).po.length = x.po.length ∧ (∀ f, (cV (cD who words n x).po f).1 = (cV x.po f).1)
 | 0 => ⟨rfl, fun _ => rfl⟩
 | n + 1 => by
  obtain ⟨h1, h2⟩ := yJ (who := who) (words := words) (x := x) n
  obtain ⟨h3, h4⟩ := Zq (who := who) (i := n) (words := words) (x := cD who words n x)
  exact ⟨h3.trans h1, fun f => (h4 f).trans (h2 f)⟩
theorem yK {who : Nat} {words : List Nat} {x : Im} : ∀ n, n ≤ 8 → ∀ t : Nat, 8 ≤ t → aX (cD who words n x).pg t = aX x.pg t
 | 0, _, _, _ => rfl
 | n + 1, hn, t, ht => by
  rw [cD, iD]
  cases e : bP (cD who words n x).po who with
  | nil => exact yK n (by omega) t ht
  | cons f l =>
   dsimp only
   unfold dA
   split
   rw [Qam, (jg (by omega)).1]
   exact yK n (by omega) t ht
   exact yK n (by omega) t ht
theorem GMem.ring {i k : Nat} {fr : List ap} {pg : List Pl} {po : Po} {f : Nat} {r : Int} (h : GMem i ⟨fr, pg, po⟩) (hk : k < 4) (hno : aX pg ((8 + k : Nat) : Int) = false) (hf : f < fr.length) (hr : 1 ≤ r ∧ r ≤ 3) (ho : (cV po f).1 ≠ (i : Int)) (hd : ∀ t, aX pg t = true → (cy pg t).1 ≠ (f : Int)) :
    GMem i ⟨fr, dA pg ((8 + k : Nat) : Int) ((f : Int), r), po⟩ ∧ (∀ t, aX (dA pg ((8 + k : Nat) : Int) ((f : Int), r)) t = (aX pg t || decide (t = ((8 + k : Nat) : Int)))) ∧ (∀ t, t ≠ ((8 + k : Nat) : Int) → cy (dA pg ((8 + k : Nat) : Int) ((f : Int), r)) t = cy pg t) ∧ cy (dA pg ((8 + k : Nat) : Int) ((f : Int), r)) ((8 + k : Nat) : Int) = ((f : Int), r) := by
 have hf32 : f < 32 := by have := h.po.len; have := h.len; dsimp only at *; omega
 have hE : eB pg ((8 + k : Nat) : Int) ((f : Int), r) = 0 := by
  rw [eB, Qaf ⟨Qak (by omega), Qak (by omega)⟩, hno]; rfl
 have hP : dA pg ((8 + k : Nat) : Int) ((f : Int), r) = pg.set (8 + k) ((f : Int), r) := by grind [dA]
 have hne : (((f : Int), r) : Pl) ≠ (0, 0) := fun e => by have := (Prod.mk.inj e).2; omega
 have hg := yu (p := ((f : Int), r)) h.pg.len (show 8 + k < 12 by omega) hne
 have hth : ∀ t, aX (pg.set (8 + k) ((f : Int), r)) t = (aX pg t || decide (t = ((8 + k : Nat) : Int))) := fun t => by
  by_cases e : t = ((8 + k : Nat) : Int)
  grind
  grind [jg]
 rw [hP]
 refine ⟨⟨h.fr, h.po, ?_, h.len, h.pl.set h.pg.len (by omega) hne (by grind) hd, fun t h8 q => ?_, fun g hgl q => ?_, fun t h8 q => ?_, h.nul⟩, hth, fun t e => (jg e).2, hg.2⟩
 have := uM (n := ((8 + k : Nat) : Int)) (p := ((f : Int), r)) h.pg
 rwa [hP] at this
 have e : (t : Int) ≠ ((8 + k : Nat) : Int) := by omega
 dsimp only at q ⊢
 rw [hth, Qaq e, Qcl] at q
 rw [(jg e).2]
 exact h.own t h8 q
 obtain ⟨t, h8, h1, h2⟩ := h.all g hgl q
 have e : (t : Int) ≠ ((8 + k : Nat) : Int) := by omega
 exact ⟨t, h8, by dsimp only; rw [hth]; dsimp only at h1; rw [h1]; rfl, by dsimp only; rw [(jg e).2]; exact h2⟩
 dsimp only at q ⊢
 by_cases e : (t : Int) = ((8 + k : Nat) : Int)
 grind
 rw [hth, Qaq e, Qcl] at q
 rw [(jg e).2]
 exact h.far t h8 q
theorem GMem.rings {c : Cfg} {i : Nat} {fr : List ap} {pg : List Pl} {po : Po} (hr : rt c = true) (h : GMem i ⟨fr, pg, po⟩) (hfree : ∀ t : Nat, 8 ≤ t → aX pg t = false) (b : Nat) (hb : dq c c.gl.length = (b : Int)) (ho : ∀ k, k < c.nl.length → (cV po (b + k)).1 ≠ (i : Int)) (hl : b + c.nl.length ≤ fr.length) :
    ∀ k, k ≤ c.nl.length → GMem i ⟨fr, dS c i k pg, po⟩ ∧ (∀ t : Nat, 8 ≤ t → aX (dS c i k pg) t = true → t < 8 + k ∧ (cy (dS c i k pg) t).1 = ((b + (t - 8) : Nat) : Int)) ∧ (∀ t : Nat, t < 8 → aX (dS c i k pg) t = aX pg t ∧ cy (dS c i k pg) t = cy pg t)
 | 0, _ => ⟨h, fun t h8 q => absurd (show aX pg t = true from q) (by grind), fun t _ => ⟨rfl, rfl⟩⟩
 | k + 1, hk => by
  obtain ⟨g1, g2, g3⟩ := h.rings hr hfree b hb ho hl k (by omega)
  have hn4 := (kW hr).nn
  rw [dS]
  split
  grind
  rename_i hx
  have hrg : jQ c (k : Int) = ((b + k : Nat) : Int) := by grind [jQ]
  have hxr : 1 ≤ jS (kD c k) i ∧ jS (kD c k) i ≤ 3 := by
   grind [jS]
  have hno : aX (dS c i k pg) ((8 + k : Nat) : Int) = false := by
   cases q : aX (dS c i k pg) ((8 + k : Nat) : Int) with
   | false => rfl
   | true => have := (g2 (8 + k) (by omega) q).1; omega
  rw [hrg]
  obtain ⟨r1, r2, r3, r4⟩ := g1.ring (k := k) (f := b + k) (r := jS (kD c k) i) (by omega) hno (by omega) hxr (ho k (by omega)) fun t q e => by
   have h2 := q
   simp only [aX, Qar] at h2
   obtain ⟨s, rfl, hs⟩ := lp h2.1
   rcases QaD s 8 with h8 | h8
   have := g1.own s h8 q
   dsimp only at this
   rw [e, Qam] at this
   exact ho k (by omega) (by rw [this])
   grind
  refine ⟨r1, fun t h8 q => ?_, fun t h8 => ?_⟩
  rw [r2] at q
  by_cases e : (t : Int) = ((8 + k : Nat) : Int)
  grind
  grind
  grind
def io (c : Cfg) (i : Nat) (ws : List Nat) (fr : List ap) (po : Po) : Mm := ⟨(laid c i ws fr po).fr, dS c i c.nl.length (laid c i ws fr po).pg, (laid c i ws fr po).po⟩
theorem Zr {c : Cfg} {i : Nat} {ws : List Nat} {fr : List ap} {po : Po} (hF : cC fr) (hP : PoOk po) (hl : po.length = fr.length) (hi : i < 16) : (laid c i ws fr po).fr.length = fr.length := by
 have h1 := (rp (who := i) (words := aR ws (cI c i).2.1.toNat) (x := ⟨fr, po, gY⟩) hi (n := (cI c i).2.1.toNat) ⟨hF, hP, vA, hl⟩).len
 have h2 := (yJ (who := i) (words := aR ws (cI c i).2.1.toNat) (x := ⟨fr, po, gY⟩) (cI c i).2.1.toNat).1
 have h3 : (cD i (aR ws (cI c i).2.1.toNat) (cI c i).2.1.toNat ⟨fr, po, gY⟩).po.length = po.length := h2
 unfold laid
 omega
theorem GMem.made {c : Cfg} {i : Nat} {ws : List Nat} {fr : List ap} {po : Po} (hr : rt c = true) (hi : i < c.gl.length) (hF : cC fr) (hP : PoOk po) (hl : po.length = fr.length) (hfre : (cI c i).2.1 ≤ ((bP po i).length : Int)) (h1 : ∀ f, f < po.length → cV po f ≠ ((i : Int), true)) (h2 : ∀ f, f < po.length → cV po f = ((i : Int), false) → fr.getD f [] = bX)
    (ho : ∀ b k : Nat, dq c c.gl.length = (b : Int) → k < c.nl.length → (cV po (b + k)).1 ≠ (i : Int)) (hn : fr.length = aY c) : GMem i (io c i ws fr po) := by
 have hR := kW hr
 have hg4 := hR.g4
 have hgs := hR.gs i hi
 have h0 := GMem.none hF hP hl h1 h2
 have hl1 := GMem.lay (words := aR ws (cI c i).2.1.toNat) (x := ⟨fr, po, gY⟩) h0 (show i < 16 by omega) B6 (cI c i).2.1.toNat (by omega) (by grind)
 have hbm := pR hR.gs c.gl.length (Qap _)
 obtain ⟨b, hb⟩ : ∃ b : Nat, dq c c.gl.length = (b : Int) := ⟨(dq c c.gl.length).toNat, by omega⟩
 have hll := Zr (ws := ws) (c := c) hF hP hl (show i < 16 by omega)
 have hnd := rD c c.gl.length
 have hnf : b + c.nl.length ≤ (laid c i ws fr po).fr.length := by grind [aY]
 exact (hl1.rings hr (fun t h8 => by
  show aX (cD i (aR ws (cI c i).2.1.toNat) (cI c i).2.1.toNat ⟨fr, po, gY⟩).pg t = false
  rw [yK _ (by omega) t h8]; exact vS _) b hb (fun k hk => by
  show (cV (cD i (aR ws (cI c i).2.1.toNat) (cI c i).2.1.toNat ⟨fr, po, gY⟩).po (b + k)).1 ≠ _
  rw [(yJ _).2]; exact ho b k hb hk) hnf c.nl.length (Qap _)).1
abbrev g0 : Gu := ⟨⟨List.replicate 16 0, 0, nS⟩, df, df, df, BM, 0, HS, false, [0, 0, 0, 0], 0, [], 0⟩
abbrev gA (gb : Nat) (z : Gz) (g : Gu) (x : Mm) (R : List HP) : List HP := pt gb (e8 z g) :: pt z.x.r (d8 g.c.rl g.c.pc) :: pt z.x.c (dh g.c.cs z.i) :: fi z.tr g.es :: l7 z.x.v (g.ls, g.ln) :: m9 z.x.t g.tm :: jh z.x.m ⟨z.pv, z.ps, z.pm, g.bud, x.fr, x.pg⟩ :: pt z.q0 (qO true g.qa) :: pt z.q1 (qO true g.qb) :: pt z.q2 (qO true g.qc) :: R
theorem Zs (W0 : World) (R : List HP) (c : Cfg) (h : CfK W0 c) (hr : rt c = true) (i : Nat) (hi : i < c.gl.length) (ps pb : Nat) (fr : List ap) (po : Po) (hF : cC fr) (hP : PoOk po) (hl : po.length = fr.length) (h0 : 0 < fr.length) (hfre : (cI c i).2.1 ≤ ((bP po i).length : Int))
    (a : Option Addr) (cap : Nat) (ws : List Nat) (hs : ∀ A, bT (aB W0 A) a 1 gW ws) (hb : ∀ y ∈ ws, y < 4294967296) (hn : ws.length < 9223372036854775808) (hM : GMem i (io c i ws fr po)) :
    bc Tryz.prog W0 24 [.agg (cv c).toArray, .int .i64 i, pV ps, pV pb, .slice a ws.length cap] (dk pb (ps, po) :: bj ps fr :: R)
      (fun v B => ∃ gb z wg, v = .tuple #[pV gb, .int .i64 0] ∧ z.c = c ∧ z.i = i ∧ z.ps = ps ∧ z.pb = pb ∧ z.wv = .slice (some ⟨wg, 0, none⟩) (aR ws 8).length (aR ws 8).length ∧ B = gA gb z g0 (io c i ws fr po) (pt z.bx kX :: pt wg (a7 ((aR ws 8).map wV) 46) :: dk pb (ps, (io c i ws fr po).po) :: bj ps (io c i ws fr po).fr :: R)) := by
 refine gH (Vh c h hr i hi ps pb fr po hF hP hl h0 hfre a cap ws hs hb hn) fun v B hB => ?_
 obtain ⟨gb, x, bt, bs, q0, q1, q2, wg, pv, pm, bx, tr, rfl, rfl⟩ := hB
 refine ⟨_, ⟨gb, ⟨x, q0, q1, q2, pv, ps, pm, pb, bx, tr, .slice (some ⟨wg, 0, none⟩) (aR ws 8).length (aR ws 8).length, i, c⟩, wg, rfl, rfl, rfl, rfl, rfl, rfl, rfl⟩, ?_⟩
 have hm := Zo hM.fr hM.pg hM.pl
 refine Ent.trans (B := pt gb (a7 (y2 x q0 q1 q2 c i (.slice (some ⟨wg, 0, none⟩) (aR ws 8).length (aR ws 8).length) pb pv bx tr) 144) :: tt x i bt bs pv (kH 6 (bH [pt q0 (qO true df), pt q1 (qO true df), pt q2 (qO true df)]) :: pt pv (cp ps pm 0) :: pt pm (bI (dS c i c.nl.length (laid c i ws fr po).pg)) :: pt bx kX :: fi tr [] :: pt wg (a7 ((aR ws 8).map wV) 46) :: dk pb (ps, (laid c i ws fr po).po) :: bj ps (laid c i ws fr po).fr :: R)) inferInstance ?_
 refine (Ent.cons (Zp hm)).trans ?_
 obtain ⟨m, hm2⟩ : ∃ m, io c i ws fr po = m := ⟨_, rfl⟩
 have e1 : (laid c i ws fr po).fr = m.fr := by rw [← hm2]; rfl
 have e2 : dS c i c.nl.length (laid c i ws fr po).pg = m.pg := by rw [← hm2]; rfl
 have e3 : (laid c i ws fr po).po = m.po := by rw [← hm2]; rfl
 rw [hm2, e1]
 try rw [e2]
 try rw [e3]
 exact Ent.trans (B := pt gb (e8 ⟨x, q0, q1, q2, pv, ps, pm, pb, bx, tr, .slice (some ⟨wg, 0, none⟩) (aR ws 8).length (aR ws 8).length, i, c⟩ g0) :: HT x q0 q1 q2 i pv ps pm m.fr m.pg (pt bx kX :: fi tr [] :: pt wg (a7 ((aR ws 8).map wV) 46) :: dk pb (ps, m.po) :: bj ps m.fr :: R)) ent_refl inferInstance
@[reducible] def nT (p s b1 b2 b3 : Nat) : Cfg := ⟨1, some ⟨b1, 0, none⟩, 2, [(0, (p : Int), (s : Int)), (1, 2, 0)], none, 0, [], none, 0, [], some ⟨b2, 0, none⟩, 1, [(0, 1)], some ⟨b3, 0, none⟩, 1, [(0, 1)], -1, 0⟩
abbrev HU (p s b1 b2 b3 : Nat) (R : List HP) : List HP := pt b1 (a7 ([(0, (p : Int), (s : Int)), (1, 2, 0)].flatMap eQ) 146) :: pt b2 (a7 ([((0 : Int), (1 : Int))].flatMap eh) 148) :: pt b3 (a7 ([((0 : Int), (1 : Int))].flatMap eh) 150) :: R
def ma (pages : Nat) : Nat := 2 + pages % 6
def yL (pages spare : Nat) : Nat := spare % (8 - ma pages + 1)
theorem Zt (n : Nat) : 2 ≤ ma n ∧ ma n ≤ 7 := by unfold ma; omega
theorem Zu : ∀ p, p < 8 → 2 ≤ p → ∀ s, s < 8 → s ≤ 8 - p → ∀ b1 b2 b3, rt (nT p s b1 b2 b3) = true := by
 intro p hp h2 s hs h8 b1 b2 b3
 have hp' : p = 2 ∨ p = 3 ∨ p = 4 ∨ p = 5 ∨ p = 6 ∨ p = 7 := by omega
 have hs' : s = 0 ∨ s = 1 ∨ s = 2 ∨ s = 3 ∨ s = 4 ∨ s = 5 ∨ s = 6 := by omega
 rcases hp' with rfl | rfl | rfl | rfl | rfl | rfl <;> rcases hs' with rfl | rfl | rfl | rfl | rfl | rfl | rfl <;> first | (exfalso; omega) | (show rt _ = true; kernel_rfl)
theorem Zv (pages spare : Nat) (hp : pages < 256) (hs : spare < 256) : sP W0 10 [.int .u8 pages, .int .u8 spare] R (fun v B => ∃ b1 b2 b3, v = .agg (cv (nT (ma pages) (yL pages spare) b1 b2 b3)).toArray ∧ B = HU (ma pages) (yL pages spare) b1 b2 b3 R) := by
 have h1 := Zt pages
 refine ab func10 ntmps10 ?_
 refine bu fun b1 => ?_
 refine a6 (k7 rfl rfl (by decide) (oc pages 6)) ?_
 refine a6 (cT (bN (by omega))) ?_
 refine a6 (dr rfl rfl (by rw [bN (by omega)]; unfold ma; omega : IntKind.wrap .i64 (2 + ((pages % 6 : Nat) : Int)) = ((ma pages : Nat) : Int))) ?_
 refine a6 (cT (bN (by omega))) ?_
 refine a6 eX ?_
 refine a6 (dG (8 - ma pages + 1)) ?_
 refine a6 (k7 rfl rfl (by omega) (oc spare (8 - ma pages + 1))) ?_
 refine d7 (iz k0 j5 a1W rfl (eJ rfl rfl (eJ rfl rfl gG)) rfl (by decide) (by decide) (by decide)) fun b1 => ?_
 refine d7 (iz tY w3 a1X rfl (eJ rfl rfl gG) rfl (by decide) (by decide) (by decide)) fun b2 => ?_
 refine d7 (iz C9 Ib a1Y rfl (eJ rfl rfl gG) rfl (by decide) (by decide) (by decide)) fun b3 => ?_
 refine ax aC ?_
 refine j9 (b := b1) (o' := a7 ([(0, ((ma pages : Nat) : Int), ((yL pages spare : Nat) : Int)), (1, 2, 0)].flatMap eQ) 146) rfl ?_
 refine j9 (b := b2) (o' := a7 ([((0 : Int), (1 : Int))].flatMap eh) 148) rfl ?_
 refine j9 (b := b3) (o' := a7 ([((0 : Int), (1 : Int))].flatMap eh) 150) rfl ?_
 refine bi (.cons (bD BZ s6 rfl rfl) .nil) ?_
 exact ⟨_, ⟨b1, b2, b3, rfl, rfl⟩, IO⟩
theorem Zw {W0 W : World} {p s b1 b2 b3 : Nat} {R : List HP} (hO : Own W0 W (HU p s b1 b2 b3 R)) : CfK W (nT p s b1 b2 b3) :=
  ⟨⟨xI hO (qR (b := b1) (fun _ => rfl) rfl), fun _ => zT, fun _ => zT, xI hO (qR (b := b2) (fun _ => rfl) rfl), xI hO (qR (b := b3) (fun _ => rfl) rfl), Qap _⟩, Qap _⟩
theorem BN {c : Cfg} (hr : rt c = true) {i : Nat} (hi : i < c.gl.length) (ws : List Nat) : GMem i (io c i ws (List.replicate (aY c) bX) (dj c (aY c))) := by
 have hR := kW hr
 have hlr : (List.replicate (aY c) bX).length = aY c := by simp
 refine GMem.made hr hi (cC.new _) (vn hR _) (by rw [m4, hlr]) ?_ (fun f hf e => ?_) (fun f hf _ => ?_) (fun b k hb hk e => ?_) hlr
 have h1 := FI hR hi
 have h2 := (hR.gs i hi).2.2.1
 omega
 rw [m4] at hf
 rw [pS hf, Qaf hf] at e
 cases q : gX c f with
 | some j => rw [q] at e; have := (Prod.mk.inj e).2; cases this
 | none => rw [q] at e; have := (Prod.mk.inj e).2; cases this
 grind [m4]
 have hnd := rD c c.gl.length
 have hf : b + k < aY c := by grind [aY]
 rw [pS hf, Qaf hf] at e
 cases q : gX c ((b + k : Nat) : Int) with
 | some j =>
  have h1 := (vm hR).1 q
  have h2 := AW hR (show j + 1 ≤ c.gl.length by omega) (Qap _)
  omega
 | none => rw [q] at e; simp [rE] at e
theorem Zx {c : Cfg} (hr : rt c = true) {k : Nat} (hk : k < c.nl.length) : (kD c k).1 ≠ (kD c k).2 := by
 obtain ⟨_, _, _, _, _, k2, _⟩ := Fi hr
 simp only [gQ, Bool.or_eq_false_iff] at k2
 have := Fh k2.2 hk
 intro e
 simp only [kU, Bool.not_eq_false', Qar, Qaj] at this
 exact this.1.2 e
abbrev mb (rl : List Nat) (pc : Nat) : Obj := a7 (rl.map wV ++ [wV pc]) 84
abbrev mc (cs : List Nat) (id : Nat) : Obj := a7 (cs.map wV ++ [.int .i64 id]) 105
section
variable {rl : List Nat} {pc : Nat}
theorem Zy (h : rl.length = 16) : (rl.map wV ++ [wV pc])[16]? = some (wV pc) := by
 grind
end
section
variable {cs : List Nat} {id : Nat}
end
def Zz (n : Nat) : Value := .int .i64 ((n : Nat) : Int)
def yM : List Value := List.replicate 8 (.bool false)
def yN : List Value := List.replicate 8 (.int .i64 0)
abbrev ZA (a : Option Addr) (n c : Nat) : Obj := a7 ([.slice a n c] ++ yM ++ yN) 234
def mF (b : Nat) (L : List Nat) : HP := chk (fun C => ∃ a c, C = [pt b (ZA a L.length c), osl 3 1 (.slice a L.length c) (L.map Zz)])
section
variable {P : Program} {W0 : World} {N : FSz} {K : Act → World → Prop} {e : aH} {A B R R1 R2 : List HP} {b n : Nat} {L : List Nat} {f : FuncId} {args : List Value} {Post : Value → List HP → Prop}
end
section
variable {P : Program} {W0 : World} {N : FSz} {K : Act → World → Prop} {e : aH} {A B R R1 R2 : List HP} {b n : Nat} {L : List Nat}
end
@[reducible] def ZB (x : Int × Int) : List Value := [.int .i64 x.1, .int .i64 x.2]
abbrev ZC (a : Option Addr) (n c : Nat) : Obj := a7 [.slice a n c] 265
def mG (b : Nat) (L : List (Int × Int)) : HP := chk (fun C => ∃ a c, C = [pt b (ZC a L.length c), osl 267 2 (.slice a L.length c) (L.flatMap ZB)])
section
variable {P : Program} {W0 : World} {N : FSz} {K : Act → World → Prop} {e : aH} {A B R R1 R2 : List HP} {b n : Nat} {L : List (Int × Int)} {f : FuncId} {args : List Value} {Post : Value → List HP → Prop}
end
section
variable (W0 : World) (R : List HP) (a b : Nat)
end
section
variable (W0 : World) (R : List HP) (i : Ins) (rb cb : Nat) (clock : Int) (x : Cpu) (id : Nat)
end
structure Rz where
  r : Nat
  c : Nat
  v : Nat
  ps : Nat
  pm : Nat
  pl : Nat
  vic : Nat
  tim : Nat
  bx : Nat
  wv : Value
  i : Nat
  k : Cfg
def q8 : List Value := [.int .u32 0, .int .u32 0, .int .u32 0, .int .i64 0, .bool false, .int .i64 0, .int .i64 0, .int .i64 0]
def BO : List Value := q8 ++ q8 ++ q8
@[reducible] def BQ (z : Rz) (g : Gu) (tv : Value) : List Value := cv z.k ++ [.int .i64 z.i, z.wv, pV z.pl, pV z.r, pV z.c, pV z.v] ++ BO ++ [pV z.vic, pV z.tim, pV z.bx, tv, .int .i64 g.clock, .bool g.halted, wV 0, wV 0, wV 0, wV 0]
abbrev tT (z : Rz) (g : Gu) (tv : Value) : Obj := a7 (BQ z g tv) 101
def mH (b : Nat) (x : Rz × Gu) : HP := chk (fun C => ∃ a c, C = [pt b (tT x.1 x.2 (.slice a x.2.es.length c)), osl 208 21 (.slice a x.2.es.length c) (x.2.es.flatMap dF)])
section
variable {P : Program} {W0 : World} {N : FSz} {K : Act → World → Prop} {e : aH} {A B R R1 R2 : List HP} {b n : Nat} {z : Rz} {g : Gu} {f : FuncId} {args : List Value} {Post : Value → List HP → Prop}
theorem ZD [hk : Tk mH b A (z, g) R] (h : ∀ a c, ai W0 N K e (pt b (tT z g (.slice a g.es.length c)) :: osl 208 21 (.slice a g.es.length c) (g.es.flatMap dF) :: R)) : ai W0 N K e A :=
  fJ (r := mH) (b := b) (lP fun C hC => by obtain ⟨a, c, rfl⟩ := hC; exact h a c)
theorem ZE {a : Option Addr} {c : Nat} {vs : List Value} [h1 : Tk pt b A (tT z g (.slice a n c)) R1] [h2 : Tk (osl 208 21) (.slice a n c) R1 vs R2] (hv : vs = g.es.flatMap dF) (hn : n = g.es.length) [k : Ent R2 B] : Ent A (mH b (z, g) :: B) := by
 subst hv; subst hn
 exact (Ent.ofPerm (h1.perm.trans (h2.perm.cons _))).trans ((Ent.cons (Ent.cons k)).trans (en (R := B) (C := [_, _]) ⟨a, c, rfl⟩))
theorem BR [hk : Tk mH b A (z, g) R] {k : Nat} {v : Value} (hv : ∀ tv, (BQ z g tv)[k]? = some v) : iu (aB W0 A) b k v := fun w hO => by
 obtain ⟨C, ⟨a, c, rfl⟩, h⟩ := (hO.perm hk.perm).chk
 exact (aF (A := pt b (tT z g (.slice a g.es.length c)) :: osl 208 21 (.slice a g.es.length c) (g.es.flatMap dF) :: R) (hv _)) w h
end
section
variable (W0 : World) (R : List HP) (b : Nat) (z : Rz) (g : Gu)
end
section
variable (W0 : World) (R : List HP) (b : Nat) (z : Rz) (g : Gu) (d : Nat) (fr : List ap) (pg : List Pl)
end
end
section
section
variable {ls : List Li} {now : Int} {L : List Nat}
end
section
variable {x : Tm} {T : List (Int × Int)}
end
end
section
open Go.RowKit
section
variable (W0 : World) (R : List HP) (b : Nat) (z : Rz) (g : Gu) (L : List Nat) (T : List (Int × Int))
end
section
variable (W0 : World) (R : List HP) (b : Nat) (z : Rz) (g : Gu) (L : List Nat) (T : List (Int × Int)) (d : Nat) (fr : List ap) (pg : List Pl)
end
theorem ZF {W0 : World} {A R : List HP} {b : Nat} {z : Rz} {g : Gu} [hk : Tk mH b A (z, g) R] {k : Nat} {v : Value} (hv : ∀ tv, (BQ z g tv)[k]? = some v) : aT (aB W0 A) b k [v] := fun j u hj => by
 match j, hj with
 | 0, hj => cases hj; exact BR hv
section
variable (W0 : World) (R : List HP) (b : Nat) (z : Rz) (g : Gu) (d : Nat)
end
theorem ZG {b : Nat} {R : List HP} : Ent (pt b (a7 ([dm] ++ yM ++ yN) 234) :: R) (mF b [] :: R) :=
  (Ent.cons (eH (E := 3) (sz := 1) (A := R) (B := R))).trans (en (R := R) (C := [_, _]) ⟨none, 0, rfl⟩)
theorem ZH {b : Nat} {R : List HP} : Ent (pt b (a7 [dm] 265) :: R) (mG b [] :: R) :=
  (Ent.cons (eH (E := 267) (sz := 2) (A := R) (B := R))).trans (en (R := R) (C := [_, _]) ⟨none, 0, rfl⟩)
@[reducible] def hJ (z : Rz) (vr vc vv vt tv : Value) (ck : Nat) (h : Bool) : List Value := cv z.k ++ [.int .i64 z.i, z.wv, pV z.pl, vr, vc, pV z.v] ++ BO ++ [vv, vt, pV z.bx, tv, .int .i64 ck, .bool h, wV 0, wV 0, wV 0, wV 0]
theorem BS : ∀ (vs l : List Value) (i : Nat), (∀ j v, vs[j]? = some v → l[i + j]? = some v) → cz l i vs = l
 | [], l, i, _ => rfl
 | v :: vs, l, i, h => by
  have h0 : l[i]? = some v := h 0 v rfl
  have e : l.set i v = l := xu h0
  rw [cz, e]
  exact BS vs l (i + 1) fun j u hj => by
   have := h (j + 1) u hj
   rwa [show i + (j + 1) = i + 1 + j by omega] at this
theorem ZI {A Q B : List Value} {i : Nat} (h : A.length = i) : cz (A ++ Q ++ B) i Q = A ++ Q ++ B := BS _ _ _ fun j v hj => by
 have hl : j < Q.length := by
  rcases QaD j Q.length with q | q
  exact q
  rw [Qbf q] at hj; cases hj
 rw [QaC, Qbi (by omega), QaH (by omega), show i + j - A.length = j by omega]
 exact hj
theorem ZJ {z : Rz} {vr vc vv vt tv : Value} {ck : Nat} {h : Bool} : cz (hJ z vr vc vv vt tv ck h) 14 BO = hJ z vr vc vv vt tv ck h := ZI rfl
theorem ZK {z : Rz} {vr vc vv vt tv : Value} {ck : Nat} {h : Bool} : cz (hJ z vr vc vv vt tv ck h) 44 [wV 0, wV 0, wV 0, wV 0] = hJ z vr vc vv vt tv ck h := BS _ _ _ fun j v hj => by
 match j, hj with
 | 0, hj => exact hj
 | 1, hj => exact hj
 | 2, hj => exact hj
 | 3, hj => exact hj
section
variable (W0 : World) (R : List HP) (b : Nat) (z : Rz) (d : Nat)
theorem ZL (h : CfK W0 z.k) (hr : rt z.k = true) (hi : z.i < z.k.gl.length) (vr vc vv vt tv : Value) (ck : Nat) (hd : Bool) (x : Im) (hx : ImOk x) (h0 : 0 < x.fr.length) (hfree : oD x.pg 0 8) (n : Nat) (hn : (cI z.k z.i).2.1 = (n : Int)) (hfre : n ≤ (bP x.po z.i).length) (a : Option Addr) (cap : Nat) (ws : List Nat) (hw : z.wv = .slice a ws.length cap) (hs : ∀ A, bT (aB W0 A) a 1 gW ws) (hb : ∀ y ∈ ws, y < 4294967296) (hwl : ws.length < 9223372036854775808) (hcap : ws.length ≤ cap) : sP W0 94 [pV b] (pt b (a7 (hJ z vr vc vv vt tv ck hd) 101) :: pt z.v (lq z.ps z.pm d) :: du z.pl (z.ps, x.po) :: cX z.ps x.fr :: pt z.pm (g6 x.pg) :: R) (fun v B => ∃ r' c' v' t', v = iQ 0 ∧ B = pt b (a7 (hJ z (pV r') (pV c') (pV v') (pV t') tv ck false) 101) :: pt r' (mb (List.replicate 16 0) 0) :: pt c' (mc nS z.i) :: mF v' [] :: mG t' [] :: pt z.v (lq z.ps z.pm d) :: du z.pl (z.ps, (cD z.i (aR ws n) n x).po) :: cX z.ps (cD z.i (aR ws n) n x).fr :: pt z.pm (g6 (cD z.i (aR ws n) n x).pg) :: R) := by
 have hR := kW hr
 have hg4 := hR.g4
 have hgs := hR.gs z.i hi
 rw [hn] at hgs
 obtain ⟨ga, o, hga, hcc⟩ := (h.ok.g []).at_ hi
 obtain ⟨u, hu⟩ : ∃ u, z.k.gl[z.i] = u := ⟨_, rfl⟩
 have hA : cI z.k z.i = u := by simp [cI, List.getD, hi, hu]
 rw [hu] at hcc
 have hun : u.2.1 = (n : Int) := by rw [← hA]; exact hn
 obtain ⟨Y, hY⟩ : ∃ Y, cD z.i (aR ws n) n x = Y := ⟨_, rfl⟩
 rw [hY]
 refine ab func94 ntmps94 ?_
 refine fH [(b, 0, hJ z vr vc vv vt tv ck hd), (z.v, 0, _), (ga, o + z.i * 3, eQ u)] 40 mixed rfl (bZ (bZ (cB hcc.weak bL))) (fun hS => ?_)
 refine ae 0 31 hS ?_
 refine av 31 hS (dH k0 j5 rfl hga rfl rfl hi (by first | exact Qab _ | rfl)) ?_
 refine ae 32 1 hS ?_
 refine av 33 hS (aG (iy (k := 2) (j := 1) rfl (by rw [← hun]; rfl : (eQ u)[1]? = some (iQ (n : Int))))) ?_
 refine ae 34 3 hS ?_
 refine av 37 hS (aG (co (k := 0) (v := .slice a ws.length cap) rfl (by rw [← hw]; rfl))) ?_
 refine cg 38 (dQ call183 (Uf z.pl z.ps z.pm z.i n x hx h0 a cap ws (by omega) (by omega) (by omega) hfree hfre (fun A _ => hs A) hb hwl hcap)) ?_; clear hS
 rintro _ B_ ⟨rfl, hB_⟩
 obtain rfl := hB_.symm
 rw [hY]
 refine ⟨(bZ (bZ (cB hcc.weak bL))), fun hS => ?_⟩
 refine ae 39 1 hS ?_
 refine fy ?_
 refine au 8 ?_
 refine i5 ?_
 refine dX (i3 rfl) fun rb => ?_
 refine aw ?_
 refine ax (kd (by exact rfl : (hJ z vr vc vv vt tv ck hd).set 11 (pV rb) = hJ z (pV rb) vc vv vt tv ck hd)) ?_
 refine am rfl (ao call184 (Vj z.i (by omega))) ?_
 rintro _ B_ ⟨cb, rfl, hB_⟩
 obtain rfl := hB_.symm
 refine aw ?_
 refine ax (kd (by exact rfl : (hJ z (pV rb) vc vv vt tv ck hd).set 12 (pV cb) = hJ z (pV rb) (pV cb) vv vt tv ck hd)) ?_
 refine a6 (uC underlying94 sizeOf93 zeroValue94 rfl) ?_
 refine ax (gK (Qaa rfl) (ZJ)) ?_
 refine aS fun vb => ?_
 refine ax (kd (by exact rfl : (hJ z (pV rb) (pV cb) vv vt tv ck hd).set 38 (pV vb) = hJ z (pV rb) (pV cb) (pV vb) vt tv ck hd)) ?_
 refine aS fun tb => ?_
 refine ax (kd (by exact rfl : (hJ z (pV rb) (pV cb) (pV vb) vt tv ck hd).set 39 (pV tb) = hJ z (pV rb) (pV cb) (pV vb) (pV tb) tv ck hd)) ?_
 refine ax (kd (by exact rfl : (hJ z (pV rb) (pV cb) (pV vb) (pV tb) tv ck hd).set 43 (.bool false) = hJ z (pV rb) (pV cb) (pV vb) (pV tb) tv ck false)) ?_
 refine a6 (uC underlying99 bF zeroValue99 rfl) ?_
 refine ax (gK (Qaa rfl) (ZK)) ?_
 refine j9 (b := rb) (o' := mb (List.replicate 16 0) 0) rfl ?_
 refine j9 (b := cb) (o' := mc nS z.i) rfl ?_
 refine j9 (b := vb) (o' := a7 ([dm] ++ yM ++ yN) 234) rfl ?_
 refine j9 (b := tb) (o' := a7 [dm] 265) rfl ?_
 refine aw ?_
 refine a8 ?_
 refine ⟨_, ⟨rb, cb, vb, tb, rfl, rfl⟩, ?_⟩
 exact Ent.trans (B := pt tb (a7 [dm] 265) :: pt vb (a7 ([dm] ++ yM ++ yN) 234) :: pt b (a7 (hJ z (pV rb) (pV cb) (pV vb) (pV tb) tv ck false) 101) :: pt rb (mb (List.replicate 16 0) 0) :: pt cb (mc nS z.i) :: pt z.v (lq z.ps z.pm d) :: du z.pl (z.ps, Y.po) :: cX z.ps Y.fr :: pt z.pm (g6 Y.pg) :: R) inferInstance (ZH.trans ((Ent.cons ZG).trans inferInstance))
attribute [local irreducible] rZ cD
end
theorem ZM {b : Nat} {z : Rz} {R : List HP} : Ent (pt b (tT z g0 dm) :: R) (mH b (z, g0) :: R) :=
  (Ent.cons (eH (E := 208) (sz := 21) (A := R) (B := R))).trans (en (R := R) (C := [_, _]) ⟨none, 0, rfl⟩)
attribute [local irreducible] cD
theorem ZN (c : Cfg) (h : CfK W0 c) (hr : rt c = true) (i : Nat) (hi : i < c.gl.length) (hne : ∀ k, k < c.nl.length → (kD c k).1 ≠ (kD c k).2) (qs pb : Nat) (fr : List ap) (po : Po) (hF : cC fr) (hP : PoOk po) (hl : po.length = fr.length) (h0 : 0 < fr.length) (hfre : (cI c i).2.1 ≤ ((bP po i).length : Int)) (a : Option Addr) (cap : Nat) (ws : List Nat) (hs : ∀ A, bT (aB W0 A) a 1 gW ws) (hb : ∀ y ∈ ws, y < 4294967296) (hn : ws.length < 9223372036854775808) (hcap : ws.length ≤ cap) : sP W0 25 [.agg (cv c).toArray, iQ i, pV qs, pV pb, .slice a ws.length cap] (du pb (qs, po) :: cX qs fr :: R) (fun v B => ∃ gb z, v = .tuple #[pV gb, iQ 0] ∧ z.k = c ∧ z.i = i ∧ z.ps = qs ∧ z.pl = pb ∧ z.wv = .slice a ws.length cap ∧ B = mH gb (z, g0) :: pt z.r (mb (List.replicate 16 0) 0) :: pt z.c (mc nS i) :: mF z.vic [] :: mG z.tim [] :: pt z.v (lq qs z.pm 0) :: pt z.pm (g6 (io c i ws fr po).pg) :: du pb (qs, (io c i ws fr po).po) :: cX qs (io c i ws fr po).fr :: pt z.bx (a7 [dm] 114) :: R) := by
 have hR := kW hr
 have hg4 := hR.g4
 have hnn := hR.nn
 have hgs := hR.gs i hi
 obtain ⟨n, hxn⟩ : ∃ n : Nat, (cI c i).2.1 = (n : Int) := ⟨(cI c i).2.1.toNat, by omega⟩
 have hln : (cI c i).2.1.toNat = n := by rw [hxn]; rfl
 have hok1 : ImOk (laid c i ws fr po) := rp (by omega) ⟨hF, hP, vA, hl⟩
 obtain ⟨Y, hY⟩ : ∃ Y, laid c i ws fr po = Y := ⟨_, rfl⟩
 have hY2 : cD i (aR ws n) n ⟨fr, po, gY⟩ = Y := by rw [← hY, laid, hln]
 have hM : io c i ws fr po = ⟨Y.fr, dS c i c.nl.length Y.pg, Y.po⟩ := by rw [io, hY]
 rw [hM]
 rw [hY] at hok1
 refine ab func25 ntmps25 ?_
 refine aS fun b5 => ?_
 refine ac (ao wc (te c h.ok)) ?_
 rw [hr]
 refine cA (fun g1_4 => ?_) fun g1_4 => ?_
 exact absurd g1_4 (by decide)
 refine cR rfl rfl rfl (fun g1_8 => ?_) fun g1_8 => ?_
 omega
 refine aw ?_
 refine aA rfl (fun c1 => ?_) fun c1 => ?_
 omega
 refine aw ?_
 refine r9 (qs := qs) fun a2 c2 vs hv => ?_
 refine aw ?_
 refine cR rfl rfl rfl (fun g3_3 => ?_) fun g3_3 => ?_
 cases g3_3
 refine aw ?_
 refine cR rfl rfl rfl (fun g3_11 => ?_) fun g3_11 => ?_
 omega
 refine aw ?_
 refine aA rfl (fun c3 => ?_) fun c3 => ?_
 cases c3
 refine au 3 ?_
 refine fF (Vl hv) ?_
 refine aZ (aa rfl (mT BZ s6 rfl rfl) ?_)
 refine aa rfl (aL rfl) (aa rfl (aL rfl) (aa rfl (aL rfl) (aa rfl (fw a16 zeroValue114 (aM C1 fq) fp) ?_)))
 refine am rfl (i3 rfl) ?_
 rintro _ _ ⟨bb, rfl, rfl⟩
 refine a6 (Vk rfl rfl rfl rfl rfl rfl) ?_
 refine aS fun gb => ?_
 refine aS fun pm => ?_
 refine aS fun pv => ?_
 refine ax dy ?_
 refine j9 (b := pm) (o' := g6 gY) rfl ?_
 refine j9 (b := pv) (o' := lq qs pm 0) rfl ?_
 refine j9 (b := bb) (o' := a7 [dm] 114) rfl ?_
 refine j9 (b := gb) (o' := a7 (hJ ⟨0, 0, pv, qs, pm, pb, 0, 0, bb, .slice a ws.length cap, i, c⟩ (.pointer none) (.pointer none) (.pointer none) (.pointer none) dm 0 false) 101) rfl ?_
 refine aw ?_
 refine am rfl (Qi call94 rfl (ZL W0 _ gb ⟨0, 0, pv, qs, pm, pb, 0, 0, bb, .slice a ws.length cap, i, c⟩ 0 h hr hi (.pointer none) (.pointer none) (.pointer none) (.pointer none) dm 0 false ⟨fr, po, gY⟩ ⟨hF, hP, vA, hl⟩ h0 B6 n hxn (by show n ≤ (bP po i).length; omega) a cap ws rfl hs hb hn hcap)) ?_
 rintro _ B_ ⟨rb, cb, vb, tb, rfl, hB_⟩
 obtain rfl := hB_.symm
 rw [hY2]
 refine au 10 ?_
 refine i5 ?_
 refine fQ (fun k : Nat => k ≤ c.nl.length) (fun k => [(1, iQ i), (5, pV b5), (12, pV gb), (14, iQ k)]) (fun k => pt b5 (dW c) :: pt gb (a7 (hJ ⟨0, 0, pv, qs, pm, pb, 0, 0, bb, .slice a ws.length cap, i, c⟩ (pV rb) (pV cb) (pV vb) (pV tb) dm 0 false) 101) :: pt rb (mb (List.replicate 16 0) 0) :: pt cb (mc nS i) :: mF vb [] :: mG tb [] :: pt pv (lq qs pm 0) :: pt pm (g6 (dS c i k Y.pg)) :: du pb (qs, Y.po) :: cX qs Y.fr :: pt bb (a7 [dm] 114) :: R) (fun k => c.nl.length - k) 0 ?_ ?_ ?_ ?_
 exact QaU _
 · repeat (first | exact ci | refine bQ rfl ?_)
 rw [show dS c i 0 Y.pg = Y.pg from rfl]
 exact IO
 intro k hk
 have hpk := vz (c := c) (i := i) hok1.pg k
 refine aw ?_
 refine aA rfl (fun c11 => ?_) fun c11 => ?_
 refine au 2 ?_
 refine dO (fun pg3 : List Pl => pg3 = dS c i (k + 1) Y.pg) (fun _ => [(1, iQ i), (5, pV b5), (12, pV gb), (14, iQ k)]) (fun pg3 => pt b5 (dW c) :: pt gb (a7 (hJ ⟨0, 0, pv, qs, pm, pb, 0, 0, bb, .slice a ws.length cap, i, c⟩ (pV rb) (pV cb) (pV vb) (pV tb) dm 0 false) 101) :: pt rb (mb (List.replicate 16 0) 0) :: pt cb (mc nS i) :: mF vb [] :: mG tb [] :: pt pv (lq qs pm 0) :: pt pm (g6 pg3) :: du pb (qs, Y.po) :: cX qs Y.fr :: pt bb (a7 [dm] 114) :: R) ?_ ?_
 refine au 2 ?_
 have hk1 : k < c.nl.length := by omega
 obtain ⟨g, o, hga, hc⟩ := (h.ok.n []).at_ hk1
 obtain ⟨x, hx⟩ : ∃ x, c.nl[k] = x := ⟨_, rfl⟩
 have hA : kD c k = x := by simp [kD, List.getD, hk1, hx]
 have hxn := hne k hk1
 have hs1 : dS c i (k + 1) Y.pg = if jS (kD c k) i = 0 then dS c i k Y.pg else dA (dS c i k Y.pg) ((8 + k : Nat) : Int) (jQ c k, jS (kD c k) i) := rfl
 rw [hA] at hxn hs1
 rw [hx] at hc
 refine aw ?_
 refine dK 3 (ao call95 (UH c h.ok hr k (by omega) (by omega))) ?_
 refine dO (fun pg2 : List Pl => Pgs pg2 ∧ ((i : Int) = x.1 ∧ pg2 = dA (dS c i k Y.pg) ((8 + k : Nat) : Int) (jQ c k, 3) ∨ (i : Int) ≠ x.1 ∧ pg2 = dS c i k Y.pg)) (fun _ => [(1, iQ i), (5, pV b5), (12, pV gb), (14, iQ k), (15, iQ (jQ c k))]) (fun pg2 => pt b5 (dW c) :: pt gb (a7 (hJ ⟨0, 0, pv, qs, pm, pb, 0, 0, bb, .slice a ws.length cap, i, c⟩ (pV rb) (pV cb) (pV vb) (pV tb) dm 0 false) 101) :: pt rb (mb (List.replicate 16 0) 0) :: pt cb (mc nS i) :: mF vb [] :: mG tb [] :: pt pv (lq qs pm 0) :: pt pm (g6 pg2) :: du pb (qs, Y.po) :: cX qs Y.fr :: pt bb (a7 [dm] 114) :: R) ?_ ?_
 refine au 5 ?_
 refine a6 (dH tY w3 rfl hga rfl rfl hk1 (by first | exact Qab _ | rfl)) ?_
 refine a6 (aG (hc.weak 0 _ rfl)) ?_
 refine ag (fun c14 => ?_) fun c14 => ?_
 refine a6 (dG (8 + k)) ?_
 refine ac (ah IN (Ac pm (dS c i k Y.pg) hpk (8 + k : Nat) (jQ c k, 3))) ?_
 exact cu (dA (dS c i k Y.pg) ((8 + k : Nat) : Int) (jQ c k, 3)) (⟨uM hpk, .inl ⟨by omega, rfl⟩⟩)
 exact cu (dS c i k Y.pg) (⟨hpk, .inr ⟨by omega, rfl⟩⟩)
 intro pg2 ⟨hpg2, hpc⟩
 refine aw ?_
 refine a6 (dH tY w3 rfl hga rfl rfl hk1 (by first | exact Qab _ | rfl)) ?_
 refine a6 (aG (hc.weak 1 _ rfl)) ?_
 refine ag (fun c16 => ?_) fun c16 => ?_
 refine a6 (dG (8 + k)) ?_
 refine ac (ah IN (Ac pm pg2 hpg2 (8 + k : Nat) (jQ c k, 1))) ?_
 refine cu (dA pg2 ((8 + k : Nat) : Int) (jQ c k, 1)) ?_
 rcases hpc with ⟨q, _⟩ | ⟨q, rfl⟩
 omega
 rw [hs1, jS, Qac q, Qaf (show (i : Int) = x.2 by omega), Qac (show ¬((1 : Int) = 0) by decide)]
 refine cu pg2 ?_
 rcases hpc with ⟨q, rfl⟩ | ⟨q, rfl⟩
 rw [hs1, jS, Qaf q, Qac (show ¬((3 : Int) = 0) by decide)]
 rw [hs1, jS, Qac q, Qac (show ¬((i : Int) = x.2) by omega), Qaf (show (0 : Int) = 0 from rfl)]
 intro pg3 hpg3
 subst hpg3
 refine aw ?_
 refine a6 bS ?_
 exact bE (k + 1) (by omega)
 refine aw ?_
 refine az ?_
 obtain rfl : k = c.nl.length := by omega
 refine ⟨_, ⟨gb, ⟨rb, cb, pv, qs, pm, pb, vb, tb, bb, .slice a ws.length cap, i, c⟩, rfl, rfl, rfl, rfl, rfl, rfl, rfl⟩, ?_⟩
 exact Ent.trans (B := pt gb (tT ⟨rb, cb, pv, qs, pm, pb, vb, tb, bb, .slice a ws.length cap, i, c⟩ g0 dm) :: pt rb (mb (List.replicate 16 0) 0) :: pt cb (mc nS i) :: mF vb [] :: mG tb [] :: pt pv (lq qs pm 0) :: pt pm (g6 (dS c i c.nl.length Y.pg)) :: du pb (qs, Y.po) :: cX qs Y.fr :: pt bb (a7 [dm] 114) :: R) inferInstance ZM
end
section
open Go.RowKit
set_option linter.unusedSimpArgs false
set_option linter.unusedVariables false
set_option maxRecDepth 20000
set_option synthInstance.maxSize 1000
set_option synthInstance.maxHeartbeats 400000
abbrev rA (b : Nat) (z : Rz) (g : Gu) (L : List Nat) (T : List (Int × Int)) (d : Nat) (x : Mm) (R : List HP) : List HP := mH b (z, g) :: pt z.r (mb g.c.rl g.c.pc) :: pt z.c (mc g.c.cs z.i) :: mF z.vic L :: mG z.tim T :: pt z.v (lq z.ps z.pm d) :: cX z.ps x.fr :: pt z.pm (g6 x.pg) :: du z.pl (z.ps, x.po) :: R
abbrev ZO (gb : Nat) (z : Gz) (g : Gu) (x : Mm) (R : List HP) : List HP := gA gb z g x (dk z.pb (z.ps, x.po) :: bj z.ps x.fr :: R)
theorem HV (c : Cfg) (h : CfK W0 c) (hr : rt c = true) (i : Nat) (hi : i < c.gl.length) (a : Option Addr) (cap : Nat) (ws : List Nat) (hs : ∀ A, bT (aB W0 A) a 1 gW ws) (hb : ∀ y ∈ ws, y < 4294967296) (hn : ws.length < 9223372036854775808) (hcap : ws.length ≤ cap) : sP W0 6 [.agg (cv c).toArray, iQ i, .slice a ws.length cap] R (fun v B => ∃ gb z wg wb zr, v = .tuple #[pV gb, pV wb, iQ 0, iQ 0] ∧ z.c = c ∧ z.i = i ∧ z.wv = .slice (some ⟨wg, 0, none⟩) (aR ws 8).length (aR ws 8).length ∧ zr.k = c ∧ zr.i = i ∧ zr.wv = .slice a ws.length cap ∧ B = ZO gb z g0 (io c i ws (List.replicate (aY c) bX) (dj c (aY c))) (rA wb zr g0 [] [] 0 (io c i ws (List.replicate (aY c) bX) (dj c (aY c))) (pt zr.bx (a7 [dm] 114) :: pt z.bx kX :: pt wg (a7 ((aR ws 8).map wV) 46) :: R))) := by
 have hR := kW hr
 have hnd := hR.nd
 have hg4 := hR.g4
 have hn1 : 0 < aY c ∧ aY c ≤ 32 := by rw [aY]; omega
 have hlr : (List.replicate (aY c) bX).length = aY c := by simp
 have hfn : nI c = aY c := by rw [nI, Qaf hr]
 have hM := BN hr hi ws
 have hfre : (cI c i).2.1 ≤ ((bP (dj c (aY c)) i).length : Int) := by
  have h1 := FI hR hi
  have h2 := (hR.gs i hi).2.2.1
  omega
 refine ab Ji ntmps6 ?_
 refine aS fun b3 => ?_
 refine ac (ao Jj (AX c h.ok)) ?_
 rw [hfn]
 refine a6 (rq rfl rfl (show _ = ((aY c : Nat) : Int) by split <;> omega)) ?_
 refine am rfl (ao Jk (A1 (aY c) (by omega))) ?_
 rintro _ B_ ⟨ps, rfl, hB_⟩
 obtain rfl := hB_.symm
 refine aw ?_
 refine am rfl (ao Jl (Ab (aY c) (by omega))) ?_
 rintro _ B_ ⟨qs, rfl, hB_⟩
 obtain rfl := hB_.symm
 refine aw ?_
 refine am rfl (ah Jm (AD ps (List.replicate (aY c) bX) (by rw [hlr]; omega) (by rw [hlr]; omega))) ?_
 rintro _ B_ ⟨pb, rfl, hB_⟩
 obtain rfl := hB_.symm
 rw [hlr, ← xP]
 refine aw ?_
 refine am rfl (ah Jn (AS qs (List.replicate (aY c) bX) (by rw [hlr]; omega) (by rw [hlr]; omega))) ?_
 rintro _ B_ ⟨qb, rfl, hB_⟩
 obtain rfl := hB_.symm
 rw [hlr, ← xP]
 refine aw ?_
 refine cK (fun f : Nat => f ≤ aY c) (fun f => [(1, iQ i), (2, .slice a ws.length cap), (3, pV b3), (10, iQ (aY c : Nat)), (11, pV ps), (13, pV qs), (15, pV pb), (17, pV qb), (19, iQ f)]) (fun f => pt b3 (dW c) :: dk pb (ps, dj c f) :: bj ps (List.replicate (aY c) bX) :: du qb (qs, dj c f) :: cX qs (List.replicate (aY c) bX) :: R) (fun f => aY c - f) 0 ?_ ?_
 exact QaU _
 intro f hf
 refine aw ?_
 refine aA rfl (fun c7 => ?_) fun c7 => ?_
 refine au 2 ?_
 refine dO (fun _ : Unit => f < aY c) (fun _ => [(1, iQ i), (2, .slice a ws.length cap), (3, pV b3), (10, iQ (aY c : Nat)), (11, pV ps), (13, pV qs), (15, pV pb), (17, pV qb), (19, iQ f)]) (fun _ => pt b3 (dW c) :: dk pb (ps, dj c (f + 1)) :: bj ps (List.replicate (aY c) bX) :: du qb (qs, dj c (f + 1)) :: cX qs (List.replicate (aY c) bX) :: R) ?_ ?_
 refine au 2 ?_
 have hf1 : f < aY c := by omega
 have hos := tu (i := (gX c f).getD 0) hr hf1
 have hon := FV hr hf1
 refine aw ?_
 refine ac (ao Jo (FK c h f hr (by rw [aY] at hf1; omega))) ?_
 refine bu fun b20 => ?_
 refine ax aC ?_
 refine aA rfl (fun c10 => ?_) fun c10 => ?_
 obtain ⟨j, hj⟩ : ∃ j, gX c f = some j := by
  cases e : gX c f with
  | some j => exact ⟨j, rfl⟩
  | none => have := hon e; rw [this] at c10; exact absurd c10 (by decide)
 have hov := tu hr hf1 hj
 have hj4 := ((vm hR).1 hj).1
 have hps := FF hf1 hj
 refine au 5 ?_
 refine aa rfl (aG (aF (by rw [hov]; rfl : (tf (nH c f))[1]? = some (iQ (j : Int))))) ?_
 refine n1 (cH IM (EW pb ps (dj c f) (List.replicate (aY c) bX) f j (by rw [m4]; exact hf1) (by rw [hlr]; exact hf1) (by omega) (vn hR f) (by rw [pS hf1, Qac (by omega)]))) ?_
 rw [y3, ← hps]
 refine au 6 ?_
 refine aa rfl (aG (aF (by rw [hov]; rfl : (tf (nH c f))[1]? = some (iQ (j : Int))))) ?_
 refine ac (cH call23 (FA qb qs (dj c f) (List.replicate (aY c) bX) f j (by rw [m4]; exact hf1) (by rw [hlr]; exact hf1) (by omega) (by rw [pS hf1, Qac (by omega)]))) ?_
 rw [y3, ← hps]
 exact cu () (hf1)
 have hps : dj c (f + 1) = dj c f := by
  cases e : gX c f with
  | none => exact FG e
  | some j => have := tu hr hf1 e; rw [this] at c10; exact absurd rfl c10
 refine aw ?_
 refine cu () ?_ (he := ?_)
 exact hf1
 rw [hps]
 exact IO
 intro _ hf1
 refine aw ?_
 refine a6 bS ?_
 exact bE (f + 1) (by omega)
 refine aw ?_
 obtain rfl : f = aY c := by omega
 refine am rfl (cH Jp (Zs W0 _ c h hr i hi ps pb (List.replicate (aY c) bX) (dj c (aY c)) (cC.new _) (vn hR _) (by rw [m4, hlr]) (by rw [hlr]; omega) hfre a cap ws hs hb hn hM)) ?_
 rintro _ B_ ⟨gb, z, wg, rfl, hz1, hz2, hz3, hz4, hz5, hB_⟩
 obtain rfl := hB_.symm
 obtain rfl := hz3
 obtain rfl := hz4
 refine aw ?_
 refine am rfl (cH Jq (ZN c h hr i hi (fun k hk => Zx hr hk) qs qb (List.replicate (aY c) bX) (dj c (aY c)) (cC.new _) (vn hR _) (by rw [m4, hlr]) (by rw [hlr]; omega) hfre a cap ws hs hb hn hcap)) ?_
 rintro _ B_ ⟨wb, zr, rfl, hr1, hr2, hr3, hr4, hr5, hB_⟩
 obtain rfl := hB_.symm
 obtain rfl := hr3
 obtain rfl := hr4
 refine aw ?_
 refine bi (.cons (bz rfl) (.cons (bz rfl) (.cons (bz rfl) (.cons (bz rfl) .nil)))) ?_
 refine ⟨_, ⟨gb, z, wg, wb, zr, rfl, hz1, hz2, hz5, hr1, hr2, hr5, rfl⟩, ?_⟩
 unfold rA
 rw [hr2]
 exact IO
end
section
open Go.RowKit
set_option linter.unusedSimpArgs false
set_option linter.unusedVariables false
set_option maxRecDepth 20000
set_option synthInstance.maxSize 1000
set_option synthInstance.maxHeartbeats 400000
theorem ZP (W0 : World) (R : List HP) (c : Cfg) (h : CfK W0 c) (hr : rt c = true) (i : Nat) (hi : i < c.gl.length) (a : Option Addr) (cap : Nat) (ws : List Nat) (hs : ∀ A, bT (aB W0 A) a 1 gW ws) (hb : ∀ y ∈ ws, y < 4294967296) (hn : ws.length < 9223372036854775808) (hcap : ws.length ≤ cap) :
    bc Tryz.prog W0 6 [.agg (cv c).toArray, .int .i64 i, .slice a ws.length cap] R
      (fun v B => ∃ gb z wg wb, v = .tuple #[pV gb, pV wb, .int .i64 0, .int .i64 0] ∧ z.c = c ∧ z.i = i ∧ z.wv = .slice (some ⟨wg, 0, none⟩) (aR ws 8).length (aR ws 8).length ∧
        B = gA gb z g0 (io c i ws (List.replicate (aY c) bX) (dj c (aY c))) (pt z.bx kX :: pt wg (a7 ((aR ws 8).map wV) 46) :: dk z.pb (z.ps, (io c i ws (List.replicate (aY c) bX) (dj c (aY c))).po) :: bj z.ps (io c i ws (List.replicate (aY c) bX) (dj c (aY c))).fr :: R)) :=
  gH (HV c h hr i hi a cap ws hs hb hn hcap) fun v B hB => by
 obtain ⟨gb, z, wg, wb, zr, rfl, h1, h2, h3, _, _, _, rfl⟩ := hB
 exact ⟨_, ⟨gb, z, wg, wb, rfl, h1, h2, h3, rfl⟩, IO⟩
end
section
open Go.RowKit
theorem vT {F : Fence} {n : Nat} {P : Program} {fn : Func} {tmps : Array Value} {R R' : Ending → World → Prop} (hR : ∀ e w, R e w → R' e w) :
    ∀ (ds : List Deferred) (u : FrameMode) (w : World), LeavesInM F n P fn tmps R ds u w → LeavesInM F n P fn tmps R' ds u w
 | [], .returning, w, h => by
  obtain ⟨v, h1, h2⟩ := (show ∃ v, (results fn tmps).run P w = .ok v w ∧ R (.returned v) w from h)
  exact ⟨v, h1, hR _ _ h2⟩
 | [], .panicking c, w, h => hR _ _ h
 | [], .run, w, h => h
 | d :: ds, u, w, h => by
  obtain ⟨hu, h⟩ := h
  refine ⟨hu, ?_⟩
  rcases h with ⟨r, w', h1, h2, h3⟩ | ⟨h0, fv, cap, f, args, h1, h2, h3, h4⟩
  exact .inl ⟨r, w', h1, h2, vT hR ds u w' h3⟩
  refine .inr ⟨h0, fv, cap, f, args, h1, h2, h3, h4.mono ?_⟩
  intro e u' w' he
  cases e with
  | returned v => exact vT hR ds _ _ he
  | panicked c => exact vT hR ds _ _ he
  | outgrown => exact hR _ _ he
theorem ZQ {P : Program} {o : Oper} {a : Act} {K K' : Act → World → Prop} {Q Q' : Exit → Act → World → Prop} (hk : ∀ a w, K a w → K' a w) (hq : ∀ e a w, Q e a w → Q' e a w) :
    ∀ {r : Result Next}, o.upon P a K Q r → o.upon P a K' Q' r
 | .ok (.value v) w, h => hk _ _ h
 | .ok .skip w, h => hk _ _ h
 | .ok (.defer d) w, h => hk _ _ h
 | .ok (.enter f args) w, h => Calls.mono (show Calls P f args w _ from h) (by
     intro e w' he
     cases e with
     | returned v => exact hk _ _ he
     | panicked c => exact hq _ _ _ he
     | outgrown => exact QcE he fun a h => QcE h fun w h => ⟨a, w, hq _ _ _ h⟩)
 | .ok (.row row args) w, h => Rows.mono (show Rows P row args w _ from h) (fun v w' he => hk _ _ he)
 | .halt (.panic v) w, h => hq _ _ _ h
theorem ZR {rd : Option Nat} {P : Program} {o : Oper} {a : Act} {K K' : Act → World → Prop} {Q Q' : Exit → Act → World → Prop} (hk : ∀ a w, K a w → K' a w) (hq : ∀ e a w, Q e a w → Q' e a w) :
    ∀ {r : Result Next}, o.uponIn (FW rd) 0 P a K Q r → o.uponIn (FW rd) 0 P a K' Q' r
 | .ok (.value v) w, h => hk _ _ h
 | .ok .skip w, h => hk _ _ h
 | .ok (.defer d) w, h => hk _ _ h
 | .ok (.enter f args) w, h => ⟨h.1, CallsIn.mono h.2 (by
     intro e w' he
     cases e with
     | returned v => exact hk _ _ he
     | panicked c => exact hq _ _ _ he
     | outgrown => exact QcE he fun a h => QcE h fun w h => ⟨a, w, hq _ _ _ h⟩)⟩
 | .ok (.row row args) w, h => ⟨h.1, RowsIn.mono h.2 (fun v w' he => hk _ _ he)⟩
 | .ok (.round l f tmps assign body) w, h => ⟨h.1, RoundIn.mono h.2 (by
     intro e w' he
     cases e with
     | returned v => exact hk _ _ he
     | panicked c => exact hq _ _ _ he
     | outgrown => exact QcE he fun a h => QcE h fun w h => ⟨a, w, hq _ _ _ h⟩)⟩
 | .halt (.panic v) w, h => hq _ _ _ h
theorem yO {rd : Option Nat} {P : Program} {ops : Array Oper} {Q Q' : Exit → Act → World → Prop} (hq : ∀ e a w, Q e a w → Q' e a w) : ∀ (l : List Oper) (a : Act) (w : World), bq rd P ops Q l a w → bq rd P ops Q' l a w
 | [], a, w, h => hq _ _ _ h
 | o :: l, a, w, h => by
  simp only [bq] at h ⊢
  split at h
  rename_i hw
  rw [Qaf hw]
  rcases h with h | h
  exact .inl (ZQ (fun a w k => yO hq l a w k) hq h)
  exact .inr ⟨h.1, ZR (fun a w k => yO hq l a w k) hq h.2⟩
  rename_i hw
  rw [Qac hw]
  exact yO hq l _ _ h
theorem ZS {P : Program} {W0 w : World} {fn : Func} {Post Post' : Value → List HP → Prop} {A : List HP} (hO : Own W0 w A) (hP : ∀ v B, Post' v B → ∃ B', Post v B' ∧ Ent (B ++ A) B') :
    ∀ (ex : Exit) (a : Act) (w' : World), jq P w fn Post' ex a w' → jq P W0 fn Post ex a w' := by
 have hR : ∀ (e : Ending) (w' : World), (∃ v B, e = .returned v ∧ Post' v B ∧ Own w w' B) → ∃ v B, e = .returned v ∧ Post v B ∧ Own W0 w' B := by
  rintro e w' ⟨v, B, rfl, hp, hO'⟩
  obtain ⟨B', h1, h2⟩ := hP v B hp
  exact ⟨v, B', rfl, h1, (hO.step hO').ent h2⟩
 intro ex a w' h
 cases ex with
 | normal => exact vT hR _ _ _ h
 | ret => exact vT hR _ _ _ h
 | exit id => exact h
 | goto l => exact h
 | panic c => exact h
 | outgrown => exact h
theorem ZT {P : Program} {W0 : World} {N : FSz} {ops : Array Oper} {l : List Oper} {y : Code} {fn : Func} {Post : Value → List HP → Prop} (Post' : Value → List HP → Prop) {e : aH} {A : List HP}
    (hP : ∀ v B, Post' v B → ∃ B', Post v B' ∧ Ent (B ++ A) B') (h : ∀ W, Own W0 W A → ai W N (bq none P ops (Exit.then (y.wpR none P (jq P W fn Post')) (jq P W fn Post')) l) e []) :
    ai W0 N (bq none P ops (Exit.then (y.wpR none P (jq P W0 fn Post)) (jq P W0 fn Post)) l) e A := by
 intro a w hF hO
 have hm := ZS (P := P) (fn := fn) hO hP
 refine yO ?_ _ _ _ (h w hO a w hF (Own.refl w))
 intro ex a' w' hq
 cases ex with
 | normal => exact Code.wpIn_mono hm hq
 | ret => exact hm .ret a' w' hq
 | exit id => exact hm (.exit id) a' w' hq
 | goto l => exact hm (.goto l) a' w' hq
 | panic c => exact hm (.panic c) a' w' hq
 | outgrown => exact hm .outgrown a' w' hq
theorem GOk.more {z : Gz} {g g' : Gu} {N : Nat} (h : GOk z g N) (hc : CpOk g'.c) (h1 : g'.clock ≤ g.clock + 1) (h2 : g'.bud ≤ g.bud + 6) (h3 : g'.ln ≤ g.ln + 2) (h4 : g'.tm.now ≤ g.tm.now + 1) : GOk z g' (N + 1) :=
  ⟨hc, h.i, by have := h.clk; omega, by have := h.bud; omega, by have := h.ln; omega, by have := h.tn; omega⟩
theorem vU {g : Gu} {a b : Nat} (h : CpOk g.c) (ha : a < 4294967296) (hb : b < 4294967296) : CpOk (fP g a b).2.c := by
 unfold fP
 split
 exact h
 exact h.enter ha hb
theorem oY (g : Gu) (a b : Nat) : (fP g a b).2.bud = g.bud ∧ (fP g a b).2.clock = g.clock := by unfold fP; split <;> exact ⟨rfl, rfl⟩
theorem ZU {g : Gu} {fr : List ap} {pg : List Pl} {e : Eff} (h : CpOk g.c) (he : EfOk e) (hF : cC fr) : CpOk (jY g fr pg e).1.2.c ∧ cC (jY g fr pg e).2 ∧ (jY g fr pg e).2.length = fr.length ∧ (jY g fr pg e).1.2.bud ≤ g.bud + 3 ∧ (jY g fr pg e).1.2.clock = g.clock := by
 unfold jY
 split
 unfold rW
 split
 exact ⟨vU h (dC _) he.addr, hF, rfl, by rw [(oY _ _ _).1]; exact Qap _, (oY _ _ _).2⟩
 refine ⟨⟨h.r.set _ _ ?_, he.pc, h.cs⟩, hF, rfl, Qap _, rfl⟩
 split
 exact Z4 (vQ hF)
 exact vQ hF
 split
 unfold rX
 split
 exact ⟨vU h (dC _) he.addr, HE hF, HF, by rw [(oY _ _ _).1]; exact Qap _, (oY _ _ _).2⟩
 exact ⟨⟨h.r, he.pc, h.cs⟩, HE hF, HF, Qap _, rfl⟩
 split
 exact ⟨vU h (by have := he.cause; omega) he.tval, hF, rfl, by rw [(oY _ _ _).1]; omega, (oY _ _ _).2⟩
 split; · exact ⟨⟨h.r, he.pc, h.cs⟩, hF, rfl, by show g.bud ≤ _; omega, rfl⟩
 split; · exact ⟨⟨h.r, he.pc, h.cs⟩, hF, rfl, by show g.bud ≤ _; omega, rfl⟩
 split; · exact ⟨h, hF, rfl, by show g.bud ≤ _; omega, rfl⟩
 exact ⟨h, hF, rfl, by show g.bud ≤ _; omega, rfl⟩
theorem ZV {i : Nat} {g : Gu} {fr : List ap} {pg : List Pl} (h : CpOk g.c) (hi : i < 4) (hF : cC fr) : CpOk (kE i g fr pg).1.2.c ∧ cC (kE i g fr pg).2 ∧ (kE i g fr pg).2.length = fr.length ∧ (kE i g fr pg).1.2.bud ≤ g.bud + 6 ∧ (kE i g fr pg).1.2.clock = g.clock := by
 unfold kE
 split
 exact ⟨vU h (dC _) h.pc, hF, rfl, by rw [(oY _ _ _).1]; show g.bud + 3 ≤ _; omega, (oY _ _ _).2⟩
 split
 grind [vU, vQ, oY]
 have ho := EC (id := i) (clock := gk g.clock) (i := fV (nQ g fr pg g.c.pc 4 0)) h (Ez _).2.1 hi
 obtain ⟨h1, h2, h3, h4, h5⟩ := ZU (g := tQ (ik g) (lU i (gk g.clock) (fV (nQ g fr pg g.c.pc 4 0)) g.c).2) (fr := fr) (pg := pg) ho.2 ho.1 hF
 exact ⟨h1, h2, h3, by have h4 : _ ≤ g.bud + 3 + 3 := h4; omega, h5⟩
theorem ZW {g : Gu} (h : CpOk g.c) : CpOk (jC g).2.c ∧ (jC g).2.clock = g.clock ∧ (jC g).2.bud = g.bud ∧ (jC g).2.ln = g.ln ∧ (jC g).2.tm = g.tm := by
 unfold jC
 split
 cases q : jX g.ls with
 | none => exact ⟨h, rfl, rfl, rfl, rfl⟩
 | some n =>
  have := (yz q).1
  exact ⟨h.enter (by omega) (by decide), rfl, rfl, rfl, rfl⟩
 grind
theorem ZX (g : Gu) : (mB g).ln ≤ g.ln + 1 := by
 grind [HH, l6]
theorem BU {i : Nat} {g : Gu} {fr : List ap} {pg : List Pl} (h : CpOk g.c) (hi : i < 4) (hF : cC fr) : CpOk (j4 i g fr pg).1.2.c ∧ cC (j4 i g fr pg).2 ∧ (j4 i g fr pg).2.length = fr.length ∧ (j4 i g fr pg).1.2.bud ≤ g.bud + 6 ∧ (j4 i g fr pg).1.2.clock = g.clock + 1 ∧ (j4 i g fr pg).1.2.ln ≤ g.ln + 1 ∧ (j4 i g fr pg).1.2.tm.now = g.tm.now := by
 have hf := ZX (mD g)
 unfold j4
 split; · exact ⟨h, hF, rfl, by show g.bud ≤ _; omega, rfl, by show g.ln ≤ _; omega, rfl⟩
 have hI := ZW (g := mB (mD g)) h
 split
 exact ⟨hI.1, hF, rfl, by rw [hI.2.2.1]; show g.bud ≤ _; omega, by rw [hI.2.1], by rw [hI.2.2.2.1]; exact hf, by rw [hI.2.2.2.2]; rfl⟩
 obtain ⟨e1, e2, e3, e4, e5⟩ := ZV (i := i) (fr := fr) (pg := pg) hI.1 hi hF
 obtain ⟨k1, k2, k3⟩ := HI i (jC (mB (mD g))).2 fr pg
 exact ⟨e1, e2, e3, by rw [hI.2.2.1] at e4; exact e4, by rw [e5, hI.2.1], by rw [k2, hI.2.2.2.1]; exact hf, by rw [k3, hI.2.2.2.2]; rfl⟩
end
end Go.Proofs.YtofillmoflhijaaGreatDoor
