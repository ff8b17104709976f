/-
  Part 3 of the proof of HcallWho: rules, and walks of functions. Conditions: none.
-/
import Derived.Test.YtoedafbckfgkjaaGreatHcallWhoB
namespace Go.Proofs.YtoedafbckfgkjaaGreat
set_option linter.unusedSimpArgs false
set_option linter.unusedVariables false
set_option maxRecDepth 20000
set_option linter.defProp false
set_option synthInstance.maxSize 8192
set_option synthInstance.maxHeartbeats 2000000
section
open Go.RowKit
def gS (p : Pl) : Value := .bool (decide (p ≠ (0, 0)))
abbrev fW (pg : List Pl) : Obj := aj (pg.map gS ++ pg.flatMap et) 230
theorem vU {pg : List Pl} {sp : List Value} {i : Nat} (hi : i < pg.length) : ((pg.map gS ++ sp).drop (i * 1)).take 1 = [gS (fN pg i)] := by
 rw [Nat.mul_one, List.drop_append_of_le_length (by simp; omega), ← List.map_drop, List.drop_eq_getElem_cons hi, List.map_cons, List.cons_append, List.take_succ_cons, List.take_zero]
 simp [fN, List.getD, hi]
theorem BH {pg : List Pl} {i : Nat} (h : pg.length = 12) (hi : i < 12) : ((pg.map gS ++ pg.flatMap et).drop (12 + i * 2)).take 2 = et (fN pg i) := by
 rw [← List.drop_drop, List.drop_left' (by simpa using h)]
 have := qu (pg := pg) (sp := []) (n := i) (by omega)
 rwa [List.append_nil] at this
theorem vV : ∀ (vs a b : List Value) (off : Nat), setR (a ++ b) (a.length + off) vs = a ++ setR b off vs
 | [], a, b, off => rfl
 | v :: vs, a, b, off => by
  rw [setR, setR, List.set_append_right _ _ (by omega), show a.length + off - a.length = off by omega, show a.length + off + 1 = a.length + (off + 1) by omega, vV vs]
theorem BI {pg : List Pl} {i : Nat} {p : Pl} (h : pg.length = 12) (hi : i < 12) (hp : gM p = true) : setR ((pg.map gS ++ pg.flatMap et).set (i * 1) (.bool true)) (12 + i * 2) (et p) = (pg.set i p).map gS ++ (pg.set i p).flatMap et := by
 have ht : gS p = .bool true := by
  have := kf.1 hp
  simp only [gS, Value.bool.injEq, decide_eq_true_eq]
  intro e; rw [e] at this; simp at this
 rw [Nat.mul_one, List.set_append_left _ _ (by simp; omega), ← ht, ← List.map_set]
 have e := vV (et p) ((pg.set i p).map gS) (pg.flatMap et) (i * 2)
 rw [show ((pg.set i p).map gS).length = 12 by simp [h]] at e
 rw [e]
 have := uB (pg := pg) (sp := []) (n := i) (p := p) (by omega)
 rw [List.append_nil, List.append_nil] at this
 rw [this]
theorem vW (W0 : World) (R : List HP) (n : Int) : ao Tryz.prog W0 199 [.int .i64 n] R (fun v B => v = .bool (g7 n) ∧ B = R) := by
 refine aD Tryz.func199 Tryz.ntmps199 rfl rfl ?_
 refine au 10 ?_
 refine bX rfl rfl rfl ?_ ?_
 ·intro g1_3
  refine au 8 ?_
  refine ah (.inl rfl) (.cons (ac rfl) .nil) ?_
  refine ⟨_, ⟨?_, rfl⟩, inferInstance⟩
  refine congrArg Value.bool ?_
  rw [Bool.eq_iff_iff]; simp only [g7, decide_eq_true_eq, Bool.false_eq_true, false_iff]; omega
 ·intro g1_3
  refine au 6 ?_
  refine ah (.inl rfl) (.cons (ac rfl) .nil) ?_
  refine ⟨_, ⟨?_, rfl⟩, inferInstance⟩
  refine congrArg Value.bool ?_
  rw [Bool.eq_iff_iff]; simp only [g7, decide_eq_true_eq, Bool.false_eq_true, false_iff]; omega
theorem rM (W0 : World) (R : List HP) (b : Nat) (pg : List Pl) (h : Pgs pg) (n : Int) (p : Pl) : ao Tryz.prog W0 86 [.pointer (some ⟨b, 0, none⟩), .int .i64 n, .agg (et p).toArray] (pt b (fW pg) :: R)
  (fun v B => v = .int .i64 (dW pg n p) ∧ B = pt b (fW (dY pg n p)) :: R) := by
 have hl := h.len
 refine aD Tryz.func86 Tryz.ntmps86 rfl rfl ?_
 refine au 2 ?_
 refine ae rfl (bw rfl) ?_
 rintro _ _ ⟨b1, rfl, rfl⟩
 refine au 7 ?_
 refine ae rfl (aF Tryz.call199 rfl (vW W0 _ n)) ?_
 rintro _ B_ ⟨rfl, hB_⟩
 obtain rfl := hB_.symm
 refine au 2 ?_
 refine aZ rfl rfl rfl ?_ ?_
 ·intro g1_4
  refine au 28 ?_
  refine ah (.inl rfl) (.cons (ac rfl) .nil) ?_
  have he : dW pg n p = 1 := by
   unfold dW; rw [if_neg]
   intro hk
   have := kf.1 hk.2
   first
    | omega
    | (simp [hk.1] at g1_4)
  exact ⟨_, ⟨by simp [bW, he], by rw [dY, he, if_neg (by decide)]⟩, inferInstance⟩
 ·intro g1_4
  refine au 7 ?_
  refine aZ rfl rfl rfl ?_ ?_
  ·intro g1_9
   refine au 23 ?_
   refine ah (.inl rfl) (.cons (ac rfl) .nil) ?_
   have he : dW pg n p = 1 := by
    unfold dW; rw [if_neg]
    intro hk
    have := kf.1 hk.2
    first
     | omega
     | (simp [hk.1] at g1_4)
   exact ⟨_, ⟨by simp [bW, he], by rw [dY, he, if_neg (by decide)]⟩, inferInstance⟩
  ·intro g1_9
   refine au 7 ?_
   refine aZ rfl rfl rfl ?_ ?_
   ·intro g1_14
    refine au 18 ?_
    refine ah (.inl rfl) (.cons (ac rfl) .nil) ?_
    have he : dW pg n p = 1 := by
     unfold dW; rw [if_neg]
     intro hk
     have := kf.1 hk.2
     first
      | omega
      | (simp [hk.1] at g1_4)
    exact ⟨_, ⟨by simp [bW, he], by rw [dY, he, if_neg (by decide)]⟩, inferInstance⟩
   ·intro g1_14
    refine au 7 ?_
    refine aZ rfl rfl rfl ?_ ?_
    ·intro g1_19
     refine au 13 ?_
     refine ah (.inl rfl) (.cons (ac rfl) .nil) ?_
     have he : dW pg n p = 1 := by
      unfold dW; rw [if_neg]
      intro hk
      have := kf.1 hk.2
      first
       | omega
       | (simp [hk.1] at g1_4)
     exact ⟨_, ⟨by simp [bW, he], by rw [dY, he, if_neg (by decide)]⟩, inferInstance⟩
    ·intro g1_19
     refine au 8 ?_
     refine ai rfl ?_ ?_
     ·intro c1
      refine au 7 ?_
      refine ah (.inl rfl) (.cons (ac rfl) .nil) ?_
      have he : dW pg n p = 1 := by
       unfold dW; rw [if_neg]
       intro hk
       have := kf.1 hk.2
       first
        | omega
        | (simp [hk.1] at g1_4)
      exact ⟨_, ⟨by simp [bW, he], by rw [dY, he, if_neg (by decide)]⟩, inferInstance⟩
     ·intro c1
      have hp : g7 n = true := by simpa using g1_4
      have ho : gM p = true := kf.2 (by omega)
      obtain ⟨i, hni, hi⟩ := mm hp
      have htr := vU (pg := pg) (sp := pg.flatMap et) (i := i) (by omega)
      have hth : dV pg n = decide (fN pg i ≠ (0, 0)) := by rw [dV, hp]; simp [hni]
      refine au 9 ?_
      refine aa rfl (dv ya cu rfl rfl hni hi (by first | exact Nat.zero_add _ | rfl)) ?_
      refine aa rfl (am j6 rfl (fp (vs := [gS (fN pg i)]) htr rfl 0 _ rfl)) ?_
      refine au 2 ?_
      refine ai rfl ?_ ?_
      ·intro c3
       have ht : dV pg n = true := by rw [hth]; simpa using c3
       refine au 7 ?_
       refine ah (.inl rfl) (.cons (ac rfl) .nil) ?_
       have he : dW pg n p = 5 := by unfold dW; rw [if_pos ⟨hp, ho⟩, if_pos ht]
       exact ⟨_, ⟨by simp [bW, he], by rw [dY, he, if_neg (by decide)]⟩, inferInstance⟩
      ·intro c3
       have ht : dV pg n = false := by rw [hth]; simpa using c3
       have he : dW pg n p = 0 := by simp [dW, hp, ho, ht]
       refine au 8 ?_
       refine aa rfl (dv ya cu rfl rfl hni hi (by first | exact Nat.zero_add _ | rfl)) ?_
       refine b0 (bN cu rfl rfl rfl (by rw [List.length_append, List.length_map, cX ke]; omega) rfl) ?_
       rintro _ _ rfl
       refine au 3 ?_
       refine bR [(b1, 0, _)] 7 bQ rfl (aC aB) (fun hS => ?_)
       refine ab 0 rfl rfl rfl hS (ag rfl) ?_
       refine ab 1 rfl rfl rfl hS (ag rfl) ?_
       refine ab 2 rfl rfl rfl hS (cj jo f0 rfl (cT (k := 0) rfl) rfl) ?_
       refine ab 3 rfl rfl rfl hS (aU rfl) ?_
       refine ab 4 rfl rfl rfl hS (ap rfl pw rfl mX rfl (by first | exact Nat.zero_add _ | rfl)) ?_
       refine ab 5 rfl rfl rfl hS (dv pC f0 rfl rfl hni hi (by first | exact Nat.zero_add _ | rfl)) ?_
       refine aW 6 (by kernel_rfl) rfl rfl (iD f0 rfl rfl rfl rfl (by rw [List.length_set, List.length_append, List.length_map, cX ke]; omega) (BI hl hi ho)) rfl ?_; clear hS
       rintro _ _ rfl
       refine ⟨(aC aB), fun hS => ?_⟩
       refine bz (by kernel_rfl) ?_; clear hS
       refine au 7 ?_
       refine ah (.inl rfl) (.cons (ac rfl) .nil) ?_
       rw [show dY pg n p = pg.set i p by rw [dY, if_pos he, hni, Int.toNat_natCast]]
       exact ⟨_, ⟨by simp [bW, he], rfl⟩, inferInstance⟩
theorem BJ (W0 : World) (R : List HP) (b : Nat) (pg : List Pl) (h : Pgs pg) (n : Int) : ao Tryz.prog W0 288 [.pointer (some ⟨b, 0, none⟩), .int .i64 n] (pt b (fW pg) :: R)
  (fun v B => v = .tuple #[.agg (et (jh pg n)).toArray, .bool (dV pg n)] ∧ B = pt b (fW pg) :: R) := by
 have hl := h.len
 refine aD Tryz.func288 Tryz.ntmps288 rfl rfl ?_
 refine au 2 ?_
 refine ae rfl (cd iO) ?_
 rintro _ _ ⟨b1, rfl, rfl⟩
 refine au 7 ?_
 refine ae rfl (aF Tryz.call199 rfl (vW W0 _ n)) ?_
 rintro _ B_ ⟨rfl, hB_⟩
 obtain rfl := hB_.symm
 refine au 3 ?_
 refine ai rfl ?_ ?_
 ·intro c1
  refine au 2 ?_
  refine aa rfl (bI jr iO (aA ar (aA ar bH)) bG) ?_
  refine b0 (bS f0 rfl rfl rfl rfl rfl) ?_
  rintro _ _ rfl
  refine au 5 ?_
  refine ah (.inl rfl) (.cons (fh jo f0 rfl rfl) (.cons (ac rfl) .nil)) ?_
  refine ⟨_, ⟨?_, rfl⟩, inferInstance⟩
  have ht : dV pg n = false := by simp [dV, show g7 n = false by simpa using c1]
  simp [bW, jh, ht]
 ·intro c1
  have hp : g7 n = true := by simpa using c1
  obtain ⟨i, hni, hi⟩ := mm hp
  have htr := vU (pg := pg) (sp := pg.flatMap et) (i := i) (by omega)
  have hpr := BH (pg := pg) hl hi
  refine au 3 ?_
  refine bR [(b, 12 + i * 2, et (fN pg i)), (b, i * 1, [gS (fN pg i)])] 14 bQ rfl (cm (fp hpr rfl) (cm (fp htr rfl) aB)) (fun hS => ?_)
  refine ab 0 rfl rfl rfl hS (ag rfl) ?_
  refine ab 1 rfl rfl rfl hS (ag rfl) ?_
  refine ab 2 rfl rfl rfl hS (aU rfl) ?_
  refine ab 3 rfl rfl rfl hS (ap rfl pw rfl mX rfl (by first | exact Nat.zero_add _ | rfl)) ?_
  refine ab 4 rfl rfl rfl hS (dv pC f0 rfl rfl hni hi (by first | exact Nat.zero_add _ | rfl)) ?_
  refine ab 5 rfl rfl rfl hS (cj jo f0 rfl (cT (k := 0) rfl) rfl) ?_
  refine ab 6 rfl rfl rfl hS (ag rfl) ?_
  refine ab 7 rfl rfl rfl hS (ag rfl) ?_
  refine ab 8 rfl rfl rfl hS (aU rfl) ?_
  refine ab 9 rfl rfl rfl hS (ap rfl pw rfl sI rfl (by first | exact Nat.zero_add _ | rfl)) ?_
  refine ab 10 rfl rfl rfl hS (dv ya cu rfl rfl hni hi (by first | exact Nat.zero_add _ | rfl)) ?_
  refine ab 11 rfl rfl rfl hS (am j6 rfl (m7 (k := 1) rfl)) ?_
  refine aW 12 (by kernel_rfl) rfl rfl (bS f0 rfl rfl rfl rfl rfl) rfl ?_; clear hS
  rintro _ _ rfl
  refine ⟨(cm (fp hpr rfl) (cm (fp htr rfl) aB)), fun hS => ?_⟩
  refine ab 13 rfl rfl rfl hS (ax rfl) ?_
  refine bz (by kernel_rfl) ?_; clear hS
  refine au 2 ?_
  refine ah (.inl rfl) (.cons (fh jo f0 rfl rfl) (.cons (ac rfl) .nil)) ?_
  refine ⟨_, ⟨?_, rfl⟩, inferInstance⟩
  subst hni
  by_cases hz : fN pg i = (0, 0)
  ·have ht : dV pg i = false := by simp [dV, hz]
   simp [bW, jh, ht, hz, gS]
  ·have ht : dV pg i = true := by simp [dV, hz, hp]
   simp [bW, jh, ht, hz, gS]
def BK (d : Nat) : List Value := (List.range 12).map (fun i => .bool (Nat.testBit d i))
abbrev lu (qs qm d : Nat) : Obj := aj (.pointer (some ⟨qs, 0, none⟩) :: .pointer (some ⟨qm, 0, none⟩) :: BK d) 232
structure QS where
  r : Rg3
  on : Bool
  br : Int
  last : Nat
  put : Nat
@[reducible] def iw : QS := ⟨⟨0, 0, 0, 0⟩, false, 0, 0, 0⟩
abbrev qO (m : Bool) (s : QS) : Obj := aj [.int .u32 s.r.desc, .int .u32 s.r.avail, .int .u32 s.r.used, .int .i64 s.r.n, .bool s.on, .int .i64 s.br, .int .i64 s.last, .int .i64 s.put, .bool m] 451
theorem BL (W0 : World) (R : List HP) : ao Tryz.prog W0 196 [] R (fun v B => ∃ b, v = .pointer (some ⟨b, 0, none⟩) ∧ B = pt b (qO true iw) :: R) := by
 refine aD Tryz.func196 Tryz.ntmps196 rfl rfl ?_
 refine au 7 ?_
 refine aa rfl (bI Tryz.underlying451 Tryz.zeroValue451 (aA Tryz.sizeOf216 (aA cu bH)) (aS rfl cu rfl rfl (Nat.le_of_ble_eq_true rfl) SetL.eq bG)) ?_
 refine ae rfl (bw rfl) ?_
 rintro _ _ ⟨b1, rfl, rfl⟩
 refine au 4 ?_
 refine ah (.inl rfl) (.cons (ac rfl) .nil) ?_
 exact ⟨_, ⟨_, rfl, rfl⟩, inferInstance⟩
section
variable {P : Program} {S : World → Prop} {W0 : World} {N : FSz} {e : bq} {A R : List HP} {t t' : TypeId} {x : Operand} {v : Value} {b : Nat} {vs : List Value}
end
def gz : List Nat := List.replicate 16 0
structure Dk where
  rs : List Rn
  lb : List Int
  ss : List (List Nat)
def rN (ss : List (List Nat)) (i : Nat) : List Nat := ss.getD i gz
def mG (ss : List (List Nat)) : Int → Option Value := fun k => if 0 ≤ k ∧ k < 32 then (if rN ss k.toNat = gz then none else some (.agg (bL (rN ss k.toNat)).toArray)) else none
@[reducible] def mH (bt bm : Nat) (aL : Option Addr) (n cL : Nat) : Obj := aj [.pointer (some ⟨bt, 0, none⟩), .slice aL n cL, .map (some bm)] 408
def jI (d : Nat) (x : Dk) : HP := chk (fun C => ∃ bt bm aL cL, C = [pt d (mH bt bm aL x.lb.length cL), gy bt (x.rs, 32), osl 3 1 (.slice aL x.lb.length cL) (x.lb.flatMap ee), kt bm (mG x.ss)])
section
variable {W0 : World} {N : FSz} {K : Act → World → Prop} {e : bq} {A B R R1 R2 R3 R4 : List HP} {d : Nat} {x : Dk}
theorem BM {bt bm n cL : Nat} {aL : Option Addr} {rs : List Rn} {ys : List Value} {f : Int → Option Value} [h1 : Tk pt d A (mH bt bm aL n cL) R1] [h2 : Tk gy bt R1 (rs, 32) R2] [h3 : Tk (osl 3 1) (.slice aL n cL) R2 ys R3] [h4 : Tk kt bm R3 f R4]
  (e1 : rs = x.rs) (e2 : ys = x.lb.flatMap ee) (e3 : f = mG x.ss) (e4 : n = x.lb.length) [k : Ent R4 B] : Ent A (jI d x :: B) := by
 subst e1; subst e2; subst e3; subst e4
 have e : A.Perm ([pt d (mH bt bm aL x.lb.length cL), gy bt (x.rs, 32), osl 3 1 (.slice aL x.lb.length cL) (x.lb.flatMap ee), kt bm (mG x.ss)] ++ R4) := h1.perm.trans ((h2.perm.trans ((h3.perm.trans (h4.perm.cons _)).cons _)).cons _)
 exact (Ent.ofPerm e).trans ((eF (R := R4) ⟨bt, bm, aL, cL, rfl⟩).trans (Ent.cons k))
end
section
variable {P : Program} {S : World → Prop} {W0 : World} {N : FSz} {e : bq} {A R : List HP} {ty t t' : TypeId} {x y : Operand} {b off : Nat} {l l' vs : List Value}
theorem BN {E sz dn dc sn sc m : Nat} {ay : Option Addr} (hu : P.underlying t = some (.slice E)) (hs : ∀ w, (sizeOf E).run P w = .ok sz w) (hx : ev e x = some (.slice (some ⟨b, off, none⟩) dn dc)) (hy : ev e y = some (.slice ay sn sc))
  [h : Tk pt b A (aj l ty) R] (hm : Nat.min sn dn = m) (hsrc : m = 0 ∨ ∃ bx ox, ay = some ⟨bx, ox, none⟩ ∧ cp (bu W0 A) bx ox vs) (hl : vs.length = m * sz) (h1 : ek vs = true) (ho : off + m * sz ≤ l.length) (hr : setR l off vs = l') :
  cQ P W0 N e A (.call { callee := .builtin .copy, args := #[x, y], argTypes := #[t, t'] }) (fun v B => v = .int .i64 m ∧ B = pt b (aj l' ty) :: R) := by
 rcases hsrc with rfl | ⟨bx, ox, rfl, hc⟩
 ·have h0 : vs = [] := List.eq_nil_of_length_eq_zero (by simpa using hl)
  subst h0
  have hr' : l = l' := hr
  subst hr'
  intro a w dst ty' pos af g K Q hF hO k
  have hO' := hO.tk (r := pt) (b := b)
  have hexec : (execOp a.eval { dst := dst, op := .call { callee := .builtin .copy, args := #[x, y], argTypes := #[t, t'] }, type := ty', pos := pos, after := af, guard := g }).run P w = .ok (.value (.int .i64 0)) w := by
   have hs' : (sizeOf E).run P w = .ok sz w := hs w
   cases ay <;>
   simp only [execOp, resolve, invoke, builtin, Sem.run_bind, Sem.run_pure, Result.andThen_ok, List.map_toArray, List.map_cons, List.map_nil, hF.eval hx, hF.eval hy, Builtin.copy_, Builtin.lenOf, Builtin.firstCells, dH hu, hm, Array.getElem?_eq_getElem, List.getElem?_toArray, List.getElem?_cons_zero, List.getElem?_cons_succ, hs', loadCells, loadCellsFrom, Nat.zero_mul, storeCells, goInt] <;> rfl
  unfold Oper.wp
  rw [hexec]
  exact k _ w _ ⟨rfl, rfl⟩ hO'
 ·exact kW hu hs hx hy hm hc hl h1 ho hr
end
@[reducible] def ix (x : Nat) : List Value := [wV x]
theorem rO (x : Nat) : (ix x).length = 1 := rfl
theorem rP (l : List Nat) : l.flatMap ix = l.map wV := zZ wV l
def bA (ws : List Nat) (p : Nat) : List Nat := ws.take (16 * p)
theorem mI (ws : List Nat) (p : Nat) : (bA ws p).length = min (16 * p) ws.length := by rw [bA, List.length_take]
theorem rQ (a b : Nat) : (if (b : Int) < (a : Int) then (b : Int) else (a : Int)) = ((min a b : Nat) : Int) := by
 split <;> omega
theorem vX {p : Nat} (h : p ≤ 8) : (if (8 : Int) < (p : Int) then (8 : Int) else (p : Int)) = (p : Int) := by rw [if_neg (by omega)]
theorem BO (a : Nat) : (if (a : Int) > (0 : Int) then (a : Int) else (0 : Int)) = (a : Int) := by
 split <;> omega
theorem vY (W0 : World) (R : List HP) (a : Option Addr) (c p : Nat) (ws : List Nat) (hs : bT (bu W0 R) a 1 ix ws) (hp : p ≤ 8) (hn : ws.length < 9223372036854775808) :
  ao Tryz.prog W0 76 [.slice a ws.length c, .int .i64 p] R (fun v B => ∃ g, v = .slice (some ⟨g, 0, none⟩) (bA ws p).length (bA ws p).length ∧ B = pt g (aj ((bA ws p).map wV) 42) :: R) := by
 have hl := mI ws p
 have hsrc := (hs.take (16 * p)).src rO (fun _ => trivial)
 rw [rP] at hsrc
 refine aD Tryz.func76 Tryz.ntmps76 rfl rfl ?_
 refine au 8 ?_
 refine aa rfl (mj rfl rfl (vX hp)) ?_
 refine aa rfl (uW rfl rfl (BO p)) ?_
 refine aa rfl (i4 rfl rfl (by rw [aK (by omega)]; omega : IntKind.wrap .i64 ((p : Int) * 16) = ((16 * p : Nat) : Int))) ?_
 refine au 3 ?_
 refine gn (fun m : Nat => m = (bA ws p).length) (fun m => [(0, .slice a ws.length c), (5, .int .i64 m)]) (fun _ => R) ?_ ?_
 ·skip
  refine au 8 ?_
  refine ai rfl ?_ ?_
  ·intro c2
   refine au 6 ?_
   refine d8 ws.length ?_ ?_ ?_
   ·omega
   ·repeat (first | exact aJ | refine aG rfl ?_)
   ·exact inferInstance
  ·intro c2
   refine au 2 ?_
   refine d8 (16 * p) ?_ ?_ ?_
   ·omega
   ·repeat (first | exact aJ | refine aG rfl ?_)
   ·exact inferInstance
 ·intro m hm
  refine au 3 ?_
  refine ae rfl (mi (sz := 1) (by_ := 4) (info := Tryz.t42) lO (by kernel_rfl) rfl rfl rfl rfl (by decide) rfl rfl rfl rfl (by omega) (by decide)) ?_
  rintro _ _ ⟨g, rfl, rfl⟩
  refine au 7 ?_
  refine ae rfl (BN lO cg rfl rfl (m := m) (vs := (bA ws p).map wV) (Nat.min_eq_right (by omega)) (by
rcases hsrc with h | ⟨b, o, h1, h2⟩
·left; rw [hm, bA, h]; rfl
·right; exact ⟨b, o, h1, h2.weak⟩) (by rw [List.length_map, hm]; omega) (by simp [ek, wV, Value.oneCell']) (by rw [List.length_replicate]; omega) (by have := nD ((bA ws p).map wV) (List.replicate (m * 1) (.int .u32 0)) [] (by rw [List.length_map, List.length_replicate, hm]; omega); simpa using this)) ?_
  rintro _ B_ ⟨rfl, hB_⟩
  obtain rfl := hB_.symm
  refine au 9 ?_
  refine ah (.inl rfl) (.cons (ac rfl) .nil) ?_
  subst hm
  exact ⟨_, ⟨g, rfl, rfl⟩, inferInstance⟩
def fX (n i : Nat) : Nat := min n (i * 16)
theorem vZ (ws : List Nat) (i : Nat) : (cz ws i).length = min ws.length (fX ws.length i + 16) - fX ws.length i := by
 rw [cz, List.length_take, List.length_drop, fX]; omega
theorem BQ (W0 : World) (R : List HP) (a : Option Addr) (c n i : Nat) (ws : List Nat) (hn : ws.length = n) (hc : n ≤ c) (hi : i < 8) (h63 : n ≤ 1000) :
  ao Tryz.prog W0 186 [.slice a n c, .int .i64 i] R (fun v B => v = .slice (g8 a c (fX n i) 1) (cz ws i).length (c - fX n i) ∧ B = R) := by
 have hl := vZ ws i
 rw [hn] at hl
 have hF : fX n i = min n (i * 16) := rfl
 refine aD Tryz.func186 Tryz.ntmps186 rfl rfl ?_
 refine au 10 ?_
 refine aa rfl (i4 rfl rfl (by rw [aK (by omega)]; omega : IntKind.wrap .i64 ((i : Int) * 16) = ((i * 16 : Nat) : Int))) ?_
 refine aa rfl (mj rfl rfl (rQ n (i * 16))) ?_
 refine au 10 ?_
 refine aa rfl (bj rfl rfl (by rw [aK (by omega)]; omega : IntKind.wrap .i64 (((fX n i : Nat) : Int) + 16) = ((fX n i + 16 : Nat) : Int))) ?_
 refine aa rfl (mj rfl rfl (rQ n (fX n i + 16))) ?_
 refine aa rfl (A7 lO cg rfl rfl rfl rfl rfl (by omega) (by omega)) ?_
 refine au 4 ?_
 refine ah (.inl rfl) (.cons (ac rfl) .nil) ?_
 rw [hl]
 exact ⟨_, ⟨rfl, rfl⟩, inferInstance⟩
theorem BR {S : World → Prop} {a : Option Addr} {c i : Nat} {ws : List Nat} (h : bT S a 1 ix ws) (hc : ws.length ≤ c) : bT S (g8 a c (fX ws.length i) 1) 1 ix (cz ws i) := by
 have hk : fX ws.length i + (cz ws i).length ≤ ws.length := by
  rw [vZ]; have : fX ws.length i = min ws.length (i * 16) := rfl; omega
 have := h.sub hk hc
 have e : (ws.drop (fX ws.length i)).take (cz ws i).length = cz ws i := by
  have hF : fX ws.length i = min ws.length (i * 16) := rfl
  rcases Nat.lt_or_ge ws.length (i * 16) with q | q
  ·have h0 : cz ws i = [] := by
    rw [cz, List.drop_of_length_le (by omega)]; rfl
   rw [h0]; rfl
  ·rw [show fX ws.length i = 16 * i by omega, cz, List.length_take]
   rcases Nat.le_total 16 (ws.drop (16 * i)).length with z | z
   ·rw [Nat.min_eq_left z]
   ·rw [Nat.min_eq_right z, List.take_of_length_le (Nat.le_refl _), List.take_of_length_le z]
 rwa [e] at this
theorem BS (W0 : World) (R : List HP) (pb ps : Nat) (po : Po) (h0 : 0 < po.length) :
  ao Tryz.prog W0 164 [.pointer (some ⟨pb, 0, none⟩), .int .i64 (-1), .int .i64 0] (cH pb (ps, po) :: R) (fun v B => v = .int .i64 1 ∧ B = cH pb (ps, po) :: R) := by
 have hi : d7 po.length (-1) = false := by simp [d7]
 refine aD Tryz.func164 Tryz.ntmps164 rfl rfl ?_
 refine au 10 ?_
 refine ae rfl (aM tc rfl (ov W0 _ pb ps po h0)) ?_
 rintro _ B_ ⟨rfl, hB_⟩
 obtain rfl := hB_.symm
 refine au 3 ?_
 refine ai rfl ?_ ?_
 ·intro c1
  exact absurd c1 (by decide)
 ·intro c1
  refine au 5 ?_
  refine ae rfl (aM Tryz.call234 rfl (ve W0 _ pb ps po (-1))) ?_
  rintro _ B_ ⟨rfl, hB_⟩
  obtain rfl := hB_.symm
  refine au 4 ?_
  refine ai rfl ?_ ?_
  ·intro c3
   refine au 11 ?_
   refine ah (.inl rfl) (.cons (ac rfl) .nil) ?_
   exact ⟨_, ⟨rfl, rfl⟩, inferInstance⟩
  ·intro c3
   exact absurd (by simp [hi]) c3
theorem BU (W0 : World) (R : List HP) (b : Nat) (pg : List Pl) (h : Pgs pg) : ao Tryz.prog W0 190 [.pointer (some ⟨b, 0, none⟩), .int .i64 (-1)] (pt b (df pg) :: R)
  (fun v B => v = .int .i64 1 ∧ B = pt b (df pg) :: R) := by
 refine aD Tryz.func190 Tryz.ntmps190 rfl rfl ?_
 refine au 10 ?_
 refine ae rfl (aM t0 rfl (nX W0 _ b pg h)) ?_
 rintro _ B_ ⟨rfl, hB_⟩
 obtain rfl := hB_.symm
 refine au 3 ?_
 refine ai rfl ?_ ?_
 ·intro c1
  exact absurd c1 (by decide)
 ·intro c1
  refine au 3 ?_
  refine ae rfl (aF sZ rfl (nY W0 _ (-1))) ?_
  rintro _ B_ ⟨rfl, hB_⟩
  obtain rfl := hB_.symm
  refine au 4 ?_
  refine ai rfl ?_ ?_
  ·intro c3
   refine au 8 ?_
   refine ah (.inl rfl) (.cons (ac rfl) .nil) ?_
   exact ⟨_, ⟨rfl, rfl⟩, inferInstance⟩
  ·intro c3
   exact absurd c3 (by decide)
theorem BV (W0 : World) (R : List HP) (pb ps pm : Nat) (x : Im) (h : ImOk x) (h0 : 0 < x.fr.length) :
  ao Tryz.prog W0 278 [.pointer (some ⟨pb, 0, none⟩), .pointer (some ⟨ps, 0, none⟩), .pointer (some ⟨pm, 0, none⟩)] (cH pb (ps, x.po) :: bn ps x.fr :: pt pm (df x.pg) :: R) (fun v B => v = .bool true ∧ B = cH pb (ps, x.po) :: bn ps x.fr :: pt pm (df x.pg) :: R) := by
 have hl := h.len
 refine aD Tryz.func278 Tryz.ntmps278 rfl rfl ?_
 refine au 8 ?_
 refine ae rfl (aM Tryz.call164 rfl (BS W0 _ pb ps x.po (by omega))) ?_
 rintro _ B_ ⟨rfl, hB_⟩
 obtain rfl := hB_.symm
 refine au 2 ?_
 refine bX rfl rfl rfl ?_ ?_
 ·intro g1_4
  refine au 2 ?_
  refine ae rfl (aM nj rfl (l5 W0 _ ps x.fr)) ?_
  rintro _ B_ ⟨rfl, hB_⟩
  obtain rfl := hB_.symm
  refine au 4 ?_
  refine bX rfl rfl rfl ?_ ?_
  ·intro g1_9
   refine au 2 ?_
   refine ae rfl (aM Tryz.call190 rfl (BU W0 _ pm x.pg h.pg)) ?_
   rintro _ B_ ⟨rfl, hB_⟩
   obtain rfl := hB_.symm
   refine au 7 ?_
   refine ah (.inl rfl) (.cons (ac rfl) .nil) ?_
   exact ⟨_, ⟨rfl, rfl⟩, inferInstance⟩
  ·intro g1_9
   omega
 ·intro g1_4
  exact absurd (by decide) g1_4
theorem BW (W0 : World) (R : List HP) (pm : Nat) (pg : List Pl) (h : Pgs pg) (n : Nat) (hn : n ≤ 8) (hf : kj pg 0 n) :
  ao Tryz.prog W0 279 [.pointer (some ⟨pm, 0, none⟩), .int .i64 n] (pt pm (df pg) :: R) (fun v B => v = .bool true ∧ B = pt pm (df pg) :: R) := by
 refine aD Tryz.func279 Tryz.ntmps279 rfl rfl ?_
 refine au 13 ?_
 refine ce (fun i : Nat => i ≤ n) (fun i => [(0, .pointer (some ⟨pm, 0, none⟩)), (8, .int .i64 n), (9, .int .i64 i)]) (fun _ => pt pm (df pg) :: R) (fun i => n - i) 0 ?_ ?_ ?_ ?_
 ·exact Nat.zero_le _
 ·repeat (first | exact aJ | refine aG rfl ?_)
 ·exact inferInstance
 ·intro i hi
  refine au 6 ?_
  refine ai rfl ?_ ?_
  ·intro c2
   refine au 14 ?_
   refine ae rfl (aM Tryz.call108 rfl (zI W0 _ pm pg h i)) ?_
   rintro _ B_ ⟨rfl, hB_⟩
   obtain rfl := hB_.symm
   refine au 3 ?_
   refine ae rfl (cd iO) ?_
   rintro _ _ ⟨bx, rfl, rfl⟩
   refine b0 (bS f0 rfl rfl rfl rfl rfl) ?_
   rintro _ _ rfl
   refine au 8 ?_
   refine ai rfl ?_ ?_
   ·intro c5
    exact absurd c5 (by rw [hf i (Nat.zero_le _) (by omega)]; decide)
   ·intro c5
    refine au 4 ?_
    refine aa rfl (bj rfl rfl (by first | exact aK (by omega) | rfl)) ?_
    refine au 3 ?_
    refine bU (i + 1) ?_ ?_ ?_ ?_
    ·omega
    ·omega
    ·repeat (first | exact aJ | refine aG rfl ?_)
    ·exact inferInstance
  ·intro c2
   refine au 11 ?_
   refine ah (.inl rfl) (.cons (ac rfl) .nil) ?_
   exact ⟨_, ⟨rfl, rfl⟩, inferInstance⟩
theorem BX (W0 : World) (R : List HP) (pb ps pm who n : Nat) (x : Im) (h : ImOk x) (h0 : 0 < x.fr.length) (hw : who < 16) (h1 : 1 ≤ n) (h8 : n ≤ 8) (hf : kj x.pg 0 n) (hl : n ≤ (bB x.po who).length) :
  ao Tryz.prog W0 183 [.pointer (some ⟨pb, 0, none⟩), .pointer (some ⟨ps, 0, none⟩), .pointer (some ⟨pm, 0, none⟩), .int .i64 who, .int .i64 n] (cH pb (ps, x.po) :: bn ps x.fr :: pt pm (df x.pg) :: R) (fun v B => v = .int .i64 0 ∧ B = cH pb (ps, x.po) :: bn ps x.fr :: pt pm (df x.pg) :: R) := by
 have hle := h.len
 refine aD Tryz.func183 Tryz.ntmps183 rfl rfl ?_
 refine au 12 ?_
 refine ae rfl (jX Tryz.call278 rfl (BV W0 _ pb ps pm x h h0)) ?_
 rintro _ B_ ⟨rfl, hB_⟩
 obtain rfl := hB_.symm
 refine au 4 ?_
 refine ai rfl ?_ ?_
 ·intro c1
  exact absurd c1 (by decide)
 ·intro c1
  refine au 8 ?_
  refine ai rfl ?_ ?_
  ·intro c3
   omega
  ·intro c3
   refine au 7 ?_
   refine ai rfl ?_ ?_
   ·intro c4
    omega
   ·intro c4
    refine au 7 ?_
    refine ai rfl ?_ ?_
    ·intro c5
     omega
    ·intro c5
     refine au 6 ?_
     refine ai rfl ?_ ?_
     ·intro c6
      omega
     ·intro c6
      refine au 4 ?_
      refine ae rfl (aM Tryz.call279 rfl (BW W0 _ pm x.pg h.pg n h8 hf)) ?_
      rintro _ B_ ⟨rfl, hB_⟩
      obtain rfl := hB_.symm
      refine au 4 ?_
      refine ai rfl ?_ ?_
      ·intro c8
       exact absurd c8 (by decide)
      ·intro c8
       refine au 4 ?_
       refine ae rfl (aM Tryz.call280 rfl (Aw W0 _ pb ps x.po who (by omega) hw)) ?_
       rintro _ B_ ⟨rfl, hB_⟩
       obtain rfl := hB_.symm
       refine au 5 ?_
       refine ai rfl ?_ ?_
       ·intro c10
        omega
       ·intro c10
        refine au 9 ?_
        refine ah (.inl rfl) (.cons (ac rfl) .nil) ?_
        exact ⟨_, ⟨rfl, rfl⟩, inferInstance⟩
theorem BY {pg : List Pl} {i f : Nat} (hi : i < 8) (hf : f < 32) (ht : dV pg (i : Nat) = false) : dW pg i ((f : Int), 3) = 0 := by
 rw [dW, if_pos ⟨by simp only [g7, decide_eq_true_eq]; omega, by simp only [gM, decide_eq_true_eq]; omega⟩, ht]; rfl
theorem BZ (W0 : World) (R : List HP) (b6 b9 b14 b7 b8 g pb ps pm who i f : Nat) (l : List Nat) (x : Im) (h : ImOk x) (ws : List Nat) (hw : who < 16) (hi : i < 8) (he : bB x.po who = f :: l) (ht : dV x.pg (i : Nat) = false) (hb : ∀ y ∈ ws, y < 4294967296) (hN : ws.length ≤ 128) :
  ao Tryz.prog W0 184 ([] ++ [.int .i64 i] ++ [.pointer (some ⟨b6, 0, none⟩), .pointer (some ⟨b9, 0, none⟩), .pointer (some ⟨b14, 0, none⟩), .pointer (some ⟨b7, 0, none⟩), .pointer (some ⟨b8, 0, none⟩)])
   (pt b6 (aj [.pointer (some ⟨pb, 0, none⟩)] 92) :: pt b9 (aj [.int .i64 who] 3) :: pt b14 (aj [.slice (some ⟨g, 0, none⟩) ws.length ws.length] 89) :: pt b7 (aj [.pointer (some ⟨ps, 0, none⟩)] 80) :: pt b8 (aj [.pointer (some ⟨pm, 0, none⟩)] 196) :: pt g (aj (ws.map wV) 42) :: cH pb (ps, x.po) :: bn ps x.fr :: pt pm (df x.pg) :: R)
   (fun v B => v = .int .i64 0 ∧ B = pt b6 (aj [.pointer (some ⟨pb, 0, none⟩)] 92) :: pt b9 (aj [.int .i64 who] 3) :: pt b14 (aj [.slice (some ⟨g, 0, none⟩) ws.length ws.length] 89) :: pt b7 (aj [.pointer (some ⟨ps, 0, none⟩)] 80) :: pt b8 (aj [.pointer (some ⟨pm, 0, none⟩)] 196) :: pt g (aj (ws.map wV) 42) :: cH pb (ps, (fI who ws x i).po) :: bn ps (fI who ws x i).fr :: pt pm (df (fI who ws x i).pg) :: R) := by
 have hf := gN.1 (show f ∈ bB x.po who by rw [he]; simp)
 have hpl := h.po.len
 have hst : fI who ws x i = ⟨eH f (cz ws i) 0 x.fr, x.po.set f ((who : Int), true), dY x.pg i ((f : Int), 3)⟩ := by rw [fI, he]
 rw [hst]
 have hpgb : ∀ y ∈ cz ws i, y < 4294967296 := fun y hy => hb y (List.mem_of_mem_drop (List.mem_of_mem_take hy))
 have hpl16 : (cz ws i).length ≤ 16 := by rw [cz, List.length_take]; omega
 simp only [List.nil_append, List.cons_append]
 refine aD Tryz.func184 Tryz.ntmps184 rfl rfl ?_
 refine au 9 ?_
 refine ae rfl (aM Tryz.call185 rfl (Ax W0 _ pb ps x.po who f l hw h.po he)) ?_
 rintro _ B_ ⟨rfl, hB_⟩
 obtain rfl := hB_.symm
 refine au 14 ?_
 refine ai rfl ?_ ?_
 ·intro c2
  exact absurd c2 (by decide)
 ·intro c2
  refine au 7 ?_
  refine ae rfl (aF Tryz.call186 rfl (BQ W0 _ (some ⟨g, 0, none⟩) ws.length ws.length i ws rfl (Nat.le_refl _) hi (by omega))) ?_
  rintro _ B_ ⟨rfl, hB_⟩
  obtain rfl := hB_.symm
  refine au 5 ?_
  refine ce (fun k : Nat => k ≤ (cz ws i).length) (fun k => [(0, .int .i64 i), (4, .pointer (some ⟨b7, 0, none⟩)), (5, .pointer (some ⟨b8, 0, none⟩)), (8, .int .i64 f), (23, .slice (g8 (some ⟨g, 0, none⟩) ws.length (fX ws.length i) 1) (cz ws i).length (ws.length - fX ws.length i)), (24, .int .i64 (cz ws i).length), (25, .int .i64 k)]) (fun k => pt b6 (aj [.pointer (some ⟨pb, 0, none⟩)] 92) :: pt b9 (aj [.int .i64 who] 3) :: pt b14 (aj [.slice (some ⟨g, 0, none⟩) ws.length ws.length] 89) :: pt b7 (aj [.pointer (some ⟨ps, 0, none⟩)] 80) :: pt b8 (aj [.pointer (some ⟨pm, 0, none⟩)] 196) :: pt g (aj (ws.map wV) 42) :: cH pb (ps, x.po.set f ((who : Int), true)) :: bn ps (eH f ((cz ws i).take k) 0 x.fr) :: pt pm (df x.pg) :: R) (fun k => (cz ws i).length - k) 0 ?_ ?_ ?_ ?_
  ·exact Nat.zero_le _
  ·repeat (first | exact aJ | refine aG rfl ?_)
  ·rw [show eH f ((cz ws i).take 0) 0 x.fr = x.fr from rfl]
   exact inferInstance
  ·intro k hk
   refine au 6 ?_
   refine ai rfl ?_ ?_
   ·intro c5
    refine au 5 ?_
    have hk1 : k < (cz ws i).length := by omega
    have hsl : bT (bu W0 (pt b6 (aj [.pointer (some ⟨pb, 0, none⟩)] 92) :: pt b9 (aj [.int .i64 who] 3) :: pt b14 (aj [.slice (some ⟨g, 0, none⟩) ws.length ws.length] 89) :: pt b7 (aj [.pointer (some ⟨ps, 0, none⟩)] 80) :: pt b8 (aj [.pointer (some ⟨pm, 0, none⟩)] 196) :: pt g (aj (ws.map wV) 42) :: cH pb (ps, x.po.set f ((who : Int), true)) :: bn ps (eH f ((cz ws i).take k) 0 x.fr) :: pt pm (df x.pg) :: R)) (some ⟨g, 0, none⟩) 1 ix ws := jA (b := g) rO (rP ws).symm
    obtain ⟨gb, go, hga, hc⟩ := (BR (i := i) hsl (Nat.le_refl _)).at_ hk1
    obtain ⟨y, hy⟩ : ∃ y, (cz ws i)[k] = y := ⟨_, rfl⟩
    rw [hy] at hc
    have hyb := hpgb _ (List.getElem_mem hk1)
    rw [hy] at hyb
    have htk : (cz ws i).take (k + 1) = (cz ws i).take k ++ [y] := by rw [← hy]; exact List.take_succ_eq_append_getElem hk1
    obtain ⟨hF, hFl⟩ := l8 (f := f) (l := (cz ws i).take k) (k := 0) h.fr
    have hs0 := qE f y ((cz ws i).take k) 0 x.fr
    rw [← htk, List.length_take, Nat.min_eq_left (by omega), Nat.zero_add] at hs0
    refine au 2 ?_
    refine aa rfl (di lO cg rfl hga rfl rfl hk1 (by first | exact Nat.zero_add _ | rfl)) ?_
    refine aa rfl (am eS rfl (hc 0 _ rfl)) ?_
    refine au 8 ?_
    refine aa rfl (i4 rfl rfl (by rw [aK (by omega)]; omega : IntKind.wrap .i64 (4 * (k : Int)) = ((4 * k : Nat) : Int))) ?_
    refine aa rfl (ag rfl) (ae rfl (aM yd rfl (uA W0 _ ps (eH f ((cz ws i).take k) 0 x.fr) f (4 * k : Nat) 4 y hyb hF)) ?_)
    rintro _ B_ ⟨rfl, hB_⟩
    obtain rfl := hB_.symm
    refine au 4 ?_
    refine aa rfl (bj rfl rfl (by first | exact aK (by omega) | rfl)) ?_
    refine au 3 ?_
    refine bU (k + 1) ?_ ?_ ?_ ?_
    ·omega
    ·omega
    ·repeat (first | exact aJ | refine aG rfl ?_)
    ·rw [hs0]
     exact inferInstance
   ·intro c5
    refine au 6 ?_
    obtain rfl : k = (cz ws i).length := by omega
    rw [List.take_of_length_le (Nat.le_refl _)]
    refine au 4 ?_
    refine aa rfl (bI jr iO (aA ar (aA ar bH)) (aS rfl ar rfl rfl (Nat.le_of_ble_eq_true rfl) SetL.eq (aS rfl ar rfl rfl (Nat.le_of_ble_eq_true rfl) SetL.eq bG))) ?_
    refine ae rfl (aM Tryz.call187 rfl (uD W0 _ pm x.pg h.pg i ((f : Int), 3))) ?_
    rintro _ B_ ⟨rfl, hB_⟩
    obtain rfl := hB_.symm
    refine au 4 ?_
    refine ah (.inl rfl) (.cons (ac rfl) .nil) ?_
    rw [BY hi (by omega) ht]
    exact ⟨_, ⟨rfl, rfl⟩, inferInstance⟩
theorem C0 (W0 : World) (R : List HP) (pb ps pm who n : Nat) (x : Im) (h : ImOk x) (h0 : 0 < x.fr.length) (a : Option Addr) (c : Nat) (ws : List Nat) (hw : who < 16) (h1 : 1 ≤ n) (h8 : n ≤ 8) (hf : kj x.pg 0 8) (hl : n ≤ (bB x.po who).length)
  (hs : ∀ A, Ent A R → bT (bu W0 A) a 1 ix ws) (hb : ∀ y ∈ ws, y < 4294967296) (hn : ws.length < 9223372036854775808) :
  ao Tryz.prog W0 77 [.pointer (some ⟨pb, 0, none⟩), .pointer (some ⟨ps, 0, none⟩), .pointer (some ⟨pm, 0, none⟩), .int .i64 who, .int .i64 n, .slice a ws.length c] (cH pb (ps, x.po) :: bn ps x.fr :: pt pm (df x.pg) :: R)
   (fun v B => v = .int .i64 0 ∧ B = cH pb (ps, (cD who (bA ws n) n x).po) :: bn ps (cD who (bA ws n) n x).fr :: pt pm (df (cD who (bA ws n) n x).pg) :: R) := by
 have hlen := mI ws n
 have hcb : ∀ y ∈ bA ws n, y < 4294967296 := fun y hy => hb y (List.mem_of_mem_take hy)
 have hok : ∀ i, ImOk (cD who (bA ws n) i x) := fun i => ki hw h
 have hfl : ∀ i, (cD who (bA ws n) i x).fr.length = x.fr.length := fun i => by
  induction i with
  | zero => rfl
  | succ i ih =>
   rw [cD, fI]
   split
   ·rw [(l8 (hok i).fr).2]; exact ih
   ·exact ih
 refine aD Tryz.func77 Tryz.ntmps77 rfl rfl ?_
 refine au 2 ?_
 refine ae rfl (jv rfl rfl) ?_
 rintro _ _ ⟨b6, rfl, rfl⟩
 refine ae rfl (jv rfl rfl) ?_
 rintro _ _ ⟨b7, rfl, rfl⟩
 refine ae rfl (jv rfl rfl) ?_
 rintro _ _ ⟨b8, rfl, rfl⟩
 refine ae rfl (jv rfl rfl) ?_
 rintro _ _ ⟨b9, rfl, rfl⟩
 refine au 11 ?_
 refine ae rfl (jX Tryz.call183 rfl (BX W0 _ pb ps pm who n x h h0 hw h1 h8 (fun i q1 q2 => hf i q1 (by omega)) hl)) ?_
 rintro _ B_ ⟨rfl, hB_⟩
 obtain rfl := hB_.symm
 refine au 9 ?_
 refine ai rfl ?_ ?_
 ·intro c2
  exact absurd c2 (by decide)
 ·intro c2
  refine au 6 ?_
  refine ae rfl (aF Tryz.call76 rfl (vY W0 _ a c n ws (hs _ inferInstance) h8 hn)) ?_
  rintro _ B_ ⟨g, rfl, hB_⟩
  obtain rfl := hB_.symm
  refine ae rfl (nF Tryz.zeroValue89 rfl) ?_
  rintro _ _ ⟨b14, rfl, rfl⟩
  refine b0 (bN np rfl rfl rfl (Nat.le_of_ble_eq_true rfl) SetL.eq) ?_
  rintro _ _ rfl
  refine au 4 ?_
  refine aa rfl (i7 rfl rfl) ?_
  refine au 11 ?_
  refine ce (fun i : Nat => i ≤ n) (fun i => [(15, .func (.func 184) #[] #[.pointer (some ⟨b6, 0, none⟩), .pointer (some ⟨b9, 0, none⟩), .pointer (some ⟨b14, 0, none⟩), .pointer (some ⟨b7, 0, none⟩), .pointer (some ⟨b8, 0, none⟩)]), (31, .int .i64 n), (32, .int .i64 i)]) (fun i => pt b6 (aj [.pointer (some ⟨pb, 0, none⟩)] 92) :: pt b9 (aj [.int .i64 who] 3) :: pt b14 (aj [.slice (some ⟨g, 0, none⟩) (bA ws n).length (bA ws n).length] 89) :: pt b7 (aj [.pointer (some ⟨ps, 0, none⟩)] 80) :: pt b8 (aj [.pointer (some ⟨pm, 0, none⟩)] 196) :: pt g (aj ((bA ws n).map wV) 42) :: cH pb (ps, (cD who (bA ws n) i x).po) :: bn ps (cD who (bA ws n) i x).fr :: pt pm (df (cD who (bA ws n) i x).pg) :: R) (fun i => n - i) 0 ?_ ?_ ?_ ?_
  ·exact Nat.zero_le _
  ·repeat (first | exact aJ | refine aG rfl ?_)
  ·rw [show cD who (bA ws n) 0 x = x from rfl]
   exact inferInstance
  ·intro i hi
   refine au 6 ?_
   refine ai rfl ?_ ?_
   ·intro c7
    refine au 11 ?_
    have hin : i < n := by omega
    have hfr := qF (who := who) (words := bA ws n) (x := x) i
    have hpg := (qG (who := who) (words := bA ws n) hf h.pg.len i (by omega)).1
    obtain ⟨f, l, he⟩ : ∃ f l, bB (cD who (bA ws n) i x).po who = f :: l := by
     cases e : bB (cD who (bA ws n) i x).po who with
     | nil => rw [e] at hfr; simp at hfr; omega
     | cons f l => exact ⟨f, l, rfl⟩
    refine au 3 ?_
    refine ae rfl (nT (us := []) (cs := [.pointer (some ⟨b6, 0, none⟩), .pointer (some ⟨b9, 0, none⟩), .pointer (some ⟨b14, 0, none⟩), .pointer (some ⟨b7, 0, none⟩), .pointer (some ⟨b8, 0, none⟩)]) rfl Tryz.call184 rfl (BZ W0 R b6 b9 b14 b7 b8 g pb ps pm who i f l (cD who (bA ws n) i x) (hok i) (bA ws n) hw (by omega) he (hpg i (Nat.le_refl _) (by omega)) hcb (by omega))) ?_
    rintro _ B_ ⟨rfl, hB_⟩
    obtain rfl := hB_.symm
    refine au 9 ?_
    refine ai rfl ?_ ?_
    ·intro c10
     exact absurd c10 (by decide)
    ·intro c10
     refine au 4 ?_
     refine aa rfl (bj rfl rfl (by first | exact aK (by omega) | rfl)) ?_
     refine au 3 ?_
     refine bU (i + 1) ?_ ?_ ?_ ?_
     ·omega
     ·omega
     ·repeat (first | exact aJ | refine aG rfl ?_)
     ·exact ent_refl
   ·intro c7
    refine au 11 ?_
    refine ah (.inl rfl) (.cons (ac rfl) .nil) ?_
    obtain rfl : i = n := by omega
    exact ⟨_, ⟨rfl, rfl⟩, inferInstance⟩
@[reducible] def f9 (x : Int × Bool) : List Value := [.int .i64 x.1]
@[reducible] def fa (x : Int × Bool) : List Value := [.bool x.2]
def cB (pb : Nat) (x : Nat × Po) : HP := chk (fun C => ∃ a c a2 c2, C = [pt pb (aj [.pointer (some ⟨x.1, 0, none⟩), .slice a x.2.length c, .slice a2 x.2.length c2] 321), osl 3 1 (.slice a x.2.length c) (x.2.flatMap f9), osl 4 1 (.slice a2 x.2.length c2) (x.2.flatMap fa)])
section
variable {P : Program} {W0 : World} {N : FSz} {K : Act → World → Prop} {e : bq} {A B R R1 R2 R3 : List HP} {pb ps n : Nat} {po : Po} {f : FuncId} {args : List Value} {Post : Value → List HP → Prop}
theorem mJ (po : Po) : (po.flatMap f9).length = po.length := by rw [cX (k := 1) (fun _ => rfl)]; omega
theorem mK (po : Po) : (po.flatMap fa).length = po.length := by rw [cX (k := 1) (fun _ => rfl)]; omega
theorem w0 [hk : Tk cB pb A (ps, po) R] (h : ∀ a c a2 c2, aE W0 N K e (pt pb (aj [.pointer (some ⟨ps, 0, none⟩), .slice a po.length c, .slice a2 po.length c2] 321) :: osl 3 1 (.slice a po.length c) (po.flatMap f9) :: osl 4 1 (.slice a2 po.length c2) (po.flatMap fa) :: R)) : aE W0 N K e A :=
 dP (r := cB) (b := pb) (iU fun C hC => by obtain ⟨a, c, a2, c2, rfl⟩ := hC; exact h a c a2 c2)
theorem w3 {a a2 : Option Addr} {c c2 n2 : Nat} {xs ys : List Value} [h1 : Tk pt pb A (aj [.pointer (some ⟨ps, 0, none⟩), .slice a n c, .slice a2 n2 c2] 321) R1] [h2 : Tk (osl 3 1) (.slice a n c) R1 xs R2] [h3 : Tk (osl 4 1) (.slice a2 n2 c2) R2 ys R3]
  (hn : n = po.length) (hn2 : n2 = po.length) (hx : xs = po.flatMap f9) (hy : ys = po.flatMap fa) [k : Ent R3 B] : Ent A (cB pb (ps, po) :: B) := by
 subst hn; subst hn2; subst hx; subst hy
 exact (Ent.ofPerm (h1.perm.trans ((h2.perm.trans (h3.perm.cons _)).cons _))).trans ((Ent.cons (Ent.cons (Ent.cons k))).trans (eF (R := B) (C := [_, _, _]) ⟨a, c, a2, c2, rfl⟩))
theorem rR [hk : Tk cB pb A (ps, po) R] (h0 : 0 < po.length) (h : ∀ g c g2 c2 sp sp2, po.length ≤ c → c ≤ maxLen → (po.flatMap f9 ++ sp).length = c * 1 → po.length ≤ c2 → c2 ≤ maxLen → (po.flatMap fa ++ sp2).length = c2 * 1 →
  aE W0 N K e (pt pb (aj [.pointer (some ⟨ps, 0, none⟩), .slice (some ⟨g, 0, none⟩) po.length c, .slice (some ⟨g2, 0, none⟩) po.length c2] 321) :: pt g (aj (po.flatMap f9 ++ sp) 3) :: pt g2 (aj (po.flatMap fa ++ sp2) 4) :: R)) : aE W0 N K e A := by
 refine w0 (pb := pb) fun a c a2 c2 => ?_
 refine dP (r := osl 3 1) (b := .slice a po.length c) ?_
 refine gr (fun h1 h2 => by have := congrArg List.length h2; rw [mJ, List.length_nil] at this; omega) fun g n cap sp h1 h2 h3 h4 h5 => ?_
 cases h1
 refine dP (r := osl 4 1) (b := .slice a2 po.length c2) ?_
 refine gr (fun h1 h2 => by have := congrArg List.length h2; rw [mK, List.length_nil] at this; omega) fun g2 n2 cap2 sp2 k1 k2 k3 k4 k5 => ?_
 cases k1
 exact eN inferInstance (h g c g2 c2 sp sp2 h2 h3 h5 k2 k3 k5)
theorem j0 {g g2 c c2 n2 : Nat} {xs ys sp sp2 : List Value} [h1 : Tk pt pb A (aj [.pointer (some ⟨ps, 0, none⟩), .slice (some ⟨g, 0, none⟩) n c, .slice (some ⟨g2, 0, none⟩) n2 c2] 321) R1] [h2 : Tk pt g R1 (aj (xs ++ sp) 3) R2] [h3 : Tk pt g2 R2 (aj (ys ++ sp2) 4) R3]
  (hn : n = po.length) (hn2 : n2 = po.length) (hx : xs = po.flatMap f9) (hy : ys = po.flatMap fa) (a1 : n ≤ c) (a2 : c ≤ maxLen) (a3 : (xs ++ sp).length = c * 1) (b1 : n2 ≤ c2) (b2 : c2 ≤ maxLen) (b3 : (ys ++ sp2).length = c2 * 1) [k : Ent R3 B] : Ent A (cB pb (ps, po) :: B) := by
 have e3 : Ent R2 (osl 4 1 (.slice (some ⟨g2, 0, none⟩) n2 c2) ys :: B) := eP b1 b2 (by rw [hy, mK, hn2]; omega) b3
 have e2 : Ent R1 (osl 3 1 (.slice (some ⟨g, 0, none⟩) n c) xs :: osl 4 1 (.slice (some ⟨g2, 0, none⟩) n2 c2) ys :: B) := eP (k := e3) a1 a2 (by rw [hx, mJ, hn]; omega) a3
 refine (Ent.ofPerm h1.perm).trans ((Ent.cons e2).trans ?_)
 exact w3 hn hn2 hx hy
end
theorem oH {po : Po} {sp : List Value} {i : Nat} (hi : i < po.length) : (po.flatMap f9 ++ sp)[i * 1]? = some (.int .i64 (cC po i).1) := by
 have := jf (f := f9) (k := 1) (fun _ => rfl) po i 0 sp hi (by decide)
 rw [Nat.add_zero] at this
 rw [this]; simp [f9, cC, List.getD, hi]
theorem rS {po : Po} {sp : List Value} {i : Nat} (hi : i < po.length) : (po.flatMap fa ++ sp)[i * 1]? = some (.bool (cC po i).2) := by
 have := jf (f := fa) (k := 1) (fun _ => rfl) po i 0 sp hi (by decide)
 rw [Nat.add_zero] at this
 rw [this]; simp [fa, cC, List.getD, hi]
theorem w4 {po : Po} {sp : List Value} {i : Nat} {v : Int} {t : Bool} (hi : i < po.length) : (po.flatMap f9 ++ sp).set (i * 1) (.int .i64 v) = (po.set i (v, t)).flatMap f9 ++ sp := by
 have := mb (f := f9) (k := 1) (fun _ => rfl) po i 0 (.int .i64 v) (v, t) sp hi (by decide) (by simp [f9])
 rwa [Nat.add_zero] at this
theorem w5 {po : Po} {sp : List Value} {i : Nat} {v : Int} {t : Bool} (hi : i < po.length) : (po.flatMap fa ++ sp).set (i * 1) (.bool t) = (po.set i (v, t)).flatMap fa ++ sp := by
 have := mb (f := fa) (k := 1) (fun _ => rfl) po i 0 (.bool t) (v, t) sp hi (by decide) (by simp [fa])
 rwa [Nat.add_zero] at this
theorem C1 {po : Po} {i : Nat} {t : Bool} (hi : i < po.length) : (po.set i ((cC po i).1, t)).flatMap f9 = po.flatMap f9 := by
 have h := w4 (po := po) (sp := []) (i := i) (v := (cC po i).1) (t := t) hi
 rw [List.append_nil, List.append_nil, Nat.mul_one] at h
 rw [← h]
 refine qY ?_
 have := oH (po := po) (sp := []) hi
 rwa [List.append_nil, Nat.mul_one] at this
theorem C2 {po : Po} {i : Nat} {v : Int} (hi : i < po.length) : (po.set i (v, (cC po i).2)).flatMap fa = po.flatMap fa := by
 have h := w5 (po := po) (sp := []) (i := i) (v := v) (t := (cC po i).2) hi
 rw [List.append_nil, List.append_nil, Nat.mul_one] at h
 rw [← h]
 refine qY ?_
 have := rS (po := po) (sp := []) hi
 rwa [List.append_nil, Nat.mul_one] at this
theorem C3 (W0 : World) (R : List HP) (qs : Nat) (fr : List bJ) (f : Nat) (hf : f < fr.length) :
  ao Tryz.prog W0 176 [.pointer (some ⟨qs, 0, none⟩), .int .i64 f] (cq qs fr :: R) (fun v B => v = .int .i64 0 ∧ B = cq qs (fr.set f bi) :: R) := by
 have hi : d7 fr.length f = true := by simp only [d7, decide_eq_true_eq]; omega
 refine aD Tryz.func176 Tryz.ntmps176 rfl rfl ?_
 refine au 10 ?_
 refine ae rfl (aM pF rfl (mF W0 _ qs fr f)) ?_
 rintro _ B_ ⟨rfl, hB_⟩
 obtain rfl := hB_.symm
 refine au 3 ?_
 refine ai rfl ?_ ?_
 ·intro c1
  exact absurd c1 (by simp [hi])
 ·intro c1
  refine au 3 ?_
  refine rJ (qs := qs) hf fun a c vs vi hv hvi => ?_
  refine lr (E := 148) (sz := 1) (v := .slice a fr.length c) (fun h1 h2 => by have := (Value.slice.inj h1).2.1; omega) fun g n c' sp h1 h2 h3 h4 h5 => ?_
  cases h1
  refine bR [(qs, 0, _)] 8 bQ rfl (aC aB) (fun hS => ?_)
  refine ab 0 rfl rfl rfl hS (ag rfl) ?_
  refine ab 1 rfl rfl rfl hS (aU rfl) ?_
  refine ab 2 rfl rfl rfl hS (ap rfl jq rfl iA rfl (by first | exact Nat.zero_add _ | rfl)) ?_
  refine ab 3 rfl rfl rfl hS (am kE rfl (av (k := 0) rfl rfl)) ?_
  refine ab 4 rfl rfl rfl hS (ag rfl) ?_
  refine aW 5 (by kernel_rfl) rfl rfl (mi (sz := 1) (by_ := 1) (info := Tryz.t5) gD (by kernel_rfl) rfl rfl rfl rfl (by decide) rfl rfl rfl rfl (by decide) (by decide)) rfl ?_; clear hS
  rintro _ _ ⟨g3, rfl, rfl⟩
  refine ⟨(aC aB), fun hS => ?_⟩
  refine ab 6 rfl rfl rfl hS (bM ja jS rfl rfl rfl hf (by first | exact Nat.zero_add _ | rfl)) ?_
  refine aW 7 (by kernel_rfl) rfl rfl (bN jS rfl rfl rfl (by rw [List.length_append]; omega) (by rw [Nat.mul_one, List.set_append_left _ _ (by omega)])) rfl ?_; clear hS
  rintro _ _ rfl
  refine ⟨(aC aB), fun hS => ?_⟩
  refine bz (by kernel_rfl) ?_; clear hS
  refine au 7 ?_
  refine ah (.inl rfl) (.cons (ac rfl) .nil) ?_
  exact ⟨_, ⟨rfl, rfl⟩, rK (vs := vs) (vi := .slice (some ⟨g3, 0, none⟩) 64 64) (y := bi) (sp2 := []) rfl rfl rfl hv rfl hf h2 h3 (by rw [← h5]; simp) (by decide) (by decide) rfl rfl⟩
theorem C4 (n : Nat) : (List.replicate n ((-1 : Int), false)).flatMap f9 ++ [[Value.int .i64 (-1)]].flatten = (List.replicate (n + 1) ((-1 : Int), false)).flatMap f9 := by
 rw [List.replicate_succ', List.flatMap_append]; rfl
theorem C5 (n : Nat) : (List.replicate n ((-1 : Int), false)).flatMap fa ++ [[Value.bool false]].flatten = (List.replicate (n + 1) ((-1 : Int), false)).flatMap fa := by
 rw [List.replicate_succ', List.flatMap_append]; rfl
section
variable {A B R R2 : List HP} {qs n c : Nat} {a : Option Addr} {fr : List bJ} {vs : List Value}
theorem w6 {x : HP} (hv : vs.length = fr.length) : Ent (pt qs (aj [.slice a fr.length c] 182) :: osl 148 1 (.slice a fr.length c) vs :: ((vs.zip fr).map dL ++ (x :: R))) (cq qs fr :: x :: R) := kv (vs := vs) hv rfl
theorem C6 {x : HP} (hv : vs.length = fr.length) : Ent (pt qs (aj [.slice a fr.length c] 182) :: osl 148 1 (.slice a fr.length c) vs :: ((vs.zip fr).map dL ++ (x :: R))) (x :: cq qs fr :: R) := (w6 hv).trans (Ent.ofPerm (List.Perm.swap _ _ _))
end
theorem C7 {B : List HP} {pb ps : Nat} : Ent (pt pb (aj [.pointer (some ⟨ps, 0, none⟩), cZ, cZ] 321) :: B) (cB pb (ps, []) :: B) :=
 (Ent.cons (fj (E := 3) (sz := 1) (k := fj (E := 4) (sz := 1) (A := B) (B := B)))).trans (eF (R := B) (C := [_, _, _]) ⟨none, 0, none, 0, rfl⟩)
theorem C8 (W0 : World) (R : List HP) (qs : Nat) (fr : List bJ) (h0 : 0 < fr.length) (h32 : fr.length ≤ 32) :
  ao Tryz.prog W0 67 [.pointer (some ⟨qs, 0, none⟩)] (cq qs fr :: R)
   (fun v B => ∃ pb, v = .tuple #[.pointer (some ⟨pb, 0, none⟩), .int .i64 0] ∧ B = cB pb (qs, List.replicate fr.length (-1, false)) :: cq qs fr :: R) := by
 refine aD Tryz.func67 Tryz.ntmps67 rfl rfl ?_
 refine au 8 ?_
 refine ku (qs := qs) fun a c vs hv => ?_
 refine au 4 ?_
 refine aZ rfl rfl rfl ?_ ?_
 ·intro g1_3
  cases g1_3
 ·intro g1_3
  refine au 14 ?_
  refine ai rfl ?_ ?_
  ·intro c1
   omega
  ·intro c1
   refine au 5 ?_
   refine aa rfl (bI Ft Tryz.zeroValue321 (aA jP (aA eM (aA xN bH))) (aS rfl jP rfl rfl (Nat.le_of_ble_eq_true rfl) SetL.eq bG)) ?_
   refine ae rfl (bw rfl) ?_
   rintro _ _ ⟨pb, rfl, rfl⟩
   refine au 10 ?_
   refine ce (fun X : Nat => X ≤ fr.length) (fun X => [(0, .pointer (some ⟨qs, 0, none⟩)), (4, .pointer (some ⟨pb, 0, none⟩)), (5, .int .i64 X)]) (fun X => cB pb (qs, List.replicate X (-1, false)) :: cq qs fr :: R) (fun X => fr.length - X) 0 ?_ ?_ ?_ ?_
   ·exact Nat.zero_le _
   ·repeat (first | exact aJ | refine aG rfl ?_)
   ·exact (Ent.cons (kv (vs := vs) hv rfl)).trans C7
   ·intro i hi
    refine au 2 ?_
    refine ku (qs := qs) fun a c vs hv => ?_
    refine au 10 ?_
    refine ai rfl ?_ ?_
    ·intro c5
     refine au 5 ?_
     refine eN (B := cq qs fr :: cB pb (qs, List.replicate i (-1, false)) :: R) (w6 hv) ?_
     refine w0 (pb := pb) fun a c a2 c2 => ?_
     refine au 6 ?_
     refine ae rfl (g6 dF ar lP rfl rfl rfl rfl rfl (by decide) (by decide)) ?_
     rintro _ _ ⟨b2, rfl, rfl⟩
     refine ae rfl (dy (sz := 1) (by_ := 8) (info := Tryz.t3) dF (by kernel_rfl) rfl rfl rfl rfl (by decide) rfl rfl dz rfl rfl (by simp only [maxLen, List.length_replicate]; omega) (by rw [List.length_replicate]; omega)) ?_
     rintro _ _ ⟨a3, c3, rfl, rfl⟩
     refine au 2 ?_
     refine b0 (bN eM rfl rfl rfl (Nat.le_of_ble_eq_true rfl) SetL.eq) ?_
     rintro _ _ rfl
     refine au 8 ?_
     refine ae rfl (g6 mY cu Tryz.zeroValue4 rfl rfl rfl rfl rfl (by decide) (by decide)) ?_
     rintro _ _ ⟨b3, rfl, rfl⟩
     refine ae rfl (dy (sz := 1) (by_ := 1) (info := Tryz.t4) mY (by kernel_rfl) rfl rfl rfl rfl (by decide) rfl rfl dz rfl rfl (by simp only [maxLen, List.length_replicate]; omega) (by rw [List.length_replicate]; omega)) ?_
     rintro _ _ ⟨a4, c4, rfl, rfl⟩
     refine au 2 ?_
     refine b0 (bN xN rfl rfl rfl (Nat.le_of_ble_eq_true rfl) SetL.eq) ?_
     rintro _ _ rfl
     refine au 5 ?_
     refine aa rfl (bj rfl rfl (by first | exact aK (by omega) | rfl)) ?_
     refine au 3 ?_
     refine bU (i + 1) ?_ ?_ ?_ ?_
     ·omega
     ·omega
     ·repeat (first | exact aJ | refine aG rfl ?_)
     ·exact w3 (by simp) (by simp) (C4 i) (C5 i)
    ·intro c5
     refine au 13 ?_
     refine ah (.inl rfl) (.cons (ac rfl) (.cons (ac rfl) .nil)) ?_
     obtain rfl : i = fr.length := by omega
     exact ⟨_, ⟨pb, rfl, rfl⟩, C6 hv⟩
theorem C9 {po : Po} {sp : List Value} {i : Nat} (hi : i < po.length) : i * 1 + 1 ≤ (po.flatMap f9 ++ sp).length := by rw [List.length_append, mJ]; omega
theorem Ca {po : Po} {sp : List Value} {i : Nat} (hi : i < po.length) : i * 1 + 1 ≤ (po.flatMap fa ++ sp).length := by rw [List.length_append, mK]; omega
theorem Cb (W0 : World) (R : List HP) (pb qs : Nat) (po : Po) (fr : List bJ) (f w : Nat) (hf : f < po.length) (hff : f < fr.length) (hw : w < 16) (ha : cC po f = (-1, false)) :
  ao Tryz.prog W0 69 [.pointer (some ⟨pb, 0, none⟩), .int .i64 f, .int .i64 w] (cB pb (qs, po) :: cq qs fr :: R)
   (fun v B => v = .int .i64 0 ∧ B = cB pb (qs, po.set f ((w : Int), false)) :: cq qs (fr.set f bi) :: R) := by
 have hi : d7 fr.length f = true := by simp only [d7, decide_eq_true_eq]; omega
 have hts : (po.set f ((w : Int), false)).flatMap fa = po.flatMap fa := by
  have := C2 (po := po) (i := f) (v := (w : Int)) hf
  rwa [ha] at this
 refine aD Tryz.func69 Tryz.ntmps69 rfl rfl ?_
 refine au 7 ?_
 refine rR (pb := pb) (by omega) fun g c g2 c2 sp sp2 h1 h2 h3 k1 k2 k3 => ?_
 refine au 6 ?_
 refine ae rfl (aM pF rfl (mF W0 _ qs fr f)) ?_
 rintro _ B_ ⟨rfl, hB_⟩
 obtain rfl := hB_.symm
 refine au 2 ?_
 refine aZ rfl rfl rfl ?_ ?_
 ·intro g1_8
  exact absurd g1_8 (by simp [hi])
 ·intro g1_8
  refine au 5 ?_
  refine aZ rfl rfl rfl ?_ ?_
  ·intro g1_12
   omega
  ·intro g1_12
   refine au 6 ?_
   refine ai rfl ?_ ?_
   ·intro c1
    omega
   ·intro c1
    refine au 10 ?_
    refine aa rfl (bM dF ar rfl rfl rfl hf (by first | exact Nat.zero_add _ | rfl)) ?_
    refine aa rfl (am aT rfl (aH (oH hf))) ?_
    refine au 3 ?_
    refine ai rfl ?_ ?_
    ·intro c3
     exact absurd c3 (by rw [ha]; decide)
    ·intro c3
     refine au 10 ?_
     refine aa rfl (bM dF ar rfl rfl rfl hf (by first | exact Nat.zero_add _ | rfl)) ?_
     refine b0 (bN ar rfl rfl rfl (C9 hf) (w4 (t := false) hf)) ?_
     rintro _ _ rfl
     refine au 9 ?_
     refine ae rfl (aM Tryz.call176 rfl (C3 W0 _ qs fr f hff)) ?_
     rintro _ B_ ⟨rfl, hB_⟩
     obtain rfl := hB_.symm
     refine au 8 ?_
     refine ah (.inl rfl) (.cons (ac rfl) .nil) ?_
     exact ⟨_, ⟨rfl, rfl⟩, j0 (by simp) (by simp) rfl hts.symm h1 h2 (by rw [List.length_append, mJ, List.length_set, ← mJ, ← List.length_append]; exact h3) k1 k2 k3⟩
def ia (po : Po) (w : Int) (k : Nat) : Nat := ((List.range k).filter fun f => decide (cC po f = (w, false))).length
theorem w7 (po : Po) (w : Nat) : ia po w po.length = (bB po w).length := by
 rw [ia, bB]; congr 2; funext f; rw [Bool.eq_iff_iff, decide_eq_true_iff, beq_iff_eq]
theorem Cc (po : Po) (w : Int) (k : Nat) : ia po w (k + 1) = ia po w k + if cC po k = (w, false) then 1 else 0 := by
 rw [ia, List.range_succ, List.filter_append, List.length_append, ia]
 congr 1
 by_cases h : cC po k = (w, false)
 ·simp [h]
 ·simp [h]
theorem Cd (po : Po) (w : Int) (k : Nat) : ia po w k ≤ k := by
 have := List.length_filter_le (fun f => decide (cC po f = (w, false))) (List.range k)
 rwa [List.length_range] at this
theorem Ce (W0 : World) (R : List HP) (pb qs : Nat) (po : Po) (w : Nat) (h0 : 0 < po.length) (h32 : po.length ≤ 32) :
  ao Tryz.prog W0 289 [.pointer (some ⟨pb, 0, none⟩), .int .i64 w] (cB pb (qs, po) :: R) (fun v B => v = .int .i64 ((bB po w).length : Nat) ∧ B = cB pb (qs, po) :: R) := by
 refine aD Tryz.func289 Tryz.ntmps289 rfl rfl ?_
 refine au 17 ?_
 refine ce (fun i : Nat => i ≤ po.length) (fun i => [(0, .pointer (some ⟨pb, 0, none⟩)), (1, .int .i64 w), (5, .int .i64 (ia po w i : Nat)), (6, .int .i64 i)]) (fun _ => cB pb (qs, po) :: R) (fun i => po.length - i) 0 ?_ ?_ ?_ ?_
 ·exact Nat.zero_le _
 ·repeat (first | exact aJ | refine aG rfl ?_)
 ·exact inferInstance
 ·intro i hi
  refine rR (pb := pb) (by omega) fun g c g2 c2 sp sp2 h1 h2 h3 k1 k2 k3 => ?_
  have hle := Cd po w i
  refine au 11 ?_
  refine bX rfl rfl rfl ?_ ?_
  ·intro g3_8
   refine au 16 ?_
   refine ai rfl ?_ ?_
   ·intro c3
    refine au 2 ?_
    refine gn (fun n : Nat => n = ia po w (i + 1) ∧ i < po.length) (fun n => [(0, .pointer (some ⟨pb, 0, none⟩)), (1, .int .i64 w), (5, .int .i64 n), (6, .int .i64 i)]) (fun _ => cB pb (qs, po) :: R) ?_ ?_
    ·skip
     refine au 2 ?_
     have hi1 : i < po.length := by omega
     have hs := Cc po w i
     refine au 6 ?_
     refine aa rfl (bM dF ar rfl rfl rfl hi1 (by first | exact Nat.zero_add _ | rfl)) ?_
     refine aa rfl (am aT rfl (aH (oH hi1))) ?_
     refine au 3 ?_
     refine bX rfl rfl rfl ?_ ?_
     ·intro g5_10
      refine au 5 ?_
      refine bX rfl rfl rfl ?_ ?_
      ·intro g5_14
       refine au 10 ?_
       refine aa rfl (bM mY cu rfl rfl rfl hi1 (by first | exact Nat.zero_add _ | rfl)) ?_
       refine aY rfl rfl (aa rfl (am j6 rfl (aH (rS hi1))) ?_)
       refine au 5 ?_
       refine ai rfl ?_ ?_
       ·intro c5
        refine au 2 ?_
        refine aa rfl (bj rfl rfl (aK (by omega))) ?_
        refine au 4 ?_
        refine d8 (ia po w i + 1) ?_ ?_ ?_
        ·refine ⟨?_, hi1⟩
         rw [hs, if_pos (by rw [show cC po i = ((cC po i).1, (cC po i).2) from rfl]; first | (congr 1; simp_all; done) | (rw [Prod.mk.injEq]; simp_all))]
        ·repeat (first | exact aJ | refine aG rfl ?_)
        ·exact j0 rfl rfl rfl rfl h1 h2 h3 k1 k2 k3
       ·intro c5
        refine au 3 ?_
        refine d8 (ia po w i) ?_ ?_ ?_
        ·refine ⟨?_, hi1⟩
         rw [hs, if_neg (by intro q; have q1 := congrArg Prod.fst q; have q2 := congrArg Prod.snd q; simp_all)]; rfl
        ·repeat (first | exact aJ | refine aG rfl ?_)
        ·exact j0 rfl rfl rfl rfl h1 h2 h3 k1 k2 k3
      ·intro g5_14
       refine au 14 ?_
       refine d8 (ia po w i) ?_ ?_ ?_
       ·refine ⟨?_, hi1⟩
        rw [hs, if_neg (by intro q; have q1 := congrArg Prod.fst q; have q2 := congrArg Prod.snd q; simp_all)]; rfl
       ·repeat (first | exact aJ | refine aG rfl ?_)
       ·exact j0 rfl rfl rfl rfl h1 h2 h3 k1 k2 k3
     ·intro g5_10
      refine au 18 ?_
      refine d8 (ia po w i) ?_ ?_ ?_
      ·refine ⟨?_, hi1⟩
       rw [hs, if_neg (by intro q; have q1 := congrArg Prod.fst q; have q2 := congrArg Prod.snd q; simp_all)]; rfl
      ·repeat (first | exact aJ | refine aG rfl ?_)
      ·exact j0 rfl rfl rfl rfl h1 h2 h3 k1 k2 k3
    ·intro n ⟨hn, hi1⟩
     subst hn
     refine au 2 ?_
     refine aa rfl (bj rfl rfl (aK (by omega))) ?_
     refine au 3 ?_
     refine bU (i + 1) ?_ ?_ ?_ ?_
     ·omega
     ·omega
     ·repeat (first | exact aJ | refine aG rfl ?_)
     ·exact inferInstance
   ·intro c3
    refine au 12 ?_
    refine ah (.inl rfl) (.cons (ac rfl) .nil) ?_
    obtain rfl : i = po.length := by omega
    rw [w7]
    exact ⟨_, ⟨rfl, rfl⟩, j0 rfl rfl rfl rfl h1 h2 h3 k1 k2 k3⟩
  ·intro g3_8
   refine au 22 ?_
   refine ah (.inl rfl) (.cons (ac rfl) .nil) ?_
   obtain rfl : i = po.length := by omega
   rw [w7]
   exact ⟨_, ⟨rfl, rfl⟩, j0 rfl rfl rfl rfl h1 h2 h3 k1 k2 k3⟩
theorem Cf (W0 : World) (R : List HP) (pb qs : Nat) (po : Po) (w f : Nat) (l : List Nat) (hw : w < 16) (h32 : po.length ≤ 32) (he : bB po w = f :: l) :
  ao Tryz.prog W0 291 [.pointer (some ⟨pb, 0, none⟩), .int .i64 w] (cB pb (qs, po) :: R)
   (fun v B => v = .tuple #[.int .i64 f, .int .i64 0] ∧ B = cB pb (qs, po.set f ((w : Int), true)) :: R) := by
 have hf := gN.1 (show f ∈ bB po w by rw [he]; simp)
 have hlow : ∀ j, j < f → cC po j ≠ ((w : Int), false) := fun j hj q => by
  have hm := gN.2 ⟨by have := hf.1; omega, q⟩
  have hs := o8 po w
  rw [he] at hm hs
  rw [List.pairwise_cons] at hs
  rcases List.mem_cons.1 hm with k | k
  ·omega
  ·have := hs.1 j k; omega
 have hws : (po.set f ((w : Int), true)).flatMap f9 = po.flatMap f9 := by
  have := C1 (po := po) (i := f) (t := true) hf.1
  rwa [hf.2] at this
 refine aD Tryz.func291 Tryz.ntmps291 rfl rfl ?_
 refine au 12 ?_
 refine aZ rfl rfl rfl ?_ ?_
 ·intro g1_3
  omega
 ·intro g1_3
  refine au 6 ?_
  refine ai rfl ?_ ?_
  ·intro c1
   omega
  ·intro c1
   refine au 9 ?_
   refine ce (fun i : Nat => i ≤ f) (fun i => [(0, .pointer (some ⟨pb, 0, none⟩)), (1, .int .i64 w), (6, .int .i64 i)]) (fun _ => cB pb (qs, po) :: R) (fun i => po.length - i) 0 ?_ ?_ ?_ ?_
   ·exact Nat.zero_le _
   ·repeat (first | exact aJ | refine aG rfl ?_)
   ·exact inferInstance
   ·intro i hi
    have hfl := hf.1
    refine rR (pb := pb) (by omega) fun g c g2 c2 sp sp2 h1 h2 h3 k1 k2 k3 => ?_
    refine au 11 ?_
    refine bX rfl rfl rfl ?_ ?_
    ·intro g4_8
     refine au 16 ?_
     refine ai rfl ?_ ?_
     ·intro c4
      refine au 5 ?_
      have hi1 : i < po.length := by omega
      refine au 6 ?_
      refine aa rfl (bM dF ar rfl rfl rfl hi1 (by first | exact Nat.zero_add _ | rfl)) ?_
      refine aa rfl (am aT rfl (aH (oH hi1))) ?_
      refine au 3 ?_
      refine bX rfl rfl rfl ?_ ?_
      ·intro g6_10
       refine au 10 ?_
       refine aa rfl (bM mY cu rfl rfl rfl hi1 (by first | exact Nat.zero_add _ | rfl)) ?_
       refine aY rfl rfl (aa rfl (am j6 rfl (aH (rS hi1))) ?_)
       refine au 5 ?_
       refine ai rfl ?_ ?_
       ·intro c6
        refine al ?_
        have hif : i = f := by
         rcases Nat.lt_or_ge i f with q | q
         ·exact absurd (by rw [Prod.ext_iff]; constructor <;> simp_all) (hlow i q)
         ·omega
        subst hif
        refine au 6 ?_
        refine aa rfl (bM mY cu rfl rfl rfl hi1 (by first | exact Nat.zero_add _ | rfl)) ?_
        refine b0 (bN cu rfl rfl rfl (Ca hi1) (w5 (v := (w : Int)) hi1)) ?_
        rintro _ _ rfl
        refine au 15 ?_
        refine ah (.inl rfl) (.cons (ac rfl) (.cons (ac rfl) .nil)) ?_
        exact ⟨_, ⟨rfl, rfl⟩, j0 (by simp) (by simp) hws.symm rfl h1 h2 h3 k1 k2 (by rw [List.length_append, mK, List.length_set, ← mK, ← List.length_append]; exact k3)⟩
       ·intro c6
        refine au 3 ?_
        have hne : i ≠ f := by
         intro q; subst q
         have q1 := congrArg Prod.fst hf.2
         have q2 := congrArg Prod.snd hf.2
         simp_all
        refine au 2 ?_
        refine aa rfl (bj rfl rfl (aK (by omega))) ?_
        refine au 3 ?_
        refine bU (i + 1) ?_ ?_ ?_ ?_
        ·show i + 1 ≤ f; omega
        ·omega
        ·repeat (first | exact aJ | refine aG rfl ?_)
        ·exact j0 rfl rfl rfl rfl h1 h2 h3 k1 k2 k3
      ·intro g6_10
       refine au 14 ?_
       have hne : i ≠ f := by
        intro q; subst q
        have q1 := congrArg Prod.fst hf.2
        have q2 := congrArg Prod.snd hf.2
        simp_all
       refine au 2 ?_
       refine aa rfl (bj rfl rfl (aK (by omega))) ?_
       refine au 3 ?_
       refine bU (i + 1) ?_ ?_ ?_ ?_
       ·show i + 1 ≤ f; omega
       ·omega
       ·repeat (first | exact aJ | refine aG rfl ?_)
       ·exact j0 rfl rfl rfl rfl h1 h2 h3 k1 k2 k3
     ·intro c4
      refine au 12 ?_
      refine ah (.inl rfl) (.cons (ac rfl) (.cons (ac rfl) .nil)) ?_
      exfalso; omega
    ·intro g4_8
     refine au 22 ?_
     refine ah (.inl rfl) (.cons (ac rfl) (.cons (ac rfl) .nil)) ?_
     exfalso; omega
theorem Cg (W0 : World) (R : List HP) (a : Option Addr) (c p : Nat) (ws : List Nat) (h1 : 1 ≤ p) (hp : p ≤ 8) (hn : ws.length < 9223372036854775808) (hc : ws.length ≤ c) :
  ao Tryz.prog W0 290 [.slice a ws.length c, .int .i64 p] R (fun v B => v = .slice a (bA ws p).length c ∧ B = R) := by
 have hl := mI ws p
 refine aD Tryz.func290 Tryz.ntmps290 rfl rfl ?_
 refine au 12 ?_
 refine ai rfl ?_ ?_
 ·intro c1
  omega
 ·intro c1
  refine au 5 ?_
  refine aa rfl (mj rfl rfl (vX hp)) ?_
  refine aa rfl (i4 rfl rfl (by rw [aK (by omega)]; omega : IntKind.wrap .i64 (16 * (p : Int)) = ((16 * p : Nat) : Int))) ?_
  refine au 9 ?_
  refine aa rfl (mj rfl rfl (rQ (16 * p) ws.length)) ?_
  refine aa rfl (kb lO cg rfl rfl (h := min (16 * p) ws.length) rfl (by omega)) ?_
  refine au 4 ?_
  refine ah (.inl rfl) (.cons (ac rfl) .nil) ?_
  rw [hl]
  exact ⟨_, ⟨rfl, rfl⟩, inferInstance⟩
theorem Ch {ws : List Nat} {i k : Nat} (hk : k < 16) : (cz ws i)[k]? = ws[16 * i + k]? := by
 rw [cz, List.getElem?_take_of_lt hk, List.getElem?_drop]
theorem Ci {f : Nat} {ws : List Nat} {i k : Nat} (hk : k < 16) (fr : List bJ) : eH f ((cz ws i).take (k + 1)) 0 fr = match ws[16 * i + k]? with | some y => eG (eH f ((cz ws i).take k) 0 fr) f (4 * k : Nat) 4 y | none => eH f ((cz ws i).take k) 0 fr := by
 have hg := Ch (ws := ws) (i := i) hk
 cases e : ws[16 * i + k]? with
 | none =>
  rw [e] at hg
  have := List.getElem?_eq_none_iff.1 hg
  rw [List.take_of_length_le (by omega), List.take_of_length_le this]
 | some y =>
  rw [e] at hg
  obtain ⟨hlt, hy⟩ := List.getElem?_eq_some_iff.1 hg
  rw [List.take_succ_eq_append_getElem hlt, hy, qE, List.length_take, Nat.min_eq_left (by omega), Nat.zero_add]
theorem Cj (W0 : World) (R : List HP) (pb qs pm who n : Nat) (x : Im) (h : ImOk x) (h0 : 0 < x.fr.length) (a : Option Addr) (c : Nat) (ws : List Nat) (hw : who < 16) (h1 : 1 ≤ n) (h8 : n ≤ 8) (hf : kj x.pg 0 8) (hl : n ≤ (bB x.po who).length)
  (hs : ∀ A, Ent A R → bT (bu W0 A) a 1 ix ws) (hb : ∀ y ∈ ws, y < 4294967296) (hn : ws.length < 9223372036854775808) (hc : ws.length ≤ c) :
  ao Tryz.prog W0 197 [.pointer (some ⟨pb, 0, none⟩), .pointer (some ⟨qs, 0, none⟩), .pointer (some ⟨pm, 0, none⟩), .int .i64 who, .int .i64 n, .slice a ws.length c] (cB pb (qs, x.po) :: cq qs x.fr :: pt pm (fW x.pg) :: R)
   (fun v B => v = .int .i64 0 ∧ B = cB pb (qs, (cD who (bA ws n) n x).po) :: cq qs (cD who (bA ws n) n x).fr :: pt pm (fW (cD who (bA ws n) n x).pg) :: R) := by
 have hlen := mI ws n
 have hle := h.len
 have hcb : ∀ y ∈ bA ws n, y < 4294967296 := fun y hy => hb y (List.mem_of_mem_take hy)
 have hok : ∀ i, ImOk (cD who (bA ws n) i x) := fun i => ki hw h
 have hcs : ∀ A, Ent A R → bT (bu W0 A) a 1 ix (bA ws n) := fun A hA => (hs A hA).take _
 have hp32 : ∀ i, (cD who (bA ws n) i x).po.length ≤ 32 := fun i => (hok i).po.len
 refine aD Tryz.func197 Tryz.ntmps197 rfl rfl ?_
 refine au 11 ?_
 refine aZ rfl rfl rfl ?_ ?_
 ·intro g1_3
  omega
 ·intro g1_3
  refine au 5 ?_
  refine aZ rfl rfl rfl ?_ ?_
  ·intro g1_7
   omega
  ·intro g1_7
   refine au 5 ?_
   refine aZ rfl rfl rfl ?_ ?_
   ·intro g1_11
    omega
   ·intro g1_11
    refine au 6 ?_
    refine ai rfl ?_ ?_
    ·intro c1
     omega
    ·intro c1
     refine au 9 ?_
     refine ce (fun i : Nat => i ≤ n) (fun i => [(0, .pointer (some ⟨pb, 0, none⟩)), (1, .pointer (some ⟨qs, 0, none⟩)), (2, .pointer (some ⟨pm, 0, none⟩)), (3, .int .i64 who), (4, .int .i64 n), (5, .slice a ws.length c), (13, .int .i64 i)]) (fun i => cB pb (qs, x.po) :: cq qs x.fr :: pt pm (fW x.pg) :: R) (fun i => n - i) 0 ?_ ?_ ?_ ?_
     ·exact Nat.zero_le _
     ·repeat (first | exact aJ | refine aG rfl ?_)
     ·exact inferInstance
     ·intro i hi
      refine au 8 ?_
      refine ai rfl ?_ ?_
      ·intro c4
       refine au 8 ?_
       refine ae rfl (aM Tryz.call288 rfl (BJ W0 _ pm x.pg h.pg i)) ?_
       rintro _ B_ ⟨rfl, hB_⟩
       obtain rfl := hB_.symm
       refine au 3 ?_
       refine ae rfl (cd iO) ?_
       rintro _ _ ⟨bx, rfl, rfl⟩
       refine b0 (bS f0 rfl rfl rfl rfl rfl) ?_
       rintro _ _ rfl
       refine au 8 ?_
       refine ai rfl ?_ ?_
       ·intro c7
        exact absurd c7 (by rw [hf i (Nat.zero_le _) (by omega)]; decide)
       ·intro c7
        refine au 5 ?_
        refine aa rfl (bj rfl rfl (by first | exact aK (by omega) | rfl)) ?_
        refine au 3 ?_
        refine bU (i + 1) ?_ ?_ ?_ ?_
        ·omega
        ·omega
        ·repeat (first | exact aJ | refine aG rfl ?_)
        ·exact inferInstance
      ·intro c4
       refine au 10 ?_
       refine ae rfl (aM Tryz.call289 rfl (Ce W0 _ pb qs x.po who (by omega) (hp32 0))) ?_
       rintro _ B_ ⟨rfl, hB_⟩
       obtain rfl := hB_.symm
       refine au 4 ?_
       refine ai rfl ?_ ?_
       ·intro c9
        omega
       ·intro c9
        refine au 6 ?_
        refine ae rfl (aF Tryz.call290 rfl (Cg W0 _ a c n ws h1 h8 hn hc)) ?_
        rintro _ B_ ⟨rfl, hB_⟩
        obtain rfl := hB_.symm
        refine au 10 ?_
        refine ce (fun i : Nat => i ≤ n) (fun i => [(0, .pointer (some ⟨pb, 0, none⟩)), (1, .pointer (some ⟨qs, 0, none⟩)), (2, .pointer (some ⟨pm, 0, none⟩)), (3, .int .i64 who), (4, .int .i64 n), (16, .slice a (bA ws n).length c), (17, .int .i64 i)]) (fun i => cB pb (qs, (cD who (bA ws n) i x).po) :: cq qs (cD who (bA ws n) i x).fr :: pt pm (fW (cD who (bA ws n) i x).pg) :: R) (fun i => n - i) 0 ?_ ?_ ?_ ?_
        ·exact Nat.zero_le _
        ·repeat (first | exact aJ | refine aG rfl ?_)
        ·exact ent_refl
        ·intro i hi
         refine au 8 ?_
         refine ai rfl ?_ ?_
         ·intro c13
          refine au 5 ?_
          have hin : i < n := by omega
          have hfr := qF (who := who) (words := bA ws n) (x := x) i
          have hpg := (qG (who := who) (words := bA ws n) hf h.pg.len i (by omega)).1
          obtain ⟨f, l, he⟩ : ∃ f l, bB (cD who (bA ws n) i x).po who = f :: l := by
           cases e : bB (cD who (bA ws n) i x).po who with
           | nil => rw [e] at hfr; simp at hfr; omega
           | cons f l => exact ⟨f, l, rfl⟩
          obtain ⟨y, hy⟩ : ∃ y, cD who (bA ws n) i x = y := ⟨_, rfl⟩
          have hoki := hok i
          have hnx : cD who (bA ws n) (i + 1) x = fI who (bA ws n) y i := by rw [cD, hy]
          have hp32i := hp32 i
          have hti := hpg i (Nat.le_refl _) (by omega)
          rw [hy] at he hoki hp32i hti ⊢
          rw [fI, he] at hnx
          dsimp only at hnx
          have hff := gN.1 (show f ∈ bB y.po who by rw [he]; simp)
          refine au 3 ?_
          refine ae rfl (aM Tryz.call291 rfl (Cf W0 _ pb qs y.po who f l hw hp32i he)) ?_
          rintro _ B_ ⟨rfl, hB_⟩
          obtain rfl := hB_.symm
          refine au 12 ?_
          refine aa rfl (bI jr iO (aA ar (aA ar bH)) (aS rfl ar rfl rfl (Nat.le_of_ble_eq_true rfl) SetL.eq (aS rfl ar rfl rfl (Nat.le_of_ble_eq_true rfl) SetL.eq bG))) ?_
          refine ae rfl (aM yf rfl (rM W0 _ pm y.pg hoki.pg i ((f : Int), 3))) ?_
          rintro _ B_ ⟨rfl, hB_⟩
          obtain rfl := hB_.symm
          refine au 8 ?_
          refine ce (fun k : Nat => k ≤ 16) (fun k => [(0, .pointer (some ⟨pb, 0, none⟩)), (1, .pointer (some ⟨qs, 0, none⟩)), (2, .pointer (some ⟨pm, 0, none⟩)), (3, .int .i64 who), (4, .int .i64 n), (16, .slice a (bA ws n).length c), (17, .int .i64 i), (18, .int .i64 f), (20, .int .i64 k)]) (fun k => cB pb (qs, y.po.set f ((who : Int), true)) :: cq qs (eH f ((cz (bA ws n) i).take k) 0 y.fr) :: pt pm (fW (dY y.pg i ((f : Int), 3))) :: R) (fun k => 16 - k) 0 ?_ ?_ ?_ ?_
          ·exact Nat.zero_le _
          ·repeat (first | exact aJ | refine aG rfl ?_)
          ·rw [show eH f ((cz (bA ws n) i).take 0) 0 y.fr = y.fr from rfl]
           exact inferInstance
          ·intro k hk
           refine au 7 ?_
           refine ai rfl ?_ ?_
           ·intro c18
            refine au 2 ?_
            refine gn (fun _ : Unit => k < 16) (fun _ => [(0, .pointer (some ⟨pb, 0, none⟩)), (1, .pointer (some ⟨qs, 0, none⟩)), (2, .pointer (some ⟨pm, 0, none⟩)), (3, .int .i64 who), (4, .int .i64 n), (16, .slice a (bA ws n).length c), (17, .int .i64 i), (18, .int .i64 f), (20, .int .i64 k)]) (fun _ => cB pb (qs, y.po.set f ((who : Int), true)) :: cq qs (eH f ((cz (bA ws n) i).take (k + 1)) 0 y.fr) :: pt pm (fW (dY y.pg i ((f : Int), 3))) :: R) ?_ ?_
            ·skip
             refine au 2 ?_
             have hk1 : k < 16 := by omega
             have hwt := Ci (f := f) (ws := bA ws n) (i := i) hk1 y.fr
             refine au 2 ?_
             refine aa rfl (i4 rfl rfl (by rw [aK (by omega)]; omega : IntKind.wrap .i64 (16 * (i : Int)) = ((16 * i : Nat) : Int))) ?_
             refine aa rfl (ag rfl) ?_
             refine aa rfl (bj rfl rfl (by rw [aK (by omega)]; omega : IntKind.wrap .i64 (((16 * i : Nat) : Int) + (k : Int)) = ((16 * i + k : Nat) : Int))) ?_
             refine au 5 ?_
             refine ai rfl ?_ ?_
             ·intro c20
              have hlt : 16 * i + k < (bA ws n).length := by omega
              obtain ⟨gb, go, hga, hc'⟩ := (hcs (cB pb (qs, y.po.set f ((who : Int), true)) :: cq qs (eH f ((cz (bA ws n) i).take k) 0 y.fr) :: pt pm (fW (dY y.pg i ((f : Int), 3))) :: R) inferInstance).at_ hlt
              obtain ⟨z, hz⟩ : ∃ z, (bA ws n)[16 * i + k] = z := ⟨_, rfl⟩
              rw [hz] at hc'
              have hzb := hcb _ (List.getElem_mem hlt)
              rw [hz] at hzb
              obtain ⟨hF, hFl⟩ := l8 (f := f) (l := (cz (bA ws n) i).take k) (k := 0) hoki.fr
              rw [List.getElem?_eq_getElem hlt, hz] at hwt
              dsimp only at hwt
              refine au 4 ?_
              refine aa rfl (i4 rfl rfl (by rw [aK (by omega)]; omega : IntKind.wrap .i64 (4 * (k : Int)) = ((4 * k : Nat) : Int))) ?_
              refine au 2 ?_
              refine aa rfl (i4 rfl rfl (by rw [aK (by omega)]; omega : IntKind.wrap .i64 (16 * (i : Int)) = ((16 * i : Nat) : Int))) ?_
              refine aa rfl (ag rfl) ?_
              refine aa rfl (bj rfl rfl (by rw [aK (by omega)]; omega : IntKind.wrap .i64 (((16 * i : Nat) : Int) + (k : Int)) = ((16 * i + k : Nat) : Int))) ?_
              refine aa rfl (di lO cg rfl hga rfl rfl hlt (by first | exact Nat.zero_add _ | rfl)) ?_
              refine aa rfl (am eS rfl (hc' 0 _ rfl)) ?_
              refine ae rfl (aM Tryz.call292 rfl (BF W0 _ qs (eH f ((cz (bA ws n) i).take k) 0 y.fr) f (4 * k : Nat) 4 z hzb hF)) ?_
              rintro _ B_ ⟨rfl, hB_⟩
              obtain rfl := hB_.symm
              refine au 3 ?_
              refine d8 () ?_ ?_ ?_
              ·exact hk1
              ·repeat (first | exact aJ | refine aG rfl ?_)
              ·rw [hwt]
               exact inferInstance
             ·intro c20
              refine au 3 ?_
              refine d8 () ?_ ?_ ?_
              ·exact hk1
              ·repeat (first | exact aJ | refine aG rfl ?_)
              ·rw [hwt, List.getElem?_eq_none (by omega)]
               exact inferInstance
            ·intro _ hk1
             refine au 2 ?_
             refine aa rfl (bj rfl rfl (by first | exact aK (by omega) | rfl)) ?_
             refine au 3 ?_
             refine bU (k + 1) ?_ ?_ ?_ ?_
             ·omega
             ·omega
             ·repeat (first | exact aJ | refine aG rfl ?_)
             ·exact inferInstance
           ·intro c18
            refine au 8 ?_
            refine aa rfl (bj rfl rfl (by first | exact aK (by omega) | rfl)) ?_
            refine au 3 ?_
            refine bU (i + 1) ?_ ?_ ?_ ?_
            ·omega
            ·omega
            ·repeat (first | exact aJ | refine aG rfl ?_)
            ·obtain rfl : k = 16 := by omega
             rw [hnx, show (cz (bA ws n) i).take 16 = cz (bA ws n) i from List.take_of_length_le (by rw [cz, List.length_take]; omega)]
             exact inferInstance
         ·intro c13
          refine au 11 ?_
          refine ah (.inl rfl) (.cons (ac rfl) .nil) ?_
          obtain rfl : i = n := by omega
          exact ⟨_, ⟨rfl, rfl⟩, inferInstance⟩
def iJ (b : Nat) (L : List Int) : HP := chk (fun C => ∃ a c, C = [pt b (aj [.slice a L.length c] 423), osl 3 1 (.slice a L.length c) (L.flatMap ee)])
section
variable {W0 : World} {N : FSz} {K : Act → World → Prop} {e : bq} {A B R R1 R2 : List HP} {b n c : Nat} {L : List Int}
theorem Ck [hk : Tk iJ b A L R] (h : ∀ a c, aE W0 N K e (pt b (aj [.slice a L.length c] 423) :: osl 3 1 (.slice a L.length c) (L.flatMap ee) :: R)) : aE W0 N K e A :=
 dP (r := iJ) (b := b) (iU fun C hC => by obtain ⟨a, c, rfl⟩ := hC; exact h a c)
theorem jm {a : Option Addr} {ys : List Value} [h1 : Tk pt b A (aj [.slice a n c] 423) R1] [h2 : Tk (osl 3 1) (.slice a n c) R1 ys R2] (hk : n = L.length) (hy : ys = L.flatMap ee) [q : Ent R2 B] : Ent A (iJ b L :: B) := by
 subst hk; subst hy
 exact (Ent.ofPerm (h1.perm.trans (h2.perm.cons _))).trans ((eF (R := R2) (C := [_, _]) ⟨a, c, rfl⟩).trans (Ent.cons q))
end
theorem w8 (x : Int) : (ee x).length = 1 := rfl
theorem oI (L : List Int) : (L.flatMap ee).length = L.length := by rw [cX w8]; omega
theorem Cl (L : List Int) (j : Nat) (w : Int) : (L.flatMap ee).set j (.int .i64 w) = (L.set j w).flatMap ee := by
 induction L generalizing j with
 | nil => rfl
 | cons x L ih =>
  cases j with
  | zero => rfl
  | succ j => simp only [List.flatMap_cons, ee, List.cons_append, List.nil_append, List.set_cons_succ] at ih ⊢; rw [ih]
theorem Cm (L : List Int) : ek (L.flatMap ee) = true := by
 induction L with
 | nil => rfl
 | cons x l ih => rw [List.flatMap_cons, ek, List.all_append, Bool.and_eq_true]; exact ⟨rfl, ih⟩
theorem w9 (W0 : World) (R : List HP) (n : Nat) (h : n ≤ 64) : ao Tryz.prog W0 177 [.int .i64 n] R (fun v B => ∃ b, v = .tuple #[.pointer (some ⟨b, 0, none⟩), .int .i64 0] ∧ B = iJ b (List.replicate n (-1)) :: R) := by
 refine aD Tryz.func177 Tryz.ntmps177 rfl rfl ?_
 refine au 12 ?_
 refine aZ rfl rfl rfl ?_ ?_
 ·intro g1_3
  omega
 ·intro g1_3
  refine au 6 ?_
  refine ai rfl ?_ ?_
  ·intro c1
   omega
  ·intro c1
   refine au 4 ?_
   refine aa rfl (bI Fw Tryz.zeroValue423 (aA eM bH) bG) ?_
   refine ae rfl (bw rfl) ?_
   rintro _ _ ⟨bt, rfl, rfl⟩
   refine au 10 ?_
   refine ce (fun X : Nat × Option Addr × Nat => X.1 ≤ n) (fun X => [(0, .int .i64 n), (4, .pointer (some ⟨bt, 0, none⟩)), (5, .int .i64 X.1)]) (fun X => pt bt (aj [.slice X.2.1 X.1 X.2.2] 423) :: osl 3 1 (.slice X.2.1 X.1 X.2.2) ((List.replicate X.1 (-1)).flatMap ee) :: R) (fun X => n - X.1) (0, none, 0) ?_ ?_ ?_ ?_
   ·exact Nat.zero_le _
   ·repeat (first | exact aJ | refine aG rfl ?_)
   ·exact Ent.cons fj
   ·intro ⟨i, a, c⟩ hi
    dsimp only at hi ⊢
    refine au 8 ?_
    refine ai rfl ?_ ?_
    ·intro c5
     refine au 10 ?_
     refine ae rfl (g6 dF ar lP rfl rfl rfl rfl rfl (by decide) (by decide)) ?_
     rintro _ _ ⟨b2, rfl, rfl⟩
     refine ae rfl (dy (sz := 1) (by_ := 8) (info := Tryz.t3) dF (by kernel_rfl) rfl rfl rfl rfl (by decide) rfl rfl dz rfl rfl (by simp only [maxLen]; omega) (by omega)) ?_
     rintro _ _ ⟨a3, c3, rfl, rfl⟩
     have hmp : (List.replicate i (-1)).flatMap ee ++ [Value.int .i64 (-1)] = (List.replicate (i + 1) (-1 : Int)).flatMap ee := by
      rw [List.replicate_succ', List.flatMap_append]; rfl
     rw [hmp]
     refine au 2 ?_
     refine b0 (bN eM rfl rfl rfl (Nat.le_of_ble_eq_true rfl) SetL.eq) ?_
     rintro _ _ rfl
     refine au 5 ?_
     refine aa rfl (bj rfl rfl (by first | exact aK (by omega) | rfl)) ?_
     refine au 3 ?_
     refine bU (i + 1, a3, c3) ?_ ?_ ?_ ?_
     ·omega
     ·omega
     ·repeat (first | exact aJ | refine aG rfl ?_)
     ·exact inferInstance
    ·intro c5
     refine au 13 ?_
     refine ah (.inl rfl) (.cons (ac rfl) (.cons (ac rfl) .nil)) ?_
     obtain rfl : i = n := by omega
     exact ⟨_, ⟨bt, rfl, rfl⟩, jm (by simp) rfl⟩
def iy (L : List Int) (f k : Nat) (w : Int) : List Int := (List.range L.length).map fun j => if f ≤ j ∧ j < f + k then w else L.getD j (-1)
theorem rT {L : List Int} {f k : Nat} {w : Int} : (iy L f k w).length = L.length := by simp [iy]
theorem Cn {L : List Int} {f : Nat} {w : Int} : iy L f 0 w = L := by
 apply List.ext_getElem
 ·exact rT
 ·intro i h1 h2
  simp only [iy, List.getElem_map, List.getElem_range]
  rw [if_neg (by omega)]; simp [List.getD, h2]
theorem Co {L : List Int} {f k : Nat} {w : Int} (h : f + k < L.length) : (iy L f k w).set (f + k) w = iy L f (k + 1) w := by
 apply List.ext_getElem
 ·simp [iy]
 ·intro i h1 h2
  rw [List.getElem_set]
  simp only [iy, List.getElem_map, List.getElem_range]
  by_cases e : f + k = i
  ·rw [if_pos e, if_pos (by omega)]
  ·rw [if_neg e]
   by_cases q : f ≤ i ∧ i < f + k
   ·rw [if_pos q, if_pos (by omega)]
   ·rw [if_neg q, if_neg (by omega)]
theorem Cp {L : List Int} {f k : Nat} {w : Int} (h : eK L f k w = 0) : gi L f k w = iy L f k w := by
 rw [gi, if_pos h, iy]
 apply List.map_congr_left
 intro i _
 by_cases q : f ≤ i ∧ i < f + k
 ·rw [if_pos q, if_pos (by omega)]
 ·rw [if_neg q, if_neg (by omega)]
theorem Cq {L : List Int} {f k i : Nat} {w : Int} (hb : ¬ ((f : Int) < 0 ∨ (k : Int) < 1 ∨ (L.length : Int) < f ∨ (L.length : Int) - f < k ∨ w < 0 ∨ 64 ≤ w)) (hi : i < k) (h : 0 ≤ L.getD (f + i) (-1)) : eK L f k w = 5 := by
 rw [eK, if_neg hb, if_pos]
 rw [List.any_eq_true]
 exact ⟨i, List.mem_range.2 (by omega), decide_eq_true (by rw [Int.toNat_natCast]; exact h)⟩
theorem Cr {L : List Int} {f k : Nat} {w : Int} (hb : ¬ ((f : Int) < 0 ∨ (k : Int) < 1 ∨ (L.length : Int) < f ∨ (L.length : Int) - f < k ∨ w < 0 ∨ 64 ≤ w)) (h : ∀ j, j < k → ¬ 0 ≤ L.getD (f + j) (-1)) : eK L f k w = 0 := by
 rw [eK, if_neg hb, if_neg]
 intro q
 obtain ⟨i, hi, hd⟩ := List.any_eq_true.1 q
 have hd := of_decide_eq_true hd
 rw [Int.toNat_natCast] at hd
 exact h i (by have := List.mem_range.1 hi; omega) hd
theorem wa (W0 : World) (R : List HP) (b : Nat) (L : List Int) (hl : L.length ≤ 64) (f k w : Int) :
  ao Tryz.prog W0 179 [.pointer (some ⟨b, 0, none⟩), .int .i64 f, .int .i64 k, .int .i64 w] (iJ b L :: R) (fun v B => v = .int .i64 (eK L f k w) ∧ B = iJ b (gi L f k w) :: R) := by
 refine aD Tryz.func179 Tryz.ntmps179 rfl rfl ?_
 refine au 7 ?_
 refine Ck (b := b) fun a c => ?_
 refine au 4 ?_
 refine aZ rfl rfl rfl ?_ ?_
 ·intro g1_3
  refine au 40 ?_
  refine ah (.inl rfl) (.cons (ac rfl) .nil) ?_
  have he : eK L f k w = 1 := by rw [eK, if_pos (by omega)]
  rw [gi, he, if_neg (by decide)]
  exact ⟨_, ⟨rfl, rfl⟩, jm rfl rfl⟩
 ·intro g1_3
  refine au 5 ?_
  refine aZ rfl rfl rfl ?_ ?_
  ·intro g1_7
   refine au 36 ?_
   refine ah (.inl rfl) (.cons (ac rfl) .nil) ?_
   have he : eK L f k w = 1 := by rw [eK, if_pos (by omega)]
   rw [gi, he, if_neg (by decide)]
   exact ⟨_, ⟨rfl, rfl⟩, jm rfl rfl⟩
  ·intro g1_7
   refine au 15 ?_
   refine aZ rfl rfl rfl ?_ ?_
   ·intro g1_16
    refine au 27 ?_
    refine ah (.inl rfl) (.cons (ac rfl) .nil) ?_
    have he : eK L f k w = 1 := by rw [eK, if_pos (by omega)]
    rw [gi, he, if_neg (by decide)]
    exact ⟨_, ⟨rfl, rfl⟩, jm rfl rfl⟩
   ·intro g1_16
    refine au 14 ?_
    refine aa rfl (dG rfl rfl (aK (by omega))) ?_
    refine au 4 ?_
    refine aZ rfl rfl rfl ?_ ?_
    ·intro g1_27
     refine au 16 ?_
     refine ah (.inl rfl) (.cons (ac rfl) .nil) ?_
     have he : eK L f k w = 1 := by rw [eK, if_pos (by omega)]
     rw [gi, he, if_neg (by decide)]
     exact ⟨_, ⟨rfl, rfl⟩, jm rfl rfl⟩
    ·intro g1_27
     refine au 5 ?_
     refine aZ rfl rfl rfl ?_ ?_
     ·intro g1_31
      refine au 12 ?_
      refine ah (.inl rfl) (.cons (ac rfl) .nil) ?_
      have he : eK L f k w = 1 := by rw [eK, if_pos (by omega)]
      rw [gi, he, if_neg (by decide)]
      exact ⟨_, ⟨rfl, rfl⟩, jm rfl rfl⟩
     ·intro g1_31
      refine au 6 ?_
      refine ai rfl ?_ ?_
      ·intro c1
       refine au 7 ?_
       refine ah (.inl rfl) (.cons (ac rfl) .nil) ?_
       have he : eK L f k w = 1 := by rw [eK, if_pos (by omega)]
       rw [gi, he, if_neg (by decide)]
       exact ⟨_, ⟨rfl, rfl⟩, jm rfl rfl⟩
      ·intro c1
       refine au 4 ?_
       have hb : ¬ (f < 0 ∨ k < 1 ∨ (L.length : Int) < f ∨ (L.length : Int) - f < k ∨ w < 0 ∨ 64 ≤ w) := by omega
       obtain ⟨f, rfl⟩ : ∃ f' : Nat, f = (f' : Int) := ⟨f.toNat, by omega⟩
       obtain ⟨k, rfl⟩ : ∃ k' : Nat, k = (k' : Int) := ⟨k.toNat, by omega⟩
       have hfk : f + k ≤ L.length := by omega
       refine qL (E := 3) (sz := 1) (a := a) (c := c) (n := L.length) (ys := L.flatMap ee) (fun hf => ?_)
       obtain ⟨g, rfl⟩ := qW hf (by rw [← List.length_pos_iff, oI]; omega)
       refine au 5 ?_
       refine ce (fun i : Nat => i ≤ k ∧ ∀ j, j < i → ¬ 0 ≤ L.getD (f + j) (-1)) (fun i => [(0, .pointer (some ⟨b, 0, none⟩)), (1, .int .i64 f), (2, .int .i64 k), (3, .int .i64 w), (9, .int .i64 i)]) (fun i => pt b (aj [.slice (some ⟨g, 0, none⟩) L.length c] 423) :: osl 3 1 (.slice (some ⟨g, 0, none⟩) L.length c) (L.flatMap ee) :: R) (fun i => k - i) 0 ?_ ?_ ?_ ?_
       ·exact ⟨Nat.zero_le _, fun j hj => absurd hj (Nat.not_lt_zero j)⟩
       ·repeat (first | exact aJ | refine aG rfl ?_)
       ·exact inferInstance
       ·intro i ⟨hi, hI⟩
        refine au 8 ?_
        refine ai rfl ?_ ?_
        ·intro c4
         refine au 5 ?_
         have hi1 : f + i < L.length := by omega
         have hgi : L[f + i]? = some (L.getD (f + i) (-1)) := by simp [List.getD, hi1]
         refine au 7 ?_
         refine aa rfl (bj rfl rfl (by rw [aK (by omega)]; omega : IntKind.wrap .i64 ((f : Int) + (i : Int)) = ((f + i : Nat) : Int))) ?_
         refine aa rfl (bM dF ar rfl rfl rfl hi1 (by first | exact Nat.zero_add _ | rfl)) ?_
         refine aa rfl (am aT rfl (vm (f := ee) (E := 3) (sz := 1) (n := L.length) (c := c) rfl w8 (by decide) hgi 0 _ rfl)) ?_
         refine au 3 ?_
         refine ai rfl ?_ ?_
         ·intro c6
          refine au 11 ?_
          refine ah (.inl rfl) (.cons (ac rfl) .nil) ?_
          have he : eK L f k w = 5 := Cq hb (by omega) c6
          rw [gi, he, if_neg (by decide)]
          exact ⟨_, ⟨rfl, rfl⟩, jm rfl rfl⟩
         ·intro c6
          refine au 5 ?_
          refine aa rfl (bj rfl rfl (by first | exact aK (by omega) | rfl)) ?_
          refine au 3 ?_
          refine bU (i + 1) ?_ ?_ ?_ ?_
          ·refine ⟨by omega, fun j hj => ?_⟩
           rcases Nat.lt_or_ge j i with q | q
           ·exact hI j q
           ·rw [show j = i by omega]; exact c6
          ·omega
          ·repeat (first | exact aJ | refine aG rfl ?_)
          ·exact inferInstance
        ·intro c4
         refine au 6 ?_
         obtain rfl : i = k := by omega
         have he : eK L f i w = 0 := Cr hb hI
         refine az (ae rfl (mh dF ar rfl) ?_)
         rintro _ _ ⟨be, rfl, rfl⟩
         refine au 4 ?_
         refine ae rfl (dy (sz := 1) (by_ := 8) (info := Tryz.t3) dF (by kernel_rfl) rfl rfl rfl rfl (by decide) rfl rfl (uM (E := 3) (sz := 1) (a := some ⟨g, 0, none⟩) (c := c) (n := L.length)) (by rw [oI, Nat.mul_one]) (Cm L) (by simp only [maxLen]; omega) (by omega)) ?_
         rintro _ _ ⟨a3, c3, rfl, rfl⟩
         rw [List.nil_append, Nat.zero_add]
         refine qL (E := 3) (sz := 1) (a := a3) (c := c3) (n := L.length) (ys := L.flatMap ee) (fun hf3 => ?_)
         obtain ⟨g3, rfl⟩ := qW hf3 (by rw [← List.length_pos_iff, oI]; omega)
         refine au 10 ?_
         refine ce (fun j : Nat => j ≤ i) (fun j => [(0, .pointer (some ⟨b, 0, none⟩)), (1, .int .i64 f), (2, .int .i64 i), (3, .int .i64 w), (10, .slice (some ⟨g3, 0, none⟩) L.length c3), (11, .int .i64 j)]) (fun j => pt b (aj [.slice (some ⟨g, 0, none⟩) L.length c] 423) :: osl 3 1 (.slice (some ⟨g3, 0, none⟩) L.length c3) ((iy L f j w).flatMap ee) :: R) (fun j => i - j) 0 ?_ ?_ ?_ ?_
         ·exact Nat.zero_le _
         ·repeat (first | exact aJ | refine aG rfl ?_)
         ·rw [Cn]; exact inferInstance
         ·intro j hj
          refine au 8 ?_
          refine ai rfl ?_ ?_
          ·intro c10
           refine au 8 ?_
           refine aa rfl (bj rfl rfl (by rw [aK (by omega)]; omega : IntKind.wrap .i64 ((f : Int) + (j : Int)) = ((f + j : Nat) : Int))) ?_
           refine aa rfl (ag rfl) ?_
           refine aa rfl (bM dF ar rfl rfl rfl (by omega) (by first | exact Nat.zero_add _ | rfl)) ?_
           refine b0 (B2 (E := 3) (sz := 1) (n := L.length) (c := c3) (l' := (iy L f (j + 1) w).flatMap ee) ar rfl rfl rfl (by rw [oI, rT]; omega) (by rw [Nat.mul_one, Cl, Co (by omega)])) ?_
           rintro _ _ rfl
           refine au 5 ?_
           refine aa rfl (bj rfl rfl (by first | exact aK (by omega) | rfl)) ?_
           refine au 3 ?_
           refine bU (j + 1) ?_ ?_ ?_ ?_
           ·omega
           ·omega
           ·repeat (first | exact aJ | refine aG rfl ?_)
           ·exact inferInstance
          ·intro c10
           refine au 11 ?_
           refine b0 (bN eM rfl rfl rfl (Nat.le_of_ble_eq_true rfl) SetL.eq) ?_
           rintro _ _ rfl
           refine au 8 ?_
           refine ah (.inl rfl) (.cons (ac rfl) .nil) ?_
           obtain rfl : j = i := by omega
           rw [he, Cp he]
           exact ⟨_, ⟨rfl, rfl⟩, jm rT.symm rfl⟩
theorem Cs {c : Nat} (h : c ≤ 8) : m4 .i64 1 (c : Int) = ((2 ^ c : Nat) : Int) := by
 have : c = 0 ∨ c = 1 ∨ c = 2 ∨ c = 3 ∨ c = 4 ∨ c = 5 ∨ c = 6 ∨ c = 7 ∨ c = 8 := by omega
 rcases this with rfl | rfl | rfl | rfl | rfl | rfl | rfl | rfl | rfl <;> rfl
theorem Cu {l cats : Int} : dp l cats = true ↔ 0 ≤ cats ∧ cats ≤ 8 ∧ 0 ≤ l ∧ l < ((2 ^ cats.toNat : Nat) : Int) := by
 simp only [dp, Bool.and_eq_true, decide_eq_true_iff, iE]
 constructor
 ·rintro ⟨⟨⟨h1, h2⟩, h3, h4⟩, h5⟩
  refine ⟨h1, h2, h3, ?_⟩
  obtain ⟨c, rfl⟩ : ∃ c : Nat, cats = (c : Int) := ⟨cats.toNat, by omega⟩
  obtain ⟨x, rfl⟩ : ∃ x : Nat, l = (x : Int) := ⟨l.toNat, by omega⟩
  rw [nJ (k := .i64) (a := x) (s := c) (by show c ≤ 64; omega)] at h5
  have h6 : x / 2 ^ c = 0 := by omega
  have := (Nat.div_eq_zero_iff_lt (Nat.two_pow_pos c)).1 h6
  rw [Int.toNat_natCast]; omega
 ·rintro ⟨h1, h2, h3, h4⟩
  obtain ⟨c, rfl⟩ : ∃ c : Nat, cats = (c : Int) := ⟨cats.toNat, by omega⟩
  obtain ⟨x, rfl⟩ : ∃ x : Nat, l = (x : Int) := ⟨l.toNat, by omega⟩
  rw [Int.toNat_natCast] at h4
  have h5 : x < 2 ^ c := by omega
  have h6 : 2 ^ c ≤ 2 ^ 8 := Nat.pow_le_pow_right (by decide) (by omega)
  refine ⟨⟨⟨h1, h2⟩, h3, by omega⟩, ?_⟩
  rw [nJ (k := .i64) (a := x) (s := c) (by show c ≤ 64; omega), Nat.div_eq_of_lt h5]; rfl
theorem rU (W0 : World) (R : List HP) (l cats : Int) : ao Tryz.prog W0 276 [.int .i64 l, .int .i64 cats] R (fun v B => v = .bool (dp l cats) ∧ B = R) := by
  have hv := Cu (l := l) (cats := cats)
  refine aD Tryz.func276 Tryz.ntmps276 rfl rfl ?_
  refine au 10 ?_
  refine bX rfl rfl rfl ?_ ?_
  · intro g1_3
    refine au 5 ?_
    refine bX rfl rfl rfl ?_ ?_
    · intro g1_7
      refine au 5 ?_
      refine bX rfl rfl rfl ?_ ?_
      · intro g1_11
        obtain ⟨k, rfl⟩ : ∃ k : Nat, cats = (k : Int) := ⟨cats.toNat, by omega⟩
        have hp := Nat.two_pow_pos k
        rw [Int.toNat_natCast] at hv
        refine au 4 ?_
        refine aa rfl (tN rfl rfl (by omega) (Cs (by omega))) ?_
        refine au 7 ?_
        refine ah (.inl rfl) (.cons (ac rfl) .nil) ?_
        refine ⟨_, ⟨?_, rfl⟩, inferInstance⟩
        refine congrArg Value.bool ?_
        rw [Bool.eq_iff_iff, hv]
        first
          | (rw [decide_eq_true_iff]; constructor
             · intro q; omega
             · intro q; omega)
          | (constructor
             · intro q; first | omega | (cases q)
             · intro q; omega)
      · intro g1_11
        refine au 8 ?_
        refine ah (.inl rfl) (.cons (ac rfl) .nil) ?_
        refine ⟨_, ⟨?_, rfl⟩, inferInstance⟩
        refine congrArg Value.bool ?_
        rw [Bool.eq_iff_iff, hv]
        first
          | (rw [decide_eq_true_iff]; constructor
             · intro q; omega
             · intro q; omega)
          | (constructor
             · intro q; first | omega | (cases q)
             · intro q; omega)
    · intro g1_7
      refine au 12 ?_
      refine ah (.inl rfl) (.cons (ac rfl) .nil) ?_
      refine ⟨_, ⟨?_, rfl⟩, inferInstance⟩
      refine congrArg Value.bool ?_
      rw [Bool.eq_iff_iff, hv]
      first
        | (rw [decide_eq_true_iff]; constructor
           · intro q; omega
           · intro q; omega)
        | (constructor
           · intro q; first | omega | (cases q)
           · intro q; omega)
  · intro g1_3
    refine au 16 ?_
    refine ah (.inl rfl) (.cons (ac rfl) .nil) ?_
    refine ⟨_, ⟨?_, rfl⟩, inferInstance⟩
    refine congrArg Value.bool ?_
    rw [Bool.eq_iff_iff, hv]
    first
      | (rw [decide_eq_true_iff]; constructor
         · intro q; omega
         · intro q; omega)
      | (constructor
         · intro q; first | omega | (cases q)
         · intro q; omega)
theorem mM (W0 : World) (R : List HP) (c : Cfg) (i : Int) : ao Tryz.prog W0 173 [.agg (bF c).toArray, .int .i64 i] R (fun v B => v = .bool (dK c i) ∧ B = R) := by
  refine aD Tryz.func173 Tryz.ntmps173 rfl rfl ?_
  refine au 2 ?_
  refine ae rfl (bw rfl) ?_
  rintro _ _ ⟨b2, rfl, rfl⟩
  refine au 8 ?_
  refine bX rfl rfl rfl ?_ ?_
  · intro g1_3
    refine au 14 ?_
    refine ah (.inl rfl) (.cons (ac rfl) .nil) ?_
    refine ⟨_, ⟨?_, rfl⟩, inferInstance⟩
    refine congrArg Value.bool ?_
    rw [Bool.eq_iff_iff, dK, decide_eq_true_iff]
    first
      | (rw [decide_eq_true_iff]; constructor
         · intro q; omega
         · intro q; omega)
      | (constructor
         · intro q; first | omega | (cases q)
         · intro q; omega)
  · intro g1_3
    refine au 9 ?_
    refine ah (.inl rfl) (.cons (ac rfl) .nil) ?_
    refine ⟨_, ⟨?_, rfl⟩, inferInstance⟩
    refine congrArg Value.bool ?_
    rw [Bool.eq_iff_iff, dK, decide_eq_true_iff]
    first
      | (rw [decide_eq_true_iff]; constructor
         · intro q; omega
         · intro q; omega)
      | (constructor
         · intro q; first | omega | (cases q)
         · intro q; omega)
theorem mN {w : Nat → Bool} {i : Nat} (h : ∀ j, j < i → w j = false) (h2 : w i = false) : ∀ j, j < i + 1 → w j = false := fun j hj => by
 rcases Nat.lt_or_ge j i with q | q
 ·exact h j q
 ·rw [show j = i by omega]; exact h2
theorem Cv (W0 : World) (R : List HP) (c : Cfg) (h : CfOk W0 c) :
  ao Tryz.prog W0 168 [.agg (bF c).toArray] R (fun v B => ∃ r, v = .tuple #[.bool (f7 c), .int .i64 r] ∧ B = R) := by
 refine d5 Tryz.func168 Tryz.ntmps168 rfl rfl ?_
 refine al (az (ae rfl (bw rfl) ?_))
 rintro _ _ ⟨b1, rfl, rfl⟩
 refine aa rfl (ax rfl) (aa rfl (ax rfl) (aw (ak (al (al (az ?_))))))
 refine aa rfl (ap rfl cG rfl fc rfl (by first | exact Nat.zero_add _ | rfl)) ?_
 refine aa rfl (am fA rfl (aH rfl)) ?_
 refine aa rfl (dU eC rfl) (aa rfl (eO rfl rfl) (aa rfl (ag rfl) ?_))
 refine aZ rfl rfl rfl ?_ ?_
 ·intro g1_5
  refine bK rfl rfl rfl rfl (bK rfl rfl rfl rfl (bK rfl rfl rfl rfl (aa rfl (cV rfl rfl) (aw (ak (iT rfl (al (az (aa rfl (ax rfl) (aa rfl (ax rfl) (aw (ak (bY (cn (ah (.inl rfl) (.cons (ac rfl) (.cons (ac rfl) .nil)) ?_)))))))))))))))
  rw [f7, decide_eq_true (by omega), Bool.true_or]
  exact ⟨_, ⟨0, rfl, rfl⟩, inferInstance⟩
 ·intro g1_5
  refine aa rfl (ap rfl cG rfl fc rfl (by first | exact Nat.zero_add _ | rfl)) ?_
  refine aY rfl rfl (aa rfl (am fA rfl (aH rfl)) ?_)
  refine aY rfl rfl (aa rfl (dU eC rfl) (aY rfl rfl (aa rfl (iP rfl rfl) (aa rfl (d4 rfl rfl) (aw (ak ?_))))))
  refine ai rfl ?_ ?_
  ·intro c1
   refine al (az (aa rfl (ax rfl) (aa rfl (ax rfl) (aw (ak (bY (cn (ah (.inl rfl) (.cons (ac rfl) (.cons (ac rfl) .nil)) ?_))))))))
   rw [f7, decide_eq_true (by omega), Bool.true_or]
   exact ⟨_, ⟨0, rfl, rfl⟩, inferInstance⟩
  ·intro c1
   refine cy (ak (al (al (az (aa rfl (ax rfl) (aw (ak (dt ?_))))))))
   refine ce (fun i : Nat => i ≤ c.gl.length ∧ (∀ j, j < i → iF c.cats (c.gl.getD j (0, 0, 0)) = false)) (fun i => [(1, .pointer (some ⟨b1, 0, none⟩)), (4, .int .i64 i)]) (fun _ => pt b1 (cJ c) :: R) (fun i => c.gl.length - i) 0 ?_ ?_ ?_ ?_
   ·exact ⟨Nat.zero_le _, fun j hj => absurd hj (Nat.not_lt_zero _)⟩
   ·repeat (first | exact aJ | refine aG rfl ?_)
   ·exact inferInstance
   ·intro i ⟨hi, hI⟩
    refine al (al (az (aa rfl (ag rfl) ?_)))
    refine aa rfl (ap rfl cG rfl fc rfl (by first | exact Nat.zero_add _ | rfl)) ?_
    refine aa rfl (am fA rfl (aH rfl)) ?_
    refine aa rfl (dU eC rfl) (aa rfl (eO rfl rfl) (aw (ak ?_)))
    refine ai rfl ?_ ?_
    ·intro c4
     refine cy (ak (al (dt (al ?_))))
     have hi1 : i < c.gl.length := by omega
     obtain ⟨g, o, hga, hc⟩ := (h.g []).at_ hi1
     obtain ⟨x, hx⟩ : ∃ x, c.gl[i] = x := ⟨_, rfl⟩
     have hgd : c.gl.getD i (0, 0, 0) = x := by simp [List.getD, hi1, hx]
     rw [hx] at hc
     have hbad : iF c.cats x = true → f7 c = true := fun q => by
      rw [f7, lh (w := fun i => iF c.cats (c.gl.getD i (0, 0, 0))) hi1 (by rw [hgd]; exact q), Bool.or_true]
     have hgood := fun q => mN (w := fun i => iF c.cats (c.gl.getD i (0, 0, 0))) hI (show iF c.cats (c.gl.getD i (0, 0, 0)) = false by rw [hgd]; exact q)
     obtain ⟨v, hv⟩ : ∃ v, dp x.1 c.cats = v := ⟨_, rfl⟩
     have hno := mw (cats := c.cats) (g := x)
     have hye := jF (cats := c.cats) (g := x)
     rw [hv] at hno hye
     refine az ?_
     refine aa rfl (ap rfl cG rfl fc rfl (by first | exact Nat.zero_add _ | rfl)) ?_
     refine aa rfl (am fA rfl (aH rfl)) ?_
     refine aa rfl (ag rfl) ?_
     refine aa rfl (di eC ei rfl hga rfl rfl hi1 (by first | exact Nat.zero_add _ | rfl)) ?_
     refine aa rfl (cj td ei rfl hc.weak rfl) ?_
     refine ae rfl (cd lR) ?_
     rintro _ _ ⟨bx, rfl, rfl⟩
     refine b0 (bS ei rfl rfl rfl rfl rfl) ?_
     rintro _ _ rfl
     refine aw (ak (al (az ?_)))
     refine aa rfl (ap rfl dC rfl ar rfl (by first | exact Nat.zero_add _ | rfl)) ?_
     refine aa rfl (am aT rfl (aH rfl)) ?_
     refine aa rfl (ap rfl cG rfl ar rfl (by first | exact Nat.zero_add _ | rfl)) ?_
     refine aa rfl (am aT rfl (aH rfl)) ?_
     refine ae rfl (aF yg rfl (rU W0 _ x.1 c.cats)) ?_
     rintro _ B_ ⟨rfl, hB_⟩
     obtain rfl := hB_.symm
     rw [hv]
     refine aa rfl (fM rfl) (aa rfl (ag rfl) ?_)
     refine aZ rfl rfl rfl ?_ ?_
     ·intro g7_7
      refine bK rfl rfl rfl rfl (bK rfl rfl rfl rfl (aa rfl (cV rfl rfl) (aa rfl (ag rfl) (bK rfl rfl rfl rfl (bK rfl rfl rfl rfl (bK rfl rfl rfl rfl (aa rfl (cV rfl rfl) (aa rfl (ag rfl) (bK rfl rfl rfl rfl (bK rfl rfl rfl rfl (bK rfl rfl rfl rfl (aa rfl (cV rfl rfl) (aa rfl (ag rfl) (bK rfl rfl rfl rfl (bK rfl rfl rfl rfl (bK rfl rfl rfl rfl (bK rfl rfl rfl rfl (bK rfl rfl rfl rfl (bK rfl rfl rfl rfl (aa rfl (cV rfl rfl) (aw (ak (iT rfl ?_)))))))))))))))))))))))
      refine al (az (aa rfl (ag rfl) (aa rfl (ax rfl) (aa rfl (ax rfl) (aw (ak (bY (dO (cn (cn (dO (cn (ah (.inl rfl) (.cons (ac rfl) (.cons (ac rfl) .nil)) ?_)))))))))))))
      rw [hbad (hye (by first | (intro q; omega) | (intro q; simp_all)))]
      exact ⟨_, ⟨_, rfl, rfl⟩, inferInstance⟩
     ·intro g7_7
      refine aa rfl (ap rfl dC rfl ar rfl (by first | exact Nat.zero_add _ | rfl)) ?_
      refine aY rfl rfl (aa rfl (am aT rfl (aH rfl)) ?_)
      refine aY rfl rfl (aa rfl (eO rfl rfl) (aa rfl (d4 rfl rfl) (aa rfl (ag rfl) ?_)))
      refine aZ rfl rfl rfl ?_ ?_
      ·intro g7_12
       refine bK rfl rfl rfl rfl (bK rfl rfl rfl rfl (aa rfl (cV rfl rfl) (aa rfl (ag rfl) (bK rfl rfl rfl rfl (bK rfl rfl rfl rfl (bK rfl rfl rfl rfl (aa rfl (cV rfl rfl) (aa rfl (ag rfl) (bK rfl rfl rfl rfl (bK rfl rfl rfl rfl (bK rfl rfl rfl rfl (bK rfl rfl rfl rfl (bK rfl rfl rfl rfl (bK rfl rfl rfl rfl (aa rfl (cV rfl rfl) (aw (ak (iT rfl (al (az (aa rfl (ag rfl) (aa rfl (ax rfl) (aa rfl (ax rfl) ?_)))))))))))))))))))))))
       refine aw (ak (bY (dO (cn (cn (dO (cn (ah (.inl rfl) (.cons (ac rfl) (.cons (ac rfl) .nil)) ?_))))))))
       rw [hbad (hye (by first | (intro q; omega) | (intro q; simp_all)))]
       exact ⟨_, ⟨_, rfl, rfl⟩, inferInstance⟩
      ·intro g7_12
       refine aa rfl (ap rfl dC rfl ar rfl (by first | exact Nat.zero_add _ | rfl)) ?_
       refine aY rfl rfl (aa rfl (am aT rfl (aH rfl)) ?_)
       refine aY rfl rfl (aa rfl (iP rfl rfl) (aa rfl (d4 rfl rfl) (aa rfl (ag rfl) ?_)))
       refine aZ rfl rfl rfl ?_ ?_
       ·intro g7_17
        refine bK rfl rfl rfl rfl (bK rfl rfl rfl rfl (aa rfl (cV rfl rfl) (aa rfl (ag rfl) (bK rfl rfl rfl rfl (bK rfl rfl rfl rfl (bK rfl rfl rfl rfl (bK rfl rfl rfl rfl (bK rfl rfl rfl rfl (bK rfl rfl rfl rfl (aa rfl (cV rfl rfl) (aw (ak (iT rfl (al (az (aa rfl (ag rfl) (aa rfl (ax rfl) (aa rfl (ax rfl) (aw (ak (bY (dO (cn ?_)))))))))))))))))))))))
        refine cn (dO (cn (ah (.inl rfl) (.cons (ac rfl) (.cons (ac rfl) .nil)) ?_)))
        rw [hbad (hye (by first | (intro q; omega) | (intro q; simp_all)))]
        exact ⟨_, ⟨_, rfl, rfl⟩, inferInstance⟩
       ·intro g7_17
        refine aa rfl (ap rfl dC rfl ar rfl (by first | exact Nat.zero_add _ | rfl)) ?_
        refine aY rfl rfl (aa rfl (am aT rfl (aH rfl)) ?_)
        refine aY rfl rfl (aa rfl (eO rfl rfl) (aa rfl (d4 rfl rfl) (aa rfl (ag rfl) ?_)))
        refine aZ rfl rfl rfl ?_ ?_
        ·intro g7_22
         refine bK rfl rfl rfl rfl (bK rfl rfl rfl rfl (bK rfl rfl rfl rfl (bK rfl rfl rfl rfl (bK rfl rfl rfl rfl (aa rfl (cV rfl rfl) (aw (ak (iT rfl (al (az (aa rfl (ag rfl) (aa rfl (ax rfl) (aa rfl (ax rfl) (aw (ak (bY (dO (cn (cn (dO (cn (ah (.inl rfl) (.cons (ac rfl) (.cons (ac rfl) .nil)) ?_))))))))))))))))))))))
         rw [hbad (hye (by first | (intro q; omega) | (intro q; simp_all)))]
         exact ⟨_, ⟨_, rfl, rfl⟩, inferInstance⟩
        ·intro g7_22
         refine aa rfl (ap rfl dC rfl ar rfl (by first | exact Nat.zero_add _ | rfl)) ?_
         refine aY rfl rfl (aa rfl (am aT rfl (aH rfl)) ?_)
         refine aY rfl rfl ?_
         refine aa rfl (ap rfl dC rfl ar rfl (by first | exact Nat.zero_add _ | rfl)) ?_
         refine aY rfl rfl (aa rfl (am aT rfl (aH rfl)) ?_)
         refine aY rfl rfl ?_
         refine aa rfl (dG rfl rfl (aK (by omega))) ?_
         refine aY rfl rfl (aa rfl (iP rfl rfl) (aa rfl (d4 rfl rfl) (aw (ak ?_))))
         refine ai rfl ?_ ?_
         ·intro c7
          refine al (az (aa rfl (ag rfl) (aa rfl (ax rfl) (aa rfl (ax rfl) (aw (ak (bY (dO (cn (cn (dO (cn (ah (.inl rfl) (.cons (ac rfl) (.cons (ac rfl) .nil)) ?_)))))))))))))
          rw [hbad (hye (by first | (intro q; omega) | (intro q; simp_all)))]
          exact ⟨_, ⟨_, rfl, rfl⟩, inferInstance⟩
         ·intro c7
          refine cy (fY (ak (az (aa rfl (ag rfl) ?_))))
          refine aa rfl (bj rfl rfl (by first | exact aK (by omega) | rfl)) ?_
          refine aa rfl (ax rfl) (aw (ak ?_))
          refine bU (i + 1) ?_ ?_ ?_ ?_
          ·refine ⟨by omega, hgood (hno.2 ⟨by simp_all, by omega, by omega, by omega, by omega⟩)⟩
          ·omega
          ·repeat (first | exact aJ | refine aG rfl ?_)
          ·exact inferInstance
    ·intro c4
     refine gJ (eV (eV (i3 (ak (al (az (aa rfl (ax rfl) (aa rfl (ax rfl) (aw (ak (bY (ah (.inl rfl) (.cons (ac rfl) (.cons (ac rfl) .nil)) ?_))))))))))))
     obtain rfl : i = c.gl.length := by omega
     rw [f7, decide_eq_false (by omega), Bool.false_or, mu hI]
     exact ⟨_, ⟨0, rfl, rfl⟩, inferInstance⟩
theorem Cw (W0 : World) (R : List HP) (c : Cfg) (h : CfOk W0 c) :
  ao Tryz.prog W0 169 [.agg (bF c).toArray] R (fun v B => ∃ r, v = .tuple #[.bool (fV c), .int .i64 r] ∧ B = R) := by
 refine d5 Tryz.func169 Tryz.ntmps169 rfl rfl ?_
 refine al (az (ae rfl (bw rfl) ?_))
 rintro _ _ ⟨b1, rfl, rfl⟩
 refine aa rfl (ax rfl) (aa rfl (ax rfl) (aw (ak (al (al (az ?_))))))
 refine aa rfl (ap rfl cG rfl jO rfl (by first | exact Nat.zero_add _ | rfl)) ?_
 refine aa rfl (am pf rfl (aH rfl)) ?_
 refine aa rfl (dU gX rfl) (aa rfl (iP rfl rfl) (aw (ak ?_)))
 refine ai rfl ?_ ?_
 ·intro c1
  refine al (az (aa rfl (ax rfl) (aa rfl (ax rfl) (aw (ak (bY (cn (ah (.inl rfl) (.cons (ac rfl) (.cons (ac rfl) .nil)) ?_))))))))
  rw [fV, decide_eq_true (by omega), Bool.true_or]
  exact ⟨_, ⟨0, rfl, rfl⟩, inferInstance⟩
 ·intro c1
  refine cy (ak (al (az ?_)))
  refine ae rfl (aF Tryz.call177 rfl (w9 W0 _ 32 (by decide))) ?_
  rintro _ B_ ⟨bt, rfl, hB_⟩
  obtain rfl := hB_.symm
  refine aa rfl (ag rfl) (aa rfl (bZ rfl rfl) (aa rfl (bZ rfl rfl) (aa rfl (ax rfl) (aa rfl (ax rfl) (aw (ak (al (al (az (aa rfl (ax rfl) (aw (ak (dt ?_)))))))))))))
  refine ce (fun X : Nat × List Int => X.1 ≤ c.rl.length ∧ (∀ j, j < X.1 → iH c j = false) ∧ X.2.length = 32 ∧ RT (eu c X.1) X.2) (fun X => [(1, .pointer (some ⟨b1, 0, none⟩)), (4, .pointer (some ⟨bt, 0, none⟩)), (6, .int .i64 X.1)]) (fun X => iJ bt X.2 :: pt b1 (cJ c) :: R) (fun X => c.rl.length - X.1) (0, List.replicate 32 (-1)) ?_ ?_ ?_ ?_
  ·exact ⟨Nat.zero_le _, fun j hj => absurd hj (Nat.not_lt_zero _), rfl, vz 32⟩
  ·repeat (first | exact aJ | refine aG rfl ?_)
  ·exact inferInstance
  ·intro ⟨i, L⟩ ⟨hi, hI, hL, hRT⟩
   dsimp only at hi hI hL hRT ⊢
   refine al (al (az (aa rfl (ag rfl) ?_)))
   refine aa rfl (ap rfl cG rfl jO rfl (by first | exact Nat.zero_add _ | rfl)) ?_
   refine aa rfl (am pf rfl (aH rfl)) ?_
   refine aa rfl (dU gX rfl) (aa rfl (eO rfl rfl) (aw (ak ?_)))
   refine ai rfl ?_ ?_
   ·intro c5
    refine cy (ak (al (dt (al ?_))))
    have hi1 : i < c.rl.length := by omega
    obtain ⟨g, o, hga, hc⟩ := (h.r []).at_ hi1
    obtain ⟨x, hx⟩ : ∃ x, c.rl[i] = x := ⟨_, rfl⟩
    have hA : fT c i = x := by simp [fT, List.getD, hi1, hx]
    rw [hx] at hc
    have hT : eu c (i + 1) = if dp x.1 c.cats = true then dS (eu c i) 32 x.2.1 x.2.2 i else eu c i := by rw [eu, hA]
    have hW : iH c i = !(dp x.1 c.cats && decide (da (eu c i) 32 x.2.1 x.2.2 i = 0)) := by rw [iH, hA]
    have hE := rz hRT (n := 32) (by rw [hL]; rfl) x.2.1 x.2.2 i
    have hS := vy hRT (n := 32) (by rw [hL]; rfl) (by decide) x.2.1 x.2.2 i
    rw [← hE] at hW
    have hbad : iH c i = true → fV c = true := fun q => by rw [fV, lh hi1 q, Bool.or_true]
    obtain ⟨v, hv⟩ : ∃ v, dp x.1 c.cats = v := ⟨_, rfl⟩
    rw [hv] at hT hW
    refine az ?_
    refine aa rfl (ap rfl cG rfl jO rfl (by first | exact Nat.zero_add _ | rfl)) ?_
    refine aa rfl (am pf rfl (aH rfl)) ?_
    refine aa rfl (ag rfl) ?_
    refine aa rfl (di gX ij rfl hga rfl rfl hi1 (by first | exact Nat.zero_add _ | rfl)) ?_
    refine aa rfl (cj y2 ij rfl hc.weak rfl) ?_
    refine ae rfl (cd pE) ?_
    rintro _ _ ⟨bx, rfl, rfl⟩
    refine b0 (bS ij rfl rfl rfl rfl rfl) ?_
    rintro _ _ rfl
    refine aw (ak (al (az ?_)))
    refine aa rfl (ap rfl gZ rfl ar rfl (by first | exact Nat.zero_add _ | rfl)) ?_
    refine aa rfl (am aT rfl (aH rfl)) ?_
    refine aa rfl (ap rfl cG rfl ar rfl (by first | exact Nat.zero_add _ | rfl)) ?_
    refine aa rfl (am aT rfl (aH rfl)) ?_
    refine ae rfl (aF yg rfl (rU W0 _ x.1 c.cats)) ?_
    rintro _ B_ ⟨rfl, hB_⟩
    obtain rfl := hB_.symm
    rw [hv]
    refine aa rfl (fM rfl) (aa rfl (ag rfl) ?_)
    refine aZ rfl rfl rfl ?_ ?_
    ·intro g8_7
     refine bK rfl rfl rfl rfl (bK rfl rfl rfl rfl (bK rfl rfl rfl rfl (bK rfl rfl rfl rfl (bK rfl rfl rfl rfl (bK rfl rfl rfl rfl (bK rfl rfl rfl rfl (aa rfl (cV rfl rfl) (aw (ak (iT rfl (al (az (aa rfl (ag rfl) (aa rfl (ax rfl) (aa rfl (ax rfl) (aw (ak (bY (dO (cn (cn (dO (cn ?_)))))))))))))))))))))))
     refine ah (.inl rfl) (.cons (ac rfl) (.cons (ac rfl) .nil)) ?_
     rw [hbad (by rw [hW]; first | (simp_all; done) | (rw [decide_eq_false (by omega), Bool.and_false]; rfl))]
     exact ⟨_, ⟨_, rfl, rfl⟩, inferInstance⟩
    ·intro g8_7
     refine aa rfl (ag rfl) (aY rfl rfl ?_)
     refine aa rfl (ap rfl gZ rfl ar rfl (by first | exact Nat.zero_add _ | rfl)) ?_
     refine aY rfl rfl (aa rfl (am aT rfl (aH rfl)) ?_)
     refine aY rfl rfl ?_
     refine aa rfl (ap rfl gZ rfl ar rfl (by first | exact Nat.zero_add _ | rfl)) ?_
     refine aY rfl rfl (aa rfl (am aT rfl (aH rfl)) ?_)
     refine aY rfl rfl (aa rfl (ag rfl) (aY rfl rfl ?_))
     refine ae rfl (aM Tryz.call179 rfl (wa W0 _ bt L (by omega) x.2.1 x.2.2 i)) ?_
     rintro _ B_ ⟨rfl, hB_⟩
     obtain rfl := hB_.symm
     refine aY rfl rfl (aa rfl (du rfl rfl) (aa rfl (d4 rfl rfl) (aw (ak ?_))))
     refine ai rfl ?_ ?_
     ·intro c8
      refine al (az (aa rfl (ag rfl) (aa rfl (ax rfl) (aa rfl (ax rfl) (aw (ak (bY (dO (cn (cn (dO (cn (ah (.inl rfl) (.cons (ac rfl) (.cons (ac rfl) .nil)) ?_)))))))))))))
      rw [hbad (by rw [hW]; first | (simp_all; done) | (rw [decide_eq_false (by omega), Bool.and_false]; rfl))]
      exact ⟨_, ⟨_, rfl, rfl⟩, inferInstance⟩
     ·intro c8
      refine cy (fY (ak ?_))
      have hv1 : v = true := by first | assumption | simp_all
      have hz : eK L x.2.1 x.2.2 i = 0 := by omega
      rw [hv1, if_pos rfl] at hT
      rw [hv1, hz] at hW
      refine az (aa rfl (ag rfl) ?_)
      refine aa rfl (bj rfl rfl (by first | exact aK (by omega) | rfl)) ?_
      refine aa rfl (ax rfl) (aw (ak ?_))
      refine bU (i + 1, gi L x.2.1 x.2.2 i) ?_ ?_ ?_ ?_
      ·exact ⟨by omega, mN hI hW, ry.trans hL, by rw [hT]; exact hS⟩
      ·omega
      ·repeat (first | exact aJ | refine aG rfl ?_)
      ·exact inferInstance
   ·intro c5
    refine gJ (eV (eV (i3 (ak (al (az (aa rfl (ax rfl) (aa rfl (ax rfl) (aw (ak (bY (ah (.inl rfl) (.cons (ac rfl) (.cons (ac rfl) .nil)) ?_))))))))))))
    obtain rfl : i = c.rl.length := by omega
    rw [fV, decide_eq_false (by omega), Bool.false_or, mu hI]
    exact ⟨_, ⟨0, rfl, rfl⟩, inferInstance⟩
theorem Cx (W0 : World) (R : List HP) (c : Cfg) (h : CfOk W0 c) :
  ao Tryz.prog W0 172 [.agg (bF c).toArray] R (fun v B => ∃ r, v = .tuple #[.bool (gP c), .int .i64 r] ∧ B = R) := by
 refine aD Tryz.func172 Tryz.ntmps172 rfl rfl ?_
 refine au 2 ?_
 refine ae rfl (bw rfl) ?_
 rintro _ _ ⟨b1, rfl, rfl⟩
 refine au 12 ?_
 refine aZ rfl rfl rfl ?_ ?_
 ·intro g1_5
  refine au 15 ?_
  refine ah (.inl rfl) (.cons (ac rfl) (.cons (ac rfl) .nil)) ?_
  rw [gP, decide_eq_true (by omega), Bool.true_or]
  exact ⟨_, ⟨0, rfl, rfl⟩, inferInstance⟩
 ·intro g1_5
  refine au 10 ?_
  refine ai rfl ?_ ?_
  ·intro c1
   refine au 8 ?_
   refine ah (.inl rfl) (.cons (ac rfl) (.cons (ac rfl) .nil)) ?_
   rw [gP, decide_eq_true (by omega), Bool.true_or]
   exact ⟨_, ⟨0, rfl, rfl⟩, inferInstance⟩
  ·intro c1
   refine au 9 ?_
   refine ce (fun i : Nat => i ≤ c.sl.length ∧ (∀ j, j < i → ir c (c.sl.getD j (0, 0)) = false)) (fun i => [(1, .pointer (some ⟨b1, 0, none⟩)), (4, .int .i64 i)]) (fun _ => pt b1 (cJ c) :: R) (fun i => c.sl.length - i) 0 ?_ ?_ ?_ ?_
   ·exact ⟨Nat.zero_le _, fun j hj => absurd hj (Nat.not_lt_zero _)⟩
   ·repeat (first | exact aJ | refine aG rfl ?_)
   ·exact inferInstance
   ·intro i ⟨hi, hI⟩
    refine au 10 ?_
    refine ai rfl ?_ ?_
    ·intro c4
     refine au 5 ?_
     have hi1 : i < c.sl.length := by omega
     obtain ⟨g, o, hga, hc⟩ := (h.s []).at_ hi1
     obtain ⟨x, hx⟩ : ∃ x, c.sl[i] = x := ⟨_, rfl⟩
     have hgd : c.sl.getD i (0, 0) = x := by simp [List.getD, hi1, hx]
     rw [hx] at hc
     have hbad : ir c x = true → gP c = true := fun q => by
      rw [gP, lh (w := fun i => ir c (c.sl.getD i (0, 0))) hi1 (by rw [hgd]; exact q), Bool.or_true]
     have hgood := fun q => mN (w := fun i => ir c (c.sl.getD i (0, 0))) hI (show ir c (c.sl.getD i (0, 0)) = false by rw [hgd]; exact q)
     obtain ⟨v, hv⟩ : ∃ v, dK c x.1 = v := ⟨_, rfl⟩
     have hW : ir c x = !(v && decide (1 ≤ x.2 ∧ x.2 ≤ 32)) := by rw [ir, hv]
     refine au 4 ?_
     refine aa rfl (di px lS rfl hga rfl rfl hi1 (by first | exact Nat.zero_add _ | rfl)) ?_
     refine aa rfl (cj Tryz.isAgg74 lS rfl hc.weak rfl) ?_
     refine ae rfl (cd te) ?_
     rintro _ _ ⟨bx, rfl, rfl⟩
     refine b0 (bS lS rfl rfl rfl rfl rfl) ?_
     rintro _ _ rfl
     refine au 7 ?_
     refine ae rfl (aF pG rfl (mM W0 _ c x.1)) ?_
     rintro _ B_ ⟨rfl, hB_⟩
     obtain rfl := hB_.symm
     rw [hv]
     refine au 2 ?_
     refine aZ rfl rfl rfl ?_ ?_
     ·intro g7_6
      refine au 24 ?_
      refine ah (.inl rfl) (.cons (ac rfl) (.cons (ac rfl) .nil)) ?_
      rw [hbad (by rw [hW]; first | (rw [decide_eq_false (by omega), Bool.and_false]; rfl) | (simp_all; done))]
      exact ⟨_, ⟨_, rfl, rfl⟩, inferInstance⟩
     ·intro g7_6
      refine au 7 ?_
      refine aZ rfl rfl rfl ?_ ?_
      ·intro g7_11
       refine au 19 ?_
       refine ah (.inl rfl) (.cons (ac rfl) (.cons (ac rfl) .nil)) ?_
       rw [hbad (by rw [hW]; first | (rw [decide_eq_false (by omega), Bool.and_false]; rfl) | (simp_all; done))]
       exact ⟨_, ⟨_, rfl, rfl⟩, inferInstance⟩
      ·intro g7_11
       refine au 8 ?_
       refine ai rfl ?_ ?_
       ·intro c7
        refine au 13 ?_
        refine ah (.inl rfl) (.cons (ac rfl) (.cons (ac rfl) .nil)) ?_
        rw [hbad (by rw [hW]; first | (rw [decide_eq_false (by omega), Bool.and_false]; rfl) | (simp_all; done))]
        exact ⟨_, ⟨_, rfl, rfl⟩, inferInstance⟩
       ·intro c7
        refine au 3 ?_
        have hv1 : v = true := by first | assumption | simp_all
        rw [hv1, decide_eq_true (by omega)] at hW
        refine au 2 ?_
        refine aa rfl (bj rfl rfl (by first | exact aK (by omega) | rfl)) ?_
        refine au 3 ?_
        refine bU (i + 1) ?_ ?_ ?_ ?_
        ·exact ⟨by omega, hgood hW⟩
        ·omega
        ·repeat (first | exact aJ | refine aG rfl ?_)
        ·exact inferInstance
    ·intro c4
     refine au 12 ?_
     refine ah (.inl rfl) (.cons (ac rfl) (.cons (ac rfl) .nil)) ?_
     obtain rfl : i = c.sl.length := by omega
     rw [gP, decide_eq_false (by omega), Bool.false_or, mu hI]
     exact ⟨_, ⟨0, rfl, rfl⟩, inferInstance⟩
theorem lw (W0 : World) (R : List HP) (c : Cfg) (hs : ∀ A, bT (bu W0 A) c.ga 3 dB c.gl) (hb : ∀ g ∈ c.gl, 1 ≤ g.2.1 ∧ g.2.1 ≤ 8 ∧ 0 ≤ g.2.2 ∧ g.2.2 ≤ 8 - g.2.1) (hn : c.nl.length ≤ 4) (hg : c.gl.length ≤ 4) :
  ao Tryz.prog W0 174 [.agg (bF c).toArray] R (fun v B => v = .int .i64 (d9 c c.gl.length) ∧ B = R) := by
 have hle := rj hb hn
 refine aD Tryz.func174 Tryz.ntmps174 rfl rfl ?_
 refine au 2 ?_
 refine ae rfl (bw rfl) ?_
 rintro _ _ ⟨b1, rfl, rfl⟩
 refine au 18 ?_
 refine ce (fun i : Nat => i ≤ c.gl.length) (fun i => [(1, .pointer (some ⟨b1, 0, none⟩)), (3, .int .i64 (d9 c i)), (4, .int .i64 (i : Nat))]) (fun _ => pt b1 (cJ c) :: R) (fun i => c.gl.length - i) 0 ?_ ?_ ?_ ?_
 ·exact Nat.zero_le _
 ·repeat (first | exact aJ | refine aG rfl ?_)
 ·exact inferInstance
 ·intro i hi
  refine au 10 ?_
  refine ai rfl ?_ ?_
  ·intro c3
   refine au 4 ?_
   have hi1 : i < c.gl.length := by omega
   obtain ⟨g, o, hga, hc⟩ := (hs []).at_ hi1
   obtain ⟨x, hx⟩ : ∃ x, c.gl[i] = x := ⟨_, rfl⟩
   rw [hx] at hc
   have hbx := hb _ (List.getElem_mem hi1)
   rw [hx] at hbx
   have hst : d9 c (i + 1) = d9 c i + (x.2.1 + x.2.2) := by rw [d9, show c.gl.getD i (0, 0, 0) = x by simp [List.getD, hi1, hx]]
   have hl1 := hle i hi
   refine bR [(b1, 0, bF c), (g, o + i * 3, dB x)] 16 bQ rfl (aC (cm hc.weak aB)) (fun hS => ?_)
   refine ab 0 rfl rfl rfl hS (ag rfl) ?_
   refine ab 1 rfl rfl rfl hS (ap rfl cG rfl fc rfl (by first | exact Nat.zero_add _ | rfl)) ?_
   refine ab 2 rfl rfl rfl hS (am fA rfl (by first | exact av (k := 0) rfl rfl | exact av (k := 1) rfl rfl)) ?_
   refine ab 3 rfl rfl rfl hS (ag rfl) ?_
   refine ab 4 rfl rfl rfl hS (di eC ei rfl hga rfl rfl hi1 (by first | exact Nat.zero_add _ | rfl)) ?_
   refine ab 5 rfl rfl rfl hS (ap rfl dC rfl ar rfl (by first | exact Nat.zero_add _ | rfl)) ?_
   refine ab 6 rfl rfl rfl hS (am aT rfl (f6 (k := 1) (j := 1) rfl rfl)) ?_
   refine ab 7 rfl rfl rfl hS (bj rfl rfl (aK (by omega))) ?_
   refine ab 8 rfl rfl rfl hS (ap rfl cG rfl fc rfl (by first | exact Nat.zero_add _ | rfl)) ?_
   refine ab 9 rfl rfl rfl hS (am fA rfl (by first | exact av (k := 0) rfl rfl | exact av (k := 1) rfl rfl)) ?_
   refine ab 10 rfl rfl rfl hS (ag rfl) ?_
   refine ab 11 rfl rfl rfl hS (di eC ei rfl hga rfl rfl hi1 (by first | exact Nat.zero_add _ | rfl)) ?_
   refine ab 12 rfl rfl rfl hS (ap rfl dC rfl ar rfl (by first | exact Nat.zero_add _ | rfl)) ?_
   refine ab 13 rfl rfl rfl hS (am aT rfl (f6 (k := 1) (j := 2) rfl rfl)) ?_
   refine ab 14 rfl rfl rfl hS (bj rfl rfl (by rw [aK (by omega), hst]; omega : IntKind.wrap .i64 (d9 c i + x.2.1 + x.2.2) = d9 c (i + 1))) ?_
   refine ab 15 rfl rfl rfl hS (ax rfl) ?_
   refine bz (by kernel_rfl) ?_; clear hS
   refine au 4 ?_
   refine aa rfl (bj rfl rfl (by first | exact aK (by omega) | rfl)) ?_
   refine au 3 ?_
   refine bU (i + 1) ?_ ?_ ?_ ?_
   ·omega
   ·omega
   ·repeat (first | exact aJ | refine aG rfl ?_)
   ·exact inferInstance
  ·intro c3
   refine au 12 ?_
   refine ah (.inl rfl) (.cons (ac rfl) .nil) ?_
   obtain rfl : i = c.gl.length := by omega
   exact ⟨_, ⟨rfl, rfl⟩, inferInstance⟩
theorem rV {W0 : World} {c : Cfg} (h : CfOk W0 c) (q : Int) : ∃ (gg og j : Nat) (vs : List Value), (∀ A, cp (bu W0 A) gg (og + j * 3) vs) ∧ (dK c q = true → c.ga = some ⟨gg, og, none⟩ ∧ q = (j : Int) ∧ j < c.gl.length ∧ ∃ u : Int × Int × Int, vs = dB u ∧ f8 c q = u.1) := by
 cases hG : dK c q with
 | false => exact ⟨0, 0, 0, [], fun A k v hk => by simp at hk, fun h => by cases h⟩
 | true =>
  have hb : 0 ≤ q ∧ q < c.gl.length := of_decide_eq_true hG
  obtain ⟨j, rfl⟩ : ∃ j : Nat, q = (j : Int) := ⟨q.toNat, by omega⟩
  have hj : j < c.gl.length := by omega
  obtain ⟨gg, og, hga, _⟩ := (h.g []).at_ hj
  refine ⟨gg, og, j, dB c.gl[j], fun A => ?_, fun _ => ⟨hga, rfl, hj, c.gl[j], rfl, ?_⟩⟩
  ·obtain ⟨g2, o2, h2, hc2⟩ := (h.g A).at_ hj
   rw [hga] at h2; cases h2; exact hc2
  ·rw [f8, Int.toNat_natCast]; simp [List.getD, hj]
theorem Cy {c : Cfg} {q : Int} (h : dK c q = true) : 0 ≤ q ∧ q < c.gl.length := of_decide_eq_true h
theorem Cz {c : Cfg} {q : Int} (h : dK c q = false) : ¬ (0 ≤ q ∧ q < c.gl.length) := of_decide_eq_false h
theorem CB (W0 : World) (R : List HP) (c : Cfg) (h : CfOk W0 c) :
  ao Tryz.prog W0 171 [.agg (bF c).toArray] R (fun v B => ∃ r, v = .tuple #[.bool (eI c), .int .i64 r] ∧ B = R) := by
 refine aD Tryz.func171 Tryz.ntmps171 rfl rfl ?_
 refine au 2 ?_
 refine ae rfl (bw rfl) ?_
 rintro _ _ ⟨b1, rfl, rfl⟩
 refine au 13 ?_
 refine ai rfl ?_ ?_
 ·intro c1
  refine au 8 ?_
  refine ah (.inl rfl) (.cons (ac rfl) (.cons (ac rfl) .nil)) ?_
  rw [eI, decide_eq_true (by omega), Bool.true_or]
  exact ⟨_, ⟨0, rfl, rfl⟩, inferInstance⟩
 ·intro c1
  refine au 9 ?_
  refine ce (fun i : Nat => i ≤ c.nl.length ∧ (∀ j, j < i → fR c (c.nl.getD j (0, 0)) = false)) (fun i => [(1, .pointer (some ⟨b1, 0, none⟩)), (4, .int .i64 i)]) (fun _ => pt b1 (cJ c) :: R) (fun i => c.nl.length - i) 0 ?_ ?_ ?_ ?_
  ·exact ⟨Nat.zero_le _, fun j hj => absurd hj (Nat.not_lt_zero _)⟩
  ·repeat (first | exact aJ | refine aG rfl ?_)
  ·exact inferInstance
  ·intro i ⟨hi, hI⟩
   refine au 10 ?_
   refine ai rfl ?_ ?_
   ·intro c4
    refine au 5 ?_
    have hi1 : i < c.nl.length := by omega
    obtain ⟨g, o, hga, hc⟩ := (h.n []).at_ hi1
    obtain ⟨⟨p, q⟩, hx⟩ : ∃ x, c.nl[i] = x := ⟨_, rfl⟩
    have hgd : c.nl.getD i (0, 0) = (p, q) := by simp [List.getD, hi1, hx]
    rw [hx] at hc
    have hbad : fR c (p, q) = true → eI c = true := fun z => by
     rw [eI, lh (w := fun i => fR c (c.nl.getD i (0, 0))) hi1 (by rw [hgd]; exact z), Bool.or_true]
    have hgood := fun z => mN (w := fun i => fR c (c.nl.getD i (0, 0))) hI (show fR c (c.nl.getD i (0, 0)) = false by rw [hgd]; exact z)
    obtain ⟨g1, o1, j1, vs1, hcv1, hr1⟩ := rV h p
    obtain ⟨g2, o2, j2, vs2, hcv2, hr2⟩ := rV h q
    obtain ⟨w1, hw1⟩ : ∃ w, dK c p = w := ⟨_, rfl⟩
    obtain ⟨w2, hw2⟩ : ∃ w, dK c q = w := ⟨_, rfl⟩
    have hW : fR c (p, q) = !(w1 && w2 && decide (p ≠ q) && io (f8 c p) (f8 c q)) := by rw [fR, hw1, hw2]
    rw [hw1] at hr1
    rw [hw2] at hr2
    refine au 4 ?_
    refine aa rfl (di gk dT rfl hga rfl rfl hi1 (by first | exact Nat.zero_add _ | rfl)) ?_
    refine aa rfl (cj kF dT rfl hc.weak rfl) ?_
    refine ae rfl (cd gY) ?_
    rintro _ _ ⟨bx, rfl, rfl⟩
    refine b0 (bS dT rfl rfl rfl rfl rfl) ?_
    rintro _ _ rfl
    refine au 3 ?_
    refine bR [(b1, 0, bF c), (bx, 0, cM (p, q)), (g1, o1 + j1 * 3, vs1), (g2, o2 + j2 * 3, vs2)] 37 bQ rfl (aC (aC (cm (hcv1 _) (cm (hcv2 _) aB)))) (fun hS => ?_)
    refine ab 0 rfl rfl rfl hS (cj gC dM rfl (by first | exact cT (k := 0) rfl | exact cT (k := 1) rfl | exact cT (k := 2) rfl | exact cT (k := 3) rfl | exact cT (k := 4) rfl) rfl) ?_
    refine ab 1 rfl rfl rfl hS (ap rfl fe rfl ar rfl (by first | exact Nat.zero_add _ | rfl)) ?_
    refine ab 2 rfl rfl rfl hS (am aT rfl (by first | exact av (k := 0) rfl rfl | exact av (k := 1) rfl rfl | exact av (k := 2) rfl rfl | exact av (k := 3) rfl rfl | exact av (k := 4) rfl rfl)) ?_
    refine aW 3 (by kernel_rfl) rfl rfl (aF pG rfl (mM W0 _ c p)) rfl ?_; clear hS
    rintro _ B_ ⟨rfl, hB_⟩
    obtain rfl := hB_.symm
    rw [hw1]
    refine ⟨(aC (aC (cm (hcv1 _) (cm (hcv2 _) aB)))), fun hS => ?_⟩
    refine ab 4 rfl rfl rfl hS (fM rfl) ?_
    refine ab 5 rfl rfl rfl hS (ag rfl) ?_
    refine je (t := 27) rfl ?_ ?_
    ·intro g7_6
     refine aV 6 rfl rfl rfl hS ?_
     refine aV 7 rfl rfl rfl hS ?_
     refine aV 8 rfl rfl rfl hS ?_
     refine aV 9 rfl rfl rfl hS ?_
     refine aV 10 rfl rfl rfl hS ?_
     refine ab 11 rfl rfl rfl hS (cV rfl rfl) ?_
     refine ab 12 rfl rfl rfl hS (ag rfl) ?_
     refine aV 13 rfl rfl rfl hS ?_
     refine aV 14 rfl rfl rfl hS ?_
     refine aV 15 rfl rfl rfl hS ?_
     refine aV 16 rfl rfl rfl hS ?_
     refine aV 17 rfl rfl rfl hS ?_
     refine ab 18 rfl rfl rfl hS (cV rfl rfl) ?_
     refine ab 19 rfl rfl rfl hS (ag rfl) ?_
     refine aV 20 rfl rfl rfl hS ?_
     refine aV 21 rfl rfl rfl hS ?_
     refine aV 22 rfl rfl rfl hS ?_
     refine aV 23 rfl rfl rfl hS ?_
     refine aV 24 rfl rfl rfl hS ?_
     refine aV 25 rfl rfl rfl hS ?_
     refine aV 26 rfl rfl rfl hS ?_
     refine aV 27 rfl rfl rfl hS ?_
     refine aV 28 rfl rfl rfl hS ?_
     refine aV 29 rfl rfl rfl hS ?_
     refine aV 30 rfl rfl rfl hS ?_
     refine aV 31 rfl rfl rfl hS ?_
     refine aV 32 rfl rfl rfl hS ?_
     refine aV 33 rfl rfl rfl hS ?_
     refine aV 34 rfl rfl rfl hS ?_
     refine aV 35 rfl rfl rfl hS ?_
     refine ab 36 rfl rfl rfl hS (cV rfl rfl) ?_
     refine bz (by kernel_rfl) ?_; clear hS
     refine au 15 ?_
     refine ah (.inl rfl) (.cons (ac rfl) (.cons (ac rfl) .nil)) ?_
     rw [hbad (by rw [hW]; first | (simp_all; done) | (rw [decide_eq_false (by omega)]; simp))]
     exact ⟨_, ⟨_, rfl, rfl⟩, inferInstance⟩
    ·intro g7_6
     refine ab 6 rfl rfl rfl hS (cj gC dM rfl (by first | exact cT (k := 0) rfl | exact cT (k := 1) rfl | exact cT (k := 2) rfl | exact cT (k := 3) rfl | exact cT (k := 4) rfl) rfl) ?_
     refine ab 7 rfl rfl rfl hS (ap rfl fe rfl ar rfl (by first | exact Nat.zero_add _ | rfl)) ?_
     refine ab 8 rfl rfl rfl hS (am aT rfl (by first | exact av (k := 0) rfl rfl | exact av (k := 1) rfl rfl | exact av (k := 2) rfl rfl | exact av (k := 3) rfl rfl | exact av (k := 4) rfl rfl)) ?_
     refine aW 9 (by kernel_rfl) rfl rfl (aF pG rfl (mM W0 _ c q)) rfl ?_; clear hS
     rintro _ B_ ⟨rfl, hB_⟩
     obtain rfl := hB_.symm
     rw [hw2]
     refine ⟨(aC (aC (cm (hcv1 _) (cm (hcv2 _) aB)))), fun hS => ?_⟩
     refine ab 10 rfl rfl rfl hS (fM rfl) ?_
     refine ab 11 rfl rfl rfl hS (d4 rfl rfl) ?_
     refine ab 12 rfl rfl rfl hS (ag rfl) ?_
     refine je (t := 34) rfl ?_ ?_
     ·intro g7_13
      refine aV 13 rfl rfl rfl hS ?_
      refine aV 14 rfl rfl rfl hS ?_
      refine aV 15 rfl rfl rfl hS ?_
      refine aV 16 rfl rfl rfl hS ?_
      refine aV 17 rfl rfl rfl hS ?_
      refine ab 18 rfl rfl rfl hS (cV rfl rfl) ?_
      refine ab 19 rfl rfl rfl hS (ag rfl) ?_
      refine aV 20 rfl rfl rfl hS ?_
      refine aV 21 rfl rfl rfl hS ?_
      refine aV 22 rfl rfl rfl hS ?_
      refine aV 23 rfl rfl rfl hS ?_
      refine aV 24 rfl rfl rfl hS ?_
      refine aV 25 rfl rfl rfl hS ?_
      refine aV 26 rfl rfl rfl hS ?_
      refine aV 27 rfl rfl rfl hS ?_
      refine aV 28 rfl rfl rfl hS ?_
      refine aV 29 rfl rfl rfl hS ?_
      refine aV 30 rfl rfl rfl hS ?_
      refine aV 31 rfl rfl rfl hS ?_
      refine aV 32 rfl rfl rfl hS ?_
      refine aV 33 rfl rfl rfl hS ?_
      refine aV 34 rfl rfl rfl hS ?_
      refine aV 35 rfl rfl rfl hS ?_
      refine ab 36 rfl rfl rfl hS (cV rfl rfl) ?_
      refine bz (by kernel_rfl) ?_; clear hS
      refine au 15 ?_
      refine ah (.inl rfl) (.cons (ac rfl) (.cons (ac rfl) .nil)) ?_
      rw [hbad (by rw [hW]; first | (simp_all; done) | (rw [decide_eq_false (by omega)]; simp))]
      exact ⟨_, ⟨_, rfl, rfl⟩, inferInstance⟩
     ·intro g7_13
      refine ab 13 rfl rfl rfl hS (ap rfl fe rfl ar rfl (by first | exact Nat.zero_add _ | rfl)) ?_
      refine ab 14 rfl rfl rfl hS (am aT rfl (by first | exact av (k := 0) rfl rfl | exact av (k := 1) rfl rfl | exact av (k := 2) rfl rfl | exact av (k := 3) rfl rfl | exact av (k := 4) rfl rfl)) ?_
      refine ab 15 rfl rfl rfl hS (ap rfl fe rfl ar rfl (by first | exact Nat.zero_add _ | rfl)) ?_
      refine ab 16 rfl rfl rfl hS (am aT rfl (by first | exact av (k := 0) rfl rfl | exact av (k := 1) rfl rfl | exact av (k := 2) rfl rfl | exact av (k := 3) rfl rfl | exact av (k := 4) rfl rfl)) ?_
      refine ab 17 rfl rfl rfl hS (dd rfl rfl) ?_
      refine ab 18 rfl rfl rfl hS (d4 rfl rfl) ?_
      refine ab 19 rfl rfl rfl hS (ag rfl) ?_
      refine je (t := 41) rfl ?_ ?_
      ·intro g7_20
       refine aV 20 rfl rfl rfl hS ?_
       refine aV 21 rfl rfl rfl hS ?_
       refine aV 22 rfl rfl rfl hS ?_
       refine aV 23 rfl rfl rfl hS ?_
       refine aV 24 rfl rfl rfl hS ?_
       refine aV 25 rfl rfl rfl hS ?_
       refine aV 26 rfl rfl rfl hS ?_
       refine aV 27 rfl rfl rfl hS ?_
       refine aV 28 rfl rfl rfl hS ?_
       refine aV 29 rfl rfl rfl hS ?_
       refine aV 30 rfl rfl rfl hS ?_
       refine aV 31 rfl rfl rfl hS ?_
       refine aV 32 rfl rfl rfl hS ?_
       refine aV 33 rfl rfl rfl hS ?_
       refine aV 34 rfl rfl rfl hS ?_
       refine aV 35 rfl rfl rfl hS ?_
       refine ab 36 rfl rfl rfl hS (cV rfl rfl) ?_
       refine bz (by kernel_rfl) ?_; clear hS
       refine au 15 ?_
       refine ah (.inl rfl) (.cons (ac rfl) (.cons (ac rfl) .nil)) ?_
       rw [hbad (by rw [hW]; first | (simp_all; done) | (rw [decide_eq_false (by omega)]; simp))]
       exact ⟨_, ⟨_, rfl, rfl⟩, inferInstance⟩
      ·intro g7_20
       obtain rfl : w1 = true := by first | assumption | simp_all
       obtain rfl : w2 = true := by first | assumption | simp_all
       obtain ⟨ha1, hq1, hj1, u1, rfl, hl1⟩ := hr1 rfl
       obtain ⟨ha2, hq2, hj2, u2, rfl, hl2⟩ := hr2 rfl
       rw [hl1, hl2] at hW
       refine ab 20 rfl rfl rfl hS (ap rfl cG rfl fc rfl (by first | exact Nat.zero_add _ | rfl)) ?_
       refine ab 21 rfl rfl rfl hS (am fA rfl (by first | exact av (k := 0) rfl rfl | exact av (k := 1) rfl rfl | exact av (k := 2) rfl rfl | exact av (k := 3) rfl rfl | exact av (k := 4) rfl rfl)) ?_
       refine ab 22 rfl rfl rfl hS (ap rfl fe rfl ar rfl (by first | exact Nat.zero_add _ | rfl)) ?_
       refine ab 23 rfl rfl rfl hS (am aT rfl (by first | exact av (k := 0) rfl rfl | exact av (k := 1) rfl rfl | exact av (k := 2) rfl rfl | exact av (k := 3) rfl rfl | exact av (k := 4) rfl rfl)) ?_
       refine ab 24 rfl rfl rfl hS (di eC ei rfl ha1 rfl hq1 hj1 (by first | exact Nat.zero_add _ | rfl)) ?_
       refine ab 25 rfl rfl rfl hS (ap rfl dC rfl ar rfl (by first | exact Nat.zero_add _ | rfl)) ?_
       refine ab 26 rfl rfl rfl hS (am aT rfl (f6 (k := 2) (j := 0) rfl rfl)) ?_
       refine ab 27 rfl rfl rfl hS (ap rfl cG rfl fc rfl (by first | exact Nat.zero_add _ | rfl)) ?_
       refine ab 28 rfl rfl rfl hS (am fA rfl (by first | exact av (k := 0) rfl rfl | exact av (k := 1) rfl rfl | exact av (k := 2) rfl rfl | exact av (k := 3) rfl rfl | exact av (k := 4) rfl rfl)) ?_
       refine ab 29 rfl rfl rfl hS (ap rfl fe rfl ar rfl (by first | exact Nat.zero_add _ | rfl)) ?_
       refine ab 30 rfl rfl rfl hS (am aT rfl (by first | exact av (k := 0) rfl rfl | exact av (k := 1) rfl rfl | exact av (k := 2) rfl rfl | exact av (k := 3) rfl rfl | exact av (k := 4) rfl rfl)) ?_
       refine ab 31 rfl rfl rfl hS (di eC ei rfl ha2 rfl hq2 hj2 (by first | exact Nat.zero_add _ | rfl)) ?_
       refine ab 32 rfl rfl rfl hS (ap rfl dC rfl ar rfl (by first | exact Nat.zero_add _ | rfl)) ?_
       refine ab 33 rfl rfl rfl hS (am aT rfl (f6 (k := 3) (j := 0) rfl rfl)) ?_
       refine aW 34 (by kernel_rfl) rfl rfl (aF Tryz.call277 rfl (A3 W0 _ u1.1 u2.1)) rfl ?_; clear hS
       rintro _ B_ ⟨rfl, hB_⟩
       obtain rfl := hB_.symm
       refine ⟨(aC (aC (cm (hcv1 _) (cm (hcv2 _) aB)))), fun hS => ?_⟩
       refine ab 35 rfl rfl rfl hS (fM rfl) ?_
       refine ab 36 rfl rfl rfl hS (d4 rfl rfl) ?_
       refine bz (by kernel_rfl) ?_; clear hS
       refine ak ?_
       refine ai rfl ?_ ?_
       ·intro c7
        refine au 13 ?_
        refine ah (.inl rfl) (.cons (ac rfl) (.cons (ac rfl) .nil)) ?_
        rw [hbad (by rw [hW]; first | (simp_all; done) | (rw [decide_eq_false (by omega)]; simp))]
        exact ⟨_, ⟨_, rfl, rfl⟩, inferInstance⟩
       ·intro c7
        refine au 5 ?_
        refine aa rfl (bj rfl rfl (by first | exact aK (by omega) | rfl)) ?_
        refine au 3 ?_
        refine bU (i + 1) ?_ ?_ ?_ ?_
        ·refine ⟨by omega, hgood ?_⟩
         rw [hW, decide_eq_true (by omega)]; simp_all
        ·omega
        ·repeat (first | exact aJ | refine aG rfl ?_)
        ·exact inferInstance
   ·intro c4
    refine au 12 ?_
    refine ah (.inl rfl) (.cons (ac rfl) (.cons (ac rfl) .nil)) ?_
    obtain rfl : i = c.nl.length := by omega
    rw [eI, decide_eq_false (by omega), Bool.false_or, mu hI]
    exact ⟨_, ⟨0, rfl, rfl⟩, inferInstance⟩
theorem wc {c : Cfg} {g : Int} {k j : Nat} (hj : j < k) (h : j < c.pl.length) (e : (c.pl[j]).2 = g) : gQ c g k = true := by
 rw [gQ, List.any_eq_true]
 exact ⟨c.pl[j], List.mem_take_iff_getElem.2 ⟨j, by omega, rfl⟩, decide_eq_true e⟩
theorem wd {c : Cfg} {g : Int} {k : Nat} (hI : ∀ j, j < k → (c.pl.getD j (0, 0)).2 ≠ g) : gQ c g k = false := by
 rw [gQ, List.any_eq_false]
 intro x hx
 obtain ⟨j, hj, rfl⟩ := List.mem_take_iff_getElem.1 hx
 have := hI j (by omega)
 rw [show c.pl.getD j (0, 0) = c.pl[j]'(by omega) by simp [List.getD, show j < c.pl.length by omega]] at this
 simpa using this
theorem CC (W0 : World) (R : List HP) (c : Cfg) (h : CfOk W0 c) :
    ao Tryz.prog W0 170 [.agg (bF c).toArray] R (fun v B => ∃ r, v = .tuple #[.bool (gR c), .int .i64 r] ∧ B = R) := by
  refine aD Tryz.func170 Tryz.ntmps170 rfl rfl ?_
  refine au 2 ?_
  refine ae rfl (bw rfl) ?_
  rintro _ _ ⟨b1, rfl, rfl⟩
  refine au 13 ?_
  refine ai rfl ?_ ?_
  · intro c1
    refine au 8 ?_
    refine ah (.inl rfl) (.cons (ac rfl) (.cons (ac rfl) .nil)) ?_
    rw [gR, decide_eq_true (by omega), Bool.true_or]
    exact ⟨_, ⟨0, rfl, rfl⟩, inferInstance⟩
  · intro c1
    refine au 9 ?_
    refine ce (fun i : Nat => i ≤ c.pl.length ∧ (∀ j, j < i → iI c j = false)) (fun i => [(1, .pointer (some ⟨b1, 0, none⟩)), (4, .int .i64 i)]) (fun _ => pt b1 (cJ c) :: R) (fun i => c.pl.length - i) 0 ?_ ?_ ?_ ?_
    · exact ⟨Nat.zero_le _, fun j hj => absurd hj (Nat.not_lt_zero _)⟩
    · repeat (first | exact aJ | refine aG rfl ?_)
    · exact inferInstance
    · intro i ⟨hi, hI⟩
      refine au 10 ?_
      refine ai rfl ?_ ?_
      · intro c4
        refine au 5 ?_
        have hi1 : i < c.pl.length := by omega
        obtain ⟨g, o, hga, hc⟩ := (h.p []).at_ hi1
        obtain ⟨⟨p, q⟩, hx⟩ : ∃ x, c.pl[i] = x := ⟨_, rfl⟩
        have hgd : c.pl.getD i (0, 0) = (p, q) := by simp [List.getD, hi1, hx]
        rw [hx] at hc
        have hbad : iI c i = true → gR c = true := fun z => by
          rw [gR, lh hi1 z, Bool.or_true]
        have hgood := fun z => mN (w := iI c) hI z
        obtain ⟨g1, o1, j1, vs1, hcv1, hr1⟩ := rV h q
        obtain ⟨w1, hw1⟩ : ∃ w, dK c q = w := ⟨_, rfl⟩
        obtain ⟨v1, hv1⟩ : ∃ w, dp p c.cats = w := ⟨_, rfl⟩
        have hW : iI c i = (!v1 || (decide (q ≠ -1) && (!w1 || decide (p ≠ f8 c q) || gQ c q i))) := by rw [iI, hgd, hw1, hv1]
        rw [hw1] at hr1
        have hlt : w1 = true → 0 ≤ q := fun z => (Cy (hw1.trans z)).1
        have hge : w1 = false → ¬ (0 ≤ q ∧ q < c.gl.length) := fun z => Cz (hw1.trans z)
        refine au 4 ?_
        refine aa rfl (di gE eT rfl hga rfl rfl hi1 (by first | exact Nat.zero_add _ | rfl)) ?_
        refine aa rfl (cj ni eT rfl hc.weak rfl) ?_
        refine ae rfl (cd jR) ?_
        rintro _ _ ⟨bx, rfl, rfl⟩
        refine b0 (bS eT rfl rfl rfl rfl rfl) ?_
        rintro _ _ rfl
        refine au 9 ?_
        refine ae rfl (aF yg rfl (rU W0 _ p c.cats)) ?_
        rintro _ B_ ⟨rfl, hB_⟩
        obtain rfl := hB_.symm
        rw [hv1]
        refine au 2 ?_
        refine aZ rfl rfl rfl ?_ ?_
        · intro g7_7
          refine au 27 ?_
          refine ah (.inl rfl) (.cons (ac rfl) (.cons (ac rfl) .nil)) ?_
          rw [hbad (by rw [hW]; simp_all)]
          exact ⟨_, ⟨_, rfl, rfl⟩, inferInstance⟩
        · intro g7_7
          refine au 7 ?_
          refine bX rfl rfl rfl ?_ ?_
          · intro g7_11
            refine au 6 ?_
            refine ae rfl (aF pG rfl (mM W0 _ c q)) ?_
            rintro _ B_ ⟨rfl, hB_⟩
            obtain rfl := hB_.symm
            rw [hw1]
            refine au 7 ?_
            refine ai rfl ?_ ?_
            · intro c7
              refine au 14 ?_
              refine ah (.inl rfl) (.cons (ac rfl) (.cons (ac rfl) .nil)) ?_
              rw [hbad (by rw [hW]; simp_all)]
              exact ⟨_, ⟨_, rfl, rfl⟩, inferInstance⟩
            · intro c7
              refine au 2 ?_
              refine gn (fun _ : Unit => v1 = true ∧ (q = -1 ∨ (w1 = true ∧ p = f8 c q))) (fun _ => [(1, .pointer (some ⟨b1, 0, none⟩)), (4, .int .i64 i), (5, .pointer (some ⟨bx, 0, none⟩))]) (fun _ => pt bx (aj (cM (p, q)) 159) :: pt b1 (cJ c) :: R) ?_ ?_
              · skip
                refine al ?_
                have hv2 : v1 = true := by simp_all
                have hq2 : q = -1 ∨ w1 = true := by
                  by_cases z : q = -1
                  · exact .inl z
                  · right; simp_all
                refine bR [(b1, 0, bF c), (bx, 0, cM (p, q)), (g1, o1 + j1 * 3, vs1)] 15 bQ rfl (aC (aC (cm (hcv1 _) aB))) (fun hS => ?_)
                refine ab 0 rfl rfl rfl hS (ap rfl fB rfl ar rfl (by first | exact Nat.zero_add _ | rfl)) ?_
                refine ab 1 rfl rfl rfl hS (am aT rfl (by first | exact av (k := 0) rfl rfl | exact av (k := 1) rfl rfl | exact av (k := 2) rfl rfl | exact av (k := 3) rfl rfl)) ?_
                refine ab 2 rfl rfl rfl hS (iQ rfl rfl) ?_
                refine ab 3 rfl rfl rfl hS (ag rfl) ?_
                refine je (t := 45) rfl ?_ ?_
                · intro g9_4
                  obtain rfl : w1 = true := by
                    rcases hq2 with z | z
                    · exact absurd z (by omega)
                    · exact z
                  obtain ⟨ha1, hq1, hj1, u1, rfl, hl1⟩ := hr1 rfl
                  refine ab 4 rfl rfl rfl hS (ap rfl fB rfl ar rfl (by first | exact Nat.zero_add _ | rfl)) ?_
                  refine ab 5 rfl rfl rfl hS (am aT rfl (by first | exact av (k := 0) rfl rfl | exact av (k := 1) rfl rfl | exact av (k := 2) rfl rfl | exact av (k := 3) rfl rfl)) ?_
                  refine ab 6 rfl rfl rfl hS (ap rfl cG rfl fc rfl (by first | exact Nat.zero_add _ | rfl)) ?_
                  refine ab 7 rfl rfl rfl hS (am fA rfl (by first | exact av (k := 0) rfl rfl | exact av (k := 1) rfl rfl | exact av (k := 2) rfl rfl | exact av (k := 3) rfl rfl)) ?_
                  refine ab 8 rfl rfl rfl hS (ap rfl fB rfl ar rfl (by first | exact Nat.zero_add _ | rfl)) ?_
                  refine ab 9 rfl rfl rfl hS (am aT rfl (by first | exact av (k := 0) rfl rfl | exact av (k := 1) rfl rfl | exact av (k := 2) rfl rfl | exact av (k := 3) rfl rfl)) ?_
                  refine ab 10 rfl rfl rfl hS (di eC ei rfl ha1 rfl hq1 hj1 (by first | exact Nat.zero_add _ | rfl)) ?_
                  refine ab 11 rfl rfl rfl hS (ap rfl dC rfl ar rfl (by first | exact Nat.zero_add _ | rfl)) ?_
                  refine ab 12 rfl rfl rfl hS (am aT rfl (f6 (k := 2) (j := 0) rfl rfl)) ?_
                  refine ab 13 rfl rfl rfl hS (du rfl rfl) ?_
                  refine ab 14 rfl rfl rfl hS (cV rfl rfl) ?_
                  refine bz (by kernel_rfl) ?_; clear hS
                  refine ak ?_
                  refine ai rfl ?_ ?_
                  · intro c9
                    refine au 9 ?_
                    refine ah (.inl rfl) (.cons (ac rfl) (.cons (ac rfl) .nil)) ?_
                    rw [hbad (by rw [hW, hv2, hl1, decide_eq_true (show p ≠ u1.1 by omega)]; simp_all)]
                    exact ⟨_, ⟨_, rfl, rfl⟩, inferInstance⟩
                  · intro c9
                    refine au 2 ?_
                    refine d8 () ?_ ?_ ?_
                    · refine ⟨hv2, ?_⟩
                      first
                        | (left; rcases hq2 with z | z
                           · exact z
                           · exact absurd (hlt z) (by omega))
                        | exact .inr ⟨rfl, by rw [hl1]; omega⟩
                    · repeat (first | exact aJ | refine aG rfl ?_)
                    · exact inferInstance
                · intro g9_4
                  refine aV 4 rfl rfl rfl hS ?_
                  refine aV 5 rfl rfl rfl hS ?_
                  refine aV 6 rfl rfl rfl hS ?_
                  refine aV 7 rfl rfl rfl hS ?_
                  refine aV 8 rfl rfl rfl hS ?_
                  refine aV 9 rfl rfl rfl hS ?_
                  refine aV 10 rfl rfl rfl hS ?_
                  refine aV 11 rfl rfl rfl hS ?_
                  refine aV 12 rfl rfl rfl hS ?_
                  refine aV 13 rfl rfl rfl hS ?_
                  refine ab 14 rfl rfl rfl hS (d4 rfl rfl) ?_
                  refine bz (by kernel_rfl) ?_; clear hS
                  refine au 4 ?_
                  refine d8 () ?_ ?_ ?_
                  · refine ⟨hv2, ?_⟩
                    first
                      | (left; rcases hq2 with z | z
                         · exact z
                         · exact absurd (hlt z) (by omega))
                      | exact .inr ⟨rfl, by rw [hl1]; omega⟩
                  · repeat (first | exact aJ | refine aG rfl ?_)
                  · exact inferInstance
              · intro _ ⟨hv2, hcut⟩
                rw [hv2, show (!true) = false from rfl, Bool.false_or] at hW
                refine au 6 ?_
                refine ce (fun k : Nat => k ≤ i ∧ ∀ j, j < k → 0 ≤ q → (c.pl.getD j (0, 0)).2 ≠ q) (fun k => [(1, .pointer (some ⟨b1, 0, none⟩)), (4, .int .i64 i), (5, .pointer (some ⟨bx, 0, none⟩)), (6, .int .i64 k)]) (fun _ => pt bx (aj (cM (p, q)) 159) :: pt b1 (cJ c) :: R) (fun k => i - k) 0 ?_ ?_ ?_ ?_
                · exact ⟨Nat.zero_le _, fun j hj => absurd hj (Nat.not_lt_zero _)⟩
                · repeat (first | exact aJ | refine aG rfl ?_)
                · exact inferInstance
                · intro k ⟨hk, hK⟩
                  refine au 8 ?_
                  refine ai rfl ?_ ?_
                  · intro c12
                    refine au 5 ?_
                    have hk1 : k < c.pl.length := by omega
                    obtain ⟨g2, o2, hga2, hc2⟩ := (h.p []).at_ hk1
                    obtain ⟨⟨p2, q2⟩, hx2⟩ : ∃ x, c.pl[k] = x := ⟨_, rfl⟩
                    have hgd2 : c.pl.getD k (0, 0) = (p2, q2) := by simp [List.getD, hk1, hx2]
                    have htk : q2 = q → gQ c q i = true := fun z => wc (j := k) (by omega) hk1 (by rw [hx2]; exact z)
                    rw [hx2] at hc2
                    refine bR [(b1, 0, bF c), (bx, 0, cM (p, q)), (g2, o2 + k * 2, cM (p2, q2))] 14 bQ rfl (aC (aC (cm hc2.weak aB))) (fun hS => ?_)
                    refine ab 0 rfl rfl rfl hS (ap rfl fB rfl ar rfl (by first | exact Nat.zero_add _ | rfl)) ?_
                    refine ab 1 rfl rfl rfl hS (am aT rfl (by first | exact av (k := 0) rfl rfl | exact av (k := 1) rfl rfl | exact av (k := 2) rfl rfl | exact av (k := 3) rfl rfl | exact av (k := 4) rfl rfl)) ?_
                    refine ab 2 rfl rfl rfl hS (iQ rfl rfl) ?_
                    refine ab 3 rfl rfl rfl hS (ag rfl) ?_
                    refine je (t := 66) rfl ?_ ?_
                    · intro g14_4
                      refine ab 4 rfl rfl rfl hS (ap rfl cG rfl j7 rfl (by first | exact Nat.zero_add _ | rfl)) ?_
                      refine ab 5 rfl rfl rfl hS (am pi rfl (by first | exact av (k := 0) rfl rfl | exact av (k := 1) rfl rfl | exact av (k := 2) rfl rfl | exact av (k := 3) rfl rfl | exact av (k := 4) rfl rfl)) ?_
                      refine ab 6 rfl rfl rfl hS (ag rfl) ?_
                      refine ab 7 rfl rfl rfl hS (di gE eT rfl hga2 rfl rfl hk1 (by first | exact Nat.zero_add _ | rfl)) ?_
                      refine ab 8 rfl rfl rfl hS (ap rfl fB rfl ar rfl (by first | exact Nat.zero_add _ | rfl)) ?_
                      refine ab 9 rfl rfl rfl hS (am aT rfl (f6 (k := 2) (j := 1) rfl rfl)) ?_
                      refine ab 10 rfl rfl rfl hS (ap rfl fB rfl ar rfl (by first | exact Nat.zero_add _ | rfl)) ?_
                      refine ab 11 rfl rfl rfl hS (am aT rfl (by first | exact av (k := 0) rfl rfl | exact av (k := 1) rfl rfl | exact av (k := 2) rfl rfl | exact av (k := 3) rfl rfl | exact av (k := 4) rfl rfl)) ?_
                      refine ab 12 rfl rfl rfl hS (dd rfl rfl) ?_
                      refine ab 13 rfl rfl rfl hS (cV rfl rfl) ?_
                      refine bz (by kernel_rfl) ?_; clear hS
                      refine ak ?_
                      refine ai rfl ?_ ?_
                      · intro c14
                        refine au 17 ?_
                        refine ah (.inl rfl) (.cons (ac rfl) (.cons (ac rfl) .nil)) ?_
                        have hz : w1 = true := by
                          rcases hcut with z | z
                          · omega
                          · exact z.1
                        rw [hbad (by rw [hW, htk (by omega), decide_eq_true (by omega)]; simp)]
                        exact ⟨_, ⟨_, rfl, rfl⟩, inferInstance⟩
                      · intro c14
                        refine au 5 ?_
                        refine aa rfl (bj rfl rfl (by first | exact aK (by omega) | rfl)) ?_
                        refine au 3 ?_
                        refine bU (k + 1) ?_ ?_ ?_ ?_
                        · refine ⟨by omega, fun j hj hq0 => ?_⟩
                          rcases Nat.lt_or_ge j k with z | z
                          · exact hK j z hq0
                          · rw [show j = k by omega, hgd2]
                            dsimp only
                            omega
                        · omega
                        · repeat (first | exact aJ | refine aG rfl ?_)
                        · exact inferInstance
                    · intro g14_4
                      refine aV 4 rfl rfl rfl hS ?_
                      refine aV 5 rfl rfl rfl hS ?_
                      refine aV 6 rfl rfl rfl hS ?_
                      refine aV 7 rfl rfl rfl hS ?_
                      refine aV 8 rfl rfl rfl hS ?_
                      refine aV 9 rfl rfl rfl hS ?_
                      refine aV 10 rfl rfl rfl hS ?_
                      refine aV 11 rfl rfl rfl hS ?_
                      refine aV 12 rfl rfl rfl hS ?_
                      refine ab 13 rfl rfl rfl hS (d4 rfl rfl) ?_
                      refine bz (by kernel_rfl) ?_; clear hS
                      refine au 7 ?_
                      refine aa rfl (bj rfl rfl (by first | exact aK (by omega) | rfl)) ?_
                      refine au 3 ?_
                      refine bU (k + 1) ?_ ?_ ?_ ?_
                      · refine ⟨by omega, fun j hj hq0 => ?_⟩
                        rcases Nat.lt_or_ge j k with z | z
                        · exact hK j z hq0
                        · rw [show j = k by omega, hgd2]
                          dsimp only
                          omega
                      · omega
                      · repeat (first | exact aJ | refine aG rfl ?_)
                      · exact inferInstance
                  · intro c12
                    refine au 8 ?_
                    refine aa rfl (bj rfl rfl (by first | exact aK (by omega) | rfl)) ?_
                    refine au 3 ?_
                    refine bU (i + 1) ?_ ?_ ?_ ?_
                    · refine ⟨by omega, hgood ?_⟩
                      rw [hW]
                      rcases hcut with z | ⟨z1, z2⟩
                      · rw [z]; rfl
                      · rw [z1, wd (fun j hj => hK j (by omega) (hlt z1)), decide_eq_false (by omega : ¬ p ≠ f8 c q)]
                        simp
                    · omega
                    · repeat (first | exact aJ | refine aG rfl ?_)
                    · exact inferInstance
          · intro g7_11
            refine au 12 ?_
            refine gn (fun _ : Unit => v1 = true ∧ (q = -1 ∨ (w1 = true ∧ p = f8 c q))) (fun _ => [(1, .pointer (some ⟨b1, 0, none⟩)), (4, .int .i64 i), (5, .pointer (some ⟨bx, 0, none⟩))]) (fun _ => pt bx (aj (cM (p, q)) 159) :: pt b1 (cJ c) :: R) ?_ ?_
            · skip
              refine al ?_
              have hv2 : v1 = true := by simp_all
              have hq2 : q = -1 ∨ w1 = true := by
                by_cases z : q = -1
                · exact .inl z
                · right; simp_all
              refine bR [(b1, 0, bF c), (bx, 0, cM (p, q)), (g1, o1 + j1 * 3, vs1)] 15 bQ rfl (aC (aC (cm (hcv1 _) aB))) (fun hS => ?_)
              refine ab 0 rfl rfl rfl hS (ap rfl fB rfl ar rfl (by first | exact Nat.zero_add _ | rfl)) ?_
              refine ab 1 rfl rfl rfl hS (am aT rfl (by first | exact av (k := 0) rfl rfl | exact av (k := 1) rfl rfl | exact av (k := 2) rfl rfl | exact av (k := 3) rfl rfl)) ?_
              refine ab 2 rfl rfl rfl hS (iQ rfl rfl) ?_
              refine ab 3 rfl rfl rfl hS (ag rfl) ?_
              refine je (t := 45) rfl ?_ ?_
              · intro g9_4
                obtain rfl : w1 = true := by
                  rcases hq2 with z | z
                  · exact absurd z (by omega)
                  · exact z
                obtain ⟨ha1, hq1, hj1, u1, rfl, hl1⟩ := hr1 rfl
                refine ab 4 rfl rfl rfl hS (ap rfl fB rfl ar rfl (by first | exact Nat.zero_add _ | rfl)) ?_
                refine ab 5 rfl rfl rfl hS (am aT rfl (by first | exact av (k := 0) rfl rfl | exact av (k := 1) rfl rfl | exact av (k := 2) rfl rfl | exact av (k := 3) rfl rfl)) ?_
                refine ab 6 rfl rfl rfl hS (ap rfl cG rfl fc rfl (by first | exact Nat.zero_add _ | rfl)) ?_
                refine ab 7 rfl rfl rfl hS (am fA rfl (by first | exact av (k := 0) rfl rfl | exact av (k := 1) rfl rfl | exact av (k := 2) rfl rfl | exact av (k := 3) rfl rfl)) ?_
                refine ab 8 rfl rfl rfl hS (ap rfl fB rfl ar rfl (by first | exact Nat.zero_add _ | rfl)) ?_
                refine ab 9 rfl rfl rfl hS (am aT rfl (by first | exact av (k := 0) rfl rfl | exact av (k := 1) rfl rfl | exact av (k := 2) rfl rfl | exact av (k := 3) rfl rfl)) ?_
                refine ab 10 rfl rfl rfl hS (di eC ei rfl ha1 rfl hq1 hj1 (by first | exact Nat.zero_add _ | rfl)) ?_
                refine ab 11 rfl rfl rfl hS (ap rfl dC rfl ar rfl (by first | exact Nat.zero_add _ | rfl)) ?_
                refine ab 12 rfl rfl rfl hS (am aT rfl (f6 (k := 2) (j := 0) rfl rfl)) ?_
                refine ab 13 rfl rfl rfl hS (du rfl rfl) ?_
                refine ab 14 rfl rfl rfl hS (cV rfl rfl) ?_
                refine bz (by kernel_rfl) ?_; clear hS
                refine ak ?_
                refine ai rfl ?_ ?_
                · intro c9
                  refine au 9 ?_
                  refine ah (.inl rfl) (.cons (ac rfl) (.cons (ac rfl) .nil)) ?_
                  rw [hbad (by rw [hW, hv2, hl1, decide_eq_true (show p ≠ u1.1 by omega)]; simp_all)]
                  exact ⟨_, ⟨_, rfl, rfl⟩, inferInstance⟩
                · intro c9
                  refine au 2 ?_
                  refine d8 () ?_ ?_ ?_
                  · refine ⟨hv2, ?_⟩
                    first
                      | (left; rcases hq2 with z | z
                         · exact z
                         · exact absurd (hlt z) (by omega))
                      | exact .inr ⟨rfl, by rw [hl1]; omega⟩
                  · repeat (first | exact aJ | refine aG rfl ?_)
                  · exact inferInstance
              · intro g9_4
                refine aV 4 rfl rfl rfl hS ?_
                refine aV 5 rfl rfl rfl hS ?_
                refine aV 6 rfl rfl rfl hS ?_
                refine aV 7 rfl rfl rfl hS ?_
                refine aV 8 rfl rfl rfl hS ?_
                refine aV 9 rfl rfl rfl hS ?_
                refine aV 10 rfl rfl rfl hS ?_
                refine aV 11 rfl rfl rfl hS ?_
                refine aV 12 rfl rfl rfl hS ?_
                refine aV 13 rfl rfl rfl hS ?_
                refine ab 14 rfl rfl rfl hS (d4 rfl rfl) ?_
                refine bz (by kernel_rfl) ?_; clear hS
                refine au 4 ?_
                refine d8 () ?_ ?_ ?_
                · refine ⟨hv2, ?_⟩
                  first
                    | (left; rcases hq2 with z | z
                       · exact z
                       · exact absurd (hlt z) (by omega))
                    | exact .inr ⟨rfl, by rw [hl1]; omega⟩
                · repeat (first | exact aJ | refine aG rfl ?_)
                · exact inferInstance
            · intro _ ⟨hv2, hcut⟩
              rw [hv2, show (!true) = false from rfl, Bool.false_or] at hW
              refine au 6 ?_
              refine ce (fun k : Nat => k ≤ i ∧ ∀ j, j < k → 0 ≤ q → (c.pl.getD j (0, 0)).2 ≠ q) (fun k => [(1, .pointer (some ⟨b1, 0, none⟩)), (4, .int .i64 i), (5, .pointer (some ⟨bx, 0, none⟩)), (6, .int .i64 k)]) (fun _ => pt bx (aj (cM (p, q)) 159) :: pt b1 (cJ c) :: R) (fun k => i - k) 0 ?_ ?_ ?_ ?_
              · exact ⟨Nat.zero_le _, fun j hj => absurd hj (Nat.not_lt_zero _)⟩
              · repeat (first | exact aJ | refine aG rfl ?_)
              · exact inferInstance
              · intro k ⟨hk, hK⟩
                refine au 8 ?_
                refine ai rfl ?_ ?_
                · intro c12
                  refine au 5 ?_
                  have hk1 : k < c.pl.length := by omega
                  obtain ⟨g2, o2, hga2, hc2⟩ := (h.p []).at_ hk1
                  obtain ⟨⟨p2, q2⟩, hx2⟩ : ∃ x, c.pl[k] = x := ⟨_, rfl⟩
                  have hgd2 : c.pl.getD k (0, 0) = (p2, q2) := by simp [List.getD, hk1, hx2]
                  have htk : q2 = q → gQ c q i = true := fun z => wc (j := k) (by omega) hk1 (by rw [hx2]; exact z)
                  rw [hx2] at hc2
                  refine bR [(b1, 0, bF c), (bx, 0, cM (p, q)), (g2, o2 + k * 2, cM (p2, q2))] 14 bQ rfl (aC (aC (cm hc2.weak aB))) (fun hS => ?_)
                  refine ab 0 rfl rfl rfl hS (ap rfl fB rfl ar rfl (by first | exact Nat.zero_add _ | rfl)) ?_
                  refine ab 1 rfl rfl rfl hS (am aT rfl (by first | exact av (k := 0) rfl rfl | exact av (k := 1) rfl rfl | exact av (k := 2) rfl rfl | exact av (k := 3) rfl rfl | exact av (k := 4) rfl rfl)) ?_
                  refine ab 2 rfl rfl rfl hS (iQ rfl rfl) ?_
                  refine ab 3 rfl rfl rfl hS (ag rfl) ?_
                  refine je (t := 66) rfl ?_ ?_
                  · intro g14_4
                    refine ab 4 rfl rfl rfl hS (ap rfl cG rfl j7 rfl (by first | exact Nat.zero_add _ | rfl)) ?_
                    refine ab 5 rfl rfl rfl hS (am pi rfl (by first | exact av (k := 0) rfl rfl | exact av (k := 1) rfl rfl | exact av (k := 2) rfl rfl | exact av (k := 3) rfl rfl | exact av (k := 4) rfl rfl)) ?_
                    refine ab 6 rfl rfl rfl hS (ag rfl) ?_
                    refine ab 7 rfl rfl rfl hS (di gE eT rfl hga2 rfl rfl hk1 (by first | exact Nat.zero_add _ | rfl)) ?_
                    refine ab 8 rfl rfl rfl hS (ap rfl fB rfl ar rfl (by first | exact Nat.zero_add _ | rfl)) ?_
                    refine ab 9 rfl rfl rfl hS (am aT rfl (f6 (k := 2) (j := 1) rfl rfl)) ?_
                    refine ab 10 rfl rfl rfl hS (ap rfl fB rfl ar rfl (by first | exact Nat.zero_add _ | rfl)) ?_
                    refine ab 11 rfl rfl rfl hS (am aT rfl (by first | exact av (k := 0) rfl rfl | exact av (k := 1) rfl rfl | exact av (k := 2) rfl rfl | exact av (k := 3) rfl rfl | exact av (k := 4) rfl rfl)) ?_
                    refine ab 12 rfl rfl rfl hS (dd rfl rfl) ?_
                    refine ab 13 rfl rfl rfl hS (cV rfl rfl) ?_
                    refine bz (by kernel_rfl) ?_; clear hS
                    refine ak ?_
                    refine ai rfl ?_ ?_
                    · intro c14
                      refine au 17 ?_
                      refine ah (.inl rfl) (.cons (ac rfl) (.cons (ac rfl) .nil)) ?_
                      have hz : w1 = true := by
                        rcases hcut with z | z
                        · omega
                        · exact z.1
                      rw [hbad (by rw [hW, htk (by omega), decide_eq_true (by omega)]; simp)]
                      exact ⟨_, ⟨_, rfl, rfl⟩, inferInstance⟩
                    · intro c14
                      refine au 5 ?_
                      refine aa rfl (bj rfl rfl (by first | exact aK (by omega) | rfl)) ?_
                      refine au 3 ?_
                      refine bU (k + 1) ?_ ?_ ?_ ?_
                      · refine ⟨by omega, fun j hj hq0 => ?_⟩
                        rcases Nat.lt_or_ge j k with z | z
                        · exact hK j z hq0
                        · rw [show j = k by omega, hgd2]
                          dsimp only
                          omega
                      · omega
                      · repeat (first | exact aJ | refine aG rfl ?_)
                      · exact inferInstance
                  · intro g14_4
                    refine aV 4 rfl rfl rfl hS ?_
                    refine aV 5 rfl rfl rfl hS ?_
                    refine aV 6 rfl rfl rfl hS ?_
                    refine aV 7 rfl rfl rfl hS ?_
                    refine aV 8 rfl rfl rfl hS ?_
                    refine aV 9 rfl rfl rfl hS ?_
                    refine aV 10 rfl rfl rfl hS ?_
                    refine aV 11 rfl rfl rfl hS ?_
                    refine aV 12 rfl rfl rfl hS ?_
                    refine ab 13 rfl rfl rfl hS (d4 rfl rfl) ?_
                    refine bz (by kernel_rfl) ?_; clear hS
                    refine au 7 ?_
                    refine aa rfl (bj rfl rfl (by first | exact aK (by omega) | rfl)) ?_
                    refine au 3 ?_
                    refine bU (k + 1) ?_ ?_ ?_ ?_
                    · refine ⟨by omega, fun j hj hq0 => ?_⟩
                      rcases Nat.lt_or_ge j k with z | z
                      · exact hK j z hq0
                      · rw [show j = k by omega, hgd2]
                        dsimp only
                        omega
                    · omega
                    · repeat (first | exact aJ | refine aG rfl ?_)
                    · exact inferInstance
                · intro c12
                  refine au 8 ?_
                  refine aa rfl (bj rfl rfl (by first | exact aK (by omega) | rfl)) ?_
                  refine au 3 ?_
                  refine bU (i + 1) ?_ ?_ ?_ ?_
                  · refine ⟨by omega, hgood ?_⟩
                    rw [hW]
                    rcases hcut with z | ⟨z1, z2⟩
                    · rw [z]; rfl
                    · rw [z1, wd (fun j hj => hK j (by omega) (hlt z1)), decide_eq_false (by omega : ¬ p ≠ f8 c q)]
                      simp
                  · omega
                  · repeat (first | exact aJ | refine aG rfl ?_)
                  · exact inferInstance
      · intro c4
        refine au 12 ?_
        refine ah (.inl rfl) (.cons (ac rfl) (.cons (ac rfl) .nil)) ?_
        obtain rfl : i = c.pl.length := by omega
        rw [gR, decide_eq_false (by omega), Bool.false_or, mu hI]
        exact ⟨_, ⟨0, rfl, rfl⟩, inferInstance⟩
theorem oJ {c : Cfg} (h : eI c = false) : c.nl.length ≤ 4 := by
 simp only [eI, Bool.or_eq_false_iff, decide_eq_false_iff_not] at h; omega
theorem rW (W0 : World) (R : List HP) (c : Cfg) (h : CfOk W0 c) :
  ao Tryz.prog W0 64 [.agg (bF c).toArray] R (fun v B => ∃ at_, v = .tuple #[.int .i64 (fw c), .int .i64 at_] ∧ B = R) := by
 obtain ⟨w1, hw1⟩ : ∃ w, dK c c.gate = w := ⟨_, rfl⟩
 have hG : fQ c = if c.gate = -1 then decide (c.quota ≠ 0) else !(w1 && decide (0 ≤ c.quota ∧ c.quota ≤ 64)) := by rw [fQ, hw1]
 obtain ⟨x0, hx0⟩ : ∃ x, fw c = x := ⟨_, rfl⟩
 obtain ⟨x1, hx1⟩ : ∃ x, f7 c = x := ⟨_, rfl⟩
 obtain ⟨x2, hx2⟩ : ∃ x, fV c = x := ⟨_, rfl⟩
 obtain ⟨x3, hx3⟩ : ∃ x, gR c = x := ⟨_, rfl⟩
 obtain ⟨x4, hx4⟩ : ∃ x, eI c = x := ⟨_, rfl⟩
 obtain ⟨x5, hx5⟩ : ∃ x, gP c = x := ⟨_, rfl⟩
 obtain ⟨x6, hx6⟩ : ∃ x, fQ c = x := ⟨_, rfl⟩
 have hC : x0 = if c.cats < 0 ∨ 8 < c.cats then 12 else if x1 then 13 else if x2 then 14 else if x3 then 15 else if x4 then 16 else if x5 then 17 else if x6 then 18 else if 32 < d9 c c.gl.length then 19 else 0 := by rw [← hx0, fw, hx1, hx2, hx3, hx4, hx5, hx6]
 rw [hx6] at hG
 rw [hx0]
 refine aD Tryz.func64 Tryz.ntmps64 rfl rfl ?_
 refine au 2 ?_
 refine ae rfl (bw rfl) ?_
 rintro _ _ ⟨b1, rfl, rfl⟩
 refine au 11 ?_
 refine aZ rfl rfl rfl ?_ ?_
 ·intro g1_4
  refine au 14 ?_
  refine ah (.inl rfl) (.cons (ac rfl) (.cons (ac rfl) .nil)) ?_
  rw [hC, if_pos (by omega)]
  exact ⟨_, ⟨0, rfl, rfl⟩, inferInstance⟩
 ·intro g1_4
  refine au 8 ?_
  refine ai rfl ?_ ?_
  ·intro c1
   refine au 8 ?_
   refine ah (.inl rfl) (.cons (ac rfl) (.cons (ac rfl) .nil)) ?_
   rw [hC, if_pos (by omega)]
   exact ⟨_, ⟨0, rfl, rfl⟩, inferInstance⟩
  ·intro c1
   refine au 3 ?_
   rw [if_neg (by omega)] at hC
   refine au 2 ?_
   refine ae rfl (aF Tryz.call168 rfl (Cv W0 _ c h)) ?_
   rintro _ B_ ⟨r1, rfl, hB_⟩
   obtain rfl := hB_.symm
   rw [hx1]
   refine au 13 ?_
   refine ai rfl ?_ ?_
   ·intro c4
    refine au 9 ?_
    refine ah (.inl rfl) (.cons (ac rfl) (.cons (ac rfl) .nil)) ?_
    rw [hC, if_pos (by simpa using c4)]
    exact ⟨_, ⟨r1, rfl, rfl⟩, inferInstance⟩
   ·intro c4
    refine au 3 ?_
    rw [if_neg (by simpa using c4)] at hC
    refine au 2 ?_
    refine ae rfl (aF Tryz.call169 rfl (Cw W0 _ c h)) ?_
    rintro _ B_ ⟨r2, rfl, hB_⟩
    obtain rfl := hB_.symm
    rw [hx2]
    refine au 13 ?_
    refine ai rfl ?_ ?_
    ·intro c7
     refine au 9 ?_
     refine ah (.inl rfl) (.cons (ac rfl) (.cons (ac rfl) .nil)) ?_
     rw [hC, if_pos (by simpa using c7)]
     exact ⟨_, ⟨r2, rfl, rfl⟩, inferInstance⟩
    ·intro c7
     refine au 3 ?_
     rw [if_neg (by simpa using c7)] at hC
     refine au 2 ?_
     refine ae rfl (aF Tryz.call170 rfl (CC W0 _ c h)) ?_
     rintro _ B_ ⟨r3, rfl, hB_⟩
     obtain rfl := hB_.symm
     rw [hx3]
     refine au 13 ?_
     refine ai rfl ?_ ?_
     ·intro c10
      refine au 9 ?_
      refine ah (.inl rfl) (.cons (ac rfl) (.cons (ac rfl) .nil)) ?_
      rw [hC, if_pos (by simpa using c10)]
      exact ⟨_, ⟨r3, rfl, rfl⟩, inferInstance⟩
     ·intro c10
      refine au 3 ?_
      rw [if_neg (by simpa using c10)] at hC
      refine au 2 ?_
      refine ae rfl (aF Tryz.call171 rfl (CB W0 _ c h)) ?_
      rintro _ B_ ⟨r4, rfl, hB_⟩
      obtain rfl := hB_.symm
      rw [hx4]
      refine au 13 ?_
      refine ai rfl ?_ ?_
      ·intro c13
       refine au 9 ?_
       refine ah (.inl rfl) (.cons (ac rfl) (.cons (ac rfl) .nil)) ?_
       rw [hC, if_pos (by simpa using c13)]
       exact ⟨_, ⟨r4, rfl, rfl⟩, inferInstance⟩
      ·intro c13
       refine au 3 ?_
       rw [if_neg (by simpa using c13)] at hC
       refine au 2 ?_
       refine ae rfl (aF Tryz.call172 rfl (Cx W0 _ c h)) ?_
       rintro _ B_ ⟨r5, rfl, hB_⟩
       obtain rfl := hB_.symm
       rw [hx5]
       refine au 13 ?_
       refine ai rfl ?_ ?_
       ·intro c16
        refine au 9 ?_
        refine ah (.inl rfl) (.cons (ac rfl) (.cons (ac rfl) .nil)) ?_
        rw [hC, if_pos (by simpa using c16)]
        exact ⟨_, ⟨r5, rfl, rfl⟩, inferInstance⟩
       ·intro c16
        refine au 4 ?_
        rw [if_neg (by simpa using c16)] at hC
        refine au 5 ?_
        refine bX rfl rfl rfl ?_ ?_
        ·intro g18_4
         refine au 6 ?_
         refine ae rfl (aF pG rfl (mM W0 _ c c.gate)) ?_
         rintro _ B_ ⟨rfl, hB_⟩
         obtain rfl := hB_.symm
         rw [hw1]
         refine au 4 ?_
         refine aZ rfl rfl rfl ?_ ?_
         ·intro g18_11
          refine au 29 ?_
          refine ah (.inl rfl) (.cons (ac rfl) (.cons (ac rfl) .nil)) ?_
          have hz : x6 = true := by
           rw [hG]; split
           ·exact decide_eq_true (by first | omega | simp_all)
           ·first
             | (rw [decide_eq_false (by omega), Bool.and_false]; rfl)
             | simp_all
          rw [hC, hz]
          exact ⟨_, ⟨0, rfl, rfl⟩, inferInstance⟩
         ·intro g18_11
          refine au 7 ?_
          refine aZ rfl rfl rfl ?_ ?_
          ·intro g18_16
           refine au 24 ?_
           refine ah (.inl rfl) (.cons (ac rfl) (.cons (ac rfl) .nil)) ?_
           have hz : x6 = true := by
            rw [hG]; split
            ·exact decide_eq_true (by first | omega | simp_all)
            ·first
              | (rw [decide_eq_false (by omega), Bool.and_false]; rfl)
              | simp_all
           rw [hC, hz]
           exact ⟨_, ⟨0, rfl, rfl⟩, inferInstance⟩
          ·intro g18_16
           refine au 7 ?_
           refine aZ rfl rfl rfl ?_ ?_
           ·intro g18_21
            refine au 19 ?_
            refine ah (.inl rfl) (.cons (ac rfl) (.cons (ac rfl) .nil)) ?_
            have hz : x6 = true := by
             rw [hG]; split
             ·exact decide_eq_true (by first | omega | simp_all)
             ·first
               | (rw [decide_eq_false (by omega), Bool.and_false]; rfl)
               | simp_all
            rw [hC, hz]
            exact ⟨_, ⟨0, rfl, rfl⟩, inferInstance⟩
           ·intro g18_21
            refine au 7 ?_
            refine bX rfl rfl rfl ?_ ?_
            ·intro g18_25
             refine au 10 ?_
             refine ai rfl ?_ ?_
             ·intro c18
              refine au 8 ?_
              refine ah (.inl rfl) (.cons (ac rfl) (.cons (ac rfl) .nil)) ?_
              have hz : x6 = true := by
               rw [hG]; split
               ·exact decide_eq_true (by first | omega | simp_all)
               ·first
                 | (rw [decide_eq_false (by omega), Bool.and_false]; rfl)
                 | simp_all
              rw [hC, hz]
              exact ⟨_, ⟨0, rfl, rfl⟩, inferInstance⟩
             ·intro c18
              refine au 4 ?_
              have hz : x6 = false := by
               rw [hG]; split
               ·exact decide_eq_false (by first | omega | simp_all)
               ·rw [decide_eq_true (by omega)]; simp_all
              rw [hz] at hC
              have hgr : f7 c = false := by rw [hx1]; simpa using c4
              have hri : eI c = false := by rw [hx4]; simpa using c13
              obtain ⟨k1, k2, k3⟩ := ln hgr
              refine au 2 ?_
              refine ae rfl (aF nq rfl (lw W0 _ c h.g (fun g hg => (k3 g hg).2) (oJ hri) k2)) ?_
              rintro _ B_ ⟨rfl, hB_⟩
              obtain rfl := hB_.symm
              refine au 3 ?_
              refine ai rfl ?_ ?_
              ·intro c20
               refine au 8 ?_
               refine ah (.inl rfl) (.cons (ac rfl) (.cons (ac rfl) .nil)) ?_
               rw [hC, if_neg (by decide), if_pos (by omega)]
               exact ⟨_, ⟨0, rfl, rfl⟩, inferInstance⟩
              ·intro c20
               refine au 9 ?_
               refine ah (.inl rfl) (.cons (ac rfl) (.cons (ac rfl) .nil)) ?_
               rw [hC, if_neg (by decide), if_neg (by omega)]
               exact ⟨_, ⟨0, rfl, rfl⟩, inferInstance⟩
            ·intro g18_25
             refine au 12 ?_
             have hz : x6 = false := by
              rw [hG]; split
              ·exact decide_eq_false (by first | omega | simp_all)
              ·rw [decide_eq_true (by omega)]; simp_all
             rw [hz] at hC
             have hgr : f7 c = false := by rw [hx1]; simpa using c4
             have hri : eI c = false := by rw [hx4]; simpa using c13
             obtain ⟨k1, k2, k3⟩ := ln hgr
             refine au 2 ?_
             refine ae rfl (aF nq rfl (lw W0 _ c h.g (fun g hg => (k3 g hg).2) (oJ hri) k2)) ?_
             rintro _ B_ ⟨rfl, hB_⟩
             obtain rfl := hB_.symm
             refine au 3 ?_
             refine ai rfl ?_ ?_
             ·intro c20
              refine au 8 ?_
              refine ah (.inl rfl) (.cons (ac rfl) (.cons (ac rfl) .nil)) ?_
              rw [hC, if_neg (by decide), if_pos (by omega)]
              exact ⟨_, ⟨0, rfl, rfl⟩, inferInstance⟩
             ·intro c20
              refine au 9 ?_
              refine ah (.inl rfl) (.cons (ac rfl) (.cons (ac rfl) .nil)) ?_
              rw [hC, if_neg (by decide), if_neg (by omega)]
              exact ⟨_, ⟨0, rfl, rfl⟩, inferInstance⟩
        ·intro g18_4
         refine au 14 ?_
         refine aZ rfl rfl rfl ?_ ?_
         ·intro g18_16
          refine au 24 ?_
          refine ah (.inl rfl) (.cons (ac rfl) (.cons (ac rfl) .nil)) ?_
          have hz : x6 = true := by
           rw [hG]; split
           ·exact decide_eq_true (by first | omega | simp_all)
           ·first
             | (rw [decide_eq_false (by omega), Bool.and_false]; rfl)
             | simp_all
          rw [hC, hz]
          exact ⟨_, ⟨0, rfl, rfl⟩, inferInstance⟩
         ·intro g18_16
          refine au 7 ?_
          refine aZ rfl rfl rfl ?_ ?_
          ·intro g18_21
           refine au 19 ?_
           refine ah (.inl rfl) (.cons (ac rfl) (.cons (ac rfl) .nil)) ?_
           have hz : x6 = true := by
            rw [hG]; split
            ·exact decide_eq_true (by first | omega | simp_all)
            ·first
              | (rw [decide_eq_false (by omega), Bool.and_false]; rfl)
              | simp_all
           rw [hC, hz]
           exact ⟨_, ⟨0, rfl, rfl⟩, inferInstance⟩
          ·intro g18_21
           refine au 7 ?_
           refine bX rfl rfl rfl ?_ ?_
           ·intro g18_25
            refine au 10 ?_
            refine ai rfl ?_ ?_
            ·intro c18
             refine au 8 ?_
             refine ah (.inl rfl) (.cons (ac rfl) (.cons (ac rfl) .nil)) ?_
             have hz : x6 = true := by
              rw [hG]; split
              ·exact decide_eq_true (by first | omega | simp_all)
              ·first
                | (rw [decide_eq_false (by omega), Bool.and_false]; rfl)
                | simp_all
             rw [hC, hz]
             exact ⟨_, ⟨0, rfl, rfl⟩, inferInstance⟩
            ·intro c18
             refine au 4 ?_
             have hz : x6 = false := by
              rw [hG]; split
              ·exact decide_eq_false (by first | omega | simp_all)
              ·rw [decide_eq_true (by omega)]; simp_all
             rw [hz] at hC
             have hgr : f7 c = false := by rw [hx1]; simpa using c4
             have hri : eI c = false := by rw [hx4]; simpa using c13
             obtain ⟨k1, k2, k3⟩ := ln hgr
             refine au 2 ?_
             refine ae rfl (aF nq rfl (lw W0 _ c h.g (fun g hg => (k3 g hg).2) (oJ hri) k2)) ?_
             rintro _ B_ ⟨rfl, hB_⟩
             obtain rfl := hB_.symm
             refine au 3 ?_
             refine ai rfl ?_ ?_
             ·intro c20
              refine au 8 ?_
              refine ah (.inl rfl) (.cons (ac rfl) (.cons (ac rfl) .nil)) ?_
              rw [hC, if_neg (by decide), if_pos (by omega)]
              exact ⟨_, ⟨0, rfl, rfl⟩, inferInstance⟩
             ·intro c20
              refine au 9 ?_
              refine ah (.inl rfl) (.cons (ac rfl) (.cons (ac rfl) .nil)) ?_
              rw [hC, if_neg (by decide), if_neg (by omega)]
              exact ⟨_, ⟨0, rfl, rfl⟩, inferInstance⟩
           ·intro g18_25
            refine au 12 ?_
            have hz : x6 = false := by
             rw [hG]; split
             ·exact decide_eq_false (by first | omega | simp_all)
             ·rw [decide_eq_true (by omega)]; simp_all
            rw [hz] at hC
            have hgr : f7 c = false := by rw [hx1]; simpa using c4
            have hri : eI c = false := by rw [hx4]; simpa using c13
            obtain ⟨k1, k2, k3⟩ := ln hgr
            refine au 2 ?_
            refine ae rfl (aF nq rfl (lw W0 _ c h.g (fun g hg => (k3 g hg).2) (oJ hri) k2)) ?_
            rintro _ B_ ⟨rfl, hB_⟩
            obtain rfl := hB_.symm
            refine au 3 ?_
            refine ai rfl ?_ ?_
            ·intro c20
             refine au 8 ?_
             refine ah (.inl rfl) (.cons (ac rfl) (.cons (ac rfl) .nil)) ?_
             rw [hC, if_neg (by decide), if_pos (by omega)]
             exact ⟨_, ⟨0, rfl, rfl⟩, inferInstance⟩
            ·intro c20
             refine au 9 ?_
             refine ah (.inl rfl) (.cons (ac rfl) (.cons (ac rfl) .nil)) ?_
             rw [hC, if_neg (by decide), if_neg (by omega)]
             exact ⟨_, ⟨0, rfl, rfl⟩, inferInstance⟩
theorem oK (W0 : World) (R : List HP) (c : Cfg) (h : CfOk W0 c) :
  ao Tryz.prog W0 83 [.agg (bF c).toArray] R (fun v B => v = .bool (rt c) ∧ B = R) := by
 refine aD Tryz.func83 Tryz.ntmps83 rfl rfl ?_
 refine au 2 ?_
 refine ae rfl (bw rfl) ?_
 rintro _ _ ⟨b1, rfl, rfl⟩
 refine au 6 ?_
 refine ae rfl (aF yh rfl (rW W0 _ c h)) ?_
 rintro _ B_ ⟨at_, rfl, hB_⟩
 obtain rfl := hB_.symm
 refine au 15 ?_
 refine ah (.inl rfl) (.cons (ac rfl) .nil) ?_
 refine ⟨_, ⟨?_, rfl⟩, inferInstance⟩
 refine congrArg Value.bool ?_
 rw [Bool.eq_iff_iff, rt]; simp
end
section
def cA (c : Cfg) (i : Nat) : Int × Int × Int := c.gl.getD i (0, 0, 0)
def cK (c : Cfg) : Nat → Int
  | 0 => 0
  | i + 1 => cK c i + ((cA c i).2.1 + (cA c i).2.2)
theorem kw (c : Cfg) : ∀ i, d9 c i = cK c i + (c.nl.length : Int)
 | 0 => by rw [d9, cK, Int.zero_add]
 | i + 1 => by rw [d9, cK, kw c i, cA]; omega
def fb (c : Cfg) (f : Int) : Option Nat := iY (fun i => decide (f < cK c (i + 1))) c.gl.length
def aQ (c : Cfg) : Nat := (d9 c c.gl.length).toNat
def we (b f : Int) : Option Nat → Int × Int
  | some i => (1, (i : Int))
  | none => (2, f - b)
def iK (c : Cfg) (f : Int) : Int × Int := if rt c = true ∧ 0 ≤ f ∧ f < d9 c c.gl.length then we (cK c c.gl.length) f (fb c f) else (0, 0)
structure CfR (c : Cfg) : Prop where
  g1 : 1 ≤ c.gl.length
  g4 : c.gl.length ≤ 4
  gs : ∀ i, i < c.gl.length → 1 ≤ (cA c i).2.1 ∧ (cA c i).2.1 ≤ 8 ∧ 0 ≤ (cA c i).2.2 ∧ (cA c i).2.2 ≤ 8 - (cA c i).2.1
  nn : c.nl.length ≤ 4
  nd : 1 ≤ d9 c c.gl.length ∧ d9 c c.gl.length ≤ 32
theorem jn {c : Cfg} (h : ∀ i, i < c.gl.length → 1 ≤ (cA c i).2.1 ∧ (cA c i).2.1 ≤ 8 ∧ 0 ≤ (cA c i).2.2 ∧ (cA c i).2.2 ≤ 8 - (cA c i).2.1) : ∀ i, i ≤ c.gl.length → (i : Int) ≤ cK c i ∧ cK c i ≤ 8 * i
 | 0, _ => by simp [cK]
 | i + 1, hi => by
  have := jn h i (by omega)
  have := h i (by omega)
  rw [cK]; omega
theorem CE {c : Cfg} (h : CfR c) {i : Nat} (hi : i < c.gl.length) : cK c i < cK c (i + 1) := by
 have := h.gs i hi
 rw [cK]; omega
theorem wi {c : Cfg} (h : CfR c) {i j : Nat} (hij : i ≤ j) (hj : j ≤ c.gl.length) : cK c i ≤ cK c j := by
  induction j with
  | zero => obtain rfl : i = 0 := by omega
            exact Int.le_refl _
  | succ j ih =>
    rcases Nat.lt_or_ge i (j + 1) with k | k
    · have := ih (by omega) (by omega)
      have := CE h (i := j) (by omega)
      omega
    · obtain rfl : i = j + 1 := by omega
      exact Int.le_refl _
theorem eQ {c : Cfg} (h : rt c = true) : CfR c := by
 obtain ⟨_, _, k1, _, _, k2, _, _, k3⟩ := jG h
 obtain ⟨g1, g4, gs⟩ := ln k1
 have hn : c.nl.length ≤ 4 := by
  simp only [eI, Bool.or_eq_false_iff, decide_eq_false_iff_not] at k2; omega
 have hg : ∀ i, i < c.gl.length → 1 ≤ (cA c i).2.1 ∧ (cA c i).2.1 ≤ 8 ∧ 0 ≤ (cA c i).2.2 ∧ (cA c i).2.2 ≤ 8 - (cA c i).2.1 := fun i hi => by
  have := (gs _ (List.getElem_mem hi)).2
  rwa [show cA c i = c.gl[i] by simp [cA, List.getD, hi]]
 have := jn hg c.gl.length (Nat.le_refl _)
 exact ⟨g1, g4, hg, hn, by rw [kw]; omega, k3⟩
theorem oL {c : Cfg} (h : CfR c) {f : Int} {i : Nat} : (fb c f = some i ↔ i < c.gl.length ∧ f < cK c (i + 1) ∧ (0 < i → cK c i ≤ f)) := by
 rw [fb, iY, List.find?_eq_some_iff_getElem]
 simp only [decide_eq_true_iff]
 constructor
 ·rintro ⟨h1, k, hk, rfl, h2⟩
  rw [List.getElem_range] at h1 ⊢
  simp only [List.length_range] at hk
  refine ⟨hk, h1, fun h0 => ?_⟩
  have := h2 (k - 1) (by omega)
  simp only [List.getElem_range, Bool.not_eq_true', decide_eq_false_iff_not] at this
  rw [show k - 1 + 1 = k by omega] at this
  omega
 ·rintro ⟨h1, h2, h3⟩
  refine ⟨h2, i, by simpa using h1, by simp, fun j hj => ?_⟩
  simp only [List.getElem_range, Bool.not_eq_true', decide_eq_false_iff_not]
  have := wi h (i := j + 1) (j := i) (by omega) (by omega)
  have := h3 (by omega)
  omega
def lx : Option Nat → Int × Bool
  | some i => ((i : Int), false)
  | none => (-1, false)
def cF (c : Cfg) (k : Nat) : Po := (List.range (aQ c)).map fun g => if g < k then lx (fb c g) else (-1, false)
theorem ly (c : Cfg) (k : Nat) : (cF c k).length = aQ c := by simp [cF]
theorem oM {c : Cfg} {k f : Nat} (hf : f < aQ c) : cC (cF c k) f = if f < k then lx (fb c f) else (-1, false) := by
 simp [cC, cF, List.getD, hf]
theorem wj (c : Cfg) : cF c 0 = List.replicate (aQ c) (-1, false) := by
 apply List.ext_getElem
 ·simp [cF]
 ·intro i h1 h2; simp [cF]
theorem wk {c : Cfg} {k i : Nat} (hk : k < aQ c) (h : fb c k = some i) : cF c (k + 1) = (cF c k).set k ((i : Int), false) := by
 apply List.ext_getElem
 ·simp [cF]
 ·intro j h1 h2
  rw [List.getElem_set]
  simp only [cF, List.getElem_map, List.getElem_range]
  by_cases e : k = j
  ·subst e; simp [h, lx]
  ·rw [if_neg e]; congr 1; simp; omega
theorem wl {c : Cfg} {k : Nat} (h : fb c k = none) : cF c (k + 1) = cF c k := by
 apply List.ext_getElem
 ·simp [cF]
 ·intro j h1 h2
  simp only [cF, List.getElem_map, List.getElem_range]
  by_cases e : j = k
  ·subst e; simp [h, lx]
  ·congr 1; simp; omega
theorem wm {c : Cfg} (h : CfR c) (k : Nat) : PoOk (cF c k) := ⟨by rw [ly, aQ]; have := h.nd; omega, fun f hf => by
 rw [ly] at hf
 rw [oM hf]
 split
 ·cases e : fb c f with
  | none => simp [lx]
  | some i =>
   have := ((oL h).1 e).1
   have := h.g4
   simp only [lx]; omega
 ·simp⟩
theorem wn : ∀ {l m : List Nat}, l.Nodup → (∀ x ∈ l, x ∈ m) → l.length ≤ m.length
 | [], _, _, _ => Nat.zero_le _
 | x :: l, m, hd, h => by
  rw [List.nodup_cons] at hd
  have hx := h x (by simp)
  have := wn (l := l) (m := m.erase x) hd.2 fun y hy => by
   have hne : y ≠ x := fun e => hd.1 (by rw [← e]; exact hy)
   rw [List.mem_erase_of_ne hne]
   exact h y (List.mem_cons_of_mem _ hy)
  rw [List.length_erase_of_mem hx] at this
  have := List.length_pos_of_mem hx
  rw [List.length_cons]; omega
theorem CF {c : Cfg} (h : CfR c) {i : Nat} (hi : i < c.gl.length) : (cA c i).2.1 + (cA c i).2.2 ≤ ((bB (cF c (aQ c)) i).length : Int) := by
 obtain ⟨a, ha⟩ : ∃ a : Nat, cK c i = (a : Int) := ⟨(cK c i).toNat, by have := jn h.gs i (by omega); omega⟩
 have hg := h.gs i hi
 obtain ⟨n, hn⟩ : ∃ n : Nat, (cA c i).2.1 + (cA c i).2.2 = (n : Int) := ⟨((cA c i).2.1 + (cA c i).2.2).toNat, by omega⟩
 have hs : cK c (i + 1) = (a : Int) + n := by rw [cK, ha, hn]
 have hl := wi h (i := i + 1) (j := c.gl.length) (by omega) (Nat.le_refl _)
 have hnd := kw c c.gl.length
 have hsub : ∀ x ∈ List.range' a n, x ∈ bB (cF c (aQ c)) i := fun x hx => by
  rw [List.mem_range'_1] at hx
  have hxn : x < aQ c := by rw [aQ]; omega
  rw [gN, ly, oM hxn, if_pos hxn, (oL h (i := i)).2 ⟨hi, by omega, fun _ => by omega⟩]
  exact ⟨hxn, rfl⟩
 have hd : (List.range' a n).Nodup := List.nodup_range' ..
 have := wn hd hsub
 rw [List.length_range'] at this
 rw [hn]; omega
end
section
open Go.RowKit
structure CfK (W0 : World) (c : Cfg) : Prop where
  ok : CfOk W0 c
  gc : c.gl.length ≤ c.gc
theorem oN {c : Cfg} (h : CfR c) : (∀ g ∈ c.gl, 1 ≤ g.2.1 ∧ g.2.1 ≤ 8 ∧ 0 ≤ g.2.2 ∧ g.2.2 ≤ 8 - g.2.1) := fun g hg => by
 obtain ⟨i, hi, rfl⟩ := List.getElem_of_mem hg
 have := h.gs i hi
 rwa [show cA c i = c.gl[i] by simp [cA, List.getD, hi]] at this
def gT (c : Cfg) : Nat := if rt c then aQ c else 0
theorem wo (c : Cfg) : gT c ≤ 32 := by
 unfold gT; split
 ·rename_i h; have := (eQ h).nd; rw [aQ]; omega
 ·omega
theorem CG (W0 : World) (R : List HP) (c : Cfg) (h : CfOk W0 c) :
  ao Tryz.prog W0 59 [.agg (bF c).toArray] R (fun v B => v = .int .i64 (gT c : Nat) ∧ B = R) := by
 refine aD Tryz.func59 Tryz.ntmps59 rfl rfl ?_
 refine au 2 ?_
 refine ae rfl (bw rfl) ?_
 rintro _ _ ⟨b1, rfl, rfl⟩
 refine au 7 ?_
 refine ae rfl (aF yi rfl (rB W0 _ c h)) ?_
 rintro _ B_ ⟨rfl, hB_⟩
 obtain rfl := hB_.symm
 refine au 3 ?_
 refine ai rfl ?_ ?_
 ·intro c1
  refine au 7 ?_
  refine ah (.inl rfl) (.cons (ac rfl) .nil) ?_
  have hr : rt c = false := by simpa using c1
  rw [gT, hr]
  exact ⟨_, ⟨rfl, rfl⟩, inferInstance⟩
 ·intro c1
  have hr : rt c = true := by simpa using c1
  have hR := eQ hr
  refine au 5 ?_
  refine ae rfl (aF y5 rfl (rk W0 _ c h.g (oN hR) hR.nn hR.g4)) ?_
  rintro _ B_ ⟨rfl, hB_⟩
  obtain rfl := hB_.symm
  refine au 4 ?_
  refine ah (.inl rfl) (.cons (ac rfl) .nil) ?_
  have hn : ((gT c : Nat) : Int) = d9 c c.gl.length := by
   have := hR.nd
   rw [gT, if_pos hr, aQ]; omega
  rw [hn]
  exact ⟨_, ⟨rfl, rfl⟩, inferInstance⟩
theorem rX (W0 : World) (R : List HP) (c : Cfg) (h : CfK W0 c) (hR : CfR c) (n : Nat) (hn : n ≤ c.gl.length) :
  ao Tryz.prog W0 270 [.agg (bF c).toArray, .int .i64 n] R (fun v B => v = .int .i64 (cK c n) ∧ B = R) := by
 have hgc := h.gc
 have hg4 := hR.g4
 refine d5 Tryz.func270 Tryz.ntmps270 rfl rfl ?_
 refine al (az (ae rfl (bw rfl) ?_))
 rintro _ _ ⟨b1, rfl, rfl⟩
 refine aa rfl (ax rfl) (aw (ak (al (az (aa rfl (ax rfl) (aw (ak (al (al (az ?_))))))))))
 refine aa rfl (ap rfl cG rfl fc rfl (by first | exact Nat.zero_add _ | rfl)) ?_
 refine aa rfl (am fA rfl (aH rfl)) ?_
 refine aa rfl (ag rfl) ?_
 refine aa rfl (kb eC ei rfl rfl (h := n) rfl (by omega)) ?_
 refine aa rfl (dU eC rfl) (aa rfl (ag rfl) (aw (ak (dt ?_))))
 refine ce (fun i : Nat => i ≤ n) (fun i => [(5, .int .i64 (cK c i)), (11, .slice c.ga n c.gc), (12, .int .i64 n), (13, .int .i64 i)]) (fun _ => R) (fun i => n - i) 0 ?_ ?_ ?_ ?_
 ·exact Nat.zero_le _
 ·repeat (first | exact aJ | refine aG rfl ?_)
 ·exact inferInstance
 ·intro i hi
  refine al (az (aa rfl (eO rfl rfl) (aw (ak (al ?_)))))
  refine ai rfl ?_ ?_
  ·intro c3
   refine cy (ak (al (dt (al ?_))))
   have hi1 : i < c.gl.length := by omega
   have hin : i < n := by omega
   obtain ⟨g, o, hga, hc⟩ := (h.ok.g R).at_ hi1
   obtain ⟨x, hx⟩ : ∃ x, c.gl[i] = x := ⟨_, rfl⟩
   rw [hx] at hc
   have hA : cA c i = x := by simp [cA, List.getD, hi1, hx]
   have hbx := hR.gs i hi1
   rw [hA] at hbx
   have hst : cK c (i + 1) = cK c i + (x.2.1 + x.2.2) := by rw [cK, hA]
   have hl1 := jn hR.gs i (by omega)
   refine az ?_
   refine aa rfl (di eC ei rfl hga rfl rfl hin (by first | exact Nat.zero_add _ | rfl)) ?_
   refine aa rfl (cj td ei rfl hc.weak rfl) ?_
   refine ae rfl (cd lR) ?_
   rintro _ _ ⟨bx, rfl, rfl⟩
   refine b0 (bS ei rfl rfl rfl rfl rfl) ?_
   rintro _ _ rfl
   refine aw (ak (az (aa rfl (ag rfl) ?_)))
   refine aa rfl (ap rfl dC rfl ar rfl (by first | exact Nat.zero_add _ | rfl)) ?_
   refine aa rfl (am aT rfl (aH rfl)) ?_
   refine aa rfl (ap rfl dC rfl ar rfl (by first | exact Nat.zero_add _ | rfl)) ?_
   refine aa rfl (am aT rfl (aH rfl)) ?_
   refine aa rfl (bj rfl rfl (aK (by omega))) ?_
   refine aa rfl (bj rfl rfl (by rw [aK (by omega)]; exact hst.symm : IntKind.wrap .i64 (cK c i + (x.2.1 + x.2.2)) = cK c (i + 1))) ?_
   refine aa rfl (ax rfl) (aw (fY (ak (az ?_))))
   refine aa rfl (bj rfl rfl (by first | exact aK (by omega) | rfl)) ?_
   refine aa rfl (ag rfl) (aw (ak ?_))
   refine bU (i + 1) ?_ ?_ ?_ ?_
   ·omega
   ·omega
   ·repeat (first | exact aJ | refine aG rfl ?_)
   ·exact inferInstance
  ·intro c3
   refine gJ (eV (eV (i3 (ak (al (az (aa rfl (ag rfl) (aa rfl (ax rfl) (aw (ak (bY (ah (.inl rfl) (.cons (ac rfl) .nil) ?_))))))))))))
   obtain rfl : i = n := by omega
   exact ⟨_, ⟨rfl, rfl⟩, inferInstance⟩
theorem wq {c : Cfg} {f : Int} {i : Nat} (hi : i < c.gl.length) (h : f < cK c (i + 1)) (hI : ∀ j, j < i → ¬ f < cK c (j + 1)) : fb c f = some i :=
 vh hi (decide_eq_true h) fun j hj => decide_eq_false (hI j hj)
theorem wt {c : Cfg} {f : Int} (hI : ∀ j, j < c.gl.length → ¬ f < cK c (j + 1)) : fb c f = none := vj fun j hj => decide_eq_false (hI j hj)
@[reducible] def oO (x : Int × Int) : List Value := [.int .i64 x.1, .int .i64 x.2]
theorem CH (W0 : World) (R : List HP) (c : Cfg) (h : CfK W0 c) (f : Nat) :
  ao Tryz.prog W0 163 [.agg (bF c).toArray, .int .i64 f] R (fun v B => v = .agg (oO (iK c f)).toArray ∧ B = R) := by
 obtain ⟨w, hw⟩ : ∃ w, rt c = w := ⟨_, rfl⟩
 have hO : iK c f = if w = true ∧ 0 ≤ (f : Int) ∧ (f : Int) < d9 c c.gl.length then we (cK c c.gl.length) f (fb c f) else (0, 0) := by rw [iK, hw]
 rw [hO]
 refine aD Tryz.func163 Tryz.ntmps163 rfl rfl ?_
 refine au 2 ?_
 refine ae rfl (bw rfl) ?_
 rintro _ _ ⟨b2, rfl, rfl⟩
 refine ae rfl (cd jb) ?_
 rintro _ _ ⟨b4, rfl, rfl⟩
 refine au 6 ?_
 refine ae rfl (aF yi rfl (rB W0 _ c h.ok)) ?_
 rintro _ B_ ⟨rfl, hB_⟩
 obtain rfl := hB_.symm
 rw [hw]
 refine au 2 ?_
 refine aZ rfl rfl rfl ?_ ?_
 ·intro g1_4
  refine au 13 ?_
  refine aa rfl (bI kI jb (aA ar (aA ar bH)) bG) ?_
  refine b0 (bS gI rfl rfl rfl rfl rfl) ?_
  rintro _ _ rfl
  refine au 4 ?_
  refine ah (.inl rfl) (.cons (fh lU gI rfl rfl) .nil) ?_
  rw [if_neg (by first | (rintro ⟨q1, q2, q3⟩; omega) | (rintro ⟨q1, q2⟩; simp_all; done) | (rintro ⟨q1, q2, q3⟩; simp_all; omega))]
  exact ⟨_, ⟨rfl, rfl⟩, inferInstance⟩
 ·intro g1_4
  refine au 5 ?_
  refine aZ rfl rfl rfl ?_ ?_
  ·intro g1_8
   refine au 9 ?_
   refine aa rfl (bI kI jb (aA ar (aA ar bH)) bG) ?_
   refine b0 (bS gI rfl rfl rfl rfl rfl) ?_
   rintro _ _ rfl
   refine au 4 ?_
   refine ah (.inl rfl) (.cons (fh lU gI rfl rfl) .nil) ?_
   rw [if_neg (by first | (rintro ⟨q1, q2, q3⟩; omega) | (rintro ⟨q1, q2⟩; simp_all; done) | (rintro ⟨q1, q2, q3⟩; simp_all; omega))]
   exact ⟨_, ⟨rfl, rfl⟩, inferInstance⟩
  ·intro g1_8
   have hw1 : w = true := by simp_all
   have hR := eQ (hw.trans hw1)
   have hg4 := hR.g4
   have hnd := hR.nd
   refine au 4 ?_
   refine ae rfl (aF y5 rfl (rk W0 _ c h.ok.g (oN hR) hR.nn hR.g4)) ?_
   rintro _ B_ ⟨rfl, hB_⟩
   obtain rfl := hB_.symm
   refine au 5 ?_
   refine ai rfl ?_ ?_
   ·intro c1
    refine au 2 ?_
    refine aa rfl (bI kI jb (aA ar (aA ar bH)) bG) ?_
    refine b0 (bS gI rfl rfl rfl rfl rfl) ?_
    rintro _ _ rfl
    refine au 4 ?_
    refine ah (.inl rfl) (.cons (fh lU gI rfl rfl) .nil) ?_
    rw [if_neg (by first | (rintro ⟨q1, q2, q3⟩; omega) | (rintro ⟨q1, q2⟩; simp_all; done) | (rintro ⟨q1, q2, q3⟩; simp_all; omega))]
    exact ⟨_, ⟨rfl, rfl⟩, inferInstance⟩
   ·intro c1
    refine au 4 ?_
    have hw1 : w = true := by simp_all
    have hR := eQ (hw.trans hw1)
    have hg4 := hR.g4
    have hnd := hR.nd
    rw [if_pos ⟨hw1, by omega, by first | omega | (simp_all; omega)⟩]
    refine au 8 ?_
    refine ce (fun i : Nat => i ≤ c.gl.length ∧ ∀ j, j < i → ¬ (f : Int) < cK c (j + 1)) (fun i => [(1, .int .i64 f), (2, .pointer (some ⟨b2, 0, none⟩)), (4, .pointer (some ⟨b4, 0, none⟩)), (22, .int .i64 (c.gl.length : Nat)), (23, .int .i64 i)]) (fun _ => pt b2 (cJ c) :: pt b4 (aj [.int .i64 0, .int .i64 0] 184) :: R) (fun i => c.gl.length - i) 0 ?_ ?_ ?_ ?_
    ·exact ⟨Nat.zero_le _, fun j hj => absurd hj (Nat.not_lt_zero _)⟩
    ·repeat (first | exact aJ | refine aG rfl ?_)
    ·exact inferInstance
    ·intro i ⟨hi, hI⟩
     refine au 6 ?_
     refine ai rfl ?_ ?_
     ·intro c4
      refine au 5 ?_
      have hi1 : i < c.gl.length := by omega
      refine au 10 ?_
      refine aa rfl (bj rfl rfl (by rw [aK (by omega)]; omega : IntKind.wrap .i64 ((i : Int) + 1) = ((i + 1 : Nat) : Int))) ?_
      refine ae rfl (aF yj rfl (rX W0 _ c h hR (i + 1) hi1)) ?_
      rintro _ B_ ⟨rfl, hB_⟩
      obtain rfl := hB_.symm
      refine au 3 ?_
      refine ai rfl ?_ ?_
      ·intro c6
       refine au 3 ?_
       refine aa rfl (bI kI jb (aA ar (aA ar bH)) (aS rfl ar rfl rfl (Nat.le_of_ble_eq_true rfl) SetL.eq (aS rfl ar rfl rfl (Nat.le_of_ble_eq_true rfl) SetL.eq bG))) ?_
       refine b0 (bS gI rfl rfl rfl rfl rfl) ?_
       rintro _ _ rfl
       refine au 8 ?_
       refine ah (.inl rfl) (.cons (fh lU gI rfl rfl) .nil) ?_
       rw [wq hi1 c6 hI]
       exact ⟨_, ⟨rfl, rfl⟩, inferInstance⟩
      ·intro c6
       refine au 4 ?_
       refine aa rfl (bj rfl rfl (by first | exact aK (by omega) | rfl)) ?_
       refine au 3 ?_
       refine bU (i + 1) ?_ ?_ ?_ ?_
       ·refine ⟨by omega, fun j hj => ?_⟩
        rcases Nat.lt_or_ge j i with q | q
        ·exact hI j q
        ·rw [show j = i by omega]; exact c6
       ·omega
       ·repeat (first | exact aJ | refine aG rfl ?_)
       ·exact inferInstance
     ·intro c4
      refine au 6 ?_
      obtain rfl : i = c.gl.length := by omega
      rw [wt hI]
      have hbn := jn hR.gs c.gl.length (Nat.le_refl _)
      have hnb := kw c c.gl.length
      refine au 6 ?_
      refine ae rfl (aF yj rfl (rX W0 _ c h hR c.gl.length (Nat.le_refl _))) ?_
      rintro _ B_ ⟨rfl, hB_⟩
      obtain rfl := hB_.symm
      refine aa rfl (dG rfl rfl (aK (by omega))) ?_
      refine aa rfl (bI kI jb (aA ar (aA ar bH)) (aS rfl ar rfl rfl (Nat.le_of_ble_eq_true rfl) SetL.eq (aS rfl ar rfl rfl (Nat.le_of_ble_eq_true rfl) SetL.eq bG))) ?_
      refine b0 (bS gI rfl rfl rfl rfl rfl) ?_
      rintro _ _ rfl
      refine au 3 ?_
      refine ah (.inl rfl) (.cons (fh lU gI rfl rfl) .nil) ?_
      exact ⟨_, ⟨rfl, rfl⟩, inferInstance⟩
def fy (c : Cfg) (i : Int) : Int := if rt c = true ∧ 0 ≤ i ∧ i < c.nl.length then cK c c.gl.length + i else -1
theorem wu (W0 : World) (R : List HP) (c : Cfg) (h : CfK W0 c) (i : Int) :
  ao Tryz.prog W0 189 [.agg (bF c).toArray, .int .i64 i] R (fun v B => v = .int .i64 (fy c i) ∧ B = R) := by
 obtain ⟨w, hw⟩ : ∃ w, rt c = w := ⟨_, rfl⟩
 have hO : fy c i = if w = true ∧ 0 ≤ i ∧ i < c.nl.length then cK c c.gl.length + i else -1 := by rw [fy, hw]
 rw [hO]
 refine aD Tryz.func189 Tryz.ntmps189 rfl rfl ?_
 refine au 2 ?_
 refine ae rfl (bw rfl) ?_
 rintro _ _ ⟨b2, rfl, rfl⟩
 refine au 7 ?_
 refine ae rfl (aF yi rfl (rB W0 _ c h.ok)) ?_
 rintro _ B_ ⟨rfl, hB_⟩
 obtain rfl := hB_.symm
 rw [hw]
 refine au 2 ?_
 refine aZ rfl rfl rfl ?_ ?_
 ·intro g1_4
  refine au 19 ?_
  refine ah (.inl rfl) (.cons (ac rfl) .nil) ?_
  rw [if_neg (by first | (rintro ⟨q1, q2, q3⟩; omega) | (rintro ⟨q1, q2⟩; simp_all; done) | (rintro ⟨q1, q2, q3⟩; simp_all; omega))]
  exact ⟨_, ⟨rfl, rfl⟩, inferInstance⟩
 ·intro g1_4
  refine au 5 ?_
  refine aZ rfl rfl rfl ?_ ?_
  ·intro g1_8
   refine au 15 ?_
   refine ah (.inl rfl) (.cons (ac rfl) .nil) ?_
   rw [if_neg (by first | (rintro ⟨q1, q2, q3⟩; omega) | (rintro ⟨q1, q2⟩; simp_all; done) | (rintro ⟨q1, q2, q3⟩; simp_all; omega))]
   exact ⟨_, ⟨rfl, rfl⟩, inferInstance⟩
  ·intro g1_8
   refine au 12 ?_
   refine ai rfl ?_ ?_
   ·intro c1
    refine au 7 ?_
    refine ah (.inl rfl) (.cons (ac rfl) .nil) ?_
    rw [if_neg (by first | (rintro ⟨q1, q2, q3⟩; omega) | (rintro ⟨q1, q2⟩; simp_all; done) | (rintro ⟨q1, q2, q3⟩; simp_all; omega))]
    exact ⟨_, ⟨rfl, rfl⟩, inferInstance⟩
   ·intro c1
    refine au 3 ?_
    have hw1 : w = true := by simp_all
    have hR := eQ (hw.trans hw1)
    have hg4 := hR.g4
    have hnn := hR.nn
    have hlt : i < c.nl.length := by first | omega | (simp_all; omega)
    rw [if_pos ⟨hw1, by omega, hlt⟩]
    have hbn := jn hR.gs c.gl.length (Nat.le_refl _)
    refine au 5 ?_
    refine ae rfl (aF yj rfl (rX W0 _ c h hR c.gl.length (Nat.le_refl _))) ?_
    rintro _ B_ ⟨rfl, hB_⟩
    obtain rfl := hB_.symm
    refine aa rfl (ag rfl) ?_
    refine aa rfl (bj rfl rfl (aK (by omega))) ?_
    refine au 4 ?_
    refine ah (.inl rfl) (.cons (ac rfl) .nil) ?_
    exact ⟨_, ⟨rfl, rfl⟩, inferInstance⟩
theorem CI (W0 : World) (R : List HP) (c : Cfg) (h : CfOk W0 c) :
  ao Tryz.prog W0 66 [.agg (bF c).toArray] R (fun v B => v = .int .i64 (gT c : Nat) ∧ B = R) := by
 refine aD Tryz.func66 Tryz.ntmps66 rfl rfl ?_
 refine au 2 ?_
 refine ae rfl (bw rfl) ?_
 rintro _ _ ⟨b1, rfl, rfl⟩
 refine au 7 ?_
 refine ae rfl (aF tn rfl (oK W0 _ c h)) ?_
 rintro _ B_ ⟨rfl, hB_⟩
 obtain rfl := hB_.symm
 refine au 3 ?_
 refine ai rfl ?_ ?_
 ·intro c1
  refine au 7 ?_
  refine ah (.inl rfl) (.cons (ac rfl) .nil) ?_
  have hr : rt c = false := by simpa using c1
  rw [gT, hr]
  exact ⟨_, ⟨rfl, rfl⟩, inferInstance⟩
 ·intro c1
  have hr : rt c = true := by simpa using c1
  have hR := eQ hr
  refine au 5 ?_
  refine ae rfl (aF nq rfl (lw W0 _ c h.g (oN hR) hR.nn hR.g4)) ?_
  rintro _ B_ ⟨rfl, hB_⟩
  obtain rfl := hB_.symm
  refine au 4 ?_
  refine ah (.inl rfl) (.cons (ac rfl) .nil) ?_
  have hn : ((gT c : Nat) : Int) = d9 c c.gl.length := by
   have := hR.nd
   rw [gT, if_pos hr, aQ]; omega
  rw [hn]
  exact ⟨_, ⟨rfl, rfl⟩, inferInstance⟩
theorem CJ (W0 : World) (R : List HP) (c : Cfg) (h : CfK W0 c) (f : Nat) (hr : rt c = true) (hf : (f : Int) < d9 c c.gl.length) :
  ao Tryz.prog W0 68 [.agg (bF c).toArray, .int .i64 f] R (fun v B => v = .agg (oO (iK c f)).toArray ∧ B = R) := by
 have hR := eQ hr
 have hg4 := hR.g4
 have hnd := hR.nd
 have hnb := kw c c.gl.length
 rw [iK, if_pos ⟨hr, by omega, hf⟩]
 refine aD Tryz.func68 Tryz.ntmps68 rfl rfl ?_
 refine au 2 ?_
 refine ae rfl (bw rfl) ?_
 rintro _ _ ⟨b2, rfl, rfl⟩
 refine ae rfl (cd jb) ?_
 rintro _ _ ⟨b4, rfl, rfl⟩
 refine au 6 ?_
 refine ae rfl (aF tn rfl (oK W0 _ c h.ok)) ?_
 rintro _ B_ ⟨rfl, hB_⟩
 obtain rfl := hB_.symm
 rw [hr]
 refine au 2 ?_
 refine aZ rfl rfl rfl ?_ ?_
 ·intro g1_4
  exact absurd g1_4 (by decide)
 ·intro g1_4
  refine au 6 ?_
  refine ai rfl ?_ ?_
  ·intro c1
   first | exact absurd c1 (by decide) | (exfalso; omega)
  ·intro c1
   refine au 14 ?_
   refine ce (fun i : Nat => i ≤ c.gl.length ∧ ∀ j, j < i → ¬ (f : Int) < cK c (j + 1)) (fun i => [(1, .int .i64 f), (2, .pointer (some ⟨b2, 0, none⟩)), (4, .pointer (some ⟨b4, 0, none⟩)), (5, .int .i64 (cK c i)), (6, .int .i64 i)]) (fun _ => pt b2 (cJ c) :: pt b4 (aj [.int .i64 0, .int .i64 0] 184) :: R) (fun i => c.gl.length - i) 0 ?_ ?_ ?_ ?_
   ·exact ⟨Nat.zero_le _, fun j hj => absurd hj (Nat.not_lt_zero _)⟩
   ·repeat (first | exact aJ | refine aG rfl ?_)
   ·exact inferInstance
   ·intro i ⟨hi, hI⟩
    refine au 10 ?_
    refine ai rfl ?_ ?_
    ·intro c5
     refine au 5 ?_
     have hi1 : i < c.gl.length := by omega
     obtain ⟨g, o, hga, hc⟩ := (h.ok.g []).at_ hi1
     obtain ⟨x, hx⟩ : ∃ x, c.gl[i] = x := ⟨_, rfl⟩
     rw [hx] at hc
     have hA : cA c i = x := by simp [cA, List.getD, hi1, hx]
     have hbx := hR.gs i hi1
     rw [hA] at hbx
     have hst : cK c (i + 1) = cK c i + (x.2.1 + x.2.2) := by rw [cK, hA]
     have hl1 := jn hR.gs i (by omega)
     refine bR [(b2, 0, bF c), (g, o + i * 3, dB x)] 16 bQ rfl (aC (cm hc.weak aB)) (fun hS => ?_)
     refine ab 0 rfl rfl rfl hS (ag rfl) ?_
     refine ab 1 rfl rfl rfl hS (ap rfl cG rfl fc rfl (by first | exact Nat.zero_add _ | rfl)) ?_
     refine ab 2 rfl rfl rfl hS (am fA rfl (by first | exact av (k := 0) rfl rfl | exact av (k := 1) rfl rfl)) ?_
     refine ab 3 rfl rfl rfl hS (ag rfl) ?_
     refine ab 4 rfl rfl rfl hS (di eC ei rfl hga rfl rfl hi1 (by first | exact Nat.zero_add _ | rfl)) ?_
     refine ab 5 rfl rfl rfl hS (ap rfl dC rfl ar rfl (by first | exact Nat.zero_add _ | rfl)) ?_
     refine ab 6 rfl rfl rfl hS (am aT rfl (f6 (k := 1) (j := 1) rfl rfl)) ?_
     refine ab 7 rfl rfl rfl hS (bj rfl rfl (aK (by omega))) ?_
     refine ab 8 rfl rfl rfl hS (ap rfl cG rfl fc rfl (by first | exact Nat.zero_add _ | rfl)) ?_
     refine ab 9 rfl rfl rfl hS (am fA rfl (by first | exact av (k := 0) rfl rfl | exact av (k := 1) rfl rfl)) ?_
     refine ab 10 rfl rfl rfl hS (ag rfl) ?_
     refine ab 11 rfl rfl rfl hS (di eC ei rfl hga rfl rfl hi1 (by first | exact Nat.zero_add _ | rfl)) ?_
     refine ab 12 rfl rfl rfl hS (ap rfl dC rfl ar rfl (by first | exact Nat.zero_add _ | rfl)) ?_
     refine ab 13 rfl rfl rfl hS (am aT rfl (f6 (k := 1) (j := 2) rfl rfl)) ?_
     refine ab 14 rfl rfl rfl hS (bj rfl rfl (by rw [aK (by omega)]; omega : IntKind.wrap .i64 (cK c i + x.2.1 + x.2.2) = cK c (i + 1))) ?_
     refine ab 15 rfl rfl rfl hS (ax rfl) ?_
     refine bz (by kernel_rfl) ?_; clear hS
     refine au 8 ?_
     refine ai rfl ?_ ?_
     ·intro c8
      refine au 3 ?_
      refine aa rfl (bI kI jb (aA ar (aA ar bH)) (aS rfl ar rfl rfl (Nat.le_of_ble_eq_true rfl) SetL.eq (aS rfl ar rfl rfl (Nat.le_of_ble_eq_true rfl) SetL.eq bG))) ?_
      refine b0 (bS gI rfl rfl rfl rfl rfl) ?_
      rintro _ _ rfl
      refine au 8 ?_
      refine ah (.inl rfl) (.cons (fh lU gI rfl rfl) .nil) ?_
      rw [wq hi1 c8 hI]
      exact ⟨_, ⟨rfl, rfl⟩, inferInstance⟩
     ·intro c8
      refine au 5 ?_
      refine aa rfl (bj rfl rfl (by first | exact aK (by omega) | rfl)) ?_
      refine au 3 ?_
      refine bU (i + 1) ?_ ?_ ?_ ?_
      ·refine ⟨by omega, fun j hj => ?_⟩
       rcases Nat.lt_or_ge j i with q | q
       ·exact hI j q
       ·rw [show j = i by omega]; exact c8
      ·omega
      ·repeat (first | exact aJ | refine aG rfl ?_)
      ·exact inferInstance
    ·intro c5
     refine au 7 ?_
     obtain rfl : i = c.gl.length := by omega
     rw [wt hI]
     have hbn := jn hR.gs c.gl.length (Nat.le_refl _)
     refine au 3 ?_
     refine aa rfl (dG rfl rfl (aK (by omega))) ?_
     refine au 6 ?_
     refine ai rfl ?_ ?_
     ·intro c10
      refine au 4 ?_
      refine aa rfl (dG rfl rfl (aK (by omega))) ?_
      refine aa rfl (bI kI jb (aA ar (aA ar bH)) (aS rfl ar rfl rfl (Nat.le_of_ble_eq_true rfl) SetL.eq (aS rfl ar rfl rfl (Nat.le_of_ble_eq_true rfl) SetL.eq bG))) ?_
      refine b0 (bS gI rfl rfl rfl rfl rfl) ?_
      rintro _ _ rfl
      refine au 4 ?_
      refine ah (.inl rfl) (.cons (fh lU gI rfl rfl) .nil) ?_
      exact ⟨_, ⟨rfl, rfl⟩, inferInstance⟩
     ·intro c10
      omega
theorem CK (W0 : World) (R : List HP) (c : Cfg) (h : CfOk W0 c) (hr : rt c = true) (i : Int) (h0 : 0 ≤ i) (hi : i < c.nl.length) :
  ao Tryz.prog W0 85 [.agg (bF c).toArray, .int .i64 i] R (fun v B => v = .int .i64 (fy c i) ∧ B = R) := by
 have hR := eQ hr
 have hnd := hR.nd
 have hnn := hR.nn
 have hnb := kw c c.gl.length
 rw [fy, if_pos ⟨hr, h0, hi⟩]
 refine aD Tryz.func85 Tryz.ntmps85 rfl rfl ?_
 refine au 2 ?_
 refine ae rfl (bw rfl) ?_
 rintro _ _ ⟨b2, rfl, rfl⟩
 refine au 7 ?_
 refine ae rfl (aF tn rfl (oK W0 _ c h)) ?_
 rintro _ B_ ⟨rfl, hB_⟩
 obtain rfl := hB_.symm
 rw [hr]
 refine au 2 ?_
 refine aZ rfl rfl rfl ?_ ?_
 ·intro g1_4
  exact absurd g1_4 (by decide)
 ·intro g1_4
  refine au 5 ?_
  refine aZ rfl rfl rfl ?_ ?_
  ·intro g1_8
   first | exact absurd g1_8 (by decide) | (exfalso; omega)
  ·intro g1_8
   refine au 12 ?_
   refine ai rfl ?_ ?_
   ·intro c1
    first | exact absurd c1 (by decide) | (exfalso; omega)
   ·intro c1
    refine au 3 ?_
    refine bR [(b2, 0, _)] 9 bQ rfl (aC aB) (fun hS => ?_)
    refine ab 0 rfl rfl rfl hS (cj gC dM rfl (cT (k := 0) rfl) rfl) ?_
    refine ab 2 rfl rfl rfl hS (ap rfl cG rfl j8 rfl (by first | exact Nat.zero_add _ | rfl)) ?_
    refine ab 3 rfl rfl rfl hS (am jM rfl (av (k := 0) rfl rfl)) ?_
    refine ab 4 rfl rfl rfl hS (dU gk rfl) ?_
    refine ab 6 rfl rfl rfl hS (ag rfl) ?_
    refine aW 1 (by kernel_rfl) rfl rfl (aF nq rfl (lw W0 _ c h.g (oN hR) hR.nn hR.g4)) rfl ?_; clear hS
    rintro _ B_ ⟨rfl, hB_⟩
    obtain rfl := hB_.symm
    refine ⟨(aC aB), fun hS => ?_⟩
    refine ab 5 rfl rfl rfl hS (dG rfl rfl (aK (by omega))) ?_
    refine ab 7 rfl rfl rfl hS (bj rfl rfl (by rw [aK (by omega)]; omega : IntKind.wrap .i64 (d9 c c.gl.length - (c.nl.length : Int) + i) = cK c c.gl.length + i)) ?_
    refine ab 8 rfl rfl rfl hS (ax rfl) ?_
    refine bz (by kernel_rfl) ?_; clear hS
    refine au 2 ?_
    refine ah (.inl rfl) (.cons (ac rfl) .nil) ?_
    exact ⟨_, ⟨rfl, rfl⟩, inferInstance⟩
abbrev bD (rl : List Nat) (pc : Nat) : Obj := aj (rl.map wV ++ [.bool true, wV pc]) 244
theorem ww {rl : List Nat} {pc : Nat} (h : rl.length = 16) : (rl.map wV ++ [Value.bool true, wV pc]).length = 18 := by simp [h]
theorem CL {rl : List Nat} {pc : Nat} (h : rl.length = 16) : ((rl.map wV ++ [Value.bool true, wV pc]).drop 0).take 16 = rl.map wV := by
 rw [List.drop_zero, List.take_left' (by rw [List.length_map, h])]
theorem wx {rl : List Nat} {pc : Nat} (h : rl.length = 16) : (rl.map wV ++ [Value.bool true, wV pc])[16]? = some (.bool true) := by
 rw [List.getElem?_append_right (by rw [List.length_map, h]; exact Nat.le_refl _), List.length_map, h]; rfl
theorem CM {rl : List Nat} {pc : Nat} (h : rl.length = 16) : (rl.map wV ++ [Value.bool true, wV pc])[17]? = some (wV pc) := by
 rw [List.getElem?_append_right (by rw [List.length_map, h]; decide), List.length_map, h]; rfl
theorem CN {rl : List Nat} {pc q : Nat} (h : rl.length = 16) : (rl.map wV ++ [Value.bool true, wV pc]).set 17 (wV q) = rl.map wV ++ [.bool true, wV q] := by
 rw [List.set_append_right _ _ (by rw [List.length_map, h]; decide), List.length_map, h]; rfl
theorem CO {rl : List Nat} {pc i x : Nat} (h : rl.length = 16) (hi : i < 16) : (rl.map wV ++ [Value.bool true, wV pc]).set (i * 1) (wV x) = (rl.set i x).map wV ++ [.bool true, wV pc] := by
 rw [Nat.mul_one, List.set_append_left _ _ (by rw [List.length_map, h]; exact hi), List.map_set]
theorem wy (rl : List Nat) : ek (rl.map wV) = true := by simp [ek, wV, Value.oneCell']
section
variable {P : Program} {S : World → Prop} {N : FSz} {e : bq} {t : TypeId} {l : List Value} {v : Value}
theorem CP {E n i : Nat} {y : Operand} (hu : P.underlying t = some (.array n E)) (hs : ∀ w, (sizeOf E).run P w = .ok 1 w) (hz : ∀ w, (zeroValue t).run P w = .ok (.agg l.toArray) w)
  (hy : ev e y = some v) (h1 : v.oneCell' = true) (hi : i < l.length) : bP P S N e (.build t #[(i, y)]) (.agg (l.set i v).toArray) := fun a w _ _ _ _ _ hF _ => by
 have hb : Instr.build t ((#[(i, y)] : Array (Nat × Operand)).map fun (i, x) => (i, a.eval x)) = (do
   let zero := (← zeroValue t).cells
   match ← underlying t with
   | .struct fields =>
    let places ← fields.mapM kR
    let some cells := Instr.fill (places[·]?) zero ((#[(i, y)] : Array (Nat × Operand)).map fun (i, x) => (i, a.eval x)).toList | stuck "build: no such field, or a part of the wrong size"
    pure (.agg cells)
   | .array _ elem =>
    let size ← sizeOf elem
    let some cells := Instr.fill (fun i => some (i * size, size)) zero ((#[(i, y)] : Array (Nat × Operand)).map fun (i, x) => (i, a.eval x)).toList | stuck "build: a part of the wrong size"
    pure (.agg cells)
   | _ => stuck "build: struct or array type expected") := rfl
 have hc : ¬ (i + 1 > l.length) := by omega
 have hf : Instr.fill (fun i => some (i * 1, 1)) l.toArray [(i, a.eval y)] = some (l.set i v).toArray := by
  simp only [Instr.fill, hF.eval hy, jU h1, Nat.mul_one]
  simp [hc]
 simp only [execOp, hb, Sem.run_bind, hz, dH hu, hs, Result.andThen_ok, Value.cells, Sem.run_pure, Array.toList_map, List.map_cons, List.map_nil]
 rw [hf]; rfl
end
theorem CQ (W0 : World) (R : List HP) : ao Tryz.prog W0 193 [] R (fun v B => ∃ b, v = .pointer (some ⟨b, 0, none⟩) ∧ B = pt b (bD (List.replicate 16 0) 0) :: R) := by
 refine aD Tryz.func193 Tryz.ntmps193 rfl rfl ?_
 refine au 7 ?_
 refine aa rfl (bI Fq Tryz.zeroValue242 (aA j9 (aA cu bH)) (aS rfl cu rfl rfl (Nat.le_of_ble_eq_true rfl) SetL.eq bG)) ?_
 refine aa rfl (bI Fs Tryz.zeroValue244 (aA xL (aA cg bH)) (i5 rfl xL rfl rfl (Nat.le_of_ble_eq_true rfl) rfl bG)) ?_
 refine ae rfl (bw rfl) ?_
 rintro _ _ ⟨b1, rfl, rfl⟩
 refine au 4 ?_
 refine ah (.inl rfl) (.cons (ac rfl) .nil) ?_
 exact ⟨_, ⟨_, rfl, rfl⟩, ent_refl⟩
theorem wz (W0 : World) (R : List HP) (b : Nat) (rl : List Nat) (pc : Nat) (hl : rl.length = 16) : ao Tryz.prog W0 40 [.pointer (some ⟨b, 0, none⟩)] (pt b (bD rl pc) :: R) (fun v B => v = .agg (rl.map wV).toArray ∧ B = pt b (bD rl pc) :: R) := by
 refine aD Tryz.func40 Tryz.ntmps40 rfl rfl ?_
 refine au 2 ?_
 refine ae rfl (cd yk) ?_
 rintro _ _ ⟨b1, rfl, rfl⟩
 refine au 9 ?_
 refine ai rfl ?_ ?_
 ·intro c1
  cases c1
 ·intro c1
  refine au 8 ?_
  refine aa rfl (cj yl j9 rfl (fp (b := b) (CL hl) (by rw [List.length_map, hl])) (by rw [List.length_map, hl])) ?_
  refine b0 (bS j9 rfl rfl (by rw [List.length_map, hl]) (wy rl) rfl) ?_
  rintro _ _ rfl
  refine au 3 ?_
  refine ah (.inl rfl) (.cons (fh yl j9 rfl (by rw [List.length_map, hl])) .nil) ?_
  exact ⟨_, ⟨rfl, rfl⟩, inferInstance⟩
theorem CR (W0 : World) (R : List HP) (b : Nat) (rl : List Nat) (pc : Nat) (hl : rl.length = 16) : ao Tryz.prog W0 95 [.pointer (some ⟨b, 0, none⟩)] (pt b (bD rl pc) :: R) (fun v B => v = wV pc ∧ B = pt b (bD rl pc) :: R) := by
 refine aD Tryz.func95 Tryz.ntmps95 rfl rfl ?_
 refine au 12 ?_
 refine ai rfl ?_ ?_
 ·intro c1
  cases c1
 ·intro c1
  refine au 7 ?_
  refine aa rfl (am eS rfl (aH (CM hl))) ?_
  refine au 4 ?_
  refine ah (.inl rfl) (.cons (ac rfl) .nil) ?_
  exact ⟨_, ⟨rfl, rfl⟩, inferInstance⟩
theorem CS (W0 : World) (R : List HP) (b : Nat) (rl : List Nat) (pc q : Nat) (hl : rl.length = 16) : ao Tryz.prog W0 96 [.pointer (some ⟨b, 0, none⟩), wV q] (pt b (bD rl pc) :: R) (fun v B => v = .int .i64 0 ∧ B = pt b (bD rl q) :: R) := by
 refine aD Tryz.func96 Tryz.ntmps96 rfl rfl ?_
 refine au 11 ?_
 refine aZ rfl rfl rfl ?_ ?_
 ·intro g1_3
  cases g1_3
 ·intro g1_3
  refine au 8 ?_
  refine aa rfl (am j6 rfl (aH (wx hl))) ?_
  refine au 5 ?_
  refine ai rfl ?_ ?_
  ·intro c1
   exact absurd c1 (by decide)
  ·intro c1
   refine au 8 ?_
   refine b0 (bN cg rfl rfl rfl (by rw [ww hl]; decide) (CN hl)) ?_
   rintro _ _ rfl
   refine au 8 ?_
   refine ah (.inl rfl) (.cons (ac rfl) .nil) ?_
   exact ⟨_, ⟨rfl, rfl⟩, inferInstance⟩
def jJ (i : Int) : Bool := decide (0 ≤ i ∧ i < 16)
theorem wA (W0 : World) (R : List HP) (b : Nat) (rl : List Nat) (pc : Nat) (hl : rl.length = 16) (i : Int) : ao Tryz.prog W0 200 [.pointer (some ⟨b, 0, none⟩), .int .i64 i] (pt b (bD rl pc) :: R) (fun v B => v = .int .i64 (if jJ i then 0 else 1) ∧ B = pt b (bD rl pc) :: R) := by
 refine aD Tryz.func200 Tryz.ntmps200 rfl rfl ?_
 refine au 12 ?_
 refine aa rfl (am j6 rfl (aH (wx hl))) ?_
 refine au 4 ?_
 refine ai rfl ?_ ?_
 ·intro c1
  exact absurd c1 (by decide)
 ·intro c1
  refine au 8 ?_
  refine ai rfl ?_ ?_
  ·intro c3
   refine au 11 ?_
   refine ah (.inl rfl) (.cons (ac rfl) .nil) ?_
   rw [if_neg (by simp only [jJ, decide_eq_true_eq]; omega)]
   exact ⟨_, ⟨rfl, rfl⟩, inferInstance⟩
  ·intro c3
   refine au 6 ?_
   refine ai rfl ?_ ?_
   ·intro c4
    refine au 8 ?_
    refine ah (.inl rfl) (.cons (ac rfl) .nil) ?_
    rw [if_neg (by simp only [jJ, decide_eq_true_eq]; omega)]
    exact ⟨_, ⟨rfl, rfl⟩, inferInstance⟩
   ·intro c4
    refine au 9 ?_
    refine ah (.inl rfl) (.cons (ac rfl) .nil) ?_
    rw [if_pos (by simp only [jJ, decide_eq_true_eq]; omega)]
    exact ⟨_, ⟨rfl, rfl⟩, inferInstance⟩
theorem CU (W0 : World) (R : List HP) (b : Nat) (rl : List Nat) (pc i x : Nat) (hl : rl.length = 16) (hi : i < 16) (h0 : i ≠ 0) : ao Tryz.prog W0 201 [.pointer (some ⟨b, 0, none⟩), .int .i64 i, wV x] (pt b (bD rl pc) :: R) (fun v B => v = .tuple #[] ∧ B = pt b (bD (rl.set i x) pc) :: R) := by
 refine aD Tryz.func201 Tryz.ntmps201 rfl rfl ?_
 refine au 6 ?_
 refine ai rfl ?_ ?_
 ·intro c0
  refine au 6 ?_
  refine aa rfl (dv nr cg rfl rfl rfl hi (by first | exact Nat.zero_add _ | rfl)) ?_
  refine b0 (bN cg rfl rfl rfl (by rw [ww hl]; omega) (CO hl hi)) ?_
  rintro _ _ rfl
  refine aw (ah (.inr rfl) .nil ?_)
  exact ⟨_, ⟨rfl, rfl⟩, inferInstance⟩
 ·intro c0
  simp at c0; omega
theorem rY (W0 : World) (R : List HP) (b : Nat) (rl : List Nat) (pc i x : Nat) (hl : rl.length = 16) (hi : i < 16) (h0 : i ≠ 0) : ao Tryz.prog W0 87 [.pointer (some ⟨b, 0, none⟩), .int .i64 i, wV x] (pt b (bD rl pc) :: R) (fun v B => v = .int .i64 0 ∧ B = pt b (bD (rl.set i x) pc) :: R) := by
 have hir : jJ i = true := by simp only [jJ, decide_eq_true_eq]; omega
 refine aD Tryz.func87 Tryz.ntmps87 rfl rfl ?_
 refine au 12 ?_
 refine ai rfl ?_ ?_
 ·intro c1
  cases c1
 ·intro c1
  refine au 8 ?_
  refine ae rfl (aM Tryz.call200 rfl (wA W0 _ b rl pc hl i)) ?_
  rintro _ B_ ⟨rfl, hB_⟩
  obtain rfl := hB_.symm
  refine au 10 ?_
  refine ai rfl ?_ ?_
  ·intro c4
   refine au 6 ?_
   refine ae rfl (aM Tryz.call201 rfl (CU W0 _ b rl pc i x hl hi h0)) ?_
   rintro _ B_ ⟨rfl, hB_⟩
   obtain rfl := hB_.symm
   refine au 9 ?_
   refine ah (.inl rfl) (.cons (ac rfl) .nil) ?_
   rw [hir]
   exact ⟨_, ⟨rfl, rfl⟩, inferInstance⟩
  ·intro c4
   exact absurd (by rw [hir]; rfl) c4
abbrev wB (id : Nat) : Obj := aj ([wV 0, wV 0, wV 0, wV 0, wV 0, wV 4, wV 0] ++ [.int .i64 id, .bool true]) 432
theorem CV (W0 : World) (R : List HP) : ao Tryz.prog W0 285 [] R (fun v B => v = .agg #[wV 0, wV 0, wV 0, wV 0, wV 0, wV 4, wV 0] ∧ B = R) := by
 refine aD Tryz.func285 Tryz.ntmps285 rfl rfl ?_
 refine au 2 ?_
 refine ae rfl (cd ym) ?_
 rintro _ _ ⟨b1, rfl, rfl⟩
 refine au 4 ?_
 refine aa rfl (CP yn cg ym rfl rfl (by decide)) ?_
 refine b0 (bS lJ rfl rfl rfl rfl rfl) ?_
 rintro _ _ rfl
 refine au 3 ?_
 refine ah (.inl rfl) (.cons (fh Tryz.isAgg429 lJ rfl rfl) .nil) ?_
 exact ⟨_, ⟨rfl, rfl⟩, inferInstance⟩
theorem CW (W0 : World) (R : List HP) (i : Nat) (hi : i < 4) : ao Tryz.prog W0 191 [.int .i64 i] R (fun v B => ∃ b, v = .tuple #[.pointer (some ⟨b, 0, none⟩), .int .i64 0] ∧ B = pt b (wB i) :: R) := by
 refine aD Tryz.func191 Tryz.ntmps191 rfl rfl ?_
 refine au 12 ?_
 refine aZ rfl rfl rfl ?_ ?_
 ·intro g1_3
  omega
 ·intro g1_3
  refine au 6 ?_
  refine ai rfl ?_ ?_
  ·intro c1
   omega
  ·intro c1
   refine au 4 ?_
   refine ae rfl (aF Tryz.call285 rfl (CV W0 _)) ?_
   rintro _ B_ ⟨rfl, hB_⟩
   obtain rfl := hB_.symm
   refine aa rfl (ag rfl) (aa rfl (bI Tryz.underlying432 Tryz.zeroValue432 (aA lJ (aA ar (aA cu bH))) (i5 rfl lJ rfl rfl (Nat.le_of_ble_eq_true rfl) SetRL.eq (aS rfl ar rfl rfl (Nat.le_of_ble_eq_true rfl) SetL.eq (aS rfl cu rfl rfl (Nat.le_of_ble_eq_true rfl) SetL.eq bG)))) ?_)
   refine ae rfl (bw rfl) ?_
   rintro _ _ ⟨b1, rfl, rfl⟩
   refine au 5 ?_
   refine ah (.inl rfl) (.cons (ac rfl) (.cons (ac rfl) .nil)) ?_
   exact ⟨_, ⟨_, rfl, rfl⟩, ent_refl⟩
abbrev ib : Obj := aj ([.bool false, .bool false, .int .i64 0, .int .i64 0, .bool false, .bool false, .int .i64 0, .int .i64 0, .bool false, .bool false, .int .i64 0, .int .i64 0, .bool false, .bool false, .int .i64 0, .int .i64 0, .bool false, .bool false, .int .i64 0, .int .i64 0, .bool false, .bool false, .int .i64 0, .int .i64 0, .bool false, .bool false, .int .i64 0, .int .i64 0, .bool false, .bool false, .int .i64 0, .int .i64 0, .slice none 0 0, .int .i64 0, .bool false].set 34 (.bool true)) 443
theorem CX (W0 : World) (R : List HP) : ao Tryz.prog W0 194 [] R (fun v B => ∃ b, v = .pointer (some ⟨b, 0, none⟩) ∧ B = pt b ib :: R) := by
 refine aD Tryz.func194 Tryz.ntmps194 rfl rfl ?_
 refine au 7 ?_
 refine aa rfl (bI lN Tryz.zeroValue443 (aA sK (aA yo (aA ar (aA cu bH)))) (aS rfl cu rfl rfl (Nat.le_of_ble_eq_true rfl) SetL.eq bG)) ?_
 refine ae rfl (bw rfl) ?_
 rintro _ _ ⟨b1, rfl, rfl⟩
 refine au 4 ?_
 refine ah (.inl rfl) (.cons (ac rfl) .nil) ?_
 exact ⟨_, ⟨_, rfl, rfl⟩, ent_refl⟩
abbrev wC : Obj := aj [cZ, .bool false, .bool false, .bool false, .bool false, .int .i64 0, .bool true] 449
theorem CY (W0 : World) (R : List HP) : ao Tryz.prog W0 195 [] R (fun v B => ∃ b, v = .pointer (some ⟨b, 0, none⟩) ∧ B = pt b wC :: R) := by
 refine aD Tryz.func195 Tryz.ntmps195 rfl rfl ?_
 refine au 7 ?_
 refine aa rfl (bI Tryz.underlying449 Tryz.zeroValue449 (aA Tryz.sizeOf446 (aA Tryz.sizeOf447 (aA ar (aA cu bH)))) (aS rfl cu rfl rfl (Nat.le_of_ble_eq_true rfl) SetL.eq bG)) ?_
 refine ae rfl (bw rfl) ?_
 rintro _ _ ⟨b1, rfl, rfl⟩
 refine au 4 ?_
 refine ah (.inl rfl) (.cons (ac rfl) .nil) ?_
 exact ⟨_, ⟨_, rfl, rfl⟩, ent_refl⟩
abbrev wD : Obj := aj [cZ, .bool true] 355
theorem CZ (W0 : World) (R : List HP) : ao Tryz.prog W0 81 [] R (fun v B => ∃ b, v = .pointer (some ⟨b, 0, none⟩) ∧ B = pt b wD :: R) := by
 refine aD Tryz.func81 Tryz.ntmps81 rfl rfl ?_
 refine au 7 ?_
 refine aa rfl (bI Tryz.underlying355 Tryz.zeroValue355 (aA lQ (aA cu bH)) (aS rfl cu rfl rfl (Nat.le_of_ble_eq_true rfl) SetL.eq bG)) ?_
 refine ae rfl (bw rfl) ?_
 rintro _ _ ⟨b1, rfl, rfl⟩
 refine au 4 ?_
 refine ah (.inl rfl) (.cons (ac rfl) .nil) ?_
 exact ⟨_, ⟨_, rfl, rfl⟩, ent_refl⟩
structure Evt where
  k : Int
  clock : Int
  code : Nat
  val : Nat
  pc : Nat
  rl : List Nat
@[reducible] def iL (e : Evt) : List Value := [.int .i64 e.k, .int .i64 e.clock, wV e.code, wV e.val, wV e.pc] ++ (List.range 16).map fun i => wV (e.rl.getD i 0)
theorem D1 (e : Evt) : (iL e).length = 21 := by simp [iL]
theorem D2 {e : Evt} (h : e.rl.length = 16) : iL e = [.int .i64 e.k, .int .i64 e.clock, wV e.code, wV e.val, wV e.pc] ++ e.rl.map wV := by
 unfold iL; congr 1
 apply List.ext_getElem
 ·simp [h]
 ·intro i h1 h2
  have : i < e.rl.length := by simpa using h2
  simp [List.getD, this]
def bO (b : Nat) (es : List Evt) : HP := chk (fun C => ∃ a c, C = [pt b (aj [.slice a es.length c, .bool true] 162), osl 389 21 (.slice a es.length c) (es.flatMap iL)])
section
variable {P : Program} {W0 : World} {N : FSz} {K : Act → World → Prop} {e : bq} {A B R R1 R2 : List HP} {b n : Nat} {es : List Evt} {f : FuncId} {args : List Value} {Post : Value → List HP → Prop}
theorem rZ [hk : Tk bO b A es R] (h : ∀ a c, aE W0 N K e (pt b (aj [.slice a es.length c, .bool true] 162) :: osl 389 21 (.slice a es.length c) (es.flatMap iL) :: R)) : aE W0 N K e A :=
 dP (r := bO) (b := b) (iU fun C hC => by obtain ⟨a, c, rfl⟩ := hC; exact h a c)
theorem oP {a : Option Addr} {c : Nat} {xs : List Value} [h1 : Tk pt b A (aj [.slice a n c, .bool true] 162) R1] [h2 : Tk (osl 389 21) (.slice a n c) R1 xs R2] (hn : n = es.length) (hx : xs = es.flatMap iL) [k : Ent R2 B] : Ent A (bO b es :: B) := by
 subst hn; subst hx
 exact (Ent.ofPerm (h1.perm.trans (h2.perm.cons _))).trans ((Ent.cons (Ent.cons k)).trans (eF (R := B) (C := [_, _]) ⟨a, c, rfl⟩))
end
theorem D3 (W0 : World) (R : List HP) : ao Tryz.prog W0 82 [] R (fun v B => ∃ b, v = .pointer (some ⟨b, 0, none⟩) ∧ B = bO b [] :: R) := by
 refine aD Tryz.func82 Tryz.ntmps82 rfl rfl ?_
 refine au 7 ?_
 refine aa rfl (bI pu Tryz.zeroValue162 (aA kG (aA cu bH)) (aS rfl cu rfl rfl (Nat.le_of_ble_eq_true rfl) SetL.eq bG)) ?_
 refine ae rfl (bw rfl) ?_
 rintro _ _ ⟨b1, rfl, rfl⟩
 refine au 4 ?_
 refine ah (.inl rfl) (.cons (ac rfl) .nil) ?_
 exact ⟨_, ⟨_, rfl, rfl⟩, (Ent.cons (fj (E := 389) (sz := 21) (A := R) (B := R))).trans (eF (R := R) (C := [_, _]) ⟨none, 0, rfl⟩)⟩
theorem wE (W0 : World) (R : List HP) (b : Nat) (es : List Evt) : ao Tryz.prog W0 57 [.pointer (some ⟨b, 0, none⟩)] (bO b es :: R) (fun v B => v = .bool false ∧ B = bO b es :: R) := by
 refine aD Tryz.func57 Tryz.ntmps57 rfl rfl ?_
 refine au 6 ?_
 refine rZ (b := b) fun a c => ?_
 refine au 4 ?_
 refine aZ rfl rfl rfl ?_ ?_
 ·intro g1_3
  cases g1_3
 ·intro g1_3
  refine au 14 ?_
  refine ah (.inl rfl) (.cons (ac rfl) .nil) ?_
  exact ⟨_, ⟨rfl, rfl⟩, oP rfl rfl⟩
theorem D4 (W0 : World) (R : List HP) (b : Nat) (es : List Evt) : ao Tryz.prog W0 25 [.pointer (some ⟨b, 0, none⟩)] (bO b es :: R) (fun v B => v = .int .i64 (es.length : Nat) ∧ B = bO b es :: R) := by
 refine aD Tryz.func25 Tryz.ntmps25 rfl rfl ?_
 refine au 9 ?_
 refine ae rfl (aM Tryz.call57 rfl (wE W0 _ b es)) ?_
 rintro _ B_ ⟨rfl, hB_⟩
 obtain rfl := hB_.symm
 refine au 2 ?_
 refine ai rfl ?_ ?_
 ·intro c1
  exact absurd c1 (by decide)
 ·intro c1
  refine au 3 ?_
  refine rZ (b := b) fun a c => ?_
  refine au 10 ?_
  refine ah (.inl rfl) (.cons (ac rfl) .nil) ?_
  exact ⟨_, ⟨rfl, rfl⟩, oP rfl rfl⟩
theorem D5 (W0 : World) (R : List HP) (b : Nat) (es : List Evt) (x : Evt) (hn : es.length < 4096) : ao Tryz.prog W0 228 [.pointer (some ⟨b, 0, none⟩), .agg (iL x).toArray] (bO b es :: R) (fun v B => v = .int .i64 0 ∧ B = bO b (es ++ [x]) :: R) := by
 have he : es.flatMap iL ++ [iL x].flatten = (es ++ [x]).flatMap iL := by simp
 refine aD Tryz.func228 Tryz.ntmps228 rfl rfl ?_
 refine au 2 ?_
 refine ae rfl (bw rfl) ?_
 rintro _ _ ⟨b3, rfl, rfl⟩
 refine au 8 ?_
 refine ae rfl (aM Tryz.call57 rfl (wE W0 _ b es)) ?_
 rintro _ B_ ⟨rfl, hB_⟩
 obtain rfl := hB_.symm
 refine au 3 ?_
 refine ai rfl ?_ ?_
 ·intro c1
  exact absurd c1 (by decide)
 ·intro c1
  refine al ?_
  refine rZ (b := b) fun a c => ?_
  refine au 10 ?_
  refine ai rfl ?_ ?_
  ·intro c3
   omega
  ·intro c3
   refine au 4 ?_
   refine bR [(b3, 0, _)] 11 bQ rfl (aC aB) (fun hS => ?_)
   refine ab 0 rfl rfl rfl hS (ag rfl) ?_
   refine ab 1 rfl rfl rfl hS (ag rfl) ?_
   refine ab 2 rfl rfl rfl hS (aU rfl) ?_
   refine ab 3 rfl rfl rfl hS (ap rfl pu rfl kG rfl (by first | exact Nat.zero_add _ | rfl)) ?_
   refine ab 5 rfl rfl rfl hS (cj Tryz.isAgg389 yp rfl (cT (k := 0) rfl) (D1 x)) ?_
   refine i6 (is := [4, 6]) (by kernel_rfl) rfl ⟨?_, ?_, trivial⟩
   ·skip
    refine ed rfl rfl (ec (am xy rfl (aH rfl))) rfl ?_; clear hS
    rintro _ _ ⟨rfl, rfl⟩
    refine ⟨(aC aB), fun hS => ?_⟩
    refine aW 6 (by kernel_rfl) rfl rfl (fF pr yp yq rfl (eo rfl rfl fD) rfl (by decide) (by decide) (by decide)) rfl ?_; clear hS
    rintro _ _ ⟨b2, rfl, rfl⟩
    refine ⟨(aC aB), fun hS => ?_⟩
    refine aW 7 (by kernel_rfl) rfl rfl (dy (sz := 21) (by_ := 96) (info := Tryz.t389) pr (by kernel_rfl) rfl rfl rfl rfl (by decide) rfl rfl dz rfl rfl (by simp only [maxLen]; omega) (by omega)) rfl ?_; clear hS
    rintro _ _ ⟨a3, c3, rfl, rfl⟩
    refine ⟨(aC aB), fun hS => ?_⟩
    refine ab 8 rfl rfl rfl hS (aU rfl) ?_
    refine ab 9 rfl rfl rfl hS (ap rfl pu rfl kG rfl (by first | exact Nat.zero_add _ | rfl)) ?_
    refine aW 10 (by kernel_rfl) rfl rfl (bN kG rfl rfl rfl (Nat.le_of_ble_eq_true rfl) SetL.eq) rfl ?_; clear hS
    rintro _ _ rfl
    refine ⟨(aC aB), fun hS => ?_⟩
    refine bz (by kernel_rfl) ?_; clear hS
    refine au 7 ?_
    refine ah (.inl rfl) (.cons (ac rfl) .nil) ?_
    exact ⟨_, ⟨rfl, rfl⟩, oP (es := es ++ [x]) (by simp) he⟩
   ·skip
    refine ed rfl rfl (fF pr yp yq rfl (eo rfl rfl fD) rfl (by decide) (by decide) (by decide)) rfl ?_; clear hS
    rintro _ _ ⟨b2, rfl, rfl⟩
    refine ⟨(aC aB), fun hS => ?_⟩
    refine aW 4 (by kernel_rfl) rfl rfl (ec (am xy rfl (aH rfl))) rfl ?_; clear hS
    rintro _ _ ⟨rfl, rfl⟩
    refine ⟨(aC aB), fun hS => ?_⟩
    refine aW 7 (by kernel_rfl) rfl rfl (dy (sz := 21) (by_ := 96) (info := Tryz.t389) pr (by kernel_rfl) rfl rfl rfl rfl (by decide) rfl rfl dz rfl rfl (by simp only [maxLen]; omega) (by omega)) rfl ?_; clear hS
    rintro _ _ ⟨a3, c3, rfl, rfl⟩
    refine ⟨(aC aB), fun hS => ?_⟩
    refine ab 8 rfl rfl rfl hS (aU rfl) ?_
    refine ab 9 rfl rfl rfl hS (ap rfl pu rfl kG rfl (by first | exact Nat.zero_add _ | rfl)) ?_
    refine aW 10 (by kernel_rfl) rfl rfl (bN kG rfl rfl rfl (Nat.le_of_ble_eq_true rfl) SetL.eq) rfl ?_; clear hS
    rintro _ _ rfl
    refine ⟨(aC aB), fun hS => ?_⟩
    refine bz (by kernel_rfl) ?_; clear hS
    refine au 7 ?_
    refine ah (.inl rfl) (.cons (ac rfl) .nil) ?_
    exact ⟨_, ⟨rfl, rfl⟩, oP (es := es ++ [x]) (by simp) he⟩
abbrev gU (cats who quota : Int) : Obj := aj [cZ, .int .i64 0, .int .i64 0, .int .i64 0, .int .i64 cats, .int .i64 who, .int .i64 quota, .bool true] 126
theorem D6 (W0 : World) (R : List HP) (cats who quota : Int) (h1 : 0 ≤ cats ∧ cats ≤ 8) (h2 : -1 ≤ who ∧ who < 4) (h3 : 0 ≤ quota ∧ quota ≤ 64) : ao Tryz.prog W0 63 [.int .i64 cats, .int .i64 who, .int .i64 quota] R (fun v B => ∃ b, v = .tuple #[.pointer (some ⟨b, 0, none⟩), .int .i64 0] ∧ B = pt b (gU cats who quota) :: R) := by
 refine aD Tryz.func63 Tryz.ntmps63 rfl rfl ?_
 refine au 22 ?_
 refine ai rfl ?_ ?_
 ·intro c1
  omega
 ·intro c1
  refine au 6 ?_
  refine ai rfl ?_ ?_
  ·intro c2
   omega
  ·intro c2
   refine au 11 ?_
   refine ai rfl ?_ ?_
   ·intro c3
    omega
   ·intro c3
    refine au 6 ?_
    refine ai rfl ?_ ?_
    ·intro c4
     omega
    ·intro c4
     refine au 10 ?_
     refine ai rfl ?_ ?_
     ·intro c5
      omega
     ·intro c5
      refine au 6 ?_
      refine ai rfl ?_ ?_
      ·intro c6
       omega
      ·intro c6
       refine au 14 ?_
       refine aa rfl (bI Fp Tryz.zeroValue126 (aA Tryz.sizeOf124 (aA ar (aA ar (aA ar (aA cu bH))))) (aS rfl ar rfl rfl (Nat.le_of_ble_eq_true rfl) SetL.eq (aS rfl ar rfl rfl (Nat.le_of_ble_eq_true rfl) SetL.eq (aS rfl ar rfl rfl (Nat.le_of_ble_eq_true rfl) SetL.eq (aS rfl cu rfl rfl (Nat.le_of_ble_eq_true rfl) SetL.eq bG))))) ?_
       refine ae rfl (bw rfl) ?_
       rintro _ _ ⟨b1, rfl, rfl⟩
       refine au 5 ?_
       refine ah (.inl rfl) (.cons (ac rfl) (.cons (ac rfl) .nil)) ?_
       exact ⟨_, ⟨_, rfl, rfl⟩, ent_refl⟩
end
section
structure It where
  kr : Int
  kp : Int
  ep : Int
  ef : Int
  er : Int
  u : Int
deriving DecidableEq
instance : Inhabited It := ⟨⟨0, 0, 0, 0, 0, 0⟩⟩
def It.key (x : It) : Int × Int := (x.kr, x.kp)
def It.ent (x : It) : Int × Int × Int := (x.ep, x.ef, x.er)
def e9 (x : It) : List Value := [.int .i64 x.kr, .int .i64 x.kp, .int .i64 x.ep, .int .i64 x.ef, .int .i64 x.er, .int .i64 x.u]
theorem jK (x : It) : (e9 x).length = 6 := rfl
def us (l : List It) (i : Nat) : Int := (l.getD i default).u
theorem qv {l : List It} {i : Nat} (h : i < l.length) : us l i = l[i].u := by simp [us, List.getD, h]
def swapL (l : List It) (i j : Nat) : List It := (l.set i (l.getD j default)).set j (l.getD i default)
theorem qw (l : List It) (i j : Nat) : (swapL l i j).length = l.length := by simp [swapL]
theorem kg {l : List It} {i j : Nat} (hi : i < l.length) (hj : j < l.length) (x : Nat) : (swapL l i j).getD x default = if x = i then l.getD j default else if x = j then l.getD i default else l.getD x default := by
 simp only [swapL, List.getD_eq_getElem?_getD, List.getElem?_set, List.length_set]
 by_cases h1 : x = j
 ·subst h1
  by_cases h2 : x = i
  ·subst h2; simp [hj]
  ·simp [hj, h2]
 ·have h1' : ¬ j = x := fun h => h1 h.symm
  by_cases h2 : x = i
  ·subst h2; simp [h1', hi]
  ·have h2' : ¬ i = x := fun h => h2 h.symm
   simp [h1, h1', h2, h2']
theorem ji {l : List It} {i j : Nat} (hi : i < l.length) (hj : j < l.length) (x : Nat) : us (swapL l i j) x = if x = i then us l j else if x = j then us l i else us l x := by
 unfold us; rw [kg hi hj]; split
 ·rfl
 ·split <;> rfl
theorem qx {α : Type} : ∀ (l : List α) (i j : Nat) (hi : i < l.length) (hj : j < l.length), ((l.set i l[j]).set j l[i]).Perm l := by
 intro l i j hi hj
 have : ((l.set i l[j]).set j l[i]).Perm l := List.set_set_perm hi hj
 exact this
theorem kh {l : List It} {i j : Nat} (hi : i < l.length) (hj : j < l.length) : (swapL l i j).Perm l := by
 have := qx l i j hi hj
 simpa [swapL, List.getD, hi, hj] using this
def Heap (l : List It) (n : Nat) : Prop := ∀ c, c < n → 0 < c → us l ((c - 1) / 2) ≤ us l c
def gv (l : List It) (i n : Nat) : Prop := ∀ c, c < n → 0 < c → (c ≠ i → (c - 1) / 2 ≠ i → us l ((c - 1) / 2) ≤ us l c) ∧ ((c - 1) / 2 = i → 0 < i → us l ((i - 1) / 2) ≤ us l c)
def Up (l : List It) (j n : Nat) : Prop := ∀ c, c < n → 0 < c → (c ≠ j → us l ((c - 1) / 2) ≤ us l c) ∧ ((c - 1) / 2 = j → 0 < j → us l ((j - 1) / 2) ≤ us l c)
theorem qy {l : List It} {i j n : Nat} (h : gv l i n) (hn : n ≤ l.length) (hj : j < n) (hc : (j - 1) / 2 = i) (h0 : 0 < j) (hlt : us l j < us l i)
  (hmin : ∀ c, c < n → 0 < c → (c - 1) / 2 = i → us l j ≤ us l c) : gv (swapL l i j) j n ∧ us (swapL l i j) ((j - 1) / 2) ≤ us (swapL l i j) j := by
 have hij : i < j := by omega
 have sw := ji (l := l) (i := i) (j := j) (by omega) (by omega)
 refine ⟨fun c hcn hc0 => ⟨fun h1 h2 => ?_, fun h1 h2 => ?_⟩, ?_⟩
 ·rw [sw, sw]
  by_cases e1 : c = i
  ·subst e1
   have := (h j hj h0).2 hc (by omega)
   rw [if_neg (by omega), if_neg (by omega), if_pos rfl]; exact this
  ·by_cases e2 : (c - 1) / 2 = i
   ·rw [if_pos e2, if_neg e1, if_neg h1]; exact hmin c hcn hc0 e2
   ·rw [if_neg e2, if_neg h2, if_neg e1, if_neg h1]; exact (h c hcn hc0).1 e1 e2
 ·rw [hc, sw, sw, if_pos rfl, if_neg (by omega), if_neg (by omega)]
  rw [← h1]; exact (h c hcn hc0).1 (by omega) (by omega)
 ·rw [hc, sw, sw, if_pos rfl, if_neg (by omega), if_pos rfl]; omega
theorem mn {l : List It} {i n : Nat} (h : gv l i n) (hmin : ∀ c, c < n → 0 < c → (c - 1) / 2 = i → us l i ≤ us l c) (hp : 0 < i → us l ((i - 1) / 2) ≤ us l i) : Heap l n := fun c hc h0 => by
 by_cases e1 : (c - 1) / 2 = i
 ·rw [e1]; exact hmin c hc h0 e1
 ·by_cases e2 : c = i
  ·subst e2; exact hp h0
  ·exact (h c hc h0).1 e2 e1
theorem qz {l : List It} {j n : Nat} (h : Up l j n) (hn : n ≤ l.length) (hj : j < n) (h0 : 0 < j) (hlt : us l j < us l ((j - 1) / 2)) : Up (swapL l ((j - 1) / 2) j) ((j - 1) / 2) n := by
 have sw := ji (l := l) (i := (j - 1) / 2) (j := j) (by omega) (by omega)
 intro c hc hc0
 refine ⟨fun h1 => ?_, fun h1 h2 => ?_⟩
 ·rw [sw, sw]
  by_cases e1 : c = j
  ·subst e1; rw [if_pos rfl, if_neg (by omega), if_pos rfl]; omega
  ·by_cases e2 : (c - 1) / 2 = (j - 1) / 2
   ·rw [if_pos e2, if_neg (by omega), if_neg e1]
    have := (h c hc hc0).1 e1; rw [e2] at this; omega
   ·by_cases e3 : (c - 1) / 2 = j
    ·rw [if_neg e2, if_pos e3, if_neg h1, if_neg e1]; exact (h c hc hc0).2 e3 h0
    ·rw [if_neg e2, if_neg e3, if_neg h1, if_neg e1]; exact (h c hc hc0).1 e1
 ·rw [sw, sw, if_neg (by omega), if_neg (by omega)]
  have hp := (h ((j - 1) / 2) (by omega) h2).1 (by omega)
  by_cases e1 : c = j
  ·subst e1; rw [if_neg (by omega), if_pos rfl]; exact hp
  ·rw [if_neg (by omega), if_neg e1]
   have := (h c hc hc0).1 e1; rw [h1] at this; omega
theorem mo {l : List It} {j n : Nat} (h : Up l j n) (hp : 0 < j → us l ((j - 1) / 2) ≤ us l j) : Heap l n := fun c hc h0 => by
 by_cases e : c = j
 ·subst e; exact hp h0
 ·exact (h c hc h0).1 e
theorem qA {l : List It} {n : Nat} (h : Heap l n) : ∀ c, c < n → us l 0 ≤ us l c := by
 intro c
 induction c using Nat.strongRecOn with
 | _ c ih =>
  intro hc
  by_cases h0 : c = 0
  ·subst h0; omega
  ·have := h c hc (by omega)
   have := ih ((c - 1) / 2) (by omega) (by omega)
   omega
theorem mp {l l' : List It} {n : Nat} (h : ∀ i, i < n → l.getD i default = l'.getD i default) {i : Nat} (hi : i < n) : us l i = us l' i := by unfold us; rw [h i hi]
theorem qB {l l' : List It} {n : Nat} (h : ∀ i, i < n → l.getD i default = l'.getD i default) (k : Heap l n) : Heap l' n := fun c hc h0 => by
 rw [← mp h hc, ← mp h (i := (c - 1) / 2) (by omega)]; exact k c hc h0
structure Down (its l : List It) (i0 n : Nat) (moved : Bool) : Prop where
  perm : l.Perm its
  tail : ∀ x, n ≤ x → l.getD x default = its.getD x default
  no : moved = false → l = its ∧ ∀ c, c < n → 0 < c → (c - 1) / 2 = i0 → us its i0 ≤ us its c
  yes : moved = true → Heap l n
theorem mq {l its : List It} {i i0 n : Nat} (hp : l.Perm its) (hi : i0 ≤ i) (hH : gv l i n) (ht : ∀ x, n ≤ x → l.getD x default = its.getD x default) (h0 : i = i0 → l = its)
  (hg : i0 < i → us l ((i - 1) / 2) ≤ us l i) (hmin : ∀ c, c < n → 0 < c → (c - 1) / 2 = i → us l i ≤ us l c) : Down its l i0 n (decide (i0 < i)) :=
 ⟨hp, ht, fun h => by
  have : i = i0 := by simp at h; omega
  subst this
  obtain rfl := h0 rfl
  exact ⟨rfl, hmin⟩, fun h => by
  have : i0 < i := by simpa using h
  exact mn hH hmin fun _ => hg this⟩
end
section
open Go.RowKit
def dX (b : Nat) (x : List It × List Value) : HP := chk (fun C => ∃ a c, C = [pt b (aj (.slice a x.1.length c :: x.2) 494), osl 487 6 (.slice a x.1.length c) (x.1.flatMap e9)])
section
variable {P : Program} {W0 : World} {R A : List HP} {b : Nat} {its : List It} {tl : List Value} {f : FuncId} {args : List Value} {Post : Value → List HP → Prop}
theorem s0 (h : ∀ a c, ao P W0 f args (pt b (aj (.slice a its.length c :: tl) 494) :: osl 487 6 (.slice a its.length c) (its.flatMap e9) :: R) Post) : ao P W0 f args (dX b (its, tl) :: R) Post :=
 md fun C hC => by obtain ⟨a, c, rfl⟩ := hC; exact h a c
theorem s6 {a : Option Addr} {c n : Nat} {R1 R2 B : List HP} [h1 : Tk pt b A (aj (.slice a n c :: tl) 494) R1] [h2 : Tk (osl 487 6) (.slice a n c) R1 (its.flatMap e9) R2] (hn : n = its.length) [k : Ent R2 B] : Ent A (dX b (its, tl) :: B) := by
 subst hn
 exact (Ent.ofPerm (h1.perm.trans (h2.perm.cons _))).trans ((Ent.cons (Ent.cons k)).trans (eF (R := B) (C := [_, _]) ⟨a, c, rfl⟩))
theorem s7 (h0 : its ≠ []) (h : ∀ g c sp, its.length ≤ c → c ≤ maxLen → (its.flatMap e9 ++ sp).length = c * 6 → ao P W0 f args (pt b (aj (.slice (some ⟨g, 0, none⟩) its.length c :: tl) 494) :: pt g (aj (its.flatMap e9 ++ sp) 487) :: R) Post) : ao P W0 f args (dX b (its, tl) :: R) Post :=
 s0 fun a c => me (List.Perm.swap _ _ _) (ub (fun h1 h2 => by
   have := cX jK its
   rw [h2] at this
   exact absurd (List.eq_nil_of_length_eq_zero (by simp at this; omega)) h0)
  (fun g n cap sp h1 h2 h3 h4 h5 => by
   cases h1
   exact me (List.Perm.swap _ _ _) (h g _ sp h2 h3 h5)))
theorem oQ {g c n : Nat} {xs sp : List Value} {R1 R2 B : List HP} [h1 : Tk pt b A (aj (.slice (some ⟨g, 0, none⟩) n c :: tl) 494) R1] [h2 : Tk pt g R1 (aj (xs ++ sp) 487) R2] (hx : xs = its.flatMap e9) (hn : n = its.length) (hc : n ≤ c) (hm : c ≤ maxLen) (hl : (xs ++ sp).length = c * 6) [k : Ent R2 B] : Ent A (dX b (its, tl) :: B) := by
 subst hn
 subst hx
 have e : Ent R1 (osl 487 6 (.slice (some ⟨g, 0, none⟩) its.length c) (its.flatMap e9) :: B) := eP hc hm (cX jK its) hl
 exact (Ent.ofPerm h1.perm).trans ((Ent.cons e).trans (eF (R := B) (C := [_, _]) ⟨_, c, rfl⟩))
end
theorem wF (its : List It) (sp : List Value) (i j : Nat) (hi : i < its.length) (hj : j < 6) : (its.flatMap e9 ++ sp)[i * 6 + j]? = (e9 (its.getD i default))[j]? := by
 rw [jf jK its i j sp hi hj]; simp [List.getD, hi]
theorem mP (its : List It) (sp : List Value) (i : Nat) (hi : i < its.length) : ((its.flatMap e9 ++ sp).drop (i * 6)).take 6 = e9 (its.getD i default) := by
 rw [ma jK its i sp hi]; simp [List.getD, hi]
theorem oR (its : List It) (sp : List Value) (i : Nat) (x : It) (hi : i < its.length) : setR (its.flatMap e9 ++ sp) (i * 6) (e9 x) = (its.set i x).flatMap e9 ++ sp := nR jK its i x sp hi
theorem oS (its : List It) (sp : List Value) (i : Nat) (hi : i < its.length) : i * 6 + 6 ≤ (its.flatMap e9 ++ sp).length := by
 rw [List.length_append, cX jK]; omega
theorem wG {its : List It} {i : Nat} (h : i < its.length) : its ≠ [] := fun e => by rw [e] at h; simp at h
theorem wH (W0 : World) (R : List HP) (b : Nat) (its : List It) (tl : List Value) :
  ao Tryz.prog W0 483 [.pointer (some ⟨b, 0, none⟩)] (dX b (its, tl) :: R) (fun v B => v = .int .i64 (its.length : Nat) ∧ B = dX b (its, tl) :: R) := by
 refine s0 fun a c => ?_
 refine aD Tryz.func483 Tryz.ntmps483 rfl rfl ?_
 refine au 16 ?_
 refine ah (.inl rfl) (.cons (ac rfl) .nil) ?_
 exact ⟨_, ⟨rfl, rfl⟩, s6 rfl⟩
theorem s8 (W0 : World) (R : List HP) (b : Nat) (its : List It) (tl : List Value) (i k : Nat) (hi : i < its.length) (hk : k < its.length) :
  ao Tryz.prog W0 503 [.pointer (some ⟨b, 0, none⟩), .int .i64 i, .int .i64 k] (dX b (its, tl) :: R) (fun v B => v = .bool (decide (us its i < us its k)) ∧ B = dX b (its, tl) :: R) := by
 refine s7 (wG hi) fun g c sp h1 h2 h3 => ?_
 refine aD Tryz.func503 Tryz.ntmps503 rfl rfl ?_
 refine au 6 ?_
 refine bR [(b, 0, _), (g, 0, _)] 18 bQ rfl (aC (aC aB)) (fun hS => ?_)
 refine ab 0 rfl rfl rfl hS (ag rfl) ?_
 refine ab 1 rfl rfl rfl hS (aU rfl) ?_
 refine ab 2 rfl rfl rfl hS (ap rfl ii rfl gj rfl (by first | exact Nat.zero_add _ | rfl)) ?_
 refine ab 3 rfl rfl rfl hS (am iM rfl (by first | exact av (k := 0) rfl rfl | exact av (k := 1) rfl rfl)) ?_
 refine ab 4 rfl rfl rfl hS (ag rfl) ?_
 refine ab 5 rfl rfl rfl hS (bM gF f3 rfl rfl rfl hi (by first | exact Nat.zero_add _ | rfl)) ?_
 refine ab 6 rfl rfl rfl hS (ap rfl tp rfl ar rfl (by first | exact Nat.zero_add _ | rfl)) ?_
 refine ab 7 rfl rfl rfl hS (am aT rfl (av (k := 1) rfl ((wF its sp i 5 hi (by decide)).trans rfl))) ?_
 refine ab 8 rfl rfl rfl hS (ag rfl) ?_
 refine ab 9 rfl rfl rfl hS (aU rfl) ?_
 refine ab 10 rfl rfl rfl hS (ap rfl ii rfl gj rfl (by first | exact Nat.zero_add _ | rfl)) ?_
 refine ab 11 rfl rfl rfl hS (am iM rfl (by first | exact av (k := 0) rfl rfl | exact av (k := 1) rfl rfl)) ?_
 refine ab 12 rfl rfl rfl hS (ag rfl) ?_
 refine ab 13 rfl rfl rfl hS (bM gF f3 rfl rfl rfl hk (by first | exact Nat.zero_add _ | rfl)) ?_
 refine ab 14 rfl rfl rfl hS (ap rfl tp rfl ar rfl (by first | exact Nat.zero_add _ | rfl)) ?_
 refine ab 15 rfl rfl rfl hS (am aT rfl (av (k := 1) rfl ((wF its sp k 5 hk (by decide)).trans rfl))) ?_
 refine ab 16 rfl rfl rfl hS (eO rfl rfl) ?_
 refine ab 17 rfl rfl rfl hS (ax rfl) ?_
 refine bz (by kernel_rfl) ?_; clear hS
 refine au 2 ?_
 refine ah (.inl rfl) (.cons (ac rfl) .nil) ?_
 exact ⟨_, ⟨rfl, rfl⟩, oQ rfl rfl h1 h2 h3⟩
theorem s9 (W0 : World) (R : List HP) (b : Nat) (its : List It) (tl : List Value) (i k : Nat) (hi : i < its.length) (hk : k < its.length) :
  ao Tryz.prog W0 506 [.pointer (some ⟨b, 0, none⟩), .int .i64 i, .int .i64 k] (dX b (its, tl) :: R) (fun v B => v = .tuple #[] ∧ B = dX b (swapL its i k, tl) :: R) := by
 refine s7 (wG hi) fun g c sp h1 h2 h3 => ?_
 refine aD Tryz.func506 Tryz.ntmps506 rfl rfl ?_
 refine bR [(b, 0, _)] 28 bQ rfl (aC aB) (fun hS => ?_)
 refine ab 0 rfl rfl rfl hS (ag rfl) ?_
 refine ab 1 rfl rfl rfl hS (aU rfl) ?_
 refine ab 2 rfl rfl rfl hS (ap rfl ii rfl gj rfl (by first | exact Nat.zero_add _ | rfl)) ?_
 refine ab 3 rfl rfl rfl hS (am iM rfl (av (k := 0) rfl rfl)) ?_
 refine ab 4 rfl rfl rfl hS (ag rfl) ?_
 refine ab 5 rfl rfl rfl hS (ag rfl) ?_
 refine ab 6 rfl rfl rfl hS (aU rfl) ?_
 refine ab 7 rfl rfl rfl hS (ap rfl ii rfl gj rfl (by first | exact Nat.zero_add _ | rfl)) ?_
 refine ab 8 rfl rfl rfl hS (am iM rfl (av (k := 0) rfl rfl)) ?_
 refine ab 9 rfl rfl rfl hS (ag rfl) ?_
 refine ab 10 rfl rfl rfl hS (ag rfl) ?_
 refine ab 11 rfl rfl rfl hS (aU rfl) ?_
 refine ab 12 rfl rfl rfl hS (ap rfl ii rfl gj rfl (by first | exact Nat.zero_add _ | rfl)) ?_
 refine ab 13 rfl rfl rfl hS (am iM rfl (av (k := 0) rfl rfl)) ?_
 refine ab 14 rfl rfl rfl hS (ag rfl) ?_
 refine ab 15 rfl rfl rfl hS (bM gF f3 rfl rfl rfl hk (by first | exact Nat.zero_add _ | rfl)) ?_
 refine ab 17 rfl rfl rfl hS (ag rfl) ?_
 refine ab 18 rfl rfl rfl hS (aU rfl) ?_
 refine ab 19 rfl rfl rfl hS (ap rfl ii rfl gj rfl (by first | exact Nat.zero_add _ | rfl)) ?_
 refine ab 20 rfl rfl rfl hS (am iM rfl (av (k := 0) rfl rfl)) ?_
 refine ab 21 rfl rfl rfl hS (ag rfl) ?_
 refine ab 22 rfl rfl rfl hS (bM gF f3 rfl rfl rfl hi (by first | exact Nat.zero_add _ | rfl)) ?_
 refine i6 (is := [16, 23]) (by kernel_rfl) rfl ⟨?_, ?_, trivial⟩
 ·skip
  refine ed rfl rfl (ec (cj ns f3 rfl (fp (mP its sp k hk) rfl) rfl)) rfl ?_; clear hS
  rintro _ _ ⟨rfl, rfl⟩
  refine ⟨(aC aB), fun hS => ?_⟩
  refine aW 23 (by kernel_rfl) rfl rfl (ec (cj ns f3 rfl (fp (mP its sp i hi) rfl) rfl)) rfl ?_; clear hS
  rintro _ _ ⟨rfl, rfl⟩
  refine ⟨(aC aB), fun hS => ?_⟩
  refine ab 24 rfl rfl rfl hS (bM gF f3 rfl rfl rfl hi (by first | exact Nat.zero_add _ | rfl)) ?_
  refine aW 25 (by kernel_rfl) rfl rfl (iD f3 rfl rfl rfl rfl (oS its sp i hi) (oR its sp i (its.getD k default) hi)) rfl ?_; clear hS
  rintro _ _ rfl
  refine ⟨(aC aB), fun hS => ?_⟩
  refine ab 26 rfl rfl rfl hS (bM gF f3 rfl rfl rfl hk (by first | exact Nat.zero_add _ | rfl)) ?_
  refine aW 27 (by kernel_rfl) rfl rfl (iD f3 rfl rfl rfl rfl (oS (its.set i (its.getD k default)) sp k (by simpa using hk)) (oR (its.set i (its.getD k default)) sp k (its.getD i default) (by simpa using hk))) rfl ?_; clear hS
  rintro _ _ rfl
  refine ⟨(aC aB), fun hS => ?_⟩
  refine bz (by kernel_rfl) ?_; clear hS
  refine ah (.inr rfl) .nil ?_
  exact ⟨_, ⟨rfl, rfl⟩, oQ rfl (by simp [swapL]) (by simpa [swapL] using h1) h2 (by simpa [swapL, cX jK] using h3)⟩
 ·skip
  refine ed rfl rfl (ec (cj ns f3 rfl (fp (mP its sp i hi) rfl) rfl)) rfl ?_; clear hS
  rintro _ _ ⟨rfl, rfl⟩
  refine ⟨(aC aB), fun hS => ?_⟩
  refine aW 16 (by kernel_rfl) rfl rfl (ec (cj ns f3 rfl (fp (mP its sp k hk) rfl) rfl)) rfl ?_; clear hS
  rintro _ _ ⟨rfl, rfl⟩
  refine ⟨(aC aB), fun hS => ?_⟩
  refine ab 24 rfl rfl rfl hS (bM gF f3 rfl rfl rfl hi (by first | exact Nat.zero_add _ | rfl)) ?_
  refine aW 25 (by kernel_rfl) rfl rfl (iD f3 rfl rfl rfl rfl (oS its sp i hi) (oR its sp i (its.getD k default) hi)) rfl ?_; clear hS
  rintro _ _ rfl
  refine ⟨(aC aB), fun hS => ?_⟩
  refine ab 26 rfl rfl rfl hS (bM gF f3 rfl rfl rfl hk (by first | exact Nat.zero_add _ | rfl)) ?_
  refine aW 27 (by kernel_rfl) rfl rfl (iD f3 rfl rfl rfl rfl (oS (its.set i (its.getD k default)) sp k (by simpa using hk)) (oR (its.set i (its.getD k default)) sp k (its.getD i default) (by simpa using hk))) rfl ?_; clear hS
  rintro _ _ rfl
  refine ⟨(aC aB), fun hS => ?_⟩
  refine bz (by kernel_rfl) ?_; clear hS
  refine ah (.inr rfl) .nil ?_
  exact ⟨_, ⟨rfl, rfl⟩, oQ rfl (by simp [swapL]) (by simpa [swapL] using h1) h2 (by simpa [swapL, cX jK] using h3)⟩
theorem D7 (W0 : World) (R : List HP) (b : Nat) (its : List It) (x : It) (tl : List Value) :
  ao Tryz.prog W0 504 [.pointer (some ⟨b, 0, none⟩)] (dX b (its ++ [x], tl) :: R) (fun v B => v = .iface 487 (.agg (e9 x).toArray) ∧ B = dX b (its, tl) :: R) := by
 refine s7 (by simp) fun g c sp h1 h2 h3 => ?_
 have hl : (its ++ [x]).length = its.length + 1 := by simp
 rw [hl] at h1 ⊢
 have hg : (its ++ [x]).getD its.length default = x := by simp [List.getD]
 have hr := mP (its ++ [x]) sp its.length (by omega)
 rw [hg] at hr
 have he : (its ++ [x]).flatMap e9 ++ sp = its.flatMap e9 ++ (e9 x ++ sp) := by simp
 refine d5 Tryz.func504 Tryz.ntmps504 rfl rfl ?_
 refine al (az (aa rfl (ax rfl) (aw (ak (al (az (aa rfl (ag rfl) (aa rfl (aU rfl) ?_))))))))
 refine aa rfl (ap rfl ii rfl gj rfl (by first | exact Nat.zero_add _ | rfl)) ?_
 refine aa rfl (am iM rfl (aH rfl)) ?_
 refine aa rfl (dU gF rfl) ?_
 refine aa rfl (dG rfl rfl (by rw [aK (by simp only [maxLen] at h2; omega)]; omega : IntKind.wrap .i64 (((its.length + 1 : Nat) : Int) - 1) = ((its.length : Nat) : Int))) ?_
 refine aa rfl (ax rfl) (aw (ak (al (az (aa rfl (ag rfl) (aa rfl (aU rfl) ?_))))))
 refine aa rfl (ap rfl ii rfl gj rfl (by first | exact Nat.zero_add _ | rfl)) ?_
 refine aa rfl (am iM rfl (aH rfl)) ?_
 refine aa rfl (ag rfl) ?_
 refine aa rfl (bM gF f3 rfl rfl rfl (by omega) (by first | exact Nat.zero_add _ | rfl)) ?_
 refine aa rfl (cj ns f3 rfl (fp hr rfl) rfl) ?_
 refine ae rfl (cd yr) ?_
 rintro _ _ ⟨b1, rfl, rfl⟩
 refine b0 (bS f3 rfl rfl rfl rfl rfl) ?_
 rintro _ _ rfl
 refine aw (ak (al (az (aa rfl (ag rfl) (aa rfl (ag rfl) (aa rfl (aU rfl) ?_))))))
 refine aa rfl (ap rfl ii rfl gj rfl (by first | exact Nat.zero_add _ | rfl)) ?_
 refine aa rfl (am iM rfl (aH rfl)) ?_
 refine aa rfl (ag rfl) ?_
 refine aa rfl (kb gF f3 rfl rfl rfl (by omega)) ?_
 refine aa rfl (aU rfl) ?_
 refine aa rfl (ap rfl ii rfl gj rfl (by first | exact Nat.zero_add _ | rfl)) ?_
 refine b0 (bN gj rfl rfl rfl (Nat.le_of_ble_eq_true rfl) SetL.eq) ?_
 rintro _ _ rfl
 refine aw (ak (al (az (aa rfl (iS ns f3 rfl rfl) ?_))))
 refine aa rfl (ka tp (fun _ h => nomatch h) rfl) ?_
 refine aa rfl (ax rfl) (aw (ak (bY (ah (.inl rfl) (.cons (ac rfl) .nil) ?_))))
 rw [he]
 exact ⟨_, ⟨rfl, rfl⟩, oQ (sp := e9 x ++ sp) rfl rfl (by omega) h2 (by rw [← he]; exact h3)⟩
theorem D8 (W0 : World) (R : List HP) (b : Nat) (its : List It) (x : It) (tl : List Value) (hn : its.length < 1000) :
  ao Tryz.prog W0 505 [.pointer (some ⟨b, 0, none⟩), .iface 487 (.agg (e9 x).toArray)] (dX b (its, tl) :: R) (fun v B => v = .tuple #[] ∧ B = dX b (its ++ [x], tl) :: R) := by
 refine s0 fun a c => ?_
 have he : its.flatMap e9 ++ [e9 x].flatten = (its ++ [x]).flatMap e9 := by simp
 refine aD Tryz.func505 Tryz.ntmps505 rfl rfl ?_
 refine bR [] 12 bQ rfl aB (fun hS => ?_)
 refine ab 0 rfl rfl rfl hS (ag rfl) ?_
 refine ab 1 rfl rfl rfl hS (ag rfl) ?_
 refine ab 2 rfl rfl rfl hS (aU rfl) ?_
 refine ab 3 rfl rfl rfl hS (ap rfl ii rfl gj rfl (by first | exact Nat.zero_add _ | rfl)) ?_
 refine ab 5 rfl rfl rfl hS (ag rfl) ?_
 refine ab 6 rfl rfl rfl hS (nS tp (fun _ h => nomatch h) rfl) ?_
 refine i6 (is := [4, 7]) (by kernel_rfl) rfl ⟨?_, ?_, trivial⟩
 ·skip
  refine ed rfl rfl (ec (am iM rfl (aH rfl))) rfl ?_; clear hS
  rintro _ _ ⟨rfl, rfl⟩
  refine ⟨aB, fun hS => ?_⟩
  refine aW 7 (by kernel_rfl) rfl rfl (fF gF f3 yr rfl (eo rfl rfl fD) rfl (by decide) (by decide) (by decide)) rfl ?_; clear hS
  rintro _ _ ⟨b1, rfl, rfl⟩
  refine ⟨aB, fun hS => ?_⟩
  refine aW 8 (by kernel_rfl) rfl rfl (dy (sz := 6) (by_ := 48) (info := Tryz.t487) gF (by kernel_rfl) rfl rfl rfl rfl (by decide) rfl rfl dz rfl rfl (by simp only [maxLen]; omega) (by omega)) rfl ?_; clear hS
  rintro _ _ ⟨a1, c1, rfl, rfl⟩
  refine ⟨aB, fun hS => ?_⟩
  refine ab 9 rfl rfl rfl hS (aU rfl) ?_
  refine ab 10 rfl rfl rfl hS (ap rfl ii rfl gj rfl (by first | exact Nat.zero_add _ | rfl)) ?_
  refine aW 11 (by kernel_rfl) rfl rfl (bN gj rfl rfl rfl (Nat.le_of_ble_eq_true rfl) SetL.eq) rfl ?_; clear hS
  rintro _ _ rfl
  refine ⟨aB, fun hS => ?_⟩
  refine bz (by kernel_rfl) ?_; clear hS
  refine ah (.inr rfl) .nil ?_
  rw [he]
  exact ⟨_, ⟨rfl, rfl⟩, s6 (its := its ++ [x]) (by simp)⟩
 ·skip
  refine ed rfl rfl (fF gF f3 yr rfl (eo rfl rfl fD) rfl (by decide) (by decide) (by decide)) rfl ?_; clear hS
  rintro _ _ ⟨b1, rfl, rfl⟩
  refine ⟨aB, fun hS => ?_⟩
  refine aW 4 (by kernel_rfl) rfl rfl (ec (am iM rfl (aH rfl))) rfl ?_; clear hS
  rintro _ _ ⟨rfl, rfl⟩
  refine ⟨aB, fun hS => ?_⟩
  refine aW 8 (by kernel_rfl) rfl rfl (dy (sz := 6) (by_ := 48) (info := Tryz.t487) gF (by kernel_rfl) rfl rfl rfl rfl (by decide) rfl rfl dz rfl rfl (by simp only [maxLen]; omega) (by omega)) rfl ?_; clear hS
  rintro _ _ ⟨a1, c1, rfl, rfl⟩
  refine ⟨aB, fun hS => ?_⟩
  refine ab 9 rfl rfl rfl hS (aU rfl) ?_
  refine ab 10 rfl rfl rfl hS (ap rfl ii rfl gj rfl (by first | exact Nat.zero_add _ | rfl)) ?_
  refine aW 11 (by kernel_rfl) rfl rfl (bN gj rfl rfl rfl (Nat.le_of_ble_eq_true rfl) SetL.eq) rfl ?_; clear hS
  rintro _ _ rfl
  refine ⟨aB, fun hS => ?_⟩
  refine bz (by kernel_rfl) ?_; clear hS
  refine ah (.inr rfl) .nil ?_
  rw [he]
  exact ⟨_, ⟨rfl, rfl⟩, s6 (its := its ++ [x]) (by simp)⟩
section
variable (w : World) (a : Addr)
theorem wI : (method (Tryz.prog.types.size + Made.depth) 575 (.pointer (some a)) "Len").run Tryz.prog w = .ok (483, .pointer (some a)) w := by kernel_rfl
theorem sb : (method (Tryz.prog.types.size + Made.depth) 575 (.pointer (some a)) "Less").run Tryz.prog w = .ok (503, .pointer (some a)) w := by kernel_rfl
theorem sd : (method (Tryz.prog.types.size + Made.depth) 575 (.pointer (some a)) "Swap").run Tryz.prog w = .ok (506, .pointer (some a)) w := by kernel_rfl
theorem D9 : (method (Tryz.prog.types.size + Made.depth) 575 (.pointer (some a)) "Push").run Tryz.prog w = .ok (505, .pointer (some a)) w := by kernel_rfl
theorem Da : (method (Tryz.prog.types.size + Made.depth) 575 (.pointer (some a)) "Pop").run Tryz.prog w = .ok (504, .pointer (some a)) w := by kernel_rfl
end
def kx (b : Nat) : Value := .iface 575 (.pointer (some ⟨b, 0, none⟩))
theorem qQ {j : Nat} (h : j < 1000) : IntKind.wrap .i64 (Int.tdiv ((j : Int) - 1) 2) = (((j - 1) / 2 : Nat) : Int) := by
 by_cases h0 : j = 0
 ·subst h0; decide
 ·obtain ⟨k, rfl⟩ : ∃ k, j = k + 1 := ⟨j - 1, by omega⟩
  have e : ((k + 1 : Nat) : Int) - 1 = (k : Int) := by omega
  rw [e, Int.tdiv_eq_ediv_of_nonneg (by omega), aK (by omega)]; simp
theorem mr {l l0 : List It} {i j n : Nat} (hi : i < n) (hj : j < n) (hn : n ≤ l.length) (h : ∀ x, n ≤ x → l.getD x default = l0.getD x default) : ∀ x, n ≤ x → (swapL l i j).getD x default = l0.getD x default := fun x hx => by
 rw [kg (by omega) (by omega), if_neg (by omega), if_neg (by omega)]; exact h x hx
theorem qR (W0 : World) (R : List HP) (b : Nat) (its : List It) (tl : List Value) (j n : Nat) (hn : n ≤ its.length) (hN : n < 1000) (hj : j < n) (hU : Up its j n) :
  ao Tryz.prog W0 269 [kx b, .int .i64 j] (dX b (its, tl) :: R) (fun v B => v = .tuple #[] ∧ ∃ its', B = dX b (its', tl) :: R ∧ its'.Perm its ∧ Heap its' n ∧ ∀ x, n ≤ x → its'.getD x default = its.getD x default) := by
 refine aD xT Tryz.ntmps269 rfl rfl ?_
 refine dt ?_
 refine ce (fun X : List It × Nat => X.1.Perm its ∧ X.2 < n ∧ Up X.1 X.2 n ∧ ∀ x, n ≤ x → X.1.getD x default = its.getD x default) (fun X => [(0, kx b), (1, .int .i64 X.2)]) (fun X => dX b (X.1, tl) :: R) (fun X => X.2) (its, j) ?_ ?_ ?_ ?_
 ·exact ⟨List.Perm.refl _, hj, hU, fun _ _ => rfl⟩
 ·repeat (first | exact aJ | refine aG rfl ?_)
 ·exact inferInstance
 ·intro ⟨l, j⟩ ⟨hp, hj, hU, ht⟩
  have hlen := hp.length_eq
  simp only at hj hU ht hp hlen ⊢
  refine au 4 ?_
  refine aa rfl (dG rfl rfl (by first | exact aK (by omega) | rfl)) ?_
  refine aa rfl (pT rfl rfl (by decide) (qQ (by omega))) ?_
  refine au 10 ?_
  refine aZ rfl rfl rfl ?_ ?_
  ·intro g1_4
   refine au 13 ?_
   refine ah (.inr rfl) .nil ?_
   exact ⟨_, ⟨rfl, l, rfl, hp, mo hU (by intro _; first | omega | (simp at c1; omega)), ht⟩, inferInstance⟩
  ·intro g1_4
   refine au 6 ?_
   refine ae rfl (eX rfl ((fun w => sb w _)) yt rfl (s8 W0 _ b l tl j ((j - 1) / 2) (by omega) (by omega))) ?_
   rintro _ B_ ⟨rfl, hB_⟩
   obtain rfl := hB_.symm
   refine au 5 ?_
   refine ai rfl ?_ ?_
   ·intro c1
    refine au 5 ?_
    refine ah (.inr rfl) .nil ?_
    exact ⟨_, ⟨rfl, l, rfl, hp, mo hU (by intro _; first | omega | (simp at c1; omega)), ht⟩, inferInstance⟩
   ·intro c1
    replace c1 : us l j < us l ((j - 1) / 2) := by simpa using c1
    refine au 7 ?_
    refine ae rfl (eX rfl ((fun w => sd w _)) yu rfl (s9 W0 _ b l tl ((j - 1) / 2) j (by omega) (by omega))) ?_
    rintro _ B_ ⟨rfl, hB_⟩
    obtain rfl := hB_.symm
    refine au 8 ?_
    refine bU (swapL l ((j - 1) / 2) j, (j - 1) / 2) ?_ ?_ ?_ ?_
    ·exact ⟨(kh (by omega) (by omega)).trans hp, by show (j - 1) / 2 < n; omega, qz hU (by omega) hj (by omega) c1, mr (by omega) hj (by omega) ht⟩
    ·show (j - 1) / 2 < j; omega
    ·repeat (first | exact aJ | refine aG rfl ?_)
    ·exact inferInstance
theorem qS (W0 : World) (R : List HP) (b : Nat) (its : List It) (tl : List Value) (i0 n : Nat) (hn : n ≤ its.length) (hN : n < 1000) (hi : i0 ≤ n) (hH : gv its i0 n) :
  ao Tryz.prog W0 340 [kx b, .int .i64 i0, .int .i64 n] (dX b (its, tl) :: R) (fun v B => ∃ l m, v = .bool m ∧ B = dX b (l, tl) :: R ∧ Down its l i0 n m) := by
 refine aD Tryz.func340 Tryz.ntmps340 rfl rfl ?_
 refine au 13 ?_
 refine ce (fun X : List It × Nat => X.1.Perm its ∧ i0 ≤ X.2 ∧ gv X.1 X.2 n ∧ (∀ x, n ≤ x → X.1.getD x default = its.getD x default) ∧ (X.2 = i0 → X.1 = its) ∧ (i0 < X.2 → us X.1 ((X.2 - 1) / 2) ≤ us X.1 X.2) ∧ X.2 ≤ n) (fun X => [(0, kx b), (1, .int .i64 i0), (2, .int .i64 n), (7, .int .i64 X.2)]) (fun X => dX b (X.1, tl) :: R) (fun X => n - X.2) (its, i0) ?_ ?_ ?_ ?_
 ·exact ⟨List.Perm.refl _, Nat.le_refl _, hH, fun _ _ => rfl, fun _ => rfl, fun h => absurd h (Nat.lt_irrefl _), hi⟩
 ·repeat (first | exact aJ | refine aG rfl ?_)
 ·exact inferInstance
 ·intro ⟨l, i⟩ ⟨hp, hi0, hl, ht, he, hg, hin⟩
  have hlen := hp.length_eq
  simp only at hp hi0 hl ht he hg hin hlen ⊢
  refine au 4 ?_
  refine aa rfl (i4 rfl rfl (by first | exact aK (by omega) | rfl)) ?_
  refine aa rfl (bj rfl rfl (by rw [aK (by omega)]; omega : IntKind.wrap .i64 (2 * (i : Int) + 1) = ((2 * i + 1 : Nat) : Int))) ?_
  refine au 10 ?_
  refine aZ rfl rfl rfl ?_ ?_
  ·intro g3_4
   refine au 20 ?_
   refine ah (.inl rfl) (.cons (ac rfl) .nil) ?_
   refine ⟨_, ⟨l, decide (i0 < i), by simp [bW], rfl, mq hp hi0 hl ht he hg ?_⟩, inferInstance⟩
   first | (intro c hc h0 h1; exfalso; omega) | (intro c hc h0 h1; have := hmin c hc h0 h1; simp at c8; omega)
  ·intro g3_4
   refine au 6 ?_
   refine ai rfl ?_ ?_
   ·intro c3
    omega
   ·intro c3
    refine au 8 ?_
    refine gn (fun j : Nat => (j - 1) / 2 = i ∧ 0 < j ∧ j < n ∧ ∀ c, c < n → 0 < c → (c - 1) / 2 = i → us l j ≤ us l c) (fun j => [(0, kx b), (1, .int .i64 i0), (2, .int .i64 n), (7, .int .i64 i), (9, .int .i64 j)]) (fun j => dX b (l, tl) :: R) ?_ ?_
    ·skip
     refine au 3 ?_
     refine aa rfl (bj rfl rfl (by rw [aK (by omega)]; omega : IntKind.wrap .i64 (((2 * i + 1 : Nat) : Int) + 1) = ((2 * i + 2 : Nat) : Int))) ?_
     refine au 9 ?_
     refine bX rfl rfl rfl ?_ ?_
     ·intro g6_4
      refine au 6 ?_
      refine ae rfl (eX rfl ((fun w => sb w _)) yt rfl (s8 W0 _ b l tl (2 * i + 2) (2 * i + 1) (by omega) (by omega))) ?_
      rintro _ B_ ⟨rfl, hB_⟩
      obtain rfl := hB_.symm
      refine au 3 ?_
      refine ai rfl ?_ ?_
      ·intro c6
       refine au 5 ?_
       refine d8 (2 * i + 2) ?_ ?_ ?_
       ·refine ⟨by omega, by omega, by omega, fun c hc h0 h1 => ?_⟩
        have : c = 2 * i + 1 ∨ c = 2 * i + 2 := by omega
        rcases this with rfl | rfl <;> omega
       ·repeat (first | exact aJ | refine aG rfl ?_)
       ·exact inferInstance
      ·intro c6
       refine au 2 ?_
       refine d8 (2 * i + 1) ?_ ?_ ?_
       ·refine ⟨by omega, by omega, by omega, fun c hc h0 h1 => ?_⟩
        have : c = 2 * i + 1 ∨ c = 2 * i + 2 := by omega
        rcases this with rfl | rfl <;> omega
       ·repeat (first | exact aJ | refine aG rfl ?_)
       ·exact inferInstance
     ·intro g6_4
      refine au 9 ?_
      refine d8 (2 * i + 1) ?_ ?_ ?_
      ·refine ⟨by omega, by omega, by omega, fun c hc h0 h1 => ?_⟩
       have : c = 2 * i + 1 ∨ c = 2 * i + 2 := by omega
       rcases this with rfl | rfl <;> omega
      ·repeat (first | exact aJ | refine aG rfl ?_)
      ·exact inferInstance
    ·intro j ⟨hj, hj0, hjn, hmin⟩
     refine au 6 ?_
     refine ae rfl (eX rfl ((fun w => sb w _)) yt rfl (s8 W0 _ b l tl j i (by omega) (by omega))) ?_
     rintro _ B_ ⟨rfl, hB_⟩
     obtain rfl := hB_.symm
     refine au 3 ?_
     refine ai rfl ?_ ?_
     ·intro c8
      refine au 15 ?_
      refine ah (.inl rfl) (.cons (ac rfl) .nil) ?_
      refine ⟨_, ⟨l, decide (i0 < i), by simp [bW], rfl, mq hp hi0 hl ht he hg ?_⟩, inferInstance⟩
      first | (intro c hc h0 h1; exfalso; omega) | (intro c hc h0 h1; have := hmin c hc h0 h1; simp at c8; omega)
     ·intro c8
      replace c8 : us l j < us l i := by simpa using c8
      refine au 7 ?_
      refine ae rfl (eX rfl ((fun w => sd w _)) yu rfl (s9 W0 _ b l tl i j (by omega) (by omega))) ?_
      rintro _ B_ ⟨rfl, hB_⟩
      obtain rfl := hB_.symm
      refine au 8 ?_
      refine bU (swapL l i j, j) ?_ ?_ ?_ ?_
      ·have hs := qy hl (by omega) hjn hj hj0 c8 hmin
       exact ⟨(kh (by omega) (by omega)).trans hp, by show i0 ≤ j; omega, hs.1, mr (by omega) hjn (by omega) ht, by show j = i0 → _; omega, fun _ => hs.2, by show j ≤ n; omega⟩
      ·show n - j < n - i; omega
      ·repeat (first | exact aJ | refine aG rfl ?_)
      ·exact inferInstance
theorem qT {its : List It} {x : It} (h : Heap its its.length) : Up (its ++ [x]) its.length (its.length + 1) := by
 have e : ∀ c, c < its.length → us (its ++ [x]) c = us its c := fun c hc => by
  unfold us; simp only [List.getD_eq_getElem?_getD]; rw [List.getElem?_append_left hc]
 intro c hc h0
 refine ⟨fun h1 => ?_, fun h1 h2 => by omega⟩
 rw [e c (by omega), e _ (by omega)]; exact h c (by omega) h0
theorem heapPush_spec (W0 : World) (R : List HP) (b : Nat) (its : List It) (x : It) (tl : List Value) (hN : its.length < 900) (hh : Heap its its.length) :
  ao Tryz.prog W0 152 [kx b, .iface 487 (.agg (e9 x).toArray)] (dX b (its, tl) :: R) (fun v B => v = .tuple #[] ∧ ∃ its', B = dX b (its', tl) :: R ∧ its'.Perm (its ++ [x]) ∧ Heap its' its'.length) := by
 have hl : (its ++ [x]).length = its.length + 1 := by simp
 refine aD xU Tryz.ntmps152 rfl rfl ?_
 refine au 4 ?_
 refine ae rfl (eX rfl ((fun w => D9 w _)) Tryz.call505 rfl (D8 W0 _ b its x tl (by omega))) ?_
 rintro _ B_ ⟨rfl, hB_⟩
 obtain rfl := hB_.symm
 refine au 5 ?_
 refine ae rfl (eX rfl ((fun w => wI w _)) Tryz.call483 rfl (wH W0 _ b (its ++ [x]) tl)) ?_
 rintro _ B_ ⟨rfl, hB_⟩
 obtain rfl := hB_.symm
 refine aa rfl (dG rfl rfl (by rw [aK (by omega)]; omega : IntKind.wrap .i64 (((its ++ [x]).length : Nat) - 1 : Int) = ((its.length : Nat) : Int))) ?_
 refine ae rfl (aM xV rfl (qR W0 _ b (its ++ [x]) tl its.length (its.length + 1) (by omega) (by omega) (by omega) (qT hh))) ?_
 rintro _ _ ⟨rfl, l', rfl, hp, hh', _⟩
 refine aw (ah (.inr rfl) .nil ?_)
 exact ⟨_, ⟨rfl, l', rfl, hp, by rw [hp.length_eq, hl]; exact hh'⟩, inferInstance⟩
theorem qU {l : List It} {n : Nat} (h : l.length = n + 1) : ∃ l' x, l = l' ++ [x] ∧ l'.length = n ∧ x = l.getD n default := by
 have hne : l ≠ [] := fun e => by rw [e] at h; simp at h
 refine ⟨l.dropLast, l.getLast hne, (List.dropLast_concat_getLast hne).symm, by simp [h], ?_⟩
 rw [List.getLast_eq_getElem]
 simp [List.getD, h]
theorem qV {l : List It} {x : It} {n : Nat} (h : Heap (l ++ [x]) n) (hn : n ≤ l.length) : Heap l n :=
 qB (fun i hi => by simp only [List.getD_eq_getElem?_getD]; rw [List.getElem?_append_left (by omega)]) h
theorem heapPop_spec (W0 : World) (R : List HP) (b : Nat) (its : List It) (tl : List Value) (hN : its.length < 900) (h0 : its ≠ []) (hh : Heap its its.length) :
  ao Tryz.prog W0 282 [kx b] (dX b (its, tl) :: R) (fun v B => ∃ x its', v = .iface 487 (.agg (e9 x).toArray) ∧ B = dX b (its', tl) :: R ∧ (its' ++ [x]).Perm its ∧ Heap its' its'.length ∧ ∀ y ∈ its, x.u ≤ y.u) := by
 obtain ⟨n, hn⟩ : ∃ n, its.length = n + 1 := ⟨its.length - 1, by have := List.length_pos_iff.2 h0; omega⟩
 have hs : gv (swapL its 0 n) 0 n := fun c hc h0 => ⟨fun h1 h2 => by
  rw [ji (by omega) (by omega), ji (by omega) (by omega), if_neg h2, if_neg h1, if_neg (by omega), if_neg (by omega)]
  exact hh c (by omega) h0, fun _ h => by omega⟩
 have hsl := qw its 0 n
 refine aD Tryz.func282 Tryz.ntmps282 rfl rfl ?_
 refine au 8 ?_
 refine ae rfl (eX rfl ((fun w => wI w _)) Tryz.call483 rfl (wH W0 _ b its tl)) ?_
 rintro _ B_ ⟨rfl, hB_⟩
 obtain rfl := hB_.symm
 refine aa rfl (dG rfl rfl (by rw [aK (by omega)]; omega : IntKind.wrap .i64 ((its.length : Nat) - 1 : Int) = ((n : Nat) : Int))) ?_
 refine au 7 ?_
 refine ae rfl (eX rfl ((fun w => sd w _)) yu rfl (s9 W0 _ b its tl 0 n (by omega) (by omega))) ?_
 rintro _ B_ ⟨rfl, hB_⟩
 obtain rfl := hB_.symm
 refine au 6 ?_
 refine ae rfl (aM Tryz.call340 rfl (qS W0 _ b (swapL its 0 n) tl 0 n (by omega) (by omega) (by omega) hs)) ?_
 rintro _ _ ⟨l, m, rfl, rfl, hD⟩
 have hll := hD.perm.length_eq
 obtain ⟨l', x, rfl, hl', hx⟩ := qU (l := l) (n := n) (by omega)
 have hx0 : x = its.getD 0 default := by
  rw [hx, hD.tail n (Nat.le_refl _), kg (by omega) (by omega)]; split
  ·rename_i e; subst e; rfl
  ·rw [if_pos rfl]
 have hp : (l' ++ [x]).Perm its := hD.perm.trans (kh (by omega) (by omega))
 have hH : Heap (l' ++ [x]) n := by
  cases m with
  | true => exact hD.yes rfl
  | false =>
   obtain ⟨e, hmin⟩ := hD.no rfl
   rw [e]; exact mn hs hmin (fun h => absurd h (by omega))
 refine au 5 ?_
 refine ae rfl (eX rfl ((fun w => Da w _)) Tryz.call504 rfl (D7 W0 _ b l' x tl)) ?_
 rintro _ B_ ⟨rfl, hB_⟩
 obtain rfl := hB_.symm
 refine au 4 ?_
 refine ah (.inl rfl) (.cons (ac rfl) .nil) ?_
 refine ⟨_, ⟨x, l', rfl, rfl, hp, by rw [hl']; exact qV hH (by omega), fun y hy => ?_⟩, inferInstance⟩
 obtain ⟨c, hc, rfl⟩ := List.mem_iff_getElem.1 hy
 have := qA hh c hc
 rw [qv hc] at this
 rw [hx0]; exact this
theorem Db (W0 : World) (R : List HP) (room : Nat) (h : room ≤ 4) :
  ao Tryz.prog W0 286 [.int .i64 room] R (fun v B => ∃ b, v = .tuple #[.pointer (some ⟨b, 0, none⟩), .int .i64 0] ∧ B = dX b ([], [.int .i64 room, .int .i64 0, .bool true]) :: R) := by
 refine aD Tryz.func286 Tryz.ntmps286 rfl rfl ?_
 refine au 12 ?_
 refine aZ rfl rfl rfl ?_ ?_
 ·intro g1_3
  omega
 ·intro g1_3
  refine au 6 ?_
  refine ai rfl ?_ ?_
  ·intro c1
   omega
  ·intro c1
   refine au 5 ?_
   refine aa rfl (bI Tryz.underlying494 Tryz.zeroValue494 (aA Tryz.sizeOf492 (aA ar (aA ar (aA cu bH)))) (aS rfl ar rfl rfl (Nat.le_of_ble_eq_true rfl) SetL.eq (aS rfl cu rfl rfl (Nat.le_of_ble_eq_true rfl) SetL.eq bG))) ?_
   refine ae rfl (bw rfl) ?_
   rintro _ _ ⟨b1, rfl, rfl⟩
   refine au 5 ?_
   refine ah (.inl rfl) (.cons (ac rfl) (.cons (ac rfl) .nil)) ?_
   exact ⟨_, ⟨b1, rfl, rfl⟩, (Ent.cons (fj (B := R))).trans (eF (R := R) (C := [_, _]) ⟨none, 0, rfl⟩)⟩
abbrev wJ (pv bt bs : Nat) : Obj := aj [.pointer (some ⟨pv, 0, none⟩), .pointer (some ⟨bt, 0, none⟩), .pointer (some ⟨bs, 0, none⟩)] 404
theorem Dc (W0 : World) (R : List HP) : ao Tryz.prog W0 287 [] R (fun v B => ∃ b, v = .pointer (some ⟨b, 0, none⟩) ∧ B = pt b (aj [cZ, .bool true] 481) :: R) := by
 refine aD Tryz.func287 Tryz.ntmps287 rfl rfl ?_
 refine au 7 ?_
 refine aa rfl (bI Tryz.underlying481 Tryz.zeroValue481 (aA Tryz.sizeOf479 (aA cu bH)) (aS rfl cu rfl rfl (Nat.le_of_ble_eq_true rfl) SetL.eq bG)) ?_
 refine ae rfl (bw rfl) ?_
 rintro _ _ ⟨b1, rfl, rfl⟩
 refine au 4 ?_
 refine ah (.inl rfl) (.cons (ac rfl) .nil) ?_
 exact ⟨_, ⟨_, rfl, rfl⟩, ent_refl⟩
theorem Dd (W0 : World) (R : List HP) (pv ps pm d room : Nat) (hr : room ≤ 4) :
  ao Tryz.prog W0 192 [.pointer (some ⟨pv, 0, none⟩), .int .i64 room] (pt pv (iu ps pm d) :: R)
   (fun v B => ∃ bm bt bs, v = .tuple #[.pointer (some ⟨bm, 0, none⟩), .int .i64 0] ∧ B = pt bm (wJ pv bt bs) :: dX bt ([], [.int .i64 room, .int .i64 0, .bool true]) :: pt bs (aj [cZ, .bool true] 481) :: pt pv (iu ps pm d) :: R) := by
 refine aD Tryz.func192 Tryz.ntmps192 rfl rfl ?_
 refine au 10 ?_
 refine ae rfl (aM Tryz.call107 rfl (Bt W0 _ pv ps pm d)) ?_
 rintro _ B_ ⟨rfl, hB_⟩
 obtain rfl := hB_.symm
 refine au 3 ?_
 refine ai rfl ?_ ?_
 ·intro c1
  exact absurd c1 (by simp)
 ·intro c1
  refine au 5 ?_
  refine ae rfl (aF Tryz.call286 rfl (Db W0 _ room hr)) ?_
  rintro _ B_ ⟨bt, rfl, hB_⟩
  subst hB_
  refine au 14 ?_
  refine ai rfl ?_ ?_
  ·intro c4
   exact absurd rfl c4
  ·intro c4
   refine au 6 ?_
   refine ae rfl (aF Tryz.call287 rfl (Dc W0 _)) ?_
   rintro _ B_ ⟨bs, rfl, hB_⟩
   subst hB_
   refine aa rfl (bI Tryz.underlying404 Tryz.zeroValue404 (aA pj (aA Tryz.sizeOf401 (aA Tryz.sizeOf402 bH))) (aS rfl pj rfl rfl (Nat.le_of_ble_eq_true rfl) SetL.eq (aS rfl Tryz.sizeOf401 rfl rfl (Nat.le_of_ble_eq_true rfl) SetL.eq (aS rfl Tryz.sizeOf402 rfl rfl (Nat.le_of_ble_eq_true rfl) SetL.eq bG)))) ?_
   refine ae rfl (bw rfl) ?_
   rintro _ _ ⟨bm, rfl, rfl⟩
   refine au 5 ?_
   refine ah (.inl rfl) (.cons (ac rfl) (.cons (ac rfl) .nil)) ?_
   exact ⟨_, ⟨bm, bt, bs, rfl, rfl⟩, inferInstance⟩
end
end Go.Proofs.YtoedafbckfgkjaaGreat
