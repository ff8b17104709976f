/-
  Part 3 of the proof of GuestMade: rules, and walks of functions. Conditions: none.
-/
import Derived.Test.YtofillmoflhijaaGreatDoorGuestMadeB
namespace Go.Proofs.YtofillmoflhijaaGreatDoor
open Go.Proofs.Tryz
set_option linter.unusedSimpArgs false
set_option linter.unusedVariables false
set_option maxRecDepth 20000
set_option linter.defProp false
set_option synthInstance.maxSize 8192
set_option synthInstance.maxHeartbeats 2000000
variable {W0 : World} {R : List HP}
section
open Go.RowKit
abbrev Rn := Int × Int × Int
def bK (x : Rn) : List Value := [.int .i64 x.1, .int .i64 x.2.1, .int .i64 x.2.2]
theorem nz (x : Rn) : (bK x).length = 3 := rfl
theorem AH (x : Rn) : ec (bK x) = true := by simp [bK, ec, Value.oneCell']
theorem AI (l : List Rn) : ec (l.flatMap bK) = true := by
 induction l with
 | nil => rfl
 | cons x l ih =>
  rw [QaW, ec, List.all_append, Qar]
  exact ⟨AH x, ih⟩
@[reducible] def jN (a : Option Addr) (k c : Nat) (n : Int) : Obj := a7 [.slice a k c, .int .i64 n, .bool true] 308
def nB (b : Nat) (x : List Rn × Int) : HP := chk (fun C => ∃ a c, C = [pt b (jN a x.1.length c x.2), osl 312 3 (.slice a x.1.length c) (x.1.flatMap bK)])
section
variable {W0 : World} {N : FSz} {K : Act → World → Prop} {e : aH} {A B R R1 R2 : List HP} {b n c : Nat} {x : List Rn × Int}
theorem Tc [hk : Tk nB b A x R] (h : ∀ a c, ai W0 N K e (pt b (jN a x.1.length c x.2) :: osl 312 3 (.slice a x.1.length c) (x.1.flatMap bK) :: R)) : ai W0 N K e A :=
  fJ (r := nB) (b := b) (lP fun C hC => by obtain ⟨a, c, rfl⟩ := hC; exact h a c)
theorem oI {rs : List Rn} {k m : Nat} {nn : Int} {a : Option Addr} {ys : List Value} [h1 : Tk pt b A (jN a k m nn) R1] [h2 : Tk (osl 312 3) (.slice a k m) R1 ys R2] (hk : k = rs.length) (hy : ys = rs.flatMap bK) [q : Ent R2 B] : Ent A (nB b (rs, nn) :: B) := by
 subst hk; subst hy
 exact (Ent.ofPerm (h1.perm.trans (h2.perm.cons _))).trans ((en (R := R2) (C := [_, _]) ⟨a, m, rfl⟩).trans (Ent.cons q))
theorem F2 {α : Type} {E sz g c i : Nat} {f : α → List Value} {xs : List α} {x : α} {ys : List Value} [h : Tk (osl E sz) (.slice (some ⟨g, 0, none⟩) n c) A ys R] (hy : ys = xs.flatMap f) (hf : ∀ x, (f x).length = sz) (hz : 0 < sz) (hx : xs[i]? = some x) : aT (aB W0 A) g (i * sz) (f x) := by
 obtain ⟨b, off, e1, hc⟩ := zV (S := aB W0 A) (a := some ⟨g, 0, none⟩) (.inr ⟨g, rfl⟩) (uE (E := E) (sz := sz) (n := n) (c := c) (ys := ys)) hf hy hz i x hx
 cases e1
 rw [Qab] at hc; exact hc
end
theorem Td (W0 : World) (b1 bt L : Nat) (rs : List Rn) (n : Int) (a : Option Addr) (c : Nat) (hl : rs.length ≤ 1000) (C : Nat → List HP) (I : Nat → Prop) (h0 : I 0) (Stop : List HP → Prop) (hr : ∀ i R, i < rs.length → I i → nf Tryz.prog W0 L [iQ (i : Nat), .agg (bK (rs.getD i (0, 0, 0))).toArray] (C i ++ R) (fun v B => ∃ b B', v = .bool b ∧ B = B' ++ R ∧ ((b = true ∧ I (i + 1) ∧ B' = C (i + 1)) ∨ (b = false ∧ Stop B')))) : sP W0 330 [.func (.yield L) #[] #[], pQ b1] (pt b1 (a7 [pQ bt] 197) :: pt bt (jN a rs.length c n) :: osl 312 3 (.slice a rs.length c) (rs.flatMap bK) :: C 0) (fun v B => v = .tuple #[] ∧ ∃ B', B = pt bt (jN a rs.length c n) :: osl 312 3 (.slice a rs.length c) (rs.flatMap bK) :: B' ∧ ((I rs.length ∧ B' = C rs.length) ∨ Stop B')) := by
 refine ab func330 ntmps330 ?_
 refine cK (fun i : Nat => i ≤ rs.length ∧ I i) (fun i => [(0, .func (.yield L) #[] #[]), (8, .slice a rs.length c), (9, iQ (rs.length : Nat)), (10, iQ (i : Nat))]) (fun i => pt bt (jN a rs.length c n) :: osl 312 3 (.slice a rs.length c) (rs.flatMap bK) :: C i) (fun i => rs.length - i) 0 ?_ ?_
 grind
 intro i ⟨hi, hI⟩
 refine aw ?_
 refine ag (fun c1 => ?_) fun c1 => ?_
 have hi1 : i < rs.length := by omega
 have hgi : rs[i]? = some (rs.getD i (0, 0, 0)) := by grind
 refine pC (E := 312) (sz := 3) (a := a) (c := c) (n := rs.length) (ys := rs.flatMap bK) (fun hf => ?_)
 obtain ⟨g, rfl⟩ := sT hf (by rw [← Qca, cj nz]; omega)
 refine aw ?_
 refine a6 (bA hi1) ?_
 refine a6 (cJ (F2 (f := bK) (E := 312) (sz := 3) (n := rs.length) (c := c) rfl nz (by decide) hgi)) ?_
 refine bu fun b1 => ?_
 refine eW (fG ip rfl rfl rfl rfl rfl) ?_
 rintro _ _ rfl
 refine aN (aD (aP (aZ (aa rfl (aL rfl) (aa rfl (aL rfl) (aa rfl (mT I4 ip rfl rfl) ?_))))))
 refine zO rfl rfl rfl (zS (QaS (l₁ := [_, _, _])) (hr i [_, _, _] hi1 hI)) ?_
 rintro _ B_ ⟨b, B', rfl, hB_, hb⟩
 obtain rfl := hB_.symm
 refine mg QaS ?_
 simp only [Qaw, Qat]
 refine aw ?_
 refine ag (fun c3 => ?_) fun c3 => ?_
 have hs : Stop B' := by
  grind
 refine bM (.inl rfl) .nil ?_
 exact ⟨_, ⟨rfl, _, rfl, .inr hs⟩, IO⟩
 have hs : I (i + 1) ∧ B' = C (i + 1) := by
  grind
 obtain ⟨hI', rfl⟩ := hs
 refine a6 bS ?_
 refine bE (i + 1) ?_
 grind
 refine bM (.inr rfl) .nil ?_
 obtain rfl : i = rs.length := by omega
 exact ⟨_, ⟨rfl, _, rfl, .inl ⟨hI, rfl⟩⟩, IO⟩
theorem Te (bt : Nat) : sP W0 268 [pQ bt] R (fun v B => ∃ b1, v = .func (.func 330) #[] #[pQ b1] ∧ B = pt b1 (a7 [pQ bt] 197) :: R) := by
 refine ab func268 ntmps268 ?_
 refine d7 (iw rfl rfl) fun b1 => ?_
 refine a8 ?_
 exact ⟨_, ⟨b1, rfl, rfl⟩, IO⟩
theorem Tf {W0 : World} {A : List HP} {e : aH} {n' L D b1 bt c : Nat} {n : Int} {a : Option Addr} {ps' : Array Tmp} {asg body : Code} (pe : Code) {Go Stop : List HP → Prop} (rs : List Rn) (hl : rs.length ≤ 1000) (Ct : Nat → List HP) (I : Nat → Prop) (St : List HP → Prop)
    (hp : A.Perm (pt b1 (a7 [pQ bt] 197) :: pt bt (jN a rs.length c n) :: osl 312 3 (.slice a rs.length c) (rs.flatMap bK) :: Ct 0)) (h0 : I 0)
    (hgo : I rs.length → Go (pt bt (jN a rs.length c n) :: osl 312 3 (.slice a rs.length c) (rs.flatMap bK) :: Ct rs.length))
    (hst : ∀ B', St B' → Stop (pt bt (jN a rs.length c n) :: osl 312 3 (.slice a rs.length c) (rs.flatMap bK) :: B'))
    (hrd : ∀ i R', i < rs.length → I i → nf Tryz.prog W0 L [iQ (i : Nat), .agg (bK (rs.getD i (0, 0, 0))).toArray] (cW L ⟨e, n', ps', asg, body, .ready, none, D⟩ :: pt D (.deferred (some [])) :: (Ct i ++ R'))
      (fun v B => (v = .bool true ∧ I (i + 1) ∧ B = cW L ⟨e, n', ps', asg, body, .ready, none, D⟩ :: pt D (.deferred (some [])) :: (Ct (i + 1) ++ R')) ∨
        (v = .bool false ∧ ∃ B', St B' ∧ B = cW L ⟨e, n', ps', asg, body, .done, some pe, D⟩ :: pt D (.deferred (some [])) :: (B' ++ R')))) :
    bc Tryz.prog W0 330 (.func (.yield L) #[] #[] :: [pQ b1]) (cW L ⟨e, n', ps', asg, body, .ready, none, D⟩ :: pt D (.deferred (some [])) :: A)
      (fun _ B => (∃ C, B = cW L ⟨e, n', ps', asg, body, .ready, none, D⟩ :: pt D (.deferred (some [])) :: C ∧ Go C) ∨ (∃ C, B = cW L ⟨e, n', ps', asg, body, .done, some pe, D⟩ :: pt D (.deferred (some [])) :: C ∧ Stop C)) := by
 have hperm : (cW L ⟨e, n', ps', asg, body, .ready, none, D⟩ :: pt D (.deferred (some [])) :: A).Perm (pt b1 (a7 [pQ bt] 197) :: pt bt (jN a rs.length c n) :: osl 312 3 (.slice a rs.length c) (rs.flatMap bK) :: (cW L ⟨e, n', ps', asg, body, .ready, none, D⟩ :: pt D (.deferred (some [])) :: Ct 0)) :=
   ((hp.cons _).cons _).trans (List.perm_append_comm_assoc [_, _] [_, _, _] (Ct 0))
 refine mX hperm (gH (Td W0 b1 bt L rs n a c hl (fun i => cW L ⟨e, n', ps', asg, body, .ready, none, D⟩ :: pt D (.deferred (some [])) :: Ct i) I h0
   (fun B => ∃ B', St B' ∧ B = cW L ⟨e, n', ps', asg, body, .done, some pe, D⟩ :: pt D (.deferred (some [])) :: B') fun i R hat hI w hO => ?_) ?_)
 obtain ⟨f, tmps, as_, bd, hy, hR⟩ := hrd i R hat hI w hO
 refine ⟨f, tmps, as_, bd, hy, RoundIn.mono hR ?_⟩
 rintro _ w' ⟨v, B, rfl, hB, hO'⟩
 rcases hB with ⟨rfl, hI', rfl⟩ | ⟨rfl, B', hS, rfl⟩
 grind
 grind
 rintro v B ⟨_, B0, rfl, ⟨hI, rfl⟩ | ⟨B', hS, rfl⟩⟩
 exact ⟨_, .inl ⟨_, rfl, hgo hI⟩, Ent.ofPerm (List.perm_append_comm_assoc [_, _] [_, _] (Ct rs.length))⟩
 exact ⟨_, .inr ⟨_, rfl, hst B' hS⟩, Ent.ofPerm (List.perm_append_comm_assoc [_, _] [_, _] B')⟩
theorem Tg (x : Rn) (h : -1000 ≤ x.1 + x.2.1 ∧ x.1 + x.2.1 ≤ 1000) : sQ W0 269 [.agg (bK x).toArray] R (iQ (x.1 + x.2.1)) R := by
 refine ab func269 ntmps269 ?_
 refine dX (i3 rfl) fun b1 => ?_
 refine aa rfl (bC rfl) (aN (aD (aP (aZ ?_))))
 refine aa rfl (cG rfl Ca rfl aO rfl (by first | exact Qab _ | rfl)) ?_
 refine aa rfl (bW cP rfl (aF rfl)) ?_
 refine aa rfl (cG rfl Ca rfl aO rfl (by first | exact Qab _ | rfl)) ?_
 refine aa rfl (bW cP rfl (aF rfl)) ?_
 refine aa rfl (dr rfl rfl (bN (by omega))) ?_
 refine aa rfl (bC rfl) (aN (aD (dT ?_)))
 exact a8 aj
def iZ : List Rn → Int → Nat
 | [], _ => 0
 | x :: l, f => if x.1 + x.2.1 ≤ f then iZ l f + 1 else 0
def lz (rs : List Rn) (f n : Int) : Bool := match rs[iZ rs f]? with
 | some x => decide (x.1 < f + n)
 | none => false
theorem AJ : ∀ (rs : List Rn) (f : Int) (i : Nat), i ≤ rs.length → (∀ j (hj : j < rs.length), j < i → rs[j].1 + rs[j].2.1 ≤ f) → (∀ h : i < rs.length, ¬ rs[i].1 + rs[i].2.1 ≤ f) → iZ rs f = i
 | [], f, i, h, _, _ => by simp at h; rw [iZ, h]
 | x :: l, f, 0, _, _, h2 => by
  have := h2 (by simp)
  rw [iZ, Qac (by grind)]
 | x :: l, f, i + 1, h, h1, h2 => by
  have h0 := h1 0 (by simp) (by omega)
  rw [iZ, Qaf (by grind), AJ l f i (by simpa using h) (fun j hj hji => by
   have := h1 (j + 1) (by omega) (by omega)
   simpa using this) (fun hi => by
   have := h2 (by grind)
   simpa using this)]
theorem AK : ∀ (rs : List Rn) (f : Int), iZ rs f ≤ rs.length
 | [], f => Qap _
 | x :: l, f => by
  have := AK l f
  rw [iZ]; split
  grind
  omega
def nD (rs : List Rn) : Prop := ∀ x ∈ rs, 0 ≤ x.1 ∧ 1 ≤ x.2.1 ∧ x.1 + x.2.1 ≤ 64 ∧ 0 ≤ x.2.2 ∧ x.2.2 < 64
theorem nD.get {rs : List Rn} (h : nD rs) {i : Nat} (hi : i < rs.length) : 0 ≤ (rs.getD i (0, 0, 0)).1 ∧ 1 ≤ (rs.getD i (0, 0, 0)).2.1 ∧ (rs.getD i (0, 0, 0)).1 + (rs.getD i (0, 0, 0)).2.1 ≤ 64 ∧ 0 ≤ (rs.getD i (0, 0, 0)).2.2 ∧ (rs.getD i (0, 0, 0)).2.2 < 64 := by
 rw [show rs.getD i (0, 0, 0) = rs[i] by simp [List.getD, hi]]; exact h _ (QaK hi)
theorem Ti (b k c : Nat) (a : Option Addr) (n : Int) : sQ W0 186 [pQ b] (pt b (jN a k c n) :: R) (.bool false) (pt b (jN a k c n) :: R) := by
 refine ab func186 ntmps186 ?_
 refine cR rfl rfl rfl (fun g1_3 => ?_) fun g1_3 => ?_
 cases g1_3
 refine aw ?_
 exact a8 aj
theorem Tj (n : Int) (h : 0 ≤ n ∧ n ≤ 64) : sP W0 100 [iQ n] R (fun v B => ∃ b, v = .tuple #[pQ b, iQ 0] ∧ B = nB b ([], n) :: R) := by
 refine ab func100 ntmps100 ?_
 refine cR rfl rfl rfl (fun g1_3 => ?_) fun g1_3 => ?_
 omega
 refine aw ?_
 refine aA rfl (fun c1 => ?_) fun c1 => ?_
 omega
 refine aw ?_
 refine aS fun b1 => ?_
 refine az ?_
 refine ⟨_, ⟨b1, rfl, rfl⟩, ?_⟩
 exact (Ent.cons (eH (E := 312) (sz := 3) (B := R))).trans (oI (rs := []) rfl rfl)
theorem Tl (bt c : Nat) (rs : List Rn) (n : Int) (a : Option Addr) (hok : nD rs) (hl : rs.length ≤ 1000) (f k : Int) (hf : 0 ≤ f ∧ f ≤ 64 ∧ 1 ≤ k ∧ k ≤ 64) : sQ W0 187 [pQ bt, iQ f, iQ k] (pt bt (jN a rs.length c n) :: osl 312 3 (.slice a rs.length c) (rs.flatMap bK) :: R) (.tuple #[iQ (iZ rs f : Nat), .bool (lz rs f k)]) (pt bt (jN a rs.length c n) :: osl 312 3 (.slice a rs.length c) (rs.flatMap bK) :: R) := by
 refine ab func187 ntmps187 ?_
 refine d7 (iw rfl rfl) fun bf => ?_
 refine dX (iw rfl rfl) fun bk => ?_
 refine au 4 ?_
 refine Af (aw ?_)
 refine d7 (o8 me rfl) fun ba => ?_
 refine d7 (o8 IF rfl) fun bh => ?_
 refine ax dy ?_
 refine eW (ka jZ rfl rfl rfl (Qaa rfl) SetL.eq) ?_
 rintro _ _ rfl
 refine aN (aD (aP (zv (aD (aP (aP (aZ (aa rfl (aL rfl) (am rfl (ao call268 (Te bt)) ?_)))))))))
 rintro _ B_ ⟨b1, rfl, hB_⟩
 obtain rfl := hB_.symm
 refine aN (aD (l9 ?_))
 refine RH 0 (fun C => (∀ j, j < rs.length → (rs.getD j (0, 0, 0)).1 + (rs.getD j (0, 0, 0)).2.1 ≤ f) ∧ C = pt bt (jN a rs.length c n) :: osl 312 3 (.slice a rs.length c) (rs.flatMap bK) :: pt bh (a7 [.bool false] 4) :: pt ba (a7 [iQ (rs.length : Nat)] 3) :: pt bk (a7 [iQ k] 3) :: pt bf (a7 [iQ f] 3) :: R) (fun C => ∃ i, i < rs.length ∧ (∀ j, j < i → (rs.getD j (0, 0, 0)).1 + (rs.getD j (0, 0, 0)).2.1 ≤ f) ∧ (¬ (rs.getD i (0, 0, 0)).1 + (rs.getD i (0, 0, 0)).2.1 ≤ f) ∧ C = pt bt (jN a rs.length c n) :: osl 312 3 (.slice a rs.length c) (rs.flatMap bK) :: pt bh (a7 [.bool (decide ((rs.getD i (0, 0, 0)).1 < f + k))] 4) :: pt ba (a7 [iQ (i : Nat)] 3) :: pt bk (a7 [iQ k] 3) :: pt bf (a7 [iQ f] 3) :: R) rfl call330 ?_ ?_ ?_
 intro L D
 refine Tf (.exit 0) rs hl (fun _ => pt bh (a7 [.bool false] 4) :: pt ba (a7 [iQ (rs.length : Nat)] 3) :: pt bk (a7 [iQ k] 3) :: pt bf (a7 [iQ f] 3) :: R) (fun i => ∀ j, j < i → (rs.getD j (0, 0, 0)).1 + (rs.getD j (0, 0, 0)).2.1 ≤ f) (fun B => ∃ i, i < rs.length ∧ (∀ j, j < i → (rs.getD j (0, 0, 0)).1 + (rs.getD j (0, 0, 0)).2.1 ≤ f) ∧ (¬ (rs.getD i (0, 0, 0)).1 + (rs.getD i (0, 0, 0)).2.1 ≤ f) ∧ B = pt bh (a7 [.bool (decide ((rs.getD i (0, 0, 0)).1 < f + k))] 4) :: pt ba (a7 [iQ (i : Nat)] 3) :: pt bk (a7 [iQ k] 3) :: pt bf (a7 [iQ f] 3) :: R) ((pB (r1 := pt) (b1 := b1) (r2 := pt) (b2 := bt) (r3 := osl 312 3) (b3 := .slice a rs.length c)).trans (QaI _)) (fun j hj => absurd hj (Qcx j)) (fun h => ⟨h, rfl⟩) (fun B' h => by obtain ⟨i, h1, h2, h3, rfl⟩ := h; exact ⟨i, h1, h2, h3, rfl⟩) ?_
 intro i R' hi hI
 have hx := hok.get hi
 obtain ⟨x, hxe⟩ : ∃ x, rs.getD i (0, 0, 0) = x := ⟨_, rfl⟩
 rw [hxe] at hx ⊢
 simp only [Qaw, Qat]
 refine wN rfl rfl ?_
 refine aP (aZ (aa rfl (bC rfl) (aN (aD (aZ (am rfl (dt Iy) ?_))))))
 rintro _ _ ⟨bd, rfl, rfl⟩
 refine eW (fG ip rfl rfl rfl rfl rfl) ?_
 rintro _ _ rfl
 refine aN (wL rfl ?_)
 refine l9 (aP (l9 (aP ?_)))
 refine Tb [(bd, 0, _), (bf, 0, _)] 5 mixed rfl (bZ (bZ bL)) (fun hS => ?_)
 refine aQ 0 rfl rfl rfl hS (eV I4 ip rfl (by first | exact gr (k := 0) rfl | exact gr (k := 1) rfl) rfl) ?_
 refine aQ 2 rfl rfl rfl hS (bW cP rfl (by first | exact co (k := 0) rfl rfl | exact co (k := 1) rfl rfl)) ?_
 refine bJ 1 (ao call269 (Tg x (by omega))) fun hS => ?_
 refine aQ 3 rfl rfl rfl hS (CU rfl rfl) ?_
 refine aQ 4 rfl rfl rfl hS (bC rfl) ?_
 refine aI ?_
 refine aA rfl (fun c5 => ?_) fun c5 => ?_
 refine au 4 ?_
 refine wM ?_
 have hI' : ∀ j, j < i + 1 → (rs.getD j (0, 0, 0)).1 + (rs.getD j (0, 0, 0)).2.1 ≤ f := fun j hj => by
  rcases QaD j i with q | q
  exact hI j q
  grind
 exact ⟨_, .inl ⟨rfl, hI', rfl⟩, IO⟩
 refine aP (aZ ?_)
 refine aa rfl (cG rfl Ca rfl aO rfl (by first | exact Qab _ | rfl)) ?_
 refine aa rfl (bW cP rfl (aF rfl)) ?_
 refine aa rfl (bW cP rfl (aF rfl)) ?_
 refine aa rfl (bW cP rfl (aF rfl)) ?_
 refine aa rfl (dr rfl rfl (bN (by omega))) ?_
 refine aa rfl (mR rfl rfl) (aa rfl (bC rfl) (aN (aD ?_)))
 refine aA rfl (fun c6 => ?_) fun c6 => ?_
 refine aZ ?_
 refine eW (ka jZ rfl rfl rfl (Qaa rfl) SetL.eq) ?_
 rintro _ _ rfl
 refine aN (lL (aD (aP (aZ (aa rfl (aL rfl) (eW (ka aO rfl rfl rfl (Qaa rfl) SetL.eq) ?_))))))
 rintro _ _ rfl
 refine aN (aD (zu (zw rfl (Ep ?_))))
 refine ⟨_, .inr ⟨rfl, _, ⟨i, hi, hI, by rw [hxe]; exact c5, rfl⟩, rfl⟩, ?_⟩
 simp only [Qaw]
 rw [hxe]
 first
   | (rw [Qak c6]; exact inferInstance)
   | (rw [Qaq c6]; exact inferInstance)
 refine jj (lL (aD (aP (aZ (aa rfl (aL rfl) (eW (ka aO rfl rfl rfl (Qaa rfl) SetL.eq) ?_))))))
 rintro _ _ rfl
 refine aN (aD (zu (zw rfl (Ep ?_))))
 refine ⟨_, .inr ⟨rfl, _, ⟨i, hi, hI, by rw [hxe]; exact c5, rfl⟩, rfl⟩, ?_⟩
 simp only [Qaw]
 rw [hxe]
 first
   | (rw [Qak c6]; exact inferInstance)
   | (rw [Qaq c6]; exact inferInstance)
 intro D C hC
 obtain ⟨hall, rfl⟩ := hC
 have hA : iZ rs f = rs.length := AJ rs f rs.length (Qap _) (fun j hj _ => by have := hall j hj; rwa [show rs.getD j (0, 0, 0) = rs[j] by simp [List.getD, hj]] at this) (fun h => absurd h (Nat.lt_irrefl _))
 have hH : lz rs f k = false := by grind [lz]
 refine lL (aD (aP ?_))
 refine bB [ba, bh] 4 fun hS => ?_
 refine aQ 0 rfl rfl rfl hS (bW cP rfl (by first | exact co (k := 0) rfl rfl | exact co (k := 1) rfl rfl)) ?_
 refine aQ 1 rfl rfl rfl hS (bW md rfl (by first | exact co (k := 0) rfl rfl | exact co (k := 1) rfl rfl)) ?_
 refine aQ 2 rfl rfl rfl hS (bC rfl) ?_
 refine aQ 3 rfl rfl rfl hS (bC rfl) ?_
 refine fy ?_
 refine aD (dT (oq (sq (.inl rfl) (.cons (bz rfl) (.cons (bz rfl) .nil)) ?_)))
 rw [hA, hH]
 exact aj
 intro D C hC
 obtain ⟨i, hi, h1, h2, rfl⟩ := hC
 have hgi : rs.getD i (0, 0, 0) = rs[i] := by grind
 have hA : iZ rs f = i := AJ rs f i (by omega) (fun j hj hji => by have := h1 j hji; rwa [show rs.getD j (0, 0, 0) = rs[j] by simp [List.getD, hj]] at this) (fun h => by rw [← hgi]; exact h2)
 have hH : lz rs f k = decide ((rs.getD i (0, 0, 0)).1 < f + k) := by grind [lz]
 refine CP (aD (aP ?_))
 refine bB [ba, bh] 4 fun hS => ?_
 refine aQ 0 rfl rfl rfl hS (bW cP rfl (by first | exact co (k := 0) rfl rfl | exact co (k := 1) rfl rfl)) ?_
 refine aQ 1 rfl rfl rfl hS (bW md rfl (by first | exact co (k := 0) rfl rfl | exact co (k := 1) rfl rfl)) ?_
 refine aQ 2 rfl rfl rfl hS (bC rfl) ?_
 refine aQ 3 rfl rfl rfl hS (bC rfl) ?_
 refine fy ?_
 refine au 2 ?_
 refine oq (sq (.inl rfl) (.cons (bz rfl) (.cons (bz rfl) .nil)) ?_)
 rw [hA, hH]
 exact aj
theorem Tn (l : List Rn) (a : Option Addr) (n c : Nat) (hl : l.length = n) (hN : n ≤ 1000) (hs : bT (aB W0 R) a 3 bK l) : sP W0 189 [.slice a n c] R (fun v B => ∃ a' c', v = .slice a' n c' ∧ B = osl 312 3 (.slice a' n c') (l.flatMap bK) :: R) := by
 subst hl
 refine ab func189 ntmps189 ?_
 refine a6 (uz hZ rfl rfl) ?_
 refine aA rfl (fun c1 => ?_) fun c1 => ?_
 refine au 7 ?_
 refine a8 ?_
 have h0 : l = [] := by
  rcases l with _ | ⟨x, l⟩
  rfl
  obtain ⟨b, o, h, _⟩ := hs 0 x rfl
  rw [c1] at h; cases h
 subst h0
 exact ⟨_, ⟨none, 0, rfl, rfl⟩, eH⟩
 have hsrc := hs.src (fun _ => rfl) (fun _ => trivial)
 refine jj (aD (aP (aZ (am rfl (qN hZ ip rfl) ?_))))
 rintro _ _ ⟨b1, rfl, rfl⟩
 refine aw ?_
 refine am rfl (xt (sz := 3) (by_ := 24) (info := Tryz.t312) hZ (by kernel_rfl) rfl rfl rfl rfl (by decide) rfl rfl (news := l.flatMap bK) (by
 rcases hsrc with h | ⟨bs, os, h1, h2⟩
 grind
 right; exact ⟨bs, os, h1, h2.weak⟩) (by rw [cj nz]) (AI l) (by simp only [maxLen]; omega) (by omega)) ?_
 rintro _ _ ⟨a1, c1, rfl, rfl⟩
 refine aw ?_
 refine a8 ?_
 rw [Qab, Qat]
 exact ⟨_, ⟨a1, c1, rfl, rfl⟩, IO⟩
def jd (rs : List Rn) (i : Nat) (x : Rn) : List Rn := rs.take i ++ x :: rs.drop i
theorem AL (rs : List Rn) (i : Nat) (x : Rn) : (jd rs i x).flatMap bK = (rs.take i).flatMap bK ++ bK x ++ (rs.drop i).flatMap bK := by
 grind [jd]
theorem xE {rs : List Rn} {i : Nat} (x : Rn) (hi : i ≤ rs.length) : (jd rs i x).length = rs.length + 1 := by
 grind [jd]
theorem xF (rs : List Rn) (i : Nat) : rs.flatMap bK = (rs.take i).flatMap bK ++ (rs.drop i).flatMap bK := by rw [← Qbz, QbC]
theorem To (rs : List Rn) (a : Option Addr) (c bv : Nat) (x : Rn) (i : Nat) (hi : i ≤ rs.length) (hl : rs.length ≤ 1000) : sP W0 188 [.slice a rs.length c, iQ (i : Nat), .slice (some ⟨bv, 0, none⟩) 1 1] (osl 312 3 (.slice a rs.length c) (rs.flatMap bK) :: pt bv (a7 (bK x) 312) :: R) (fun v B => ∃ a' c', v = .slice a' (rs.length + 1) c' ∧ B = osl 312 3 (.slice a' (rs.length + 1) c') ((jd rs i x).flatMap bK) :: R) := by
 have hLt : ((rs.take i).flatMap bK).length = i * 3 := by rw [cj nz, QaP, Qbt hi]
 have hLd : ((rs.drop i).flatMap bK).length = (rs.length - i) * 3 := by rw [cj nz, Qcv]
 have hLr : (rs.flatMap bK).length = rs.length * 3 := cj nz rs
 refine ab func188 ntmps188 ?_
 refine xb (E := 312) (sz := 3) (a := a) (c := c) (n := rs.length) (fun hcap => ?_)
 refine aw ?_
 refine gJ 16 (oG hZ ip rfl (i := i) rfl rfl hi rfl) ?_
 refine i5 ?_
 refine aA rfl (fun c6 => ?_) fun c6 => ?_
 refine aP ?_
 refine aZ (aa rfl (aL rfl) (aa rfl (aL rfl) ?_))
 refine am rfl (eI (sz := 3) (by_ := 24) (info := Tryz.t312) hZ (by kernel_rfl) rfl rfl rfl rfl (by decide) rfl rfl eA rfl rfl (by simp only [maxLen]; omega) (by omega)) ?_
 rintro _ _ ⟨a1, c1, rfl, rfl⟩
 refine aw ?_
 refine a8 ?_
 obtain rfl : i = rs.length := by omega
 refine ⟨_, ⟨a1, c1, rfl, rfl⟩, ?_⟩
 rw [AL, QaO (Qap _), List.drop_length, List.flatMap_nil, Qav]
 exact IO
 have hi1 : i < rs.length := by omega
 refine fJ (r := osl 312 3) (b := .slice a rs.length c) (kc (fun h1 h2 => by rw [h2] at hLr; simp at hLr; omega) fun g n' cap sp h1 h2 h3 h4 h5 => ?_)
 cases h1
 refine aw ?_
 refine a6 (dG (rs.length + 1)) ?_
 refine a6 (T8 hZ rfl) ?_
 refine ag (fun c8 => ?_) fun c8 => ?_
 refine a6 (lO hZ ip rfl rfl rfl (by omega)) ?_
 refine a6 (dG (rs.length + 1)) ?_
 refine a6 (lQ (rs.length + 1 - i)) ?_
 refine am rfl (T6 (sz := 3) (by_ := 24) (info := Tryz.t312) (k := rs.length + 1 - i) (olds := (rs.take i).flatMap bK) hZ dN (by kernel_rfl) rfl rfl rfl rfl (by decide) rfl rfl rfl (.inr ⟨g, 0, rfl, F0 (l2 := (rs.drop i).flatMap bK ++ sp) (by rw [← QaC, ← xF]; exact eA (b := g))⟩) hLt (by omega) (by omega) (by simp only [maxLen]; omega) (by omega)) ?_
 rintro _ _ ⟨a9, k9, zs, rfl, hzs, rfl⟩
 rw [show i + (rs.length + 1 - i) = rs.length + 1 by omega]
 refine fJ (r := osl 312 3) (b := .slice a9 (rs.length + 1) k9) (kc (fun q1 q2 => by
  have := Qah List.length q2
  rw [Qad, hLt, hzs] at this; simp at this; omega) fun g9 n9 cap9 sp9 q1 q2 q3 q4 q5 => ?_)
 cases q1
 refine aw ?_
 refine a6 (oG hZ ip rfl (i := i) (a' := some ⟨g9, i * 3, none⟩) rfl rfl (by omega) (by rw [jc, Qac (by omega)]; simp [gF])) ?_
 refine ac (qQ hZ ip rfl rfl (m := 1) (vs := bK x) (Qbt (by omega)) (eA (b := bv)) rfl (AH x) (by rw [Qad, Qad, hLt, hzs]; omega) rfl) ?_
 refine bB [] 9 fun hS => ?_
 refine ae 0 3 hS ?_
 refine av 3 hS (dG (i + 1)) ?_
 refine av 4 hS (oG hZ ip rfl (i := i + 1) (a' := some ⟨g9, (i + 1) * 3, none⟩) rfl rfl (by omega) (by rw [jc, Qac (by omega)]; simp [gF])) ?_
 refine ae 5 2 hS ?_
 refine av 7 hS (oG hZ ip rfl (i := i) (a' := some ⟨g, i * 3, none⟩) rfl rfl (by omega) (by rw [jc, Qac (by omega)]; simp [gF])) ?_
 refine bJ 8 (qQ hZ ip rfl rfl (m := rs.length - i) (vs := (rs.drop i).flatMap bK) (Qbt (by omega)) (F1 (b := g) (l1 := (rs.take i).flatMap bK) (l3 := sp) (by rw [← xF]) hLt) hLd (AI _) (by rw [uj, Qad, Qad, hLt, hzs]; omega) rfl) fun hS => ?_
 refine aI ?_
 refine a8 ?_
 obtain ⟨z1, z2, rfl, hz1⟩ : ∃ z1 z2, zs = z1 ++ z2 ∧ z1.length = 3 := ⟨zs.take 3, zs.drop 3, (QbC 3 zs).symm, by rw [QaP]; omega⟩
 have hz2 : z2.length = (rs.length - i) * 3 := by rw [Qad] at hzs; omega
 have hL : cz (cz ((rs.take i).flatMap bK ++ (z1 ++ z2) ++ sp9) (i * 3) (bK x)) ((i + 1) * 3) ((rs.drop i).flatMap bK) = (jd rs i x).flatMap bK ++ sp9 := by
  rw [AL, ← hLt, show (rs.take i).flatMap bK ++ (z1 ++ z2) ++ sp9 = (rs.take i).flatMap bK ++ z1 ++ (z2 ++ sp9) by simp, xC (by rw [hz1]; rfl)]
  have e : (i + 1) * 3 = ((rs.take i).flatMap bK ++ bK x).length := by rw [Qad, hLt, nz, QbN]
  rw [e, ← QaC, xC (by rw [hz2, hLd])]
 rw [hL]
 have hlen : ((jd rs i x).flatMap bK).length = (rs.length + 1) * 3 := by rw [cj nz, xE x hi]
 refine ⟨_, ⟨some ⟨g9, 0, none⟩, k9, rfl, rfl⟩, ?_⟩
 exact ez q2 q3 hlen (by rw [Qad, hlen]; rw [Qad, Qad, hLt, Qad, hz1, hz2] at q5; omega)
 refine a6 (dG (rs.length + 1)) ?_
 refine a6 (lO hZ ip rfl rfl rfl (by omega)) ?_
 refine a6 (dG (i + 1)) ?_
 refine a6 (oG hZ ip rfl (i := i + 1) (a' := some ⟨g, (i + 1) * 3, none⟩) rfl rfl (by omega) (by rw [jc, Qac (by omega)]; simp [gF])) ?_
 refine a6 (T7 (v := .bool false) rfl (fun w hO => by have h1 := Ta (P := Tryz.prog) (tR := 4) (oa := 0) (na := 1) (ca := 1) (ob := (i + 1) * 3) (nb := rs.length + 1 - (i + 1)) (cb := c - (i + 1)) (ba := bv) (ga := g) (la := bK x) (lb := rs.flatMap bK ++ sp) hZ ip (QaU _) (by rw [h5]; omega) hO; rw [run_callFunc_extern func270 (by kernel_rfl) (by kernel_rfl) (by kernel_rfl) (e := Extern.SlicesOverlaps.overlaps #[306, 306] #[4]) (by kernel_rfl), h1]; rfl)) ?_
 refine aA rfl (fun c14 => ?_) fun c14 => ?_
 refine au 1 ?_
 refine bB [] 9 fun hS => ?_
 refine ae 0 3 hS ?_
 refine av 3 hS (dG (i + 1)) ?_
 refine av 4 hS (oG hZ ip rfl (i := i + 1) (a' := some ⟨g, (i + 1) * 3, none⟩) rfl rfl (by omega) (by rw [jc, Qac (by omega)]; simp [gF])) ?_
 refine ae 5 2 hS ?_
 refine av 7 hS (oG hZ ip rfl (i := i) (a' := some ⟨g, i * 3, none⟩) rfl rfl (by omega) (by rw [jc, Qac (by omega)]; simp [gF])) ?_
 refine bJ 8 (qQ hZ ip rfl rfl (m := rs.length - i) (vs := (rs.drop i).flatMap bK) ((Nat.min_eq_right (by omega)).trans (by omega)) (F1 (b := g) (l1 := (rs.take i).flatMap bK) (l3 := sp) (by rw [← xF]) hLt) hLd (AI _) (by omega) rfl) fun hS => ?_
 refine aI ?_
 refine a6 (oG hZ ip rfl (i := i) (a' := some ⟨g, i * 3, none⟩) rfl rfl (by omega) (by rw [jc, Qac (by omega)]; simp [gF])) ?_
 refine ac (qQ hZ ip rfl rfl (m := 1) (vs := bK x) (Qbt (by omega)) (eA (b := bv)) rfl (AH x) (by rw [uj]; omega) rfl) ?_
 refine a8 ?_
 have hsp : 3 ≤ sp.length := by rw [Qad, hLr] at h5; omega
 obtain ⟨s1, s2, rfl, hs1⟩ : ∃ s1 s2, sp = s1 ++ s2 ∧ s1.length = 3 := ⟨sp.take 3, sp.drop 3, (QbC 3 sp).symm, by rw [QaP]; omega⟩
 obtain ⟨q1, q2, hq, hq1⟩ : ∃ q1 q2, (rs.drop i).flatMap bK ++ s1 = q1 ++ q2 ∧ q1.length = 3 := ⟨((rs.drop i).flatMap bK ++ s1).take 3, ((rs.drop i).flatMap bK ++ s1).drop 3, (QbC 3 _).symm, by rw [QaP, Qad]; omega⟩
 have hq2 : q2.length = ((rs.drop i).flatMap bK).length := by
  have := Qah List.length hq
  rw [Qad, Qad] at this; omega
 have hL : cz (cz (rs.flatMap bK ++ (s1 ++ s2)) ((i + 1) * 3) ((rs.drop i).flatMap bK)) (i * 3) (bK x) = (jd rs i x).flatMap bK ++ s2 := by
  have h0 : rs.flatMap bK ++ (s1 ++ s2) = (rs.take i).flatMap bK ++ q1 ++ q2 ++ s2 := by
   conv => lhs; rw [xF rs i]
   rw [QaC, ← QaC ((rs.drop i).flatMap bK), hq]
   simp only [QaC]
  have e : (i + 1) * 3 = ((rs.take i).flatMap bK ++ q1).length := by rw [Qad, hLt, hq1, QbN]
  have h6 : (rs.take i).flatMap bK ++ q1 ++ (rs.drop i).flatMap bK ++ s2 = (rs.take i).flatMap bK ++ q1 ++ ((rs.drop i).flatMap bK ++ s2) := by simp only [QaC]
  have h7 := xC (p := (rs.take i).flatMap bK) (q := q1) (s := (rs.drop i).flatMap bK ++ s2) (r := bK x) (by rw [hq1]; rfl)
  rw [hLt] at h7
  rw [h0, e, xC hq2, h6, h7, AL]
  simp only [QaC]
 rw [hL]
 have hlen : ((jd rs i x).flatMap bK).length = (rs.length + 1) * 3 := by rw [cj nz, xE x hi]
 refine ⟨_, ⟨some ⟨g, 0, none⟩, c, rfl, rfl⟩, ?_⟩
 exact ez (by omega) h3 hlen (by rw [Qad, hlen]; rw [Qad, Qad, hLr, hs1] at h5; omega)
 first | exact absurd rfl c14 | exact absurd (by decide) c14
def fM (rs : List Rn) (n f k w : Int) : Int := if f < 0 ∨ k < 1 ∨ n < f ∨ n - f < k ∨ w < 0 ∨ 64 ≤ w then 1 else if lz rs f k then 5 else 0
def iH (rs : List Rn) (n f k w : Int) : List Rn := if fM rs n f k w = 0 then jd rs (iZ rs f) (f, k, w) else rs
theorem F3 {rs : List Rn} {n f k w : Int} (h : nD rs) (hn : n ≤ 64) : nD (iH rs n f k w) := by
 unfold iH; split
 rename_i he
 have hb : ¬ (f < 0 ∨ k < 1 ∨ n < f ∨ n - f < k ∨ w < 0 ∨ 64 ≤ w) := fun q => by rw [fM, Qaf q] at he; exact absurd he (by decide)
 intro x hx
 rw [jd] at hx
 rcases Qbc.1 hx with q | q
 exact h x (QbK q)
 rcases QaZ.1 q with rfl | q
 grind
 exact h x (List.mem_of_mem_drop q)
 exact h
theorem Tp {rs : List Rn} {n f k w : Int} : (iH rs n f k w).length ≤ rs.length + 1 := by
 grind [iH, xE, AK]
theorem Tq (b : Nat) (rs : List Rn) (n : Int) (hn : 0 ≤ n ∧ n ≤ 64) (hok : nD rs) (hl : rs.length ≤ 900) (f k w : Int) : sQ W0 102 [pQ b, iQ f, iQ k, iQ w] (nB b (rs, n) :: R) (iQ (fM rs n f k w)) (nB b (iH rs n f k w, n) :: R) := by
 refine ab func102 ntmps102 ?_
 refine Tc (b := b) fun a c => ?_
 dsimp only
 refine aw ?_
 refine ac (ah call186 (Ti b rs.length c a n)) ?_
 refine ag (fun c3 => ?_) fun c3 => ?_
 refine a8 ?_
 have he : fM rs n f k w = 1 := by grind [fM]
 rw [iH, he, Qac (by decide)]
 exact ⟨_, ⟨rfl, rfl⟩, oI rfl rfl⟩
 refine ag (fun c4 => ?_) fun c4 => ?_
 refine a8 ?_
 have he : fM rs n f k w = 1 := by grind [fM]
 rw [iH, he, Qac (by decide)]
 exact ⟨_, ⟨rfl, rfl⟩, oI rfl rfl⟩
 refine ag (fun c5 => ?_) fun c5 => ?_
 refine a8 ?_
 have he : fM rs n f k w = 1 := by grind [fM]
 rw [iH, he, Qac (by decide)]
 exact ⟨_, ⟨rfl, rfl⟩, oI rfl rfl⟩
 refine a6 eX ?_
 refine ag (fun c6 => ?_) fun c6 => ?_
 refine a8 ?_
 have he : fM rs n f k w = 1 := by grind [fM]
 rw [iH, he, Qac (by decide)]
 exact ⟨_, ⟨rfl, rfl⟩, oI rfl rfl⟩
 refine ag (fun c7 => ?_) fun c7 => ?_
 refine a8 ?_
 have he : fM rs n f k w = 1 := by grind [fM]
 rw [iH, he, Qac (by decide)]
 exact ⟨_, ⟨rfl, rfl⟩, oI rfl rfl⟩
 refine ag (fun c8 => ?_) fun c8 => ?_
 refine a8 ?_
 have he : fM rs n f k w = 1 := by grind [fM]
 rw [iH, he, Qac (by decide)]
 exact ⟨_, ⟨rfl, rfl⟩, oI rfl rfl⟩
 refine ac (cH call187 (Tl b c rs n a hok (by omega) f k (by omega))) ?_
 refine ag (fun c11 => ?_) fun c11 => ?_
 refine a8 ?_
 have he : fM rs n f k w = 5 := by grind [fM]
 rw [iH, he, Qac (by decide)]
 exact ⟨_, ⟨rfl, rfl⟩, oI rfl rfl⟩
 have he : fM rs n f k w = 0 := by grind [fM]
 have hal := AK rs f
 refine ke (E := 312) (sz := 3) (a := a) (n := rs.length) (c := c) bK rs nz (by decide) rfl (fun hs => ?_)
 refine aw ?_
 refine am rfl (ao call189 (Tn rs a rs.length c rfl (by omega) hs)) ?_
 rintro _ B_ ⟨a2, cc, rfl, hB_⟩
 obtain rfl := hB_.symm
 refine aw ?_
 refine d7 (iz hZ ip Iy rfl (eJ rfl rfl gG) rfl (by decide) (by decide) (by decide)) fun bv => ?_
 refine am rfl (cH call188 (To rs a2 cc bv (f, k, w) (iZ rs f) hal (by omega))) ?_
 rintro _ B_ ⟨a3, c3', rfl, hB_⟩
 obtain rfl := hB_.symm
 refine aw ?_
 refine ax dy ?_
 refine a8 ?_
 rw [iH, he, Qaf rfl]
 exact ⟨_, ⟨rfl, rfl⟩, oI (xE _ hal).symm rfl⟩
def ge : List Rn → Int → Option Int
 | [], _ => none
 | x :: l, i => if x.1 ≤ i ∧ i < x.1 + x.2.1 then some x.2.2 else ge l i
theorem Tr {rs : List Rn} (h : nD rs) : ∀ {x w : Int}, ge rs x = some w → 0 ≤ w ∧ w < 64 := by
 intro x w hw
 induction rs with
 | nil => cases hw
 | cons y l ih =>
  rw [ge] at hw
  split at hw
  cases hw
  have := h y (by simp)
  exact ⟨this.2.2.2.1, this.2.2.2.2⟩
  exact ih (fun z hz => h z (by simp [hz])) hw
def rB (rs : List Rn) : Prop := rs.Pairwise fun x y => x.1 + x.2.1 ≤ y.1
theorem F4 (x : Rn) (l : List Rn) (f k : Int) : lz (x :: l) f k = if x.1 + x.2.1 ≤ f then lz l f k else decide (x.1 < f + k) := by
 grind [lz, iZ]
theorem F5 (x y : Rn) (l : List Rn) (f : Int) : jd (x :: l) (iZ (x :: l) f) y = if x.1 + x.2.1 ≤ f then x :: jd l (iZ l f) y else y :: x :: l := by
 grind [jd, iZ]
theorem Ts {l : List Rn} {i : Int} (h : ge l i ≠ none) : ∃ y ∈ l, y.1 ≤ i ∧ i < y.1 + y.2.1 := by
 induction l with
 | nil => exact absurd rfl h
 | cons x l ih =>
  rw [ge] at h
  by_cases q : x.1 ≤ i ∧ i < x.1 + x.2.1
  grind
  grind
theorem F6 : ∀ {rs : List Rn} {f k : Int}, rB rs → (∀ x ∈ rs, 1 ≤ x.2.1) → 1 ≤ k → (lz rs f k = true ↔ ∃ i, f ≤ i ∧ i < f + k ∧ ge rs i ≠ none)
 | [], f, k, _, _, _ => by
  constructor
  grind [lz]
  rintro ⟨i, _, _, h⟩; exact absurd rfl h
 | x :: l, f, k, hs, hp, hk => by
  obtain ⟨h1, h2⟩ := Qbk.1 hs
  have hx := hp x (by simp)
  rw [F4]
  by_cases q : x.1 + x.2.1 ≤ f
  rw [Qaf q, F6 h2 (fun y hy => hp y (by simp [hy])) hk]
  constructor
  rintro ⟨i, a, b, c⟩; exact ⟨i, a, b, by rw [ge, Qac (by omega)]; exact c⟩
  grind [ge]
  rw [Qac q, Qag]
  constructor
  intro h
  by_cases q2 : f ≤ x.1
  exact ⟨x.1, q2, h, by rw [ge, Qaf (by omega)]; simp⟩
  exact ⟨f, QcD _, by omega, by rw [ge, Qaf (by omega)]; simp⟩
  grind [ge, Ts]
theorem F7 : ∀ {rs : List Rn} {f k w : Int} (i : Int), ge (jd rs (iZ rs f) (f, k, w)) i = if f ≤ i ∧ i < f + k then some w else ge rs i
 | [], f, k, w, i => by
  show ge [(f, k, w)] i = _
  rw [ge, ge]; rfl
 | x :: l, f, k, w, i => by
  rw [F5]
  by_cases q : x.1 + x.2.1 ≤ f
  rw [Qaf q, ge, F7 i, ge]
  by_cases q2 : x.1 ≤ i ∧ i < x.1 + x.2.1
  grind
  grind
  grind [ge]
theorem Tt {x y : Rn} {l : List Rn} {i : Nat} (h : x ∈ jd l i y) : x = y ∨ x ∈ l := by
 grind [jd]
theorem F8 : ∀ {rs : List Rn} {f k w : Int}, rB rs → (∀ x ∈ rs, 1 ≤ x.2.1) → lz rs f k = false → rB (jd rs (iZ rs f) (f, k, w))
 | [], f, k, w, _, _, _ => List.pairwise_singleton _ _
 | x :: l, f, k, w, hs, hp, hm => by
  obtain ⟨h1, h2⟩ := Qbk.1 hs
  have hx := hp x (by simp)
  rw [F4] at hm
  rw [F5]
  by_cases q : x.1 + x.2.1 ≤ f
  rw [Qaf q] at hm ⊢
  refine Qbk.2 ⟨fun y hy => ?_, F8 h2 (fun y hy => hp y (by simp [hy])) hm⟩
  rcases Tt hy with rfl | hy
  exact q
  exact h1 y hy
  rw [Qac q] at hm ⊢
  have hm := of_decide_eq_false hm
  refine Qbk.2 ⟨fun y hy => ?_, hs⟩
  rcases QaZ.1 hy with rfl | hy
  grind
  grind
theorem F9 {rs : List Rn} {n f k w : Int} (h : rB rs) (hp : ∀ x ∈ rs, 1 ≤ x.2.1) : rB (iH rs n f k w) := by
 grind [iH, fM, F8]
structure RT (rs : List Rn) (L : List Int) : Prop where
  at_ : ∀ i : Nat, i < L.length → L.getD i (-1) = (ge rs i).getD (-1)
  s : rB rs
  ok : nD rs
def gi (L : List Int) (f k w : Int) : Int := if f < 0 ∨ k < 1 ∨ (L.length : Int) < f ∨ L.length - f < k ∨ w < 0 ∨ 64 ≤ w then 1 else if (List.range k.toNat).any (fun i => decide (0 ≤ L.getD (f.toNat + i) (-1))) then 5 else 0
def kA (L : List Int) (f k w : Int) : List Int := if gi L f k w = 0 then (List.range L.length).map fun (i : Nat) => if f ≤ i ∧ (i : Int) < f + k then w else L.getD i (-1) else L
theorem Fa {L : List Int} {f k w : Int} : (kA L f k w).length = L.length := by unfold kA; split <;> simp
theorem Fb {rs : List Rn} (h : nD rs) {i : Int} : 0 ≤ (ge rs i).getD (-1) ↔ ge rs i ≠ none := by
 cases e : ge rs i with
 | none => simp
 | some w => have := Tr h e; simp; omega
theorem Tu {rs : List Rn} {L : List Int} (h : RT rs L) {f k : Int} (hb : 0 ≤ f ∧ 1 ≤ k ∧ f + k ≤ L.length) : (List.range k.toNat).any (fun i => decide (0 ≤ L.getD (f.toNat + i) (-1))) = lz rs f k := by
 rw [Qae, F6 h.s (fun x hx => (h.ok x hx).2.1) hb.2.1, QbG]
 constructor
 rintro ⟨i, hi, hd⟩
 have hi := Qbs.1 hi
 have hd := Qas hd
 rw [h.at_ _ (by omega)] at hd
 exact ⟨((f.toNat + i : Nat) : Int), by omega, by omega, (Fb h.ok).1 hd⟩
 rintro ⟨i, a, b, c⟩
 refine ⟨(i - f).toNat, Qbs.2 (by omega), Qak ?_⟩
 rw [h.at_ _ (by omega), show ((f.toNat + (i - f).toNat : Nat) : Int) = i by omega]
 exact (Fb h.ok).2 c
theorem Fc {rs : List Rn} {L : List Int} (h : RT rs L) {n : Int} (hn : n = L.length) (f k w : Int) : gi L f k w = fM rs n f k w := by
 grind [gi, fM, Tu]
theorem Tv {rs : List Rn} {L : List Int} (h : RT rs L) {n : Int} (hn : n = L.length) (h64 : n ≤ 64) (f k w : Int) : RT (iH rs n f k w) (kA L f k w) := by
 refine ⟨fun i hi => ?_, F9 h.s (fun x hx => (h.ok x hx).2.1), F3 h.ok h64⟩
 rw [Fa] at hi
 unfold kA iH
 rw [Fc h hn]
 by_cases q : fM rs n f k w = 0
 rw [Qaf q, Qaf q, F7]
 simp only [List.getD, Qcp, List.getElem?_range hi, Option.map_some, Option.getD_some]
 by_cases q2 : f ≤ (i : Int) ∧ (i : Int) < f + k
 grind
 rw [Qac q2, Qac q2]; exact h.at_ i hi
 rw [Qac q, Qac q]; exact h.at_ i hi
theorem Tw (n : Nat) : RT [] (List.replicate n (-1)) := ⟨fun i hi => by simp at hi; simp [List.getD, hi, ge], List.Pairwise.nil, fun x hx => by simp at hx⟩
section
variable {P : Program} {W0 : World} {N : FSz} {e : aH} {A R : List HP} {t : TypeId} {v : Value} {x y : Operand} {l' ys : List Value}
theorem Tx {E sz n c g j : Nat} [h : Tk (osl E sz) (.slice (some ⟨g, 0, none⟩) n c) A ys R] (hs : ∀ w, (sizeOf t).run P w = .ok 1 w) (hx : ev e x = some (.pointer (some ⟨g, j, none⟩))) (hy : ev e y = some v)
    (h1 : v.oneCell' = true) (hj : j < ys.length) (hl : ys.set j v = l') : cn P W0 N e A (.store t x y) (fun _ B => B = osl E sz (.slice (some ⟨g, 0, none⟩) n c) l' :: R) := by
 intro a w dst ty pos af gd K Q hF hO k
 rcases (hO.tk (r := osl E sz) (b := .slice (some ⟨g, 0, none⟩) n c)).osl with ⟨k1, _, _⟩ | ⟨g', n', cap, sp, k1, k2, k3, k4, k5, k6⟩
 cases k1
 cases k1
 refine ka (b := g) (l := ys ++ sp) hs hx hy h1 (by grind) rfl a w dst ty pos af gd K Q hF k6 fun v' w' B hp hO' => ?_
 subst hp
 refine k v' w' _ rfl (hO'.ent ?_)
 have e1 : (ys ++ sp).set j v = l' ++ sp := by grind
 rw [e1]
 exact ez k2 k3 (by grind) (by grind)
theorem dH {S : World → Prop} {E n c j sz o' b off : Nat} {k : IntKind} {i : Int} {a' : Option Addr} (hu : P.underlying t = some (.slice E)) (hs : ∀ w, (sizeOf E).run P w = .ok sz w) (hx : ev e x = some (.slice a' n c)) (ha : a' = some ⟨b, off, none⟩) (hy : ev e y = some (.int k i))
    (hi : i = (j : Int)) (hj : j < n) (ho : off + j * sz = o') : aW P S N e (.indexAddr t x y) (.pointer (some ⟨b, o', none⟩)) := by
 grind [gn]
instance (priority := high) ent_nil {A : List HP} : Ent A [] := ⟨fun l _ => ⟨[], l, rfl, QaI _⟩⟩
end
abbrev dW (c : Cfg) : Obj := a7 (cv c) 28
def nE (c : Cfg) (i : Nat) : Rn := c.rl.getD i (0, 0, 0)
def gU (c : Cfg) : Nat → List Rn
 | 0 => []
 | i + 1 => if eR (nE c i).1 c.cats = true then iH (gU c i) 32 (nE c i).2.1 (nE c i).2.2 i else gU c i
theorem Fe (c : Cfg) : ∀ i, nD (gU c i) ∧ (gU c i).length ≤ i ∧ rB (gU c i)
 | 0 => ⟨fun x hx => by simp [gU] at hx, Qap _, List.Pairwise.nil⟩
 | i + 1 => by
  obtain ⟨h1, h2, h3⟩ := Fe c i
  rw [gU]; split
  exact ⟨F3 h1 (by decide), QaR Tp (by omega), F9 h3 fun x hx => (h1 x hx).2.1⟩
  grind
def oJ (c : Cfg) (i : Nat) : Bool := !(eR (nE c i).1 c.cats && decide (fM (gU c i) 32 (nE c i).2.1 (nE c i).2.2 i = 0))
theorem Tz (W0 : World) (b1 b4 bt : Nat) (c : Cfg) (hl : c.rl.length ≤ 8) (hs : ∀ A, bT (aB W0 A) c.ra 3 eQ c.rl) :
    WF W0 101 [pQ b1, pQ b4] c.rl.length (fun i => bH [pt b1 (dW c), pt b4 (a7 [pQ bt] 197), nB bt (gU c i, 32)]) (oJ c) := ⟨call101, fun i hi R => by
 refine nh ?_
 simp only [Qaw, Qat]
 obtain ⟨g, o, hra, hc⟩ := (hs (pt b1 (dW c) :: R)).at_ hi
 obtain ⟨x, hx⟩ : ∃ x, c.rl[i] = x := ⟨_, rfl⟩
 have hA : nE c i = x := by grind [nE]
 rw [hx] at hc
 obtain ⟨h1, h2, h3⟩ := Fe c i
 have hT : gU c (i + 1) = if eR x.1 c.cats = true then iH (gU c i) 32 x.2.1 x.2.2 i else gU c i := by rw [gU, hA]
 have hW : oJ c i = !(eR x.1 c.cats && decide (fM (gU c i) 32 x.2.1 x.2.2 i = 0)) := by rw [oJ, hA]
 rw [hT, hW]
 generalize gU c i = T at h1 h2 h3 ⊢
 refine ab func101 ntmps101 ?_
 refine a6 (dH C8 yV rfl hra rfl rfl hi (by first | exact Qab _ | rfl)) ?_
 refine a6 (cJ hc.weak) ?_
 refine bu fun bx => ?_
 refine eW (fG yV rfl rfl rfl rfl rfl) ?_
 rintro _ _ rfl
 refine aN (aD (aP (aZ ?_)))
 refine aa rfl (cG rfl uc rfl aO rfl (by first | exact Qab _ | rfl)) ?_
 refine aa rfl (bW cP rfl (aF rfl)) ?_
 refine aa rfl (cG rfl u6 rfl aO rfl (by first | exact Qab _ | rfl)) ?_
 refine aa rfl (bW cP rfl (aF rfl)) ?_
 refine am rfl (fZ IL rfl (AF x.1 c.cats)) ?_
 rintro _ B_ ⟨rfl, hB_⟩
 obtain rfl := hB_.symm
 refine aa rfl (pn rfl) (aa rfl (aL rfl) ?_)
 refine cR rfl rfl rfl ?_ ?_
 intro g2_7
 have hv : eR x.1 c.cats = false := by grind
 rw [hv]
 refine aw ?_
 refine a8 ?_
 refine ⟨_, ⟨?_, rfl⟩, ?_⟩
 refine Qah Value.bool ?_
 first
   | rfl
   | (rw [Qbr, bne, Qae]; simp)
 first
   | (rw [Qaf rfl]; exact inferInstance)
   | (rw [Qac (by decide)]; exact inferInstance)
 intro g2_7
 have hv : eR x.1 c.cats = true := by grind
 rw [hv]
 refine aa rfl (bW isAgg197 rfl (aF rfl)) ?_
 refine dw rfl rfl ?_
 refine aa rfl (cG rfl uc rfl aO rfl (by first | exact Qab _ | rfl)) ?_
 refine dw rfl rfl (aa rfl (bW cP rfl (aF rfl)) ?_)
 refine dw rfl rfl ?_
 refine aa rfl (cG rfl uc rfl aO rfl (by first | exact Qab _ | rfl)) ?_
 refine dw rfl rfl (aa rfl (bW cP rfl (aF rfl)) ?_)
 refine dw rfl rfl (aa rfl (aL rfl) (dw rfl rfl ?_))
 refine am rfl (lh call102 rfl (Tq bt T 32 (by decide) h1 (by omega) x.2.1 x.2.2 i)) ?_
 rintro _ B_ ⟨rfl, hB_⟩
 obtain rfl := hB_.symm
 refine dw rfl rfl (aa rfl (lN rfl rfl) (aa rfl (j6 rfl rfl) (aa rfl (bC rfl) (aN (aD (dT (a8 ?_)))))))
 refine ⟨_, ⟨?_, rfl⟩, ?_⟩
 refine Qah Value.bool ?_
 first
   | rfl
   | (rw [Qbr, bne, Qae]; simp)
 first
   | (rw [Qaf rfl]; exact inferInstance)
   | (rw [Qac (by decide)]; exact inferInstance)
 ⟩
def lX (c : Cfg) : Bool := decide (8 < c.rl.length) || kx (oJ c) c.rl.length
theorem TA (c : Cfg) (hs : ∀ A, bT (aB W0 A) c.ra 3 eQ c.rl) : sP W0 29 [.agg (cv c).toArray] R (fun v B => ∃ r, v = .tuple #[iQ r, .bool (lX c)] ∧ B = R) := by
 refine ab func29 ntmps29 ?_
 refine aS fun b1 => ?_
 refine ag (fun c1 => ?_) fun c1 => ?_
 refine az ?_
 rw [lX, Qak (by omega), Qbg]
 exact ⟨_, ⟨0, rfl, rfl⟩, IO⟩
 refine am rfl (ao call100 (Tj 32 (by decide))) ?_
 rintro _ B_ ⟨bt, rfl, hB_⟩
 obtain rfl := hB_.symm
 refine aw ?_
 refine d7 (o8 zeroValue197 rfl) fun b4 => ?_
 refine ax dy ?_
 refine fF (B := kH 0 (bH [pt b1 (dW c), pt b4 (a7 [pQ bt] 197), nB bt ([], 32)]) :: R) inferInstance ?_
 refine wP ?_
 simp only [Qaw, Qat]
 refine aw ?_
 refine am rfl (pw (B := kH 0 (bH [pt b1 (dW c), pt b4 (a7 [pQ bt] 197), nB bt ([], 32)]) :: R) inferInstance (ao ze (EZ 101 [pQ b1, pQ b4] c.rl.length (fun i => bH [pt b1 (dW c), pt b4 (a7 [pQ bt] 197), nB bt (gU c i, 32)]) (oJ c) (Tz W0 b1 b4 bt c (by omega) hs) (by omega)))) ?_
 rintro _ B_ ⟨r, rfl, hB_⟩
 obtain rfl := hB_.symm
 refine aw ?_
 refine az ?_
 rw [lX, Qaq (by omega), Qba]
 exact ⟨_, ⟨r, rfl, rfl⟩, IO⟩
def kV (c : Cfg) (g : Int) (k : Nat) : Bool := (c.pl.take k).any fun q => decide (q.2 = g)
theorem TB (c : Cfg) (g : Int) (k : Nat) (hk : k < c.pl.length) (hl : c.pl.length ≤ 8) (hcap : c.pl.length ≤ c.pc) (hs : ∀ A, bT (aB W0 A) c.pa 2 eh c.pl) : sQ W0 105 [.agg (cv c).toArray, iQ g, iQ k] R (.bool (kV c g k)) R := by
 refine ab func105 ntmps105 ?_
 refine aS fun b1 => ?_
 refine a6 (lO s9 tV rfl rfl (h := k) rfl (by omega)) ?_
 refine cK (fun i : Nat => i ≤ k ∧ ∀ j, j < i → (c.pl.getD j (0, 0)).2 ≠ g) (fun i => [(1, iQ g), (12, .slice c.pa k c.pc), (13, iQ k), (14, iQ i)]) (fun _ => R) (fun i => k - i) 0 ?_ ?_
 grind
 intro i ⟨hi, hI⟩
 refine aw ?_
 refine ag (fun c2 => ?_) fun c2 => ?_
 have hi1 : i < c.pl.length := by omega
 have hik : i < k := by omega
 obtain ⟨gp, o, hpa, hc⟩ := (hs R).at_ hi1
 obtain ⟨x, hx⟩ : ∃ x, c.pl[i] = x := ⟨_, rfl⟩
 have hgd : c.pl.getD i (0, 0) = x := by grind
 rw [hx] at hc
 refine a6 (dH s9 tV rfl hpa rfl rfl hik (by first | exact Qab _ | rfl)) ?_
 refine a6 (cJ hc.weak) ?_
 refine bu fun bx => ?_
 refine ax aC ?_
 refine ag (fun c4 => ?_) fun c4 => ?_
 refine a8 ?_
 have ht : kV c g k = true := by
  grind [kV, QbG, QbU.2]
 rw [ht]
 exact aj
 refine a6 bS ?_
 refine bE (i + 1) ?_
 grind
 refine a8 ?_
 have ht : kV c g k = false := by
  grind [kV, List.any_eq_false, QbU.1]
 rw [ht]
 exact aj
def nF (c : Cfg) (i : Nat) : Bool := !eR (c.pl.getD i (0, 0)).1 c.cats || (decide ((c.pl.getD i (0, 0)).2 ≠ -1) && (!fh c (c.pl.getD i (0, 0)).2 || decide ((c.pl.getD i (0, 0)).1 ≠ iG c (c.pl.getD i (0, 0)).2) || kV c (c.pl.getD i (0, 0)).2 i))
theorem TC (W0 : World) (b1 : Nat) (c : Cfg) (hl : c.pl.length ≤ 8) (hcap : c.pl.length ≤ c.pc) (hs : ∀ A, bT (aB W0 A) c.pa 2 eh c.pl) (hgs : ∀ A, bT (aB W0 A) c.ga 3 eQ c.gl) :
    WF W0 103 [pQ b1] c.pl.length (fun _ => bH [pt b1 (dW c)]) (nF c) := ⟨call103, fun i hi R => by
 refine nh ?_
 simp only [Qaw, Qat]
 obtain ⟨g, o, hpa, hc⟩ := (hs (pt b1 (dW c) :: R)).at_ hi
 obtain ⟨⟨p, q⟩, hx⟩ : ∃ x, c.pl[i] = x := ⟨_, rfl⟩
 have hgd : c.pl.getD i (0, 0) = (p, q) := by grind
 have hW : nF c i = (!eR p c.cats || (decide (q ≠ -1) && (!fh c q || decide (p ≠ iG c q) || kV c q i))) := by rw [nF, hgd]
 rw [hx] at hc
 rw [hW]
 have hrow : ∃ (gg og j : Nat) (vs : List Value), (∀ A, aT (aB W0 A) gg (og + j * 3) vs) ∧ (fh c q = true → c.ga = some ⟨gg, og, none⟩ ∧ q = (j : Int) ∧ j < c.gl.length ∧ ∃ u : Int × Int × Int, vs = eQ u ∧ iG c q = u.1) := by
  cases hG : fh c q with
  | false => exact ⟨0, 0, 0, [], fun A k v hk => by simp at hk, fun h => by cases h⟩
  | true =>
   have hb : 0 ≤ q ∧ q < c.gl.length := Qas hG
   obtain ⟨j, rfl⟩ : ∃ j : Nat, q = (j : Int) := ⟨q.toNat, by omega⟩
   have hj : j < c.gl.length := by omega
   obtain ⟨gg, og, hga, _⟩ := (hgs []).at_ hj
   refine ⟨gg, og, j, eQ c.gl[j], fun A => ?_, fun _ => ⟨hga, rfl, hj, c.gl[j], rfl, ?_⟩⟩
   obtain ⟨g2, o2, h2, hc2⟩ := (hgs A).at_ hj
   rw [hga] at h2; cases h2; exact hc2
   grind [iG]
 obtain ⟨gg, og, j, vs, hcv, hrw⟩ := hrow
 obtain ⟨w, hw⟩ : ∃ w, fh c q = w := ⟨_, rfl⟩
 rw [hw] at hrw ⊢
 refine ab func103 ntmps103 ?_
 refine a6 (dH s9 tV rfl hpa rfl rfl hi (by first | exact Qab _ | rfl)) ?_
 refine a6 (cJ hc.weak) ?_
 refine bu fun bx => ?_
 refine ax aC ?_
 refine ac (ao IL (AF p c.cats)) ?_
 refine aA rfl ?_ ?_
 intro c2
 refine aw ?_
 refine a8 ?_
 have hv : eR p c.cats = false := by grind
 rw [hv]
 exact aj
 intro c2
 have hv : eR p c.cats = true := by grind
 rw [hv]
 refine aw ?_
 refine aA rfl ?_ ?_
 intro c4
 refine aw ?_
 refine a8 ?_
 rw [Qaq (by omega)]
 exact aj
 intro c4
 refine aw ?_
 refine ac (ao ub (rz c q)) ?_
 rw [hw]
 refine aA rfl ?_ ?_
 intro c6
 refine aw ?_
 refine a8 ?_
 have hw0 : w = false := by grind
 rw [hw0, Qak (by omega)]
 exact aj
 intro c6
 obtain rfl : w = true := by grind
 obtain ⟨hga, hqj, hj, u, rfl, hlu⟩ := hrw rfl
 rw [hlu, Qak (by omega)]
 have hne : ¬ q = -1 := by omega
 refine aw ?_
 refine fH [(b1, 0, cv c), (bx, 0, eh (p, q)), (gg, og + j * 3, eQ u)] 18 mixed rfl (bZ (bZ (cB (hcv _) bL))) (fun hS => ?_)
 refine ae 0 6 hS ?_
 refine av 6 hS (dH k0 j5 rfl hga rfl hqj hj (by first | exact Qab _ | rfl)) ?_
 refine ae 7 1 hS ?_
 refine av 8 hS (aG (iy (k := 2) (j := 0) rfl rfl)) ?_
 refine ae 9 2 hS ?_
 refine iS (t := 37) rfl ?_ ?_
 intro g8_11
 refine ae 11 7 hS ?_
 refine aI ?_
 refine a8 ?_
 refine aE ?_
 refine Qah Value.bool ?_
 rw [Qae]
 simp_all
 intro g8_11
 refine ae 11 4 hS ?_
 refine jt 15 rfl rfl (ao call105 (TB c q i hi hl hcap hs)) (bZ (bZ (cB (hcv _) bL))) fun hS => ?_
 refine ae 16 2 hS ?_
 refine aI ?_
 refine a8 ?_
 refine aE ?_
 refine Qah Value.bool ?_
 rw [Qae]
 simp_all
 ⟩
def lY (c : Cfg) : Bool := decide (8 < c.pl.length) || kx (nF c) c.pl.length
theorem TD (c : Cfg) (hcap : c.pl.length ≤ c.pc) (hs : ∀ A, bT (aB W0 A) c.pa 2 eh c.pl) (hgs : ∀ A, bT (aB W0 A) c.ga 3 eQ c.gl) : sP W0 30 [.agg (cv c).toArray] R (fun v B => ∃ r, v = .tuple #[iQ r, .bool (lY c)] ∧ B = R) := by
 refine ab func30 ntmps30 ?_
 refine aS fun b1 => ?_
 refine ag (fun c1 => ?_) fun c1 => ?_
 refine az ?_
 rw [lY, Qak (by omega), Qbg]
 exact ⟨_, ⟨0, rfl, rfl⟩, IO⟩
 refine am rfl (ah ze (xA 103 [pQ b1] c.pl.length b1 _ (nF c) (TC W0 b1 c (by omega) hcap hs hgs) (by omega))) ?_
 rintro _ B_ ⟨r, rfl, hB_⟩
 obtain rfl := hB_.symm
 refine aw ?_
 refine az ?_
 rw [lY, Qaq (by omega), Qba]
 exact ⟨_, ⟨r, rfl, rfl⟩, IO⟩
structure CfOk (W0 : World) (c : Cfg) : Prop where
  g : ∀ A, bT (aB W0 A) c.ga 3 eQ c.gl
  r : ∀ A, bT (aB W0 A) c.ra 3 eQ c.rl
  p : ∀ A, bT (aB W0 A) c.pa 2 eh c.pl
  n : ∀ A, bT (aB W0 A) c.na 2 eh c.nl
  s : ∀ A, bT (aB W0 A) c.sa 2 eh c.sl
  pc : c.pl.length ≤ c.pc
def TE (W0 : World) (c : Cfg) (C : HP) (l : List (Value × Int × Bool)) : Prop := ∀ x ∈ l, ∃ fn cs, x.1 = .func (.func fn) #[] cs.toArray ∧ (∀ args w, (callFunc fn args).run Tryz.prog w = .ok (.enter fn args) w) ∧
  ∀ R, bc Tryz.prog W0 fn ([] ++ [.agg (cv c).toArray] ++ cs) (kH 0 C :: R) (fun v B => ∃ r, v = .tuple #[.int .i64 r, .bool x.2.2] ∧ B = kH 0 C :: R)
def lB : List (Value × Int × Bool) → Int
 | [] => 0
 | x :: t => if x.2.2 then x.2.1 else lB t
theorem Ff : ∀ (l : List (Value × Int × Bool)) (i : Nat) (hi : i < l.length), (∀ j (hj : j < l.length), j < i → l[j].2.2 = false) → l[i].2.2 = true → lB l = l[i].2.1
 | x :: t, 0, _, _, h => by rw [lB, Qaf (by simpa using h)]; rfl
 | x :: t, i + 1, hi, h1, h2 => by
  have h0 := h1 0 (by simp) (by omega)
  rw [lB, Qac (by grind), Ff t i (by grind) (fun j hj hji => by
   have := h1 (j + 1) (by omega) (by omega)
   simpa using this) (by grind)]
  simp
theorem Fg : ∀ (l : List (Value × Int × Bool)), (∀ j (hj : j < l.length), l[j].2.2 = false) → lB l = 0
 | [], _ => rfl
 | x :: t, h => by
  have h0 := h 0 (by simp)
  rw [lB, Qac (by grind), Fg t (fun j hj => by
   have := h (j + 1) (by grind)
   simpa using this)]
def t9 (x : Value × Int × Bool) : List Value := [x.1, .int .i64 x.2.1]
def fB (c : Cfg) (bg : Nat) : List (Value × Int × Bool) := [(.func (.func 28) #[] #[], 13, iF c), (.func (.func 29) #[] #[], 14, lX c), (.func (.func 30) #[] #[], 15, lY c), (.func (.func 31) #[] #[], 16, gQ c), (.func (.func 32) #[] #[], 17, ly c), (.func (.func 27) #[] #[.pointer (some ⟨bg, 0, none⟩)], 18, kz c)]
theorem TF (W0 : World) (R : List HP) (bg : Nat) (x : Bool) (c : Cfg) : sQ W0 27 [.agg (cv c).toArray, pQ bg] (pt bg (a7 [.bool x] 4) :: R) (.tuple #[iQ 0, .bool x]) (pt bg (a7 [.bool x] 4) :: R) := by
 refine ab func27 ntmps27 ?_
 refine aS fun b2 => ?_
 refine bB [bg] 3 fun hS => ?_
 refine ae 0 3 hS ?_
 refine aI ?_
 exact az aj
theorem TG (x : Bool) : sP W0 26 [.bool x] R (fun v B => ∃ bg, v = .func (.func 27) #[] #[pQ bg] ∧ B = pt bg (a7 [.bool x] 4) :: R) := by
 refine ab func26 ntmps26 ?_
 refine d7 (iw rfl rfl) fun bg => ?_
 refine a8 ?_
 exact ⟨_, ⟨bg, rfl, rfl⟩, IO⟩
theorem TH (W0 : World) (c : Cfg) (h : CfOk W0 c) (bg : Nat) : TE W0 c (bH [pt bg (a7 [.bool (kz c)] 4)]) (fB c bg) := by
 intro x hx
 simp only [fB, QaZ, List.not_mem_nil, or_false] at hx
 rcases hx with rfl | rfl | rfl | rfl | rfl | rfl
 exact ⟨_, [], rfl, call28, fun R => SS c h.g⟩
 exact ⟨_, [], rfl, call29, fun R => TA c h.r⟩
 exact ⟨_, [], rfl, call30, fun R => TD c h.pc h.p h.g⟩
 exact ⟨_, [], rfl, call31, fun R => SZ c h.n h.g⟩
 exact ⟨_, [], rfl, call32, fun R => SV c h.s⟩
 exact ⟨_, [pQ bg], rfl, call27, fun R => nh (gH (TF W0 R bg (kz c) c) fun v B hB => by
  obtain ⟨rfl, rfl⟩ := hB
  exact ⟨_, ⟨0, rfl, rfl⟩, inferInstance⟩)⟩
def jO (c : Cfg) : Int := if c.cats < 0 ∨ 8 < c.cats then 12 else if iF c then 13 else if lX c then 14 else if lY c then 15 else if gQ c then 16 else if ly c then 17 else if kz c then 18 else if 32 < eu c c.gl.length then 19 else 0
theorem TJ (c : Cfg) (bg : Nat) (h : ¬ (c.cats < 0 ∨ 8 < c.cats)) : jO c = if lB (fB c bg) = 0 ∧ 32 < eu c c.gl.length then 19 else lB (fB c bg) := by
 grind [jO, fB, lB]
theorem Fh {w : Nat → Bool} {n i : Nat} (h : kx w n = false) (hi : i < n) : w i = false := by
 grind [t8]
theorem tc {c : Cfg} (h : iF c = false) : 1 ≤ c.gl.length ∧ c.gl.length ≤ 4 ∧ ∀ g ∈ c.gl, eR g.1 c.cats = true ∧ 1 ≤ g.2.1 ∧ g.2.1 ≤ 8 ∧ 0 ≤ g.2.2 ∧ g.2.2 ≤ 8 - g.2.1 := by
 simp only [iF, Bool.or_eq_false_iff, decide_eq_false_iff_not] at h
 obtain ⟨h1, h2⟩ := h
 refine ⟨by omega, by omega, fun g hg => ?_⟩
 obtain ⟨i, hi, rfl⟩ := Qbn hg
 have := Fh h2 hi
 rw [show c.gl.getD i (0, 0, 0) = c.gl[i] by simp [List.getD, hi]] at this
 exact vh.1 this
theorem xG (c : Cfg) (h : CfOk W0 c) : sP W0 7 [.agg (cv c).toArray] R (fun v B => ∃ at_, v = .tuple #[iQ (jO c), iQ at_] ∧ B = R) := by
 refine ab func7 ntmps7 ?_
 refine dX (i3 rfl) fun b1 => ?_
 refine au 4 ?_
 refine Af (aw ?_)
 refine cR rfl rfl rfl (fun g2_4 => ?_) fun g2_4 => ?_
 refine au 14 ?_
 refine oq (az ?_)
 have he : jO c = 12 := by grind [jO]
 rw [he]
 exact ⟨_, ⟨0, rfl, rfl⟩, IO⟩
 refine aw ?_
 refine aA rfl (fun c2 => ?_) fun c2 => ?_
 refine au 8 ?_
 refine oq (az ?_)
 have he : jO c = 12 := by grind [jO]
 rw [he]
 exact ⟨_, ⟨0, rfl, rfl⟩, IO⟩
 refine au 9 ?_
 refine zv (au 1 ?_)
 refine dO (fun e : Int × Int => e.1 = lB (fB c 0) ∧ ¬ (c.cats < 0 ∨ 8 < c.cats)) (fun e => [(1, pQ b1), (5, iQ e.2), (6, iQ e.1)]) (fun _ => pt b1 (dW c) :: R) ?_ ?_
 refine au 9 ?_
 refine ac (ao call33 (SX c)) ?_
 refine am rfl (gx rfl call26 rfl (TG (kz c))) ?_
 rintro _ B_ ⟨bg, rfl, hB_⟩
 obtain rfl := hB_.symm
 refine aw ?_
 refine d7 (iz a1V Ig IA rfl (eJ rfl rfl (eJ rfl rfl (eJ rfl rfl (eJ rfl rfl (eJ rfl rfl (eJ rfl rfl gG)))))) rfl (by decide) (by decide) (by decide)) fun bl => ?_
 refine j9 (b := bl) (o' := a7 ((fB c bg).flatMap t9) 79) rfl ?_
 refine aw ?_
 refine cK (fun i : Nat => i ≤ 6 ∧ ∀ j (hj : j < (fB c bg).length), j < i → ((fB c bg)[j]).2.2 = false) (fun i => [(1, pQ b1), (5, iQ 0), (6, iQ 0), (29, .slice (some ⟨bl, 0, none⟩) 6 6), (30, iQ 6), (31, iQ i)]) (fun _ => pt bl (a7 ((fB c bg).flatMap t9) 79) :: pt b1 (dW c) :: kH 0 (bH [pt bg (a7 [.bool (kz c)] 4)]) :: R) (fun i => 6 - i) 0 ?_ ?_
 grind
 intro i ⟨hi, hI⟩
 refine aw ?_
 refine aA rfl (fun c6 => ?_) fun c6 => ?_
 refine au 5 ?_
 have hi1 : i < 6 := by omega
 have hlen : (fB c bg).length = 6 := rfl
 have hil : i < (fB c bg).length := by omega
 have hok := TH W0 c h bg (fB c bg)[i] (QaK hil)
 have hEq := Ff (fB c bg) i hil hI
 have hnx : (fB c bg)[i].2.2 = false → ∀ j (hj : j < (fB c bg).length), j < i + 1 → ((fB c bg)[j]).2.2 = false := fun q j hj hji => by
  rcases QaD j i with q2 | q2
  grind
  grind
 have hcell : aT (aB W0 (pt bl (a7 ((fB c bg).flatMap t9) 79) :: pt b1 (dW c) :: kH 0 (bH [pt bg (a7 [.bool (kz c)] 4)]) :: R)) bl (i * 2) (t9 (fB c bg)[i]) := by
  obtain ⟨b, off, e1, hc⟩ := qR (W0 := W0) (A := pt bl (a7 ((fB c bg).flatMap t9) 79) :: pt b1 (dW c) :: kH 0 (bH [pt bg (a7 [.bool (kz c)] 4)]) :: R) (f := t9) (sz := 2) (xs := fB c bg) (b := bl) (fun _ => rfl) rfl i (fB c bg)[i] (by simp [hil])
  cases e1
  rwa [Qab] at hc
 generalize hy : (fB c bg)[i] = y at hok hEq hnx hcell
 obtain ⟨yv, ye, yb⟩ := y
 obtain ⟨fn, cs, rfl, hcall, hsp⟩ := hok
 dsimp only at hEq hnx hsp
 refine aZ (aa rfl (bA hi1) ?_)
 refine aa rfl (cJ hcell) ?_
 refine dX (dt IA) fun bx => ?_
 refine eW (fG Ig rfl rfl rfl rfl rfl) ?_
 rintro _ _ rfl
 refine aN (aD (aP (aZ ?_)))
 refine aa rfl (cG rfl Iu rfl sizeOf76 rfl (by first | exact Qab _ | rfl)) ?_
 refine aa rfl (bW isAgg76 rfl (aF rfl)) ?_
 refine aa rfl (mT BZ s6 rfl rfl) ?_
 refine am rfl (qJ (us := []) (cs := cs) rfl hcall rfl (hsp _)) ?_
 rintro _ B_ ⟨r_, rfl, hB_⟩
 obtain rfl := hB_.symm
 refine aa rfl (aL rfl) (aa rfl (k8 rfl rfl) (aa rfl (k8 rfl rfl) (aa rfl (bC rfl) (aa rfl (bC rfl) (aN (aD (aP (aZ (aa rfl (aL rfl) (aN (aD ?_)))))))))))
 refine aA rfl (fun c9 => ?_) fun c9 => ?_
 refine aP ?_
 refine bB [bx] 5 fun hS => ?_
 refine aQ 0 rfl rfl rfl hS (aL rfl) ?_
 refine aQ 1 rfl rfl rfl hS (cG rfl Iu rfl sizeOf33 rfl (by first | exact Qab _ | rfl)) ?_
 refine aQ 2 rfl rfl rfl hS (bW isAgg33 rfl (co (k := 0) rfl rfl)) ?_
 refine aQ 3 rfl rfl rfl hS (bC rfl) ?_
 refine aQ 4 rfl rfl rfl hS (bC rfl) ?_
 refine aI ?_
 exact cu (ye, r_) (⟨(hEq c9).symm, by omega⟩)
 refine aw ?_
 refine a6 bS ?_
 refine bE (i + 1) ?_
 grind
 refine aw ?_
 refine cu ((0 : Int), (0 : Int)) ?_
 obtain rfl : i = 6 := by omega
 exact ⟨(Fg _ fun j hj => hI j hj (by grind [fB])).symm, by omega⟩
 intro ⟨e, at_⟩ ⟨he, hcat⟩
 dsimp only at he ⊢
 have hce := TJ c 0 hcat
 rw [← he] at hce
 refine aw ?_
 refine j8 rfl rfl rfl (fun g12_3 => ?_) fun g12_3 => ?_
 have hall : lB (fB c 0) = 0 := by omega
 have hgr : iF c = false := by
  rw [← Qaz]; intro q; simp only [fB, lB, q, QbI] at hall; exact absurd hall (by decide)
 have hri : gQ c = false := by
  rw [← Qaz]; intro q; simp only [fB, lB, q, QbI] at hall; split at hall <;> (try split at hall) <;> (try split at hall) <;> exact absurd hall (by decide)
 obtain ⟨k1, k2, k3⟩ := tc hgr
 have k4 : c.nl.length ≤ 4 := by
  grind [gQ]
 refine aw ?_
 refine ac (ao call34 (T5 c h.g (fun g hg => (k3 g hg).2) k4 k2)) ?_
 refine aA rfl (fun c12 => ?_) fun c12 => ?_
 refine au 8 ?_
 refine oq (az ?_)
 rw [hce, Qaf (by omega)]
 exact ⟨_, ⟨0, rfl, rfl⟩, IO⟩
 refine au 11 ?_
 refine oq (az ?_)
 rw [hce, Qac (by omega)]
 exact ⟨_, ⟨_, rfl, rfl⟩, IO⟩
 refine au 17 ?_
 refine oq (az ?_)
 rw [hce, Qac (by omega)]
 exact ⟨_, ⟨_, rfl, rfl⟩, IO⟩
def rt (c : Cfg) : Bool := decide (jO c = 0)
theorem TK (c : Cfg) (h : CfOk W0 c) : sQ W0 260 [.agg (cv c).toArray] R (.bool (rt c)) R := by
 refine ab func260 ntmps260 ?_
 refine aS fun b1 => ?_
 refine am rfl (ao Cr (xG c h)) ?_
 rintro _ B_ ⟨at_, rfl, hB_⟩
 obtain rfl := hB_.symm
 refine aw ?_
 refine a8 ?_
 refine aE ?_
 refine Qah Value.bool ?_
 rw [Qae, rt]; simp
theorem Fi {c : Cfg} (h : rt c = true) : 0 ≤ c.cats ∧ c.cats ≤ 8 ∧ iF c = false ∧ lX c = false ∧ lY c = false ∧ gQ c = false ∧ ly c = false ∧ kz c = false ∧ eu c c.gl.length ≤ 32 := by
 have h := Qas h
 unfold jO at h
 split at h
 omega
 rename_i q1
 repeat' split at h
 all_goals first | exact absurd h (by decide) | skip
 rename_i q2 q3 q4 q5 q6 q7 q8
 exact ⟨by omega, by omega, by simpa using q2, by simpa using q3, by simpa using q4, by simpa using q5, by simpa using q6, by simpa using q7, by omega⟩
theorem Fj : ∀ bs : List Nat, bs.flatMap (fun x => [bV x]) = b0 bs
 | [] => rfl
 | b :: l => by rw [QaW, Fj l]; rfl
theorem Fl : ∀ bs : List Nat, (bs.map fun b : Nat => (b : Int)).map (Value.int .u8) = b0 bs
 | [] => rfl
 | b :: l => by rw [QaG, QaG, Fl l]; rfl
def xH (l : List Nat) : ByteArray := (l.map fun b : Nat => (b : Int)).foldl (fun r n => r.push (UInt8.ofNat n.toNat)) ByteArray.empty
section
variable {P : Program} {S : World → Prop} {W0 : World} {N : FSz} {e : aH} {A R : List HP} {t t' : TypeId} {x : Operand} {bs : List Nat} {a : Option Addr} {c n : Nat}
theorem TM {E : TypeId} (hs : P.underlying t = some (.slice E)) (he : P.underlying E = some (.int .u8)) (hd : P.underlying t' = some .string) (hx : ev e x = some (.slice a bs.length c)) (h : bT S a 1 (fun x => [bV x]) bs) :
    aW P S N e (.convert t t' x) (.string (xH bs)) := fun act w _ _ _ _ _ hF hO => by
 have hr : (Conv.bytesToString (.slice a bs.length c)).run P w = .ok (.string (xH bs)) w := by
  cases a with
  | none =>
   have : bs = [] := by
    cases bs with
    | nil => rfl
    | cons b l => obtain ⟨_, _, h0, _⟩ := h 0 b rfl; cases h0
   subst this
   simp [Conv.bytesToString, xH]
  | some ad =>
   have hl : (loadCells ad bs.length).run P w = .ok ((bs.map fun b : Nat => (b : Int)).map (Value.int .u8)).toArray w := by
    by_cases hb : bs = []
    subst hb; simp [loadCells, loadCellsFrom]
    obtain ⟨b, off, hae, hc⟩ := h.all hb (fun _ => rfl)
    cases hae
    rw [Fj] at hc
    have := ul (P := P) (w := w) (vs := b0 bs) (fun i v hi => hc i v hi w hO) bs.length 0 #[] (by simp [ed])
    simp only [loadCells, this, List.drop_zero, Array.empty_append, Fl]
   exact run_bytesToString w ad bs.length c _ hl
 simp only [execOp, hF.eval hx, Sem.run_bind, run_convert_bytes_string w t t' E a bs.length c hs he hd, hr, Result.andThen_ok, Sem.run_pure]
theorem Fo {E : TypeId} (hs : P.underlying t = some (.slice E)) (he : P.underlying E = some (.int .u8)) (hd : P.underlying t' = some .string) (hx : ev e x = some (.slice a n c)) (hn : bs.length = n) (h : bT S a 1 (fun x => [bV x]) bs) :
    aW P S N e (.convert t t' x) (.string (xH bs)) := by grind [TM]
end
structure Sec where
  at_ : Int
  d : ByteArray
instance : Inhabited Sec := ⟨⟨0, ByteArray.empty⟩⟩
structure Inp where
  at_ : Int
  g : Int
  k : Int
  code : Int
  d : ByteArray
instance : Inhabited Inp := ⟨⟨0, 0, 0, 0, ByteArray.empty⟩⟩
theorem Own.step {W0 w w' : World} {A C : List HP} (h : Own W0 w A) (k : Own w w' C) : Own W0 w' (C ++ A) := by
 obtain ⟨lA, sA, nA, mA⟩ := h.owns
 obtain ⟨lC, sC, nC, mC⟩ := k.owns
 have hlt : ∀ p ∈ lA, p.1 < w.heap.size := fun p hp => by
  have := (mA p hp).2
  rcases QaD p.1 w.heap.size with q | q
  exact q
  grind
 refine ⟨k.os.trans h.os, k.tape.trans h.tape, k.output.trans h.output, QaR h.size k.size, fun b hb => (k.base b (Qcd hb h.size)).trans (h.base b hb), lC ++ lA, gE.append.2 ⟨lC, lA, rfl, sC, sA⟩, ?_, fun p hp => ?_⟩
 grind
 rcases Qbc.1 hp with q | q
 exact ⟨QaR h.size (mC p q).1, (mC p q).2⟩
 exact ⟨(mA p q).1, (k.base p.1 (hlt p q)).trans (mA p q).2⟩
theorem AM {W0 W : World} {A : List HP} {b off : Nat} {vs : List Value} (hO : Own W0 W A) (h : aT (aB W0 A) b off vs) : ∀ B, aT (aB W B) b off vs := fun B i v hi => sj (h i v hi W hO)
theorem xI {α : Type} {W0 W : World} {A : List HP} {a : Option Addr} {sz : Nat} {f : α → List Value} {xs : List α} (hO : Own W0 W A) (h : bT (aB W0 A) a sz f xs) : ∀ B, bT (aB W B) a sz f xs := fun B i x hi => by
 obtain ⟨b, off, rfl, hc⟩ := h i x hi
 exact ⟨b, off, rfl, AM hO hc B⟩
section
variable {rd : Option Nat} {P : Program} {S : World → Prop} {W0 : World} {N : FSz} {e : aH} {A B R : List HP}
variable {op : Op} {ty t K E : TypeId} {v z : Value} {b : Nat} {x y u : Operand} {f : Int → Option Value} {k : Int}
end
section
variable {P : Program} {S : World → Prop} {W0 : World} {N : FSz} {e : aH} {A R : List HP} {t t' ty : TypeId} {b off : Nat} {x y : Operand} {l l' : List Value}
theorem Fp {E : TypeId} {k k' : IntKind} (ha : ∀ w, (isAgg E).run P w = .ok false w) (he : P.underlying E = some (.int k')) (D : Nat) (w : World) :
    ∀ (m s : Nat) (ms ns : List Int), ms.length = s + m → ns.length = s + m →
      (Op.eqItems (D + 1) E 1 (ms.map (Value.int k)).toArray (ns.map (Value.int k)).toArray (List.range' s m)).run P w = .ok (ms.drop s == ns.drop s) w
 | 0, s, ms, ns, h1, h2 => by
  rw [show ms.drop s = [] from List.drop_eq_nil_of_le (by omega), show ns.drop s = [] from List.drop_eq_nil_of_le (by omega)]
  simp [Op.eqItems]
 | m + 1, s, ms, ns, h1, h2 => by
  have e1 : (ms.map (Value.int k))[s]? = some (.int k ms[s]) := by grind
  have e2 : (ns.map (Value.int k))[s]? = some (.int k ns[s]) := by grind
  have d1 : ms.drop s = ms[s] :: ms.drop (s + 1) := QaX (by omega)
  have d2 : ns.drop s = ns[s] :: ns.drop (s + 1) := QaX (by omega)
  have ih := Fp (k := k) ha he D w m (s + 1) ms ns (by omega) (by omega)
  rw [List.range'_succ, d1, d2]
  simp only [Op.eqItems, QaA, Sem.run_bind, sh ha e1 w, sh ha e2 w, Result.andThen_ok, run_equalIn_int w D E k k' _ _ he]
  by_cases h : ms[s] = ns[s]
  have hb3 : ((ns[s] :: ms.drop (s + 1)) == (ns[s] :: ns.drop (s + 1))) = (ms.drop (s + 1) == ns.drop (s + 1)) := by
   rw [Qae, Qby, Qby]
   exact ⟨fun q => (List.cons.inj q).2, fun q => by rw [q]⟩
  rw [h, hb3]
  simp only [beq_self_eq_true, Bool.not_true, Qal, QcA]
  exact ih
  have hb : (ms[s] == ns[s]) = false := by simpa using h
  rw [hb]
  have hb2 : ((ms[s] :: ms.drop (s + 1)) == (ns[s] :: ns.drop (s + 1))) = false := by
   grind
  rw [hb2]
  simp
theorem xJ {E n z : Nat} {k k' : IntKind} {i : TypeInfo} {ms ns : List Int} {us vs : List Value} (hu : P.underlying t = some (.array n E)) (hi : P.info? E = some i) (hc : P.cellsOf E = 1) (he : P.underlying E = some (.int k')) (ha : ∀ w, (isAgg E).run P w = .ok false w)
    (h1 : us = ms.map (Value.int k)) (h2 : vs = ns.map (Value.int k)) (l1 : ms.length = n) (l2 : ns.length = n) : lg P (z + 2) t (.agg us.toArray) (.agg vs.toArray) (ms == ns) := fun d w => by
 subst h1; subst h2
 rw [show d + (z + 2) = (d + z + 1) + 1 by omega, run_equalIn_array w (d + z + 1) _ _ hu hi, hc, List.range_eq_range', Fp ha he (d + z) w n 0 ms ns (by omega) (by omega)]
 simp
end
section
variable {W0 : World} {N : FSz} {K : Act → World → Prop} {e : aH} {A R R1 R2 : List HP} {b n c : Nat} {l : List Dsc} {a : Option Addr} {ys : List Value}
end
structure QS where
  r : Rg3
  on : Bool
  br : Int
  last : Nat
  put : Nat
@[reducible] def df : QS := ⟨⟨0, 0, 0, 0⟩, false, 0, 0, 0⟩
abbrev qO (m : Bool) (s : QS) : Obj := a7 [.int .u32 s.r.desc, .int .u32 s.r.avail, .int .u32 s.r.used, .int .i64 s.r.n, .bool s.on, .int .i64 s.br, .int .i64 s.last, .int .i64 s.put, .bool m] 368
theorem TN : sP W0 182 [] R (fun v B => ∃ b, v = pQ b ∧ B = pt b (qO true df) :: R) := by
 refine ab func182 ntmps182 ?_
 refine aS fun b1 => ?_
 refine a8 ?_
 exact ⟨_, ⟨_, rfl, rfl⟩, IO⟩
section
variable {P : Program} {S : World → Prop} {W0 : World} {N : FSz} {e : aH} {A R : List HP} {t t' : TypeId} {x : Operand} {v : Value} {b : Nat} {vs : List Value}
end
structure Dk where
  rs : List Rn
  lb : List Int
  ss : List (List Nat)
section
variable {W0 : World} {N : FSz} {K : Act → World → Prop} {e : aH} {A B R R1 R2 R3 R4 : List HP} {d : Nat} {x : Dk}
end
section
variable {P : Program} {S : World → Prop} {W0 : World} {N : FSz} {e : aH} {A R : List HP} {ty t t' : TypeId} {x y : Operand} {b off : Nat} {l l' vs : List Value}
theorem TO {E sz dn dc sn sc m : Nat} {ay : Option Addr} (hu : P.underlying t = some (.slice E)) (hs : ∀ w, (sizeOf E).run P w = .ok sz w) (hx : ev e x = some (.slice (some ⟨b, off, none⟩) dn dc)) (hy : ev e y = some (.slice ay sn sc))
    [h : Tk pt b A (a7 l ty) R] (hm : Nat.min sn dn = m) (hsrc : m = 0 ∨ ∃ bx ox, ay = some ⟨bx, ox, none⟩ ∧ aT (aB W0 A) bx ox vs) (hl : vs.length = m * sz) (h1 : ec vs = true) (ho : off + m * sz ≤ l.length) (hr : cz l off vs = l') :
    cn P W0 N e A (.call { callee := .builtin .copy, args := #[x, y], argTypes := #[t, t'] }) (fun v B => v = iQ m ∧ B = pt b (a7 l' ty) :: R) := by
 rcases hsrc with rfl | ⟨bx, ox, rfl, hc⟩
 have h0 : vs = [] := QaB (by omega)
 subst h0
 have hr' : l = l' := hr
 subst hr'
 intro a w dst ty' pos af g K Q hF hO k
 have hO' := hO.tk (r := pt) (b := b)
 have hexec : (execOp a.eval { dst := dst, op := .call { callee := .builtin .copy, args := #[x, y], argTypes := #[t, t'] }, type := ty', pos := pos, after := af, guard := g }).run P w = .ok (.value (iQ 0)) w := by
  have hs' : (sizeOf E).run P w = .ok sz w := hs w
  cases ay <;>
  simp only [execOp, resolve, invoke, builtin, Sem.run_bind, Sem.run_pure, Result.andThen_ok, Qcb, QaG, QbO, hF.eval hx, hF.eval hy, Builtin.copy_, Builtin.lenOf, Builtin.firstCells, dU hu, hm, QbT, QbD, Qbv, List.getElem?_cons_succ, hs', loadCells, loadCellsFrom, Nat.zero_mul, storeCells, goInt] <;> rfl
 unfold Oper.wp
 rw [hexec]
 exact k _ w _ ⟨rfl, rfl⟩ hO'
 exact qQ hu hs hx hy hm hc hl h1 ho hr
end
@[reducible] def gW (x : Nat) : List Value := [wV x]
theorem AN (x : Nat) : (gW x).length = 1 := rfl
theorem AO (l : List Nat) : l.flatMap gW = l.map wV := Sd wV l
def aR (ws : List Nat) (p : Nat) : List Nat := ws.take (16 * p)
theorem vj (ws : List Nat) (p : Nat) : (aR ws p).length = min (16 * p) ws.length := by rw [aR, QaP]
theorem AP (a b : Nat) : (if (b : Int) < (a : Int) then (b : Int) else (a : Int)) = ((min a b : Nat) : Int) := by
 omega
theorem Fq {p : Nat} (h : p ≤ 8) : (if (8 : Int) < (p : Int) then (8 : Int) else (p : Int)) = (p : Int) := by rw [Qac (by omega)]
theorem TP (a : Nat) : (if (a : Int) > (0 : Int) then (a : Int) else (0 : Int)) = (a : Int) := by
 omega
theorem Fs (a : Option Addr) (c p : Nat) (ws : List Nat) (hs : bT (aB W0 R) a 1 gW ws) (hp : p ≤ 8) (hn : ws.length < 9223372036854775808) : sP W0 87 [.slice a ws.length c, iQ p] R (fun v B => ∃ g, v = .slice (some ⟨g, 0, none⟩) (aR ws p).length (aR ws p).length ∧ B = pt g (a7 ((aR ws p).map wV) 46) :: R) := by
 have hl := vj ws p
 have hsrc := (hs.take (16 * p)).src AN (fun _ => trivial)
 rw [AO] at hsrc
 refine ab func87 ntmps87 ?_
 refine a6 (pA rfl rfl (Fq hp)) ?_
 refine a6 (rq rfl rfl (TP p)) ?_
 refine gJ 3 (kK (16 * p)) ?_
 refine dO (fun m : Nat => m = (aR ws p).length) (fun m => [(0, .slice a ws.length c), (5, iQ m)]) (fun _ => R) ?_ ?_
 refine au 8 ?_
 refine ag (fun c2 => ?_) fun c2 => ?_
 exact cu ws.length (by omega)
 exact cu (16 * p) (by omega)
 intro m hm
 refine aw ?_
 refine d7 (qP (sz := 1) (by_ := 4) (info := Tryz.t46) qt (by kernel_rfl) rfl rfl rfl rfl (by decide) rfl rfl rfl rfl (by omega) (by decide)) fun g => ?_
 refine am rfl (TO qt bF rfl rfl (m := m) (vs := (aR ws p).map wV) (Nat.min_eq_right (by omega)) (by
       rcases hsrc with h | ⟨b, o, h1, h2⟩
       · left; rw [hm, aR, h]; rfl
       right; exact ⟨b, o, h1, h2.weak⟩) (by rw [Qax, hm]; omega) (by simp [ec, wV, Value.oneCell']) (by rw [Qbq]; omega) (by have := uk ((aR ws p).map wV) (List.replicate (m * 1) (.int .u32 0)) [] (by rw [Qax, Qbq, hm]; omega); simpa using this)) ?_
 rintro _ B_ ⟨rfl, hB_⟩
 obtain rfl := hB_.symm
 refine aw ?_
 refine a8 ?_
 subst hm
 exact ⟨_, ⟨g, rfl, rfl⟩, IO⟩
def jP (n i : Nat) : Nat := min n (i * 16)
theorem Ft (ws : List Nat) (i : Nat) : (dp ws i).length = min ws.length (jP ws.length i + 16) - jP ws.length i := by
 rw [dp, QaP, Qcv, jP]; omega
theorem TQ (a : Option Addr) (c n i : Nat) (ws : List Nat) (hn : ws.length = n) (hc : n ≤ c) (hi : i < 8) (h63 : n ≤ 1000) : sQ W0 174 [.slice a n c, iQ i] R (.slice (jc a c (jP n i) 1) (dp ws i).length (c - jP n i)) R := by
 have hl := Ft ws i
 rw [hn] at hl
 have hF : jP n i = min n (i * 16) := rfl
 refine ab func174 ntmps174 ?_
 refine a6 (kK (i * 16)) ?_
 refine a6 (pA rfl rfl (AP n (i * 16))) ?_
 refine a6 (dG (jP n i + 16)) ?_
 refine a6 (pA rfl rfl (AP n (jP n i + 16))) ?_
 refine a6 (Sk qt bF rfl rfl rfl rfl rfl (by omega) (by omega)) ?_
 refine a8 ?_
 rw [hl]
 exact aj
theorem TR {S : World → Prop} {a : Option Addr} {c i : Nat} {ws : List Nat} (h : bT S a 1 gW ws) (hc : ws.length ≤ c) : bT S (jc a c (jP ws.length i) 1) 1 gW (dp ws i) := by
 have hk : jP ws.length i + (dp ws i).length ≤ ws.length := by
  grind [Ft, jP]
 have := h.sub hk hc
 have e : (ws.drop (jP ws.length i)).take (dp ws i).length = dp ws i := by
  have hF : jP ws.length i = min ws.length (i * 16) := rfl
  rcases QaD ws.length (i * 16) with q | q
  grind [dp, List.drop_of_length_le]
  grind [jP, dp]
 rwa [e] at this
theorem TS (pb ps : Nat) (po : Po) (h0 : 0 < po.length) : sQ W0 22 [pQ pb, iQ (-1), iQ 0] (dk pb (ps, po) :: R) (iQ 1) (dk pb (ps, po) :: R) := by
 have hi : dR po.length (-1) = false := by simp [dR]
 refine ab func22 ntmps22 ?_
 refine ac (ah Cq (xz pb ps po h0)) ?_
 refine ac (ah call81 (EU pb ps po (-1))) ?_
 refine ag (fun c3 => ?_) fun c3 => ?_
 exact a8 aj
 exact absurd (by simp [hi]) c3
theorem TT (b : Nat) (pg : List Pl) (h : Pgs pg) : sQ W0 129 [pQ b, iQ (-1)] (pt b (bI pg) :: R) (iQ 1) (pt b (bI pg) :: R) := by
 refine ab func129 ntmps129 ?_
 refine ac (ah Ck (wU b pg h)) ?_
 refine ac (ao Cj (wW (-1))) ?_
 refine ag (fun c3 => ?_) fun c3 => ?_
 exact a8 aj
 exact absurd c3 (by decide)
theorem TU (pb ps pm : Nat) (x : Im) (h : ImOk x) (h0 : 0 < x.fr.length) : sQ W0 257 [pQ pb, pQ ps, pQ pm] (dk pb (ps, x.po) :: bj ps x.fr :: pt pm (bI x.pg) :: R) (.bool true) (dk pb (ps, x.po) :: bj ps x.fr :: pt pm (bI x.pg) :: R) := by
 have hl := h.len
 refine ab func257 ntmps257 ?_
 refine ac (ah IM (TS pb ps x.po (by omega))) ?_
 refine cM (fun g1_4 => ?_) fun g1_4 => ?_
 refine ac (ah ua (qX ps x.fr)) ?_
 refine j8 rfl rfl rfl (fun g1_9 => ?_) fun g1_9 => ?_
 refine au 2 ?_
 refine ac (ah call129 (TT pm x.pg h.pg)) ?_
 exact a8 aj
 omega
 exact absurd (by decide) g1_4
theorem TV (pm : Nat) (pg : List Pl) (h : Pgs pg) (n : Nat) (hn : n ≤ 8) (hf : oD pg 0 n) : sQ W0 258 [pQ pm, iQ n] (pt pm (bI pg) :: R) (.bool true) (pt pm (bI pg) :: R) := by
 refine ab func258 ntmps258 ?_
 refine cK (fun i : Nat => i ≤ n) (fun i => [(0, pQ pm), (8, iQ n), (9, iQ i)]) (fun _ => pt pm (bI pg) :: R) (fun i => n - i) 0 ?_ ?_
 omega
 intro i hi
 refine aw ?_
 refine ag (fun c2 => ?_) fun c2 => ?_
 refine ac (ah z8 (uL pm pg h i)) ?_
 refine bu fun bx => ?_
 refine ax aC ?_
 refine ag (fun c5 => ?_) fun c5 => ?_
 exact absurd c5 (by rw [hf i (QaU _) (by omega)]; decide)
 refine a6 bS ?_
 exact bE (i + 1) (by omega)
 exact a8 aj
theorem TW (pb ps pm who n : Nat) (x : Im) (h : ImOk x) (h0 : 0 < x.fr.length) (hw : who < 16) (h1 : 1 ≤ n) (h8 : n ≤ 8) (hf : oD x.pg 0 n) (hl : n ≤ (bP x.po who).length) : sQ W0 172 [pQ pb, pQ ps, pQ pm, iQ who, iQ n] (dk pb (ps, x.po) :: bj ps x.fr :: pt pm (bI x.pg) :: R) (iQ 0) (dk pb (ps, x.po) :: bj ps x.fr :: pt pm (bI x.pg) :: R) := by
 have hle := h.len
 refine ab func172 ntmps172 ?_
 refine dK 4 (dQ call257 (TU pb ps pm x h h0)) ?_
 refine i5 ?_
 refine aA rfl (fun c3 => ?_) fun c3 => ?_
 omega
 refine aw ?_
 refine aA rfl (fun c4 => ?_) fun c4 => ?_
 omega
 refine aw ?_
 refine aA rfl (fun c5 => ?_) fun c5 => ?_
 omega
 refine aw ?_
 refine aA rfl (fun c6 => ?_) fun c6 => ?_
 omega
 refine aw ?_
 refine dK 4 (ah call258 (TV pm x.pg h.pg n h8 hf)) ?_
 refine i5 ?_
 refine dK 5 (ah call259 (SN pb ps x.po who (by omega) hw)) ?_
 refine aA rfl (fun c10 => ?_) fun c10 => ?_
 omega
 refine aw ?_
 exact a8 aj
theorem Fu {pg : List Pl} {i f : Nat} (hi : i < 8) (hf : f < 32) (ht : aX pg (i : Nat) = false) : eB pg i ((f : Int), 3) = 0 := by
 grind [eB, jI, jv]
theorem TX (b6 b9 b14 b7 b8 g pb ps pm who i f : Nat) (l : List Nat) (x : Im) (h : ImOk x) (ws : List Nat) (hw : who < 16) (hi : i < 8) (he : bP x.po who = f :: l) (ht : aX x.pg (i : Nat) = false) (hb : ∀ y ∈ ws, y < 4294967296) (hN : ws.length ≤ 128) : sQ W0 173 ([] ++ [iQ i] ++ [pQ b6, pQ b9, pQ b14, pQ b7, pQ b8]) (pt b6 (a7 [pQ pb] 61) :: pt b9 (a7 [iQ who] 3) :: pt b14 (a7 [.slice (some ⟨g, 0, none⟩) ws.length ws.length] 29) :: pt b7 (a7 [pQ ps] 55) :: pt b8 (a7 [pQ pm] 118) :: pt g (a7 (ws.map wV) 46) :: dk pb (ps, x.po) :: bj ps x.fr :: pt pm (bI x.pg) :: R) (iQ 0) (pt b6 (a7 [pQ pb] 61) :: pt b9 (a7 [iQ who] 3) :: pt b14 (a7 [.slice (some ⟨g, 0, none⟩) ws.length ws.length] 29) :: pt b7 (a7 [pQ ps] 55) :: pt b8 (a7 [pQ pm] 118) :: pt g (a7 (ws.map wV) 46) :: dk pb (ps, (iD who ws x i).po) :: bj ps (iD who ws x i).fr :: pt pm (bI (iD who ws x i).pg) :: R) := by
 have hf := kv.1 (show f ∈ bP x.po who by rw [he]; simp)
 have hpl := h.po.len
 have hst : iD who ws x i = ⟨fW f (dp ws i) 0 x.fr, x.po.set f ((who : Int), true), dA x.pg i ((f : Int), 3)⟩ := by rw [iD, he]
 rw [hst]
 have hpgb : ∀ y ∈ dp ws i, y < 4294967296 := fun y hy => hb y (List.mem_of_mem_drop (QbK hy))
 have hpl16 : (dp ws i).length ≤ 16 := by grind [dp]
 simp only [Qat, Qaw]
 refine ab func173 ntmps173 ?_
 refine dK 14 (ah call125 (SO pb ps x.po who f l hw h.po he)) ?_
 refine i5 ?_
 refine dK 5 (ao call174 (TQ (some ⟨g, 0, none⟩) ws.length ws.length i ws rfl (Qap _) hi (by omega))) ?_
 refine fQ (fun k : Nat => k ≤ (dp ws i).length) (fun k => [(0, iQ i), (4, pQ b7), (5, pQ b8), (8, iQ f), (23, .slice (jc (some ⟨g, 0, none⟩) ws.length (jP ws.length i) 1) (dp ws i).length (ws.length - jP ws.length i)), (24, iQ (dp ws i).length), (25, iQ k)]) (fun k => pt b6 (a7 [pQ pb] 61) :: pt b9 (a7 [iQ who] 3) :: pt b14 (a7 [.slice (some ⟨g, 0, none⟩) ws.length ws.length] 29) :: pt b7 (a7 [pQ ps] 55) :: pt b8 (a7 [pQ pm] 118) :: pt g (a7 (ws.map wV) 46) :: dk pb (ps, x.po.set f ((who : Int), true)) :: bj ps (fW f ((dp ws i).take k) 0 x.fr) :: pt pm (bI x.pg) :: R) (fun k => (dp ws i).length - k) 0 ?_ ?_ ?_ ?_
 omega
 · repeat (first | exact ci | refine bQ rfl ?_)
 rw [show fW f ((dp ws i).take 0) 0 x.fr = x.fr from rfl]
 exact IO
 intro k hk
 refine aw ?_
 refine ag (fun c5 => ?_) fun c5 => ?_
 have hk1 : k < (dp ws i).length := by omega
 have hsl : bT (aB W0 (pt b6 (a7 [pQ pb] 61) :: pt b9 (a7 [iQ who] 3) :: pt b14 (a7 [.slice (some ⟨g, 0, none⟩) ws.length ws.length] 29) :: pt b7 (a7 [pQ ps] 55) :: pt b8 (a7 [pQ pm] 118) :: pt g (a7 (ws.map wV) 46) :: dk pb (ps, x.po.set f ((who : Int), true)) :: bj ps (fW f ((dp ws i).take k) 0 x.fr) :: pt pm (bI x.pg) :: R)) (some ⟨g, 0, none⟩) 1 gW ws := qR (b := g) AN (AO ws).symm
 obtain ⟨gb, go, hga, hc⟩ := (TR (i := i) hsl (Qap _)).at_ hk1
 obtain ⟨y, hy⟩ : ∃ y, (dp ws i)[k] = y := ⟨_, rfl⟩
 rw [hy] at hc
 have hyb := hpgb _ (QaK hk1)
 rw [hy] at hyb
 have htk : (dp ws i).take (k + 1) = (dp ws i).take k ++ [y] := by grind [Qan]
 obtain ⟨hF, hFl⟩ := rn (f := f) (l := (dp ws i).take k) (k := 0) h.fr
 have hs0 := Ar f y ((dp ws i).take k) 0 x.fr
 rw [← htk, QaP, Qbt (by omega), Qab] at hs0
 refine a6 (dH qt bF rfl hga rfl rfl hk1 (by first | exact Qab _ | rfl)) ?_
 refine a6 (aG (hc 0 _ rfl)) ?_
 refine a6 (kK (4 * k)) ?_
 refine ac (ah IC (A4 ps (fW f ((dp ws i).take k) 0 x.fr) f (4 * k : Nat) 4 y hyb hF)) ?_
 refine a6 bS ?_
 refine bE (k + 1) ?_ (he := ?_)
 omega
 rw [hs0]
 exact IO
 obtain rfl : k = (dp ws i).length := by omega
 rw [QaO (Qap _)]
 refine ac (ah call126 (E5 pm x.pg h.pg i ((f : Int), 3))) ?_
 refine a8 ?_
 rw [Fu hi (by omega) ht]
 exact aj
theorem TY (pb ps pm who n : Nat) (x : Im) (h : ImOk x) (h0 : 0 < x.fr.length) (a : Option Addr) (c : Nat) (ws : List Nat) (hw : who < 16) (h1 : 1 ≤ n) (h8 : n ≤ 8) (hf : oD x.pg 0 8) (hl : n ≤ (bP x.po who).length) (hs : ∀ A, Ent A R → bT (aB W0 A) a 1 gW ws) (hb : ∀ y ∈ ws, y < 4294967296) (hn : ws.length < 9223372036854775808) : sQ W0 88 [pQ pb, pQ ps, pQ pm, iQ who, iQ n, .slice a ws.length c] (dk pb (ps, x.po) :: bj ps x.fr :: pt pm (bI x.pg) :: R) (iQ 0) (dk pb (ps, (cD who (aR ws n) n x).po) :: bj ps (cD who (aR ws n) n x).fr :: pt pm (bI (cD who (aR ws n) n x).pg) :: R) := by
 have hlen := vj ws n
 have hcb : ∀ y ∈ aR ws n, y < 4294967296 := fun y hy => hb y (QbK hy)
 have hok : ∀ i, ImOk (cD who (aR ws n) i x) := fun i => rp hw h
 have hfl : ∀ i, (cD who (aR ws n) i x).fr.length = x.fr.length := fun i => by
  induction i with
  | zero => rfl
  | succ i ih =>
   rw [cD, iD]
   split
   rw [(rn (hok i).fr).2]; exact ih
   exact ih
 refine ab func88 ntmps88 ?_
 refine d7 (iw rfl rfl) fun b6 => ?_
 refine d7 (iw rfl rfl) fun b7 => ?_
 refine d7 (iw rfl rfl) fun b8 => ?_
 refine d7 (iw rfl rfl) fun b9 => ?_
 refine dK 9 (dQ call172 (TW pb ps pm who n x h h0 hw h1 h8 (fun i q1 q2 => hf i q1 (by omega)) hl)) ?_
 refine i5 ?_
 refine am rfl (ao call87 (Fs a c n ws (hs _ inferInstance) h8 hn)) ?_
 rintro _ B_ ⟨g, rfl, hB_⟩
 obtain rfl := hB_.symm
 refine d7 (o8 zeroValue29 rfl) fun b14 => ?_
 refine ax dy ?_
 refine fQ (fun i : Nat => i ≤ n) (fun i => [(15, .func (.func 173) #[] #[pQ b6, pQ b9, pQ b14, pQ b7, pQ b8]), (31, iQ n), (32, iQ i)]) (fun i => pt b6 (a7 [pQ pb] 61) :: pt b9 (a7 [iQ who] 3) :: pt b14 (a7 [.slice (some ⟨g, 0, none⟩) (aR ws n).length (aR ws n).length] 29) :: pt b7 (a7 [pQ ps] 55) :: pt b8 (a7 [pQ pm] 118) :: pt g (a7 ((aR ws n).map wV) 46) :: dk pb (ps, (cD who (aR ws n) i x).po) :: bj ps (cD who (aR ws n) i x).fr :: pt pm (bI (cD who (aR ws n) i x).pg) :: R) (fun i => n - i) 0 ?_ ?_ ?_ ?_
 omega
 · repeat (first | exact ci | refine bQ rfl ?_)
 rw [show cD who (aR ws n) 0 x = x from rfl]
 exact IO
 intro i hi
 refine aw ?_
 refine ag (fun c7 => ?_) fun c7 => ?_
 have hin : i < n := by omega
 have hfr := xn (who := who) (words := aR ws n) (x := x) i
 have hpg := (xo (who := who) (words := aR ws n) hf h.pg.len i (by omega)).1
 obtain ⟨f, l, he⟩ : ∃ f l, bP (cD who (aR ws n) i x).po who = f :: l := by
  cases e : bP (cD who (aR ws n) i x).po who with
  | nil => rw [e] at hfr; simp at hfr; omega
  | cons f l => exact ⟨f, l, rfl⟩
 refine dK 9 (gx (us := []) (cs := [pQ b6, pQ b9, pQ b14, pQ b7, pQ b8]) rfl call173 rfl (TX b6 b9 b14 b7 b8 g pb ps pm who i f l (cD who (aR ws n) i x) (hok i) (aR ws n) hw (by omega) he (hpg i (Qap _) (by omega)) hcb (by omega))) ?_
 refine i5 ?_
 refine gJ 3 bS ?_
 exact bE (i + 1) (by omega)
 refine a8 ?_
 obtain rfl : i = n := by omega
 exact aj
@[reducible] def i7 (x : Int × Bool) : List Value := [.int .i64 x.1]
@[reducible] def i9 (x : Int × Bool) : List Value := [.bool x.2]
def du (pb : Nat) (x : Nat × Po) : HP := chk (fun C => ∃ a c a2 c2, C = [pt pb (a7 [.pointer (some ⟨x.1, 0, none⟩), .slice a x.2.length c, .slice a2 x.2.length c2] 181), osl 3 1 (.slice a x.2.length c) (x.2.flatMap i7), osl 4 1 (.slice a2 x.2.length c2) (x.2.flatMap i9)])
section
variable {P : Program} {W0 : World} {N : FSz} {K : Act → World → Prop} {e : aH} {A B R R1 R2 R3 : List HP} {pb ps n : Nat} {po : Po} {f : FuncId} {args : List Value} {Post : Value → List HP → Prop}
theorem xK (po : Po) : (po.flatMap i7).length = po.length := by rw [cj (k := 1) (fun _ => rfl)]; omega
theorem xL (po : Po) : (po.flatMap i9).length = po.length := by rw [cj (k := 1) (fun _ => rfl)]; omega
theorem Fv [hk : Tk du pb A (ps, po) R] (h : ∀ a c a2 c2, ai W0 N K e (pt pb (a7 [pQ ps, .slice a po.length c, .slice a2 po.length c2] 181) :: osl 3 1 (.slice a po.length c) (po.flatMap i7) :: osl 4 1 (.slice a2 po.length c2) (po.flatMap i9) :: R)) : ai W0 N K e A :=
  fJ (r := du) (b := pb) (lP fun C hC => by obtain ⟨a, c, a2, c2, rfl⟩ := hC; exact h a c a2 c2)
theorem Fw {a a2 : Option Addr} {c c2 n2 : Nat} {xs ys : List Value} [h1 : Tk pt pb A (a7 [pQ ps, .slice a n c, .slice a2 n2 c2] 181) R1] [h2 : Tk (osl 3 1) (.slice a n c) R1 xs R2] [h3 : Tk (osl 4 1) (.slice a2 n2 c2) R2 ys R3]
    (hn : n = po.length) (hn2 : n2 = po.length) (hx : xs = po.flatMap i7) (hy : ys = po.flatMap i9) [k : Ent R3 B] : Ent A (du pb (ps, po) :: B) := by
 subst hn; subst hn2; subst hx; subst hy
 exact (Ent.ofPerm (h1.perm.trans ((h2.perm.trans (h3.perm.cons _)).cons _))).trans ((Ent.cons (Ent.cons (Ent.cons k))).trans (en (R := B) (C := [_, _, _]) ⟨a, c, a2, c2, rfl⟩))
theorem AQ [hk : Tk du pb A (ps, po) R] (h0 : 0 < po.length) (h : ∀ g c g2 c2 sp sp2, po.length ≤ c → c ≤ maxLen → (po.flatMap i7 ++ sp).length = c * 1 → po.length ≤ c2 → c2 ≤ maxLen → (po.flatMap i9 ++ sp2).length = c2 * 1 →
    ai W0 N K e (pt pb (a7 [pQ ps, .slice (some ⟨g, 0, none⟩) po.length c, .slice (some ⟨g2, 0, none⟩) po.length c2] 181) :: pt g (a7 (po.flatMap i7 ++ sp) 3) :: pt g2 (a7 (po.flatMap i9 ++ sp2) 4) :: R)) : ai W0 N K e A := by
 refine Fv (pb := pb) fun a c a2 c2 => ?_
 refine fJ (r := osl 3 1) (b := .slice a po.length c) ?_
 refine kc (fun h1 h2 => by have := Qah List.length h2; rw [xK, QbB] at this; omega) fun g n cap sp h1 h2 h3 h4 h5 => ?_
 cases h1
 refine fJ (r := osl 4 1) (b := .slice a2 po.length c2) ?_
 refine kc (fun h1 h2 => by have := Qah List.length h2; rw [xL, QbB] at this; omega) fun g2 n2 cap2 sp2 k1 k2 k3 k4 k5 => ?_
 cases k1
 exact fF inferInstance (h g c g2 c2 sp sp2 h2 h3 h5 k2 k3 k5)
theorem nG {g g2 c c2 n2 : Nat} {xs ys sp sp2 : List Value} [h1 : Tk pt pb A (a7 [pQ ps, .slice (some ⟨g, 0, none⟩) n c, .slice (some ⟨g2, 0, none⟩) n2 c2] 181) R1] [h2 : Tk pt g R1 (a7 (xs ++ sp) 3) R2] [h3 : Tk pt g2 R2 (a7 (ys ++ sp2) 4) R3]
    (hn : n = po.length) (hn2 : n2 = po.length) (hx : xs = po.flatMap i7) (hy : ys = po.flatMap i9) (a1 : n ≤ c) (a2 : c ≤ maxLen) (a3 : (xs ++ sp).length = c * 1) (b1 : n2 ≤ c2) (b2 : c2 ≤ maxLen) (b3 : (ys ++ sp2).length = c2 * 1) [k : Ent R3 B] : Ent A (du pb (ps, po) :: B) := by
 have e3 : Ent R2 (osl 4 1 (.slice (some ⟨g2, 0, none⟩) n2 c2) ys :: B) := ez b1 b2 (by grind [xL]) b3
 have e2 : Ent R1 (osl 3 1 (.slice (some ⟨g, 0, none⟩) n c) xs :: osl 4 1 (.slice (some ⟨g2, 0, none⟩) n2 c2) ys :: B) := ez (k := e3) a1 a2 (by grind [xK]) a3
 refine (Ent.ofPerm h1.perm).trans ((Ent.cons e2).trans ?_)
 exact Fw hn hn2 hx hy
end
theorem xM {po : Po} {sp : List Value} {i : Nat} (hi : i < po.length) : (po.flatMap i7 ++ sp)[i * 1]? = some (iQ (cV po i).1) := by
 have := lj (f := i7) (k := 1) (fun _ => rfl) po i 0 sp hi (by decide)
 rw [Qbx] at this
 rw [this]; simp [i7, cV, List.getD, hi]
theorem AR {po : Po} {sp : List Value} {i : Nat} (hi : i < po.length) : (po.flatMap i9 ++ sp)[i * 1]? = some (.bool (cV po i).2) := by
 have := lj (f := i9) (k := 1) (fun _ => rfl) po i 0 sp hi (by decide)
 rw [Qbx] at this
 rw [this]; simp [i9, cV, List.getD, hi]
theorem Fx {po : Po} {sp : List Value} {i : Nat} {v : Int} {t : Bool} (hi : i < po.length) : (po.flatMap i7 ++ sp).set (i * 1) (iQ v) = (po.set i (v, t)).flatMap i7 ++ sp := by
 have := mW (f := i7) (k := 1) (fun _ => rfl) po i 0 (iQ v) (v, t) sp hi (by decide) (by simp [i7])
 rwa [Qbx] at this
theorem Fy {po : Po} {sp : List Value} {i : Nat} {v : Int} {t : Bool} (hi : i < po.length) : (po.flatMap i9 ++ sp).set (i * 1) (.bool t) = (po.set i (v, t)).flatMap i9 ++ sp := by
 have := mW (f := i9) (k := 1) (fun _ => rfl) po i 0 (.bool t) (v, t) sp hi (by decide) (by simp [i9])
 rwa [Qbx] at this
theorem TZ {po : Po} {i : Nat} {t : Bool} (hi : i < po.length) : (po.set i ((cV po i).1, t)).flatMap i7 = po.flatMap i7 := by
 have h := Fx (po := po) (sp := []) (i := i) (v := (cV po i).1) (t := t) hi
 rw [Qav, Qav, QaA] at h
 rw [← h]
 refine xu ?_
 have := xM (po := po) (sp := []) hi
 rwa [Qav, QaA] at this
theorem U0 {po : Po} {i : Nat} {v : Int} (hi : i < po.length) : (po.set i (v, (cV po i).2)).flatMap i9 = po.flatMap i9 := by
 have h := Fy (po := po) (sp := []) (i := i) (v := v) (t := (cV po i).2) hi
 rw [Qav, Qav, QaA] at h
 rw [← h]
 refine xu ?_
 have := AR (po := po) (sp := []) hi
 rwa [Qav, QaA] at this
theorem U1 (qs : Nat) (fr : List ap) (f : Nat) (hf : f < fr.length) : sQ W0 85 [pQ qs, iQ f] (cX qs fr :: R) (iQ 0) (cX qs (fr.set f bX) :: R) := by
 have hi : dR fr.length f = true := by grind [dR]
 refine ab func85 ntmps85 ?_
 refine ac (ah za (uQ qs fr f)) ?_
 refine aA rfl (fun c1 => ?_) fun c1 => ?_
 exact absurd c1 (by simp [hi])
 refine au 3 ?_
 refine wY (qs := qs) hf fun a c vs vi hv hvi => ?_
 refine sN (E := 130) (sz := 1) (v := .slice a fr.length c) (fun h1 h2 => by have := (Value.slice.inj h1).2.1; omega) fun g n c' sp h1 h2 h3 h4 h5 => ?_
 cases h1
 refine bB [qs] 8 fun hS => ?_
 refine ae 0 5 hS ?_
 refine cg 5 (qP (sz := 1) (by_ := 1) (info := Tryz.t5) jE (by kernel_rfl) rfl rfl rfl rfl (by decide) rfl rfl rfl rfl (by decide) (by decide)) ?_; clear hS
 rintro _ _ ⟨g3, rfl, rfl⟩
 refine ⟨aK, fun hS => ?_⟩
 refine av 6 hS (bA hf) ?_
 refine cq 7 (dx (by omega) (by rw [QaA, QbX _ _ (by omega)])) fun hS => ?_
 refine aI ?_
 refine a8 ?_
 exact ⟨_, ⟨rfl, rfl⟩, A9 (vs := vs) (vi := .slice (some ⟨g3, 0, none⟩) 64 64) (y := bX) (sp2 := []) rfl rfl rfl hv rfl hf h2 h3 (by grind) (by decide) (by decide) rfl rfl⟩
theorem U2 (n : Nat) : (List.replicate n ((-1 : Int), false)).flatMap i7 ++ [[Value.int .i64 (-1)]].flatten = (List.replicate (n + 1) ((-1 : Int), false)).flatMap i7 := by
 grind [Qbw]
theorem U3 (n : Nat) : (List.replicate n ((-1 : Int), false)).flatMap i9 ++ [[Value.bool false]].flatten = (List.replicate (n + 1) ((-1 : Int), false)).flatMap i9 := by
 grind [Qbw]
section
variable {A B R R2 : List HP} {qs n c : Nat} {a : Option Addr} {fr : List ap} {vs : List Value}
theorem Fz {x : HP} (hv : vs.length = fr.length) : Ent (pt qs (a7 [.slice a fr.length c] 129) :: osl 130 1 (.slice a fr.length c) vs :: ((vs.zip fr).map dB ++ (x :: R))) (cX qs fr :: x :: R) := pG (vs := vs) hv rfl
theorem U4 {x : HP} (hv : vs.length = fr.length) : Ent (pt qs (a7 [.slice a fr.length c] 129) :: osl 130 1 (.slice a fr.length c) vs :: ((vs.zip fr).map dB ++ (x :: R))) (x :: cX qs fr :: R) := (Fz hv).trans (Ent.ofPerm (List.Perm.swap _ _ _))
end
theorem U5 {B : List HP} {pb ps : Nat} : Ent (pt pb (a7 [pQ ps, dm, dm] 181) :: B) (du pb (ps, []) :: B) :=
  (Ent.cons (eH (E := 3) (sz := 1) (k := eH (E := 4) (sz := 1) (A := B) (B := B)))).trans (en (R := B) (C := [_, _, _]) ⟨none, 0, none, 0, rfl⟩)
theorem AS (qs : Nat) (fr : List ap) (h0 : 0 < fr.length) (h32 : fr.length ≤ 32) : sP W0 20 [pQ qs] (cX qs fr :: R) (fun v B => ∃ pb, v = .tuple #[pQ pb, iQ 0] ∧ B = du pb (qs, List.replicate fr.length (-1, false)) :: cX qs fr :: R) := by
 refine ab func20 ntmps20 ?_
 refine r9 (qs := qs) fun a c vs hv => ?_
 refine aw ?_
 refine cR rfl rfl rfl (fun g1_3 => ?_) fun g1_3 => ?_
 cases g1_3
 refine aw ?_
 refine aA rfl (fun c1 => ?_) fun c1 => ?_
 omega
 refine aw ?_
 refine aS fun pb => ?_
 refine fQ (fun X : Nat => X ≤ fr.length) (fun X => [(0, pQ qs), (4, pQ pb), (5, iQ X)]) (fun X => du pb (qs, List.replicate X (-1, false)) :: cX qs fr :: R) (fun X => fr.length - X) 0 ?_ ?_ ?_ ?_
 omega
 · repeat (first | exact ci | refine bQ rfl ?_)
 exact (Ent.cons (pG (vs := vs) hv rfl)).trans U5
 intro i hi
 refine aw ?_
 refine r9 (qs := qs) fun a c vs hv => ?_
 refine aw ?_
 refine ag (fun c5 => ?_) fun c5 => ?_
 refine fF (B := cX qs fr :: du pb (qs, List.replicate i (-1, false)) :: R) (Fz hv) ?_
 refine Fv (pb := pb) fun a c a2 c2 => ?_
 refine aw ?_
 refine d7 (jG fe aO me rfl rfl rfl rfl rfl (by decide) (by decide)) fun b2 => ?_
 refine am rfl (eI (sz := 1) (by_ := 8) (info := Tryz.t3) fe (by kernel_rfl) rfl rfl rfl rfl (by decide) rfl rfl eA rfl rfl (by simp only [maxLen, Qbq]; omega) (by grind)) ?_
 rintro _ _ ⟨a3, c3, rfl, rfl⟩
 refine aw ?_
 refine ax dy ?_
 refine d7 (jG Ij jZ IF rfl rfl rfl rfl rfl (by decide) (by decide)) fun b3 => ?_
 refine am rfl (eI (sz := 1) (by_ := 1) (info := Tryz.t4) Ij (by kernel_rfl) rfl rfl rfl rfl (by decide) rfl rfl eA rfl rfl (by simp only [maxLen, Qbq]; omega) (by grind)) ?_
 rintro _ _ ⟨a4, c4, rfl, rfl⟩
 refine aw ?_
 refine ax dy ?_
 refine a6 bS ?_
 refine bE (i + 1) ?_ (he := ?_)
 omega
 grind [Fw, U2, U3]
 refine az ?_
 obtain rfl : i = fr.length := by omega
 exact ⟨_, ⟨pb, rfl, rfl⟩, U4 hv⟩
theorem U6 {po : Po} {sp : List Value} {i : Nat} (hi : i < po.length) : i * 1 + 1 ≤ (po.flatMap i7 ++ sp).length := by rw [Qad, xK]; omega
theorem U7 {po : Po} {sp : List Value} {i : Nat} (hi : i < po.length) : i * 1 + 1 ≤ (po.flatMap i9 ++ sp).length := by rw [Qad, xL]; omega
theorem FA (pb qs : Nat) (po : Po) (fr : List ap) (f w : Nat) (hf : f < po.length) (hff : f < fr.length) (hw : w < 16) (ha : cV po f = (-1, false)) : sQ W0 23 [pQ pb, iQ f, iQ w] (du pb (qs, po) :: cX qs fr :: R) (iQ 0) (du pb (qs, po.set f ((w : Int), false)) :: cX qs (fr.set f bX) :: R) := by
 have hi : dR fr.length f = true := by grind [dR]
 have hts : (po.set f ((w : Int), false)).flatMap i9 = po.flatMap i9 := by
  grind [U0]
 refine ab func23 ntmps23 ?_
 refine AQ (pb := pb) (by omega) fun g c g2 c2 sp sp2 h1 h2 h3 k1 k2 k3 => ?_
 refine aw ?_
 refine ac (ah za (uQ qs fr f)) ?_
 refine cA (fun g1_8 => ?_) fun g1_8 => ?_
 exact absurd g1_8 (by simp [hi])
 refine cR rfl rfl rfl (fun g1_12 => ?_) fun g1_12 => ?_
 omega
 refine aw ?_
 refine aA rfl (fun c1 => ?_) fun c1 => ?_
 omega
 refine aw ?_
 refine a6 (bA hf) ?_
 refine a6 (aG (aF (xM hf))) ?_
 refine ag (fun c3 => ?_) fun c3 => ?_
 exact absurd c3 (by rw [ha]; decide)
 refine a6 (bA hf) ?_
 refine ax (dx (U6 hf) (Fx (t := false) hf)) ?_
 refine ac (ah call85 (U1 qs fr f hff)) ?_
 refine a8 ?_
 exact ⟨_, ⟨rfl, rfl⟩, nG (by simp) (by simp) rfl hts.symm h1 h2 (by grind [Qad, xK]) k1 k2 k3⟩
def lZ (po : Po) (w : Int) (k : Nat) : Nat := ((List.range k).filter fun f => decide (cV po f = (w, false))).length
theorem FB (po : Po) (w : Nat) : lZ po w po.length = (bP po w).length := by
 grind [lZ, bP]
theorem U8 (po : Po) (w : Int) (k : Nat) : lZ po w (k + 1) = lZ po w k + if cV po k = (w, false) then 1 else 0 := by
 grind [lZ, List.range_succ]
theorem U9 (po : Po) (w : Int) (k : Nat) : lZ po w k ≤ k := by
 have := QaT (fun f => decide (cV po f = (w, false))) (List.range k)
 rwa [Qco] at this
theorem Ua (pb qs : Nat) (po : Po) (w : Nat) (h0 : 0 < po.length) (h32 : po.length ≤ 32) : sQ W0 265 [pQ pb, iQ w] (du pb (qs, po) :: R) (iQ ((bP po w).length : Nat)) (du pb (qs, po) :: R) := by
 refine ab func265 ntmps265 ?_
 refine cK (fun i : Nat => i ≤ po.length) (fun i => [(0, pQ pb), (1, iQ w), (5, iQ (lZ po w i : Nat)), (6, iQ i)]) (fun _ => du pb (qs, po) :: R) (fun i => po.length - i) 0 ?_ ?_
 omega
 intro i hi
 refine AQ (pb := pb) (by omega) fun g c g2 c2 sp sp2 h1 h2 h3 k1 k2 k3 => ?_
 have hle := U9 po w i
 refine aw ?_
 refine cM (fun g3_8 => ?_) fun g3_8 => ?_
 refine aA rfl (fun c3 => ?_) fun c3 => ?_
 refine au 2 ?_
 refine dO (fun n : Nat => n = lZ po w (i + 1) ∧ i < po.length) (fun n => [(0, pQ pb), (1, iQ w), (5, iQ n), (6, iQ i)]) (fun _ => du pb (qs, po) :: R) ?_ ?_
 refine au 2 ?_
 have hi1 : i < po.length := by omega
 have hs := U8 po w i
 refine aw ?_
 refine a6 (bA hi1) ?_
 refine a6 (aG (aF (xM hi1))) ?_
 refine cM (fun g5_10 => ?_) fun g5_10 => ?_
 refine cM (fun g5_14 => ?_) fun g5_14 => ?_
 refine a6 (bA hi1) ?_
 refine a6 (aG (aF (AR hi1))) ?_
 refine ag (fun c5 => ?_) fun c5 => ?_
 refine a6 bS ?_
 refine cu (lZ po w i + 1) ?_ (he := ?_)
 grind
 grind [nG]
 refine cu (lZ po w i) ?_ (he := ?_)
 grind
 grind [nG]
 refine cu (lZ po w i) ?_ (he := ?_)
 refine ⟨?_, hi1⟩
 rw [hs, Qac (by intro q; have q1 := Qah Prod.fst q; have q2 := Qah Prod.snd q; simp_all)]; rfl
 grind [nG]
 refine cu (lZ po w i) ?_ (he := ?_)
 grind
 grind [nG]
 intro n ⟨hn, hi1⟩
 subst hn
 refine aw ?_
 refine a6 bS ?_
 exact bE (i + 1) (by omega)
 refine aw ?_
 refine a8 ?_
 obtain rfl : i = po.length := by omega
 rw [FB]
 exact ⟨_, ⟨rfl, rfl⟩, nG rfl rfl rfl rfl h1 h2 h3 k1 k2 k3⟩
 refine a8 ?_
 obtain rfl : i = po.length := by omega
 rw [FB]
 exact ⟨_, ⟨rfl, rfl⟩, nG rfl rfl rfl rfl h1 h2 h3 k1 k2 k3⟩
theorem Ub (pb qs : Nat) (po : Po) (w f : Nat) (l : List Nat) (hw : w < 16) (h32 : po.length ≤ 32) (he : bP po w = f :: l) : sQ W0 128 [pQ pb, iQ w] (du pb (qs, po) :: R) (.tuple #[iQ f, iQ 0]) (du pb (qs, po.set f ((w : Int), true)) :: R) := by
 have hf := kv.1 (show f ∈ bP po w by rw [he]; simp)
 have hlow : ∀ j, j < f → cV po j ≠ ((w : Int), false) := fun j hj q => by
  have hm := kv.2 ⟨by have := hf.1; omega, q⟩
  have hs := xm po w
  rw [he] at hm hs
  rw [Qbk] at hs
  rcases QaZ.1 hm with k | k
  omega
  grind
 have hws : (po.set f ((w : Int), true)).flatMap i7 = po.flatMap i7 := by
  grind [TZ]
 refine ab func128 ntmps128 ?_
 refine cR rfl rfl rfl (fun g1_3 => ?_) fun g1_3 => ?_
 omega
 refine aw ?_
 refine aA rfl (fun c1 => ?_) fun c1 => ?_
 omega
 refine aw ?_
 refine cK (fun i : Nat => i ≤ f) (fun i => [(0, pQ pb), (1, iQ w), (6, iQ i)]) (fun _ => du pb (qs, po) :: R) (fun i => po.length - i) 0 ?_ ?_
 omega
 intro i hi
 have hfl := hf.1
 refine AQ (pb := pb) (by omega) fun g c g2 c2 sp sp2 h1 h2 h3 k1 k2 k3 => ?_
 refine aw ?_
 refine cM (fun g4_8 => ?_) fun g4_8 => ?_
 refine ag (fun c4 => ?_) fun c4 => ?_
 have hi1 : i < po.length := by omega
 refine a6 (bA hi1) ?_
 refine a6 (aG (aF (xM hi1))) ?_
 refine cM (fun g6_10 => ?_) fun g6_10 => ?_
 refine a6 (bA hi1) ?_
 refine a6 (aG (aF (AR hi1))) ?_
 refine ag (fun c6 => ?_) fun c6 => ?_
 have hif : i = f := by
  grind
 subst hif
 refine a6 (bA hi1) ?_
 refine ax (dx (U7 hi1) (Fy (v := (w : Int)) hi1)) ?_
 refine az ?_
 exact ⟨_, ⟨rfl, rfl⟩, nG (by simp) (by simp) hws.symm rfl h1 h2 h3 k1 k2 (by grind [Qad, xL])⟩
 have hne : i ≠ f := by
  grind
 refine a6 bS ?_
 refine bE (i + 1) ?_ (he := ?_)
 omega
 grind [nG]
 have hne : i ≠ f := by
  grind
 refine a6 bS ?_
 refine bE (i + 1) ?_ (he := ?_)
 omega
 grind [nG]
 refine az ?_
 exfalso; omega
 refine az ?_
 exfalso; omega
theorem Uc (a : Option Addr) (c p : Nat) (ws : List Nat) (h1 : 1 ≤ p) (hp : p ≤ 8) (hn : ws.length < 9223372036854775808) (hc : ws.length ≤ c) : sQ W0 266 [.slice a ws.length c, iQ p] R (.slice a (aR ws p).length c) R := by
 have hl := vj ws p
 refine ab func266 ntmps266 ?_
 refine aA rfl (fun c1 => ?_) fun c1 => ?_
 omega
 refine aw ?_
 refine a6 (pA rfl rfl (Fq hp)) ?_
 refine a6 (kK (16 * p)) ?_
 refine a6 (pA rfl rfl (AP (16 * p) ws.length)) ?_
 refine a6 (lO qt bF rfl rfl (h := min (16 * p) ws.length) rfl (by omega)) ?_
 refine a8 ?_
 rw [hl]
 exact aj
theorem Ud {ws : List Nat} {i k : Nat} (hk : k < 16) : (dp ws i)[k]? = ws[16 * i + k]? := by
 grind [dp]
theorem Ue {f : Nat} {ws : List Nat} {i k : Nat} (hk : k < 16) (fr : List ap) : fW f ((dp ws i).take (k + 1)) 0 fr = match ws[16 * i + k]? with | some y => eY (fW f ((dp ws i).take k) 0 fr) f (4 * k : Nat) 4 y | none => fW f ((dp ws i).take k) 0 fr := by
 have hg := Ud (ws := ws) (i := i) hk
 cases e : ws[16 * i + k]? with
 | none =>
  rw [e] at hg
  have := List.getElem?_eq_none_iff.1 hg
  rw [QaO (by omega), QaO this]
 | some y =>
  rw [e] at hg
  obtain ⟨hlt, hy⟩ := List.getElem?_eq_some_iff.1 hg
  rw [Qan hlt, hy, Ar, QaP, Qbt (by omega), Qab]
theorem Uf (pb qs pm who n : Nat) (x : Im) (h : ImOk x) (h0 : 0 < x.fr.length) (a : Option Addr) (c : Nat) (ws : List Nat) (hw : who < 16) (h1 : 1 ≤ n) (h8 : n ≤ 8) (hf : oD x.pg 0 8) (hl : n ≤ (bP x.po who).length) (hs : ∀ A, Ent A R → bT (aB W0 A) a 1 gW ws) (hb : ∀ y ∈ ws, y < 4294967296) (hn : ws.length < 9223372036854775808) (hc : ws.length ≤ c) : sQ W0 183 [pQ pb, pQ qs, pQ pm, iQ who, iQ n, .slice a ws.length c] (du pb (qs, x.po) :: cX qs x.fr :: pt pm (g6 x.pg) :: R) (iQ 0) (du pb (qs, (cD who (aR ws n) n x).po) :: cX qs (cD who (aR ws n) n x).fr :: pt pm (g6 (cD who (aR ws n) n x).pg) :: R) := by
 have hlen := vj ws n
 have hle := h.len
 have hcb : ∀ y ∈ aR ws n, y < 4294967296 := fun y hy => hb y (QbK hy)
 have hok : ∀ i, ImOk (cD who (aR ws n) i x) := fun i => rp hw h
 have hcs : ∀ A, Ent A R → bT (aB W0 A) a 1 gW (aR ws n) := fun A hA => (hs A hA).take _
 have hp32 : ∀ i, (cD who (aR ws n) i x).po.length ≤ 32 := fun i => (hok i).po.len
 refine ab func183 ntmps183 ?_
 refine cR rfl rfl rfl (fun g1_3 => ?_) fun g1_3 => ?_
 omega
 refine aw ?_
 refine cR rfl rfl rfl (fun g1_7 => ?_) fun g1_7 => ?_
 omega
 refine aw ?_
 refine cR rfl rfl rfl (fun g1_11 => ?_) fun g1_11 => ?_
 omega
 refine aw ?_
 refine aA rfl (fun c1 => ?_) fun c1 => ?_
 omega
 refine aw ?_
 refine cK (fun i : Nat => i ≤ n) (fun i => [(0, pQ pb), (1, pQ qs), (2, pQ pm), (3, iQ who), (4, iQ n), (5, .slice a ws.length c), (13, iQ i)]) (fun i => du pb (qs, x.po) :: cX qs x.fr :: pt pm (g6 x.pg) :: R) (fun i => n - i) 0 ?_ ?_
 omega
 intro i hi
 refine aw ?_
 refine ag (fun c4 => ?_) fun c4 => ?_
 refine ac (ah call45 (Ef pm x.pg h.pg i)) ?_
 refine bu fun bx => ?_
 refine ax aC ?_
 refine ag (fun c7 => ?_) fun c7 => ?_
 exact absurd c7 (by rw [hf i (QaU _) (by omega)]; decide)
 refine a6 bS ?_
 exact bE (i + 1) (by omega)
 refine ac (ah call265 (Ua pb qs x.po who (by omega) (hp32 0))) ?_
 refine aA rfl (fun c9 => ?_) fun c9 => ?_
 omega
 refine aw ?_
 refine ac (ao call266 (Uc a c n ws h1 h8 hn hc)) ?_
 refine cK (fun i : Nat => i ≤ n) (fun i => [(0, pQ pb), (1, pQ qs), (2, pQ pm), (3, iQ who), (4, iQ n), (16, .slice a (aR ws n).length c), (17, iQ i)]) (fun i => du pb (qs, (cD who (aR ws n) i x).po) :: cX qs (cD who (aR ws n) i x).fr :: pt pm (g6 (cD who (aR ws n) i x).pg) :: R) (fun i => n - i) 0 ?_ ?_
 omega
 intro i hi
 refine aw ?_
 refine ag (fun c13 => ?_) fun c13 => ?_
 have hin : i < n := by omega
 have hfr := xn (who := who) (words := aR ws n) (x := x) i
 have hpg := (xo (who := who) (words := aR ws n) hf h.pg.len i (by omega)).1
 obtain ⟨f, l, he⟩ : ∃ f l, bP (cD who (aR ws n) i x).po who = f :: l := by
  cases e : bP (cD who (aR ws n) i x).po who with
  | nil => rw [e] at hfr; simp at hfr; omega
  | cons f l => exact ⟨f, l, rfl⟩
 obtain ⟨y, hy⟩ : ∃ y, cD who (aR ws n) i x = y := ⟨_, rfl⟩
 have hoki := hok i
 have hnx : cD who (aR ws n) (i + 1) x = iD who (aR ws n) y i := by rw [cD, hy]
 have hp32i := hp32 i
 have hti := hpg i (Qap _) (by omega)
 rw [hy] at he hoki hp32i hti ⊢
 rw [iD, he] at hnx
 dsimp only at hnx
 have hff := kv.1 (show f ∈ bP y.po who by rw [he]; simp)
 refine ac (ah call128 (Ub pb qs y.po who f l hw hp32i he)) ?_
 refine ac (ah IN (Ac pm y.pg hoki.pg i ((f : Int), 3))) ?_
 refine fQ (fun k : Nat => k ≤ 16) (fun k => [(0, pQ pb), (1, pQ qs), (2, pQ pm), (3, iQ who), (4, iQ n), (16, .slice a (aR ws n).length c), (17, iQ i), (18, iQ f), (20, iQ k)]) (fun k => du pb (qs, y.po.set f ((who : Int), true)) :: cX qs (fW f ((dp (aR ws n) i).take k) 0 y.fr) :: pt pm (g6 (dA y.pg i ((f : Int), 3))) :: R) (fun k => 16 - k) 0 ?_ ?_ ?_ ?_
 omega
 · repeat (first | exact ci | refine bQ rfl ?_)
 rw [show fW f ((dp (aR ws n) i).take 0) 0 y.fr = y.fr from rfl]
 exact IO
 intro k hk
 refine aw ?_
 refine aA rfl (fun c18 => ?_) fun c18 => ?_
 refine au 2 ?_
 refine dO (fun _ : Unit => k < 16) (fun _ => [(0, pQ pb), (1, pQ qs), (2, pQ pm), (3, iQ who), (4, iQ n), (16, .slice a (aR ws n).length c), (17, iQ i), (18, iQ f), (20, iQ k)]) (fun _ => du pb (qs, y.po.set f ((who : Int), true)) :: cX qs (fW f ((dp (aR ws n) i).take (k + 1)) 0 y.fr) :: pt pm (g6 (dA y.pg i ((f : Int), 3))) :: R) ?_ ?_
 refine au 2 ?_
 have hk1 : k < 16 := by omega
 have hwt := Ue (f := f) (ws := aR ws n) (i := i) hk1 y.fr
 refine aw ?_
 refine a6 (kK (16 * i)) ?_
 refine a6 (dG (16 * i + k)) ?_
 refine ag (fun c20 => ?_) fun c20 => ?_
 have hlt : 16 * i + k < (aR ws n).length := by omega
 obtain ⟨gb, go, hga, hc'⟩ := (hcs (du pb (qs, y.po.set f ((who : Int), true)) :: cX qs (fW f ((dp (aR ws n) i).take k) 0 y.fr) :: pt pm (g6 (dA y.pg i ((f : Int), 3))) :: R) inferInstance).at_ hlt
 obtain ⟨z, hz⟩ : ∃ z, (aR ws n)[16 * i + k] = z := ⟨_, rfl⟩
 rw [hz] at hc'
 have hzb := hcb _ (QaK hlt)
 rw [hz] at hzb
 obtain ⟨hF, hFl⟩ := rn (f := f) (l := (dp (aR ws n) i).take k) (k := 0) hoki.fr
 rw [Qbd hlt, hz] at hwt
 dsimp only at hwt
 refine a6 (kK (4 * k)) ?_
 refine a6 (kK (16 * i)) ?_
 refine a6 (dG (16 * i + k)) ?_
 refine a6 (dH qt bF rfl hga rfl rfl hlt (by first | exact Qab _ | rfl)) ?_
 refine a6 (aG (hc' 0 _ rfl)) ?_
 refine ac (ah call146 (Rm qs (fW f ((dp (aR ws n) i).take k) 0 y.fr) f (4 * k : Nat) 4 z hzb hF)) ?_
 refine cu () ?_ (he := ?_)
 exact hk1
 rw [hwt]
 exact IO
 refine cu () ?_ (he := ?_)
 exact hk1
 rw [hwt, Qbf (by omega)]
 exact IO
 intro _ hk1
 refine aw ?_
 refine a6 bS ?_
 exact bE (k + 1) (by omega)
 refine aw ?_
 refine a6 bS ?_
 refine bE (i + 1) ?_ (he := ?_)
 omega
 obtain rfl : k = 16 := by omega
 rw [hnx, show (dp (aR ws n) i).take 16 = dp (aR ws n) i from QaO (by rw [dp, QaP]; omega)]
 exact IO
 refine a8 ?_
 obtain rfl : i = n := by omega
 exact aj
def rC (b : Nat) (L : List Int) : HP := chk (fun C => ∃ a c, C = [pt b (a7 [.slice a L.length c] 471), osl 3 1 (.slice a L.length c) (L.flatMap ja)])
section
variable {W0 : World} {N : FSz} {K : Act → World → Prop} {e : aH} {A B R R1 R2 : List HP} {b n c : Nat} {L : List Int}
theorem Ug [hk : Tk rC b A L R] (h : ∀ a c, ai W0 N K e (pt b (a7 [.slice a L.length c] 471) :: osl 3 1 (.slice a L.length c) (L.flatMap ja) :: R)) : ai W0 N K e A :=
  fJ (r := rC) (b := b) (lP fun C hC => by obtain ⟨a, c, rfl⟩ := hC; exact h a c)
theorem oK {a : Option Addr} {ys : List Value} [h1 : Tk pt b A (a7 [.slice a n c] 471) R1] [h2 : Tk (osl 3 1) (.slice a n c) R1 ys R2] (hk : n = L.length) (hy : ys = L.flatMap ja) [q : Ent R2 B] : Ent A (rC b L :: B) := by
 subst hk; subst hy
 exact (Ent.ofPerm (h1.perm.trans (h2.perm.cons _))).trans ((en (R := R2) (C := [_, _]) ⟨a, c, rfl⟩).trans (Ent.cons q))
end
theorem FC (x : Int) : (ja x).length = 1 := rfl
theorem xN (L : List Int) : (L.flatMap ja).length = L.length := by rw [cj FC]; omega
theorem Uh (L : List Int) (j : Nat) (w : Int) : (L.flatMap ja).set j (iQ w) = (L.set j w).flatMap ja := by
 induction L generalizing j with
 | nil => rfl
 | cons x L ih =>
  cases j with
  | zero => rfl
  | succ j => simp only [QaW, ja, Qaw, Qat, List.set_cons_succ] at ih ⊢; rw [ih]
theorem Ui (L : List Int) : ec (L.flatMap ja) = true := by
 induction L with
 | nil => rfl
 | cons x l ih => rw [QaW, ec, List.all_append, Qar]; exact ⟨rfl, ih⟩
theorem Uj (n : Nat) (h : n ≤ 64) : sP W0 327 [iQ n] R (fun v B => ∃ b, v = .tuple #[pQ b, iQ 0] ∧ B = rC b (List.replicate n (-1)) :: R) := by
 refine ab func327 ntmps327 ?_
 refine cR rfl rfl rfl (fun g1_3 => ?_) fun g1_3 => ?_
 omega
 refine aw ?_
 refine aA rfl (fun c1 => ?_) fun c1 => ?_
 omega
 refine aw ?_
 refine aS fun bt => ?_
 refine fQ (fun X : Nat × Option Addr × Nat => X.1 ≤ n) (fun X => [(0, iQ n), (4, pQ bt), (5, iQ X.1)]) (fun X => pt bt (a7 [.slice X.2.1 X.1 X.2.2] 471) :: osl 3 1 (.slice X.2.1 X.1 X.2.2) ((List.replicate X.1 (-1)).flatMap ja) :: R) (fun X => n - X.1) (0, none, 0) ?_ ?_ ?_ ?_
 omega
 · repeat (first | exact ci | refine bQ rfl ?_)
 exact Ent.cons eH
 intro ⟨i, a, c⟩ hi
 dsimp only at hi ⊢
 refine aw ?_
 refine ag (fun c5 => ?_) fun c5 => ?_
 refine d7 (jG fe aO me rfl rfl rfl rfl rfl (by decide) (by decide)) fun b2 => ?_
 refine am rfl (eI (sz := 1) (by_ := 8) (info := Tryz.t3) fe (by kernel_rfl) rfl rfl rfl rfl (by decide) rfl rfl eA rfl rfl (by simp only [maxLen]; omega) (by omega)) ?_
 rintro _ _ ⟨a3, c3, rfl, rfl⟩
 have hmp : (List.replicate i (-1)).flatMap ja ++ [Value.int .i64 (-1)] = (List.replicate (i + 1) (-1 : Int)).flatMap ja := by
  rw [Qbw, Qbz]; rfl
 rw [hmp]
 refine aw ?_
 refine ax dy ?_
 refine a6 bS ?_
 exact bE (i + 1, a3, c3) (by omega)
 refine az ?_
 obtain rfl : i = n := by omega
 exact ⟨_, ⟨bt, rfl, rfl⟩, oK (by simp) rfl⟩
def m0 (L : List Int) (f k : Nat) (w : Int) : List Int := (List.range L.length).map fun j => if f ≤ j ∧ j < f + k then w else L.getD j (-1)
theorem AT {L : List Int} {f k : Nat} {w : Int} : (m0 L f k w).length = L.length := by simp [m0]
theorem Uk {L : List Int} {f : Nat} {w : Int} : m0 L f 0 w = L := by
 grind [QaQ, AT, m0]
theorem Ul {L : List Int} {f k : Nat} {w : Int} (h : f + k < L.length) : (m0 L f k w).set (f + k) w = m0 L f (k + 1) w := by
 apply QaQ
 simp [m0]
 grind [m0]
theorem Um {L : List Int} {f k : Nat} {w : Int} (h : gi L f k w = 0) : kA L f k w = m0 L f k w := by
 grind [kA, m0]
theorem Un {L : List Int} {f k i : Nat} {w : Int} (hb : ¬ ((f : Int) < 0 ∨ (k : Int) < 1 ∨ (L.length : Int) < f ∨ (L.length : Int) - f < k ∨ w < 0 ∨ 64 ≤ w)) (hi : i < k) (h : 0 ≤ L.getD (f + i) (-1)) : gi L f k w = 5 := by
 rw [gi, Qac hb, Qaf]
 rw [QbG]
 exact ⟨i, Qbs.2 (by omega), Qak (by grind)⟩
theorem Uo {L : List Int} {f k : Nat} {w : Int} (hb : ¬ ((f : Int) < 0 ∨ (k : Int) < 1 ∨ (L.length : Int) < f ∨ (L.length : Int) - f < k ∨ w < 0 ∨ 64 ≤ w)) (h : ∀ j, j < k → ¬ 0 ≤ L.getD (f + j) (-1)) : gi L f k w = 0 := by
 rw [gi, Qac hb, Qac]
 intro q
 obtain ⟨i, hi, hd⟩ := QbG.1 q
 have hd := Qas hd
 rw [Qam] at hd
 exact h i (by grind) hd
theorem Uq (b : Nat) (L : List Int) (hl : L.length ≤ 64) (f k w : Int) : sQ W0 328 [pQ b, iQ f, iQ k, iQ w] (rC b L :: R) (iQ (gi L f k w)) (rC b (kA L f k w) :: R) := by
 refine ab func328 ntmps328 ?_
 refine Ug (b := b) fun a c => ?_
 refine aw ?_
 refine cA (fun g1_3 => ?_) fun g1_3 => ?_
 refine a8 ?_
 have he : gi L f k w = 1 := by grind [gi]
 rw [kA, he, Qac (by decide)]
 exact ⟨_, ⟨rfl, rfl⟩, oK rfl rfl⟩
 refine cA (fun g1_7 => ?_) fun g1_7 => ?_
 refine a8 ?_
 have he : gi L f k w = 1 := by grind [gi]
 rw [kA, he, Qac (by decide)]
 exact ⟨_, ⟨rfl, rfl⟩, oK rfl rfl⟩
 refine cA (fun g1_16 => ?_) fun g1_16 => ?_
 refine a8 ?_
 have he : gi L f k w = 1 := by grind [gi]
 rw [kA, he, Qac (by decide)]
 exact ⟨_, ⟨rfl, rfl⟩, oK rfl rfl⟩
 refine a6 eX ?_
 refine cA (fun g1_27 => ?_) fun g1_27 => ?_
 refine a8 ?_
 have he : gi L f k w = 1 := by grind [gi]
 rw [kA, he, Qac (by decide)]
 exact ⟨_, ⟨rfl, rfl⟩, oK rfl rfl⟩
 refine cA (fun g1_31 => ?_) fun g1_31 => ?_
 refine a8 ?_
 have he : gi L f k w = 1 := by grind [gi]
 rw [kA, he, Qac (by decide)]
 exact ⟨_, ⟨rfl, rfl⟩, oK rfl rfl⟩
 refine ag (fun c1 => ?_) fun c1 => ?_
 refine a8 ?_
 have he : gi L f k w = 1 := by grind [gi]
 rw [kA, he, Qac (by decide)]
 exact ⟨_, ⟨rfl, rfl⟩, oK rfl rfl⟩
 have hb : ¬ (f < 0 ∨ k < 1 ∨ (L.length : Int) < f ∨ (L.length : Int) - f < k ∨ w < 0 ∨ 64 ≤ w) := by omega
 obtain ⟨f, rfl⟩ : ∃ f' : Nat, f = (f' : Int) := ⟨f.toNat, by omega⟩
 obtain ⟨k, rfl⟩ : ∃ k' : Nat, k = (k' : Int) := ⟨k.toNat, by omega⟩
 have hfk : f + k ≤ L.length := by omega
 refine pC (E := 3) (sz := 1) (a := a) (c := c) (n := L.length) (ys := L.flatMap ja) (fun hf => ?_)
 obtain ⟨g, rfl⟩ := sT hf (by grind [xN])
 refine aw ?_
 refine cK (fun i : Nat => i ≤ k ∧ ∀ j, j < i → ¬ 0 ≤ L.getD (f + j) (-1)) (fun i => [(0, pQ b), (1, iQ f), (2, iQ k), (3, iQ w), (9, iQ i)]) (fun i => pt b (a7 [.slice (some ⟨g, 0, none⟩) L.length c] 471) :: osl 3 1 (.slice (some ⟨g, 0, none⟩) L.length c) (L.flatMap ja) :: R) (fun i => k - i) 0 ?_ ?_
 grind
 intro i ⟨hi, hI⟩
 refine aw ?_
 refine ag (fun c4 => ?_) fun c4 => ?_
 have hi1 : f + i < L.length := by omega
 have hgi : L[f + i]? = some (L.getD (f + i) (-1)) := by grind
 refine aa rfl (dG (f + i)) ?_
 refine aa rfl (bA hi1) ?_
 refine aa rfl (bW cP rfl (F2 (f := ja) (E := 3) (sz := 1) (n := L.length) (c := c) rfl FC (by decide) hgi 0 _ rfl)) ?_
 refine aa rfl (zA rfl rfl) (aN (aD ?_))
 refine aA rfl (fun c6 => ?_) fun c6 => ?_
 refine aP ?_
 refine aZ (aa rfl (bC rfl) (aN (aD (dT (mP (lc (lc (mP (lc (a8 ?_))))))))))
 have he : gi L f k w = 5 := Un hb (by omega) c6
 rw [kA, he, Qac (by decide)]
 exact ⟨_, ⟨rfl, rfl⟩, oK rfl rfl⟩
 refine jj (lL (aD (aZ (aa rfl (aL rfl) ?_))))
 refine aa rfl (dr rfl rfl (by first | exact bN (by omega) | rfl)) ?_
 refine aa rfl (bC rfl) (aN (aD (bE (i + 1) ?_)))
 refine ⟨by omega, fun j hj => ?_⟩
 rcases QaD j i with q | q
 exact hI j q
 rw [show j = i by omega]; exact c6
 obtain rfl : i = k := by omega
 have he : gi L f i w = 0 := Uo hb hI
 refine am rfl (qN fe aO rfl) ?_
 rintro _ _ ⟨be, rfl, rfl⟩
 refine aw ?_
 refine am rfl (eI (sz := 1) (by_ := 8) (info := Tryz.t3) fe (by kernel_rfl) rfl rfl rfl rfl (by decide) rfl rfl (uE (E := 3) (sz := 1) (a := some ⟨g, 0, none⟩) (c := c) (n := L.length)) (by rw [xN, QaA]) (Ui L) (by simp only [maxLen]; omega) (by omega)) ?_
 rintro _ _ ⟨a3, c3, rfl, rfl⟩
 rw [Qat, Qab]
 refine pC (E := 3) (sz := 1) (a := a3) (c := c3) (n := L.length) (ys := L.flatMap ja) (fun hf3 => ?_)
 obtain ⟨g3, rfl⟩ := sT hf3 (by grind [xN])
 refine aw ?_
 refine fQ (fun j : Nat => j ≤ i) (fun j => [(0, pQ b), (1, iQ f), (2, iQ i), (3, iQ w), (10, .slice (some ⟨g3, 0, none⟩) L.length c3), (11, iQ j)]) (fun j => pt b (a7 [.slice (some ⟨g, 0, none⟩) L.length c] 471) :: osl 3 1 (.slice (some ⟨g3, 0, none⟩) L.length c3) ((m0 L f j w).flatMap ja) :: R) (fun j => i - j) 0 ?_ ?_ ?_ ?_
 exact QaU _
 · repeat (first | exact ci | refine bQ rfl ?_)
 rw [Uk]; exact inferInstance
 intro j hj
 refine aw ?_
 refine ag (fun c10 => ?_) fun c10 => ?_
 refine a6 (dG (f + j)) ?_
 refine a6 (bA (by omega)) ?_
 refine ax (Tx (E := 3) (sz := 1) (n := L.length) (c := c3) (l' := (m0 L f (j + 1) w).flatMap ja) aO rfl rfl rfl (by rw [xN, AT]; omega) (by rw [QaA, Uh, Ul (by omega)])) ?_
 refine a6 bS ?_
 exact bE (j + 1) (by omega)
 refine ax dy ?_
 refine a8 ?_
 obtain rfl : j = i := by omega
 rw [he, Um he]
 exact ⟨_, ⟨rfl, rfl⟩, oK AT.symm rfl⟩
theorem Ur {c : Nat} (h : c ≤ 8) : iO .i64 1 (c : Int) = ((2 ^ c : Nat) : Int) := by
 have : c = 0 ∨ c = 1 ∨ c = 2 ∨ c = 3 ∨ c = 4 ∨ c = 5 ∨ c = 6 ∨ c = 7 ∨ c = 8 := by omega
 rcases this with rfl | rfl | rfl | rfl | rfl | rfl | rfl | rfl | rfl <;> rfl
theorem Us {l cats : Int} : eR l cats = true ↔ 0 ≤ cats ∧ cats ≤ 8 ∧ 0 ≤ l ∧ l < ((2 ^ cats.toNat : Nat) : Int) := by
 simp only [eR, Qar, Qag, oE]
 constructor
 rintro ⟨⟨⟨h1, h2⟩, h3, h4⟩, h5⟩
 refine ⟨h1, h2, h3, ?_⟩
 obtain ⟨c, rfl⟩ : ∃ c : Nat, cats = (c : Int) := ⟨cats.toNat, by omega⟩
 obtain ⟨x, rfl⟩ : ∃ x : Nat, l = (x : Int) := ⟨l.toNat, by omega⟩
 rw [lm (k := .i64) (a := x) (s := c) (by show c ≤ 64; omega)] at h5
 have h6 : x / 2 ^ c = 0 := by omega
 have := (Nat.div_eq_zero_iff_lt (Nat.two_pow_pos c)).1 h6
 rw [Qam]; omega
 rintro ⟨h1, h2, h3, h4⟩
 obtain ⟨c, rfl⟩ : ∃ c : Nat, cats = (c : Int) := ⟨cats.toNat, by omega⟩
 obtain ⟨x, rfl⟩ : ∃ x : Nat, l = (x : Int) := ⟨l.toNat, by omega⟩
 rw [Qam] at h4
 have h5 : x < 2 ^ c := by omega
 have h6 : 2 ^ c ≤ 2 ^ 8 := Qct (by decide) (by omega)
 refine ⟨⟨⟨h1, h2⟩, h3, by omega⟩, ?_⟩
 rw [lm (k := .i64) (a := x) (s := c) (by show c ≤ 64; omega), Nat.div_eq_of_lt h5]; rfl
theorem AU (l cats : Int) : sQ W0 326 [iQ l, iQ cats] R (.bool (eR l cats)) R := by
 have hv := Us (l := l) (cats := cats)
 refine ab func326 ntmps326 ?_
 refine cM (fun g1_3 => ?_) fun g1_3 => ?_
 refine cM (fun g1_7 => ?_) fun g1_7 => ?_
 refine cM (fun g1_11 => ?_) fun g1_11 => ?_
 obtain ⟨k, rfl⟩ : ∃ k : Nat, cats = (k : Int) := ⟨cats.toNat, by omega⟩
 have hp := Nat.two_pow_pos k
 rw [Qam] at hv
 refine a6 (mQ rfl rfl (by omega) (Ur (by omega))) ?_
 refine a8 ?_
 refine aE ?_
 refine Qah Value.bool ?_
 rw [Qae, hv]
 first
   | (rw [Qag]; constructor
      · intro q; omega
      · intro q; omega)
   | (constructor
      · intro q; first | omega | (cases q)
      intro q; omega)
 refine a8 ?_
 refine aE ?_
 refine Qah Value.bool ?_
 rw [Qae, hv]
 first
   | (rw [Qag]; constructor
      · intro q; omega
      · intro q; omega)
   | (constructor
      · intro q; first | omega | (cases q)
      intro q; omega)
 refine a8 ?_
 refine aE ?_
 refine Qah Value.bool ?_
 rw [Qae, hv]
 first
   | (rw [Qag]; constructor
      · intro q; omega
      · intro q; omega)
   | (constructor
      · intro q; first | omega | (cases q)
      intro q; omega)
 refine a8 ?_
 refine aE ?_
 refine Qah Value.bool ?_
 rw [Qae, hv]
 first
   | (rw [Qag]; constructor
      · intro q; omega
      · intro q; omega)
   | (constructor
      · intro q; first | omega | (cases q)
      intro q; omega)
theorem vk (c : Cfg) (i : Int) : sQ W0 256 [.agg (cv c).toArray, iQ i] R (.bool (fh c i)) R := by
 refine ab func256 ntmps256 ?_
 refine aS fun b2 => ?_
 refine cM (fun g1_3 => ?_) fun g1_3 => ?_
 refine a8 ?_
 refine aE ?_
 refine Qah Value.bool ?_
 rw [Qae, fh, Qag]
 first
   | (rw [Qag]; constructor
      · intro q; omega
      · intro q; omega)
   | (constructor
      · intro q; first | omega | (cases q)
      intro q; omega)
 refine a8 ?_
 refine aE ?_
 refine Qah Value.bool ?_
 rw [Qae, fh, Qag]
 first
   | (rw [Qag]; constructor
      · intro q; omega
      · intro q; omega)
   | (constructor
      · intro q; first | omega | (cases q)
      intro q; omega)
theorem vl {w : Nat → Bool} {i : Nat} (h : ∀ j, j < i → w j = false) (h2 : w i = false) : ∀ j, j < i + 1 → w j = false := fun j hj => by
 rcases QaD j i with q | q
 exact h j q
 grind
theorem Ut (c : Cfg) (h : CfOk W0 c) : sP W0 251 [.agg (cv c).toArray] R (fun v B => ∃ r, v = .tuple #[.bool (iF c), iQ r] ∧ B = R) := by
 refine ab func251 ntmps251 ?_
 refine aS fun b1 => ?_
 refine cA (fun g1_5 => ?_) fun g1_5 => ?_
 refine az ?_
 rw [iF, Qak (by omega), Qbg]
 exact ⟨_, ⟨0, rfl, rfl⟩, IO⟩
 refine ag (fun c1 => ?_) fun c1 => ?_
 refine az ?_
 rw [iF, Qak (by omega), Qbg]
 exact ⟨_, ⟨0, rfl, rfl⟩, IO⟩
 refine cK (fun i : Nat => i ≤ c.gl.length ∧ (∀ j, j < i → mt c.cats (c.gl.getD j (0, 0, 0)) = false)) (fun i => [(1, pQ b1), (4, iQ i)]) (fun _ => pt b1 (dW c) :: R) (fun i => c.gl.length - i) 0 ?_ ?_
 grind
 intro i ⟨hi, hI⟩
 refine aw ?_
 refine ag (fun c4 => ?_) fun c4 => ?_
 have hi1 : i < c.gl.length := by omega
 obtain ⟨g, o, hga, hc⟩ := (h.g []).at_ hi1
 obtain ⟨x, hx⟩ : ∃ x, c.gl[i] = x := ⟨_, rfl⟩
 have hgd : c.gl.getD i (0, 0, 0) = x := by grind
 rw [hx] at hc
 have hbad : mt c.cats x = true → iF c = true := fun q => by
  rw [iF, t8 (w := fun i => mt c.cats (c.gl.getD i (0, 0, 0))) hi1 (by grind), QcB]
 have hgood := fun q => vl (w := fun i => mt c.cats (c.gl.getD i (0, 0, 0))) hI (show mt c.cats (c.gl.getD i (0, 0, 0)) = false by rw [hgd]; exact q)
 obtain ⟨v, hv⟩ : ∃ v, eR x.1 c.cats = v := ⟨_, rfl⟩
 have hno := vh (cats := c.cats) (g := x)
 have hye := pP (cats := c.cats) (g := x)
 rw [hv] at hno hye
 refine a6 (dH k0 j5 rfl hga rfl rfl hi1 (by first | exact Qab _ | rfl)) ?_
 refine a6 (cJ hc.weak) ?_
 refine bu fun bx => ?_
 refine eW (fG j5 rfl rfl rfl rfl rfl) ?_
 rintro _ _ rfl
 refine aN (aD (aP (aZ ?_)))
 refine aa rfl (cG rfl jF rfl aO rfl (by first | exact Qab _ | rfl)) ?_
 refine aa rfl (bW cP rfl (aF rfl)) ?_
 refine aa rfl (cG rfl u6 rfl aO rfl (by first | exact Qab _ | rfl)) ?_
 refine aa rfl (bW cP rfl (aF rfl)) ?_
 refine am rfl (fZ IP rfl (AU x.1 c.cats)) ?_
 rintro _ B_ ⟨rfl, hB_⟩
 obtain rfl := hB_.symm
 rw [hv]
 refine aw ?_
 refine cR rfl rfl rfl (fun g7_7 => ?_) fun g7_7 => ?_
 refine au 37 ?_
 refine az ?_
 rw [hbad (hye (by grind))]
 exact ⟨_, ⟨_, rfl, rfl⟩, IO⟩
 refine aa rfl (cG rfl jF rfl aO rfl (by first | exact Qab _ | rfl)) ?_
 refine dw rfl rfl (aa rfl (bW cP rfl (aF rfl)) ?_)
 refine dw rfl rfl (aa rfl (mR rfl rfl) (aa rfl (j6 rfl rfl) (aa rfl (aL rfl) ?_)))
 refine cR rfl rfl rfl (fun g7_12 => ?_) fun g7_12 => ?_
 refine au 32 ?_
 refine az ?_
 rw [hbad (hye (by grind))]
 exact ⟨_, ⟨_, rfl, rfl⟩, IO⟩
 refine aa rfl (cG rfl jF rfl aO rfl (by first | exact Qab _ | rfl)) ?_
 refine dw rfl rfl (aa rfl (bW cP rfl (aF rfl)) ?_)
 refine dw rfl rfl (aa rfl (uh rfl rfl) (aa rfl (j6 rfl rfl) (aa rfl (aL rfl) ?_)))
 refine cR rfl rfl rfl (fun g7_17 => ?_) fun g7_17 => ?_
 refine au 27 ?_
 refine az ?_
 rw [hbad (hye (by grind))]
 exact ⟨_, ⟨_, rfl, rfl⟩, IO⟩
 refine aa rfl (cG rfl jF rfl aO rfl (by first | exact Qab _ | rfl)) ?_
 refine dw rfl rfl (aa rfl (bW cP rfl (aF rfl)) ?_)
 refine dw rfl rfl (aa rfl (mR rfl rfl) (aa rfl (j6 rfl rfl) (aa rfl (aL rfl) ?_)))
 refine cR rfl rfl rfl (fun g7_22 => ?_) fun g7_22 => ?_
 refine au 22 ?_
 refine az ?_
 rw [hbad (hye (by grind))]
 exact ⟨_, ⟨_, rfl, rfl⟩, IO⟩
 refine aa rfl (cG rfl jF rfl aO rfl (by first | exact Qab _ | rfl)) ?_
 refine dw rfl rfl (aa rfl (bW cP rfl (aF rfl)) ?_)
 refine dw rfl rfl ?_
 refine aa rfl (cG rfl jF rfl aO rfl (by first | exact Qab _ | rfl)) ?_
 refine dw rfl rfl (aa rfl (bW cP rfl (aF rfl)) ?_)
 refine dw rfl rfl ?_
 refine aa rfl (iq rfl rfl (bN (by omega))) ?_
 refine dw rfl rfl (aa rfl (uh rfl rfl) (aa rfl (j6 rfl rfl) (aN (aD ?_))))
 refine ag (fun c7 => ?_) fun c7 => ?_
 refine az ?_
 rw [hbad (hye (by grind))]
 exact ⟨_, ⟨_, rfl, rfl⟩, IO⟩
 refine a6 bS ?_
 refine bE (i + 1) ?_
 grind
 refine az ?_
 obtain rfl : i = c.gl.length := by omega
 rw [iF, Qaq (by omega), Qba, vg hI]
 exact ⟨_, ⟨0, rfl, rfl⟩, IO⟩
theorem Uu (c : Cfg) (h : CfOk W0 c) : sP W0 252 [.agg (cv c).toArray] R (fun v B => ∃ r, v = .tuple #[.bool (lX c), iQ r] ∧ B = R) := by
 refine ab func252 ntmps252 ?_
 refine aS fun b1 => ?_
 refine ag (fun c1 => ?_) fun c1 => ?_
 refine az ?_
 rw [lX, Qak (by omega), Qbg]
 exact ⟨_, ⟨0, rfl, rfl⟩, IO⟩
 refine am rfl (ao call327 (Uj 32 (by decide))) ?_
 rintro _ B_ ⟨bt, rfl, hB_⟩
 obtain rfl := hB_.symm
 refine aw ?_
 refine cK (fun X : Nat × List Int => X.1 ≤ c.rl.length ∧ (∀ j, j < X.1 → oJ c j = false) ∧ X.2.length = 32 ∧ RT (gU c X.1) X.2) (fun X => [(1, pQ b1), (4, pQ bt), (6, iQ X.1)]) (fun X => rC bt X.2 :: pt b1 (dW c) :: R) (fun X => c.rl.length - X.1) (0, List.replicate 32 (-1)) ?_ ?_
 exact ⟨QaU _, fun j hj => absurd hj (Qcx _), rfl, Tw 32⟩
 intro ⟨i, L⟩ ⟨hi, hI, hL, hRT⟩
 dsimp only at hi hI hL hRT ⊢
 refine aw ?_
 refine ag (fun c5 => ?_) fun c5 => ?_
 have hi1 : i < c.rl.length := by omega
 obtain ⟨g, o, hga, hc⟩ := (h.r []).at_ hi1
 obtain ⟨x, hx⟩ : ∃ x, c.rl[i] = x := ⟨_, rfl⟩
 have hA : nE c i = x := by grind [nE]
 rw [hx] at hc
 have hT : gU c (i + 1) = if eR x.1 c.cats = true then iH (gU c i) 32 x.2.1 x.2.2 i else gU c i := by rw [gU, hA]
 have hW : oJ c i = !(eR x.1 c.cats && decide (fM (gU c i) 32 x.2.1 x.2.2 i = 0)) := by rw [oJ, hA]
 have hE := Fc hRT (n := 32) (by rw [hL]; rfl) x.2.1 x.2.2 i
 have hS := Tv hRT (n := 32) (by rw [hL]; rfl) (by decide) x.2.1 x.2.2 i
 rw [← hE] at hW
 have hbad : oJ c i = true → lX c = true := fun q => by rw [lX, t8 hi1 q, QcB]
 obtain ⟨v, hv⟩ : ∃ v, eR x.1 c.cats = v := ⟨_, rfl⟩
 rw [hv] at hT hW
 refine a6 (dH C8 yV rfl hga rfl rfl hi1 (by first | exact Qab _ | rfl)) ?_
 refine a6 (cJ hc.weak) ?_
 refine bu fun bx => ?_
 refine eW (fG yV rfl rfl rfl rfl rfl) ?_
 rintro _ _ rfl
 refine aN (aD (aP (aZ ?_)))
 refine aa rfl (cG rfl uc rfl aO rfl (by first | exact Qab _ | rfl)) ?_
 refine aa rfl (bW cP rfl (aF rfl)) ?_
 refine aa rfl (cG rfl u6 rfl aO rfl (by first | exact Qab _ | rfl)) ?_
 refine aa rfl (bW cP rfl (aF rfl)) ?_
 refine am rfl (fZ IP rfl (AU x.1 c.cats)) ?_
 rintro _ B_ ⟨rfl, hB_⟩
 obtain rfl := hB_.symm
 rw [hv]
 refine aw ?_
 refine cR rfl rfl rfl (fun g8_7 => ?_) fun g8_7 => ?_
 refine au 24 ?_
 refine az ?_
 rw [hbad (by grind)]
 exact ⟨_, ⟨_, rfl, rfl⟩, IO⟩
 refine aa rfl (aL rfl) (dw rfl rfl ?_)
 refine aa rfl (cG rfl uc rfl aO rfl (by first | exact Qab _ | rfl)) ?_
 refine dw rfl rfl (aa rfl (bW cP rfl (aF rfl)) ?_)
 refine dw rfl rfl ?_
 refine aa rfl (cG rfl uc rfl aO rfl (by first | exact Qab _ | rfl)) ?_
 refine dw rfl rfl (aa rfl (bW cP rfl (aF rfl)) ?_)
 refine dw rfl rfl (aa rfl (aL rfl) (dw rfl rfl ?_))
 refine am rfl (lh call328 rfl (Uq bt L (by omega) x.2.1 x.2.2 i)) ?_
 rintro _ B_ ⟨rfl, hB_⟩
 obtain rfl := hB_.symm
 refine dw rfl rfl (aa rfl (lN rfl rfl) (aa rfl (j6 rfl rfl) (aN (aD ?_))))
 refine ag (fun c8 => ?_) fun c8 => ?_
 refine az ?_
 rw [hbad (by grind)]
 exact ⟨_, ⟨_, rfl, rfl⟩, IO⟩
 have hv1 : v = true := by grind
 have hz : gi L x.2.1 x.2.2 i = 0 := by omega
 rw [hv1, Qaf rfl] at hT
 rw [hv1, hz] at hW
 refine a6 bS ?_
 exact bE (i + 1, kA L x.2.1 x.2.2 i) (⟨by omega, vl hI hW, Fa.trans hL, by rw [hT]; exact hS⟩)
 refine az ?_
 obtain rfl : i = c.rl.length := by omega
 rw [lX, Qaq (by omega), Qba, vg hI]
 exact ⟨_, ⟨0, rfl, rfl⟩, IO⟩
theorem Uv (c : Cfg) (h : CfOk W0 c) : sP W0 255 [.agg (cv c).toArray] R (fun v B => ∃ r, v = .tuple #[.bool (ly c), iQ r] ∧ B = R) := by
 refine ab func255 ntmps255 ?_
 refine aS fun b1 => ?_
 refine cA (fun g1_5 => ?_) fun g1_5 => ?_
 refine az ?_
 rw [ly, Qak (by omega), Qbg]
 exact ⟨_, ⟨0, rfl, rfl⟩, IO⟩
 refine ag (fun c1 => ?_) fun c1 => ?_
 refine az ?_
 rw [ly, Qak (by omega), Qbg]
 exact ⟨_, ⟨0, rfl, rfl⟩, IO⟩
 refine cK (fun i : Nat => i ≤ c.sl.length ∧ (∀ j, j < i → lW c (c.sl.getD j (0, 0)) = false)) (fun i => [(1, pQ b1), (4, iQ i)]) (fun _ => pt b1 (dW c) :: R) (fun i => c.sl.length - i) 0 ?_ ?_
 grind
 intro i ⟨hi, hI⟩
 refine aw ?_
 refine ag (fun c4 => ?_) fun c4 => ?_
 have hi1 : i < c.sl.length := by omega
 obtain ⟨g, o, hga, hc⟩ := (h.s []).at_ hi1
 obtain ⟨x, hx⟩ : ∃ x, c.sl[i] = x := ⟨_, rfl⟩
 have hgd : c.sl.getD i (0, 0) = x := by grind
 rw [hx] at hc
 have hbad : lW c x = true → ly c = true := fun q => by
  rw [ly, t8 (w := fun i => lW c (c.sl.getD i (0, 0))) hi1 (by grind), QcB]
 have hgood := fun q => vl (w := fun i => lW c (c.sl.getD i (0, 0))) hI (show lW c (c.sl.getD i (0, 0)) = false by rw [hgd]; exact q)
 obtain ⟨v, hv⟩ : ∃ v, fh c x.1 = v := ⟨_, rfl⟩
 have hW : lW c x = !(v && decide (1 ≤ x.2 ∧ x.2 ≤ 32)) := by rw [lW, hv]
 refine a6 (dH C9 Ib rfl hga rfl rfl hi1 (by first | exact Qab _ | rfl)) ?_
 refine a6 (cJ hc.weak) ?_
 refine bu fun bx => ?_
 refine ax aC ?_
 refine ac (ao zf (vk c x.1)) ?_
 rw [hv]
 refine cA (fun g7_6 => ?_) fun g7_6 => ?_
 refine az ?_
 rw [hbad (by grind)]
 exact ⟨_, ⟨_, rfl, rfl⟩, IO⟩
 refine cA (fun g7_11 => ?_) fun g7_11 => ?_
 refine az ?_
 rw [hbad (by grind)]
 exact ⟨_, ⟨_, rfl, rfl⟩, IO⟩
 refine ag (fun c7 => ?_) fun c7 => ?_
 refine az ?_
 rw [hbad (by grind)]
 exact ⟨_, ⟨_, rfl, rfl⟩, IO⟩
 have hv1 : v = true := by grind
 rw [hv1, Qak (by omega)] at hW
 refine a6 bS ?_
 refine bE (i + 1) ?_
 grind
 refine az ?_
 obtain rfl : i = c.sl.length := by omega
 rw [ly, Qaq (by omega), Qba, vg hI]
 exact ⟨_, ⟨0, rfl, rfl⟩, IO⟩
theorem td (c : Cfg) (hs : ∀ A, bT (aB W0 A) c.ga 3 eQ c.gl) (hb : ∀ g ∈ c.gl, 1 ≤ g.2.1 ∧ g.2.1 ≤ 8 ∧ 0 ≤ g.2.2 ∧ g.2.2 ≤ 8 - g.2.1) (hn : c.nl.length ≤ 4) (hg : c.gl.length ≤ 4) : sQ W0 78 [.agg (cv c).toArray] R (iQ (eu c c.gl.length)) R := by
 have hle := AG hb hn
 refine ab func78 ntmps78 ?_
 refine aS fun b1 => ?_
 refine cK (fun i : Nat => i ≤ c.gl.length) (fun i => [(1, pQ b1), (3, iQ (eu c i)), (4, iQ (i : Nat))]) (fun _ => pt b1 (dW c) :: R) (fun i => c.gl.length - i) 0 ?_ ?_
 omega
 intro i hi
 refine aw ?_
 refine ag (fun c3 => ?_) fun c3 => ?_
 have hi1 : i < c.gl.length := by omega
 obtain ⟨g, o, hga, hc⟩ := (hs []).at_ hi1
 obtain ⟨x, hx⟩ : ∃ x, c.gl[i] = x := ⟨_, rfl⟩
 rw [hx] at hc
 have hbx := hb _ (QaK hi1)
 rw [hx] at hbx
 have hst : eu c (i + 1) = eu c i + (x.2.1 + x.2.2) := by grind [eu]
 have hl1 := hle i hi
 refine fH [(b1, 0, cv c), (g, o + i * 3, eQ x)] 16 mixed rfl (bZ (cB hc.weak bL)) (fun hS => ?_)
 refine ae 0 4 hS ?_
 refine av 4 hS (dH k0 j5 rfl hga rfl rfl hi1 (by first | exact Qab _ | rfl)) ?_
 refine ae 5 1 hS ?_
 refine av 6 hS (aG (iy (k := 1) (j := 1) rfl rfl)) ?_
 refine av 7 hS bS ?_
 refine ae 8 3 hS ?_
 refine av 11 hS (dH k0 j5 rfl hga rfl rfl hi1 (by first | exact Qab _ | rfl)) ?_
 refine ae 12 1 hS ?_
 refine av 13 hS (aG (iy (k := 1) (j := 2) rfl rfl)) ?_
 refine av 14 hS (dr rfl rfl (by rw [bN (by omega), hst]; omega : IntKind.wrap .i64 (eu c i + x.2.1 + x.2.2) = eu c (i + 1))) ?_
 refine ae 15 1 hS ?_
 refine aI ?_
 refine a6 bS ?_
 exact bE (i + 1) (by omega)
 refine a8 ?_
 obtain rfl : i = c.gl.length := by omega
 exact aj
theorem AV {W0 : World} {c : Cfg} (h : CfOk W0 c) (q : Int) : ∃ (gg og j : Nat) (vs : List Value), (∀ A, aT (aB W0 A) gg (og + j * 3) vs) ∧ (fh c q = true → c.ga = some ⟨gg, og, none⟩ ∧ q = (j : Int) ∧ j < c.gl.length ∧ ∃ u : Int × Int × Int, vs = eQ u ∧ iG c q = u.1) := by
 cases hG : fh c q with
 | false => exact ⟨0, 0, 0, [], fun A k v hk => by simp at hk, fun h => by cases h⟩
 | true =>
  have hb : 0 ≤ q ∧ q < c.gl.length := Qas hG
  obtain ⟨j, rfl⟩ : ∃ j : Nat, q = (j : Int) := ⟨q.toNat, by omega⟩
  have hj : j < c.gl.length := by omega
  obtain ⟨gg, og, hga, _⟩ := (h.g []).at_ hj
  refine ⟨gg, og, j, eQ c.gl[j], fun A => ?_, fun _ => ⟨hga, rfl, hj, c.gl[j], rfl, ?_⟩⟩
  obtain ⟨g2, o2, h2, hc2⟩ := (h.g A).at_ hj
  rw [hga] at h2; cases h2; exact hc2
  grind [iG]
theorem Uw {c : Cfg} {q : Int} (h : fh c q = true) : 0 ≤ q ∧ q < c.gl.length := Qas h
theorem Ux {c : Cfg} {q : Int} (h : fh c q = false) : ¬ (0 ≤ q ∧ q < c.gl.length) := of_decide_eq_false h
theorem Uy (c : Cfg) (h : CfOk W0 c) : sP W0 254 [.agg (cv c).toArray] R (fun v B => ∃ r, v = .tuple #[.bool (gQ c), iQ r] ∧ B = R) := by
 refine ab func254 ntmps254 ?_
 refine aS fun b1 => ?_
 refine ag (fun c1 => ?_) fun c1 => ?_
 refine az ?_
 rw [gQ, Qak (by omega), Qbg]
 exact ⟨_, ⟨0, rfl, rfl⟩, IO⟩
 refine cK (fun i : Nat => i ≤ c.nl.length ∧ (∀ j, j < i → kU c (c.nl.getD j (0, 0)) = false)) (fun i => [(1, pQ b1), (4, iQ i)]) (fun _ => pt b1 (dW c) :: R) (fun i => c.nl.length - i) 0 ?_ ?_
 grind
 intro i ⟨hi, hI⟩
 refine aw ?_
 refine ag (fun c4 => ?_) fun c4 => ?_
 have hi1 : i < c.nl.length := by omega
 obtain ⟨g, o, hga, hc⟩ := (h.n []).at_ hi1
 obtain ⟨⟨p, q⟩, hx⟩ : ∃ x, c.nl[i] = x := ⟨_, rfl⟩
 have hgd : c.nl.getD i (0, 0) = (p, q) := by grind
 rw [hx] at hc
 have hbad : kU c (p, q) = true → gQ c = true := fun z => by
  rw [gQ, t8 (w := fun i => kU c (c.nl.getD i (0, 0))) hi1 (by grind), QcB]
 have hgood := fun z => vl (w := fun i => kU c (c.nl.getD i (0, 0))) hI (show kU c (c.nl.getD i (0, 0)) = false by rw [hgd]; exact z)
 obtain ⟨g1, o1, j1, vs1, hcv1, hr1⟩ := AV h p
 obtain ⟨g2, o2, j2, vs2, hcv2, hr2⟩ := AV h q
 obtain ⟨w1, hw1⟩ : ∃ w, fh c p = w := ⟨_, rfl⟩
 obtain ⟨w2, hw2⟩ : ∃ w, fh c q = w := ⟨_, rfl⟩
 have hW : kU c (p, q) = !(w1 && w2 && decide (p ≠ q) && lV (iG c p) (iG c q)) := by grind [kU]
 rw [hw1] at hr1
 rw [hw2] at hr2
 refine a6 (dH tY w3 rfl hga rfl rfl hi1 (by first | exact Qab _ | rfl)) ?_
 refine a6 (cJ hc.weak) ?_
 refine bu fun bx => ?_
 refine ax aC ?_
 refine fH [(b1, 0, cv c), (bx, 0, eh (p, q)), (g1, o1 + j1 * 3, vs1), (g2, o2 + j2 * 3, vs2)] 37 mixed rfl (bZ (bZ (cB (hcv1 _) (cB (hcv2 _) bL)))) (fun hS => ?_)
 refine ae 0 3 hS ?_
 refine cg 3 (ao zf (vk c p)) ?_; clear hS
 rintro _ B_ ⟨rfl, hB_⟩
 obtain rfl := hB_.symm
 rw [hw1]
 refine ⟨(bZ (bZ (cB (hcv1 _) (cB (hcv2 _) bL)))), fun hS => ?_⟩
 refine ae 4 2 hS ?_
 refine iS (t := 27) rfl ?_ ?_
 intro g7_6
 refine ae 6 31 hS ?_
 refine aI ?_
 refine az ?_
 rw [hbad (by grind)]
 exact ⟨_, ⟨_, rfl, rfl⟩, IO⟩
 intro g7_6
 refine ae 6 3 hS ?_
 refine cg 9 (ao zf (vk c q)) ?_; clear hS
 rintro _ B_ ⟨rfl, hB_⟩
 obtain rfl := hB_.symm
 rw [hw2]
 refine ⟨(bZ (bZ (cB (hcv1 _) (cB (hcv2 _) bL)))), fun hS => ?_⟩
 refine ae 10 3 hS ?_
 refine iS (t := 34) rfl ?_ ?_
 intro g7_13
 refine ae 13 24 hS ?_
 refine aI ?_
 refine az ?_
 rw [hbad (by grind)]
 exact ⟨_, ⟨_, rfl, rfl⟩, IO⟩
 intro g7_13
 refine ae 13 7 hS ?_
 refine iS (t := 41) rfl ?_ ?_
 intro g7_20
 refine ae 20 17 hS ?_
 refine aI ?_
 refine az ?_
 rw [hbad (by grind)]
 exact ⟨_, ⟨_, rfl, rfl⟩, IO⟩
 intro g7_20
 obtain rfl : w1 = true := by grind
 obtain rfl : w2 = true := by grind
 obtain ⟨ha1, hq1, hj1, u1, rfl, hl1⟩ := hr1 rfl
 obtain ⟨ha2, hq2, hj2, u2, rfl, hl2⟩ := hr2 rfl
 rw [hl1, hl2] at hW
 refine ae 20 4 hS ?_
 refine av 24 hS (dH k0 j5 rfl ha1 rfl hq1 hj1 (by first | exact Qab _ | rfl)) ?_
 refine ae 25 1 hS ?_
 refine av 26 hS (aG (iy (k := 2) (j := 0) rfl rfl)) ?_
 refine ae 27 4 hS ?_
 refine av 31 hS (dH k0 j5 rfl ha2 rfl hq2 hj2 (by first | exact Qab _ | rfl)) ?_
 refine ae 32 1 hS ?_
 refine av 33 hS (aG (iy (k := 3) (j := 0) rfl rfl)) ?_
 refine jt 34 rfl rfl (ao call329 (Sj u1.1 u2.1)) (bZ (bZ (cB (hcv1 _) (cB (hcv2 _) bL)))) fun hS => ?_
 refine ae 35 2 hS ?_
 refine aI ?_
 refine ag (fun c7 => ?_) fun c7 => ?_
 refine az ?_
 rw [hbad (by grind)]
 exact ⟨_, ⟨_, rfl, rfl⟩, IO⟩
 refine a6 bS ?_
 refine bE (i + 1) ?_
 grind
 refine az ?_
 obtain rfl : i = c.nl.length := by omega
 rw [gQ, Qaq (by omega), Qba, vg hI]
 exact ⟨_, ⟨0, rfl, rfl⟩, IO⟩
theorem FD {c : Cfg} {g : Int} {k j : Nat} (hj : j < k) (h : j < c.pl.length) (e : (c.pl[j]).2 = g) : kV c g k = true := by
 grind [kV, QbG, QbU.2]
theorem FE {c : Cfg} {g : Int} {k : Nat} (hI : ∀ j, j < k → (c.pl.getD j (0, 0)).2 ≠ g) : kV c g k = false := by
 rw [kV, List.any_eq_false]
 intro x hx
 obtain ⟨j, hj, rfl⟩ := QbU.1 hx
 have := hI j (by omega)
 rw [show c.pl.getD j (0, 0) = c.pl[j]'(by omega) by simp [List.getD, show j < c.pl.length by omega]] at this
 simpa using this
theorem Uz (c : Cfg) (h : CfOk W0 c) : sP W0 253 [.agg (cv c).toArray] R (fun v B => ∃ r, v = .tuple #[.bool (lY c), iQ r] ∧ B = R) := by
 refine ab func253 ntmps253 ?_
 refine aS fun b1 => ?_
 refine ag (fun c1 => ?_) fun c1 => ?_
 refine az ?_
 rw [lY, Qak (by omega), Qbg]
 exact ⟨_, ⟨0, rfl, rfl⟩, IO⟩
 refine cK (fun i : Nat => i ≤ c.pl.length ∧ (∀ j, j < i → nF c j = false)) (fun i => [(1, pQ b1), (4, iQ i)]) (fun _ => pt b1 (dW c) :: R) (fun i => c.pl.length - i) 0 ?_ ?_
 grind
 intro i ⟨hi, hI⟩
 refine aw ?_
 refine ag (fun c4 => ?_) fun c4 => ?_
 have hi1 : i < c.pl.length := by omega
 obtain ⟨g, o, hga, hc⟩ := (h.p []).at_ hi1
 obtain ⟨⟨p, q⟩, hx⟩ : ∃ x, c.pl[i] = x := ⟨_, rfl⟩
 have hgd : c.pl.getD i (0, 0) = (p, q) := by grind
 rw [hx] at hc
 have hbad : nF c i = true → lY c = true := fun z => by
  rw [lY, t8 hi1 z, QcB]
 have hgood := fun z => vl (w := nF c) hI z
 obtain ⟨g1, o1, j1, vs1, hcv1, hr1⟩ := AV h q
 obtain ⟨w1, hw1⟩ : ∃ w, fh c q = w := ⟨_, rfl⟩
 obtain ⟨v1, hv1⟩ : ∃ w, eR p c.cats = w := ⟨_, rfl⟩
 have hW : nF c i = (!v1 || (decide (q ≠ -1) && (!w1 || decide (p ≠ iG c q) || kV c q i))) := by grind [nF]
 rw [hw1] at hr1
 have hlt : w1 = true → 0 ≤ q := fun z => (Uw (hw1.trans z)).1
 have hge : w1 = false → ¬ (0 ≤ q ∧ q < c.gl.length) := fun z => Ux (hw1.trans z)
 refine a6 (dH s9 tV rfl hga rfl rfl hi1 (by first | exact Qab _ | rfl)) ?_
 refine a6 (cJ hc.weak) ?_
 refine bu fun bx => ?_
 refine ax aC ?_
 refine ac (ao IP (AU p c.cats)) ?_
 rw [hv1]
 refine cA (fun g7_7 => ?_) fun g7_7 => ?_
 refine az ?_
 rw [hbad (by grind)]
 exact ⟨_, ⟨_, rfl, rfl⟩, IO⟩
 refine j8 rfl rfl rfl (fun g7_11 => ?_) fun g7_11 => ?_
 refine au 6 ?_
 refine ac (ao zf (vk c q)) ?_
 rw [hw1]
 refine aA rfl (fun c7 => ?_) fun c7 => ?_
 refine au 14 ?_
 refine az ?_
 rw [hbad (by grind)]
 exact ⟨_, ⟨_, rfl, rfl⟩, IO⟩
 refine au 2 ?_
 refine dO (fun _ : Unit => v1 = true ∧ (q = -1 ∨ (w1 = true ∧ p = iG c q))) (fun _ => [(1, pQ b1), (4, iQ i), (5, pQ bx)]) (fun _ => pt bx (a7 (eh (p, q)) 204) :: pt b1 (dW c) :: R) ?_ ?_
 refine au 1 ?_
 have hv2 : v1 = true := by simp_all
 have hq2 : q = -1 ∨ w1 = true := by
  grind
 refine fH [(b1, 0, cv c), (bx, 0, eh (p, q)), (g1, o1 + j1 * 3, vs1)] 15 mixed rfl (bZ (bZ (cB (hcv1 _) bL))) (fun hS => ?_)
 refine ae 0 4 hS ?_
 refine iS (t := 45) rfl ?_ ?_
 intro g9_4
 obtain rfl : w1 = true := by
  grind
 obtain ⟨ha1, hq1, hj1, u1, rfl, hl1⟩ := hr1 rfl
 refine ae 4 6 hS ?_
 refine av 10 hS (dH k0 j5 rfl ha1 rfl hq1 hj1 (by first | exact Qab _ | rfl)) ?_
 refine ae 11 1 hS ?_
 refine av 12 hS (aG (iy (k := 2) (j := 0) rfl rfl)) ?_
 refine ae 13 2 hS ?_
 refine aI ?_
 refine ag (fun c9 => ?_) fun c9 => ?_
 refine az ?_
 rw [hbad (by grind)]
 exact ⟨_, ⟨_, rfl, rfl⟩, IO⟩
 refine cu () ?_
 grind
 intro g9_4
 refine ae 4 11 hS ?_
 refine aI ?_
 refine cu () ?_
 refine ⟨hv2, ?_⟩
 first
   | (left; rcases hq2 with z | z
      · exact z
      · exact absurd (hlt z) (by omega))
   | exact .inr ⟨rfl, by rw [hl1]; omega⟩
 intro _ ⟨hv2, hcut⟩
 rw [hv2, show (!true) = false from rfl, Qba] at hW
 refine aw ?_
 refine cK (fun k : Nat => k ≤ i ∧ ∀ j, j < k → 0 ≤ q → (c.pl.getD j (0, 0)).2 ≠ q) (fun k => [(1, pQ b1), (4, iQ i), (5, pQ bx), (6, iQ k)]) (fun _ => pt bx (a7 (eh (p, q)) 204) :: pt b1 (dW c) :: R) (fun k => i - k) 0 ?_ ?_
 grind
 intro k ⟨hk, hK⟩
 refine aw ?_
 refine ag (fun c12 => ?_) fun c12 => ?_
 have hk1 : k < c.pl.length := by omega
 obtain ⟨g2, o2, hga2, hc2⟩ := (h.p []).at_ hk1
 obtain ⟨⟨p2, q2⟩, hx2⟩ : ∃ x, c.pl[k] = x := ⟨_, rfl⟩
 have hgd2 : c.pl.getD k (0, 0) = (p2, q2) := by grind
 have htk : q2 = q → kV c q i = true := fun z => FD (j := k) (by omega) hk1 (by grind)
 rw [hx2] at hc2
 refine fH [(b1, 0, cv c), (bx, 0, eh (p, q)), (g2, o2 + k * 2, eh (p2, q2))] 14 mixed rfl (bZ (bZ (cB hc2.weak bL))) (fun hS => ?_)
 refine ae 0 4 hS ?_
 refine iS (t := 66) rfl ?_ ?_
 intro g14_4
 refine ae 4 3 hS ?_
 refine av 7 hS (dH s9 tV rfl hga2 rfl rfl hk1 (by first | exact Qab _ | rfl)) ?_
 refine ae 8 1 hS ?_
 refine av 9 hS (aG (iy (k := 2) (j := 1) rfl rfl)) ?_
 refine ae 10 4 hS ?_
 refine aI ?_
 refine ag (fun c14 => ?_) fun c14 => ?_
 refine az ?_
 have hz : w1 = true := by
  grind
 rw [hbad (by grind)]
 exact ⟨_, ⟨_, rfl, rfl⟩, IO⟩
 refine a6 bS ?_
 refine bE (k + 1) ?_
 grind
 intro g14_4
 refine ae 4 10 hS ?_
 refine aI ?_
 refine a6 bS ?_
 refine bE (k + 1) ?_
 refine ⟨by omega, fun j hj hq0 => ?_⟩
 rcases QaD j k with z | z
 exact hK j z hq0
 rw [show j = k by omega, hgd2]
 dsimp only
 omega
 refine a6 bS ?_
 refine bE (i + 1) ?_
 grind [FE]
 refine au 12 ?_
 refine dO (fun _ : Unit => v1 = true ∧ (q = -1 ∨ (w1 = true ∧ p = iG c q))) (fun _ => [(1, pQ b1), (4, iQ i), (5, pQ bx)]) (fun _ => pt bx (a7 (eh (p, q)) 204) :: pt b1 (dW c) :: R) ?_ ?_
 refine au 1 ?_
 have hv2 : v1 = true := by simp_all
 have hq2 : q = -1 ∨ w1 = true := by
  by_cases z : q = -1
  exact .inl z
  right; simp_all
 refine fH [(b1, 0, cv c), (bx, 0, eh (p, q)), (g1, o1 + j1 * 3, vs1)] 15 mixed rfl (bZ (bZ (cB (hcv1 _) bL))) (fun hS => ?_)
 refine ae 0 4 hS ?_
 refine iS (t := 45) rfl ?_ ?_
 intro g9_4
 obtain rfl : w1 = true := by
  rcases hq2 with z | z
  exact absurd z (by omega)
  exact z
 obtain ⟨ha1, hq1, hj1, u1, rfl, hl1⟩ := hr1 rfl
 refine ae 4 6 hS ?_
 refine av 10 hS (dH k0 j5 rfl ha1 rfl hq1 hj1 (by first | exact Qab _ | rfl)) ?_
 refine ae 11 1 hS ?_
 refine av 12 hS (aG (iy (k := 2) (j := 0) rfl rfl)) ?_
 refine ae 13 2 hS ?_
 refine aI ?_
 refine ag (fun c9 => ?_) fun c9 => ?_
 refine az ?_
 rw [hbad (by grind)]
 exact ⟨_, ⟨_, rfl, rfl⟩, IO⟩
 refine cu () ?_
 refine ⟨hv2, ?_⟩
 first
   | (left; rcases hq2 with z | z
      · exact z
      · exact absurd (hlt z) (by omega))
   | exact .inr ⟨rfl, by rw [hl1]; omega⟩
 intro g9_4
 refine ae 4 11 hS ?_
 refine aI ?_
 refine cu () ?_
 refine ⟨hv2, ?_⟩
 first
   | (left; rcases hq2 with z | z
      · exact z
      · exact absurd (hlt z) (by omega))
   | exact .inr ⟨rfl, by rw [hl1]; omega⟩
 intro _ ⟨hv2, hcut⟩
 rw [hv2, show (!true) = false from rfl, Qba] at hW
 refine aw ?_
 refine cK (fun k : Nat => k ≤ i ∧ ∀ j, j < k → 0 ≤ q → (c.pl.getD j (0, 0)).2 ≠ q) (fun k => [(1, pQ b1), (4, iQ i), (5, pQ bx), (6, iQ k)]) (fun _ => pt bx (a7 (eh (p, q)) 204) :: pt b1 (dW c) :: R) (fun k => i - k) 0 ?_ ?_
 grind
 intro k ⟨hk, hK⟩
 refine aw ?_
 refine ag (fun c12 => ?_) fun c12 => ?_
 have hk1 : k < c.pl.length := by omega
 obtain ⟨g2, o2, hga2, hc2⟩ := (h.p []).at_ hk1
 obtain ⟨⟨p2, q2⟩, hx2⟩ : ∃ x, c.pl[k] = x := ⟨_, rfl⟩
 have hgd2 : c.pl.getD k (0, 0) = (p2, q2) := by grind
 have htk : q2 = q → kV c q i = true := fun z => FD (j := k) (by omega) hk1 (by grind)
 rw [hx2] at hc2
 refine fH [(b1, 0, cv c), (bx, 0, eh (p, q)), (g2, o2 + k * 2, eh (p2, q2))] 14 mixed rfl (bZ (bZ (cB hc2.weak bL))) (fun hS => ?_)
 refine ae 0 4 hS ?_
 refine iS (t := 66) rfl ?_ ?_
 intro g14_4
 refine ae 4 3 hS ?_
 refine av 7 hS (dH s9 tV rfl hga2 rfl rfl hk1 (by first | exact Qab _ | rfl)) ?_
 refine ae 8 1 hS ?_
 refine av 9 hS (aG (iy (k := 2) (j := 1) rfl rfl)) ?_
 refine ae 10 4 hS ?_
 refine aI ?_
 refine ag (fun c14 => ?_) fun c14 => ?_
 refine az ?_
 have hz : w1 = true := by
  rcases hcut with z | z
  omega
  exact z.1
 rw [hbad (by grind)]
 exact ⟨_, ⟨_, rfl, rfl⟩, IO⟩
 refine a6 bS ?_
 refine bE (k + 1) ?_
 refine ⟨by omega, fun j hj hq0 => ?_⟩
 rcases QaD j k with z | z
 exact hK j z hq0
 rw [show j = k by omega, hgd2]
 dsimp only
 omega
 intro g14_4
 refine ae 4 10 hS ?_
 refine aI ?_
 refine a6 bS ?_
 refine bE (k + 1) ?_
 refine ⟨by omega, fun j hj hq0 => ?_⟩
 rcases QaD j k with z | z
 exact hK j z hq0
 rw [show j = k by omega, hgd2]
 dsimp only
 omega
 refine a6 bS ?_
 refine bE (i + 1) ?_
 refine ⟨by omega, hgood ?_⟩
 rw [hW]
 rcases hcut with z | ⟨z1, z2⟩
 rw [z]; rfl
 rw [z1, FE (fun j hj => hK j (by omega) (hlt z1)), Qaq (by omega : ¬ p ≠ iG c q)]
 simp
 refine az ?_
 obtain rfl : i = c.pl.length := by omega
 rw [lY, Qaq (by omega), Qba, vg hI]
 exact ⟨_, ⟨0, rfl, rfl⟩, IO⟩
theorem xO {c : Cfg} (h : gQ c = false) : c.nl.length ≤ 4 := by
 grind [gQ]
theorem UA (c : Cfg) (h : CfOk W0 c) : sP W0 169 [.agg (cv c).toArray] R (fun v B => ∃ at_, v = .tuple #[iQ (jO c), iQ at_] ∧ B = R) := by
 obtain ⟨w1, hw1⟩ : ∃ w, fh c c.gate = w := ⟨_, rfl⟩
 have hG : kz c = if c.gate = -1 then decide (c.quota ≠ 0) else !(w1 && decide (0 ≤ c.quota ∧ c.quota ≤ 64)) := by rw [kz, hw1]
 obtain ⟨x0, hx0⟩ : ∃ x, jO c = x := ⟨_, rfl⟩
 obtain ⟨x1, hx1⟩ : ∃ x, iF c = x := ⟨_, rfl⟩
 obtain ⟨x2, hx2⟩ : ∃ x, lX c = x := ⟨_, rfl⟩
 obtain ⟨x3, hx3⟩ : ∃ x, lY c = x := ⟨_, rfl⟩
 obtain ⟨x4, hx4⟩ : ∃ x, gQ c = x := ⟨_, rfl⟩
 obtain ⟨x5, hx5⟩ : ∃ x, ly c = x := ⟨_, rfl⟩
 obtain ⟨x6, hx6⟩ : ∃ x, kz c = x := ⟨_, rfl⟩
 have hC : x0 = if c.cats < 0 ∨ 8 < c.cats then 12 else if x1 then 13 else if x2 then 14 else if x3 then 15 else if x4 then 16 else if x5 then 17 else if x6 then 18 else if 32 < eu c c.gl.length then 19 else 0 := by grind [jO]
 rw [hx6] at hG
 rw [hx0]
 refine ab func169 ntmps169 ?_
 refine aS fun b1 => ?_
 refine cA (fun g1_4 => ?_) fun g1_4 => ?_
 refine az ?_
 rw [hC, Qaf (by omega)]
 exact ⟨_, ⟨0, rfl, rfl⟩, IO⟩
 refine ag (fun c1 => ?_) fun c1 => ?_
 refine az ?_
 rw [hC, Qaf (by omega)]
 exact ⟨_, ⟨0, rfl, rfl⟩, IO⟩
 rw [Qac (by omega)] at hC
 refine am rfl (ao call251 (Ut c h)) ?_
 rintro _ B_ ⟨r1, rfl, hB_⟩
 obtain rfl := hB_.symm
 rw [hx1]
 refine aw ?_
 refine ag (fun c4 => ?_) fun c4 => ?_
 refine az ?_
 rw [hC, Qaf (by omega)]
 exact ⟨_, ⟨r1, rfl, rfl⟩, IO⟩
 rw [Qac (by omega)] at hC
 refine am rfl (ao call252 (Uu c h)) ?_
 rintro _ B_ ⟨r2, rfl, hB_⟩
 obtain rfl := hB_.symm
 rw [hx2]
 refine aw ?_
 refine ag (fun c7 => ?_) fun c7 => ?_
 refine az ?_
 rw [hC, Qaf (by omega)]
 exact ⟨_, ⟨r2, rfl, rfl⟩, IO⟩
 rw [Qac (by omega)] at hC
 refine am rfl (ao call253 (Uz c h)) ?_
 rintro _ B_ ⟨r3, rfl, hB_⟩
 obtain rfl := hB_.symm
 rw [hx3]
 refine aw ?_
 refine ag (fun c10 => ?_) fun c10 => ?_
 refine az ?_
 rw [hC, Qaf (by omega)]
 exact ⟨_, ⟨r3, rfl, rfl⟩, IO⟩
 rw [Qac (by omega)] at hC
 refine am rfl (ao call254 (Uy c h)) ?_
 rintro _ B_ ⟨r4, rfl, hB_⟩
 obtain rfl := hB_.symm
 rw [hx4]
 refine aw ?_
 refine ag (fun c13 => ?_) fun c13 => ?_
 refine az ?_
 rw [hC, Qaf (by omega)]
 exact ⟨_, ⟨r4, rfl, rfl⟩, IO⟩
 rw [Qac (by omega)] at hC
 refine am rfl (ao call255 (Uv c h)) ?_
 rintro _ B_ ⟨r5, rfl, hB_⟩
 obtain rfl := hB_.symm
 rw [hx5]
 refine aw ?_
 refine ag (fun c16 => ?_) fun c16 => ?_
 refine az ?_
 rw [hC, Qaf (by omega)]
 exact ⟨_, ⟨r5, rfl, rfl⟩, IO⟩
 rw [Qac (by omega)] at hC
 refine cM (fun g18_4 => ?_) fun g18_4 => ?_
 refine ac (ao zf (vk c c.gate)) ?_
 rw [hw1]
 refine cA (fun g18_11 => ?_) fun g18_11 => ?_
 refine az ?_
 have hz : x6 = true := by
  grind
 rw [hC, hz]
 exact ⟨_, ⟨0, rfl, rfl⟩, IO⟩
 refine cA (fun g18_16 => ?_) fun g18_16 => ?_
 refine az ?_
 have hz : x6 = true := by
  grind
 rw [hC, hz]
 exact ⟨_, ⟨0, rfl, rfl⟩, IO⟩
 refine cA (fun g18_21 => ?_) fun g18_21 => ?_
 refine az ?_
 have hz : x6 = true := by
  grind
 rw [hC, hz]
 exact ⟨_, ⟨0, rfl, rfl⟩, IO⟩
 refine cM (fun g18_25 => ?_) fun g18_25 => ?_
 refine aA rfl (fun c18 => ?_) fun c18 => ?_
 refine au 8 ?_
 refine az ?_
 have hz : x6 = true := by
  rw [hG]; split
  exact Qak (by first | omega | simp_all)
  first
    | (rw [Qaq (by omega), Bool.and_false]; rfl)
    | simp_all
 rw [hC, hz]
 exact ⟨_, ⟨0, rfl, rfl⟩, IO⟩
 refine au 4 ?_
 have hz : x6 = false := by
  rw [hG]; split
  exact Qaq (by first | omega | simp_all)
  rw [Qak (by omega)]; simp_all
 rw [hz] at hC
 have hgr : iF c = false := by grind
 have hri : gQ c = false := by grind
 obtain ⟨k1, k2, k3⟩ := tc hgr
 refine aw ?_
 refine ac (ao wa (td c h.g (fun g hg => (k3 g hg).2) (xO hri) k2)) ?_
 refine ag (fun c20 => ?_) fun c20 => ?_
 refine az ?_
 rw [hC, Qac (by decide), Qaf (by omega)]
 exact ⟨_, ⟨0, rfl, rfl⟩, IO⟩
 refine az ?_
 rw [hC, Qac (by decide), Qac (by omega)]
 exact ⟨_, ⟨0, rfl, rfl⟩, IO⟩
 have hz : x6 = false := by
  grind
 rw [hz] at hC
 have hgr : iF c = false := by grind
 have hri : gQ c = false := by grind
 obtain ⟨k1, k2, k3⟩ := tc hgr
 refine ac (ao wa (td c h.g (fun g hg => (k3 g hg).2) (xO hri) k2)) ?_
 refine ag (fun c20 => ?_) fun c20 => ?_
 refine az ?_
 rw [hC, Qac (by decide), Qaf (by omega)]
 exact ⟨_, ⟨0, rfl, rfl⟩, IO⟩
 refine az ?_
 rw [hC, Qac (by decide), Qac (by omega)]
 exact ⟨_, ⟨0, rfl, rfl⟩, IO⟩
 refine cA (fun g18_16 => ?_) fun g18_16 => ?_
 refine az ?_
 have hz : x6 = true := by
  grind
 rw [hC, hz]
 exact ⟨_, ⟨0, rfl, rfl⟩, IO⟩
 refine cA (fun g18_21 => ?_) fun g18_21 => ?_
 refine az ?_
 have hz : x6 = true := by
  grind
 rw [hC, hz]
 exact ⟨_, ⟨0, rfl, rfl⟩, IO⟩
 refine j8 rfl rfl rfl (fun g18_25 => ?_) fun g18_25 => ?_
 refine au 10 ?_
 refine ag (fun c18 => ?_) fun c18 => ?_
 refine az ?_
 have hz : x6 = true := by
  grind
 rw [hC, hz]
 exact ⟨_, ⟨0, rfl, rfl⟩, IO⟩
 have hz : x6 = false := by
  grind
 rw [hz] at hC
 have hgr : iF c = false := by grind
 have hri : gQ c = false := by grind
 obtain ⟨k1, k2, k3⟩ := tc hgr
 refine ac (ao wa (td c h.g (fun g hg => (k3 g hg).2) (xO hri) k2)) ?_
 refine ag (fun c20 => ?_) fun c20 => ?_
 refine az ?_
 rw [hC, Qac (by decide), Qaf (by omega)]
 exact ⟨_, ⟨0, rfl, rfl⟩, IO⟩
 refine az ?_
 rw [hC, Qac (by decide), Qac (by omega)]
 exact ⟨_, ⟨0, rfl, rfl⟩, IO⟩
 refine au 12 ?_
 have hz : x6 = false := by
  rw [hG]; split
  exact Qaq (by first | omega | simp_all)
  rw [Qak (by omega)]; simp_all
 rw [hz] at hC
 have hgr : iF c = false := by grind
 have hri : gQ c = false := by grind
 obtain ⟨k1, k2, k3⟩ := tc hgr
 refine aw ?_
 refine ac (ao wa (td c h.g (fun g hg => (k3 g hg).2) (xO hri) k2)) ?_
 refine ag (fun c20 => ?_) fun c20 => ?_
 refine az ?_
 rw [hC, Qac (by decide), Qaf (by omega)]
 exact ⟨_, ⟨0, rfl, rfl⟩, IO⟩
 refine az ?_
 rw [hC, Qac (by decide), Qac (by omega)]
 exact ⟨_, ⟨0, rfl, rfl⟩, IO⟩
theorem te (c : Cfg) (h : CfOk W0 c) : sQ W0 77 [.agg (cv c).toArray] R (.bool (rt c)) R := by
 refine ab func77 ntmps77 ?_
 refine aS fun b1 => ?_
 refine am rfl (ao call169 (UA c h)) ?_
 rintro _ B_ ⟨at_, rfl, hB_⟩
 obtain rfl := hB_.symm
 refine aw ?_
 refine a8 ?_
 refine aE ?_
 refine Qah Value.bool ?_
 rw [Qae, rt]; simp
end
section
def cI (c : Cfg) (i : Nat) : Int × Int × Int := c.gl.getD i (0, 0, 0)
def dq (c : Cfg) : Nat → Int
 | 0 => 0
 | i + 1 => dq c i + ((cI c i).2.1 + (cI c i).2.2)
theorem rD (c : Cfg) : ∀ i, eu c i = dq c i + (c.nl.length : Int)
 | 0 => by rw [eu, dq, Int.zero_add]
 | i + 1 => by rw [eu, dq, rD c i, cI]; omega
def gX (c : Cfg) (f : Int) : Option Nat := ny (fun i => decide (f < dq c (i + 1))) c.gl.length
def aY (c : Cfg) : Nat := (eu c c.gl.length).toNat
def UB (b f : Int) : Option Nat → Int × Int
 | some i => (1, (i : Int))
 | none => (2, f - b)
def nH (c : Cfg) (f : Int) : Int × Int := if rt c = true ∧ 0 ≤ f ∧ f < eu c c.gl.length then UB (dq c c.gl.length) f (gX c f) else (0, 0)
structure CfR (c : Cfg) : Prop where
  g1 : 1 ≤ c.gl.length
  g4 : c.gl.length ≤ 4
  gs : ∀ i, i < c.gl.length → 1 ≤ (cI c i).2.1 ∧ (cI c i).2.1 ≤ 8 ∧ 0 ≤ (cI c i).2.2 ∧ (cI c i).2.2 ≤ 8 - (cI c i).2.1
  nn : c.nl.length ≤ 4
  nd : 1 ≤ eu c c.gl.length ∧ eu c c.gl.length ≤ 32
theorem pR {c : Cfg} (h : ∀ i, i < c.gl.length → 1 ≤ (cI c i).2.1 ∧ (cI c i).2.1 ≤ 8 ∧ 0 ≤ (cI c i).2.2 ∧ (cI c i).2.2 ≤ 8 - (cI c i).2.1) : ∀ i, i ≤ c.gl.length → (i : Int) ≤ dq c i ∧ dq c i ≤ 8 * i
 | 0, _ => by simp [dq]
 | i + 1, hi => by
  have := pR h i (by omega)
  have := h i (by omega)
  rw [dq]; omega
theorem UC {c : Cfg} (h : CfR c) {i : Nat} (hi : i < c.gl.length) : dq c i < dq c (i + 1) := by
 have := h.gs i hi
 rw [dq]; omega
theorem AW {c : Cfg} (h : CfR c) {i j : Nat} (hij : i ≤ j) (hj : j ≤ c.gl.length) : dq c i ≤ dq c j := by
 induction j with
 | zero => obtain rfl : i = 0 := by omega
           exact QcD _
 | succ j ih =>
  rcases QaD i (j + 1) with k | k
  have := ih (by omega) (by omega)
  have := UC h (i := j) (by omega)
  omega
  grind
theorem kW {c : Cfg} (h : rt c = true) : CfR c := by
 obtain ⟨_, _, k1, _, _, k2, _, _, k3⟩ := Fi h
 obtain ⟨g1, g4, gs⟩ := tc k1
 have hn : c.nl.length ≤ 4 := by
  grind [gQ]
 have hg : ∀ i, i < c.gl.length → 1 ≤ (cI c i).2.1 ∧ (cI c i).2.1 ≤ 8 ∧ 0 ≤ (cI c i).2.2 ∧ (cI c i).2.2 ≤ 8 - (cI c i).2.1 := fun i hi => by
  have := (gs _ (QaK hi)).2
  rwa [show cI c i = c.gl[i] by simp [cI, List.getD, hi]]
 have := pR hg c.gl.length (Qap _)
 exact ⟨g1, g4, hg, hn, by rw [rD]; omega, k3⟩
theorem vm {c : Cfg} (h : CfR c) {f : Int} {i : Nat} : (gX c f = some i ↔ i < c.gl.length ∧ f < dq c (i + 1) ∧ (0 < i → dq c i ≤ f)) := by
 rw [gX, ny, List.find?_eq_some_iff_getElem]
 simp only [Qag]
 constructor
 rintro ⟨h1, k, hk, rfl, h2⟩
 rw [Qcg] at h1 ⊢
 simp only [Qco] at hk
 refine ⟨hk, h1, fun h0 => ?_⟩
 have := h2 (k - 1) (by omega)
 simp only [Qcg, Bool.not_eq_true', decide_eq_false_iff_not] at this
 rw [show k - 1 + 1 = k by omega] at this
 omega
 rintro ⟨h1, h2, h3⟩
 refine ⟨h2, i, by simpa using h1, by simp, fun j hj => ?_⟩
 simp only [Qcg, Bool.not_eq_true', decide_eq_false_iff_not]
 have := AW h (i := j + 1) (j := i) (by omega) (by omega)
 have := h3 (by omega)
 omega
def rE : Option Nat → Int × Bool
 | some i => ((i : Int), false)
 | none => (-1, false)
def dj (c : Cfg) (k : Nat) : Po := (List.range (aY c)).map fun g => if g < k then rE (gX c g) else (-1, false)
theorem m4 (c : Cfg) (k : Nat) : (dj c k).length = aY c := by simp [dj]
theorem pS {c : Cfg} {k f : Nat} (hf : f < aY c) : cV (dj c k) f = if f < k then rE (gX c f) else (-1, false) := by
 grind [cV, dj]
theorem xP (c : Cfg) : dj c 0 = List.replicate (aY c) (-1, false) := by
 apply QaQ
 simp [dj]
 grind [dj]
theorem FF {c : Cfg} {k i : Nat} (hk : k < aY c) (h : gX c k = some i) : dj c (k + 1) = (dj c k).set k ((i : Int), false) := by
 apply QaQ
 simp [dj]
 intro j h1 h2
 rw [List.getElem_set]
 simp only [dj, List.getElem_map, Qcg]
 by_cases e : k = j
 grind [rE]
 grind
theorem FG {c : Cfg} {k : Nat} (h : gX c k = none) : dj c (k + 1) = dj c k := by
 apply QaQ
 simp [dj]
 grind [dj, Qcg, rE]
theorem vn {c : Cfg} (h : CfR c) (k : Nat) : PoOk (dj c k) := ⟨by rw [m4, aY]; have := h.nd; omega, fun f hf => by
 rw [m4] at hf
 rw [pS hf]
 split
 cases e : gX c f with
 | none => simp [rE]
 | some i =>
  have := ((vm h).1 e).1
  have := h.g4
  simp only [rE]; omega
 simp⟩
theorem FH : ∀ {l m : List Nat}, l.Nodup → (∀ x ∈ l, x ∈ m) → l.length ≤ m.length
 | [], _, _, _ => QaU _
 | x :: l, m, hd, h => by
  rw [QbW] at hd
  have hx := h x (by simp)
  have := FH (l := l) (m := m.erase x) hd.2 fun y hy => by
   have hne : y ≠ x := fun e => hd.1 (by grind)
   rw [List.mem_erase_of_ne hne]
   exact h y (Qai _ hy)
  rw [List.length_erase_of_mem hx] at this
  have := List.length_pos_of_mem hx
  rw [QaE]; omega
theorem FI {c : Cfg} (h : CfR c) {i : Nat} (hi : i < c.gl.length) : (cI c i).2.1 + (cI c i).2.2 ≤ ((bP (dj c (aY c)) i).length : Int) := by
 obtain ⟨a, ha⟩ : ∃ a : Nat, dq c i = (a : Int) := ⟨(dq c i).toNat, by have := pR h.gs i (by omega); omega⟩
 have hg := h.gs i hi
 obtain ⟨n, hn⟩ : ∃ n : Nat, (cI c i).2.1 + (cI c i).2.2 = (n : Int) := ⟨((cI c i).2.1 + (cI c i).2.2).toNat, by omega⟩
 have hs : dq c (i + 1) = (a : Int) + n := by rw [dq, ha, hn]
 have hl := AW h (i := i + 1) (j := c.gl.length) (by omega) (Qap _)
 have hnd := rD c c.gl.length
 have hsub : ∀ x ∈ List.range' a n, x ∈ bP (dj c (aY c)) i := fun x hx => by
  rw [List.mem_range'_1] at hx
  have hxn : x < aY c := by rw [aY]; omega
  rw [kv, m4, pS hxn, Qaf hxn, (vm h (i := i)).2 ⟨hi, by omega, fun _ => by omega⟩]
  exact ⟨hxn, rfl⟩
 have hd : (List.range' a n).Nodup := List.nodup_range' ..
 have := FH hd hsub
 rw [List.length_range'] at this
 rw [hn]; omega
end
section
open Go.RowKit
structure CfK (W0 : World) (c : Cfg) : Prop where
  ok : CfOk W0 c
  gc : c.gl.length ≤ c.gc
theorem FJ {c : Cfg} (h : CfR c) : (∀ g ∈ c.gl, 1 ≤ g.2.1 ∧ g.2.1 ≤ 8 ∧ 0 ≤ g.2.2 ∧ g.2.2 ≤ 8 - g.2.1) := fun g hg => by
 obtain ⟨i, hi, rfl⟩ := Qbn hg
 have := h.gs i hi
 rwa [show cI c i = c.gl[i] by simp [cI, List.getD, hi]] at this
def nI (c : Cfg) : Nat := if rt c then aY c else 0
theorem UD (c : Cfg) (h : CfK W0 c) (hR : CfR c) (n : Nat) (hn : n ≤ c.gl.length) : sQ W0 261 [.agg (cv c).toArray, iQ n] R (iQ (dq c n)) R := by
 have hgc := h.gc
 have hg4 := hR.g4
 refine ab func261 ntmps261 ?_
 refine aS fun b1 => ?_
 refine a6 (lO k0 j5 rfl rfl (h := n) rfl (by omega)) ?_
 refine cK (fun i : Nat => i ≤ n) (fun i => [(5, iQ (dq c i)), (11, .slice c.ga n c.gc), (12, iQ n), (13, iQ i)]) (fun _ => R) (fun i => n - i) 0 ?_ ?_
 omega
 intro i hi
 refine aw ?_
 refine ag (fun c3 => ?_) fun c3 => ?_
 have hi1 : i < c.gl.length := by omega
 have hin : i < n := by omega
 obtain ⟨g, o, hga, hc⟩ := (h.ok.g R).at_ hi1
 obtain ⟨x, hx⟩ : ∃ x, c.gl[i] = x := ⟨_, rfl⟩
 rw [hx] at hc
 have hA : cI c i = x := by grind [cI]
 have hbx := hR.gs i hi1
 rw [hA] at hbx
 have hst : dq c (i + 1) = dq c i + (x.2.1 + x.2.2) := by rw [dq, hA]
 have hl1 := pR hR.gs i (by omega)
 refine a6 (dH k0 j5 rfl hga rfl rfl hin (by first | exact Qab _ | rfl)) ?_
 refine a6 (cJ hc.weak) ?_
 refine bu fun bx => ?_
 refine eW (fG j5 rfl rfl rfl rfl rfl) ?_
 rintro _ _ rfl
 refine aN (aD (aZ (aa rfl (aL rfl) ?_)))
 refine aa rfl (cG rfl jF rfl aO rfl (by first | exact Qab _ | rfl)) ?_
 refine aa rfl (bW cP rfl (aF rfl)) ?_
 refine aa rfl (cG rfl jF rfl aO rfl (by first | exact Qab _ | rfl)) ?_
 refine aa rfl (bW cP rfl (aF rfl)) ?_
 refine aa rfl (dr rfl rfl (bN (by omega))) ?_
 refine a6 (dr rfl rfl (by rw [bN (by omega)]; exact hst.symm : IntKind.wrap .i64 (dq c i + (x.2.1 + x.2.2)) = dq c (i + 1))) ?_
 refine a6 bS ?_
 exact bE (i + 1) (by omega)
 refine a8 ?_
 obtain rfl : i = n := by omega
 exact aj
theorem UE {c : Cfg} {f : Int} {i : Nat} (hi : i < c.gl.length) (h : f < dq c (i + 1)) (hI : ∀ j, j < i → ¬ f < dq c (j + 1)) : gX c f = some i :=
  EX hi (Qak h) fun j hj => Qaq (hI j hj)
theorem UF {c : Cfg} {f : Int} (hI : ∀ j, j < c.gl.length → ¬ f < dq c (j + 1)) : gX c f = none := EY fun j hj => Qaq (hI j hj)
@[reducible] def tf (x : Int × Int) : List Value := [.int .i64 x.1, .int .i64 x.2]
def jQ (c : Cfg) (i : Int) : Int := if rt c = true ∧ 0 ≤ i ∧ i < c.nl.length then dq c c.gl.length + i else -1
theorem UG (c : Cfg) (h : CfK W0 c) (i : Int) : sQ W0 176 [.agg (cv c).toArray, iQ i] R (iQ (jQ c i)) R := by
 obtain ⟨w, hw⟩ : ∃ w, rt c = w := ⟨_, rfl⟩
 have hO : jQ c i = if w = true ∧ 0 ≤ i ∧ i < c.nl.length then dq c c.gl.length + i else -1 := by rw [jQ, hw]
 rw [hO]
 refine ab func176 ntmps176 ?_
 refine aS fun b2 => ?_
 refine ac (ao call260 (TK c h.ok)) ?_
 rw [hw]
 refine cA (fun g1_4 => ?_) fun g1_4 => ?_
 refine a8 ?_
 rw [Qac (by grind)]
 exact aj
 refine cA (fun g1_8 => ?_) fun g1_8 => ?_
 refine a8 ?_
 rw [Qac (by grind)]
 exact aj
 refine ag (fun c1 => ?_) fun c1 => ?_
 refine a8 ?_
 rw [Qac (by grind)]
 exact aj
 have hw1 : w = true := by simp_all
 have hR := kW (hw.trans hw1)
 have hg4 := hR.g4
 have hnn := hR.nn
 have hlt : i < c.nl.length := by omega
 rw [Qaf ⟨hw1, by omega, hlt⟩]
 have hbn := pR hR.gs c.gl.length (Qap _)
 refine ac (ao call261 (UD c h hR c.gl.length (Qap _))) ?_
 refine a6 bS ?_
 exact a8 aj
theorem AX (c : Cfg) (h : CfOk W0 c) : sQ W0 16 [.agg (cv c).toArray] R (iQ (nI c : Nat)) R := by
 refine ab func16 ntmps16 ?_
 refine aS fun b1 => ?_
 refine ac (ao wc (te c h)) ?_
 refine ag (fun c1 => ?_) fun c1 => ?_
 refine a8 ?_
 have hr : rt c = false := by grind
 rw [nI, hr]
 exact aj
 have hr : rt c = true := by grind
 have hR := kW hr
 refine ac (ao wa (td c h.g (FJ hR) hR.nn hR.g4)) ?_
 refine a8 ?_
 have hn : ((nI c : Nat) : Int) = eu c c.gl.length := by
  have := hR.nd
  rw [nI, Qaf hr, aY]; omega
 rw [hn]
 exact aj
theorem FK (c : Cfg) (h : CfK W0 c) (f : Nat) (hr : rt c = true) (hf : (f : Int) < eu c c.gl.length) : sQ W0 21 [.agg (cv c).toArray, iQ f] R (.agg (tf (nH c f)).toArray) R := by
 have hR := kW hr
 have hg4 := hR.g4
 have hnd := hR.nd
 have hnb := rD c c.gl.length
 rw [nH, Qaf ⟨hr, by omega, hf⟩]
 refine ab func21 ntmps21 ?_
 refine aS fun b2 => ?_
 refine bu fun b4 => ?_
 refine ac (ao wc (te c h.ok)) ?_
 rw [hr]
 refine cA (fun g1_4 => ?_) fun g1_4 => ?_
 exact absurd g1_4 (by decide)
 refine aA rfl (fun c1 => ?_) fun c1 => ?_
 first | exact absurd c1 (by decide) | (exfalso; omega)
 refine aw ?_
 refine cK (fun i : Nat => i ≤ c.gl.length ∧ ∀ j, j < i → ¬ (f : Int) < dq c (j + 1)) (fun i => [(1, iQ f), (2, pQ b2), (4, pQ b4), (5, iQ (dq c i)), (6, iQ i)]) (fun _ => pt b2 (dW c) :: pt b4 (a7 [iQ 0, iQ 0] 68) :: R) (fun i => c.gl.length - i) 0 ?_ ?_
 grind
 intro i ⟨hi, hI⟩
 refine aw ?_
 refine ag (fun c5 => ?_) fun c5 => ?_
 have hi1 : i < c.gl.length := by omega
 obtain ⟨g, o, hga, hc⟩ := (h.ok.g []).at_ hi1
 obtain ⟨x, hx⟩ : ∃ x, c.gl[i] = x := ⟨_, rfl⟩
 rw [hx] at hc
 have hA : cI c i = x := by grind [cI]
 have hbx := hR.gs i hi1
 rw [hA] at hbx
 have hst : dq c (i + 1) = dq c i + (x.2.1 + x.2.2) := by rw [dq, hA]
 have hl1 := pR hR.gs i (by omega)
 refine fH [(b2, 0, cv c), (g, o + i * 3, eQ x)] 16 mixed rfl (bZ (cB hc.weak bL)) (fun hS => ?_)
 refine ae 0 4 hS ?_
 refine av 4 hS (dH k0 j5 rfl hga rfl rfl hi1 (by first | exact Qab _ | rfl)) ?_
 refine ae 5 1 hS ?_
 refine av 6 hS (aG (iy (k := 1) (j := 1) rfl rfl)) ?_
 refine av 7 hS bS ?_
 refine ae 8 3 hS ?_
 refine av 11 hS (dH k0 j5 rfl hga rfl rfl hi1 (by first | exact Qab _ | rfl)) ?_
 refine ae 12 1 hS ?_
 refine av 13 hS (aG (iy (k := 1) (j := 2) rfl rfl)) ?_
 refine av 14 hS (Dj (dq c (i + 1))) ?_
 refine ae 15 1 hS ?_
 refine aI ?_
 refine ag (fun c8 => ?_) fun c8 => ?_
 refine ax aC ?_
 refine bi (.cons (bD IQ C4 rfl rfl) .nil) ?_
 rw [UE hi1 c8 hI]
 exact aj
 refine a6 bS ?_
 refine bE (i + 1) ?_
 refine ⟨by omega, fun j hj => ?_⟩
 rcases QaD j i with q | q
 exact hI j q
 rw [show j = i by omega]; exact c8
 obtain rfl : i = c.gl.length := by omega
 rw [UF hI]
 have hbn := pR hR.gs c.gl.length (Qap _)
 refine a6 eX ?_
 refine aA rfl (fun c10 => ?_) fun c10 => ?_
 refine au 4 ?_
 refine a6 eX ?_
 refine ax aC ?_
 exact bi (.cons (bD IQ C4 rfl rfl) .nil) aj
 omega
theorem UH (c : Cfg) (h : CfOk W0 c) (hr : rt c = true) (i : Int) (h0 : 0 ≤ i) (hi : i < c.nl.length) : sQ W0 95 [.agg (cv c).toArray, iQ i] R (iQ (jQ c i)) R := by
 have hR := kW hr
 have hnd := hR.nd
 have hnn := hR.nn
 have hnb := rD c c.gl.length
 rw [jQ, Qaf ⟨hr, h0, hi⟩]
 refine ab func95 ntmps95 ?_
 refine aS fun b2 => ?_
 refine ac (ao wc (te c h)) ?_
 rw [hr]
 refine cA (fun g1_4 => ?_) fun g1_4 => ?_
 exact absurd g1_4 (by decide)
 refine cR rfl rfl rfl (fun g1_8 => ?_) fun g1_8 => ?_
 first | exact absurd g1_8 (by decide) | (exfalso; omega)
 refine aw ?_
 refine aA rfl (fun c1 => ?_) fun c1 => ?_
 first | exact absurd c1 (by decide) | (exfalso; omega)
 refine aw ?_
 refine bB [b2] 9 fun hS => ?_
 refine ae 0 1 hS ?_
 refine ae 2 3 hS ?_
 refine ae 6 1 hS ?_
 refine bJ 1 (ao wa (td c h.g (FJ hR) hR.nn hR.g4)) fun hS => ?_
 refine av 5 hS eX ?_
 refine av 7 hS (Dj (dq c c.gl.length + i)) ?_
 refine ae 8 1 hS ?_
 refine aI ?_
 exact a8 aj
abbrev d8 (rl : List Nat) (pc : Nat) : Obj := a7 (rl.map wV ++ [.bool true, wV pc]) 290
theorem a3I {rl : List Nat} {pc : Nat} (h : rl.length = 16) : (rl.map wV ++ [Value.bool true, wV pc]).length = 18 := by simp [h]
theorem UI {rl : List Nat} {pc : Nat} (h : rl.length = 16) : ((rl.map wV ++ [Value.bool true, wV pc]).drop 0).take 16 = rl.map wV := by
 grind
theorem FL {rl : List Nat} {pc : Nat} (h : rl.length = 16) : (rl.map wV ++ [Value.bool true, wV pc])[16]? = some (.bool true) := by
 grind
theorem UJ {rl : List Nat} {pc : Nat} (h : rl.length = 16) : (rl.map wV ++ [Value.bool true, wV pc])[17]? = some (wV pc) := by
 grind
theorem UK {rl : List Nat} {pc q : Nat} (h : rl.length = 16) : (rl.map wV ++ [Value.bool true, wV pc]).set 17 (wV q) = rl.map wV ++ [.bool true, wV q] := by
 simp_all
theorem UL {rl : List Nat} {pc i x : Nat} (h : rl.length = 16) (hi : i < 16) : (rl.map wV ++ [Value.bool true, wV pc]).set (i * 1) (wV x) = (rl.set i x).map wV ++ [.bool true, wV pc] := by
 simp_all
theorem xQ (rl : List Nat) : ec (rl.map wV) = true := by simp [ec, wV, Value.oneCell']
section
variable {P : Program} {S : World → Prop} {N : FSz} {e : aH} {t : TypeId} {l : List Value} {v : Value}
theorem UM {E n i : Nat} {y : Operand} (hu : P.underlying t = some (.array n E)) (hs : ∀ w, (sizeOf E).run P w = .ok 1 w) (hz : ∀ w, (zeroValue t).run P w = .ok (.agg l.toArray) w)
    (hy : ev e y = some v) (h1 : v.oneCell' = true) (hi : i < l.length) : aW P S N e (.build t #[(i, y)]) (.agg (l.set i v).toArray) := fun a w _ _ _ _ _ hF _ => by
 have hb : Instr.build t ((#[(i, y)] : Array (Nat × Operand)).map fun (i, x) => (i, a.eval x)) = (do
     let zero := (← zeroValue t).cells
     match ← underlying t with
     | .struct fields =>
       let places ← fields.mapM pp
       let some cells := Instr.fill (places[·]?) zero ((#[(i, y)] : Array (Nat × Operand)).map fun (i, x) => (i, a.eval x)).toList | stuck "build: no such field, or a part of the wrong size"
       pure (.agg cells)
     | .array _ elem =>
       let size ← sizeOf elem
       let some cells := Instr.fill (fun i => some (i * size, size)) zero ((#[(i, y)] : Array (Nat × Operand)).map fun (i, x) => (i, a.eval x)).toList | stuck "build: a part of the wrong size"
       pure (.agg cells)
     | _ => stuck "build: struct or array type expected") := rfl
 have hc : ¬ (i + 1 > l.length) := by omega
 have hf : Instr.fill (fun i => some (i * 1, 1)) l.toArray [(i, a.eval y)] = some (l.set i v).toArray := by
  simp only [Instr.fill, hF.eval hy, qE h1, QaA]
  simp [hc]
 simp only [execOp, hb, Sem.run_bind, hz, dU hu, hs, Result.andThen_ok, Value.cells, Sem.run_pure, QbQ, QaG, QbO]
 rw [hf]; rfl
end
theorem UN : sP W0 179 [] R (fun v B => ∃ b, v = pQ b ∧ B = pt b (d8 (List.replicate 16 0) 0) :: R) := by
 refine ab func179 ntmps179 ?_
 refine a6 (fw a1M zeroValue290 (aM Ic (aM bF fq)) (iP rfl Ic rfl rfl (Qaa rfl) rfl fp)) ?_
 refine aS fun b1 => ?_
 refine a8 ?_
 exact ⟨_, ⟨_, rfl, rfl⟩, ent_refl⟩
theorem FM (b : Nat) (rl : List Nat) (pc : Nat) (hl : rl.length = 16) : sQ W0 75 [pQ b] (pt b (d8 rl pc) :: R) (.agg (rl.map wV).toArray) (pt b (d8 rl pc) :: R) := by
 refine ab func75 ntmps75 ?_
 refine dX (dt a11) fun b1 => ?_
 refine aw ?_
 refine aA rfl (fun c1 => ?_) fun c1 => ?_
 cases c1
 refine aw ?_
 refine aa rfl (eV wd mJ rfl (bU (b := b) (UI hl) (by grind)) (by grind)) ?_
 refine ax (fG mJ rfl rfl (by grind) (xQ rl) rfl) ?_
 exact bi (.cons (bD wd mJ rfl (by grind)) .nil) aj
theorem pT (b : Nat) (rl : List Nat) (pc : Nat) (hl : rl.length = 16) : sQ W0 76 [pQ b] (pt b (d8 rl pc) :: R) (wV pc) (pt b (d8 rl pc) :: R) := by
 refine js 12 func76 ntmps76 ?_
 refine aA rfl (fun c1 => ?_) fun c1 => ?_
 cases c1
 refine aw ?_
 refine gJ 4 (aG (aF (UJ hl))) ?_
 exact a8 aj
theorem xR (b : Nat) (rl : List Nat) (pc q : Nat) (hl : rl.length = 16) : sQ W0 142 [pQ b, wV q] (pt b (d8 rl pc) :: R) (iQ 0) (pt b (d8 rl q) :: R) := by
 refine ab func142 ntmps142 ?_
 refine cR rfl rfl rfl (fun g1_3 => ?_) fun g1_3 => ?_
 cases g1_3
 refine aw ?_
 refine gJ 5 (aG (aF (FL hl))) ?_
 refine i5 ?_
 refine iT 8 (dx (by grind) (UK hl)) ?_
 exact a8 aj
def kB (i : Int) : Bool := decide (0 ≤ i ∧ i < 16)
theorem xS (b : Nat) (rl : List Nat) (pc : Nat) (hl : rl.length = 16) (i : Int) : sQ W0 203 [pQ b, iQ i] (pt b (d8 rl pc) :: R) (iQ (if kB i then 0 else 1)) (pt b (d8 rl pc) :: R) := by
 refine ab func203 ntmps203 ?_
 refine gJ 4 (aG (aF (FL hl))) ?_
 refine i5 ?_
 refine aA rfl (fun c3 => ?_) fun c3 => ?_
 refine jj ?_
 refine aD (D7 rfl (aP (aZ (aa rfl (bC rfl) (aN (aD (dT (mP (lc (a8 ?_))))))))))
 rw [Qac (by grind [kB])]
 exact aj
 refine aw ?_
 refine ag (fun c4 => ?_) fun c4 => ?_
 refine a8 ?_
 rw [Qac (by grind [kB])]
 exact aj
 refine a8 ?_
 rw [Qaf (by grind [kB])]
 exact aj
theorem UO (b : Nat) (rl : List Nat) (pc i x : Nat) (hl : rl.length = 16) (hi : i < 16) (h0 : i ≠ 0) : sQ W0 204 [pQ b, iQ i, wV x] (pt b (d8 rl pc) :: R) (.tuple #[]) (pt b (d8 (rl.set i x) pc) :: R) := by
 refine ab func204 ntmps204 ?_
 refine aA rfl (fun c0 => ?_) fun c0 => ?_
 refine au 6 ?_
 refine a6 (i4 hi) ?_
 refine ax (dx (by grind) (UL hl hi)) ?_
 refine bM (.inr rfl) .nil ?_
 exact aj
 simp at c0; omega
theorem UP (W0 : World) (R : List HP) (b : Nat) (rl : List Nat) (pc i x : Nat) (hl : rl.length = 16) (hi : i < 16) (h0 : i ≠ 0) : sQ W0 141 [pQ b, iQ i, wV x] (pt b (d8 rl pc) :: R) (iQ 0) (pt b (d8 (rl.set i x) pc) :: R) := by
 have hir : kB i = true := by grind [kB]
 refine js 12 IR ntmps141 ?_
 refine aA rfl (fun c1 => ?_) fun c1 => ?_
 cases c1
 refine aw ?_
 refine dK 10 (ah Cs (xS b rl pc hl i)) ?_
 refine ag (fun c4 => ?_) fun c4 => ?_
 refine ac (ah call204 (UO b rl pc i x hl hi h0)) ?_
 refine a8 ?_
 rw [hir]
 exact aj
 exact absurd (by rw [hir]; rfl) c4
abbrev FN (id : Nat) : Obj := a7 ([wV 0, wV 0, wV 0, wV 0, wV 0, wV 4, wV 0] ++ [.int .i64 id, .bool true]) 219
theorem UQ : sQ W0 262 [] R (.agg #[wV 0, wV 0, wV 0, wV 0, wV 0, wV 4, wV 0]) R := by
 refine ab func262 ntmps262 ?_
 refine bu fun b1 => ?_
 refine a6 (UM kF bF Cf rfl rfl (by decide)) ?_
 refine ax aC ?_
 exact bi (.cons (bD zg nU rfl rfl) .nil) aj
theorem UR (i : Nat) (hi : i < 4) : sP W0 177 [iQ i] R (fun v B => ∃ b, v = .tuple #[pQ b, iQ 0] ∧ B = pt b (FN i) :: R) := by
 refine ab func177 ntmps177 ?_
 refine cR rfl rfl rfl (fun g1_3 => ?_) fun g1_3 => ?_
 omega
 refine aw ?_
 refine aA rfl (fun c1 => ?_) fun c1 => ?_
 omega
 refine aw ?_
 refine ac (ao call262 (UQ)) ?_
 refine a6 (fw a1K zeroValue219 (aM nU (aM aO (aM jZ fq))) (iP rfl nU rfl rfl (Qaa rfl) SetRL.eq (cQ rfl aO rfl rfl (Qaa rfl) SetL.eq (cQ rfl jZ rfl rfl (Qaa rfl) SetL.eq fp)))) ?_
 refine aS fun b1 => ?_
 refine az ?_
 exact ⟨_, ⟨_, rfl, rfl⟩, ent_refl⟩
abbrev pU : Obj := a7 ([.bool false, .bool false, .int .i64 0, .int .i64 0, .bool false, .bool false, .int .i64 0, .int .i64 0, .bool false, .bool false, .int .i64 0, .int .i64 0, .bool false, .bool false, .int .i64 0, .int .i64 0, .bool false, .bool false, .int .i64 0, .int .i64 0, .bool false, .bool false, .int .i64 0, .int .i64 0, .bool false, .bool false, .int .i64 0, .int .i64 0, .bool false, .bool false, .int .i64 0, .int .i64 0, .slice none 0 0, .int .i64 0, .bool false].set 34 (.bool true)) 229
theorem US : sP W0 180 [] R (fun v B => ∃ b, v = pQ b ∧ B = pt b pU :: R) := by
 refine ab func180 ntmps180 ?_
 refine aS fun b1 => ?_
 refine a8 ?_
 exact ⟨_, ⟨_, rfl, rfl⟩, ent_refl⟩
abbrev pW : Obj := a7 [dm, .bool false, .bool false, .bool false, .bool false, .int .i64 0, .bool true] 256
theorem UT : sP W0 181 [] R (fun v B => ∃ b, v = pQ b ∧ B = pt b pW :: R) := by
 refine ab func181 ntmps181 ?_
 refine aS fun b1 => ?_
 refine a8 ?_
 exact ⟨_, ⟨_, rfl, rfl⟩, ent_refl⟩
abbrev kX : Obj := a7 [dm, .bool true] 211
theorem UU : sP W0 92 [] R (fun v B => ∃ b, v = pQ b ∧ B = pt b kX :: R) := by
 refine ab func92 ntmps92 ?_
 refine aS fun b1 => ?_
 refine a8 ?_
 exact ⟨_, ⟨_, rfl, rfl⟩, ent_refl⟩
structure Evt where
  k : Int
  clock : Int
  code : Nat
  val : Nat
  pc : Nat
  rl : List Nat
@[reducible] def dF (e : Evt) : List Value := [.int .i64 e.k, .int .i64 e.clock, wV e.code, wV e.val, wV e.pc] ++ (List.range 16).map fun i => wV (e.rl.getD i 0)
theorem pX (e : Evt) : (dF e).length = 21 := by simp [dF]
theorem UV {e : Evt} (h : e.rl.length = 16) : dF e = [iQ e.k, iQ e.clock, wV e.code, wV e.val, wV e.pc] ++ e.rl.map wV := by
 unfold dF; congr 1
 apply QaQ
 simp [h]
 grind
theorem UW (e : Evt) : ec (dF e) = true := by simp [ec, dF, wV, Value.oneCell']
def fi (b : Nat) (es : List Evt) : HP := chk (fun C => ∃ a c, C = [pt b (a7 [.slice a es.length c, .bool true] 302), osl 208 21 (.slice a es.length c) (es.flatMap dF)])
section
variable {P : Program} {W0 : World} {N : FSz} {K : Act → World → Prop} {e : aH} {A B R R1 R2 : List HP} {b n : Nat} {es : List Evt} {f : FuncId} {args : List Value} {Post : Value → List HP → Prop}
theorem xT [hk : Tk fi b A es R] (h : ∀ a c, ai W0 N K e (pt b (a7 [.slice a es.length c, .bool true] 302) :: osl 208 21 (.slice a es.length c) (es.flatMap dF) :: R)) : ai W0 N K e A :=
  fJ (r := fi) (b := b) (lP fun C hC => by obtain ⟨a, c, rfl⟩ := hC; exact h a c)
theorem vo {a : Option Addr} {c : Nat} {xs : List Value} [h1 : Tk pt b A (a7 [.slice a n c, .bool true] 302) R1] [h2 : Tk (osl 208 21) (.slice a n c) R1 xs R2] (hn : n = es.length) (hx : xs = es.flatMap dF) [k : Ent R2 B] : Ent A (fi b es :: B) := by
 subst hn; subst hx
 exact (Ent.ofPerm (h1.perm.trans (h2.perm.cons _))).trans ((Ent.cons (Ent.cons k)).trans (en (R := B) (C := [_, _]) ⟨a, c, rfl⟩))
end
theorem UX : sP W0 93 [] R (fun v B => ∃ b, v = pQ b ∧ B = fi b [] :: R) := by
 refine ab func93 ntmps93 ?_
 refine aS fun b1 => ?_
 refine a8 ?_
 exact ⟨_, ⟨_, rfl, rfl⟩, (Ent.cons (eH (E := 208) (sz := 21) (A := R) (B := R))).trans (en (R := R) (C := [_, _]) ⟨none, 0, rfl⟩)⟩
theorem AY (b : Nat) (es : List Evt) : sQ W0 190 [pQ b] (fi b es :: R) (.bool false) (fi b es :: R) := by
 refine ab func190 ntmps190 ?_
 refine xT (b := b) fun a c => ?_
 refine aw ?_
 refine cR rfl rfl rfl (fun g1_3 => ?_) fun g1_3 => ?_
 cases g1_3
 refine aw ?_
 refine a8 ?_
 exact ⟨_, ⟨rfl, rfl⟩, vo rfl rfl⟩
theorem UY (W0 : World) (R : List HP) (b : Nat) (es : List Evt) (x : Evt) (hn : es.length < 4096) : sQ W0 202 [pQ b, .agg (dF x).toArray] (fi b es :: R) (iQ 0) (fi b (es ++ [x]) :: R) := by
 have he : es.flatMap dF ++ [dF x].flatten = (es ++ [x]).flatMap dF := by simp
 refine ab func202 ntmps202 ?_
 refine dX (i3 rfl) fun b3 => ?_
 refine aa rfl (bC rfl) (aN (aD (aP (l9 (aP (aZ (aa rfl (aL rfl) (am rfl (lh IS rfl (AY b es)) ?_))))))))
 rintro _ B_ ⟨rfl, hB_⟩
 obtain rfl := hB_.symm
 refine aa rfl (bC rfl) (aN (aD ?_))
 refine aA rfl (fun c1 => ?_) fun c1 => ?_
 exact absurd c1 (by decide)
 refine aP ?_
 refine xT (b := b) fun a c => ?_
 refine aZ (aa rfl (aL rfl) (aa rfl (jp rfl) ?_))
 refine aa rfl (cG rfl a1N rfl C6 rfl (by first | exact Qab _ | rfl)) ?_
 refine aa rfl (bW I7 rfl (aF rfl)) ?_
 refine aa rfl (wA mK rfl) (aa rfl (zA rfl rfl) (aa rfl (bC rfl) (aN (aD ?_))))
 refine aA rfl (fun c3 => ?_) fun c3 => ?_
 omega
 refine jj (lL (aD (aP ?_)))
 refine bB [b3] 11 fun hS => ?_
 refine ae 0 4 hS ?_
 refine av 5 hS (eV IT qw rfl (gr (k := 0) rfl) (pX x)) ?_
 refine eG (is := [4, 6]) (by kernel_rfl) rfl ⟨?_, ?_, trivial⟩
 refine di (db (aG (aF rfl))) ?_; clear hS
 rintro _ _ ⟨rfl, rfl⟩
 refine ⟨aK, fun hS => ?_⟩
 refine li 6 (by kernel_rfl) rfl rfl (iz mK qw IU rfl (eJ rfl rfl gG) rfl (by decide) (by decide) (by decide)) rfl ?_; clear hS
 rintro _ _ ⟨b2, rfl, rfl⟩
 refine ⟨aK, fun hS => ?_⟩
 refine cg 7 (eI (sz := 21) (by_ := 96) (info := Tryz.t208) mK (by kernel_rfl) rfl rfl rfl rfl (by decide) rfl rfl eA rfl rfl (by simp only [maxLen]; omega) (by omega)) ?_; clear hS
 rintro _ _ ⟨a3, c3, rfl, rfl⟩
 refine ⟨aK, fun hS => ?_⟩
 refine ae 8 2 hS ?_
 refine cq 10 dy fun hS => ?_
 refine fy ?_
 refine aD (aP (aZ (aa rfl (bC rfl) (aN (aD (dT (a8 ?_)))))))
 exact ⟨_, ⟨rfl, rfl⟩, vo (es := es ++ [x]) (by simp) he⟩
 skip
 refine kJ rfl rfl (iz mK qw IU rfl (eJ rfl rfl gG) rfl (by decide) (by decide) (by decide)) rfl ?_; clear hS
 rintro _ _ ⟨b2, rfl, rfl⟩
 refine ⟨aK, fun hS => ?_⟩
 refine bJ 4 (db (aG (aF rfl))) fun hS => ?_
 refine cg 7 (eI (sz := 21) (by_ := 96) (info := Tryz.t208) mK (by kernel_rfl) rfl rfl rfl rfl (by decide) rfl rfl eA rfl rfl (by simp only [maxLen]; omega) (by omega)) ?_; clear hS
 rintro _ _ ⟨a3, c3, rfl, rfl⟩
 refine ⟨aK, fun hS => ?_⟩
 refine ae 8 2 hS ?_
 refine cq 10 dy fun hS => ?_
 refine aI ?_
 refine a8 ?_
 exact ⟨_, ⟨rfl, rfl⟩, vo (es := es ++ [x]) (by simp) he⟩
end
section
structure It where
  kr : Int
  kp : Int
  ep : Int
  ef : Int
  er : Int
  u : Int
deriving DecidableEq
instance : Inhabited It := ⟨⟨0, 0, 0, 0, 0, 0⟩⟩
def It.key (x : It) : Int × Int := (x.kr, x.kp)
def It.ent (x : It) : Int × Int × Int := (x.ep, x.ef, x.er)
def aV (x : It) : List Value := [.int .i64 x.kr, .int .i64 x.kp, .int .i64 x.ep, .int .i64 x.ef, .int .i64 x.er, .int .i64 x.u]
theorem fN (x : It) : (aV x).length = 6 := rfl
def us (l : List It) (i : Nat) : Int := (l.getD i default).u
theorem us_eq {l : List It} {i : Nat} (h : i < l.length) : us l i = l[i].u := by simp [us, List.getD, h]
def swapL (l : List It) (i j : Nat) : List It := (l.set i (l.getD j default)).set j (l.getD i default)
theorem v4 (l : List It) (i j : Nat) : (swapL l i j).length = l.length := by simp [swapL]
theorem oC {l : List It} {i j : Nat} (hi : i < l.length) (hj : j < l.length) (x : Nat) : (swapL l i j).getD x default = if x = i then l.getD j default else if x = j then l.getD i default else l.getD x default := by
 grind [swapL]
theorem iX {l : List It} {i j : Nat} (hi : i < l.length) (hj : j < l.length) (x : Nat) : us (swapL l i j) x = if x = i then us l j else if x = j then us l i else us l x := by
 grind [us, oC]
theorem Al {α : Type} : ∀ (l : List α) (i j : Nat) (hi : i < l.length) (hj : j < l.length), ((l.set i l[j]).set j l[i]).Perm l := by
 grind [List.set_set_perm]
theorem iC {l : List It} {i j : Nat} (hi : i < l.length) (hj : j < l.length) : (swapL l i j).Perm l := by
 grind [Al, swapL]
def Heap (l : List It) (n : Nat) : Prop := ∀ c, c < n → 0 < c → us l ((c - 1) / 2) ≤ us l c
def gL (l : List It) (i n : Nat) : Prop := ∀ c, c < n → 0 < c → (c ≠ i → (c - 1) / 2 ≠ i → us l ((c - 1) / 2) ≤ us l c) ∧ ((c - 1) / 2 = i → 0 < i → us l ((i - 1) / 2) ≤ us l c)
def Up (l : List It) (j n : Nat) : Prop := ∀ c, c < n → 0 < c → (c ≠ j → us l ((c - 1) / 2) ≤ us l c) ∧ ((c - 1) / 2 = j → 0 < j → us l ((j - 1) / 2) ≤ us l c)
theorem Am {l : List It} {i j n : Nat} (h : gL l i n) (hn : n ≤ l.length) (hj : j < n) (hc : (j - 1) / 2 = i) (h0 : 0 < j) (hlt : us l j < us l i)
    (hmin : ∀ c, c < n → 0 < c → (c - 1) / 2 = i → us l j ≤ us l c) : gL (swapL l i j) j n ∧ us (swapL l i j) ((j - 1) / 2) ≤ us (swapL l i j) j := by
 have hij : i < j := by omega
 have sw := iX (l := l) (i := i) (j := j) (by omega) (by omega)
 refine ⟨fun c hcn hc0 => ⟨fun h1 h2 => ?_, fun h1 h2 => ?_⟩, ?_⟩
 rw [sw, sw]
 by_cases e1 : c = i
 subst e1
 have := (h j hj h0).2 hc (by omega)
 rw [Qac (by omega), Qac (by omega), Qaf rfl]; exact this
 by_cases e2 : (c - 1) / 2 = i
 grind
 rw [Qac e2, Qac h2, Qac e1, Qac h1]; exact (h c hcn hc0).1 e1 e2
 rw [hc, sw, sw, Qaf rfl, Qac (by omega), Qac (by omega)]
 rw [← h1]; exact (h c hcn hc0).1 (by omega) (by omega)
 grind
theorem v5 {l : List It} {i n : Nat} (h : gL l i n) (hmin : ∀ c, c < n → 0 < c → (c - 1) / 2 = i → us l i ≤ us l c) (hp : 0 < i → us l ((i - 1) / 2) ≤ us l i) : Heap l n := fun c hc h0 => by
 by_cases e1 : (c - 1) / 2 = i
 grind
 by_cases e2 : c = i
 grind
 exact (h c hc h0).1 e2 e1
theorem xk {l : List It} {i n : Nat} (h : gL l i n) (hmin : ∀ c, c < n → 0 < c → (c - 1) / 2 = i → us l i ≤ us l c) : Up l i n := fun c hc h0 => ⟨fun e => by
 by_cases e1 : (c - 1) / 2 = i
 grind
 exact (h c hc h0).1 e e1, (h c hc h0).2⟩
theorem An {l : List It} {j n : Nat} (h : Up l j n) (hn : n ≤ l.length) (hj : j < n) (h0 : 0 < j) (hlt : us l j < us l ((j - 1) / 2)) : Up (swapL l ((j - 1) / 2) j) ((j - 1) / 2) n := by
 have sw := iX (l := l) (i := (j - 1) / 2) (j := j) (by omega) (by omega)
 intro c hc hc0
 refine ⟨fun h1 => ?_, fun h1 h2 => ?_⟩
 rw [sw, sw]
 by_cases e1 : c = j
 omega
 by_cases e2 : (c - 1) / 2 = (j - 1) / 2
 rw [Qaf e2, Qac (by omega), Qac e1]
 have := (h c hc hc0).1 e1; rw [e2] at this; omega
 by_cases e3 : (c - 1) / 2 = j
 rw [Qac e2, Qaf e3, Qac h1, Qac e1]; exact (h c hc hc0).2 e3 h0
 rw [Qac e2, Qac e3, Qac h1, Qac e1]; exact (h c hc hc0).1 e1
 rw [sw, sw, Qac (by omega), Qac (by omega)]
 have hp := (h ((j - 1) / 2) (by omega) h2).1 (by omega)
 by_cases e1 : c = j
 omega
 rw [Qac (by omega), Qac e1]
 have := (h c hc hc0).1 e1; rw [h1] at this; omega
theorem v6 {l : List It} {j n : Nat} (h : Up l j n) (hp : 0 < j → us l ((j - 1) / 2) ≤ us l j) : Heap l n := fun c hc h0 => by
 by_cases e : c = j
 grind
 exact (h c hc h0).1 e
theorem heap_min {l : List It} {n : Nat} (h : Heap l n) : ∀ c, c < n → us l 0 ≤ us l c := by
 intro c
 induction c using Nat.strongRecOn with
 | _ c ih =>
  intro hc
  by_cases h0 : c = 0
  grind
  have := h c hc (by omega)
  have := ih ((c - 1) / 2) (by omega) (by omega)
  omega
theorem xl {l : List It} {i : Nat} {x : It} {n : Nat} (h : Heap l n) (hi : i < l.length) : gL (l.set i x) i n := fun c hc h0 => by
 have e : ∀ y, y ≠ i → us (l.set i x) y = us l y := fun y hy => by
  unfold us; simp only [Qau]; rw [QaV (by omega)]
 refine ⟨fun h1 h2 => ?_, fun h1 h2 => ?_⟩
 rw [e _ h1, e _ h2]; exact h c hc h0
 rw [e _ (by omega), e _ (by omega)]
 have k1 := h c hc h0
 have k2 := h i (by omega) h2
 rw [h1] at k1; omega
theorem v7 {l l' : List It} {n : Nat} (h : ∀ i, i < n → l.getD i default = l'.getD i default) {i : Nat} (hi : i < n) : us l i = us l' i := by unfold us; rw [h i hi]
theorem Ao {l l' : List It} {n : Nat} (h : ∀ i, i < n → l.getD i default = l'.getD i default) (k : Heap l n) : Heap l' n := fun c hc h0 => by
 rw [← v7 h hc, ← v7 h (i := (c - 1) / 2) (by omega)]; exact k c hc h0
theorem Ap {l : List It} {n m : Nat} (h : Heap l n) (k : m ≤ n) : Heap l m := fun c hc h0 => h c (by omega) h0
structure Down (its l : List It) (i0 n : Nat) (moved : Bool) : Prop where
  perm : l.Perm its
  tail : ∀ x, n ≤ x → l.getD x default = its.getD x default
  no : moved = false → l = its ∧ ∀ c, c < n → 0 < c → (c - 1) / 2 = i0 → us its i0 ≤ us its c
  yes : moved = true → Heap l n
theorem v8 {l its : List It} {i i0 n : Nat} (hp : l.Perm its) (hi : i0 ≤ i) (hH : gL l i n) (ht : ∀ x, n ≤ x → l.getD x default = its.getD x default) (h0 : i = i0 → l = its)
    (hg : i0 < i → us l ((i - 1) / 2) ≤ us l i) (hmin : ∀ c, c < n → 0 < c → (c - 1) / 2 = i → us l i ≤ us l c) : Down its l i0 n (decide (i0 < i)) :=
  ⟨hp, ht, fun h => by
 have : i = i0 := by grind
 subst this
 obtain rfl := h0 rfl
 exact ⟨rfl, hmin⟩, fun h => by
 have : i0 < i := by simpa using h
 exact v5 hH hmin fun _ => hg this⟩
end
section
open Go.RowKit
def aJ (b : Nat) (x : List It × List Value) : HP := chk (fun C => ∃ a c, C = [pt b (a7 (.slice a x.1.length c :: x.2) 439), osl 446 6 (.slice a x.1.length c) (x.1.flatMap aV)])
section
variable {P : Program} {W0 : World} {R A : List HP} {b : Nat} {its : List It} {tl : List Value} {f : FuncId} {args : List Value} {Post : Value → List HP → Prop}
theorem tj (h : ∀ a c, bc P W0 f args (pt b (a7 (.slice a its.length c :: tl) 439) :: osl 446 6 (.slice a its.length c) (its.flatMap aV) :: R) Post) : bc P W0 f args (aJ b (its, tl) :: R) Post :=
  qK fun C hC => by obtain ⟨a, c, rfl⟩ := hC; exact h a c
theorem oL {a : Option Addr} {c n : Nat} {R1 R2 B : List HP} [h1 : Tk pt b A (a7 (.slice a n c :: tl) 439) R1] [h2 : Tk (osl 446 6) (.slice a n c) R1 (its.flatMap aV) R2] (hn : n = its.length) [k : Ent R2 B] : Ent A (aJ b (its, tl) :: B) := by
 subst hn
 exact (Ent.ofPerm (h1.perm.trans (h2.perm.cons _))).trans ((Ent.cons (Ent.cons k)).trans (en (R := B) (C := [_, _]) ⟨a, c, rfl⟩))
theorem AZ (h0 : its ≠ []) (h : ∀ g c sp, its.length ≤ c → c ≤ maxLen → (its.flatMap aV ++ sp).length = c * 6 → bc P W0 f args (pt b (a7 (.slice (some ⟨g, 0, none⟩) its.length c :: tl) 439) :: pt g (a7 (its.flatMap aV ++ sp) 446) :: R) Post) : bc P W0 f args (aJ b (its, tl) :: R) Post :=
  tj fun a c => mX (List.Perm.swap _ _ _) (uv (fun h1 h2 => by
      have := cj fN its
      rw [h2] at this
      exact absurd (QaB (by grind)) h0)
    (fun g n cap sp h1 h2 h3 h4 h5 => by
      cases h1
      exact mX (List.Perm.swap _ _ _) (h g _ sp h2 h3 h5)))
theorem xU {N : FSz} {K : Act → World → Prop} {e : aH} [hk : Tk aJ b A (its, tl) R] (h : ∀ a c, ai W0 N K e (pt b (a7 (.slice a its.length c :: tl) 439) :: osl 446 6 (.slice a its.length c) (its.flatMap aV) :: R)) : ai W0 N K e A :=
  fJ (r := aJ) (b := b) (lP fun C hC => by obtain ⟨a, c, rfl⟩ := hC; exact h a c)
theorem xV {N : FSz} {K : Act → World → Prop} {e : aH} [hk : Tk aJ b A (its, tl) R] (h0 : its ≠ []) (h : ∀ g c sp, its.length ≤ c → c ≤ maxLen → (its.flatMap aV ++ sp).length = c * 6 → ai W0 N K e (pt b (a7 (.slice (some ⟨g, 0, none⟩) its.length c :: tl) 439) :: pt g (a7 (its.flatMap aV ++ sp) 446) :: R)) : ai W0 N K e A :=
  xU (b := b) fun a c => mg (List.Perm.swap _ _ _) (kc (fun h1 h2 => by
      have := cj fN its
      rw [h2] at this
      exact absurd (QaB (by grind)) h0)
    (fun g n cap sp h1 h2 h3 h4 h5 => by
      cases h1
      exact mg (List.Perm.swap _ _ _) (h g _ sp h2 h3 h5)))
theorem xW [hk : Tk aJ b A (its, tl) R] : aT (aB W0 A) b 1 tl := fun i v hi w (hO : Own W0 w A) => by
 obtain ⟨C, ⟨a, c, rfl⟩, hO'⟩ := (hO.tk (r := aJ) (b := b)).chk
 have h1 : Own W0 w (pt b (a7 (.slice a its.length c :: tl) 439) :: (osl 446 6 (.slice a its.length c) (its.flatMap aV) :: R)) := hO'
 have h2 : iu (aB W0 (pt b (a7 (.slice a its.length c :: tl) 439) :: (osl 446 6 (.slice a its.length c) (its.flatMap aV) :: R))) b (1 + i) v := aF (by grind)
 exact h2 w h1
theorem pY {g c n : Nat} {xs sp : List Value} {R1 R2 B : List HP} [h1 : Tk pt b A (a7 (.slice (some ⟨g, 0, none⟩) n c :: tl) 439) R1] [h2 : Tk pt g R1 (a7 (xs ++ sp) 446) R2] (hx : xs = its.flatMap aV) (hn : n = its.length) (hc : n ≤ c) (hm : c ≤ maxLen) (hl : (xs ++ sp).length = c * 6) [k : Ent R2 B] : Ent A (aJ b (its, tl) :: B) := by
 subst hn
 subst hx
 have e : Ent R1 (osl 446 6 (.slice (some ⟨g, 0, none⟩) its.length c) (its.flatMap aV) :: B) := ez hc hm (cj fN its) hl
 exact (Ent.ofPerm h1.perm).trans ((Ent.cons e).trans (en (R := B) (C := [_, _]) ⟨_, c, rfl⟩))
theorem B4 {N : FSz} {K : Act → World → Prop} {e : aH} {g c n : Nat} {xs sp : List Value} {R1 R2 : List HP} [h1 : Tk pt b A (a7 (.slice (some ⟨g, 0, none⟩) n c :: tl) 439) R1] [h2 : Tk pt g R1 (a7 (xs ++ sp) 446) R2] (hx : xs = its.flatMap aV) (hn : n = its.length) (hc : n ≤ c) (hm : c ≤ maxLen) (hl : (xs ++ sp).length = c * 6)
    (k : ai W0 N K e (aJ b (its, tl) :: R2)) : ai W0 N K e A := fF (pY (b := b) hx hn hc hm hl) k
end
theorem vp (its : List It) (sp : List Value) (i j : Nat) (hi : i < its.length) (hj : j < 6) : (its.flatMap aV ++ sp)[i * 6 + j]? = (aV (its.getD i default))[j]? := by
 rw [lj fN its i j sp hi hj]; simp [List.getD, hi]
theorem ia (its : List It) (sp : List Value) (i : Nat) (hi : i < its.length) : ((its.flatMap aV ++ sp).drop (i * 6)).take 6 = aV (its.getD i default) := by
 rw [pq fN its i sp hi]; simp [List.getD, hi]
theorem kC (its : List It) (sp : List Value) (i : Nat) (x : It) (hi : i < its.length) : cz (its.flatMap aV ++ sp) (i * 6) (aV x) = (its.set i x).flatMap aV ++ sp := sy fN its i x sp hi
theorem UZ (its : List It) (sp : List Value) (i : Nat) (hi : i < its.length) : ((its.flatMap aV ++ sp).drop (i * 6 + 2)).take 3 = [iQ (its.getD i default).ep, iQ (its.getD i default).ef, iQ (its.getD i default).er] := by
 have := Qah (fun l => (l.drop 2).take 3) (ia its sp i hi)
 simp only [List.drop_take, List.take_take, Qcr] at this
 exact this
theorem V0 (its : List It) (sp : List Value) (i : Nat) (u : Int) (hi : i < its.length) : (its.flatMap aV ++ sp).set (i * 6 + 5) (iQ u) = (its.set i { its.getD i default with u := u }).flatMap aV ++ sp :=
  mW fN its i 5 _ _ sp hi (by decide) (by simp [List.getD, hi, aV])
theorem jR (its : List It) (sp : List Value) (i : Nat) (hi : i < its.length) : i * 6 + 6 ≤ (its.flatMap aV ++ sp).length := by
 rw [Qad, cj fN]; omega
theorem pZ {its : List It} {i : Nat} (h : i < its.length) : its ≠ [] := fun e => by rw [e] at h; simp at h
theorem oM (b : Nat) (its : List It) (tl : List Value) : sQ W0 386 [pQ b] (aJ b (its, tl) :: R) (iQ (its.length : Nat)) (aJ b (its, tl) :: R) := by
 refine tj fun a c => ?_
 refine ab func386 ntmps386 ?_
 refine a8 ?_
 exact ⟨_, ⟨rfl, rfl⟩, oL rfl⟩
theorem vq (b : Nat) (its : List It) (tl : List Value) (i k : Nat) (hi : i < its.length) (hk : k < its.length) : sQ W0 507 [pQ b, iQ i, iQ k] (aJ b (its, tl) :: R) (.bool (decide (us its i < us its k))) (aJ b (its, tl) :: R) := by
 refine AZ (pZ hi) fun g c sp h1 h2 h3 => ?_
 refine ab func507 ntmps507 ?_
 refine bB [b, g] 18 fun hS => ?_
 refine ae 0 5 hS ?_
 refine av 5 hS (bA hi) ?_
 refine ae 6 1 hS ?_
 refine av 7 hS (aG (co (k := 1) rfl ((vp its sp i 5 hi (by decide)).trans rfl))) ?_
 refine ae 8 5 hS ?_
 refine av 13 hS (bA hk) ?_
 refine ae 14 1 hS ?_
 refine av 15 hS (aG (co (k := 1) rfl ((vp its sp k 5 hk (by decide)).trans rfl))) ?_
 refine ae 16 2 hS ?_
 refine aI ?_
 refine a8 ?_
 exact ⟨_, ⟨rfl, rfl⟩, pY rfl rfl h1 h2 h3⟩
theorem vu (b : Nat) (its : List It) (tl : List Value) (i k : Nat) (hi : i < its.length) (hk : k < its.length) : sQ W0 510 [pQ b, iQ i, iQ k] (aJ b (its, tl) :: R) (.tuple #[]) (aJ b (swapL its i k, tl) :: R) := by
 refine AZ (pZ hi) fun g c sp h1 h2 h3 => ?_
 refine ab func510 ntmps510 ?_
 refine bB [b] 28 fun hS => ?_
 refine ae 0 15 hS ?_
 refine av 15 hS (bA hk) ?_
 refine ae 17 5 hS ?_
 refine av 22 hS (bA hi) ?_
 refine eG (is := [16, 23]) (by kernel_rfl) rfl ⟨?_, ?_, trivial⟩
 refine di (db (cJ (bU (ia its sp k hk) rfl))) ?_; clear hS
 rintro _ _ ⟨rfl, rfl⟩
 refine ⟨aK, fun hS => ?_⟩
 refine bJ 23 (db (cJ (bU (ia its sp i hi) rfl))) fun hS => ?_
 refine av 24 hS (bA hi) ?_
 refine cq 25 (gK (jR its sp i hi) (kC its sp i (its.getD k default) hi)) fun hS => ?_
 refine av 26 hS (bA hk) ?_
 refine cq 27 (gK (jR (its.set i (its.getD k default)) sp k (by grind)) (kC (its.set i (its.getD k default)) sp k (its.getD i default) (by grind))) fun hS => ?_
 refine aI ?_
 refine bM (.inr rfl) .nil ?_
 exact ⟨_, ⟨rfl, rfl⟩, pY rfl (by simp [swapL]) (by omega) h2 (by simpa [swapL, cj fN] using h3)⟩
 skip
 refine di (db (cJ (bU (ia its sp i hi) rfl))) ?_; clear hS
 rintro _ _ ⟨rfl, rfl⟩
 refine ⟨aK, fun hS => ?_⟩
 refine bJ 16 (db (cJ (bU (ia its sp k hk) rfl))) fun hS => ?_
 refine av 24 hS (bA hi) ?_
 refine cq 25 (gK (jR its sp i hi) (kC its sp i (its.getD k default) hi)) fun hS => ?_
 refine av 26 hS (bA hk) ?_
 refine cq 27 (gK (jR (its.set i (its.getD k default)) sp k (by grind)) (kC (its.set i (its.getD k default)) sp k (its.getD i default) (by grind))) fun hS => ?_
 refine aI ?_
 refine bM (.inr rfl) .nil ?_
 exact ⟨_, ⟨rfl, rfl⟩, pY rfl (by simp [swapL]) (by omega) h2 (by simpa [swapL, cj fN] using h3)⟩
theorem xX (b : Nat) (its : List It) (x : It) (tl : List Value) : sQ W0 508 [pQ b] (aJ b (its ++ [x], tl) :: R) (.iface 446 (.agg (aV x).toArray)) (aJ b (its, tl) :: R) := by
 refine AZ (by simp) fun g c sp h1 h2 h3 => ?_
 have hl : (its ++ [x]).length = its.length + 1 := by simp
 rw [hl] at h1 ⊢
 have hg : (its ++ [x]).getD its.length default = x := by grind
 have hr := ia (its ++ [x]) sp its.length (by omega)
 rw [hg] at hr
 have he : (its ++ [x]).flatMap aV ++ sp = its.flatMap aV ++ (aV x ++ sp) := by simp
 refine ab func508 ntmps508 ?_
 refine a6 (iq rfl rfl (by rw [bN (by simp only [maxLen] at h2; omega)]; omega : IntKind.wrap .i64 (((its.length + 1 : Nat) : Int) - 1) = ((its.length : Nat) : Int))) ?_
 refine a6 (bA (by omega)) ?_
 refine a6 (cJ (bU hr rfl)) ?_
 refine bu fun b1 => ?_
 refine ax aC ?_
 refine a6 (lO fl da rfl rfl rfl (by omega)) ?_
 refine eW (ka sizeOf435 rfl rfl rfl (Qaa rfl) SetL.eq) ?_
 rintro _ _ rfl
 refine aN (aD (aP (aZ (aa rfl (mT jD da rfl rfl) ?_))))
 refine aa rfl (Df sd (fun _ h => by cases h) rfl) ?_
 refine aa rfl (bC rfl) (aN (aD (dT (bM (.inl rfl) (.cons (bz rfl) .nil) ?_))))
 rw [he]
 exact ⟨_, ⟨rfl, rfl⟩, pY (sp := aV x ++ sp) rfl rfl (by omega) h2 (by rw [← he]; exact h3)⟩
theorem V1 (b : Nat) (its : List It) (x : It) (tl : List Value) (hn : its.length < 1000) : sQ W0 509 [pQ b, .iface 446 (.agg (aV x).toArray)] (aJ b (its, tl) :: R) (.tuple #[]) (aJ b (its ++ [x], tl) :: R) := by
 refine tj fun a c => ?_
 have he : its.flatMap aV ++ [aV x].flatten = (its ++ [x]).flatMap aV := by simp
 refine lk func509 ntmps509 rfl rfl ?_
 refine bB [] 12 fun hS => ?_
 refine ae 0 4 hS ?_
 refine ae 5 1 hS ?_
 refine av 6 hS (pu sd (fun _ h => by cases h) rfl) ?_
 refine eG (is := [4, 7]) (by kernel_rfl) rfl ⟨?_, ?_, trivial⟩
 refine di (db (aG (aF rfl))) ?_; clear hS
 rintro _ _ ⟨rfl, rfl⟩
 refine ⟨aK, fun hS => ?_⟩
 refine li 7 (by kernel_rfl) rfl rfl (iz fl da p9 rfl (eJ rfl rfl gG) rfl (by decide) (by decide) (by decide)) rfl ?_; clear hS
 rintro _ _ ⟨b1, rfl, rfl⟩
 refine ⟨aK, fun hS => ?_⟩
 refine cg 8 (eI (sz := 6) (by_ := 48) (info := Tryz.t446) fl (by kernel_rfl) rfl rfl rfl rfl (by decide) rfl rfl eA rfl rfl (by simp only [maxLen]; omega) (by omega)) ?_; clear hS
 rintro _ _ ⟨a1, c1, rfl, rfl⟩
 refine ⟨aK, fun hS => ?_⟩
 refine ae 9 2 hS ?_
 refine cq 11 dy fun hS => ?_
 refine fy ?_
 refine bM (.inr rfl) .nil ?_
 rw [he]
 exact ⟨_, ⟨rfl, rfl⟩, oL (its := its ++ [x]) (by simp)⟩
 skip
 refine kJ rfl rfl (iz fl da p9 rfl (eJ rfl rfl gG) rfl (by decide) (by decide) (by decide)) rfl ?_; clear hS
 rintro _ _ ⟨b1, rfl, rfl⟩
 refine ⟨aK, fun hS => ?_⟩
 refine bJ 4 (db (aG (aF rfl))) fun hS => ?_
 refine cg 8 (eI (sz := 6) (by_ := 48) (info := Tryz.t446) fl (by kernel_rfl) rfl rfl rfl rfl (by decide) rfl rfl eA rfl rfl (by simp only [maxLen]; omega) (by omega)) ?_; clear hS
 rintro _ _ ⟨a1, c1, rfl, rfl⟩
 refine ⟨aK, fun hS => ?_⟩
 refine ae 9 2 hS ?_
 refine cq 11 dy fun hS => ?_
 refine aI ?_
 refine bM (.inr rfl) .nil ?_
 rw [he]
 exact ⟨_, ⟨rfl, rfl⟩, oL (its := its ++ [x]) (by simp)⟩
section
variable (w : World) (a : Addr)
theorem vw : (method (Tryz.prog.types.size + Made.depth) 447 (.pointer (some a)) "Len").run Tryz.prog w = .ok (386, .pointer (some a)) w := by kernel_rfl
theorem vx : (method (Tryz.prog.types.size + Made.depth) 447 (.pointer (some a)) "Less").run Tryz.prog w = .ok (507, .pointer (some a)) w := by kernel_rfl
theorem vy : (method (Tryz.prog.types.size + Made.depth) 447 (.pointer (some a)) "Swap").run Tryz.prog w = .ok (510, .pointer (some a)) w := by kernel_rfl
theorem V2 : (method (Tryz.prog.types.size + Made.depth) 447 (.pointer (some a)) "Push").run Tryz.prog w = .ok (509, .pointer (some a)) w := by kernel_rfl
theorem xY : (method (Tryz.prog.types.size + Made.depth) 447 (.pointer (some a)) "Pop").run Tryz.prog w = .ok (508, .pointer (some a)) w := by kernel_rfl
end
def kY (b : Nat) : Value := .iface 447 (.pointer (some ⟨b, 0, none⟩))
theorem As {j : Nat} (h : j < 1000) : IntKind.wrap .i64 (Int.tdiv ((j : Int) - 1) 2) = (((j - 1) / 2 : Nat) : Int) := by
 grind [Int.tdiv_eq_ediv_of_nonneg, bN]
theorem v9 {l l0 : List It} {i j n : Nat} (hi : i < n) (hj : j < n) (hn : n ≤ l.length) (h : ∀ x, n ≤ x → l.getD x default = l0.getD x default) : ∀ x, n ≤ x → (swapL l i j).getD x default = l0.getD x default := fun x hx => by
 rw [oC (by omega) (by omega), Qac (by omega), Qac (by omega)]; exact h x hx
theorem sZ (W0 : World) (R : List HP) (b : Nat) (its : List It) (tl : List Value) (j n : Nat) (hn : n ≤ its.length) (hN : n < 1000) (hj : j < n) (hU : Up its j n) : sP W0 210 [kY b, iQ j] (aJ b (its, tl) :: R) (fun v B => v = .tuple #[] ∧ ∃ its', B = aJ b (its', tl) :: R ∧ its'.Perm its ∧ Heap its' n ∧ ∀ x, n ≤ x → its'.getD x default = its.getD x default) := by
 refine ab func210 ntmps210 ?_
 refine cK (fun X : List It × Nat => X.1.Perm its ∧ X.2 < n ∧ Up X.1 X.2 n ∧ ∀ x, n ≤ x → X.1.getD x default = its.getD x default) (fun X => [(0, kY b), (1, iQ X.2)]) (fun X => aJ b (X.1, tl) :: R) (fun X => X.2) (its, j) ?_ ?_
 grind
 intro ⟨l, j⟩ ⟨hp, hj, hU, ht⟩
 have hlen := hp.length_eq
 simp only at hj hU ht hp hlen ⊢
 refine aw ?_
 refine a6 eX ?_
 refine a6 (qB rfl rfl (by decide) (As (by omega))) ?_
 refine cA (fun g1_4 => ?_) fun g1_4 => ?_
 refine bM (.inr rfl) .nil ?_
 exact ⟨_, ⟨rfl, l, rfl, hp, v6 hU (by omega), ht⟩, IO⟩
 refine ac (dV rfl ((fun w => vx w _)) zh rfl (vq b l tl j ((j - 1) / 2) (by omega) (by omega))) ?_
 refine aA rfl (fun c1 => ?_) fun c1 => ?_
 refine au 5 ?_
 refine bM (.inr rfl) .nil ?_
 exact ⟨_, ⟨rfl, l, rfl, hp, v6 hU (by omega), ht⟩, IO⟩
 replace c1 : us l j < us l ((j - 1) / 2) := by omega
 refine aw ?_
 refine ac (dV rfl ((fun w => vy w _)) zi rfl (vu b l tl ((j - 1) / 2) j (by omega) (by omega))) ?_
 exact bE (swapL l ((j - 1) / 2) j, (j - 1) / 2) (⟨(iC (by omega) (by omega)).trans hp, by show (j - 1) / 2 < n; omega, An hU (by omega) hj (by omega) c1, v9 (by omega) hj (by omega) ht⟩)
theorem t2 (W0 : World) (R : List HP) (b : Nat) (its : List It) (tl : List Value) (i0 n : Nat) (hn : n ≤ its.length) (hN : n < 1000) (hi : i0 ≤ n) (hH : gL its i0 n) : sP W0 273 [kY b, iQ i0, iQ n] (aJ b (its, tl) :: R) (fun v B => ∃ l m, v = .bool m ∧ B = aJ b (l, tl) :: R ∧ Down its l i0 n m) := by
 refine ab IH ntmps273 ?_
 refine cK (fun X : List It × Nat => X.1.Perm its ∧ i0 ≤ X.2 ∧ gL X.1 X.2 n ∧ (∀ x, n ≤ x → X.1.getD x default = its.getD x default) ∧ (X.2 = i0 → X.1 = its) ∧ (i0 < X.2 → us X.1 ((X.2 - 1) / 2) ≤ us X.1 X.2) ∧ X.2 ≤ n) (fun X => [(0, kY b), (1, iQ i0), (2, iQ n), (7, iQ X.2)]) (fun X => aJ b (X.1, tl) :: R) (fun X => n - X.2) (its, i0) ?_ ?_
 grind
 intro ⟨l, i⟩ ⟨hp, hi0, hl, ht, he, hg, hin⟩
 have hlen := hp.length_eq
 simp only at hp hi0 hl ht he hg hin hlen ⊢
 refine aw ?_
 refine a6 zL ?_
 refine a6 (dG (2 * i + 1)) ?_
 refine cA (fun g3_4 => ?_) fun g3_4 => ?_
 refine a8 ?_
 refine ⟨_, ⟨l, decide (i0 < i), by simp [aU], rfl, v8 hp hi0 hl ht he hg ?_⟩, IO⟩
 first | (intro c hc h0 h1; exfalso; omega) | (intro c hc h0 h1; have := hmin c hc h0 h1; simp at c8; omega)
 refine aA rfl (fun c3 => ?_) fun c3 => ?_
 omega
 refine au 8 ?_
 refine dO (fun j : Nat => (j - 1) / 2 = i ∧ 0 < j ∧ j < n ∧ ∀ c, c < n → 0 < c → (c - 1) / 2 = i → us l j ≤ us l c) (fun j => [(0, kY b), (1, iQ i0), (2, iQ n), (7, iQ i), (9, iQ j)]) (fun j => aJ b (l, tl) :: R) ?_ ?_
 refine au 3 ?_
 refine a6 (dG (2 * i + 2)) ?_
 refine cM (fun g6_4 => ?_) fun g6_4 => ?_
 refine ac (dV rfl ((fun w => vx w _)) zh rfl (vq b l tl (2 * i + 2) (2 * i + 1) (by omega) (by omega))) ?_
 refine ag (fun c6 => ?_) fun c6 => ?_
 refine cu (2 * i + 2) ?_
 refine ⟨by omega, by omega, by omega, fun c hc h0 h1 => ?_⟩
 have : c = 2 * i + 1 ∨ c = 2 * i + 2 := by omega
 rcases this with rfl | rfl <;> omega
 refine cu (2 * i + 1) ?_
 refine ⟨by omega, by omega, by omega, fun c hc h0 h1 => ?_⟩
 have : c = 2 * i + 1 ∨ c = 2 * i + 2 := by omega
 rcases this with rfl | rfl <;> omega
 refine cu (2 * i + 1) ?_
 refine ⟨by omega, by omega, by omega, fun c hc h0 h1 => ?_⟩
 have : c = 2 * i + 1 ∨ c = 2 * i + 2 := by omega
 rcases this with rfl | rfl <;> omega
 intro j ⟨hj, hj0, hjn, hmin⟩
 refine aw ?_
 refine ac (dV rfl ((fun w => vx w _)) zh rfl (vq b l tl j i (by omega) (by omega))) ?_
 refine aA rfl (fun c8 => ?_) fun c8 => ?_
 refine au 15 ?_
 refine a8 ?_
 refine ⟨_, ⟨l, decide (i0 < i), by simp [aU], rfl, v8 hp hi0 hl ht he hg ?_⟩, IO⟩
 first | (intro c hc h0 h1; exfalso; omega) | (intro c hc h0 h1; have := hmin c hc h0 h1; simp at c8; omega)
 replace c8 : us l j < us l i := by simpa using c8
 refine aw ?_
 refine ac (dV rfl ((fun w => vy w _)) zi rfl (vu b l tl i j (by omega) (by omega))) ?_
 refine bE (swapL l i j, j) ?_ (hμ := ?_)
 have hs := Am hl (by omega) hjn hj hj0 c8 hmin
 exact ⟨(iC (by omega) (by omega)).trans hp, by show i0 ≤ j; omega, hs.1, v9 (by omega) hjn (by omega) ht, by show j = i0 → _; omega, fun _ => hs.2, by show j ≤ n; omega⟩
 show n - j < n - i; omega
theorem B5 (b : Nat) (its : List It) (tl : List Value) (i : Nat) (hN : its.length < 1000) (hi : i < its.length) (hH : gL its i its.length) : sP W0 385 [kY b, iQ i] (aJ b (its, tl) :: R) (fun v B => v = .tuple #[] ∧ ∃ its', B = aJ b (its', tl) :: R ∧ its'.Perm its ∧ Heap its' its.length) := by
 refine ab func385 ntmps385 ?_
 refine ac (dV rfl ((fun w => vw w _)) qx rfl (oM b its tl)) ?_
 refine am rfl (ah w9 (t2 W0 _ b its tl i its.length (Qap _) hN (by omega) hH)) ?_
 rintro _ _ ⟨l, m, rfl, rfl, hD⟩
 refine aw ?_
 refine ag (fun c0 => ?_) fun c0 => ?_
 have hm : m = false := by grind
 obtain ⟨rfl, hmin⟩ := hD.no hm
 refine am rfl (ah zc (sZ W0 _ b l tl i l.length (Qap _) hN hi (xk hH hmin))) ?_
 rintro _ _ ⟨rfl, l', rfl, hp, hh, _⟩
 refine aw ?_
 refine bM (.inr rfl) .nil ?_
 exact ⟨_, ⟨rfl, l', rfl, hp, hh⟩, IO⟩
 refine bM (.inr rfl) .nil ?_
 exact ⟨_, ⟨rfl, l, rfl, hD.perm, hD.yes (by grind)⟩, IO⟩
theorem Av {its : List It} {x : It} (h : Heap its its.length) : Up (its ++ [x]) its.length (its.length + 1) := by
 have e : ∀ c, c < its.length → us (its ++ [x]) c = us its c := fun c hc => by
  unfold us; simp only [Qau]; rw [QaH hc]
 intro c hc h0
 refine ⟨fun h1 => ?_, fun h1 h2 => by omega⟩
 rw [e c (by omega), e _ (by omega)]; exact h c (by omega) h0
theorem heapPush_spec (b : Nat) (its : List It) (x : It) (tl : List Value) (hN : its.length < 900) (hh : Heap its its.length) : sP W0 149 [kY b, .iface 446 (.agg (aV x).toArray)] (aJ b (its, tl) :: R) (fun v B => v = .tuple #[] ∧ ∃ its', B = aJ b (its', tl) :: R ∧ its'.Perm (its ++ [x]) ∧ Heap its' its'.length) := by
 have hl : (its ++ [x]).length = its.length + 1 := by simp
 refine ab func149 ntmps149 ?_
 refine ac (dV rfl ((fun w => V2 w _)) call509 rfl (V1 b its x tl (by omega))) ?_
 refine ac (dV rfl ((fun w => vw w _)) qx rfl (oM b (its ++ [x]) tl)) ?_
 refine a6 (lQ its.length) ?_
 refine am rfl (ah zc (sZ W0 _ b (its ++ [x]) tl its.length (its.length + 1) (by omega) (by omega) (by omega) (Av hh))) ?_
 rintro _ _ ⟨rfl, l', rfl, hp, hh', _⟩
 refine aw ?_
 refine bM (.inr rfl) .nil ?_
 exact ⟨_, ⟨rfl, l', rfl, hp, by rw [hp.length_eq, hl]; exact hh'⟩, IO⟩
theorem ve {l : List It} {n : Nat} (h : l.length = n + 1) : ∃ l' x, l = l' ++ [x] ∧ l'.length = n ∧ x = l.getD n default := by
 have hne : l ≠ [] := fun e => by rw [e] at h; simp at h
 refine ⟨l.dropLast, l.getLast hne, (List.dropLast_concat_getLast hne).symm, by simp [h], ?_⟩
 rw [List.getLast_eq_getElem]
 simp [List.getD, h]
theorem vf {l : List It} {x : It} {n : Nat} (h : Heap (l ++ [x]) n) (hn : n ≤ l.length) : Heap l n :=
  Ao (fun i hi => by simp only [Qau]; rw [QaH (by omega)]) h
theorem heapPop_spec (b : Nat) (its : List It) (tl : List Value) (hN : its.length < 900) (h0 : its ≠ []) (hh : Heap its its.length) : sP W0 196 [kY b] (aJ b (its, tl) :: R) (fun v B => ∃ x its', v = .iface 446 (.agg (aV x).toArray) ∧ B = aJ b (its', tl) :: R ∧ (its' ++ [x]).Perm its ∧ Heap its' its'.length ∧ ∀ y ∈ its, x.u ≤ y.u) := by
 obtain ⟨n, hn⟩ : ∃ n, its.length = n + 1 := ⟨its.length - 1, by have := Qca.2 h0; omega⟩
 have hs : gL (swapL its 0 n) 0 n := fun c hc h0 => ⟨fun h1 h2 => by
  rw [iX (by omega) (by omega), iX (by omega) (by omega), Qac h2, Qac h1, Qac (by omega), Qac (by omega)]
  exact hh c (by omega) h0, fun _ h => by omega⟩
 have hsl := v4 its 0 n
 refine ab func196 ntmps196 ?_
 refine ac (dV rfl ((fun w => vw w _)) qx rfl (oM b its tl)) ?_
 refine a6 (lQ n) ?_
 refine ac (dV rfl ((fun w => vy w _)) zi rfl (vu b its tl 0 n (by omega) (by omega))) ?_
 refine am rfl (ah w9 (t2 W0 _ b (swapL its 0 n) tl 0 n (by omega) (by omega) (by omega) hs)) ?_
 rintro _ _ ⟨l, m, rfl, rfl, hD⟩
 have hll := hD.perm.length_eq
 obtain ⟨l', x, rfl, hl', hx⟩ := ve (l := l) (n := n) (by omega)
 have hx0 : x = its.getD 0 default := by
  rw [hx, hD.tail n (Qap _), oC (by omega) (by omega)]; split
  rename_i e; subst e; rfl
  rw [Qaf rfl]
 have hp : (l' ++ [x]).Perm its := hD.perm.trans (iC (by omega) (by omega))
 have hH : Heap (l' ++ [x]) n := by
  cases m with
  | true => exact hD.yes rfl
  | false =>
   obtain ⟨e, hmin⟩ := hD.no rfl
   rw [e]; exact v5 hs hmin (fun h => absurd h (by omega))
 refine aw ?_
 refine ac (dV rfl ((fun w => xY w _)) Cu rfl (xX b l' x tl)) ?_
 refine a8 ?_
 refine ⟨_, ⟨x, l', rfl, rfl, hp, by rw [hl']; exact vf hH (by omega), fun y hy => ?_⟩, IO⟩
 obtain ⟨c, hc, rfl⟩ := Qbl.1 hy
 have := heap_min hh c hc
 rw [us_eq hc] at this
 rw [hx0]; exact this
theorem heapRemove_spec (b : Nat) (its : List It) (tl : List Value) (i : Nat) (hN : its.length < 900) (hi : i < its.length) (hh : Heap its its.length) : sP W0 272 [kY b, iQ i] (aJ b (its, tl) :: R) (fun v B => ∃ its', v = .iface 446 (.agg (aV (its.getD i default)).toArray) ∧ B = aJ b (its', tl) :: R ∧ (its' ++ [its.getD i default]).Perm its ∧ Heap its' its'.length) := by
 obtain ⟨n, hn⟩ : ∃ n, its.length = n + 1 := ⟨its.length - 1, by omega⟩
 have hs : i ≠ n → gL (swapL its i n) i n := fun hin c hc h0 => ⟨fun h1 h2 => by
  rw [iX (by omega) (by omega), iX (by omega) (by omega), Qac h2, Qac h1, Qac (by omega), Qac (by omega)]
  exact hh c (by omega) h0, fun h1 h2 => by
  rw [iX (by omega) (by omega), iX (by omega) (by omega), Qac (by omega), Qac (by omega), Qac (by omega), Qac (by omega)]
  have k1 := hh c (by omega) h0
  have k2 := hh i (by omega) h2
  rw [h1] at k1; omega⟩
 have hsl := v4 its i n
 have fin : ∀ l : List It, l.Perm its → Heap l n → l.getD n default = its.getD i default → ∃ l', l = l' ++ [its.getD i default] ∧ l'.length = n ∧ Heap l' l'.length := fun l hp hH hx => by
  have := hp.length_eq
  obtain ⟨l', x, rfl, hl', hx'⟩ := ve (l := l) (n := n) (by omega)
  rw [hx] at hx'; subst hx'
  exact ⟨l', rfl, hl', by rw [hl']; exact vf hH (by omega)⟩
 have hend : i ≠ n → (swapL its i n).getD n default = its.getD i default := fun h => by
  rw [oC (by omega) (by omega), Qac (by omega), Qaf rfl]
 refine ab func272 ntmps272 ?_
 refine ac (dV rfl ((fun w => vw w _)) qx rfl (oM b its tl)) ?_
 refine a6 (lQ n) ?_
 refine ag (fun c2 => ?_) fun c2 => ?_
 have hin : i ≠ n := by omega
 refine ac (dV rfl ((fun w => vy w _)) zi rfl (vu b its tl i n (by omega) (by omega))) ?_
 refine am rfl (ah w9 (t2 W0 _ b (swapL its i n) tl i n (by omega) (by omega) (by omega) (hs hin))) ?_
 rintro _ _ ⟨l, m, rfl, rfl, hD⟩
 have hll := hD.perm.length_eq
 refine aw ?_
 refine ag (fun c4 => ?_) fun c4 => ?_
 have hm : m = false := by simpa using c4
 obtain ⟨rfl, hmin⟩ := hD.no hm
 refine am rfl (ah zc (sZ W0 _ b (swapL its i n) tl i n (by omega) (by omega) (by omega) (xk (hs hin) hmin))) ?_
 rintro _ _ ⟨rfl, l, rfl, hp, hH, ht⟩
 obtain ⟨l', rfl, hl', hH⟩ := fin l (hp.trans (iC (by omega) (by omega))) hH ((ht n (Qap _)).trans (hend hin))
 replace hp := hp.trans (iC (by omega) (by omega))
 generalize its.getD i default = x at hp ⊢
 refine aw ?_
 refine ac (dV rfl ((fun w => xY w _)) Cu rfl (xX b l' x tl)) ?_
 refine a8 ?_
 exact ⟨_, ⟨l', rfl, rfl, by first | exact hp | exact QaI _, hH⟩, IO⟩
 have hm : m = true := by simpa using c4
 obtain ⟨l', rfl, hl', hH⟩ := fin l (hD.perm.trans (iC (by omega) (by omega))) (hD.yes hm) ((hD.tail n (Qap _)).trans (hend hin))
 have hp := hD.perm.trans (iC (l := its) (i := i) (j := n) (by omega) (by omega))
 generalize its.getD i default = x at hp ⊢
 refine ac (dV rfl ((fun w => xY w _)) Cu rfl (xX b l' x tl)) ?_
 refine a8 ?_
 exact ⟨_, ⟨l', rfl, rfl, by first | exact hp | exact QaI _, hH⟩, IO⟩
 obtain rfl : n = i := by omega
 obtain ⟨l', hl, hl', hH⟩ := fin its (QaI _) (Ap hh (by omega)) rfl
 have hp : (l' ++ [its.getD n default]).Perm its := by rw [← hl]
 generalize hx : its.getD n default = x at hl hp ⊢
 rw [hl]
 refine ac (dV rfl ((fun w => xY w _)) Cu rfl (xX b l' x tl)) ?_
 refine a8 ?_
 exact ⟨_, ⟨l', rfl, rfl, by first | exact hp | exact QaI _, hH⟩, IO⟩
@[reducible] def fj (k : Int × Int) : List Value := [.int .i64 k.1, .int .i64 k.2]
@[reducible] def m5 (e : Int × Int × Int) : List Value := [.int .i64 e.1, .int .i64 e.2.1, .int .i64 e.2.2]
theorem V3 (x : It) (bk : Nat) (k : Int × Int) : sQ W0 373 [.agg (aV x).toArray, pQ bk] (pt bk (a7 (fj k) 380) :: R) (.bool (decide (x.key = k))) (pt bk (a7 (fj k) 380) :: R) := by
 refine ab func373 ntmps373 ?_
 refine aS fun b1 => ?_
 refine aa rfl (cJ (bU (vs := [iQ x.kr, iQ x.kp]) rfl rfl)) ?_
 refine aa rfl (cJ (bU (vs := [iQ k.1, iQ k.2]) rfl rfl)) ?_
 refine a6 (si Tryz.eqGuardType380 rfl rfl (pj z4 Tryz.stoodInHeld380 (ir rfl cP rfl rfl (j7 dN) (ir rfl cP rfl rfl (j7 dN) pi)))) ?_
 refine a8 ?_
 refine aE ?_
 simp [aU, It.key, Prod.ext_iff]; rw [Qae]; simp
def FO (its : List It) (k : Int × Int) (r : Int) : Prop := (r = -1 ∧ ∀ x ∈ its, x.key ≠ k) ∨ ∃ i : Nat, r = (i : Int) ∧ i < its.length ∧ (its.getD i default).key = k
theorem V4 {its : List It} {k : Int × Int} (h : ∀ i, i < its.length → (its.getD i default).key ≠ k) : ∀ x ∈ its, x.key ≠ k := fun x hx => by
 obtain ⟨c, hc, rfl⟩ := Qbl.1 hx
 have := h c hc
 simpa [List.getD, hc] using this
theorem V5 (its : List It) (a : Option Addr) (c bk : Nat) (k : Int × Int) (hN : its.length < 1000) : sP W0 372 [.slice a its.length c, .func (.func 373) #[] #[pQ bk]] (osl 446 6 (.slice a its.length c) (its.flatMap aV) :: pt bk (a7 (fj k) 380) :: R) (fun v B => ∃ r, v = iQ r ∧ B = osl 446 6 (.slice a its.length c) (its.flatMap aV) :: pt bk (a7 (fj k) 380) :: R ∧ FO its k r) := by
 refine uv (fun h1 h2 => ?_) fun g n cap sp h1 h2 h3 h4 h5 => ?_
 have h0 : its.length = 0 := by grind
 obtain rfl : its = [] := QaB h0
 cases h1
 refine ab Cv ntmps372 ?_
 refine cK (fun X : Nat => True) (fun X => [(7, iQ 0), (8, iQ X)]) (fun X => pt bk (a7 (fj k) 380) :: R) (fun X => X) 0 ?_ ?_
 trivial
 intro j hj
 refine aw ?_
 refine aA rfl (fun c2 => ?_) fun c2 => ?_
 omega
 refine aw ?_
 refine a8 ?_
 exact ⟨_, ⟨-1, rfl, rfl, .inl ⟨rfl, by simp⟩⟩, eH⟩
 cases h1
 refine ab Cv ntmps372 ?_
 refine cK (fun X : Nat => X ≤ its.length ∧ ∀ i, i < X → (its.getD i default).key ≠ k) (fun X => [(0, .slice (some ⟨g, 0, none⟩) its.length c), (1, .func (.func 373) #[] #[pQ bk]), (7, iQ (its.length : Nat)), (8, iQ X)]) (fun X => pt g (a7 (its.flatMap aV ++ sp) 446) :: pt bk (a7 (fj k) 380) :: R) (fun X => its.length - X) 0 ?_ ?_
 grind
 intro j ⟨hj, hno⟩
 refine aw ?_
 refine ag (fun c2 => ?_) fun c2 => ?_
 refine a6 (bA (by omega)) ?_
 refine a6 (cJ (bU (ia its sp j (by omega)) rfl)) ?_
 refine ac (qJ rfl call373 rfl (V3 (its.getD j default) bk k)) ?_
 refine aA rfl (fun c4 => ?_) fun c4 => ?_
 replace c4 : (its.getD j default).key = k := by omega
 refine aw ?_
 refine a8 ?_
 exact ⟨_, ⟨_, rfl, rfl, .inr ⟨j, rfl, by omega, c4⟩⟩, ez h2 h3 h4 h5⟩
 refine aw ?_
 refine a6 bS ?_
 refine bE (j + 1) ?_
 grind
 refine a8 ?_
 exact ⟨_, ⟨-1, rfl, rfl, .inl ⟨rfl, V4 fun i hi => hno i (by omega)⟩⟩, ez h2 h3 h4 h5⟩
theorem tp (b : Nat) (its : List It) (rm nw : Value) : sQ W0 333 [pQ b] (aJ b (its, [rm, nw, .bool true]) :: R) (.bool false) (aJ b (its, [rm, nw, .bool true]) :: R) := by
 refine tj fun a c => ?_
 refine ab func333 ntmps333 ?_
 refine cR rfl rfl rfl (fun g1_3 => ?_) fun g1_3 => ?_
 cases g1_3
 refine aw ?_
 refine a8 ?_
 exact ⟨_, ⟨by simp [aU], rfl⟩, oL rfl⟩
theorem FP (b : Nat) (v0 rm : Value) (now : Nat) (hn : now < 1000000) : sQ W0 384 [pQ b] (pt b (a7 [v0, rm, iQ now, .bool true] 439) :: R) (iQ (now + 1 : Nat)) (pt b (a7 [v0, rm, iQ (now + 1 : Nat), .bool true] 439) :: R) := by
 refine ab func384 ntmps384 ?_
 refine a6 (dG (now + 1)) ?_
 refine ax dy ?_
 exact a8 aj
theorem FQ (b : Nat) (its : List It) (rm : Value) (now : Nat) (hn : now < 1000000) : sQ W0 384 [pQ b] (aJ b (its, [rm, iQ now, .bool true]) :: R) (iQ (now + 1 : Nat)) (aJ b (its, [rm, iQ (now + 1 : Nat), .bool true]) :: R) := by
 refine tj fun a c => gH (FP b _ rm now hn) ?_
 rintro _ _ ⟨rfl, rfl⟩
 exact ⟨_, ⟨rfl, rfl⟩, oL rfl⟩
theorem xZ (b : Nat) (its : List It) (tl : List Value) (k : Int × Int) (hN : its.length < 1000) : sP W0 334 [pQ b, .agg (fj k).toArray] (aJ b (its, tl) :: R) (fun v B => ∃ r, v = iQ r ∧ B = aJ b (its, tl) :: R ∧ FO its k r) := by
 refine tj fun a c => ?_
 refine ab func334 ntmps334 ?_
 refine aS fun b1 => ?_
 refine am rfl (cH call372 (V5 its a c b1 k hN)) ?_
 rintro _ _ ⟨r, rfl, rfl, hf⟩
 refine aw ?_
 refine a8 ?_
 exact ⟨_, ⟨r, rfl, rfl, hf⟩, oL rfl⟩
theorem V6 (room : Nat) (h : room ≤ 4) : sP W0 263 [iQ room] R (fun v B => ∃ b, v = .tuple #[pQ b, iQ 0] ∧ B = aJ b ([], [iQ room, iQ 0, .bool true]) :: R) := by
 refine ab func263 ntmps263 ?_
 refine cR rfl rfl rfl (fun g1_3 => ?_) fun g1_3 => ?_
 omega
 refine aw ?_
 refine aA rfl (fun c1 => ?_) fun c1 => ?_
 omega
 refine aw ?_
 refine aS fun b1 => ?_
 refine az ?_
 exact ⟨_, ⟨b1, rfl, rfl⟩, (Ent.cons (eH (B := R))).trans (en (R := R) (C := [_, _]) ⟨none, 0, rfl⟩)⟩
abbrev tq (pv bt bs : Nat) : Obj := a7 [.pointer (some ⟨pv, 0, none⟩), .pointer (some ⟨bt, 0, none⟩), .pointer (some ⟨bs, 0, none⟩)] 325
theorem V7 : sP W0 264 [] R (fun v B => ∃ b, v = pQ b ∧ B = pt b (a7 [dm, .bool true] 442) :: R) := by
 refine ab func264 ntmps264 ?_
 refine aS fun b1 => ?_
 refine a8 ?_
 exact ⟨_, ⟨_, rfl, rfl⟩, ent_refl⟩
theorem V8 (pv ps pm d room : Nat) (hr : room ≤ 4) : sP W0 178 [pQ pv, iQ room] (pt pv (cp ps pm d) :: R) (fun v B => ∃ bm bt bs, v = .tuple #[pQ bm, iQ 0] ∧ B = pt bm (tq pv bt bs) :: aJ bt ([], [iQ room, iQ 0, .bool true]) :: pt bs (a7 [dm, .bool true] 442) :: pt pv (cp ps pm d) :: R) := by
 refine ab func178 ntmps178 ?_
 refine ac (ah IV (A7 pv ps pm d)) ?_
 refine ag (fun c1 => ?_) fun c1 => ?_
 exact absurd c1 (by simp)
 refine am rfl (ao call263 (V6 room hr)) ?_
 rintro _ B_ ⟨bt, rfl, hB_⟩
 subst hB_
 refine aw ?_
 refine ag (fun c4 => ?_) fun c4 => ?_
 exact absurd rfl c4
 refine am rfl (ao call264 (V7)) ?_
 rintro _ B_ ⟨bs, rfl, hB_⟩
 subst hB_
 refine aw ?_
 refine aS fun bm => ?_
 refine az ?_
 exact ⟨_, ⟨bm, bt, bs, rfl, rfl⟩, IO⟩
abbrev pV (b : Nat) : Value := .pointer (some ⟨b, 0, none⟩)
structure Bd where
  r : Nat
  c : Nat
  m : Nat
  v : Nat
  t : Nat
@[reducible] def rF (x : Bd) (qs : List Nat) : List Value := [pV x.r, pV x.c, pV x.m] ++ (qs.map pV ++ List.replicate (3 - qs.length) (.pointer none)) ++ [pV x.v, pV x.t, .bool false, .int .u32 0, .int .u32 0, .int .u32 0, .int .u32 0]
theorem V9 {x : Bd} {q : Nat} : ∀ {qs : List Nat}, qs.length < 3 → (rF x qs).set (3 + qs.length * 1) (pV q) = rF x (qs ++ [q])
 | [], _ => rfl
 | [a], _ => rfl
 | [a, b], _ => rfl
theorem a3J {x : Bd} {qs : List Nat} (h : qs.length ≤ 3) : (rF x qs).length = 13 := by
 simp [rF]; omega
abbrev tt (x : Bd) (i bt bs pv : Nat) (T : List HP) : List HP := pt x.r (d8 (List.replicate 16 0) 0) :: pt x.c (FN i) :: pt x.m (tq pv bt bs) :: aJ bt ([], [.int .i64 ((4 : Nat) : Int), .int .i64 0, .bool true]) :: pt bs (a7 [dm, .bool true] 442) :: pt x.v pU :: pt x.t pW :: T
theorem Va {l : List HP} {x : HP} {R : List HP} : Ent (x :: kH 6 (bH l) :: R) (kH 6 (bH (l ++ [x])) :: R) :=
  (Ent.cons (mM (A := l) (R := R))).trans ((Ent.ofPerm (by
    show (x :: (l ++ R)).Perm ((l ++ [x]) ++ R)
    rw [QaC]
    exact (List.perm_middle).symm)).trans mN)
@[reducible] def FR (x : Bd) (q0 q1 q2 : Nat) : List Value := [pV x.r, pV x.c, pV x.m, pV q0, pV q1, pV q2, pV x.v, pV x.t, .bool false, .int .u32 0, .int .u32 0, .int .u32 0, .int .u32 0]
theorem Vb (i pv ps pm d : Nat) (hi : i < 4) : sP W0 91 [iQ i, pV pv] (pt pv (cp ps pm d) :: R) (fun v B => ∃ x bt bs q0 q1 q2, v = .tuple #[.agg (FR x q0 q1 q2).toArray, iQ 0] ∧ B = tt x i bt bs pv (kH 6 (bH [pt q0 (qO true df), pt q1 (qO true df), pt q2 (qO true df)]) :: pt pv (cp ps pm d) :: R)) := by
 refine ab func91 ntmps91 ?_
 refine bu fun b4 => ?_
 refine am rfl (ao call177 (UR i hi)) ?_
 rintro _ B_ ⟨cb, rfl, hB_⟩
 obtain rfl := hB_.symm
 refine au 14 ?_
 refine i5 ?_
 refine am rfl (ah call178 (V8 pv ps pm d 4 (by decide))) ?_
 rintro _ B_ ⟨bm, bt, bs, rfl, hB_⟩
 obtain rfl := hB_.symm
 refine au 14 ?_
 refine i5 ?_
 refine am rfl (ao call179 (UN)) ?_
 rintro _ B_ ⟨rb, rfl, hB_⟩
 obtain rfl := hB_.symm
 refine aw ?_
 refine am rfl (ao call180 (US)) ?_
 rintro _ B_ ⟨vb, rfl, hB_⟩
 obtain rfl := hB_.symm
 refine am rfl (ao call181 (UT)) ?_
 rintro _ B_ ⟨tb, rfl, hB_⟩
 obtain rfl := hB_.symm
 refine aw ?_
 refine bu fun b9 => ?_
 refine ax aC ?_
 refine fQ (fun qs : List Nat => qs.length ≤ 3) (fun qs => [(4, pV b4), (9, pV b9), (35, iQ qs.length)]) (fun qs => pt b9 (a7 (rF ⟨rb, cb, bm, vb, tb⟩ qs) 142) :: kH 6 (bH (qs.map fun q => pt q (qO true df))) :: pt b4 (a7 [.pointer none, .pointer none, .pointer none, .pointer none, .pointer none, .pointer none, .pointer none, .pointer none, .bool false, .int .u32 0, .int .u32 0, .int .u32 0, .int .u32 0] 142) :: tt ⟨rb, cb, bm, vb, tb⟩ i bt bs pv (pt pv (cp ps pm d) :: R)) (fun qs => 3 - qs.length) [] ?_ ?_ ?_ ?_
 grind
 · repeat (first | exact ci | refine bQ rfl ?_)
 refine Ent.trans (B := pt b9 (a7 (rF ⟨rb, cb, bm, vb, tb⟩ []) 142) :: pt b4 (a7 [.pointer none, .pointer none, .pointer none, .pointer none, .pointer none, .pointer none, .pointer none, .pointer none, .bool false, .int .u32 0, .int .u32 0, .int .u32 0, .int .u32 0] 142) :: tt ⟨rb, cb, bm, vb, tb⟩ i bt bs pv (pt pv (cp ps pm d) :: R)) ?_ ?_
 rw [show rF ⟨rb, cb, bm, vb, tb⟩ [] = [pV rb, pV cb, pV bm, .pointer none, .pointer none, .pointer none, pV vb, pV tb, .bool false, .int .u32 0, .int .u32 0, .int .u32 0, .int .u32 0] from rfl]
 exact IO
 exact Ent.cons (mN (A := []))
 intro qs hq
 refine aw ?_
 refine aA rfl (fun c9 => ?_) fun c9 => ?_
 refine au 10 ?_
 have hq3 : qs.length < 3 := by omega
 refine aw ?_
 refine am rfl (ao call182 (TN)) ?_
 rintro _ B_ ⟨q, rfl, hB_⟩
 obtain rfl := hB_.symm
 refine aa rfl (cG rfl a1C rfl sizeOf138 rfl (by first | exact Qab _ | rfl)) ?_
 refine aa rfl (i4 hq3) ?_
 refine eW (ka sizeOf137 rfl rfl rfl (by grind) (V9 hq3)) ?_
 rintro _ _ rfl
 refine aN (lL (aD (aZ ?_)))
 refine aa rfl (dr rfl rfl (by first | exact bN (by omega) | rfl)) ?_
 refine aa rfl (aL rfl) (aN (aD ?_))
 refine ue (qs ++ [q]) ?_ ?_ ?_ ?_
 grind
 grind
 · rw [show ((qs ++ [q]).length : Int) = ((qs.length : Nat) : Int) + 1 by simp]
   repeat (first | exact ci | refine bQ rfl ?_)
 grind [QaF, Ent.cons, Va]
 refine au 6 ?_
 have hq3 : qs.length = 3 := by omega
 obtain ⟨q0, q1, q2, rfl⟩ : ∃ q0 q1 q2, qs = [q0, q1, q2] := by
  match qs, hq3 with
  | [a, b, c], _ => exact ⟨a, b, c, rfl⟩
 refine aZ (aa rfl (mT I2 w0 rfl rfl) ?_)
 refine eW (fG w0 rfl rfl rfl rfl rfl) ?_
 rintro _ _ rfl
 refine aa rfl (bC rfl) (aN (aD (dT (bi (.cons (bD I2 w0 rfl rfl) (.cons (bz rfl) .nil)) ?_))))
 refine ⟨_, ⟨⟨rb, cb, bm, vb, tb⟩, bt, bs, q0, q1, q2, rfl, rfl⟩, ?_⟩
 rw [show [q0, q1, q2].map (fun q => pt q (qO true df)) = [pt q0 (qO true df), pt q1 (qO true df), pt q2 (qO true df)] from rfl]
 exact IO
def jS (r : Int × Int) (i : Int) : Int := if i = r.1 then 3 else if i = r.2 then 1 else 0
theorem Vd (r : Int × Int) (i : Int) : sQ W0 175 [.agg (eh r).toArray, iQ i] R (iQ (jS r i)) R := by
 refine ab func175 ntmps175 ?_
 refine aS fun b2 => ?_
 refine ag (fun c2 => ?_) fun c2 => ?_
 refine a8 ?_
 rw [jS, Qaf (by omega)]
 exact aj
 refine ag (fun c4 => ?_) fun c4 => ?_
 refine a8 ?_
 rw [jS, Qac (by omega), Qaf (by omega)]
 exact aj
 refine a8 ?_
 rw [jS, Qac (by omega), Qac (by omega)]
 exact aj
def kD (c : Cfg) (k : Nat) : Int × Int := c.nl.getD k (0, 0)
def dS (c : Cfg) (i : Int) : Nat → List Pl → List Pl
 | 0, pg => pg
 | k + 1, pg => if jS (kD c k) i = 0 then dS c i k pg else dA (dS c i k pg) ((8 + k : Nat) : Int) (jQ c k, jS (kD c k) i)
theorem vz {c : Cfg} {i : Int} {pg : List Pl} (h : Pgs pg) : ∀ k, Pgs (dS c i k pg)
 | 0 => h
 | k + 1 => by
  rw [dS]; split
  exact vz h k
  exact uM (vz h k)
theorem Ve (c : Cfg) (h : CfK W0 c) (i : Int) (pm : Nat) (pg : List Pl) (hp : Pgs pg) (hn : c.nl.length ≤ 4) : sQ W0 89 [.agg (cv c).toArray, iQ i, pV pm] (pt pm (bI pg) :: R) (.tuple #[]) (pt pm (bI (dS c i c.nl.length pg)) :: R) := by
 refine ab func89 ntmps89 ?_
 refine aS fun b3 => ?_
 refine fQ (fun k : Nat => k ≤ c.nl.length) (fun k => [(1, iQ i), (2, pV pm), (3, pV b3), (10, .slice c.na c.nl.length c.nc), (11, iQ (c.nl.length : Nat)), (12, iQ k)]) (fun k => pt b3 (dW c) :: pt pm (bI (dS c i k pg)) :: R) (fun k => c.nl.length - k) 0 ?_ ?_ ?_ ?_
 omega
 · repeat (first | exact ci | refine bQ rfl ?_)
 rw [show dS c i 0 pg = pg from rfl]
 exact IO
 intro k hk
 refine aw ?_
 refine aA rfl (fun c2 => ?_) fun c2 => ?_
 refine au 2 ?_
 refine dO (fun _ : Unit => k < c.nl.length) (fun _ => [(1, iQ i), (2, pV pm), (3, pV b3), (10, .slice c.na c.nl.length c.nc), (11, iQ (c.nl.length : Nat)), (12, iQ k)]) (fun _ => pt b3 (dW c) :: pt pm (bI (dS c i (k + 1) pg)) :: R) ?_ ?_
 refine au 2 ?_
 have hk1 : k < c.nl.length := by omega
 obtain ⟨g, o, hga, hc⟩ := (h.ok.n []).at_ hk1
 obtain ⟨x, hx⟩ : ∃ x, c.nl[k] = x := ⟨_, rfl⟩
 rw [hx] at hc
 have hA : kD c k = x := by grind [kD]
 have hpk := vz (c := c) (i := i) hp k
 refine aw ?_
 refine a6 (dH tY w3 rfl hga rfl rfl hk1 (by first | exact Qab _ | rfl)) ?_
 refine a6 (cJ hc.weak) ?_
 refine bu fun b7 => ?_
 refine ax aC ?_
 refine ac (ao call175 (Vd x i)) ?_
 refine ag (fun c5 => ?_) fun c5 => ?_
 refine a6 (dG (8 + k)) ?_
 refine ac (ao call176 (UG c h k)) ?_
 refine ac (ah call126 (E5 pm (dS c i k pg) hpk (8 + k : Nat) (jQ c k, jS x i))) ?_
 refine cu () ?_ (he := ?_)
 exact hk1
 rw [dS, hA, Qac (by simpa using c5)]
 exact IO
 refine cu () ?_ (he := ?_)
 exact hk1
 rw [dS, hA, Qaf (by simpa using c5)]
 exact IO
 intro _ hk1
 refine aw ?_
 refine a6 bS ?_
 exact bE (k + 1) (by omega)
 refine aw ?_
 refine bM (.inr rfl) .nil ?_
 obtain rfl : k = c.nl.length := by omega
 exact aj
theorem Vf {ws : List Nat} {n : Nat} (h : n ≤ 8) : aR (aR ws 8) n = aR ws n := by
 grind [aR]
abbrev gY : List Pl := List.replicate 12 (0, 0)
theorem vA : Pgs gY := ⟨rfl, fun n hn h => absurd (by
  have : n = 0 ∨ n = 1 ∨ n = 2 ∨ n = 3 ∨ n = 4 ∨ n = 5 ∨ n = 6 ∨ n = 7 ∨ n = 8 ∨ n = 9 ∨ n = 10 ∨ n = 11 := by omega
  rcases this with rfl | rfl | rfl | rfl | rfl | rfl | rfl | rfl | rfl | rfl | rfl | rfl <;> rfl) h⟩
theorem B6 : oD gY 0 8 := fun i _ hi => by
 have : i = 0 ∨ i = 1 ∨ i = 2 ∨ i = 3 ∨ i = 4 ∨ i = 5 ∨ i = 6 ∨ i = 7 := by omega
 rcases this with rfl | rfl | rfl | rfl | rfl | rfl | rfl | rfl <;> decide
@[reducible] def y2 (x : Bd) (q0 q1 q2 : Nat) (c : Cfg) (i : Nat) (wv : Value) (pb pv bx tr : Nat) : List Value :=
  [pV x.r, pV x.c, pV x.m, pV q0, pV q1, pV q2, pV x.v, pV x.t, .bool false, .int .u32 0, .int .u32 0, .int .u32 0, .int .u32 0] ++ cv c ++ [.int .i64 i, wv, pV pb, pV pv, pV bx, pV tr, .int .i64 0]
theorem Vg {S : World → Prop} {N : FSz} {e : aH} {o0 o1 o2 o3 o4 o5 o6 o7 : Operand} {x : Bd} {q0 q1 q2 i pb pv bx tr : Nat} {c : Cfg} {wv : Value} (hw : wv.oneCell' = true) (h0 : ev e o0 = some (.agg (FR x q0 q1 q2).toArray)) (h1 : ev e o1 = some (.agg (cv c).toArray)) (h2 : ev e o2 = some (iQ i)) (h3 : ev e o3 = some wv) (h4 : ev e o4 = some (pV pb)) (h5 : ev e o5 = some (pV pv)) (h6 : ev e o6 = some (pV bx)) (h7 : ev e o7 = some (pV tr)) :
    aW Tryz.prog S N e (.build 144 #[(0, o0), (1, o1), (2, o2), (3, o3), (4, o4), (5, o5), (6, o6), (7, o7)]) (.agg (y2 x q0 q1 q2 c i wv pb pv bx tr).toArray) :=
  fw (l' := y2 x q0 q1 q2 c i wv pb pv bx tr) a1D zeroValue144 (aM w0 (aM s6 (aM aO (aM yX (aM sizeOf61 (aM yT (aM I9 (aM I8 (aM aO fq)))))))))
    (iP (l' := [pV x.r, pV x.c, pV x.m, pV q0, pV q1, pV q2, pV x.v, pV x.t, .bool false, .int .u32 0, .int .u32 0, .int .u32 0, .int .u32 0, iQ 0, .slice none 0 0, .slice none 0 0, .slice none 0 0, .slice none 0 0, .slice none 0 0, iQ 0, iQ 0, iQ 0, .slice none 0 0, .pointer none, .pointer none, .pointer none, .pointer none, iQ 0]) rfl w0 h0 rfl (Qaa rfl) rfl
    (iP (l' := [pV x.r, pV x.c, pV x.m, pV q0, pV q1, pV q2, pV x.v, pV x.t, .bool false, .int .u32 0, .int .u32 0, .int .u32 0, .int .u32 0, iQ c.cats, .slice c.ga c.gl.length c.gc, .slice c.ra c.rl.length c.rc, .slice c.pa c.pl.length c.pc, .slice c.na c.nl.length c.nc, .slice c.sa c.sl.length c.sc, iQ c.gate, iQ c.quota, iQ 0, .slice none 0 0, .pointer none, .pointer none, .pointer none, .pointer none, iQ 0]) rfl s6 h1 rfl (Qaa rfl) rfl
    (cQ (l' := [pV x.r, pV x.c, pV x.m, pV q0, pV q1, pV q2, pV x.v, pV x.t, .bool false, .int .u32 0, .int .u32 0, .int .u32 0, .int .u32 0, iQ c.cats, .slice c.ga c.gl.length c.gc, .slice c.ra c.rl.length c.rc, .slice c.pa c.pl.length c.pc, .slice c.na c.nl.length c.nc, .slice c.sa c.sl.length c.sc, iQ c.gate, iQ c.quota, iQ i, .slice none 0 0, .pointer none, .pointer none, .pointer none, .pointer none, iQ 0]) rfl aO h2 rfl (Qaa rfl) rfl
    (cQ (l' := [pV x.r, pV x.c, pV x.m, pV q0, pV q1, pV q2, pV x.v, pV x.t, .bool false, .int .u32 0, .int .u32 0, .int .u32 0, .int .u32 0, iQ c.cats, .slice c.ga c.gl.length c.gc, .slice c.ra c.rl.length c.rc, .slice c.pa c.pl.length c.pc, .slice c.na c.nl.length c.nc, .slice c.sa c.sl.length c.sc, iQ c.gate, iQ c.quota, iQ i, wv, .pointer none, .pointer none, .pointer none, .pointer none, iQ 0]) rfl yX h3 hw (Qaa rfl) rfl
    (cQ (l' := [pV x.r, pV x.c, pV x.m, pV q0, pV q1, pV q2, pV x.v, pV x.t, .bool false, .int .u32 0, .int .u32 0, .int .u32 0, .int .u32 0, iQ c.cats, .slice c.ga c.gl.length c.gc, .slice c.ra c.rl.length c.rc, .slice c.pa c.pl.length c.pc, .slice c.na c.nl.length c.nc, .slice c.sa c.sl.length c.sc, iQ c.gate, iQ c.quota, iQ i, wv, pV pb, .pointer none, .pointer none, .pointer none, iQ 0]) rfl sizeOf61 h4 rfl (Qaa rfl) rfl
    (cQ (l' := [pV x.r, pV x.c, pV x.m, pV q0, pV q1, pV q2, pV x.v, pV x.t, .bool false, .int .u32 0, .int .u32 0, .int .u32 0, .int .u32 0, iQ c.cats, .slice c.ga c.gl.length c.gc, .slice c.ra c.rl.length c.rc, .slice c.pa c.pl.length c.pc, .slice c.na c.nl.length c.nc, .slice c.sa c.sl.length c.sc, iQ c.gate, iQ c.quota, iQ i, wv, pV pb, pV pv, .pointer none, .pointer none, iQ 0]) rfl yT h5 rfl (Qaa rfl) rfl
    (cQ (l' := [pV x.r, pV x.c, pV x.m, pV q0, pV q1, pV q2, pV x.v, pV x.t, .bool false, .int .u32 0, .int .u32 0, .int .u32 0, .int .u32 0, iQ c.cats, .slice c.ga c.gl.length c.gc, .slice c.ra c.rl.length c.rc, .slice c.pa c.pl.length c.pc, .slice c.na c.nl.length c.nc, .slice c.sa c.sl.length c.sc, iQ c.gate, iQ c.quota, iQ i, wv, pV pb, pV pv, pV bx, .pointer none, iQ 0]) rfl I9 h6 rfl (Qaa rfl) rfl
    (cQ (l' := [pV x.r, pV x.c, pV x.m, pV q0, pV q1, pV q2, pV x.v, pV x.t, .bool false, .int .u32 0, .int .u32 0, .int .u32 0, .int .u32 0, iQ c.cats, .slice c.ga c.gl.length c.gc, .slice c.ra c.rl.length c.rc, .slice c.pa c.pl.length c.pc, .slice c.na c.nl.length c.nc, .slice c.sa c.sl.length c.sc, iQ c.gate, iQ c.quota, iQ i, wv, pV pb, pV pv, pV bx, pV tr, iQ 0]) rfl I8 h7 rfl (Qaa rfl) rfl
    fp))))))))
def laid (c : Cfg) (i : Nat) (ws : List Nat) (fr : List ap) (po : Po) : Im := cD i (aR ws (cI c i).2.1.toNat) (cI c i).2.1.toNat ⟨fr, po, gY⟩
theorem Vh (c : Cfg) (h : CfK W0 c) (hr : rt c = true) (i : Nat) (hi : i < c.gl.length) (ps pb : Nat) (fr : List ap) (po : Po) (hF : cC fr) (hP : PoOk po) (hl : po.length = fr.length) (h0 : 0 < fr.length) (hfre : (cI c i).2.1 ≤ ((bP po i).length : Int)) (a : Option Addr) (cap : Nat) (ws : List Nat) (hs : ∀ A, bT (aB W0 A) a 1 gW ws) (hb : ∀ y ∈ ws, y < 4294967296) (hn : ws.length < 9223372036854775808) : sP W0 24 [.agg (cv c).toArray, iQ i, pV ps, pV pb, .slice a ws.length cap] (dk pb (ps, po) :: bj ps fr :: R) (fun v B => ∃ gb x bt bs q0 q1 q2 wg pv pm bx tr, v = .tuple #[pV gb, iQ 0] ∧ B = pt gb (a7 (y2 x q0 q1 q2 c i (.slice (some ⟨wg, 0, none⟩) (aR ws 8).length (aR ws 8).length) pb pv bx tr) 144) :: tt x i bt bs pv (kH 6 (bH [pt q0 (qO true df), pt q1 (qO true df), pt q2 (qO true df)]) :: pt pv (cp ps pm 0) :: pt bx kX :: fi tr [] :: pt wg (a7 ((aR ws 8).map wV) 46) :: pt pm (bI (dS c i c.nl.length (laid c i ws fr po).pg)) :: dk pb (ps, (laid c i ws fr po).po) :: bj ps (laid c i ws fr po).fr :: R)) := by
 have hck : jO c = 0 := Qas hr
 have hR := kW hr
 have hg4 := hR.g4
 have hgs := hR.gs i hi
 obtain ⟨g, o, hga, hc⟩ := (h.ok.g []).at_ hi
 obtain ⟨x, hx⟩ : ∃ x, c.gl[i] = x := ⟨_, rfl⟩
 have hA : cI c i = x := by grind [cI]
 obtain ⟨n, hxn⟩ : ∃ n : Nat, x.2.1 = (n : Int) := ⟨x.2.1.toNat, by rw [hA] at hgs; omega⟩
 have hln : (cI c i).2.1.toNat = n := by grind
 have hlaid : laid c i ws fr po = cD i (aR (aR ws 8) n) n ⟨fr, po, gY⟩ := by grind [laid, Vf]
 rw [hlaid]
 rw [hx] at hc
 rw [hA, hxn] at hgs hfre
 have hok : ImOk ⟨fr, po, gY⟩ := ⟨hF, hP, vA, hl⟩
 have hok1 := rp (who := i) (words := aR (aR ws 8) n) (n := n) (by omega) hok
 have hcl := vj ws 8
 have hpo1 := hok1.len
 have hfr1 : 0 < (cD i (aR (aR ws 8) n) n ⟨fr, po, gY⟩).fr.length := by
  have : ∀ k, (cD i (aR (aR ws 8) n) k ⟨fr, po, gY⟩).fr.length = fr.length := fun k => by
   induction k with
   | zero => rfl
   | succ k ih =>
    rw [cD, iD]
    split
    rw [(rn (rp (by omega) hok).fr).2]; exact ih
    exact ih
  rw [this]; exact h0
 refine ab func24 ntmps24 ?_
 refine aS fun b5 => ?_
 refine am rfl (ao Cr (xG c h.ok)) ?_
 rintro _ B_ ⟨at_, rfl, hB_⟩
 obtain rfl := hB_.symm
 rw [hck]
 refine aw ?_
 refine cA (fun g2_3 => ?_) fun g2_3 => ?_
 exact absurd g2_3 (by decide)
 refine cR rfl rfl rfl (fun g2_7 => ?_) fun g2_7 => ?_
 omega
 refine aw ?_
 refine aA rfl (fun c2 => ?_) fun c2 => ?_
 omega
 refine aw ?_
 refine am rfl (ao call86 (QY)) ?_
 rintro _ B_ ⟨pm, rfl, hB_⟩
 obtain rfl := hB_.symm
 refine aw ?_
 refine ac (ah ua (qX ps fr)) ?_
 refine cR rfl rfl rfl (fun g5_4 => ?_) fun g5_4 => ?_
 omega
 refine au 6 ?_
 refine aA rfl (fun c5 => ?_) fun c5 => ?_
 cases c5
 refine aw ?_
 refine am rfl (ao call87 (Fs a cap 8 ws (hs _) (by decide) hn)) ?_
 rintro _ B_ ⟨wg, rfl, hB_⟩
 obtain rfl := hB_.symm
 refine aw ?_
 refine a6 (dH k0 j5 rfl hga rfl rfl hi (by first | exact Qab _ | rfl)) ?_
 refine a6 (aG (hc.weak 1 _ (by rw [← hxn]; rfl : (eQ x)[1]? = some (iQ (n : Int))))) ?_
 refine dK 9 (dQ call88 (TY pb ps pm i n ⟨fr, po, gY⟩ hok h0 (some ⟨wg, 0, none⟩) (aR ws 8).length (aR ws 8) (by omega) (by omega) (by omega) B6 (by show n ≤ (bP po i).length; omega) (by intro A hA; exact (qR (b := wg) AN (AO _).symm).weak (k := hA)) (fun y hy => hb y (QbK hy)) (by omega))) ?_
 refine i5 ?_
 refine dK 6 (ah call89 (Ve c h i pm _ hok1.pg hR.nn)) ?_
 refine am rfl (cH call90 (Rh ps pm _ _ (vz hok1.pg _) hfr1)) ?_
 rintro _ B_ ⟨pv, rfl, hB_⟩
 obtain rfl := hB_.symm
 refine au 14 ?_
 refine i5 ?_
 refine am rfl (ah call91 (Vb i pv ps pm 0 (by omega))) ?_
 rintro _ B_ ⟨x_, bt, bs, q0, q1, q2, rfl, hB_⟩
 obtain rfl := hB_.symm
 refine aw ?_
 refine bu fun b19 => ?_
 refine iT 10 aC ?_
 refine i5 ?_
 refine bB [b19, b5] 12 fun hS => ?_
 refine ae 0 6 hS ?_
 refine cg 6 (ao call92 (UU)) ?_; clear hS
 rintro _ B_ ⟨bx, rfl, hB_⟩
 obtain rfl := hB_.symm
 refine ⟨aK, fun hS => ?_⟩
 refine cg 7 (ao call93 (UX)) ?_; clear hS
 rintro _ B_ ⟨tr, rfl, hB_⟩
 obtain rfl := hB_.symm
 refine ⟨aK, fun hS => ?_⟩
 refine av 8 hS (Vg rfl rfl rfl rfl rfl rfl rfl rfl rfl) ?_
 refine cg 9 (i3 rfl) ?_; clear hS
 rintro _ _ ⟨gb, rfl, rfl⟩
 refine ⟨aK, fun hS => ?_⟩
 refine ae 10 2 hS ?_
 refine aI ?_
 refine az ?_
 refine ⟨_, ⟨gb, x_, bt, bs, q0, q1, q2, wg, pv, pm, bx, tr, rfl, rfl⟩, IO⟩
section
variable {W0 : World} {N : FSz} {K : Act → World → Prop} {e : aH} {A R : List HP} {b : Nat} {l : List Value} {T : TypeId}
end
theorem Vi (b i : Nat) : sQ W0 267 [pV b] (pt b (a7 [.int .u32 0, .int .u32 0, .int .u32 0, .int .u32 0, .int .u32 0, .int .u32 0, .int .u32 0, iQ i] 105) :: R) (.tuple #[]) (pt b (a7 [.int .u32 0, .int .u32 0, .int .u32 0, .int .u32 0, .int .u32 0, .int .u32 4, .int .u32 0, iQ i] 105) :: R) := by
 refine ab func267 ntmps267 ?_
 refine a6 (uC kF bF Cf rfl) ?_
 refine ax (gK (Qaa rfl) SetRL.eq) ?_
 refine a6 (i4 (by decide)) ?_
 refine ax dy ?_
 refine bM (.inr rfl) .nil ?_
 exact aj
theorem Vj (i : Nat) (hi : i < 4) : sP W0 184 [iQ i] R (fun v B => ∃ b, v = .tuple #[pV b, iQ 0] ∧ B = pt b (a7 [.int .u32 0, .int .u32 0, .int .u32 0, .int .u32 0, .int .u32 0, .int .u32 4, .int .u32 0, iQ i] 105) :: R) := by
 refine ab func184 ntmps184 ?_
 refine cR rfl rfl rfl (fun g1_3 => ?_) fun g1_3 => ?_
 omega
 refine aw ?_
 refine aA rfl (fun c1 => ?_) fun c1 => ?_
 omega
 refine aw ?_
 refine aS fun b => ?_
 refine ac (ah call267 (Vi b i)) ?_
 refine az ?_
 exact ⟨_, ⟨_, rfl, rfl⟩, IO⟩
@[reducible] def FT (c : Cfg) (i : Nat) (wv : Value) (pb bb : Nat) : List Value := [.int .i64 c.cats, .slice c.ga c.gl.length c.gc, .slice c.ra c.rl.length c.rc, .slice c.pa c.pl.length c.pc, .slice c.na c.nl.length c.nc, .slice c.sa c.sl.length c.sc, .int .i64 c.gate, .int .i64 c.quota, .int .i64 i, wv, pV pb, .pointer none, .pointer none, .pointer none, .int .u32 0, .int .u32 0, .int .u32 0, .int .i64 0, .bool false, .int .i64 0, .int .i64 0, .int .i64 0, .int .u32 0, .int .u32 0, .int .u32 0, .int .i64 0, .bool false, .int .i64 0, .int .i64 0, .int .i64 0, .int .u32 0, .int .u32 0, .int .u32 0, .int .i64 0, .bool false, .int .i64 0, .int .i64 0, .int .i64 0, .pointer none, .pointer none, pV bb, .slice none 0 0, .int .i64 0, .bool false, .int .u32 0, .int .u32 0, .int .u32 0, .int .u32 0]
theorem Vk {S : World → Prop} {N : FSz} {e : aH} {o0 o1 o2 o3 o4 : Operand} {i pb bb : Nat} {c : Cfg} {wv : Value} (hw : wv.oneCell' = true) (h0 : ev e o0 = some (.agg (cv c).toArray)) (h1 : ev e o1 = some (iQ i)) (h2 : ev e o2 = some wv) (h3 : ev e o3 = some (pV pb)) (h4 : ev e o4 = some (pV bb)) :
    aW Tryz.prog S N e (.build 101 #[(0, o0), (1, o1), (2, o2), (3, o3), (10, o4)]) (.agg (FT c i wv pb bb).toArray) :=
  fw (l' := FT c i wv pb bb) qq zeroValue101 (aM s6 (aM aO (aM yX (aM If (aM C5 (aM Ih (aM sizeOf87 (aM sizeOf94 (aM sizeOf95 (aM sizeOf96 (aM IW (aM C6 (aM aO (aM jZ (aM sizeOf99 fq)))))))))))))))
    (iP (l' := [iQ c.cats, .slice c.ga c.gl.length c.gc, .slice c.ra c.rl.length c.rc, .slice c.pa c.pl.length c.pc, .slice c.na c.nl.length c.nc, .slice c.sa c.sl.length c.sc, iQ c.gate, iQ c.quota, iQ 0, .slice none 0 0, .pointer none, .pointer none, .pointer none, .pointer none, .int .u32 0, .int .u32 0, .int .u32 0, iQ 0, .bool false, iQ 0, iQ 0, iQ 0, .int .u32 0, .int .u32 0, .int .u32 0, iQ 0, .bool false, iQ 0, iQ 0, iQ 0, .int .u32 0, .int .u32 0, .int .u32 0, iQ 0, .bool false, iQ 0, iQ 0, iQ 0, .pointer none, .pointer none, .pointer none, .slice none 0 0, iQ 0, .bool false, .int .u32 0, .int .u32 0, .int .u32 0, .int .u32 0]) rfl s6 h0 rfl (Qaa rfl) rfl
    (cQ (l' := [iQ c.cats, .slice c.ga c.gl.length c.gc, .slice c.ra c.rl.length c.rc, .slice c.pa c.pl.length c.pc, .slice c.na c.nl.length c.nc, .slice c.sa c.sl.length c.sc, iQ c.gate, iQ c.quota, iQ i, .slice none 0 0, .pointer none, .pointer none, .pointer none, .pointer none, .int .u32 0, .int .u32 0, .int .u32 0, iQ 0, .bool false, iQ 0, iQ 0, iQ 0, .int .u32 0, .int .u32 0, .int .u32 0, iQ 0, .bool false, iQ 0, iQ 0, iQ 0, .int .u32 0, .int .u32 0, .int .u32 0, iQ 0, .bool false, iQ 0, iQ 0, iQ 0, .pointer none, .pointer none, .pointer none, .slice none 0 0, iQ 0, .bool false, .int .u32 0, .int .u32 0, .int .u32 0, .int .u32 0]) rfl aO h1 rfl (Qaa rfl) rfl
    (cQ (l' := [iQ c.cats, .slice c.ga c.gl.length c.gc, .slice c.ra c.rl.length c.rc, .slice c.pa c.pl.length c.pc, .slice c.na c.nl.length c.nc, .slice c.sa c.sl.length c.sc, iQ c.gate, iQ c.quota, iQ i, wv, .pointer none, .pointer none, .pointer none, .pointer none, .int .u32 0, .int .u32 0, .int .u32 0, iQ 0, .bool false, iQ 0, iQ 0, iQ 0, .int .u32 0, .int .u32 0, .int .u32 0, iQ 0, .bool false, iQ 0, iQ 0, iQ 0, .int .u32 0, .int .u32 0, .int .u32 0, iQ 0, .bool false, iQ 0, iQ 0, iQ 0, .pointer none, .pointer none, .pointer none, .slice none 0 0, iQ 0, .bool false, .int .u32 0, .int .u32 0, .int .u32 0, .int .u32 0]) rfl yX h2 hw (Qaa rfl) rfl
    (cQ (l' := [iQ c.cats, .slice c.ga c.gl.length c.gc, .slice c.ra c.rl.length c.rc, .slice c.pa c.pl.length c.pc, .slice c.na c.nl.length c.nc, .slice c.sa c.sl.length c.sc, iQ c.gate, iQ c.quota, iQ i, wv, pV pb, .pointer none, .pointer none, .pointer none, .int .u32 0, .int .u32 0, .int .u32 0, iQ 0, .bool false, iQ 0, iQ 0, iQ 0, .int .u32 0, .int .u32 0, .int .u32 0, iQ 0, .bool false, iQ 0, iQ 0, iQ 0, .int .u32 0, .int .u32 0, .int .u32 0, iQ 0, .bool false, iQ 0, iQ 0, iQ 0, .pointer none, .pointer none, .pointer none, .slice none 0 0, iQ 0, .bool false, .int .u32 0, .int .u32 0, .int .u32 0, .int .u32 0]) rfl If h3 rfl (Qaa rfl) rfl
    (cQ (l' := [iQ c.cats, .slice c.ga c.gl.length c.gc, .slice c.ra c.rl.length c.rc, .slice c.pa c.pl.length c.pc, .slice c.na c.nl.length c.nc, .slice c.sa c.sl.length c.sc, iQ c.gate, iQ c.quota, iQ i, wv, pV pb, .pointer none, .pointer none, .pointer none, .int .u32 0, .int .u32 0, .int .u32 0, iQ 0, .bool false, iQ 0, iQ 0, iQ 0, .int .u32 0, .int .u32 0, .int .u32 0, iQ 0, .bool false, iQ 0, iQ 0, iQ 0, .int .u32 0, .int .u32 0, .int .u32 0, iQ 0, .bool false, iQ 0, iQ 0, iQ 0, .pointer none, .pointer none, pV bb, .slice none 0 0, iQ 0, .bool false, .int .u32 0, .int .u32 0, .int .u32 0, .int .u32 0]) rfl IW h4 rfl (Qaa rfl) rfl
    fp)))))
theorem Vl {R : List HP} {qs c : Nat} {a : Option Addr} {fr : List ap} {vs : List Value} (hv : vs.length = fr.length) : Ent (pt qs (a7 [.slice a fr.length c] 129) :: osl 130 1 (.slice a fr.length c) vs :: ((vs.zip fr).map dB ++ R)) (cX qs fr :: R) := pG (vs := vs) hv rfl
theorem FU {P : Program} {S : World → Prop} {N : FSz} {e : aH} {x : Operand} {v : Value} {l : List Value} {T : TypeId} {fs : Array Field} {nm : String} {i ft fo : Nat} {em : Bool} {tg pk : String} {bo : Nat} (hx : ev e x = some (.agg l.toArray)) (hu : P.underlying T = some (.struct fs)) (hf : fs.toList[i]? = some ⟨nm, ft, fo, em, tg, pk, bo⟩)
    (ha : ∀ w, (isAgg ft).run P w = .ok false w) (hl : l[fo]? = some v) : aW P S N e (.field T x i) v := fun a w _ _ _ _ _ hF _ => by
 have hf' : fs[i]? = some ⟨nm, ft, fo, em, tg, pk, bo⟩ := by grind
 simp only [execOp, Instr.field, hF.eval hx, Sem.run_bind, dU hu, hf', Result.andThen_ok, asAgg, Sem.run_pure]
 rw [sh ha hl]; rfl
section
variable {W0 : World} {N : FSz} {K : Act → World → Prop} {e : aH} {A B R R1 R2 R3 : List HP} {g n c : Nat} {a : Option Addr} {v : Value} {ls : List (List ByteArray)}
end
section
variable {W0 : World} {N : FSz} {K : Act → World → Prop} {e : aH} {A B R R1 R2 R3 R4 R5 R6 : List HP} {p n : Nat} {ps : List Prt}
end
theorem y3 {n f : Nat} : (List.replicate n bX).set f bX = List.replicate n bX := by
 simp_all
theorem tu {c : Cfg} {f i : Nat} (hr : rt c = true) (hf : f < aY c) (h : gX c f = some i) : nH c f = (1, (i : Int)) := by
 rw [nH, Qaf ⟨hr, by omega, by have := (kW hr).nd; rw [aY] at hf; omega⟩, h]; rfl
theorem FV {c : Cfg} {f : Nat} (hr : rt c = true) (hf : f < aY c) (h : gX c f = none) : (nH c f).1 = 2 := by
 rw [nH, Qaf ⟨hr, by omega, by have := (kW hr).nd; rw [aY] at hf; omega⟩, h]; rfl
def f16 (b : List Nat) : List Value := (List.range 16).map fun i => bV (b.getD i 0)
section
variable {W0 : World} {N : FSz} {K : Act → World → Prop} {e : aH} {A B R R1 R2 R3 : List HP} {d : Nat} {x : Dk}
end
end
end Go.Proofs.YtofillmoflhijaaGreatDoor
