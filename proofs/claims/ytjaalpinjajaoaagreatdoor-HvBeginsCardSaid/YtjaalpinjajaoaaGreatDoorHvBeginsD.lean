/-
  Part 4 of the proof of HvBegins: rules, and walks of functions. Conditions: none.
-/
import Derived.Test.YtjaalpinjajaoaaGreatDoorHvBeginsC
namespace Go.Proofs.YtjaalpinjajaoaaGreatDoor
open Go.Proofs.Tryz
set_option linter.unusedSimpArgs false
set_option linter.unusedVariables false
set_option maxRecDepth 20000
set_option linter.defProp false
set_option synthInstance.maxSize 8192
set_option synthInstance.maxHeartbeats 2000000
variable {W0 : World} {R : List HP}
section
open Go.RowKit
theorem Z2 (a : Option Addr) (n c : Nat) : sP W0 479 [.slice a n c] R (fun v B => ∃ bs, v = .func (.func 489) #[] #[pQ bs] ∧ B = pt bs (a8 [.slice a n c] 475) :: R) := by
 refine ac func479 ntmps479 ?_
 refine cW (gE rfl rfl) fun b1 => ?_
 refine aa ?_
 exact ⟨_, ⟨b1, rfl, rfl⟩, IO⟩
theorem Z3 (W0 : World) (bs L c : Nat) (a : Option Addr) (its : List It) (hN : its.length < 1000) (C : Nat → List HP) (hr : ∀ i R, i < its.length → oe Tryz.prog W0 L [.agg (aY (its.getD i default)).toArray] (C i ++ R) (fun v B => v = .bool true ∧ B = C (i + 1) ++ R)) : sQ W0 489 [.func (.yield L) #[] #[], pQ bs] (pt bs (a8 [.slice a its.length c] 475) :: osl 548 6 (.slice a its.length c) (its.flatMap aY) :: C 0) (.tuple #[]) (pt bs (a8 [.slice a its.length c] 475) :: osl 548 6 (.slice a its.length c) (its.flatMap aY) :: C its.length) := by
 refine ac func489 ntmps489 ?_
 refine dr (fun i : Nat => i ≤ its.length) (fun i => [(0, .func (.yield L) #[] #[]), (5, .slice a its.length c), (6, iQ (its.length : Nat)), (7, iQ i)]) (fun i => pt bs (a8 [.slice a its.length c] 475) :: osl 548 6 (.slice a its.length c) (its.flatMap aY) :: C i) (fun i => its.length - i) 0 ?_ ?_
 omega
 intro i hi
 refine aw ?_
 refine ah (fun c1 => ?_) fun c1 => ?_
 have hi1 : i < its.length := by omega
 refine jH (E := 548) (sz := 6) (a := a) (n := its.length) (c := c) aY its gy (by decide) rfl (fun hs => ?_)
 obtain ⟨g, o, rfl, hc⟩ := hs.at_ hi1
 have hgi : its.getD i default = its[i] := by grind
 refine aw ?_
 refine a7 (bE hi1) ?_
 refine a7 (bZ hc) ?_
 refine bB fun bx => ?_
 refine eu (gD dN rfl rfl rfl rfl rfl) ?_
 rintro _ _ rfl
 refine aM (aC (aI (aU (ab rfl (aW rfl) (ab rfl (nr lr dN rfl rfl) ?_)))))
 refine Be rfl rfl rfl (Bh (QaO (l₁ := [_, _, _])) (hgi ▸ hr i [_, _, _] hi1)) ?_
 rintro _ B_ ⟨rfl, hB_⟩
 obtain rfl := hB_.symm
 refine oY QaO ?_
 simp only [Qar, Qan]
 refine aw ?_
 refine ah (fun c3 => ?_) fun c3 => ?_
 exact absurd rfl c3
 refine a7 cQ ?_
 exact cv (i + 1) (by omega)
 refine bA (.inr rfl) .nil ?_
 obtain rfl : i = its.length := by omega
 exact ai
theorem Z4 {W0 : World} {A : List HP} {e : aP} {n' L D bs c : Nat} {a : Option Addr} {ps : Array Tmp} {asg body : Code} {Go Stop : List HP → Prop} (its : List It) (hN : its.length < 1000) (C : Nat → List HP)
    (hp : A.Perm (pt bs (a8 [.slice a its.length c] 475) :: osl 548 6 (.slice a its.length c) (its.flatMap aY) :: C 0))
    (hgo : Go (pt bs (a8 [.slice a its.length c] 475) :: osl 548 6 (.slice a its.length c) (its.flatMap aY) :: C its.length))
    (hr : ∀ i R, i < its.length → oe Tryz.prog W0 L [.agg (aY (its.getD i default)).toArray] (d5 L ⟨e, n', ps, asg, body, .ready, none, D⟩ :: pt D (.deferred (some [])) :: (C i ++ R))
      (fun v B => v = .bool true ∧ B = d5 L ⟨e, n', ps, asg, body, .ready, none, D⟩ :: pt D (.deferred (some [])) :: (C (i + 1) ++ R))) :
    aZ Tryz.prog W0 489 (.func (.yield L) #[] #[] :: [pQ bs]) (d5 L ⟨e, n', ps, asg, body, .ready, none, D⟩ :: pt D (.deferred (some [])) :: A)
      (fun _ B => (∃ C, B = d5 L ⟨e, n', ps, asg, body, .ready, none, D⟩ :: pt D (.deferred (some [])) :: C ∧ Go C) ∨ (∃ C, B = d5 L ⟨e, n', ps, asg, body, .done, some .ret, D⟩ :: pt D (.deferred (some [])) :: C ∧ Stop C)) := by
 have sw : ∀ (x y p q : HP) (Z : List HP), (x :: y :: p :: q :: Z).Perm (p :: q :: x :: y :: Z) := fun x y p q Z =>
  (((List.Perm.swap _ _ _).trans ((List.Perm.swap _ _ _).cons _)).cons _).trans ((List.Perm.swap _ _ _).trans ((List.Perm.swap _ _ _).cons _))
 refine lZ (((hp.cons _).cons _).trans (sw _ _ _ _ _)) (iy (Z3 W0 bs L c a its hN (fun i => d5 L ⟨e, n', ps, asg, body, .ready, none, D⟩ :: pt D (.deferred (some [])) :: C i) (fun i R hi => hr i R hi)) ?_)
 rintro v B ⟨_, rfl⟩
 exact ⟨_, .inl ⟨_, rfl, hgo⟩, Ent.ofPerm (sw _ _ _ _ _)⟩
def tB (b : Nat) (l : List It) : HP := chk (fun C => ∃ a c, C = [pt b (a8 [.slice a l.length c] 475), osl 548 6 (.slice a l.length c) (l.flatMap aY)])
section
variable {W0 : World} {N : FSz} {K : Act → World → Prop} {e : aP} {A R R1 R2 : List HP} {b n c : Nat} {l : List It} {a : Option Addr} {ys : List Value}
theorem Ih [hk : Tk tB b A l R] (h : ∀ a c, am W0 N K e (pt b (a8 [.slice a l.length c] 475) :: osl 548 6 (.slice a l.length c) (l.flatMap aY) :: R)) : am W0 N K e A :=
  gJ (r := tB) (b := b) (mN fun C hC => by obtain ⟨a, c, rfl⟩ := hC; exact h a c)
theorem Z5 (l : List It) [h1 : Tk pt b A (a8 [.slice a n c] 475) R1] [h2 : Tk (osl 548 6) (.slice a n c) R1 ys R] (hn : n = l.length) (hy : ys = l.flatMap aY) (k : am W0 N K e (tB b l :: R)) : am W0 N K e A := by
 subst hn; subst hy
 exact ja ((Ent.ofPerm (h1.perm.trans (h2.perm.cons _))).trans (dQ (R := R) (C := [_, _]) ⟨a, c, rfl⟩)) k
theorem Z6 [h1 : Tk pt b A (a8 [.slice none 0 0] 475) R] (k : am W0 N K e (tB b [] :: R)) : am W0 N K e A :=
  ja ((Ent.ofPerm h1.perm).trans ((Ent.cons (dP (E := 548) (sz := 6) (B := R))).trans (dQ (R := R) (C := [pt b (a8 [.slice none 0 0] 475), osl 548 6 (.slice none 0 0) []]) ⟨none, 0, rfl⟩))) k
end
theorem Z7 (bs c : Nat) (a : Option Addr) (its : List It) (hN : its.length < 900) : sP W0 493 [.slice none 0 0, .func (.func 489) #[] #[pQ bs]] (pt bs (a8 [.slice a its.length c] 475) :: osl 548 6 (.slice a its.length c) (its.flatMap aY) :: R) (fun v B => ∃ a' c', v = .slice a' its.length c' ∧ B = osl 548 6 (.slice a' its.length c') (its.flatMap aY) :: osl 548 6 (.slice a its.length c) (its.flatMap aY) :: R) := by
 refine ac func493 ntmps493 ?_
 refine dR (gE rfl rfl) fun b1 => ?_
 refine au 5 ?_
 refine Z6 (b := b1) ?_
 refine au 5 ?_
 refine yh (fun C => C = pt bs (a8 [.slice a its.length c] 475) :: osl 548 6 (.slice a its.length c) (its.flatMap aY) :: tB b1 its :: R) (fun C => False) rfl call489 ?_ ?_ ?_
 intro L D
 refine Z4 its (by omega) (fun i => tB b1 (its.take i) :: R) (by rw [List.take_zero]; exact px (r1 := pt) (b1 := bs) (r2 := osl 548 6) (b2 := .slice a its.length c) (r3 := tB) (b3 := b1)) (by grind) ?_
 intro i R' hi
 simp only [Qar, Qan]
 have htk : its.take (i + 1) = its.take i ++ [its.getD i default] := by simp_all
 have htl : (its.take i).length = i := by grind
 refine vM rfl rfl ?_
 refine aU (ao rfl (da qB) ?_)
 rintro _ _ ⟨bd, rfl, rfl⟩
 refine i7 1 aD ?_
 refine vL rfl ?_
 refine au 1 ?_
 refine Ih (b := b1) fun a2 c2 => ?_
 refine aU (ab rfl (ci DF rfl (aE rfl)) ?_)
 refine ab rfl (nr lr dN rfl rfl) ?_
 refine ao rfl (gH iL dN qB rfl (dX rfl rfl fR) rfl (by decide) (by decide) (by decide)) ?_
 rintro _ _ ⟨b3, rfl, rfl⟩
 refine ao rfl (eQ (sz := 6) (by_ := 48) (info := Tryz.t548) iL (by kernel_rfl) rfl rfl rfl rfl (by decide) rfl rfl dW rfl rfl (by simp only [maxLen]; omega) (by omega)) ?_
 rintro _ _ ⟨a1, c1, rfl, rfl⟩
 refine i7 2 dq ?_
 refine Z5 (b := b1) (its.take (i + 1)) (by grind) (by grind) ?_
 refine ul ?_
 exact ai
 intro D C hC
 subst hC
 refine au 3 ?_
 refine Ih (b := b1) fun a2 c2 => ?_
 refine aU (ab rfl (ci DF rfl (aE rfl)) ?_)
 refine ab rfl (bq rfl) (aM (aC (dC (qF (.inl rfl) (.cons (bP rfl) .nil) ?_))))
 exact ⟨_, ⟨a2, c2, rfl, rfl⟩, IO⟩
 grind
theorem Z8 (bs c : Nat) (a : Option Addr) (its : List It) (hN : its.length < 900) : sP W0 487 [.func (.func 489) #[] #[pQ bs]] (pt bs (a8 [.slice a its.length c] 475) :: osl 548 6 (.slice a its.length c) (its.flatMap aY) :: R) (fun v B => ∃ a' c', v = .slice a' its.length c' ∧ B = osl 548 6 (.slice a' its.length c') (its.flatMap aY) :: osl 548 6 (.slice a its.length c) (its.flatMap aY) :: R) := by
 refine ac func487 ntmps487 ?_
 refine ao rfl (cJ call493 (Z7 bs c a its hN)) ?_
 rintro _ B_ ⟨a2, c2, rfl, hB_⟩
 obtain rfl := hB_.symm
 refine aw ?_
 refine aa ?_
 exact ⟨_, ⟨a2, c2, rfl, rfl⟩, IO⟩
theorem Ii (x : Int) : sQ W0 490 [iQ x] R (.bool false) R := by
 refine ac func490 ntmps490 ?_
 refine aa ?_
 refine aQ ?_
 simp [bD]
def tC (x y : Int) : Int := if x < y then -1 else if x > y then 1 else 0
theorem Z9 (x y : Int) : sQ W0 481 [iQ x, iQ y] R (iQ (tC x y)) R := by
 refine ac func481 ntmps481 ?_
 refine ag (ar call490 (Ii x)) ?_
 refine ag (ar call490 (Ii y)) ?_
 refine ah (fun c9 => ?_) fun c9 => ?_
 refine aa ?_
 refine aQ ?_
 rw [tC, Qae c9] <;> rfl
 refine ah (fun c11 => ?_) fun c11 => ?_
 refine aa ?_
 refine aQ ?_
 rw [tC, Qab c9, Qae (by omega)] <;> rfl
 refine aa ?_
 refine aQ ?_
 rw [tC, Qab c9, Qab (by omega)] <;> rfl
theorem Ij (x y : It) : sQ W0 480 [.agg (aY x).toArray, .agg (aY y).toArray] R (iQ (tC x.u y.u)) R := by
 refine ac func480 ntmps480 ?_
 refine aV fun b1 => ?_
 refine dR (k0 rfl) fun b2 => ?_
 refine ab rfl (bq rfl) (aM (aC (aI (aU ?_))))
 refine ab rfl (d3 rfl rP rfl aO rfl (by first | exact Qac _ | rfl)) ?_
 refine ab rfl (ci cy rfl (aE rfl)) ?_
 refine ab rfl (d3 rfl rP rfl aO rfl (by first | exact Qac _ | rfl)) ?_
 refine ab rfl (ci cy rfl (aE rfl)) ?_
 refine ao rfl (ix call481 rfl (Z9 x.u y.u)) ?_
 rintro _ B_ ⟨rfl, hB_⟩
 obtain rfl := hB_.symm
 refine ab rfl (bq rfl) (aM (aC (dC ?_)))
 exact aa ai
theorem uV (x y : Int) : tC x y < 0 ↔ x < y := by
 unfold tC
 split
 omega
 split <;> omega
def zu (l : List It) (j i : Nat) : Prop := ∀ p q, p < q → q ≤ i → q ≠ j → us l p ≤ us l q
theorem Za {l : List It} {j i : Nat} (h : zu l j i) (hj : 0 < j) (hji : j ≤ i) (hi : i < l.length) (hlt : us l j < us l (j - 1)) : zu (swapL l j (j - 1)) (j - 1) i := by
 have sw := jq (l := l) (i := j) (j := j - 1) (by omega) (by omega)
 intro p q hpq hq hne
 rw [sw, sw]
 have hjj : ¬ j - 1 = j := by omega
 by_cases e1 : q = j
 subst e1
 rw [Qae (rfl : q = q)]
 by_cases e2 : p = q - 1
 omega
 rw [Qab (by omega), Qab e2]; exact h p (q - 1) (by omega) (by omega) (by omega)
 rw [Qab e1, Qab hne]
 by_cases e2 : p = j
 rw [Qae e2]; exact h (j - 1) q (by omega) hq e1
 rw [Qab e2]
 by_cases e3 : p = j - 1
 rw [Qae e3]; exact h j q (by omega) hq e1
 rw [Qab e3]; exact h p q hpq hq e1
theorem Zb {l : List It} {j i : Nat} (h : zu l j i) (hd : j = 0 ∨ us l (j - 1) ≤ us l j) : ∀ p q, p < q → q ≤ i → us l p ≤ us l q := fun p q hpq hq => by
 by_cases e : q = j
 subst e
 rcases hd with h0 | h1
 omega
 by_cases e2 : p = q - 1
 grind
 have := h p (q - 1) (by omega) (by omega) (by omega); omega
 exact h p q hpq hq e
theorem Zc (g c : Nat) (its : List It) (sp : List Value) (hN : its.length < 900) (h0 : 0 < its.length) : sP W0 496 [.slice (some ⟨g, 0, none⟩) its.length c, .int .i64 0, .int .i64 (its.length : Nat), .func (.func 480) #[] #[]] (pt g (a8 (its.flatMap aY ++ sp) 548) :: R) (fun v B => ∃ l : List It, v = .tuple #[] ∧ B = pt g (a8 (l.flatMap aY ++ sp) 548) :: R ∧ l.Perm its ∧ ∀ p q, p < q → q < its.length → us l p ≤ us l q) := by
 refine jG 3 func496 ntmps496 ?_
 refine k8 4 (dx rfl rfl (bU (by omega))) ?_
 refine dr (fun X : List It × Nat => X.1.Perm its ∧ 0 < X.2 ∧ X.2 ≤ its.length ∧ ∀ p q, p < q → q < X.2 → us X.1 p ≤ us X.1 q) (fun X => [(0, .slice (some ⟨g, 0, none⟩) its.length c), (1, .int .i64 0), (2, .int .i64 (its.length : Nat)), (3, .func (.func 480) #[] #[]), (8, .int .i64 X.2)]) (fun X => pt g (a8 (X.1.flatMap aY ++ sp) 548) :: R) (fun X => its.length - X.2) (its, 1) ?_ ?_
 grind
 intro ⟨l, i⟩ ⟨hp, hi0, hi, hS⟩
 dsimp only at hp hi0 hi hS ⊢
 refine au 8 ?_
 refine aA rfl (fun c1 => ?_) fun c1 => ?_
 refine au 11 ?_
 refine dr (fun X : List It × Nat => X.1.Perm its ∧ X.2 ≤ i ∧ zu X.1 X.2 i) (fun X => [(0, .slice (some ⟨g, 0, none⟩) its.length c), (1, .int .i64 0), (2, .int .i64 (its.length : Nat)), (3, .func (.func 480) #[] #[]), (8, .int .i64 i), (9, .int .i64 X.2)]) (fun X => pt g (a8 (X.1.flatMap aY ++ sp) 548) :: R) (fun X => X.2) (l, i) ?_ ?_
 exact ⟨hp, Qaj _, fun p q h1 h2 h3 => hS p q h1 (by omega)⟩
 intro ⟨l2, j⟩ ⟨hp2, hj, hS2⟩
 dsimp only at hp2 hj hS2 ⊢
 have hl2 := hp2.length_eq
 refine aI ?_
 refine ec (fun _ : Unit => True) (fun _ => [(0, .slice (some ⟨g, 0, none⟩) its.length c), (1, .int .i64 0), (2, .int .i64 (its.length : Nat)), (3, .func (.func 480) #[] #[]), (8, .int .i64 i), (9, .int .i64 j), (34, .bool (decide (0 < j ∧ us l2 j < us l2 (j - 1))))]) (fun _ => pt g (a8 (l2.flatMap aY ++ sp) 548) :: R) ?_ ?_
 skip
 refine jF [(g, 0, _)] 17 mixed rfl (cz cG) (fun hS => ?_)
 refine ae 0 4 hS ?_
 refine lY (t := 21) rfl ?_ ?_
 intro c4g
 have hj0 : 0 < j := by omega
 have hjl : j < l2.length := by omega
 have hjm : (j : Int) - 1 = ((j - 1 : Nat) : Int) := by omega
 refine ae 4 3 hS ?_
 refine cH 7 rfl rfl rfl hS (jE iL dN rfl rfl rfl (by omega) (by first | exact Qac _ | rfl)) ?_
 refine ae 9 2 hS ?_
 refine cH 11 rfl rfl rfl hS (jW rfl rfl (by rw [bU (by omega)]; omega : IntKind.wrap .i64 ((j : Int) - 1) = ((j - 1 : Nat) : Int))) ?_
 refine cH 12 rfl rfl rfl hS (jE iL dN rfl rfl rfl (by omega) (by first | exact Qac _ | rfl)) ?_
 refine eh (is := [8, 13]) (by kernel_rfl) rfl ⟨?_, ?_, trivial⟩
 skip
 refine lx rfl rfl (cV (gd lr dN rfl (cp (kh l2 sp j hjl) rfl) rfl)) rfl ?_; clear hS
 rintro _ _ ⟨rfl, rfl⟩
 refine ⟨(cz cG), fun hS => ?_⟩
 refine kU 13 rfl rfl (cV (gd lr dN rfl (cp (kh l2 sp (j - 1) (by omega)) rfl) rfl)) (cz cG) fun hS => ?_
 refine kU 14 rfl rfl (fQ rfl call480 rfl (Ij (l2.getD j default) (l2.getD (j - 1) default))) (cz cG) fun hS => ?_
 refine ae 15 2 hS ?_
 refine fw ?_
 refine aC ?_
 refine i5 () ?_ ?_ ?_
 trivial
 · repeat (first | exact cI | refine cj rfl ?_ | refine cj (Qak (fun b => some (Value.bool b)) (QaP.2 ⟨fun h => ⟨by omega, (uV _ _).1 h⟩, fun h => (uV _ _).2 h.2⟩)) ?_ | refine cj (Qak (fun b => some (Value.bool b)) (Qav (fun h => absurd h.1 (by omega))).symm) ?_)
 exact IO
 skip
 refine lx rfl rfl (cV (gd lr dN rfl (cp (kh l2 sp (j - 1) (by omega)) rfl) rfl)) rfl ?_; clear hS
 rintro _ _ ⟨rfl, rfl⟩
 refine ⟨(cz cG), fun hS => ?_⟩
 refine kU 8 rfl rfl (cV (gd lr dN rfl (cp (kh l2 sp j hjl) rfl) rfl)) (cz cG) fun hS => ?_
 refine kU 14 rfl rfl (fQ rfl call480 rfl (Ij (l2.getD j default) (l2.getD (j - 1) default))) (cz cG) fun hS => ?_
 refine ae 15 2 hS ?_
 refine fw ?_
 refine aC ?_
 refine i5 () ?_ ?_ ?_
 trivial
 · repeat (first | exact cI | refine cj rfl ?_ | refine cj (Qak (fun b => some (Value.bool b)) (QaP.2 ⟨fun h => ⟨by omega, (uV _ _).1 h⟩, fun h => (uV _ _).2 h.2⟩)) ?_ | refine cj (Qak (fun b => some (Value.bool b)) (Qav (fun h => absurd h.1 (by omega))).symm) ?_)
 exact IO
 intro c4g
 refine ae 4 13 hS ?_
 refine fw ?_
 refine aC ?_
 refine i5 () ?_ ?_ ?_
 trivial
 · repeat (first | exact cI | refine cj rfl ?_ | refine cj (Qak (fun b => some (Value.bool b)) (QaP.2 ⟨fun h => ⟨by omega, (uV _ _).1 h⟩, fun h => (uV _ _).2 h.2⟩)) ?_ | refine cj (Qak (fun b => some (Value.bool b)) (Qav (fun h => absurd h.1 (by omega))).symm) ?_)
 exact IO
 intro _ _
 refine aA rfl (fun c4 => ?_) fun c4 => ?_
 obtain ⟨hj0, c4⟩ := c4
 have hjl : j < l2.length := by omega
 have hjm : (j : Int) - 1 = ((j - 1 : Nat) : Int) := by omega
 refine au 2 ?_
 refine ec (fun _ : Unit => True) (fun _ => [(0, .slice (some ⟨g, 0, none⟩) its.length c), (1, .int .i64 0), (2, .int .i64 (its.length : Nat)), (3, .func (.func 480) #[] #[]), (8, .int .i64 i), (9, .int .i64 j)]) (fun _ => pt g (a8 ((swapL l2 j (j - 1)).flatMap aY ++ sp) 548) :: R) ?_ ?_
 skip
 refine kQ ?_
 refine jF [] 18 mixed rfl cG (fun hS => ?_)
 refine ae 0 4 hS ?_
 refine cH 4 rfl rfl rfl hS (jW rfl rfl (by rw [bU (by omega)]; omega : IntKind.wrap .i64 ((j : Int) - 1) = ((j - 1 : Nat) : Int))) ?_
 refine ae 5 2 hS ?_
 refine cH 7 rfl rfl rfl hS (jW rfl rfl (by rw [bU (by omega)]; omega : IntKind.wrap .i64 ((j : Int) - 1) = ((j - 1 : Nat) : Int))) ?_
 refine cH 8 rfl rfl rfl hS (jE iL dN rfl rfl rfl (by omega) (by first | exact Qac _ | rfl)) ?_
 refine ae 10 2 hS ?_
 refine cH 12 rfl rfl rfl hS (jE iL dN rfl rfl rfl (by omega) (by first | exact Qac _ | rfl)) ?_
 refine eh (is := [9, 13]) (by kernel_rfl) rfl ⟨?_, ?_, trivial⟩
 skip
 refine lx rfl rfl (cV (gd lr dN rfl (cp (kh l2 sp (j - 1) (by omega)) rfl) rfl)) rfl ?_; clear hS
 rintro _ _ ⟨rfl, rfl⟩
 refine ⟨cG, fun hS => ?_⟩
 refine kU 13 rfl rfl (cV (gd lr dN rfl (cp (kh l2 sp j hjl) rfl) rfl)) cG fun hS => ?_
 refine cH 14 rfl rfl rfl hS (jE iL dN rfl rfl rfl (by omega) (by first | exact Qac _ | rfl)) ?_
 refine kV 15 rfl rfl (uh dN rfl rfl rfl rfl (nN l2 sp j hjl) (oG l2 sp j (l2.getD (j - 1) default) hjl)) cG fun hS => ?_
 refine cH 16 rfl rfl rfl hS (jE iL dN rfl rfl rfl (by omega) (by first | exact Qac _ | rfl)) ?_
 refine kV 17 rfl rfl (uh dN rfl rfl rfl rfl (nN (l2.set j (l2.getD (j - 1) default)) sp (j - 1) (by rw [Qao]; omega)) (oG (l2.set j (l2.getD (j - 1) default)) sp (j - 1) (l2.getD j default) (by rw [Qao]; omega))) cG fun hS => ?_
 refine fw ?_
 refine au 2 ?_
 refine cq () ?_ (he := ?_)
 trivial
 show Ent _ (pt g (a8 ((swapL l2 j (j - 1)).flatMap aY ++ sp) 548) :: R)
 unfold swapL
 exact IO
 skip
 refine lx rfl rfl (cV (gd lr dN rfl (cp (kh l2 sp j hjl) rfl) rfl)) rfl ?_; clear hS
 rintro _ _ ⟨rfl, rfl⟩
 refine ⟨cG, fun hS => ?_⟩
 refine kU 9 rfl rfl (cV (gd lr dN rfl (cp (kh l2 sp (j - 1) (by omega)) rfl) rfl)) cG fun hS => ?_
 refine cH 14 rfl rfl rfl hS (jE iL dN rfl rfl rfl (by omega) (by first | exact Qac _ | rfl)) ?_
 refine kV 15 rfl rfl (uh dN rfl rfl rfl rfl (nN l2 sp j hjl) (oG l2 sp j (l2.getD (j - 1) default) hjl)) cG fun hS => ?_
 refine cH 16 rfl rfl rfl hS (jE iL dN rfl rfl rfl (by omega) (by first | exact Qac _ | rfl)) ?_
 refine kV 17 rfl rfl (uh dN rfl rfl rfl rfl (nN (l2.set j (l2.getD (j - 1) default)) sp (j - 1) (by rw [Qao]; omega)) (oG (l2.set j (l2.getD (j - 1) default)) sp (j - 1) (l2.getD j default) (by rw [Qao]; omega))) cG fun hS => ?_
 refine fw ?_
 refine au 2 ?_
 refine cq () ?_ (he := ?_)
 trivial
 show Ent _ (pt g (a8 ((swapL l2 j (j - 1)).flatMap aY ++ sp) 548) :: R)
 unfold swapL
 exact IO
 intro _ _
 refine au 2 ?_
 refine k8 3 (jW rfl rfl (by rw [bU (by omega)]; omega : IntKind.wrap .i64 ((j : Int) - 1) = ((j - 1 : Nat) : Int))) ?_
 refine cv (swapL l2 j (j - 1), j - 1) ?_ (hμ := ?_)
 exact ⟨(ke hjl (by omega)).trans hp2, by show j - 1 ≤ i; omega, Za hS2 hj0 hj (by omega) c4⟩
 show j - 1 < j; omega
 refine au 6 ?_
 have hS3 : ∀ p q, p < q → q ≤ i → us l2 p ≤ us l2 q := Zb hS2 (by
   by_cases q : 0 < j
   · exact .inr (Int.not_lt.1 fun e => c4 ⟨q, e⟩)
   left; omega)
 refine au 2 ?_
 refine k8 3 (dx rfl rfl (by rw [bU (by omega)]; omega : IntKind.wrap .i64 ((i : Int) + 1) = ((i + 1 : Nat) : Int))) ?_
 refine cv (l2, i + 1) ?_ (hμ := ?_)
 exact ⟨hp2, Nat.succ_pos _, by show i + 1 ≤ its.length; omega, fun p q h1 h2 => hS3 p q h1 (by dsimp only at h2; omega)⟩
 show its.length - (i + 1) < its.length - i; omega
 refine au 4 ?_
 refine bA (.inr rfl) .nil ?_
 obtain rfl : i = its.length := by omega
 exact ⟨_, ⟨l, rfl, rfl, hp, hS⟩, IO⟩
theorem Zd (x : Nat) (hx : x < 60000) : sP W0 505 [.int .u64 x] R (fun v B => ∃ r : Nat, v = iQ r ∧ B = R) := by
 refine ac func505 ntmps505 ?_
 refine aA rfl (fun c1 => ?_) fun c1 => ?_
 omega
 refine aw ?_
 refine aA rfl (fun c4 => ?_) fun c4 => ?_
 omega
 refine au 2 ?_
 refine ec (fun z : Nat × Nat => z.1 < 256 ∧ z.2 ≤ 8) (fun z => [(0, .int .u64 z.1), (2, iQ z.2)]) (fun _ => R) ?_ ?_
 refine au 6 ?_
 refine ah (fun c7 => ?_) fun c7 => ?_
 refine a7 (kR rfl rfl (by decide) (oi (s := 8) (by decide))) ?_
 refine a7 cQ ?_
 exact cq (x / 2 ^ 8, 8) (by omega)
 exact cq (x, 0) (by omega)
 intro ⟨y, n⟩ ⟨hy, hn⟩
 dsimp only at hy hn ⊢
 refine aw ?_
 refine ab rfl (cR (EW (by omega))) ?_
 refine UA (j := y) rfl a56 rfl rfl rfl (by show y < 256; exact hy) fun m hm => ?_
 refine a7 (cR (bU (by omega))) ?_
 refine a7 (eC (n + m)) ?_
 refine aa ?_
 exact ⟨_, ⟨n + m, rfl, rfl⟩, IO⟩
theorem CG (x : Nat) (hx : x < 60000) : sP W0 495 [.int .u64 x] R (fun v B => ∃ r : Nat, v = iQ r ∧ B = R) := by
 refine jG 6 func495 ntmps495 ?_
 refine Uy ?_
 refine aw ?_
 refine ao rfl (ar call505 (Zd x hx)) ?_
 rintro _ B_ ⟨r, rfl, hB_⟩
 obtain rfl := hB_.symm
 refine aw ?_
 refine aa ?_
 exact ⟨_, ⟨r, rfl, rfl⟩, IO⟩
theorem Ze (g c : Nat) (its : List It) (sp : List Value) (k : Int) (hN : its.length ≤ 12) (h0 : 0 < its.length) : sP W0 494 [.slice (some ⟨g, 0, none⟩) its.length c, iQ 0, iQ (its.length : Nat), iQ k, .func (.func 480) #[] #[]] (pt g (a8 (its.flatMap aY ++ sp) 548) :: R) (fun v B => ∃ l : List It, v = .tuple #[] ∧ B = pt g (a8 (l.flatMap aY ++ sp) 548) :: R ∧ l.Perm its ∧ ∀ p q, p < q → q < its.length → us l p ≤ us l q) := by
 refine ac func494 ntmps494 ?_
 refine dr (fun _ : Unit => True) (fun _ => [(0, .slice (some ⟨g, 0, none⟩) its.length c), (1, iQ 0), (2, iQ (its.length : Nat)), (3, iQ k), (4, .func (.func 480) #[] #[])]) (fun _ => pt g (a8 (its.flatMap aY ++ sp) 548) :: R) (fun _ => 0) () ?_ ?_
 trivial
 intro u hu
 refine aw ?_
 refine a7 (m0 its.length) ?_
 refine aA rfl (fun c3 => ?_) fun c3 => ?_
 refine au 6 ?_
 refine ao rfl (aj call496 (Zc g c its sp (by omega) h0)) ?_
 rintro _ B_ ⟨l, rfl, hB_, hp, hS⟩
 obtain rfl := hB_.symm
 refine aw ?_
 refine bA (.inl rfl) .nil ?_
 exact ⟨_, ⟨l, rfl, rfl, hp, hS⟩, IO⟩
 omega
theorem Ik (a : Option Addr) (c : Nat) (k : Int) : sQ W0 494 [.slice a 0 c, iQ 0, iQ 0, iQ k, .func (.func 480) #[] #[]] R (.tuple #[]) R := by
 have hi : aZ Tryz.prog W0 496 [.slice a 0 c, iQ 0, iQ 0, .func (.func 480) #[] #[]] R (fun v B => v = .tuple #[] ∧ B = R) := by
  refine ac func496 ntmps496 ?_
  refine a7 cQ ?_
  refine dr (fun _ : Unit => True) (fun _ => [(2, iQ 0), (8, iQ 1)]) (fun _ => R) (fun _ => 0) () ?_ ?_
  trivial
  intro u hu
  refine aw ?_
  refine aA rfl (fun c1 => ?_) fun c1 => ?_
  omega
  refine aw ?_
  refine bA (.inr rfl) .nil ?_
  exact ai
 refine ac func494 ntmps494 ?_
 refine dr (fun _ : Unit => True) (fun _ => [(0, .slice a 0 c), (1, iQ 0), (2, iQ 0), (3, iQ k), (4, .func (.func 480) #[] #[])]) (fun _ => R) (fun _ => 0) () ?_ ?_
 trivial
 intro u hu
 refine aw ?_
 refine a7 i6 ?_
 refine aA rfl (fun c3 => ?_) fun c3 => ?_
 refine au 6 ?_
 refine ag (ar call496 (hi)) ?_
 refine bA (.inl rfl) .nil ?_
 exact ai
 omega
theorem Zf (a : Option Addr) (c : Nat) (its : List It) (hN : its.length ≤ 12) : sP W0 488 [.slice a its.length c, .func (.func 480) #[] #[]] (osl 548 6 (.slice a its.length c) (its.flatMap aY) :: R) (fun v B => ∃ l : List It, v = .tuple #[] ∧ B = osl 548 6 (.slice a its.length c) (l.flatMap aY) :: R ∧ l.Perm its ∧ ∀ p q, p < q → q < its.length → us l p ≤ us l q) := by
 refine vI (fun h1 h2 => ?_) fun g n cap sp h1 h2 h3 h4 h5 => ?_
 have h0 : its.length = 0 := by grind
 obtain rfl : its = [] := QaD h0
 cases h1
 refine ac LS ntmps488 ?_
 refine a7 (cR (show IntKind.wrap .u64 ((0 : Nat) : Int) = ((0 : Nat) : Int) from rfl)) ?_
 refine ao rfl (ar LU (CG 0 (by decide))) ?_
 rintro _ B_ ⟨r, rfl, hB_⟩
 obtain rfl := hB_.symm
 refine aw ?_
 refine ag (ar LV (Ik none 0 r)) ?_
 refine bA (.inr rfl) .nil ?_
 exact ⟨_, ⟨[], rfl, rfl, QaC _, fun p q _ hq => by simp at hq⟩, dP⟩
 cases h1
 by_cases hz : its.length = 0
 obtain rfl : its = [] := QaD hz
 refine ac LS ntmps488 ?_
 refine a7 (cR (show IntKind.wrap .u64 ((0 : Nat) : Int) = ((0 : Nat) : Int) from rfl)) ?_
 refine ao rfl (ar LU (CG 0 (by decide))) ?_
 rintro _ B_ ⟨r, rfl, hB_⟩
 obtain rfl := hB_.symm
 refine aw ?_
 refine ag (ar LV (Ik _ c r)) ?_
 refine bA (.inr rfl) .nil ?_
 exact ⟨_, ⟨[], rfl, rfl, QaC _, fun p q _ hq => by simp at hq⟩, gG h2 h3 h4 h5⟩
 skip
 refine ac LS ntmps488 ?_
 refine a7 (cR (show IntKind.wrap .u64 ((its.length : Nat) : Int) = ((its.length : Nat) : Int) from by simp only [IntKind.wrap, IntKind.bits, IntKind.signed]; simp; omega)) ?_
 refine ao rfl (ar LU (CG its.length (by omega))) ?_
 rintro _ B_ ⟨r, rfl, hB_⟩
 obtain rfl := hB_.symm
 refine aw ?_
 refine ao rfl (aj LV (Ze g c its sp r hN (by omega))) ?_
 rintro _ B_ ⟨l, rfl, hB_, hp, hS⟩
 obtain rfl := hB_.symm
 have hll := hp.length_eq
 refine aw ?_
 refine bA (.inr rfl) .nil ?_
 exact ⟨_, ⟨l, rfl, rfl, hp, hS⟩, gG h2 h3 (by grind) (by grind)⟩
theorem Zg (bs c : Nat) (a : Option Addr) (its : List It) (hN : its.length ≤ 12) : sP W0 478 [.func (.func 489) #[] #[pQ bs], .func (.func 480) #[] #[]] (pt bs (a8 [.slice a its.length c] 475) :: osl 548 6 (.slice a its.length c) (its.flatMap aY) :: R) (fun v B => ∃ (l : List It) (a' : Option Addr) (c' : Nat), v = .slice a' l.length c' ∧ B = osl 548 6 (.slice a' l.length c') (l.flatMap aY) :: osl 548 6 (.slice a its.length c) (its.flatMap aY) :: R ∧ l.Perm its ∧ ∀ p q, p < q → q < its.length → us l p ≤ us l q) := by
 refine ac func478 ntmps478 ?_
 refine ao rfl (cJ call487 (Z8 bs c a its (by omega))) ?_
 rintro _ B_ ⟨a2, c2, rfl, hB_⟩
 obtain rfl := hB_.symm
 refine aw ?_
 refine ao rfl (aj call488 (Zf a2 c2 its hN)) ?_
 rintro _ B_ ⟨l, rfl, hB_, hp, hS⟩
 obtain rfl := hB_.symm
 have hll := hp.length_eq
 refine aw ?_
 refine aa ?_
 rw [← hll] at hS ⊢
 exact ⟨_, ⟨l, a2, c2, rfl, rfl, hp, hS⟩, IO⟩
theorem Il : ∀ {l L : List It}, l.Perm L → (∀ p q, p < q → q < l.length → us l p ≤ us l q) → L.Pairwise (fun x y => x.u < y.u) → l = L
 | [], L, hp, _, _ => hp.nil_eq
 | x :: l, [], hp, _, _ => by have := hp.length_eq; simp at this
 | x :: l, y :: L, hp, hs, hw => by
  have h1 : ∀ z ∈ l, x.u ≤ z.u := fun z hz => by
   obtain ⟨i, hi, rfl⟩ := Qbs.1 hz
   have := hs 0 (i + 1) (by omega) (by simp; omega)
   simpa [us, hi] using this
  obtain ⟨hw1, hw2⟩ := QbL.1 hw
  have hx : x ∈ y :: L := hp.subset (Qas ..)
  have hy : y ∈ x :: l := hp.symm.subset (Qas ..)
  have e : x = y := by
   grind
  subst e
  rw [Il (hp.cons_inv) (fun p q hpq hq => by
   have := hs (p + 1) (q + 1) (by omega) (by simp; omega)
   simpa [us] using this) hw2]
def tD (x : It) : List Value := [.int .i64 x.kr, .int .i64 x.kp, .int .i64 x.ep, .int .i64 x.ef, .int .i64 x.er]
theorem Zh (x : It) : (tD x).length = 5 := rfl
theorem Zi (b : Nat) (its : List It) (rm nw : Value) (now : Nat) (L : List It) (hR : Rep its now L) (hN : L.length ≤ 12) : sP W0 450 [pQ b] (aJ b (its, [rm, nw, .bool true]) :: R) (fun v B => ∃ a c, v = .slice a L.length c ∧ B = osl 546 5 (.slice a L.length c) (L.flatMap tD) :: aJ b (its, [rm, nw, .bool true]) :: R) := by
 have hlen := hR.length
 refine ac func450 ntmps450 ?_
 refine dE 2 (aj xP (uQ b its rm nw)) ?_
 refine aA rfl (fun c1 => ?_) fun c1 => ?_
 exact absurd c1 (by decide)
 refine aw ?_
 refine zb (b := b) fun a0 c0 => ?_
 refine aw ?_
 refine ao rfl (ar call479 (Z2 a0 its.length c0)) ?_
 rintro _ B_ ⟨bs, rfl, hB_⟩
 obtain rfl := hB_.symm
 refine ao rfl (cJ call478 (Zg bs c0 a0 its (by omega))) ?_
 rintro _ B_ ⟨l, a1, c1, rfl, hB_, hp, hS⟩
 obtain rfl := hB_.symm
 have hll := hp.length_eq
 obtain rfl : l = L := Il (hp.trans hR.perm) (fun p q h1 h2 => hS p q h1 (by omega)) hR.sort
 refine ja (B := aJ b (its, [rm, nw, .bool true]) :: osl 548 6 (.slice a1 l.length c1) (l.flatMap aY) :: R) (pZ rfl) ?_
 refine aw ?_
 refine fu (fun X : Nat × Option Addr × Nat => X.1 ≤ l.length) (fun X => [(4, .slice X.2.1 X.1 X.2.2), (16, .slice a1 l.length c1), (17, iQ (l.length : Nat)), (18, iQ X.1)]) (fun X => osl 546 5 (.slice X.2.1 X.1 X.2.2) ((l.take X.1).flatMap tD) :: aJ b (its, [rm, nw, .bool true]) :: osl 548 6 (.slice a1 l.length c1) (l.flatMap aY) :: R) (fun X => l.length - X.1) (0, none, 0) ?_ ?_ ?_ ?_
 omega
 · repeat (first | exact cI | refine cj rfl ?_)
 exact dP
 intro ⟨i, a2, c2⟩ hi
 dsimp only at hi ⊢
 refine aw ?_
 refine ah (fun c6 => ?_) fun c6 => ?_
 have hi1 : i < l.length := by omega
 refine jH (E := 548) (sz := 6) (a := a1) (n := l.length) (c := c1) aY l gy (by decide) rfl (fun hs => ?_)
 obtain ⟨g, o, rfl, hc⟩ := hs.at_ hi1
 have htk : l.take (i + 1) = l.take i ++ [l[i]] := Qam hi1
 refine aw ?_
 refine a7 (bE hi1) ?_
 refine a7 (bZ hc) ?_
 refine bB fun bx => ?_
 refine aB aD ?_
 refine mQ (b := bx) (o' := a8 [iQ l[i].kr, iQ l[i].kp, iQ l[i].ep, iQ l[i].ef, iQ l[i].er, iQ l[i].u] 548) rfl ?_
 refine aw ?_
 refine a7 (s9 isAgg546 qy rfl TakeL.eq rfl) ?_
 refine cW (gH E2 qy E6 rfl (dX rfl rfl fR) rfl (by decide) (by decide) (by decide)) fun b2 => ?_
 refine ao rfl (eQ (sz := 5) (by_ := 40) (info := Tryz.t546) E2 (by kernel_rfl) rfl rfl rfl rfl (by decide) rfl rfl dW rfl rfl (by simp only [maxLen]; omega) (by omega)) ?_
 rintro _ _ ⟨a3, c3, rfl, rfl⟩
 refine aw ?_
 refine a7 cQ ?_
 refine cv (i + 1, a3, c3) ?_ (he := ?_)
 omega
 dsimp only
 rw [htk, QaZ]
 show Ent _ (osl 546 5 (.slice a3 (i + 1) c3) ((l.take i).flatMap tD ++ [[iQ l[i].kr, iQ l[i].kp, iQ l[i].ep, iQ l[i].ef, iQ l[i].er]].flatten) :: _)
 exact IO
 refine aa ?_
 obtain rfl : i = l.length := by omega
 rw [QaM (Qaj _)]
 exact ⟨_, ⟨a2, c2, rfl, rfl⟩, IO⟩
theorem Zj (b : Nat) (L : List Ln) (hl : L.length ≤ 1000) (page : Int) : sP W0 348 [pQ b, iQ page] (bJ b L :: R) (fun v B => ∃ a c, v = .slice a (L.filter fun x => x.thr page).length c ∧ B = osl 504 2 (.slice a (L.filter fun x => x.thr page).length c) ((L.filter fun x => x.thr page).flatMap uU) :: bJ b (L.filter fun x => !x.thr page) :: R) := by
 refine ac func348 ntmps348 ?_
 refine cW (gE rfl rfl) fun bp => ?_
 refine ag (aj xQ (wS b L)) ?_
 refine ao rfl (nx (B := bJ b L :: kH 0 (aS [pt bp (a8 [iQ page] 3)]) :: R) inferInstance (ar LW (CF b L hl 404 [pQ bp] _ _ (Z0 W0 bp page)))) ?_
 rintro _ B_ ⟨a, c, rfl, hB_⟩
 obtain rfl := hB_.symm
 refine aw ?_
 refine aa ?_
 exact ⟨_, ⟨a, c, rfl, rfl⟩, IO⟩
theorem Zk (b : Nat) (L : List Ln) (hl : L.length ≤ 1000) : sQ W0 375 [pQ b] (bJ b L :: R) (iQ (L.length : Nat)) (bJ b [] :: R) := by
 have e1 : L.filter (fun _ => true) = L := Qbn.2 fun _ _ => rfl
 have e2 : L.filter (fun x => !(fun _ => true) x) = [] := by simp
 refine ac func375 ntmps375 ?_
 refine ag (aj xQ (wS b L)) ?_
 refine ao rfl (nx (B := bJ b L :: kH 0 (aS []) :: R) inferInstance (ar LW (CF b L hl 423 [] _ _ (Z1 W0)))) ?_
 rintro _ B_ ⟨a, c, rfl, hB_⟩
 obtain rfl := hB_.symm
 rw [e1, e2]
 refine aw ?_
 exact aa ai
def wU (k : cC) (L : List Ln) : Value := match jv k L with
 | none => .tuple #[.agg (lj (0, 0, 0)).toArray, .bool false]
 | some x => .tuple #[.agg (lj x.e).toArray, .bool true]
theorem Zl {k : cC} {L : List Ln} (h : ∀ j (hj : j < L.length), L[j].k ≠ k) : jv k L = none := QbX.2 fun x hx => by
 obtain ⟨j, hj, rfl⟩ := Qbm hx
 simpa using h j hj
theorem Zm {k : cC} {L : List Ln} {i : Nat} (hi : i < L.length) (h : L[i].k = k) (hj : ∀ j (hj : j < L.length), j < i → L[j].k ≠ k) : jv k L = some L[i] := by
 rw [jv, QbK]
 exact ⟨by simpa using h, i, hi, rfl, fun j h2 => by simpa using hj j (by omega) h2⟩
theorem rp (b : Nat) (L : List Ln) (hl : L.length ≤ 1000) (k : cC) : sQ W0 353 [pQ b, .agg (fp k).toArray] (bJ b L :: R) (wU k L) (bJ b L :: R) := by
 refine ac func353 ntmps353 ?_
 refine aV fun b3 => ?_
 refine bB fun b4 => ?_
 refine ag (aj xQ (wS b L)) ?_
 refine wR (b := b) fun a c => ?_
 refine aw ?_
 refine dr (fun i : Nat => i ≤ L.length ∧ ∀ j (hj : j < L.length), j < i → L[j].k ≠ k) (fun i => [(3, pQ b3), (4, pQ b4), (14, .slice a L.length c), (15, iQ (L.length : Nat)), (16, iQ i)]) (fun _ => pt b (a8 [.slice a L.length c, .bool true] 482) :: osl 551 7 (.slice a L.length c) (L.flatMap cD) :: pt b3 (a8 (fp k) 504) :: pt b4 (a8 (lj (0, 0, 0)) 500) :: R) (fun i => L.length - i) 0 ?_ ?_
 grind
 intro i ⟨hi, hI⟩
 refine aw ?_
 refine aA rfl (fun c4 => ?_) fun c4 => ?_
 refine au 5 ?_
 have hi1 : i < L.length := by omega
 refine jH (E := 551) (sz := 7) (a := a) (c := c) (n := L.length) cD L mo (by decide) rfl (fun hs => ?_)
 obtain ⟨g, o, hga, hc⟩ := hs.at_ hi1
 have hat := fun q => Zm (k := k) hi1 q hI
 have hno : L[i].k ≠ k → ∀ j (hj : j < L.length), j < i + 1 → L[j].k ≠ k := fun q j hj hji => by
  rcases Qay j i with q2 | q2
  grind
  grind
 obtain ⟨x, hx⟩ : ∃ x, L[i] = x := ⟨_, rfl⟩
 rw [hx] at hc hat hno
 refine aw ?_
 refine a7 (fT lU qz rfl hga rfl rfl hi1 (by first | exact Qac _ | rfl)) ?_
 refine a7 (bZ hc.weak) ?_
 refine bB fun bx => ?_
 refine aB aD ?_
 refine a7 (s9 Ae oW rfl TakeL.eq rfl) ?_
 refine a7 (rZ Tryz.eqGuardType504 rfl rfl (rY Ao Tryz.stoodInHeld504 (kw rfl cy rfl rfl (kv dw) (kw rfl cy rfl rfl (kv dw) rX)))) ?_
 refine ah (fun c6 => ?_) fun c6 => ?_
 have hk : x.k = k := by grind
 refine a7 (s9 xA qx rfl TakeL.eq rfl) ?_
 refine aB aD ?_
 refine bH (.cons (bM xA qx rfl rfl) (.cons (bP rfl) .nil)) ?_
 rw [wU, hat hk]
 exact ⟨_, ⟨rfl, rfl⟩, Ent.trans (B := pt b (a8 [.slice a L.length c, .bool true] 482) :: osl 551 7 (.slice a L.length c) (L.flatMap cD) :: R) inferInstance (tz (b := b) rfl)⟩
 have hk : x.k ≠ k := by grind
 refine a7 cQ ?_
 refine cv (i + 1) ?_
 grind
 refine aw ?_
 refine aB aD ?_
 refine bH (.cons (bM xA qx rfl rfl) (.cons (bP rfl) .nil)) ?_
 rw [wU, Zl fun j hj => hI j hj (by omega)]
 exact ⟨_, ⟨rfl, rfl⟩, Ent.trans (B := pt b (a8 [.slice a L.length c, .bool true] 482) :: osl 551 7 (.slice a L.length c) (L.flatMap cD) :: R) inferInstance (tz (b := b) rfl)⟩
@[reducible] def iI (x : Int) : List Value := [.int .i64 x]
theorem oH (x : Int) : (iI x).length = 1 := rfl
theorem Io (l : List Int) (sp : List Value) (i : Nat) (h : i < l.length) : (l.flatMap iI ++ sp)[i * 1]? = some (iQ (l.getD i 0)) := by
 have := nv oH l i 0 sp h (by decide)
 rw [Qcc] at this
 rw [this]; simp [List.getD, h]
theorem Zn (l : List Int) (sp : List Value) (i : Nat) (x : Int) (h : i < l.length) : (l.flatMap iI ++ sp).set (i * 1) (iQ x) = (l.set i x).flatMap iI ++ sp :=
  qG oH l i 0 _ _ sp h (by decide) (by simp)
structure PFI (W0 : World) (fn : FuncId) (us cs : List Value) (C : HP) (p : Int → Bool) : Prop where
  call : ∀ args w, (callFunc fn args).run Tryz.prog w = .ok (.enter fn args) w
  spec : ∀ x R, aZ Tryz.prog W0 fn (us ++ [.int .i64 x] ++ cs) (kH 0 C :: R) (fun v B => v = .bool (p x) ∧ B = kH 0 C :: R)
def Zp (l : List Int) (p : Int → Bool) (r : Int) : Prop := (r = -1 ∧ ∀ i, i < l.length → p (l.getD i 0) = false) ∨ ∃ i : Nat, r = (i : Int) ∧ i < l.length ∧ p (l.getD i 0) = true ∧ ∀ j, j < i → p (l.getD j 0) = false
theorem Zr (l : List Int) (g c : Nat) (sp : List Value) (f : FuncId) (us cs : List Value) (C : HP) (p : Int → Bool) (hp : PFI W0 f us cs C p) (hN : l.length < 1000) : sP W0 486 [.slice (some ⟨g, 0, none⟩) l.length c, .func (.func f) us.toArray cs.toArray] (pt g (a8 (l.flatMap iI ++ sp) 3) :: kH 0 C :: R) (fun v B => ∃ r, v = iQ r ∧ B = pt g (a8 (l.flatMap iI ++ sp) 3) :: kH 0 C :: R ∧ Zp l p r) := by
 refine ac func486 ntmps486 ?_
 refine dr (fun X : Nat => X ≤ l.length ∧ ∀ i, i < X → p (l.getD i 0) = false) (fun X => [(0, .slice (some ⟨g, 0, none⟩) l.length c), (1, .func (.func f) us.toArray cs.toArray), (7, iQ (l.length : Nat)), (8, iQ X)]) (fun X => pt g (a8 (l.flatMap iI ++ sp) 3) :: kH 0 C :: R) (fun X => l.length - X) 0 ?_ ?_
 grind
 intro j ⟨hj, hno⟩
 refine aw ?_
 refine ah (fun c2 => ?_) fun c2 => ?_
 refine a7 (bE (by omega)) ?_
 refine a7 (aH (aE (Io l sp j (by omega)))) ?_
 refine ag (so (us := us) (cs := cs) rfl hp.call rfl (hp.spec (l.getD j 0) _)) ?_
 refine ah (fun c4 => ?_) fun c4 => ?_
 refine aa ?_
 exact ⟨_, ⟨_, rfl, rfl, .inr ⟨j, rfl, by omega, c4, hno⟩⟩, IO⟩
 refine a7 cQ ?_
 refine cv (j + 1) ?_
 grind
 refine aa ?_
 exact ⟨_, ⟨-1, rfl, rfl, .inl ⟨rfl, fun i hi => hno i (by omega)⟩⟩, IO⟩
def mp (p : Int → Bool) (l : List Int) : List Int := l.filter (fun x => !p x)
theorem Ip {p : Int → Bool} {l : List Int} (h : ∀ i, i < l.length → p (l.getD i 0) = false) : mp p l = l := Qbn.2 fun x hx => by
 obtain ⟨i, hi, rfl⟩ := Qbs.1 hx
 have := h i hi
 simpa [List.getD, hi] using this
theorem CH {p : Int → Bool} {l : List Int} {j : Nat} (h : j < l.length) : mp p (l.take (j + 1)) = mp p (l.take j) ++ (if p (l.getD j 0) then [] else [l.getD j 0]) := by
 grind [Qam, mp]
structure DelN (p : Int → Bool) (its l : List Int) (i j : Nat) : Prop where
  len : l.length = its.length
  ij : i < j
  jl : j ≤ its.length
  front : l.take i = mp p (its.take j)
  back : ∀ k, j ≤ k → l.getD k 0 = its.getD k 0
theorem Zs {p : Int → Bool} {l : List Int} {i : Nat} (h : i < l.length) (hp : p (l.getD i 0) = true) (hno : ∀ j, j < i → p (l.getD j 0) = false) : mp p (l.take (i + 1)) = l.take i := by
 grind [CH, Qax, Ip]
theorem DelN.skip {p : Int → Bool} {its l : List Int} {i j : Nat} (h : DelN p its l i j) (hj : j < its.length) (hp : p (l.getD j 0) = true) : DelN p its l i (j + 1) := by
 refine ⟨h.len, by have := h.ij; omega, by omega, ?_, fun k hk => h.back k (by omega)⟩
 rw [h.back j (Qaj _)] at hp
 rw [CH hj, hp, Qae rfl, Qax]; exact h.front
theorem DelN.move {p : Int → Bool} {its l : List Int} {i j : Nat} (h : DelN p its l i j) (hj : j < its.length) (hp : p (l.getD j 0) = false) : DelN p its (l.set i (l.getD j 0)) (i + 1) (j + 1) := by
 have hij := h.ij
 have hl := h.len
 have hb := h.back j (Qaj _)
 rw [hb] at hp ⊢
 refine ⟨by rw [Qao]; exact hl, by omega, by omega, ?_, fun k hk => ?_⟩
 rw [CH hj, hp, Qab (by decide), ← h.front, Qam (by rw [Qao]; omega), List.getElem_set_self, List.take_set_of_le (Qaj _)]
 rw [← h.back k (by omega)]
 simp only [Qai]
 rw [QaT (by omega)]
theorem Zt (its : List Int) (g c : Nat) (sp : List Value) (f : FuncId) (us cs : List Value) (C : HP) (p : Int → Bool) (hp : PFI W0 f us cs C p) (hN : its.length < 1000) (h2 : its.length ≤ c) (h3 : c ≤ maxLen) (h5 : (its.flatMap iI ++ sp).length = c * 1) : sP W0 474 [.slice (some ⟨g, 0, none⟩) its.length c, .func (.func f) us.toArray cs.toArray] (pt g (a8 (its.flatMap iI ++ sp) 3) :: kH 0 C :: R) (fun v B => ∃ a' c', v = .slice a' (mp p its).length c' ∧ B = osl 3 1 (.slice a' (mp p its).length c') ((mp p its).flatMap iI) :: kH 0 C :: R) := by
 refine ac func474 ntmps474 ?_
 refine ao rfl (cJ call486 (Zr its g c sp f us cs C p hp hN)) ?_
 rintro _ B_ ⟨r, rfl, hB_, hf⟩
 obtain rfl := hB_.symm
 refine aw ?_
 refine aA rfl (fun c2 => ?_) fun c2 => ?_
 refine au 8 ?_
 refine aa ?_
 have hno : ∀ i, i < its.length → p (its.getD i 0) = false := by
  rcases hf with ⟨_, h⟩ | ⟨i, h, _⟩
  exact h
  omega
 rw [Ip hno]
 exact ⟨_, ⟨_, c, rfl, rfl⟩, gG h2 h3 (bX oH its) h5⟩
 obtain ⟨i, rfl, hi, hpi, hno⟩ : ∃ i : Nat, r = (i : Int) ∧ i < its.length ∧ p (its.getD i 0) = true ∧ ∀ j, j < i → p (its.getD j 0) = false := by
  rcases hf with ⟨h, _⟩ | h
  omega
  exact h
 refine aw ?_
 refine a7 (eC (i + 1)) ?_
 refine dr (fun X : List Int × Nat × Nat => DelN p its X.1 X.2.1 X.2.2) (fun X => [(0, .slice (some ⟨g, 0, none⟩) its.length c), (1, .func (.func f) us.toArray cs.toArray), (5, iQ X.2.1), (6, iQ X.2.2)]) (fun X => pt g (a8 (X.1.flatMap iI ++ sp) 3) :: kH 0 C :: R) (fun X => its.length - X.2.2) (its, i, i + 1) ?_ ?_
 exact ⟨rfl, Nat.lt_succ_self _, by show i + 1 ≤ its.length; omega, (Zs hi hpi hno).symm, fun _ _ => rfl⟩
 intro ⟨l, m, j⟩ hD
 dsimp only at hD ⊢
 have hl := hD.len
 have hmj := hD.ij
 have hjl := hD.jl
 refine aw ?_
 refine aA rfl (fun c5 => ?_) fun c5 => ?_
 refine au 2 ?_
 refine ec (fun Z : List Int × Nat => DelN p its Z.1 Z.2 (j + 1)) (fun Z => [(0, .slice (some ⟨g, 0, none⟩) its.length c), (1, .func (.func f) us.toArray cs.toArray), (5, iQ Z.2), (6, iQ j)]) (fun Z => pt g (a8 (Z.1.flatMap iI ++ sp) 3) :: kH 0 C :: R) ?_ ?_
 refine au 5 ?_
 refine a7 (bE (by omega)) ?_
 refine a7 (aH (aE (Io l sp j (by omega)))) ?_
 refine ag (so (us := us) (cs := cs) rfl hp.call rfl (hp.spec (l.getD j 0) _)) ?_
 refine ah (fun c8 => ?_) fun c8 => ?_
 have hpj : p (l.getD j 0) = false := by simpa using c8
 refine a7 (bE (by omega)) ?_
 refine aB (dF (by rw [Qad, bX oH]; omega) (Zn l sp m (l.getD j 0) (by omega))) ?_
 refine a7 (eC (m + 1)) ?_
 exact cq (l.set m (l.getD j 0), m + 1) (hD.move (by omega) hpj)
 have hpj : p (l.getD j 0) = true := by simpa using c8
 exact cq (l, m) (hD.skip (by omega) hpj)
 intro ⟨l2, m2⟩ hD2
 refine aw ?_
 refine a7 (eC (j + 1)) ?_
 refine cv (l2, m2, j + 1) ?_ (hμ := ?_)
 exact hD2
 show its.length - (j + 1) < its.length - j; omega
 refine aw ?_
 obtain rfl : j = its.length := by omega
 have hfr := hD.front
 rw [QaM (Qaj _)] at hfr
 have hk : (mp p its).length = m := by rw [← hfr, QaK]; omega
 refine a7 (vT fC aO rfl rfl rfl (by omega) (by omega) (Qac _)) ?_
 refine eu (Bw fC lV (by simp [Value.cells, Value.oneCell']) rfl (by omega) (by rw [Qad, bX oH]; show m * 1 + (its.length - m) * 1 ≤ _; omega)) ?_
 rintro _ B_ ⟨vs, hvs, rfl, hB_⟩
 obtain rfl := hB_.symm
 replace hvs : vs.length = (its.length - m) * 1 := hvs
 have hset : d4 (l.flatMap iI ++ sp) (m * 1) vs = (mp p its).flatMap iI ++ (vs ++ sp) := by
  rw [pq _ _ _ (by rw [Qad, bX oH]; omega), B8 oH l m sp (by omega), hfr, show m * 1 + vs.length = l.length * 1 by omega, vF oH l l.length sp (Qaj _)]
  simp
 rw [hset]
 refine aw ?_
 refine a7 (mM fC aO rfl rfl rfl (by omega)) ?_
 refine aa ?_
 rw [hk]
 exact ⟨_, ⟨_, _, rfl, rfl⟩, gG (by omega) h3 (by rw [bX oH, hk]) (by rw [← h5]; simp only [Qad, bX oH, hk, hvs]; omega)⟩
theorem Zu (g : Nat) (x y : Int) : sP W0 475 [.slice (some ⟨g, 0, none⟩) 2 2] (pt g (a8 [iQ x, iQ y] 3) :: R) (fun v B => ∃ (l : List Int) (sp : List Value), v = .slice (some ⟨g, 0, none⟩) l.length 2 ∧ l = (if x = y then [x] else [x, y]) ∧ (l.flatMap iI ++ sp).length = 2 ∧ B = pt g (a8 (l.flatMap iI ++ sp) 3) :: R) := by
 refine jG 13 func475 ntmps475 ?_
 refine dS ?_
 refine dr (fun k : Nat => k = 1 ∨ (k = 2 ∧ x ≠ y)) (fun k => [(0, .slice (some ⟨g, 0, none⟩) 2 2), (3, iQ k)]) (fun k => pt g (a8 [iQ x, iQ y] 3) :: R) (fun k => 2 - k) 1 ?_ ?_
 omega
 intro k hk
 refine aw ?_
 refine ah (fun c4 => ?_) fun c4 => ?_
 obtain rfl : k = 1 := by
  omega
 refine bu [g] 10 fun hS => ?_
 refine ae 0 2 hS ?_
 refine ax 2 hS (jE fC aO rfl rfl (j := 1) rfl (by decide) (by first | exact Qac _ | rfl)) ?_
 refine ae 3 3 hS ?_
 refine ax 6 hS i6 ?_
 refine ax 7 hS (jE fC aO rfl rfl (j := 0) rfl (by decide) (by first | exact Qac _ | rfl)) ?_
 refine ae 8 2 hS ?_
 refine aK ?_
 refine ah (fun c6 => ?_) fun c6 => ?_
 refine a7 (vT fC aO rfl rfl (i := 1) rfl (by decide) (by decide) (Qac _)) ?_
 refine dr (fun j : Nat => j = 1) (fun j => [(0, .slice (some ⟨g, 0, none⟩) 2 2), (3, iQ 1), (4, .slice (some ⟨g, 1, none⟩) 1 1), (5, iQ j)]) (fun j => pt g (a8 [iQ x, iQ y] 3) :: R) (fun j => 2 - j) 1 ?_ ?_
 rfl
 intro j hj
 refine aw ?_
 refine aA rfl (fun c9 => ?_) fun c9 => ?_
 omega
 refine aw ?_
 refine a7 (vT fC aO rfl rfl (i := 1) rfl (by decide) (by decide) (Qac _)) ?_
 refine eu (Bw fC lV (by simp [Value.cells, Value.oneCell']) rfl (by decide) (Qaa rfl)) ?_
 rintro _ B_ ⟨vs, hvs, rfl, hB_⟩
 obtain rfl := hB_.symm
 obtain ⟨v, rfl⟩ : ∃ v, vs = [v] := by
  rcases vs with _ | ⟨v, _ | ⟨w, vs⟩⟩
  exact absurd hvs (by decide)
  grind
  exact absurd hvs (by simp [Value.cells])
 refine aw ?_
 refine a7 (mM fC aO rfl rfl (h := 1) rfl (by decide)) ?_
 refine aa ?_
 have hxy : x = y := by omega
 exact ⟨_, ⟨[x], [v], rfl, by rw [Qae hxy], rfl, rfl⟩, (inferInstance : Ent (pt g (a8 [iQ x, v] 3) :: R) (pt g (a8 [iQ x, v] 3) :: R))⟩
 refine a7 (dx rfl rfl (by rw [bU (by omega)]; rfl : IntKind.wrap .i64 (1 + 1) = ((2 : Nat) : Int))) ?_
 exact cv 2 (.inr ⟨rfl, by omega⟩)
 refine aa ?_
 have hxy : x ≠ y := by
  rcases hk with h | h
  omega
  exact h.2
 exact ⟨_, ⟨[x, y], [], rfl, by rw [Qab hxy], rfl, rfl⟩, (inferInstance : Ent (pt g (a8 [iQ x, iQ y] 3) :: R) (pt g (a8 [iQ x, iQ y] 3) :: R))⟩
theorem Zv (W0 : World) (b : Nat) (L : List Ln) (hl : L.length ≤ 1000) : PFI W0 476 [pQ b] [] (aS [bJ b L]) (eX L) := ⟨call476, fun x R => by
 refine nz ?_
 simp only [Qar, Qan]
 refine iy (YY b L hl x) fun v B hB => ?_
 obtain ⟨rfl, rfl⟩ := hB
 exact ⟨_, ⟨rfl, rfl⟩, inferInstance⟩⟩
theorem Zw (b : Nat) (L : List Ln) (hl : L.length ≤ 1000) (r l : Int) : sP W0 446 [pQ b, iQ r, iQ l] (bJ b L :: R) (fun v B => ∃ a c, v = .slice a (kI L r l).length c ∧ B = osl 3 1 (.slice a (kI L r l).length c) ((kI L r l).flatMap iI) :: bJ b L :: R) := by
 refine ac func446 ntmps446 ?_
 refine a7 (qK rfl rfl (r := min r l) (by omega)) ?_
 refine a7 (uq rfl rfl (r := max r l) (by omega)) ?_
 refine cW (kx fC aO lV rfl rfl rfl rfl rfl (by decide) (by decide)) fun g => ?_
 refine ao rfl (aj call475 (Zu g (min r l) (max r l))) ?_
 rintro _ B_ ⟨xs, sp, rfl, hxs, hlen, hB_⟩
 obtain rfl := hB_.symm
 have hfr : mp (eX L) xs = kI L r l := by
  grind [kI, mp]
 have h2 : xs.length ≤ 2 := by grind
 refine aw ?_
 refine ao rfl (nx (B := pt g (a8 (xs.flatMap iI ++ sp) 3) :: kH 0 (aS [bJ b L]) :: R) inferInstance (ar call474 (Zt xs g 2 sp 476 [pQ b] [] _ _ (Zv W0 b L hl) (by omega) h2 (by simp only [maxLen]; omega) hlen))) ?_
 rintro _ B_ ⟨a, c, rfl, hB_⟩
 obtain rfl := hB_.symm
 rw [hfr]
 refine yk ?_
 simp only [Qar, Qan]
 refine aw ?_
 refine aa ?_
 exact ⟨_, ⟨a, c, rfl, rfl⟩, IO⟩
theorem Zx (L : List Ln) (sp : List Value) (i : Nat) (hi : i < L.length) : ((L.flatMap cD ++ sp).drop (i * 7)).take 7 = cD L[i] := pn mo L i sp hi
theorem Iq (L : List Ln) (sp : List Value) (i j : Nat) (hi : i < L.length) (hj : j < 7) : (L.flatMap cD ++ sp)[i * 7 + j]? = (cD L[i])[j]? := nv mo L i j sp hi hj
theorem Ir (L : List Ln) (sp : List Value) (i : Nat) (hi : i < L.length) : (L.flatMap cD ++ sp).set (i * 7 + 4) (iQ (fA L[i].e.2.2)) = (L.set i L[i].nar).flatMap cD ++ sp :=
  qG mo L i 4 _ _ sp hi (by decide) rfl
theorem Zy {W0 : World} {A R : List HP} {g : Nat} {L : List Ln} {sp : List Value} [h : Tk pt g A (a8 (L.flatMap cD ++ sp) 551) R] : bK (az W0 A) (some ⟨g, 0, none⟩) 7 cD L := fun i x hx => by
 obtain ⟨hi, rfl⟩ := List.getElem?_eq_some_iff.1 hx
 refine ⟨g, 0, rfl, ?_⟩
 rw [Qac]
 exact cp (Zx L sp i hi) rfl
theorem Zz (b : Nat) (v0 : Value) : sQ W0 402 [pQ b] (pt b (a8 [v0, .bool true] 482) :: R) (.bool false) (pt b (a8 [v0, .bool true] 482) :: R) := by
 refine ac func402 ntmps402 ?_
 refine cP rfl rfl rfl (fun g1_3 => ?_) fun g1_3 => ?_
 cases g1_3
 refine aw ?_
 exact aa ai
theorem ZA (b : Nat) (L : List Ln) (hl : L.length ≤ 1000) (a : Option Addr) (n c : Nat) (hn : L.length = n) (hs : bK (az W0 (pt b (a8 [.slice a n c, .bool true] 482) :: R)) a 7 cD L) (p : Int) : sQ W0 476 [pQ b, iQ p] (pt b (a8 [.slice a n c, .bool true] 482) :: R) (.bool (eX L p)) (pt b (a8 [.slice a n c, .bool true] 482) :: R) := by
 subst hn
 refine ac func476 ntmps476 ?_
 refine ag (aj xQ (Zz b _)) ?_
 refine dr (fun i : Nat => i ≤ L.length ∧ ∀ j (hj : j < L.length), j < i → L[j].thr p = false) (fun i => [(0, pQ b), (1, iQ p), (12, iQ (L.length : Nat)), (13, iQ i)]) (fun _ => pt b (a8 [.slice a L.length c, .bool true] 482) :: R) (fun i => L.length - i) 0 ?_ ?_
 grind
 intro i ⟨hi, hI⟩
 refine aw ?_
 refine aA rfl (fun c4 => ?_) fun c4 => ?_
 refine au 11 ?_
 have hi1 : i < L.length := by omega
 obtain ⟨g, o, hga, hc⟩ := hs.at_ hi1
 obtain ⟨x, hx⟩ : ∃ x, L[i] = x := ⟨_, rfl⟩
 have hyes : x.thr p = true → eX L p = true := fun q => tx.2 ⟨x, by rw [← hx]; exact QaL hi1, q⟩
 have hno : x.thr p = false → ∀ j (hj : j < L.length), j < i + 1 → L[j].thr p = false := fun q j hj hji => by
  rcases Qay j i with q2 | q2
  grind
  grind
 rw [hx] at hc
 refine aw ?_
 refine a7 (fT lU qz rfl hga rfl rfl hi1 (by first | exact Qac _ | rfl)) ?_
 refine ag (ar LR (CC g (o + i * 7) x hc p)) ?_
 refine ah (fun c6 => ?_) fun c6 => ?_
 refine aa ?_
 rw [hyes c6]
 exact ai
 refine a7 cQ ?_
 refine cv (i + 1) ?_
 grind
 refine aw ?_
 refine aa ?_
 have ht : eX L p = false := by
  rw [← QaB, tx]
  rintro ⟨x, hx, q⟩
  obtain ⟨j, hj, rfl⟩ := Qbm hx
  rw [hI j hj (by omega)] at q; cases q
 rw [ht]
 exact ai
def jg (r l : Int) (L : List Ln) (i : Nat) : List Ln := (L.take i).map (dh r l) ++ L.drop i
theorem Iu (r l : Int) (L : List Ln) (i : Nat) (hi : i ≤ L.length) : (jg r l L i).length = L.length := by simp [jg]; omega
theorem ZB {r l : Int} {L : List Ln} {i : Nat} (hi : i < L.length) : (jg r l L i)[i]'(by grind [Iu]) = L[i] := by
 grind [jg]
theorem ZC {r l : Int} {L : List Ln} {i : Nat} (hi : i < L.length) : jg r l L (i + 1) = (jg r l L i).set i (dh r l L[i]) := by
 have h1 : ((L.take i).map (dh r l)).length = i := by simp; omega
 unfold jg
 rw [Qam hi, QaF, Qco, Qbk hi (l := L), QbI _ _ (by omega), h1, Nat.sub_self, List.set_cons_zero]
 simp
theorem ZD (b : Nat) (L : List Ln) (z : Ln) (hl : (L ++ [z]).length ≤ 1000) (hr : ∀ x ∈ L ++ [z], i64 x.e.2.2) (r l : Int) : sQ W0 449 [pQ b, iQ r, iQ l] (bJ b (L ++ [z]) :: R) (.tuple #[]) (bJ b (uT ((L ++ [z]).map (dh r l))) :: R) := by
 have hres : uT ((L ++ [z]).map (dh r l)) = L.map (dh r l) ++ [if eX ((L ++ [z]).map (dh r l)) (dh r l z).e.1 then (dh r l z).nar else dh r l z] := by
  rw [QaF, Qco, I1]
 have hfull : jg r l (L ++ [z]) (L ++ [z]).length = (L ++ [z]).map (dh r l) := by unfold jg; rw [QbM, List.drop_length, Qax]
 obtain ⟨M, hM⟩ : ∃ M, L ++ [z] = M := ⟨_, rfl⟩
 have hMl : M.length = L.length + 1 := by rw [← hM]; simp
 rw [hM] at hres hfull hl hr ⊢
 have hr2 : i64 (dh r l z).e.2.2 := by
  have := hr z (by rw [← hM]; simp)
  unfold dh; split
  show i64 (fA z.e.2.2)
  obtain ⟨h1, h2⟩ := this
  unfold fA; split
  rename_i hw
  have := Qat hw
  exact ⟨by omega, by omega⟩
  exact ⟨h1, h2⟩
  exact this
 refine ac func449 ntmps449 ?_
 refine YW (b := b) (by intro q; rw [q] at hMl; simp at hMl) fun g c sp k1 k2 k3 => ?_
 refine aw ?_
 refine fu (fun i : Nat => i ≤ M.length) (fun i => [(0, pQ b), (1, iQ r), (2, iQ l), (13, iQ (M.length : Nat)), (14, iQ i)]) (fun i => pt b (a8 [.slice (some ⟨g, 0, none⟩) M.length c, .bool true] 482) :: pt g (a8 ((jg r l M i).flatMap cD ++ sp) 551) :: R) (fun i => M.length - i) 0 ?_ ?_ ?_ ?_
 exact QaE _
 · repeat (first | exact cI | refine cj rfl ?_)
 rw [show jg r l M 0 = M by simp [jg]]
 exact IO
 intro i hi
 refine aw ?_
 refine aA rfl (fun c1 => ?_) fun c1 => ?_
 refine au 2 ?_
 refine ec (fun _ : Unit => True) (fun _ => [(0, pQ b), (1, iQ r), (2, iQ l), (13, iQ (M.length : Nat)), (14, iQ i)]) (fun _ => pt b (a8 [.slice (some ⟨g, 0, none⟩) M.length c, .bool true] 482) :: pt g (a8 ((jg r l M (i + 1)).flatMap cD ++ sp) 551) :: R) ?_ ?_
 refine au 8 ?_
 have hi1 : i < M.length := by omega
 have hpl := Iu r l M i hi
 have hat : (jg r l M i)[i]'(by rw [hpl]; exact hi1) = M[i] := ZB hi1
 have hsu := ZC (r := r) (l := l) hi1
 have hri := hr _ (QaL hi1)
 have hge := fun j hj => Iq (jg r l M i) sp i j (by rw [hpl]; exact hi1) hj
 have hse := Ir (jg r l M i) sp i (by rw [hpl]; exact hi1)
 rw [hat] at hge hse
 obtain ⟨x, hx⟩ : ∃ x, M[i] = x := ⟨_, rfl⟩
 rw [hx] at hsu hri hge hse
 refine aw ?_
 refine a7 (bE hi1) ?_
 refine a7 (aH (aE ((hge 2 (by decide)).trans rfl))) ?_
 refine eR (fun g4_4 => ?_) fun g4_4 => ?_
 refine a7 (bE hi1) ?_
 refine ag (aj LX (CE g (i * 7) ((jg r l M i).flatMap cD ++ sp) x.e.2.2 hri ((hge 4 (by decide)).trans rfl))) ?_
 rw [hse]
 refine cq () ?_ (he := ?_)
 trivial
 rw [hsu, show dh r l x = x.nar from Qae (by omega)]
 exact IO
 refine ah (fun c4 => ?_) fun c4 => ?_
 refine a7 (bE hi1) ?_
 refine ag (aj LX (CE g (i * 7) ((jg r l M i).flatMap cD ++ sp) x.e.2.2 hri ((hge 4 (by decide)).trans rfl))) ?_
 rw [hse]
 refine cq () ?_ (he := ?_)
 trivial
 rw [hsu, show dh r l x = x.nar from Qae (by omega)]
 exact IO
 refine cq () ?_ (he := ?_)
 trivial
 rw [hsu, show dh r l x = x from Qab (by omega), show (jg r l M i).set i x = jg r l M i by rw [← hx, ← hat, QbY]]
 exact IO
 intro _ _
 refine aw ?_
 refine a7 cQ ?_
 exact cv (i + 1) (by omega)
 refine aw ?_
 obtain rfl : i = M.length := by omega
 rw [hfull]
 have hml : (M.map (dh r l)).length = M.length := QaA _
 have hln : L.length < (M.map (dh r l)).length := by omega
 have hat : (M.map (dh r l))[L.length] = dh r l z := by simp [← hM]
 have hge := fun j hj => Iq (M.map (dh r l)) sp L.length j hln hj
 have hse := Ir (M.map (dh r l)) sp L.length hln
 have hst : (M.map (dh r l)).set L.length (dh r l z).nar = L.map (dh r l) ++ [(dh r l z).nar] := by
  rw [← hM, QaF, QbI _ _ (by simp)]; simp
 have hst2 : M.map (dh r l) = L.map (dh r l) ++ [dh r l z] := by rw [← hM, QaF]; rfl
 rw [hat] at hge hse
 refine bu [b] 12 fun hS => ?_
 refine ae 0 9 hS ?_
 refine ax 9 hS (m0 L.length) ?_
 refine ax 10 hS (bE (by omega)) ?_
 refine ae 11 1 hS ?_
 refine aK ?_
 refine a7 (aH (aE ((hge 2 (by decide)).trans rfl))) ?_
 refine ag (aj call476 (ZA b (M.map (dh r l)) (by omega) (some ⟨g, 0, none⟩) M.length c hml (Zy (g := g) (sp := sp)) (dh r l z).e.1)) ?_
 refine ah (fun c8 => ?_) fun c8 => ?_
 refine ag (aj LX (CE g (L.length * 7) ((M.map (dh r l)).flatMap cD ++ sp) (dh r l z).e.2.2 hr2 ((hge 4 (by decide)).trans rfl))) ?_
 rw [hse, hst]
 refine bA (.inr rfl) .nil ?_
 rw [hres, Qae c8]
 exact ⟨_, ⟨rfl, rfl⟩, Ib (b := b) rfl (by simp; omega) (by omega) k2 (by rw [← k3]; simp only [Qad, bX mo, QaA, QaX]; omega)⟩
 refine bA (.inr rfl) .nil ?_
 rw [hres, Qab c8, ← hst2]
 exact ⟨_, ⟨rfl, rfl⟩, Ib (b := b) rfl hml.symm (by omega) k2 (by rw [← k3]; simp only [Qad, bX mo, QaA])⟩
theorem ZE (l : List Ln) (a : Option Addr) (n c : Nat) (hl : l.length = n) (hN : n ≤ 1000) (hs : bK (az W0 R) a 7 cD l) : sP W0 448 [.slice a n c] R (fun v B => ∃ a' c', v = .slice a' n c' ∧ B = osl 551 7 (.slice a' n c') (l.flatMap cD) :: R) := by
 subst hl
 refine ac func448 ntmps448 ?_
 refine a7 (sr lU rfl rfl) ?_
 refine aA rfl (fun c1 => ?_) fun c1 => ?_
 refine au 7 ?_
 refine aa ?_
 have h0 : l = [] := by
  rcases l with _ | ⟨x, l⟩
  rfl
  obtain ⟨b, o, h, _⟩ := hs 0 x rfl
  rw [c1] at h; cases h
 subst h0
 exact ⟨_, ⟨none, 0, rfl, rfl⟩, dP⟩
 have hsrc := hs.src mo (fun _ => trivial)
 refine gC (aC (aI (aU (ao rfl (sy lU qz rfl) ?_))))
 rintro _ _ ⟨be, rfl, rfl⟩
 refine aw ?_
 refine ao rfl (ut (sz := 7) (by_ := 56) (info := Tryz.t551) lU (by kernel_rfl) rfl rfl rfl rfl (by decide) rfl rfl (news := l.flatMap cD) (by
 rcases hsrc with h | ⟨bs, os, h1, h2⟩
 grind
 right; exact ⟨bs, os, h1, h2.weak⟩) (bX mo l) (zn HY l) (by simp only [maxLen]; omega) (by omega)) ?_
 rintro _ _ ⟨a1, c1, rfl, rfl⟩
 refine aw ?_
 refine aa ?_
 rw [Qac, Qan]
 exact ⟨_, ⟨a1, c1, rfl, rfl⟩, IO⟩
theorem ZF (k : cC) (e : iW) (r l : Int) (L : List Ln) : wQ (wP k e r l L) = jw k L ++ [⟨k, e, r, l⟩] := by
 grind [wQ, wP, jw]
theorem ZG {α : Type} {S : World → Prop} {a : Option Addr} {g o sz : Nat} {f : α → List Value} {xs : List α} (h : bK S a sz f xs) (ha : a = some ⟨g, o, none⟩) : bK S (some ⟨g, o + sz, none⟩) sz f xs.tail := fun i x hx => by
 obtain ⟨b, off, e, hc⟩ := h (i + 1) x (by grind)
 rw [ha] at e; cases e
 exact ⟨g, o + sz, rfl, by rw [show o + sz + i * sz = o + (i + 1) * sz by rw [QbS]; omega]; exact hc⟩
theorem ZH (b : Nat) (L : List Ln) (hl : L.length ≤ 32) (hr : ∀ x ∈ L, i64 x.e.2.2) (k : cC) (e : iW) (he : i64 e.2.2) (r l : Int) (h1 : tA r = true) (h2 : tA l = true) : sP W0 412 [pQ b, .agg (fp k).toArray, .agg (lj e).toArray, iQ r, iQ l] (bJ b L :: R) (fun v B => ∃ a c, v = .tuple #[.slice a (kI L r l).length c, iQ 0] ∧ B = osl 3 1 (.slice a (kI L r l).length c) ((kI L r l).flatMap iI) :: bJ b (kJ k e r l L) :: R) := by
 have hflt : L.filter (fun x => !(decide (x.k = k))) = L.filter fun x => decide (x.k ≠ k) := by
  grind
 obtain ⟨M, hM⟩ : ∃ M, (L.filter fun x => decide (x.k ≠ k)) = M := ⟨_, rfl⟩
 have hMl : M.length ≤ 32 := by grind
 have hO : jw k L = if 31 < M.length then M.tail else M := by rw [jw, hM]
 have hOl := I8 (k := k) hl
 have hOm : ∀ x ∈ jw k L ++ [(⟨k, e, r, l⟩ : Ln)], i64 x.e.2.2 := fun x hx => by
  rcases Qbg.1 hx with q | q
  grind [Cw]
  grind
 have hF : kJ k e r l L = uT ((jw k L ++ [(⟨k, e, r, l⟩ : Ln)]).map (dh r l)) := by rw [kJ, ZF]
 obtain ⟨fr, hfr⟩ : ∃ f, kI L r l = f := ⟨_, rfl⟩
 rw [hfr, hF]
 refine ac func412 ntmps412 ?_
 refine aV fun b6 => ?_
 refine aV fun b7 => ?_
 refine ag (aj xQ (wS b L)) ?_
 refine ag (ar call445 (Ic r)) ?_
 rw [h1]
 refine ah (fun c3 => ?_) fun c3 => ?_
 exact absurd rfl c3
 refine ag (ar call445 (Ic l)) ?_
 rw [h2]
 refine aA rfl (fun c4 => ?_) fun c4 => ?_
 exact absurd rfl c4
 refine gC (mI (aC (aI (aU (ab rfl (aW rfl) (ab rfl (aW rfl) (ab rfl (aW rfl) ?_)))))))
 refine ao rfl (aj call446 (Zw b L (by omega) r l)) ?_
 rintro _ B_ ⟨af, cf, rfl, hB_⟩
 obtain rfl := hB_.symm
 rw [hfr]
 refine ab rfl (bq rfl) (aM (aC (aI (aU (ab rfl (aW rfl) (ab rfl (vH rfl rfl) ?_))))))
 refine ao rfl (nx (B := bJ b L :: kH 0 (aS [pt b6 (a8 (fp k) 504)]) :: osl 3 1 (.slice af fr.length cf) (fr.flatMap iI) :: pt b7 (a8 (lj e) 500) :: R) inferInstance (ar LW (CF b L (by omega) 447 [pQ b6] _ _ (YZ W0 b6 k)))) ?_
 rintro _ B_ ⟨ak, ck, rfl, hB_⟩
 obtain rfl := hB_.symm
 rw [hflt, hM]
 refine yk ?_
 simp only [Qar, Qan]
 refine wR (b := b) fun a c => ?_
 refine aM (aC ?_)
 refine ec (fun X : Option Addr × Nat => True) (fun X => [(0, pQ b), (3, iQ r), (4, iQ l), (12, .slice af fr.length cf)]) (fun X => pt b (a8 [.slice X.1 (M.length + 1) X.2, .bool true] 482) :: osl 551 7 (.slice X.1 (M.length + 1) X.2) (M.flatMap cD ++ cD (⟨k, e, r, l⟩ : Ln)) :: osl 3 1 (.slice af fr.length cf) (fr.flatMap iI) :: R) ?_ ?_
 refine bu [b6, b7] 16 fun hS => ?_
 refine ae 0 4 hS ?_
 refine ae 5 2 hS ?_
 refine ax 7 hS (eg Lp E6 (aG oW (aG qx ee)) (ge rfl oW rfl rfl (Qaa rfl) SetRL.eq (ge rfl qx rfl rfl (Qaa rfl) SetRL.eq ed))) ?_
 refine ae 8 2 hS ?_
 refine ax 10 hS (eg a5V Ar (aG qy (aG aO (aG aO ee))) (ge rfl qy rfl rfl (Qaa rfl) SetRL.eq (cm rfl aO rfl rfl (Qaa rfl) SetL.eq (cm rfl aO rfl rfl (Qaa rfl) SetL.eq ed)))) ?_
 refine eh (is := [4, 11]) (by kernel_rfl) rfl ⟨?_, ?_, trivial⟩
 refine cT (cV (aH (aE rfl))) ?_; clear hS
 rintro _ _ ⟨rfl, rfl⟩
 refine ⟨aF, fun hS => ?_⟩
 refine lw 11 (by kernel_rfl) rfl rfl (gH lU qz Ar rfl (dX rfl rfl fR) rfl (by decide) (by decide) (by decide)) rfl ?_; clear hS
 rintro _ _ ⟨bb, rfl, rfl⟩
 rw [show ([cD (⟨k, e, r, l⟩ : Ln)] : List (List Value)).flatten = cD (⟨k, e, r, l⟩ : Ln) from Qax _]
 refine ⟨aF, fun hS => ?_⟩
 refine cg 12 (eQ (sz := 7) (by_ := 56) (info := Tryz.t551) lU (by kernel_rfl) rfl rfl rfl rfl (by decide) rfl rfl dW rfl rfl (by simp only [maxLen]; omega) (by omega)) ?_; clear hS
 rintro _ _ ⟨a3, c3, rfl, rfl⟩
 refine ⟨aF, fun hS => ?_⟩
 refine ae 13 2 hS ?_
 refine bG 15 dq fun hS => ?_
 refine fw ?_
 refine aC ?_
 exact cq (a3, c3) trivial
 skip
 refine lx rfl rfl (gH lU qz Ar rfl (dX rfl rfl fR) rfl (by decide) (by decide) (by decide)) rfl ?_; clear hS
 rintro _ _ ⟨bb, rfl, rfl⟩
 rw [show ([cD (⟨k, e, r, l⟩ : Ln)] : List (List Value)).flatten = cD (⟨k, e, r, l⟩ : Ln) from Qax _]
 refine ⟨aF, fun hS => ?_⟩
 refine bF 4 (cV (aH (aE rfl))) fun hS => ?_
 refine cg 12 (eQ (sz := 7) (by_ := 56) (info := Tryz.t551) lU (by kernel_rfl) rfl rfl rfl rfl (by decide) rfl rfl dW rfl rfl (by simp only [maxLen]; omega) (by omega)) ?_; clear hS
 rintro _ _ ⟨a3, c3, rfl, rfl⟩
 refine ⟨aF, fun hS => ?_⟩
 refine ae 13 2 hS ?_
 refine bG 15 dq fun hS => ?_
 refine aK ?_
 exact cq (a3, c3) trivial
 intro ⟨a3, c3⟩ _
 dsimp only
 refine ec (fun _ : Unit => True) (fun _ => [(0, pQ b), (3, iQ r), (4, iQ l), (12, .slice af fr.length cf)]) (fun _ => bJ b (jw k L ++ [(⟨k, e, r, l⟩ : Ln)]) :: osl 3 1 (.slice af fr.length cf) (fr.flatMap iI) :: R) ?_ ?_
 refine au 10 ?_
 refine ah (fun c9 => ?_) fun c9 => ?_
 have hfm : (M.flatMap cD ++ cD (⟨k, e, r, l⟩ : Ln)) = (M ++ [(⟨k, e, r, l⟩ : Ln)]).flatMap cD := by grind
 refine Bn (E := 551) (sz := 7) (a := a3) (c := c3) (n := M.length + 1) (ys := M.flatMap cD ++ cD (⟨k, e, r, l⟩ : Ln)) (fun hf => ?_)
 obtain ⟨g, rfl⟩ := Bs hf (by simp [cD])
 refine Br (E := 551) (sz := 7) (a := some ⟨g, 0, none⟩) (c := c3) (n := M.length + 1) (fun hcap => ?_)
 refine jH (E := 551) (sz := 7) (a := some ⟨g, 0, none⟩) (c := c3) (n := M.length + 1) cD (M ++ [(⟨k, e, r, l⟩ : Ln)]) mo (by decide) hfm (fun hs => ?_)
 refine aw ?_
 refine a7 (vT (o' := 0 + 7) lU qz rfl rfl (i := 1) rfl (by omega) (by omega) rfl) ?_
 refine ao rfl (ar call448 (ZE ((M ++ [(⟨k, e, r, l⟩ : Ln)]).tail) (some ⟨g, 0 + 7, none⟩) (M.length + 1 - 1) (c3 - 1) (by simp) (by omega) (ZG hs rfl))) ?_
 rintro _ B_ ⟨a4, c4, rfl, hB_⟩
 obtain rfl := hB_.symm
 refine aw ?_
 refine aB dq ?_
 refine cq () ?_ (he := ?_)
 trivial
 have hne : M ≠ [] := by grind
 have htl : (M ++ [(⟨k, e, r, l⟩ : Ln)]).tail = M.tail ++ [(⟨k, e, r, l⟩ : Ln)] := List.tail_append_of_ne_nil hne
 rw [hO, Qae (by omega), ← htl]
 exact Ent.trans (B := pt b (a8 [.slice a4 (M.length + 1 - 1) c4, .bool true] 482) :: osl 551 7 (.slice a4 (M.length + 1 - 1) c4) ((M ++ [(⟨k, e, r, l⟩ : Ln)]).tail.flatMap cD) :: osl 3 1 (.slice af fr.length cf) (fr.flatMap iI) :: R) inferInstance (tz (b := b) (by simp))
 refine cq () ?_ (he := ?_)
 trivial
 rw [hO, Qab (by omega)]
 have hfm : (M.flatMap cD ++ cD (⟨k, e, r, l⟩ : Ln)) = (M ++ [(⟨k, e, r, l⟩ : Ln)]).flatMap cD := by grind
 rw [hfm]
 exact Ent.trans (B := pt b (a8 [.slice a3 (M.length + 1) c3, .bool true] 482) :: osl 551 7 (.slice a3 (M.length + 1) c3) ((M ++ [(⟨k, e, r, l⟩ : Ln)]).flatMap cD) :: osl 3 1 (.slice af fr.length cf) (fr.flatMap iI) :: R) inferInstance (tz (b := b) (by simp))
 intro _ _
 refine aw ?_
 refine ag (aj call449 (ZD b (jw k L) (⟨k, e, r, l⟩ : Ln) (by simp; omega) hOm r l)) ?_
 refine aT ?_
 exact ⟨_, ⟨af, cf, rfl, rfl⟩, IO⟩
structure WS where
  on : Bool
  r : Int
  p : Int
  fault : Int
  root : Int
  leaf : Int
@[reducible] def rq (s : WS) : List Value := [.bool s.on, .int .i64 s.r, .int .i64 s.p, .int .i64 s.fault, .int .i64 s.root, .int .i64 s.leaf]
def q9 : WS := ⟨false, 0, 0, 0, -1, -1⟩
abbrev ru (pv va : Nat) (s : WS) : Obj := a8 (.pointer (some ⟨pv, 0, none⟩) :: .int .u32 va :: rq s) 537
theorem Iv (x : Int) : (x != 0) = !decide (x = 0) := by by_cases q : x = 0 <;> simp [q]
theorem wW (bw pv va : Nat) (s : WS) (f : Int) : sQ W0 394 [pQ bw, iQ f] (pt bw (ru pv va s) :: R) (.bool (f != 0)) (pt bw (ru pv va { s with fault := f }) :: R) := by
 refine ac func394 ntmps394 ?_
 refine aB dq ?_
 exact aa ai
def lk (fr : List ap) (pg : List Pl) (va : Nat) (a : Int) (s : WS) : WS :=
  if eU fr.length pg a (va / 1024) then { s with root := a, fault := t7 (eM fr pg a (va / 1024)) } else { s with fault := 3 }
def fq (fr : List ap) (pg : List Pl) (va : Nat) (a : Int) : Int := if eU fr.length pg a (va / 1024) then wA (eM fr pg a (va / 1024)) else 0
def jy (fr : List ap) (pg : List Pl) (va : Nat) (a : Int) : Bool := eU fr.length pg a (va / 1024) && decide (t7 (eM fr pg a (va / 1024)) = 0)
theorem Iw {w : Nat} : lv .u32 w 10 = ((w / 1024 : Nat) : Int) := oi (s := 10) (by decide)
theorem Ix {w : Nat} : lv .u32 w 6 = ((w / 64 : Nat) : Int) := oi (s := 6) (by decide)
theorem ZI (bw pv ps pm d : Nat) (fr : List ap) (pg : List Pl) (h : Pgs pg) (hF : cB fr) (va : Nat) (hva : va < 4294967296) (s : WS) (a : Int) : sQ W0 396 [pQ bw, iQ a] (pt bw (ru pv va s) :: dZ pv ps pm d fr pg R) (.tuple #[iQ (fq fr pg va a), .bool (jy fr pg va a)]) (pt bw (ru pv va (lk fr pg va a s)) :: dZ pv ps pm d fr pg R) := by
 by_cases hb : eU fr.length pg a (va / 1024) = true
 rw [fq, Qae hb, lk, Qae hb, jy, hb, QbO]
 refine ac func396 ntmps396 ?_
 refine bu [bw] 16 fun hS => ?_
 refine ae 0 9 hS ?_
 refine ax 9 hS (kR rfl rfl (by decide) Iw) ?_
 refine bF 10 (dT Em (yW pv ps pm d fr pg h hF a (va / 1024) (by omega))) fun hS => ?_
 refine ae 11 5 hS ?_
 refine aK ?_
 refine ah (fun c2 => ?_) fun c2 => ?_
 exact absurd hb c2
 refine aB dq ?_
 refine ag (ar call441 (WU (eM fr pg a (va / 1024)) (Ha hF _ _ _))) ?_
 refine ag (aj AB (wW bw pv va { s with root := a } _)) ?_
 refine aT ?_
 refine aQ ?_
 simp [bD]
 exact Iv _
 have hb' : eU fr.length pg a (va / 1024) = false := by grind
 rw [fq, Qab hb, lk, Qab hb, jy, hb', Bool.false_and]
 refine ac func396 ntmps396 ?_
 refine bu [bw] 16 fun hS => ?_
 refine ae 0 9 hS ?_
 refine ax 9 hS (kR rfl rfl (by decide) Iw) ?_
 refine bF 10 (dT Em (yW pv ps pm d fr pg h hF a (va / 1024) (by omega))) fun hS => ?_
 refine ae 11 5 hS ?_
 refine aK ?_
 refine ah (fun c2 => ?_) fun c2 => ?_
 refine ag (aj AB (wW bw pv va _ _)) ?_
 exact aT ai
 exact absurd (by rw [hb']; decide) c2
def qd (fr : List ap) (pg : List Pl) (va : Nat) (a : Int) (s : WS) : WS :=
  if eU fr.length pg a (va / 64) then { s with leaf := a, on := pO (eM fr pg a (va / 64)), r := pP (eM fr pg a (va / 64)), p := pR (eM fr pg a (va / 64)), fault := pS (eM fr pg a (va / 64)) } else { s with fault := 3 }
def zv (fr : List ap) (pg : List Pl) (va : Nat) (a : Int) : Bool := eU fr.length pg a (va / 64) && decide (pS (eM fr pg a (va / 64)) = 0)
theorem ZJ (bw pv ps pm d : Nat) (fr : List ap) (pg : List Pl) (h : Pgs pg) (hF : cB fr) (va : Nat) (hva : va < 4294967296) (s : WS) (a : Int) : sQ W0 398 [pQ bw, iQ a] (pt bw (ru pv va s) :: dZ pv ps pm d fr pg R) (.bool (zv fr pg va a)) (pt bw (ru pv va (qd fr pg va a s)) :: dZ pv ps pm d fr pg R) := by
 by_cases hb : eU fr.length pg a (va / 64) = true
 rw [qd, Qae hb, zv, hb, QbO]
 refine ac func398 ntmps398 ?_
 refine bu [bw] 16 fun hS => ?_
 refine ae 0 9 hS ?_
 refine ax 9 hS (kR rfl rfl (by decide) Ix) ?_
 refine bF 10 (dT Em (yW pv ps pm d fr pg h hF a (va / 64) (by omega))) fun hS => ?_
 refine ae 11 5 hS ?_
 refine aK ?_
 refine ah (fun c2 => ?_) fun c2 => ?_
 exact absurd hb c2
 refine aB dq ?_
 refine ag (ar call442 (WW (eM fr pg a (va / 64)) (Ha hF _ _ _))) ?_
 rw [wC]
 refine bB fun b1 => ?_
 refine aB aD ?_
 refine aB (iP (Qaa rfl) SetRL.eq) ?_
 refine ag (aj AB (wW bw pv va { s with leaf := a, on := pO (eM fr pg a (va / 64)), r := pP (eM fr pg a (va / 64)), p := pR (eM fr pg a (va / 64)) } _)) ?_
 refine aa ?_
 refine aQ ?_
 simp [bD]
 exact Iv _
 have hb' : eU fr.length pg a (va / 64) = false := by grind
 rw [qd, Qab hb, zv, hb', Bool.false_and]
 refine ac func398 ntmps398 ?_
 refine bu [bw] 16 fun hS => ?_
 refine ae 0 9 hS ?_
 refine ax 9 hS (kR rfl rfl (by decide) Ix) ?_
 refine bF 10 (dT Em (yW pv ps pm d fr pg h hF a (va / 64) (by omega))) fun hS => ?_
 refine ae 11 5 hS ?_
 refine aK ?_
 refine ah (fun c2 => ?_) fun c2 => ?_
 refine ag (aj AB (wW bw pv va _ _)) ?_
 exact aa ai
 exact absurd (by rw [hb']; decide) c2
def eY (fr : List ap) (pg : List Pl) (root : Int) (va : Nat) : Nat → WS × Int
 | 0 => (q9, root)
 | 1 => (if va < 16384 then q9 else { q9 with fault := 2 }, root)
 | 2 => (lk fr pg va root q9, fq fr pg va root)
 | _ => (qd fr pg va (fq fr pg va root) (lk fr pg va root q9), fq fr pg va root)
def km (fr : List ap) (pg : List Pl) (root : Int) (va : Nat) : Nat → Bool
 | 0 => decide (va < 16384)
 | 1 => jy fr pg va root
 | _ => zv fr pg va (fq fr pg va root)
def bO (fr : List ap) (pg : List Pl) (root : Int) (va : Nat) : WS :=
  if va < 16384 then (if jy fr pg va root then (eY fr pg root va 3).1 else (eY fr pg root va 2).1) else (eY fr pg root va 1).1
abbrev qe (bva bwp bat bw pv ps pm d : Nat) (fr : List ap) (pg : List Pl) (va : Nat) (q : WS × Int) (R : List HP) : List HP :=
  pt bva (a8 [.int .u32 va] 62) :: pt bwp (a8 [.pointer (some ⟨bw, 0, none⟩)] 535) :: pt bat (a8 [.int .i64 q.2] 3) :: pt bw (ru pv va q.1) :: dZ pv ps pm d fr pg R
theorem ZK (W0 : World) (R : List HP) (bva bwp bat bw pv ps pm d : Nat) (fr : List ap) (pg : List Pl) (root : Int) (va : Nat) :
    aZ Tryz.prog W0 393 [.pointer (some ⟨bva, 0, none⟩), .pointer (some ⟨bwp, 0, none⟩)] (qe bva bwp bat bw pv ps pm d fr pg va (eY fr pg root va 0) R)
      (fun v B => v = .bool (km fr pg root va 0) ∧ B = qe bva bwp bat bw pv ps pm d fr pg va (eY fr pg root va 1) R) := by
 refine ly func393 ntmps393 rfl rfl ?_
 refine aI (aU (ab rfl (bq rfl) (aM (aC (aI (aU (ab rfl (ci tX rfl (aE rfl)) ?_)))))))
 refine ab rfl (pd rfl rfl) (ab rfl (aW rfl) ?_)
 refine cP rfl rfl rfl (fun g1_3 => ?_) fun g1_3 => ?_
 refine mJ rfl rfl rfl rfl ?_
 refine mJ rfl rfl rfl rfl (ab rfl (uf rfl rfl) (ab rfl (bq rfl) (aM (aC (dC (bA (.inl rfl) (.cons (bP rfl) .nil) ?_))))))
 first
   | (have hv : va < 16384 := by omega
      simp only [eY, km, Qae hv, Qaw hv]
      exact ⟨_, ⟨rfl, rfl⟩, inferInstance⟩)
   | (have hv : ¬ va < 16384 := by omega
      simp only [eY, km, Qab hv, Qav hv]
      exact ⟨_, ⟨rfl, rfl⟩, inferInstance⟩)
 refine ab rfl (ci isAgg535 rfl (aE rfl)) ?_
 refine eK rfl rfl (ao rfl (jD AB rfl (wW bw pv va q9 2)) ?_)
 rintro _ B_ ⟨rfl, hB_⟩
 obtain rfl := hB_.symm
 refine eK rfl rfl (ab rfl (s8 rfl) (ab rfl (oZ rfl rfl) (ab rfl (bq rfl) (aM (aC (dC (bA (.inl rfl) (.cons (bP rfl) .nil) ?_)))))))
 first
   | (have hv : va < 16384 := by omega
      simp only [eY, km, Qae hv, Qaw hv]
      exact ⟨_, ⟨rfl, rfl⟩, inferInstance⟩)
   | (have hv : ¬ va < 16384 := by omega
      simp only [eY, km, Qab hv, Qav hv]
      exact ⟨_, ⟨rfl, rfl⟩, inferInstance⟩)
theorem ZL (bva bwp bat bw pv ps pm d : Nat) (fr : List ap) (pg : List Pl) (h : Pgs pg) (hF : cB fr) (root : Int) (va : Nat) (hva : va < 16384) : sQ W0 395 [.pointer (some ⟨bwp, 0, none⟩), .pointer (some ⟨bat, 0, none⟩)] (qe bva bwp bat bw pv ps pm d fr pg va (eY fr pg root va 1) R) (.bool (km fr pg root va 1)) (qe bva bwp bat bw pv ps pm d fr pg va (eY fr pg root va 2) R) := by
 simp only [eY, km, Qae hva]
 refine jG 9 func395 ntmps395 ?_
 refine dE 10 (mP call396 rfl (ZI bw pv ps pm d fr pg h hF va (by omega) q9 root)) ?_
 refine i7 9 (jZ aO rfl rfl rfl (Qaa rfl) SetL.eq) ?_
 exact aa ai
theorem ZM (bva bwp bat bw pv ps pm d : Nat) (fr : List ap) (pg : List Pl) (h : Pgs pg) (hF : cB fr) (root : Int) (va : Nat) (hva : va < 16384) : sQ W0 397 [.pointer (some ⟨bwp, 0, none⟩), .pointer (some ⟨bat, 0, none⟩)] (qe bva bwp bat bw pv ps pm d fr pg va (eY fr pg root va 2) R) (.bool (km fr pg root va 2)) (qe bva bwp bat bw pv ps pm d fr pg va (eY fr pg root va 3) R) := by
 simp only [eY, km]
 refine jG 9 func397 ntmps397 ?_
 refine dE 4 (mP call398 rfl (ZJ bw pv ps pm d fr pg h hF va (by omega) _ (fq fr pg va root))) ?_
 exact aa ai
def uW (bva bwp bat : Nat) : List Value := [.func (.func 393) #[] #[.pointer (some ⟨bva, 0, none⟩), .pointer (some ⟨bwp, 0, none⟩)], .func (.func 395) #[] #[.pointer (some ⟨bwp, 0, none⟩), .pointer (some ⟨bat, 0, none⟩)], .func (.func 397) #[] #[.pointer (some ⟨bwp, 0, none⟩), .pointer (some ⟨bat, 0, none⟩)]]
theorem ZN {W0 : World} {N : FSz} {e : aP} {R : List HP} {bva bwp bat bw pv ps pm d : Nat} {fr : List ap} {pg : List Pl} {root : Int} {va i : Nat} {fx : Operand} {v : Value} (h : Pgs pg) (hF : cB fr) (hi : i < 3) (hal : ∀ m, m < i → km fr pg root va m = true) (hv : (uW bva bwp bat)[i]? = some v) (hx : ev e fx = some v) :
    bW Tryz.prog W0 N e (qe bva bwp bat bw pv ps pm d fr pg va (eY fr pg root va i) R) (.call { callee := .value fx, args := #[], argTypes := #[] }) (fun v B => v = .bool (km fr pg root va i) ∧ B = qe bva bwp bat bw pv ps pm d fr pg va (eY fr pg root va (i + 1)) R) := by
 have h3 : i = 0 ∨ i = 1 ∨ i = 2 := by omega
 rcases h3 with rfl | rfl | rfl
 cases hv
 exact fQ (us := []) (vs := []) (cs := [pQ bva, pQ bwp]) hx call393 rfl (ZK W0 R bva bwp bat bw pv ps pm d fr pg root va)
 cases hv
 have hva : va < 16384 := Qat (hal 0 (by decide))
 exact fQ (us := []) (vs := []) (cs := [pQ bwp, pQ bat]) hx call395 rfl (ZL bva bwp bat bw pv ps pm d fr pg h hF root va hva)
 cases hv
 have hva : va < 16384 := Qat (hal 0 (by decide))
 exact fQ (us := []) (vs := []) (cs := [pQ bwp, pQ bat]) hx call397 rfl (ZM bva bwp bat bw pv ps pm d fr pg h hF root va hva)
theorem ZO {fr : List ap} {pg : List Pl} {root : Int} {va i : Nat} (hi : i < 3) (hal : ∀ m, m < i → km fr pg root va m = true) (hst : km fr pg root va i = false) : bO fr pg root va = (eY fr pg root va (i + 1)).1 := by
 have h3 : i = 0 ∨ i = 1 ∨ i = 2 := by omega
 rcases h3 with rfl | rfl | rfl
 have : ¬ va < 16384 := of_decide_eq_false hst
 rw [bO, Qab this]
 have hva : va < 16384 := Qat (hal 0 (by decide))
 have : ¬ jy fr pg va root = true := by rw [show jy fr pg va root = false from hst]; decide
 rw [bO, Qae hva, Qab this]
 have hva : va < 16384 := Qat (hal 0 (by decide))
 rw [bO, Qae hva, Qae (show jy fr pg va root = true from hal 1 (by decide))]
theorem ZP {fr : List ap} {pg : List Pl} {root : Int} {va : Nat} (hal : ∀ m, m < 3 → km fr pg root va m = true) : bO fr pg root va = (eY fr pg root va 3).1 := by
 have hva : va < 16384 := Qat (hal 0 (by decide))
 rw [bO, Qae hva, Qae (show jy fr pg va root = true from hal 1 (by decide))]
theorem CI (pv ps pm d : Nat) (fr : List ap) (pg : List Pl) (h : Pgs pg) (hF : cB fr) (root : Int) (va : Nat) (hva : va < 4294967296) : sQ W0 345 [pQ pv, iQ root, .int .u32 va] (dZ pv ps pm d fr pg R) (.agg (rq (bO fr pg root va)).toArray) (dZ pv ps pm d fr pg R) := by
 refine ac func345 ntmps345 ?_
 refine cW (gE rfl rfl) fun b1 => ?_
 refine dR (da E5) fun b2 => ?_
 refine au 2 ?_
 refine Bq (aw ?_)
 refine a7 (eg a5T zeroValue537 (aG Ai (aG bL (aG vm ee))) (cm rfl Ai rfl rfl (Qaa rfl) SetL.eq (cm rfl bL rfl rfl (Qaa rfl) SetL.eq (ge rfl vm rfl rfl (Qaa rfl) SetRL.eq ed)))) ?_
 refine aV fun b3 => ?_
 refine cW (mK zeroValue535 rfl) fun b4 => ?_
 refine aB dq ?_
 refine cW (mK lV rfl) fun b5 => ?_
 refine aB dq ?_
 refine dR (kx a5U sizeOf36 zeroValue36 rfl rfl rfl rfl rfl (by decide) (by decide)) fun b6 => ?_
 refine au 4 ?_
 refine AP (aw ?_)
 refine fu (fun i : Nat => i ≤ 3 ∧ ∀ m, m < i → km fr pg root va m = true) (fun i => [(6, pQ b2), (7, pQ b4), (22, .slice (some ⟨b6, 0, none⟩) 3 3), (23, iQ 3), (24, iQ i)]) (fun i => pt b6 (a8 (uW b1 b4 b5) 36) :: pt b2 (a8 (rq ⟨false, 0, 0, 0, 0, 0⟩) 493) :: qe b1 b4 b5 b3 pv ps pm d fr pg va (eY fr pg root va i) R) (fun i => 3 - i) 0 ?_ ?_ ?_ ?_
 grind
 · repeat (first | exact cI | refine cj rfl ?_)
 show Ent (pt b6 (a8 (uW b1 b4 b5) 36) :: pt b5 (a8 [iQ (eY fr pg root va 0).2] 3) :: pt b4 (a8 [pQ b3] 535) :: pt b3 (ru pv va (eY fr pg root va 0).1) :: pt b2 (a8 (rq ⟨false, 0, 0, 0, 0, 0⟩) 493) :: pt b1 (a8 [.int .u32 va] 62) :: dZ pv ps pm d fr pg R) _
 exact IO
 intro i ⟨hi, hal⟩
 refine aw ?_
 refine ah (fun c5 => ?_) fun c5 => ?_
 obtain ⟨fv, hfv⟩ : ∃ v, (uW b1 b4 b5)[i]? = some v := ⟨(uW b1 b4 b5)[i]'(by show i < 3; omega), by simp⟩
 refine a7 (bE (by omega)) ?_
 refine a7 (aH (aE (by rw [Qbc]; exact hfv))) ?_
 refine ag (nx inferInstance (ZN (R := pt b6 (a8 (uW b1 b4 b5) 36) :: pt b2 (a8 (rq ⟨false, 0, 0, 0, 0, 0⟩) 493) :: R) (bva := b1) (bwp := b4) (bat := b5) (bw := b3) (pv := pv) (ps := ps) (pm := pm) (d := d) h hF (by omega) hal hfv rfl)) ?_
 refine ah (fun c7 => ?_) fun c7 => ?_
 have hst : km fr pg root va i = false := by grind
 have hres := ZO (by omega) hal hst
 refine a7 (s9 En vm rfl TakeL.eq rfl) ?_
 refine i7 3 aD ?_
 refine pA (bH (.cons (bM En vm rfl rfl) .nil) ?_)
 rw [hres]
 exact ai
 have hst : km fr pg root va i = true := Qcd.1 c7
 refine a7 cQ ?_
 refine cv (i + 1) ?_
 grind
 obtain rfl : i = 3 := by omega
 have hres := ZP hal
 refine a7 (s9 En vm rfl TakeL.eq rfl) ?_
 refine i7 3 aD ?_
 refine pA (bH (.cons (bM En vm rfl rfl) .nil) ?_)
 rw [hres]
 exact ai
theorem ZQ (w : Nat) : gP w < 32 := by unfold gP; split <;> omega
theorem ZR (w : Nat) : pR w < 32 := by unfold pR; split; decide; exact ZQ w
theorem ZS (fr : List ap) (pg : List Pl) (va : Nat) (a : Int) : (lk fr pg va a q9).p = 0 := by unfold lk; split <;> rfl
theorem zw (fr : List ap) (pg : List Pl) (root : Int) (va : Nat) : ∃ k : Nat, (bO fr pg root va).p = (k : Int) ∧ k < 32 := by
 unfold bO
 split
 grind [eY, qd, ZR, ZS]
 simp only [eY]; split <;> exact ⟨0, rfl, by decide⟩
def oI (s : WS) (kind : Int) (user : Bool) : Bool := nM kind && (en s.r (ju kind) && (!user || en s.r 8)) && s.on
theorem Iy {s : WS} {kind : Int} {user : Bool} : oI s kind user = true ↔ (nM kind = true ∧ en s.r (ju kind) = true ∧ (¬ user = true ∨ en s.r 8 = true)) ∧ s.on = true := by simp [oI]
def kK (s : WS) (va : Nat) : Nat := 64 * s.p.toNat + va % 64
def ik (fr : List ap) (pg : List Pl) (on : Bool) (root : Int) (user : Bool) (va : Nat) (kind : Int) : Int :=
  if on then (if (bO fr pg root va).fault ≠ 0 then (bO fr pg root va).fault else if oI (bO fr pg root va) kind user then ez fr.length pg (kK (bO fr pg root va) va) 1 kind else 6) else ez fr.length pg va 1 kind
def eZ (g : Nat → List Pl → Nat → Int → Int → Int) (fr : List ap) (pg : List Pl) (on : Bool) (root : Int) (user : Bool) (va : Nat) (kind : Int) : Int :=
  if on then (if (bO fr pg root va).fault ≠ 0 then 0 else if oI (bO fr pg root va) kind user then g fr.length pg (kK (bO fr pg root va) va) 1 kind else 0) else g fr.length pg va 1 kind
@[reducible] def wX (fr : List ap) (pg : List Pl) (on : Bool) (root : Int) (user : Bool) (va : Nat) (kind : Int) : List Value :=
  [.int .i64 (eZ mY fr pg on root user va kind), .int .i64 (eZ mi fr pg on root user va kind), .int .i64 (eZ ml fr pg on root user va kind), .bool false]
theorem Iz {w : Nat} (h : w < 4294967296) : fi .u32 w 63 = ((w % 64 : Nat) : Int) := by
 have := m7 (a := w) (b := 63) h (by decide)
 rw [show w &&& 63 = w % 64 from un (n := 6)] at this
 exact this
@[reducible] def tE (on : Bool) (root : Int) (user : Bool) : List Value := [.bool on, .int .i64 root, .bool user]
theorem zx (pv ps pm d : Nat) (fr : List ap) (pg : List Pl) (h : Pgs pg) (hF : cB fr) (on : Bool) (root : Int) (user : Bool) (va : Nat) (hva : va < 4294967296) (kind : Int) : sQ W0 283 [pQ pv, .agg (tE on root user).toArray, .int .u32 va, iQ kind] (dZ pv ps pm d fr pg R) (.tuple #[.agg (wX fr pg on root user va kind).toArray, iQ (ik fr pg on root user va kind)]) (dZ pv ps pm d fr pg R) := by
 obtain ⟨s, hs⟩ : ∃ s, bO fr pg root va = s := ⟨_, rfl⟩
 obtain ⟨k, hk, hk32⟩ := zw fr pg root va
 rw [hs] at hk
 simp only [wX, eZ, ik, hs]
 refine ac func283 ntmps283 ?_
 refine aV fun b1 => ?_
 refine bB fun b2 => ?_
 refine ah (fun c1 => ?_) fun c1 => ?_
 refine ag (dT Eg (yT pv ps pm d fr pg h va hva 1 kind)) ?_
 rw [H4]
 refine aB aD ?_
 refine bH (.cons (bM j9 g7 rfl rfl) (.cons (bP rfl) .nil)) ?_
 refine aQ ?_
 have ho : on = false := by grind
 subst ho; rfl
 refine ag (dT LY (CI pv ps pm d fr pg h hF root va hva)) ?_
 rw [hs]
 have ho : on = true := by grind
 subst ho
 refine bB fun b3 => ?_
 refine aB aD ?_
 refine ah (fun c4 => ?_) fun c4 => ?_
 refine bu [b3] 5 fun hS => ?_
 refine ae 0 3 hS ?_
 refine bG 3 aD fun hS => ?_
 refine ae 4 1 hS ?_
 refine aK ?_
 refine bH (.cons (bM j9 g7 rfl rfl) (.cons (bP rfl) .nil)) ?_
 refine aQ ?_
 rw [Qae rfl, Qae rfl, Qae rfl, Qae rfl, Qae c4, Qae c4, Qae c4, Qae c4]; rfl
 refine a7 (s9 tW tZ rfl TakeL.eq rfl) ?_
 refine ag (ar call346 (H9 s.on s.r s.p kind user)) ?_
 refine ah (fun c6 => ?_) fun c6 => ?_
 refine aB aD ?_
 refine bH (.cons (bM j9 g7 rfl rfl) (.cons (bP rfl) .nil)) ?_
 refine aQ ?_
 have ha : ¬ oI s kind user = true := fun q => c6 (Iy.1 q)
 rw [Qae rfl, Qae rfl, Qae rfl, Qae rfl, Qab c4, Qab c4, Qab c4, Qab c4, Qab ha, Qab ha, Qab ha, Qab ha]; rfl
 have hpa : kK s va = 64 * k + va % 64 := by rw [kK, hk]; rfl
 rw [show rq s = [.bool s.on, iQ s.r, iQ (k : Int), iQ s.fault, iQ s.root, iQ s.leaf] by rw [← hk]]
 refine a7 (pw (64 * k)) ?_
 refine a7 (cR (dO (by omega))) ?_
 refine a7 (fD rfl rfl (Iz hva)) ?_
 refine a7 (dx rfl rfl (by rw [dO (by omega), hpa]; omega : IntKind.wrap .u32 (((64 * k : Nat) : Int) + ((va % 64 : Nat) : Int)) = ((kK s va : Nat) : Int))) ?_
 refine ag (dT Eg (yT pv ps pm d fr pg h (kK s va) (by omega) 1 kind)) ?_
 rw [H4]
 refine aB aD ?_
 refine bH (.cons (bM j9 g7 rfl rfl) (.cons (bP rfl) .nil)) ?_
 refine aQ ?_
 have ha : oI s kind user = true := Iy.2 (Qcd.1 c6)
 rw [Qae rfl, Qae rfl, Qae rfl, Qae rfl, Qab c4, Qab c4, Qab c4, Qab c4, Qae ha, Qae ha, Qae ha, Qae ha]; rfl
def ZT (pg : List Pl) (n : Int) : List Pl := if aX pg n then pg.set n.toNat (0, 0) else pg
theorem zy {fr : List ap} {pg : List Pl} {va : Nat} {a : Int} : jy fr pg va a = true ↔ eU fr.length pg a (va / 1024) = true ∧ t7 (eM fr pg a (va / 1024)) = 0 := by simp [jy]
structure WkOkM (fr : List ap) (pg : List Pl) (root : Int) (va : Nat) : Prop where
  lim : va < 16384
  rb : jy fr pg va root = true
  lt : eU fr.length pg (fq fr pg va root) (va / 64) = true
  eq : bO fr pg root va = ⟨pO (eM fr pg (fq fr pg va root) (va / 64)), pP (eM fr pg (fq fr pg va root) (va / 64)), pR (eM fr pg (fq fr pg va root) (va / 64)), 0, root, fq fr pg va root⟩
  lf : pS (eM fr pg (fq fr pg va root) (va / 64)) = 0
theorem zA {fr : List ap} {pg : List Pl} {root : Int} {va : Nat} (h : (bO fr pg root va).fault = 0) : WkOkM fr pg root va := by
 unfold bO at h
 by_cases h1 : va < 16384
 rw [Qae h1] at h
 by_cases h2 : jy fr pg va root = true
 rw [Qae h2] at h
 have hb := zy.1 h2
 simp only [eY, qd] at h
 by_cases h3 : eU fr.length pg (fq fr pg va root) (va / 64) = true
 rw [Qae h3] at h
 refine ⟨h1, h2, h3, ?_, h⟩
 rw [bO, Qae h1, Qae h2]
 simp only [eY, qd]
 rw [Qae h3, lk, Qae hb.1]
 simp only [q9]
 rw [show pS (eM fr pg (fq fr pg va root) (va / 64)) = 0 from h]
 grind
 rw [Qab h2] at h
 simp only [eY, lk] at h
 by_cases h3 : eU fr.length pg root (va / 1024) = true
 rw [Qae h3] at h
 exact absurd (zy.2 ⟨h3, h⟩) h2
 grind
 grind [eY]
def zB (fr : List ap) (pg : List Pl) (fr' : List ap) (pg' : List Pl) (t : Int) : Prop := ∀ i, eU fr'.length pg' t i = eU fr.length pg t i ∧ eM fr' pg' t i = eM fr pg t i
theorem ZU {fr fr' : List ap} {pg pg' : List Pl} {root : Int} {va : Nat} (h : WkOkM fr pg root va) (h1 : zB fr pg fr' pg' root) (h2 : zB fr pg fr' pg' (fq fr pg va root)) : bO fr' pg' root va = bO fr pg root va := by
 have ea : fq fr' pg' va root = fq fr pg va root := by unfold fq; rw [(h1 _).1, (h1 _).2]
 have eb : jy fr' pg' va root = jy fr pg va root := by unfold jy; rw [(h1 _).1, (h1 _).2]
 have es : ∀ s, lk fr' pg' va root s = lk fr pg va root s := fun s => by unfold lk; rw [(h1 _).1, (h1 _).2]
 rw [bO, bO, Qae h.lim, Qae h.lim, eb, h.rb, Qae rfl, Qae rfl]
 simp only [eY]
 rw [ea, es]
 unfold qd
 rw [(h2 _).1, (h2 _).2]
theorem IA {t i j : Nat} (h : j < 4) : (64 * t + 4 * (i % 16) + j) / 64 = t := by omega
theorem CJ {fr : List ap} {pg : List Pl} {t : Int} {i : Nat} (h : eU fr.length pg t i = true) : aX pg t = true := by
 obtain ⟨h1, h2⟩ := t8.1 h
 obtain ⟨k, rfl⟩ : ∃ k : Nat, t = (k : Int) := ⟨t.toNat, by omega⟩
 have := (yU.1 h2).2 0 (by decide)
 rw [show nK (fV (k : Int) i + 0) = (k : Int) by rw [show fV (k : Int) i = 64 * k + 4 * (i % 16) from rfl, nK, IA (by decide)]] at this
 exact (WN.1 this).1
theorem IB {fr fr' : List ap} {pg pg' : List Pl} {t : Int} (hl : fr'.length = fr.length) (ht : aX pg' t = aX pg t) (hg : bS pg' t = bS pg t) (hd : aX pg t = true → ∀ o : Nat, o < 64 → l6 fr' (bS pg t).1 o 1 = l6 fr (bS pg t).1 o 1) : zB fr pg fr' pg' t := by
 intro i
 by_cases h0 : 0 ≤ t ∧ t < 8
 · obtain ⟨k, rfl⟩ : ∃ k : Nat, t = (k : Int) := ⟨t.toNat, by omega⟩
   have hpa : fV (k : Int) i = 64 * k + 4 * (i % 16) := rfl
   have hpg : ∀ j, j < 4 → nK (fV (k : Int) i + j) = (k : Int) := fun j hj => by
    rw [hpa, nK, IA hj]
   have hown : l9 fr'.length pg' (fV (k : Int) i) 4 = l9 fr.length pg (fV (k : Int) i) 4 := by
    have e : ∀ j, j < 4 → mX fr'.length pg' (nK (fV (k : Int) i + j)) = mX fr.length pg (nK (fV (k : Int) i + j)) := fun j hj => by
     rw [hpg j hj, mX, mX, ht, hg, hl]
    unfold l9
    congr 1
    apply QaP.2
    unfold nL
    constructor
    grind
    grind
   have hb : eU fr'.length pg' (k : Int) i = eU fr.length pg (k : Int) i := by grind [eU]
   refine ⟨hb, ?_⟩
   unfold eM
   rw [hb]
   by_cases hbt : eU fr.length pg (k : Int) i = true
   case neg => rw [Qab hbt, Qab hbt]
   have hr : lc fr' pg' (fV (k : Int) i) 4 = lc fr pg (fV (k : Int) i) 4 := by
    unfold lc
    apply QcA
    intro j hj
    have hj := QbC.1 hj
    unfold pM pL
    rw [hpg j hj, hg]
    exact hd (CJ hbt) _ (QbW _ (by decide))
   rw [hr]
 have h1 : ∀ n p, eU n p t i = false := fun n p => by unfold eU; rw [Qav h0, Bool.false_and]
 refine ⟨by rw [h1, h1], ?_⟩
 unfold eM; rw [h1, h1, Qab (by decide), Qab (by decide)]
theorem ZV {fr : List ap} {f f' off w o k : Int} {x : Nat} (h : f' ≠ f) : l6 (ie fr f off w x) f' o k = l6 fr f' o k := by
 unfold ie
 split
 rename_i hs
 simp only [nG, Qap] at hs
 obtain ⟨i, rfl, hi⟩ := qU hs.1
 unfold l6
 rw [Qao]
 split
 grind [qU]
 rfl
 rfl
structure LOk (fr : List ap) (pg : List Pl) (d : Nat) (x : Ln) : Prop where
  own : (0 ≤ x.rt ∧ x.rt < 8) ∧ (0 ≤ x.lf ∧ x.lf < 8)
  at_ : aX pg x.e.1 = true ∧ (bS pg x.e.1).1 = x.e.2.1
  al : ∀ k, nM k = true → en x.e.2.2 (ju k) = true → ig pg x.e.1 k = 0
  r : 0 ≤ x.e.2.2 ∧ x.e.2.2 < 16
  wk : Nat.testBit d x.rt.toNat = false → Nat.testBit d x.lf.toNat = false → ∀ va, va < 16384 → ((va / 64 : Nat) : Int) = x.k.2 → WkOkM fr pg x.k.1 va ∧ x.k.1 = x.rt ∧ fq fr pg va x.k.1 = x.lf ∧ (bO fr pg x.k.1 va).on = true ∧ (bO fr pg x.k.1 va).p = x.e.1 ∧ ∀ c, c = 1 ∨ c = 2 ∨ c = 4 ∨ c = 8 → en x.e.2.2 c = true → en (bO fr pg x.k.1 va).r c = true
theorem ZW {pg pg' : List Pl} {n : Int} (ht : aX pg n = true) (ht' : aX pg' n = true) (hg : bS pg' n = bS pg n) (k : Int) : ig pg' n k = ig pg n k := by
 grind [bS, ig]
theorem LOk.move {fr fr' : List ap} {pg pg' : List Pl} {d d' : Nat} {x : Ln} (h : LOk fr pg d x) (ht : aX pg' x.e.1 = true) (hg : bS pg' x.e.1 = bS pg x.e.1)
    (hs : ∀ t, t = x.rt ∨ t = x.lf → Nat.testBit d' t.toNat = false → Nat.testBit d t.toNat = false ∧ (aX pg t = true → zB fr pg fr' pg' t)) : LOk fr' pg' d' x := by
 refine ⟨h.own, ⟨ht, by rw [hg]; exact h.at_.2⟩, fun k hk hb => ?_, h.r, fun h1 h2 va hva hk => ?_⟩
 rw [ZW h.at_.1 ht hg]; exact h.al k hk hb
 obtain ⟨a1, b1⟩ := hs x.rt (.inl rfl) h1
 obtain ⟨a2, b2⟩ := hs x.lf (.inr rfl) h2
 obtain ⟨q1, q2, q3, q4, q5, q6⟩ := h.wk a1 a2 va hva hk
 have e := ZU q1 (by rw [q2]; exact b1 (by rw [← q2]; exact CJ (zy.1 q1.rb).1)) (by rw [q3]; exact b2 (by rw [← q3]; exact CJ q1.lt))
 have ef : (bO fr' pg' x.k.1 va).fault = 0 := by rw [e, q1.eq]
 refine ⟨zA ef, q2, ?_, by rw [e]; exact q4, by rw [e]; exact q5, fun c hc hb => by rw [e]; exact q6 c hc hb⟩
 have e2 := (zA ef).eq
 rw [e, q1.eq] at e2
 have := Qak WS.leaf e2
 rw [← q3]; exact this.symm
theorem LOk.clean {fr : List ap} {pg : List Pl} {d : Nat} {x : Ln} (h : LOk fr pg d x) (hc : ∀ n ∈ ii d 12, x.thr ((n : Nat) : Int) = false) : LOk fr pg 0 x := by
 refine ⟨h.own, h.at_, h.al, h.r, fun _ _ => h.wk ?_ ?_⟩
 rw [← QaB]; intro q
 have := hc x.rt.toNat (by rw [ii, QaI, QbC]; exact ⟨by have := h.own; omega, q⟩)
 rw [← QaB, tu] at this
 exact this (.inl (by have := h.own; omega))
 rw [← QaB]; intro q
 have := hc x.lf.toNat (by rw [ii, QaI, QbC]; exact ⟨by have := h.own; omega, q⟩)
 rw [← QaB, tu] at this
 exact this (.inr (by have := h.own; omega))
theorem LOk.nar {fr : List ap} {pg : List Pl} {d : Nat} {x : Ln} (h : LOk fr pg d x) : LOk fr pg d x.nar := by
 have hb : ∀ c, c = 1 ∨ c = 2 ∨ c = 4 ∨ c = 8 → en x.nar.e.2.2 c = true → en x.e.2.2 c = true := fun c hc hq => by
  obtain ⟨n, hn⟩ : ∃ n : Nat, x.e.2.2 = (n : Int) := ⟨x.e.2.2.toNat, by have := h.r; omega⟩
  have hlt : n < 16 := by have := h.r; omega
  have e1 : x.nar.e.2.2 = fA x.e.2.2 := rfl
  rw [e1, hn] at hq
  rw [hn]
  have key : ∀ n : Nat, n < 16 → ∀ c : Int, c = 1 ∨ c = 2 ∨ c = 4 ∨ c = 8 → en (fA (n : Int)) c = true → en (n : Int) c = true := by
   intro n hn c hc
   have : n = 0 ∨ n = 1 ∨ n = 2 ∨ n = 3 ∨ n = 4 ∨ n = 5 ∨ n = 6 ∨ n = 7 ∨ n = 8 ∨ n = 9 ∨ n = 10 ∨ n = 11 ∨ n = 12 ∨ n = 13 ∨ n = 14 ∨ n = 15 := by omega
   rcases this with rfl | rfl | rfl | rfl | rfl | rfl | rfl | rfl | rfl | rfl | rfl | rfl | rfl | rfl | rfl | rfl <;> rcases hc with rfl | rfl | rfl | rfl <;> decide
  exact key n hlt c hc hq
 refine ⟨h.own, h.at_, fun k hk hq => h.al k hk (hb _ ?_ hq), ?_, fun h1 h2 va hva hk => ?_⟩
 unfold ju
 have := Qat hk
 rcases this with rfl | rfl | rfl
 omega
 omega
 omega
 show 0 ≤ fA x.e.2.2 ∧ fA x.e.2.2 < 16
 have := h.r
 unfold fA; split
 rename_i hw
 have := Qat hw
 omega
 exact h.r
 obtain ⟨q1, q2, q3, q4, q5, q6⟩ := h.wk h1 h2 va hva hk
 exact ⟨q1, q2, q3, q4, q5, fun c hc hq => q6 c hc (hb c hc hq)⟩
structure PlOk (n : Nat) (pg : List Pl) : Prop where
  rng : ∀ t, aX pg t = true → (bS pg t).1 < (n : Int)
  inj : ∀ s t, aX pg s = true → aX pg t = true → (bS pg s).1 = (bS pg t).1 → s = t
structure MOk (fr : List ap) (pg : List Pl) (d : Nat) (L : List Ln) (TL : List It) : Prop where
  F : cB fr
  dl : d < 4096
  P : Pgs pg
  pl : PlOk fr.length pg
  ti : TI L TL
  ln : ∀ x ∈ L, LOk fr pg d x
theorem MOk.save {fr : List ap} {pg : List Pl} {d d' : Nat} {L : List Ln} {TL : List It} (h : MOk fr pg d L TL) {p : Int} (hp : aX pg p = true) (off w : Int) (x : Nat) (hd' : d' < 4096)
    (hk : ∀ t : Nat, Nat.testBit d' t = false → Nat.testBit d t = false) (hno : ∀ y ∈ L, ∀ t, t = y.rt ∨ t = y.lf → Nat.testBit d' t.toNat = false → t ≠ p) : MOk (ie fr (bS pg p).1 off w x) pg d' L TL := by
 refine ⟨BQ h.F, hd', h.P, by rw [yD]; exact h.pl, h.ti, fun y hy => ?_⟩
 have hl := h.ln y hy
 by_cases hc : Nat.testBit d' y.rt.toNat = false ∧ Nat.testBit d' y.lf.toNat = false
 refine hl.move hl.at_.1 rfl fun t ht hb => ⟨hk _ hb, fun _ => ?_⟩
 refine IB yD rfl rfl fun q o ho => ?_
 apply ZV
 intro e
 exact hno y hy t ht hb (h.pl.inj _ _ q hp e)
 refine ⟨hl.own, hl.at_, hl.al, hl.r, fun h1 h2 => absurd ⟨h1, h2⟩ hc⟩
abbrev cK (pv bt bs : Nat) : Obj := a8 [.pointer (some ⟨pv, 0, none⟩), .pointer (some ⟨bt, 0, none⟩), .pointer (some ⟨bs, 0, none⟩)] 369
theorem zC (bm pv bt bs : Nat) : sQ W0 207 [pQ bm] (pt bm (cK pv bt bs) :: R) (.bool false) (pt bm (cK pv bt bs) :: R) := by
 refine ac func207 ntmps207 ?_
 refine cP rfl rfl rfl (fun g1_3 => ?_) fun g1_3 => ?_
 cases g1_3
 refine aw ?_
 exact aa ai
def nO (ks : List cC) (T : List It) : List It := ks.foldl (fun T k => iX k T) T
theorem ZX {ks : List cC} : ∀ {T : List It} {y : It}, y ∈ nO ks T → y ∈ T ∧ y.key ∉ ks := by
 induction ks with
 | nil => intro T y h; exact ⟨h, by simp⟩
 | cons k ks ih =>
  intro T y h
  obtain ⟨h1, h2⟩ := ih (T := iX k T) h
  obtain ⟨h3, h4⟩ := rk.1 h1
  refine ⟨h3, fun q => ?_⟩
  rcases QaN.1 q with q | q
  exact h4 q
  exact h2 q
theorem IC {ks : List cC} : ∀ {T : List It}, (nO ks T).length ≤ T.length := by
 induction ks with
 | nil => intro T; exact Qaj _
 | cons k ks ih => intro T; exact Qbl (ih (T := iX k T)) (zl k T)
theorem ZY (ks : List cC) (k : cC) (T : List It) : nO (ks ++ [k]) T = iX k (nO ks T) := by simp [nO, List.foldl_append]
theorem ZZ (bm pv bt bs : Nat) (its : List It) (tr tw : Value) (now : Nat) (T : List It) (hR : Rep its now T) (hT : T.length ≤ 100) (a : Option Addr) (c : Nat) (ks : List cC) (hk : ks.length ≤ 1000) : sP W0 347 [pQ bm, .slice a ks.length c] (pt bm (cK pv bt bs) :: aJ bt (its, [tr, tw, .bool true]) :: osl 504 2 (.slice a ks.length c) (ks.flatMap fp) :: R) (fun v B => v = .tuple #[] ∧ ∃ its', B = pt bm (cK pv bt bs) :: aJ bt (its', [tr, tw, .bool true]) :: osl 504 2 (.slice a ks.length c) (ks.flatMap fp) :: R ∧ Rep its' now (nO ks T)) := by
 refine ac func347 ntmps347 ?_
 refine dr (fun X : Nat × List It => X.1 ≤ ks.length ∧ Rep X.2 now (nO (ks.take X.1) T)) (fun X => [(0, pQ bm), (6, .slice a ks.length c), (7, iQ (ks.length : Nat)), (8, iQ X.1)]) (fun X => pt bm (cK pv bt bs) :: aJ bt (X.2, [tr, tw, .bool true]) :: osl 504 2 (.slice a ks.length c) (ks.flatMap fp) :: R) (fun X => ks.length - X.1) (0, its) ?_ ?_
 exact ⟨QaE _, hR⟩
 intro ⟨i, its1⟩ ⟨hi, hI⟩
 dsimp only at hi hI ⊢
 refine aw ?_
 refine ah (fun c1 => ?_) fun c1 => ?_
 have hi1 : i < ks.length := by omega
 refine jH (E := 504) (sz := 2) (a := a) (c := c) (n := ks.length) fp ks (fun _ => rfl) (by decide) rfl (fun hs => ?_)
 obtain ⟨g, o, hga, hc⟩ := hs.at_ hi1
 obtain ⟨k, hk1⟩ : ∃ k, ks[i] = k := ⟨_, rfl⟩
 have htk : ks.take (i + 1) = ks.take i ++ [k] := by rw [Qam hi1, hk1]
 have hdl := IC (ks := ks.take i) (T := T)
 rw [hk1] at hc
 refine aw ?_
 refine a7 (fT DZ oW rfl hga rfl rfl hi1 (by first | exact Qac _ | rfl)) ?_
 refine a7 (bZ hc.weak) ?_
 refine bB fun bk => ?_
 refine aB aD ?_
 refine bu [bm, bk] 6 fun hS => ?_
 refine ae 0 5 hS ?_
 refine cg 5 (aj LZ (Cu bt its1 tr now (nO (ks.take i) T) k hI (by omega) tw)) ?_; clear hS
 rintro _ B_ ⟨rfl, its2, hB_, hR2⟩
 subst hB_
 refine ⟨aF, fun hS => ?_⟩
 refine aK ?_
 refine a7 cQ ?_
 refine cv (i + 1, its2) ?_
 grind [ZY]
 refine bA (.inr rfl) .nil ?_
 obtain rfl : i = ks.length := by omega
 rw [QbM] at hI
 exact ⟨_, ⟨rfl, its1, rfl, hI⟩, IO⟩
@[reducible] def asV (bm : Nat) (on : Bool) (root : Int) (user : Bool) (va : Nat) (kind : Int) : List Value := [.pointer (some ⟨bm, 0, none⟩), .bool on, .int .i64 root, .bool user, .int .u32 va, .int .i64 kind]
abbrev fX (bm : Nat) (on : Bool) (root : Int) (user : Bool) (va : Nat) (kind : Int) : Obj := a8 (asV bm on root user va kind) 442
def du (root : Int) (va : Nat) : cC := (root, ((va / 64 : Nat) : Int))
theorem qf (ba bm : Nat) (on : Bool) (root : Int) (user : Bool) (va : Nat) (hva : va < 4294967296) (kind : Int) : sQ W0 350 [pQ ba] (pt ba (fX bm on root user va kind) :: R) (.agg (fp (du root va)).toArray) (pt ba (fX bm on root user va kind) :: R) := by
 refine ac func350 ntmps350 ?_
 refine bB fun b2 => ?_
 refine bu [ba] 13 fun hS => ?_
 refine ae 0 9 hS ?_
 refine ax 9 hS (qD rfl rfl (by decide) ((Qak (IntKind.wrap .u32) (vQ va 64)).trans (dO (by omega)))) ?_
 refine ax 10 hS (cR (bU (by omega))) ?_
 refine ae 11 1 hS ?_
 refine bG 12 aD fun hS => ?_
 refine aK ?_
 exact bH (.cons (bM Ae oW rfl rfl) .nil) ai
def n0 (e : iW) (kind : Int) (user : Bool) : Bool := nM kind && (en e.2.2 (ju kind) && (!user || en e.2.2 8)) && true
theorem ID (ba bm : Nat) (on : Bool) (root : Int) (user : Bool) (va : Nat) (kind : Int) (e : iW) : sQ W0 351 [pQ ba, .agg (lj e).toArray] (pt ba (fX bm on root user va kind) :: R) (.bool (n0 e kind user)) (pt ba (fX bm on root user va kind) :: R) := by
 refine ac func351 ntmps351 ?_
 refine aV fun b3 => ?_
 refine bu [b3, ba] 16 fun hS => ?_
 refine ae 0 14 hS ?_
 refine bF 14 (ar call346 (H9 true e.2.2 e.1 kind user)) fun hS => ?_
 refine ae 15 1 hS ?_
 refine aK ?_
 exact aa ai
@[reducible] def IE (p f : Int) (o : Nat) (fast : Bool) : List Value := [.int .i64 p, .int .i64 f, .int .i64 (o : Nat), .bool fast]
theorem IF (ba bm : Nat) (on : Bool) (root : Int) (user : Bool) (va : Nat) (hva : va < 4294967296) (kind : Int) (e : iW) (fast : Bool) : sQ W0 352 [pQ ba, .agg (lj e).toArray, .bool fast] (pt ba (fX bm on root user va kind) :: R) (.agg (IE e.1 e.2.1 (va % 64) fast).toArray) (pt ba (fX bm on root user va kind) :: R) := by
 refine ac func352 ntmps352 ?_
 refine aV fun b4 => ?_
 refine bB fun b6 => ?_
 refine bu [b4, ba] 13 fun hS => ?_
 refine ae 0 8 hS ?_
 refine ax 8 hS (fD rfl rfl (Iz hva)) ?_
 refine ax 9 hS (cR (bU (by omega))) ?_
 refine ae 10 2 hS ?_
 refine bG 12 aD fun hS => ?_
 refine aK ?_
 exact bH (.cons (bM j9 g7 rfl rfl) .nil) ai
theorem a0b (l : List Ln) : l.flatMap uU = (l.map Ln.k).flatMap fp := by rw [List.flatMap_map]
theorem MOk.drop {fr : List ap} {pg : List Pl} {d : Nat} {L : List Ln} {T : List It} (h : MOk fr pg d L T) (p : Ln → Bool) : MOk fr pg d (L.filter fun x => !p x) (nO ((L.filter p).map Ln.k) T) :=
  ⟨h.F, h.dl, h.P, h.pl, h.ti.drop p fun y hy => by
 obtain ⟨h1, h2⟩ := ZX hy
 exact ⟨h1, fun x hx hf e => h2 (QaS.2 ⟨x, QaI.2 ⟨hx, hf⟩, e.symm⟩)⟩, fun x hx => h.ln x (QaI.1 hx).1⟩
theorem MOk.clean {fr : List ap} {pg : List Pl} {d : Nat} {L : List Ln} {T : List It} (h : MOk fr pg d L T) (hc : ∀ x ∈ L, ∀ n ∈ ii d 12, x.thr ((n : Nat) : Int) = false) : MOk fr pg 0 L T :=
  ⟨h.F, by decide, h.P, h.pl, h.ti, fun x hx => (h.ln x hx).clean (hc x hx)⟩
theorem a0c (l : List Nat) : uJ l = l.flatMap fun n => [wz n] := by
 induction l with
 | nil => rfl
 | cons n l ih => rw [Qbb, ← ih]; rfl
theorem a0d (bm pv bt bs ps pm d : Nat) (its : List It) (tr tw : Value) (now room : Nat) (T : List It) (L : List Ln) (hR : Rep its now T) (hT : T.length ≤ room) (hr : room ≤ 4) (hd : d < 4096) (I : List Ln → List It → Prop) (hIl : ∀ L T, I L T → L.length ≤ 1000) (hId : ∀ L T p, I L T → I (L.filter fun x => !p x) (nO ((L.filter p).map Ln.k) T)) (h : I L T) : sP W0 284 [pQ bm] (pt bm (cK pv bt bs) :: aJ bt (its, [tr, tw, .bool true]) :: bJ bs L :: pt pv (cu ps pm d) :: R) (fun v B => v = .tuple #[] ∧ ∃ its' T' L', B = pt bm (cK pv bt bs) :: aJ bt (its', [tr, tw, .bool true]) :: bJ bs L' :: pt pv (cu ps pm 0) :: R ∧ Rep its' now T' ∧ T'.length ≤ room ∧ I L' T' ∧ (∀ x ∈ L', ∀ n ∈ ii d 12, x.thr ((n : Nat) : Int) = false) ∧ (∀ x ∈ L', x ∈ L) ∧ (ii d 12 = [] → L' = L)) := by
 obtain ⟨ds, hds⟩ : ∃ l, ii d 12 = l := ⟨_, rfl⟩
 have hdl : ds.length ≤ 12 := by grind [H3]
 refine ac func284 ntmps284 ?_
 refine ao rfl (aj call253 (WM pv ps pm d hd)) ?_
 rintro _ B_ ⟨ad, cd, rfl, hB_⟩
 subst hB_
 rw [hds]
 refine aw ?_
 refine dr (fun X : Nat × List It × List It × List Ln => X.1 ≤ ds.length ∧ Rep X.2.1 now X.2.2.1 ∧ X.2.2.1.length ≤ room ∧ I X.2.2.2 X.2.2.1 ∧ (∀ x ∈ X.2.2.2, ∀ n ∈ ds.take X.1, x.thr ((n : Nat) : Int) = false) ∧ (∀ x ∈ X.2.2.2, x ∈ L) ∧ (X.1 = 0 → X.2.2.2 = L)) (fun X => [(0, pQ bm), (8, .slice ad ds.length cd), (9, iQ (ds.length : Nat)), (10, iQ X.1)]) (fun X => pt bm (cK pv bt bs) :: aJ bt (X.2.1, [tr, tw, .bool true]) :: bJ bs X.2.2.2 :: pt pv (cu ps pm 0) :: osl 3 1 (.slice ad ds.length cd) (uJ ds) :: R) (fun X => ds.length - X.1) (0, its, T, L) ?_ ?_
 grind
 intro ⟨i, its1, T1, L1⟩ ⟨hi, hR1, hT1, h1, hc1, hs1, hz1⟩
 dsimp only at hi hR1 hT1 h1 hc1 hs1 hz1 ⊢
 refine aw ?_
 refine ah (fun c1 => ?_) fun c1 => ?_
 have hi1 : i < ds.length := by omega
 refine jH (E := 3) (sz := 1) (a := ad) (c := cd) (n := ds.length) (fun n => [wz n]) ds (fun _ => rfl) (by decide) (a0c ds) (fun hs => ?_)
 obtain ⟨g, o, hga, hc⟩ := hs.at_ hi1
 obtain ⟨q, hq⟩ : ∃ q, ds[i] = q := ⟨_, rfl⟩
 have htk : ds.take (i + 1) = ds.take i ++ [q] := by rw [Qam hi1, hq]
 have hll := hIl L1 T1 h1
 obtain ⟨ks, hks⟩ : ∃ ks, (L1.filter fun x => x.thr (q : Int)).map Ln.k = ks := ⟨_, rfl⟩
 have hkl : (L1.filter fun x => x.thr (q : Int)).length = ks.length := by grind
 have hkn : ks.length ≤ 1000 := by grind
 have hdr := hId L1 T1 (fun x => x.thr (q : Int)) h1
 rw [hks] at hdr
 rw [hq] at hc
 refine aw ?_
 refine a7 (fT fC aO rfl hga rfl rfl hi1 (by first | exact Qac _ | rfl)) ?_
 refine a7 (aH (aR.weak hc 0 _ rfl)) ?_
 refine ao rfl (aj call348 (Zj bs L1 (by omega) (q : Int))) ?_
 rintro _ B_ ⟨aw, cw, rfl, hB_⟩
 subst hB_
 rw [a0b, hks, hkl]
 refine ao rfl (dT call347 (ZZ bm pv bt bs its1 tr tw now T1 hR1 (by omega) aw cw ks hkn)) ?_
 rintro _ B_ ⟨rfl, its2, hB_, hR2⟩
 subst hB_
 refine au 4 ?_
 refine a7 cQ ?_
 refine cv (i + 1, its2, nO ks T1, L1.filter fun x => !x.thr (q : Int)) ?_
 grind [Qbl, IC]
 refine bA (.inr rfl) .nil ?_
 obtain rfl : i = ds.length := by omega
 rw [QbM] at hc1
 exact ⟨_, ⟨rfl, its1, T1, L1, rfl, hR1, hT1, h1, hc1, hs1, fun q => hz1 (by rw [q]; rfl)⟩, IO⟩
theorem IG (bm pv bt bs ps pm d : Nat) (its : List It) (tr tw : Value) (now room : Nat) (T : List It) (L : List Ln) (fr : List ap) (pg : List Pl) (hR : Rep its now T) (hT : T.length ≤ room) (hr : room ≤ 4) (h : MOk fr pg d L T) : sP W0 284 [pQ bm] (pt bm (cK pv bt bs) :: aJ bt (its, [tr, tw, .bool true]) :: bJ bs L :: pt pv (cu ps pm d) :: R) (fun v B => v = .tuple #[] ∧ ∃ its' T' L', B = pt bm (cK pv bt bs) :: aJ bt (its', [tr, tw, .bool true]) :: bJ bs L' :: pt pv (cu ps pm 0) :: R ∧ Rep its' now T' ∧ T'.length ≤ room ∧ MOk fr pg 0 L' T' ∧ (∀ x ∈ L', x ∈ L) ∧ (ii d 12 = [] → L' = L)) :=
  iy (a0d bm pv bt bs ps pm d its tr tw now room T L hR hT hr h.dl (MOk fr pg d) (fun L T h => Qbl h.ti.len (by decide)) (fun L T p h => h.drop p) h) fun v B hB => by
 obtain ⟨rfl, its1, T1, L1, rfl, h1, h2, h3, h4, h5⟩ := hB
 exact ⟨_, ⟨rfl, its1, T1, L1, rfl, h1, h2, h3.clean h4, h5⟩, ent_refl⟩
def rz : Option Ln → iW
 | none => (0, 0, 0)
 | some x => x.e
theorem rA (k : cC) (L : List Ln) : wU k L = .tuple #[.agg (lj (rz (jv k L))).toArray, .bool (jv k L).isSome] := by
 unfold wU
 cases jv k L <;> rfl
theorem TI.sub' {L : List Ln} {T T' : List It} (h : TI L T) (hs : ∀ y ∈ T', y ∈ T) : TI L T' := ⟨h.keys, h.len, h.nowr, fun y hy => h.sub y (hs y hy)⟩
theorem a0e (bm pv bt bs : Nat) (its : List It) (tr tw : Value) (now room : Nat) (T : List It) (L : List Ln) (hR : Rep its now T) (hT : T.length ≤ room) (hr : room ≤ 4) (hl : L.length ≤ 32) : sP W0 414 [pQ bm] (pt bm (cK pv bt bs) :: aJ bt (its, [tr, tw, .bool true]) :: bJ bs L :: R) (fun v B => v = .tuple #[] ∧ ∃ its' T', B = pt bm (cK pv bt bs) :: aJ bt (its', [tr, tw, .bool true]) :: bJ bs L :: R ∧ Rep its' now T' ∧ T'.length ≤ room ∧ ∀ y ∈ T', y ∈ T ∧ (jv y.key L).isSome = true) := by
 refine ac func414 ntmps414 ?_
 refine ao rfl (aj call450 (Zi bt its tr tw now T hR (by omega))) ?_
 rintro _ B_ ⟨ad, cd, rfl, hB_⟩
 subst hB_
 refine aw ?_
 refine dr (fun X : Nat × List It × List It => X.1 ≤ T.length ∧ Rep X.2.1 now X.2.2 ∧ X.2.2.length ≤ room ∧ ∀ y ∈ X.2.2, y ∈ T ∧ (y ∈ T.take X.1 → (jv y.key L).isSome = true)) (fun X => [(0, pQ bm), (10, .slice ad T.length cd), (11, iQ (T.length : Nat)), (12, iQ X.1)]) (fun X => pt bm (cK pv bt bs) :: aJ bt (X.2.1, [tr, tw, .bool true]) :: bJ bs L :: osl 546 5 (.slice ad T.length cd) (T.flatMap tD) :: R) (fun X => T.length - X.1) (0, its, T) ?_ ?_
 grind
 intro ⟨i, its1, T1⟩ ⟨hi, hR1, hT1, hI⟩
 dsimp only at hi hR1 hT1 hI ⊢
 refine aw ?_
 refine aA rfl (fun c1 => ?_) fun c1 => ?_
 refine au 2 ?_
 refine ec (fun X : List It × List It => Rep X.1 now X.2 ∧ X.2.length ≤ room ∧ ∀ y ∈ X.2, y ∈ T ∧ (y ∈ T.take (i + 1) → (jv y.key L).isSome = true)) (fun X => [(0, pQ bm), (10, .slice ad T.length cd), (11, iQ (T.length : Nat)), (12, iQ i)]) (fun X => pt bm (cK pv bt bs) :: aJ bt (X.1, [tr, tw, .bool true]) :: bJ bs L :: osl 546 5 (.slice ad T.length cd) (T.flatMap tD) :: R) ?_ ?_
 refine au 2 ?_
 have hi1 : i < T.length := by omega
 refine jH (E := 546) (sz := 5) (a := ad) (c := cd) (n := T.length) tD T Zh (by decide) rfl (fun hs => ?_)
 obtain ⟨g, o, hga, hc⟩ := hs.at_ hi1
 obtain ⟨x, hx⟩ : ∃ x, T[i] = x := ⟨_, rfl⟩
 have htk : T.take (i + 1) = T.take i ++ [x] := by rw [Qam hi1, hx]
 rw [hx] at hc
 obtain ⟨gt, hgt⟩ : ∃ o, jv x.key L = o := ⟨_, rfl⟩
 refine aw ?_
 refine a7 (fT E2 qy rfl hga rfl rfl hi1 (by first | exact Qac _ | rfl)) ?_
 refine a7 (bZ hc.weak) ?_
 refine bB fun bk => ?_
 refine aB aD ?_
 refine bu [bm, bk] 13 fun hS => ?_
 refine ae 0 5 hS ?_
 refine ax 5 hS (bZ (wT (us := fp x.key) (ws := [iQ x.ep, iQ x.ef, iQ x.er]) (gF (k := 1) rfl) rfl)) ?_
 refine eh (is := [6, 10]) (by kernel_rfl) rfl ⟨?_, ?_, trivial⟩
 refine cT (aj ud (rp bs L (by omega) x.key)) ?_; clear hS
 rintro _ B_ ⟨rfl, hB_⟩
 subst hB_
 rw [rA, hgt]
 refine ⟨aF, fun hS => ?_⟩
 refine ae 7 3 hS ?_
 refine cg 10 (da mG) ?_; clear hS
 rintro _ _ ⟨b2, rfl, rfl⟩
 refine ⟨aF, fun hS => ?_⟩
 refine bG 11 aD fun hS => ?_
 refine ae 12 1 hS ?_
 refine aK ?_
 refine ah (fun c4 => ?_) fun c4 => ?_
 refine bu [bm, bk] 7 fun hS => ?_
 refine ae 0 5 hS ?_
 refine ax 5 hS (bZ (wT (us := fp x.key) (ws := [iQ x.ep, iQ x.ef, iQ x.er]) (gF (k := 1) rfl) rfl)) ?_
 refine cg 6 (aj LZ (Cu bt its1 tr now T1 x.key hR1 (by omega) tw)) ?_; clear hS
 rintro _ B_ ⟨rfl, its2, hB_, hR2⟩
 subst hB_
 refine ⟨aF, fun hS => ?_⟩
 refine aK ?_
 refine cq (its2, iX x.key T1) ?_
 refine ⟨hR2, Qbl (zl _ _) hT1, fun y hy => ?_⟩
 obtain ⟨h1, h2⟩ := rk.1 hy
 refine ⟨(hI y h1).1, fun q => ?_⟩
 rw [htk] at q
 rcases Qbg.1 q with z | z
 grind
 grind
 refine cq (its1, T1) ?_
 grind
 skip
 refine cT (da mG) ?_; clear hS
 rintro _ _ ⟨b2, rfl, rfl⟩
 refine ⟨aF, fun hS => ?_⟩
 refine cg 6 (aj ud (rp bs L (by omega) x.key)) ?_; clear hS
 rintro _ B_ ⟨rfl, hB_⟩
 subst hB_
 rw [rA, hgt]
 refine ⟨aF, fun hS => ?_⟩
 refine ae 7 3 hS ?_
 refine bG 11 aD fun hS => ?_
 refine ae 12 1 hS ?_
 refine aK ?_
 refine ah (fun c4 => ?_) fun c4 => ?_
 refine bu [bm, bk] 7 fun hS => ?_
 refine ae 0 5 hS ?_
 refine ax 5 hS (bZ (wT (us := fp x.key) (ws := [iQ x.ep, iQ x.ef, iQ x.er]) (gF (k := 1) rfl) rfl)) ?_
 refine cg 6 (aj LZ (Cu bt its1 tr now T1 x.key hR1 (by omega) tw)) ?_; clear hS
 rintro _ B_ ⟨rfl, its2, hB_, hR2⟩
 subst hB_
 refine ⟨aF, fun hS => ?_⟩
 refine aK ?_
 refine cq (its2, iX x.key T1) ?_
 refine ⟨hR2, Qbl (zl _ _) hT1, fun y hy => ?_⟩
 obtain ⟨h1, h2⟩ := rk.1 hy
 refine ⟨(hI y h1).1, fun q => ?_⟩
 rw [htk] at q
 rcases Qbg.1 q with z | z
 grind
 grind
 refine cq (its1, T1) ?_
 grind
 intro ⟨its2, T2⟩ ⟨hR2, hT2, hI2⟩
 refine aw ?_
 refine a7 cQ ?_
 refine cv (i + 1, its2, T2) ?_
 grind
 refine aw ?_
 refine bA (.inr rfl) .nil ?_
 obtain rfl : i = T.length := by omega
 rw [QbM] at hI
 exact ⟨_, ⟨rfl, its1, T1, rfl, hR1, hT1, fun y hy => ⟨(hI y hy).1, (hI y hy).2 (hI y hy).1⟩⟩, IO⟩
def wY : Option It → iW
 | none => (0, 0, 0)
 | some y => y.ent
theorem CK (k : cC) (T : List It) : wN k T = .tuple #[.agg (lj (wY (lM k T))).toArray, .bool (lM k T).isSome] := by
 unfold wN
 cases lM k T <;> rfl
def oP : Option Ln → Int
 | none => 0
 | some x => x.e.1
def oF : Option Ln → Int
 | none => 0
 | some x => x.e.2.1
def oO (o : Option Ln) (va : Nat) : Nat := match o with
 | none => 0
 | some _ => va % 64
@[reducible] def CL (o : Option Ln) (va : Nat) : List Value := [.int .i64 (oP o), .int .i64 (oF o), .int .i64 (oO o va : Nat), .bool o.isSome]
def CM (L : List Ln) (k : cC) (kind : Int) (user : Bool) (o : Option Ln) : Prop := ∀ x, o = some x → x ∈ L ∧ x.k = k ∧ n0 x.e kind user = true
theorem a0f (ba bm pv bt bs : Nat) (on : Bool) (root : Int) (user : Bool) (va : Nat) (hva : va < 4294967296) (kind : Int) (its : List It) (room now : Nat) (T : List It) (L : List Ln) (hR : Rep its now T) (hT : T.length ≤ room) (hr : room ≤ 4) (hn : now < 1000000) (hi : TI L T) : sP W0 285 [pQ ba] (pt ba (fX bm on root user va kind) :: pt bm (cK pv bt bs) :: aJ bt (its, dm room now) :: bJ bs L :: R) (fun v B => ∃ o its' T' now', v = .tuple #[.agg (CL o va).toArray, .bool o.isSome] ∧ CM L (du root va) kind user o ∧ Rep its' now' T' ∧ T'.length ≤ room ∧ TI L T' ∧ now' ≤ now + 1 ∧ B = pt ba (fX bm on root user va kind) :: pt bm (cK pv bt bs) :: aJ bt (its', dm room now') :: bJ bs L :: R) := by
 obtain ⟨y, hy⟩ : ∃ y, lM (du root va) T = y := ⟨_, rfl⟩
 have hgl := Yx (now := now) (k := du root va) (L := T)
 have htg := hi.getT now (du root va)
 refine ac func285 ntmps285 ?_
 refine dR (da u7) fun b2 => ?_
 refine au 3 ?_
 refine ec (fun X : Nat × List It × Nat => X.2.2 ≤ now + 1 ∧ Rep X.2.1 X.2.2 (rn now (du root va) T)) (fun X => [(0, pQ ba), (2, pQ b2), (4, .pointer (some ⟨X.1, 0, none⟩)), (5, .bool y.isSome)]) (fun X => pt b2 (a8 [iQ 0, iQ 0, iQ 0, .bool false] 363) :: pt X.1 (a8 (lj (wY y)) 500) :: pt ba (fX bm on root user va kind) :: pt bm (cK pv bt bs) :: aJ bt (X.2.1, dm room X.2.2) :: bJ bs L :: R) ?_ ?_
 refine bu [ba, bm] 16 fun hS => ?_
 refine ae 0 8 hS ?_
 refine eh (is := [8, 13]) (by kernel_rfl) rfl ⟨?_, ?_, trivial⟩
 refine cT (aj rR (qf ba bm on root user va hva kind)) ?_; clear hS
 rintro _ B_ ⟨rfl, hB_⟩
 obtain rfl := hB_.symm
 refine ⟨aF, fun hS => ?_⟩
 refine eh (is := [9, 13]) (by kernel_rfl) rfl ⟨?_, ?_, trivial⟩
 refine cT (aj M0 (Cs bt its room now T (du root va) hR hT hr hn)) ?_; clear hS
 rintro _ B_ ⟨rfl, its2, now2, hn2, hB_, hR2⟩
 subst hB_
 rw [CK, hy]
 refine ⟨aF, fun hS => ?_⟩
 refine ae 10 3 hS ?_
 refine cg 13 (da mG) ?_; clear hS
 rintro _ _ ⟨b4, rfl, rfl⟩
 refine ⟨aF, fun hS => ?_⟩
 refine bG 14 aD fun hS => ?_
 refine ae 15 1 hS ?_
 refine aK ?_
 exact cq (b4, its2, now2) (⟨hn2, hR2⟩)
 skip
 refine cT (da mG) ?_; clear hS
 rintro _ _ ⟨b4, rfl, rfl⟩
 refine ⟨aF, fun hS => ?_⟩
 refine cg 9 (aj M0 (Cs bt its room now T (du root va) hR hT hr hn)) ?_; clear hS
 rintro _ B_ ⟨rfl, its2, now2, hn2, hB_, hR2⟩
 subst hB_
 rw [CK, hy]
 refine ⟨aF, fun hS => ?_⟩
 refine ae 10 3 hS ?_
 refine bG 14 aD fun hS => ?_
 refine ae 15 1 hS ?_
 refine aK ?_
 exact cq (b4, its2, now2) (⟨hn2, hR2⟩)
 skip
 refine cT (da mG) ?_; clear hS
 rintro _ _ ⟨b4, rfl, rfl⟩
 refine ⟨aF, fun hS => ?_⟩
 refine bF 8 (aj rR (qf ba bm on root user va hva kind)) fun hS => ?_
 refine cg 9 (aj M0 (Cs bt its room now T (du root va) hR hT hr hn)) ?_; clear hS
 rintro _ B_ ⟨rfl, its2, now2, hn2, hB_, hR2⟩
 subst hB_
 rw [CK, hy]
 refine ⟨aF, fun hS => ?_⟩
 refine ae 10 3 hS ?_
 refine bG 14 aD fun hS => ?_
 refine ae 15 1 hS ?_
 refine aK ?_
 exact cq (b4, its2, now2) (⟨hn2, hR2⟩)
 intro ⟨b4, its2, now2⟩ ⟨hn2, hR2⟩
 dsimp only at hn2 hR2 ⊢
 refine aw ?_
 refine eR (fun g2_3 => ?_) fun g2_3 => ?_
 refine aB aD ?_
 refine bH (.cons (bM j9 g7 rfl rfl) (.cons (bP rfl) .nil)) ?_
 exact ⟨_, ⟨none, its2, _, now2, rfl, fun x q => (by cases q), hR2, Qbl hgl hT, htg, hn2, rfl⟩, IO⟩
 refine ag (aj call351 (ID ba bm on root user va kind (wY y))) ?_
 refine ah (fun c2 => ?_) fun c2 => ?_
 refine aB aD ?_
 refine bH (.cons (bM j9 g7 rfl rfl) (.cons (bP rfl) .nil)) ?_
 exact ⟨_, ⟨none, its2, _, now2, rfl, fun x q => (by cases q), hR2, Qbl hgl hT, htg, hn2, rfl⟩, IO⟩
 refine ag (aj call352 (IF ba bm on root user va hva kind (wY y) true)) ?_
 refine aB aD ?_
 refine bH (.cons (bM j9 g7 rfl rfl) (.cons (bP rfl) .nil)) ?_
 obtain ⟨z, rfl⟩ : ∃ z, y = some z := by cases y <;> simp_all
 have hm : n0 z.ent kind user = true := by simp_all [wY]
 obtain ⟨q1, q2⟩ := zk hy
 obtain ⟨x, hx, e1, e2⟩ := hi.sub z q1
 refine ⟨_, ⟨some x, its2, _, now2, ?_, fun x' q => ?_, hR2, Qbl hgl hT, htg, hn2, rfl⟩, IO⟩
 show _ = Value.tuple #[.agg (IE x.e.1 x.e.2.1 (va % 64) true).toArray, .bool true]
 rw [e2]; rfl
 grind
theorem a0g (ba bm pv bt bs : Nat) (on : Bool) (root : Int) (user : Bool) (va : Nat) (hva : va < 4294967296) (kind : Int) (its : List It) (room now : Nat) (T : List It) (L : List Ln) (hR : Rep its now T) (hT : T.length ≤ room) (hr : room ≤ 4) (hn : now < 1000000) (hi : TI L T) : sP W0 286 [pQ ba] (pt ba (fX bm on root user va kind) :: pt bm (cK pv bt bs) :: aJ bt (its, dm room now) :: bJ bs L :: R) (fun v B => ∃ o its' T' now', v = .tuple #[.agg (CL o va).toArray, .bool o.isSome] ∧ CM L (du root va) kind user o ∧ (o = none → ∀ x ∈ L, x.k = du root va → n0 x.e kind user = false) ∧ Rep its' now' T' ∧ T'.length ≤ room ∧ TI L T' ∧ now' ≤ now + 1 ∧ B = pt ba (fX bm on root user va kind) :: pt bm (cK pv bt bs) :: aJ bt (its', dm room now') :: bJ bs L :: R) := by
 obtain ⟨y, hy⟩ : ∃ y, jv (du root va) L = y := ⟨_, rfl⟩
 have hll := hi.len
 refine ac func286 ntmps286 ?_
 refine dR (da u7) fun b2 => ?_
 refine au 3 ?_
 refine ec (fun b4 : Nat => True) (fun b4 => [(0, pQ ba), (2, pQ b2), (4, pQ b4), (5, .bool y.isSome)]) (fun b4 => pt b2 (a8 [iQ 0, iQ 0, iQ 0, .bool false] 363) :: pt b4 (a8 (lj (rz y)) 500) :: pt ba (fX bm on root user va kind) :: pt bm (cK pv bt bs) :: aJ bt (its, dm room now) :: bJ bs L :: R) ?_ ?_
 refine bu [ba, bm] 16 fun hS => ?_
 refine ae 0 8 hS ?_
 refine eh (is := [8, 13]) (by kernel_rfl) rfl ⟨?_, ?_, trivial⟩
 refine cT (aj rR (qf ba bm on root user va hva kind)) ?_; clear hS
 rintro _ B_ ⟨rfl, hB_⟩
 obtain rfl := hB_.symm
 refine ⟨aF, fun hS => ?_⟩
 refine eh (is := [9, 13]) (by kernel_rfl) rfl ⟨?_, ?_, trivial⟩
 refine cT (aj ud (rp bs L (by omega) (du root va))) ?_; clear hS
 rintro _ B_ ⟨rfl, hB_⟩
 subst hB_
 rw [rA, hy]
 refine ⟨aF, fun hS => ?_⟩
 refine ae 10 3 hS ?_
 refine cg 13 (da mG) ?_; clear hS
 rintro _ _ ⟨b4, rfl, rfl⟩
 refine ⟨aF, fun hS => ?_⟩
 refine bG 14 aD fun hS => ?_
 refine ae 15 1 hS ?_
 refine aK ?_
 exact cq b4 trivial
 skip
 refine cT (da mG) ?_; clear hS
 rintro _ _ ⟨b4, rfl, rfl⟩
 refine ⟨aF, fun hS => ?_⟩
 refine cg 9 (aj ud (rp bs L (by omega) (du root va))) ?_; clear hS
 rintro _ B_ ⟨rfl, hB_⟩
 subst hB_
 rw [rA, hy]
 refine ⟨aF, fun hS => ?_⟩
 refine ae 10 3 hS ?_
 refine bG 14 aD fun hS => ?_
 refine ae 15 1 hS ?_
 refine aK ?_
 exact cq b4 trivial
 skip
 refine cT (da mG) ?_; clear hS
 rintro _ _ ⟨b4, rfl, rfl⟩
 refine ⟨aF, fun hS => ?_⟩
 refine bF 8 (aj rR (qf ba bm on root user va hva kind)) fun hS => ?_
 refine cg 9 (aj ud (rp bs L (by omega) (du root va))) ?_; clear hS
 rintro _ B_ ⟨rfl, hB_⟩
 subst hB_
 rw [rA, hy]
 refine ⟨aF, fun hS => ?_⟩
 refine ae 10 3 hS ?_
 refine bG 14 aD fun hS => ?_
 refine ae 15 1 hS ?_
 refine aK ?_
 exact cq b4 trivial
 intro b4 _
 refine aw ?_
 refine eR (fun g2_3 => ?_) fun g2_3 => ?_
 refine aB aD ?_
 refine bH (.cons (bM j9 g7 rfl rfl) (.cons (bP rfl) .nil)) ?_
 exact ⟨_, ⟨none, its, T, now, rfl, fun x q => (by cases q), fun _ x hx hk => (by
   have hg := Cz hi.keys hx
   rw [hk, hy] at hg
   subst hg
   simp_all [rz]), hR, hT, hi, by omega, rfl⟩, IO⟩
 refine ag (aj call351 (ID ba bm on root user va kind (rz y))) ?_
 refine ah (fun c2 => ?_) fun c2 => ?_
 refine aB aD ?_
 refine bH (.cons (bM j9 g7 rfl rfl) (.cons (bP rfl) .nil)) ?_
 exact ⟨_, ⟨none, its, T, now, rfl, fun x q => (by cases q), fun _ x hx hk => (by
   have hg := Cz hi.keys hx
   rw [hk, hy] at hg
   subst hg
   simp_all [rz]), hR, hT, hi, by omega, rfl⟩, IO⟩
 obtain ⟨x, rfl⟩ : ∃ x, y = some x := by cases y <;> simp_all
 have hm : n0 x.e kind user = true := by simp_all [rz]
 obtain ⟨q1, q2⟩ := zt hy
 have hpt := hi.putT room now q1
 have hpl := HO (now := now) (k := x.k) (e := x.e) hT
 rw [q2] at hpt hpl
 rw [show rz (some x) = x.e from rfl]
 refine bu [ba, bm, b4] 11 fun hS => ?_
 refine ae 0 8 hS ?_
 refine ae 9 1 hS ?_
 refine bF 8 (aj rR (qf ba bm on root user va hva kind)) fun hS => ?_
 refine cg 10 (aj call354 (HQ bt its room now T (du root va) x.e hR hT hr hn)) ?_; clear hS
 rintro _ B_ ⟨rfl, its2, hB_, hR2⟩
 subst hB_
 refine ⟨aF, fun hS => ?_⟩
 refine aK ?_
 refine ag (aj call352 (IF ba bm on root user va hva kind x.e true)) ?_
 refine aB aD ?_
 refine bH (.cons (bM j9 g7 rfl rfl) (.cons (bP rfl) .nil)) ?_
 refine ⟨_, ⟨some x, its2, _, now + 1, rfl, fun x' q => ?_, fun q => (by cases q), hR2, hpl, hpt, by omega, rfl⟩, IO⟩
 cases q
 exact ⟨q1, q2, hm⟩
section
variable {P : Program} {S : World → Prop} {N : FSz} {e : aP} {t : TypeId} {x y : Operand}
theorem IH {E len sz j : Nat} {k : IntKind} {i : Int} {cs : Array Value} {us : List Value} (hu : P.underlying t = some (.array len E)) (ha : ∀ w, (isAgg E).run P w = .ok true w) (hs : ∀ w, (sizeOf E).run P w = .ok sz w) (hx : ev e x = some (.agg cs)) (hy : ev e y = some (.int k i))
    (hi : i = (j : Int)) (hj : j < len) (hv : cs.extract (j * sz) (j * sz + sz) = us.toArray) : bC P S N e (.index t x y) (.agg us.toArray) := fun a w _ _ _ _ _ hF _ => by
 subst hi
 have h1 : (0 : Int) ≤ (j : Int) ∧ (j : Int) < (len : Int) := by omega
 simp only [execOp, Instr.index, Sem.run_bind, hF.eval hx, hF.eval hy, asIntOf, Sem.run_pure, Result.andThen_ok, dA hu, Qae h1, Qal, hs, part, ha, hv, QbH]
end
def fg : List Value := [.int .i64 0, .int .i64 4, .int .i64 1, .int .i64 1, .int .i64 2, .int .i64 2]
def oJ (i : Nat) : Int × Int := if i = 0 then (0, 4) else if i = 1 then (1, 1) else (2, 2)
def fJ (pg : List Pl) (r p : Int) : Nat → Int
 | 0 => fi .i64 r 8
 | i + 1 => if fi .i64 r (oJ i).2 ≠ 0 ∧ ig pg p (oJ i).1 = 0 then jX .i64 (fJ pg r p i) (oJ i).2 else fJ pg r p i
theorem II (hK : ∀ A, aR (az W0 A) 1 0 fg) (bm pv bt bs ps pm d : Nat) (on : Bool) (r p : Int) (pg : List Pl) (hP : Pgs pg) : sQ W0 411 [pQ bm, .agg #[.bool on, iQ r, iQ p]] (pt bm (cK pv bt bs) :: pt pv (cu ps pm d) :: pt pm (bN pg) :: R) (iQ (fJ pg r p 3)) (pt bm (cK pv bt bs) :: pt pv (cu ps pm d) :: pt pm (bN pg) :: R) := by
 refine ac func411 ntmps411 ?_
 refine aV fun b3 => ?_
 refine a7 (fD rfl rfl rfl) ?_
 refine a7 (bZ (hK _)) ?_
 refine dr (fun i : Nat => i ≤ 3) (fun i => [(0, pQ bm), (3, pQ b3), (5, iQ (fJ pg r p i)), (11, .agg fg.toArray), (12, iQ i)]) (fun i => pt b3 (a8 [.bool on, iQ r, iQ p] 491) :: pt bm (cK pv bt bs) :: pt pv (cu ps pm d) :: pt pm (bN pg) :: R) (fun i => 3 - i) 0 ?_ ?_
 omega
 intro i hi
 refine aw ?_
 refine aA rfl (fun c3 => ?_) fun c3 => ?_
 refine au 2 ?_
 refine ec (fun _ : Unit => True) (fun _ => [(0, pQ bm), (3, pQ b3), (5, iQ (fJ pg r p (i + 1))), (11, .agg fg.toArray), (12, iQ i)]) (fun _ => pt b3 (a8 [.bool on, iQ r, iQ p] 491) :: pt bm (cK pv bt bs) :: pt pv (cu ps pm d) :: pt pm (bN pg) :: R) ?_ ?_
 refine au 2 ?_
 have hi3 : i < 3 := by omega
 have hkv : fg.toArray.extract (i * 2) (i * 2 + 2) = ([iQ (oJ i).1, iQ (oJ i).2] : List Value).toArray := by
  have : i = 0 ∨ i = 1 ∨ i = 2 := by omega
  rcases this with rfl | rfl | rfl <;> rfl
 have hst : fJ pg r p (i + 1) = if fi .i64 r (oJ i).2 ≠ 0 ∧ ig pg p (oJ i).1 = 0 then jX .i64 (fJ pg r p i) (oJ i).2 else fJ pg r p i := rfl
 obtain ⟨⟨k, c⟩, hkc⟩ : ∃ q, oJ i = q := ⟨_, rfl⟩
 rw [hkc] at hkv hst
 dsimp only at hkv hst
 refine aw ?_
 refine a7 (IH a58 isAgg584 sizeOf584 rfl rfl rfl hi3 hkv) ?_
 refine bB fun b7 => ?_
 refine aB aD ?_
 refine bu [b3, b7, bm] 19 fun hS => ?_
 refine ae 0 4 hS ?_
 refine ax 4 hS (fD rfl rfl rfl) ?_
 refine ae 5 2 hS ?_
 refine lY (t := 21) rfl ?_ ?_
 intro g5_7
 refine ae 7 4 hS ?_
 refine ae 12 4 hS ?_
 refine bF 11 (aj call252 (GR pv ps pm d)) fun hS => ?_
 refine bF 16 (aj call392 (Gm pm pg hP p k)) fun hS => ?_
 refine ae 17 2 hS ?_
 refine aK ?_
 refine ah (fun c5 => ?_) fun c5 => ?_
 refine a7 (p8 rfl rfl rfl) ?_
 refine i5 () ?_ ?_ ?_
 trivial
 · rw [hst, Qae (by omega)]
   repeat (first | exact cI | refine cj rfl ?_)
 exact IO
 refine i5 () ?_ ?_ ?_
 trivial
 · rw [hst, Qab (by omega)]
   repeat (first | exact cI | refine cj rfl ?_)
 exact IO
 intro g5_7
 refine ae 7 12 hS ?_
 refine aK ?_
 refine i5 () ?_ ?_ ?_
 trivial
 · rw [hst, Qab (by omega)]
   repeat (first | exact cI | refine cj rfl ?_)
 exact IO
 intro _ _
 refine aw ?_
 refine a7 cQ ?_
 exact cv (i + 1) (by omega)
 refine aw ?_
 refine aa ?_
 obtain rfl : i = 3 := by omega
 exact ai
section
variable {P : Program} {S : World → Prop} {N : FSz} {e : aP} {t : TypeId} {l : List Value} {v : Value}
theorem IJ {E n k : Nat} {ps : Array (Nat × Operand)} {rs : List (List Value)} (hu : P.underlying t = some (.array n E)) (hs : ∀ w, (sizeOf E).run P w = .ok k w) (hz : ∀ w, (zeroValue t).run P w = .ok (.agg l.toArray) w)
    (hel : sj k e 0 ps.toList rs) (hl : l.length = rs.length * k) : bC P S N e (.build t ps) (.agg rs.flatten.toArray) := fun a w _ _ _ _ _ hF _ => by
 have hfl := B9 (k := k) (fun x v h => hF.eval h) ps.toList rs [] l 0 (by simp) hel hl
 simp only [Qan] at hfl
 have hb : Instr.build t (ps.map fun (i, x) => (i, a.eval x)) = (do
     let zero := (← zeroValue t).cells
     match ← underlying t with
     | .struct fields =>
       let places ← fields.mapM qE
       let some cells := Instr.fill (places[·]?) zero (ps.map fun (i, x) => (i, a.eval x)).toList | stuck "build: no such field, or a part of the wrong size"
       pure (.agg cells)
     | .array _ elem =>
       let size ← sizeOf elem
       let some cells := Instr.fill (fun i => some (i * size, size)) zero (ps.map fun (i, x) => (i, a.eval x)).toList | stuck "build: a part of the wrong size"
       pure (.agg cells)
     | _ => stuck "build: struct or array type expected") := rfl
 simp only [execOp, hb, Sem.run_bind, hz, dA hu, hs, Result.andThen_ok, Value.cells, Sem.run_pure, QbU]
 rw [hfl]; rfl
end
theorem zD (n : Nat) : (((n : Nat) : Int) != 0) = (n != 0) := by
 grind
theorem IK (b : Nat) (rl : List Nat) (pc x : Nat) (i : Int) (hl : rl.length = 16) : sQ W0 149 [pQ b, iQ i, wV x] (pt b (dt rl pc) :: R) (iQ (if lh i then 0 else 1)) (pt b (dt (if lh i then ow rl i.toNat x else rl) pc) :: R) := by
 by_cases hi : lh i = true
 have hi2 : 0 ≤ i ∧ i < 16 := Qat hi
 obtain ⟨n, rfl⟩ : ∃ n : Nat, i = (n : Int) := ⟨i.toNat, by omega⟩
 rw [Qae hi, Qae hi, Qal]
 by_cases h0 : n = 0
 subst h0
 rw [ow, Qae rfl]
 have hput : ∀ R, aZ Tryz.prog W0 250 [pQ b, iQ ((0 : Nat) : Int), wV x] (pt b (dt rl pc) :: R) (fun v B => v = .tuple #[] ∧ B = pt b (dt rl pc) :: R) := fun R => by
  refine ac func250 ntmps250 ?_
  refine ah (fun c0 => ?_) fun c0 => ?_
  exact absurd rfl c0
  refine bA (.inr rfl) .nil ?_
  exact ai
 refine jG 12 LL ntmps149 ?_
 refine aA rfl (fun c1 => ?_) fun c1 => ?_
 cases c1
 refine aw ?_
 refine dE 10 (aj Ei (z8 b rl pc hl ((0 : Nat) : Int))) ?_
 refine ah (fun c4 => ?_) fun c4 => ?_
 refine ag (aj call250 (hput _)) ?_
 refine aa ?_
 rw [hi]
 exact ai
 exact absurd (by rw [hi]; rfl) c4
 grind [ow, XM]
 rw [Qab hi, Qab hi]
 refine jG 12 LL ntmps149 ?_
 refine aA rfl (fun c1 => ?_) fun c1 => ?_
 cases c1
 refine aw ?_
 refine dE 10 (aj Ei (z8 b rl pc hl i)) ?_
 refine ah (fun c4 => ?_) fun c4 => ?_
 exact absurd c4 (by rw [Qab hi]; decide)
 refine aa ?_
 rw [Qab hi]
 exact ai
abbrev dv (cs : List Nat) (id : Nat) : Obj := a8 (cs.map wV ++ [.int .i64 id, .bool true]) 356
section
variable {cs : List Nat} {id : Nat}
theorem wZ (h : CsOk cs) : (cs.map wV ++ [Value.int .i64 id, .bool true]).length = 9 := by simp [h.len]
theorem tF (h : CsOk cs) {n : Nat} (hn : n < 7) : (cs.map wV ++ [Value.int .i64 id, .bool true])[n * 1]? = some (wV (dH cs n)) := by
 have : n < cs.length := by rw [h.len]; exact hn
 rw [Qbc, QaJ (by grind)]
 simp [dH, List.getD, this]
theorem a0h (h : CsOk cs) : (cs.map wV ++ [Value.int .i64 id, .bool true])[8]? = some (.bool true) := by
 rw [QaU (by rw [QaA, h.len]; decide), QaA, h.len]; rfl
theorem a0i (h : CsOk cs) : (cs.map wV ++ [Value.int .i64 id, .bool true])[7]? = some (iQ id) := by
 rw [QaU (by rw [QaA, h.len]; decide), QaA, h.len]; rfl
theorem x9 (h : cs.length = 7) {n v : Nat} (hn : n < 7) : (cs.map wV ++ [Value.int .i64 id, .bool true]).set (n * 1) (wV v) = (cs.set n v).map wV ++ [iQ id, .bool true] := by
 simp_all
theorem a0j (h : CsOk cs) : ((cs.map wV ++ [Value.int .i64 id, .bool true]).drop 0).take 7 = cs.map wV := by
 rw [List.drop_zero, List.take_left' (by rw [QaA, h.len])]
theorem uX (b : Nat) (h : CsOk cs) : sQ W0 203 [pV b] (pt b (dv cs id) :: R) (.bool false) (pt b (dv cs id) :: R) := by
 refine ac func203 ntmps203 ?_
 refine cP rfl rfl rfl (fun g1_3 => ?_) fun g1_3 => ?_
 cases g1_3
 refine aw ?_
 refine a7 (aH (aE (a0h h))) ?_
 exact aa ai
theorem zE (b : Nat) (h : CsOk cs) (k : Nat) (hk : k < 4294967296) : sQ W0 200 [pV b, wV k] (pt b (dv cs id) :: R) (.bool (qQ cs k)) (pt b (dv cs id) :: R) := by
 refine ac func200 ntmps200 ?_
 refine a7 (kS mF bL rfl rfl (i := 5) rfl (by decide) (by first | exact Qac _ | rfl)) ?_
 refine a7 (aH (aE (tF h (n := 5) (by decide)))) ?_
 refine a7 (fD rfl rfl (m7 (h.at_ 5) hk)) ?_
 refine aa ?_
 exact ⟨_, ⟨Qak Value.bool (zD _), rfl⟩, IO⟩
theorem IL (b : Nat) (h : CsOk cs) : sQ W0 357 [pV b] (pt b (dv cs id) :: R) (iQ (if ew cs then 0 else 4)) (pt b (dv cs id) :: R) := by
 refine ac func357 ntmps357 ?_
 refine ag (aj xR (uX b h)) ?_
 refine ag (aj Eo (zE b h 4 (by decide))) ?_
 refine ah (fun c3 => ?_) fun c3 => ?_
 refine aa ?_
 rw [ew, Qab (by simpa using c3)]
 exact ai
 refine aa ?_
 rw [ew, Qae (by simpa using c3)]
 exact ai
theorem IM (b : Nat) (h : CsOk cs) (hid : id < 4) (n : Nat) (hn : n < 9) (clock : Int) (hc : 0 ≤ clock) : sQ W0 293 [pV b, iQ n, iQ clock] (pt b (dv cs id) :: R) (.tuple #[wV (if ew cs then qS cs id clock.toNat n else 0), iQ (if ew cs then 0 else 4)]) (pt b (dv cs id) :: R) := by
 obtain ⟨q, rfl⟩ : ∃ q : Nat, clock = (q : Int) := ⟨clock.toNat, by omega⟩
 rw [Qal]
 refine ac func293 ntmps293 ?_
 refine ag (aj call357 (IL b h)) ?_
 refine ah (fun c2 => ?_) fun c2 => ?_
 refine aT ?_
 have hk : ew cs = false := by
  grind
 rw [hk]
 exact ai
 have hk : ew cs = true := by
  grind
 rw [hk]
 refine aA rfl (fun c4 => ?_) fun c4 => ?_
 omega
 refine aw ?_
 refine aA rfl (fun c5 => ?_) fun c5 => ?_
 omega
 refine aw ?_
 refine ah (fun c7 => ?_) fun c7 => ?_
 refine a7 (cR (gQ (q : Int))) ?_
 refine aT ?_
 obtain rfl : n = 7 := by omega
 exact ai
 refine ah (fun c9 => ?_) fun c9 => ?_
 refine a7 (aH (aE (a0i h))) ?_
 refine a7 (cR (dO (by omega))) ?_
 refine aT ?_
 obtain rfl : n = 8 := by omega
 exact ai
 refine a7 (gK (by omega)) ?_
 refine a7 (aH (aE (tF h (n := n) (by omega)))) ?_
 refine aT ?_
 rw [Qae rfl, qS, Qab (by omega), Qab (by omega)]
 exact ai
theorem a0k (b : Nat) (h : CsOk cs) (n v : Nat) (hn : n < 9) (hv : v < 4294967296) (hk : ew cs = true) : sP W0 420 [pV b, iQ n, wV v] (pt b (dv cs id) :: R) (fun r B => r = iQ (if n ≤ 6 then 0 else 1) ∧ B = pt b (dv (if n ≤ 6 then cs.set n (lG n v) else cs) id) :: R) := by
 refine ac func420 ntmps420 ?_
 refine ag (aj call357 (IL b h)) ?_
 rw [hk, Qae rfl]
 refine aA rfl (fun c2 => ?_) fun c2 => ?_
 exact absurd rfl c2
 refine au 2 ?_
 refine ec (fun _ : Unit => n ≤ 6) (fun _ => [(0, pV b), (1, iQ n), (2, wV (lG n v))]) (fun _ => pt b (dv cs id) :: R) ?_ ?_
 refine au 12 ?_
 refine ah (fun c6 => ?_) fun c6 => ?_
 refine a7 (fD rfl rfl (m7 hv (by decide))) ?_
 refine i5 () ?_ ?_ ?_
 omega
 · rw [lG, Qae (by omega)]
   repeat (first | exact cI | refine cj rfl ?_)
 exact IO
 refine ah (fun c8 => ?_) fun c8 => ?_
 refine a7 (fD rfl rfl (m7 hv (by decide))) ?_
 refine i5 () ?_ ?_ ?_
 omega
 · rw [lG, Qab (by omega), Qae (by omega)]
   repeat (first | exact cI | refine cj rfl ?_)
 exact IO
 refine ah (fun c10 => ?_) fun c10 => ?_
 refine i5 () ?_ ?_ ?_
 omega
 · rw [lG, Qab (by omega), Qab (by omega)]
   repeat (first | exact cI | refine cj rfl ?_)
 exact IO
 refine ah (fun c11 => ?_) fun c11 => ?_
 refine i5 () ?_ ?_ ?_
 omega
 · rw [lG, Qab (by omega), Qab (by omega)]
   repeat (first | exact cI | refine cj rfl ?_)
 exact IO
 refine ah (fun c12 => ?_) fun c12 => ?_
 refine i5 () ?_ ?_ ?_
 omega
 · rw [lG, Qab (by omega), Qab (by omega)]
   repeat (first | exact cI | refine cj rfl ?_)
 exact IO
 refine ah (fun c13 => ?_) fun c13 => ?_
 refine i5 () ?_ ?_ ?_
 omega
 · rw [lG, Qab (by omega), Qab (by omega)]
   repeat (first | exact cI | refine cj rfl ?_)
 exact IO
 refine ah (fun c14 => ?_) fun c14 => ?_
 refine i5 () ?_ ?_ ?_
 omega
 · rw [lG, Qab (by omega), Qab (by omega)]
   repeat (first | exact cI | refine cj rfl ?_)
 exact IO
 refine aa ?_
 rw [Qab (by omega), Qab (by omega)]
 exact ai
 intro _ hn6
 rw [Qae hn6, Qae hn6]
 refine aw ?_
 refine a7 (gK (by omega)) ?_
 refine aB (dF (by rw [wZ h]; omega) (x9 h.len (by omega))) ?_
 exact aa ai
theorem a0l (b : Nat) (h : CsOk cs) : sQ W0 214 [pV b] (pt b (dv cs id) :: R) (.agg (cs.map wV).toArray) (pt b (dv cs id) :: R) := by
 refine ac func214 ntmps214 ?_
 refine bB fun b1 => ?_
 refine ag (aj xR (uX b h)) ?_
 refine a7 (gd LM vk rfl (cp (b := b) (a0j h) (by rw [QaA, h.len])) (by rw [QaA, h.len])) ?_
 refine aB (gD vk rfl rfl (by rw [QaA, h.len]) (Hq cs) rfl) ?_
 exact bH (.cons (bM LM vk rfl (by rw [QaA, h.len])) .nil) ai
@[reducible] def uY (cs : List Nat) : List Value := [.bool (kA cs), .int .i64 (kB cs), .bool (!ew cs)]
theorem xa (b : Nat) (h : CsOk cs) : sQ W0 135 [pV b] (pt b (dv cs id) :: R) (.agg (uY cs).toArray) (pt b (dv cs id) :: R) := by
 have h0 := h.at_ 0
 have hd : dH cs 0 / 256 < 4294967296 := by omega
 obtain ⟨rr, hrr⟩ : ∃ r, dH cs 0 / 256 &&& 31 = r := ⟨_, rfl⟩
 have ha : rr < 4294967296 := by grind [QaR, QbE]
 refine ac func135 ntmps135 ?_
 refine bB fun b1 => ?_
 refine ag (aj xR (uX b h)) ?_
 refine a7 (kS mF bL rfl rfl (i := 0) rfl (by decide) (by first | exact Qac _ | rfl)) ?_
 refine a7 (aH (aE (tF h (n := 0) (by decide)))) ?_
 refine a7 (fD rfl rfl (m7 h0 (by decide) (b := 1))) ?_
 refine a7 (kR rfl rfl (by decide) (oi (k := .u32) (s := 8) (by decide))) ?_
 refine a7 (fD rfl rfl (show _ = ((rr : Nat) : Int) by rw [← hrr]; exact m7 hd (by decide) (b := 31))) ?_
 refine a7 (cR (bU (by omega))) ?_
 refine ag (aj Eo (zE b h 4 (by decide))) ?_
 refine aB aD ?_
 refine bH (.cons (bM Dz xC rfl rfl) .nil) ?_
 refine aQ ?_
 rw [uY, kA, kB, hrr, ew, ← zD]
 rfl
theorem IN (b : Nat) (h : CsOk cs) : sQ W0 199 [pV b] (pt b (dv cs id) :: R) (.bool (dH cs 1 != 0)) (pt b (dv cs id) :: R) := by
 refine ac func199 ntmps199 ?_
 refine ag (aj xR (uX b h)) ?_
 refine cA (fun g1_4 => ?_) fun g1_4 => ?_
 refine a7 (kS mF bL rfl rfl (i := 1) rfl (by decide) (by first | exact Qac _ | rfl)) ?_
 refine ab rfl (ci tX rfl (aE (tF h (n := 1) (by decide)))) ?_
 refine eK rfl rfl (ab rfl (nW rfl rfl) (ab rfl (uf rfl rfl) (ab rfl (bq rfl) (aM (aC (dC (bA (.inl rfl) (.cons (bP rfl) .nil) ?_)))))))
 exact ⟨_, ⟨Qak Value.bool (zD _), rfl⟩, IO⟩
 exact absurd (by decide) g1_4
theorem a0m (b : Nat) (h : CsOk cs) : sQ W0 128 [pV b] (pt b (dv cs id) :: R) (.bool (sX cs)) (pt b (dv cs id) :: R) := by
 obtain ⟨z, hz⟩ : ∃ z, (dH cs 1 != 0) = z := ⟨_, rfl⟩
 refine ac func128 ntmps128 ?_
 refine ag (aj call199 (IN b h)) ?_
 rw [hz]
 refine cA (fun g1_3 => ?_) fun g1_3 => ?_
 rw [show sX cs = qQ cs 1 by rw [sX, hz, g1_3, QbO]]
 refine ag (aj Eo (zE b h 1 (by decide))) ?_
 exact aa ai
 rw [show sX cs = false by rw [sX, hz, show z = false by simpa using g1_3, Bool.false_and]]
 exact aa ai
def CN (f0 t0 f1 t1 : Nat) : List Value := [wV f0, wV t0, wV f1, wV t1]
theorem a0n (b b3 b6 s f t : Nat) (h : CsOk cs) (hf : f < 4294967296) (hs : s < 4294967296) (ht : t < 4294967296) : sQ W0 282 [wV f, wV t, pV b3, pV b6] (pt b3 (a8 [pV b] 84) :: pt b6 (a8 [wV s] 62) :: pt b (dv cs id) :: R) (.tuple #[]) (pt b3 (a8 [pV b] 84) :: pt b6 (a8 [wV (ou cs s f t)] 62) :: pt b (dv cs id) :: R) := by
 refine ac func282 ntmps282 ?_
 refine ag (aj Eo (zE b h f hf)) ?_
 refine ah (fun c0 => ?_) fun c0 => ?_
 rw [ou, Qae c0]
 refine a7 (show bC _ _ _ _ _ (wV (s ||| t)) from p8 rfl rfl (vP hs ht)) ?_
 refine aB dq ?_
 refine bA (.inr rfl) .nil ?_
 exact ai
 rw [ou, Qab c0]
 refine bA (.inr rfl) .nil ?_
 exact ai
def uZ (cs : List Nat) (s f0 t0 f1 t1 : Nat) : Nat → Nat
 | 0 => s
 | 1 => ou cs s f0 t0
 | _ => ov cs s f0 t0 f1 t1
theorem IP (W0 : World) (R : List HP) (b s f0 t0 f1 t1 : Nat) (h : CsOk cs) (hs : s < 4294967296) (h0 : f0 < 4294967296) (h1 : t0 < 4294967296) (h2 : f1 < 4294967296) (h3 : t1 < 4294967296) : sQ W0 204 [pV b, wV s, .agg (CN f0 t0 f1 t1).toArray] (pt b (dv cs id) :: R) (.tuple #[]) (pt b (dv (cs.set 5 (ov cs s f0 t0 f1 t1)) id) :: R) := by
 have hlt : ∀ k, uZ cs s f0 t0 f1 t1 k < 4294967296 := fun k => by
  match k with
  | 0 => exact hs
  | 1 => exact BJ hs h1
  | k + 2 => exact BK hs h1 h3
 refine ac func204 ntmps204 ?_
 refine cW (gE rfl rfl) fun b3 => ?_
 refine aV fun b5 => ?_
 refine cW (mK a59 rfl) fun b6 => ?_
 refine eu (jZ bL rfl rfl rfl (Qaa rfl) SetL.eq) ?_
 rintro _ _ rfl
 refine aM (aC (aI (aU (ab rfl (vH rfl rfl) ?_))))
 refine ab rfl (bq rfl) (aM (aC (aI (aI (aU (ab rfl (nr isAgg359 sizeOf359 rfl rfl) ?_))))))
 refine ab rfl (aW rfl) (aM (aC (kQ ?_)))
 refine fu (fun k : Nat => k ≤ 2) (fun k => [(3, pV b3), (6, pV b6), (7, .func (.func 282) #[] #[pV b3, pV b6]), (12, .agg (CN f0 t0 f1 t1).toArray), (13, .int .i64 k)]) (fun k => pt b3 (a8 [pV b] 84) :: pt b6 (a8 [wV (uZ cs s f0 t0 f1 t1 k)] 62) :: pt b (dv cs id) :: R) (fun k => 2 - k) 0 ?_ ?_ ?_ ?_
 omega
 · repeat (first | exact cI | refine cj rfl ?_)
 exact (show Ent _ (pt b3 (a8 [pV b] 84) :: pt b6 (a8 [wV s] 62) :: pt b (dv cs id) :: R) from inferInstance)
 intro k hk
 refine aw ?_
 refine ah (fun c4 => ?_) fun c4 => ?_
 have hk2 : k < 2 := by omega
 obtain ⟨x, y, hx, hy, hxy, hstep⟩ : ∃ x y, x < 4294967296 ∧ y < 4294967296 ∧ ((CN f0 t0 f1 t1).toArray.extract (k * 2) (k * 2 + 2) = [wV x, wV y].toArray) ∧ ou cs (uZ cs s f0 t0 f1 t1 k) x y = uZ cs s f0 t0 f1 t1 (k + 1) := by
  match k, hk2 with
  | 0, _ => exact ⟨f0, t0, h0, h1, rfl, rfl⟩
  | 1, _ => exact ⟨f1, t1, h2, h3, rfl, rfl⟩
 refine a7 (IH M1 isAgg358 DN rfl rfl rfl hk2 hxy) ?_
 refine bB fun b9 => ?_
 refine aB aD ?_
 refine a7 (kS xS bL rfl rfl (i := 0) rfl (by decide) (by first | exact Qac _ | rfl)) ?_
 refine a7 (kS xS bL rfl rfl (i := 1) rfl (by decide) (by first | exact Qac _ | rfl)) ?_
 refine ag (jn px (fQ (us := []) (cs := [pV b3, pV b6]) rfl call282 rfl (a0n b b3 b6 (uZ cs s f0 t0 f1 t1 k) x y h hx (hlt k) hy))) ?_
 rw [hstep]
 refine a7 cQ ?_
 exact cv (k + 1) (by omega)
 obtain rfl : k = 2 := by omega
 refine bu [b3, b6] 6 fun hS => ?_
 refine ae 0 4 hS ?_
 refine ax 4 hS (kS mF bL rfl rfl (i := 5) rfl (by decide) (by first | exact Qac _ | rfl)) ?_
 refine bG 5 (dF (by grind [wZ]) (x9 (n := 5) h.len (by decide))) fun hS => ?_
 refine aK ?_
 refine bA (.inr rfl) .nil ?_
 exact ⟨_, ⟨rfl, rfl⟩, (show Ent _ (pt b (dv (cs.set 5 (uZ cs s f0 t0 f1 t1 2)) id) :: R) from inferInstance)⟩
theorem IQ (b pc cause tval : Nat) (h : CsOk cs) (h1 : pc < 4294967296) (h2 : cause < 4294967296) (h3 : tval < 4294967296) : sQ W0 131 [pV b, wV pc, wV cause, wV tval] (pt b (dv cs id) :: R) (.tuple #[wV (dH cs 1), iQ 0]) (pt b (dv (sY cs pc cause tval) id) :: R) := by
 have ht := h.trap h1 h2 h3
 have he := h.enter h1 h2 h3
 have e1 : dH (sY cs pc cause tval) 1 = dH cs 1 := by grind [sY, pH, dH]
 refine ac func131 ntmps131 ?_
 refine ag (aj xR (uX b h)) ?_
 refine bu [] 18 fun hS => ?_
 refine ae 0 8 hS ?_
 refine ax 8 hS (kS mF bL rfl rfl (i := 2) rfl (by decide) (by first | exact Qac _ | rfl)) ?_
 refine ae 10 2 hS ?_
 refine ae 14 2 hS ?_
 refine bG 9 (dF (by grind [wZ]) (x9 (n := 2) h.len (by decide))) fun hS => ?_
 refine ax 12 hS (kS mF bL rfl rfl (i := 3) rfl (by decide) (by first | exact Qac _ | rfl)) ?_
 refine bG 13 (dF (by rw [wZ (h.set 2 pc h1)]; decide) (x9 (n := 3) (h.set 2 pc h1).len (by decide))) fun hS => ?_
 refine ax 16 hS (kS mF bL rfl rfl (i := 4) rfl (by decide) (by first | exact Qac _ | rfl)) ?_
 refine bG 17 (dF (by rw [wZ ((h.set 2 pc h1).set 3 cause h2)]; decide) (x9 (n := 4) ((h.set 2 pc h1).set 3 cause h2).len (by decide))) fun hS => ?_
 refine aK ?_
 refine a7 (yn xS bL Ap rfl rfl rfl rfl) ?_
 refine a7 (yn xS bL Ap rfl rfl rfl rfl) ?_
 refine a7 (IJ (rs := [[wV 1, wV 2], [wV 4, wV 8]]) M1 DN a6a (dX rfl rfl (dX rfl rfl fR)) rfl) ?_
 refine ag (aj call204 (IP (cs := pH cs pc cause tval) W0 _ b 4 1 2 4 8 ht (by decide) (by decide) (by decide) (by decide) (by decide))) ?_
 rw [Vl, show (pH cs pc cause tval).set 5 (ov cs 4 1 2 4 8) = sY cs pc cause tval from rfl]
 refine a7 (kS mF bL rfl rfl (i := 1) rfl (by decide) (by first | exact Qac _ | rfl)) ?_
 refine a7 (aH (aE (tF he (n := 1) (by decide)))) ?_
 refine aT ?_
 rw [e1]
 exact ai
theorem a0o (b : Nat) (h : CsOk cs) : sQ W0 419 [pV b] (pt b (dv cs id) :: R) (.tuple #[wV (dH cs 2), iQ 0]) (pt b (dv (qR cs) id) :: R) := by
 have hl := h.leave
 have e1 : dH (qR cs) 2 = dH cs 2 := by grind [qR, dH]
 have hs : dH cs 5 &&& 10 < 4294967296 := QaR QbE (h.at_ 5)
 refine ac func419 ntmps419 ?_
 refine ag (aj xR (uX b h)) ?_
 refine a7 (kS mF bL rfl rfl (i := 5) rfl (by decide) (by first | exact Qac _ | rfl)) ?_
 refine a7 (aH (aE (tF h (n := 5) (by decide)))) ?_
 refine a7 (fD rfl rfl (m7 (h.at_ 5) (by decide) (b := 10))) ?_
 refine a7 (yn xS bL Ap rfl rfl rfl rfl) ?_
 refine a7 (yn xS bL Ap rfl rfl rfl rfl) ?_
 refine a7 (IJ (rs := [[wV 2, wV 1], [wV 8, wV 4]]) M1 DN a6a (dX rfl rfl (dX rfl rfl fR)) rfl) ?_
 refine ag (aj call204 (IP W0 _ b (dH cs 5 &&& 10) 2 1 8 4 h hs (by decide) (by decide) (by decide) (by decide))) ?_
 rw [show cs.set 5 (ov cs (dH cs 5 &&& 10) 2 1 8 4) = qR cs from rfl]
 refine a7 (kS mF bL rfl rfl (i := 2) rfl (by decide) (by first | exact Qac _ | rfl)) ?_
 refine a7 (aH (aE (tF hl (n := 2) (by decide)))) ?_
 refine aT ?_
 rw [e1]
 exact ai
end
theorem CO (a : Nat) : IntKind.wrap .i32 (a : Int) = nE a := rfl
section
variable (W0 : World) (R : List HP) (a b : Nat)
theorem a0p : sQ W0 457 [.agg #[wV a, wV b]] R (wV (u32 ((a : Int) + b))) R := by
 refine ac func457 ntmps457 ?_
 refine aV fun b1 => ?_
 refine a7 (dx rfl rfl (gQ _)) ?_
 exact aa ai
theorem a0q : sQ W0 458 [.agg #[wV a, wV b]] R (wV (u32 ((a : Int) - b))) R := by
 refine ac func458 ntmps458 ?_
 refine aV fun b1 => ?_
 refine a7 (jW rfl rfl (gQ _)) ?_
 exact aa ai
theorem a0r (ha : a < 4294967296) (hb : b < 4294967296) : sQ W0 451 [.agg #[wV a, wV b]] R (wV (a &&& b)) R := by
 refine ac func451 ntmps451 ?_
 refine aV fun b1 => ?_
 refine a7 (fD rfl rfl (m7 ha hb)) ?_
 exact aa ai
theorem a0s (ha : a < 4294967296) (hb : b < 4294967296) : sQ W0 452 [.agg #[wV a, wV b]] R (wV (a ||| b)) R := by
 refine ac func452 ntmps452 ?_
 refine aV fun b1 => ?_
 refine a7 (p8 rfl rfl (vP ha hb)) ?_
 exact aa ai
theorem a0t : rV .u32 (a : Int) (b : Int) = ((u32 (rV .u32 (a : Int) (b : Int)) : Nat) : Int) := by
 grind [rV, gQ, dG, BI]
theorem a0u : sQ W0 453 [.agg #[wV a, wV b]] R (wV (u32 (rV .u32 (a : Int) (b : Int)))) R := by
 refine ac func453 ntmps453 ?_
 refine aV fun b1 => ?_
 refine a7 (Mi rfl rfl (a0t a b)) ?_
 exact aa ai
theorem IR (x n : Int) : jC .u32 x n = ((u32 (jC .u32 x n) : Nat) : Int) := by
 grind [jC, gQ, BI, dG]
theorem a0v : sQ W0 454 [.agg #[wV a, wV b]] R (wV (u32 (jC .u32 (a : Int) ((b % 32 : Nat) : Int)))) R := by
 refine ac func454 ntmps454 ?_
 refine aV fun b1 => ?_
 refine a7 (lu rfl rfl (by decide) (sG b 32)) ?_
 refine a7 (p9 rfl rfl (by omega) (IR _ _)) ?_
 exact aa ai
theorem a0w : sQ W0 455 [.agg #[wV a, wV b]] R (wV (a / 2 ^ (b % 32))) R := by
 have h32 : b % 32 ≤ (IntKind.bits .u32) := by
  have := QbW b (show 0 < 32 by decide)
  show b % 32 ≤ 32
  omega
 refine ac func455 ntmps455 ?_
 refine aV fun b1 => ?_
 refine a7 (lu rfl rfl (by decide) (sG b 32)) ?_
 refine a7 (kR rfl rfl (by omega) (oi (k := .u32) (s := b % 32) h32)) ?_
 exact aa ai
theorem a0x : sQ W0 456 [.agg #[wV a, wV b]] R (wV (u32 (lv .i32 (nE a) ((b % 32 : Nat) : Int)))) R := by
 refine ac func456 ntmps456 ?_
 refine aV fun b1 => ?_
 refine a7 (cR (CO a)) ?_
 refine a7 (lu rfl rfl (by decide) (sG b 32)) ?_
 refine a7 (kR rfl rfl (by omega) rfl) ?_
 refine a7 (cR (gQ _)) ?_
 exact aa ai
theorem a0y : sQ W0 459 [.agg #[wV a, wV b]] R (wV (u32 ((a : Int) * b))) R := by
 refine ac func459 ntmps459 ?_
 refine aV fun b1 => ?_
 refine a7 (vx rfl rfl (gQ _)) ?_
 exact aa ai
theorem IS (x : Bool) : sQ W0 462 [.bool x] R (wV (pG x)) R := by
 refine ac func462 ntmps462 ?_
 refine ah (fun c1 => ?_) fun c1 => ?_
 rw [show pG x = 1 by rw [c1]; rfl]
 exact aa ai
 rw [show pG x = 0 by rw [show x = false by simpa using c1]; rfl]
 exact aa ai
theorem IT : sQ W0 417 [.agg #[wV a, wV b]] R (wV (pG (decide (nE a < nE b)))) R := by
 refine ac func417 ntmps417 ?_
 refine aV fun b1 => ?_
 refine a7 (cR (CO a)) ?_
 refine a7 (cR (CO b)) ?_
 refine ag (ar call462 (IS W0 _ (decide (nE a < nE b)))) ?_
 exact aa ai
theorem IU : (decide ((a : Int) < (b : Int))) = decide (a < b) := by
 grind
theorem IV : sQ W0 418 [.agg #[wV a, wV b]] R (wV (pG (decide (a < b)))) R := by
 rw [← IU]
 refine ac func418 ntmps418 ?_
 refine dR (k0 rfl) fun b1 => ?_
 refine ab rfl (bq rfl) (aM (aC (aI (aU ?_))))
 refine ab rfl (d3 rfl rQ rfl bL rfl (by first | exact Qac _ | rfl)) ?_
 refine ab rfl (ci tX rfl (aE rfl)) ?_
 refine ab rfl (d3 rfl rQ rfl bL rfl (by first | exact Qac _ | rfl)) ?_
 refine ab rfl (ci tX rfl (aE rfl)) ?_
 refine ab rfl (pd rfl rfl) (ao rfl (ix call462 rfl (IS W0 _ (decide ((a : Int) < (b : Int))))) ?_)
 rintro _ B_ ⟨rfl, hB_⟩
 obtain rfl := hB_.symm
 refine ab rfl (bq rfl) (aM (aC (dC ?_)))
 exact aa ai
theorem a0z (ha : a < 4294967296) : sQ W0 460 [.agg #[wV a, wV b]] R (wV (if b = 0 then 4294967295 else a / b)) R := by
 have hq : a / b < 4294967296 := QaR (Qcq _ _) ha
 refine ac func460 ntmps460 ?_
 refine dR (k0 rfl) fun b1 => ?_
 refine ab rfl (bq rfl) (aM (aC (aI (aI (aU ?_)))))
 refine ab rfl (d3 rfl rQ rfl bL rfl (by first | exact Qac _ | rfl)) ?_
 refine ab rfl (ci tX rfl (aE rfl)) ?_
 refine ab rfl (rW rfl rfl) (aM (aC ?_))
 refine aA rfl (fun c1 => ?_) fun c1 => ?_
 refine au 7 ?_
 refine aa ?_
 rw [Qae (by omega)]
 exact ai
 refine aw ?_
 have hb0 : b ≠ 0 := by omega
 rw [Qab hb0]
 refine a7 (qD rfl rfl (by omega) (by rw [vQ]; exact dO ⟨Int.natCast_nonneg _, Int.ofNat_lt.2 hq⟩ : IntKind.wrap .u32 (Int.tdiv (a : Int) (b : Int)) = ((a / b : Nat) : Int))) ?_
 exact aa ai
theorem a0A (ha : a < 4294967296) : sQ W0 461 [.agg #[wV a, wV b]] R (wV (if b = 0 then a else a % b)) R := by
 refine ac func461 ntmps461 ?_
 refine dR (k0 rfl) fun b1 => ?_
 refine ab rfl (bq rfl) (aM (aC (aI (aI (aU ?_)))))
 refine ab rfl (d3 rfl rQ rfl bL rfl (by first | exact Qac _ | rfl)) ?_
 refine ab rfl (ci tX rfl (aE rfl)) ?_
 refine ab rfl (rW rfl rfl) (aM (aC ?_))
 refine aA rfl (fun c1 => ?_) fun c1 => ?_
 refine au 9 ?_
 refine aa ?_
 rw [Qae (by omega)]
 exact ai
 refine aw ?_
 have hb0 : b ≠ 0 := by omega
 rw [Qab hb0]
 refine a7 (lu rfl rfl (by omega) (sG a b)) ?_
 exact aa ai
def CP (f : FuncId) (op : Nat) : Prop := (∀ args w, (callFunc f args).run Tryz.prog w = .ok (.enter f args) w) ∧ ∀ R, aZ Tryz.prog W0 f ([] ++ [.agg #[wV a, wV b]] ++ []) R (fun v B => v = wV (mc op a b) ∧ B = R)
theorem mq {f : FuncId} {op n : Nat} (hc : ∀ args w, (callFunc f args).run Tryz.prog w = .ok (.enter f args) w) (e : mc op a b = n) (h : ∀ R, aZ Tryz.prog W0 f [.agg #[wV a, wV b]] R (fun v B => v = wV n ∧ B = R)) : CP W0 a b f op := ⟨hc, by rw [e]; exact h⟩
theorem a0B (op : Nat) (h : 3 ≤ op ∧ op ≤ 8) (ha : a < 4294967296) (hb : b < 4294967296) : sP W0 415 [iQ op] R (fun v B => ∃ f, v = .func (.func f) #[] #[] ∧ B = R ∧ CP W0 a b f op) := by
 refine ac func415 ntmps415 ?_
 refine ah (fun c2 => ?_) fun c2 => ?_
 refine aa ?_
 obtain rfl : op = 3 := by omega
 exact ⟨_, ⟨_, rfl, rfl, mq W0 a b call451 rfl fun R => a0r W0 R a b ha hb⟩, IO⟩
 refine ah (fun c4 => ?_) fun c4 => ?_
 refine aa ?_
 obtain rfl : op = 4 := by omega
 exact ⟨_, ⟨_, rfl, rfl, mq W0 a b call452 rfl fun R => a0s W0 R a b ha hb⟩, IO⟩
 refine ah (fun c6 => ?_) fun c6 => ?_
 refine aa ?_
 obtain rfl : op = 5 := by omega
 exact ⟨_, ⟨_, rfl, rfl, mq W0 a b call453 rfl fun R => a0u W0 R a b⟩, IO⟩
 refine ah (fun c8 => ?_) fun c8 => ?_
 refine aa ?_
 obtain rfl : op = 6 := by omega
 exact ⟨_, ⟨_, rfl, rfl, mq W0 a b call454 rfl fun R => a0v W0 R a b⟩, IO⟩
 refine ah (fun c10 => ?_) fun c10 => ?_
 refine aa ?_
 obtain rfl : op = 7 := by omega
 exact ⟨_, ⟨_, rfl, rfl, mq W0 a b call455 rfl fun R => a0w W0 R a b⟩, IO⟩
 refine aa ?_
 obtain rfl : op = 8 := by omega
 exact ⟨_, ⟨_, rfl, rfl, mq W0 a b call456 rfl fun R => a0x W0 R a b⟩, IO⟩
theorem IW (op : Nat) (h : 1 ≤ op ∧ op ≤ 13 ∧ (op < 3 ∨ 8 < op)) (ha : a < 4294967296) : sP W0 416 [iQ op] R (fun v B => ∃ f, v = .func (.func f) #[] #[] ∧ B = R ∧ CP W0 a b f op) := by
 refine ac func416 ntmps416 ?_
 refine ah (fun c2 => ?_) fun c2 => ?_
 refine aa ?_
 obtain rfl : op = 1 := by omega
 exact ⟨_, ⟨_, rfl, rfl, mq W0 a b call457 rfl fun R => a0p W0 R a b⟩, IO⟩
 refine ah (fun c4 => ?_) fun c4 => ?_
 refine aa ?_
 obtain rfl : op = 2 := by omega
 exact ⟨_, ⟨_, rfl, rfl, mq W0 a b call458 rfl fun R => a0q W0 R a b⟩, IO⟩
 refine ah (fun c6 => ?_) fun c6 => ?_
 refine aa ?_
 obtain rfl : op = 9 := by omega
 exact ⟨_, ⟨_, rfl, rfl, mq W0 a b call417 rfl fun R => IT W0 R a b⟩, IO⟩
 refine ah (fun c8 => ?_) fun c8 => ?_
 refine aa ?_
 obtain rfl : op = 10 := by omega
 exact ⟨_, ⟨_, rfl, rfl, mq W0 a b call418 rfl fun R => IV W0 R a b⟩, IO⟩
 refine ah (fun c10 => ?_) fun c10 => ?_
 refine aa ?_
 obtain rfl : op = 11 := by omega
 exact ⟨_, ⟨_, rfl, rfl, mq W0 a b call459 rfl fun R => a0y W0 R a b⟩, IO⟩
 refine ah (fun c12 => ?_) fun c12 => ?_
 refine aa ?_
 obtain rfl : op = 12 := by omega
 exact ⟨_, ⟨_, rfl, rfl, mq W0 a b call460 rfl fun R => a0z W0 R a b ha⟩, IO⟩
 refine aa ?_
 obtain rfl : op = 13 := by omega
 exact ⟨_, ⟨_, rfl, rfl, mq W0 a b call461 rfl fun R => a0A W0 R a b ha⟩, IO⟩
theorem IX (op : Nat) (h : 1 ≤ op ∧ op ≤ 13) (ha : a < 4294967296) (hb : b < 4294967296) : sQ W0 358 [iQ op, wV a, wV b] R (.tuple #[wV (mc op a b), iQ 0]) R := by
 refine ac func358 ntmps358 ?_
 refine aA rfl (fun c1 => ?_) fun c1 => ?_
 omega
 refine aw ?_
 refine aA rfl (fun c2 => ?_) fun c2 => ?_
 omega
 refine aw ?_
 refine cA (fun g4_3 => ?_) fun g4_3 => ?_
 refine ah (fun c4 => ?_) fun c4 => ?_
 refine ao rfl (ar call415 (a0B W0 _ a b op (by omega) ha hb)) ?_
 rintro _ B_ ⟨f, rfl, hB_, hf⟩
 obtain rfl := hB_.symm
 refine ab rfl (aW rfl) (ab rfl (aW rfl) (ab rfl (eg rQ AC (aG bL (aG bL ee)) (cm rfl bL rfl rfl (Qaa rfl) SetL.eq (cm rfl bL rfl rfl (Qaa rfl) SetL.eq ed))) ?_))
 refine ao rfl (fQ (us := []) (cs := []) rfl hf.1 rfl (hf.2 _)) ?_
 rintro _ B_ ⟨rfl, hB_⟩
 obtain rfl := hB_.symm
 refine ab rfl (bq rfl) (ab rfl (bq rfl) (aM (aC (dC (np (jT ?_))))))
 exact aT ai
 refine ao rfl (ar call416 (IW W0 _ a b op (by omega) ha)) ?_
 rintro _ B_ ⟨f, rfl, hB_, hf⟩
 obtain rfl := hB_.symm
 refine ab rfl (aW rfl) (ab rfl (aW rfl) (ab rfl (eg rQ AC (aG bL (aG bL ee)) (cm rfl bL rfl rfl (Qaa rfl) SetL.eq (cm rfl bL rfl rfl (Qaa rfl) SetL.eq ed))) ?_))
 refine ao rfl (fQ (us := []) (cs := []) rfl hf.1 rfl (hf.2 _)) ?_
 rintro _ B_ ⟨rfl, hB_⟩
 obtain rfl := hB_.symm
 refine ab rfl (bq rfl) (ab rfl (bq rfl) (aM (aC (dC ?_))))
 exact aT ai
 refine ao rfl (ar call416 (IW W0 _ a b op (by omega) ha)) ?_
 rintro _ B_ ⟨f, rfl, hB_, hf⟩
 obtain rfl := hB_.symm
 refine ab rfl (aW rfl) (ab rfl (aW rfl) (ab rfl (eg rQ AC (aG bL (aG bL ee)) (cm rfl bL rfl rfl (Qaa rfl) SetL.eq (cm rfl bL rfl rfl (Qaa rfl) SetL.eq ed))) ?_))
 refine ao rfl (fQ (us := []) (cs := []) rfl hf.1 rfl (hf.2 _)) ?_
 rintro _ B_ ⟨rfl, hB_⟩
 obtain rfl := hB_.symm
 refine ab rfl (bq rfl) (ab rfl (bq rfl) (aM (aC (dC ?_))))
 exact aT ai
theorem IY (p : Bool) : (((pG p : Nat) : Int) == 1) = p := by cases p <;> rfl
theorem IZ : (((a : Nat) : Int) == ((b : Nat) : Int)) = decide (a = b) := by
 grind
theorem a0C : (((a : Nat) : Int) != ((b : Nat) : Int)) = decide (a ≠ b) := by
 grind
theorem a0D (op : Nat) (h : 28 ≤ op ∧ op ≤ 31) : sQ W0 365 [iQ op, wV a, wV b] R (.tuple #[.bool (vZ op a b), iQ 0]) R := by
 refine ly func365 ntmps365 rfl rfl ?_
 refine aI (aU (ab rfl (bq rfl) (ab rfl (bq rfl) (aM (aC (aI (aU (ab rfl (aW rfl) (ab rfl (aW rfl) (ab rfl (eg rQ AC (aG bL (aG bL ee)) (cm rfl bL rfl rfl (Qaa rfl) SetL.eq (cm rfl bL rfl rfl (Qaa rfl) SetL.eq ed))) ?_))))))))))
 refine ao rfl (da AC) ?_
 rintro _ _ ⟨b8, rfl, rfl⟩
 refine aB aD ?_
 refine aA rfl (fun c3 => ?_) fun c3 => ?_
 refine aI ?_
 refine aU (ab rfl (aW rfl) (ab rfl (aW rfl) (ab rfl (rW rfl rfl) (ab rfl (bq rfl) (ab rfl (bq rfl) (aM (aC (dC (np (jT (bA (.inl rfl) (.cons (bP rfl) (.cons (bP rfl) .nil)) ?_)))))))))))
 obtain rfl : op = 28 := by omega
 exact ⟨_, ⟨by rw [IZ]; rfl, rfl⟩, IO⟩
 refine aw ?_
 refine aA rfl (fun c5 => ?_) fun c5 => ?_
 refine aI ?_
 refine aU (ab rfl (aW rfl) (ab rfl (aW rfl) (ab rfl (nW rfl rfl) (ab rfl (bq rfl) (ab rfl (bq rfl) (aM (aC (dC (np (jT (bA (.inl rfl) (.cons (bP rfl) (.cons (bP rfl) .nil)) ?_)))))))))))
 obtain rfl : op = 29 := by omega
 exact ⟨_, ⟨by rw [a0C]; rfl, rfl⟩, IO⟩
 refine aw ?_
 refine ah (fun c7 => ?_) fun c7 => ?_
 refine ao rfl (ix call417 rfl (IT W0 _ a b)) ?_
 rintro _ B_ ⟨rfl, hB_⟩
 obtain rfl := hB_.symm
 refine ab rfl (rW rfl rfl) (ab rfl (bq rfl) (ab rfl (bq rfl) (aM (aC (dC (np (jT (bA (.inl rfl) (.cons (bP rfl) (.cons (bP rfl) .nil)) ?_))))))))
 obtain rfl : op = 30 := by omega
 exact ⟨_, ⟨by rw [IY]; rfl, rfl⟩, IO⟩
 refine aA rfl (fun c9 => ?_) fun c9 => ?_
 refine au 3 ?_
 refine ao rfl (ix call418 rfl (IV W0 _ a b)) ?_
 rintro _ B_ ⟨rfl, hB_⟩
 obtain rfl := hB_.symm
 refine ab rfl (rW rfl rfl) (ab rfl (bq rfl) (ab rfl (bq rfl) (aM (aC (dC (np (jT (bA (.inl rfl) (.cons (bP rfl) (.cons (bP rfl) .nil)) ?_))))))))
 obtain rfl : op = 31 := by omega
 exact ⟨_, ⟨by rw [IY]; rfl, rfl⟩, IO⟩
 omega
theorem a0E (op : Nat) (h : 14 ≤ op ∧ op ≤ 21) : sQ W0 362 [iQ op] R (.tuple #[iQ (iR op), .bool true]) R := by
 refine ac func362 ntmps362 ?_
 refine ah (fun c2 => ?_) fun c2 => ?_
 refine aT ?_
 obtain rfl : op = 14 := by omega
 exact ai
 refine ah (fun c4 => ?_) fun c4 => ?_
 refine aT ?_
 obtain rfl : op = 21 := by omega
 exact ai
 refine ah (fun c6 => ?_) fun c6 => ?_
 refine a7 i6 ?_
 refine a7 (dx rfl rfl (by rw [bU (by omega), iR, Qab (by omega), Qab (by omega)]; omega : IntKind.wrap .i64 (((op : Int) - 15) + 3) = ((iR op : Nat) : Int))) ?_
 exact aT ai
 refine ah (fun c7 => ?_) fun c7 => ?_
 refine a7 i6 ?_
 refine a7 (dx rfl rfl (by rw [bU (by omega), iR, Qab (by omega), Qab (by omega)]; omega : IntKind.wrap .i64 (((op : Int) - 15) + 3) = ((iR op : Nat) : Int))) ?_
 exact aT ai
 refine ah (fun c8 => ?_) fun c8 => ?_
 refine a7 i6 ?_
 refine a7 (dx rfl rfl (by rw [bU (by omega), iR, Qab (by omega), Qab (by omega)]; omega : IntKind.wrap .i64 (((op : Int) - 15) + 3) = ((iR op : Nat) : Int))) ?_
 exact aT ai
 refine ah (fun c9 => ?_) fun c9 => ?_
 refine a7 i6 ?_
 refine a7 (dx rfl rfl (by rw [bU (by omega), iR, Qab (by omega), Qab (by omega)]; omega : IntKind.wrap .i64 (((op : Int) - 15) + 3) = ((iR op : Nat) : Int))) ?_
 exact aT ai
 refine ah (fun c10 => ?_) fun c10 => ?_
 refine a7 i6 ?_
 refine a7 (dx rfl rfl (by rw [bU (by omega), iR, Qab (by omega), Qab (by omega)]; omega : IntKind.wrap .i64 (((op : Int) - 15) + 3) = ((iR op : Nat) : Int))) ?_
 exact aT ai
 refine aA rfl (fun c11 => ?_) fun c11 => ?_
 refine au 3 ?_
 refine a7 i6 ?_
 refine a7 (dx rfl rfl (by rw [bU (by omega), iR, Qab (by omega), Qab (by omega)]; omega : IntKind.wrap .i64 (((op : Int) - 15) + 3) = ((iR op : Nat) : Int))) ?_
 exact aT ai
 omega
theorem a0F (im : Int) : sQ W0 363 [iQ im] R (wV (w0 im)) R := by
 refine ac func363 ntmps363 ?_
 refine a7 (cR (gQ im)) ?_
 refine a7 (p9 rfl rfl (by decide) (IR _ _)) ?_
 exact aa ai
end
@[reducible] def tG (i : Ins) : List Value := [.int .i64 i.op, .int .i64 i.d, .int .i64 i.a, .int .i64 i.b, .int .i64 i.im]
def gz : List Value := vY.map fun n => .int .i64 ((n : Nat) : Int)
section
variable {W0 : World}
theorem J0 {R : List HP} (hH : ∀ A, aR (az W0 A) 0 0 gz) {op : Nat} (h : op < 42) : iM (az W0 R) 0 (op * 1) (iQ ((mV op : Nat) : Int)) := by
 have h2 : op < vY.length := h
 have := hH R op (iQ ((mV op : Nat) : Int)) (by
   unfold gz
   rw [Qce, Qbw h2]
   simp [mV, List.getD, h2])
 rw [Qac] at this
 rw [Qbc]
 exact this
theorem a0G {W0 : World} {R : List HP} (op : Nat) : sQ W0 290 [iQ op] R (.bool (pE op)) R := by
 refine ac func290 ntmps290 ?_
 refine cA (fun g1_3 => ?_) fun g1_3 => ?_
 rw [show pE op = decide ((op : Int) ≤ 41) by unfold pE; apply QaP.2; omega]
 exact aa ai
 rw [show pE op = false by unfold pE; apply Qav; omega]
 exact aa ai
theorem CQ {W0 : World} {R : List HP} (may : Bool) (n : Nat) : sQ W0 291 [.bool may, iQ n] R (.bool (pF may n)) R := by
 cases may with
 | false =>
  refine ac func291 ntmps291 ?_
  refine aA rfl ?_ ?_
  intro c1
  refine aw ?_
  refine aa ?_
  exact ⟨_, ⟨Qak Value.bool (IZ n 0), rfl⟩, IO⟩
  intro c1
  exact absurd (by decide) c1
 | true =>
  refine jG 12 func291 ntmps291 ?_
  refine dS ?_
  refine pi rfl rfl rfl (fun g3_3 => ?_) fun g3_3 => ?_
  refine au 8 ?_
  refine aa ?_
  exact ⟨_, ⟨Qak Value.bool (IU n 16), rfl⟩, IO⟩
  omega
theorem a0H : ∀ n, n < 16 → fi .i64 ((n : Nat) : Int) 8 = ((n / 8 % 2 * 8 : Nat) : Int) := by decide +kernel
theorem a0I : ∀ n, n < 16 → fi .i64 ((n : Nat) : Int) 1 = ((n % 2 : Nat) : Int) := by decide +kernel
theorem a0J : ∀ n, n < 16 → fi .i64 ((n : Nat) : Int) 2 = ((n / 2 % 2 * 2 : Nat) : Int) := by decide +kernel
theorem a0K : ∀ n, n < 16 → fi .i64 ((n : Nat) : Int) 4 = ((n / 4 % 2 * 4 : Nat) : Int) := by decide +kernel
theorem a0L (n : Nat) : (((n / 2 % 2 * 2 : Nat) : Int) != 0) = (n / 2 % 2 != 0) := by
 grind
theorem a0M (n : Nat) : (((n / 4 % 2 * 4 : Nat) : Int) != 0) = (n / 4 % 2 != 0) := by
 grind
theorem J1 : ∀ op, op < 42 → mV op < 16 := by decide +kernel
theorem a0N {W0 : World} {R : List HP} (hH : ∀ A, aR (az W0 A) 0 0 gz) (op : Nat) (h : op < 42) (n : Int) : sQ W0 292 [iQ op, iQ n] R (.bool (eT op n)) R := by
 have hl := J1 op h
 have ha := J0 (R := R) hH h
 refine ac func292 ntmps292 ?_
 refine ah (fun c2 => ?_) fun c2 => ?_
 refine cA (fun g5_3 => ?_) fun g5_3 => ?_
 rw [show eT op n = decide (n ≤ 31) by rw [eT, Qae (by omega)]; apply QaP.2; omega]
 exact aa ai
 rw [show eT op n = false by rw [eT, Qae (by omega)]; apply Qav; omega]
 exact aa ai
 refine ah (fun c3 => ?_) fun c3 => ?_
 refine cA (fun g5_3 => ?_) fun g5_3 => ?_
 rw [show eT op n = decide (n ≤ 31) by rw [eT, Qae (by omega)]; apply QaP.2; omega]
 exact aa ai
 rw [show eT op n = false by rw [eT, Qae (by omega)]; apply Qav; omega]
 exact aa ai
 refine ah (fun c4 => ?_) fun c4 => ?_
 refine cA (fun g5_3 => ?_) fun g5_3 => ?_
 rw [show eT op n = decide (n ≤ 31) by rw [eT, Qae (by omega)]; apply QaP.2; omega]
 exact aa ai
 rw [show eT op n = false by rw [eT, Qae (by omega)]; apply Qav; omega]
 exact aa ai
 refine ah (fun c6 => ?_) fun c6 => ?_
 refine cA (fun g8_3 => ?_) fun g8_3 => ?_
 rw [show eT op n = decide (n < 9) by rw [eT, Qab (by omega), Qae (by omega)]; apply QaP.2; omega]
 exact aa ai
 rw [show eT op n = false by rw [eT, Qab (by omega), Qae (by omega)]; apply Qav; omega]
 exact aa ai
 refine ah (fun c7 => ?_) fun c7 => ?_
 refine cA (fun g8_3 => ?_) fun g8_3 => ?_
 rw [show eT op n = decide (n < 9) by rw [eT, Qab (by omega), Qae (by omega)]; apply QaP.2; omega]
 exact aa ai
 rw [show eT op n = false by rw [eT, Qab (by omega), Qae (by omega)]; apply Qav; omega]
 exact aa ai
 refine a7 (gK h) ?_
 refine a7 (aH ha) ?_
 refine a7 (fD rfl rfl (a0H _ hl)) ?_
 refine ah (fun c9 => ?_) fun c9 => ?_
 refine aa ?_
 rw [eT, Qab (by omega), Qab (by omega), Qae (by omega)]
 exact ⟨_, ⟨Qak Value.bool (by grind), rfl⟩, IO⟩
 refine cA (fun g11_3 => ?_) fun g11_3 => ?_
 rw [show eT op n = decide (n ≤ 8191) by rw [eT, Qab (by omega), Qab (by omega), Qab (by omega)]; apply QaP.2; omega]
 exact aa ai
 rw [show eT op n = false by rw [eT, Qab (by omega), Qab (by omega), Qab (by omega)]; apply Qav; omega]
 exact aa ai
theorem zF {W0 : World} {R : List HP} (hH : ∀ A, aR (az W0 A) 0 0 gz) (i : Ins) : sQ W0 213 [.agg (tG i).toArray] R (.bool (kc i)) R := by
 obtain ⟨x, hx⟩ : ∃ x, mV i.op = x := ⟨_, rfl⟩
 obtain ⟨p1, e1⟩ : ∃ p, (mV i.op % 2 != 0) = p := ⟨_, rfl⟩
 obtain ⟨p2, e2⟩ : ∃ p, (mV i.op / 2 % 2 != 0) = p := ⟨_, rfl⟩
 obtain ⟨p3, e3⟩ : ∃ p, (mV i.op / 4 % 2 != 0) = p := ⟨_, rfl⟩
 obtain ⟨q1, f1⟩ : ∃ p, pF p1 i.d = p := ⟨_, rfl⟩
 obtain ⟨q2, f2⟩ : ∃ p, pF p2 i.a = p := ⟨_, rfl⟩
 obtain ⟨q3, f3⟩ : ∃ p, pF p3 i.b = p := ⟨_, rfl⟩
 have hall : kc i = (pE i.op && q1 && q2 && q3 && eT i.op i.im) := by
  grind [kc]
 rw [hall]
 refine ac func213 ntmps213 ?_
 refine aV fun b1 => ?_
 refine ag (ar call290 (a0G i.op)) ?_
 refine ah (fun c1 => ?_) fun c1 => ?_
 refine aa ?_
 rw [show pE i.op = false by simpa using c1]
 exact ai
 have hr : pE i.op = true := by grind
 have ho := Qat hr
 have h42 : i.op < 42 := by omega
 have hl := J1 i.op h42
 rw [hr, QbO]
 refine a7 (gK h42) ?_
 refine a7 (aH (J0 hH h42)) ?_
 refine a7 (fD rfl rfl (a0I _ hl)) ?_
 refine ag (ar M2 (CQ _ i.d)) ?_
 rw [zD, e1, f1]
 refine ah (fun c4 => ?_) fun c4 => ?_
 refine aa ?_
 rw [show q1 = false by simpa using c4]
 exact ai
 refine a7 (fD rfl rfl (a0J _ hl)) ?_
 refine ag (ar M2 (CQ _ i.a)) ?_
 rw [a0L, e2, f2]
 refine ah (fun c5 => ?_) fun c5 => ?_
 refine aa ?_
 rw [show q1 = true by simpa using c4, show q2 = false by simpa using c5]
 exact ai
 refine a7 (fD rfl rfl (a0K _ hl)) ?_
 refine ag (ar M2 (CQ _ i.b)) ?_
 rw [a0M, e3, f3]
 refine ah (fun c6 => ?_) fun c6 => ?_
 refine aa ?_
 rw [show q1 = true by simpa using c4, show q2 = true by simpa using c5, show q3 = false by simpa using c6]
 exact ai
 refine ag (ar call292 (a0N hH i.op h42 i.im)) ?_
 refine aa ?_
 rw [show q1 = true by simpa using c4, show q2 = true by simpa using c5, show q3 = true by simpa using c6]
 exact ai
theorem zG {W0 : World} {R : List HP} (w k n : Nat) (hw : w < 4294967296) (hk : k ≤ 32) (hn : n < 32) : sQ W0 212 [wV w, iQ k, iQ n] R (iQ ((w / 2 ^ k % 2 ^ n : Nat) : Int)) R := by
 have hp : 2 ^ n < 4294967296 := Nat.pow_lt_pow_right (by decide) (show n < 32 from hn) (a := 2)
 have hp0 : 0 < 2 ^ n := Nat.two_pow_pos n
 have hd : w / 2 ^ k < 4294967296 := QaR (Qcq _ _) hw
 have hm : w / 2 ^ k % 2 ^ n < 2 ^ n := QbW _ hp0
 have hsh : jC .u32 1 ((n : Nat) : Int) = ((2 ^ n : Nat) : Int) := by
  unfold jC
  rw [Qal, Qbf (show n ≤ IntKind.bits .u32 by show n ≤ 32; omega), Int.one_mul]
  rw [show ((2 : Int) ^ n) = ((2 ^ n : Nat) : Int) by push_cast; rfl]
  exact dO (by omega)
 refine ac func212 ntmps212 ?_
 refine bu [] 9 fun hS => ?_
 refine ae 0 2 hS ?_
 refine ax 2 hS (kR rfl rfl (by omega) (oi (k := .u32) hk)) ?_
 refine ae 3 1 hS ?_
 refine ax 4 hS (p9 rfl rfl (by omega) hsh) ?_
 refine ax 5 hS (jW rfl rfl (by rw [show ((2 ^ n : Nat) : Int) - 1 = ((2 ^ n - 1 : Nat) : Int) by omega]; exact dO (by omega) : IntKind.wrap .u32 (((2 ^ n : Nat) : Int) - 1) = ((2 ^ n - 1 : Nat) : Int))) ?_
 refine ax 6 hS (fD rfl rfl (by rw [m7 hd (by omega), un])) ?_
 refine ax 7 hS (cR (bU (by omega))) ?_
 refine ae 8 1 hS ?_
 refine aK ?_
 exact aa ai
theorem a0O {w : Nat} (hw : w < 4294967296) : lv .i32 (IntKind.wrap .i32 (w : Int)) 18 = sW w := by
 have e : IntKind.wrap .i32 (w : Int) = if w < 2147483648 then (w : Int) else (w : Int) - 4294967296 := by
  simp only [IntKind.wrap, IntKind.bits, IntKind.signed]
  simp
  omega
 rw [e]
 unfold lv sW
 rw [show min (18 : Int).toNat (IntKind.bits .i32) = 18 by decide]
 rw [Int.fdiv_eq_ediv_of_nonneg _ (by decide)]
 split
 omega
 omega
abbrev a0P : Ins := ⟨0, 0, 0, 0, 0⟩
theorem a0Q {W0 : World} {R : List HP} (hH : ∀ A, aR (az W0 A) 0 0 gz) (w : Nat) (hw : w < 4294967296) : sQ W0 138 [wV w] R (.tuple #[.agg (tG (if kc (gr w) then gr w else a0P)).toArray, .bool (kc (gr w))]) R := by
 have e0 : w / 2 ^ 0 % 2 ^ 6 = (gr w).op := by simp [gr]
 have e1 : w / 2 ^ 6 % 2 ^ 4 = (gr w).d := rfl
 have e2 : w / 2 ^ 10 % 2 ^ 4 = (gr w).a := rfl
 have e3 : w / 2 ^ 14 % 2 ^ 4 = (gr w).b := rfl
 have e4 : sW w = (gr w).im := rfl
 have hi := Vh hw
 obtain ⟨i, hI⟩ : ∃ i, gr w = i := ⟨_, rfl⟩
 rw [hI] at e0 e1 e2 e3 e4 ⊢
 obtain ⟨z, hz⟩ : ∃ z, kc i = z := ⟨_, rfl⟩
 refine ac func138 ntmps138 ?_
 refine bB fun b2 => ?_
 refine ag (ar Ep (zG w 0 6 hw (by decide) (by decide))) ?_
 rw [e0]
 refine ag (ar Ep (zG w 6 4 hw (by decide) (by decide))) ?_
 rw [e1]
 refine ag (ar Ep (zG w 10 4 hw (by decide) (by decide))) ?_
 rw [e2]
 refine ag (ar Ep (zG w 14 4 hw (by decide) (by decide))) ?_
 rw [e3]
 refine a7 (cR rfl) ?_
 refine a7 (kR rfl rfl (by decide) ((a0O hw).trans e4)) ?_
 refine a7 (cR (bU (by omega))) ?_
 refine bB fun b4 => ?_
 refine aB aD ?_
 refine ag (ar Er (zF hH i)) ?_
 rw [hz]
 refine ah (fun c2 => ?_) fun c2 => ?_
 refine aB aD ?_
 refine bH (.cons (bM KG oV rfl rfl) (.cons (bP rfl) .nil)) ?_
 rw [show z = false by simpa using c2]
 exact ai
 refine aB aD ?_
 refine bH (.cons (bM KG oV rfl rfl) (.cons (bP rfl) .nil)) ?_
 rw [show z = true by simpa using c2]
 exact ai
theorem J2 {W0 : World} {R : List HP} (op : Nat) : sQ W0 216 [iQ op] R (.bool (kC op)) R := by
 refine ac func216 ntmps216 ?_
 refine ah (fun c2 => ?_) fun c2 => ?_
 refine aa ?_
 rw [show kC op = true from Qaw (by omega)]
 exact ai
 refine ah (fun c3 => ?_) fun c3 => ?_
 refine aa ?_
 rw [show kC op = true from Qaw (by omega)]
 exact ai
 refine ah (fun c4 => ?_) fun c4 => ?_
 refine aa ?_
 rw [show kC op = true from Qaw (by omega)]
 exact ai
 refine ah (fun c5 => ?_) fun c5 => ?_
 refine aa ?_
 rw [show kC op = true from Qaw (by omega)]
 exact ai
 refine ah (fun c6 => ?_) fun c6 => ?_
 refine aa ?_
 rw [show kC op = true from Qaw (by omega)]
 exact ai
 refine ah (fun c7 => ?_) fun c7 => ?_
 refine aa ?_
 rw [show kC op = true from Qaw (by omega)]
 exact ai
 refine aa ?_
 rw [show kC op = false from Qav (by omega)]
 exact ai
theorem a0R (x y : Int) : jX .u32 x y = ((u32 (jX .u32 x y) : Nat) : Int) := by
 grind [jX, gQ, BI, dG]
theorem a0S {W0 : World} {R : List HP} (hH : ∀ A, aR (az W0 A) 0 0 gz) (i : Ins) (hi : kc i = true) : sQ W0 294 [.agg (tG i).toArray] R (.tuple #[wV (pI i), iQ 0]) R := by
 obtain ⟨h1, h2, h3, h4, h5⟩ := yA hi
 refine ac func294 ntmps294 ?_
 refine aV fun b1 => ?_
 refine ag (ar Er (zF hH i)) ?_
 refine aA rfl (fun c1 => ?_) fun c1 => ?_
 rw [hi] at c1; exact absurd c1 (by decide)
 refine aw ?_
 refine a7 (cR (dO (by omega))) ?_
 refine a7 (cR (dO (by omega))) ?_
 refine a7 (p9 rfl rfl (by decide) rfl) ?_
 refine a7 (p8 rfl rfl rfl) ?_
 refine a7 (cR (dO (by omega))) ?_
 refine a7 (p9 rfl rfl (by decide) rfl) ?_
 refine a7 (p8 rfl rfl rfl) ?_
 refine a7 (cR (dO (by omega))) ?_
 refine a7 (p9 rfl rfl (by decide) rfl) ?_
 refine a7 (p8 rfl rfl rfl) ?_
 refine a7 (cR (gQ i.im)) ?_
 refine a7 (p9 rfl rfl (by decide) rfl) ?_
 refine a7 (p8 rfl rfl (a0R _ _)) ?_
 exact aT ai
end
@[reducible] def dp (e : Eff) : List Value := [.int .i64 e.k, wV e.pc, wV e.addr, .int .i64 e.width, .bool e.signed, .int .i64 e.d, wV e.val, wV e.cause, wV e.tval]
@[reducible] def coV (i : Ins) (rb cb : Nat) (clock : Int) : List Value := tG i ++ [pV rb, pV cb, .int .i64 clock]
abbrev mr (i : Ins) (rb cb : Nat) (clock : Int) : Obj := a8 (coV i rb cb clock) 380
abbrev eA (sb : Nat) (i : Ins) (rb cb : Nat) (clock : Int) (x : Cpu) (id : Nat) (R : List HP) : List HP := pt sb (mr i rb cb clock) :: pt rb (dt x.rl x.pc) :: pt cb (dv x.cs id) :: R
section
variable (W0 : World) (R : List HP) (sb : Nat) (i : Ins) (rb cb : Nat) (clock : Int) (x : Cpu) (id : Nat)
theorem oK (hx : CpOk x) (n : Nat) (hn : n < 16) : sQ W0 359 [pV sb, iQ n] (pt sb (mr i rb cb clock) :: pt rb (dt x.rl x.pc) :: R) (wV (d6 x.rl n)) (pt sb (mr i rb cb clock) :: pt rb (dt x.rl x.pc) :: R) := by
 refine ac func359 ntmps359 ?_
 refine ag (aj call148 (HI rb x.rl x.pc n hx.r.len hn)) ?_
 exact aa ai
theorem qg (hx : CpOk x) : sQ W0 361 [pV sb] (pt sb (mr i rb cb clock) :: pt rb (dt x.rl x.pc) :: R) (wV (df x.pc)) (pt sb (mr i rb cb clock) :: pt rb (dt x.rl x.pc) :: R) := by
 refine ac func361 ntmps361 ?_
 refine ag (aj vt (td rb x.rl x.pc hx.r.len)) ?_
 refine a7 (dx rfl rfl (gQ _)) ?_
 exact aa ai
theorem J3 (hx : CpOk x) : sQ W0 367 [pV sb] (pt sb (mr i rb cb clock) :: pt rb (dt x.rl x.pc) :: R) (wV (farN x.pc i.im)) (pt sb (mr i rb cb clock) :: pt rb (dt x.rl x.pc) :: R) := by
 refine ac func367 ntmps367 ?_
 refine bu [sb] 14 fun hS => ?_
 refine ae 0 4 hS ?_
 refine ae 5 5 hS ?_
 refine ax 10 hS (cR (gQ i.im)) ?_
 refine ax 11 hS (vx rfl rfl (gQ _)) ?_
 refine bF 4 (aj vt (td rb x.rl x.pc hx.r.len)) fun hS => ?_
 refine ax 12 hS (dx rfl rfl (gQ _)) ?_
 refine ae 13 1 hS ?_
 refine aK ?_
 exact aa ai
theorem xb (hx : CpOk x) (pc : Nat) : sQ W0 366 [pV sb, wV pc] (pt sb (mr i rb cb clock) :: pt rb (dt x.rl x.pc) :: R) (.agg (dp (l5 x pc).1).toArray) (pt sb (mr i rb cb clock) :: pt rb (dt (l5 x pc).2.rl (l5 x pc).2.pc) :: R) := by
 refine ac func366 ntmps366 ?_
 refine bB fun b1 => ?_
 refine ao rfl (jD Es rfl (z7 rb x.rl x.pc pc hx.r.len)) ?_
 rintro _ B_ ⟨rfl, hB_⟩
 obtain rfl := hB_.symm
 refine aM (aC (aI (aU (ab rfl (aW rfl) (ab rfl (eg Aj oX (aG aO (aG bL (aG bL (aG aO (aG nk (aG aO (aG bL (aG bL (aG bL ee))))))))) (cm rfl aO rfl rfl (Qaa rfl) SetL.eq (cm rfl bL rfl rfl (Qaa rfl) SetL.eq ed))) ?_)))))
 refine eu (gD fP rfl rfl rfl rfl rfl) ?_
 rintro _ _ rfl
 refine aM (aC (dC ?_))
 exact bH (.cons (bM hJ fP rfl rfl) .nil) ai
theorem xd (hx : CpOk x) (hi : i.d < 16) (v pc : Nat) (hv : v < 4294967296) : sP W0 360 [pV sb, wV v, wV pc] (pt sb (mr i rb cb clock) :: pt rb (dt x.rl x.pc) :: R) (fun r B => r = .agg (dp (jc i x v pc).1).toArray ∧ B = pt sb (mr i rb cb clock) :: pt rb (dt (jc i x v pc).2.rl (jc i x v pc).2.pc) :: R) := by
 have hir : lh (i.d : Int) = true := by grind [lh]
 refine ac func360 ntmps360 ?_
 refine bB fun b1 => ?_
 refine bu [sb] 11 fun hS => ?_
 refine ae 0 10 hS ?_
 refine cg 10 (aj call149 (IK rb x.rl x.pc v i.d hx.r.len)) ?_; clear hS
 rintro _ B_ ⟨rfl, hB_⟩
 obtain rfl := hB_.symm
 rw [Qae hir, Qae hir, Qal]
 refine ⟨aF, fun hS => ?_⟩
 refine aK ?_
 refine ag (cJ AD (xb W0 _ sb i rb cb clock { x with rl := ow x.rl i.d v } ⟨hx.r.set i.d v hv, hx.pc, hx.cs⟩ pc)) ?_
 refine aB aD ?_
 exact bH (.cons (bM hJ fP rfl rfl) .nil) ai
theorem v2 {W0 : World} {R : List HP} (c t : Nat) : sQ W0 217 [wV c, wV t] R (.agg (dp (kZ c t)).toArray) R := by
 refine ac func217 ntmps217 ?_
 refine dR (da oX) fun b1 => ?_
 refine aM (aC (aI (aU (ab rfl (aW rfl) (ab rfl (aW rfl) (ab rfl (eg Aj oX (aG aO (aG bL (aG bL (aG aO (aG nk (aG aO (aG bL (aG bL (aG bL ee))))))))) (cm rfl aO rfl rfl (Qaa rfl) SetL.eq (cm rfl bL rfl rfl (Qaa rfl) SetL.eq (cm rfl bL rfl rfl (Qaa rfl) SetL.eq ed)))) ?_))))))
 refine eu (gD fP rfl rfl rfl rfl rfl) ?_
 rintro _ _ rfl
 refine aM (aC (dC ?_))
 exact bH (.cons (bM hJ fP rfl rfl) .nil) ai
theorem a0U : sQ W0 364 [pV sb] (pt sb (mr i rb cb clock) :: R) (iQ ((md i.op : Nat) : Int)) (pt sb (mr i rb cb clock) :: R) := by
 refine ac func364 ntmps364 ?_
 refine eR (fun g1_7 => ?_) fun g1_7 => ?_
 refine aa ?_
 rw [md, Qae (by omega)]
 exact ai
 refine ah (fun c1 => ?_) fun c1 => ?_
 refine aa ?_
 rw [md, Qae (by omega)]
 exact ai
 refine aa ?_
 rw [md, Qab (by omega)]
 exact ai
def CR (f : FuncId) (o : Eff × Cpu) : Prop := (∀ args w, (callFunc f args).run Tryz.prog w = .ok (.enter f args) w) ∧ ∀ R, aZ Tryz.prog W0 f ([pV sb] ++ [] ++ []) (eA sb i rb cb clock x id R) (fun v B => v = .agg (dp o.1).toArray ∧ B = eA sb i rb cb clock o.2 id R)
theorem a0V (hx : CpOk x) (hi : i.d < 16) (ha : i.a < 16) (hb : i.b < 16) (h : 1 ≤ i.op ∧ i.op ≤ 13) : sQ W0 295 [pV sb] (eA sb i rb cb clock x id R) (.agg (dp (jc i x (mc i.op (d6 x.rl i.a) (d6 x.rl i.b)) (df x.pc)).1).toArray) (eA sb i rb cb clock (jc i x (mc i.op (d6 x.rl i.a) (d6 x.rl i.b)) (df x.pc)).2 id R) := by
 have h1 := hx.r.at_ i.a
 have h2 := hx.r.at_ i.b
 refine ac func295 ntmps295 ?_
 refine bB fun b1 => ?_
 refine bu [sb] 25 fun hS => ?_
 refine ae 0 11 hS ?_
 refine ae 12 6 hS ?_
 refine bF 11 (cJ qC (oK W0 _ sb i rb cb clock x hx i.a ha)) fun hS => ?_
 refine bF 18 (cJ qC (oK W0 _ sb i rb cb clock x hx i.b hb)) fun hS => ?_
 refine bF 19 (ar call358 (IX W0 _ (d6 x.rl i.a) (d6 x.rl i.b) i.op h h1 h2)) fun hS => ?_
 refine ae 20 5 hS ?_
 refine aK ?_
 refine ag (cJ rS (qg W0 _ sb i rb cb clock x hx)) ?_
 refine ag (cJ AE (xd W0 _ sb i rb cb clock x hx hi (mc i.op (d6 x.rl i.a) (d6 x.rl i.b)) (df x.pc) (yB h1 h2))) ?_
 refine aB aD ?_
 exact bH (.cons (bM hJ fP rfl rfl) .nil) ai
theorem a0W (hx : CpOk x) (hi : i.d < 16) (ha : i.a < 16) (h : 14 ≤ i.op ∧ i.op ≤ 21) : sQ W0 296 [pV sb] (eA sb i rb cb clock x id R) (.agg (dp (jc i x (mc (iR i.op) (d6 x.rl i.a) (u32 i.im)) (df x.pc)).1).toArray) (eA sb i rb cb clock (jc i x (mc (iR i.op) (d6 x.rl i.a) (u32 i.im)) (df x.pc)).2 id R) := by
 have h1 := hx.r.at_ i.a
 have hp : 1 ≤ iR i.op ∧ iR i.op ≤ 13 := by
  grind [iR]
 refine ac func296 ntmps296 ?_
 refine bB fun b1 => ?_
 refine ag (ar call362 (a0E W0 _ i.op h)) ?_
 refine bu [sb] 20 fun hS => ?_
 refine ae 0 7 hS ?_
 refine ae 8 5 hS ?_
 refine ax 13 hS (cR (gQ i.im)) ?_
 refine bF 7 (cJ qC (oK W0 _ sb i rb cb clock x hx i.a ha)) fun hS => ?_
 refine bF 14 (ar call358 (IX W0 _ (d6 x.rl i.a) (u32 i.im) (iR i.op) hp h1 (dG _))) fun hS => ?_
 refine ae 15 5 hS ?_
 refine aK ?_
 refine ag (cJ rS (qg W0 _ sb i rb cb clock x hx)) ?_
 refine ag (cJ AE (xd W0 _ sb i rb cb clock x hx hi (mc (iR i.op) (d6 x.rl i.a) (u32 i.im)) (df x.pc) (yB h1 (dG _)))) ?_
 refine aB aD ?_
 exact bH (.cons (bM hJ fP rfl rfl) .nil) ai
theorem a0X (hx : CpOk x) (hi : i.d < 16) : sQ W0 297 [pV sb] (eA sb i rb cb clock x id R) (.agg (dp (jc i x (w0 i.im) (df x.pc)).1).toArray) (eA sb i rb cb clock (jc i x (w0 i.im) (df x.pc)).2 id R) := by
 refine ac func297 ntmps297 ?_
 refine bB fun b1 => ?_
 refine ag (ar call363 (a0F W0 _ i.im)) ?_
 refine ag (cJ rS (qg W0 _ sb i rb cb clock x hx)) ?_
 refine ag (cJ AE (xd W0 _ sb i rb cb clock x hx hi (w0 i.im) (df x.pc) (dG _))) ?_
 refine aB aD ?_
 exact bH (.cons (bM hJ fP rfl rfl) .nil) ai
theorem a0Y (hx : CpOk x) (ha : i.a < 16) (hb : i.b < 16) (h : 23 ≤ i.op ∧ i.op ≤ 27) : sQ W0 298 [pV sb] (eA sb i rb cb clock x id R) (.agg (dp (uB i x)).toArray) (eA sb i rb cb clock x id R) := by
 have hw : md i.op < 4294967296 := by grind [BL]
 have hw0 : md i.op ≠ 0 := by grind [md]
 obtain ⟨at_, hat⟩ : ∃ a, oy (d6 x.rl i.a) i.im = a := ⟨_, rfl⟩
 obtain ⟨m, hm⟩ : ∃ m, md i.op = m := ⟨_, rfl⟩
 rw [uB, hat, hm]
 rw [hm] at hw hw0
 refine ac func298 ntmps298 ?_
 refine bB fun b2 => ?_
 refine mQ (b := b2) (o' := a8 (dp uA) 255) rfl ?_
 refine bu [sb] 18 fun hS => ?_
 refine ae 0 6 hS ?_
 refine ae 7 5 hS ?_
 refine ax 12 hS (cR (gQ i.im)) ?_
 refine ae 14 1 hS ?_
 refine bF 6 (cJ qC (oK W0 _ sb i rb cb clock x hx i.a ha)) fun hS => ?_
 refine ax 13 hS (dx rfl rfl (show _ = ((at_ : Nat) : Int) by rw [← hat]; exact gQ _)) ?_
 refine cg 15 (aj call364 (a0U W0 _ sb i rb cb clock)) ?_; clear hS
 rintro _ B_ ⟨rfl, hB_⟩
 obtain rfl := hB_.symm
 rw [hm]
 refine ⟨aF, fun hS => ?_⟩
 refine ae 16 2 hS ?_
 refine aK ?_
 refine a7 (cR (dO (by omega))) ?_
 refine a7 (lu rfl rfl (by omega) (sG at_ m)) ?_
 refine ah (fun c2 => ?_) fun c2 => ?_
 refine ag (ar xT (v2 2 at_)) ?_
 refine aB aD ?_
 refine bH (.cons (bM hJ fP rfl rfl) .nil) ?_
 rw [Qae (by omega)]
 exact ai
 rw [Qab (by omega)]
 refine ao rfl (B6 rS rfl (qg W0 _ sb i rb cb clock x hx)) ?_
 rintro _ B_ ⟨rfl, hB_⟩
 obtain rfl := hB_.symm
 refine ab rfl (eg Aj oX (aG aO (aG bL (aG bL (aG aO (aG nk (aG aO (aG bL (aG bL (aG bL ee))))))))) (cm rfl aO rfl rfl (Qaa rfl) SetL.eq (cm rfl bL rfl rfl (Qaa rfl) SetL.eq (cm rfl aO rfl rfl (Qaa rfl) SetL.eq (cm rfl bL rfl rfl (Qaa rfl) SetL.eq ed))))) ?_
 refine ao rfl (da oX) ?_
 rintro _ _ ⟨b5, rfl, rfl⟩
 refine i7 2 aD ?_
 refine ec (fun _ : Unit => True) (fun _ => [(2, pV b2), (5, pV b5)]) (fun _ => pt b2 (a8 (dp uA) 255) :: pt b5 (a8 (dp (if i.op = 26 ∨ i.op = 27 then ⟨2, df x.pc, at_, m, false, 0, d6 x.rl i.b, 0, 0⟩ else ⟨1, df x.pc, at_, m, decide (i.op = 24), i.d, 0, 0, 0⟩)) 255) :: eA sb i rb cb clock x id R) ?_ ?_
 refine au 1 ?_
 refine mQ (b := b5) (o' := a8 (dp ⟨1, df x.pc, at_, m, false, 0, 0, 0, 0⟩) 255) rfl ?_
 refine aw ?_
 refine ah (fun c6 => ?_) fun c6 => ?_
 refine ag (cJ qC (oK W0 _ sb i rb cb clock x hx i.b hb)) ?_
 refine aB (od (by exact rfl : (dp ⟨1, df x.pc, at_, m, false, 0, 0, 0, 0⟩).set 0 (iQ 2) = dp ⟨2, df x.pc, at_, m, false, 0, 0, 0, 0⟩)) ?_
 refine aB (od (by exact rfl : (dp ⟨2, df x.pc, at_, m, false, 0, 0, 0, 0⟩).set 6 (wV (d6 x.rl i.b)) = dp ⟨2, df x.pc, at_, m, false, 0, d6 x.rl i.b, 0, 0⟩)) ?_
 refine cq () ?_ (he := ?_)
 trivial
 rw [Qae (by omega)]
 exact IO
 refine ah (fun c7 => ?_) fun c7 => ?_
 refine ag (cJ qC (oK W0 _ sb i rb cb clock x hx i.b hb)) ?_
 refine aB (od (by exact rfl : (dp ⟨1, df x.pc, at_, m, false, 0, 0, 0, 0⟩).set 0 (iQ 2) = dp ⟨2, df x.pc, at_, m, false, 0, 0, 0, 0⟩)) ?_
 refine aB (od (by exact rfl : (dp ⟨2, df x.pc, at_, m, false, 0, 0, 0, 0⟩).set 6 (wV (d6 x.rl i.b)) = dp ⟨2, df x.pc, at_, m, false, 0, d6 x.rl i.b, 0, 0⟩)) ?_
 refine cq () ?_ (he := ?_)
 trivial
 rw [Qae (by omega)]
 exact IO
 refine ah (fun c8 => ?_) fun c8 => ?_
 refine aB (od (by exact rfl : (dp ⟨1, df x.pc, at_, m, false, 0, 0, 0, 0⟩).set 4 (.bool true) = dp ⟨1, df x.pc, at_, m, true, 0, 0, 0, 0⟩)) ?_
 refine aB (od (by exact rfl : (dp ⟨1, df x.pc, at_, m, true, 0, 0, 0, 0⟩).set 5 (iQ i.d) = dp ⟨1, df x.pc, at_, m, true, i.d, 0, 0, 0⟩)) ?_
 refine cq () ?_ (he := ?_)
 trivial
 rw [Qab (by omega), Qaw (by omega)]
 exact IO
 refine aB (od (by exact rfl : (dp ⟨1, df x.pc, at_, m, false, 0, 0, 0, 0⟩).set 5 (iQ i.d) = dp ⟨1, df x.pc, at_, m, false, i.d, 0, 0, 0⟩)) ?_
 refine cq () ?_ (he := ?_)
 trivial
 rw [Qab (by omega), Qav (by omega)]
 exact IO
 intro _ _
 refine aw ?_
 refine aB aD ?_
 exact bH (.cons (bM hJ fP rfl rfl) .nil) ai
theorem a0Z (hx : CpOk x) (ha : i.a < 16) (hb : i.b < 16) (h : 28 ≤ i.op ∧ i.op ≤ 31) : sQ W0 299 [pV sb] (eA sb i rb cb clock x id R) (.agg (dp (l5 x (if vZ i.op (d6 x.rl i.a) (d6 x.rl i.b) then farN x.pc i.im else df x.pc)).1).toArray) (eA sb i rb cb clock (l5 x (if vZ i.op (d6 x.rl i.a) (d6 x.rl i.b) then farN x.pc i.im else df x.pc)).2 id R) := by
 obtain ⟨z, hz⟩ : ∃ z, vZ i.op (d6 x.rl i.a) (d6 x.rl i.b) = z := ⟨_, rfl⟩
 refine ac func299 ntmps299 ?_
 refine bB fun b1 => ?_
 refine bu [sb] 25 fun hS => ?_
 refine ae 0 11 hS ?_
 refine ae 12 6 hS ?_
 refine bF 11 (cJ qC (oK W0 _ sb i rb cb clock x hx i.a ha)) fun hS => ?_
 refine bF 18 (cJ qC (oK W0 _ sb i rb cb clock x hx i.b hb)) fun hS => ?_
 refine cg 19 (ar call365 (a0D W0 _ (d6 x.rl i.a) (d6 x.rl i.b) i.op h)) ?_; clear hS
 rintro _ B_ ⟨rfl, hB_⟩
 obtain rfl := hB_.symm
 rw [hz]
 refine ⟨aF, fun hS => ?_⟩
 refine ae 20 5 hS ?_
 refine aK ?_
 refine ah (fun c2 => ?_) fun c2 => ?_
 rw [Qae c2]
 refine ag (cJ call367 (J3 W0 _ sb i rb cb clock x hx)) ?_
 refine ag (cJ AD (xb W0 _ sb i rb cb clock x hx (farN x.pc i.im))) ?_
 refine aB aD ?_
 exact bH (.cons (bM hJ fP rfl rfl) .nil) ai
 rw [Qab c2]
 refine ag (cJ rS (qg W0 _ sb i rb cb clock x hx)) ?_
 refine ag (cJ AD (xb W0 _ sb i rb cb clock x hx (df x.pc))) ?_
 refine aB aD ?_
 exact bH (.cons (bM hJ fP rfl rfl) .nil) ai
theorem a00 (hx : CpOk x) (hi : i.d < 16) (ha : i.a < 16) : sQ W0 300 [pV sb] (eA sb i rb cb clock x id R) (.agg (dp (jc i x (df x.pc) (if i.op = 33 then oy (d6 x.rl i.a) i.im else farN x.pc i.im)).1).toArray) (eA sb i rb cb clock (jc i x (df x.pc) (if i.op = 33 then oy (d6 x.rl i.a) i.im else farN x.pc i.im)).2 id R) := by
 refine ac func300 ntmps300 ?_
 refine bB fun b2 => ?_
 refine mQ (b := b2) (o' := a8 (dp uA) 255) rfl ?_
 refine aw ?_
 refine dE 3 (cJ call367 (J3 W0 _ sb i rb cb clock x hx)) ?_
 refine ec (fun _ : Unit => True) (fun _ => [(0, pV sb), (2, pV b2), (3, wV (if i.op = 33 then oy (d6 x.rl i.a) i.im else farN x.pc i.im))]) (fun _ => pt b2 (a8 (dp uA) 255) :: eA sb i rb cb clock x id R) ?_ ?_
 refine au 10 ?_
 refine ah (fun c2 => ?_) fun c2 => ?_
 refine bu [sb] 15 fun hS => ?_
 refine ae 0 6 hS ?_
 refine ae 7 5 hS ?_
 refine ax 12 hS (cR (gQ i.im)) ?_
 refine bF 6 (cJ qC (oK W0 _ sb i rb cb clock x hx i.a ha)) fun hS => ?_
 refine ax 13 hS (dx rfl rfl (gQ _)) ?_
 refine ae 14 1 hS ?_
 refine aK ?_
 refine i5 () ?_ ?_ ?_
 trivial
 · rw [Qae (by omega)]
   repeat (first | exact cI | refine cj rfl ?_)
 exact IO
 refine i5 () ?_ ?_ ?_
 trivial
 · rw [Qab (by omega)]
   repeat (first | exact cI | refine cj rfl ?_)
 exact IO
 intro _ _
 refine aw ?_
 refine ag (cJ rS (qg W0 _ sb i rb cb clock x hx)) ?_
 refine ag (cJ AE (xd W0 _ sb i rb cb clock x hx hi (df x.pc) (if i.op = 33 then oy (d6 x.rl i.a) i.im else farN x.pc i.im) (dG _))) ?_
 refine aB aD ?_
 exact bH (.cons (bM hJ fP rfl rfl) .nil) ai
theorem a01 (hx : CpOk x) : sQ W0 372 [pV sb] (eA sb i rb cb clock x id R) (.agg (dp ⟨sZ i.op, df x.pc, 0, 0, false, 0, 0, 0, 0⟩).toArray) (eA sb i rb cb clock x id R) := by
 refine ac func372 ntmps372 ?_
 refine dR (da oX) fun b2 => ?_
 refine au 3 ?_
 refine mQ (b := b2) (o' := a8 (dp uA) 255) rfl ?_
 refine au 4 ?_
 refine ec (fun _ : Unit => True) (fun _ => [(0, pV sb), (2, pV b2), (3, iQ ((sZ i.op : Nat) : Int))]) (fun _ => pt b2 (a8 (dp uA) 255) :: eA sb i rb cb clock x id R) ?_ ?_
 refine au 16 ?_
 refine ah (fun c3 => ?_) fun c3 => ?_
 refine i5 () ?_ ?_ ?_
 trivial
 · rw [sZ, Qae (by omega)]
   repeat (first | exact cI | refine cj rfl ?_)
 exact IO
 refine ah (fun c5 => ?_) fun c5 => ?_
 refine i5 () ?_ ?_ ?_
 trivial
 · rw [sZ, Qab (by omega), Qae (by omega)]
   repeat (first | exact cI | refine cj rfl ?_)
 exact IO
 refine i5 () ?_ ?_ ?_
 trivial
 · rw [sZ, Qab (by omega), Qab (by omega)]
   repeat (first | exact cI | refine cj rfl ?_)
 exact IO
 intro _ _
 refine aw ?_
 refine ao rfl (B6 rS rfl (qg W0 _ sb i rb cb clock x hx)) ?_
 rintro _ B_ ⟨rfl, hB_⟩
 obtain rfl := hB_.symm
 refine ab rfl (eg Aj oX (aG aO (aG bL (aG bL (aG aO (aG nk (aG aO (aG bL (aG bL (aG bL ee))))))))) (cm rfl aO rfl rfl (Qaa rfl) SetL.eq (cm rfl bL rfl rfl (Qaa rfl) SetL.eq ed))) ?_
 refine eu (gD fP rfl rfl rfl rfl rfl) ?_
 rintro _ _ rfl
 refine aM (aC (dC ?_))
 exact bH (.cons (bM hJ fP rfl rfl) .nil) ai
theorem J4 (hx : CpOk x) (h : i.op = 34 ∨ i.op = 41) : sQ W0 368 [pV sb] (eA sb i rb cb clock x id R) (.agg (dp (if i.op = 34 then kZ 6 0 else kZ 8 x.pc)).toArray) (eA sb i rb cb clock x id R) := by
 refine ac func368 ntmps368 ?_
 refine bB fun b1 => ?_
 refine ah (fun c1 => ?_) fun c1 => ?_
 refine ag (aj vt (td rb x.rl x.pc hx.r.len)) ?_
 refine ag (ar xT (v2 8 x.pc)) ?_
 refine aB aD ?_
 refine bH (.cons (bM hJ fP rfl rfl) .nil) ?_
 rw [Qab (by omega)]
 exact ai
 refine ag (ar xT (v2 6 0)) ?_
 refine aB aD ?_
 refine bH (.cons (bM hJ fP rfl rfl) .nil) ?_
 rw [Qae (by omega)]
 exact ai
theorem a02 (hx : CpOk x) : sQ W0 369 [pV sb] (eA sb i rb cb clock x id R) (.agg (dp (l5 { x with cs := qR x.cs } (dH x.cs 2)).1).toArray) (eA sb i rb cb clock (l5 { x with cs := qR x.cs } (dH x.cs 2)).2 id R) := by
 refine ac func369 ntmps369 ?_
 refine bB fun b1 => ?_
 refine ag (aj call419 (a0o cb hx.cs)) ?_
 refine ag (cJ AD (xb W0 _ sb i rb cb clock x hx (dH x.cs 2))) ?_
 refine aB aD ?_
 exact bH (.cons (bM hJ fP rfl rfl) .nil) ai
theorem a03 (hx : CpOk x) (hi : i.d < 16) (hid : id < 4) (hc : 0 ≤ clock) (hk : ew x.cs = true) (n : Nat) (hn : i.im = (n : Int)) (h9 : n < 9) : sQ W0 370 [pV sb] (eA sb i rb cb clock x id R) (.agg (dp (jc i x (qS x.cs id clock.toNat n) (df x.pc)).1).toArray) (eA sb i rb cb clock (jc i x (qS x.cs id clock.toNat n) (df x.pc)).2 id R) := by
 obtain ⟨op, d, a, b, im⟩ := i
 dsimp only at hn hi
 subst hn
 refine ac func370 ntmps370 ?_
 refine bB fun b1 => ?_
 refine bu [sb] 19 fun hS => ?_
 refine ae 0 13 hS ?_
 refine cg 13 (aj call293 (IM cb hx.cs hid n h9 clock hc)) ?_; clear hS
 rintro _ B_ ⟨rfl, hB_⟩
 obtain rfl := hB_.symm
 rw [hk, Qae rfl]
 refine ⟨aF, fun hS => ?_⟩
 refine ae 14 5 hS ?_
 refine aK ?_
 refine ag (cJ rS (qg W0 _ sb ⟨op, d, a, b, n⟩ rb cb clock x hx)) ?_
 refine ag (cJ AE (xd W0 _ sb ⟨op, d, a, b, n⟩ rb cb clock x hx hi (qS x.cs id clock.toNat n) (df x.pc) (Gb hx.cs hid))) ?_
 refine aB aD ?_
 exact bH (.cons (bM hJ fP rfl rfl) .nil) ai
theorem CS {W0 : World} {R : List HP} (hH : ∀ A, aR (az W0 A) 0 0 gz) (i : Ins) (hv : kc i = true) : sQ W0 218 [.agg (tG i).toArray] R (wV (pI i)) R := by
 refine ac func218 ntmps218 ?_
 refine aV fun b1 => ?_
 refine ag (ar call294 (a0S hH i hv)) ?_
 exact aa ai
theorem a04 (hH : ∀ A, aR (az W0 A) 0 0 gz) (hx : CpOk x) (hv : kc i = true) (ha : i.a < 16) (hk : ew x.cs = true) (n : Nat) (hn : i.im = (n : Int)) (h9 : n < 9) : sQ W0 371 [pV sb] (eA sb i rb cb clock x id R) (.agg (dp (if n ≤ 6 then l5 { x with cs := x.cs.set n (lG n (d6 x.rl i.a)) } (df x.pc) else (kZ 1 (pI i), x)).1).toArray) (eA sb i rb cb clock (if n ≤ 6 then l5 { x with cs := x.cs.set n (lG n (d6 x.rl i.a)) } (df x.pc) else (kZ 1 (pI i), x)).2 id R) := by
 obtain ⟨op, d, a, b, im⟩ := i
 dsimp only at hn ha ⊢
 subst hn
 refine ac func371 ntmps371 ?_
 refine bB fun b1 => ?_
 refine bu [sb] 18 fun hS => ?_
 refine ae 0 15 hS ?_
 refine bF 15 (cJ qC (oK W0 _ sb ⟨op, d, a, b, n⟩ rb cb clock x hx a ha)) fun hS => ?_
 refine bF 16 (aj call420 (a0k cb hx.cs n (d6 x.rl a) h9 (hx.r.at_ a) hk)) fun hS => ?_
 refine ae 17 1 hS ?_
 refine aK ?_
 refine ah (fun c2 => ?_) fun c2 => ?_
 have h6 : ¬ n ≤ 6 := fun q => by rw [Qae q] at c2; exact absurd rfl c2
 simp only [Qab h6]
 refine a7 (bZ (nq (vs := tG ⟨op, d, a, b, n⟩) rfl)) ?_
 refine ag (ar M3 (CS hH ⟨op, d, a, b, n⟩ hv)) ?_
 refine ag (ar xT (v2 1 (pI ⟨op, d, a, b, n⟩))) ?_
 refine aB aD ?_
 exact bH (.cons (bM hJ fP rfl rfl) .nil) ai
 have h6 : n ≤ 6 := by
  omega
 simp only [Qae h6]
 refine ag (cJ rS (qg W0 _ sb ⟨op, d, a, b, n⟩ rb cb clock x hx)) ?_
 refine ag (cJ AD (xb W0 _ sb ⟨op, d, a, b, n⟩ rb cb clock x hx (df x.pc))) ?_
 refine aB aD ?_
 exact bH (.cons (bM hJ fP rfl rfl) .nil) ai
theorem n1 {f : FuncId} {o o' : Eff × Cpu} (hc : ∀ args w, (callFunc f args).run Tryz.prog w = .ok (.enter f args) w) (e : o = o') (h : ∀ R, aZ Tryz.prog W0 f [pV sb] (eA sb i rb cb clock x id R) (fun v B => v = .agg (dp o'.1).toArray ∧ B = eA sb i rb cb clock o'.2 id R)) : CR W0 sb i rb cb clock x id f o := ⟨hc, by rw [e]; exact h⟩
theorem J5 {i : Ins} (hv : kc i = true) (h : i.op = 37 ∨ i.op = 38) : ∃ n : Nat, i.im = (n : Int) ∧ n < 9 := by
 have := (yA hv).2.2.2.2
 rw [eT, Qab (by omega), Qae h] at this
 have := Qat this
 exact ⟨i.im.toNat, by omega, by omega⟩
theorem a05 (hH : ∀ A, aR (az W0 A) 0 0 gz) (hx : CpOk x) (hv : kc i = true) (hid : id < 4) (hc : 0 ≤ clock) (h : 34 ≤ i.op) (hk : kC i.op = true → ew x.cs = true) : sP W0 301 [pV sb] (eA sb i rb cb clock x id R) (fun v B => ∃ f, v = .func (.func f) #[pV sb] #[] ∧ B = eA sb i rb cb clock x id R ∧ CR W0 sb i rb cb clock x id f (oz id clock.toNat i x)) := by
 obtain ⟨h1, hd, ha, hb, him⟩ := yA hv
 refine ac func301 ntmps301 ?_
 refine ah (fun c2 => ?_) fun c2 => ?_
 refine aa ?_
 refine ⟨_, ⟨_, rfl, rfl, n1 W0 sb i rb cb clock x id (o' := (if i.op = 34 then kZ 6 0 else kZ 8 x.pc, x)) call368 ?_ fun R => J4 W0 R sb i rb cb clock x id hx (by omega)⟩, IO⟩
 unfold oz
 split
 rfl
 rw [Qae (by omega)]
 refine ah (fun c3 => ?_) fun c3 => ?_
 refine aa ?_
 refine ⟨_, ⟨_, rfl, rfl, n1 W0 sb i rb cb clock x id (o' := (if i.op = 34 then kZ 6 0 else kZ 8 x.pc, x)) call368 ?_ fun R => J4 W0 R sb i rb cb clock x id hx (by omega)⟩, IO⟩
 unfold oz
 split
 rfl
 rw [Qae (by omega)]
 refine ah (fun c5 => ?_) fun c5 => ?_
 refine aa ?_
 refine ⟨_, ⟨_, rfl, rfl, n1 W0 sb i rb cb clock x id call369 ?_ fun R => a02 W0 R sb i rb cb clock x id hx⟩, IO⟩
 rw [oz, Qab (by omega), Qab (by omega), Qae (by omega)]
 refine ah (fun c7 => ?_) fun c7 => ?_
 refine aa ?_
 obtain ⟨n, hn, h9⟩ := J5 hv (by omega)
 refine ⟨_, ⟨_, rfl, rfl, n1 W0 sb i rb cb clock x id call370 ?_ fun R => a03 W0 R sb i rb cb clock x id hx hd hid hc (hk (Qaw (by omega))) n hn h9⟩, IO⟩
 rw [oz, Qab (by omega), Qab (by omega), Qab (by omega), Qae (by omega), hn, Qal]
 refine ah (fun c9 => ?_) fun c9 => ?_
 refine aa ?_
 obtain ⟨n, hn, h9⟩ := J5 hv (by omega)
 refine ⟨_, ⟨_, rfl, rfl, n1 W0 sb i rb cb clock x id call371 ?_ fun R => a04 W0 R sb i rb cb clock x id hH hx hv ha (hk (Qaw (by omega))) n hn h9⟩, IO⟩
 rw [oz, Qab (by omega), Qab (by omega), Qab (by omega), Qab (by omega), Qae (by omega), hn, Qal]
 refine aa ?_
 refine ⟨_, ⟨_, rfl, rfl, n1 W0 sb i rb cb clock x id (o' := (⟨sZ i.op, df x.pc, 0, 0, false, 0, 0, 0, 0⟩, x)) call372 ?_ fun R => a01 W0 R sb i rb cb clock x id hx⟩, IO⟩
 rw [oz, Qab (by omega), Qab (by omega), Qab (by omega), Qab (by omega), Qab (by omega)]
theorem zH (hH : ∀ A, aR (az W0 A) 0 0 gz) (hx : CpOk x) (hv : kc i = true) (hid : id < 4) (hc : 0 ≤ clock) (hk : kC i.op = true → ew x.cs = true) : sP W0 219 [pV sb] (eA sb i rb cb clock x id R) (fun v B => ∃ f, v = .func (.func f) #[pV sb] #[] ∧ B = eA sb i rb cb clock x id R ∧ CR W0 sb i rb cb clock x id f (nF id clock.toNat i x)) := by
 obtain ⟨h1, hd, ha, hb, him⟩ := yA hv
 refine ac func219 ntmps219 ?_
 refine ah (fun c2 => ?_) fun c2 => ?_
 refine aa ?_
 refine ⟨_, ⟨_, rfl, rfl, n1 W0 sb i rb cb clock x id call295 ?_ fun R => a0V W0 R sb i rb cb clock x id hx hd ha hb (by omega)⟩, IO⟩
 rw [nF, Qae (by omega)]
 refine ah (fun c4 => ?_) fun c4 => ?_
 refine aa ?_
 refine ⟨_, ⟨_, rfl, rfl, n1 W0 sb i rb cb clock x id call296 ?_ fun R => a0W W0 R sb i rb cb clock x id hx hd ha (by omega)⟩, IO⟩
 rw [nF, Qab (by omega), Qae (by omega)]
 refine ah (fun c6 => ?_) fun c6 => ?_
 refine aa ?_
 refine ⟨_, ⟨_, rfl, rfl, n1 W0 sb i rb cb clock x id call297 ?_ fun R => a0X W0 R sb i rb cb clock x id hx hd⟩, IO⟩
 rw [nF, Qab (by omega), Qab (by omega), Qae (by omega)]
 refine ah (fun c8 => ?_) fun c8 => ?_
 refine aa ?_
 refine ⟨_, ⟨_, rfl, rfl, n1 W0 sb i rb cb clock x id (o' := (uB i x, x)) call298 ?_ fun R => a0Y W0 R sb i rb cb clock x id hx ha hb (by omega)⟩, IO⟩
 rw [nF, Qab (by omega), Qab (by omega), Qab (by omega), Qae (by omega)]
 refine ah (fun c10 => ?_) fun c10 => ?_
 refine aa ?_
 refine ⟨_, ⟨_, rfl, rfl, n1 W0 sb i rb cb clock x id call299 ?_ fun R => a0Z W0 R sb i rb cb clock x id hx ha hb (by omega)⟩, IO⟩
 rw [nF, Qab (by omega), Qab (by omega), Qab (by omega), Qab (by omega), Qae (by omega)]
 refine ah (fun c12 => ?_) fun c12 => ?_
 refine aa ?_
 refine ⟨_, ⟨_, rfl, rfl, n1 W0 sb i rb cb clock x id call300 ?_ fun R => a00 W0 R sb i rb cb clock x id hx hd ha⟩, IO⟩
 rw [nF, Qab (by omega), Qab (by omega), Qab (by omega), Qab (by omega), Qab (by omega), Qae (by omega)]
 refine ao rfl (dT call301 (a05 W0 _ sb i rb cb clock x id hH hx hv hid hc (by omega) hk)) ?_
 rintro _ B_ ⟨f, rfl, hB_, hf⟩
 obtain rfl := hB_.symm
 rw [show oz id clock.toNat i x = nF id clock.toNat i x by rw [nF, Qab (by omega), Qab (by omega), Qab (by omega), Qab (by omega), Qab (by omega), Qab (by omega)]] at hf
 refine aw ?_
 refine aa ?_
 exact ⟨_, ⟨f, rfl, rfl, hf⟩, IO⟩
theorem a06 {W0 : World} {R : List HP} (cb : Nat) (cs : List Nat) (id : Nat) (h : CsOk cs) (hid : id < 4) : sQ W0 215 [pV cb] (pt cb (dv cs id) :: R) (.bool false) (pt cb (dv cs id) :: R) := by
 refine ac func215 ntmps215 ?_
 refine ag (aj call293 (IM cb h hid 0 (by decide) 0 (by decide))) ?_
 refine aa ?_
 refine aQ ?_
 cases ew cs <;> rfl
theorem CU (hH : ∀ A, aR (az W0 A) 0 0 gz) (hx : CpOk x) (hv : kc i = true) (hid : id < 4) (hc : 0 ≤ clock) : sQ W0 139 [.agg (tG i).toArray, pV rb, pV cb, iQ clock] (pt rb (dt x.rl x.pc) :: pt cb (dv x.cs id) :: R) (.tuple #[.agg (dp (mW id clock.toNat i x).1).toArray, iQ 0]) (pt rb (dt (mW id clock.toNat i x).2.rl (mW id clock.toNat i x).2.pc) :: pt cb (dv (mW id clock.toNat i x).2.cs id) :: R) := by
 obtain ⟨kb, hkb⟩ : ∃ k, ew x.cs = k := ⟨_, rfl⟩
 obtain ⟨ki, hki⟩ : ∃ k, kC i.op = k := ⟨_, rfl⟩
 have hz : ∀ z : Bool, (z && false) = false := fun z => by cases z <;> rfl
 rw [mW, hkb, hki]
 refine ac func139 ntmps139 ?_
 refine aV fun b4 => ?_
 refine bB fun b8 => ?_
 refine ag (aj call148 (HI rb x.rl x.pc 0 hx.r.len (by decide))) ?_
 refine ah (fun c2 => ?_) fun c2 => ?_
 exact absurd rfl c2
 refine ag (aj call214 (a0l cb hx.cs)) ?_
 refine a7 (Bi mF bL Lw rfl) ?_
 refine a7 (rZ Tryz.eqGuardType354 rfl rfl (GP (i := Tryz.t62) (ms := x.cs.map Int.ofNat) (ns := [0, 0, 0, 0, 0, 0, 0]) mF (by kernel_rfl) (by kernel_rfl) Lr tX (by rw [List.map_map]; rfl) rfl (by rw [QaA]; exact hx.cs.len) rfl)) ?_
 refine cA (fun g4_5 => ?_) fun g4_5 => ?_
 refine dE 3 (aj call215 (a06 cb x.cs id hx.cs hid)) ?_
 refine aA rfl (fun c4 => ?_) fun c4 => ?_
 first | exact absurd c4 (by decide) | (cases c4)
 refine aw ?_
 refine ag (ar Er (zF hH i)) ?_
 refine aA rfl (fun c6 => ?_) fun c6 => ?_
 rw [hv] at c6; exact absurd c6 (by decide)
 refine aw ?_
 refine ag (ar call216 (J2 i.op)) ?_
 rw [hki]
 refine cA (fun g8_4 => ?_) fun g8_4 => ?_
 refine ag (aj AF (xa cb hx.cs)) ?_
 rw [show uY x.cs = [.bool (kA x.cs), iQ (kB x.cs), .bool (!kb)] by rw [uY, hkb]]
 refine a7 (HA rfl Ld rfl mD rfl) ?_
 refine ah (fun c8 => ?_) fun c8 => ?_
 refine ag (ar M3 (CS hH i hv)) ?_
 refine ag (ar xT (v2 7 (pI i))) ?_
 refine aB aD ?_
 refine bH (.cons (bM hJ fP rfl rfl) (.cons (bP rfl) .nil)) ?_
 rw [Qae (by grind)]
 exact ai
 have hnk : kC i.op = true → ew x.cs = true := fun q => by
  rw [hki] at q
  rw [hkb]
  first | (simpa using c8) | (subst q; exact absurd rfl g8_4) | exact absurd q g8_4
 have hno : (ki && !kb) = false := by
  grind
 rw [hno, Qab (by decide)]
 refine a7 (eg Am Et (aG oV (aG rM (aG rN (aG aO ee)))) (ge rfl oV rfl rfl (Qaa rfl) SetRL.eq (cm rfl rM rfl rfl (Qaa rfl) SetL.eq (cm rfl rN rfl rfl (Qaa rfl) SetL.eq (cm rfl aO rfl rfl (Qaa rfl) SetL.eq ed))))) ?_
 refine aV fun sb => ?_
 refine ao rfl (dT Eu (zH W0 _ sb i rb cb clock x id hH hx hv hid hc hnk)) ?_
 rintro _ B_ ⟨f, rfl, hB_, hf⟩
 obtain rfl := hB_.symm
 refine aw ?_
 refine ag (jn px (fQ (us := [pV sb]) (cs := []) rfl hf.1 rfl (hf.2 _))) ?_
 refine aB aD ?_
 exact bH (.cons (bM hJ fP rfl rfl) (.cons (bP rfl) .nil)) ai
 have hnk : kC i.op = true → ew x.cs = true := fun q => by
  rw [hki] at q
  rw [hkb]
  first | (simpa using c8) | (subst q; exact absurd rfl g8_4) | exact absurd q g8_4
 have hno : (ki && !kb) = false := by
  grind
 rw [hno, Qab (by decide)]
 refine a7 (eg Am Et (aG oV (aG rM (aG rN (aG aO ee)))) (ge rfl oV rfl rfl (Qaa rfl) SetRL.eq (cm rfl rM rfl rfl (Qaa rfl) SetL.eq (cm rfl rN rfl rfl (Qaa rfl) SetL.eq (cm rfl aO rfl rfl (Qaa rfl) SetL.eq ed))))) ?_
 refine aV fun sb => ?_
 refine ao rfl (dT Eu (zH W0 _ sb i rb cb clock x id hH hx hv hid hc hnk)) ?_
 rintro _ B_ ⟨f, rfl, hB_, hf⟩
 obtain rfl := hB_.symm
 refine aw ?_
 refine ag (jn px (fQ (us := [pV sb]) (cs := []) rfl hf.1 rfl (hf.2 _))) ?_
 refine aB aD ?_
 exact bH (.cons (bM hJ fP rfl rfl) (.cons (bP rfl) .nil)) ai
 refine ag (ar Er (zF hH i)) ?_
 refine aA rfl (fun c6 => ?_) fun c6 => ?_
 rw [hv] at c6; exact absurd c6 (by decide)
 refine aw ?_
 refine ag (ar call216 (J2 i.op)) ?_
 rw [hki]
 refine cA (fun g8_4 => ?_) fun g8_4 => ?_
 refine ag (aj AF (xa cb hx.cs)) ?_
 rw [show uY x.cs = [.bool (kA x.cs), iQ (kB x.cs), .bool (!kb)] by rw [uY, hkb]]
 refine a7 (HA rfl Ld rfl mD rfl) ?_
 refine ah (fun c8 => ?_) fun c8 => ?_
 refine ag (ar M3 (CS hH i hv)) ?_
 refine ag (ar xT (v2 7 (pI i))) ?_
 refine aB aD ?_
 refine bH (.cons (bM hJ fP rfl rfl) (.cons (bP rfl) .nil)) ?_
 rw [Qae (by grind)]
 exact ai
 have hnk : kC i.op = true → ew x.cs = true := fun q => by
  rw [hki] at q
  rw [hkb]
  first | (simpa using c8) | (subst q; exact absurd rfl g8_4) | exact absurd q g8_4
 have hno : (ki && !kb) = false := by
  grind
 rw [hno, Qab (by decide)]
 refine a7 (eg Am Et (aG oV (aG rM (aG rN (aG aO ee)))) (ge rfl oV rfl rfl (Qaa rfl) SetRL.eq (cm rfl rM rfl rfl (Qaa rfl) SetL.eq (cm rfl rN rfl rfl (Qaa rfl) SetL.eq (cm rfl aO rfl rfl (Qaa rfl) SetL.eq ed))))) ?_
 refine aV fun sb => ?_
 refine ao rfl (dT Eu (zH W0 _ sb i rb cb clock x id hH hx hv hid hc hnk)) ?_
 rintro _ B_ ⟨f, rfl, hB_, hf⟩
 obtain rfl := hB_.symm
 refine aw ?_
 refine ag (jn px (fQ (us := [pV sb]) (cs := []) rfl hf.1 rfl (hf.2 _))) ?_
 refine aB aD ?_
 exact bH (.cons (bM hJ fP rfl rfl) (.cons (bP rfl) .nil)) ai
 have hnk : kC i.op = true → ew x.cs = true := fun q => by
  rw [hki] at q
  rw [hkb]
  first | (simpa using c8) | (subst q; exact absurd rfl g8_4) | exact absurd q g8_4
 have hno : (ki && !kb) = false := by
  grind
 rw [hno, Qab (by decide)]
 refine a7 (eg Am Et (aG oV (aG rM (aG rN (aG aO ee)))) (ge rfl oV rfl rfl (Qaa rfl) SetRL.eq (cm rfl rM rfl rfl (Qaa rfl) SetL.eq (cm rfl rN rfl rfl (Qaa rfl) SetL.eq (cm rfl aO rfl rfl (Qaa rfl) SetL.eq ed))))) ?_
 refine aV fun sb => ?_
 refine ao rfl (dT Eu (zH W0 _ sb i rb cb clock x id hH hx hv hid hc hnk)) ?_
 rintro _ B_ ⟨f, rfl, hB_, hf⟩
 obtain rfl := hB_.symm
 refine aw ?_
 refine ag (jn px (fQ (us := [pV sb]) (cs := []) rfl hf.1 rfl (hf.2 _))) ?_
 refine aB aD ?_
 exact bH (.cons (bM hJ fP rfl rfl) (.cons (bP rfl) .nil)) ai
end
def rB (r : Int) (a0 a1 a2 : Bool) : Int :=
  let x0 := fi .i64 r 8
  let x1 := if fi .i64 r 4 ≠ 0 ∧ a0 = true then jX .i64 x0 4 else x0
  let x2 := if fi .i64 r 1 ≠ 0 ∧ a1 = true then jX .i64 x1 1 else x1
  if fi .i64 r 2 ≠ 0 ∧ a2 = true then jX .i64 x2 2 else x2
theorem a07 (pg : List Pl) (r p : Int) : fJ pg r p 3 = rB r (decide (ig pg p 0 = 0)) (decide (ig pg p 1 = 0)) (decide (ig pg p 2 = 0)) := by
 grind [fJ, rB, oJ]
theorem a08 : ∀ n : Nat, n < 16 → ∀ a0 a1 a2 : Bool, (0 ≤ rB (n : Int) a0 a1 a2 ∧ rB (n : Int) a0 a1 a2 < 16) ∧ (en (rB (n : Int) a0 a1 a2) 1 = true → en (n : Int) 1 = true ∧ a1 = true) ∧ (en (rB (n : Int) a0 a1 a2) 2 = true → en (n : Int) 2 = true ∧ a2 = true) ∧ (en (rB (n : Int) a0 a1 a2) 4 = true → en (n : Int) 4 = true ∧ a0 = true) ∧ (en (rB (n : Int) a0 a1 a2) 8 = true → en (n : Int) 8 = true) := by
 decide +kernel
theorem a09 (pg : List Pl) (n : Nat) (hn : n < 16) (p : Int) : (0 ≤ fJ pg (n : Int) p 3 ∧ fJ pg (n : Int) p 3 < 16) ∧ (∀ k, nM k = true → en (fJ pg (n : Int) p 3) (ju k) = true → ig pg p k = 0) ∧ ∀ c, c = 1 ∨ c = 2 ∨ c = 4 ∨ c = 8 → en (fJ pg (n : Int) p 3) c = true → en (n : Int) c = true := by
 obtain ⟨h0, h1, h2, h4, h8⟩ := a08 n hn (decide (ig pg p 0 = 0)) (decide (ig pg p 1 = 0)) (decide (ig pg p 2 = 0))
 rw [a07]
 refine ⟨h0, fun k hk hb => ?_, fun c hc hb => ?_⟩
 have hk := Qat hk
 rcases hk with rfl | rfl | rfl
 exact Qat (h4 hb).2
 exact Qat (h1 hb).2
 exact Qat (h2 hb).2
 grind
theorem a1a {a b : Nat} (h : a / 64 = b / 64) : a / 1024 = b / 1024 := by omega
theorem a1b {fr : List ap} {pg : List Pl} {root : Int} {va va' : Nat} (h : WkOkM fr pg root va) (hv : va' < 16384) (he : va' / 64 = va / 64) : bO fr pg root va' = bO fr pg root va ∧ fq fr pg va' root = fq fr pg va root := by
 have hu := a1a he
 have e1 : fq fr pg va' root = fq fr pg va root := by grind [fq]
 have e2 : jy fr pg va' root = jy fr pg va root := by grind [jy]
 have e3 : ∀ s, lk fr pg va' root s = lk fr pg va root s := fun s => by unfold lk; rw [hu]
 refine ⟨?_, e1⟩
 rw [bO, bO, Qae hv, Qae h.lim, e2, h.rb, Qae rfl, Qae rfl]
 simp only [eY]
 rw [e1, e3]
 unfold qd
 rw [he]
theorem a1c {fr : List ap} {pg : List Pl} {root : Int} {va : Nat} (h : WkOkM fr pg root va) (hp : aX pg (bO fr pg root va).p = true) :
    LOk fr pg 0 ⟨du root va, ((bO fr pg root va).p, (bS pg (bO fr pg root va).p).1, fJ pg (bO fr pg root va).r (bO fr pg root va).p 3), (bO fr pg root va).root, (bO fr pg root va).leaf⟩ := by
 obtain ⟨s, hs⟩ : ∃ s, bO fr pg root va = s := ⟨_, rfl⟩
 have he := h.eq
 rw [hs] at he hp ⊢
 have hn : ∃ n : Nat, s.r = (n : Int) ∧ n < 16 := ⟨pP (eM fr pg (fq fr pg va root) (va / 64)), by rw [he], by unfold pP; split; decide; exact H7 _⟩
 obtain ⟨n, hn, hn16⟩ := hn
 obtain ⟨g1, g2, g3⟩ := a09 pg n hn16 s.p
 rw [← hn] at g1 g2 g3
 have hon : s.on = true := by
  rw [he]
  have hl := h.lf
  unfold pS at hl
  show pO _ = true
  unfold pO
  split at hl
  omega
  grind [uK]
 have hrt : s.root = root := by rw [he]
 have hlf : s.leaf = fq fr pg va root := by rw [he]
 refine ⟨⟨?_, ?_⟩, ⟨hp, rfl⟩, g2, g1, fun _ _ va' hv hk => ?_⟩
 show 0 ≤ s.root ∧ s.root < 8
 rw [hrt]; exact (t8.1 (zy.1 h.rb).1).1
 show 0 ≤ s.leaf ∧ s.leaf < 8
 rw [hlf]; exact (t8.1 h.lt).1
 have hk' : va' / 64 = va / 64 := by
  have : ((va' / 64 : Nat) : Int) = ((va / 64 : Nat) : Int) := hk
  omega
 obtain ⟨e1, e2⟩ := a1b h hv hk'
 show WkOkM fr pg root va' ∧ root = s.root ∧ fq fr pg va' root = s.leaf ∧ (bO fr pg root va').on = true ∧ (bO fr pg root va').p = s.p ∧ ∀ c, c = 1 ∨ c = 2 ∨ c = 4 ∨ c = 8 → en (fJ pg s.r s.p 3) c = true → en (bO fr pg root va').r c = true
 rw [e1, e2, hs]
 refine ⟨zA (by grind), hrt.symm, hlf.symm, hon, rfl, fun c hc hb => ?_⟩
 exact g3 c hc hb
theorem MOk.fill {fr : List ap} {pg : List Pl} {L : List Ln} {T T' : List It} (h : MOk fr pg 0 L T) {k : cC} {e : iW} {r l : Int} (room now : Nat) (hz : LOk fr pg 0 ⟨k, e, r, l⟩)
    (hT : ∀ y ∈ T', y ∈ mn room now k (jP k e r l L).e (jx (kI L r l) T) ∧ (jv y.key (kJ k e r l L)).isSome = true) : MOk fr pg 0 (kJ k e r l L) T' := by
 refine ⟨h.F, by decide, h.P, h.pl, (h.ti.fill k e r l room now).sub' fun y hy => QaI.2 (hT y hy), fun x hx => ?_⟩
 rw [Cx k e r l L h.ti.len] at hx
 rcases Qbg.1 hx with q | q
 obtain ⟨z, hz2, rfl⟩ := QaS.1 q
 have := h.ln z (Cw hz2).1
 unfold dh; split
 exact this.nar
 exact this
 obtain rfl : x = jP k e r l L := by simpa using q
 rcases Cy k e r l L with z | z
 grind
 rw [z]; exact hz.nar
theorem a1d {its T : List It} {now : Nat} (l : List Int) : ∀ {its T : List It}, Rep its now T → Rep (jx l its) now (jx l T) := by
 induction l with
 | nil => exact fun h => h
 | cons p l ih => exact fun h => ih (h.nar p)
theorem J6 (l : List Int) : ∀ T : List It, (jx l T).length = T.length := by
 induction l with
 | nil => exact fun _ => rfl
 | cons p l ih => exact fun T => (ih _).trans (QaA _)
theorem a1e (l : List Int) (p : Int) (T : List It) : jx (l ++ [p]) T = (jx l T).map (iG p) := by simp [jx, List.foldl_append]
theorem a1f (l : List Int) : ∀ {T : List It}, (∀ y ∈ T, i64 y.er) → ∀ y ∈ jx l T, i64 y.er := by
 induction l with
 | nil => exact fun h => h
 | cons p l ih =>
  intro T h
  refine ih fun y hy => ?_
  obtain ⟨z, hz, rfl⟩ := QaS.1 hy
  exact YK (h z hz)
theorem MOk.er {fr : List ap} {pg : List Pl} {d : Nat} {L : List Ln} {T : List It} (h : MOk fr pg d L T) {its : List It} {now : Nat} (hR : Rep its now T) : ∀ y ∈ its, i64 y.er := fun y hy => by
 obtain ⟨x, hx, _, e⟩ := h.ti.sub y (hR.perm.mem_iff.1 hy)
 have := (h.ln x hx).r
 have e2 : y.er = x.e.2.2 := by rw [e]; rfl
 rw [e2]
 exact ⟨by omega, by omega⟩
theorem MOk.ei {fr : List ap} {pg : List Pl} {d : Nat} {L : List Ln} {T : List It} (h : MOk fr pg d L T) : ∀ x ∈ L, i64 x.e.2.2 := fun x hx => by
 have := (h.ln x hx).r
 exact ⟨by omega, by omega⟩
theorem a1g (W0 : World) (R : List HP) (hK : ∀ A, aR (az W0 A) 1 0 fg) (ba bm pv bt bs ps pm : Nat) (on : Bool) (root : Int) (user : Bool) (va : Nat) (hva : va < 4294967296) (kind : Int) (its : List It) (room now : Nat) (T : List It) (L : List Ln) (fr : List ap) (pg : List Pl) (hR : Rep its now T) (hT : T.length ≤ room) (hr : room ≤ 4) (hn : now < 1000000) (h : MOk fr pg 0 L T) (hw : WkOkM fr pg root va) (hp : aX pg (bO fr pg root va).p = true) (o : Int) (fast : Bool) : sP W0 355 [pQ ba, .agg #[iQ (bO fr pg root va).p, iQ (bS pg (bO fr pg root va).p).1, iQ o, .bool fast]] (pt ba (fX bm on root user va kind) :: pt bm (cK pv bt bs) :: aJ bt (its, dm room now) :: bJ bs L :: dZ pv ps pm 0 fr pg R) (fun v B => v = .tuple #[] ∧ ∃ its' T' L' now', Rep its' now' T' ∧ T'.length ≤ room ∧ MOk fr pg 0 L' T' ∧ now' ≤ now + 1 ∧ (∃ x ∈ L', x.k = du root va ∧ (x.e.2.2 = fJ pg (bO fr pg root va).r (bO fr pg root va).p 3 ∨ x.e.2.2 = fA (fJ pg (bO fr pg root va).r (bO fr pg root va).p 3))) ∧ B = pt ba (fX bm on root user va kind) :: pt bm (cK pv bt bs) :: aJ bt (its', dm room now') :: bJ bs L' :: dZ pv ps pm 0 fr pg R) := by
 have hfo := a1c hw hp
 obtain ⟨s, hs⟩ : ∃ s, bO fr pg root va = s := ⟨_, rfl⟩
 rw [hs] at hfo hp ⊢
 obtain ⟨f, hf⟩ : ∃ f, (bS pg s.p).1 = f := ⟨_, rfl⟩
 obtain ⟨gv, hgv⟩ : ∃ g, fJ pg s.r s.p 3 = g := ⟨_, rfl⟩
 rw [hf, hgv] at hfo
 rw [hf, hgv]
 have hei : i64 gv := by
  have : 0 ≤ gv ∧ gv < 16 := hfo.r
  exact ⟨by omega, by omega⟩
 have ho1 : tA s.root = true := Qaw hfo.own.1
 have ho2 : tA s.leaf = true := Qaw hfo.own.2
 have hll := h.ti.len
 have hti := h.ti.fill (du root va) (s.p, f, gv) s.root s.leaf room now
 have hgn : jv (du root va) (kJ (du root va) (s.p, f, gv) s.root s.leaf L) = some (jP (du root va) (s.p, f, gv) s.root s.leaf L) := by
  have hm : jP (du root va) (s.p, f, gv) s.root s.leaf L ∈ kJ (du root va) (s.p, f, gv) s.root s.leaf L := by grind [Cx]
  have := Cz hti.keys hm
  rwa [zr] at this
 have hfl := fun T' q => h.fill (T' := T') room now hfo q
 have hze : (jP (du root va) (s.p, f, gv) s.root s.leaf L).e.2.2 = gv ∨ (jP (du root va) (s.p, f, gv) s.root s.leaf L).e.2.2 = fA gv := by
  rcases Cy (du root va) (s.p, f, gv) s.root s.leaf L with q | q
  grind
  rw [q]; exact .inr rfl
 obtain ⟨L2, hL2⟩ : ∃ l, kJ (du root va) (s.p, f, gv) s.root s.leaf L = l := ⟨_, rfl⟩
 obtain ⟨z, hz⟩ : ∃ z, jP (du root va) (s.p, f, gv) s.root s.leaf L = z := ⟨_, rfl⟩
 obtain ⟨fs, hfs⟩ : ∃ l, kI L s.root s.leaf = l := ⟨_, rfl⟩
 rw [hL2, hz] at hgn
 rw [hz] at hze
 have hzm := zt hgn
 rw [hL2, hz, hfs] at hfl
 rw [hL2] at hti
 have hl2 := hti.len
 have hfn : fs.length ≤ 2 := by
  grind [kI]
 have hRn := fun l => a1d (its := its) (T := T) l hR
 have hNl := fun l => J6 l its
 have hNt := fun l => J6 l T
 have hNi := fun l => a1f l (h.er hR)
 have hil := hR.length
 refine ac func355 ntmps355 ?_
 refine dR (k0 rfl) fun b3 => ?_
 refine au 11 ?_
 refine ec (fun b5 : Nat => True) (fun b5 => [(0, pQ ba), (3, pQ b3), (4, pQ bm), (5, pQ b5)]) (fun b5 => pt b3 (a8 [iQ s.p, iQ f, iQ o, .bool fast] 363) :: pt b5 (a8 (rq s) 493) :: pt ba (fX bm on root user va kind) :: pt bm (cK pv bt bs) :: aJ bt (its, dm room now) :: bJ bs L :: dZ pv ps pm 0 fr pg R) ?_ ?_
 refine bu [ba, bm] 16 fun hS => ?_
 refine ae 0 13 hS ?_
 refine eh (is := [13, 14]) (by kernel_rfl) rfl ⟨?_, ?_, trivial⟩
 refine cT (dT LY (CI pv ps pm 0 fr pg h.P h.F root va hva)) ?_; clear hS
 rintro _ B_ ⟨rfl, hB_⟩
 subst hB_
 rw [hs]
 refine ⟨aF, fun hS => ?_⟩
 refine cg 14 (da E5) ?_; clear hS
 rintro _ _ ⟨b5, rfl, rfl⟩
 refine ⟨aF, fun hS => ?_⟩
 refine bG 15 aD fun hS => ?_
 refine aK ?_
 exact cq b5 trivial
 skip
 refine cT (da E5) ?_; clear hS
 rintro _ _ ⟨b5, rfl, rfl⟩
 refine ⟨aF, fun hS => ?_⟩
 refine cg 13 (dT LY (CI pv ps pm 0 fr pg h.P h.F root va hva)) ?_; clear hS
 rintro _ B_ ⟨rfl, hB_⟩
 subst hB_
 rw [hs]
 refine ⟨aF, fun hS => ?_⟩
 refine bG 15 aD fun hS => ?_
 refine aK ?_
 exact cq b5 trivial
 intro b5 _
 refine ec (fun b6 : Nat => True) (fun b6 => [(0, pQ ba), (3, pQ b3), (4, pQ bm), (5, pQ b5), (6, pQ b6)]) (fun b6 => pt b6 (a8 [iQ s.p, iQ f, iQ gv] 500) :: pt b5 (a8 (rq s) 493) :: pt ba (fX bm on root user va kind) :: pt bm (cK pv bt bs) :: aJ bt (its, dm room now) :: bJ bs L :: dZ pv ps pm 0 fr pg R) ?_ ?_
 refine bu [b3, b5] 11 fun hS => ?_
 refine ae 0 6 hS ?_
 refine ax 6 hS (bZ (wT (us := [.bool s.on, iQ s.r, iQ s.p]) (ws := [iQ s.fault, iQ s.root, iQ s.leaf]) (gF (k := 1) rfl) rfl)) ?_
 refine eh (is := [7, 9]) (by kernel_rfl) rfl ⟨?_, ?_, trivial⟩
 refine cT (dT call411 (II hK bm pv bt bs ps pm 0 s.on s.r s.p pg h.P)) ?_; clear hS
 rintro _ B_ ⟨rfl, hB_⟩
 subst hB_
 rw [hgv]
 refine ⟨aF, fun hS => ?_⟩
 refine ae 8 1 hS ?_
 refine cg 9 (da mG) ?_; clear hS
 rintro _ _ ⟨b6, rfl, rfl⟩
 refine ⟨aF, fun hS => ?_⟩
 refine bG 10 aD fun hS => ?_
 refine aK ?_
 exact cq b6 trivial
 skip
 refine cT (da mG) ?_; clear hS
 rintro _ _ ⟨b6, rfl, rfl⟩
 refine ⟨aF, fun hS => ?_⟩
 refine cg 7 (dT call411 (II hK bm pv bt bs ps pm 0 s.on s.r s.p pg h.P)) ?_; clear hS
 rintro _ B_ ⟨rfl, hB_⟩
 subst hB_
 rw [hgv]
 refine ⟨aF, fun hS => ?_⟩
 refine ae 8 1 hS ?_
 refine bG 10 aD fun hS => ?_
 refine aK ?_
 exact cq b6 trivial
 intro b6 _
 refine aw ?_
 refine bu [bm, ba, b6, b5] 17 fun hS => ?_
 refine ae 0 5 hS ?_
 refine ae 6 5 hS ?_
 refine bF 5 (aj rR (qf ba bm on root user va hva kind)) fun hS => ?_
 refine cg 11 (aj call412 (ZH bs L hll h.ei (du root va) (s.p, f, gv) hei s.root s.leaf ho1 ho2)) ?_; clear hS
 rintro _ B_ ⟨af, cf, rfl, hB_⟩
 subst hB_
 rw [hL2, hfs]
 refine ⟨aF, fun hS => ?_⟩
 refine ae 12 5 hS ?_
 refine aK ?_
 refine ah (fun c5 => ?_) fun c5 => ?_
 exact absurd rfl c5
 refine fu (fun i : Nat => i ≤ fs.length) (fun i => [(0, pQ ba), (4, pQ bm), (57, .slice af fs.length cf), (58, iQ (fs.length : Nat)), (59, iQ i)]) (fun i => pt ba (fX bm on root user va kind) :: pt bm (cK pv bt bs) :: aJ bt (jx (fs.take i) its, dm room now) :: bJ bs L2 :: osl 3 1 (.slice af fs.length cf) (fs.flatMap iI) :: dZ pv ps pm 0 fr pg R) (fun i => fs.length - i) 0 ?_ ?_ ?_ ?_
 omega
 · repeat (first | exact cI | refine cj rfl ?_)
 rw [show jx (fs.take 0) its = its from rfl]
 exact IO
 intro i hi
 refine aw ?_
 refine aA rfl (fun c7 => ?_) fun c7 => ?_
 refine au 5 ?_
 have hi1 : i < fs.length := by omega
 refine jH (E := 3) (sz := 1) (a := af) (c := cf) (n := fs.length) iI fs (fun _ => rfl) (by decide) rfl (fun hs => ?_)
 obtain ⟨g, o, hga, hc⟩ := hs.at_ hi1
 obtain ⟨q, hq⟩ : ∃ q, fs[i] = q := ⟨_, rfl⟩
 have htk : fs.take (i + 1) = fs.take i ++ [q] := by rw [Qam hi1, hq]
 have hNs : jx (fs.take (i + 1)) its = (jx (fs.take i) its).map (iG q) := by rw [htk, a1e]
 have hN1 := hNl (fs.take i)
 have hN2 := hNi (fs.take i)
 rw [hq] at hc
 refine aw ?_
 refine a7 (fT fC aO rfl hga rfl rfl hi1 (by first | exact Qac _ | rfl)) ?_
 refine a7 (aH (aR.weak hc 0 _ rfl)) ?_
 refine ag (aj call413 (YN bt (jx (fs.take i) its) (iQ room) (iQ now) q (by omega) hN2)) ?_
 refine a7 cQ ?_
 refine cv (i + 1) ?_ (he := ?_)
 omega
 rw [hNs]
 exact IO
 obtain rfl : i = fs.length := by omega
 have hR3 := hRn (fs.take fs.length)
 have hN3 := hNt (fs.take fs.length)
 rw [QbM] at hR3 hN3 ⊢
 refine au 6 ?_
 refine ec (fun b11 : Nat => True) (fun b11 => [(0, pQ ba), (4, pQ bm), (11, pQ b11), (12, .bool true)]) (fun b11 => pt b11 (a8 (lj (rz (some z))) 500) :: pt ba (fX bm on root user va kind) :: pt bm (cK pv bt bs) :: aJ bt (jx fs its, dm room now) :: bJ bs L2 :: dZ pv ps pm 0 fr pg R) ?_ ?_
 refine bu [bm, ba] 13 fun hS => ?_
 refine ae 0 5 hS ?_
 refine eh (is := [5, 10]) (by kernel_rfl) rfl ⟨?_, ?_, trivial⟩
 refine cT (aj rR (qf ba bm on root user va hva kind)) ?_; clear hS
 rintro _ B_ ⟨rfl, hB_⟩
 obtain rfl := hB_.symm
 refine ⟨aF, fun hS => ?_⟩
 refine eh (is := [6, 10]) (by kernel_rfl) rfl ⟨?_, ?_, trivial⟩
 refine cT (aj ud (rp bs L2 (by omega) (du root va))) ?_; clear hS
 rintro _ B_ ⟨rfl, hB_⟩
 subst hB_
 rw [rA, hgn]
 refine ⟨aF, fun hS => ?_⟩
 refine ae 7 3 hS ?_
 refine cg 10 (da mG) ?_; clear hS
 rintro _ _ ⟨b11, rfl, rfl⟩
 refine ⟨aF, fun hS => ?_⟩
 refine bG 11 aD fun hS => ?_
 refine ae 12 1 hS ?_
 refine aK ?_
 exact cq b11 trivial
 skip
 refine cT (da mG) ?_; clear hS
 rintro _ _ ⟨b11, rfl, rfl⟩
 refine ⟨aF, fun hS => ?_⟩
 refine cg 6 (aj ud (rp bs L2 (by omega) (du root va))) ?_; clear hS
 rintro _ B_ ⟨rfl, hB_⟩
 subst hB_
 rw [rA, hgn]
 refine ⟨aF, fun hS => ?_⟩
 refine ae 7 3 hS ?_
 refine bG 11 aD fun hS => ?_
 refine ae 12 1 hS ?_
 refine aK ?_
 exact cq b11 trivial
 skip
 refine cT (da mG) ?_; clear hS
 rintro _ _ ⟨b11, rfl, rfl⟩
 refine ⟨aF, fun hS => ?_⟩
 refine bF 5 (aj rR (qf ba bm on root user va hva kind)) fun hS => ?_
 refine cg 6 (aj ud (rp bs L2 (by omega) (du root va))) ?_; clear hS
 rintro _ B_ ⟨rfl, hB_⟩
 subst hB_
 rw [rA, hgn]
 refine ⟨aF, fun hS => ?_⟩
 refine ae 7 3 hS ?_
 refine bG 11 aD fun hS => ?_
 refine ae 12 1 hS ?_
 refine aK ?_
 exact cq b11 trivial
 intro b11 _
 refine aw ?_
 refine bu [bm, ba, b11] 8 fun hS => ?_
 refine ae 0 5 hS ?_
 refine ae 6 1 hS ?_
 refine bF 5 (aj rR (qf ba bm on root user va hva kind)) fun hS => ?_
 refine cg 7 (aj call354 (HQ bt (jx fs its) room now (jx fs T) (du root va) z.e hR3 (by omega) hr hn)) ?_; clear hS
 rintro _ B_ ⟨rfl, its2, hB_, hR2⟩
 subst hB_
 have hpl := HO (now := now) (k := du root va) (e := z.e) (show (jx fs T).length ≤ room by omega)
 refine ⟨aF, fun hS => ?_⟩
 refine aK ?_
 refine ao rfl (dT call414 (a0e bm pv bt bs its2 (iQ room) (iQ ((now + 1 : Nat) : Int)) (now + 1) room _ L2 hR2 hpl hr hl2)) ?_
 rintro _ B_ ⟨rfl, its3, T3, hB_, hR4, hT4, hI4⟩
 subst hB_
 refine aw ?_
 refine bA (.inr rfl) .nil ?_
 exact ⟨_, ⟨rfl, its3, T3, L2, now + 1, hR4, hT4, hfl T3 hI4, by omega, ⟨z, hzm.1, hzm.2, hze⟩, rfl⟩, IO⟩
theorem CV (k va : Nat) : (64 * k + va % 64) / 64 = k ∧ (64 * k + va % 64) % 64 = va % 64 := by omega
structure FnOk (fr : List ap) (pg : List Pl) (root : Int) (user : Bool) (va : Nat) (kind : Int) : Prop where
  wk : WkOkM fr pg root va
  th : aX pg (bO fr pg root va).p = true
  P : eZ mY fr pg true root user va kind = (bO fr pg root va).p
  F : eZ mi fr pg true root user va kind = (bS pg (bO fr pg root va).p).1
  O : eZ ml fr pg true root user va kind = ((va % 64 : Nat) : Int)
theorem J7 {fr : List ap} {pg : List Pl} {root : Int} {user : Bool} {va : Nat} {kind : Int} (h : ik fr pg true root user va kind = 0) : FnOk fr pg root user va kind := by
 obtain ⟨s, hs⟩ : ∃ s, bO fr pg root va = s := ⟨_, rfl⟩
 obtain ⟨k, hk, hk32⟩ := zw fr pg root va
 unfold ik at h
 rw [Qae rfl, hs] at h
 by_cases h1 : s.fault ≠ 0
 omega
 rw [Qab h1] at h
 by_cases h2 : oI s kind user = true
 case neg => rw [Qab h2] at h; exact absurd h (by decide)
 rw [Qae h2] at h
 rw [hs] at hk
 have hpa : kK s va = 64 * k + va % 64 := by rw [kK, hk]; rfl
 obtain ⟨p1, p2⟩ := CV k va
 have hth : aX pg s.p = true := by
  grind [ez, ig]
 have hX : ∀ g, eZ g fr pg true root user va kind = g fr.length pg (kK s va) 1 kind := fun g => by
  unfold eZ
  rw [Qae rfl, hs, Qab h1, Qae h2]
 refine ⟨zA (by grind), by rw [hs]; exact hth, ?_, ?_, ?_⟩
 grind [mY]
 grind [mi]
 grind [ml]
theorem a1h {fr : List ap} {pg : List Pl} {L : List Ln} {T : List It} (h : MOk fr pg 0 L T) {x : Ln} (hx : x ∈ L) {root : Int} {user : Bool} {va : Nat} {kind : Int} (hv : va < 16384) (hk : x.k = du root va) (hm : n0 x.e kind user = true) :
    ik fr pg true root user va kind = 0 ∧ eZ mY fr pg true root user va kind = x.e.1 ∧ eZ mi fr pg true root user va kind = x.e.2.1 ∧ eZ ml fr pg true root user va kind = ((va % 64 : Nat) : Int) := by
 have hl := h.ln x hx
 obtain ⟨q1, q2, q3, q4, q5, q6⟩ := hl.wk (by simp) (by simp) va hv (by rw [hk]; rfl)
 have hr : x.k.1 = root := by rw [hk]; rfl
 rw [hr] at q1 q4 q5 q6
 obtain ⟨s, hs⟩ : ∃ s, bO fr pg root va = s := ⟨_, rfl⟩
 obtain ⟨k, hkk, hk32⟩ := zw fr pg root va
 have hf0 : s.fault = 0 := by rw [← hs, q1.eq]
 rw [hs] at q4 q5 q6 hkk
 have hpa : kK s va = 64 * k + va % 64 := by grind [kK]
 obtain ⟨p1, p2⟩ := CV k va
 have hep : x.e.1 = (k : Int) := by omega
 simp only [n0, Qap, Bool.and_true] at hm
 obtain ⟨m1, m2, m3⟩ := hm
 have hnr : ju kind = 1 ∨ ju kind = 2 ∨ ju kind = 4 ∨ ju kind = 8 := by
  unfold ju
  rcases Qat m1 with rfl | rfl | rfl
  omega
  omega
  omega
 have hal : oI s kind user = true := by
  grind [oI]
 have hth := hl.at_.1
 rw [hep] at hth
 have hk12 : k < 12 := by
  simp only [aX, Qap] at hth
  obtain ⟨i, hi, hi2⟩ := mf hth.1
  omega
 have hE : ez fr.length pg (kK s va) 1 kind = 0 := by
  unfold ez
  rw [hpa, p1, Qae (by grind [gW]), Qae (by omega), Qae (by rw [← hep]; exact hl.al kind m1 m2), Qae (h.pl.rng _ hth)]
 have he : ik fr pg true root user va kind = 0 := by
  grind [ik]
 obtain ⟨_, _, e1, e2, e3⟩ := J7 he
 rw [hs, hkk] at e1 e2
 exact ⟨he, by rw [e1, hep], by rw [e2, ← hl.at_.2, hep], e3⟩
theorem a1i {S : World → Prop} {b off k : Nat} {us vs : List Value} (h : aR S b off vs) (e : (vs.drop k).take us.length = us) : aR S b (off + k) us := fun i v hi => by
 have hlt := (List.getElem?_eq_some_iff.1 hi).1
 have := h (k + i) v (by
   rw [← e, List.getElem?_take] at hi
   rw [Qae hlt, QbV] at hi
   exact hi)
 rwa [← Qcg] at this
theorem a1j (hK : ∀ A, aR (az W0 A) 1 0 fg) (ba bm pv bt bs ps pm : Nat) (on : Bool) (root : Int) (user : Bool) (va : Nat) (hva : va < 4294967296) (kind : Int) (its : List It) (room now : Nat) (T : List It) (L : List Ln) (fr : List ap) (pg : List Pl) (hR : Rep its now T) (hT : T.length ≤ room) (hr : room ≤ 4) (hn : now < 1000000) (h : MOk fr pg 0 L T) (hw : WkOkM fr pg root va) (hp : aX pg (bO fr pg root va).p = true) (p f : Int) (e1 : p = (bO fr pg root va).p) (e2 : f = (bS pg (bO fr pg root va).p).1) (o : Int) (fast : Bool) : sP W0 355 [pQ ba, .agg #[iQ p, iQ f, iQ o, .bool fast]] (pt ba (fX bm on root user va kind) :: pt bm (cK pv bt bs) :: aJ bt (its, dm room now) :: bJ bs L :: dZ pv ps pm 0 fr pg R) (fun v B => v = .tuple #[] ∧ ∃ its' T' L' now', Rep its' now' T' ∧ T'.length ≤ room ∧ MOk fr pg 0 L' T' ∧ now' ≤ now + 1 ∧ (∃ x ∈ L', x.k = du root va ∧ (x.e.2.2 = fJ pg (bO fr pg root va).r (bO fr pg root va).p 3 ∨ x.e.2.2 = fA (fJ pg (bO fr pg root va).r (bO fr pg root va).p 3))) ∧ B = pt ba (fX bm on root user va kind) :: pt bm (cK pv bt bs) :: aJ bt (its', dm room now') :: bJ bs L' :: dZ pv ps pm 0 fr pg R) := by
 grind [a1g]
theorem a1k (W0 : World) (R : List HP) (hK : ∀ A, aR (az W0 A) 1 0 fg) (ba bm pv bt bs ps pm : Nat) (root : Int) (user : Bool) (va : Nat) (hva : va < 4294967296) (kind : Int) (its : List It) (room now : Nat) (T : List It) (L : List Ln) (fr : List ap) (pg : List Pl) (hR : Rep its now T) (hT : T.length ≤ room) (hr : room ≤ 4) (hn : now < 1000000) (h : MOk fr pg 0 L T) :
    aZ Tryz.prog W0 287 [pQ ba] (pt ba (fX bm true root user va kind) :: pt bm (cK pv bt bs) :: aJ bt (its, dm room now) :: bJ bs L :: dZ pv ps pm 0 fr pg R)
      (fun v B => v = .tuple #[.agg (wX fr pg true root user va kind).toArray, iQ (ik fr pg true root user va kind)] ∧ ∃ its' T' L' now', Rep its' now' T' ∧ T'.length ≤ room ∧ MOk fr pg 0 L' T' ∧ now' ≤ now + 1 ∧ (ik fr pg true root user va kind = 0 → ∃ x ∈ L', x.k = du root va ∧ (x.e.2.2 = fJ pg (bO fr pg root va).r (bO fr pg root va).p 3 ∨ x.e.2.2 = fA (fJ pg (bO fr pg root va).r (bO fr pg root va).p 3))) ∧ B = pt bm (cK pv bt bs) :: aJ bt (its', dm room now') :: bJ bs L' :: dZ pv ps pm 0 fr pg R) := by
 have hok := fun q => J7 (fr := fr) (pg := pg) (root := root) (user := user) (va := va) (kind := kind) q
 refine ac func287 ntmps287 ?_
 refine dR (da u7) fun b2 => ?_
 refine au 3 ?_
 refine ec (fun b4 : Nat => True) (fun b4 => [(0, pQ ba), (2, pQ b2), (4, pQ b4), (5, iQ (ik fr pg true root user va kind))]) (fun b4 => pt b2 (a8 [iQ 0, iQ 0, iQ 0, .bool false] 363) :: pt b4 (a8 (wX fr pg true root user va kind) 363) :: pt ba (fX bm true root user va kind) :: pt bm (cK pv bt bs) :: aJ bt (its, dm room now) :: bJ bs L :: dZ pv ps pm 0 fr pg R) ?_ ?_
 refine bu [ba, bm] 26 fun hS => ?_
 refine ae 0 10 hS ?_
 refine ax 10 hS (bZ (a1i (k := 1) (us := tE true root user) (gF (k := 0) rfl) rfl)) ?_
 refine ae 11 8 hS ?_
 refine eh (is := [19, 23]) (by kernel_rfl) rfl ⟨?_, ?_, trivial⟩
 refine cT (dT Ev (zx pv ps pm 0 fr pg h.P h.F true root user va hva kind)) ?_; clear hS
 rintro _ B_ ⟨rfl, hB_⟩
 obtain rfl := hB_.symm
 refine ⟨aF, fun hS => ?_⟩
 refine ae 20 3 hS ?_
 refine cg 23 (da u7) ?_; clear hS
 rintro _ _ ⟨b4, rfl, rfl⟩
 refine ⟨aF, fun hS => ?_⟩
 refine bG 24 aD fun hS => ?_
 refine ae 25 1 hS ?_
 refine aK ?_
 exact cq b4 trivial
 skip
 refine cT (da u7) ?_; clear hS
 rintro _ _ ⟨b4, rfl, rfl⟩
 refine ⟨aF, fun hS => ?_⟩
 refine bF 19 (dT Ev (zx pv ps pm 0 fr pg h.P h.F true root user va hva kind)) fun hS => ?_
 refine ae 20 3 hS ?_
 refine bG 24 aD fun hS => ?_
 refine ae 25 1 hS ?_
 refine aK ?_
 exact cq b4 trivial
 intro b4 _
 refine ec (fun X : List It × List It × List Ln × Nat => Rep X.1 X.2.2.2 X.2.1 ∧ X.2.1.length ≤ room ∧ MOk fr pg 0 X.2.2.1 X.2.1 ∧ X.2.2.2 ≤ now + 1 ∧ (ik fr pg true root user va kind = 0 → ∃ x ∈ X.2.2.1, x.k = du root va ∧ (x.e.2.2 = fJ pg (bO fr pg root va).r (bO fr pg root va).p 3 ∨ x.e.2.2 = fA (fJ pg (bO fr pg root va).r (bO fr pg root va).p 3)))) (fun X => [(2, pQ b2), (4, pQ b4), (5, iQ (ik fr pg true root user va kind))]) (fun X => pt b2 (a8 [iQ 0, iQ 0, iQ 0, .bool false] 363) :: pt b4 (a8 (wX fr pg true root user va kind) 363) :: pt bm (cK pv bt bs) :: aJ bt (X.1, dm room X.2.2.2) :: bJ bs X.2.2.1 :: dZ pv ps pm 0 fr pg R) ?_ ?_
 refine au 6 ?_
 refine ah (fun c2 => ?_) fun c2 => ?_
 obtain ⟨hw, hp, eP, eF, eO⟩ := hok c2
 refine ao rfl (FH call355 rfl (a1j hK ba bm pv bt bs ps pm true root user va hva kind its room now T L fr pg hR hT hr hn h hw hp (eZ mY fr pg true root user va kind) (eZ mi fr pg true root user va kind) eP eF (eZ ml fr pg true root user va kind) false)) ?_
 rintro _ B_ ⟨rfl, its2, T2, L2, now2, hR2, hT2, h2, hn2, hex, hB_⟩
 subst hB_
 refine aw ?_
 refine cq (its2, T2, L2, now2) ?_
 grind
 refine cq (its, T, L, now) ?_
 grind
 intro ⟨its2, T2, L2, now2⟩ ⟨hR2, hT2, h2, hn2, hex⟩
 dsimp only at hR2 hT2 h2 hn2 hex ⊢
 refine aw ?_
 refine aB aD ?_
 refine bH (.cons (bM j9 g7 rfl rfl) (.cons (bP rfl) .nil)) ?_
 exact ⟨_, ⟨rfl, its2, T2, L2, now2, hR2, hT2, h2, hn2, hex, rfl⟩, IO⟩
theorem MOk.tl {fr : List ap} {pg : List Pl} {d : Nat} {L : List Ln} {T T' : List It} (h : MOk fr pg d L T) (ht : TI L T') : MOk fr pg d L T' := ⟨h.F, h.dl, h.P, h.pl, ht, h.ln⟩
@[reducible] def v3 (ba : Nat) : List Value := [.func (.func 285) #[.pointer (some ⟨ba, 0, none⟩)] #[], .func (.func 286) #[.pointer (some ⟨ba, 0, none⟩)] #[]]
theorem a1l {W0 : World} {N : FSz} {e : aP} {R : List HP} {ba bm pv bt bs : Nat} {on : Bool} {root : Int} {user : Bool} {va : Nat} {kind : Int} {its : List It} {room now i : Nat} {T : List It} {L : List Ln} {fx : Operand} {v : Value} (hva : va < 4294967296) (hR : Rep its now T) (hT : T.length ≤ room) (hr : room ≤ 4) (hn : now < 1000000) (hti : TI L T) (hi : i < 2) (hv : (v3 ba)[i]? = some v) (hx : ev e fx = some v) :
    bW Tryz.prog W0 N e (pt ba (fX bm on root user va kind) :: pt bm (cK pv bt bs) :: aJ bt (its, dm room now) :: bJ bs L :: R) (.call { callee := .value fx, args := #[], argTypes := #[] })
      (fun v B => ∃ o its' T' now', v = .tuple #[.agg (CL o va).toArray, .bool o.isSome] ∧ CM L (du root va) kind user o ∧ (i = 1 → o = none → ∀ x ∈ L, x.k = du root va → n0 x.e kind user = false) ∧ Rep its' now' T' ∧ T'.length ≤ room ∧ TI L T' ∧ now' ≤ now + 1 ∧ B = pt ba (fX bm on root user va kind) :: pt bm (cK pv bt bs) :: aJ bt (its', dm room now') :: bJ bs L :: R) := by
 have h2 : i = 0 ∨ i = 1 := by omega
 rcases h2 with rfl | rfl
 cases hv
 exact fQ (us := [pQ ba]) (vs := []) (cs := []) hx call285 rfl (iy (a0f ba bm pv bt bs on root user va hva kind its room now T L hR hT hr hn hti) fun v B hB => by
  obtain ⟨o, its', T', now', e1, e2, e3⟩ := hB
  exact ⟨B, ⟨o, its', T', now', e1, e2, fun q => (by cases q), e3⟩, ent_refl⟩)
 cases hv
 exact fQ (us := [pQ ba]) (vs := []) (cs := []) hx call286 rfl (iy (a0g ba bm pv bt bs on root user va hva kind its room now T L hR hT hr hn hti) fun v B hB => by
  obtain ⟨o, its', T', now', e1, e2, e3, e4⟩ := hB
  exact ⟨B, ⟨o, its', T', now', e1, e2, fun _ => e3, e4⟩, ent_refl⟩)
structure FnX (fr : List ap) (pg : List Pl) (d : Nat) (on : Bool) (root : Int) (user : Bool) (va : Nat) (kind : Int) (L L' : List Ln) (fast : Bool) (d' : Nat) : Prop where
  hit : fast = true → (on = true ∧ ik fr pg on root user va kind = 0) ∧ ∃ x ∈ L', x.e.1 = eZ mY fr pg on root user va kind ∧ n0 x.e kind user = true
  old : fast = true → ∃ x ∈ L, x.k = du root va
  new : fast = false → on = true → va < 16384 → ik fr pg on root user va kind = 0 → ∃ x ∈ L', x.k = du root va ∧ (x.e.2.2 = fJ pg (bO fr pg root va).r (bO fr pg root va).p 3 ∨ x.e.2.2 = fA (fJ pg (bO fr pg root va).r (bO fr pg root va).p 3))
  can : d = 0 → on = true → va < 16384 → ∀ x ∈ L, x.k = du root va → n0 x.e kind user = true → fast = true
  dz : on = true → va < 16384 → d' = 0
theorem J8 (hK : ∀ A, aR (az W0 A) 1 0 fg) (bm pv bt bs ps pm d : Nat) (on : Bool) (root : Int) (user : Bool) (va : Nat) (hva : va < 4294967296) (kind : Int) (its : List It) (room now : Nat) (T : List It) (L : List Ln) (fr : List ap) (pg : List Pl) (hR : Rep its now T) (hT : T.length ≤ room) (hr : room ≤ 4) (hn : now < 900000) (h : MOk fr pg d L T) : sP W0 209 [.pointer (some ⟨bm, 0, none⟩), .agg (tE on root user).toArray, .int .u32 va, .int .i64 kind] (pt bm (cK pv bt bs) :: aJ bt (its, dm room now) :: bJ bs L :: dZ pv ps pm d fr pg R) (fun v B => ∃ fast its' T' L' now' d', v = .tuple #[.agg #[.int .i64 (eZ mY fr pg on root user va kind), .int .i64 (eZ mi fr pg on root user va kind), .int .i64 (eZ ml fr pg on root user va kind), .bool fast], .int .i64 (ik fr pg on root user va kind)] ∧ FnX fr pg d on root user va kind L L' fast d' ∧ Rep its' now' T' ∧ T'.length ≤ room ∧ MOk fr pg d' L' T' ∧ now' ≤ now + 3 ∧ B = pt bm (cK pv bt bs) :: aJ bt (its', dm room now') :: bJ bs L' :: dZ pv ps pm d' fr pg R) := by
 refine jG 2 func209 ntmps209 ?_
 refine dR (k0 rfl) fun b5 => ?_
 refine dR (da u7) fun b8 => ?_
 refine au 7 ?_
 refine dE 2 (jD Ew rfl (zC bm pv bt bs)) ?_
 refine aA rfl (fun c1 => ?_) fun c1 => ?_
 exact absurd c1 (by decide)
 refine au 9 ?_
 refine cP rfl rfl rfl (fun g3_4 => ?_) fun g3_4 => ?_
 refine au 6 ?_
 refine jF [(bm, 0, _), (b5, 0, _)] 12 mixed rfl (cz (cz cG)) (fun hS => ?_)
 refine ae 0 4 hS ?_
 refine cH 4 rfl rfl rfl hS (gd Dz xC rfl (by first | exact gF (k := 0) rfl | exact gF (k := 1) rfl) rfl) ?_
 refine ae 5 2 hS ?_
 refine kU 7 rfl rfl (vD Ev rfl (zx pv ps pm d fr pg h.P h.F on root user va hva kind)) (cz (cz cG)) fun hS => ?_
 refine ae 8 2 hS ?_
 refine kV 10 rfl rfl (gD g7 rfl rfl rfl rfl rfl) (cz (cz cG)) fun hS => ?_
 refine ae 11 1 hS ?_
 refine fw ?_
 refine au 3 ?_
 refine bH (.cons (bM j9 g7 rfl rfl) (.cons (bP rfl) .nil)) ?_
 exact ⟨_, ⟨false, its, T, L, now, d, rfl, ⟨fun q => (by cases q), fun q => (by cases q), fun _ q1 q2 => (by first | omega | simp_all), fun _ q1 q2 => (by first | omega | simp_all), fun q1 q2 => (by first | omega | simp_all)⟩, hR, hT, h, by omega, rfl⟩, IO⟩
 refine au 6 ?_
 refine aA rfl (fun c3 => ?_) fun c3 => ?_
 refine aI ?_
 refine jF [(bm, 0, _), (b5, 0, _)] 12 mixed rfl (cz (cz cG)) (fun hS => ?_)
 refine ae 0 4 hS ?_
 refine cH 4 rfl rfl rfl hS (gd Dz xC rfl (by first | exact gF (k := 0) rfl | exact gF (k := 1) rfl) rfl) ?_
 refine ae 5 2 hS ?_
 refine kU 7 rfl rfl (vD Ev rfl (zx pv ps pm d fr pg h.P h.F on root user va hva kind)) (cz (cz cG)) fun hS => ?_
 refine ae 8 2 hS ?_
 refine kV 10 rfl rfl (gD g7 rfl rfl rfl rfl rfl) (cz (cz cG)) fun hS => ?_
 refine ae 11 1 hS ?_
 refine fw ?_
 refine au 3 ?_
 refine bH (.cons (bM j9 g7 rfl rfl) (.cons (bP rfl) .nil)) ?_
 exact ⟨_, ⟨false, its, T, L, now, d, rfl, ⟨fun q => (by cases q), fun q => (by cases q), fun _ q1 q2 => (by first | omega | simp_all), fun _ q1 q2 => (by first | omega | simp_all), fun q1 q2 => (by first | omega | simp_all)⟩, hR, hT, h, by omega, rfl⟩, IO⟩
 refine au 3 ?_
 obtain rfl : on = true := by cases on <;> simp_all
 have hv4 : va < 16384 := by omega
 refine au 2 ?_
 refine ao rfl (mP call284 rfl (IG bm pv bt bs ps pm d its (.int .i64 room) (.int .i64 now) now room T L fr pg hR hT hr h)) ?_
 rintro _ B_ ⟨rfl, its1, T1, L1, hB_, hR1, hT1, h1, hsub, hsame⟩
 subst hB_
 have hL0 : d = 0 → L1 = L := fun q => hsame (by rw [q]; decide)
 refine au 8 ?_
 refine ab rfl (eg a5P zeroValue442 (aG KZ (aG xC (aG bL (aG aO ee)))) (cm rfl KZ rfl rfl (Qaa rfl) SetL.eq (ge rfl xC rfl rfl (Qaa rfl) SetRL.eq (cm rfl bL rfl rfl (Qaa rfl) SetL.eq (cm rfl aO rfl rfl (Qaa rfl) SetL.eq ed))))) ?_
 refine dR (k0 rfl) fun ba => ?_
 refine au 7 ?_
 refine ab rfl (vH rfl rfl) ?_
 refine ab rfl (aW rfl) (ab rfl (vH rfl rfl) ?_)
 refine dR (kx Lm sizeOf443 zeroValue443 rfl rfl rfl rfl rfl (by decide) (by decide)) fun bl => ?_
 refine au 5 ?_
 refine fu (fun X : Nat × List It × List It × Nat => X.1 ≤ 2 ∧ Rep X.2.1 X.2.2.2 X.2.2.1 ∧ X.2.2.1.length ≤ room ∧ TI L1 X.2.2.1 ∧ X.2.2.2 ≤ now + X.1 ∧ (X.1 = 2 → ∀ x ∈ L1, x.k = du root va → n0 x.e kind user = false)) (fun X => [(8, .pointer (some ⟨b8, 0, none⟩)), (10, .pointer (some ⟨ba, 0, none⟩)), (47, .slice (some ⟨bl, 0, none⟩) 2 2), (48, .int .i64 2), (49, .int .i64 X.1)]) (fun X => pt bl (a8 (v3 ba) 443) :: pt b8 (a8 [.int .i64 0, .int .i64 0, .int .i64 0, .bool false] 363) :: pt ba (fX bm true root user va kind) :: pt bm (cK pv bt bs) :: aJ bt (X.2.1, dm room X.2.2.2) :: bJ bs L1 :: dZ pv ps pm 0 fr pg R) (fun X => 2 - X.1) (0, its1, T1, now) ?_ ?_ ?_ ?_
 exact ⟨QaE _, hR1, hT1, h1.ti, Qaj _, fun q => absurd (show (0 : Nat) = 2 from q) (by decide)⟩
 · repeat (first | exact cI | refine cj rfl ?_)
 show Ent _ (pt bl (a8 (v3 ba) 443) :: pt b8 (a8 [.int .i64 0, .int .i64 0, .int .i64 0, .bool false] 363) :: pt ba (fX bm true root user va kind) :: pt bm (cK pv bt bs) :: aJ bt (its1, dm room now) :: bJ bs L1 :: dZ pv ps pm 0 fr pg R)
 exact IO
 intro ⟨i, its2, T2, now2⟩ ⟨hi, hR2, hT2, ht2, hn2, hno2⟩
 dsimp only at hi hR2 hT2 ht2 hn2 hno2 ⊢
 refine au 6 ?_
 refine aA rfl (fun c8 => ?_) fun c8 => ?_
 refine au 5 ?_
 have hi2 : i < 2 := by omega
 have hl2 : i < (v3 ba).length := hi2
 obtain ⟨fv, hfv⟩ : ∃ v, (v3 ba)[i]? = some v := ⟨_, Qbw hl2⟩
 refine aU ?_
 refine ab rfl (jE Lm sizeOf443 rfl rfl rfl hi2 (by first | exact Qac _ | rfl)) ?_
 refine k8 6 (ci isAgg443 rfl (aE (by rw [Qbc]; exact hfv))) ?_
 refine ao rfl (nx inferInstance (a1l (R := pt bl (a8 (v3 ba) 443) :: pt b8 (a8 [.int .i64 0, .int .i64 0, .int .i64 0, .bool false] 363) :: dZ pv ps pm 0 fr pg R) (ba := ba) (bm := bm) (pv := pv) (bt := bt) (bs := bs) (on := true) (root := root) (user := user) (kind := kind) (its := its2) (L := L1) hva hR2 hT2 hr (by omega) ht2 hi2 hfv rfl)) ?_
 rintro _ B_ ⟨o, its3, T3, now3, rfl, hlk, hnk, hR3, hT3, ht3, hn3, hB_⟩
 subst hB_
 refine au 3 ?_
 refine dR (da u7) fun b13 => ?_
 refine i7 8 (gD g7 rfl rfl rfl rfl rfl) ?_
 refine aA rfl (fun c11 => ?_) fun c11 => ?_
 refine au 3 ?_
 refine i7 9 (gD g7 rfl rfl rfl rfl rfl) ?_
 refine bH (.cons (bM j9 g7 rfl rfl) (.cons (bP rfl) .nil)) ?_
 obtain ⟨x, rfl⟩ : ∃ x, o = some x := by cases o <;> simp_all
 obtain ⟨hx, hkx, hmx⟩ := hlk x rfl
 obtain ⟨e0, e1, e2, e3⟩ := a1h h1 hx hv4 hkx hmx
 refine ⟨_, ⟨true, its3, T3, L1, now3, 0, ?_, ⟨fun _ => ⟨⟨rfl, e0⟩, x, hx, e1.symm, hmx⟩, fun _ => ⟨x, hsub x hx, hkx⟩, fun q => (by cases q), fun _ _ _ _ _ _ _ => rfl, fun _ _ => rfl⟩, hR3, hT3, h1.tl ht3, by omega, rfl⟩, IO⟩
 rw [e0, e1, e2, e3]; rfl
 refine au 4 ?_
 refine k8 3 (MH rfl rfl) ?_
 exact cv (i + 1, its3, T3, now3) (⟨by omega, hR3, hT3, ht3, by dsimp only; omega, fun q => hnk (by dsimp only at q; omega) (by cases o <;> simp_all)⟩)
 refine au 6 ?_
 obtain rfl : i = 2 := by omega
 have h2 := h1.tl ht2
 refine au 2 ?_
 refine ao rfl (FH call287 rfl (a1k W0 _ hK ba bm pv bt bs ps pm root user va hva kind its2 room now2 T2 L1 fr pg hR2 hT2 hr (by omega) h2)) ?_
 rintro _ B_ ⟨rfl, its4, T4, L4, now4, hR4, hT4, h4, hn4, hex, hB_⟩
 subst hB_
 refine au 2 ?_
 refine i7 4 (gD g7 rfl rfl rfl rfl rfl) ?_
 refine bH (.cons (bM j9 g7 rfl rfl) (.cons (bP rfl) .nil)) ?_
 exact ⟨_, ⟨false, its4, T4, L4, now4, 0, rfl, ⟨fun q => (by cases q), fun q => (by cases q), fun _ _ _ q => hex q, fun q _ _ x hx hk hm => (by
   rw [hno2 rfl x (by rw [hL0 q]; exact hx) hk] at hm; cases hm), fun _ _ => rfl⟩, hR4, hT4, h4, by omega, rfl⟩, IO⟩
theorem J9 {fr : List ap} {pg : List Pl} {on : Bool} {root : Int} {user : Bool} {va : Nat} {kind : Int} (h : ik fr pg on root user va kind = 0) :
    ∃ pa : Nat, pa < 768 ∧ pa % 64 = va % 64 ∧ ez fr.length pg pa 1 kind = 0 ∧ eZ mY fr pg on root user va kind = ((pa / 64 : Nat) : Int) ∧ eZ mi fr pg on root user va kind = (bS pg ((pa / 64 : Nat) : Int)).1 ∧ eZ ml fr pg on root user va kind = ((pa % 64 : Nat) : Int) := by
 cases on with
 | false =>
  have hX : ∀ g, eZ g fr pg false root user va kind = g fr.length pg va 1 kind := fun g => by unfold eZ; rw [Qab (by decide)]
  have h : ez fr.length pg va 1 kind = 0 := by grind [ik]
  exact ⟨va, (Ca h).1, rfl, h, by rw [hX, mY, Qae h], by rw [hX, mi, Qae h], by rw [hX, ml, Qae h]⟩
 | true =>
  obtain ⟨s, hs⟩ : ∃ s, bO fr pg root va = s := ⟨_, rfl⟩
  obtain ⟨k, hk, hk32⟩ := zw fr pg root va
  unfold ik at h
  rw [Qae rfl, hs] at h
  by_cases h1 : s.fault ≠ 0
  omega
  rw [Qab h1] at h
  by_cases h2 : oI s kind user = true
  case neg => rw [Qab h2] at h; exact absurd h (by decide)
  rw [Qae h2] at h
  rw [hs] at hk
  have hpa : kK s va = 64 * k + va % 64 := by rw [kK, hk]; rfl
  obtain ⟨p1, p2⟩ := CV k va
  have hX : ∀ g, eZ g fr pg true root user va kind = g fr.length pg (kK s va) 1 kind := fun g => by
   unfold eZ
   rw [Qae rfl, hs, Qab h1, Qae h2]
  exact ⟨kK s va, (Ca h).1, by rw [hpa, p2], h, by rw [hX, mY, Qae h], by rw [hX, mi, Qae h], by rw [hX, ml, Qae h]⟩
theorem a7N {va pa : Nat} {w : Int} (h : gW va w = true) (e : pa % 64 = va % 64) : gW pa w = true := by
 have := Qat h
 refine Qaw ⟨this.1, ?_⟩
 obtain ⟨h1 | h1 | h1, h2⟩ := this <;> subst h1 <;> omega
theorem a1m {n : Nat} {pg : List Pl} {va pa : Nat} {w kind : Int} (h : ez n pg pa 1 kind = 0) (ha : gW va w = true) (e : pa % 64 = va % 64) : ez n pg pa w kind = 0 := by
 grind [gW, ez]
theorem Ja {n : Nat} {pg : List Pl} {pa : Nat} {kind : Int} (h : ez n pg pa 1 kind = 0) : aX pg ((pa / 64 : Nat) : Int) = true := by
 grind [gW, ez, ig]
def rC (fr : List ap) (pg : List Pl) (on : Bool) (root : Int) (user : Bool) (va : Nat) (w kind : Int) : Nat := if gW va w then (if ik fr pg on root user va kind = 0 then l6 fr (eZ mi fr pg on root user va kind) (eZ ml fr pg on root user va kind) w else 0) else 0
def oL (fr : List ap) (pg : List Pl) (on : Bool) (root : Int) (user : Bool) (va : Nat) (w kind : Int) : Int := if gW va w then ik fr pg on root user va kind else 1
def lN (fr : List ap) (pg : List Pl) (on : Bool) (root : Int) (user : Bool) (va : Nat) (w : Int) (x : Nat) : List ap := if gW va w then (if ik fr pg on root user va 2 = 0 then ie fr (eZ mi fr pg on root user va 2) (eZ ml fr pg on root user va 2) w x else fr) else fr
theorem Jb (va : Nat) (hva : va < 4294967296) (w : Int) : sQ W0 208 [.int .u32 va, iQ w] R (.bool (gW va w)) R := by
 refine ac func208 ntmps208 ?_
 refine eR (fun g1_3 => ?_) fun g1_3 => ?_
 refine a7 (cR (dO (by omega))) ?_
 refine a7 (lu rfl rfl (by omega) (Qbi (by omega))) ?_
 refine aa ?_
 refine aQ ?_
 refine Qak Value.bool ?_
 rw [Qag]; simp only [gW, Qaq, Qbu]
 first
   | omega
   | (simp only [Qau, Qbq]; omega)
   | (constructor <;> intro q <;> simp_all <;> omega)
 refine eR (fun g1_7 => ?_) fun g1_7 => ?_
 refine a7 (cR (dO (by omega))) ?_
 refine a7 (lu rfl rfl (by omega) (Qbi (by omega))) ?_
 refine aa ?_
 refine aQ ?_
 refine Qak Value.bool ?_
 rw [Qag]; simp only [gW, Qaq, Qbu]
 first
   | omega
   | (simp only [Qau, Qbq]; omega)
   | (constructor <;> intro q <;> simp_all <;> omega)
 refine cA (fun g1_11 => ?_) fun g1_11 => ?_
 refine a7 (cR (dO (by omega))) ?_
 refine a7 (lu rfl rfl (by omega) (Qbi (by omega))) ?_
 refine aa ?_
 refine aQ ?_
 refine Qak Value.bool ?_
 rw [Qag]; simp only [gW, Qaq, Qbu]
 first
   | omega
   | (simp only [Qau, Qbq]; omega)
   | (constructor <;> intro q <;> simp_all <;> omega)
 refine aa ?_
 refine aQ ?_
 refine Qak Value.bool ?_
 rw [Qag]; simp only [gW, Qaq, Qbu]
 first
   | omega
   | (simp only [Qau, Qbq]; omega)
   | (constructor <;> intro q <;> simp_all <;> omega)
theorem a1n (W0 : World) (R : List HP) (hK : ∀ A, aR (az W0 A) 1 0 fg) (bm pv bt bs ps pm d : Nat) (on : Bool) (root : Int) (user : Bool) (va : Nat) (hva : va < 4294967296) (w kind : Int) (its : List It) (room now : Nat) (T : List It) (L : List Ln) (fr : List ap) (pg : List Pl) (hR : Rep its now T) (hT : T.length ≤ room) (hr : room ≤ 4) (hn : now < 900000) (h : MOk fr pg d L T) :
    aZ Tryz.prog W0 134 [pQ bm, .agg (tE on root user).toArray, .int .u32 va, iQ w, iQ kind] (pt bm (cK pv bt bs) :: aJ bt (its, dm room now) :: bJ bs L :: dZ pv ps pm d fr pg R)
      (fun v B => v = .tuple #[.int .u32 (rC fr pg on root user va w kind : Nat), iQ (oL fr pg on root user va w kind)] ∧ ∃ its' T' L' now' d', Rep its' now' T' ∧ T'.length ≤ room ∧ MOk fr pg d' L' T' ∧ now' ≤ now + 3 ∧ B = pt bm (cK pv bt bs) :: aJ bt (its', dm room now') :: bJ bs L' :: dZ pv ps pm d' fr pg R) := by
 obtain ⟨al, hal⟩ : ∃ a, gW va w = a := ⟨_, rfl⟩
 rw [rC, oL, hal]
 refine ac func134 ntmps134 ?_
 refine aV fun b6 => ?_
 refine ag (aj Ew (zC bm pv bt bs)) ?_
 refine ag (ar call208 (Jb va hva w)) ?_
 rw [hal]
 refine ah (fun c3 => ?_) fun c3 => ?_
 refine aT ?_
 have ha : al = false := by grind
 rw [ha, Qab (by decide), Qab (by decide)]
 exact ⟨_, ⟨rfl, its, T, L, now, d, hR, hT, h, by omega, rfl⟩, IO⟩
 have ha : al = true := by grind
 rw [ha, Qae rfl, Qae rfl]
 refine ao rfl (yj call209 rfl (J8 hK bm pv bt bs ps pm d on root user va hva kind its room now T L fr pg hR hT hr hn h)) ?_
 rintro _ B_ ⟨fast, its2, T2, L2, now2, d2, rfl, hfast, hR2, hT2, h2, hn2, hB_⟩
 subst hB_
 refine aw ?_
 refine bB fun b12 => ?_
 refine aB aD ?_
 refine ah (fun c6 => ?_) fun c6 => ?_
 refine aT ?_
 rw [Qab c6]
 exact ⟨_, ⟨rfl, its2, T2, L2, now2, d2, hR2, hT2, h2, hn2, rfl⟩, IO⟩
 rw [Qae (by omega)]
 refine bu [bm, b12] 16 fun hS => ?_
 refine ae 0 4 hS ?_
 refine ae 5 5 hS ?_
 refine bF 4 (aj call210 (GT pv ps pm d2)) fun hS => ?_
 refine bF 10 (aj call211 (Gi ps fr _ _ w h.F)) fun hS => ?_
 refine ae 11 5 hS ?_
 refine aK ?_
 refine aT ?_
 exact ⟨_, ⟨by rw [show ik fr pg on root user va kind = 0 by omega] <;> rfl, its2, T2, L2, now2, d2, hR2, hT2, h2, hn2, rfl⟩, IO⟩
theorem a1o {n : Nat} (h : n < 16) (hb : en (n : Int) 2 = true) : wB (n : Int) = true := by
 have key : ∀ n : Nat, n < 16 → en (n : Int) 2 = true → wB (n : Int) = true := by decide +kernel
 exact key n h hb
theorem Jc {d p t : Nat} (h : Nat.testBit (d ||| 2 ^ p) t = false) : Nat.testBit d t = false ∧ t ≠ p := by
 grind
theorem a1p (W0 : World) (R : List HP) (hK : ∀ A, aR (az W0 A) 1 0 fg) (bm pv bt bs ps pm d : Nat) (on : Bool) (root : Int) (user : Bool) (va : Nat) (hva : va < 4294967296) (w : Int) (x : Nat) (hx : x < 4294967296) (its : List It) (room now : Nat) (T : List It) (L : List Ln) (fr : List ap) (pg : List Pl) (hR : Rep its now T) (hT : T.length ≤ room) (hr : room ≤ 4) (hn : now < 900000) (h : MOk fr pg d L T) :
    aZ Tryz.prog W0 304 [pQ bm, .agg (tE on root user).toArray, .int .u32 va, iQ w, .int .u32 x] (pt bm (cK pv bt bs) :: aJ bt (its, dm room now) :: bJ bs L :: dZ pv ps pm d fr pg R)
      (fun v B => v = iQ (oL fr pg on root user va w 2) ∧ ∃ its' T' L' now' d', Rep its' now' T' ∧ T'.length ≤ room ∧ MOk (lN fr pg on root user va w x) pg d' L' T' ∧ now' ≤ now + 3 ∧ B = pt bm (cK pv bt bs) :: aJ bt (its', dm room now') :: bJ bs L' :: dZ pv ps pm d' (lN fr pg on root user va w x) pg R) := by
 obtain ⟨al, hal⟩ : ∃ a, gW va w = a := ⟨_, rfl⟩
 rw [lN, oL, hal]
 have hpa := fun q => J9 (fr := fr) (pg := pg) (on := on) (root := root) (user := user) (va := va) (kind := 2) q
 obtain ⟨E, hE⟩ : ∃ e, ik fr pg on root user va 2 = e := ⟨_, rfl⟩
 rw [hE] at hpa
 refine ac func304 ntmps304 ?_
 refine aV fun b6 => ?_
 refine ag (aj Ew (zC bm pv bt bs)) ?_
 refine ag (ar call208 (Jb va hva w)) ?_
 rw [hal]
 refine ah (fun c3 => ?_) fun c3 => ?_
 refine aa ?_
 have ha : al = false := by grind
 rw [ha, Qab (by decide), Qab (by decide)]
 exact ⟨_, ⟨rfl, its, T, L, now, d, hR, hT, h, by omega, rfl⟩, IO⟩
 have ha : al = true := by grind
 rw [ha, Qae rfl, Qae rfl, hE]
 refine ao rfl (yj call209 rfl (J8 hK bm pv bt bs ps pm d on root user va hva 2 its room now T L fr pg hR hT hr hn h)) ?_
 rintro _ B_ ⟨fast, its2, T2, L2, now2, d2, rfl, hfast, hR2, hT2, h2, hn2, hB_⟩
 subst hB_
 rw [hE]
 replace hfast := hfast.hit
 rw [hE] at hfast
 refine aw ?_
 refine bB fun b11 => ?_
 refine aB aD ?_
 refine ah (fun c6 => ?_) fun c6 => ?_
 refine aa ?_
 rw [Qab c6]
 exact ⟨_, ⟨rfl, its2, T2, L2, now2, d2, hR2, hT2, h2, hn2, rfl⟩, IO⟩
 obtain rfl : E = 0 := by omega
 rw [Qae rfl]
 obtain ⟨pa, p1, p2, p3, p4, p5, p6⟩ := hpa rfl
 have hth := Ja p3
 have hfw := a1m (w := w) p3 (hal.trans ha) p2
 rw [p4, p5, p6]
 rw [p4] at hfast
 refine ah (fun c8 => ?_) fun c8 => ?_
 have hno : ∀ y ∈ L2, ∀ t, t = y.rt ∨ t = y.lf → Nat.testBit d2 t.toNat = false → t ≠ ((pa / 64 : Nat) : Int) := fun y hy t ht _ e => by
  obtain ⟨_, z, hz, e1, hm⟩ := hfast (by simp_all)
  simp only [n0, Qap] at hm
  have hzr := (h2.ln z hz).r
  have hb : en z.e.2.2 2 = true := hm.1.2.1
  have hw : wB z.e.2.2 = true := by
   obtain ⟨n, hn⟩ : ∃ n : Nat, z.e.2.2 = (n : Int) := ⟨z.e.2.2.toNat, by omega⟩
   rw [hn] at hb ⊢
   exact a1o (by omega) hb
  have ht2 := h2.ti.nowr z hz hw
  rw [← QaB, tx] at ht2
  exact ht2 ⟨y, hy, by rw [tu, e1, ← e]; exact ht.imp Eq.symm Eq.symm⟩
 have hms := h2.save hth ((pa % 64 : Nat) : Int) w x h2.dl (fun t q => q) hno
 refine bu [bm, b11] 12 fun hS => ?_
 refine ae 0 4 hS ?_
 refine ae 5 6 hS ?_
 refine bF 4 (aj call210 (GT pv ps pm d2)) fun hS => ?_
 refine bF 11 (aj LG (BR ps fr _ _ w x hx h2.F)) fun hS => ?_
 refine aK ?_
 refine aa ?_
 exact ⟨_, ⟨rfl, its2, T2, L2, now2, d2, hR2, hT2, hms, hn2, rfl⟩, IO⟩
 have hpl : pa / 64 < 12 := by omega
 have hdl : d2 ||| 2 ^ (pa / 64) < 4096 := Nat.or_lt_two_pow (n := 12) h2.dl (GQ hpl)
 have hms := h2.save hth ((pa % 64 : Nat) : Int) w x hdl (fun t q => (Jc q).1) (fun y hy t ht hb e => by
  have h1 := (h2.ln y hy).own
  have h3 := (Jc hb).2
  rcases ht with rfl | rfl <;> omega)
 have hvF : ww fr pg pa w x = ie fr (bS pg ((pa / 64 : Nat) : Int)).1 ((pa % 64 : Nat) : Int) w x := by grind [ww]
 have hvD : wx fr pg pa w d2 = d2 ||| 2 ^ (pa / 64) := by grind [wx]
 refine bu [bm, b11] 15 fun hS => ?_
 refine ae 0 6 hS ?_
 refine ax 6 hS (pw (64 * (pa / 64))) ?_
 refine ae 7 2 hS ?_
 refine ax 9 hS (eC pa) ?_
 refine ax 10 hS (cR (dO (by omega))) ?_
 refine ae 11 2 hS ?_
 refine cg 13 (dT call373 (Wx pv ps pm d2 fr pg h2.P h2.F h2.dl pa (by omega) w x hx)) ?_; clear hS
 rintro _ B_ ⟨rfl, hB_⟩
 subst hB_
 rw [hvF, hvD, hfw]
 refine ⟨aF, fun hS => ?_⟩
 refine ae 14 1 hS ?_
 refine aK ?_
 refine aa ?_
 exact ⟨_, ⟨rfl, its2, T2, L2, now2, _, hR2, hT2, hms, hn2, rfl⟩, IO⟩
theorem Jd {pg : List Pl} {n m : Nat} {p : Pl} (h : m ≠ n) : kd (pg.set n p) m = kd pg m := by
 grind [kd]
theorem fY {pg : List Pl} {n : Nat} {t : Int} {p : Pl} (h : t ≠ (n : Int)) : aX (pg.set n p) t = aX pg t ∧ bS (pg.set n p) t = bS pg t := by
 have key : aX (pg.set n p) t = aX pg t := by
  unfold aX
  cases hp : nH t with
  | false => rfl
  | true =>
   obtain ⟨i, rfl, hi⟩ := mf hp
   rw [Qal, Jd (by omega)]
 refine ⟨key, ?_⟩
 unfold bS
 rw [key]
 by_cases hth : aX pg t = true
 rw [Qae hth, Qae hth]
 simp only [aX, Qap] at hth
 obtain ⟨i, rfl, hi⟩ := mf hth.1
 rw [Qal, Jd (by omega)]
 grind
theorem tH {pg : List Pl} {n : Nat} {p : Pl} (hl : pg.length = 12) (hn : n < 12) (hp : p ≠ (0, 0)) : aX (pg.set n p) (n : Int) = true ∧ bS (pg.set n p) (n : Int) = p := by
 have h1 : kd (pg.set n p) n = p := by grind [kd]
 have h2 : aX (pg.set n p) (n : Int) = true := by
  unfold aX
  rw [Qal, h1, Qap]
  exact ⟨Qaw (by omega), by simpa using hp⟩
 exact ⟨h2, by rw [bS, Qae h2, Qal, h1]⟩
theorem PlOk.set {N n : Nat} {pg : List Pl} {p : Pl} (h : PlOk N pg) (hl : pg.length = 12) (hn : n < 12) (hp : p ≠ (0, 0)) (hN : p.1 < (N : Int)) (hd : ∀ t, aX pg t = true → (bS pg t).1 ≠ p.1) : PlOk N (pg.set n p) := by
 have hg := tH hl hn hp
 refine ⟨fun t ht => ?_, fun s t hs ht e => ?_⟩
 by_cases q : t = (n : Int)
 grind
 rw [(fY q).1] at ht; rw [(fY q).2]; exact h.rng t ht
 by_cases q : s = (n : Int)
 grind [fY]
 rw [(fY q).1] at hs
 by_cases r : t = (n : Int)
 simp_all [fY]
 rw [(fY r).1] at ht
 rw [(fY q).2, (fY r).2] at e
 exact h.inj s t hs ht e
theorem MOk.flush {fr : List ap} {pg : List Pl} {L : List Ln} {T : List It} (h : MOk fr pg 0 L T) : MOk fr pg 0 [] [] := ⟨h.F, h.dl, h.P, h.pl, TI.nil, fun x hx => by simp at hx⟩
theorem a1q (bm pv bt bs ps pm d : Nat) (its : List It) (room now : Nat) (T : List It) (L : List Ln) (fr : List ap) (pg : List Pl) (hR : Rep its now T) (hT : T.length ≤ room) (hr : room ≤ 4) (h : MOk fr pg d L T) : sP W0 305 [.pointer (some ⟨bm, 0, none⟩)] (pt bm (cK pv bt bs) :: aJ bt (its, dm room now) :: bJ bs L :: pt pv (cu ps pm d) :: R) (fun v B => ∃ k its', v = .int .i64 k ∧ B = pt bm (cK pv bt bs) :: aJ bt (its', dm room now) :: bJ bs [] :: pt pv (cu ps pm 0) :: R ∧ Rep its' now [] ∧ MOk fr pg 0 [] []) := by
 refine jG 9 func305 ntmps305 ?_
 refine dE 2 (jD Ew rfl (zC bm pv bt bs)) ?_
 refine aA rfl (fun c1 => ?_) fun c1 => ?_
 exact absurd c1 (by decide)
 refine au 5 ?_
 refine ao rfl (mP call284 rfl (IG bm pv bt bs ps pm d its (.int .i64 room) (.int .i64 now) now room T L fr pg hR hT hr h)) ?_
 rintro _ B_ ⟨rfl, its1, T1, L1, hB_, hR1, hT1, h1, _⟩
 subst hB_
 have hil := hR1.length
 have hll := h1.ti.len
 refine au 8 ?_
 refine ao rfl (jD call374 rfl (YR bt its1 (.int .i64 room) (.int .i64 now) now T1 hR1 (by omega))) ?_
 rintro _ B_ ⟨rfl, its2, hB_, hR2⟩
 subst hB_
 refine au 8 ?_
 refine dE 4 (jD call375 rfl (Zk bs L1 (by omega))) ?_
 refine aa ?_
 exact ⟨_, ⟨_, its2, rfl, rfl, hR2, h1.flush⟩, IO⟩
end
end Go.Proofs.YtjaalpinjajaoaaGreatDoor
