/-
  Layer 18 (stlb): what the reference does.
-/
import Derived.Test.YtechkfopkpkigaaStlbN
namespace Go.Proofs.Ytechkfopkpkigaa
open Go.RowKit
set_option linter.unusedSimpArgs false
set_option linter.unusedVariables false
set_option maxRecDepth 20000

theorem sla_of {α : Type} {S : World → Prop} {b off sz : Nat} {f : α → List Value} {xs : List α} (hc : Cells S b off (xs.flatMap f)) (hl : ∀ x, (f x).length = sz) : SlA S (some ⟨b, off, none⟩) sz f xs := fun i x hi => by
  have hlt : i < xs.length := by
    rcases Nat.lt_or_ge i xs.length with k | k
    · exact k
    · rw [List.getElem?_eq_none k] at hi; cases hi
  have hx : x = xs[i] := by rw [List.getElem?_eq_getElem hlt] at hi; exact (Option.some.inj hi).symm
  subst hx
  refine ⟨b, off, rfl, fun j v hj => ?_⟩
  have hjl : j < sz := by
    rcases Nat.lt_or_ge j (f xs[i]).length with q | q
    · rw [hl] at q; exact q
    · rw [List.getElem?_eq_none q] at hj; cases hj
  have hg := flat_get hl xs i j [] hlt hjl
  rw [List.append_nil, hj] at hg
  rw [Nat.add_assoc]
  exact hc _ v hg
/-- The reference's translations: a list in its order, wherever it lies. -/
def rtH (W0 : World) (b : Nat) (x : List It × Int) : HP := chk (fun C => ∃ a c D, C = [pt b (cob [.slice a x.1.length c, .int .i64 x.2] 96), kH 0 (grp D)] ∧ ∀ A R w, Own W0 w A → A.Perm (kH 0 (grp D) :: R) → SlA (OwnP W0 A) a 5 keptV x.1)
section
variable {P : Program} {W0 : World} {N : FSz} {K : Act → World → Prop} {e : Env} {A R : List HP} {b : Nat} {L : List It} {rm : Int} {f : FuncId} {args : List Value} {Post : Value → List HP → Prop}
theorem spec_rt (h : ∀ a c D, (∀ A R w, Own W0 w A → A.Perm (kH 0 (grp D) :: R) → SlA (OwnP W0 A) a 5 keptV L) → Spec P W0 f args (pt b (cob [.slice a L.length c, .int .i64 rm] 96) :: kH 0 (grp D) :: R) Post) : Spec P W0 f args (rtH W0 b (L, rm) :: R) Post :=
  spec_chk fun C hC => by obtain ⟨a, c, D, rfl, hs⟩ := hC; exact h a c D hs
theorem run_rt [hk : Tk (rtH W0) b A (L, rm) R] (h : ∀ a c D, (∀ A R w, Own W0 w A → A.Perm (kH 0 (grp D) :: R) → SlA (OwnP W0 A) a 5 keptV L) → Run W0 N K e (pt b (cob [.slice a L.length c, .int .i64 rm] 96) :: kH 0 (grp D) :: R)) : Run W0 N K e A :=
  run_tk (r := rtH W0) (b := b) (run_chk fun C hC => by obtain ⟨a, c, D, rfl, hs⟩ := hC; exact h a c D hs)
theorem ent_rt0 {a : Option Addr} {c n : Nat} {D R1 R2 B : List HP} [h1 : Tk pt b A (cob [.slice a n c, .int .i64 rm] 96) R1] [h2 : Tk kH 0 R1 (grp D) R2] (hn : n = L.length) (hs : ∀ A R w, Own W0 w A → A.Perm (kH 0 (grp D) :: R) → SlA (OwnP W0 A) a 5 keptV L) [k : Ent R2 B] : Ent A (rtH W0 b (L, rm) :: B) := by
  subst hn
  exact (Ent.ofPerm (h1.perm.trans (h2.perm.cons _))).trans ((Ent.cons (Ent.cons k)).trans (ent_chk (R := B) (C := [_, _]) ⟨a, c, D, rfl, hs⟩))
theorem ent_rt {a : Option Addr} {c n : Nat} {ys : List Value} {R1 R2 B : List HP} [h1 : Tk pt b A (cob [.slice a n c, .int .i64 rm] 96) R1] [h2 : Tk (osl 80 5) (.slice a n c) R1 ys R2] (hn : n = L.length) (hy : ys = L.flatMap keptV) [k : Ent R2 B] : Ent A (rtH W0 b (L, rm) :: B) := by
  subst hn; subst hy
  refine (Ent.ofPerm (h1.perm.trans (h2.perm.cons _))).trans ?_
  refine (Ent.cons (ent_kgrp_cons (r := osl 80 5) (b := .slice a L.length c) (x := L.flatMap keptV) (C := []) (h := tk_here) (k := ent_kgrp_nil (h := k)))).trans (ent_chk (R := B) (C := [_, _]) ⟨a, c, _, rfl, fun A R' w hO hA => ?_⟩)
  have ho : Ent A (osl 80 5 (.slice a L.length c) (L.flatMap keptV) :: R') := (Ent.ofPerm hA).trans (ent_open (A := [osl 80 5 (.slice a L.length c) (L.flatMap keptV)]) (R := R'))
  exact SlA.weak (sla_own (h := tk_here) keptV_len (by decide) rfl (hO.ent ho)) (k := ho)
/-- Where the list begins later in its block. -/
theorem ent_rtO {g c n off : Nat} {ys pre sp : List Value} {R1 R2 B : List HP} [h1 : Tk pt b A (cob [.slice (some ⟨g, off, none⟩) n c, .int .i64 rm] 96) R1] [h2 : Tk pt g R1 (cob ys 80) R2] (hn : n = L.length) (hy : ys = pre ++ L.flatMap keptV ++ sp) (hp : pre.length = off) [k : Ent R2 B] : Ent A (rtH W0 b (L, rm) :: B) := by
  subst hn; subst hy; subst hp
  refine (Ent.ofPerm (h1.perm.trans (h2.perm.cons _))).trans ?_
  refine (Ent.cons (ent_kgrp_cons (r := pt) (b := g) (x := cob (pre ++ L.flatMap keptV ++ sp) 80) (C := []) (h := tk_here) (k := ent_kgrp_nil (h := k)))).trans (ent_chk (R := B) (C := [_, _]) ⟨some ⟨g, pre.length, none⟩, c, _, rfl, fun A R' w hO hA => ?_⟩)
  have ho : Ent A (pt g (cob (pre ++ L.flatMap keptV ++ sp) 80) :: R') := (Ent.ofPerm hA).trans (ent_open (A := [pt g (cob (pre ++ L.flatMap keptV ++ sp) 80)]) (R := R'))
  refine SlA.weak (B := pt g (cob (pre ++ L.flatMap keptV ++ sp) 80) :: R') (sla_of (cells_own (h := tk_here) ?_) keptV_len) (k := ho)
  rw [List.append_assoc, List.drop_append_of_le_length (Nat.le_refl _), List.drop_of_length_le (Nat.le_refl _), List.nil_append, List.take_append_of_le_length (Nat.le_refl _), List.take_of_length_le (Nat.le_refl _)]
theorem run_hs {a : Option Addr} {D : List HP} (hs : ∀ A R w, Own W0 w A → A.Perm (kH 0 (grp D) :: R) → SlA (OwnP W0 A) a 5 keptV L) [h : Tk kH 0 A (grp D) R] (k : SlA (OwnP W0 A) a 5 keptV L → Run W0 N K e A) : Run W0 N K e A := fun x w hF hO => k (hs A R w hO h.perm) x w hF hO
end
theorem Cells.front {S : World → Prop} {b off n : Nat} {l vs : List Value} (h : Cells S b off l) (hv : l.take n = vs) : Cells S b off vs := fun i v hi => by
  subst hv
  rw [List.getElem?_take] at hi
  split at hi
  · exact h i v hi
  · cases hi
theorem Cells.mid {S : World → Prop} {b off n j : Nat} {l vs : List Value} (h : Cells S b off l) (hv : (l.drop j).take n = vs) : Cells S b (off + j) vs := fun i v hi => by
  subst hv
  rw [List.getElem?_take] at hi
  split at hi
  · rw [List.getElem?_drop] at hi
    rw [Nat.add_assoc]
    exact h (j + i) v hi
  · cases hi
theorem keptV_get (L : List It) (i : Nat) (h : i < L.length) : L.getD i default = L[i] := by simp [List.getD, h]
def rtNewV (b : Nat) (room : Int) : Value := .tuple #[.pointer (some ⟨b, 0, none⟩), .int .i64 0]
theorem rtNew_ok (W0 : World) (R : List HP) (room : Int) (h : 0 ≤ room ∧ room ≤ 4) :
    Spec Try.prog W0 38 [.int .i64 room] R (fun v B => ∃ b, v = .tuple #[.pointer (some ⟨b, 0, none⟩), .int .i64 0] ∧ B = rtH W0 b ([], room) :: R) := by
  refine spec_body Try.func38 Try.ntmps38 rfl rfl ?_
  refine x_seq ?_
  refine x_region ?_
  refine s_val rfl (v_assign rfl) ?_
  refine s_val rfl (v_assign rfl) ?_
  refine x_nil ?_
  refine n_then ?_
  refine x_seq ?_
  refine x_seq ?_
  refine x_region ?_
  refine s_val rfl (v_move rfl) ?_
  refine s_val rfl (v_lss rfl rfl) ?_
  refine s_val rfl (v_move rfl) ?_
  refine s_or rfl rfl rfl ?_ ?_
  · intro g1_3
    omega
  · intro g1_3
    refine s_val rfl (v_move rfl) ?_
    refine s_yes rfl rfl ?_
    refine s_val rfl (v_gtr rfl rfl) ?_
    refine s_val rfl (v_pick_f rfl rfl) ?_
    refine x_nil ?_
    refine n_then ?_
    refine x_if rfl ?_ ?_
    · intro c1
      omega
    · intro c1
      refine x_skip ?_
      refine n_then ?_
      refine x_seq ?_
      refine x_region ?_
      refine s_val rfl (v_move rfl) ?_
      refine s_val rfl (v_build Try.underlying96 Try.zeroValue96 (sized_cons Try.sizeOf76 (sized_cons Try.sizeOf3 sized_nil)) (fil_scal rfl Try.sizeOf3 rfl rfl (Nat.le_of_ble_eq_true rfl) SetL.eq fil_nil)) ?_
      refine s_do rfl (d_boxA rfl) ?_
      rintro _ _ ⟨b1, rfl, rfl⟩
      refine s_val rfl (v_assign rfl) ?_
      refine s_val rfl (v_assign rfl) ?_
      refine x_nil ?_
      refine n_then ?_
      refine x_ret ?_
      refine x_done (.inl rfl) (.cons (r_tmp rfl) (.cons (r_tmp rfl) .nil)) ?_
      exact ⟨_, ⟨b1, rfl, rfl⟩, (Ent.cons (ent_osl_nil (E := 80) (sz := 5) (B := R))).trans (ent_rt (L := []) rfl rfl)⟩
theorem rtNew_no (W0 : World) (R : List HP) (room : Int) (h : ¬ (0 ≤ room ∧ room ≤ 4)) :
    Spec Try.prog W0 38 [.int .i64 room] R (fun v B => v = .tuple #[.pointer none, .int .i64 1] ∧ B = R) := by
  refine spec_body Try.func38 Try.ntmps38 rfl rfl ?_
  refine x_seq ?_
  refine x_region ?_
  refine s_val rfl (v_assign rfl) ?_
  refine s_val rfl (v_assign rfl) ?_
  refine x_nil ?_
  refine n_then ?_
  refine x_seq ?_
  refine x_seq ?_
  refine x_region ?_
  refine s_val rfl (v_move rfl) ?_
  refine s_val rfl (v_lss rfl rfl) ?_
  refine s_val rfl (v_move rfl) ?_
  refine s_or rfl rfl rfl ?_ ?_
  · intro g1_3
    refine s_no rfl rfl rfl rfl ?_
    refine s_val rfl (v_pick_t rfl rfl) ?_
    refine x_nil ?_
    refine n_then ?_
    refine x_ift rfl ?_
    refine x_seq ?_
    refine x_region ?_
    refine s_val rfl (v_assign rfl) ?_
    refine s_val rfl (v_assign rfl) ?_
    refine x_nil ?_
    refine n_then ?_
    refine x_ret ?_
    refine r_then ?_
    refine x_done (.inl rfl) (.cons (r_tmp rfl) (.cons (r_tmp rfl) .nil)) ?_
    exact ⟨_, ⟨rfl, rfl⟩, inferInstance⟩
  · intro g1_3
    refine s_val rfl (v_move rfl) ?_
    refine s_yes rfl rfl ?_
    refine s_val rfl (v_gtr rfl rfl) ?_
    refine s_val rfl (v_pick_f rfl rfl) ?_
    refine x_nil ?_
    refine n_then ?_
    refine x_if rfl ?_ ?_
    · intro c1
      refine x_seq ?_
      refine x_region ?_
      refine s_val rfl (v_assign rfl) ?_
      refine s_val rfl (v_assign rfl) ?_
      refine x_nil ?_
      refine n_then ?_
      refine x_ret ?_
      refine r_then ?_
      refine x_done (.inl rfl) (.cons (r_tmp rfl) (.cons (r_tmp rfl) .nil)) ?_
      exact ⟨_, ⟨rfl, rfl⟩, inferInstance⟩
    · intro c1
      omega
theorem New_no (W0 : World) (R : List HP) (room : Int) (h : ¬ (0 ≤ room ∧ room ≤ 4)) :
    Spec Try.prog W0 28 [.int .i64 room] R (fun v B => v = .tuple #[.pointer none, .int .i64 1] ∧ B = R) := by
  refine spec_body Try.func28 Try.ntmps28 rfl rfl ?_
  refine x_seq ?_
  refine x_region ?_
  refine s_val rfl (v_assign rfl) ?_
  refine s_val rfl (v_assign rfl) ?_
  refine x_nil ?_
  refine n_then ?_
  refine x_seq ?_
  refine x_seq ?_
  refine x_region ?_
  refine s_val rfl (v_move rfl) ?_
  refine s_val rfl (v_lss rfl rfl) ?_
  refine s_val rfl (v_move rfl) ?_
  refine s_or rfl rfl rfl ?_ ?_
  · intro g1_3
    refine s_no rfl rfl rfl rfl ?_
    refine s_val rfl (v_pick_t rfl rfl) ?_
    refine x_nil ?_
    refine n_then ?_
    refine x_ift rfl ?_
    refine x_seq ?_
    refine x_region ?_
    refine s_val rfl (v_assign rfl) ?_
    refine s_val rfl (v_assign rfl) ?_
    refine x_nil ?_
    refine n_then ?_
    refine x_ret ?_
    refine r_then ?_
    refine x_done (.inl rfl) (.cons (r_tmp rfl) (.cons (r_tmp rfl) .nil)) ?_
    exact ⟨_, ⟨rfl, rfl⟩, inferInstance⟩
  · intro g1_3
    refine s_val rfl (v_move rfl) ?_
    refine s_yes rfl rfl ?_
    refine s_val rfl (v_gtr rfl rfl) ?_
    refine s_val rfl (v_pick_f rfl rfl) ?_
    refine x_nil ?_
    refine n_then ?_
    refine x_if rfl ?_ ?_
    · intro c1
      refine x_seq ?_
      refine x_region ?_
      refine s_val rfl (v_assign rfl) ?_
      refine s_val rfl (v_assign rfl) ?_
      refine x_nil ?_
      refine n_then ?_
      refine x_ret ?_
      refine r_then ?_
      refine x_done (.inl rfl) (.cons (r_tmp rfl) (.cons (r_tmp rfl) .nil)) ?_
      exact ⟨_, ⟨rfl, rfl⟩, inferInstance⟩
    · intro c1
      omega
theorem without_take {k : Key} {L : List It} {i : Nat} (h : i < L.length) : without k (L.take (i + 1)) = without k (L.take i) ++ (if L[i].key = k then [] else [L[i]]) := by
  rw [List.take_succ_eq_append_getElem h, without, List.filter_append]
  by_cases q : L[i].key = k <;> simp [without, q]
/-- What the loops over the list build. -/
abbrev kSl (a : Option Addr) (c : Nat) (l : List It) : HP := osl 80 5 (.slice a l.length c) (l.flatMap keptV)
theorem rtWithout0_spec (W0 : World) (R : List HP) (b : Nat) (L : List It) (rm : Int) (k : Key) (hN : L.length < 1000) (a0 : Option Addr) (c0 : Nat) (D : List HP) (hs0 : ∀ A R w, Own W0 w A → A.Perm (kH 0 (grp D) :: R) → SlA (OwnP W0 A) a0 5 keptV L) :
    Spec Try.prog W0 102 [.pointer (some ⟨b, 0, none⟩), .agg (keyV k).toArray] (pt b (cob [.slice a0 L.length c0, .int .i64 rm] 96) :: kH 0 (grp D) :: R)
      (fun v B => ∃ a c, v = .slice a (without k L).length c ∧ B = kSl a c (without k L) :: pt b (cob [.slice a0 L.length c0, .int .i64 rm] 96) :: kH 0 (grp D) :: R) := by
  refine spec_body Try.func102 Try.ntmps102 rfl rfl ?_
  refine x_seq ?_
  refine x_region ?_
  refine s_do rfl (d_boxA rfl) ?_
  rintro _ _ ⟨b1, rfl, rfl⟩
  refine s_val rfl (v_assign rfl) ?_
  refine x_nil ?_
  refine n_then ?_
  refine x_seq ?_
  refine x_region ?_
  refine s_val rfl (v_assign rfl) ?_
  refine x_nil ?_
  refine n_then ?_
  refine x_seq ?_
  refine x_seq ?_
  refine x_region ?_
  refine s_val rfl (v_assign rfl) ?_
  refine x_nil ?_
  refine n_then ?_
  refine x_block ?_
  refine x_loop (fun X : Nat × Option Addr × Nat => X.1 ≤ L.length) (fun X => [(0, .pointer (some ⟨b, 0, none⟩)), (3, .pointer (some ⟨b1, 0, none⟩)), (5, .slice X.2.1 (without k (L.take X.1)).length X.2.2), (6, .int .i64 X.1)]) (fun X => kSl X.2.1 X.2.2 (without k (L.take X.1)) :: pt b1 (cob (keyV k) 73) :: pt b (cob [.slice a0 L.length c0, .int .i64 rm] 96) :: kH 0 (grp D) :: R) (fun X => L.length - X.1) (0, none, 0) ?_ ?_ ?_ ?_
  · exact Nat.zero_le _
  · repeat (first | exact sub_nil | refine sub_cons rfl ?_)
  · exact ent_osl_nil
  · intro ⟨i, a2, c2⟩ hi
    dsimp only at hi ⊢
    refine x_seq ?_
    refine x_seq ?_
    refine x_region ?_
    refine s_val rfl (v_move rfl) ?_
    refine s_val rfl (v_move rfl) ?_
    refine s_val rfl (v_nilCheck rfl) ?_
    refine s_val rfl (v_fieldAddr rfl Try.underlying96 rfl Try.sizeOf76 rfl (by first | exact Nat.zero_add _ | rfl)) ?_
    refine s_val rfl (v_load Try.isAgg76 rfl (cell_own rfl)) ?_
    refine s_val rfl (v_len_slice Try.underlying76 rfl) ?_
    refine s_val rfl (v_lss rfl rfl) ?_
    refine x_nil ?_
    refine n_then ?_
    refine x_if rfl ?_ ?_
    · intro c3
      have hi1 : i < L.length := by omega
      refine run_hs hs0 (fun hs => ?_)
      obtain ⟨g, o, rfl, hc⟩ := hs.at_ hi1
      have htk := without_take (k := k) hi1
      have hwl := without_le k (L.take i)
      rw [List.length_take] at hwl
      refine x_skip ?_
      refine n_then ?_
      refine x_cut (fun Z : Option Addr × Nat => True) (fun Z => [(0, .pointer (some ⟨b, 0, none⟩)), (3, .pointer (some ⟨b1, 0, none⟩)), (5, .slice Z.1 (without k (L.take (i + 1))).length Z.2), (6, .int .i64 i)]) (fun Z => kSl Z.1 Z.2 (without k (L.take (i + 1))) :: pt b1 (cob (keyV k) 73) :: pt b (cob [.slice (some ⟨g, o, none⟩) L.length c0, .int .i64 rm] 96) :: kH 0 (grp D) :: R) ?_ ?_
      · skip
        refine x_block ?_
        refine x_seq ?_
        refine x_draw [(b, 0, _), (g, o + i * 5, keptV L[i]), (b1, 0, _)] 10 mixed rfl (sc_own (sc_cons hc.weak (sc_own sc_end))) (fun hS => ?_)
        refine d_take 0 rfl rfl (by kernel_rfl) (by kernel_rfl) (by kernel_rfl) rfl hS (v_move rfl) ?_
        refine d_take 1 rfl rfl (by kernel_rfl) (by kernel_rfl) (by kernel_rfl) rfl hS (v_nilCheck rfl) ?_
        refine d_take 2 rfl rfl (by kernel_rfl) (by kernel_rfl) (by kernel_rfl) rfl hS (v_fieldAddr rfl Try.underlying96 rfl Try.sizeOf76 rfl (by first | exact Nat.zero_add _ | rfl)) ?_
        refine d_take 3 rfl rfl (by kernel_rfl) (by kernel_rfl) (by kernel_rfl) rfl hS (v_load Try.isAgg76 rfl (cell_sc0 (k := 0) rfl rfl)) ?_
        refine d_take 4 rfl rfl (by kernel_rfl) (by kernel_rfl) (by kernel_rfl) rfl hS (v_move rfl) ?_
        refine d_take 5 rfl rfl (by kernel_rfl) (by kernel_rfl) (by kernel_rfl) rfl hS (v_idx Try.underlying76 Try.sizeOf80 rfl rfl rfl hi1 (by first | exact Nat.zero_add _ | rfl)) ?_
        refine d_take 6 rfl rfl (by kernel_rfl) (by kernel_rfl) (by kernel_rfl) rfl hS (v_fieldAddr rfl Try.underlying80 rfl Try.sizeOf73 rfl (by first | exact Nat.zero_add _ | rfl)) ?_
        refine d_take 7 rfl rfl (by kernel_rfl) (by kernel_rfl) (by kernel_rfl) rfl hS (v_loadAgg Try.isAgg73 Try.sizeOf73 rfl (Cells.front (n := 2) (vs := keyV L[i].key) (cells_sc (k := 1) rfl) rfl) rfl) ?_
        refine d_take 8 rfl rfl (by kernel_rfl) (by kernel_rfl) (by kernel_rfl) rfl hS (v_loadAgg Try.isAgg73 Try.sizeOf73 rfl (cells_sc (k := 2) rfl) rfl) ?_
        refine d_take 9 rfl rfl (by kernel_rfl) (by kernel_rfl) (by kernel_rfl) rfl hS (v_neq_agg Try.eqGuardType73 rfl rfl (q_struct Try.underlying73 Try.stoodInHeld73 (qf_scal rfl Try.isAgg3 rfl rfl (q_int Try.underlying3) (qf_scal rfl Try.isAgg3 rfl rfl (q_int Try.underlying3) qf_nil)))) ?_
        refine d_done (by kernel_rfl) ?_; clear hS
        refine n_then ?_
        refine x_if rfl ?_ ?_
        · intro c5
          have hne : ¬ L[i].key = k := fun q => by rw [q] at c5; exact absurd (by simp) c5
          rw [if_neg hne] at htk
          refine x_region ?_
          refine s_val rfl (v_move rfl) ?_
          refine s_val rfl (v_move rfl) ?_
          refine s_val rfl (v_nilCheck rfl) ?_
          refine s_val rfl (v_fieldAddr rfl Try.underlying96 rfl Try.sizeOf76 rfl (by first | exact Nat.zero_add _ | rfl)) ?_
          refine s_val rfl (v_load Try.isAgg76 rfl (cell_own rfl)) ?_
          refine s_val rfl (v_move rfl) ?_
          refine s_val rfl (v_idx Try.underlying76 Try.sizeOf80 rfl rfl rfl hi1 (by first | exact Nat.zero_add _ | rfl)) ?_
          refine s_val rfl (v_loadAgg Try.isAgg80 Try.sizeOf80 rfl hc.weak rfl) ?_
          refine s_do rfl (d_sliceAgg Try.underlying76 Try.sizeOf80 Try.zeroValue80 rfl (elsK_cons rfl rfl elsK_nil) rfl (by decide) (by decide) (by decide)) ?_
          rintro _ _ ⟨b2, rfl, rfl⟩
          refine s_do rfl (d_append (sz := 5) (by_ := 40) (info := Try.t80) Try.underlying76 (by kernel_rfl) rfl rfl rfl rfl (by decide) rfl rfl cells_all rfl rfl (by simp only [maxLen]; omega) (by omega)) ?_
          rintro _ _ ⟨a3, c3, rfl, rfl⟩
          refine s_val rfl (v_assign rfl) ?_
          refine x_nil ?_
          refine n_block ?_
          refine n_then ?_
          refine mid_intro (a3, c3) ?_ ?_ ?_
          · trivial
          · dsimp only
            rw [htk, List.length_append]
            repeat (first | exact sub_nil | refine sub_cons rfl ?_)
          · dsimp only
            rw [htk, kSl, List.length_append, List.flatMap_append]
            show Ent _ (osl 80 5 (.slice a3 ((without k (L.take i)).length + 1) c3) ((without k (L.take i)).flatMap keptV ++ [keptV L[i]].flatten) :: _)
            exact inferInstance
        · intro c5
          have heq : L[i].key = k := by
            rw [← Decidable.not_not (p := L[i].key = k)]
            intro q
            apply c5
            simpa [Prod.ext_iff, It.key] using q
          rw [if_pos heq, List.append_nil] at htk
          refine x_skip ?_
          refine n_block ?_
          refine n_then ?_
          refine mid_intro (a2, c2) ?_ ?_ ?_
          · trivial
          · dsimp only
            rw [htk]
            repeat (first | exact sub_nil | refine sub_cons rfl ?_)
          · dsimp only
            rw [htk]; exact inferInstance
      · intro ⟨a4, c4⟩ hz
        refine x_region ?_
        refine s_val rfl (v_move rfl) ?_
        refine s_val rfl (v_add rfl rfl (by first | exact w64 (by omega) | rfl)) ?_
        refine s_val rfl (v_assign rfl) ?_
        refine x_nil ?_
        refine n_then ?_
        refine inv_intro (i + 1, a4, c4) ?_ ?_ ?_ ?_
        · omega
        · show L.length - (i + 1) < L.length - i; omega
        · repeat (first | exact sub_nil | refine sub_cons rfl ?_)
        · exact inferInstance
    · intro c3
      refine x_exit ?_
      refine e_then ?_
      refine e_then ?_
      refine e_block ?_
      refine n_then ?_
      refine x_seq ?_
      refine x_region ?_
      refine s_val rfl (v_move rfl) ?_
      refine s_val rfl (v_assign rfl) ?_
      refine x_nil ?_
      refine n_then ?_
      refine x_ret ?_
      refine x_done (.inl rfl) (.cons (r_tmp rfl) .nil) ?_
      obtain rfl : i = L.length := by omega
      rw [List.take_of_length_le (Nat.le_refl _)]
      exact ⟨_, ⟨a2, c2, rfl, rfl⟩, inferInstance⟩
theorem rtWithout_spec (W0 : World) (R : List HP) (b : Nat) (L : List It) (rm : Int) (k : Key) (hN : L.length < 1000) :
    Spec Try.prog W0 102 [.pointer (some ⟨b, 0, none⟩), .agg (keyV k).toArray] (rtH W0 b (L, rm) :: R)
      (fun v B => ∃ a c, v = .slice a (without k L).length c ∧ B = kSl a c (without k L) :: rtH W0 b (L, rm) :: R) := by
  refine spec_rt fun a0 c0 D hs0 => spec_post (rtWithout0_spec W0 R b L rm k hN a0 c0 D hs0) ?_
  rintro _ _ ⟨a, c, rfl, rfl⟩
  exact ⟨_, ⟨a, c, rfl, rfl⟩, (Ent.cons (ent_rt0 rfl hs0))⟩
end Go.Proofs.Ytechkfopkpkigaa
