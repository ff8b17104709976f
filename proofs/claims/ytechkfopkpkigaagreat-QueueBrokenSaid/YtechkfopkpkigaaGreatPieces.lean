/-
  Layer 16 (view): pieces, an iterator.
-/
import Derived.Test.YtechkfopkpkigaaGreatBase
import Derived.Test.YtechkfopkpkigaaGreatKit
namespace Go.Proofs.YtechkfopkpkigaaGreat
open Go.RowKit
set_option linter.unusedSimpArgs false
set_option linter.unusedVariables false
set_option maxRecDepth 20000

def pcN (pa n at_ : Nat) : Nat := min (n - at_) (64 - (pa + at_) % 64)
theorem pcN_pos {pa n at_ : Nat} (h : at_ < n) : 0 < pcN pa n at_ ∧ at_ + pcN pa n at_ ≤ n := by unfold pcN; omega
def pcV (pa n at_ : Nat) : List Value := [.int .i64 ((pa + at_) / 64 : Nat), .int .i64 ((pa + at_) % 64 : Nat), .int .i64 (at_ : Nat), .int .i64 (pcN pa n at_ : Nat)]
theorem pieces1_spec (W0 : World) (bn bp pa n L : Nat) (hpa : pa ≤ 100000) (hn : n ≤ 100000) (C : Nat → List HP) (I : Nat → Prop) (h0 : I 0) (Stop : List HP → Prop)
    (hr : ∀ at_ R, at_ < n → I at_ → Rounds Tryz.prog W0 L [.agg (pcV pa n at_).toArray] (C at_ ++ R) (fun v B => ∃ b B', v = .bool b ∧ B = B' ++ R ∧ ((b = true ∧ I (at_ + pcN pa n at_) ∧ B' = C (at_ + pcN pa n at_)) ∨ (b = false ∧ Stop B')))) :
    Spec Tryz.prog W0 234 [.func (.yield L) #[] #[], .pointer (some ⟨bn, 0, none⟩), .pointer (some ⟨bp, 0, none⟩)] (pt bn (cob [.int .i64 n] 3) :: pt bp (cob [.int .i64 pa] 3) :: C 0)
      (fun v B => v = .tuple #[] ∧ ((I n ∧ B = C n) ∨ Stop B)) := by
  refine spec_body Tryz.func234 Tryz.ntmps234 rfl rfl ?_
  refine x_seq ?_
  refine x_region ?_
  refine s_val rfl (v_assign rfl) ?_
  refine x_nil ?_
  refine n_then ?_
  refine x_block ?_
  refine x_loop (fun i : Nat => i ≤ n ∧ I i) (fun i => [(0, .func (.yield L) #[] #[]), (1, .pointer (some ⟨bn, 0, none⟩)), (2, .pointer (some ⟨bp, 0, none⟩)), (4, .int .i64 i)]) (fun i => pt bn (cob [.int .i64 n] 3) :: pt bp (cob [.int .i64 pa] 3) :: C i) (fun i => n - i) 0 ?_ ?_ ?_ ?_
  · exact ⟨Nat.zero_le _, h0⟩
  · repeat (first | exact sub_nil | refine sub_cons rfl ?_)
  · exact inferInstance
  · intro i ⟨hi, hI⟩
    refine x_seq ?_
    refine x_seq ?_
    refine x_region ?_
    refine s_val rfl (v_move rfl) ?_
    refine s_val rfl (v_load Tryz.isAgg3 rfl (cell_own rfl)) ?_
    refine s_val rfl (v_lss rfl rfl) ?_
    refine x_nil ?_
    refine n_then ?_
    refine x_if rfl ?_ ?_
    · intro c1
      refine x_skip ?_
      refine n_then ?_
      refine x_block ?_
      refine x_seq ?_
      have hpos := pcN_pos (pa := pa) (n := n) (at_ := i) (by omega)
      refine x_region ?_
      refine s_val rfl (v_load Tryz.isAgg3 rfl (cell_own rfl)) ?_
      refine s_val rfl (v_move rfl) ?_
      refine s_val rfl (v_add rfl rfl (by rw [w64 (by omega)]; omega : IntKind.wrap .i64 ((pa : Int) + (i : Int)) = ((pa + i : Nat) : Int))) ?_
      refine s_val rfl (v_quo rfl rfl (by decide) ((congrArg (IntKind.wrap .i64) (tdivN (pa + i) 64)).trans (w64 (by omega)))) ?_
      refine s_val rfl (v_load Tryz.isAgg3 rfl (cell_own rfl)) ?_
      refine s_val rfl (v_move rfl) ?_
      refine s_val rfl (v_add rfl rfl (by rw [w64 (by omega)]; omega : IntKind.wrap .i64 ((pa : Int) + (i : Int)) = ((pa + i : Nat) : Int))) ?_
      refine s_val rfl (v_rem rfl rfl (by decide) (tmodN (pa + i) 64)) ?_
      refine s_val rfl (v_move rfl) ?_
      refine s_val rfl (v_build Tryz.underlying273 Tryz.zeroValue273 (sized_cons Tryz.sizeOf3 (sized_cons Tryz.sizeOf3 (sized_cons Tryz.sizeOf3 (sized_cons Tryz.sizeOf3 sized_nil)))) (fil_scal rfl Tryz.sizeOf3 rfl rfl (Nat.le_of_ble_eq_true rfl) SetL.eq (fil_scal rfl Tryz.sizeOf3 rfl rfl (Nat.le_of_ble_eq_true rfl) SetL.eq (fil_scal rfl Tryz.sizeOf3 rfl rfl (Nat.le_of_ble_eq_true rfl) SetL.eq fil_nil)))) ?_
      refine s_do rfl (d_allocA Tryz.zeroValue273) ?_
      rintro _ _ ⟨b1, rfl, rfl⟩
      refine s_do0 (d_storeAll Tryz.sizeOf273 rfl rfl rfl rfl rfl) ?_
      rintro _ _ rfl
      refine x_nil ?_
      refine n_then ?_
      refine x_seq ?_
      refine x_region ?_
      refine s_val rfl (v_load Tryz.isAgg3 rfl (cell_own rfl)) ?_
      refine s_val rfl (v_move rfl) ?_
      refine s_val rfl (v_sub rfl rfl (by rw [w64 (by omega)]; omega : IntKind.wrap .i64 ((n : Int) - (i : Int)) = ((n - i : Nat) : Int))) ?_
      refine s_val rfl (v_fieldAddr rfl Tryz.underlying273 rfl Tryz.sizeOf3 rfl (by first | exact Nat.zero_add _ | rfl)) ?_
      refine s_val rfl (v_load Tryz.isAgg3 rfl (cell_own rfl)) ?_
      refine s_val rfl (v_sub rfl rfl (by rw [w64 (by omega)]; omega : IntKind.wrap .i64 (64 - (((pa + i) % 64 : Nat) : Int)) = ((64 - (pa + i) % 64 : Nat) : Int))) ?_
      refine s_val rfl (v_min rfl rfl (by unfold pcN; split <;> omega : (if ((64 - (pa + i) % 64 : Nat) : Int) < ((n - i : Nat) : Int) then ((64 - (pa + i) % 64 : Nat) : Int) else ((n - i : Nat) : Int)) = ((pcN pa n i : Nat) : Int))) ?_
      refine s_val rfl (v_fieldAddr rfl Tryz.underlying273 rfl Tryz.sizeOf3 rfl (by first | exact Nat.zero_add _ | rfl)) ?_
      refine s_do0 (d_store Tryz.sizeOf3 rfl rfl rfl (Nat.le_of_ble_eq_true rfl) SetL.eq) ?_
      rintro _ _ rfl
      refine x_nil ?_
      refine n_then ?_
      refine x_seq ?_
      refine x_seq ?_
      refine x_region ?_
      refine s_val rfl (v_move rfl) ?_
      refine s_val rfl (v_loadAll Tryz.isAgg273 Tryz.sizeOf273 rfl rfl) ?_
      refine s_yield rfl rfl rfl (rounds_perm (List.perm_append_comm (l₁ := [_, _, _])) (hr i [_, _, _] (by omega) hI)) ?_
      rintro _ B_ ⟨b, B', rfl, hB_, hb⟩
      obtain rfl := hB_.symm
      refine run_perm List.perm_append_comm ?_
      simp only [List.cons_append, List.nil_append]
      refine s_val rfl (v_not rfl) ?_
      refine x_nil ?_
      refine n_then ?_
      refine x_if rfl ?_ ?_
      · intro c4
        have hs : Stop B' := by
          rcases hb with h | h
          · exact absurd c4 (by rw [h.1]; decide)
          · exact h.2
        refine x_ret ?_
        refine r_then ?_
        refine r_block ?_
        refine r_then ?_
        refine r_block ?_
        refine x_done (.inl rfl) .nil ?_
        exact ⟨_, ⟨rfl, .inr hs⟩, inferInstance⟩
      · intro c4
        have hs : I (i + pcN pa n i) ∧ B' = C (i + pcN pa n i) := by
          rcases hb with h | h
          · exact h.2
          · exact absurd (by rw [h.1]; decide) c4
        obtain ⟨hI', rfl⟩ := hs
        refine x_skip ?_
        refine n_then ?_
        refine x_region ?_
        refine s_val rfl (v_move rfl) ?_
        refine s_val rfl (v_fieldAddr rfl Tryz.underlying273 rfl Tryz.sizeOf3 rfl (by first | exact Nat.zero_add _ | rfl)) ?_
        refine s_val rfl (v_load Tryz.isAgg3 rfl (cell_own rfl)) ?_
        refine s_val rfl (v_add rfl rfl (by rw [w64 (by omega)]; omega : IntKind.wrap .i64 ((i : Int) + ((pcN pa n i : Nat) : Int)) = ((i + pcN pa n i : Nat) : Int))) ?_
        refine s_val rfl (v_assign rfl) ?_
        refine x_nil ?_
        refine n_block ?_
        refine n_then ?_
        refine inv_intro (i + pcN pa n i) ?_ ?_ ?_ ?_
        · exact ⟨by omega, hI'⟩
        · omega
        · repeat (first | exact sub_nil | refine sub_cons rfl ?_)
        · exact inferInstance
    · intro c1
      refine x_exit ?_
      refine e_then ?_
      refine e_then ?_
      refine e_block ?_
      refine x_done (.inr rfl) .nil ?_
      have : i = n := by omega
      subst this
      exact ⟨_, ⟨rfl, .inl ⟨hI, rfl⟩⟩, inferInstance⟩
theorem pieces_spec (W0 : World) (R : List HP) (pa n : Nat) :
    Spec Tryz.prog W0 189 [.int .i64 pa, .int .i64 n] R (fun v B => ∃ bn bp, v = .func (.func 234) #[] #[.pointer (some ⟨bn, 0, none⟩), .pointer (some ⟨bp, 0, none⟩)] ∧ B = pt bn (cob [.int .i64 n] 3) :: pt bp (cob [.int .i64 pa] 3) :: R) := by
  refine spec_body Tryz.func189 Tryz.ntmps189 rfl rfl ?_
  refine x_seq ?_
  refine x_region ?_
  refine s_do rfl (d_box rfl rfl) ?_
  rintro _ _ ⟨b1, rfl, rfl⟩
  refine s_do rfl (d_box rfl rfl) ?_
  rintro _ _ ⟨b2, rfl, rfl⟩
  refine s_val rfl (v_assign rfl) ?_
  refine x_nil ?_
  refine n_then ?_
  refine x_seq ?_
  refine x_region ?_
  refine s_val rfl (v_mkFunc rfl rfl) ?_
  refine s_val rfl (v_assign rfl) ?_
  refine x_nil ?_
  refine n_then ?_
  refine x_ret ?_
  refine x_done (.inl rfl) (.cons (r_tmp rfl) .nil) ?_
  exact ⟨_, ⟨b2, b1, rfl, rfl⟩, inferInstance⟩
/-- As a range over it wants it. -/
theorem pieces_range {W0 : World} {A : List HP} {e : Env} {n' L D bn bp : Nat} {ps : Array Tmp} {asg body : Code} {Go Stop : List HP → Prop} (pa n : Nat) (C : Nat → List HP) (I : Nat → Prop) (hpa : pa ≤ 100000) (hn : n ≤ 100000)
    (hp : A.Perm (pt bn (cob [.int .i64 n] 3) :: pt bp (cob [.int .i64 pa] 3) :: C 0)) (h0 : I 0) (hgo : I n → Go (C n))
    (hr : ∀ at_ R, at_ < n → I at_ → Rounds Tryz.prog W0 L [.agg (pcV pa n at_).toArray] (recH L ⟨e, n', ps, asg, body, .ready, none, D⟩ :: pt D (.deferred (some [])) :: (C at_ ++ R))
      (fun v B => (v = .bool true ∧ I (at_ + pcN pa n at_) ∧ B = recH L ⟨e, n', ps, asg, body, .ready, none, D⟩ :: pt D (.deferred (some [])) :: (C (at_ + pcN pa n at_) ++ R)) ∨
        (v = .bool false ∧ ∃ B', Stop B' ∧ B = recH L ⟨e, n', ps, asg, body, .done, some .ret, D⟩ :: pt D (.deferred (some [])) :: (B' ++ R)))) :
    Spec Tryz.prog W0 234 (.func (.yield L) #[] #[] :: [.pointer (some ⟨bn, 0, none⟩), .pointer (some ⟨bp, 0, none⟩)]) (recH L ⟨e, n', ps, asg, body, .ready, none, D⟩ :: pt D (.deferred (some [])) :: A)
      (fun _ B => (∃ C, B = recH L ⟨e, n', ps, asg, body, .ready, none, D⟩ :: pt D (.deferred (some [])) :: C ∧ Go C) ∨ (∃ C, B = recH L ⟨e, n', ps, asg, body, .done, some .ret, D⟩ :: pt D (.deferred (some [])) :: C ∧ Stop C)) := by
  have hperm : (recH L ⟨e, n', ps, asg, body, .ready, none, D⟩ :: pt D (.deferred (some [])) :: A).Perm (pt bn (cob [.int .i64 n] 3) :: pt bp (cob [.int .i64 pa] 3) :: (recH L ⟨e, n', ps, asg, body, .ready, none, D⟩ :: pt D (.deferred (some [])) :: C 0)) := by
    refine ((hp.cons _).cons _).trans ?_
    exact (((List.Perm.swap _ _ _).trans ((List.Perm.swap _ _ _).cons _)).cons _).trans ((List.Perm.swap _ _ _).trans ((List.Perm.swap _ _ _).cons _)) |>.trans (List.Perm.refl _)
  refine spec_perm hperm (spec_post (pieces1_spec W0 bn bp pa n L hpa hn (fun i => recH L ⟨e, n', ps, asg, body, .ready, none, D⟩ :: pt D (.deferred (some [])) :: C i) I h0
    (fun B => ∃ B', Stop B' ∧ B = recH L ⟨e, n', ps, asg, body, .done, some .ret, D⟩ :: pt D (.deferred (some [])) :: B') fun at_ R hat hI w hO => ?_) ?_)
  · obtain ⟨f, tmps, as_, bd, hy, hR⟩ := hr at_ R hat hI w hO
    refine ⟨f, tmps, as_, bd, hy, RoundIn.mono hR ?_⟩
    rintro _ w' ⟨v, B, rfl, hB, hO'⟩
    rcases hB with ⟨rfl, hI', rfl⟩ | ⟨rfl, B', hS, rfl⟩
    · exact ⟨_, _, rfl, ⟨true, _, rfl, rfl, .inl ⟨rfl, hI', rfl⟩⟩, hO'⟩
    · exact ⟨_, _, rfl, ⟨false, recH L ⟨e, n', ps, asg, body, .done, some .ret, D⟩ :: pt D (.deferred (some [])) :: B', rfl, rfl, .inr ⟨rfl, B', hS, rfl⟩⟩, hO'⟩
  · rintro v B ⟨_, ⟨hI, rfl⟩ | ⟨B', hS, rfl⟩⟩
    · exact ⟨_, .inl ⟨_, rfl, hgo hI⟩, ent_refl⟩
    · exact ⟨_, .inr ⟨_, rfl, hS⟩, ent_refl⟩
end Go.Proofs.YtechkfopkpkigaaGreat
