/-
  Layer 18 (stlb): List, with the library's sorting of few items.
-/
import Derived.Test.YtechkfopkpkigaaStlbF
namespace Go.Proofs.Ytechkfopkpkigaa
open Go.RowKit
set_option linter.unusedSimpArgs false
set_option linter.unusedVariables false
set_option maxRecDepth 20000

/-! ### Values, one by one -/
theorem values_spec (W0 : World) (R : List HP) (a : Option Addr) (n c : Nat) :
    Spec Try.prog W0 94 [.slice a n c] R (fun v B => ∃ bs, v = .func (.func 149) #[] #[.pointer (some ⟨bs, 0, none⟩)] ∧ B = pt bs (cob [.slice a n c] 83) :: R) := by
  refine spec_body Try.func94 Try.ntmps94 rfl rfl ?_
  refine x_seq ?_
  refine x_region ?_
  refine s_do rfl (d_box rfl rfl) ?_
  rintro _ _ ⟨b1, rfl, rfl⟩
  refine s_val rfl (v_assign rfl) ?_
  refine x_nil ?_
  refine n_then ?_
  refine x_seq ?_
  refine x_region ?_
  refine s_val rfl (v_mkFunc rfl rfl) ?_
  refine s_val rfl (v_assign rfl) ?_
  refine x_nil ?_
  refine n_then ?_
  refine x_ret ?_
  refine x_done (.inl rfl) (.cons (r_tmp rfl) .nil) ?_
  exact ⟨_, ⟨b1, rfl, rfl⟩, inferInstance⟩
theorem vals1_spec (W0 : World) (bs L c : Nat) (a : Option Addr) (its : List It) (hN : its.length < 1000) (C : Nat → List HP)
    (hr : ∀ i R, i < its.length → Rounds Try.prog W0 L [.agg (itemV (its.getD i default)).toArray] (C i ++ R) (fun v B => v = .bool true ∧ B = C (i + 1) ++ R)) :
    Spec Try.prog W0 149 [.func (.yield L) #[] #[], .pointer (some ⟨bs, 0, none⟩)] (pt bs (cob [.slice a its.length c] 83) :: osl 171 6 (.slice a its.length c) (its.flatMap itemV) :: C 0)
      (fun v B => v = .tuple #[] ∧ B = pt bs (cob [.slice a its.length c] 83) :: osl 171 6 (.slice a its.length c) (its.flatMap itemV) :: C its.length) := by
  refine spec_body Try.func149 Try.ntmps149 rfl rfl ?_
  refine x_seq ?_
  refine x_region ?_
  refine s_val rfl (v_load Try.isAgg83 rfl (cell_own rfl)) ?_
  refine s_val rfl (v_len_slice Try.underlying83 rfl) ?_
  refine s_val rfl (v_move rfl) ?_
  refine x_nil ?_
  refine n_then ?_
  refine x_block ?_
  refine x_loop (fun i : Nat => i ≤ its.length) (fun i => [(0, .func (.yield L) #[] #[]), (5, .slice a its.length c), (6, .int .i64 (its.length : Nat)), (7, .int .i64 i)]) (fun i => pt bs (cob [.slice a its.length c] 83) :: osl 171 6 (.slice a its.length c) (its.flatMap itemV) :: C i) (fun i => its.length - i) 0 ?_ ?_ ?_ ?_
  · exact Nat.zero_le _
  · repeat (first | exact sub_nil | refine sub_cons rfl ?_)
  · exact inferInstance
  · intro i hi
    refine x_seq ?_
    refine x_region ?_
    refine s_val rfl (v_lss rfl rfl) ?_
    refine x_nil ?_
    refine n_then ?_
    refine x_seq ?_
    refine x_if rfl ?_ ?_
    · intro c1
      have hi1 : i < its.length := by omega
      refine run_sla (E := 171) (sz := 6) (a := a) (n := its.length) (c := c) itemV its itemV_len (by decide) rfl (fun hs => ?_)
      obtain ⟨g, o, rfl, hc⟩ := hs.at_ hi1
      have hgi : its.getD i default = its[i] := by simp [List.getD, hi1]
      refine x_skip ?_
      refine n_then ?_
      refine x_seq ?_
      refine x_block ?_
      refine x_seq ?_
      refine x_region ?_
      refine s_val rfl (v_idx Try.underlying83 Try.sizeOf171 rfl rfl rfl hi1 (by first | exact Nat.zero_add _ | rfl)) ?_
      refine s_val rfl (v_loadAgg Try.isAgg171 Try.sizeOf171 rfl hc rfl) ?_
      refine s_do rfl (d_allocA Try.zeroValue171) ?_
      rintro _ _ ⟨bx, rfl, rfl⟩
      refine s_do0 (d_storeAll Try.sizeOf171 rfl rfl rfl rfl rfl) ?_
      rintro _ _ rfl
      refine x_nil ?_
      refine n_then ?_
      refine x_seq ?_
      refine x_region ?_
      refine s_val rfl (v_move rfl) ?_
      refine s_val rfl (v_loadAll Try.isAgg171 Try.sizeOf171 rfl rfl) ?_
      refine s_yield rfl rfl rfl (rounds_perm (List.perm_append_comm (l₁ := [_, _, _])) (hgi ▸ hr i [_, _, _] hi1)) ?_
      rintro _ B_ ⟨rfl, hB_⟩
      obtain rfl := hB_.symm
      refine run_perm List.perm_append_comm ?_
      simp only [List.cons_append, List.nil_append]
      refine s_val rfl (v_not rfl) ?_
      refine x_nil ?_
      refine n_then ?_
      refine x_if rfl ?_ ?_
      · intro c3
        exact absurd rfl c3
      · intro c3
        refine x_skip ?_
        refine n_block ?_
        refine n_then ?_
        refine x_region ?_
        refine s_val rfl (v_add rfl rfl (by first | exact w64 (by omega) | rfl)) ?_
        refine s_val rfl (v_move rfl) ?_
        refine x_nil ?_
        refine n_then ?_
        refine inv_intro (i + 1) ?_ ?_ ?_ ?_
        · omega
        · omega
        · repeat (first | exact sub_nil | refine sub_cons rfl ?_)
        · exact inferInstance
    · intro c1
      refine x_exit ?_
      refine e_then ?_
      refine e_then ?_
      refine e_block ?_
      refine x_done (.inr rfl) .nil ?_
      obtain rfl : i = its.length := by omega
      exact ⟨_, ⟨rfl, rfl⟩, inferInstance⟩
theorem vals_range {W0 : World} {A : List HP} {e : Env} {n' L D bs c : Nat} {a : Option Addr} {ps : Array Tmp} {asg body : Code} {Go Stop : List HP → Prop} (its : List It) (hN : its.length < 1000) (C : Nat → List HP)
    (hp : A.Perm (pt bs (cob [.slice a its.length c] 83) :: osl 171 6 (.slice a its.length c) (its.flatMap itemV) :: C 0))
    (hgo : Go (pt bs (cob [.slice a its.length c] 83) :: osl 171 6 (.slice a its.length c) (its.flatMap itemV) :: C its.length))
    (hr : ∀ i R, i < its.length → Rounds Try.prog W0 L [.agg (itemV (its.getD i default)).toArray] (recH L ⟨e, n', ps, asg, body, .ready, none, D⟩ :: pt D (.deferred (some [])) :: (C i ++ R))
      (fun v B => v = .bool true ∧ B = recH L ⟨e, n', ps, asg, body, .ready, none, D⟩ :: pt D (.deferred (some [])) :: (C (i + 1) ++ R))) :
    Spec Try.prog W0 149 (.func (.yield L) #[] #[] :: [.pointer (some ⟨bs, 0, none⟩)]) (recH L ⟨e, n', ps, asg, body, .ready, none, D⟩ :: pt D (.deferred (some [])) :: A)
      (fun _ B => (∃ C, B = recH L ⟨e, n', ps, asg, body, .ready, none, D⟩ :: pt D (.deferred (some [])) :: C ∧ Go C) ∨ (∃ C, B = recH L ⟨e, n', ps, asg, body, .done, some .ret, D⟩ :: pt D (.deferred (some [])) :: C ∧ Stop C)) := by
  have sw : ∀ (x y p q : HP) (Z : List HP), (x :: y :: p :: q :: Z).Perm (p :: q :: x :: y :: Z) := fun x y p q Z =>
    (((List.Perm.swap _ _ _).trans ((List.Perm.swap _ _ _).cons _)).cons _).trans ((List.Perm.swap _ _ _).trans ((List.Perm.swap _ _ _).cons _))
  refine spec_perm (((hp.cons _).cons _).trans (sw _ _ _ _ _)) (spec_post (vals1_spec W0 bs L c a its hN (fun i => recH L ⟨e, n', ps, asg, body, .ready, none, D⟩ :: pt D (.deferred (some [])) :: C i) (fun i R hi => hr i R hi)) ?_)
  rintro v B ⟨_, rfl⟩
  exact ⟨_, .inl ⟨_, rfl, hgo⟩, Ent.ofPerm (sw _ _ _ _ _)⟩
/-- A list of items in a variable. -/
def itH (b : Nat) (l : List It) : HP := chk (fun C => ∃ a c, C = [pt b (cob [.slice a l.length c] 83), osl 171 6 (.slice a l.length c) (l.flatMap itemV)])
section
variable {W0 : World} {N : FSz} {K : Act → World → Prop} {e : Env} {A R R1 R2 : List HP} {b n c : Nat} {l : List It} {a : Option Addr} {ys : List Value}
theorem run_itH [hk : Tk itH b A l R] (h : ∀ a c, Run W0 N K e (pt b (cob [.slice a l.length c] 83) :: osl 171 6 (.slice a l.length c) (l.flatMap itemV) :: R)) : Run W0 N K e A :=
  run_tk (r := itH) (b := b) (run_chk fun C hC => by obtain ⟨a, c, rfl⟩ := hC; exact h a c)
theorem run_inItH (l : List It) [h1 : Tk pt b A (cob [.slice a n c] 83) R1] [h2 : Tk (osl 171 6) (.slice a n c) R1 ys R] (hn : n = l.length) (hy : ys = l.flatMap itemV) (k : Run W0 N K e (itH b l :: R)) : Run W0 N K e A := by
  subst hn; subst hy
  exact run_ent ((Ent.ofPerm (h1.perm.trans (h2.perm.cons _))).trans (ent_chk (R := R) (C := [_, _]) ⟨a, c, rfl⟩)) k
theorem run_newItH [h1 : Tk pt b A (cob [.slice none 0 0] 83) R] (k : Run W0 N K e (itH b [] :: R)) : Run W0 N K e A :=
  run_ent ((Ent.ofPerm h1.perm).trans ((Ent.cons (ent_osl_nil (E := 171) (sz := 6) (B := R))).trans (ent_chk (R := R) (C := [pt b (cob [.slice none 0 0] 83), osl 171 6 (.slice none 0 0) []]) ⟨none, 0, rfl⟩))) k
end
theorem appendSeq_spec (W0 : World) (R : List HP) (bs c : Nat) (a : Option Addr) (its : List It) (hN : its.length < 900) :
    Spec Try.prog W0 181 [.slice none 0 0, .func (.func 149) #[] #[.pointer (some ⟨bs, 0, none⟩)]]
      (pt bs (cob [.slice a its.length c] 83) :: osl 171 6 (.slice a its.length c) (its.flatMap itemV) :: R)
      (fun v B => ∃ a' c', v = .slice a' its.length c' ∧ B = osl 171 6 (.slice a' its.length c') (its.flatMap itemV) :: osl 171 6 (.slice a its.length c) (its.flatMap itemV) :: R) := by
  refine spec_body Try.func181 Try.ntmps181 rfl rfl ?_
  refine x_seq ?_
  refine x_region ?_
  refine s_do rfl (d_box rfl rfl) ?_
  rintro _ _ ⟨b1, rfl, rfl⟩
  refine s_val rfl (v_assign rfl) ?_
  refine x_nil ?_
  refine n_then ?_
  refine x_seq ?_
  refine x_seq ?_
  refine run_newItH (b := b1) ?_
  refine x_region ?_
  refine s_val rfl (v_move rfl) ?_
  refine x_nil ?_
  refine n_then ?_
  refine x_block ?_
  refine x_rangeFunc (fun C => C = pt bs (cob [.slice a its.length c] 83) :: osl 171 6 (.slice a its.length c) (its.flatMap itemV) :: itH b1 its :: R) (fun C => False) rfl Try.call149 ?_ ?_ ?_
  · intro L D
    refine vals_range its (by omega) (fun i => itH b1 (its.take i) :: R) (by rw [List.take_zero]; exact perm3 (r1 := pt) (b1 := bs) (r2 := osl 171 6) (b2 := .slice a its.length c) (r3 := itH) (b3 := b1)) (by rw [List.take_of_length_le (Nat.le_refl _)]) ?_
    intro i R' hi
    simp only [List.cons_append, List.nil_append]
    have htk : its.take (i + 1) = its.take i ++ [its.getD i default] := by rw [List.take_succ_eq_append_getElem hi]; simp [List.getD, hi]
    have htl : (its.take i).length = i := by rw [List.length_take]; omega
    refine rounds_intro rfl rfl ?_
    refine x_region ?_
    refine s_do rfl (d_allocA Try.zeroValue171) ?_
    rintro _ _ ⟨bd, rfl, rfl⟩
    refine s_do0 (d_storeAll Try.sizeOf171 rfl rfl rfl rfl rfl) ?_
    rintro _ _ rfl
    refine x_nil ?_
    refine n_begin rfl ?_
    refine x_block ?_
    refine run_itH (b := b1) fun a2 c2 => ?_
    refine x_region ?_
    refine s_val rfl (v_load Try.isAgg83 rfl (cell_own rfl)) ?_
    refine s_val rfl (v_loadAll Try.isAgg171 Try.sizeOf171 rfl rfl) ?_
    refine s_do rfl (d_sliceAgg Try.underlying83 Try.sizeOf171 Try.zeroValue171 rfl (elsK_cons rfl rfl elsK_nil) rfl (by decide) (by decide) (by decide)) ?_
    rintro _ _ ⟨b3, rfl, rfl⟩
    refine s_do rfl (d_append (sz := 6) (by_ := 48) (info := Try.t171) Try.underlying83 (by kernel_rfl) rfl rfl rfl rfl (by decide) rfl rfl cells_all rfl rfl (by simp only [maxLen]; omega) (by omega)) ?_
    rintro _ _ ⟨a1, c1, rfl, rfl⟩
    refine s_do0 (d_store Try.sizeOf83 rfl rfl rfl (Nat.le_of_ble_eq_true rfl) SetL.eq) ?_
    rintro _ _ rfl
    refine x_nil ?_
    refine n_block ?_
    refine run_inItH (b := b1) (its.take (i + 1)) (by rw [htk]; simp) (by rw [htk]; simp) ?_
    refine r_go ?_
    exact ⟨_, ⟨rfl, rfl⟩, inferInstance⟩
  · intro D C hC
    subst hC
    refine n_block ?_
    refine n_then ?_
    refine x_seq ?_
    refine run_itH (b := b1) fun a2 c2 => ?_
    refine x_region ?_
    refine s_val rfl (v_load Try.isAgg83 rfl (cell_own rfl)) ?_
    refine s_val rfl (v_assign rfl) ?_
    refine x_nil ?_
    refine n_then ?_
    refine x_ret ?_
    refine x_doneM (.inl rfl) (.cons (r_tmp rfl) .nil) ?_
    exact ⟨_, ⟨a2, c2, rfl, rfl⟩, inferInstance⟩
  · intro D C hC
    exact hC.elim
theorem collect_spec (W0 : World) (R : List HP) (bs c : Nat) (a : Option Addr) (its : List It) (hN : its.length < 900) :
    Spec Try.prog W0 147 [.func (.func 149) #[] #[.pointer (some ⟨bs, 0, none⟩)]]
      (pt bs (cob [.slice a its.length c] 83) :: osl 171 6 (.slice a its.length c) (its.flatMap itemV) :: R)
      (fun v B => ∃ a' c', v = .slice a' its.length c' ∧ B = osl 171 6 (.slice a' its.length c') (its.flatMap itemV) :: osl 171 6 (.slice a its.length c) (its.flatMap itemV) :: R) := by
  refine spec_body Try.func147 Try.ntmps147 rfl rfl ?_
  refine x_seq ?_
  refine x_region ?_
  refine s_val rfl (v_assign rfl) ?_
  refine x_nil ?_
  refine n_then ?_
  refine x_seq ?_
  refine x_region ?_
  refine s_val rfl (v_move rfl) ?_
  refine s_do rfl (d_call2 Try.call181 rfl (appendSeq_spec W0 _ bs c a its hN)) ?_
  rintro _ B_ ⟨a2, c2, rfl, hB_⟩
  obtain rfl := hB_.symm
  refine s_val rfl (v_assign rfl) ?_
  refine x_nil ?_
  refine n_then ?_
  refine x_ret ?_
  refine x_done (.inl rfl) (.cons (r_tmp rfl) .nil) ?_
  exact ⟨_, ⟨a2, c2, rfl, rfl⟩, inferInstance⟩

/-! ### Sorting -/
theorem nan_spec (W0 : World) (R : List HP) (x : Int) : Spec Try.prog W0 150 [.int .i64 x] R (fun v B => v = .bool false ∧ B = R) := by
  refine spec_body Try.func150 Try.ntmps150 rfl rfl ?_
  refine x_seq ?_
  refine x_region ?_
  refine s_val rfl (v_assign rfl) ?_
  refine x_nil ?_
  refine n_then ?_
  refine x_seq ?_
  refine x_region ?_
  refine s_val rfl (v_move rfl) ?_
  refine s_val rfl (v_move rfl) ?_
  refine s_val rfl (v_neq rfl rfl) ?_
  refine s_val rfl (v_assign rfl) ?_
  refine x_nil ?_
  refine n_then ?_
  refine x_ret ?_
  refine x_done (.inl rfl) (.cons (r_tmp rfl) .nil) ?_
  refine ⟨_, ⟨?_, rfl⟩, inferInstance⟩
  simp [pack]
def cmpI (x y : Int) : Int := if x < y then -1 else if x > y then 1 else 0
theorem cmp_spec (W0 : World) (R : List HP) (x y : Int) : Spec Try.prog W0 96 [.int .i64 x, .int .i64 y] R (fun v B => v = .int .i64 (cmpI x y) ∧ B = R) := by
  refine spec_body Try.func96 Try.ntmps96 rfl rfl ?_
  refine x_seq ?_
  refine x_region ?_
  refine s_val rfl (v_assign rfl) ?_
  refine x_nil ?_
  refine n_then ?_
  refine x_seq ?_
  refine x_region ?_
  refine s_val rfl (v_move rfl) ?_
  refine s_do rfl (d_call Try.call150 rfl (nan_spec W0 _ x)) ?_
  rintro _ B_ ⟨rfl, hB_⟩
  obtain rfl := hB_.symm
  refine s_val rfl (v_assign rfl) ?_
  refine x_nil ?_
  refine n_then ?_
  refine x_seq ?_
  refine x_region ?_
  refine s_val rfl (v_move rfl) ?_
  refine s_do rfl (d_call Try.call150 rfl (nan_spec W0 _ y)) ?_
  rintro _ B_ ⟨rfl, hB_⟩
  obtain rfl := hB_.symm
  refine s_val rfl (v_assign rfl) ?_
  refine x_nil ?_
  refine n_then ?_
  refine x_seq ?_
  refine x_seq ?_
  refine x_region ?_
  refine s_val rfl (v_move rfl) ?_
  refine x_nil ?_
  refine n_then ?_
  refine x_if rfl ?_ ?_
  · intro c3
    cases c3
  · intro c3
    refine x_skip ?_
    refine n_then ?_
    refine x_seq ?_
    refine x_seq ?_
    refine x_region ?_
    refine s_val rfl (v_move rfl) ?_
    refine x_nil ?_
    refine n_then ?_
    refine x_if rfl ?_ ?_
    · intro c7
      cases c7
    · intro c7
      refine x_skip ?_
      refine n_then ?_
      refine x_seq ?_
      refine x_seq ?_
      refine x_region ?_
      refine s_val rfl (v_move rfl) ?_
      refine s_val rfl (v_move rfl) ?_
      refine s_val rfl (v_lss rfl rfl) ?_
      refine x_nil ?_
      refine n_then ?_
      refine x_if rfl ?_ ?_
      · intro c9
        refine x_seq ?_
        refine x_region ?_
        refine s_val rfl (v_assign rfl) ?_
        refine x_nil ?_
        refine n_then ?_
        refine x_ret ?_
        refine r_then ?_
        refine x_done (.inl rfl) (.cons (r_tmp rfl) .nil) ?_
        refine ⟨_, ⟨?_, rfl⟩, inferInstance⟩
        rw [cmpI, if_pos c9]; rfl
      · intro c9
        refine x_skip ?_
        refine n_then ?_
        refine x_seq ?_
        refine x_seq ?_
        refine x_region ?_
        refine s_val rfl (v_move rfl) ?_
        refine s_val rfl (v_move rfl) ?_
        refine s_val rfl (v_gtr rfl rfl) ?_
        refine x_nil ?_
        refine n_then ?_
        refine x_if rfl ?_ ?_
        · intro c11
          refine x_seq ?_
          refine x_region ?_
          refine s_val rfl (v_assign rfl) ?_
          refine x_nil ?_
          refine n_then ?_
          refine x_ret ?_
          refine r_then ?_
          refine x_done (.inl rfl) (.cons (r_tmp rfl) .nil) ?_
          refine ⟨_, ⟨?_, rfl⟩, inferInstance⟩
          rw [cmpI, if_neg c9, if_pos (by omega)]; rfl
        · intro c11
          refine x_skip ?_
          refine n_then ?_
          refine x_seq ?_
          refine x_region ?_
          refine s_val rfl (v_assign rfl) ?_
          refine x_nil ?_
          refine n_then ?_
          refine x_ret ?_
          refine x_done (.inl rfl) (.cons (r_tmp rfl) .nil) ?_
          refine ⟨_, ⟨?_, rfl⟩, inferInstance⟩
          rw [cmpI, if_neg c9, if_neg (by omega)]; rfl
theorem list1_spec (W0 : World) (R : List HP) (x y : It) : Spec Try.prog W0 95 [.agg (itemV x).toArray, .agg (itemV y).toArray] R (fun v B => v = .int .i64 (cmpI x.u y.u) ∧ B = R) := by
  refine spec_body Try.func95 Try.ntmps95 rfl rfl ?_
  refine x_seq ?_
  refine x_region ?_
  refine s_do rfl (d_boxA rfl) ?_
  rintro _ _ ⟨b1, rfl, rfl⟩
  refine s_do rfl (d_boxA rfl) ?_
  rintro _ _ ⟨b2, rfl, rfl⟩
  refine s_val rfl (v_assign rfl) ?_
  refine x_nil ?_
  refine n_then ?_
  refine x_seq ?_
  refine x_region ?_
  refine s_val rfl (v_fieldAddr rfl Try.underlying171 rfl Try.sizeOf3 rfl (by first | exact Nat.zero_add _ | rfl)) ?_
  refine s_val rfl (v_load Try.isAgg3 rfl (cell_own rfl)) ?_
  refine s_val rfl (v_fieldAddr rfl Try.underlying171 rfl Try.sizeOf3 rfl (by first | exact Nat.zero_add _ | rfl)) ?_
  refine s_val rfl (v_load Try.isAgg3 rfl (cell_own rfl)) ?_
  refine s_do rfl (d_call Try.call96 rfl (cmp_spec W0 _ x.u y.u)) ?_
  rintro _ B_ ⟨rfl, hB_⟩
  obtain rfl := hB_.symm
  refine s_val rfl (v_assign rfl) ?_
  refine x_nil ?_
  refine n_then ?_
  refine x_ret ?_
  refine x_done (.inl rfl) (.cons (r_tmp rfl) .nil) ?_
  exact ⟨_, ⟨rfl, rfl⟩, inferInstance⟩
/-- All pairs up to i stand right, but for those whose later one is at j. -/
def Srt (l : List It) (j i : Nat) : Prop := ∀ p q, p < q → q ≤ i → q ≠ j → us l p ≤ us l q
theorem srt_swap {l : List It} {j i : Nat} (h : Srt l j i) (hj : 0 < j) (hji : j ≤ i) (hi : i < l.length) (hlt : us l j < us l (j - 1)) : Srt (swapL l j (j - 1)) (j - 1) i := by
  have sw := us_swapL (l := l) (i := j) (j := j - 1) (by omega) (by omega)
  intro p q hpq hq hne
  rw [sw, sw]
  have hjj : ¬ j - 1 = j := by omega
  by_cases e1 : q = j
  · subst e1
    rw [if_pos (rfl : q = q)]
    by_cases e2 : p = q - 1
    · rw [if_neg (by omega), if_pos e2]; omega
    · rw [if_neg (by omega), if_neg e2]; exact h p (q - 1) (by omega) (by omega) (by omega)
  · rw [if_neg e1, if_neg hne]
    by_cases e2 : p = j
    · rw [if_pos e2]; exact h (j - 1) q (by omega) hq e1
    · rw [if_neg e2]
      by_cases e3 : p = j - 1
      · rw [if_pos e3]; exact h j q (by omega) hq e1
      · rw [if_neg e3]; exact h p q hpq hq e1
theorem srt_done {l : List It} {j i : Nat} (h : Srt l j i) (hd : j = 0 ∨ us l (j - 1) ≤ us l j) : ∀ p q, p < q → q ≤ i → us l p ≤ us l q := fun p q hpq hq => by
  by_cases e : q = j
  · subst e
    rcases hd with h0 | h1
    · omega
    · by_cases e2 : p = q - 1
      · subst e2; exact h1
      · have := h p (q - 1) (by omega) (by omega) (by omega); omega
  · exact h p q hpq hq e
theorem insSort_spec (W0 : World) (R : List HP) (g c : Nat) (its : List It) (sp : List Value) (hN : its.length < 900) (h0 : 0 < its.length) :
    Spec Try.prog W0 197 [.slice (some ⟨g, 0, none⟩) its.length c, .int .i64 0, .int .i64 (its.length : Nat), .func (.func 95) #[] #[]]
      (pt g (cob (its.flatMap itemV ++ sp) 171) :: R)
      (fun v B => ∃ l : List It, v = .tuple #[] ∧ B = pt g (cob (l.flatMap itemV ++ sp) 171) :: R ∧ l.Perm its ∧ ∀ p q, p < q → q < its.length → us l p ≤ us l q) := by
  refine spec_body Try.func197 Try.ntmps197 rfl rfl ?_
  refine x_seq ?_
  refine x_region ?_
  refine s_val rfl (v_move rfl) ?_
  refine s_val rfl (v_add rfl rfl (w64 (by omega))) ?_
  refine s_val rfl (v_assign rfl) ?_
  refine x_nil ?_
  refine n_then ?_
  refine x_block ?_
  refine x_loop (fun X : List It × Nat => X.1.Perm its ∧ 0 < X.2 ∧ X.2 ≤ its.length ∧ ∀ p q, p < q → q < X.2 → us X.1 p ≤ us X.1 q) (fun X => [(0, .slice (some ⟨g, 0, none⟩) its.length c), (1, .int .i64 0), (2, .int .i64 (its.length : Nat)), (3, .func (.func 95) #[] #[]), (8, .int .i64 X.2)]) (fun X => pt g (cob (X.1.flatMap itemV ++ sp) 171) :: R) (fun X => its.length - X.2) (its, 1) ?_ ?_ ?_ ?_
  · exact ⟨List.Perm.refl _, Nat.one_pos, h0, fun p q h1 h2 => by dsimp only at h2; omega⟩
  · repeat (first | exact sub_nil | refine sub_cons rfl ?_)
  · exact inferInstance
  · intro ⟨l, i⟩ ⟨hp, hi0, hi, hS⟩
    dsimp only at hp hi0 hi hS ⊢
    refine x_seq ?_
    refine x_seq ?_
    refine x_region ?_
    refine s_val rfl (v_move rfl) ?_
    refine s_val rfl (v_move rfl) ?_
    refine s_val rfl (v_lss rfl rfl) ?_
    refine x_nil ?_
    refine n_then ?_
    refine x_if rfl ?_ ?_
    · intro c1
      refine x_skip ?_
      refine n_then ?_
      refine x_seq ?_
      refine x_block ?_
      refine x_seq ?_
      refine x_region ?_
      refine s_val rfl (v_move rfl) ?_
      refine s_val rfl (v_assign rfl) ?_
      refine x_nil ?_
      refine n_then ?_
      refine x_block ?_
      refine x_loop (fun X : List It × Nat => X.1.Perm its ∧ X.2 ≤ i ∧ Srt X.1 X.2 i) (fun X => [(0, .slice (some ⟨g, 0, none⟩) its.length c), (1, .int .i64 0), (2, .int .i64 (its.length : Nat)), (3, .func (.func 95) #[] #[]), (8, .int .i64 i), (9, .int .i64 X.2)]) (fun X => pt g (cob (X.1.flatMap itemV ++ sp) 171) :: R) (fun X => X.2) (l, i) ?_ ?_ ?_ ?_
      · exact ⟨hp, Nat.le_refl _, fun p q h1 h2 h3 => hS p q h1 (by dsimp only at h3; omega)⟩
      · repeat (first | exact sub_nil | refine sub_cons rfl ?_)
      · exact inferInstance
      · intro ⟨l2, j⟩ ⟨hp2, hj, hS2⟩
        dsimp only at hp2 hj hS2 ⊢
        have hl2 := hp2.length_eq
        refine x_seq ?_
        refine x_seq ?_
        refine x_draw [(g, 0, _)] 17 mixed rfl (sc_own sc_end) (fun hS => ?_)
        refine d_take 0 rfl rfl (by kernel_rfl) (by kernel_rfl) (by kernel_rfl) rfl hS (v_move rfl) ?_
        refine d_take 1 rfl rfl (by kernel_rfl) (by kernel_rfl) (by kernel_rfl) rfl hS (v_move rfl) ?_
        refine d_take 2 rfl rfl (by kernel_rfl) (by kernel_rfl) (by kernel_rfl) rfl hS (v_gtr rfl rfl) ?_
        refine d_take 3 rfl rfl (by kernel_rfl) (by kernel_rfl) (by kernel_rfl) rfl hS (v_move rfl) ?_
        refine x_split (t := 21) rfl ?_ ?_
        · intro c4g
          have hj0 : 0 < j := by omega
          have hjl : j < l2.length := by omega
          have hjm : (j : Int) - 1 = ((j - 1 : Nat) : Int) := by omega
          refine d_take 4 rfl rfl (by kernel_rfl) (by kernel_rfl) (by kernel_rfl) rfl hS (v_move rfl) ?_
          refine d_take 5 rfl rfl (by kernel_rfl) (by kernel_rfl) (by kernel_rfl) rfl hS (v_move rfl) ?_
          refine d_take 6 rfl rfl (by kernel_rfl) (by kernel_rfl) (by kernel_rfl) rfl hS (v_move rfl) ?_
          refine d_take 7 rfl rfl (by kernel_rfl) (by kernel_rfl) (by kernel_rfl) rfl hS (v_idx Try.underlying83 Try.sizeOf171 rfl rfl rfl (by omega) (by first | exact Nat.zero_add _ | rfl)) ?_
          refine d_take 9 rfl rfl (by kernel_rfl) (by kernel_rfl) (by kernel_rfl) rfl hS (v_move rfl) ?_
          refine d_take 10 rfl rfl (by kernel_rfl) (by kernel_rfl) (by kernel_rfl) rfl hS (v_move rfl) ?_
          refine d_take 11 rfl rfl (by kernel_rfl) (by kernel_rfl) (by kernel_rfl) rfl hS (v_sub rfl rfl (by rw [w64 (by omega)]; omega : IntKind.wrap .i64 ((j : Int) - 1) = ((j - 1 : Nat) : Int))) ?_
          refine d_take 12 rfl rfl (by kernel_rfl) (by kernel_rfl) (by kernel_rfl) rfl hS (v_idx Try.underlying83 Try.sizeOf171 rfl rfl rfl (by omega) (by first | exact Nat.zero_add _ | rfl)) ?_
          refine d_all (is := [8, 13]) (by kernel_rfl) rfl ⟨?_, ?_, trivial⟩
          · skip
            refine dx_one rfl rfl (d_val (v_loadAgg Try.isAgg171 Try.sizeOf171 rfl (cells_part (item_row l2 sp j hjl) rfl) rfl)) rfl ?_; clear hS
            rintro _ _ ⟨rfl, rfl⟩
            refine ⟨(sc_own sc_end), fun hS => ?_⟩
            refine d_one 13 (by kernel_rfl) rfl rfl (d_val (v_loadAgg Try.isAgg171 Try.sizeOf171 rfl (cells_part (item_row l2 sp (j - 1) (by omega)) rfl) rfl)) rfl ?_; clear hS
            rintro _ _ ⟨rfl, rfl⟩
            refine ⟨(sc_own sc_end), fun hS => ?_⟩
            refine d_one 14 (by kernel_rfl) rfl rfl (d_callv rfl Try.call95 rfl (list1_spec W0 _ (l2.getD j default) (l2.getD (j - 1) default))) rfl ?_; clear hS
            rintro _ B_ ⟨rfl, hB_⟩
            obtain rfl := hB_.symm
            refine ⟨(sc_own sc_end), fun hS => ?_⟩
            refine d_take 15 rfl rfl (by kernel_rfl) (by kernel_rfl) (by kernel_rfl) rfl hS (v_lss rfl rfl) ?_
            refine d_take 16 rfl rfl (by kernel_rfl) (by kernel_rfl) (by kernel_rfl) rfl hS (v_pick_t rfl rfl) ?_
            refine d_done (by kernel_rfl) ?_; clear hS
            refine n_then ?_
            refine x_if rfl ?_ ?_
            · intro c4
              refine x_skip ?_
              refine n_then ?_
              refine x_seq ?_
              refine x_block ?_
              refine x_draw [] 18 mixed rfl sc_end (fun hS => ?_)
              refine d_take 0 rfl rfl (by kernel_rfl) (by kernel_rfl) (by kernel_rfl) rfl hS (v_move rfl) ?_
              refine d_take 1 rfl rfl (by kernel_rfl) (by kernel_rfl) (by kernel_rfl) rfl hS (v_move rfl) ?_
              refine d_take 2 rfl rfl (by kernel_rfl) (by kernel_rfl) (by kernel_rfl) rfl hS (v_move rfl) ?_
              refine d_take 3 rfl rfl (by kernel_rfl) (by kernel_rfl) (by kernel_rfl) rfl hS (v_move rfl) ?_
              refine d_take 4 rfl rfl (by kernel_rfl) (by kernel_rfl) (by kernel_rfl) rfl hS (v_sub rfl rfl (by rw [w64 (by omega)]; omega : IntKind.wrap .i64 ((j : Int) - 1) = ((j - 1 : Nat) : Int))) ?_
              refine d_take 5 rfl rfl (by kernel_rfl) (by kernel_rfl) (by kernel_rfl) rfl hS (v_move rfl) ?_
              refine d_take 6 rfl rfl (by kernel_rfl) (by kernel_rfl) (by kernel_rfl) rfl hS (v_move rfl) ?_
              refine d_take 7 rfl rfl (by kernel_rfl) (by kernel_rfl) (by kernel_rfl) rfl hS (v_sub rfl rfl (by rw [w64 (by omega)]; omega : IntKind.wrap .i64 ((j : Int) - 1) = ((j - 1 : Nat) : Int))) ?_
              refine d_take 8 rfl rfl (by kernel_rfl) (by kernel_rfl) (by kernel_rfl) rfl hS (v_idx Try.underlying83 Try.sizeOf171 rfl rfl rfl (by omega) (by first | exact Nat.zero_add _ | rfl)) ?_
              refine d_take 10 rfl rfl (by kernel_rfl) (by kernel_rfl) (by kernel_rfl) rfl hS (v_move rfl) ?_
              refine d_take 11 rfl rfl (by kernel_rfl) (by kernel_rfl) (by kernel_rfl) rfl hS (v_move rfl) ?_
              refine d_take 12 rfl rfl (by kernel_rfl) (by kernel_rfl) (by kernel_rfl) rfl hS (v_idx Try.underlying83 Try.sizeOf171 rfl rfl rfl (by omega) (by first | exact Nat.zero_add _ | rfl)) ?_
              refine d_all (is := [9, 13]) (by kernel_rfl) rfl ⟨?_, ?_, trivial⟩
              · skip
                refine dx_one rfl rfl (d_val (v_loadAgg Try.isAgg171 Try.sizeOf171 rfl (cells_part (item_row l2 sp (j - 1) (by omega)) rfl) rfl)) rfl ?_; clear hS
                rintro _ _ ⟨rfl, rfl⟩
                refine ⟨sc_end, fun hS => ?_⟩
                refine d_one 13 (by kernel_rfl) rfl rfl (d_val (v_loadAgg Try.isAgg171 Try.sizeOf171 rfl (cells_part (item_row l2 sp j hjl) rfl) rfl)) rfl ?_; clear hS
                rintro _ _ ⟨rfl, rfl⟩
                refine ⟨sc_end, fun hS => ?_⟩
                refine d_take 14 rfl rfl (by kernel_rfl) (by kernel_rfl) (by kernel_rfl) rfl hS (v_idx Try.underlying83 Try.sizeOf171 rfl rfl rfl (by omega) (by first | exact Nat.zero_add _ | rfl)) ?_
                refine d_one 15 (by kernel_rfl) rfl rfl (d_storeAgg Try.sizeOf171 rfl rfl rfl rfl (item_bd l2 sp j hjl) (item_set l2 sp j (l2.getD (j - 1) default) hjl)) rfl ?_; clear hS
                rintro _ _ rfl
                refine ⟨sc_end, fun hS => ?_⟩
                refine d_take 16 rfl rfl (by kernel_rfl) (by kernel_rfl) (by kernel_rfl) rfl hS (v_idx Try.underlying83 Try.sizeOf171 rfl rfl rfl (by omega) (by first | exact Nat.zero_add _ | rfl)) ?_
                refine d_one 17 (by kernel_rfl) rfl rfl (d_storeAgg Try.sizeOf171 rfl rfl rfl rfl (item_bd (l2.set j (l2.getD (j - 1) default)) sp (j - 1) (by rw [List.length_set]; omega)) (item_set (l2.set j (l2.getD (j - 1) default)) sp (j - 1) (l2.getD j default) (by rw [List.length_set]; omega))) rfl ?_; clear hS
                rintro _ _ rfl
                refine ⟨sc_end, fun hS => ?_⟩
                refine d_done (by kernel_rfl) ?_; clear hS
                refine n_block ?_
                refine n_then ?_
                refine x_region ?_
                refine s_val rfl (v_move rfl) ?_
                refine s_val rfl (v_sub rfl rfl (by rw [w64 (by omega)]; omega : IntKind.wrap .i64 ((j : Int) - 1) = ((j - 1 : Nat) : Int))) ?_
                refine s_val rfl (v_assign rfl) ?_
                refine x_nil ?_
                refine n_then ?_
                refine inv_intro (swapL l2 j (j - 1), j - 1) ?_ ?_ ?_ ?_
                · have hlt : us l2 j < us l2 (j - 1) := by
                    unfold us
                    unfold cmpI at c4
                    split at c4
                    · assumption
                    · split at c4 <;> omega
                  exact ⟨(swapL_perm hjl (by omega)).trans hp2, by show j - 1 ≤ i; omega, srt_swap hS2 hj0 hj (by omega) hlt⟩
                · show j - 1 < j; omega
                · repeat (first | exact sub_nil | refine sub_cons rfl ?_)
                · show Ent _ (pt g (cob ((swapL l2 j (j - 1)).flatMap itemV ++ sp) 171) :: R)
                  unfold swapL
                  exact inferInstance
              · skip
                refine dx_one rfl rfl (d_val (v_loadAgg Try.isAgg171 Try.sizeOf171 rfl (cells_part (item_row l2 sp j hjl) rfl) rfl)) rfl ?_; clear hS
                rintro _ _ ⟨rfl, rfl⟩
                refine ⟨sc_end, fun hS => ?_⟩
                refine d_one 9 (by kernel_rfl) rfl rfl (d_val (v_loadAgg Try.isAgg171 Try.sizeOf171 rfl (cells_part (item_row l2 sp (j - 1) (by omega)) rfl) rfl)) rfl ?_; clear hS
                rintro _ _ ⟨rfl, rfl⟩
                refine ⟨sc_end, fun hS => ?_⟩
                refine d_take 14 rfl rfl (by kernel_rfl) (by kernel_rfl) (by kernel_rfl) rfl hS (v_idx Try.underlying83 Try.sizeOf171 rfl rfl rfl (by omega) (by first | exact Nat.zero_add _ | rfl)) ?_
                refine d_one 15 (by kernel_rfl) rfl rfl (d_storeAgg Try.sizeOf171 rfl rfl rfl rfl (item_bd l2 sp j hjl) (item_set l2 sp j (l2.getD (j - 1) default) hjl)) rfl ?_; clear hS
                rintro _ _ rfl
                refine ⟨sc_end, fun hS => ?_⟩
                refine d_take 16 rfl rfl (by kernel_rfl) (by kernel_rfl) (by kernel_rfl) rfl hS (v_idx Try.underlying83 Try.sizeOf171 rfl rfl rfl (by omega) (by first | exact Nat.zero_add _ | rfl)) ?_
                refine d_one 17 (by kernel_rfl) rfl rfl (d_storeAgg Try.sizeOf171 rfl rfl rfl rfl (item_bd (l2.set j (l2.getD (j - 1) default)) sp (j - 1) (by rw [List.length_set]; omega)) (item_set (l2.set j (l2.getD (j - 1) default)) sp (j - 1) (l2.getD j default) (by rw [List.length_set]; omega))) rfl ?_; clear hS
                rintro _ _ rfl
                refine ⟨sc_end, fun hS => ?_⟩
                refine d_done (by kernel_rfl) ?_; clear hS
                refine n_block ?_
                refine n_then ?_
                refine x_region ?_
                refine s_val rfl (v_move rfl) ?_
                refine s_val rfl (v_sub rfl rfl (by rw [w64 (by omega)]; omega : IntKind.wrap .i64 ((j : Int) - 1) = ((j - 1 : Nat) : Int))) ?_
                refine s_val rfl (v_assign rfl) ?_
                refine x_nil ?_
                refine n_then ?_
                refine inv_intro (swapL l2 j (j - 1), j - 1) ?_ ?_ ?_ ?_
                · have hlt : us l2 j < us l2 (j - 1) := by
                    unfold us
                    unfold cmpI at c4
                    split at c4
                    · assumption
                    · split at c4 <;> omega
                  exact ⟨(swapL_perm hjl (by omega)).trans hp2, by show j - 1 ≤ i; omega, srt_swap hS2 hj0 hj (by omega) hlt⟩
                · show j - 1 < j; omega
                · repeat (first | exact sub_nil | refine sub_cons rfl ?_)
                · show Ent _ (pt g (cob ((swapL l2 j (j - 1)).flatMap itemV ++ sp) 171) :: R)
                  unfold swapL
                  exact inferInstance
            · intro c4
              refine x_exit ?_
              refine e_then ?_
              refine e_then ?_
              refine e_block ?_
              refine n_block ?_
              refine n_then ?_
              have hS3 : ∀ p q, p < q → q ≤ i → us l2 p ≤ us l2 q := srt_done hS2 (by
                first
                  | (left; omega)
                  | (right
                     unfold us
                     unfold cmpI at c4
                     split at c4
                     · omega
                     · omega))
              refine x_region ?_
              refine s_val rfl (v_move rfl) ?_
              refine s_val rfl (v_add rfl rfl (by rw [w64 (by omega)]; omega : IntKind.wrap .i64 ((i : Int) + 1) = ((i + 1 : Nat) : Int))) ?_
              refine s_val rfl (v_assign rfl) ?_
              refine x_nil ?_
              refine n_then ?_
              refine inv_intro (l2, i + 1) ?_ ?_ ?_ ?_
              · exact ⟨hp2, Nat.succ_pos _, by show i + 1 ≤ its.length; omega, fun p q h1 h2 => hS3 p q h1 (by dsimp only at h2; omega)⟩
              · show its.length - (i + 1) < its.length - i; omega
              · repeat (first | exact sub_nil | refine sub_cons rfl ?_)
              · exact inferInstance
          · skip
            refine dx_one rfl rfl (d_val (v_loadAgg Try.isAgg171 Try.sizeOf171 rfl (cells_part (item_row l2 sp (j - 1) (by omega)) rfl) rfl)) rfl ?_; clear hS
            rintro _ _ ⟨rfl, rfl⟩
            refine ⟨(sc_own sc_end), fun hS => ?_⟩
            refine d_one 8 (by kernel_rfl) rfl rfl (d_val (v_loadAgg Try.isAgg171 Try.sizeOf171 rfl (cells_part (item_row l2 sp j hjl) rfl) rfl)) rfl ?_; clear hS
            rintro _ _ ⟨rfl, rfl⟩
            refine ⟨(sc_own sc_end), fun hS => ?_⟩
            refine d_one 14 (by kernel_rfl) rfl rfl (d_callv rfl Try.call95 rfl (list1_spec W0 _ (l2.getD j default) (l2.getD (j - 1) default))) rfl ?_; clear hS
            rintro _ B_ ⟨rfl, hB_⟩
            obtain rfl := hB_.symm
            refine ⟨(sc_own sc_end), fun hS => ?_⟩
            refine d_take 15 rfl rfl (by kernel_rfl) (by kernel_rfl) (by kernel_rfl) rfl hS (v_lss rfl rfl) ?_
            refine d_take 16 rfl rfl (by kernel_rfl) (by kernel_rfl) (by kernel_rfl) rfl hS (v_pick_t rfl rfl) ?_
            refine d_done (by kernel_rfl) ?_; clear hS
            refine n_then ?_
            refine x_if rfl ?_ ?_
            · intro c4
              refine x_skip ?_
              refine n_then ?_
              refine x_seq ?_
              refine x_block ?_
              refine x_draw [] 18 mixed rfl sc_end (fun hS => ?_)
              refine d_take 0 rfl rfl (by kernel_rfl) (by kernel_rfl) (by kernel_rfl) rfl hS (v_move rfl) ?_
              refine d_take 1 rfl rfl (by kernel_rfl) (by kernel_rfl) (by kernel_rfl) rfl hS (v_move rfl) ?_
              refine d_take 2 rfl rfl (by kernel_rfl) (by kernel_rfl) (by kernel_rfl) rfl hS (v_move rfl) ?_
              refine d_take 3 rfl rfl (by kernel_rfl) (by kernel_rfl) (by kernel_rfl) rfl hS (v_move rfl) ?_
              refine d_take 4 rfl rfl (by kernel_rfl) (by kernel_rfl) (by kernel_rfl) rfl hS (v_sub rfl rfl (by rw [w64 (by omega)]; omega : IntKind.wrap .i64 ((j : Int) - 1) = ((j - 1 : Nat) : Int))) ?_
              refine d_take 5 rfl rfl (by kernel_rfl) (by kernel_rfl) (by kernel_rfl) rfl hS (v_move rfl) ?_
              refine d_take 6 rfl rfl (by kernel_rfl) (by kernel_rfl) (by kernel_rfl) rfl hS (v_move rfl) ?_
              refine d_take 7 rfl rfl (by kernel_rfl) (by kernel_rfl) (by kernel_rfl) rfl hS (v_sub rfl rfl (by rw [w64 (by omega)]; omega : IntKind.wrap .i64 ((j : Int) - 1) = ((j - 1 : Nat) : Int))) ?_
              refine d_take 8 rfl rfl (by kernel_rfl) (by kernel_rfl) (by kernel_rfl) rfl hS (v_idx Try.underlying83 Try.sizeOf171 rfl rfl rfl (by omega) (by first | exact Nat.zero_add _ | rfl)) ?_
              refine d_take 10 rfl rfl (by kernel_rfl) (by kernel_rfl) (by kernel_rfl) rfl hS (v_move rfl) ?_
              refine d_take 11 rfl rfl (by kernel_rfl) (by kernel_rfl) (by kernel_rfl) rfl hS (v_move rfl) ?_
              refine d_take 12 rfl rfl (by kernel_rfl) (by kernel_rfl) (by kernel_rfl) rfl hS (v_idx Try.underlying83 Try.sizeOf171 rfl rfl rfl (by omega) (by first | exact Nat.zero_add _ | rfl)) ?_
              refine d_all (is := [9, 13]) (by kernel_rfl) rfl ⟨?_, ?_, trivial⟩
              · skip
                refine dx_one rfl rfl (d_val (v_loadAgg Try.isAgg171 Try.sizeOf171 rfl (cells_part (item_row l2 sp (j - 1) (by omega)) rfl) rfl)) rfl ?_; clear hS
                rintro _ _ ⟨rfl, rfl⟩
                refine ⟨sc_end, fun hS => ?_⟩
                refine d_one 13 (by kernel_rfl) rfl rfl (d_val (v_loadAgg Try.isAgg171 Try.sizeOf171 rfl (cells_part (item_row l2 sp j hjl) rfl) rfl)) rfl ?_; clear hS
                rintro _ _ ⟨rfl, rfl⟩
                refine ⟨sc_end, fun hS => ?_⟩
                refine d_take 14 rfl rfl (by kernel_rfl) (by kernel_rfl) (by kernel_rfl) rfl hS (v_idx Try.underlying83 Try.sizeOf171 rfl rfl rfl (by omega) (by first | exact Nat.zero_add _ | rfl)) ?_
                refine d_one 15 (by kernel_rfl) rfl rfl (d_storeAgg Try.sizeOf171 rfl rfl rfl rfl (item_bd l2 sp j hjl) (item_set l2 sp j (l2.getD (j - 1) default) hjl)) rfl ?_; clear hS
                rintro _ _ rfl
                refine ⟨sc_end, fun hS => ?_⟩
                refine d_take 16 rfl rfl (by kernel_rfl) (by kernel_rfl) (by kernel_rfl) rfl hS (v_idx Try.underlying83 Try.sizeOf171 rfl rfl rfl (by omega) (by first | exact Nat.zero_add _ | rfl)) ?_
                refine d_one 17 (by kernel_rfl) rfl rfl (d_storeAgg Try.sizeOf171 rfl rfl rfl rfl (item_bd (l2.set j (l2.getD (j - 1) default)) sp (j - 1) (by rw [List.length_set]; omega)) (item_set (l2.set j (l2.getD (j - 1) default)) sp (j - 1) (l2.getD j default) (by rw [List.length_set]; omega))) rfl ?_; clear hS
                rintro _ _ rfl
                refine ⟨sc_end, fun hS => ?_⟩
                refine d_done (by kernel_rfl) ?_; clear hS
                refine n_block ?_
                refine n_then ?_
                refine x_region ?_
                refine s_val rfl (v_move rfl) ?_
                refine s_val rfl (v_sub rfl rfl (by rw [w64 (by omega)]; omega : IntKind.wrap .i64 ((j : Int) - 1) = ((j - 1 : Nat) : Int))) ?_
                refine s_val rfl (v_assign rfl) ?_
                refine x_nil ?_
                refine n_then ?_
                refine inv_intro (swapL l2 j (j - 1), j - 1) ?_ ?_ ?_ ?_
                · have hlt : us l2 j < us l2 (j - 1) := by
                    unfold us
                    unfold cmpI at c4
                    split at c4
                    · assumption
                    · split at c4 <;> omega
                  exact ⟨(swapL_perm hjl (by omega)).trans hp2, by show j - 1 ≤ i; omega, srt_swap hS2 hj0 hj (by omega) hlt⟩
                · show j - 1 < j; omega
                · repeat (first | exact sub_nil | refine sub_cons rfl ?_)
                · show Ent _ (pt g (cob ((swapL l2 j (j - 1)).flatMap itemV ++ sp) 171) :: R)
                  unfold swapL
                  exact inferInstance
              · skip
                refine dx_one rfl rfl (d_val (v_loadAgg Try.isAgg171 Try.sizeOf171 rfl (cells_part (item_row l2 sp j hjl) rfl) rfl)) rfl ?_; clear hS
                rintro _ _ ⟨rfl, rfl⟩
                refine ⟨sc_end, fun hS => ?_⟩
                refine d_one 9 (by kernel_rfl) rfl rfl (d_val (v_loadAgg Try.isAgg171 Try.sizeOf171 rfl (cells_part (item_row l2 sp (j - 1) (by omega)) rfl) rfl)) rfl ?_; clear hS
                rintro _ _ ⟨rfl, rfl⟩
                refine ⟨sc_end, fun hS => ?_⟩
                refine d_take 14 rfl rfl (by kernel_rfl) (by kernel_rfl) (by kernel_rfl) rfl hS (v_idx Try.underlying83 Try.sizeOf171 rfl rfl rfl (by omega) (by first | exact Nat.zero_add _ | rfl)) ?_
                refine d_one 15 (by kernel_rfl) rfl rfl (d_storeAgg Try.sizeOf171 rfl rfl rfl rfl (item_bd l2 sp j hjl) (item_set l2 sp j (l2.getD (j - 1) default) hjl)) rfl ?_; clear hS
                rintro _ _ rfl
                refine ⟨sc_end, fun hS => ?_⟩
                refine d_take 16 rfl rfl (by kernel_rfl) (by kernel_rfl) (by kernel_rfl) rfl hS (v_idx Try.underlying83 Try.sizeOf171 rfl rfl rfl (by omega) (by first | exact Nat.zero_add _ | rfl)) ?_
                refine d_one 17 (by kernel_rfl) rfl rfl (d_storeAgg Try.sizeOf171 rfl rfl rfl rfl (item_bd (l2.set j (l2.getD (j - 1) default)) sp (j - 1) (by rw [List.length_set]; omega)) (item_set (l2.set j (l2.getD (j - 1) default)) sp (j - 1) (l2.getD j default) (by rw [List.length_set]; omega))) rfl ?_; clear hS
                rintro _ _ rfl
                refine ⟨sc_end, fun hS => ?_⟩
                refine d_done (by kernel_rfl) ?_; clear hS
                refine n_block ?_
                refine n_then ?_
                refine x_region ?_
                refine s_val rfl (v_move rfl) ?_
                refine s_val rfl (v_sub rfl rfl (by rw [w64 (by omega)]; omega : IntKind.wrap .i64 ((j : Int) - 1) = ((j - 1 : Nat) : Int))) ?_
                refine s_val rfl (v_assign rfl) ?_
                refine x_nil ?_
                refine n_then ?_
                refine inv_intro (swapL l2 j (j - 1), j - 1) ?_ ?_ ?_ ?_
                · have hlt : us l2 j < us l2 (j - 1) := by
                    unfold us
                    unfold cmpI at c4
                    split at c4
                    · assumption
                    · split at c4 <;> omega
                  exact ⟨(swapL_perm hjl (by omega)).trans hp2, by show j - 1 ≤ i; omega, srt_swap hS2 hj0 hj (by omega) hlt⟩
                · show j - 1 < j; omega
                · repeat (first | exact sub_nil | refine sub_cons rfl ?_)
                · show Ent _ (pt g (cob ((swapL l2 j (j - 1)).flatMap itemV ++ sp) 171) :: R)
                  unfold swapL
                  exact inferInstance
            · intro c4
              refine x_exit ?_
              refine e_then ?_
              refine e_then ?_
              refine e_block ?_
              refine n_block ?_
              refine n_then ?_
              have hS3 : ∀ p q, p < q → q ≤ i → us l2 p ≤ us l2 q := srt_done hS2 (by
                first
                  | (left; omega)
                  | (right
                     unfold us
                     unfold cmpI at c4
                     split at c4
                     · omega
                     · omega))
              refine x_region ?_
              refine s_val rfl (v_move rfl) ?_
              refine s_val rfl (v_add rfl rfl (by rw [w64 (by omega)]; omega : IntKind.wrap .i64 ((i : Int) + 1) = ((i + 1 : Nat) : Int))) ?_
              refine s_val rfl (v_assign rfl) ?_
              refine x_nil ?_
              refine n_then ?_
              refine inv_intro (l2, i + 1) ?_ ?_ ?_ ?_
              · exact ⟨hp2, Nat.succ_pos _, by show i + 1 ≤ its.length; omega, fun p q h1 h2 => hS3 p q h1 (by dsimp only at h2; omega)⟩
              · show its.length - (i + 1) < its.length - i; omega
              · repeat (first | exact sub_nil | refine sub_cons rfl ?_)
              · exact inferInstance
        · intro c4g
          refine d_skip 4 rfl rfl (by kernel_rfl) (by kernel_rfl) (by kernel_rfl) rfl hS ?_
          refine d_skip 5 rfl rfl (by kernel_rfl) (by kernel_rfl) (by kernel_rfl) rfl hS ?_
          refine d_skip 6 rfl rfl (by kernel_rfl) (by kernel_rfl) (by kernel_rfl) rfl hS ?_
          refine d_skip 7 rfl rfl (by kernel_rfl) (by kernel_rfl) (by kernel_rfl) rfl hS ?_
          refine d_skip 8 rfl rfl (by kernel_rfl) (by kernel_rfl) (by kernel_rfl) rfl hS ?_
          refine d_skip 9 rfl rfl (by kernel_rfl) (by kernel_rfl) (by kernel_rfl) rfl hS ?_
          refine d_skip 10 rfl rfl (by kernel_rfl) (by kernel_rfl) (by kernel_rfl) rfl hS ?_
          refine d_skip 11 rfl rfl (by kernel_rfl) (by kernel_rfl) (by kernel_rfl) rfl hS ?_
          refine d_skip 12 rfl rfl (by kernel_rfl) (by kernel_rfl) (by kernel_rfl) rfl hS ?_
          refine d_skip 13 rfl rfl (by kernel_rfl) (by kernel_rfl) (by kernel_rfl) rfl hS ?_
          refine d_skip 14 rfl rfl (by kernel_rfl) (by kernel_rfl) (by kernel_rfl) rfl hS ?_
          refine d_skip 15 rfl rfl (by kernel_rfl) (by kernel_rfl) (by kernel_rfl) rfl hS ?_
          refine d_take 16 rfl rfl (by kernel_rfl) (by kernel_rfl) (by kernel_rfl) rfl hS (v_pick_f rfl rfl) ?_
          refine d_done (by kernel_rfl) ?_; clear hS
          refine n_then ?_
          refine x_iff rfl ?_
          refine x_exit ?_
          refine e_then ?_
          refine e_then ?_
          refine e_block ?_
          refine n_block ?_
          refine n_then ?_
          have hS3 : ∀ p q, p < q → q ≤ i → us l2 p ≤ us l2 q := srt_done hS2 (by
            first
              | (left; omega)
              | (right
                 unfold us
                 unfold cmpI at c4
                 split at c4
                 · omega
                 · omega))
          refine x_region ?_
          refine s_val rfl (v_move rfl) ?_
          refine s_val rfl (v_add rfl rfl (by rw [w64 (by omega)]; omega : IntKind.wrap .i64 ((i : Int) + 1) = ((i + 1 : Nat) : Int))) ?_
          refine s_val rfl (v_assign rfl) ?_
          refine x_nil ?_
          refine n_then ?_
          refine inv_intro (l2, i + 1) ?_ ?_ ?_ ?_
          · exact ⟨hp2, Nat.succ_pos _, by show i + 1 ≤ its.length; omega, fun p q h1 h2 => hS3 p q h1 (by dsimp only at h2; omega)⟩
          · show its.length - (i + 1) < its.length - i; omega
          · repeat (first | exact sub_nil | refine sub_cons rfl ?_)
          · exact inferInstance
    · intro c1
      refine x_exit ?_
      refine e_then ?_
      refine e_then ?_
      refine e_block ?_
      refine x_done (.inr rfl) .nil ?_
      obtain rfl : i = its.length := by omega
      exact ⟨_, ⟨l, rfl, rfl, hp, hS⟩, inferInstance⟩
end Go.Proofs.Ytechkfopkpkigaa
