/-
  Layer 18 (stlb): its rows, and the heap over them.
-/
import Derived.Test.YtechkfopkpkigaaBase
import Derived.Test.YtechkfopkpkigaaHeap
namespace Go.Proofs.Ytechkfopkpkigaa
open Go.RowKit
set_option linter.unusedSimpArgs false
set_option linter.unusedVariables false
set_option maxRecDepth 20000

/-- A row in the head of a block: its items, and the block's other cells. -/
def rowH (b : Nat) (x : List It × List Value) : HP := chk (fun C => ∃ a c, C = [pt b (cob (.slice a x.1.length c :: x.2) 87), osl 171 6 (.slice a x.1.length c) (x.1.flatMap itemV)])

section
variable {P : Program} {W0 : World} {R A : List HP} {b : Nat} {its : List It} {tl : List Value} {f : FuncId} {args : List Value} {Post : Value → List HP → Prop}
theorem spec_row (h : ∀ a c, Spec P W0 f args (pt b (cob (.slice a its.length c :: tl) 87) :: osl 171 6 (.slice a its.length c) (its.flatMap itemV) :: R) Post) : Spec P W0 f args (rowH b (its, tl) :: R) Post :=
  spec_chk fun C hC => by obtain ⟨a, c, rfl⟩ := hC; exact h a c
theorem ent_row {a : Option Addr} {c n : Nat} {R1 R2 B : List HP} [h1 : Tk pt b A (cob (.slice a n c :: tl) 87) R1] [h2 : Tk (osl 171 6) (.slice a n c) R1 (its.flatMap itemV) R2] (hn : n = its.length) [k : Ent R2 B] : Ent A (rowH b (its, tl) :: B) := by
  subst hn
  exact (Ent.ofPerm (h1.perm.trans (h2.perm.cons _))).trans ((Ent.cons (Ent.cons k)).trans (ent_chk (R := B) (C := [_, _]) ⟨a, c, rfl⟩))
/-- A row that is not empty. -/
theorem spec_rowN (h0 : its ≠ []) (h : ∀ g c sp, its.length ≤ c → c ≤ maxLen → (its.flatMap itemV ++ sp).length = c * 6 → Spec P W0 f args (pt b (cob (.slice (some ⟨g, 0, none⟩) its.length c :: tl) 87) :: pt g (cob (its.flatMap itemV ++ sp) 171) :: R) Post) : Spec P W0 f args (rowH b (its, tl) :: R) Post :=
  spec_row fun a c => spec_perm (List.Perm.swap _ _ _) (spec_osl (fun h1 h2 => by
      have := flat_len itemV_len its
      rw [h2] at this
      exact absurd (List.eq_nil_of_length_eq_zero (by simp at this; omega)) h0)
    (fun g n cap sp h1 h2 h3 h4 h5 => by
      cases h1
      exact spec_perm (List.Perm.swap _ _ _) (h g _ sp h2 h3 h5)))
theorem run_row {N : FSz} {K : Act → World → Prop} {e : Env} [hk : Tk rowH b A (its, tl) R] (h : ∀ a c, Run W0 N K e (pt b (cob (.slice a its.length c :: tl) 87) :: osl 171 6 (.slice a its.length c) (its.flatMap itemV) :: R)) : Run W0 N K e A :=
  run_tk (r := rowH) (b := b) (run_chk fun C hC => by obtain ⟨a, c, rfl⟩ := hC; exact h a c)
theorem run_rowN {N : FSz} {K : Act → World → Prop} {e : Env} [hk : Tk rowH b A (its, tl) R] (h0 : its ≠ []) (h : ∀ g c sp, its.length ≤ c → c ≤ maxLen → (its.flatMap itemV ++ sp).length = c * 6 → Run W0 N K e (pt b (cob (.slice (some ⟨g, 0, none⟩) its.length c :: tl) 87) :: pt g (cob (its.flatMap itemV ++ sp) 171) :: R)) : Run W0 N K e A :=
  run_row (b := b) fun a c => run_perm (List.Perm.swap _ _ _) (run_osl (fun h1 h2 => by
      have := flat_len itemV_len its
      rw [h2] at this
      exact absurd (List.eq_nil_of_length_eq_zero (by simp at this; omega)) h0)
    (fun g n cap sp h1 h2 h3 h4 h5 => by
      cases h1
      exact run_perm (List.Perm.swap _ _ _) (h g _ sp h2 h3 h5)))
theorem cells_row [hk : Tk rowH b A (its, tl) R] : Cells (OwnP W0 A) b 1 tl := fun i v hi w (hO : Own W0 w A) => by
  obtain ⟨C, ⟨a, c, rfl⟩, hO'⟩ := (hO.tk (r := rowH) (b := b)).chk
  have h1 : Own W0 w (pt b (cob (.slice a its.length c :: tl) 87) :: (osl 171 6 (.slice a its.length c) (its.flatMap itemV) :: R)) := hO'
  have h2 : Cell (OwnP W0 (pt b (cob (.slice a its.length c :: tl) 87) :: (osl 171 6 (.slice a its.length c) (its.flatMap itemV) :: R))) b (1 + i) v := cell_own (by rw [Nat.add_comm]; exact hi)
  exact h2 w h1
theorem ent_rowN {g c n : Nat} {xs sp : List Value} {R1 R2 B : List HP} [h1 : Tk pt b A (cob (.slice (some ⟨g, 0, none⟩) n c :: tl) 87) R1] [h2 : Tk pt g R1 (cob (xs ++ sp) 171) R2] (hx : xs = its.flatMap itemV) (hn : n = its.length) (hc : n ≤ c) (hm : c ≤ maxLen) (hl : (xs ++ sp).length = c * 6) [k : Ent R2 B] : Ent A (rowH b (its, tl) :: B) := by
  subst hn
  subst hx
  have e : Ent R1 (osl 171 6 (.slice (some ⟨g, 0, none⟩) its.length c) (its.flatMap itemV) :: B) := ent_osl hc hm (flat_len itemV_len its) hl
  exact (Ent.ofPerm h1.perm).trans ((Ent.cons e).trans (ent_chk (R := B) (C := [_, _]) ⟨_, c, rfl⟩))
theorem run_shut {N : FSz} {K : Act → World → Prop} {e : Env} {g c n : Nat} {xs sp : List Value} {R1 R2 : List HP} [h1 : Tk pt b A (cob (.slice (some ⟨g, 0, none⟩) n c :: tl) 87) R1] [h2 : Tk pt g R1 (cob (xs ++ sp) 171) R2] (hx : xs = its.flatMap itemV) (hn : n = its.length) (hc : n ≤ c) (hm : c ≤ maxLen) (hl : (xs ++ sp).length = c * 6)
    (k : Run W0 N K e (rowH b (its, tl) :: R2)) : Run W0 N K e A := run_ent (ent_rowN (b := b) hx hn hc hm hl) k
end
theorem item_get (its : List It) (sp : List Value) (i j : Nat) (hi : i < its.length) (hj : j < 6) : (its.flatMap itemV ++ sp)[i * 6 + j]? = (itemV (its.getD i default))[j]? := by
  rw [flat_get itemV_len its i j sp hi hj]; simp [List.getD, hi]
theorem item_row (its : List It) (sp : List Value) (i : Nat) (hi : i < its.length) : ((its.flatMap itemV ++ sp).drop (i * 6)).take 6 = itemV (its.getD i default) := by
  rw [flat_row itemV_len its i sp hi]; simp [List.getD, hi]
theorem item_set (its : List It) (sp : List Value) (i : Nat) (x : It) (hi : i < its.length) : setR (its.flatMap itemV ++ sp) (i * 6) (itemV x) = (its.set i x).flatMap itemV ++ sp := flat_set itemV_len its i x sp hi
theorem item_ent (its : List It) (sp : List Value) (i : Nat) (hi : i < its.length) : ((its.flatMap itemV ++ sp).drop (i * 6 + 2)).take 3 = [.int .i64 (its.getD i default).ep, .int .i64 (its.getD i default).ef, .int .i64 (its.getD i default).er] := by
  have := congrArg (fun l => (l.drop 2).take 3) (item_row its sp i hi)
  simp only [List.drop_take, List.take_take, List.drop_drop] at this
  exact this
theorem item_set1 (its : List It) (sp : List Value) (i : Nat) (u : Int) (hi : i < its.length) : (its.flatMap itemV ++ sp).set (i * 6 + 5) (.int .i64 u) = (its.set i { its.getD i default with u := u }).flatMap itemV ++ sp :=
  flat_set1 itemV_len its i 5 _ _ sp hi (by decide) (by simp [List.getD, hi, itemV])
theorem item_bd (its : List It) (sp : List Value) (i : Nat) (hi : i < its.length) : i * 6 + 6 ≤ (its.flatMap itemV ++ sp).length := by
  rw [List.length_append, flat_len itemV_len]; omega
theorem pos_ne {its : List It} {i : Nat} (h : i < its.length) : its ≠ [] := fun e => by rw [e] at h; simp at h

theorem rowLen_spec (W0 : World) (R : List HP) (b : Nat) (its : List It) (tl : List Value) :
    Spec Try.prog W0 91 [.pointer (some ⟨b, 0, none⟩)] (rowH b (its, tl) :: R) (fun v B => v = .int .i64 (its.length : Nat) ∧ B = rowH b (its, tl) :: R) := by
  refine spec_row fun a c => ?_
  refine spec_body Try.func91 Try.ntmps91 rfl rfl ?_
  refine x_seq ?_
  refine x_region ?_
  refine s_val rfl (v_assign rfl) ?_
  refine x_nil ?_
  refine n_then ?_
  refine x_seq ?_
  refine x_region ?_
  refine s_val rfl (v_move rfl) ?_
  refine s_val rfl (v_nilCheck rfl) ?_
  refine s_val rfl (v_fieldAddr rfl Try.underlying85 rfl Try.sizeOf83 rfl (by first | exact Nat.zero_add _ | rfl)) ?_
  refine s_val rfl (v_load Try.isAgg83 rfl (cell_own rfl)) ?_
  refine s_val rfl (v_len_slice Try.underlying83 rfl) ?_
  refine s_val rfl (v_assign rfl) ?_
  refine x_nil ?_
  refine n_then ?_
  refine x_ret ?_
  refine x_done (.inl rfl) (.cons (r_tmp rfl) .nil) ?_
  exact ⟨_, ⟨rfl, rfl⟩, ent_row rfl⟩
theorem rowLess_spec (W0 : World) (R : List HP) (b : Nat) (its : List It) (tl : List Value) (i k : Nat) (hi : i < its.length) (hk : k < its.length) :
    Spec Try.prog W0 242 [.pointer (some ⟨b, 0, none⟩), .int .i64 i, .int .i64 k] (rowH b (its, tl) :: R) (fun v B => v = .bool (decide (us its i < us its k)) ∧ B = rowH b (its, tl) :: R) := by
  refine spec_rowN (pos_ne hi) fun g c sp h1 h2 h3 => ?_
  refine spec_body Try.func242 Try.ntmps242 rfl rfl ?_
  refine x_seq ?_
  refine x_region ?_
  refine s_val rfl (v_assign rfl) ?_
  refine x_nil ?_
  refine n_then ?_
  refine x_seq ?_
  refine x_draw [(b, 0, _), (g, 0, _)] 18 mixed rfl (sc_own (sc_own sc_end)) (fun hS => ?_)
  refine d_take 0 rfl rfl (by kernel_rfl) (by kernel_rfl) (by kernel_rfl) rfl hS (v_move rfl) ?_
  refine d_take 1 rfl rfl (by kernel_rfl) (by kernel_rfl) (by kernel_rfl) rfl hS (v_nilCheck rfl) ?_
  refine d_take 2 rfl rfl (by kernel_rfl) (by kernel_rfl) (by kernel_rfl) rfl hS (v_fieldAddr rfl Try.underlying85 rfl Try.sizeOf83 rfl (by first | exact Nat.zero_add _ | rfl)) ?_
  refine d_take 3 rfl rfl (by kernel_rfl) (by kernel_rfl) (by kernel_rfl) rfl hS (v_load Try.isAgg83 rfl (by first | exact cell_sc0 (k := 0) rfl rfl | exact cell_sc0 (k := 1) rfl rfl)) ?_
  refine d_take 4 rfl rfl (by kernel_rfl) (by kernel_rfl) (by kernel_rfl) rfl hS (v_move rfl) ?_
  refine d_take 5 rfl rfl (by kernel_rfl) (by kernel_rfl) (by kernel_rfl) rfl hS (v_idx Try.underlying83 Try.sizeOf171 rfl rfl rfl hi (by first | exact Nat.zero_add _ | rfl)) ?_
  refine d_take 6 rfl rfl (by kernel_rfl) (by kernel_rfl) (by kernel_rfl) rfl hS (v_fieldAddr rfl Try.underlying171 rfl Try.sizeOf3 rfl (by first | exact Nat.zero_add _ | rfl)) ?_
  refine d_take 7 rfl rfl (by kernel_rfl) (by kernel_rfl) (by kernel_rfl) rfl hS (v_load Try.isAgg3 rfl (cell_sc0 (k := 1) rfl ((item_get its sp i 5 hi (by decide)).trans rfl))) ?_
  refine d_take 8 rfl rfl (by kernel_rfl) (by kernel_rfl) (by kernel_rfl) rfl hS (v_move rfl) ?_
  refine d_take 9 rfl rfl (by kernel_rfl) (by kernel_rfl) (by kernel_rfl) rfl hS (v_nilCheck rfl) ?_
  refine d_take 10 rfl rfl (by kernel_rfl) (by kernel_rfl) (by kernel_rfl) rfl hS (v_fieldAddr rfl Try.underlying85 rfl Try.sizeOf83 rfl (by first | exact Nat.zero_add _ | rfl)) ?_
  refine d_take 11 rfl rfl (by kernel_rfl) (by kernel_rfl) (by kernel_rfl) rfl hS (v_load Try.isAgg83 rfl (by first | exact cell_sc0 (k := 0) rfl rfl | exact cell_sc0 (k := 1) rfl rfl)) ?_
  refine d_take 12 rfl rfl (by kernel_rfl) (by kernel_rfl) (by kernel_rfl) rfl hS (v_move rfl) ?_
  refine d_take 13 rfl rfl (by kernel_rfl) (by kernel_rfl) (by kernel_rfl) rfl hS (v_idx Try.underlying83 Try.sizeOf171 rfl rfl rfl hk (by first | exact Nat.zero_add _ | rfl)) ?_
  refine d_take 14 rfl rfl (by kernel_rfl) (by kernel_rfl) (by kernel_rfl) rfl hS (v_fieldAddr rfl Try.underlying171 rfl Try.sizeOf3 rfl (by first | exact Nat.zero_add _ | rfl)) ?_
  refine d_take 15 rfl rfl (by kernel_rfl) (by kernel_rfl) (by kernel_rfl) rfl hS (v_load Try.isAgg3 rfl (cell_sc0 (k := 1) rfl ((item_get its sp k 5 hk (by decide)).trans rfl))) ?_
  refine d_take 16 rfl rfl (by kernel_rfl) (by kernel_rfl) (by kernel_rfl) rfl hS (v_lss rfl rfl) ?_
  refine d_take 17 rfl rfl (by kernel_rfl) (by kernel_rfl) (by kernel_rfl) rfl hS (v_assign rfl) ?_
  refine d_done (by kernel_rfl) ?_; clear hS
  refine n_then ?_
  refine x_ret ?_
  refine x_done (.inl rfl) (.cons (r_tmp rfl) .nil) ?_
  exact ⟨_, ⟨rfl, rfl⟩, ent_rowN rfl rfl h1 h2 h3⟩
theorem rowSwap_spec (W0 : World) (R : List HP) (b : Nat) (its : List It) (tl : List Value) (i k : Nat) (hi : i < its.length) (hk : k < its.length) :
    Spec Try.prog W0 245 [.pointer (some ⟨b, 0, none⟩), .int .i64 i, .int .i64 k] (rowH b (its, tl) :: R) (fun v B => v = .tuple #[] ∧ B = rowH b (swapL its i k, tl) :: R) := by
  refine spec_rowN (pos_ne hi) fun g c sp h1 h2 h3 => ?_
  refine spec_body Try.func245 Try.ntmps245 rfl rfl ?_
  refine x_draw [(b, 0, _)] 28 mixed rfl (sc_own sc_end) (fun hS => ?_)
  refine d_take 0 rfl rfl (by kernel_rfl) (by kernel_rfl) (by kernel_rfl) rfl hS (v_move rfl) ?_
  refine d_take 1 rfl rfl (by kernel_rfl) (by kernel_rfl) (by kernel_rfl) rfl hS (v_nilCheck rfl) ?_
  refine d_take 2 rfl rfl (by kernel_rfl) (by kernel_rfl) (by kernel_rfl) rfl hS (v_fieldAddr rfl Try.underlying85 rfl Try.sizeOf83 rfl (by first | exact Nat.zero_add _ | rfl)) ?_
  refine d_take 3 rfl rfl (by kernel_rfl) (by kernel_rfl) (by kernel_rfl) rfl hS (v_load Try.isAgg83 rfl (cell_sc0 (k := 0) rfl rfl)) ?_
  refine d_take 4 rfl rfl (by kernel_rfl) (by kernel_rfl) (by kernel_rfl) rfl hS (v_move rfl) ?_
  refine d_take 5 rfl rfl (by kernel_rfl) (by kernel_rfl) (by kernel_rfl) rfl hS (v_move rfl) ?_
  refine d_take 6 rfl rfl (by kernel_rfl) (by kernel_rfl) (by kernel_rfl) rfl hS (v_nilCheck rfl) ?_
  refine d_take 7 rfl rfl (by kernel_rfl) (by kernel_rfl) (by kernel_rfl) rfl hS (v_fieldAddr rfl Try.underlying85 rfl Try.sizeOf83 rfl (by first | exact Nat.zero_add _ | rfl)) ?_
  refine d_take 8 rfl rfl (by kernel_rfl) (by kernel_rfl) (by kernel_rfl) rfl hS (v_load Try.isAgg83 rfl (cell_sc0 (k := 0) rfl rfl)) ?_
  refine d_take 9 rfl rfl (by kernel_rfl) (by kernel_rfl) (by kernel_rfl) rfl hS (v_move rfl) ?_
  refine d_take 10 rfl rfl (by kernel_rfl) (by kernel_rfl) (by kernel_rfl) rfl hS (v_move rfl) ?_
  refine d_take 11 rfl rfl (by kernel_rfl) (by kernel_rfl) (by kernel_rfl) rfl hS (v_nilCheck rfl) ?_
  refine d_take 12 rfl rfl (by kernel_rfl) (by kernel_rfl) (by kernel_rfl) rfl hS (v_fieldAddr rfl Try.underlying85 rfl Try.sizeOf83 rfl (by first | exact Nat.zero_add _ | rfl)) ?_
  refine d_take 13 rfl rfl (by kernel_rfl) (by kernel_rfl) (by kernel_rfl) rfl hS (v_load Try.isAgg83 rfl (cell_sc0 (k := 0) rfl rfl)) ?_
  refine d_take 14 rfl rfl (by kernel_rfl) (by kernel_rfl) (by kernel_rfl) rfl hS (v_move rfl) ?_
  refine d_take 15 rfl rfl (by kernel_rfl) (by kernel_rfl) (by kernel_rfl) rfl hS (v_idx Try.underlying83 Try.sizeOf171 rfl rfl rfl hk (by first | exact Nat.zero_add _ | rfl)) ?_
  refine d_take 17 rfl rfl (by kernel_rfl) (by kernel_rfl) (by kernel_rfl) rfl hS (v_move rfl) ?_
  refine d_take 18 rfl rfl (by kernel_rfl) (by kernel_rfl) (by kernel_rfl) rfl hS (v_nilCheck rfl) ?_
  refine d_take 19 rfl rfl (by kernel_rfl) (by kernel_rfl) (by kernel_rfl) rfl hS (v_fieldAddr rfl Try.underlying85 rfl Try.sizeOf83 rfl (by first | exact Nat.zero_add _ | rfl)) ?_
  refine d_take 20 rfl rfl (by kernel_rfl) (by kernel_rfl) (by kernel_rfl) rfl hS (v_load Try.isAgg83 rfl (cell_sc0 (k := 0) rfl rfl)) ?_
  refine d_take 21 rfl rfl (by kernel_rfl) (by kernel_rfl) (by kernel_rfl) rfl hS (v_move rfl) ?_
  refine d_take 22 rfl rfl (by kernel_rfl) (by kernel_rfl) (by kernel_rfl) rfl hS (v_idx Try.underlying83 Try.sizeOf171 rfl rfl rfl hi (by first | exact Nat.zero_add _ | rfl)) ?_
  refine d_all (is := [16, 23]) (by kernel_rfl) rfl ⟨?_, ?_, trivial⟩
  · skip
    refine dx_one rfl rfl (d_val (v_loadAgg Try.isAgg171 Try.sizeOf171 rfl (cells_part (item_row its sp k hk) rfl) rfl)) rfl ?_; clear hS
    rintro _ _ ⟨rfl, rfl⟩
    refine ⟨(sc_own sc_end), fun hS => ?_⟩
    refine d_one 23 (by kernel_rfl) rfl rfl (d_val (v_loadAgg Try.isAgg171 Try.sizeOf171 rfl (cells_part (item_row its sp i hi) rfl) rfl)) rfl ?_; clear hS
    rintro _ _ ⟨rfl, rfl⟩
    refine ⟨(sc_own sc_end), fun hS => ?_⟩
    refine d_take 24 rfl rfl (by kernel_rfl) (by kernel_rfl) (by kernel_rfl) rfl hS (v_idx Try.underlying83 Try.sizeOf171 rfl rfl rfl hi (by first | exact Nat.zero_add _ | rfl)) ?_
    refine d_one 25 (by kernel_rfl) rfl rfl (d_storeAgg Try.sizeOf171 rfl rfl rfl rfl (item_bd its sp i hi) (item_set its sp i (its.getD k default) hi)) rfl ?_; clear hS
    rintro _ _ rfl
    refine ⟨(sc_own sc_end), fun hS => ?_⟩
    refine d_take 26 rfl rfl (by kernel_rfl) (by kernel_rfl) (by kernel_rfl) rfl hS (v_idx Try.underlying83 Try.sizeOf171 rfl rfl rfl hk (by first | exact Nat.zero_add _ | rfl)) ?_
    refine d_one 27 (by kernel_rfl) rfl rfl (d_storeAgg Try.sizeOf171 rfl rfl rfl rfl (item_bd (its.set i (its.getD k default)) sp k (by simpa using hk)) (item_set (its.set i (its.getD k default)) sp k (its.getD i default) (by simpa using hk))) rfl ?_; clear hS
    rintro _ _ rfl
    refine ⟨(sc_own sc_end), fun hS => ?_⟩
    refine d_done (by kernel_rfl) ?_; clear hS
    refine x_done (.inr rfl) .nil ?_
    exact ⟨_, ⟨rfl, rfl⟩, ent_rowN rfl (by simp [swapL]) (by simpa [swapL] using h1) h2 (by simpa [swapL, flat_len itemV_len] using h3)⟩
  · skip
    refine dx_one rfl rfl (d_val (v_loadAgg Try.isAgg171 Try.sizeOf171 rfl (cells_part (item_row its sp i hi) rfl) rfl)) rfl ?_; clear hS
    rintro _ _ ⟨rfl, rfl⟩
    refine ⟨(sc_own sc_end), fun hS => ?_⟩
    refine d_one 16 (by kernel_rfl) rfl rfl (d_val (v_loadAgg Try.isAgg171 Try.sizeOf171 rfl (cells_part (item_row its sp k hk) rfl) rfl)) rfl ?_; clear hS
    rintro _ _ ⟨rfl, rfl⟩
    refine ⟨(sc_own sc_end), fun hS => ?_⟩
    refine d_take 24 rfl rfl (by kernel_rfl) (by kernel_rfl) (by kernel_rfl) rfl hS (v_idx Try.underlying83 Try.sizeOf171 rfl rfl rfl hi (by first | exact Nat.zero_add _ | rfl)) ?_
    refine d_one 25 (by kernel_rfl) rfl rfl (d_storeAgg Try.sizeOf171 rfl rfl rfl rfl (item_bd its sp i hi) (item_set its sp i (its.getD k default) hi)) rfl ?_; clear hS
    rintro _ _ rfl
    refine ⟨(sc_own sc_end), fun hS => ?_⟩
    refine d_take 26 rfl rfl (by kernel_rfl) (by kernel_rfl) (by kernel_rfl) rfl hS (v_idx Try.underlying83 Try.sizeOf171 rfl rfl rfl hk (by first | exact Nat.zero_add _ | rfl)) ?_
    refine d_one 27 (by kernel_rfl) rfl rfl (d_storeAgg Try.sizeOf171 rfl rfl rfl rfl (item_bd (its.set i (its.getD k default)) sp k (by simpa using hk)) (item_set (its.set i (its.getD k default)) sp k (its.getD i default) (by simpa using hk))) rfl ?_; clear hS
    rintro _ _ rfl
    refine ⟨(sc_own sc_end), fun hS => ?_⟩
    refine d_done (by kernel_rfl) ?_; clear hS
    refine x_done (.inr rfl) .nil ?_
    exact ⟨_, ⟨rfl, rfl⟩, ent_rowN rfl (by simp [swapL]) (by simpa [swapL] using h1) h2 (by simpa [swapL, flat_len itemV_len] using h3)⟩
theorem rowPop_spec (W0 : World) (R : List HP) (b : Nat) (its : List It) (x : It) (tl : List Value) :
    Spec Try.prog W0 243 [.pointer (some ⟨b, 0, none⟩)] (rowH b (its ++ [x], tl) :: R) (fun v B => v = .iface 171 (.agg (itemV x).toArray) ∧ B = rowH b (its, tl) :: R) := by
  refine spec_rowN (by simp) fun g c sp h1 h2 h3 => ?_
  have hl : (its ++ [x]).length = its.length + 1 := by simp
  rw [hl] at h1 ⊢
  have hg : (its ++ [x]).getD its.length default = x := by simp [List.getD]
  have hr := item_row (its ++ [x]) sp its.length (by omega)
  rw [hg] at hr
  have he : (its ++ [x]).flatMap itemV ++ sp = its.flatMap itemV ++ (itemV x ++ sp) := by simp
  refine spec_body Try.func243 Try.ntmps243 rfl rfl ?_
  refine x_seq ?_
  refine x_region ?_
  refine s_val rfl (v_assign rfl) ?_
  refine x_nil ?_
  refine n_then ?_
  refine x_seq ?_
  refine x_region ?_
  refine s_val rfl (v_move rfl) ?_
  refine s_val rfl (v_nilCheck rfl) ?_
  refine s_val rfl (v_fieldAddr rfl Try.underlying85 rfl Try.sizeOf83 rfl (by first | exact Nat.zero_add _ | rfl)) ?_
  refine s_val rfl (v_load Try.isAgg83 rfl (cell_own rfl)) ?_
  refine s_val rfl (v_len_slice Try.underlying83 rfl) ?_
  refine s_val rfl (v_sub rfl rfl (by rw [w64 (by simp only [maxLen] at h2; omega)]; omega : IntKind.wrap .i64 (((its.length + 1 : Nat) : Int) - 1) = ((its.length : Nat) : Int))) ?_
  refine s_val rfl (v_assign rfl) ?_
  refine x_nil ?_
  refine n_then ?_
  refine x_seq ?_
  refine x_region ?_
  refine s_val rfl (v_move rfl) ?_
  refine s_val rfl (v_nilCheck rfl) ?_
  refine s_val rfl (v_fieldAddr rfl Try.underlying85 rfl Try.sizeOf83 rfl (by first | exact Nat.zero_add _ | rfl)) ?_
  refine s_val rfl (v_load Try.isAgg83 rfl (cell_own rfl)) ?_
  refine s_val rfl (v_move rfl) ?_
  refine s_val rfl (v_idx Try.underlying83 Try.sizeOf171 rfl rfl rfl (by omega) (by first | exact Nat.zero_add _ | rfl)) ?_
  refine s_val rfl (v_loadAgg Try.isAgg171 Try.sizeOf171 rfl (cells_part hr rfl) rfl) ?_
  refine s_do rfl (d_allocA Try.zeroValue171) ?_
  rintro _ _ ⟨b1, rfl, rfl⟩
  refine s_do0 (d_storeAll Try.sizeOf171 rfl rfl rfl rfl rfl) ?_
  rintro _ _ rfl
  refine x_nil ?_
  refine n_then ?_
  refine x_seq ?_
  refine x_region ?_
  refine s_val rfl (v_move rfl) ?_
  refine s_val rfl (v_move rfl) ?_
  refine s_val rfl (v_nilCheck rfl) ?_
  refine s_val rfl (v_fieldAddr rfl Try.underlying85 rfl Try.sizeOf83 rfl (by first | exact Nat.zero_add _ | rfl)) ?_
  refine s_val rfl (v_load Try.isAgg83 rfl (cell_own rfl)) ?_
  refine s_val rfl (v_move rfl) ?_
  refine s_val rfl (v_sliceH Try.underlying83 Try.sizeOf171 rfl rfl rfl (by omega)) ?_
  refine s_val rfl (v_nilCheck rfl) ?_
  refine s_val rfl (v_fieldAddr rfl Try.underlying85 rfl Try.sizeOf83 rfl (by first | exact Nat.zero_add _ | rfl)) ?_
  refine s_do0 (d_store Try.sizeOf83 rfl rfl rfl (Nat.le_of_ble_eq_true rfl) SetL.eq) ?_
  rintro _ _ rfl
  refine x_nil ?_
  refine n_then ?_
  refine x_seq ?_
  refine x_region ?_
  refine s_val rfl (v_loadAll Try.isAgg171 Try.sizeOf171 rfl rfl) ?_
  refine s_val rfl (v_mkI Try.underlying171 (fun _ h => nomatch h) rfl) ?_
  refine s_val rfl (v_assign rfl) ?_
  refine x_nil ?_
  refine n_then ?_
  refine x_ret ?_
  refine x_done (.inl rfl) (.cons (r_tmp rfl) .nil) ?_
  rw [he]
  exact ⟨_, ⟨rfl, rfl⟩, ent_rowN (sp := itemV x ++ sp) rfl rfl (by omega) h2 (by rw [← he]; exact h3)⟩
theorem rowPush_spec (W0 : World) (R : List HP) (b : Nat) (its : List It) (x : It) (tl : List Value) (hn : its.length < 1000) :
    Spec Try.prog W0 244 [.pointer (some ⟨b, 0, none⟩), .iface 171 (.agg (itemV x).toArray)] (rowH b (its, tl) :: R) (fun v B => v = .tuple #[] ∧ B = rowH b (its ++ [x], tl) :: R) := by
  refine spec_row fun a c => ?_
  have he : its.flatMap itemV ++ [itemV x].flatten = (its ++ [x]).flatMap itemV := by simp
  refine spec_body Try.func244 Try.ntmps244 rfl rfl ?_
  refine x_draw [] 12 mixed rfl sc_end (fun hS => ?_)
  refine d_take 0 rfl rfl (by kernel_rfl) (by kernel_rfl) (by kernel_rfl) rfl hS (v_move rfl) ?_
  refine d_take 1 rfl rfl (by kernel_rfl) (by kernel_rfl) (by kernel_rfl) rfl hS (v_move rfl) ?_
  refine d_take 2 rfl rfl (by kernel_rfl) (by kernel_rfl) (by kernel_rfl) rfl hS (v_nilCheck rfl) ?_
  refine d_take 3 rfl rfl (by kernel_rfl) (by kernel_rfl) (by kernel_rfl) rfl hS (v_fieldAddr rfl Try.underlying85 rfl Try.sizeOf83 rfl (by first | exact Nat.zero_add _ | rfl)) ?_
  refine d_take 5 rfl rfl (by kernel_rfl) (by kernel_rfl) (by kernel_rfl) rfl hS (v_move rfl) ?_
  refine d_take 6 rfl rfl (by kernel_rfl) (by kernel_rfl) (by kernel_rfl) rfl hS (v_assert Try.underlying171 (fun _ h => nomatch h) rfl) ?_
  refine d_all (is := [4, 7]) (by kernel_rfl) rfl ⟨?_, ?_, trivial⟩
  · skip
    refine dx_one rfl rfl (d_val (v_load Try.isAgg83 rfl (cell_own rfl))) rfl ?_; clear hS
    rintro _ _ ⟨rfl, rfl⟩
    refine ⟨sc_end, fun hS => ?_⟩
    refine d_one 7 (by kernel_rfl) rfl rfl (d_sliceAgg Try.underlying83 Try.sizeOf171 Try.zeroValue171 rfl (elsK_cons rfl rfl elsK_nil) rfl (by decide) (by decide) (by decide)) rfl ?_; clear hS
    rintro _ _ ⟨b1, rfl, rfl⟩
    refine ⟨sc_end, fun hS => ?_⟩
    refine d_one 8 (by kernel_rfl) rfl rfl (d_append (sz := 6) (by_ := 48) (info := Try.t171) Try.underlying83 (by kernel_rfl) rfl rfl rfl rfl (by decide) rfl rfl cells_all rfl rfl (by simp only [maxLen]; omega) (by omega)) rfl ?_; clear hS
    rintro _ _ ⟨a1, c1, rfl, rfl⟩
    refine ⟨sc_end, fun hS => ?_⟩
    refine d_take 9 rfl rfl (by kernel_rfl) (by kernel_rfl) (by kernel_rfl) rfl hS (v_nilCheck rfl) ?_
    refine d_take 10 rfl rfl (by kernel_rfl) (by kernel_rfl) (by kernel_rfl) rfl hS (v_fieldAddr rfl Try.underlying85 rfl Try.sizeOf83 rfl (by first | exact Nat.zero_add _ | rfl)) ?_
    refine d_one 11 (by kernel_rfl) rfl rfl (d_store Try.sizeOf83 rfl rfl rfl (Nat.le_of_ble_eq_true rfl) SetL.eq) rfl ?_; clear hS
    rintro _ _ rfl
    refine ⟨sc_end, fun hS => ?_⟩
    refine d_done (by kernel_rfl) ?_; clear hS
    refine x_done (.inr rfl) .nil ?_
    rw [he]
    exact ⟨_, ⟨rfl, rfl⟩, ent_row (its := its ++ [x]) (by simp)⟩
  · skip
    refine dx_one rfl rfl (d_sliceAgg Try.underlying83 Try.sizeOf171 Try.zeroValue171 rfl (elsK_cons rfl rfl elsK_nil) rfl (by decide) (by decide) (by decide)) rfl ?_; clear hS
    rintro _ _ ⟨b1, rfl, rfl⟩
    refine ⟨sc_end, fun hS => ?_⟩
    refine d_one 4 (by kernel_rfl) rfl rfl (d_val (v_load Try.isAgg83 rfl (cell_own rfl))) rfl ?_; clear hS
    rintro _ _ ⟨rfl, rfl⟩
    refine ⟨sc_end, fun hS => ?_⟩
    refine d_one 8 (by kernel_rfl) rfl rfl (d_append (sz := 6) (by_ := 48) (info := Try.t171) Try.underlying83 (by kernel_rfl) rfl rfl rfl rfl (by decide) rfl rfl cells_all rfl rfl (by simp only [maxLen]; omega) (by omega)) rfl ?_; clear hS
    rintro _ _ ⟨a1, c1, rfl, rfl⟩
    refine ⟨sc_end, fun hS => ?_⟩
    refine d_take 9 rfl rfl (by kernel_rfl) (by kernel_rfl) (by kernel_rfl) rfl hS (v_nilCheck rfl) ?_
    refine d_take 10 rfl rfl (by kernel_rfl) (by kernel_rfl) (by kernel_rfl) rfl hS (v_fieldAddr rfl Try.underlying85 rfl Try.sizeOf83 rfl (by first | exact Nat.zero_add _ | rfl)) ?_
    refine d_one 11 (by kernel_rfl) rfl rfl (d_store Try.sizeOf83 rfl rfl rfl (Nat.le_of_ble_eq_true rfl) SetL.eq) rfl ?_; clear hS
    rintro _ _ rfl
    refine ⟨sc_end, fun hS => ?_⟩
    refine d_done (by kernel_rfl) ?_; clear hS
    refine x_done (.inr rfl) .nil ?_
    rw [he]
    exact ⟨_, ⟨rfl, rfl⟩, ent_row (its := its ++ [x]) (by simp)⟩
/-! ### The heap over a row -/
section
variable (w : World) (a : Addr)
theorem m_len : (method (Try.prog.types.size + Made.depth) 174 (.pointer (some a)) "Len").run Try.prog w = .ok (91, .pointer (some a)) w := by kernel_rfl
theorem m_less : (method (Try.prog.types.size + Made.depth) 174 (.pointer (some a)) "Less").run Try.prog w = .ok (242, .pointer (some a)) w := by kernel_rfl
theorem m_swap : (method (Try.prog.types.size + Made.depth) 174 (.pointer (some a)) "Swap").run Try.prog w = .ok (245, .pointer (some a)) w := by kernel_rfl
theorem m_push : (method (Try.prog.types.size + Made.depth) 174 (.pointer (some a)) "Push").run Try.prog w = .ok (244, .pointer (some a)) w := by kernel_rfl
theorem m_pop : (method (Try.prog.types.size + Made.depth) 174 (.pointer (some a)) "Pop").run Try.prog w = .ok (243, .pointer (some a)) w := by kernel_rfl
end

/-- A row, behind an interface. -/
def rowI (b : Nat) : Value := .iface 174 (.pointer (some ⟨b, 0, none⟩))

theorem par_quo {j : Nat} (h : j < 1000) : IntKind.wrap .i64 (Int.tdiv ((j : Int) - 1) 2) = (((j - 1) / 2 : Nat) : Int) := by
  by_cases h0 : j = 0
  · subst h0; decide
  · obtain ⟨k, rfl⟩ : ∃ k, j = k + 1 := ⟨j - 1, by omega⟩
    have e : ((k + 1 : Nat) : Int) - 1 = (k : Int) := by omega
    rw [e, Int.tdiv_eq_ediv_of_nonneg (by omega), w64 (by omega)]; simp
theorem getD_swap_ge {l l0 : List It} {i j n : Nat} (hi : i < n) (hj : j < n) (hn : n ≤ l.length) (h : ∀ x, n ≤ x → l.getD x default = l0.getD x default) : ∀ x, n ≤ x → (swapL l i j).getD x default = l0.getD x default := fun x hx => by
  rw [getD_swapL (by omega) (by omega), if_neg (by omega), if_neg (by omega)]; exact h x hx

theorem heapUp_spec (W0 : World) (R : List HP) (b : Nat) (its : List It) (tl : List Value) (j n : Nat) (hn : n ≤ its.length) (hN : n < 1000) (hj : j < n) (hU : Up its j n) :
    Spec Try.prog W0 146 [rowI b, .int .i64 j] (rowH b (its, tl) :: R) (fun v B => v = .tuple #[] ∧ ∃ its', B = rowH b (its', tl) :: R ∧ its'.Perm its ∧ Heap its' n ∧ ∀ x, n ≤ x → its'.getD x default = its.getD x default) := by
  refine spec_body Try.func146 Try.ntmps146 rfl rfl ?_
  refine x_block ?_
  refine x_loop (fun X : List It × Nat => X.1.Perm its ∧ X.2 < n ∧ Up X.1 X.2 n ∧ ∀ x, n ≤ x → X.1.getD x default = its.getD x default) (fun X => [(0, rowI b), (1, .int .i64 X.2)]) (fun X => rowH b (X.1, tl) :: R) (fun X => X.2) (its, j) ?_ ?_ ?_ ?_
  · exact ⟨List.Perm.refl _, hj, hU, fun _ _ => rfl⟩
  · repeat (first | exact sub_nil | refine sub_cons rfl ?_)
  · exact inferInstance
  · intro ⟨l, j⟩ ⟨hp, hj, hU, ht⟩
    have hlen := hp.length_eq
    simp only at hj hU ht hp hlen ⊢
    refine x_block ?_
    refine x_seq ?_
    refine x_region ?_
    refine s_val rfl (v_move rfl) ?_
    refine s_val rfl (v_sub rfl rfl (by first | exact w64 (by omega) | rfl)) ?_
    refine s_val rfl (v_quo rfl rfl (by decide) (par_quo (by omega))) ?_
    refine s_val rfl (v_assign rfl) ?_
    refine x_nil ?_
    refine n_then ?_
    refine x_seq ?_
    refine x_seq ?_
    refine x_region ?_
    refine s_val rfl (v_move rfl) ?_
    refine s_val rfl (v_move rfl) ?_
    refine s_val rfl (v_eql rfl rfl) ?_
    refine s_val rfl (v_move rfl) ?_
    refine s_or rfl rfl rfl ?_ ?_
    · intro g1_4
      refine s_no rfl rfl rfl rfl ?_
      refine s_no rfl rfl rfl rfl ?_
      refine s_no rfl rfl rfl rfl ?_
      refine s_no rfl rfl rfl rfl ?_
      refine s_val rfl (v_pick_t rfl rfl) ?_
      refine x_nil ?_
      refine n_then ?_
      refine x_ift rfl ?_
      refine x_exit ?_
      refine e_then ?_
      refine e_block_ne rfl ?_
      refine e_then ?_
      refine e_block ?_
      refine x_done (.inr rfl) .nil ?_
      exact ⟨_, ⟨rfl, l, rfl, hp, up_heap hU (by intro _; first | omega | (simp at c1; omega)), ht⟩, inferInstance⟩
    · intro g1_4
      refine s_val rfl (v_move rfl) ?_
      refine s_yes rfl rfl ?_
      refine s_val rfl (v_move rfl) ?_
      refine s_yes rfl rfl ?_
      refine s_val rfl (v_move rfl) ?_
      refine s_yes rfl rfl ?_
      refine s_do rfl (d_invoke1 rfl ((fun w => m_less w _)) Try.call242 rfl (rowLess_spec W0 _ b l tl j ((j - 1) / 2) (by omega) (by omega))) ?_
      rintro _ B_ ⟨rfl, hB_⟩
      obtain rfl := hB_.symm
      refine s_yes rfl rfl ?_
      refine s_val rfl (v_not rfl) ?_
      refine s_val rfl (v_pick_f rfl rfl) ?_
      refine x_nil ?_
      refine n_then ?_
      refine x_if rfl ?_ ?_
      · intro c1
        refine x_exit ?_
        refine e_then ?_
        refine e_block_ne rfl ?_
        refine e_then ?_
        refine e_block ?_
        refine x_done (.inr rfl) .nil ?_
        exact ⟨_, ⟨rfl, l, rfl, hp, up_heap hU (by intro _; first | omega | (simp at c1; omega)), ht⟩, inferInstance⟩
      · intro c1
        replace c1 : us l j < us l ((j - 1) / 2) := by simpa using c1
        refine x_skip ?_
        refine n_then ?_
        refine x_seq ?_
        refine x_region ?_
        refine s_val rfl (v_move rfl) ?_
        refine s_val rfl (v_move rfl) ?_
        refine s_val rfl (v_move rfl) ?_
        refine s_do rfl (d_invoke1 rfl ((fun w => m_swap w _)) Try.call245 rfl (rowSwap_spec W0 _ b l tl ((j - 1) / 2) j (by omega) (by omega))) ?_
        rintro _ B_ ⟨rfl, hB_⟩
        obtain rfl := hB_.symm
        refine x_nil ?_
        refine n_then ?_
        refine x_region ?_
        refine s_val rfl (v_move rfl) ?_
        refine s_val rfl (v_assign rfl) ?_
        refine x_nil ?_
        refine n_block ?_
        refine n_then ?_
        refine inv_intro (swapL l ((j - 1) / 2) j, (j - 1) / 2) ?_ ?_ ?_ ?_
        · exact ⟨(swapL_perm (by omega) (by omega)).trans hp, by show (j - 1) / 2 < n; omega, up_swap hU (by omega) hj (by omega) c1, getD_swap_ge (by omega) hj (by omega) ht⟩
        · show (j - 1) / 2 < j; omega
        · repeat (first | exact sub_nil | refine sub_cons rfl ?_)
        · exact inferInstance

theorem heapDown_spec (W0 : World) (R : List HP) (b : Nat) (its : List It) (tl : List Value) (i0 n : Nat) (hn : n ≤ its.length) (hN : n < 1000) (hi : i0 ≤ n) (hH : Hole its i0 n) :
    Spec Try.prog W0 145 [rowI b, .int .i64 i0, .int .i64 n] (rowH b (its, tl) :: R) (fun v B => ∃ l m, v = .bool m ∧ B = rowH b (l, tl) :: R ∧ Down its l i0 n m) := by
  refine spec_body Try.func145 Try.ntmps145 rfl rfl ?_
  refine x_seq ?_
  refine x_region ?_
  refine s_val rfl (v_assign rfl) ?_
  refine x_nil ?_
  refine n_then ?_
  refine x_seq ?_
  refine x_region ?_
  refine s_val rfl (v_move rfl) ?_
  refine s_val rfl (v_assign rfl) ?_
  refine x_nil ?_
  refine n_then ?_
  refine x_seq ?_
  refine x_block ?_
  refine x_loop (fun X : List It × Nat => X.1.Perm its ∧ i0 ≤ X.2 ∧ Hole X.1 X.2 n ∧ (∀ x, n ≤ x → X.1.getD x default = its.getD x default) ∧ (X.2 = i0 → X.1 = its) ∧ (i0 < X.2 → us X.1 ((X.2 - 1) / 2) ≤ us X.1 X.2) ∧ X.2 ≤ n) (fun X => [(0, rowI b), (1, .int .i64 i0), (2, .int .i64 n), (7, .int .i64 X.2)]) (fun X => rowH b (X.1, tl) :: R) (fun X => n - X.2) (its, i0) ?_ ?_ ?_ ?_
  · exact ⟨List.Perm.refl _, Nat.le_refl _, hH, fun _ _ => rfl, fun _ => rfl, fun h => absurd h (Nat.lt_irrefl _), hi⟩
  · repeat (first | exact sub_nil | refine sub_cons rfl ?_)
  · exact inferInstance
  · intro ⟨l, i⟩ ⟨hp, hi0, hl, ht, he, hg, hin⟩
    have hlen := hp.length_eq
    simp only at hp hi0 hl ht he hg hin hlen ⊢
    refine x_block ?_
    refine x_seq ?_
    refine x_region ?_
    refine s_val rfl (v_move rfl) ?_
    refine s_val rfl (v_mul rfl rfl (by first | exact w64 (by omega) | rfl)) ?_
    refine s_val rfl (v_add rfl rfl (by rw [w64 (by omega)]; omega : IntKind.wrap .i64 (2 * (i : Int) + 1) = ((2 * i + 1 : Nat) : Int))) ?_
    refine s_val rfl (v_assign rfl) ?_
    refine x_nil ?_
    refine n_then ?_
    refine x_seq ?_
    refine x_seq ?_
    refine x_region ?_
    refine s_val rfl (v_move rfl) ?_
    refine s_val rfl (v_move rfl) ?_
    refine s_val rfl (v_geq rfl rfl) ?_
    refine s_val rfl (v_move rfl) ?_
    refine s_or rfl rfl rfl ?_ ?_
    · intro g3_4
      refine s_no rfl rfl rfl rfl ?_
      refine s_val rfl (v_pick_t rfl rfl) ?_
      refine x_nil ?_
      refine n_then ?_
      refine x_ift rfl ?_
      refine x_exit ?_
      refine e_then ?_
      refine e_block_ne rfl ?_
      refine e_then ?_
      refine e_block ?_
      refine n_then ?_
      refine x_seq ?_
      refine x_region ?_
      refine s_val rfl (v_move rfl) ?_
      refine s_val rfl (v_move rfl) ?_
      refine s_val rfl (v_gtr rfl rfl) ?_
      refine s_val rfl (v_assign rfl) ?_
      refine x_nil ?_
      refine n_then ?_
      refine x_ret ?_
      refine x_done (.inl rfl) (.cons (r_tmp rfl) .nil) ?_
      refine ⟨_, ⟨l, decide (i0 < i), by simp [pack], rfl, down_done hp hi0 hl ht he hg ?_⟩, inferInstance⟩
      first | (intro c hc h0 h1; exfalso; omega) | (intro c hc h0 h1; have := hmin c hc h0 h1; simp at c8; omega)
    · intro g3_4
      refine s_val rfl (v_move rfl) ?_
      refine s_yes rfl rfl ?_
      refine s_val rfl (v_lss rfl rfl) ?_
      refine s_val rfl (v_pick_f rfl rfl) ?_
      refine x_nil ?_
      refine n_then ?_
      refine x_if rfl ?_ ?_
      · intro c3
        omega
      · intro c3
        refine x_skip ?_
        refine n_then ?_
        refine x_seq ?_
        refine x_region ?_
        refine s_val rfl (v_move rfl) ?_
        refine s_val rfl (v_assign rfl) ?_
        refine x_nil ?_
        refine n_then ?_
        refine x_cut (fun j : Nat => (j - 1) / 2 = i ∧ 0 < j ∧ j < n ∧ ∀ c, c < n → 0 < c → (c - 1) / 2 = i → us l j ≤ us l c) (fun j => [(0, rowI b), (1, .int .i64 i0), (2, .int .i64 n), (7, .int .i64 i), (9, .int .i64 j)]) (fun j => rowH b (l, tl) :: R) ?_ ?_
        · skip
          refine x_seq ?_
          refine x_region ?_
          refine s_val rfl (v_move rfl) ?_
          refine s_val rfl (v_add rfl rfl (by rw [w64 (by omega)]; omega : IntKind.wrap .i64 (((2 * i + 1 : Nat) : Int) + 1) = ((2 * i + 2 : Nat) : Int))) ?_
          refine s_val rfl (v_assign rfl) ?_
          refine x_nil ?_
          refine n_then ?_
          refine x_seq ?_
          refine x_region ?_
          refine s_val rfl (v_move rfl) ?_
          refine s_val rfl (v_move rfl) ?_
          refine s_val rfl (v_lss rfl rfl) ?_
          refine s_val rfl (v_move rfl) ?_
          refine s_and rfl rfl rfl ?_ ?_
          · intro g6_4
            refine s_val rfl (v_move rfl) ?_
            refine s_yes rfl rfl ?_
            refine s_val rfl (v_move rfl) ?_
            refine s_yes rfl rfl ?_
            refine s_val rfl (v_move rfl) ?_
            refine s_yes rfl rfl ?_
            refine s_do rfl (d_invoke1 rfl ((fun w => m_less w _)) Try.call242 rfl (rowLess_spec W0 _ b l tl (2 * i + 2) (2 * i + 1) (by omega) (by omega))) ?_
            rintro _ B_ ⟨rfl, hB_⟩
            obtain rfl := hB_.symm
            refine s_val rfl (v_pick_t rfl rfl) ?_
            refine x_nil ?_
            refine n_then ?_
            refine x_if rfl ?_ ?_
            · intro c6
              refine x_region ?_
              refine s_val rfl (v_move rfl) ?_
              refine s_val rfl (v_assign rfl) ?_
              refine x_nil ?_
              refine n_then ?_
              refine mid_intro (2 * i + 2) ?_ ?_ ?_
              · refine ⟨by omega, by omega, by omega, fun c hc h0 h1 => ?_⟩
                have : c = 2 * i + 1 ∨ c = 2 * i + 2 := by omega
                rcases this with rfl | rfl <;> omega
              · repeat (first | exact sub_nil | refine sub_cons rfl ?_)
              · exact inferInstance
            · intro c6
              refine x_skip ?_
              refine n_then ?_
              refine mid_intro (2 * i + 1) ?_ ?_ ?_
              · refine ⟨by omega, by omega, by omega, fun c hc h0 h1 => ?_⟩
                have : c = 2 * i + 1 ∨ c = 2 * i + 2 := by omega
                rcases this with rfl | rfl <;> omega
              · repeat (first | exact sub_nil | refine sub_cons rfl ?_)
              · exact inferInstance
          · intro g6_4
            refine s_no rfl rfl rfl rfl ?_
            refine s_no rfl rfl rfl rfl ?_
            refine s_no rfl rfl rfl rfl ?_
            refine s_val rfl (v_pick_f rfl rfl) ?_
            refine x_nil ?_
            refine n_then ?_
            refine x_iff rfl ?_
            refine x_skip ?_
            refine n_then ?_
            refine mid_intro (2 * i + 1) ?_ ?_ ?_
            · refine ⟨by omega, by omega, by omega, fun c hc h0 h1 => ?_⟩
              have : c = 2 * i + 1 ∨ c = 2 * i + 2 := by omega
              rcases this with rfl | rfl <;> omega
            · repeat (first | exact sub_nil | refine sub_cons rfl ?_)
            · exact inferInstance
        · intro j ⟨hj, hj0, hjn, hmin⟩
          refine x_seq ?_
          refine x_seq ?_
          refine x_region ?_
          refine s_val rfl (v_move rfl) ?_
          refine s_val rfl (v_move rfl) ?_
          refine s_val rfl (v_move rfl) ?_
          refine s_do rfl (d_invoke1 rfl ((fun w => m_less w _)) Try.call242 rfl (rowLess_spec W0 _ b l tl j i (by omega) (by omega))) ?_
          rintro _ B_ ⟨rfl, hB_⟩
          obtain rfl := hB_.symm
          refine s_val rfl (v_not rfl) ?_
          refine x_nil ?_
          refine n_then ?_
          refine x_if rfl ?_ ?_
          · intro c8
            refine x_exit ?_
            refine e_then ?_
            refine e_block_ne rfl ?_
            refine e_then ?_
            refine e_block ?_
            refine n_then ?_
            refine x_seq ?_
            refine x_region ?_
            refine s_val rfl (v_move rfl) ?_
            refine s_val rfl (v_move rfl) ?_
            refine s_val rfl (v_gtr rfl rfl) ?_
            refine s_val rfl (v_assign rfl) ?_
            refine x_nil ?_
            refine n_then ?_
            refine x_ret ?_
            refine x_done (.inl rfl) (.cons (r_tmp rfl) .nil) ?_
            refine ⟨_, ⟨l, decide (i0 < i), by simp [pack], rfl, down_done hp hi0 hl ht he hg ?_⟩, inferInstance⟩
            first | (intro c hc h0 h1; exfalso; omega) | (intro c hc h0 h1; have := hmin c hc h0 h1; simp at c8; omega)
          · intro c8
            replace c8 : us l j < us l i := by simpa using c8
            refine x_skip ?_
            refine n_then ?_
            refine x_seq ?_
            refine x_region ?_
            refine s_val rfl (v_move rfl) ?_
            refine s_val rfl (v_move rfl) ?_
            refine s_val rfl (v_move rfl) ?_
            refine s_do rfl (d_invoke1 rfl ((fun w => m_swap w _)) Try.call245 rfl (rowSwap_spec W0 _ b l tl i j (by omega) (by omega))) ?_
            rintro _ B_ ⟨rfl, hB_⟩
            obtain rfl := hB_.symm
            refine x_nil ?_
            refine n_then ?_
            refine x_region ?_
            refine s_val rfl (v_move rfl) ?_
            refine s_val rfl (v_assign rfl) ?_
            refine x_nil ?_
            refine n_block ?_
            refine n_then ?_
            refine inv_intro (swapL l i j, j) ?_ ?_ ?_ ?_
            · have hs := hole_swap hl (by omega) hjn hj hj0 c8 hmin
              exact ⟨(swapL_perm (by omega) (by omega)).trans hp, by show i0 ≤ j; omega, hs.1, getD_swap_ge (by omega) hjn (by omega) ht, by show j = i0 → _; omega, fun _ => hs.2, by show j ≤ n; omega⟩
            · show n - j < n - i; omega
            · repeat (first | exact sub_nil | refine sub_cons rfl ?_)
            · exact inferInstance
end Go.Proofs.Ytechkfopkpkigaa
