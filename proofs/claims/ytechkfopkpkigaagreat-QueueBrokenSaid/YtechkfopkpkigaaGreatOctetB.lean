/-
  Layer 2 (octet) and its reference: a number put among bytes.
-/
import Derived.Test.YtechkfopkpkigaaGreatOctet
namespace Go.Proofs.YtechkfopkpkigaaGreat
open Go.RowKit
set_option linter.unusedSimpArgs false
set_option linter.unusedVariables false
set_option maxRecDepth 20000

theorem maxLen_lt {c : Nat} (h : c ≤ maxLen) : c < 9223372036854775808 := by simp only [maxLen] at h; omega
theorem put_cells {l : List Nat} {sp : List Value} {i k w : Nat} (h : i + k ≤ l.length) : setR (byV l ++ sp) i (byV (leB k w)) = byV (putB l i k w) ++ sp := by
  rw [setR_front _ _ _ _ (by rw [byV_len, byV_len, leB_len]; exact h), setR_byV h]
def putV (a : Option Addr) (n c : Nat) : Value := .tuple #[.slice a n c, .int .i64 0]
def putNo : Value := .tuple #[.slice none 0 0, .int .i64 1]
theorem octPut_ok (W0 : World) (R : List HP) (g off c : Nat) (l : List Nat) (i k w : Nat) (hw : w < 4294967296) (hc : Cells (OwnP W0 R) g off (byV l)) (hi : inB l.length i k = true) (hn : l.length ≤ 1000000) :
    Spec Tryz.prog W0 195 [.slice (some ⟨g, off, none⟩) l.length c, .int .i64 i, .int .i64 k, .int .u32 w] R (fun v B => ∃ a' c', v = putV a' l.length c' ∧ B = osl 5 1 (.slice a' l.length c') (byV (putB l i k w)) :: R) := by
  have hb := inB_iff.1 hi
  refine spec_body Tryz.func195 Tryz.ntmps195 rfl rfl ?_
  refine x_seq ?_
  refine x_region ?_
  refine s_val rfl (v_assign rfl) ?_
  refine s_val rfl (v_assign rfl) ?_
  refine x_nil ?_
  refine n_then ?_
  refine x_seq ?_
  refine x_region ?_
  refine s_val rfl (v_move rfl) ?_
  refine s_do rfl (d_call Tryz.call236 rfl (clone_spec W0 _ g off c l hc hn)) ?_
  rintro _ B_ ⟨a', c', rfl, hB_⟩
  obtain rfl := hB_.symm
  refine s_val rfl (v_assign rfl) ?_
  refine x_nil ?_
  refine n_then ?_
  refine x_seq ?_
  refine run_osl (fun h _ => by have := (Value.slice.inj h).2.1; omega) fun g' n' cap sp h1 h2 h3 h4 h5 => ?_
  cases h1
  have hwv : winV g' 0 l.length i k = .tuple #[.slice (some ⟨g', i, none⟩) k k, .bool true] := by simp [winV, hi]
  refine x_region ?_
  refine s_val rfl (v_move rfl) ?_
  refine s_val rfl (v_move rfl) ?_
  refine s_val rfl (v_move rfl) ?_
  refine s_do rfl (d_call Tryz.call232 rfl (window_spec W0 _ g' 0 l.length c' i k h2 (maxLen_lt h3))) ?_
  rintro _ B_ ⟨rfl, hB_⟩
  obtain rfl := hB_.symm
  rw [hwv]
  refine s_val rfl (v_move rfl) ?_
  refine s_val rfl (v_extract rfl rfl) ?_
  refine s_val rfl (v_extract rfl rfl) ?_
  refine s_val rfl (v_assign rfl) ?_
  refine s_val rfl (v_assign rfl) ?_
  refine x_nil ?_
  refine n_then ?_
  refine x_seq ?_
  refine x_seq ?_
  refine x_region ?_
  refine s_val rfl (v_move rfl) ?_
  refine s_val rfl (v_not rfl) ?_
  refine x_nil ?_
  refine n_then ?_
  refine x_if rfl ?_ ?_
  · intro c3
    exact absurd c3 (by simp)
  · intro c3
    refine x_skip ?_
    refine n_then ?_
    refine x_seq ?_
    refine x_region ?_
    refine s_val rfl (v_move rfl) ?_
    refine s_val rfl (v_move rfl) ?_
    refine s_do rfl (d_call1 Tryz.call225 rfl (spread_spec W0 _ g' i k k 5 (byV l ++ sp) w hw (by omega) (by rw [List.length_append, byV_len]; omega))) ?_
    rintro _ B_ ⟨rfl, hB_⟩
    obtain rfl := hB_.symm
    rw [put_cells (by omega)]
    refine x_nil ?_
    refine n_then ?_
    refine x_seq ?_
    refine x_region ?_
    refine s_val rfl (v_move rfl) ?_
    refine s_val rfl (v_assign rfl) ?_
    refine s_val rfl (v_assign rfl) ?_
    refine x_nil ?_
    refine n_then ?_
    refine x_ret ?_
    refine x_done (.inl rfl) (.cons (r_tmp rfl) (.cons (r_tmp rfl) .nil)) ?_
    exact ⟨_, ⟨_, c', rfl, rfl⟩, ent_osl h2 h3 (by rw [byV_len, putB_len (by omega), Nat.mul_one]) (by rw [← h5, List.length_append, List.length_append, byV_len, byV_len, putB_len (by omega)])⟩
theorem octPut_no (W0 : World) (R : List HP) (g off c : Nat) (l : List Nat) (at_ k : Int) (w : Nat) (hc : Cells (OwnP W0 R) g off (byV l)) (hi : inB l.length at_ k = false) (hn : l.length ≤ 1000000) :
    Spec Tryz.prog W0 195 [.slice (some ⟨g, off, none⟩) l.length c, .int .i64 at_, .int .i64 k, .int .u32 w] R (fun v B => v = putNo ∧ B = R) := by
  refine spec_body Tryz.func195 Tryz.ntmps195 rfl rfl ?_
  refine x_seq ?_
  refine x_region ?_
  refine s_val rfl (v_assign rfl) ?_
  refine s_val rfl (v_assign rfl) ?_
  refine x_nil ?_
  refine n_then ?_
  refine x_seq ?_
  refine x_region ?_
  refine s_val rfl (v_move rfl) ?_
  refine s_do rfl (d_call Tryz.call236 rfl (clone_spec W0 _ g off c l hc hn)) ?_
  rintro _ B_ ⟨a', c', rfl, hB_⟩
  obtain rfl := hB_.symm
  refine s_val rfl (v_assign rfl) ?_
  refine x_nil ?_
  refine n_then ?_
  refine x_seq ?_
  obtain ⟨R', hR'⟩ : ∃ R', R' = osl 5 1 (.slice a' l.length c') (byV l) :: R := ⟨_, rfl⟩
  refine x_region ?_
  refine s_val rfl (v_move rfl) ?_
  refine s_val rfl (v_move rfl) ?_
  refine s_val rfl (v_move rfl) ?_
  refine s_do rfl (d_call Tryz.call232 rfl (windowN_spec W0 _ a' l.length c' at_ k hi (by omega))) ?_
  rintro _ B_ ⟨rfl, hB_⟩
  obtain rfl := hB_.symm
  refine s_val rfl (v_move rfl) ?_
  refine s_val rfl (v_extract rfl rfl) ?_
  refine s_val rfl (v_extract rfl rfl) ?_
  refine s_val rfl (v_assign rfl) ?_
  refine s_val rfl (v_assign rfl) ?_
  refine x_nil ?_
  refine n_then ?_
  refine x_seq ?_
  refine x_seq ?_
  refine x_region ?_
  refine s_val rfl (v_move rfl) ?_
  refine s_val rfl (v_not rfl) ?_
  refine x_nil ?_
  refine n_then ?_
  refine x_if rfl ?_ ?_
  · intro c3
    refine x_seq ?_
    refine x_region ?_
    refine s_val rfl (v_assign rfl) ?_
    refine s_val rfl (v_assign rfl) ?_
    refine x_nil ?_
    refine n_then ?_
    refine x_ret ?_
    refine r_then ?_
    refine x_done (.inl rfl) (.cons (r_tmp rfl) (.cons (r_tmp rfl) .nil)) ?_
    exact ⟨_, ⟨rfl, rfl⟩, inferInstance⟩
  · intro c3
    exact absurd c3 (by simp)

theorem refPut_ok (W0 : World) (R : List HP) (g off c : Nat) (l : List Nat) (i0 k w : Nat) (hw : w < 4294967296) (hc : Cells (OwnP W0 R) g off (byV l)) (hi : inB l.length i0 k = true) (hn : l.length ≤ 1000000) :
    Spec Tryz.prog W0 203 [.slice (some ⟨g, off, none⟩) l.length c, .int .i64 i0, .int .i64 k, .int .u32 w] R (fun v B => ∃ a' c', v = putV a' l.length c' ∧ B = osl 5 1 (.slice a' l.length c') (byV (putB l i0 k w)) :: R) := by
  have hb := inB_iff.1 hi
  refine spec_body Tryz.func203 Tryz.ntmps203 rfl rfl ?_
  refine x_seq ?_
  refine x_region ?_
  refine s_val rfl (v_assign rfl) ?_
  refine s_val rfl (v_assign rfl) ?_
  refine x_nil ?_
  refine n_then ?_
  refine x_seq ?_
  refine x_seq ?_
  refine x_region ?_
  refine s_val rfl (v_move rfl) ?_
  refine s_val rfl (v_move rfl) ?_
  refine s_val rfl (v_move rfl) ?_
  refine s_do rfl (d_call Tryz.call198 rfl (refIn_spec W0 _ _ l.length c i0 k (by omega))) ?_
  rintro _ B_ ⟨rfl, hB_⟩
  obtain rfl := hB_.symm
  refine s_val rfl (v_not rfl) ?_
  refine x_nil ?_
  refine n_then ?_
  refine x_if rfl ?_ ?_
  · intro c1
    exact absurd c1 (by simp [hi])
  · intro c1
    refine x_skip ?_
    refine n_then ?_
    refine x_seq ?_
    refine x_region ?_
    refine s_do rfl (d_slice0 Tryz.underlying76 Tryz.sizeOf5 rfl) ?_
    rintro _ _ ⟨b1, rfl, rfl⟩
    refine s_val rfl (v_move rfl) ?_
    refine s_do rfl (d_append (sz := 1) (by_ := 1) (info := Tryz.t5) Tryz.underlying76 (by kernel_rfl) rfl rfl rfl rfl (by decide) rfl rfl hc.weak ((byV_len l).trans (Nat.mul_one _).symm) (byV_one l) (by simp only [maxLen]; omega) (by omega)) ?_
    rintro _ B_ ⟨a', c', rfl, hB_⟩
    obtain rfl := hB_.symm
    simp only [Nat.zero_add, List.nil_append]
    refine s_val rfl (v_assign rfl) ?_
    refine x_nil ?_
    refine n_then ?_
    refine x_seq ?_
    refine x_seq ?_
    refine run_osl (fun h _ => by have := (Value.slice.inj h).2.1; omega) fun g' n' cap sp h1 h2 h3 h4 h5 => ?_
    cases h1
    refine x_region ?_
    refine s_val rfl (v_assign rfl) ?_
    refine x_nil ?_
    refine n_then ?_
    refine x_block ?_
    refine x_loop (fun i : Nat => i ≤ k) (fun i => [(1, .int .i64 i0), (2, .int .i64 k), (3, .int .u32 w), (10, .slice (some ⟨g', 0, none⟩) l.length c'), (11, .int .i64 i)]) (fun i => pt g' (cob (setR (byV l ++ sp) i0 (byV (leB i w))) 5) :: R) (fun i => k - i) 0 ?_ ?_ ?_ ?_
    · exact Nat.zero_le _
    · repeat (first | exact sub_nil | refine sub_cons rfl ?_)
    · rw [show setR (byV l ++ sp) i0 (byV (leB 0 w)) = byV l ++ sp from rfl]; exact inferInstance
    · intro i hik
      refine x_seq ?_
      refine x_seq ?_
      refine x_region ?_
      refine s_val rfl (v_move rfl) ?_
      refine s_val rfl (v_move rfl) ?_
      refine s_val rfl (v_lss rfl rfl) ?_
      refine x_nil ?_
      refine n_then ?_
      refine x_if rfl ?_ ?_
      · intro c5
        refine x_skip ?_
        refine n_then ?_
        refine x_seq ?_
        refine x_block ?_
        refine x_region ?_
        refine s_val rfl (v_move rfl) ?_
        refine s_val rfl (v_move rfl) ?_
        refine s_val rfl (v_move rfl) ?_
        refine s_val rfl (v_add rfl rfl (by rw [w64 (by omega)]; omega : IntKind.wrap .i64 ((i0 : Int) + (i : Int)) = ((i0 + i : Nat) : Int))) ?_
        refine s_val rfl (v_move rfl) ?_
        refine s_val rfl (v_move rfl) ?_
        refine s_val rfl (v_mul rfl rfl (by rw [w64 (by omega)]; omega : IntKind.wrap .i64 (8 * (i : Int)) = ((8 * i : Nat) : Int))) ?_
        refine s_val rfl (v_shr rfl rfl (by omega) rfl) ?_
        refine s_val rfl (v_conv Tryz.underlying53 Tryz.underlying5 rfl (byte_of (by omega))) ?_
        refine s_val rfl (v_idx Tryz.underlying76 Tryz.sizeOf5 rfl rfl rfl (by omega) (by first | exact Nat.zero_add _ | rfl)) ?_
        refine s_do0 (d_store Tryz.sizeOf5 rfl rfl rfl (by rw [setR_length, List.length_append, byV_len]; omega) (by rw [leB_succ, byV_append, show byV [w / 256 ^ i % 256] = [bV (w / 256 ^ i % 256)] from rfl, setR_snoc, byV_len, leB_len, Nat.mul_one]; rfl : (setR (byV l ++ sp) i0 (byV (leB i w))).set ((i0 + i) * 1) _ = setR (byV l ++ sp) i0 (byV (leB (i + 1) w)))) ?_
        rintro _ _ rfl
        refine x_nil ?_
        refine n_block ?_
        refine n_then ?_
        refine x_region ?_
        refine s_val rfl (v_move rfl) ?_
        refine s_val rfl (v_add rfl rfl (by first | exact w64 (by omega) | rfl)) ?_
        refine s_val rfl (v_assign rfl) ?_
        refine x_nil ?_
        refine n_then ?_
        refine inv_intro (i + 1) ?_ ?_ ?_ ?_
        · omega
        · omega
        · repeat (first | exact sub_nil | refine sub_cons rfl ?_)
        · exact inferInstance
      · intro c5
        refine x_exit ?_
        refine e_then ?_
        refine e_then ?_
        refine e_block ?_
        refine n_then ?_
        refine x_seq ?_
        refine x_region ?_
        refine s_val rfl (v_move rfl) ?_
        refine s_val rfl (v_assign rfl) ?_
        refine s_val rfl (v_assign rfl) ?_
        refine x_nil ?_
        refine n_then ?_
        refine x_ret ?_
        refine x_done (.inl rfl) (.cons (r_tmp rfl) (.cons (r_tmp rfl) .nil)) ?_
        have : i = k := by omega
        subst this
        rw [put_cells (by omega)]
        exact ⟨_, ⟨_, c', rfl, rfl⟩, ent_osl h2 h3 (by rw [byV_len, putB_len (by omega), Nat.mul_one]) (by rw [← h5, List.length_append, List.length_append, byV_len, byV_len, putB_len (by omega)])⟩
theorem refPut_no (W0 : World) (R : List HP) (a : Option Addr) (n c : Nat) (at_ k : Int) (w : Nat) (hi : inB n at_ k = false) (hn : n ≤ 1000000) :
    Spec Tryz.prog W0 203 [.slice a n c, .int .i64 at_, .int .i64 k, .int .u32 w] R (fun v B => v = putNo ∧ B = R) := by
  refine spec_body Tryz.func203 Tryz.ntmps203 rfl rfl ?_
  refine x_seq ?_
  refine x_region ?_
  refine s_val rfl (v_assign rfl) ?_
  refine s_val rfl (v_assign rfl) ?_
  refine x_nil ?_
  refine n_then ?_
  refine x_seq ?_
  refine x_seq ?_
  refine x_region ?_
  refine s_val rfl (v_move rfl) ?_
  refine s_val rfl (v_move rfl) ?_
  refine s_val rfl (v_move rfl) ?_
  refine s_do rfl (d_call Tryz.call198 rfl (refIn_spec W0 _ _ n c at_ k (by omega))) ?_
  rintro _ B_ ⟨rfl, hB_⟩
  obtain rfl := hB_.symm
  refine s_val rfl (v_not rfl) ?_
  refine x_nil ?_
  refine n_then ?_
  refine x_if rfl ?_ ?_
  · intro c1
    refine x_seq ?_
    refine x_region ?_
    refine s_val rfl (v_assign rfl) ?_
    refine s_val rfl (v_assign rfl) ?_
    refine x_nil ?_
    refine n_then ?_
    refine x_ret ?_
    refine r_then ?_
    refine x_done (.inl rfl) (.cons (r_tmp rfl) (.cons (r_tmp rfl) .nil)) ?_
    exact ⟨_, ⟨rfl, rfl⟩, inferInstance⟩
  · intro c1
    exact absurd c1 (by simp [hi])
end Go.Proofs.YtechkfopkpkigaaGreat
