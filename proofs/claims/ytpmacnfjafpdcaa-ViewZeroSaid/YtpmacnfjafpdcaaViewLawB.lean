/-
  Layer 16 (view): the walk of ViewOwn.
-/
import Derived.Test.YtpmacnfjafpdcaaViewLaw
namespace Go.Proofs.Ytpmacnfjafpdcaa
open Go.RowKit
set_option linter.unusedSimpArgs false
set_option linter.unusedVariables false
set_option maxRecDepth 20000

def lawOwn (len : Nat) (pg : List Pl) (at_ : Nat) : Nat → Bool
  | 0 => decide (at_ ≤ 512)
  | i + 1 => lawOwn len pg at_ i && ownB len pg (at_ + i) 1
theorem lawOwn_iff (len : Nat) (pg : List Pl) (at_ : Nat) : ∀ i, lawOwn len pg at_ i = true ↔ at_ ≤ 512 ∧ ∀ j, j < i → ownB len pg (at_ + j) 1 = true
  | 0 => by simp [lawOwn]
  | i + 1 => by
    rw [lawOwn, Bool.and_eq_true, lawOwn_iff len pg at_ i]
    constructor
    · rintro ⟨⟨h1, h2⟩, h3⟩
      refine ⟨h1, fun j hj => ?_⟩
      rcases Nat.lt_or_ge j i with q | q
      · exact h2 j q
      · rw [show j = i by omega]; exact h3
    · rintro ⟨h1, h2⟩
      exact ⟨⟨h1, fun j hj => h2 j (by omega)⟩, h2 i (by omega)⟩
theorem lawOwn_eq (len : Nat) (pg : List Pl) (at_ m : Nat) : ownB len pg at_ m = lawOwn len pg at_ m := by
  rw [Bool.eq_iff_iff, ownB_nat, lawOwn_iff]
  have key : ∀ j, ownB len pg (at_ + j) 1 = true ↔ at_ + j + 1 ≤ 512 ∧ frmB len pg (pgI (at_ + j)) = true := fun j => by
    rw [show (1 : Int) = ((1 : Nat) : Int) from rfl, ownB_nat]
    constructor
    · rintro ⟨h1, h2⟩; exact ⟨h1, h2 0 (by omega)⟩
    · rintro ⟨h1, h2⟩; exact ⟨h1, fun i hi => by rw [show i = 0 by omega]; exact h2⟩
  constructor
  · rintro ⟨h1, h2⟩
    exact ⟨by omega, fun j hj => (key j).2 ⟨by omega, h2 j hj⟩⟩
  · rintro ⟨h1, h2⟩
    refine ⟨?_, fun j hj => ((key j).1 (h2 j hj)).2⟩
    rcases Nat.eq_zero_or_pos m with q | q
    · omega
    · have := ((key (m - 1)).1 (h2 (m - 1) (by omega))).1; omega
theorem own_neg {len : Nat} {pg : List Pl} {a : Nat} : ownB len pg a (-1) = false := by rw [← Bool.not_eq_true, ownB_iff]; omega
theorem own_512 {len : Nat} {pg : List Pl} : ownB len pg 512 1 = false := by rw [← Bool.not_eq_true, ownB_iff]; omega
theorem own_0 {len : Nat} {pg : List Pl} : ownB len pg 512 0 = true := by
  rw [show (0 : Int) = ((0 : Nat) : Int) from rfl, ownB_nat]; exact ⟨by decide, fun i hi => by omega⟩

theorem ViewOwn_walk (W0 : World) (n : Nat) (hn : n < 256) (a a' : Option Addr) (c c' : Nat) (pages : List Int) (pls : List Pl) (h1 : SlB W0 a 1 inI pages) (h2 : SlB W0 a' 2 plV pls) (hl1 : pages.length < 9223372036854775808) (hl2 : pls.length < 9223372036854775808) (pa k : Nat) (hpa : pa < 4294967296) (hk : k < 256) :
    Spec Try.prog W0 9 [.int .u8 n, .slice a pages.length c, .slice a' pls.length c', .int .u32 pa, .int .u8 k] [] (fun v B => v = .bool true ∧ B = []) := by
  refine spec_body Try.func9 Try.ntmps9 rfl rfl ?_
  refine x_seq ?_
  refine x_region ?_
  refine s_val rfl (v_assign rfl) ?_
  refine x_nil ?_
  refine n_then ?_
  refine x_seq ?_
  refine x_region ?_
  refine s_val rfl (v_move rfl) ?_
  refine s_val rfl (v_move rfl) ?_
  refine s_val rfl (v_move rfl) ?_
  refine s_do rfl (d_call Try.call32 rfl (made16_spec W0 _ n hn _ _ _ _ pages pls (sla_base h1) (sla_base h2) hl1 hl2)) ?_
  rintro _ B_ ⟨pv, ps, pm, qv, qs, qm, rfl, hB_⟩
  obtain rfl := hB_.symm
  rw [mdH]
  have hP := pgK_ok pages pls (mdN pages pls)
  generalize pgK pages pls (mdN pages pls) = pg at hP
  generalize List.replicate (1 + n % 32) zeros = fr
  obtain ⟨at_, hat⟩ : ∃ x, pa % 1000 = x := ⟨_, rfl⟩
  obtain ⟨m, hm⟩ : ∃ x, k % 100 = x := ⟨_, rfl⟩
  refine s_val rfl (v_move rfl) ?_
  refine s_val rfl (v_extract rfl rfl) ?_
  refine s_val rfl (v_extract rfl rfl) ?_
  refine s_val rfl (v_assign rfl) ?_
  refine s_val rfl (v_assign rfl) ?_
  refine x_nil ?_
  refine n_then ?_
  refine x_seq ?_
  refine x_seq ?_
  refine x_region ?_
  refine s_val rfl (v_move rfl) ?_
  refine s_val rfl (v_eql_ptr_nil Try.underlying58 rfl rfl) ?_
  refine x_nil ?_
  refine n_then ?_
  refine x_if rfl ?_ ?_
  · intro c2
    cases c2
  · intro c2
    refine x_skip ?_
    refine n_then ?_
    refine x_seq ?_
    refine x_region ?_
    refine s_val rfl (v_move rfl) ?_
    refine s_val rfl (v_rem rfl rfl (by decide) ((tmodN pa 1000).trans (congrArg Int.ofNat hat))) ?_
    refine s_val rfl (v_assign rfl) ?_
    refine x_nil ?_
    refine n_then ?_
    refine x_seq ?_
    refine x_region ?_
    refine s_val rfl (v_move rfl) ?_
    refine s_val rfl (v_rem rfl rfl (by decide) ((tmodN k 100).trans (congrArg Int.ofNat hm))) ?_
    refine s_val rfl (v_conv Try.underlying5 Try.underlying3 rfl (w64 (by simp only [Int.ofNat_eq_natCast]; omega))) ?_
    refine s_val rfl (v_assign rfl) ?_
    refine x_nil ?_
    refine n_then ?_
    refine x_seq ?_
    refine x_region ?_
    refine s_val rfl (v_move rfl) ?_
    refine s_val rfl (v_leq rfl rfl) ?_
    refine s_val rfl (v_assign rfl) ?_
    refine x_nil ?_
    refine n_then ?_
    refine x_seq ?_
    refine x_seq ?_
    simp only [Int.ofNat_eq_natCast]
    refine x_region ?_
    refine s_val rfl (v_assign rfl) ?_
    refine x_nil ?_
    refine n_then ?_
    refine x_block ?_
    refine x_loop (fun i : Nat => i ≤ m) (fun i => [(11, .pointer (some ⟨pv, 0, none⟩)), (13, .int .u32 at_), (14, .int .i64 m), (15, .bool (lawOwn fr.length pg at_ i)), (16, .int .i64 i)]) (fun i => pt pv (viO ps pm 0) :: stoH ps fr :: pt pm (gmO pg) :: []) (fun i => m - i) 0 ?_ ?_ ?_ ?_
    · exact Nat.zero_le _
    · have e0 : Value.bool (decide ((at_ : Int) ≤ 512)) = .bool (lawOwn fr.length pg at_ 0) := by simp [lawOwn]; omega
      repeat (first | exact sub_nil | refine sub_cons rfl ?_ | refine sub_cons (congrArg some e0) ?_)
    · exact inferInstance
    · intro i hi
      refine x_seq ?_
      refine x_seq ?_
      refine x_region ?_
      refine s_val rfl (v_move rfl) ?_
      refine s_val rfl (v_move rfl) ?_
      refine s_val rfl (v_lss rfl rfl) ?_
      refine x_nil ?_
      refine n_then ?_
      refine x_if rfl ?_ ?_
      · intro c8
        refine x_skip ?_
        refine n_then ?_
        refine x_seq ?_
        refine x_block ?_
        refine x_region ?_
        refine s_val rfl (v_move rfl) ?_
        refine s_val rfl (v_move rfl) ?_
        refine s_and rfl rfl rfl ?_ ?_
        · intro g10_2
          have hs : lawOwn fr.length pg at_ (i + 1) = ownB fr.length pg (at_ + i) 1 := by rw [lawOwn, g10_2, Bool.true_and]
          refine s_val rfl (v_move rfl) ?_
          refine s_yes rfl rfl ?_
          refine s_val rfl (v_move rfl) ?_
          refine s_yes rfl rfl ?_
          refine s_val rfl (v_move rfl) ?_
          refine s_yes rfl rfl ?_
          refine s_val rfl (v_conv Try.underlying3 Try.underlying24 rfl (w32u (by omega))) ?_
          refine s_yes rfl rfl ?_
          refine s_val rfl (v_add rfl rfl (by rw [w32u (by omega)]; omega : IntKind.wrap .u32 ((at_ : Int) + (i : Int)) = ((at_ + i : Nat) : Int))) ?_
          refine s_yes rfl rfl ?_
          refine s_do rfl (d_call3 Try.call33 rfl (viOwn_spec W0 _ pv ps pm 0 fr pg hP (at_ + i) (by omega) 1)) ?_
          rintro _ B_ ⟨rfl, hB_⟩
          obtain rfl := hB_.symm
          refine s_val rfl (v_pick_t rfl rfl) ?_
          refine s_val rfl (v_assign rfl) ?_
          refine x_nil ?_
          refine n_block ?_
          refine n_then ?_
          refine x_region ?_
          refine s_val rfl (v_move rfl) ?_
          refine s_val rfl (v_add rfl rfl (by first | exact w64 (by omega) | rfl)) ?_
          refine s_val rfl (v_assign rfl) ?_
          refine x_nil ?_
          refine n_then ?_
          refine inv_intro (i + 1) ?_ ?_ ?_ ?_
          · omega
          · omega
          · rw [hs]; repeat (first | exact sub_nil | refine sub_cons rfl ?_)
          · exact inferInstance
        · intro g10_2
          have hs : lawOwn fr.length pg at_ (i + 1) = false := by rw [lawOwn, show lawOwn fr.length pg at_ i = false by simpa using g10_2, Bool.false_and]
          refine s_no rfl rfl rfl rfl ?_
          refine s_no rfl rfl rfl rfl ?_
          refine s_no rfl rfl rfl rfl ?_
          refine s_no rfl rfl rfl rfl ?_
          refine s_no rfl rfl rfl rfl ?_
          refine s_val rfl (v_pick_f rfl rfl) ?_
          refine s_val rfl (v_assign rfl) ?_
          refine x_nil ?_
          refine n_block ?_
          refine n_then ?_
          refine x_region ?_
          refine s_val rfl (v_move rfl) ?_
          refine s_val rfl (v_add rfl rfl (by first | exact w64 (by omega) | rfl)) ?_
          refine s_val rfl (v_assign rfl) ?_
          refine x_nil ?_
          refine n_then ?_
          refine inv_intro (i + 1) ?_ ?_ ?_ ?_
          · omega
          · omega
          · rw [hs]; repeat (first | exact sub_nil | refine sub_cons rfl ?_)
          · exact inferInstance
      · intro c8
        refine x_exit ?_
        refine e_then ?_
        refine e_then ?_
        refine e_block ?_
        refine n_then ?_
        refine x_seq ?_
        have e0 : i = m := by omega
        subst e0
        refine x_region ?_
        refine s_val rfl (v_move rfl) ?_
        refine s_val rfl (v_move rfl) ?_
        refine s_val rfl (v_move rfl) ?_
        refine s_do rfl (d_call3 Try.call33 rfl (viOwn_spec W0 _ pv ps pm 0 fr pg hP at_ (by omega) i)) ?_
        rintro _ B_ ⟨rfl, hB_⟩
        obtain rfl := hB_.symm
        refine s_val rfl (v_move rfl) ?_
        refine s_val rfl (v_eql_bool Try.underlying4 rfl rfl) ?_
        refine s_val rfl (v_move rfl) ?_
        refine s_and rfl rfl rfl ?_ ?_
        · intro g11_7
          refine s_val rfl (v_move rfl) ?_
          refine s_yes rfl rfl ?_
          refine s_val rfl (v_move rfl) ?_
          refine s_yes rfl rfl ?_
          refine s_do rfl (d_call3 Try.call33 rfl (viOwn_spec W0 _ pv ps pm 0 fr pg hP at_ (by omega) (-1))) ?_
          rintro _ B_ ⟨rfl, hB_⟩
          obtain rfl := hB_.symm
          refine s_yes rfl rfl ?_
          refine s_val rfl (v_not rfl) ?_
          refine s_val rfl (v_pick_t rfl rfl) ?_
          refine s_val rfl (v_move rfl) ?_
          refine s_and rfl rfl rfl ?_ ?_
          · intro g11_13
            refine s_val rfl (v_move rfl) ?_
            refine s_yes rfl rfl ?_
            refine s_do rfl (d_call3 Try.call33 rfl (viOwn_spec W0 _ pv ps pm 0 fr pg hP 512 (by omega) 1)) ?_
            rintro _ B_ ⟨rfl, hB_⟩
            obtain rfl := hB_.symm
            refine s_yes rfl rfl ?_
            refine s_val rfl (v_not rfl) ?_
            refine s_val rfl (v_pick_t rfl rfl) ?_
            refine s_val rfl (v_move rfl) ?_
            refine s_and rfl rfl rfl ?_ ?_
            · intro g11_18
              refine s_val rfl (v_move rfl) ?_
              refine s_yes rfl rfl ?_
              refine s_do rfl (d_call3 Try.call33 rfl (viOwn_spec W0 _ pv ps pm 0 fr pg hP 512 (by omega) 0)) ?_
              rintro _ B_ ⟨rfl, hB_⟩
              obtain rfl := hB_.symm
              refine s_val rfl (v_pick_t rfl rfl) ?_
              refine s_val rfl (v_move rfl) ?_
              refine s_and rfl rfl rfl ?_ ?_
              · intro g11_22
                refine s_do rfl (d_call Try.call34 rfl (awake16_spec W0 _)) ?_
                rintro _ B_ ⟨rfl, hB_⟩
                obtain rfl := hB_.symm
                refine s_val rfl (v_pick_t rfl rfl) ?_
                refine s_val rfl (v_assign rfl) ?_
                refine x_nil ?_
                refine n_then ?_
                refine x_ret ?_
                refine x_done (.inl rfl) (.cons (r_tmp rfl) .nil) ?_
                exact ⟨_, ⟨rfl, rfl⟩, inferInstance⟩
              · intro g11_22
                exact absurd own_0 g11_22
            · intro g11_18
              exact absurd (by rw [own_512]; decide) g11_18
          · intro g11_13
            exact absurd (by rw [own_neg]; decide) g11_13
        · intro g11_7
          exact absurd (lawOwn_eq _ _ _ _) g11_7
end Go.Proofs.Ytpmacnfjafpdcaa
