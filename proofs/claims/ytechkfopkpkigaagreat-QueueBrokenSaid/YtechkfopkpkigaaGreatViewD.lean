/-
  Layer 16 (view): own bytes.
-/
import Derived.Test.YtechkfopkpkigaaGreatViewC
import Derived.Test.YtechkfopkpkigaaGreatPieces
namespace Go.Proofs.YtechkfopkpkigaaGreat
open Go.RowKit
set_option linter.unusedSimpArgs false
set_option linter.unusedVariables false
set_option maxRecDepth 20000

def pgI (a : Nat) : Int := ((a / 64 : Nat) : Int)
def ownA (len : Nat) (pg : List Pl) (pa n : Nat) : Prop := ∀ i, i < n → frmB len pg (pgI (pa + i)) = true
instance {len : Nat} {pg : List Pl} {pa n : Nat} : Decidable (ownA len pg pa n) := by unfold ownA; exact Nat.decidableBallLT n _
/-- Are so many bytes own ones? -/
def ownB (len : Nat) (pg : List Pl) (pa : Nat) (n : Int) : Bool := decide (0 ≤ n ∧ pa ≤ 512 ∧ n ≤ 512 - (pa : Int)) && decide (ownA len pg pa n.toNat)
theorem ownB_iff {len : Nat} {pg : List Pl} {pa : Nat} {n : Int} : ownB len pg pa n = true ↔ (0 ≤ n ∧ pa ≤ 512 ∧ n ≤ 512 - (pa : Int)) ∧ ownA len pg pa n.toNat := by simp [ownB]
theorem ownB_nat {len : Nat} {pg : List Pl} {pa n : Nat} : ownB len pg pa n = true ↔ pa + n ≤ 512 ∧ ownA len pg pa n := by
  rw [ownB_iff]; simp only [Int.toNat_natCast]
  constructor
  · rintro ⟨h1, h2⟩; exact ⟨by omega, h2⟩
  · rintro ⟨h1, h2⟩; exact ⟨by omega, h2⟩
theorem pc_page {pa n at_ i : Nat} (h1 : at_ ≤ i) (h2 : i < at_ + pcN pa n at_) : (pa + i) / 64 = (pa + at_) / 64 := by unfold pcN at h2; omega
theorem pc_off {pa n at_ k : Nat} (h2 : k < pcN pa n at_) : (pa + (at_ + k)) / 64 = (pa + at_) / 64 ∧ (pa + (at_ + k)) % 64 = (pa + at_) % 64 + k := by unfold pcN at h2; omega

theorem viOwn_spec (W0 : World) (R : List HP) (pv ps pm d : Nat) (fr : List Frm) (pg : List Pl) (h : Pgs pg) (pa : Nat) (hpa : pa < 4294967296) (n : Int) :
    Spec Tryz.prog W0 123 [.pointer (some ⟨pv, 0, none⟩), .int .u32 pa, .int .i64 n] (pt pv (viO ps pm d) :: stoH ps fr :: pt pm (gmO pg) :: R)
      (fun v B => v = .bool (ownB fr.length pg pa n) ∧ B = pt pv (viO ps pm d) :: stoH ps fr :: pt pm (gmO pg) :: R) := by
  refine spec_body Tryz.func123 Tryz.ntmps123 rfl rfl ?_
  refine x_seq ?_
  refine x_region ?_
  refine s_do rfl (d_box rfl rfl) ?_
  rintro _ _ ⟨b1, rfl, rfl⟩
  refine s_do rfl (d_alloc Tryz.zeroValue4 rfl) ?_
  rintro _ _ ⟨b2, rfl, rfl⟩
  refine x_nil ?_
  refine n_then ?_
  refine x_seq ?_
  refine x_seq ?_
  refine x_region ?_
  refine s_val rfl (v_load Tryz.isAgg45 rfl (cell_own rfl)) ?_
  refine s_do rfl (d_call1 Tryz.call139 rfl (viNone_spec W0 _ pv ps pm d)) ?_
  rintro _ B_ ⟨rfl, hB_⟩
  obtain rfl := hB_.symm
  refine s_val rfl (v_move rfl) ?_
  refine s_or rfl rfl rfl ?_ ?_
  · intro g1_3
    exact absurd g1_3 (by decide)
  · intro g1_3
    refine s_val rfl (v_move rfl) ?_
    refine s_yes rfl rfl ?_
    refine s_val rfl (v_lss rfl rfl) ?_
    refine s_val rfl (v_pick_f rfl rfl) ?_
    refine s_val rfl (v_move rfl) ?_
    refine s_or rfl rfl rfl ?_ ?_
    · intro g1_7
      refine s_no rfl rfl rfl rfl ?_
      refine s_val rfl (v_pick_t rfl rfl) ?_
      refine s_val rfl (v_move rfl) ?_
      refine s_no rfl rfl rfl rfl ?_
      refine s_no rfl rfl rfl rfl ?_
      refine s_no rfl rfl rfl rfl ?_
      refine s_no rfl rfl rfl rfl ?_
      refine s_no rfl rfl rfl rfl ?_
      refine s_val rfl (v_pick_t rfl rfl) ?_
      refine x_nil ?_
      refine n_then ?_
      refine x_ift rfl ?_
      refine x_seq ?_
      refine x_region ?_
      refine s_do0 (d_store Tryz.sizeOf4 rfl rfl rfl (Nat.le_of_ble_eq_true rfl) SetL.eq) ?_
      rintro _ _ rfl
      refine x_nil ?_
      refine n_then ?_
      refine x_ret ?_
      refine r_then ?_
      refine x_done (.inl rfl) (.cons (r_cell Tryz.isAgg4 rfl (cell_own rfl)) .nil) ?_
      refine ⟨_, ⟨?_, rfl⟩, inferInstance⟩
      refine congrArg Value.bool (Eq.symm ?_)
      rw [← Bool.not_eq_true, ownB_iff]; omega
    · intro g1_7
      refine s_val rfl (v_move rfl) ?_
      refine s_yes rfl rfl ?_
      refine s_val rfl (v_gtr rfl rfl) ?_
      refine s_val rfl (v_pick_f rfl rfl) ?_
      refine s_val rfl (v_move rfl) ?_
      refine s_or rfl rfl rfl ?_ ?_
      · intro g1_11
        refine s_no rfl rfl rfl rfl ?_
        refine s_no rfl rfl rfl rfl ?_
        refine s_no rfl rfl rfl rfl ?_
        refine s_no rfl rfl rfl rfl ?_
        refine s_val rfl (v_pick_t rfl rfl) ?_
        refine x_nil ?_
        refine n_then ?_
        refine x_ift rfl ?_
        refine x_seq ?_
        refine x_region ?_
        refine s_do0 (d_store Tryz.sizeOf4 rfl rfl rfl (Nat.le_of_ble_eq_true rfl) SetL.eq) ?_
        rintro _ _ rfl
        refine x_nil ?_
        refine n_then ?_
        refine x_ret ?_
        refine r_then ?_
        refine x_done (.inl rfl) (.cons (r_cell Tryz.isAgg4 rfl (cell_own rfl)) .nil) ?_
        refine ⟨_, ⟨?_, rfl⟩, inferInstance⟩
        refine congrArg Value.bool (Eq.symm ?_)
        rw [← Bool.not_eq_true, ownB_iff]; omega
      · intro g1_11
        refine s_val rfl (v_move rfl) ?_
        refine s_yes rfl rfl ?_
        refine s_val rfl (v_move rfl) ?_
        refine s_yes rfl rfl ?_
        refine s_val rfl (v_conv Tryz.underlying53 Tryz.underlying3 rfl (by first | exact w64 (by omega) | rfl)) ?_
        refine s_yes rfl rfl ?_
        refine s_val rfl (v_sub rfl rfl (by first | exact w64 (by omega) | rfl)) ?_
        refine s_yes rfl rfl ?_
        refine s_val rfl (v_gtr rfl rfl) ?_
        refine s_val rfl (v_pick_f rfl rfl) ?_
        refine x_nil ?_
        refine n_then ?_
        refine x_if rfl ?_ ?_
        · intro c1
          refine x_seq ?_
          refine x_region ?_
          refine s_do0 (d_store Tryz.sizeOf4 rfl rfl rfl (Nat.le_of_ble_eq_true rfl) SetL.eq) ?_
          rintro _ _ rfl
          refine x_nil ?_
          refine n_then ?_
          refine x_ret ?_
          refine r_then ?_
          refine x_done (.inl rfl) (.cons (r_cell Tryz.isAgg4 rfl (cell_own rfl)) .nil) ?_
          refine ⟨_, ⟨?_, rfl⟩, inferInstance⟩
          refine congrArg Value.bool (Eq.symm ?_)
          rw [← Bool.not_eq_true, ownB_iff]; omega
        · intro c1
          refine x_skip ?_
          refine n_then ?_
          refine x_seq ?_
          refine x_seq ?_
          obtain ⟨k, rfl⟩ : ∃ k : Nat, n = (k : Int) := ⟨n.toNat, by omega⟩
          have hk : pa + k ≤ 512 := by omega
          refine x_region ?_
          refine s_val rfl (v_move rfl) ?_
          refine s_val rfl (v_conv Tryz.underlying53 Tryz.underlying3 rfl (by first | exact w64 (by omega) | rfl)) ?_
          refine s_val rfl (v_move rfl) ?_
          refine s_do rfl (d_call Tryz.call189 rfl (pieces_spec W0 _ pa k)) ?_
          rintro _ B_ ⟨bn, bp, rfl, hB_⟩
          obtain rfl := hB_.symm
          refine x_nil ?_
          refine n_then ?_
          refine x_block ?_
          refine x_rangeFunc (fun C => ownA fr.length pg pa k ∧ C = pt pv (viO ps pm d) :: pt b2 (cob [.bool false] 4) :: pt b1 (cob [.pointer (some ⟨pv, 0, none⟩)] 45) :: stoH ps fr :: pt pm (gmO pg) :: R) (fun C => ¬ ownA fr.length pg pa k ∧ C = pt pv (viO ps pm d) :: pt b2 (cob [.bool false] 4) :: pt b1 (cob [.pointer (some ⟨pv, 0, none⟩)] 45) :: stoH ps fr :: pt pm (gmO pg) :: R) rfl Tryz.call234 ?_ ?_ ?_
          · intro L D
            refine pieces_range pa k (fun _ => pt pv (viO ps pm d) :: pt b2 (cob [.bool false] 4) :: pt b1 (cob [.pointer (some ⟨pv, 0, none⟩)] 45) :: stoH ps fr :: pt pm (gmO pg) :: R) (fun i => ownA fr.length pg pa i) (by omega) (by omega) perm2 (fun i hi => by omega) (fun hI => ⟨hI, rfl⟩) ?_
            intro at_ R' h1 h2
            simp only [List.cons_append, List.nil_append]
            refine rounds_intro rfl rfl ?_
            refine x_region ?_
            refine s_do rfl (d_allocA Tryz.zeroValue273) ?_
            rintro _ _ ⟨b3, rfl, rfl⟩
            refine s_do0 (d_storeAll Tryz.sizeOf273 rfl rfl rfl rfl rfl) ?_
            rintro _ _ rfl
            refine x_nil ?_
            refine n_begin rfl ?_
            refine x_block ?_
            refine x_seq ?_
            refine x_region ?_
            refine s_val rfl (v_load Tryz.isAgg45 rfl (cell_own rfl)) ?_
            refine s_val rfl (v_fieldAddr rfl Tryz.underlying273 rfl Tryz.sizeOf3 rfl (by first | exact Nat.zero_add _ | rfl)) ?_
            refine s_val rfl (v_load Tryz.isAgg3 rfl (cell_own rfl)) ?_
            refine s_do rfl (d_call3 Tryz.call190 rfl (viFrame_spec W0 _ pv ps pm d fr pg h (((pa + at_) / 64 : Nat) : Int))) ?_
            rintro _ B_ ⟨rfl, hB_⟩
            obtain rfl := hB_.symm
            refine s_val rfl (v_move rfl) ?_
            refine s_val rfl (v_extract rfl rfl) ?_
            refine s_val rfl (v_extract rfl rfl) ?_
            refine s_val rfl (v_assign rfl) ?_
            refine s_val rfl (v_assign rfl) ?_
            refine x_nil ?_
            refine n_then ?_
            refine x_seq ?_
            refine x_region ?_
            refine s_val rfl (v_move rfl) ?_
            refine s_val rfl (v_not rfl) ?_
            refine x_nil ?_
            refine n_then ?_
            refine x_if rfl ?_ ?_
            · intro c6
              refine x_seq ?_
              refine x_region ?_
              refine s_do0 (d_store Tryz.sizeOf4 rfl rfl rfl (Nat.le_of_ble_eq_true rfl) SetL.eq) ?_
              rintro _ _ rfl
              refine x_nil ?_
              refine n_then ?_
              refine x_ret ?_
              refine r_block ?_
              refine r_stop ?_
              have hn : ¬ ownA fr.length pg pa k := fun q => c6 (q at_ h1)
              refine ⟨_, .inr ⟨rfl, _, ⟨hn, rfl⟩, rfl⟩, ?_⟩
              simp only [List.cons_append]
              exact inferInstance
            · intro c6
              refine x_skip ?_
              refine n_block ?_
              refine r_go ?_
              have hb : frmB fr.length pg (pgI (pa + at_)) = true := Decidable.not_not.1 c6
              have hI' : ownA fr.length pg pa (at_ + pcN pa k at_) := fun i hi => by
                rcases Nat.lt_or_ge i at_ with q | q
                · exact h2 i q
                · rw [pgI, pc_page q hi]; exact hb
              exact ⟨_, .inl ⟨rfl, hI', rfl⟩, inferInstance⟩
          · intro D C hC
            obtain ⟨hown, rfl⟩ := hC
            refine n_block ?_
            refine n_then ?_
            refine x_seq ?_
            refine x_region ?_
            refine s_do0 (d_store Tryz.sizeOf4 rfl rfl rfl (Nat.le_of_ble_eq_true rfl) SetL.eq) ?_
            rintro _ _ rfl
            refine x_nil ?_
            refine n_then ?_
            refine x_ret ?_
            refine x_doneM (.inl rfl) (.cons (r_cell Tryz.isAgg4 rfl (cell_own rfl)) .nil) ?_
            refine ⟨_, ⟨?_, rfl⟩, inferInstance⟩
            refine congrArg Value.bool (Eq.symm ?_)
            rw [ownB_nat]; exact ⟨hk, hown⟩
          · intro D C hC
            obtain ⟨hown, rfl⟩ := hC
            refine r_block ?_
            refine r_then ?_
            refine x_doneM (.inl rfl) (.cons (r_cell Tryz.isAgg4 rfl (cell_own rfl)) .nil) ?_
            refine ⟨_, ⟨?_, rfl⟩, inferInstance⟩
            refine congrArg Value.bool (Eq.symm ?_)
            rw [← Bool.not_eq_true, ownB_nat]; exact fun q => hown q.2
end Go.Proofs.YtechkfopkpkigaaGreat
