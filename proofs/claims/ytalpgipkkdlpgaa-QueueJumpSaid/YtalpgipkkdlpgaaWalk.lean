/-
  Layer 17 (walk): a guest's tables.
-/
import Derived.Test.YtalpgipkkdlpgaaPte
import Derived.Test.YtalpgipkkdlpgaaRefViewC
import Derived.Test.YtalpgipkkdlpgaaFar
namespace Go.Proofs.Ytalpgipkkdlpgaa
open Go.RowKit
set_option linter.unusedSimpArgs false
set_option linter.unusedVariables false
set_option maxRecDepth 20000

theorem byV_fl : ∀ bs : List Nat, bs.flatMap (fun x => [bV x]) = byV bs
  | [] => rfl
  | b :: l => by rw [List.flatMap_cons, byV_fl l]; rfl
abbrev vwW (pv ps pm d : Nat) (fr : List Frm) (pg : List Pl) (R : List HP) : List HP := pt pv (viO ps pm d) :: stoH ps fr :: pt pm (gmO pg) :: R
abbrev rvwW (qv qs qm d : Nat) (fr : List Frm) (pg : List Pl) (R : List HP) : List HP := pt qv (rvO qs qm d) :: rstoH qs fr :: pt qm (rgO pg) :: R
def tblPa (page : Int) (i : Nat) : Nat := 64 * page.toNat + 4 * (i % 16)
def tblB (len : Nat) (pg : List Pl) (page : Int) (i : Nat) : Bool := decide (0 ≤ page ∧ page < 8) && ownB len pg (tblPa page i) 4
theorem tblB_iff {len : Nat} {pg : List Pl} {page : Int} {i : Nat} : tblB len pg page i = true ↔ (0 ≤ page ∧ page < 8) ∧ ownB len pg (tblPa page i) 4 = true := by
  rw [tblB, Bool.and_eq_true]; exact ⟨fun h => ⟨of_decide_eq_true h.1, h.2⟩, fun h => ⟨decide_eq_true h.1, h.2⟩⟩
def tblW (fr : List Frm) (pg : List Pl) (page : Int) (i : Nat) : Nat := if tblB fr.length pg page i then leN (rdL fr pg (tblPa page i) 4) else 0
theorem tblW_lt {fr : List Frm} (hF : Frs fr) (pg : List Pl) (page : Int) (i : Nat) : tblW fr pg page i < 4294967296 := by
  unfold tblW; split
  · have := leN_lt (rdL_by hF pg (tblPa page i) 4); rw [rdL_len] at this; exact this
  · decide
theorem getN_all {l : List Nat} (h : l.length = 4) : getN l 0 4 = leN l ∧ getE l 0 4 = 0 := by
  have hi : inB l.length 0 4 = true := inB_iff.2 (by omega)
  constructor
  · rw [getN, if_pos hi]
    show leN ((l.drop 0).take 4) = leN l
    rw [List.drop_zero, List.take_of_length_le (by omega)]
  · rw [getE, if_pos hi]
theorem wkTable_spec (W0 : World) (R : List HP) (pv ps pm d : Nat) (fr : List Frm) (pg : List Pl) (h : Pgs pg) (hF : Frs fr) (page : Int) (i : Nat) (hi : i < 4294967296) :
    Spec Try.prog W0 89 [.pointer (some ⟨pv, 0, none⟩), .int .i64 page, .int .u32 i] (vwW pv ps pm d fr pg R)
      (fun v B => v = .tuple #[.int .u32 (tblW fr pg page i : Nat), .bool (tblB fr.length pg page i)] ∧ B = vwW pv ps pm d fr pg R) := by
  refine spec_body Try.func89 Try.ntmps89 rfl rfl ?_
  refine x_seq ?_
  refine x_region ?_
  refine s_val rfl (v_assign rfl) ?_
  refine s_val rfl (v_assign rfl) ?_
  refine x_nil ?_
  refine n_then ?_
  refine x_seq ?_
  refine x_seq ?_
  refine x_region ?_
  refine s_val rfl (v_move rfl) ?_
  refine s_val rfl (v_lss rfl rfl) ?_
  refine s_val rfl (v_move rfl) ?_
  refine s_or rfl rfl rfl ?_ ?_
  · intro g1_3
    refine s_no rfl rfl rfl rfl ?_
    refine s_val rfl (v_pick_t rfl rfl) ?_
    refine x_nil ?_
    refine n_then ?_
    refine x_ift rfl ?_
    refine x_seq ?_
    refine x_region ?_
    refine s_val rfl (v_assign rfl) ?_
    refine s_val rfl (v_assign rfl) ?_
    refine x_nil ?_
    refine n_then ?_
    refine x_ret ?_
    refine r_then ?_
    refine x_done (.inl rfl) (.cons (r_tmp rfl) (.cons (r_tmp rfl) .nil)) ?_
    refine ⟨_, ⟨?_, rfl⟩, inferInstance⟩
    have hb : tblB fr.length pg page i = false := by rw [← Bool.not_eq_true, tblB_iff]; rintro ⟨q, _⟩; omega
    simp [pack, tblW, hb]
  · intro g1_3
    refine s_val rfl (v_move rfl) ?_
    refine s_yes rfl rfl ?_
    refine s_val rfl (v_geq rfl rfl) ?_
    refine s_val rfl (v_pick_f rfl rfl) ?_
    refine x_nil ?_
    refine n_then ?_
    refine x_if rfl ?_ ?_
    · intro c1
      refine x_seq ?_
      refine x_region ?_
      refine s_val rfl (v_assign rfl) ?_
      refine s_val rfl (v_assign rfl) ?_
      refine x_nil ?_
      refine n_then ?_
      refine x_ret ?_
      refine r_then ?_
      refine x_done (.inl rfl) (.cons (r_tmp rfl) (.cons (r_tmp rfl) .nil)) ?_
      refine ⟨_, ⟨?_, rfl⟩, inferInstance⟩
      have hb : tblB fr.length pg page i = false := by rw [← Bool.not_eq_true, tblB_iff]; rintro ⟨q, _⟩; omega
      simp [pack, tblW, hb]
    · intro c1
      refine x_skip ?_
      refine n_then ?_
      refine x_seq ?_
      obtain ⟨p, rfl⟩ : ∃ p : Nat, page = (p : Int) := ⟨page.toNat, by omega⟩
      have hpa : tblPa (p : Int) i = 64 * p + 4 * (i % 16) := rfl
      refine x_region ?_
      refine s_val rfl (v_move rfl) ?_
      refine s_val rfl (v_move rfl) ?_
      refine s_val rfl (v_mul rfl rfl (by rw [w64 (by omega)]; omega : IntKind.wrap .i64 ((p : Int) * 64) = ((64 * p : Nat) : Int))) ?_
      refine s_val rfl (v_conv Try.underlying3 Try.underlying24 rfl (w32u (by omega))) ?_
      refine s_val rfl (v_move rfl) ?_
      refine s_val rfl (v_and rfl rfl (bits4 hi)) ?_
      refine s_val rfl (v_mul rfl rfl (by rw [w32u (by omega)]; omega : IntKind.wrap .u32 (4 * ((i % 16 : Nat) : Int)) = ((4 * (i % 16) : Nat) : Int))) ?_
      refine s_val rfl (v_add rfl rfl (by rw [w32u (by omega), hpa]; omega : IntKind.wrap .u32 (((64 * p : Nat) : Int) + ((4 * (i % 16) : Nat) : Int)) = ((tblPa (p : Int) i : Nat) : Int))) ?_
      refine s_do rfl (d_call3 Try.call103 rfl (viRead_spec W0 _ pv ps pm d fr pg h hF (tblPa (p : Int) i) (by omega) 4)) ?_
      rintro _ B_ ⟨a, c, rfl, hB_⟩
      obtain rfl := hB_.symm
      refine s_val rfl (v_move rfl) ?_
      refine s_val rfl (v_extract rfl rfl) ?_
      refine s_val rfl (v_extract rfl rfl) ?_
      refine s_val rfl (v_assign rfl) ?_
      refine s_val rfl (v_assign rfl) ?_
      refine x_nil ?_
      refine n_then ?_
      refine x_seq ?_
      refine x_seq ?_
      refine x_region ?_
      refine s_val rfl (v_move rfl) ?_
      refine s_val rfl (v_not rfl) ?_
      refine x_nil ?_
      refine n_then ?_
      refine x_if rfl ?_ ?_
      · intro c4
        have ho : ¬ ownB fr.length pg (tblPa (p : Int) i) 4 = true := c4
        refine x_seq ?_
        refine x_region ?_
        refine s_val rfl (v_assign rfl) ?_
        refine s_val rfl (v_assign rfl) ?_
        refine x_nil ?_
        refine n_then ?_
        refine x_ret ?_
        refine r_then ?_
        refine x_done (.inl rfl) (.cons (r_tmp rfl) (.cons (r_tmp rfl) .nil)) ?_
        refine ⟨_, ⟨?_, rfl⟩, inferInstance⟩
        have hb : tblB fr.length pg p i = false := by rw [← Bool.not_eq_true, tblB_iff]; rintro ⟨_, q⟩; exact ho q
        simp [pack, tblW, hb]
      · intro c4
        have ho : ownB fr.length pg (tblPa (p : Int) i) 4 = true := Decidable.not_not.1 c4
        have hb : tblB fr.length pg p i = true := tblB_iff.2 ⟨by omega, ho⟩
        have hrd : rdO fr pg (tblPa (p : Int) i) 4 = rdL fr pg (tblPa (p : Int) i) 4 := by rw [rdO, if_pos ho]; rfl
        have hln : (rdL fr pg (tblPa (p : Int) i) 4).length = 4 := rdL_len _ _ _ _
        obtain ⟨hg1, hg2⟩ := getN_all hln
        rw [hrd]
        refine run_form (E := 5) (sz := 1) (a := a) (c := c) (n := (rdL fr pg (tblPa (p : Int) i) 4).length) (fun hf => ?_)
        obtain ⟨g, rfl⟩ := form_some hf (by intro h0; have := congrArg List.length h0; rw [byV_len, hln] at this; simp at this)
        refine run_cap (E := 5) (sz := 1) (a := some ⟨g, 0, none⟩) (c := c) (n := (rdL fr pg (tblPa (p : Int) i) 4).length) (fun hcap => ?_)
        refine x_skip ?_
        refine n_then ?_
        refine x_seq ?_
        refine x_region ?_
        refine s_val rfl (v_move rfl) ?_
        refine s_do rfl (d_call Try.call91 rfl (octGet_spec W0 _ g 0 c (rdL fr pg (tblPa (p : Int) i) 4) 0 4 (cells_osl (E := 5) (sz := 1) (a := some ⟨g, 0, none⟩) (c := c) (n := (rdL fr pg (tblPa (p : Int) i) 4).length)) (rdL_by hF _ _ _) hcap.1 (maxLen_lt hcap.2))) ?_
        rintro _ B_ ⟨rfl, hB_⟩
        obtain rfl := hB_.symm
        rw [hg1, hg2]
        refine s_val rfl (v_move rfl) ?_
        refine s_val rfl (v_extract rfl rfl) ?_
        refine s_val rfl (v_extract rfl rfl) ?_
        refine s_val rfl (v_assign rfl) ?_
        refine s_val rfl (v_assign rfl) ?_
        refine x_nil ?_
        refine n_then ?_
        refine x_seq ?_
        refine x_region ?_
        refine s_val rfl (v_move rfl) ?_
        refine s_val rfl (v_move rfl) ?_
        refine s_val rfl (v_eql rfl rfl) ?_
        refine s_val rfl (v_assign rfl) ?_
        refine s_val rfl (v_assign rfl) ?_
        refine x_nil ?_
        refine n_then ?_
        refine x_ret ?_
        refine x_done (.inl rfl) (.cons (r_tmp rfl) (.cons (r_tmp rfl) .nil)) ?_
        refine ⟨_, ⟨?_, rfl⟩, inferInstance⟩
        simp [pack, tblW, hb]
end Go.Proofs.Ytalpgipkkdlpgaa
