/-
  Layer 17 (walk): a guest's tables.
-/
import Derived.Test.YtechkfopkpkigaaGreatPte
import Derived.Test.YtechkfopkpkigaaGreatRefViewC
import Derived.Test.YtechkfopkpkigaaGreatFar
namespace Go.Proofs.YtechkfopkpkigaaGreat
open Go.RowKit
set_option linter.unusedSimpArgs false
set_option linter.unusedVariables false
set_option maxRecDepth 20000

theorem byV_fl : ∀ bs : List Nat, bs.flatMap (fun x => [bV x]) = byV bs
  | [] => rfl
  | b :: l => by rw [List.flatMap_cons, byV_fl l]; rfl
abbrev vwW (pv ps pm d : Nat) (fr : List Frm) (pg : List Pl) (R : List HP) : List HP := pt pv (viO ps pm d) :: stoH ps fr :: pt pm (gmO pg) :: R
abbrev rvwW (qv qs qm d : Nat) (fr : List Frm) (pg : List Pl) (R : List HP) : List HP := pt qv (rvO qs qm d) :: rstoH qs fr :: pt qm (rgO pg) :: R
def tblPa (page : Int) (i : Nat) : Nat := 64 * page.toNat + 4 * (i % 16)
def tblB (len : Nat) (pg : List Pl) (page : Int) (i : Nat) : Bool := decide (0 ≤ page ∧ page < 8) && ownB len pg (tblPa page i) 4
theorem tblB_iff {len : Nat} {pg : List Pl} {page : Int} {i : Nat} : tblB len pg page i = true ↔ (0 ≤ page ∧ page < 8) ∧ ownB len pg (tblPa page i) 4 = true := by
  rw [tblB, Bool.and_eq_true]; exact ⟨fun h => ⟨of_decide_eq_true h.1, h.2⟩, fun h => ⟨decide_eq_true h.1, h.2⟩⟩
def tblW (fr : List Frm) (pg : List Pl) (page : Int) (i : Nat) : Nat := if tblB fr.length pg page i then leN (rdL fr pg (tblPa page i) 4) else 0
theorem tblW_lt {fr : List Frm} (hF : Frs fr) (pg : List Pl) (page : Int) (i : Nat) : tblW fr pg page i < 4294967296 := by
  unfold tblW; split
  · have := leN_lt (rdL_by hF pg (tblPa page i) 4); rw [rdL_len] at this; exact this
  · decide
theorem getN_all {l : List Nat} (h : l.length = 4) : getN l 0 4 = leN l ∧ getE l 0 4 = 0 := by
  have hi : inB l.length 0 4 = true := inB_iff.2 (by omega)
  constructor
  · rw [getN, if_pos hi]
    show leN ((l.drop 0).take 4) = leN l
    rw [List.drop_zero, List.take_of_length_le (by omega)]
  · rw [getE, if_pos hi]
theorem rvWord_spec (W0 : World) (R : List HP) (qv qs qm d : Nat) (fr : List Frm) (pg : List Pl) (h : Pgs pg) (hF : Frs fr) (pa : Nat) (hpa : pa < 4294967296) :
    Spec Tryz.prog W0 177 [.pointer (some ⟨qv, 0, none⟩), .int .u32 pa] (rvwW qv qs qm d fr pg R)
      (fun v B => v = .tuple #[.int .u32 ((if ownB fr.length pg pa 4 then leN (rdL fr pg pa 4) else 0 : Nat)), .bool (ownB fr.length pg pa 4)] ∧ B = rvwW qv qs qm d fr pg R) := by
  refine spec_body Tryz.func177 Tryz.ntmps177 rfl rfl ?_
  refine x_seq ?_
  refine x_region ?_
  refine s_val rfl (v_assign rfl) ?_
  refine s_val rfl (v_assign rfl) ?_
  refine x_nil ?_
  refine n_then ?_
  refine x_seq ?_
  refine x_region ?_
  refine s_val rfl (v_move rfl) ?_
  refine s_val rfl (v_move rfl) ?_
  refine s_do rfl (d_call3 Tryz.call197 rfl (rvRead_spec W0 _ qv qs qm d fr pg h hF pa hpa 4)) ?_
  rintro _ B_ ⟨a, c, rfl, hB_⟩
  obtain rfl := hB_.symm
  refine s_val rfl (v_move rfl) ?_
  refine s_val rfl (v_extract rfl rfl) ?_
  refine s_val rfl (v_extract rfl rfl) ?_
  refine s_val rfl (v_assign rfl) ?_
  refine s_val rfl (v_assign rfl) ?_
  refine x_nil ?_
  refine n_then ?_
  refine x_seq ?_
  refine x_seq ?_
  refine x_region ?_
  refine s_val rfl (v_move rfl) ?_
  refine s_val rfl (v_not rfl) ?_
  refine x_nil ?_
  refine n_then ?_
  refine x_if rfl ?_ ?_
  · intro c2
    refine x_seq ?_
    refine x_region ?_
    refine s_val rfl (v_assign rfl) ?_
    refine s_val rfl (v_assign rfl) ?_
    refine x_nil ?_
    refine n_then ?_
    refine x_ret ?_
    refine r_then ?_
    refine x_done (.inl rfl) (.cons (r_tmp rfl) (.cons (r_tmp rfl) .nil)) ?_
    refine ⟨_, ⟨?_, rfl⟩, inferInstance⟩
    have ho : ownB fr.length pg pa 4 = false := by simpa using c2
    simp [pack, ho]
  · intro c2
    have ho : ownB fr.length pg pa 4 = true := Decidable.not_not.1 c2
    have hrd : rdO fr pg pa 4 = rdL fr pg pa 4 := by rw [rdO, if_pos ho]; rfl
    have hln : (rdL fr pg pa 4).length = 4 := rdL_len _ _ _ _
    obtain ⟨hg1, hg2⟩ := getN_all hln
    rw [hrd]
    refine run_form (E := 5) (sz := 1) (a := a) (c := c) (n := (rdL fr pg pa 4).length) (fun hf => ?_)
    obtain ⟨g, rfl⟩ := form_some hf (by intro h0; have := congrArg List.length h0; rw [byV_len, hln] at this; simp at this)
    refine run_cap (E := 5) (sz := 1) (a := some ⟨g, 0, none⟩) (c := c) (n := (rdL fr pg pa 4).length) (fun hcap => ?_)
    refine x_skip ?_
    refine n_then ?_
    refine x_seq ?_
    refine x_region ?_
    refine s_val rfl (v_move rfl) ?_
    refine s_do rfl (d_call Tryz.call135 rfl (refGet02_spec W0 _ g 0 c (rdL fr pg pa 4) 0 4 (cells_osl (E := 5) (sz := 1) (a := some ⟨g, 0, none⟩) (c := c) (n := (rdL fr pg pa 4).length)) (rdL_by hF _ _ _) hcap.1 (maxLen_lt hcap.2))) ?_
    rintro _ B_ ⟨rfl, hB_⟩
    obtain rfl := hB_.symm
    rw [hg1, hg2]
    refine s_val rfl (v_move rfl) ?_
    refine s_val rfl (v_extract rfl rfl) ?_
    refine s_val rfl (v_extract rfl rfl) ?_
    refine s_val rfl (v_assign rfl) ?_
    refine s_val rfl (v_assign rfl) ?_
    refine x_nil ?_
    refine n_then ?_
    refine x_seq ?_
    refine x_region ?_
    refine s_val rfl (v_move rfl) ?_
    refine s_val rfl (v_assign rfl) ?_
    refine s_val rfl (v_assign rfl) ?_
    refine x_nil ?_
    refine n_then ?_
    refine x_ret ?_
    refine x_done (.inl rfl) (.cons (r_tmp rfl) (.cons (r_tmp rfl) .nil)) ?_
    refine ⟨_, ⟨?_, rfl⟩, inferInstance⟩
    simp [pack, ho]
end Go.Proofs.YtechkfopkpkigaaGreat
