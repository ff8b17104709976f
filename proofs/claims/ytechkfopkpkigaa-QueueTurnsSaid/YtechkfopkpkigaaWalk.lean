/-
  Layer 17 (walk): a guest's tables.
-/
import Derived.Test.YtechkfopkpkigaaPte
import Derived.Test.YtechkfopkpkigaaRefViewC
import Derived.Test.YtechkfopkpkigaaFar
namespace Go.Proofs.Ytechkfopkpkigaa
open Go.RowKit
set_option linter.unusedSimpArgs false
set_option linter.unusedVariables false
set_option maxRecDepth 20000

theorem byV_fl : ∀ bs : List Nat, bs.flatMap (fun x => [bV x]) = byV bs
  | [] => rfl
  | b :: l => by rw [List.flatMap_cons, byV_fl l]; rfl
abbrev vwW (pv ps pm d : Nat) (fr : List Frm) (pg : List Pl) (R : List HP) : List HP := pt pv (viO ps pm d) :: stoH ps fr :: pt pm (gmO pg) :: R
abbrev rvwW (qv qs qm d : Nat) (fr : List Frm) (pg : List Pl) (R : List HP) : List HP := pt qv (rvO qs qm d) :: rstoH qs fr :: pt qm (rgO pg) :: R
def tblPa (page : Int) (i : Nat) : Nat := 64 * page.toNat + 4 * (i % 16)
def tblB (len : Nat) (pg : List Pl) (page : Int) (i : Nat) : Bool := decide (0 ≤ page ∧ page < 8) && ownB len pg (tblPa page i) 4
theorem tblB_iff {len : Nat} {pg : List Pl} {page : Int} {i : Nat} : tblB len pg page i = true ↔ (0 ≤ page ∧ page < 8) ∧ ownB len pg (tblPa page i) 4 = true := by
  rw [tblB, Bool.and_eq_true]; exact ⟨fun h => ⟨of_decide_eq_true h.1, h.2⟩, fun h => ⟨decide_eq_true h.1, h.2⟩⟩
def tblW (fr : List Frm) (pg : List Pl) (page : Int) (i : Nat) : Nat := if tblB fr.length pg page i then leN (rdL fr pg (tblPa page i) 4) else 0
theorem tblW_lt {fr : List Frm} (hF : Frs fr) (pg : List Pl) (page : Int) (i : Nat) : tblW fr pg page i < 4294967296 := by
  unfold tblW; split
  · have := leN_lt (rdL_by hF pg (tblPa page i) 4); rw [rdL_len] at this; exact this
  · decide
theorem getN_all {l : List Nat} (h : l.length = 4) : getN l 0 4 = leN l ∧ getE l 0 4 = 0 := by
  have hi : inB l.length 0 4 = true := inB_iff.2 (by omega)
  constructor
  · rw [getN, if_pos hi]
    show leN ((l.drop 0).take 4) = leN l
    rw [List.drop_zero, List.take_of_length_le (by omega)]
  · rw [getE, if_pos hi]
end Go.Proofs.Ytechkfopkpkigaa
