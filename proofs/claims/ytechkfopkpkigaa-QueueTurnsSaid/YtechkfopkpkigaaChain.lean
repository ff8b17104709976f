/-
  Layer 22 (chain): looking at descriptors.
-/
import Derived.Test.YtechkfopkpkigaaViewF
import Derived.Test.YtechkfopkpkigaaDesc
namespace Go.Proofs.Ytechkfopkpkigaa
open Go.RowKit
set_option linter.unusedSimpArgs false
set_option linter.unusedVariables false
set_option maxRecDepth 20000

def wrB (d : Dsc) : Bool := decide (d.flags / 2 % 2 = 1)
def goB (d : Dsc) : Bool := decide (d.flags % 2 = 1)
abbrev vw (pv ps pm d : Nat) (fr : List Frm) (pg : List Pl) (R : List HP) : List HP := pt pv (viO ps pm d) :: stoH ps fr :: pt pm (gmO pg) :: R
def dsPa (r : Rg3) (at_ : Nat) : Nat := (r.desc + 16 * at_) % 4294967296
theorem dsPa_lt (r : Rg3) (at_ : Nat) : dsPa r at_ < 4294967296 := Nat.mod_lt _ (by decide)
def dsAt (fr : List Frm) (pg : List Pl) (r : Rg3) (at_ : Nat) : Dsc := if ownB fr.length pg (dsPa r at_) 16 then dsOf (rdL fr pg (dsPa r at_) 16) else zD
theorem zD_ok : zD.ok := ⟨by decide, by decide, by decide, by decide⟩
theorem dsAt_ok {fr : List Frm} (hF : Frs fr) (pg : List Pl) (r : Rg3) (at_ : Nat) : (dsAt fr pg r at_).ok := by
  unfold dsAt; split
  · exact dsOf_ok (rdL_by hF _ _ _)
  · exact zD_ok
/-- What the n-th look at a place tells. -/
def lk (fr : List Frm) (pg : List Pl) (r : Rg3) (at_ : Int) (n : Nat) (wr : Bool) : Dsc × Int :=
  if at_ < 0 ∨ r.n ≤ at_ then (zD, 1) else if r.n ≤ (n : Int) then (zD, 2) else
  if ownB fr.length pg (dsPa r at_.toNat) 16 = false then (zD, 5) else
  if chkC (dsAt fr pg r at_.toNat) r.n.toNat ≠ 0 then (zD, chkC (dsAt fr pg r at_.toNat) r.n.toNat) else
  if ownB fr.length pg (dsAt fr pg r at_.toNat).addr (dsAt fr pg r at_.toNat).len = false then (zD, 5) else
  if wr = true ∧ wrB (dsAt fr pg r at_.toNat) = false then (zD, 6) else (dsAt fr pg r at_.toNat, 0)
theorem lk_ok {fr : List Frm} (hF : Frs fr) (pg : List Pl) (r : Rg3) (at_ : Int) (n : Nat) (wr : Bool) : (lk fr pg r at_ n wr).1.ok := by
  unfold lk
  repeat' split
  all_goals first | exact zD_ok | exact dsAt_ok hF _ _ _
theorem lk_n {fr : List Frm} {pg : List Pl} {r : Rg3} {at_ : Int} {n : Nat} {wr : Bool} (h : (lk fr pg r at_ n wr).2 = 0) : (n : Int) < r.n := by
  unfold lk at h
  repeat' split at h
  all_goals first | (exfalso; revert h; decide) | omega | skip
  all_goals (exfalso; rename_i q; exact q h)
end Go.Proofs.Ytechkfopkpkigaa
