/-
  Things that nobody made: nil, or a zero cell. Nothing of one program stands here.
-/
import Derived.Test.YteolepiendmhlaaGreatDoorLawB
import Derived.Test.YteolepiendmhlaaGreatDoorMore
namespace Go.Proofs.YteolepiendmhlaaGreatDoor
open Go.RowKit
set_option linter.unusedSimpArgs false
set_option linter.unusedVariables false

/-- Nil, or a block that holds such. -/
def Zo (o : Obj) (p : Option Addr) (A : List HP) : Prop := p = none ∨ ∃ b, p = some ⟨b, 0, none⟩ ∧ Ent A [pt b o]
theorem Zo.cons {o : Obj} {p : Option Addr} {A : List HP} {c : HP} (h : Zo o p A) : Zo o p (c :: A) := by
  rcases h with h | ⟨b, h1, h2⟩
  · exact .inl h
  · exact .inr ⟨b, h1, Ent.drop.trans h2⟩
theorem zo_cell {W0 : World} {A : List HP} {b off ty : Nat} {l : List Value} {v : Value} (h : Ent A [pt b (cob l ty)]) (hv : l[off]? = some v) : Cell (OwnP W0 A) b off v :=
  Cell.weak (B := [pt b (cob l ty)]) (cell_own (R := []) hv)
end Go.Proofs.YteolepiendmhlaaGreatDoor
