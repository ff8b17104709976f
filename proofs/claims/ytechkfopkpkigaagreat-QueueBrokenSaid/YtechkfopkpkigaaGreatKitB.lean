/-
  More chunks at once. Nothing of one program stands here.
-/
import Derived.Test.YtechkfopkpkigaaGreatKit
namespace Go.Proofs.YtechkfopkpkigaaGreat
open Go.RowKit
set_option linter.unusedSimpArgs false
set_option linter.unusedVariables false

section
variable {P : Program} {W0 : World} {N : FSz} {e : Env} {A R R1 R2 R3 R4 R5 R6 R7 : List HP} {vs us cs : List Value}
variable {K1 K2 K3 K4 K5 K6 K7 K8 X1 X2 X3 X4 X5 X6 X7 X8 : Type} {r1 : K1 → X1 → HP} {b1 : K1} {x1 : X1} {r2 : K2 → X2 → HP} {b2 : K2} {x2 : X2} {r3 : K3 → X3 → HP} {b3 : K3} {x3 : X3} {r4 : K4 → X4 → HP} {b4 : K4} {x4 : X4} {r5 : K5 → X5 → HP} {b5 : K5} {x5 : X5} {r6 : K6 → X6 → HP} {b6 : K6} {x6 : X6} {r7 : K7 → X7 → HP} {b7 : K7} {x7 : X7} {r8 : K8 → X8 → HP} {b8 : K8} {x8 : X8}
theorem perm7 [h1 : Tk r1 b1 A x1 R1] [h2 : Tk r2 b2 R1 x2 R2] [h3 : Tk r3 b3 R2 x3 R3] [h4 : Tk r4 b4 R3 x4 R4] [h5 : Tk r5 b5 R4 x5 R5] [h6 : Tk r6 b6 R5 x6 R6] [h7 : Tk r7 b7 R6 x7 R] : A.Perm (r1 b1 x1 :: r2 b2 x2 :: r3 b3 x3 :: r4 b4 x4 :: r5 b5 x5 :: r6 b6 x6 :: r7 b7 x7 :: R) := h1.perm.trans (perm6.cons _)
theorem perm8 [h1 : Tk r1 b1 A x1 R1] [h2 : Tk r2 b2 R1 x2 R2] [h3 : Tk r3 b3 R2 x3 R3] [h4 : Tk r4 b4 R3 x4 R4] [h5 : Tk r5 b5 R4 x5 R5] [h6 : Tk r6 b6 R5 x6 R6] [h7 : Tk r7 b7 R6 x7 R7] [h8 : Tk r8 b8 R7 x8 R] : A.Perm (r1 b1 x1 :: r2 b2 x2 :: r3 b3 x3 :: r4 b4 x4 :: r5 b5 x5 :: r6 b6 x6 :: r7 b7 x7 :: r8 b8 x8 :: R) := h1.perm.trans (perm7.cons _)
variable {f : FuncId} {xs : Array Operand} {ats : Array TypeId} {Post : Value → List HP → Prop}
theorem d_call7 (hc : ∀ args w, (callFunc f args).run P w = .ok (.enter f args) w) (hx : evs e xs.toList = some vs)
    (hs : Spec P W0 f vs (r1 b1 x1 :: r2 b2 x2 :: r3 b3 x3 :: r4 b4 x4 :: r5 b5 x5 :: r6 b6 x6 :: r7 b7 x7 :: R) Post) [h1 : Tk r1 b1 A x1 R1] [h2 : Tk r2 b2 R1 x2 R2] [h3 : Tk r3 b3 R2 x3 R3] [h4 : Tk r4 b4 R3 x4 R4] [h5 : Tk r5 b5 R4 x5 R5] [h6 : Tk r6 b6 R5 x6 R6] [h7 : Tk r7 b7 R6 x7 R] : Does P W0 N e A (.call { callee := .value (.func f), args := xs, argTypes := ats }) Post :=
  does_perm perm7 (d_call hc hx hs)
theorem d_call8 (hc : ∀ args w, (callFunc f args).run P w = .ok (.enter f args) w) (hx : evs e xs.toList = some vs)
    (hs : Spec P W0 f vs (r1 b1 x1 :: r2 b2 x2 :: r3 b3 x3 :: r4 b4 x4 :: r5 b5 x5 :: r6 b6 x6 :: r7 b7 x7 :: r8 b8 x8 :: R) Post) [h1 : Tk r1 b1 A x1 R1] [h2 : Tk r2 b2 R1 x2 R2] [h3 : Tk r3 b3 R2 x3 R3] [h4 : Tk r4 b4 R3 x4 R4] [h5 : Tk r5 b5 R4 x5 R5] [h6 : Tk r6 b6 R5 x6 R6] [h7 : Tk r7 b7 R6 x7 R7] [h8 : Tk r8 b8 R7 x8 R] : Does P W0 N e A (.call { callee := .value (.func f), args := xs, argTypes := ats }) Post :=
  does_perm perm8 (d_call hc hx hs)
end
end Go.Proofs.YtechkfopkpkigaaGreat
