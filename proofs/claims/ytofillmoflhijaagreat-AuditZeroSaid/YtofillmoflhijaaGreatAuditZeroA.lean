/-
  Part 1 of the proof of AuditZero: rules, and walks of functions. Conditions: none.
-/
import Derived.WalkKit
import Derived.ProofKit
import Derived.RangeFuncRecord
import Derived.OrdersHeld
import Derived.Test.YtofillmoflhijaaGreatProg
import Derived.Laws.MakeOwn
import Derived.Scope
import Derived.Lib.AppendZerosOnto
import Derived.Lib.Overlaps
import Derived.OrdersIn
import Derived.Laws.BytesString
import Derived.OpenShut
import Derived.Carry
import Derived.MapKept
import Derived.ChangeKeysEq
import Derived.Laws.IdiomStrings
import Derived.Test.YtofillmoflhijaaGreatRows
namespace Go.Proofs.YtofillmoflhijaaGreat
open Go.Proofs.Tryz
set_option linter.unusedSimpArgs false
set_option linter.unusedVariables false
set_option maxRecDepth 20000
set_option linter.defProp false
set_option synthInstance.maxSize 8192
set_option synthInstance.maxHeartbeats 2000000
def aC:=@sizeOf3
def aM:=@isAgg3
def bG:=@sizeOf518
def bW:=@underlying29
def ce:=@sizeOf29
def cy:=@sizeOf4
def cM:=@underlying515
def cR:=@isAgg29
def dd:=@underlying37
def dF:=@underlying3
def dJ:=@underlying492
def dV:=@underlying174
def dW:=@sizeOf498
def ec:=@sizeOf37
def ed:=@isAgg518
def eA:=@underlying23
def eH:=@sizeOf238
def eI:=@sizeOf515
def eJ:=@underlying80
def eV:=@sizeOf23
def f9:=@zeroValue3
def fa:=@underlying420
def fq:=@isAgg23
def fu:=@isAgg515
def fw:=@sizeOf22
def fF:=@underlying27
def fG:=@underlying523
def fH:=@call26
def g8:=@sizeOf5
def gd:=@isAgg4
def ge:=@underlying238
def gi:=@sizeOf85
def gj:=@underlying85
def gk:=@isAgg22
def gI:=@underlying417
def gJ:=@isAgg37
def gK:=@sizeOf415
def gL:=@sizeOf302
def gM:=@underlying68
def i5:=@sizeOf146
def i6:=@sizeOf27
def i7:=@sizeOf255
def i8:=@sizeOf51
def i9:=@isAgg78
def it:=@underlying415
def iu:=@sizeOf63
def iw:=@sizeOf87
def iN:=@zeroValue238
def iO:=@isAgg415
def iP:=@underlying87
def iQ:=@underlying195
def iR:=@sizeOf195
def j8:=@sizeOf61
def j9:=@underlying61
def ja:=@underlying144
def jb:=@underlying518
def jI:=@underlying181
def jJ:=@sizeOf179
def jK:=@isAgg238
def jL:=@underlying25
def jM:=@underlying422
def jN:=@sizeOf422
def jO:=@isAgg27
def jP:=@sizeOf26
def jQ:=@underlying26
def jR:=@underlying494
def jS:=@sizeOf144
def jT:=@sizeOf42
def jU:=@underlying98
def jV:=@sizeOf306
def jW:=@sizeOf138
def jX:=@underlying291
def kC:=@underlying179
def kD:=@underlying146
def kE:=@call86
def kF:=@isAgg26
def kG:=@underlying24
def kI:=@underlying258
def kJ:=@zeroValue258
def kK:=@zeroValue518
def kL:=@isAgg302
def kM:=@sizeOf139
def kN:=@underlying35
def kO:=@sizeOf514
def lQ:=@isAgg179
def lR:=@sizeOf178
def lS:=@sizeOf265
def lT:=@isAgg63
def lU:=@call251
def lV:=@sizeOf24
def lW:=@underlying425
def lX:=@underlying443
def lY:=@zeroValue195
def nf:=@underlying178
def ng:=@call257
def nh:=@call127
def ni:=@sizeOf492
def nj:=@underlying498
def nk:=@isAgg24
def np:=@sizeOf25
def nq:=@underlying512
def nr:=@sizeOf510
def nt:=@underlying142
def nu:=@sizeOf64
def nv:=@call36
def nx:=@underlying333
def ny:=@call22
def nz:=@underlying510
def nB:=@underlying298
def pC:=@call72
def pD:=@underlying361
def pE:=@call277
def pF:=@underlying267
def pG:=@underlying265
def pH:=@sizeOf418
def pI:=@zeroValue85
def pJ:=@zeroValue87
def pK:=@zeroValue498
def pL:=@isAgg25
def pM:=@underlying368
def pN:=@underlying525
def pO:=@isAgg195
def pP:=@call21
def pQ:=@underlying31
def pR:=@sizeOf31
def pS:=@sizeOf32
def pT:=@isAgg32
def pU:=@call59
def pW:=@call140
def s6:=@underlying5
def s7:=@sizeOf239
def s8:=@call301
def s9:=@call264
def sd:=@isAgg146
def se:=@underlying418
def sf:=@sizeOf417
def sg:=@call258
def sh:=@isAgg87
def si:=@isAgg61
def sj:=@isAgg498
def sk:=@sizeOf410
def so:=@sizeOf258
def sq:=@call45
def sr:=@call120
def su:=@sizeOf423
def sx:=@sizeOf456
def sy:=@call508
def sB:=@call506
def sD:=@sizeOf523
def sF:=@call143
def sG:=@sizeOf440
def sH:=@sizeOf441
def sI:=@zeroValue138
def sJ:=@underlying92
def sK:=@sizeOf65
def sM:=@sizeOf66
def sN:=@sizeOf55
def sP:=@underlying514
def sQ:=@underlying508
def sR:=@isAgg139
def sT:=@underlying22
def sW:=@call43
def sX:=@call157
def sY:=@call161
def sZ:=@call7
def wQ:=@underlying63
def wR:=@func29
def wS:=@underlying239
def wT:=@call278
def wU:=@call293
def wW:=@call361
def wX:=@call299
def wY:=@zeroValue146
def wZ:=@zeroValue270
def x0:=@sizeOf218
def x9:=@isAgg265
def xa:=@call259
def xb:=@isAgg85
def xd:=@call164
def xe:=@zeroValue61
def xf:=@isAgg410
def xg:=@isAgg492
def xh:=@isAgg144
def xi:=@zeroValue144
def xj:=@underlying259
def xk:=@call119
def xl:=@underlying139
def xm:=@sizeOf207
def xn:=@isAgg207
def xo:=@call144
def xp:=@isAgg64
def xq:=@sizeOf98
def xt:=@underlying377
def xu:=@underlying129
def xv:=@call505
def xw:=@call492
def xx:=@underlying306
def xy:=@call256
def xz:=@underlying138
def xA:=@sizeOf132
def xB:=@isAgg138
def xC:=@sizeOf140
def xD:=@underlying30
def xE:=@sizeOf331
def xF:=@sizeOf30
def xG:=@isAgg510
def xH:=@isAgg514
def xI:=@zeroValue514
def xJ:=@func385
def xK:=@underlying594
def xL:=@call411
def xM:=@call410
def xN:=@func59
def xO:=@underlying32
def xP:=@isAgg31
def xQ:=@call137
def xR:=@call148
def xS:=@underlying4
def xT:=@call54
def xU:=@isAgg291
def xV:=@call6
def xW:=@func3
def Ew:=@underlying207
def Ey:=@zeroValue178
def Ez:=@underlying64
def EA:=@zeroValue422
def EB:=@underlying454
def EC:=@underlying423
def ED:=@zeroValue500
def EE:=@zeroValue456
def EF:=@underlying302
def EG:=@underlying331
def EH:=@underlying90
def EI:=@zeroValue35
def EJ:=@zeroValue302
def EK:=@zeroValue306
def EL:=@zeroValue29
def EM:=@underlying54
def EN:=@zeroValue291
section
open Go.RowKit
abbrev HP := List (Nat × Obj) → Prop
def pt (b : Nat) (o : Obj) : HP := fun l => l = [(b, o)]
abbrev am (l : List Value) (t : TypeId) : Obj := .cells l.toArray t (0, 0)
def dX : List HP → List (Nat × Obj) → Prop
 | [], l => l = []
 | a :: A, l => ∃ l1 l2, l = l1 ++ l2 ∧ a l1 ∧ dX A l2
structure Own (W0 w : World) (A : List HP) : Prop where
  os : w.os = W0.os
  tape : w.tape = W0.tape
  output : w.output = W0.output
  size : W0.heap.size ≤ w.heap.size
  base : ∀ b, b < W0.heap.size → w.heap[b]? = W0.heap[b]?
  owns : ∃ ls : List (Nat × Obj), dX A ls ∧ (ls.map (·.1)).Nodup ∧ ∀ p ∈ ls, W0.heap.size ≤ p.1 ∧ w.heap[p.1]? = some p.2
theorem dX.perm {A B : List HP} (h : A.Perm B) : ∀ {l}, dX A l → ∃ l', dX B l' ∧ l.Perm l' := by
 induction h with
 | nil => exact fun h => ⟨_, h, List.Perm.refl _⟩
 | cons x h ih =>
  rintro l ⟨l1, l2, rfl, ha, hs⟩
  obtain ⟨l', hs', hp⟩ := ih hs
  exact ⟨l1 ++ l', ⟨l1, l', rfl, ha, hs'⟩, hp.append_left l1⟩
 | swap x y l =>
  rintro l ⟨l1, l2, rfl, ha, m1, m2, rfl, hb, hs⟩
  refine ⟨m1 ++ (l1 ++ m2), ⟨m1, l1 ++ m2, rfl, hb, l1, m2, rfl, ha, hs⟩, ?_⟩
  rw [← List.append_assoc, ← List.append_assoc]
  exact (List.perm_append_comm).append_right m2
 | trans h1 h2 ih1 ih2 =>
  intro l hl
  obtain ⟨l', hs, hp⟩ := ih1 hl
  obtain ⟨l'', hs', hp'⟩ := ih2 hs
  exact ⟨l'', hs', hp.trans hp'⟩
theorem Own.perm {W0 w : World} {A B : List HP} (h : Own W0 w A) (hp : A.Perm B) : Own W0 w B := by
 obtain ⟨ls, hs, hn, hb⟩ := h.owns
 obtain ⟨l', hs', hp'⟩ := hs.perm hp
 exact ⟨h.os, h.tape, h.output, h.size, h.base, l', hs', (hp'.map _).nodup hn, fun p hm => hb p (hp'.mem_iff.2 hm)⟩
theorem Own.drop {W0 w : World} {a : HP} {A : List HP} (h : Own W0 w (a :: A)) : Own W0 w A := by
 obtain ⟨ls, ⟨l1, l2, rfl, _, hs⟩, hn, hb⟩ := h.owns
 refine ⟨h.os, h.tape, h.output, h.size, h.base, l2, hs, ?_, fun p hm => hb p (List.mem_append_right _ hm)⟩
 rw [List.map_append] at hn
 exact (List.nodup_append.1 hn).2.1
theorem Own.refl (W : World) : Own W W [] := ⟨rfl, rfl, rfl, Nat.le_refl _, fun _ _ => rfl, [], rfl, List.nodup_nil, fun _ h => by cases h⟩
theorem Own.below {W0 w : World} {A : List HP} (h : Own W0 w A) : Below W0.heap.size W0 w := ⟨h.os, h.tape, h.output, h.size, h.base⟩
theorem Own.drew {W0 w : World} {A : List HP} (h : Own W0 w A) (n : Nat) : Own W0 { w with drawn := n } A := ⟨h.os, h.tape, h.output, h.size, h.base, h.owns⟩
theorem Own.has {W0 w : World} {b : Nat} {o : Obj} {A : List HP} (h : Own W0 w (pt b o :: A)) : W0.heap.size ≤ b ∧ w.heap[b]? = some o := by
 obtain ⟨ls, ⟨l1, l2, rfl, h1, _⟩, _, hb⟩ := h.owns
 cases h1
 exact hb (b, o) (by simp)
theorem Own.set {W0 w w' : World} {b : Nat} {o o' : Obj} {A : List HP} (h : Own W0 w (pt b o :: A)) (hos : w'.os = w.os) (htape : w'.tape = w.tape)
    (hout : w'.output = w.output) (hsz : w'.heap.size = w.heap.size)
    (hb : w'.heap[b]? = some o') (hne : ∀ k, k ≠ b → w'.heap[k]? = w.heap[k]?) : Own W0 w' (pt b o' :: A) := by
 have hbase := h.has.1
 obtain ⟨ls, ⟨l1, l2, rfl, h1, hs⟩, hn, hm⟩ := h.owns
 cases h1
 refine ⟨hos.trans h.os, htape.trans h.tape, hout.trans h.output, by have := h.size; omega, fun k hk => ?_, (b, o') :: l2, ⟨[(b, o')], l2, rfl, rfl, hs⟩, ?_, ?_⟩
 rw [hne k (by omega)]; exact h.base k hk
 simpa using hn
 rintro p hp
 rcases List.mem_cons.1 hp with rfl | hp
 exact ⟨hbase, hb⟩
 have hp' := hm p (List.mem_append_right _ hp)
 refine ⟨hp'.1, ?_⟩
 rw [hne]; · exact hp'.2
 intro e
 simp only [List.singleton_append, List.map_cons, List.nodup_cons, List.mem_map, not_exists, not_and] at hn
 exact hn.1 p hp e
theorem Own.new {W0 w : World} {A : List HP} (h : Own W0 w A) (o : Obj) : Own W0 { w with heap := w.heap.push o } (pt w.heap.size o :: A) := by
 obtain ⟨ls, hs, hn, hb⟩ := h.owns
 refine ⟨h.os, h.tape, h.output, ?_, fun k hk => ?_, (w.heap.size, o) :: ls, ⟨[_], ls, rfl, rfl, hs⟩, ?_, ?_⟩
 have := h.size; simp; omega
 have := h.size
 show (w.heap.push o)[k]? = _
 rw [Array.getElem?_push, if_neg (by omega)]; exact h.base k hk
 simp only [List.map_cons, List.nodup_cons]
 refine ⟨?_, hn⟩
 intro hmem
 obtain ⟨p, hp, e⟩ := List.mem_map.1 hmem
 have := (hb p hp).2
 rw [e] at this
 simp at this
 rintro p hp
 show _ ∧ (w.heap.push o)[p.1]? = _
 rcases List.mem_cons.1 hp with rfl | hp
 exact ⟨h.size, by simp⟩
 refine ⟨(hb p hp).1, ?_⟩
 have := (hb p hp).2
 have hlt : p.1 < w.heap.size := by
  rcases Nat.lt_or_ge p.1 w.heap.size with h | h
  exact h
  rw [Array.getElem?_eq_none h] at this; cases this
 rw [Array.getElem?_push, if_neg (by omega)]; exact this
class Tk {K X : Type} (r : K → X → HP) (b : K) (A : List HP) (x : outParam X) (R : outParam (List HP)) : Prop where
  perm : A.Perm (r b x :: R)
instance EO {K X : Type} {r : K → X → HP} {b : K} {x : X} {R : List HP} : Tk r b (r b x :: R) x R := ⟨List.Perm.refl _⟩
instance (priority := low) tk_there {K X : Type} {r : K → X → HP} {b : K} {c : HP} {A : List HP} {x : X} {R : List HP} [h : Tk r b A x R] : Tk r b (c :: A) x (c :: R) :=
  ⟨(h.perm.cons c).trans (List.Perm.swap _ _ _)⟩
class Ent (A B : List HP) : Prop where
  out : ∀ l, dX A l → ∃ l' r, dX B l' ∧ l.Perm (l' ++ r)
theorem Own.ent {W0 w : World} {A B : List HP} (h : Own W0 w A) (e : Ent A B) : Own W0 w B := by
 obtain ⟨ls, hs, hn, hb⟩ := h.owns
 obtain ⟨l', r, hs', hp⟩ := e.out _ hs
 refine ⟨h.os, h.tape, h.output, h.size, h.base, l', hs', ?_, fun p hm => hb p (hp.mem_iff.2 (List.mem_append_left _ hm))⟩
 have := (hp.map (·.1)).nodup hn
 rw [List.map_append] at this
 exact (List.nodup_append.1 this).1
instance (priority := high) ent_refl {A : List HP} : Ent A A := ⟨fun l h => ⟨l, [], h, by simp⟩⟩
theorem Ent.trans {A B C : List HP} (h : Ent A B) (k : Ent B C) : Ent A C := ⟨fun l hl => by
 obtain ⟨l1, r1, hs1, hp1⟩ := h.out l hl
 obtain ⟨l2, r2, hs2, hp2⟩ := k.out l1 hs1
 exact ⟨l2, r2 ++ r1, hs2, hp1.trans (by rw [← List.append_assoc]; exact hp2.append_right r1)⟩⟩
theorem Ent.ofPerm {A B : List HP} (h : A.Perm B) : Ent A B := ⟨fun l hl => by
 obtain ⟨l', hs, hp⟩ := hl |> dX.perm h
 exact ⟨l', [], hs, by simpa using hp⟩⟩
theorem Ent.cons {a : HP} {A B : List HP} (h : Ent A B) : Ent (a :: A) (a :: B) := ⟨fun l hl => by
 obtain ⟨l1, l2, rfl, ha, hs⟩ := hl
 obtain ⟨l', r, hs', hp⟩ := h.out l2 hs
 exact ⟨l1 ++ l', r, ⟨l1, l', rfl, ha, hs'⟩, by rw [List.append_assoc]; exact hp.append_left l1⟩⟩
theorem Ent.drop {a : HP} {A : List HP} : Ent (a :: A) A := ⟨fun l hl => by
 obtain ⟨l1, l2, rfl, _, hs⟩ := hl
 exact ⟨l2, l1, hs, List.perm_append_comm⟩⟩
instance EP {K X : Type} {r : K → X → HP} {b : K} {x : X} {A R B : List HP} [h : Tk r b A x R] [k : Ent R B] : Ent A (r b x :: B) :=
  (Ent.ofPerm h.perm).trans k.cons
instance (priority := low) ent_drop {a : HP} {A B : List HP} [k : Ent A B] : Ent (a :: A) B := Ent.drop.trans k
def bC (A : List HP) : HP := fun l => dX A l
theorem dX.append {A B : List HP} {l : List (Nat × Obj)} : dX (A ++ B) l ↔ ∃ l1 l2, l = l1 ++ l2 ∧ dX A l1 ∧ dX B l2 := by
 induction A generalizing l with
 | nil => exact ⟨fun h => ⟨[], l, rfl, rfl, h⟩, by rintro ⟨l1, l2, rfl, rfl, h⟩; exact h⟩
 | cons a A ih =>
  constructor
  rintro ⟨l1, l2, rfl, ha, hs⟩
  obtain ⟨m1, m2, rfl, h1, h2⟩ := ih.1 hs
  exact ⟨l1 ++ m1, m2, by simp, ⟨l1, m1, rfl, ha, h1⟩, h2⟩
  rintro ⟨l1, l2, rfl, ⟨m1, m2, rfl, ha, hs⟩, h2⟩
  exact ⟨m1, m2 ++ l2, by simp, ha, ih.2 ⟨m2, l2, rfl, hs, h2⟩⟩
theorem iS {A R : List HP} : Ent (bC A :: R) (A ++ R) := ⟨fun l hl => by
 obtain ⟨l1, l2, rfl, ha, hs⟩ := hl
 exact ⟨l1 ++ l2, [], dX.append.2 ⟨l1, l2, rfl, ha, hs⟩, by simp⟩⟩
theorem gN {A R : List HP} : Ent (A ++ R) (bC A :: R) := ⟨fun l hl => by
 obtain ⟨l1, l2, rfl, ha, hs⟩ := dX.append.1 hl
 exact ⟨l1 ++ l2, [], ⟨l1, l2, rfl, ha, hs⟩, by simp⟩⟩
abbrev bq := List (Nat × Value)
def dq : bq → Nat → Option Value
 | [], _ => none
 | (t, v) :: r, u => match Nat.beq t u with | true => some v | false => dq r u
def ev (e : bq) : Operand → Option Value
 | .tmp t => dq e t
 | .const v => some v
 | .global g => some (.pointer (some ⟨g, 0, none⟩))
 | .func f => some (.func (.func f) #[] #[])
def dO (e : bq) : List Operand → Option (List Value)
 | [] => some []
 | x :: xs => match ev e x with
   | some v => match dO e xs with
     | some vs => some (v :: vs)
     | none => none
   | none => none
structure FSz where
  n : Nat
  ds : List Deferred
structure Fr (a : Act) (N : FSz) (e : bq) : Prop where
  defers : a.defers = N.ds
  size : a.tmps.size = N.n
  at_ : ∀ t v, dq e t = some v → a.tmps[t]? = some v
theorem Fr.eval {a : Act} {N : FSz} {e : bq} (h : Fr a N e) {x : Operand} {v : Value} (hx : ev e x = some v) : a.eval x = v := by
 cases x with
 | tmp t => simp [Act.eval, Array.getD_eq_getD_getElem?, h.at_ t v hx]
 | const c => exact Option.some.inj hx
 | global g => exact Option.some.inj hx
 | func f => exact Option.some.inj hx
theorem Fr.evals {a : Act} {N : FSz} {e : bq} (h : Fr a N e) : ∀ {xs : List Operand} {vs : List Value}, dO e xs = some vs → xs.map a.eval = vs
 | [], vs, hx => by simp [dO] at hx; simp [hx]
 | x :: xs, vs, hx => by
  unfold dO at hx
  cases hv : ev e x with
  | none => rw [hv] at hx; cases hx
  | some v =>
   rw [hv] at hx
   cases hvs : dO e xs with
   | none => simp only [hvs] at hx; cases hx
   | some vs' =>
    simp only [hvs, Option.some.injEq] at hx
    subst hx
    simp [h.eval hv, h.evals hvs]
theorem pX {e : bq} {t : Nat} {v : Value} : dq ((t, v) :: e) t = some v := by simp [dq]
theorem pY {e : bq} {t u : Nat} {v : Value} (h : t ≠ u) : dq ((t, v) :: e) u = dq e u := by
 have : Nat.beq t u = false := by
  cases hb : Nat.beq t u with
  | false => rfl
  | true => exact absurd (Nat.eq_of_beq_eq_true hb) h
 simp [dq, this]
theorem Fr.put {a : Act} {N : FSz} {e : bq} (h : Fr a N e) {d : Nat} (hd : d < N.n) (v : Value) : Fr (a.put (some d) v) N ((d, v) :: e) := by
 refine ⟨h.defers, by simp [Act.put, h.size], fun t u hu => ?_⟩
 show (a.tmps.setIfInBounds d v)[t]? = some u
 by_cases e' : d = t
 subst e'
 rw [pX] at hu
 have hd' : d < a.tmps.size := by rw [h.size]; exact hd
 simp [hd', Option.some.inj hu]
 rw [pY e'] at hu
 rw [Array.getElem?_setIfInBounds, if_neg e']
 exact h.at_ t u hu
def iT (e e' : bq) : Prop := ∀ t v, dq e' t = some v → dq e t = some v
theorem Fr.sub {a : Act} {N : FSz} {e e' : bq} (h : Fr a N e) (s : iT e e') : Fr a N e' := ⟨h.defers, h.size, fun t v hv => h.at_ t v (s t v hv)⟩
theorem aQ {e : bq} : iT e [] := fun _ _ h => by cases h
theorem aO {e e' : bq} {t : Nat} {v : Value} (h : dq e t = some v) (k : iT e e') : iT e ((t, v) :: e') := fun u x hx => by
 by_cases c : t = u
 subst c; rw [pX] at hx; rw [h]; exact hx
 rw [pY c] at hx; exact k u x hx
theorem lZ {e : bq} : iT e e := fun _ _ h => h
def aG (W0 : World) (N : FSz) (K : Act → World → Prop) (e : bq) (A : List HP) : Prop := ∀ a w, Fr a N e → Own W0 w A → K a w
def Ex (Q : Exit → Act → World → Prop) (x : Exit) : Act → World → Prop := fun a w => Q x a w
def ax (P : Program) (W0 : World) (f : FuncId) (args : List Value) (A : List HP) (Post : Value → List HP → Prop) : Prop :=
  ∀ w, Own W0 w A → Calls P f args.toArray w fun e w' => ∃ v B, e = .returned v ∧ Post v B ∧ Own W0 w' B
section
variable {W0 : World} {N : FSz} {K K' : Act → World → Prop} {e e' : bq} {A B : List HP}
theorem gm (h : Ent A B) (r : aG W0 N K e B) : aG W0 N K e A := fun a w hF hO => r a w hF (hO.ent h)
theorem m0 (h : A.Perm B) (r : aG W0 N K e B) : aG W0 N K e A := fun a w hF hO => r a w hF (hO.perm h)
end
def FW (rd : Option Nat) : Fence := { Fence.wide with round := rd }
def _root_.Go.Code.wpR (c : Code) (rd : Option Nat) (P : Program) (Q : Exit → Act → World → Prop) (a : Act) (w : World) : Prop := c.wpIn (FW rd) 0 P Q a w
theorem pZ {P : Program} {c : Code} {Q : Exit → Act → World → Prop} {a : Act} {w : World} : c.wpR none P Q a w ↔ c.wp P Q a w := wpIn_wide
theorem nD {rd : Option Nat} {n : Nat} {P : Program} {f : FuncId} {args : Array Value} {w : World} {R : Ending → World → Prop} : CallsIn (FW rd) n P f args w R ↔ Calls P f args w R :=
  callsIn_wide (n := n)
theorem xX {rd : Option Nat} {P : Program} {m m' : Machine} : StepsIn (Machine.fenced P (FW rd)) P m m' ↔ Steps P m m' := stepsIn_wide
theorem t0 {rd : Option Nat} {P : Program} {o : Oper} {a : Act} {K K' : Act → World → Prop} {Q : Exit → Act → World → Prop} (hk : ∀ a w, K a w → K' a w) :
    ∀ {r : Result Next}, o.upon P a K Q r → o.uponIn (FW rd) 0 P a K' Q r
 | .ok (.value v) w, h => hk _ _ h
 | .ok .skip w, h => hk _ _ h
 | .ok (.defer d) w, h => hk _ _ h
 | .ok (.enter f args) w, h => ⟨fun h => (by cases h), nD.2 (Calls.mono (show Calls P f args w _ from h) (by
     intro e w' he
     cases e with
     | returned v => exact hk _ _ he
     | panicked c => exact he
     | outgrown => exact he))⟩
 | .ok (.row row args) w, h => ⟨fun h => (by cases h), fun c cs _ => by
  obtain ⟨v, w', h1, h2⟩ := (show Rows P row args w _ from h) c cs
  exact ⟨v, w', hk _ _ h1, xX.2 h2⟩⟩
 | .halt (.panic v) w, h => h
theorem xY {rd : Option Nat} {P : Program} {o : Oper} {a : Act} {K K' : Act → World → Prop} {Q : Exit → Act → World → Prop} (hk : ∀ a w, K a w → K' a w) :
    ∀ {r : Result Next}, o.uponIn (FW rd) 0 P a K Q r → o.uponIn (FW rd) 0 P a K' Q r
 | .ok (.value v) w, h => hk _ _ h
 | .ok .skip w, h => hk _ _ h
 | .ok (.defer d) w, h => hk _ _ h
 | .ok (.enter f args) w, h => ⟨h.1, CallsIn.mono h.2 (by
     intro e w' he
     cases e with
     | returned v => exact hk _ _ he
     | panicked c => exact he
     | outgrown => exact he)⟩
 | .ok (.row row args) w, h => ⟨h.1, RowsIn.mono h.2 (fun v w' he => hk _ _ he)⟩
 | .ok (.round l f tmps assign body) w, h => ⟨h.1, RoundIn.mono h.2 (by
     intro e w' he
     cases e with
     | returned v => exact hk _ _ he
     | panicked c => exact he
     | outgrown => exact he)⟩
 | .halt (.panic v) w, h => h
def cz (rd : Option Nat) (P : Program) (ops : Array Oper) (Q : Exit → Act → World → Prop) : List Oper → Act → World → Prop
 | [], a, w => Q .normal a w
 | o :: rest, a, w =>
  if Region.wanted o (yielded ops a.tmps) then o.wp P a w (cz rd P ops Q rest) Q ∨ o.wpIn (FW rd) 0 P a w (cz rd P ops Q rest) Q
  else cz rd P ops Q rest (a.put o.dst undef) w
def q9 (o : Oper) : Bool := match o.op with | .defer _ => false | _ => true
theorem t1 {o : Oper} (h : q9 o = true) : ∀ c, o.op ≠ .defer c := fun c hc => by simp [q9, hc] at h
def jY (rd : Option Nat) (ops : List Oper) : Bool := rd.isNone || ops.all q9
theorem t2 {rd : Option Nat} {P : Program} {ops : Array Oper} {Q : Exit → Act → World → Prop} (hp : jY rd ops.toList = true) : ∀ (n i : Nat), i + n = ops.size → ∀ a w, cz rd P ops Q (ops.toList.drop i) a w →
    wpOpsIn (FW rd) 0 P ops Q (List.range' i n) a w
 | 0, i, h, a, w, hw => by
  have : ops.toList.drop i = [] := by rw [List.drop_eq_nil_iff]; simp; omega
  rw [this] at hw; exact hw
 | n + 1, i, h, a, w, hw => by
  have hi : i < ops.size := by omega
  have e1 : ops.toList.drop i = ops[i] :: ops.toList.drop (i + 1) := by
   rw [List.drop_eq_getElem_cons (by simpa using hi)]; simp
  rw [e1] at hw
  rw [List.range'_succ]
  have ih := t2 (rd := rd) (P := P) (Q := Q) hp n (i + 1) (by omega)
  simp only [wpOpsIn, Array.getElem?_eq_getElem hi]
  simp only [cz] at hw
  split at hw
  rename_i hwant
  rw [if_pos hwant]
  rcases hw with hw | hw
  have hsem : (ops[i]).semAt (FW rd).round a.eval = execOp a.eval ops[i] := by
   cases rd with
   | none => rfl
   | some l =>
    refine Oper.semAt_eq _ _ _ (t1 ?_)
    simp only [jY, Option.isNone_some, Bool.false_or, List.all_eq_true] at hp
    exact hp _ (by simp)
  refine ⟨fun _ _ => trivial, ?_⟩
  rw [hsem]
  exact t0 ih hw
  exact ⟨hw.1, xY ih hw.2⟩
  rename_i hwant
  rw [if_neg hwant]
  exact ⟨fun _ _ => trivial, ih _ _ hw⟩
theorem xZ {rd : Option Nat} {P : Program} {id : Nat} {ops : Array Oper} {Q : Exit → Act → World → Prop} {a : Act} {w : World} (hp : jY rd ops.toList = true)
    (h : cz rd P ops Q ops.toList a w) : (Code.region id ops false).wpR rd P Q a w := by
 refine wpIn_region ?_
 rw [List.range_eq_range']
 exact t2 hp ops.size 0 (by omega) a w (by simpa using h)
section control
variable {rd : Option Nat} {P : Program} {W0 : World} {N : FSz} {Q Q' : Exit → Act → World → Prop} {e e' : bq} {A B : List HP}
theorem ae {id : Nat} {ops : Array Oper} (h : aG W0 N (cz rd P ops Q ops.toList) e A) (hp : jY rd ops.toList = true := by rfl) : aG W0 N ((Code.region id ops false).wpR rd P Q) e A :=
  fun a w hF hO => xZ hp (h a w hF hO)
theorem aa {x y : Code} (h : aG W0 N (x.wpR rd P (Exit.then (y.wpR rd P Q) Q)) e A) : aG W0 N ((Code.seq x y).wpR rd P Q) e A := fun a w hF hO => wpIn_seq (h a w hF hO)
theorem aA (h : aG W0 N (Ex Q .normal) e A) : aG W0 N (Code.skip.wpR rd P Q) e A := fun a w hF hO => wpIn_skip (h a w hF hO)
theorem ao (h : aG W0 N (Ex Q .ret) e A) : aG W0 N (Code.ret.wpR rd P Q) e A := fun a w hF hO => wpIn_ret (h a w hF hO)
theorem bF {id : Nat} (h : aG W0 N (Ex Q (.exit id)) e A) : aG W0 N ((Code.exit id).wpR rd P Q) e A := fun a w hF hO => wpIn_exit (h a w hF hO)
theorem aP {id : Nat} {c : Code} (h : aG W0 N (c.wpR rd P (Exit.inBlock id Q)) e A) : aG W0 N ((Code.block id c).wpR rd P Q) e A := fun a w hF hO => wpIn_block (h a w hF hO)
theorem t4 {l : Nat} (h : aG W0 N (Ex Q .normal) e A) : aG W0 N ((Code.label l).wpR rd P Q) e A := fun a w hF hO => wpIn_label (h a w hF hO)
theorem ac {ops : Array Oper} (h : aG W0 N (Ex Q .normal) e A) : aG W0 N (cz rd P ops Q []) e A := fun a w hF hO => h a w hF hO
theorem y0 {c : Operand} {x y : Code} {t : Nat} {b : Bool} (hc : c = .tmp t) (hv : dq e t = some (.bool b))
    (ht : b = true → aG W0 N (x.wpR rd P Q) ((t, .bool true) :: e) A) (hf : b = false → aG W0 N (y.wpR rd P Q) ((t, .bool false) :: e) A) : aG W0 N ((Code.cond c x y).wpR rd P Q) e A := by
  intro a w hF hO
  subst hc
  have hs : ∀ b', b = b' → iT e ((t, .bool b') :: e) := fun b' hb => aO (hb ▸ hv) lZ
  cases hb : b with
  | true => exact wpIn_cond_true (hF.eval (x := .tmp t) (hb ▸ hv)) (ht hb a w (hF.sub (hs _ hb)) hO)
  | false => exact wpIn_cond_false (hF.eval (x := .tmp t) (hb ▸ hv)) (hf hb a w (hF.sub (hs _ hb)) hO)

-- ways out
theorem a8 {n : Act → World → Prop} (h : aG W0 N n e A) : aG W0 N (Ex (Exit.then n Q) .normal) e A := h
theorem bw {id : Nat} (h : aG W0 N (Ex Q .normal) e A) : aG W0 N (Ex (Exit.inBlock id Q) .normal) e A := h
theorem aR {n : Act → World → Prop} {id : Nat} (h : aG W0 N (Ex Q (.exit id)) e A) : aG W0 N (Ex (Exit.then n Q) (.exit id)) e A := h
theorem bH {id : Nat} (h : aG W0 N (Ex Q .normal) e A) : aG W0 N (Ex (Exit.inBlock id Q) (.exit id)) e A := fun a w hF hO => by
 simp only [Ex, Exit.inBlock, if_true]; exact h a w hF hO
theorem dY {id j : Nat} (hj : Nat.beq j id = false) (h : aG W0 N (Ex Q (.exit j)) e A) : aG W0 N (Ex (Exit.inBlock id Q) (.exit j)) e A := fun a w hF hO => by
 have : j ≠ id := Nat.ne_of_beq_eq_false hj
 simp only [Ex, Exit.inBlock, this, if_false]; exact h a w hF hO
theorem aJ {n : Act → World → Prop} (h : aG W0 N (Ex Q .ret) e A) : aG W0 N (Ex (Exit.then n Q) .ret) e A := h
theorem be {id : Nat} (h : aG W0 N (Ex Q .ret) e A) : aG W0 N (Ex (Exit.inBlock id Q) .ret) e A := h
def t6 (W0 : World) (N : FSz) {X : Type} (I : X → Prop) (E : X → bq) (C : X → List HP) (μ : X → Nat) (x : X) : Act → World → Prop :=
  fun a w => ∃ y, I y ∧ μ y < μ x ∧ Fr a N (E y) ∧ Own W0 w (C y)
theorem bX {X : Type} (I : X → Prop) (E : X → bq) (C : X → List HP) (μ : X → Nat) (x : X) {c : Code} (hI : I x) (hs : iT e (E x)) (he : Ent A (C x))
    (hr : ∀ x, I x → aG W0 N (c.wpR rd P (Exit.then (t6 W0 N I E C μ x) Q)) (E x) (C x)) : aG W0 N ((Code.loop c).wpR rd P Q) e A := by
 intro a w hF hO b k cs hro hb hr0
 have key : ∀ n x, μ x = n → I x → ∀ a w, Fr a N (E x) → Own W0 w (C x) →
     ∃ e a' w', Q e a' w' ∧ ArrivesIn (Machine.fenced P (FW rd)) P (lone (b.atR a (.code c :: .inLoop c :: k)) cs w) b k cs e a' w' := by
   intro n
   induction n using Nat.strongRecOn with
   | _ n ih =>
     intro x hn hIx a w hF hO
     obtain ⟨ex, a₁, w₁, hq, harr⟩ := hr x hIx a w hF hO b (.inLoop c :: k) cs hro hb hr0
     cases ex with
     | normal =>
       obtain ⟨y, hIy, hlt, hF₁, hO₁⟩ := hq
       obtain ⟨e₂, a₂, w₂, hq₂, harr₂⟩ := ih (μ y) (hn ▸ hlt) y rfl hIy a₁ w₁ hF₁ hO₁
       exact ⟨e₂, a₂, w₂, hq₂, .of_steps (StepsIn.trans harr (.one (fenced_calm hb hr0 rfl) stepR_inLoop)) harr₂⟩
     | exit id => exact ⟨_, a₁, w₁, hq, .pass (x := .inLoop c) rfl (fun _ _ => .inl (by simp)) harr⟩
     | goto l => exact ⟨_, a₁, w₁, hq, .pass (x := .inLoop c) rfl (fun _ _ => .inl (by simp)) harr⟩
     | ret => exact ⟨_, a₁, w₁, hq, .pass (x := .inLoop c) rfl (fun _ _ => .inl (by simp)) harr⟩
     | panic ch => exact ⟨_, a₁, w₁, hq, .pass (x := .inLoop c) rfl (fun _ _ => .inl (by simp)) harr⟩
     | outgrown => exact ⟨_, a₁, w₁, hq, .pass (x := .inLoop c) rfl (fun _ _ => .inl (by simp)) harr⟩
 obtain ⟨e, a', w', hq, harr⟩ := key _ x rfl hI a w (hF.sub hs) (hO.ent he)
 exact ⟨e, a', w', hq, .of_steps (.one (fenced_calm hb hr0 rfl) stepR_loop) harr⟩
theorem cg {X : Type} {I : X → Prop} {E : X → bq} {C : X → List HP} {μ : X → Nat} {x : X} (y : X) (hI : I y) (hμ : μ y < μ x) (hs : iT e (E y)) (he : Ent A (C y)) : aG W0 N (t6 W0 N I E C μ x) e A :=
  fun _ _ hF hO => ⟨y, hI, hμ, hF.sub hs, hO.ent he⟩
def t7 (W0 : World) (N : FSz) {X : Type} (I : X → Prop) (E : X → bq) (C : X → List HP) : Act → World → Prop := fun a w => ∃ y, I y ∧ Fr a N (E y) ∧ Own W0 w (C y)
theorem gQ {X : Type} (I : X → Prop) (E : X → bq) (C : X → List HP) {x y : Code} (h1 : aG W0 N (x.wpR rd P (Exit.then (t7 W0 N I E C) Q)) e A)
    (h2 : ∀ z, I z → aG W0 N (y.wpR rd P Q) (E z) (C z)) : aG W0 N ((Code.seq x y).wpR rd P Q) e A := fun a w hF hO => by
 refine wpIn_seq (wpIn_mono (h1 a w hF hO) ?_)
 intro ex a' w' hq
 cases ex with
 | normal =>
  obtain ⟨z, hz, hF', hO'⟩ := hq
  exact h2 z hz a' w' hF' hO'
 | exit id => exact hq
 | goto l => exact hq
 | ret => exact hq
 | panic ch => exact hq
 | outgrown => exact hq
theorem dG {X : Type} {I : X → Prop} {E : X → bq} {C : X → List HP} (y : X) (hI : I y) (hs : iT e (E y)) (he : Ent A (C y)) : aG W0 N (t7 W0 N I E C) e A :=
  fun _ _ hF hO => ⟨y, hI, hF.sub hs, hO.ent he⟩
end control
def bj (W0 : World) (A : List HP) : World → Prop := fun w => Own W0 w A
def bO (P : Program) (S : World → Prop) (N : FSz) (e : bq) (op : Op) (v : Value) : Prop :=
  ∀ a w dst ty pos af g, Fr a N e → S w → (execOp a.eval { dst := dst, op := op, type := ty, pos := pos, after := af, guard := g }).run P w = .ok (.value v) w
section
variable {rd : Option Nat} {P : Program} {W0 : World} {N : FSz} {Q : Exit → Act → World → Prop} {e : bq} {A : List HP} {ops : Array Oper} {rest : List Oper}
variable {op : Op} {ty : TypeId} {pos : String} {af : Array Edge} {v : Value} {d : Nat}
theorem m3 {dst : Option Tmp} {y : Nat → Option Bool} : Region.wanted { dst := dst, op := op, type := ty, pos := pos, after := af, guard := none } y = true := rfl
theorem a7 (hd : Nat.blt d N.n = true) (hv : bO P (bj W0 A) N e op v) (k : aG W0 N (cz rd P ops Q rest) ((d, v) :: e) A) :
    aG W0 N (cz rd P ops Q ({ dst := some d, op := op, type := ty, pos := pos, after := af, guard := none } :: rest)) e A := by
 intro a w hF hO
 simp only [cz, m3, if_true]
 refine .inl ?_
 unfold Oper.wp
 rw [hv a w _ _ _ _ _ hF hO]
 exact k _ _ (hF.put (Nat.lt_of_lt_of_le (Nat.lt_of_succ_le (Nat.le_of_ble_eq_true hd)) (Nat.le_refl _)) v) hO
def ix (ops : Array Oper) (j : Nat) : Option Nat := (ops[j]?).bind (·.dst)
theorem qa {ops : Array Oper} {j t : Nat} {b : Bool} {a : Act} (ht : ix ops j = some t) (hv : a.tmps[t]? = some (.bool b)) : yielded ops a.tmps j = some b := by
 unfold ix at ht
 simp only [yielded]
 cases hj : ops[j]? with
 | none => rw [hj] at ht; cases ht
 | some o =>
  rw [hj] at ht
  simp only [Option.bind_some] at ht
  simp only [Option.bind_some, ht, hv]
theorem t8 {j t : Nat} {want b : Bool} {dst : Option Tmp} (ht : ix ops j = some t) (hv : dq e t = some (.bool b)) (hd : (match dst with | some d => Nat.blt d N.n | none => true) = true)
    (h1 : b = want → aG W0 N (cz rd P ops Q ({ dst := dst, op := op, type := ty, pos := pos, after := af, guard := none } :: rest)) ((t, .bool want) :: e) A)
    (h2 : b = !want → aG W0 N (cz rd P ops Q rest) (match dst with | some d => (d, undef) :: (t, .bool !want) :: e | none => (t, .bool !want) :: e) A) :
    aG W0 N (cz rd P ops Q ({ dst := dst, op := op, type := ty, pos := pos, after := af, guard := some (j, want) } :: rest)) e A := by
 intro a w hF hO
 have hy := qa ht (hF.at_ t _ hv)
 by_cases hb : b = want
 have h := h1 hb a w (hF.sub (aO (hb ▸ hv) lZ)) hO
 simp only [cz, m3, if_true] at h
 have hw : Region.wanted { dst := dst, op := op, type := ty, pos := pos, after := af, guard := some (j, want) } (yielded ops a.tmps) = true := by
  simp [Region.wanted, hy, hb]
 simp only [cz, hw, if_true]
 exact h
 have hb' : b = !want := by cases b <;> cases want <;> simp_all
 have hw : Region.wanted { dst := dst, op := op, type := ty, pos := pos, after := af, guard := some (j, want) } (yielded ops a.tmps) = false := by
  simp [Region.wanted, hy, hb']
 simp only [cz, hw, Bool.false_eq_true, if_false]
 have hF' := hF.sub (aO (t := t) (v := .bool !want) (hb' ▸ hv) lZ)
 cases dst with
 | none => exact h2 hb' a w hF' hO
 | some d => exact h2 hb' _ w (hF'.put (Nat.lt_of_succ_le (Nat.le_of_ble_eq_true hd)) undef) hO
theorem av {j t : Nat} {want : Bool} {dst : Option Tmp} (ht : ix ops j = some t) (hv : dq e t = some (.bool want))
    (h : aG W0 N (cz rd P ops Q ({ dst := dst, op := op, type := ty, pos := pos, after := af, guard := none } :: rest)) e A) :
    aG W0 N (cz rd P ops Q ({ dst := dst, op := op, type := ty, pos := pos, after := af, guard := some (j, want) } :: rest)) e A := by
 intro a w hF hO
 have hy := qa ht (hF.at_ t _ hv)
 have h := h a w hF hO
 simp only [cz, m3, if_true] at h
 have hw : Region.wanted { dst := dst, op := op, type := ty, pos := pos, after := af, guard := some (j, want) } (yielded ops a.tmps) = true := by
  simp [Region.wanted, hy]
 simp only [cz, hw, if_true]
 exact h
theorem aD {j t : Nat} {want b : Bool} (ht : ix ops j = some t) (hv : dq e t = some (.bool b)) (hb : Bool.xor b want = true) (hd : Nat.blt d N.n = true)
    (h : aG W0 N (cz rd P ops Q rest) ((d, undef) :: e) A) :
    aG W0 N (cz rd P ops Q ({ dst := some d, op := op, type := ty, pos := pos, after := af, guard := some (j, want) } :: rest)) e A := by
 intro a w hF hO
 have hy := qa ht (hF.at_ t _ hv)
 have hw : Region.wanted { dst := some d, op := op, type := ty, pos := pos, after := af, guard := some (j, want) } (yielded ops a.tmps) = false := by
  cases b <;> cases want <;> simp_all [Region.wanted]
 simp only [cz, hw, Bool.false_eq_true, if_false]
 exact h _ w (hF.put (Nat.lt_of_succ_le (Nat.le_of_ble_eq_true hd)) undef) hO
end
section
variable {rd : Option Nat} {P : Program} {S : World → Prop} {N : FSz} {e : bq} {x y c : Operand} {v u : Value} {t t' : TypeId} {k k' : IntKind} {m n r : Int}
theorem ab (h : ev e x = some v) : bO P S N e (.move x) v := fun a w _ _ _ _ _ hF _ => by
 rw [← hF.eval h]; rfl
theorem ag (h : ev e x = some v) : bO P S N e (.assign x) v := fun a w _ _ _ _ _ hF _ => by
 rw [← hF.eval h]; rfl
theorem bI (hc : ev e c = some (.bool true)) (h : ev e x = some v) : bO P S N e (.pick c x y) v := fun a w _ _ _ _ _ hF _ => by
 simp [execOp, hF.eval hc, hF.eval h, asBool]
theorem aX (hc : ev e c = some (.bool false)) (h : ev e y = some v) : bO P S N e (.pick c x y) v := fun a w _ _ _ _ _ hF _ => by
 simp [execOp, hF.eval hc, hF.eval h, asBool]
theorem ek {op : BinOp} (hx : ev e x = some u) (hy : ev e y = some v) {r : Value} (hg : ∀ w x y, (eqGuard op t x y u v).run P w = .ok () w)
    (h : ∀ w, (binOp op t u v).run P w = .ok r w) : bO P S N e (.binOp op t x y t') r := fun a w _ _ _ _ _ hF _ => by
 simp only [execOp, hF.eval hx, hF.eval hy, Sem.run_bind, hg, Result.andThen_ok, h, Sem.run_pure]
theorem fI {op : BinOp} (w : World) (x y : Operand) : (eqGuard op t x y (.int k m) (.int k' n)).run P w = .ok () w := by
 cases op <;> simp [eqGuard]
theorem y1 {op : BinOp} {p q : Bool} (w : World) (x y : Operand) : (eqGuard op t x y (.bool p) (.bool q)).run P w = .ok () w := by
 cases op <;> simp [eqGuard]
theorem y2 {op : BinOp} {p q : Option Addr} (w : World) (x y : Operand) : (eqGuard op t x y (.pointer p) (.pointer q)).run P w = .ok () w := by
 cases op <;> simp [eqGuard]
theorem bz (hx : ev e x = some (.int k m)) (hy : ev e y = some (.int k n)) (hw : k.wrap (m + n) = r) : bO P S N e (.binOp .add t x y t') (.int k r) :=
  ek hx hy fI fun w => by simp [binOp, Op.intArith, hw]
theorem d7 (hx : ev e x = some (.int k m)) (hy : ev e y = some (.int k n)) (hw : k.wrap (m - n) = r) : bO P S N e (.binOp .sub t x y t') (.int k r) :=
  ek hx hy fI fun w => by simp [binOp, Op.intArith, hw]
theorem iy (hx : ev e x = some (.int k m)) (hy : ev e y = some (.int k n)) (hw : k.wrap (m * n) = r) : bO P S N e (.binOp .mul t x y t') (.int k r) :=
  ek hx hy fI fun w => by simp [binOp, Op.intArith, hw]
theorem m4 (hx : ev e x = some (.int k m)) (hy : ev e y = some (.int k n)) (hn : n ≠ 0) (hw : k.wrap (m.tdiv n) = r) : bO P S N e (.binOp .quo t x y t') (.int k r) :=
  ek hx hy fI fun w => by simp [binOp, Op.intDiv, hw, hn]
theorem y3 (hx : ev e x = some (.int k m)) (hy : ev e y = some (.int k n)) (hn : n ≠ 0) (hw : m.tmod n = r) : bO P S N e (.binOp .rem t x y t') (.int k r) :=
  ek hx hy fI fun w => by simp [binOp, Op.intDiv, hw, hn]
def m5 (k : IntKind) (m n : Int) : Int := k.wrap (BitVec.ofInt k.bits m &&& BitVec.ofInt k.bits n).toNat
def qc (k : IntKind) (m n : Int) : Int := k.wrap (BitVec.ofInt k.bits m &&& ~~~ BitVec.ofInt k.bits n).toNat
theorem t9 (hx : ev e x = some (.int k m)) (hy : ev e y = some (.int k n)) (hw : m5 k m n = r) : bO P S N e (.binOp .and t x y t') (.int k r) :=
  ek hx hy fI fun w => by rw [← hw]; simp [binOp, Op.intBits, m5]
theorem y4 (hx : ev e x = some (.int k m)) (hy : ev e y = some (.int k n)) (hw : qc k m n = r) : bO P S N e (.binOp .andNot t x y t') (.int k r) :=
  ek hx hy fI fun w => by rw [← hw]; simp [binOp, Op.intBits, qc]
def kP (k : IntKind) (m n : Int) : Int := m.fdiv (2 ^ (min n.toNat k.bits))
theorem nE (hx : ev e x = some (.int k m)) (hy : ev e y = some (.int k' n)) (hn : 0 ≤ n) (hw : kP k m n = r) : bO P S N e (.binOp .shr t x y t') (.int k r) :=
  ek hx hy fI fun w => by
 have : ¬ n < 0 := by omega
 rw [← hw]; simp [binOp, Op.shift, this, kP]
theorem cu (hx : ev e x = some (.int k m)) (hy : ev e y = some (.int k n)) : bO P S N e (.binOp .eql t x y t') (.bool (m == n)) :=
  ek hx hy fI fun w => by simp [binOp, Op.intCmp]
theorem bT (hx : ev e x = some (.int k m)) (hy : ev e y = some (.int k n)) : bO P S N e (.binOp .neq t x y t') (.bool (m != n)) :=
  ek hx hy fI fun w => by simp [binOp, Op.intCmp]
theorem aV (hx : ev e x = some (.int k m)) (hy : ev e y = some (.int k n)) : bO P S N e (.binOp .lss t x y t') (.bool (decide (m < n))) :=
  ek hx hy fI fun w => by simp [binOp, Op.intCmp]
theorem iU (hx : ev e x = some (.int k m)) (hy : ev e y = some (.int k n)) : bO P S N e (.binOp .leq t x y t') (.bool (decide (m ≤ n))) :=
  ek hx hy fI fun w => by simp [binOp, Op.intCmp]
theorem cA (hx : ev e x = some (.int k m)) (hy : ev e y = some (.int k n)) : bO P S N e (.binOp .gtr t x y t') (.bool (decide (n < m))) :=
  ek hx hy fI fun w => by simp [binOp, Op.intCmp]
theorem dr (hx : ev e x = some (.int k m)) (hy : ev e y = some (.int k n)) : bO P S N e (.binOp .geq t x y t') (.bool (decide (n ≤ m))) :=
  ek hx hy fI fun w => by simp [binOp, Op.intCmp]
theorem d8 {d : TypeDesc} (h : P.underlying t = some d) (w : World) : (underlying t).run P w = .ok d w := by
 simp [underlying, h]
def gn (P : Program) (n : Nat) (t : TypeId) (u v : Value) (b : Bool) : Prop := ∀ d w, (Op.equalIn (d + n) t u v).run P w = .ok b w
theorem nF {u v : Value} {b : Bool} (hb : binOp .eql t u v = (do pure (.bool (← Op.equal t u v)))) (h : gn P 9 t u v b) (w : World) : (binOp .eql t u v).run P w = .ok (.bool b) w := by
 rw [hb]
 have := h 9991 w
 show ((Op.equalIn (9991 + 9) t u v) >>= _).run P w = _
 rw [Sem.run_bind, this]; rfl
theorem tc {u v : Value} {b : Bool} (hb : binOp .neq t u v = (do pure (.bool (!(← Op.equal t u v))))) (h : gn P 9 t u v b) (w : World) : (binOp .neq t u v).run P w = .ok (.bool (!b)) w := by
 rw [hb]
 have := h 9991 w
 show ((Op.equalIn (9991 + 9) t u v) >>= _).run P w = _
 rw [Sem.run_bind, this]; rfl
theorem y5 {p q : Bool} {z : Nat} (hu : P.underlying t = some .bool) : gn P (z + 1) t (.bool p) (.bool q) (p == q) := fun d w => run_equalIn_bool' w (d + z) t p q hu
theorem jc {z : Nat} (hu : P.underlying t = some (.int k')) : gn P (z + 1) t (.int k m) (.int k n) (m == n) := fun d w => run_equalIn_int w (d + z) t k k' m n hu
theorem td {p q : Bool} (hu : P.underlying t = some .bool) (hx : ev e x = some (.bool p)) (hy : ev e y = some (.bool q)) : bO P S N e (.binOp .neq t x y t') (.bool (!(p == q))) :=
  ek hx hy y1 (tc rfl (y5 hu))
theorem y6 {E : TypeId} {p : Option Addr} {z : Nat} (hu : P.underlying t = some (.pointer E)) : gn P (z + 1) t (.pointer p) (.pointer none) p.isNone := fun d w =>
  run_equalIn_pointer_nil w (d + z) t p (by rw [show P.pointee t = E by simp [Program.pointee, hu]]; exact hu)
theorem dx {E : TypeId} {p : Option Addr} (hu : P.underlying t = some (.pointer E)) (hx : ev e x = some (.pointer p)) (hy : ev e y = some (.pointer none)) : bO P S N e (.binOp .eql t x y t') (.bool p.isNone) :=
  ek hx hy y2 (nF rfl (y6 hu))
def kQ (P : Program) (z : Nat) (xs ys : List Value) (fs : List Field) (b : Bool) : Prop := ∀ d w, (Op.eqFields (d + z) xs.toArray ys.toArray fs).run P w = .ok b w
theorem nG {xs ys : List Value} {z : Nat} : kQ P z xs ys [] true := fun d w => by simp [Op.eqFields]
theorem nH {l : List Value} {i : Nat} (ha : ∀ w, (isAgg t).run P w = .ok false w) (hi : l[i]? = some v) (w : World) : (part t l.toArray i).run P w = .ok v w := by
 simp [part, ha, hi]
theorem y7 {xs ys : List Value} {nm : String} {ft fo : Nat} {em : Bool} {tg pk : String} {bo : Nat} {fs : List Field} {b c : Bool} {z : Nat} (hn : (nm == "_") = false) (hx : ∀ w, (part ft xs.toArray fo).run P w = .ok u w) (hy : ∀ w, (part ft ys.toArray fo).run P w = .ok v w)
    (h : gn P z ft u v b) (r : kQ P z xs ys fs c) : kQ P z xs ys (⟨nm, ft, fo, em, tg, pk, bo⟩ :: fs) (b && c) := fun d w => by
 have hn' : nm ≠ "_" := by simpa using hn
 simp only [Op.eqFields, hn', ne_eq, not_false_eq_true, if_true, Sem.run_bind, hx, hy, Result.andThen_ok, h d]
 cases b with
 | false => simp
 | true => simp [r d w]
theorem jd {xs ys : List Value} {nm : String} {ft fo : Nat} {em : Bool} {tg pk : String} {bo : Nat} {fs : List Field} {b c : Bool} {z : Nat} (hn : (nm == "_") = false) (ha : ∀ w, (isAgg ft).run P w = .ok false w) (hx : xs[fo]? = some u) (hy : ys[fo]? = some v)
    (h : gn P z ft u v b) (r : kQ P z xs ys fs c) : kQ P z xs ys (⟨nm, ft, fo, em, tg, pk, bo⟩ :: fs) (b && c) := y7 hn (nH ha hx) (nH ha hy) h r
theorem nJ {xs ys : List Value} {fs : Array Field} {b : Bool} {z : Nat} (hu : P.underlying t = some (.struct fs)) (hp : P.stoodInHeld t = false) (h : kQ P z xs ys fs.toList b) : gn P (z + 1) t (.agg xs.toArray) (.agg ys.toArray) b := fun d w => by
 have hf : P.fieldsOf t = fs := by simp [Program.fieldsOf, hu]
 rw [← Nat.add_assoc, run_equalIn_struct w (d + z) t _ _ (by rw [hf]; exact hu) hp, hf]
 exact h d w
theorem te {op : BinOp} {xs ys : Array Value} (hg : P.eqGuardType P.depth t = false) (w : World) (x y : Operand) : (eqGuard op t x y (.agg xs) (.agg ys)).run P w = .ok () w := by
 cases op <;> simp [eqGuard, hg]
theorem qd {xs ys : List Value} {b : Bool} (hg : P.eqGuardType P.depth t = false) (hx : ev e x = some (.agg xs.toArray)) (hy : ev e y = some (.agg ys.toArray)) (h : gn P 9 t (.agg xs.toArray) (.agg ys.toArray) b) : bO P S N e (.binOp .eql t x y t') (.bool b) :=
  ek hx hy (te hg) (nF rfl h)
theorem tf {xs ys : List Value} {b : Bool} (hg : P.eqGuardType P.depth t = false) (hx : ev e x = some (.agg xs.toArray)) (hy : ev e y = some (.agg ys.toArray)) (h : gn P 9 t (.agg xs.toArray) (.agg ys.toArray) b) : bO P S N e (.binOp .neq t x y t') (.bool (!b)) :=
  ek hx hy (te hg) (tc rfl h)
theorem bM {b : Bool} (hx : ev e x = some (.bool b)) : bO P S N e (.unOp .not t x) (.bool (!b)) := fun a w _ _ _ _ _ hF _ => by
 simp [execOp, hF.eval hx, Op.unary]
theorem kR {d : TypeDesc} (hs : P.underlying t = some d) (hu : P.underlying t' = some (.int k)) (hx : ev e x = some (.int k' n)) (hw : k.wrap n = r) : bO P S N e (.convert t t' x) (.int k r) := fun a w _ _ _ _ _ hF _ => by
 rw [← hw]; simp [execOp, hF.eval hx, convert, d8 hs, d8 hu, Conv.intToInt]
theorem aW {l : List Value} {i : Nat} (hx : ev e x = some (.tuple l.toArray)) (hi : l[i]? = some v) : bO P S N e (.extract x i) v := fun a w _ _ _ _ _ hF _ => by
 simp [execOp, hF.eval hx, Instr.extract, hi]
theorem aI {a' : Addr} (hx : ev e x = some (.pointer (some a'))) : bO P S N e (.nilCheck x) (.pointer (some a')) := fun a w _ _ _ _ _ hF _ => by
 simp [execOp, hF.eval hx]
theorem aY {E n c : Nat} {a' : Option Addr} (hu : P.underlying t = some (.slice E)) (hx : ev e x = some (.slice a' n c)) :
    bO P S N e (.call { callee := .builtin .len, args := #[x], argTypes := #[t] }) (.int .i64 n) := fun a w _ _ _ _ _ hF _ => by
 simp [execOp, resolve, invoke, builtin, Builtin.len_, hF.eval hx, d8 hu, goInt]
theorem ar {T : TypeId} {fs : Array Field} {nm : String} {ft fo : Nat} {em : Bool} {tg pk : String} {bo i b off off' sz : Nat} (hx : ev e x = some (.pointer (some ⟨b, off, none⟩))) (hu : P.underlying T = some (.struct fs)) (hf : fs.toList[i]? = some ⟨nm, ft, fo, em, tg, pk, bo⟩)
    (hs : ∀ w, (sizeOf ft).run P w = .ok sz w) (hz : Nat.beq sz 0 = false) (ho : off + fo = off') : bO P S N e (.fieldAddr T x i) (.pointer (some ⟨b, off', none⟩)) := fun a w _ _ _ _ _ hF _ => by
 subst ho
 have hz' : sz ≠ 0 := Nat.ne_of_beq_eq_false hz
 have hf' : fs[i]? = some ⟨nm, ft, fo, em, tg, pk, bo⟩ := by simpa using hf
 simp [execOp, Instr.fieldAt, hF.eval hx, d8 hu, hf', Instr.sureAddr, fieldPlace, hs, hz', Addr.add]
end
class SetL (l : List Value) (i : Nat) (v : Value) (l' : outParam (List Value)) : Prop where
  eq : l.set i v = l'
instance EQ {x v : Value} {l : List Value} : SetL (x :: l) 0 v (v :: l) := ⟨rfl⟩
instance ER {x v : Value} {l l' : List Value} {i : Nat} [h : SetL l i v l'] : SetL (x :: l) (i + 1) v (x :: l') := ⟨by rw [List.set_cons_succ, h.eq]⟩
def setR : List Value → Nat → List Value → List Value
 | l, _, [] => l
 | l, i, v :: vs => setR (l.set i v) (i + 1) vs
theorem nK : ∀ (vs l : List Value) (i : Nat), (setR l i vs).length = l.length
 | [], _, _ => rfl
 | v :: vs, l, i => by rw [setR, nK vs]; simp
class SetRL (l : List Value) (i : Nat) (vs : List Value) (l' : outParam (List Value)) : Prop where
  eq : setR l i vs = l'
instance ES {l : List Value} {i : Nat} : SetRL l i [] l := ⟨rfl⟩
instance ET {l l' l'' vs : List Value} {i : Nat} {v : Value} [h : SetL l i v l'] [k : SetRL l' (i + 1) vs l''] : SetRL l i (v :: vs) l'' := ⟨by rw [setR, h.eq, k.eq]⟩
theorem nL : ∀ (vs l p : List Value), vs.length = l.length → setR (p ++ l) p.length vs = p ++ vs
 | [], l, p, h => by
  have : l = [] := List.length_eq_zero_iff.1 h.symm
  subst this; rfl
 | v :: vs, [], p, h => by simp at h
 | v :: vs, x :: l, p, h => by
  rw [setR]
  have e1 : (p ++ x :: l).set p.length v = (p ++ [v]) ++ l := by simp
  rw [e1]
  have := nL vs l (p ++ [v]) (by simpa using h)
  simp only [List.length_append, List.length_cons, List.length_nil, Nat.zero_add] at this
  rw [this]; simp
class TakeL (l : List Value) (i n : Nat) (l' : outParam (List Value)) : Prop where
  eq : (l.drop i).take n = l'
instance EU {l : List Value} : TakeL l 0 0 [] := ⟨by simp⟩
instance EV {l l' : List Value} {n : Nat} {x : Value} [h : TakeL l 0 n l'] : TakeL (x :: l) 0 (n + 1) (x :: l') := ⟨by have := h.eq; simp at this; simp [this]⟩
instance EW {l l' : List Value} {i n : Nat} {x : Value} [h : TakeL l i n l'] : TakeL (x :: l) (i + 1) n l' := ⟨by rw [List.drop_succ_cons, h.eq]⟩
section
variable {rd : Option Nat} {P : Program} {S : World → Prop} {W0 : World} {N : FSz} {Q : Exit → Act → World → Prop} {e : bq} {A B R : List HP} {ops : Array Oper} {rest : List Oper}
variable {op : Op} {ty t : TypeId} {pos : String} {af : Array Edge} {v : Value} {d b off : Nat} {x y : Operand} {l l' vs : List Value}
def fb (S : World → Prop) (b off : Nat) (v : Value) : Prop := ∀ w, S w → w.cell? ⟨b, off, none⟩ = some v
theorem Own.tk {K X : Type} {r : K → X → HP} {w : World} {b : K} {x : X} (h : Own W0 w A) [k : Tk r b A x R] : Own W0 w (r b x :: R) := h.perm k.perm
theorem az [h : Tk pt b A (am l ty) R] (hv : l[off]? = some v) : fb (bj W0 A) b off v := fun w (hO : Own W0 w A) => by
 have := (hO.tk (r := pt) (b := b)).has.2
 simp [World.cell?, this, hv]
theorem y8 (h : W0.cell? ⟨b, off, none⟩ = some v) : fb (bj W0 A) b off v := fun w (hO : Own W0 w A) => by
 have hb : b < W0.heap.size := by
  rcases Nat.lt_or_ge b W0.heap.size with k | k
  exact k
  simp [World.cell?, Array.getElem?_eq_none k] at h
 rw [← h]; simp [World.cell?, hO.base b hb]
theorem fb.weak (h : fb (bj W0 B) b off v) [k : Ent A B] : fb (bj W0 A) b off v := fun w (hO : Own W0 w A) => h w (hO.ent k)
def cB (S : World → Prop) (b off : Nat) (vs : List Value) : Prop := ∀ i v, vs[i]? = some v → fb S b (off + i) v
theorem kS [h : Tk pt b A (am l ty) R] (hv : (l.drop off).take vs.length = vs) : cB (bj W0 A) b off vs := fun i v hi => by
 refine az ?_
 have hlt : i < vs.length := by
  rcases Nat.lt_or_ge i vs.length with k | k
  exact k
  simp [List.getElem?_eq_none k] at hi
 rw [← hv] at hi
 rw [List.getElem?_take_of_lt hlt, List.getElem?_drop] at hi
 exact hi
theorem dt [h : Tk pt b A (am l ty) R] {n : Nat} (hv : (l.drop off).take n = vs) (hn : vs.length = n) : cB (bj W0 A) b off vs := kS (by rw [hn]; exact hv)
theorem eK (n : Nat) : (⟨b, off, none⟩ : Addr).add n = ⟨b, off + n, none⟩ := by
 unfold Addr.add; split
 rename_i h; subst h; rfl
 rfl
theorem nM {w : World} (hc : ∀ i v, vs[i]? = some v → w.cell? ⟨b, off + i, none⟩ = some v) : ∀ (n i : Nat) (acc : Array Value), i + n = vs.length →
    (loadCellsFrom ⟨b, off, none⟩ i n acc).run P w = .ok (acc ++ (vs.drop i).toArray) w
 | 0, i, acc, h => by
  have : vs.drop i = [] := by rw [List.drop_eq_nil_iff]; omega
  simp [loadCellsFrom, this]
 | n + 1, i, acc, h => by
  have hi : i < vs.length := by omega
  have hcell := hc i vs[i] (by simp [hi])
  simp only [loadCellsFrom, Sem.run_bind, run_load, eK, hcell, Result.andThen_ok]
  rw [nM hc n (i + 1) _ (by omega)]
  rw [List.drop_eq_getElem_cons hi]
  simp
theorem ap (ha : ∀ w, (isAgg t).run P w = .ok false w) (hx : ev e x = some (.pointer (some ⟨b, off, none⟩))) (hc : fb S b off v) : bO P S N e (.load t x) v := fun a w _ _ _ _ _ hF hO => by
 simp [execOp, Instr.loadAt, Instr.sureAddr, hF.eval hx, loadVar, ha, hc w hO]
theorem bN {n : Nat} (ha : ∀ w, (isAgg t).run P w = .ok true w) (hs : ∀ w, (sizeOf t).run P w = .ok n w) (hx : ev e x = some (.pointer (some ⟨b, off, none⟩))) (hc : cB S b off vs) (hn : vs.length = n) :
    bO P S N e (.load t x) (.agg vs.toArray) := fun a w _ _ _ _ _ hF hO => by
 have := nM (P := P) (w := w) (fun i v hi => hc i v hi w hO) n 0 #[] (by omega)
 simp [execOp, Instr.loadAt, Instr.sureAddr, hF.eval hx, loadVar, ha, hs, loadCells, this]
theorem cC [h : Tk pt b A (am l ty) R] {n : Nat} (ha : ∀ w, (isAgg t).run P w = .ok true w) (hs : ∀ w, (sizeOf t).run P w = .ok n w) (hx : ev e x = some (.pointer (some ⟨b, 0, none⟩))) (hn : l.length = n) :
    bO P (bj W0 A) N e (.load t x) (.agg l.toArray) :=
  bN ha hs hx (kS (by simp)) hn
theorem qe [h : Tk pt b A (am l ty) R] {n : Nat} (ha : ∀ w, (isAgg t).run P w = .ok true w) (hs : ∀ w, (sizeOf t).run P w = .ok n w) (hx : ev e x = some (.pointer (some ⟨b, off, none⟩))) (hv : (l.drop off).take n = vs) (hn : vs.length = n) :
    bO P (bj W0 A) N e (.load t x) (.agg vs.toArray) :=
  bN ha hs hx (kS (by rw [hn]; exact hv)) hn
theorem tj {w : World} (h : Own W0 w (pt b (am l ty) :: R)) (v : Value) : Own W0 (w.setCell ⟨b, off, none⟩ v) (pt b (am (l.set off v) ty) :: R) := by
 refine h.set rfl rfl rfl (by simp [World.setCell]) ?_ (fun k hk => Below.heap_setCell _ _ _ _ hk)
 have := h.has.2
 simp [World.setCell, Array.getElem?_modify, this, am]
theorem tm {w : World} (h : Own W0 w (pt b (am l ty) :: R)) (ho : off < l.length) (h1 : v.oneCell' = true) : (store ⟨b, off, none⟩ v).run P w = .ok () (w.setCell ⟨b, off, none⟩ v) := by
 have hb := h.has.2
 rw [run_store P w _ v _ h1]
 have : w.cell? ⟨b, off, none⟩ = some l[off] := by simp [World.cell?, hb, ho]
 simp [this, World.frozen?, hb]
theorem jZ (h1 : v.oneCell' = true) : v.cells = #[v] := by cases v <;> first | rfl | cases h1
def cQ (P : Program) (W0 : World) (N : FSz) (e : bq) (A : List HP) (op : Op) (Post : Value → List HP → Prop) : Prop :=
  ∀ a w dst ty pos af g (K : Act → World → Prop) (Q : Exit → Act → World → Prop), Fr a N e → Own W0 w A → (∀ v w' B, Post v B → Own W0 w' B → K (a.put dst v) w') →
    Oper.wp P { dst := dst, op := op, type := ty, pos := pos, after := af, guard := g } a w K Q
theorem ah {Post : Value → List HP → Prop} (hd : Nat.blt d N.n = true) (h : cQ P W0 N e A op Post) (k : ∀ v B, Post v B → aG W0 N (cz rd P ops Q rest) ((d, v) :: e) B) :
    aG W0 N (cz rd P ops Q ({ dst := some d, op := op, type := ty, pos := pos, after := af, guard := none } :: rest)) e A := by
 intro a w hF hO
 simp only [cz, m3, if_true]
 exact .inl (h a w _ _ _ _ _ _ _ hF hO fun v w' B hp hO' => k v B hp _ _ (hF.put (Nat.lt_of_succ_le (Nat.le_of_ble_eq_true hd)) v) hO')
theorem bc {Post : Value → List HP → Prop} (h : cQ P W0 N e A op Post) (k : ∀ v B, Post v B → aG W0 N (cz rd P ops Q rest) e B) :
    aG W0 N (cz rd P ops Q ({ dst := none, op := op, type := ty, pos := pos, after := af, guard := none } :: rest)) e A := by
 intro a w hF hO
 simp only [cz, m3, if_true]
 exact .inl (h a w _ _ _ _ _ _ _ hF hO fun v w' B hp hO' => k v B hp _ _ hF hO')
theorem je {Post : Value → List HP → Prop} (h : ∀ a w dst ty pos af g, Fr a N e → Own W0 w A → ∃ v w' B, ((execOp a.eval { dst := dst, op := op, type := ty, pos := pos, after := af, guard := g }).run P w = .ok (.value v) w' ∨
      ((execOp a.eval { dst := dst, op := op, type := ty, pos := pos, after := af, guard := g }).run P w = .ok .skip w' ∧ v = undef)) ∧ Post v B ∧ Own W0 w' B) : cQ P W0 N e A op Post := by
 intro a w dst ty pos af g K Q hF hO k
 obtain ⟨v, w', B, hr, hp, hO'⟩ := h a w dst ty pos af g hF hO
 unfold Oper.wp
 rcases hr with hr | ⟨hr, rfl⟩
 rw [hr]; exact k v w' B hp hO'
 rw [hr]; exact k _ w' B hp hO'
theorem df (h : bO P (bj W0 A) N e op v) : cQ P W0 N e A op (fun u B => u = v ∧ B = A) := je fun a w _ _ _ _ _ hF hO =>
  ⟨v, w, A, .inl (h a w _ _ _ _ _ hF hO), ⟨rfl, rfl⟩, hO⟩
theorem ck [h : Tk pt b A (am l ty) R] (hs : ∀ w, (sizeOf t).run P w = .ok 1 w) (hx : ev e x = some (.pointer (some ⟨b, off, none⟩))) (hy : ev e y = some v)
    (h1 : v.oneCell' = true) (ho : off < l.length) (hl : l.set off v = l') : cQ P W0 N e A (.store t x y) (fun _ B => B = pt b (am l' ty) :: R) := je fun a w _ _ _ _ _ hF hO => by
 have hO' := hO.tk (r := pt) (b := b)
 refine ⟨undef, w.setCell ⟨b, off, none⟩ v, _, .inr ⟨?_, rfl⟩, rfl, hl ▸ tj hO' v⟩
 simp [execOp, Instr.storeAt, Instr.sureAddr, hF.eval hx, hF.eval hy, storeVar, hs, jZ h1, storeCells, eK, tm hO' ho h1]
theorem qf : ∀ (vs : List Value) {l : List Value} {w : World} (i : Nat), Own W0 w (pt b (am l ty) :: R) → off + i + vs.length ≤ l.length → (∀ v ∈ vs, v.oneCell' = true) →
    ∃ w', (storeCells ⟨b, off, none⟩ vs i).run P w = .ok () w' ∧ Own W0 w' (pt b (am (setR l (off + i) vs) ty) :: R)
 | [], l, w, i, h, _, _ => ⟨w, by simp [storeCells], h⟩
 | v :: vs, l, w, i, h, hlen, h1 => by
  simp only [List.length_cons] at hlen
  have hr := tm (P := P) h (off := off + i) (by omega) (h1 v (by simp))
  obtain ⟨w', hr', ho'⟩ := qf vs (i + 1) (tj (off := off + i) h v) (by simp; omega) (fun u hu => h1 u (by simp [hu]))
  refine ⟨w', ?_, ho'⟩
  simp only [storeCells, Sem.run_bind, eK, hr, Result.andThen_ok, hr']
def e6 (vs : List Value) : Bool := vs.all (·.oneCell')
theorem fy {n : Nat} [h : Tk pt b A (am l ty) R] (hs : ∀ w, (sizeOf t).run P w = .ok n w) (hx : ev e x = some (.pointer (some ⟨b, off, none⟩))) (hy : ev e y = some (.agg vs.toArray))
    (hn : vs.length = n) (h1 : e6 vs = true) (ho : off + n ≤ l.length) (hl : setR l off vs = l') : cQ P W0 N e A (.store t x y) (fun _ B => B = pt b (am l' ty) :: R) := je fun a w _ _ _ _ _ hF hO => by
 have hO' := hO.tk (r := pt) (b := b)
 obtain ⟨w', hr, hO''⟩ := qf (P := P) (off := off) vs 0 hO' (by omega) (fun v hv => by simpa [e6] using (List.all_eq_true.1 h1 v hv))
 rw [Nat.add_zero] at hO''
 refine ⟨undef, w', _, .inr ⟨?_, rfl⟩, rfl, hl ▸ hO''⟩
 simp [execOp, Instr.storeAt, Instr.sureAddr, hF.eval hx, hF.eval hy, storeVar, hs, Value.cells, hn, hr]
theorem cD {n : Nat} [h : Tk pt b A (am l ty) R] (hs : ∀ w, (sizeOf t).run P w = .ok n w) (hx : ev e x = some (.pointer (some ⟨b, 0, none⟩))) (hy : ev e y = some (.agg vs.toArray))
    (hn : vs.length = n) (h1 : e6 vs = true) (ho : l.length = n) : cQ P W0 N e A (.store t x y) (fun _ B => B = pt b (am vs ty) :: R) :=
  fy hs hx hy hn h1 (by omega) (by simpa using nL vs l [] (by omega))
theorem k0 {o : Obj} {g : Nat → Value}
    (hrun : ∀ a w dst ty pos af g', Fr a N e → Own W0 w A → (execOp a.eval { dst := dst, op := op, type := ty, pos := pos, after := af, guard := g' }).run P w = .ok (.value (g w.heap.size)) { w with heap := w.heap.push o }) :
    cQ P W0 N e A op (fun v B => ∃ b, v = g b ∧ B = pt b o :: A) := je fun a w _ _ _ _ _ hF hO =>
  ⟨_, _, _, .inl (hrun a w _ _ _ _ _ hF hO), ⟨w.heap.size, rfl, rfl⟩, hO.new o⟩
theorem cH (hz : ∀ w, (zeroValue t).run P w = .ok (.agg l.toArray) w) : cQ P W0 N e A (.alloc t) (fun v B => ∃ b, v = .pointer (some ⟨b, 0, none⟩) ∧ B = pt b (am l t) :: A) :=
  k0 (g := fun b => .pointer (some ⟨b, 0, none⟩)) (fun a w _ _ _ _ _ hF _ => by simp [execOp, Instr.alloc, hz, newVar, newRow, Value.cells])
theorem ia (hz : ∀ w, (zeroValue t).run P w = .ok v w) (h1 : v.oneCell' = true) : cQ P W0 N e A (.alloc t) (fun u B => ∃ b, u = .pointer (some ⟨b, 0, none⟩) ∧ B = pt b (am [v] t) :: A) :=
  k0 (g := fun b => .pointer (some ⟨b, 0, none⟩)) (fun a w _ _ _ _ _ hF _ => by simp [execOp, Instr.alloc, hz, newVar, newRow, jZ h1])
theorem bL (hx : ev e x = some (.agg l.toArray)) : cQ P W0 N e A (.box t x) (fun v B => ∃ b, v = .pointer (some ⟨b, 0, none⟩) ∧ B = pt b (am l t) :: A) :=
  k0 (g := fun b => .pointer (some ⟨b, 0, none⟩)) (fun a w _ _ _ _ _ hF _ => by simp [execOp, Instr.box, hF.eval hx, newVar, newRow, Value.cells])
theorem eW (hx : ev e x = some v) (h1 : v.oneCell' = true) : cQ P W0 N e A (.box t x) (fun u B => ∃ b, u = .pointer (some ⟨b, 0, none⟩) ∧ B = pt b (am [v] t) :: A) :=
  k0 (g := fun b => .pointer (some ⟨b, 0, none⟩)) (fun a w _ _ _ _ _ hF _ => by simp [execOp, Instr.box, hF.eval hx, newVar, newRow, jZ h1])
def kT (P : Program) (fs : List Field) (e : bq) (l : List Value) (ps : List (Nat × Operand)) (l' : List Value) : Prop :=
  ∀ (a : Act), (∀ x v, ev e x = some v → a.eval x = v) → ∀ (pl : Nat → Option (Nat × Nat)), (∀ i f, fs[i]? = some f → ∃ n, pl i = some (f.offset, n) ∧ ∀ w, (sizeOf f.type).run P w = .ok n w) →
    Instr.fill pl l.toArray (ps.map fun (i, x) => (i, a.eval x)) = some l'.toArray
theorem qg : ∀ (vs : List Value) (l : List Value) (off : Nat), (vs.toArray.zipIdx.foldl (fun cs (c, j) => cs.setIfInBounds (off + j) c) l.toArray) = (setR l off vs).toArray := by
 intro vs
 suffices h : ∀ (vs : List Value) (l : List Value) (off s : Nat), (vs.zipIdx s).foldl (fun (cs : Array Value) (x : Value × Nat) => cs.setIfInBounds (off + x.2) x.1) l.toArray = (setR l (off + s) vs).toArray by
  intro l off
  have := h vs l off 0
  rw [← Array.foldl_toList]
  simpa using this
 intro vs
 induction vs with
 | nil => intro l off s; rfl
 | cons v vs ih =>
  intro l off s
  rw [List.zipIdx_cons, List.foldl_cons, setR]
  have := ih (l.set (off + s) v) off (s + 1)
  rw [← Nat.add_assoc] at this
  simpa using this
theorem co {fs : List Field} : kT P fs e l [] l := fun _ _ _ _ => rfl
theorem bB {fs : List Field} {nm : String} {ft fo : Nat} {em : Bool} {tg pk : String} {bo i : Nat} {ps : List (Nat × Operand)} {l'' : List Value} (hf : fs[i]? = some ⟨nm, ft, fo, em, tg, pk, bo⟩) (hs : ∀ w, (sizeOf ft).run P w = .ok 1 w)
    (hx : ev e x = some v) (h1 : v.oneCell' = true) (ho : fo < l.length) (hl : l.set fo v = l') (r : kT P fs e l' ps l'') : kT P fs e l ((i, x) :: ps) l'' := by
 intro a ha pl hp
 obtain ⟨n, hpl, hn⟩ := hp i _ hf
 have hn1 : n = 1 := by have := (hn default).symm.trans (hs default); simpa using this
 subst hn1
 have hv := ha x v hx
 simp only [List.map_cons, Instr.fill, hpl, hv, jZ h1]
 have hc : ¬ (fo + 1 > l.length) := by omega
 simp [hc, hl]
 simpa using r a ha pl hp
theorem jf {fs : List Field} {nm : String} {ft fo : Nat} {em : Bool} {tg pk : String} {bo i n : Nat} {ps : List (Nat × Operand)} {l'' : List Value} (hf : fs[i]? = some ⟨nm, ft, fo, em, tg, pk, bo⟩) (hs : ∀ w, (sizeOf ft).run P w = .ok n w)
    (hx : ev e x = some (.agg vs.toArray)) (hn : vs.length = n) (ho : fo + n ≤ l.length) (hl : setR l fo vs = l') (r : kT P fs e l' ps l'') : kT P fs e l ((i, x) :: ps) l'' := by
 intro a ha pl hp
 obtain ⟨m, hpl, hm⟩ := hp i _ hf
 have hmn : m = n := by have := (hm default).symm.trans (hs default); simpa using this
 subst hmn
 have hv := ha x _ hx
 simp only [List.map_cons, Instr.fill, hpl, hv, Value.cells]
 have hc : ¬ (fo + vs.length > l.length) := by omega
 have hc' : ¬ (vs.length ≠ m) := by omega
 simp only [List.size_toArray, hc, hc', decide_false, Bool.or_false, if_false, qg, hl, Bool.false_eq_true]
 exact r a ha pl hp
def kU (f : Field) : Sem (Nat × Nat) := do pure (f.offset, ← sizeOf f.type)
theorem tn {P : Program} {w : World} : ∀ (fs : List Field), (∀ f : Field, f ∈ fs → ∃ n, ∀ w, (sizeOf f.type).run P w = .ok n w) →
    ∃ ps : List (Nat × Nat), (fs.mapM kU).run P w = .ok ps w ∧
      ∀ (i : Nat) (f : Field), fs[i]? = some f → ∃ n, ps[i]? = some (f.offset, n) ∧ ∀ w, (sizeOf f.type).run P w = .ok n w
 | [], _ => ⟨[], by simp, fun i f h => by simp at h⟩
 | f :: fs, h => by
  obtain ⟨n, hn⟩ := h f (by simp)
  obtain ⟨ps, hps, hq⟩ := tn fs (fun g hg => h g (by simp [hg]))
  refine ⟨(f.offset, n) :: ps, ?_, fun i g hi => ?_⟩
  simp only [List.mapM_cons, kU, Sem.run_bind, hn, Result.andThen_ok, Sem.run_pure]
  rw [hps]; rfl
  cases i with
  | zero => simp only [List.getElem?_cons_zero, Option.some.injEq] at hi; subst hi; exact ⟨n, rfl, hn⟩
  | succ i => exact hq i g (by simpa using hi)
def nN (P : Program) (fs : List Field) : Prop := ∀ f : Field, f ∈ fs → ∃ n, ∀ w, (sizeOf f.type).run P w = .ok n w
theorem cp : nN P [] := fun _ h => by cases h
theorem aK {nm : String} {ft fo : Nat} {em : Bool} {tg pk : String} {bo n : Nat} {fs : List Field} (h : ∀ w, (sizeOf ft).run P w = .ok n w) (k : nN P fs) : nN P (⟨nm, ft, fo, em, tg, pk, bo⟩ :: fs) := fun f hf => by
 rcases List.mem_cons.1 hf with rfl | hf
 exact ⟨n, h⟩
 exact k f hf
theorem cq {fs : Array Field} {ps : Array (Nat × Operand)} (hu : P.underlying t = some (.struct fs)) (hz : ∀ w, (zeroValue t).run P w = .ok (.agg l.toArray) w) (hs : nN P fs.toList) (hf : kT P fs.toList e l ps.toList l') :
    bO P S N e (.build t ps) (.agg l'.toArray) := fun a w _ _ _ _ _ hF _ => by
 obtain ⟨pls, hpl, hq⟩ := tn (w := w) fs.toList hs
 have := hf a (fun x v h => hF.eval h) (fun i => pls.toArray[i]?) (fun i f h => by simpa using hq i f h)
 have hm : (fs.mapM kU).run P w = .ok pls.toArray w := by
  rw [Array.mapM_eq_mapM_toList, Sem.run_map, hpl]; rfl
 have hb : Instr.build t (ps.map fun (i, x) => (i, a.eval x)) = (do
     let zero := (← zeroValue t).cells
     match ← underlying t with
     | .struct fields =>
       let places ← fields.mapM kU
       let some cells := Instr.fill (places[·]?) zero (ps.map fun (i, x) => (i, a.eval x)).toList | stuck "build: no such field, or a part of the wrong size"
       pure (.agg cells)
     | .array _ elem =>
       let size ← sizeOf elem
       let some cells := Instr.fill (fun i => some (i * size, size)) zero (ps.map fun (i, x) => (i, a.eval x)).toList | stuck "build: a part of the wrong size"
       pure (.agg cells)
     | _ => stuck "build: struct or array type expected") := rfl
 simp only [execOp, hb, Sem.run_bind, hz, d8 hu, Result.andThen_ok, hm, Value.cells, Sem.run_pure]
 simp only [Array.toList_map]
 rw [this]; rfl
def qh (e : bq) : Nat → List (Nat × Operand) → List Value → Prop
 | _, [], [] => True
 | i, (j, x) :: ps, v :: vs => j = i ∧ ev e x = some v ∧ v.oneCell' = true ∧ qh e (i + 1) ps vs
 | _, _, _ => False
theorem to {a : Act} (he : ∀ x v, ev e x = some v → a.eval x = v) : ∀ (ps : List (Nat × Operand)) (vs done l : List Value), qh e done.length ps vs → l.length = vs.length →
    Instr.fill (fun i => some (i * 1, 1)) (done ++ l).toArray (ps.map fun (i, x) => (i, a.eval x)) = some (done ++ vs).toArray
 | [], [], done, l, _, hl => by
  have : l = [] := List.length_eq_zero_iff.1 hl
  subst this; rfl
 | [], _ :: _, _, _, h, _ => h.elim
 | _ :: _, [], _, _, h, _ => by cases h
 | (j, x) :: ps, v :: vs, done, [], _, hl => by cases hl
 | (j, x) :: ps, v :: vs, done, z :: l, h, hl => by
  obtain ⟨rfl, hx, h1, hr⟩ := h
  have hv := he x v hx
  simp only [List.map_cons, Instr.fill, hv, jZ h1, List.size_toArray, List.length_cons, List.length_nil, Nat.zero_add, ne_eq, not_true_eq_false, decide_false, Bool.false_or, Nat.mul_one]
  have e1 : Array.foldl (fun cs (x : Value × Nat) => cs.setIfInBounds (done.length + x.2) x.1) (done ++ z :: l).toArray #[v].zipIdx = ((done ++ [v]) ++ l).toArray := by
   have := qg [v] (done ++ z :: l) done.length
   simp only [setR] at this
   rw [show (#[v] : Array Value) = [v].toArray from rfl, this]
   simp
  rw [e1]
  have := to he ps vs (done ++ [v]) l (by simpa using hr) (by simpa using hl)
  simp only [Nat.mul_one] at this
  rw [this]; simp
theorem tp : ∀ (ps : List (Nat × Operand)) (i : Nat) (vs : List Value), dO e (ps.map (·.2)) = some vs → ps.map (·.1) = List.range' i ps.length → e6 vs = true → qh e i ps vs
 | [], _, vs, h, _, _ => by simp [dO] at h; subst h; trivial
 | (j, x) :: ps, i, vs, h, hi, h1 => by
  simp only [List.map_cons, dO] at h
  cases hv : ev e x with
  | none => rw [hv] at h; cases h
  | some v =>
   rw [hv] at h
   cases hvs : dO e (ps.map (·.2)) with
   | none => simp only [hvs] at h; cases h
   | some vs' =>
    simp only [hvs, Option.some.injEq] at h
    subst h
    simp only [List.map_cons, List.length_cons, List.range'_succ, List.cons.injEq] at hi
    simp only [e6, List.all_cons, Bool.and_eq_true] at h1
    exact ⟨hi.1, hv, h1.1, tp ps (i + 1) vs' hvs hi.2 h1.2⟩
theorem jg {E n : Nat} {z : Value} {ps : Array (Nat × Operand)} (hu : P.underlying t = some (.slice E)) (hs : ∀ w, (sizeOf E).run P w = .ok 1 w) (hz : ∀ w, (zeroValue E).run P w = .ok z w) (hz1 : z.oneCell' = true)
    (hev : dO e (ps.toList.map (·.2)) = some vs) (hix : ps.toList.map (·.1) = List.range' 0 ps.toList.length) (ha1 : e6 vs = true) (hn : vs.length = n) (hn0 : n ≠ 0) (hn2 : n ≤ 1000) :
    cQ P W0 N e A (.buildSlice t n ps) (fun v B => ∃ b, v = .slice (some ⟨b, 0, none⟩) n n ∧ B = pt b (am vs E) :: A) :=
  k0 (g := fun b => .slice (some ⟨b, 0, none⟩) n n) (fun a w _ _ _ _ _ hF _ => by
 have hel := tp ps.toList 0 vs hev hix ha1
 have hfl := to (fun x v h => hF.eval h) ps.toList vs [] (List.replicate n z) (by simpa using hel) (by simpa using hn.symm)
 simp only [Nat.mul_one, List.nil_append] at hfl
 have hr : (Array.range n).map (fun i => (#[z] : Array Value)[i % (#[z] : Array Value).size]!) = (List.replicate n z).toArray := by
  apply Array.ext
  simp
  intro i h1 h2; simp [Nat.mod_one]
 have hbig : ¬ (n > 2 ^ 24) := by omega
 simp only [execOp, Instr.buildSlice, Sem.run_bind, d8 hu, Result.andThen_ok, hs, Nat.mul_one, Array.toList_map, Sem.run_ite, if_neg hbig, if_neg hn0, hz, Sem.run_pure, jZ hz1, hr]
 rw [hfl]
 rfl)
theorem aS {f : FuncId} {xs : Array Operand} {ats : Array TypeId} {Post : Value → List HP → Prop} (hc : ∀ args w, (callFunc f args).run P w = .ok (.enter f args) w) (hx : dO e xs.toList = some vs)
    (hs : ax P W0 f vs A Post) : cQ P W0 N e A (.call { callee := .value (.func f), args := xs, argTypes := ats }) Post := by
 intro a w dst ty pos af g K Q hF hO k
 unfold Oper.wp
 rw [execOp_call_go]
 have he : (#[] ++ xs.map a.eval ++ #[] : Array Value) = vs.toArray := by
  have := hF.evals hx
  rw [← this]; apply Array.ext'; simp
 rw [he, hc]
 refine (hs w hO).mono ?_
 rintro _ w' ⟨v, B, rfl, hp, hO'⟩
 exact k v w' B hp hO'
theorem jh {Post : Value → List HP → Prop} (hp : A.Perm B) (h : cQ P W0 N e B op Post) : cQ P W0 N e A op Post :=
  fun a w dst ty pos af g K Q hF hO k => h a w dst ty pos af g K Q hF (hO.perm hp) k
theorem aF {K1 X1 : Type} {r1 : K1 → X1 → HP} {b1 : K1} {x1 : X1} {f : FuncId} {xs : Array Operand} {ats : Array TypeId} {Post : Value → List HP → Prop} (hc : ∀ args w, (callFunc f args).run P w = .ok (.enter f args) w) (hx : dO e xs.toList = some vs)
    (hs : ax P W0 f vs (r1 b1 x1 :: R) Post) [h1 : Tk r1 b1 A x1 R] : cQ P W0 N e A (.call { callee := .value (.func f), args := xs, argTypes := ats }) Post :=
  jh h1.perm (aS hc hx hs)
theorem fJ {K1 K2 X1 X2 : Type} {r1 : K1 → X1 → HP} {b1 : K1} {x1 : X1} {R1 : List HP} {r2 : K2 → X2 → HP} {b2 : K2} {x2 : X2} {f : FuncId} {xs : Array Operand} {ats : Array TypeId} {Post : Value → List HP → Prop} (hc : ∀ args w, (callFunc f args).run P w = .ok (.enter f args) w) (hx : dO e xs.toList = some vs)
    (hs : ax P W0 f vs (r1 b1 x1 :: r2 b2 x2 :: R) Post) [h1 : Tk r1 b1 A x1 R1] [h2 : Tk r2 b2 R1 x2 R] : cQ P W0 N e A (.call { callee := .value (.func f), args := xs, argTypes := ats }) Post :=
  jh (h1.perm.trans (h2.perm.cons _)) (aS hc hx hs)
theorem kV {K1 K2 K3 X1 X2 X3 : Type} {r1 : K1 → X1 → HP} {b1 : K1} {x1 : X1} {R1 : List HP} {r2 : K2 → X2 → HP} {b2 : K2} {x2 : X2} {R2 : List HP} {r3 : K3 → X3 → HP} {b3 : K3} {x3 : X3} {f : FuncId} {xs : Array Operand} {ats : Array TypeId} {Post : Value → List HP → Prop} (hc : ∀ args w, (callFunc f args).run P w = .ok (.enter f args) w) (hx : dO e xs.toList = some vs)
    (hs : ax P W0 f vs (r1 b1 x1 :: r2 b2 x2 :: r3 b3 x3 :: R) Post) [h1 : Tk r1 b1 A x1 R1] [h2 : Tk r2 b2 R1 x2 R2] [h3 : Tk r3 b3 R2 x3 R] : cQ P W0 N e A (.call { callee := .value (.func f), args := xs, argTypes := ats }) Post :=
  jh (h1.perm.trans ((h2.perm.trans (h3.perm.cons _)).cons _)) (aS hc hx hs)
def m6 : Nat → List Value → bq
 | _, [] => []
 | i, v :: vs => (i, v) :: m6 (i + 1) vs
theorem tq : ∀ (vs : List Value) (i t : Nat) (v : Value), dq (m6 i vs) t = some v → ∃ j, t = i + j ∧ vs[j]? = some v
 | [], i, t, v, h => by cases h
 | u :: vs, i, t, v, h => by
  by_cases c : i = t
  subst c; rw [m6, pX] at h; exact ⟨0, rfl, by simpa using h⟩
  rw [m6, pY c] at h
  obtain ⟨j, rfl, hj⟩ := tq vs (i + 1) t v h
  exact ⟨j + 1, by omega, by simpa using hj⟩
abbrev ic (D : Nat) : Deferred := { target := .collected D, args := #[] }
def ie (P : Program) (W0 : World) (fn : Func) (Post : Value → List HP → Prop) : Exit → Act → World → Prop
 | .normal, a, w => bodyPostM (FW none) 0 P fn (fun e w' => ∃ v B, e = .returned v ∧ Post v B ∧ Own W0 w' B) .normal a w
 | .ret, a, w => bodyPostM (FW none) 0 P fn (fun e w' => ∃ v B, e = .returned v ∧ Post v B ∧ Own W0 w' B) .ret a w
 | _, _, _ => False
theorem y9 {fn : Func} {Post : Value → List HP → Prop} {ex : Exit} {a : Act} {w : World} (h : ie P W0 fn Post ex a w) : bodyPostM (FW none) 0 P fn (fun e w' => ∃ v B, e = .returned v ∧ Post v B ∧ Own W0 w' B) ex a w := by
 cases ex <;> first | exact h | exact h.elim
theorem aB {n : Nat} {f : FuncId} {fn : Func} {c : Code} {Post : Value → List HP → Prop} (hf : P.funcs[f]? = some fn) (hN : fn.ntmps = n) (hb : fn.body = some c) (hl : Nat.ble vs.length n = true)
    (k : aG W0 ⟨n, []⟩ (c.wpR none P (ie P W0 fn Post)) (m6 0 vs) A) : ax P W0 f vs A Post := by
 intro w hO
 refine (nD (rd := none) (n := 0)).1 (callsIn_of_wp_marks hf hb trivial (wpIn_mono (k _ w ⟨rfl, ?_, fun t v h => ?_⟩ hO) fun _ _ _ h => y9 h) rfl)
 have := Nat.le_of_ble_eq_true hl
 simp [hN]; omega
 obtain ⟨j, rfl, hj⟩ := tq _ _ _ _ h
 have hlt : j < vs.length := by
  rcases Nat.lt_or_ge j vs.length with k | k
  exact k
  simp [List.getElem?_eq_none k] at hj
 simp [hlt] at hj ⊢
 rw [Array.getElem?_append_left (by simpa using hlt)]
 simp [hlt, hj]
def kW (a : Act) : ResultVar → Sem Value
 | .tmp t => pure (a.tmps.getD t undef)
 | .cell x t => do loadVar t (← asAddr (a.tmps.getD x undef))
def nO (P : Program) (W0 : World) (N : FSz) (e : bq) (A : List HP) (r : ResultVar) (v : Value) : Prop :=
  ∀ a w, Fr a N e → Own W0 w A → (kW a r).run P w = .ok v w
theorem aj {t : Nat} (h : dq e t = some v) : nO P W0 N e A (.tmp t) v := fun a w hF _ => by
 simp [kW, Array.getD_eq_getD_getElem?, hF.at_ t v h]
theorem ji {x : Nat} (ha : ∀ w, (isAgg t).run P w = .ok false w) (hx : dq e x = some (.pointer (some ⟨b, off, none⟩))) (hc : fb (bj W0 A) b off v) : nO P W0 N e A (.cell x t) v := fun a w hF hO => by
 simp [kW, Array.getD_eq_getD_getElem?, hF.at_ x _ hx, asAddr, loadVar, ha, hc w hO]
theorem ig {x n : Nat} [h : Tk pt b A (am l ty) R] (ha : ∀ w, (isAgg t).run P w = .ok true w) (hs : ∀ w, (sizeOf t).run P w = .ok n w) (hx : dq e x = some (.pointer (some ⟨b, 0, none⟩))) (hn : l.length = n) : nO P W0 N e A (.cell x t) (.agg l.toArray) := fun a w hF hO => by
 have hc : cB (bj W0 A) b 0 l := kS (by simp)
 have := nM (P := P) (w := w) (fun i v hi => hc i v hi w hO) n 0 #[] (by omega)
 simp [kW, Array.getD_eq_getD_getElem?, hF.at_ x _ hx, asAddr, loadVar, ha, hs, loadCells, this]
inductive ResVs (P : Program) (W0 : World) (N : FSz) (e : bq) (A : List HP) : List ResultVar → List Value → Prop
  | nil : ResVs P W0 N e A [] []
  | cons {r : ResultVar} {v : Value} {rs : List ResultVar} {vs : List Value} : nO P W0 N e A r v → ResVs P W0 N e A rs vs → ResVs P W0 N e A (r :: rs) (v :: vs)
theorem ResVs.run {rs : List ResultVar} {vs : List Value} (h : ResVs P W0 N e A rs vs) {a : Act} {w : World} (hF : Fr a N e) (hO : Own W0 w A) :
    (rs.mapM (kW a)).run P w = .ok vs w := by
 induction h with
 | nil => simp
 | cons h1 _ ih =>
  rw [List.mapM_cons, Sem.run_bind, h1 a w hF hO, Result.andThen_ok, Sem.run_bind, ih]; rfl
def ct : List Value → Value
 | [v] => v
 | vs => .tuple vs.toArray
theorem ResVs.all {fn : Func} {vs : List Value} (hr : ResVs P W0 N e A fn.results.toList vs) {a : Act} {w : World} (hF : Fr a N e) (hO : Own W0 w A) : (results fn a.tmps).run P w = .ok (ct vs) w := by
 have := hr.run hF hO
 have hres : results fn a.tmps = (do
     let vs ← fn.results.mapM (kW a)
     pure (if h : vs.size = 1 then vs[0] else .tuple vs)) := rfl
 rw [hres, Sem.run_bind, Array.mapM_eq_mapM_toList, Sem.run_map, this]
 simp only [Result.andThen_ok, Sem.run_pure]
 match vs with
 | [] => rfl
 | [v] => rfl
 | _ :: _ :: _ => rfl
theorem ak {n : Nat} {fn : Func} {Post : Value → List HP → Prop} {vs : List Value} {ex : Exit} (hex : ex = .ret ∨ ex = .normal) (hr : ResVs P W0 ⟨n, []⟩ e A fn.results.toList vs) (hp : ∃ B, Post (ct vs) B ∧ Ent A B) : aG W0 ⟨n, []⟩ (Ex (ie P W0 fn Post) ex) e A := by
 intro a w hF hO
 obtain ⟨B, hB, hE⟩ := hp
 have hrun := hr.all hF hO
 have hd : a.defers = [] := hF.defers
 have : LeavesInM (FW none) 0 P fn a.tmps (fun e w' => ∃ v B, e = .returned v ∧ Post v B ∧ Own W0 w' B) a.defers .returning w := by
  rw [hd]; exact ⟨ct vs, hrun, ct vs, B, rfl, hB, hO.ent hE⟩
 rcases hex with rfl | rfl <;> exact this
theorem m7 {n D : Nat} {fn : Func} {Post : Value → List HP → Prop} {vs : List Value} {ex : Exit} (hex : ex = .ret ∨ ex = .normal) [h : Tk pt D A (.deferred (some [])) R] (hr : ResVs P W0 ⟨n, [ic D]⟩ e (pt D (.deferred none) :: R) fn.results.toList vs)
    (hp : ∃ B, Post (ct vs) B ∧ Ent (pt D (.deferred none) :: R) B) : aG W0 ⟨n, [ic D]⟩ (Ex (ie P W0 fn Post) ex) e A := by
 intro a w hF hO
 obtain ⟨B, hB, hE⟩ := hp
 have hO1 := hO.tk (r := pt) (b := D)
 have hK := hO1.has
 have hO2 : Own W0 (w.putObj D (.deferred none)) (pt D (.deferred none) :: R) :=
   hO1.set rfl rfl rfl (by simp) (World.putObj_heap_same (by
     rcases Nat.lt_or_ge D w.heap.size with q | q
     · exact q
     have := hK.2; rw [Array.getElem?_eq_none q] at this; cases this)) (fun k hk => World.putObj_heap_other hk)
 have hrun := hr.all hF hO2
 have hd : a.defers = [ic D] := hF.defers
 have : LeavesInM (FW none) 0 P fn a.tmps (fun e w' => ∃ v B, e = .returned v ∧ Post v B ∧ Own W0 w' B) a.defers .returning w := by
  rw [hd]
  exact ⟨by simp, .inl ⟨D, _, rfl, run_takeDeferred hK.2, ct vs, hrun, ct vs, B, rfl, hB, hO2.ent hE⟩⟩
 rcases hex with rfl | rfl <;> exact this
theorem bK {E n c j sz o' : Nat} {k : IntKind} {i : Int} (hu : P.underlying t = some (.slice E)) (hs : ∀ w, (sizeOf E).run P w = .ok sz w) (hx : ev e x = some (.slice (some ⟨b, off, none⟩) n c)) (hy : ev e y = some (.int k i))
    (hi : i = (j : Int)) (hj : j < n) (ho : off + j * sz = o') : bO P S N e (.indexAddr t x y) (.pointer (some ⟨b, o', none⟩)) := fun a w _ _ _ _ _ hF _ => by
 subst hi; subst ho
 simp [execOp, Instr.indexAt, hF.eval hx, hF.eval hy, asIntOf, d8 hu, hs, eK]
 omega
theorem iz {E n j sz o' : Nat} {k : IntKind} {i : Int} (hu : P.underlying t = some (.array n E)) (hs : ∀ w, (sizeOf E).run P w = .ok sz w) (hx : ev e x = some (.pointer (some ⟨b, off, none⟩))) (hy : ev e y = some (.int k i))
    (hi : i = (j : Int)) (hj : j < n) (ho : off + j * sz = o') : bO P S N e (.indexAddr t x y) (.pointer (some ⟨b, o', none⟩)) := fun a w _ _ _ _ _ hF _ => by
 subst hi; subst ho
 simp [execOp, Instr.indexAt, hF.eval hx, hF.eval hy, asIntOf, d8 hu, hs, eK, Instr.sureAddr]
 omega
end
theorem aT {n : Int} (h : -9223372036854775808 ≤ n ∧ n < 9223372036854775808) : IntKind.wrap .i64 n = n := by
 simp only [IntKind.wrap, IntKind.bits, IntKind.signed]; simp; omega
theorem ya {n : Int} (h : 0 ≤ n ∧ n < 4294967296) : IntKind.wrap .u32 n = n := by
 simp only [IntKind.wrap, IntKind.bits, IntKind.signed]; simp; omega
theorem yd {n : Int} (h : 0 ≤ n ∧ n < 256) : IntKind.wrap .u8 n = n := by
 simp only [IntKind.wrap, IntKind.bits, IntKind.signed]; simp; omega
class BP (b : Bool) (p : outParam Prop) : Prop where
  iff : b = true ↔ p
instance EX {p : Prop} [Decidable p] : BP (decide p) p := ⟨by simp⟩
instance EY {m n : Int} : BP (m == n) (m = n) := ⟨by simp⟩
instance EZ {m n : Int} : BP (m != n) (m ≠ n) := ⟨by simp⟩
instance F0 {p q : Bool} : BP (p == q) (p = q) := ⟨by simp⟩
instance F1 {b : Bool} {p : Prop} [h : BP b p] : BP (!b) (¬ p) := ⟨by rw [← h.iff]; simp⟩
instance F2 {b c : Bool} {p q : Prop} [h : BP b p] [k : BP c q] : BP (b && c) (p ∧ q) := ⟨by rw [← h.iff, ← k.iff]; simp⟩
instance F3 {b c : Bool} {p q : Prop} [h : BP b p] [k : BP c q] : BP (b || c) (p ∨ q) := ⟨by rw [← h.iff, ← k.iff]; simp⟩
instance F4 {α : Type} {p : Option α} : BP p.isNone (p = none) := ⟨by simp⟩
instance (priority := low) bp_var {b : Bool} : BP b (b = true) := ⟨Iff.rfl⟩
section
variable {rd : Option Nat} {P : Program} {W0 : World} {N : FSz} {Q : Exit → Act → World → Prop} {e : bq} {A : List HP} {ops : Array Oper} {rest : List Oper} {op : Op} {ty : TypeId} {pos : String} {af : Array Edge}
theorem au {c : Nat} {p : Prop} {b : Bool} {xc yc : Code} (hv : dq e c = some (.bool b)) [h : BP b p]
    (ht : p → aG W0 N (xc.wpR rd P Q) ((c, .bool true) :: e) A) (hf : ¬ p → aG W0 N (yc.wpR rd P Q) ((c, .bool false) :: e) A) : aG W0 N ((Code.cond (.tmp c) xc yc).wpR rd P Q) e A :=
  y0 rfl hv (fun hb => ht (h.iff.1 hb)) (fun hb => hf (fun k => by rw [h.iff.2 k] at hb; cases hb))
theorem cI {c : Nat} {xc yc : Code} (hv : dq e c = some (.bool true)) (k : aG W0 N (xc.wpR rd P Q) e A) : aG W0 N ((Code.cond (.tmp c) xc yc).wpR rd P Q) e A :=
  fun a w hF hO => wpIn_cond_true (hF.eval (x := .tmp c) hv) (k a w hF hO)
theorem iA {c : Nat} {xc yc : Code} (hv : dq e c = some (.bool false)) (k : aG W0 N (yc.wpR rd P Q) e A) : aG W0 N ((Code.cond (.tmp c) xc yc).wpR rd P Q) e A :=
  fun a w hF hO => wpIn_cond_false (hF.eval (x := .tmp c) hv) (k a w hF hO)
theorem dh {j t d : Nat} {b : Bool} {p : Prop} (ht : ix ops j = some t) (hv : dq e t = some (.bool b)) (hd : Nat.blt d N.n = true) [h : BP b p]
    (h1 : p → aG W0 N (cz rd P ops Q ({ dst := some d, op := op, type := ty, pos := pos, after := af, guard := none } :: rest)) ((t, .bool true) :: e) A)
    (h2 : ¬ p → aG W0 N (cz rd P ops Q rest) ((d, undef) :: (t, .bool false) :: e) A) :
    aG W0 N (cz rd P ops Q ({ dst := some d, op := op, type := ty, pos := pos, after := af, guard := some (j, true) } :: rest)) e A :=
  t8 (dst := some d) ht hv hd (fun hb => h1 (h.iff.1 hb)) (fun hb => h2 (fun k => by rw [h.iff.2 k] at hb; cases hb))
theorem bJ {j t d : Nat} {b : Bool} {p : Prop} (ht : ix ops j = some t) (hv : dq e t = some (.bool b)) (hd : Nat.blt d N.n = true) [h : BP b p]
    (h1 : p → aG W0 N (cz rd P ops Q rest) ((d, undef) :: (t, .bool true) :: e) A)
    (h2 : ¬ p → aG W0 N (cz rd P ops Q ({ dst := some d, op := op, type := ty, pos := pos, after := af, guard := none } :: rest)) ((t, .bool false) :: e) A) :
    aG W0 N (cz rd P ops Q ({ dst := some d, op := op, type := ty, pos := pos, after := af, guard := some (j, false) } :: rest)) e A :=
  t8 (dst := some d) ht hv hd (fun hb => h2 (fun k => by rw [h.iff.2 k] at hb; cases hb)) (fun hb => h1 (h.iff.1 hb))
end
end
section
theorem tt {n : Nat} (a : Nat) : BitVec.ofInt n (a : Int) = BitVec.ofNat n a := by
 simp
theorem yf {a b : Nat} (ha : a < 4294967296) (hb : b < 4294967296) : (BitVec.ofNat 32 a &&& BitVec.ofNat 32 b).toNat = a &&& b := by
 simp only [BitVec.toNat_and, BitVec.toNat_ofNat]
 rw [Nat.mod_eq_of_lt (show a < 2 ^ 32 by omega), Nat.mod_eq_of_lt (show b < 2 ^ 32 by omega)]
theorem yg {a b : Nat} (ha : a < 4294967296) (hb : b < 4294967296) : m5 .u32 a b = ((a &&& b : Nat) : Int) := by
 have h : a &&& b < 4294967296 := Nat.lt_of_le_of_lt Nat.and_le_left ha
 show IntKind.wrap .u32 ((BitVec.ofInt 32 (a : Int) &&& BitVec.ofInt 32 (b : Int)).toNat : Int) = _
 rw [tt, tt, yf ha hb]
 exact ya (by omega)
theorem qi {k : IntKind} {a s : Nat} (hs : s ≤ k.bits) : kP k a s = ((a / 2 ^ s : Nat) : Int) := by
 unfold kP
 simp only [Int.toNat_natCast, Nat.min_eq_left hs]
 rw [Int.fdiv_eq_ediv_of_nonneg _ (by have := Int.pow_pos (n := (2 : Int)) (m := s) (by omega); omega)]
 push_cast; rfl
end
section
open Go.RowKit
class POk (Q : Exit → Act → World → Prop) : Prop where
  ok : ∀ c a d v w, Q (.panic c) (a.put d v) w → Q (.panic c) a w
instance F5 {n : Act → World → Prop} {Q : Exit → Act → World → Prop} [h : POk Q] : POk (Exit.then n Q) := ⟨fun c a d v w k => h.ok c a d v w k⟩
instance F6 {id : Nat} {Q : Exit → Act → World → Prop} [h : POk Q] : POk (Exit.inBlock id Q) := ⟨fun c a d v w k => h.ok c a d v w k⟩
instance F7 {P : Program} {W0 : World} {fn : Func} {Post : Value → List HP → Prop} : POk (ie P W0 fn Post) := ⟨fun c a d v w k => k.elim⟩
def SC (cs : List (Nat × Nat × List Value)) : World → Prop := fun w => ∀ c, c ∈ cs → ∀ i v, c.2.2[i]? = some v → w.cell? ⟨c.1, c.2.1 + i, none⟩ = some v
section
variable {rd : Option Nat} {P : Program} {S : World → Prop} {W0 : World} {N : FSz} {Q : Exit → Act → World → Prop} {e : bq} {A B R : List HP} {ops : Array Oper}
variable {op : Op} {ty t : TypeId} {pos : String} {af : Array Edge} {v : Value} {d b off : Nat} {l : List Value} {cs : List (Nat × Nat × List Value)} {g : Option (Nat × Bool)} {n i : Nat} {listed : Array Bool}
theorem yh {w : World} : SC [] w := fun _ h => by cases h
theorem iV (h : cB (bj W0 A) b off l) (k : ∀ w, Own W0 w A → SC cs w) : ∀ w, Own W0 w A → SC ((b, off, l) :: cs) w := fun w hO c hc => by
 rcases List.mem_cons.1 hc with rfl | hc
 exact fun i v hi => h i v hi w hO
 exact k w hO c hc
theorem aE [h : Tk pt b A (am l t) R] (k : ∀ w, Own W0 w A → SC cs w) : ∀ w, Own W0 w A → SC ((b, 0, l) :: cs) w := iV (kS (by simp)) k
theorem aH : ∀ w, Own W0 w A → SC [] w := fun _ _ => yh
theorem kX {j k o : Nat} (hk : cs[k]? = some (b, o, l)) (hj : l[j]? = some v) : fb (SC cs) b (o + j) v := fun w hS => hS _ (List.mem_of_getElem? hk) j v hj
theorem aU {j k : Nat} (hk : cs[k]? = some (b, 0, l)) (hj : l[j]? = some v) : fb (SC cs) b j v := by
 have := kX hk hj; rwa [Nat.zero_add] at this
theorem ee {k : Nat} (hk : cs[k]? = some (b, off, l)) : cB (SC cs) b off l := fun j v hj => kX hk hj
def gw (ops : Array Oper) (e : bq) : Option (Nat × Bool) → Option Bool
 | none => some true
 | some (j, want) => match ix ops j with
   | some t => match dq e t with
     | some (.bool b) => some (b == want)
     | some (.tuple _) => some false
     | _ => none
   | none => none
theorem nP {dst : Option Tmp} {a : Act} {r : Bool} (hF : Fr a N e) (h : gw ops e g = some r) : Region.wanted { dst := dst, op := op, type := ty, pos := pos, after := af, guard := g } (yielded ops a.tmps) = r := by
 match g, h with
 | none, h => simp [gw] at h; subst h; rfl
 | some (j, want), h =>
  unfold gw at h
  cases ht : ix ops j with
  | none => simp only [ht] at h; cases h
  | some t =>
   simp only [ht] at h
   cases hv : dq e t with
   | none => simp only [hv] at h; cases h
   | some u =>
    simp only [hv] at h
    have hy : yielded ops a.tmps j = match u with | .bool b => some b | _ => none := by
     have hv' := hF.at_ t _ hv
     unfold ix at ht
     simp only [yielded]
     cases hj : ops[j]? with
     | none => rw [hj] at ht; cases ht
     | some o =>
      rw [hj] at ht
      simp only [Option.bind_some] at ht
      simp only [Option.bind_some, ht, hv']
      cases u <;> rfl
    cases u <;> simp only [Option.some.injEq, reduceCtorEq] at h
    rename_i c
    simp only [Region.wanted, hy]; subst h; cases c <;> cases want <;> rfl
    simp only [Region.wanted, hy]; subst h; rfl
theorem jj {K : Act → World → Prop} {p : Prop} {c : Bool} {t : Nat} (hv : dq e t = some (.bool c)) [h : BP c p] (ht : p → aG W0 N K ((t, .bool true) :: e) A) (hf : ¬ p → aG W0 N K ((t, .bool false) :: e) A) : aG W0 N K e A := by
 intro a w hF hO
 by_cases k : p
 exact ht k a w (hF.sub (aO (by rw [hv, h.iff.2 k]) lZ)) hO
 have : c = false := by
  cases hc : c with
  | false => rfl
  | true => exact absurd (h.iff.1 hc) k
 exact hf k a w (hF.sub (aO (by rw [hv, this]) lZ)) hO
def DR (P : Program) (ops : Array Oper) (Q : Exit → Act → World → Prop) (cs : List (Nat × Nat × List Value)) (n : Nat) (listed : Array Bool) : Act → World → Prop := wpAnyH P .any ops Q (SC cs) n listed
theorem di {id : Nat} (cs : List (Nat × Nat × List Value)) (n : Nat) (hm : P.follows .mixedOrders = true) (hn : Nat.beq ops.size n = true) (hS : ∀ w, Own W0 w A → SC cs w) (k : (∀ w, Own W0 w A → SC cs w) → aG W0 N (DR P ops Q cs n (Array.replicate n false)) e A) : aG W0 N ((Code.region id ops true).wpR none P Q) e A := by
 intro a w hF hO
 have : ops.size = n := Nat.eq_of_beq_eq_true hn
 subst this
 exact pZ.2 <| wp_region_held hm (k hS a _ hF (hO.drew _))
theorem ai (i : Nat) (ho : ops[i]? = some ⟨some d, op, ty, pos, af, g⟩) (hg : gw ops e g = some true) (hs : Region.noSelect ops = true) (hf : Region.free .any ops listed i = true) (hr : (Region.ready .any ops listed).contains i = true)
    (hd : Nat.blt d N.n = true) [hq : POk Q] (hS : ∀ w, Own W0 w A → SC cs w) (hv : bO P (SC cs) N e op v) (k : aG W0 N (DR P ops Q cs n (listed.setIfInBounds i true)) ((d, v) :: e) A) : aG W0 N (DR P ops Q cs (n + 1) listed) e A := by
 intro a w hF hO
 refine wpAnyH_take (v := v) ho hs hf hr (fun c a w => hq.ok c a _ v w) (.inl ⟨nP hF hg, fun w hw => hv a w _ _ _ _ _ hF hw⟩) (hS w hO) ?_
 exact k _ _ (hF.put (Nat.lt_of_succ_le (Nat.le_of_ble_eq_true hd)) v) hO
theorem dD (i : Nat) (ho : ops[i]? = some ⟨some d, op, ty, pos, af, g⟩) (hg : gw ops e g = some false) (hs : Region.noSelect ops = true) (hf : Region.free .any ops listed i = true) (hr : (Region.ready .any ops listed).contains i = true)
    (hd : Nat.blt d N.n = true) [hq : POk Q] (hS : ∀ w, Own W0 w A → SC cs w) (k : aG W0 N (DR P ops Q cs n (listed.setIfInBounds i true)) ((d, undef) :: e) A) : aG W0 N (DR P ops Q cs (n + 1) listed) e A := by
 intro a w hF hO
 refine wpAnyH_take (v := undef) ho hs hf hr (fun c a w => hq.ok c a _ undef w) (.inr ⟨nP hF hg, rfl⟩) (hS w hO) ?_
 exact k _ _ (hF.put (Nat.lt_of_succ_le (Nat.le_of_ble_eq_true hd)) undef) hO
theorem b0 {dst : Option Tmp} {Post : Value → List HP → Prop} (i : Nat) (hr : Region.ready .any ops listed = [i]) (ho : ops[i]? = some ⟨dst, op, ty, pos, af, g⟩) (hg : gw ops e g = some true) (h : cQ P W0 N e A op Post)
    (hd : (match dst with | some d => Nat.blt d N.n | none => true) = true)
    (k : ∀ v B, Post v B → (∀ w, Own W0 w B → SC cs w) ∧ ((∀ w, Own W0 w B → SC cs w) → aG W0 N (DR P ops Q cs n (listed.setIfInBounds i true)) (match (generalizing := false) dst with | some d => (d, v) :: e | none => e) B)) : aG W0 N (DR P ops Q cs (n + 1) listed) e A := by
 intro a w hF hO
 refine wpAnyH_all hr (by simp) fun j hj => ?_
 obtain rfl : j = i := by simpa using hj
 unfold wpOp
 simp only [ho, nP hF hg, if_true]
 refine .inl (h a w _ _ _ _ _ _ _ hF hO fun v w' B hp hO' => ?_)
 obtain ⟨k1, k2⟩ := k v B hp
 refine ⟨k1 w' hO', ?_⟩
 have k2 := k2 k1
 cases dst with
 | none => exact k2 a w' hF hO'
 | some d => exact k2 _ w' (hF.put (Nat.lt_of_succ_le (Nat.le_of_ble_eq_true hd)) v) hO'
def DX (P : Program) (ops : Array Oper) (Q : Exit → Act → World → Prop) (cs : List (Nat × Nat × List Value)) (n : Nat) (listed : Array Bool) (i : Nat) : Act → World → Prop :=
  wpOp P ops Q i (fun a' w' => SC cs w' ∧ DR P ops Q cs n (listed.setIfInBounds i true) a' w')
def m8 (W0 : World) (N : FSz) (K : Nat → Act → World → Prop) (e : bq) (A : List HP) : List Nat → Prop
 | [] => True
 | i :: is => aG W0 N (K i) e A ∧ m8 W0 N K e A is
theorem m8.at_ {K : Nat → Act → World → Prop} : ∀ {is : List Nat}, m8 W0 N K e A is → ∀ i ∈ is, aG W0 N (K i) e A
 | _ :: _, h, i, hi => by
  rcases List.mem_cons.1 hi with rfl | hi
  exact h.1
  exact m8.at_ h.2 i hi
theorem gS {is : List Nat} (hr : Region.ready .any ops listed = is) (hne : is.isEmpty = false) (h : m8 W0 N (DX P ops Q cs n listed) e A is) : aG W0 N (DR P ops Q cs (n + 1) listed) e A := by
 intro a w hF hO
 exact wpAnyH_all hr (by intro h0; subst h0; cases hne) fun i hi => h.at_ i hi a w hF hO
theorem dP {dst : Option Tmp} {Post : Value → List HP → Prop} {i : Nat} (ho : ops[i]? = some ⟨dst, op, ty, pos, af, g⟩) (hg : gw ops e g = some true) (h : cQ P W0 N e A op Post)
    (hd : (match dst with | some d => Nat.blt d N.n | none => true) = true)
    (k : ∀ v B, Post v B → (∀ w, Own W0 w B → SC cs w) ∧ ((∀ w, Own W0 w B → SC cs w) → aG W0 N (DR P ops Q cs n (listed.setIfInBounds i true)) (match (generalizing := false) dst with | some d => (d, v) :: e | none => e) B)) : aG W0 N (DX P ops Q cs n listed i) e A := by
 intro a w hF hO
 unfold DX wpOp
 simp only [ho, nP hF hg, if_true]
 refine .inl (h a w _ _ _ _ _ _ _ hF hO fun v w' B hp hO' => ?_)
 obtain ⟨k1, k2⟩ := k v B hp
 refine ⟨k1 w' hO', ?_⟩
 have k2 := k2 k1
 cases dst with
 | none => exact k2 a w' hF hO'
 | some d => exact k2 _ w' (hF.put (Nat.lt_of_succ_le (Nat.le_of_ble_eq_true hd)) v) hO'
theorem cm (hr : Region.ready .any ops listed = []) (k : aG W0 N (Ex Q .normal) e A) : aG W0 N (DR P ops Q cs n listed) e A := fun a w hF hO => wpAnyH_done hr (k a w hF hO) n
end
section
variable {α : Type} {f : α → List Value} {k : Nat}
theorem cV (hf : ∀ x, (f x).length = k) : ∀ (l : List α), (l.flatMap f).length = l.length * k
 | [] => by simp
 | x :: l => by rw [List.flatMap_cons, List.length_append, hf, cV hf l, List.length_cons, Nat.succ_mul, Nat.add_comm]
theorem qj (hf : ∀ x, (f x).length = k) : ∀ (l : List α) (i : Nat) (sp : List Value), i ≤ l.length → (l.flatMap f ++ sp).drop (i * k) = (l.drop i).flatMap f ++ sp
 | l, 0, sp, _ => by simp
 | [], i + 1, sp, h => by simp at h
 | x :: l, i + 1, sp, h => by
  have h0 : (f x ++ (l.flatMap f ++ sp)).drop k = l.flatMap f ++ sp := by
   rw [List.drop_append_of_le_length (by rw [hf]; omega), List.drop_of_length_le (by rw [hf]; omega), List.nil_append]
  rw [List.flatMap_cons, List.append_assoc, Nat.succ_mul, Nat.add_comm (i * k) k, ← List.drop_drop, h0, List.drop_succ_cons]
  exact qj hf l i sp (by simpa using h)
theorem m9 (hf : ∀ x, (f x).length = k) (l : List α) (i : Nat) (sp : List Value) (h : i < l.length) : ((l.flatMap f ++ sp).drop (i * k)).take k = f l[i] := by
 rw [qj hf l i sp (by omega), List.drop_eq_getElem_cons h, List.flatMap_cons, List.append_assoc]
 rw [List.take_append_of_le_length (by rw [hf]; omega), List.take_of_length_le (by rw [hf]; omega)]
theorem jk (hf : ∀ x, (f x).length = k) (l : List α) (i j : Nat) (sp : List Value) (h : i < l.length) (hj : j < k) : (l.flatMap f ++ sp)[i * k + j]? = (f l[i])[j]? := by
 have := congrArg (fun r => r[j]?) (m9 hf l i sp h)
 simp only [List.getElem?_take_of_lt hj, List.getElem?_drop] at this
 exact this
theorem kY : ∀ (vs l : List Value) (i : Nat), i + vs.length ≤ l.length → setR l i vs = l.take i ++ vs ++ l.drop (i + vs.length)
 | [], l, i, h => by simp [setR]
 | v :: vs, l, i, h => by
  simp only [List.length_cons] at h
  rw [setR, kY vs (l.set i v) (i + 1) (by simp; omega)]
  have h1 : (l.set i v).take (i + 1) = l.take i ++ [v] := by
   rw [List.take_set, List.take_succ_eq_append_getElem (by omega)]
   rw [List.set_append_right _ _ (by simp; omega)]
   simp [Nat.min_eq_left (show i ≤ l.length by omega)]
  have h2 : (l.set i v).drop (i + 1 + vs.length) = l.drop (i + (vs.length + 1)) := by
   rw [List.drop_set_of_lt (by omega)]; congr 1; omega
  rw [h1, h2]; simp
theorem yi (hf : ∀ x, (f x).length = k) (l : List α) (i : Nat) (sp : List Value) (h : i ≤ l.length) : (l.flatMap f ++ sp).take (i * k) = (l.take i).flatMap f := by
 have e : l.flatMap f = (l.take i).flatMap f ++ (l.drop i).flatMap f := by rw [← List.flatMap_append, List.take_append_drop]
 have hl : ((l.take i).flatMap f).length = i * k := by rw [cV hf, List.length_take, Nat.min_eq_left h]
 rw [e, List.append_assoc, List.take_append_of_le_length (by omega), List.take_of_length_le (by omega)]
theorem nQ (hf : ∀ x, (f x).length = k) (l : List α) (i : Nat) (x : α) (sp : List Value) (h : i < l.length) : setR (l.flatMap f ++ sp) (i * k) (f x) = (l.set i x).flatMap f ++ sp := by
 have hlen := cV hf l
 have hb : i * k + k ≤ l.length * k := by have := Nat.mul_le_mul_right k (show i + 1 ≤ l.length by omega); rw [Nat.succ_mul] at this; exact this
 rw [kY _ _ _ (by rw [hf, List.length_append]; omega), hf, yi hf l i sp (by omega)]
 have e : i * k + k = (i + 1) * k := by rw [Nat.succ_mul]
 rw [e, qj hf l (i + 1) sp (by omega), List.set_eq_take_append_cons_drop, if_pos h]
 simp [List.flatMap_append, List.flatMap_cons]
theorem yj (L : List Value) (o k j : Nat) (v : Value) (h : o + k ≤ L.length) (hj : j < k) : L.take o ++ ((L.drop o).take k).set j v ++ L.drop (o + k) = L.set (o + j) v := by
 have e : L = L.take o ++ ((L.drop o).take k ++ L.drop (o + k)) := by
  rw [← List.drop_drop, List.take_append_drop, List.take_append_drop]
 have h1 : (L.take o).length = o := by rw [List.length_take]; omega
 have h2 : ((L.drop o).take k).length = k := by rw [List.length_take, List.length_drop]; omega
 conv => rhs; rw [e]
 rw [List.set_append_right _ _ (by omega), h1, Nat.add_sub_cancel_left, List.set_append_left _ _ (by omega), List.append_assoc]
theorem qk (hf : ∀ x, (f x).length = k) (l : List α) (i j : Nat) (v : Value) (x : α) (sp : List Value) (h : i < l.length) (hj : j < k) (hx : f x = (f l[i]).set j v) : (l.flatMap f ++ sp).set (i * k + j) v = (l.set i x).flatMap f ++ sp := by
 have hb : i * k + k ≤ l.length * k := by have := Nat.mul_le_mul_right k (show i + 1 ≤ l.length by omega); rw [Nat.succ_mul] at this; exact this
 have hlen := cV hf l
 have hle : i * k + k ≤ (l.flatMap f ++ sp).length := by rw [List.length_append, hlen]; omega
 rw [← nQ hf l i x sp h, hx, ← m9 hf l i sp h, kY _ _ _ (by rw [List.length_set, List.length_take, List.length_drop]; omega)]
 rw [List.length_set, List.length_take, List.length_drop, Nat.min_eq_left (by omega)]
 exact (yj _ _ _ _ _ hle hj).symm
end
section
variable {rd : Option Nat} {P : Program} {S : World → Prop} {W0 : World} {N : FSz} {Q : Exit → Act → World → Prop} {e : bq} {A B R : List HP} {ops : Array Oper} {rest : List Oper}
variable {op : Op} {ty t t' : TypeId} {pos : String} {af : Array Edge} {v u : Value} {d b off : Nat} {x y : Operand} {l l' vs : List Value}
theorem kZ {de : TypeDesc} (hu : P.underlying t = some de) (hn : ∀ ms, de ≠ .interface ms) (hx : ev e x = some v) : bO P S N e (.makeInterface t x) (.iface t v) := fun a w _ _ _ _ _ hF _ => by
 simp only [execOp, Instr.makeInterface, hF.eval hx, Sem.run_bind, d8 hu, Result.andThen_ok]
 cases de <;> first | rfl | exact absurd rfl (hn _)
theorem nR {de : TypeDesc} (hu : P.underlying t' = some de) (hn : ∀ ms, de ≠ .interface ms) (hx : ev e x = some (.iface t' v)) : bO P S N e (.typeAssert x t t' false) v := fun a w _ _ _ _ _ hF _ => by
 simp only [execOp, Instr.typeAssert, hF.eval hx, Sem.run_bind, d8 hu, Result.andThen_ok]
 cases de <;> first | (simp; done) | exact absurd rfl (hn _)
theorem dz {fn : Fn} {fs cs : Array Operand} {us : List Value} (h1 : dO e fs.toList = some us) (h2 : dO e cs.toList = some vs) : bO P S N e (.makeFunc fn fs cs) (.func fn us.toArray vs.toArray) := fun a w _ _ _ _ _ hF _ => by
 have e1 : fs.map a.eval = us.toArray := by rw [← hF.evals h1]; apply Array.ext'; simp
 have e2 : cs.map a.eval = vs.toArray := by rw [← hF.evals h2]; apply Array.ext'; simp
 simp [execOp, Instr.makeFunc, e1, e2]
theorem add_zero (a : Addr) : a.add 0 = a := rfl
theorem l5 {E n c : Nat} {a' : Option Addr} {k : IntKind} {h : Nat} {i : Int} (hu : P.underlying t = some (.slice E)) (hs : ∀ w, (sizeOf E).run P w = .ok d w) (hx : ev e x = some (.slice a' n c)) (hy : ev e y = some (.int k i)) (hi : i = (h : Int)) (hc : h ≤ c) :
    bO P S N e (.slice t x none (some y) none) (.slice a' h c) := fun a w _ _ _ _ _ hF _ => by
 subst hi
 have h1 : (0 : Int) ≤ (h : Int) ∧ (h : Int) ≤ (c : Int) := by omega
 simp only [execOp, Instr.sliceAt, Instr.slice, hF.eval hx, hF.eval hy, Sem.run_bind, d8 hu, Result.andThen_ok, Option.map_none, Option.map_some, Instr.sliceBounds, Instr.sliceBound, asIntOf, hs, Sem.run_pure, h1, and_self, if_true]
 by_cases hc0 : c = 0
 simp [hc0]
 simp [hc0, add_zero]
theorem yk {recv : Operand} {nm : String} {xs : Array Operand} {ats : Array TypeId} {T : TypeId} {rv rv' : Value} {f : FuncId} {Post : Value → List HP → Prop} (hr : ev e recv = some (.iface T rv))
    (hm : ∀ w, (method (P.types.size + Made.depth) T rv nm).run P w = .ok (f, rv') w) (hc : ∀ args w, (callFunc f args).run P w = .ok (.enter f args) w) (hx : dO e xs.toList = some vs)
    (hs : ax P W0 f (rv' :: vs) A Post) : cQ P W0 N e A (.call { callee := .invoke recv nm, args := xs, argTypes := ats }) Post := by
 intro a w dst ty pos af g K Q hF hO k
 have he : xs.map a.eval = vs.toArray := by
  have := hF.evals hx
  rw [← this]; apply Array.ext'; simp
 unfold Oper.wp
 have hrun : (execOp a.eval { dst := dst, op := .call { callee := .invoke recv nm, args := xs, argTypes := ats }, type := ty, pos := pos, after := af, guard := g }).run P w = .ok (.enter f (rv' :: vs).toArray) w := by
  simp only [execOp, resolve, Sem.run_bind, Sem.run_pure, Result.andThen_ok, invoke, he, hF.eval hr]
  have e0 : (#[Value.iface T rv] ++ vs.toArray : Array Value)[0]? = some (.iface T rv) := by simp
  have e1 : (#[Value.iface T rv] ++ vs.toArray : Array Value).extract 1 (#[Value.iface T rv] ++ vs.toArray : Array Value).size = vs.toArray := by
   apply Array.ext'; simp
  simp only [e0, e1, callMethod, Sem.run_bind, run_program, Result.andThen_ok, hm]
  rw [show (#[rv'] ++ vs.toArray : Array Value) = (rv' :: vs).toArray by simp, hc]
 rw [hrun]
 refine (hs w hO).mono ?_
 rintro _ w' ⟨v, B, rfl, hp, hO'⟩
 exact k v w' B hp hO'
theorem iB {fx : Operand} {xs : Array Operand} {ats : Array TypeId} {f : FuncId} {us cs : List Value} {Post : Value → List HP → Prop} (hf : ev e fx = some (.func (.func f) us.toArray cs.toArray))
    (hc : ∀ args w, (callFunc f args).run P w = .ok (.enter f args) w) (hx : dO e xs.toList = some vs) (hs : ax P W0 f (us ++ vs ++ cs) A Post) : cQ P W0 N e A (.call { callee := .value fx, args := xs, argTypes := ats }) Post := by
 intro a w dst ty pos af g K Q hF hO k
 have he : xs.map a.eval = vs.toArray := by
  have := hF.evals hx
  rw [← this]; apply Array.ext'; simp
 unfold Oper.wp
 have hrun : (execOp a.eval { dst := dst, op := .call { callee := .value fx, args := xs, argTypes := ats }, type := ty, pos := pos, after := af, guard := g }).run P w = .ok (.enter f (us ++ vs ++ cs).toArray) w := by
  simp only [execOp, resolve, Deferred.ofValue, Sem.run_bind, Sem.run_pure, Result.andThen_ok, invoke, he, hF.eval hf]
  rw [show (us.toArray ++ vs.toArray ++ cs.toArray : Array Value) = (us ++ vs ++ cs).toArray by simp, hc]
 rw [hrun]
 refine (hs w hO).mono ?_
 rintro _ w' ⟨v, B, rfl, hp, hO'⟩
 exact k v w' B hp hO'
theorem fc {Post : Value → List HP → Prop} (hp : Ent A B) (h : cQ P W0 N e B op Post) : cQ P W0 N e A op Post :=
  fun a w dst ty pos af g K Q hF hO k => h a w dst ty pos af g K Q hF (hO.ent hp) k
def osl (E : TypeId) (sz : Nat) (v : Value) (xs : List Value) : HP := fun l =>
  (v = .slice none 0 0 ∧ xs = [] ∧ l = []) ∨
  ∃ g n cap sp, v = .slice (some ⟨g, 0, none⟩) n cap ∧ n ≤ cap ∧ cap ≤ maxLen ∧ xs.length = n * sz ∧ (xs ++ sp).length = cap * sz ∧ l = [(g, am (xs ++ sp) E)]
theorem Own.osl {E sz : Nat} {w : World} {xs : List Value} (h : Own W0 w (osl E sz v xs :: A)) : (v = .slice none 0 0 ∧ xs = [] ∧ Own W0 w A) ∨
    ∃ g n cap sp, v = .slice (some ⟨g, 0, none⟩) n cap ∧ n ≤ cap ∧ cap ≤ maxLen ∧ xs.length = n * sz ∧ (xs ++ sp).length = cap * sz ∧ Own W0 w (pt g (am (xs ++ sp) E) :: A) := by
 obtain ⟨ls, ⟨l1, l2, rfl, h1, hs⟩, hn, hb⟩ := h.owns
 rcases h1 with ⟨h1, h2, rfl⟩ | ⟨g, n, cap, sp, h1, h2, h3, h4, h5, rfl⟩
 exact .inl ⟨h1, h2, h.os, h.tape, h.output, h.size, h.base, l2, hs, by simpa using hn, fun p hp => hb p (by simpa using hp)⟩
 exact .inr ⟨g, n, cap, sp, h1, h2, h3, h4, h5, h.os, h.tape, h.output, h.size, h.base, _, ⟨_, l2, rfl, rfl, hs⟩, hn, hb⟩
theorem gq {K : Act → World → Prop} {E sz : Nat} {xs : List Value} (h0 : v = .slice none 0 0 → xs = [] → aG W0 N K e A)
    (h1 : ∀ g n cap sp, v = .slice (some ⟨g, 0, none⟩) n cap → n ≤ cap → cap ≤ maxLen → xs.length = n * sz → (xs ++ sp).length = cap * sz → aG W0 N K e (pt g (am (xs ++ sp) E) :: A)) : aG W0 N K e (osl E sz v xs :: A) := fun a w hF hO => by
 rcases hO.osl with ⟨k1, k2, k3⟩ | ⟨g, n, cap, sp, k1, k2, k3, k4, k5, k6⟩
 exact h0 k1 k2 a w hF k3
 exact h1 g n cap sp k1 k2 k3 k4 k5 a w hF k6
theorem nS {f : FuncId} {args : List Value} {Post : Value → List HP → Prop} {E sz : Nat} {xs : List Value} (h0 : v = .slice none 0 0 → xs = [] → ax P W0 f args A Post)
    (h1 : ∀ g n cap sp, v = .slice (some ⟨g, 0, none⟩) n cap → n ≤ cap → cap ≤ maxLen → xs.length = n * sz → (xs ++ sp).length = cap * sz → ax P W0 f args (pt g (am (xs ++ sp) E) :: A) Post) : ax P W0 f args (osl E sz v xs :: A) Post := fun w hO => by
 rcases hO.osl with ⟨k1, k2, k3⟩ | ⟨g, n, cap, sp, k1, k2, k3, k4, k5, k6⟩
 exact h0 k1 k2 w k3
 exact h1 g n cap sp k1 k2 k3 k4 k5 w k6
theorem e7 {E sz g n cap : Nat} {xs sp : List Value} [h : Tk pt g A (am (xs ++ sp) E) R] (h1 : n ≤ cap) (h2 : cap ≤ maxLen) (h3 : xs.length = n * sz) (h4 : (xs ++ sp).length = cap * sz) [k : Ent R B] : Ent A (osl E sz (.slice (some ⟨g, 0, none⟩) n cap) xs :: B) :=
  (Ent.ofPerm h.perm).trans ((Ent.cons k).trans ⟨fun l hl => by
 obtain ⟨l1, l2, rfl, rfl, hs⟩ := hl
 exact ⟨_, [], ⟨_, l2, rfl, .inr ⟨g, n, cap, sp, rfl, h1, h2, h3, h4, rfl⟩, hs⟩, by simp⟩⟩)
theorem dZ {E sz : Nat} [k : Ent A B] : Ent A (osl E sz (.slice none 0 0) [] :: B) :=
  k.trans ⟨fun l hl => ⟨l, [], ⟨[], l, rfl, .inl ⟨rfl, rfl, rfl⟩, hl⟩, by simp⟩⟩
theorem eg {E sz n m c cx by_ : Nat} {bx ox : Nat} {info : TypeInfo} {z : Value} {an : Option Addr} {xs news : List Value} (hu : P.underlying t = some (.slice E))
    (hi : P.info? E = some info) (hz : info.zero = some z) (hsz : info.size = sz) (hby : info.bytes = by_) (hz1 : z.cells.size = sz) (hsz0 : 0 < sz)
    (hx : ev e x = some (.slice an n c)) (hy : ev e y = some (.slice (some ⟨bx, ox, none⟩) m cx)) [h : Tk (osl E sz) (.slice an n c) A xs R]
    (hnew : cB (bj W0 A) bx ox news) (hnl : news.length = m * sz) (h1 : e6 news = true) (h63 : n + m ≤ maxLen) (hbig : (n + m) * by_ ≤ 140737488355328) :
    cQ P W0 N e A (.call { callee := .builtin .append, args := #[x, y], argTypes := #[t, t] }) (fun v B => ∃ a' c', v = .slice a' (n + m) c' ∧ B = osl E sz v (xs ++ news) :: R) := by
 intro a w dst ty pos af g K Q hF hO k
 have hO' := hO.tk (r := osl E sz) (b := .slice an n c)
 have hcell : ∀ j u, news[j]? = some u → w.cell? ((⟨bx, ox, none⟩ : Addr).add j) = some u := fun j u hj => by rw [eK]; exact hnew j u hj w hO
 have hone : ∀ u ∈ news, u.oneCell' = true := fun u hm => by simpa [e6] using List.all_eq_true.1 h1 u hm
 have hsmall : n + m ≤ 9223372036854775807 := by simp only [maxLen] at h63; omega
 suffices hh : ∃ a' c' w', (Builtin.append_ #[t, t] ty #[.slice an n c, .slice (some ⟨bx, ox, none⟩) m cx]).run P w = .ok (.slice a' (n + m) c') w' ∧ Own W0 w' (osl E sz (.slice a' (n + m) c') (xs ++ news) :: R) by
  obtain ⟨a', c', w', hrun, hown⟩ := hh
  unfold Oper.wp
  have hexec : (execOp a.eval { dst := dst, op := .call { callee := .builtin .append, args := #[x, y], argTypes := #[t, t] }, type := ty, pos := pos, after := af, guard := g }).run P w = .ok (.value (.slice a' (n + m) c')) w' := by
   simp only [execOp, resolve, invoke, builtin, Sem.run_bind, Sem.run_pure, Result.andThen_ok, List.map_toArray, List.map_cons, List.map_nil, hF.eval hx, hF.eval hy, hrun]
  rw [hexec]
  exact k _ w' _ ⟨a', c', rfl, rfl⟩ hown
 subst hsz
 subst hby
 rcases hO'.osl with ⟨k1, k2, k3⟩ | ⟨g, n', cap, sp, k1, k2, k3, k4, k5, k6⟩
 cases k1; subst k2
 by_cases hm : m = 0
 subst hm
 have hn : news = [] := List.eq_nil_of_length_eq_zero (by simpa using hnl)
 subst hn
 refine ⟨none, 0, w, ?_, k3.ent dZ⟩
 simp [Builtin.append_, d8 hu, sizeOf, typeInfo, hi, Builtin.lenOf, Builtin.firstCells, loadCells, loadCellsFrom]
 have hr := run_append_nil (P := P) w t ty E info z hu hi hz ⟨bx, ox, none⟩ m cx news hnl hcell (by omega) (by omega) (by have hb := hbig; simp only [Nat.zero_add] at hb; omega)
 refine ⟨_, _, _, by simpa using hr, ?_⟩
 have hge := grownCap_ge w m 0 E
 have hcm := grownCap_le_maxLen w m 0 E (by omega)
 have hnew' := (Own.drew k3 (w.drawn + 1)).new (am (news ++ (Builtin.zeroCells z.cells (grownCap w m 0 E - m)).toList) E)
 have hw : (w.drew.alloc (.cells (news.toArray ++ Builtin.zeroCells z.cells (grownCap w m 0 E - m)) E)) = { ({ w with drawn := w.drawn + 1 } : World) with heap := w.heap.push (am (news ++ (Builtin.zeroCells z.cells (grownCap w m 0 E - m)).toList) E) } := by
  have ea : (news ++ (Builtin.zeroCells z.cells (grownCap w m 0 E - m)).toList).toArray = news.toArray ++ Builtin.zeroCells z.cells (grownCap w m 0 E - m) := by apply Array.ext'; simp
  simp only [World.drew, World.alloc, am, ea]
 rw [hw]
 refine hnew'.ent ?_
 have := @e7 (pt w.heap.size (am (news ++ (Builtin.zeroCells z.cells (grownCap w m 0 E - m)).toList) E) :: R) R R E info.size w.heap.size m (grownCap w m 0 E) news _ _ hge hcm hnl (by rw [List.length_append, hnl]; simp only [Array.length_toList, size_zeroCells, hz1, ← Nat.add_mul]; congr 1; omega) _
 simpa using this
 cases k1
 by_cases hroom : n + m ≤ c
 have hfit : n * info.size + news.length ≤ ((xs ++ sp).toArray).size := by rw [hnl, List.size_toArray, k5, ← Nat.add_mul]; exact Nat.mul_le_mul_right _ hroom
 have hr := run_append_room (P := P) w t ty E info hu hi g n c (xs ++ sp).toArray k6.has.2 ⟨bx, ox, none⟩ m cx news hnl hcell hone hroom hfit
 refine ⟨_, _, _, hr, ?_⟩
 have hl : (xs ++ sp).toArray.toList.take (n * info.size) ++ news ++ (xs ++ sp).toArray.toList.drop (n * info.size + news.length) = xs ++ news ++ sp.drop news.length := by
  simp only [← k4]
  rw [List.take_left, ← List.drop_drop, List.drop_left]
 rw [hl]
 have hset : Own W0 (w.setRow g (xs ++ news ++ sp.drop news.length).toArray) (pt g (am (xs ++ news ++ sp.drop news.length) E) :: R) :=
   k6.set rfl rfl rfl (by simp [World.setRow]) (setRow_heap w g _ _ E _ k6.has.2) (fun k hk => setRow_other w g k _ hk)
 refine hset.ent ?_
 have hspl : news.length ≤ sp.length := by
  have := k5; rw [List.length_append, k4] at this; rw [hnl]
  have h3 := Nat.mul_le_mul_right info.size hroom; rw [Nat.add_mul] at h3; omega
 exact @e7 _ R R E info.size g (n + m) c (xs ++ news) (sp.drop news.length) _ hroom k3 (by rw [List.length_append, k4, hnl, Nat.add_mul]) (by
   rw [← k5]; simp only [List.length_append, List.length_drop]; omega) _
 have holds : ∀ j u, xs[j]? = some u → w.cell? ((⟨g, 0, none⟩ : Addr).add j) = some u := fun j u hj => by
  rw [eK, Nat.zero_add]
  have := k6.has.2
  simp only [World.cell?, this, Option.isSome_none, Bool.false_eq_true, if_false]
  rw [List.getElem?_toArray, List.getElem?_append_left (by
    rcases Nat.lt_or_ge j xs.length with q | q
    · exact q
    rw [List.getElem?_eq_none q] at hj; cases hj)]
  exact hj
 have hr := run_append_grow (P := P) w t ty E info z hu hi hz ⟨g, 0, none⟩ n c xs k4 holds ⟨bx, ox, none⟩ m cx news hnl hcell (by omega) (by omega) (growslice_fits (by omega) hbig)
 refine ⟨_, _, _, hr, ?_⟩
 have hge := grownCap_ge w (n + m) c E
 have hcm := grownCap_le_maxLen w (n + m) c E h63
 have hnew' := (Own.drew k6.drop (w.drawn + 1)).new (am (xs ++ news ++ (Builtin.zeroCells z.cells (grownCap w (n + m) c E - (n + m))).toList) E)
 have hw : (w.drew.alloc (.cells (xs.toArray ++ news.toArray ++ Builtin.zeroCells z.cells (grownCap w (n + m) c E - (n + m))) E)) = { ({ w with drawn := w.drawn + 1 } : World) with heap := w.heap.push (am (xs ++ news ++ (Builtin.zeroCells z.cells (grownCap w (n + m) c E - (n + m))).toList) E) } := by
  have ea : (xs ++ news ++ (Builtin.zeroCells z.cells (grownCap w (n + m) c E - (n + m))).toList).toArray = xs.toArray ++ news.toArray ++ Builtin.zeroCells z.cells (grownCap w (n + m) c E - (n + m)) := by apply Array.ext'; simp
  simp only [World.drew, World.alloc, am, ea]
 rw [hw]
 refine hnew'.ent ?_
 exact @e7 _ R R E info.size w.heap.size (n + m) (grownCap w (n + m) c E) (xs ++ news) _ _ hge hcm (by rw [List.length_append, k4, hnl, Nat.add_mul]) (by
   rw [List.length_append, List.length_append, k4, hnl]; simp only [Array.length_toList, size_zeroCells, hz1, ← Nat.add_mul]; congr 1; omega) _
theorem dK [h : Tk pt b A (am l ty) R] : cB (bj W0 A) b 0 l := kS (by simp)
def l6 (k : Nat) (e : bq) : Nat → List (Nat × Operand) → List (List Value) → Prop
 | _, [], [] => True
 | i, (j, x) :: ps, r :: rs => j = i ∧ ev e x = some (.agg r.toArray) ∧ r.length = k ∧ l6 k e (i + 1) ps rs
 | _, _, _ => False
theorem fK {k i : Nat} : l6 k e i [] [] := trivial
theorem eB {k i : Nat} {ps : List (Nat × Operand)} {r : List Value} {rs : List (List Value)} (h : ev e x = some (.agg r.toArray)) (hl : r.length = k) (hr : l6 k e (i + 1) ps rs) : l6 k e i ((i, x) :: ps) (r :: rs) := ⟨rfl, h, hl, hr⟩
theorem tu {a : Act} {k : Nat} (he : ∀ x v, ev e x = some v → a.eval x = v) : ∀ (ps : List (Nat × Operand)) (rs : List (List Value)) (done l : List Value) (i : Nat), done.length = i * k → l6 k e i ps rs → l.length = rs.length * k →
    Instr.fill (fun i => some (i * k, k)) (done ++ l).toArray (ps.map fun (i, x) => (i, a.eval x)) = some (done ++ rs.flatten).toArray
 | [], [], done, l, i, _, _, hl => by
  have : l = [] := List.length_eq_zero_iff.1 (by simpa using hl)
  subst this; rfl
 | [], _ :: _, _, _, _, _, h, _ => h.elim
 | _ :: _, [], _, _, _, _, h, _ => by cases h
 | (j, x) :: ps, r :: rs, done, l, i, hd, h, hl => by
  obtain ⟨rfl, hx, h1, hr⟩ := h
  have hv := he x _ hx
  rw [List.length_cons, Nat.succ_mul] at hl
  have hc : ¬ (r.length ≠ k) := by omega
  have hc2 : ¬ (j * k + r.length > (done ++ l).length) := by rw [List.length_append]; omega
  simp only [List.map_cons, Instr.fill, hv, Value.cells, List.size_toArray, hc, hc2, decide_false, Bool.or_false, Bool.false_eq_true, if_false]
  rw [← hd, qg, kY _ _ _ (by rw [List.length_append]; omega), hd]
  have e1 : (done ++ l).take (j * k) ++ r ++ (done ++ l).drop (j * k + r.length) = (done ++ r) ++ l.drop k := by
   rw [← hd, List.take_left, ← List.drop_drop, List.drop_left, h1]
  rw [e1, tu he ps rs (done ++ r) (l.drop k) (j + 1) (by rw [List.length_append, hd, h1, Nat.succ_mul]) hr (by rw [List.length_drop]; omega)]
  simp
theorem fM {E n k : Nat} {z : List Value} {ps : Array (Nat × Operand)} {rs : List (List Value)} (hu : P.underlying t = some (.slice E)) (hs : ∀ w, (sizeOf E).run P w = .ok k w) (hz : ∀ w, (zeroValue E).run P w = .ok (.agg z.toArray) w) (hzl : z.length = k)
    (hel : l6 k e 0 ps.toList rs) (hn : rs.length = n) (hn0 : n ≠ 0) (hk0 : k ≠ 0) (hn2 : n * k ≤ 100000) :
    cQ P W0 N e A (.buildSlice t n ps) (fun v B => ∃ b, v = .slice (some ⟨b, 0, none⟩) n n ∧ B = pt b (am rs.flatten E) :: A) :=
  k0 (g := fun b => .slice (some ⟨b, 0, none⟩) n n) (fun a w _ _ _ _ _ hF _ => by
 have hfl := tu (k := k) (fun x v h => hF.eval h) ps.toList rs [] ((Array.range (n * k)).map (z.toArray[· % z.toArray.size]!)).toList 0 (by simp) hel (by simp [hn])
 simp only [List.nil_append, Array.toArray_toList] at hfl
 have hbig : ¬ (n * k > 2 ^ 24) := by omega
 have hn1 : ¬ (n * k = 0) := by rw [Nat.mul_eq_zero]; omega
 simp only [execOp, Instr.buildSlice, Sem.run_bind, d8 hu, Result.andThen_ok, hs, Array.toList_map, Sem.run_ite, if_neg hbig, if_neg hn1, hz, Sem.run_pure, Value.cells]
 rw [hfl]
 rfl)
theorem tv {K1 K2 X1 X2 : Type} {r1 : K1 → X1 → HP} {b1 : K1} {x1 : X1} {R1 : List HP} {r2 : K2 → X2 → HP} {b2 : K2} {x2 : X2} [h1 : Tk r1 b1 A x1 R1] [h2 : Tk r2 b2 R1 x2 R] : A.Perm (r1 b1 x1 :: r2 b2 x2 :: R) := h1.perm.trans (h2.perm.cons _)
theorem ql {K1 X1 : Type} {r1 : K1 → X1 → HP} {b1 : K1} {x1 : X1} [h1 : Tk r1 b1 A x1 R] : A.Perm (r1 b1 x1 :: R) := h1.perm
theorem dL {K1 X1 : Type} {r1 : K1 → X1 → HP} {b1 : K1} {x1 : X1} {recv : Operand} {nm : String} {xs : Array Operand} {ats : Array TypeId} {T : TypeId} {rv rv' : Value} {f : FuncId} {Post : Value → List HP → Prop} (hr : ev e recv = some (.iface T rv))
    (hm : ∀ w, (method (P.types.size + Made.depth) T rv nm).run P w = .ok (f, rv') w) (hc : ∀ args w, (callFunc f args).run P w = .ok (.enter f args) w) (hx : dO e xs.toList = some vs)
    (hs : ax P W0 f (rv' :: vs) (r1 b1 x1 :: R) Post) [h1 : Tk r1 b1 A x1 R] : cQ P W0 N e A (.call { callee := .invoke recv nm, args := xs, argTypes := ats }) Post :=
  jh ql (yk hr hm hc hx hs)
theorem qm {K1 X1 : Type} {r1 : K1 → X1 → HP} {b1 : K1} {x1 : X1} {fx : Operand} {xs : Array Operand} {ats : Array TypeId} {f : FuncId} {us cs : List Value} {Post : Value → List HP → Prop} (hf : ev e fx = some (.func (.func f) us.toArray cs.toArray))
    (hc : ∀ args w, (callFunc f args).run P w = .ok (.enter f args) w) (hx : dO e xs.toList = some vs) (hs : ax P W0 f (us ++ vs ++ cs) (r1 b1 x1 :: R) Post) [h1 : Tk r1 b1 A x1 R] : cQ P W0 N e A (.call { callee := .value fx, args := xs, argTypes := ats }) Post :=
  jh ql (iB hf hc hx hs)
theorem yl {K1 K2 X1 X2 : Type} {r1 : K1 → X1 → HP} {b1 : K1} {x1 : X1} {R1 : List HP} {r2 : K2 → X2 → HP} {b2 : K2} {x2 : X2} {fx : Operand} {xs : Array Operand} {ats : Array TypeId} {f : FuncId} {us cs : List Value} {Post : Value → List HP → Prop} (hf : ev e fx = some (.func (.func f) us.toArray cs.toArray))
    (hc : ∀ args w, (callFunc f args).run P w = .ok (.enter f args) w) (hx : dO e xs.toList = some vs) (hs : ax P W0 f (us ++ vs ++ cs) (r1 b1 x1 :: r2 b2 x2 :: R) Post) [h1 : Tk r1 b1 A x1 R1] [h2 : Tk r2 b2 R1 x2 R] : cQ P W0 N e A (.call { callee := .value fx, args := xs, argTypes := ats }) Post :=
  jh tv (iB hf hc hx hs)
def chk (F : List HP → Prop) : HP := fun l => ∃ C, F C ∧ dX C l
theorem Own.chk {F : List HP → Prop} {w : World} (h : Own W0 w (chk F :: R)) : ∃ C, F C ∧ Own W0 w (C ++ R) := by
 obtain ⟨ls, ⟨l1, l2, rfl, ⟨C, hC, h1⟩, hs⟩, hn, hb⟩ := h.owns
 exact ⟨C, hC, h.os, h.tape, h.output, h.size, h.base, _, dX.append.2 ⟨l1, l2, rfl, h1, hs⟩, hn, hb⟩
theorem eX {F : List HP → Prop} {C : List HP} (h : F C) : Ent (C ++ R) (chk F :: R) := ⟨fun l hl => by
 obtain ⟨l1, l2, rfl, h1, h2⟩ := dX.append.1 hl
 exact ⟨l1 ++ l2, [], ⟨l1, l2, rfl, ⟨C, h, h1⟩, h2⟩, by simp⟩⟩
theorem jm {K : Act → World → Prop} {F : List HP → Prop} (h : ∀ C, F C → aG W0 N K e (C ++ R)) : aG W0 N K e (chk F :: R) := fun a w hF hO => by
 obtain ⟨C, hC, hO'⟩ := hO.chk
 exact h C hC a w hF hO'
theorem nT {f : FuncId} {args : List Value} {Post : Value → List HP → Prop} {F : List HP → Prop} (h : ∀ C, F C → ax P W0 f args (C ++ R) Post) : ax P W0 f args (chk F :: R) Post := fun w hO => by
 obtain ⟨C, hC, hO'⟩ := hO.chk
 exact h C hC w hO'
theorem nU {f : FuncId} {args : List Value} {Post Post' : Value → List HP → Prop} (h : ax P W0 f args A Post) (k : ∀ v B, Post v B → ∃ B', Post' v B' ∧ Ent B B') : ax P W0 f args A Post' := fun w hO =>
  (h w hO).mono fun e w' ⟨v, B, h1, h2, h3⟩ => by
 obtain ⟨B', h4, h5⟩ := k v B h2
 exact ⟨v, B', h1, h4, h3.ent h5⟩
theorem eC {K X : Type} {r : K → X → HP} {b : K} {x : X} {Kt : Act → World → Prop} [h : Tk r b A x R] (k : aG W0 N Kt e (r b x :: R)) : aG W0 N Kt e A := m0 h.perm k
theorem k7 {f : FuncId} {args : List Value} {Post : Value → List HP → Prop} (hp : A.Perm B) (h : ax P W0 f args B Post) : ax P W0 f args A Post := fun w hO => h w (hO.perm hp)
end
theorem d4 : Tryz.prog.follows .mixedOrders = true := by kernel_rfl
structure RecX where
  e : bq
  n : Nat
  ps : Array Tmp
  asg : Code
  body : Code
  st : LoopState
  pe : Option Code
  D : Nat
def RecX.loop (x : RecX) (fn : FuncId) (tmps : Array Value) : Loop := { state := x.st, pending := x.pe, fn := fn, tmps := tmps, params := x.ps, assign := x.asg, body := x.body, defers := x.D }
def cJ (L : Nat) (x : RecX) : HP := chk (fun C => ∃ fn tmps, tmps.size = x.n ∧ (∀ t v, dq x.e t = some v → tmps[t]? = some v) ∧ C = [pt L (.loop (x.loop fn tmps))])
section
variable {rd : Option Nat} {P : Program} {W0 : World} {N : FSz} {Q : Exit → Act → World → Prop} {e : bq} {A B R : List HP} {ops : Array Oper} {rest : List Oper} {L : Nat} {x : RecX}
theorem Own.loopRec {w : World} (h : Own W0 w (cJ L x :: R)) : ∃ fn tmps, tmps.size = x.n ∧ (∀ t v, dq x.e t = some v → tmps[t]? = some v) ∧ Own W0 w (pt L (.loop (x.loop fn tmps)) :: R) := by
 obtain ⟨C, ⟨fn, tmps, h1, h2, rfl⟩, hO⟩ := h.chk
 exact ⟨fn, tmps, h1, h2, hO⟩
theorem Own.toRec {w : World} {fn : FuncId} {tmps : Array Value} (h1 : tmps.size = x.n) (h2 : ∀ t v, dq x.e t = some v → tmps[t]? = some v) (h : Own W0 w (pt L (.loop (x.loop fn tmps)) :: R)) : Own W0 w (cJ L x :: R) :=
  h.ent (eX (C := [pt L (.loop (x.loop fn tmps))]) ⟨fn, tmps, h1, h2, rfl⟩)
theorem Own.turn {w : World} {b : Nat} {o : Obj} (h : Own W0 w (pt b o :: R)) (o' : Obj) : Own W0 (w.putObj b o') (pt b o' :: R) :=
  h.set rfl rfl rfl (by simp) (World.putObj_heap_same (by
    rcases Nat.lt_or_ge b w.heap.size with q | q
    · exact q
    have := h.has.2; rw [Array.getElem?_eq_none q] at this; cases this)) (fun k hk => World.putObj_heap_other hk)
def jn (P : Program) (W0 : World) (L : Nat) (args : List Value) (A : List HP) (Post : Value → List HP → Prop) : Prop :=
  ∀ w, Own W0 w A → ∃ f tmps asg body, (Instr.yield L args.toArray).run P w = .ok (.round L f tmps asg body) w ∧ RoundIn (FW none) 0 P L f tmps asg body w (fun e w' => ∃ v B, e = .returned v ∧ Post v B ∧ Own W0 w' B)
theorem tx {fx : Operand} {xs : Array Operand} {ats : Array TypeId} {vs : List Value} {Post : Value → List HP → Prop} {dst : Option Tmp} {ty : TypeId} {pos : String} {af : Array Edge} (hf : ev e fx = some (.func (.yield L) #[] #[])) (hx : dO e xs.toList = some vs)
    (hd : (match dst with | some d => Nat.blt d N.n | none => true) = true)
    (hr : jn P W0 L vs A Post) (k : ∀ v B, Post v B → aG W0 N (cz rd P ops Q rest) (match (generalizing := false) dst with | some d => (d, v) :: e | none => e) B) :
    aG W0 N (cz rd P ops Q ({ dst := dst, op := .call { callee := .value fx, args := xs, argTypes := ats }, type := ty, pos := pos, after := af, guard := none } :: rest)) e A := by
 intro a w hF hO
 simp only [cz, Region.wanted, if_true]
 refine .inr ⟨fun _ _ => trivial, ?_⟩
 have he : xs.map a.eval = vs.toArray := by
  have := hF.evals hx
  rw [← this]; apply Array.ext'; simp
 obtain ⟨f, tmps, asg, body, hy, hR⟩ := hr w hO
 have hrun : (execOp a.eval { dst := dst, op := .call { callee := .value fx, args := xs, argTypes := ats }, type := ty, pos := pos, after := af, guard := none }).run P w = .ok (.round L f tmps asg body) w := by
  simp only [execOp, resolve, Deferred.ofValue, Sem.run_bind, Sem.run_pure, Result.andThen_ok, invoke, he, hF.eval hf]
  have : (#[] ++ vs.toArray : Array Value) = vs.toArray := by simp
  simp only [this]; exact hy
 have hsem : Oper.semAt (FW rd).round a.eval { dst := dst, op := .call { callee := .value fx, args := xs, argTypes := ats }, type := ty, pos := pos, after := af, guard := none } = execOp a.eval { dst := dst, op := .call { callee := .value fx, args := xs, argTypes := ats }, type := ty, pos := pos, after := af, guard := none } :=
   Oper.semAt_eq _ _ _ (fun c h => by cases h)
 rw [hsem, hrun]
 refine ⟨fun h => (by cases h), RoundIn.mono hR ?_⟩
 rintro _ w' ⟨v, B, rfl, hp, hO'⟩
 have k := k v B hp
 cases dst with
 | none => exact k a w' hF hO'
 | some d => exact k _ w' (hF.put (Nat.lt_of_succ_le (Nat.le_of_ble_eq_true hd)) v) hO'
def ma : List Nat → List Value → bq → bq
 | p :: ps, v :: vs, e => ma ps vs ((p, v) :: e)
 | _, _, e => e
theorem tz {n : Nat} {ds : List Deferred} : ∀ (ps : List Nat) (vs : List Value) (e : bq) (tmps : Array Value), (ps.all fun p => Nat.blt p n) = true → Fr { tmps := tmps, defers := ds } ⟨n, ds⟩ e →
    Fr { tmps := (ps.zip vs).foldl (fun t (p, v) => t.setIfInBounds p v) tmps, defers := ds } ⟨n, ds⟩ (ma ps vs e)
 | [], _, e, tmps, _, h => by simpa [ma] using h
 | p :: ps, [], e, tmps, _, h => by simpa [ma] using h
 | p :: ps, v :: vs, e, tmps, hp, h => by
  simp only [List.all_cons, Bool.and_eq_true] at hp
  have := h.put (Nat.lt_of_succ_le (Nat.le_of_ble_eq_true hp.1)) v
  exact tz ps vs _ _ hp.2 this
def tA (P : Program) (L : Nat) (body : Code) (Q : Exit → Act → World → Prop) : Act → World → Prop := fun a w => ∃ w₂, (Instr.beginRound L).run P w = .ok () w₂ ∧ body.wpR (some L) P Q a w₂
theorem qn {body : Code} [h : Tk cJ L A x R] (hs : x.st = .ready) (k : aG W0 N (body.wpR (some L) P Q) e (cJ L { x with st := .busy } :: R)) : aG W0 N (Ex (Exit.then (tA P L body Q) (fun _ _ _ => False)) .normal) e A := by
 intro a w hF hO
 obtain ⟨fn, tmps, h1, h2, hO1⟩ := (hO.tk (r := cJ) (b := L)).loopRec
 refine ⟨_, run_beginRound hO1.has.2 (by exact hs), k a _ hF ?_⟩
 exact Own.toRec (x := { x with st := .busy }) h1 h2 (hO1.turn _)
def l7 (P : Program) (W0 : World) (L : Nat) (Post : Value → List HP → Prop) : Exit → Act → World → Prop := roundPost P L (fun e w' => ∃ v B, e = .returned v ∧ Post v B ∧ Own W0 w' B)
theorem nV {Post : Value → List HP → Prop} [h : Tk cJ L A x R] (hp : ∃ B, Post (.bool true) B ∧ Ent (cJ L { x with st := .ready, pe := none } :: R) B) : aG W0 N (Ex (l7 P W0 L Post) .normal) e A := by
 intro a w hF hO
 obtain ⟨fn, tmps, h1, h2, hO1⟩ := (hO.tk (r := cJ) (b := L)).loopRec
 obtain ⟨B, hB, hE⟩ := hp
 exact ⟨_, _, run_endRound none hO1.has.2, _, B, rfl, hB, Own.ent (Own.toRec (x := { x with st := .ready, pe := none }) h1 h2 (hO1.turn _)) hE⟩
theorem ym {Post : Value → List HP → Prop} [h : Tk cJ L A x R] (hp : ∃ B, Post (.bool false) B ∧ Ent (cJ L { x with st := .done, pe := some .ret } :: R) B) : aG W0 N (Ex (l7 P W0 L Post) .ret) e A := by
 intro a w hF hO
 obtain ⟨fn, tmps, h1, h2, hO1⟩ := (hO.tk (r := cJ) (b := L)).loopRec
 obtain ⟨B, hB, hE⟩ := hp
 exact ⟨_, _, run_endRound (some .ret) hO1.has.2, _, B, rfl, hB, Own.ent (Own.toRec (x := { x with st := .done, pe := some .ret }) h1 h2 (hO1.turn _)) hE⟩
theorem qo {args : List Value} {Post : Value → List HP → Prop} [h : Tk cJ L A x R] (hl : args.length = x.ps.size) (hps : (x.ps.toList.all fun p => Nat.blt p x.n) = true)
    (k : aG W0 ⟨x.n, []⟩ (x.asg.wpR (some L) P (Exit.then (tA P L x.body (l7 P W0 L Post)) (fun _ _ _ => False))) (ma x.ps.toList args x.e) (cJ L x :: R)) : jn P W0 L args A Post := by
 intro w hO
 obtain ⟨fn, tmps, h1, h2, hO1⟩ := (hO.tk (r := cJ) (b := L)).loopRec
 refine ⟨_, _, _, _, run_yield hO1.has.2 (by simpa [RecX.loop] using hl), ?_⟩
 refine roundIn_of_wpIn (F := FW none) trivial ?_
 have hF := tz (n := x.n) (ds := []) x.ps.toList args x.e tmps hps ⟨rfl, h1, h2⟩
 have e1 : ((x.loop fn tmps).params.zip args.toArray).foldl (fun t (p, v) => t.setIfInBounds p v) (x.loop fn tmps).tmps = (x.ps.toList.zip args).foldl (fun t (p, v) => t.setIfInBounds p v) tmps := by
  simp only [RecX.loop]
  rw [← Array.foldl_toList, Array.toList_zip]
 rw [e1]
 exact k _ w hF (Own.toRec h1 h2 hO1)
theorem tB {n gf : Nat} {g : Operand} {ps : Array Tmp} {asg body : Code} {lb : List Value} (Go Stop : List HP → Prop) (hg : ev e g = some (.func (.func gf) #[] lb.toArray))
    (hc : ∀ args w, (callFunc gf args).run P w = .ok (.enter gf args) w)
    (hs : ∀ L D, ax P W0 gf (.func (.yield L) #[] #[] :: lb) (cJ L ⟨e, n, ps, asg, body, .ready, none, D⟩ :: pt D (.deferred (some [])) :: A)
      (fun _ B => (∃ C, B = cJ L ⟨e, n, ps, asg, body, .ready, none, D⟩ :: pt D (.deferred (some [])) :: C ∧ Go C) ∨ (∃ C, B = cJ L ⟨e, n, ps, asg, body, .done, some .ret, D⟩ :: pt D (.deferred (some [])) :: C ∧ Stop C)))
    (hgo : ∀ D C, Go C → aG W0 ⟨n, [ic D]⟩ (Ex Q .normal) e (pt D (.deferred (some [])) :: C))
    (hstop : ∀ D C, Stop C → aG W0 ⟨n, [ic D]⟩ (Ex Q .ret) e (pt D (.deferred (some [])) :: C)) :
    aG W0 ⟨n, []⟩ ((Code.rangeFunc g ps asg body).wpR none P Q) e A := by
 intro a w hF hO
 refine wpIn_rangeFunc (F := FW none) (n := 0) ?_
 intro fn _
 have hO1 : Own W0 ((w.alloc (.deferred (some []))).alloc (.loop ((⟨e, n, ps, asg, body, .ready, none, w.heap.size⟩ : RecX).loop fn a.tmps))) (cJ (w.heap.size + 1) ⟨e, n, ps, asg, body, .ready, none, w.heap.size⟩ :: pt w.heap.size (.deferred (some [])) :: A) := by
  refine Own.toRec (fn := fn) hF.size hF.at_ ?_
  have h1 := (hO.new (.deferred (some []))).new (.loop ((⟨e, n, ps, asg, body, .ready, none, w.heap.size⟩ : RecX).loop fn a.tmps))
  have e1 : (w.heap.push (.deferred (some []))).size = w.heap.size + 1 := by simp
  simp only [e1] at h1
  exact h1
 have hent := run_enterLoop_outer (P := P) (w := w) fn a.tmps ps asg body
 generalize hW1 : (w.alloc (.deferred (some []))).alloc (.loop ((⟨e, n, ps, asg, body, .ready, none, w.heap.size⟩ : RecX).loop fn a.tmps)) = W1 at hO1
 rw [show (w.alloc (.deferred (some []))).alloc (.loop { state := .ready, pending := none, fn, tmps := a.tmps, params := ps, assign := asg, body, defers := w.heap.size }) = W1 from hW1] at hent
 have hF' : ∀ D, Fr { a with defers := [ic D] ++ a.defers } ⟨n, [ic D]⟩ e := fun D => ⟨by simp [hF.defers], hF.size, hF.at_⟩
 refine ⟨w.heap.size + 1, [{ target := .collected w.heap.size, args := #[] }], W1, { target := .fn (.func gf) lb.toArray, args := #[.func (.yield (w.heap.size + 1)) #[] #[]] }, W1, gf,
   #[.func (.yield (w.heap.size + 1)) #[] #[]] ++ lb.toArray, W1, hent, ?_, fun _ _ => trivial, ?_, fun h => (by cases h), ?_⟩
 have hgv := hF.eval hg
 simp only [resolve, hgv]
 simp [go_sem]
 simp [invoke, go_sem, hc]
 refine nD.2 ?_
 have e2 : (#[.func (.yield (w.heap.size + 1)) #[] #[]] ++ lb.toArray : Array Value) = (.func (.yield (w.heap.size + 1)) #[] #[] :: lb).toArray := by simp
 rw [e2]
 refine Calls.mono (hs (w.heap.size + 1) w.heap.size _ hO1) ?_
 rintro _ w' ⟨v, B, rfl, hp, hO2⟩
 rcases hp with ⟨C, rfl, hC⟩ | ⟨C, rfl, hC⟩
 obtain ⟨fn', tmps', h1, h2, hO3⟩ := hO2.loopRec
 refine ⟨none, _, run_endLoop hO3.has.2 (by simp [RecX.loop]), ?_⟩
 exact hgo _ C hC _ _ (hF' _) (hO3.turn _).drop
 obtain ⟨fn', tmps', h1, h2, hO3⟩ := hO2.loopRec
 refine ⟨some .ret, _, run_endLoop hO3.has.2 (by simp [RecX.loop]), ?_⟩
 exact wpIn_ret (hstop _ C hC _ _ (hF' _) (hO3.turn _).drop)
end
section
variable {rd : Option Nat} {P : Program} {S : World → Prop} {W0 : World} {N : FSz} {Q : Exit → Act → World → Prop} {e : bq} {A B R : List HP} {ops : Array Oper} {rest : List Oper}
variable {op : Op} {ty t t' : TypeId} {pos : String} {af : Array Edge} {v u : Value} {d b off : Nat} {x y z : Operand} {l l' vs : List Value}
theorem cB.weak (h : cB (bj W0 B) b off vs) [k : Ent A B] : cB (bj W0 A) b off vs := fun i v hi => (h i v hi).weak
theorem yn {E d : Nat} {a : Option Addr} {n c : Nat} (hu : P.underlying t = some (.slice E)) : gn P (d + 1) t (.slice a n c) (.slice none 0 0) a.isNone := fun w => by
 cases a <;> simp [Op.equalIn, d8 hu]
theorem nW {E : TypeId} {a : Option Addr} {n c : Nat} (hu : P.underlying t = some (.slice E)) (hx : ev e x = some (.slice a n c)) (hy : ev e y = some (.slice none 0 0)) : bO P S N e (.binOp .eql t x y t') (.bool a.isNone) :=
  ek hx hy (fun w x y => by simp [eqGuard]) (nF rfl (yn hu))
theorem l8 {P : Program} {k : IntKind} {i y : Nat} {code : BoundsCode} (h : i ≤ y) (w : World) : (Instr.sliceBound (.int k (i : Int)) y code).run P w = .ok i w := by
 have : (0 : Int) ≤ (i : Int) ∧ (i : Int) ≤ (y : Int) := by omega
 simp [Instr.sliceBound, asIntOf, this, h]
theorem qp {E n c sz o' : Nat} {k k' k'' : IntKind} {i h m : Nat} {j1 j2 j3 : Int} (hu : P.underlying t = some (.slice E)) (hs : ∀ w, (sizeOf E).run P w = .ok sz w) (hx : ev e x = some (.slice (some ⟨b, off, none⟩) n c))
    {lo hi mx : Operand} (h1 : ev e lo = some (.int k j1)) (h2 : ev e hi = some (.int k' j2)) (h3 : ev e mx = some (.int k'' j3)) (e1 : j1 = (i : Int)) (e2 : j2 = (h : Int)) (e3 : j3 = (m : Int)) (hil : i ≤ h) (hhm : h ≤ m) (hmc : m ≤ c) (hne : i < m) (ho : off + i * sz = o') :
    bO P S N e (.slice t x (some lo) (some hi) (some mx)) (.slice (some ⟨b, o', none⟩) (h - i) (m - i)) := fun a w _ _ _ _ _ hF _ => by
 subst e1; subst e2; subst e3; subst ho
 have hmi : ¬ m = i := by omega
 simp [execOp, Instr.sliceAt, Instr.slice, hF.eval hx, hF.eval h1, hF.eval h2, hF.eval h3, d8 hu, Instr.sliceBounds, l8 hmc, l8 hhm, l8 hil, hs, hmi, eK]
theorem nX {E n sz : Nat} (hu : P.underlying t = some (.array n E)) (hs : ∀ w, (sizeOf E).run P w = .ok sz w) (hx : ev e x = some (.pointer (some ⟨b, off, none⟩))) :
    bO P S N e (.slice t x none none none) (.slice (some ⟨b, off, none⟩) n n) := fun a w _ _ _ _ _ hF _ => by
 by_cases h : n = 0
 simp [execOp, Instr.sliceAt, hF.eval hx, d8 hu, Instr.sureAddr, Instr.sliceBounds, hs, h]
 simp [execOp, Instr.sliceAt, hF.eval hx, d8 hu, Instr.sureAddr, Instr.sliceBounds, hs, h, eK]
theorem qq {E sz : Nat} {ps : Array (Nat × Operand)} (hu : P.underlying t = some (.slice E)) (hs : ∀ w, (sizeOf E).run P w = .ok sz w) (hp : ps = #[]) :
    cQ P W0 N e A (.buildSlice t 0 ps) (fun v B => ∃ b, v = .slice (some ⟨b, 0, none⟩) 0 0 ∧ B = osl E sz v [] :: A) := je fun a w _ _ _ _ _ hF hO => by
 subst hp
 have hn := hO.new (am [] E)
 refine ⟨_, { w with heap := w.heap.push (am [] E) }, _, .inl ?_, ⟨w.heap.size, rfl, rfl⟩, ?_⟩
 simp [execOp, Instr.buildSlice, d8 hu, hs, Instr.fill, newRow, Array.range_zero']
 have : pt w.heap.size (am [] E) = pt w.heap.size (am ([] ++ []) E) := rfl
 rw [this] at hn
 exact hn.ent (e7 (Nat.le_refl _) (Nat.zero_le _) (by simp) (by simp))
theorem qt {E sz by_ : Nat} {info : TypeInfo} {zz : Value} {v0 : Value} {n : Nat} {k k' : IntKind} {i1 i2 : Int} (hu : P.underlying t = some (.slice E)) (hi : P.info? E = some info) (hz : info.zero = some zz) (hsz : info.size = sz) (hby : info.bytes = by_)
    (hzc : zz.cells = (List.replicate sz v0).toArray) (hsz0 : 0 < sz) (hx : ev e x = some (.int k i1)) (hy : ev e y = some (.int k' i2)) (e1 : i1 = (n : Int)) (e2 : i2 = (n : Int)) (hn : n ≤ 1000000) (hb : by_ ≤ 1000000) :
    cQ P W0 N e A (.makeSlice t x y) (fun v B => ∃ b, v = .slice (some ⟨b, 0, none⟩) n n ∧ B = pt b (am (List.replicate (n * sz) v0) E) :: A) :=
  k0 (g := fun b => .slice (some ⟨b, 0, none⟩) n n) (fun a w _ _ _ _ _ hF _ => by
 subst e1; subst e2; subst hsz; subst hby
 have hm : info.bytes * n ≤ 1000000 * 1000000 := Nat.mul_le_mul hb hn
 have hr := run_make (P := P) w t E info zz hu hi hz k k' n n (by omega) (by omega) (by rw [← Int.natCast_mul]; omega) (by omega)
 simp only [Int.toNat_natCast] at hr
 have hc : madeCells zz.cells (n * info.size) = (List.replicate (n * info.size) v0).toArray := by
  apply Array.ext
  simp [madeCells]
  intro i h1 h2
  simp only [madeCells, hzc, Array.getElem_map, Array.getElem_range, List.size_toArray, List.length_replicate]
  have hlt : i % info.size < info.size := Nat.mod_lt _ hsz0
  rw [getElem!_pos _ _ (by simpa using hlt)]
  simp
 rw [hc] at hr
 simp only [execOp, hF.eval hx, hF.eval hy, Sem.run_bind, hr, Result.andThen_ok, Sem.run_pure]
 rfl)
theorem k8 {E sz dn dc sn sc bx ox m : Nat} (hu : P.underlying t = some (.slice E)) (hs : ∀ w, (sizeOf E).run P w = .ok sz w) (hx : ev e x = some (.slice (some ⟨b, off, none⟩) dn dc)) (hy : ev e y = some (.slice (some ⟨bx, ox, none⟩) sn sc))
    [h : Tk pt b A (am l ty) R] (hm : Nat.min sn dn = m) (hc : cB (bj W0 A) bx ox vs) (hl : vs.length = m * sz) (h1 : e6 vs = true) (ho : off + m * sz ≤ l.length) (hr : setR l off vs = l') :
    cQ P W0 N e A (.call { callee := .builtin .copy, args := #[x, y], argTypes := #[t, t'] }) (fun v B => v = .int .i64 m ∧ B = pt b (am l' ty) :: R) := by
 intro a w dst ty' pos af g K Q hF hO k
 have hO' := hO.tk (r := pt) (b := b)
 have hld := nM (P := P) (w := w) (fun i v hi => hc i v hi w hO) (m * sz) 0 #[] (by omega)
 obtain ⟨w', hst, hO''⟩ := qf (P := P) (off := off) vs 0 hO' (by omega) (fun v hv => by simpa [e6] using (List.all_eq_true.1 h1 v hv))
 rw [Nat.add_zero, hr] at hO''
 have hexec : (execOp a.eval { dst := dst, op := .call { callee := .builtin .copy, args := #[x, y], argTypes := #[t, t'] }, type := ty', pos := pos, after := af, guard := g }).run P w = .ok (.value (.int .i64 m)) w' := by
  simp only [execOp, resolve, invoke, builtin, Sem.run_bind, Sem.run_pure, Result.andThen_ok, List.map_toArray, List.map_cons, List.map_nil, hF.eval hx, hF.eval hy, Builtin.copy_, Builtin.lenOf, Builtin.firstCells, d8 hu, hs]
  have hs' : (sizeOf E).run P w = .ok sz w := hs w
  simp only [hm, Array.getElem?_eq_getElem, List.getElem?_toArray, List.getElem?_cons_zero, List.getElem?_cons_succ, Sem.run_bind, Sem.run_pure, Result.andThen_ok, d8 hu, hs', loadCells, hld, List.drop_zero, List.nil_append, Array.empty_append, hst, goInt]
 unfold Oper.wp
 rw [hexec]
 exact k _ w' _ ⟨rfl, rfl⟩ hO''
theorem qu {k : IntKind} {m n r : Int} {ats : Array TypeId} (hx : ev e x = some (.int k m)) (hy : ev e y = some (.int k n)) (hr : (if n < m then n else m) = r) : bO P S N e (.call { callee := .builtin .min, args := #[x, y], argTypes := ats }) (.int k r) := fun a w _ _ _ _ _ hF _ => by
 simp [execOp, resolve, invoke, builtin, hF.eval hx, hF.eval hy, Builtin.min_, Builtin.min2, hr]
end
end
section
def bV (b : Nat) : Value := .int .u8 (b : Int)
def bR (l : List Nat) : List Value := l.map bV
theorem dQ (l : List Nat) : (bR l).length = l.length := by simp [bR]
theorem yo (l : List Nat) (i : Nat) (h : i < l.length) : (bR l)[i]? = some (bV l[i]) := by simp [bR, h]
theorem yp (a b : List Nat) : bR (a ++ b) = bR a ++ bR b := by simp [bR]
theorem nY (l : List Nat) : e6 (bR l) = true := by simp [e6, bR, bV, Value.oneCell']
def By (l : List Nat) : Prop := ∀ b ∈ l, b < 256
theorem By.get {l : List Nat} (h : By l) {i : Nat} (hi : i < l.length) : l[i] < 256 := h _ (List.getElem_mem hi)
def nZ : List Nat → Nat
 | [] => 0
 | b :: bs => b + 256 * nZ bs
theorem By.take {l : List Nat} (h : By l) (i : Nat) : By (l.take i) := fun b hb => h b (List.mem_of_mem_take hb)
theorem By.drop {l : List Nat} (h : By l) (i : Nat) : By (l.drop i) := fun b hb => h b (List.mem_of_mem_drop hb)
theorem By.append {a b : List Nat} (h : By a) (k : By b) : By (a ++ b) := fun x hx => by
 rcases List.mem_append.1 hx with h' | h'
 exact h x h'
 exact k x h'
theorem yq (i : Nat) : 256 ^ i = 2 ^ (8 * i) := by rw [Nat.pow_mul]
def fN (n w : Nat) : List Nat := (List.range n).map fun i => w / 256 ^ i % 256
theorem mb (n w : Nat) : (fN n w).length = n := by simp [fN]
theorem yr (n w : Nat) : By (fN n w) := fun b hb => by
 obtain ⟨i, _, rfl⟩ := List.mem_map.1 hb
 exact Nat.mod_lt _ (by decide)
theorem yt (n w : Nat) : fN (n + 1) w = fN n w ++ [w / 256 ^ n % 256] := by simp [fN, List.range_succ]
theorem yu {w i : Nat} (hi : 8 * i ≤ 32) : IntKind.wrap .u8 (kP .u32 (w : Int) ((8 * i : Nat) : Int)) = ((w / 256 ^ i % 256 : Nat) : Int) := by
 rw [qi (by simpa [IntKind.bits] using hi), ← yq]
 simp only [IntKind.wrap, IntKind.bits, IntKind.signed]
 simp
def ii (l : List Nat) (at_ n w : Nat) : List Nat := l.take at_ ++ fN n w ++ l.drop (at_ + n)
theorem o8 {l : List Nat} {at_ n w : Nat} (h : at_ + n ≤ l.length) : (ii l at_ n w).length = l.length := by simp [ii, mb]; omega
theorem yw {l : List Nat} {at_ n w : Nat} (h : By l) : By (ii l at_ n w) := ((h.take _).append (yr _ _)).append (h.drop _)
theorem tC : ∀ (vs l : List Value) (off : Nat) (v : Value), setR l off (vs ++ [v]) = (setR l off vs).set (off + vs.length) v
 | [], l, off, v => by simp [setR]
 | u :: vs, l, off, v => by
  rw [List.cons_append, setR, setR, tC vs]
  congr 1; simp; omega
theorem yx {l : List Nat} {at_ n w : Nat} (h : at_ + n ≤ l.length) : setR (bR l) at_ (bR (fN n w)) = bR (ii l at_ n w) := by
 rw [kY _ _ _ (by rw [dQ, dQ, mb]; exact h), dQ, mb]
 simp [ii, bR, List.map_take, List.map_drop]
theorem tD : ∀ (vs a b : List Value) (off : Nat), off + vs.length ≤ a.length → setR (a ++ b) off vs = setR a off vs ++ b
 | [], a, b, off, _ => rfl
 | v :: vs, a, b, off, h => by
  simp only [List.length_cons] at h
  rw [setR, setR, List.set_append_left _ _ (by omega), tD vs _ b (off + 1) (by simp; omega)]
def dH (n : Nat) (at_ w : Int) : Bool := decide ((w = 1 ∨ w = 2 ∨ w = 4) ∧ 0 ≤ at_ ∧ at_ ≤ n ∧ w ≤ n - at_)
theorem fe {n : Nat} {at_ w : Int} : dH n at_ w = true ↔ (w = 1 ∨ w = 2 ∨ w = 4) ∧ 0 ≤ at_ ∧ at_ ≤ n ∧ w ≤ n - at_ := by simp [dH]
theorem mc {n : Nat} {at_ w : Int} (h : dH n at_ w = true) : ∃ i k : Nat, at_ = (i : Int) ∧ w = (k : Int) ∧ (k = 1 ∨ k = 2 ∨ k = 4) ∧ i + k ≤ n := by
 have := fe.1 h
 exact ⟨at_.toNat, w.toNat, by omega, by omega, by omega, by omega⟩
end
section
open Go.RowKit
def ff (g off n : Nat) (at_ w : Int) : Value := if dH n at_ w then .tuple #[.slice (some ⟨g, off + at_.toNat, none⟩) w.toNat w.toNat, .bool true] else .tuple #[.slice none 0 0, .bool false]
theorem yy (W0 : World) (R : List HP) (g off n c : Nat) (at_ w : Int) (hn : n ≤ c) (h63 : c < 9223372036854775808) :
    ax Tryz.prog W0 183 [.slice (some ⟨g, off, none⟩) n c, .int .i64 at_, .int .i64 w] R (fun v B => v = ff g off n at_ w ∧ B = R) := by
 refine aB func183 ntmps183 rfl rfl ?_
 refine aa (ae (a7 rfl (ag rfl) (a7 rfl (ag rfl) (ac (a8 (aa (aP (aa (ae (a7 rfl (ab rfl) (a7 rfl (bT rfl rfl) (a7 rfl (ab rfl) ?_))))))))))))
 refine dh rfl rfl rfl ?_ ?_
 intro g1_3
 refine a7 rfl (ab rfl) (av rfl rfl (a7 rfl (bT rfl rfl) (a7 rfl (bI rfl rfl) (a7 rfl (ab rfl) ?_))))
 refine dh rfl rfl rfl ?_ ?_
 intro g1_7
 refine a7 rfl (ab rfl) (av rfl rfl (a7 rfl (bT rfl rfl) (a7 rfl (bI rfl rfl) (a7 rfl (ag rfl) (ac (a8 ?_))))))
 refine au rfl ?_ ?_
 intro c1
 refine aa (ae (a7 rfl (ag rfl) (a7 rfl (ag rfl) (ac (a8 (ao (be (aJ (ak (.inl rfl) (.cons (aj rfl) (.cons (aj rfl) .nil)) ?_)))))))))
 refine ⟨_, ⟨?_, rfl⟩, inferInstance⟩
 have hi : dH n at_ w = false := by
  rw [← Bool.not_eq_true, fe]; omega
 simp [ct, ff, hi]
 intro c1
 refine aa (aa (ae (a7 rfl (ab rfl) (a7 rfl (aV rfl rfl) (a7 rfl (ag rfl) (ac (a8 ?_)))))))
 refine au rfl ?_ ?_
 intro c3
 refine aA (a8 (cI rfl (aa (ae (a7 rfl (ag rfl) (a7 rfl (ag rfl) (ac (a8 (ao (be (aJ (ak (.inl rfl) (.cons (aj rfl) (.cons (aj rfl) .nil)) ?_))))))))))))
 refine ⟨_, ⟨?_, rfl⟩, inferInstance⟩
 have hi : dH n at_ w = false := by
  rw [← Bool.not_eq_true, fe]; omega
 simp [ct, ff, hi]
 intro c3
 refine aa (ae (a7 rfl (ab rfl) (a7 rfl (ab rfl) (a7 rfl (aY dV rfl) (a7 rfl (cA rfl rfl) (a7 rfl (ag rfl) (ac (a8 ?_))))))))
 refine au rfl ?_ ?_
 intro c4
 refine aA (a8 (cI rfl (aa (ae (a7 rfl (ag rfl) (a7 rfl (ag rfl) (ac (a8 (ao (be (aJ (ak (.inl rfl) (.cons (aj rfl) (.cons (aj rfl) .nil)) ?_))))))))))))
 refine ⟨_, ⟨?_, rfl⟩, inferInstance⟩
 have hi : dH n at_ w = false := by
  rw [← Bool.not_eq_true, fe]; omega
 simp [ct, ff, hi]
 intro c4
 refine ae (a7 rfl (ab rfl) (a7 rfl (ab rfl) (a7 rfl (aY dV rfl) (a7 rfl (ab rfl) ?_))))
 refine a7 rfl (d7 rfl rfl (by first | exact aT (by omega) | rfl)) ?_
 refine a7 rfl (cA rfl rfl) (a7 rfl (ag rfl) (ac (a8 ?_)))
 refine au rfl ?_ ?_
 intro c5
 refine aa (ae (a7 rfl (ag rfl) (a7 rfl (ag rfl) (ac (a8 (ao (be (aJ (ak (.inl rfl) (.cons (aj rfl) (.cons (aj rfl) .nil)) ?_)))))))))
 refine ⟨_, ⟨?_, rfl⟩, inferInstance⟩
 have hi : dH n at_ w = false := by
  rw [← Bool.not_eq_true, fe]; omega
 simp [ct, ff, hi]
 intro c5
 refine aA (bw (a8 (aa ?_)))
 have hi : dH n at_ w = true := fe.2 ⟨by omega, by omega, by omega, by omega⟩
 obtain ⟨i, k, rfl, rfl, hk, hik⟩ := mc hi
 refine ae (a7 rfl (ab rfl) (a7 rfl (ab rfl) (a7 rfl (ab rfl) (a7 rfl (ab rfl) ?_))))
 refine a7 rfl (bz rfl rfl (by rw [aT (by omega)]; exact (Int.natCast_add i k).symm : IntKind.wrap .i64 ((i : Int) + (k : Int)) = ((i + k : Nat) : Int))) ?_
 refine a7 rfl (ab rfl) (a7 rfl (ab rfl) ?_)
 refine a7 rfl (bz rfl rfl (by rw [aT (by omega)]; exact (Int.natCast_add i k).symm : IntKind.wrap .i64 ((i : Int) + (k : Int)) = ((i + k : Nat) : Int))) ?_
 refine a7 rfl (qp dV g8 rfl rfl rfl rfl rfl rfl rfl (by omega) (by omega) (by omega) (by omega) (by first | exact Nat.zero_add _ | rfl)) ?_
 refine a7 rfl (ag rfl) (a7 rfl (ag rfl) (ac (a8 (ao (ak (.inl rfl) (.cons (aj rfl) (.cons (aj rfl) .nil)) ?_)))))
 refine ⟨_, ⟨?_, rfl⟩, inferInstance⟩
 simp [ct, ff, hi]
 intro g1_7
 refine aD rfl rfl rfl rfl (a7 rfl (aX rfl rfl) (a7 rfl (ag rfl) (ac (a8 (iA rfl (aa (aa (ae (a7 rfl (ab rfl) (a7 rfl (aV rfl rfl) (a7 rfl (ag rfl) (ac (a8 ?_)))))))))))))
 refine au rfl ?_ ?_
 intro c3
 refine aA (a8 (cI rfl (aa (ae (a7 rfl (ag rfl) (a7 rfl (ag rfl) (ac (a8 (ao (be (aJ (ak (.inl rfl) (.cons (aj rfl) (.cons (aj rfl) .nil)) ?_))))))))))))
 refine ⟨_, ⟨?_, rfl⟩, inferInstance⟩
 have hi : dH n at_ w = false := by
  rw [← Bool.not_eq_true, fe]; omega
 simp [ct, ff, hi]
 intro c3
 refine aa (ae (a7 rfl (ab rfl) (a7 rfl (ab rfl) (a7 rfl (aY dV rfl) (a7 rfl (cA rfl rfl) (a7 rfl (ag rfl) (ac (a8 ?_))))))))
 refine au rfl ?_ ?_
 intro c4
 refine aA (a8 (cI rfl (aa (ae (a7 rfl (ag rfl) (a7 rfl (ag rfl) (ac (a8 (ao (be (aJ (ak (.inl rfl) (.cons (aj rfl) (.cons (aj rfl) .nil)) ?_))))))))))))
 refine ⟨_, ⟨?_, rfl⟩, inferInstance⟩
 have hi : dH n at_ w = false := by
  rw [← Bool.not_eq_true, fe]; omega
 simp [ct, ff, hi]
 intro c4
 refine ae (a7 rfl (ab rfl) (a7 rfl (ab rfl) (a7 rfl (aY dV rfl) (a7 rfl (ab rfl) ?_))))
 refine a7 rfl (d7 rfl rfl (by first | exact aT (by omega) | rfl)) ?_
 refine a7 rfl (cA rfl rfl) (a7 rfl (ag rfl) (ac (a8 ?_)))
 refine au rfl ?_ ?_
 intro c5
 refine aa (ae (a7 rfl (ag rfl) (a7 rfl (ag rfl) (ac (a8 (ao (be (aJ (ak (.inl rfl) (.cons (aj rfl) (.cons (aj rfl) .nil)) ?_)))))))))
 refine ⟨_, ⟨?_, rfl⟩, inferInstance⟩
 have hi : dH n at_ w = false := by
  rw [← Bool.not_eq_true, fe]; omega
 simp [ct, ff, hi]
 intro c5
 refine aA (bw (a8 (aa ?_)))
 have hi : dH n at_ w = true := fe.2 ⟨by omega, by omega, by omega, by omega⟩
 obtain ⟨i, k, rfl, rfl, hk, hik⟩ := mc hi
 refine ae (a7 rfl (ab rfl) (a7 rfl (ab rfl) (a7 rfl (ab rfl) (a7 rfl (ab rfl) ?_))))
 refine a7 rfl (bz rfl rfl (by rw [aT (by omega)]; exact (Int.natCast_add i k).symm : IntKind.wrap .i64 ((i : Int) + (k : Int)) = ((i + k : Nat) : Int))) ?_
 refine a7 rfl (ab rfl) (a7 rfl (ab rfl) ?_)
 refine a7 rfl (bz rfl rfl (by rw [aT (by omega)]; exact (Int.natCast_add i k).symm : IntKind.wrap .i64 ((i : Int) + (k : Int)) = ((i + k : Nat) : Int))) ?_
 refine a7 rfl (qp dV g8 rfl rfl rfl rfl rfl rfl rfl (by omega) (by omega) (by omega) (by omega) (by first | exact Nat.zero_add _ | rfl)) ?_
 refine a7 rfl (ag rfl) (a7 rfl (ag rfl) (ac (a8 (ao (ak (.inl rfl) (.cons (aj rfl) (.cons (aj rfl) .nil)) ?_)))))
 refine ⟨_, ⟨?_, rfl⟩, inferInstance⟩
 simp [ct, ff, hi]
 intro g1_3
 refine aD rfl rfl rfl rfl (a7 rfl (aX rfl rfl) (a7 rfl (ab rfl) (aD rfl rfl rfl rfl (aD rfl rfl rfl rfl (a7 rfl (aX rfl rfl) (a7 rfl (ag rfl) (ac (a8 (iA rfl (aa (aa (ae (a7 rfl (ab rfl) (a7 rfl (aV rfl rfl) (a7 rfl (ag rfl) (ac (a8 ?_)))))))))))))))))
 refine au rfl ?_ ?_
 intro c3
 refine aA (a8 (cI rfl (aa (ae (a7 rfl (ag rfl) (a7 rfl (ag rfl) (ac (a8 (ao (be (aJ (ak (.inl rfl) (.cons (aj rfl) (.cons (aj rfl) .nil)) ?_))))))))))))
 refine ⟨_, ⟨?_, rfl⟩, inferInstance⟩
 have hi : dH n at_ w = false := by
  rw [← Bool.not_eq_true, fe]; omega
 simp [ct, ff, hi]
 intro c3
 refine aa (ae (a7 rfl (ab rfl) (a7 rfl (ab rfl) (a7 rfl (aY dV rfl) (a7 rfl (cA rfl rfl) (a7 rfl (ag rfl) (ac (a8 ?_))))))))
 refine au rfl ?_ ?_
 intro c4
 refine aA (a8 (cI rfl (aa (ae (a7 rfl (ag rfl) (a7 rfl (ag rfl) (ac (a8 (ao (be (aJ (ak (.inl rfl) (.cons (aj rfl) (.cons (aj rfl) .nil)) ?_))))))))))))
 refine ⟨_, ⟨?_, rfl⟩, inferInstance⟩
 have hi : dH n at_ w = false := by
  rw [← Bool.not_eq_true, fe]; omega
 simp [ct, ff, hi]
 intro c4
 refine ae (a7 rfl (ab rfl) (a7 rfl (ab rfl) (a7 rfl (aY dV rfl) (a7 rfl (ab rfl) ?_))))
 refine a7 rfl (d7 rfl rfl (by first | exact aT (by omega) | rfl)) ?_
 refine a7 rfl (cA rfl rfl) (a7 rfl (ag rfl) (ac (a8 ?_)))
 refine au rfl ?_ ?_
 intro c5
 refine aa (ae (a7 rfl (ag rfl) (a7 rfl (ag rfl) (ac (a8 (ao (be (aJ (ak (.inl rfl) (.cons (aj rfl) (.cons (aj rfl) .nil)) ?_)))))))))
 refine ⟨_, ⟨?_, rfl⟩, inferInstance⟩
 have hi : dH n at_ w = false := by
  rw [← Bool.not_eq_true, fe]; omega
 simp [ct, ff, hi]
 intro c5
 refine aA (bw (a8 (aa ?_)))
 have hi : dH n at_ w = true := fe.2 ⟨by omega, by omega, by omega, by omega⟩
 obtain ⟨i, k, rfl, rfl, hk, hik⟩ := mc hi
 refine ae (a7 rfl (ab rfl) (a7 rfl (ab rfl) (a7 rfl (ab rfl) (a7 rfl (ab rfl) ?_))))
 refine a7 rfl (bz rfl rfl (by rw [aT (by omega)]; exact (Int.natCast_add i k).symm : IntKind.wrap .i64 ((i : Int) + (k : Int)) = ((i + k : Nat) : Int))) ?_
 refine a7 rfl (ab rfl) (a7 rfl (ab rfl) ?_)
 refine a7 rfl (bz rfl rfl (by rw [aT (by omega)]; exact (Int.natCast_add i k).symm : IntKind.wrap .i64 ((i : Int) + (k : Int)) = ((i + k : Nat) : Int))) ?_
 refine a7 rfl (qp dV g8 rfl rfl rfl rfl rfl rfl rfl (by omega) (by omega) (by omega) (by omega) (by first | exact Nat.zero_add _ | rfl)) ?_
 refine a7 rfl (ag rfl) (a7 rfl (ag rfl) (ac (a8 (ao (ak (.inl rfl) (.cons (aj rfl) (.cons (aj rfl) .nil)) ?_)))))
 refine ⟨_, ⟨?_, rfl⟩, inferInstance⟩
 simp [ct, ff, hi]
theorem yz (W0 : World) (R : List HP) (a : Option Addr) (n c : Nat) (at_ w : Int) (hi : dH n at_ w = false) (hn : n < 9223372036854775808) :
    ax Tryz.prog W0 183 [.slice a n c, .int .i64 at_, .int .i64 w] R (fun v B => v = .tuple #[.slice none 0 0, .bool false] ∧ B = R) := by
 have hq : ¬ ((w = 1 ∨ w = 2 ∨ w = 4) ∧ 0 ≤ at_ ∧ at_ ≤ n ∧ w ≤ n - at_) := fun h => by rw [fe.2 h] at hi; cases hi
 refine aB func183 ntmps183 rfl rfl ?_
 refine aa (ae (a7 rfl (ag rfl) (a7 rfl (ag rfl) (ac (a8 (aa (aP (aa (ae (a7 rfl (ab rfl) (a7 rfl (bT rfl rfl) (a7 rfl (ab rfl) ?_))))))))))))
 refine dh rfl rfl rfl ?_ ?_
 intro g1_3
 refine a7 rfl (ab rfl) (av rfl rfl (a7 rfl (bT rfl rfl) (a7 rfl (bI rfl rfl) (a7 rfl (ab rfl) ?_))))
 refine dh rfl rfl rfl ?_ ?_
 intro g1_7
 refine a7 rfl (ab rfl) (av rfl rfl (a7 rfl (bT rfl rfl) (a7 rfl (bI rfl rfl) (a7 rfl (ag rfl) (ac (a8 ?_))))))
 refine au rfl ?_ ?_
 intro c1
 refine aa (ae (a7 rfl (ag rfl) (a7 rfl (ag rfl) (ac (a8 (ao (be (aJ (ak (.inl rfl) (.cons (aj rfl) (.cons (aj rfl) .nil)) ?_)))))))))
 exact ⟨_, ⟨rfl, rfl⟩, inferInstance⟩
 intro c1
 refine aa (aa (ae (a7 rfl (ab rfl) (a7 rfl (aV rfl rfl) (a7 rfl (ag rfl) (ac (a8 ?_)))))))
 refine au rfl ?_ ?_
 intro c3
 refine aA (a8 (cI rfl (aa (ae (a7 rfl (ag rfl) (a7 rfl (ag rfl) (ac (a8 (ao (be (aJ (ak (.inl rfl) (.cons (aj rfl) (.cons (aj rfl) .nil)) ?_))))))))))))
 exact ⟨_, ⟨rfl, rfl⟩, inferInstance⟩
 intro c3
 refine aa (ae (a7 rfl (ab rfl) (a7 rfl (ab rfl) (a7 rfl (aY dV rfl) (a7 rfl (cA rfl rfl) (a7 rfl (ag rfl) (ac (a8 ?_))))))))
 refine au rfl ?_ ?_
 intro c4
 refine aA (a8 (cI rfl (aa (ae (a7 rfl (ag rfl) (a7 rfl (ag rfl) (ac (a8 (ao (be (aJ (ak (.inl rfl) (.cons (aj rfl) (.cons (aj rfl) .nil)) ?_))))))))))))
 exact ⟨_, ⟨rfl, rfl⟩, inferInstance⟩
 intro c4
 refine ae (a7 rfl (ab rfl) (a7 rfl (ab rfl) (a7 rfl (aY dV rfl) (a7 rfl (ab rfl) ?_))))
 refine a7 rfl (d7 rfl rfl (by first | exact aT (by omega) | rfl)) ?_
 refine a7 rfl (cA rfl rfl) (a7 rfl (ag rfl) (ac (a8 ?_)))
 refine au rfl ?_ ?_
 intro c5
 refine aa (ae (a7 rfl (ag rfl) (a7 rfl (ag rfl) (ac (a8 (ao (be (aJ (ak (.inl rfl) (.cons (aj rfl) (.cons (aj rfl) .nil)) ?_)))))))))
 exact ⟨_, ⟨rfl, rfl⟩, inferInstance⟩
 intro c5
 exfalso; omega
 intro g1_7
 refine aD rfl rfl rfl rfl (a7 rfl (aX rfl rfl) (a7 rfl (ag rfl) (ac (a8 (iA rfl (aa (aa (ae (a7 rfl (ab rfl) (a7 rfl (aV rfl rfl) (a7 rfl (ag rfl) (ac (a8 ?_)))))))))))))
 refine au rfl ?_ ?_
 intro c3
 refine aA (a8 (cI rfl (aa (ae (a7 rfl (ag rfl) (a7 rfl (ag rfl) (ac (a8 (ao (be (aJ (ak (.inl rfl) (.cons (aj rfl) (.cons (aj rfl) .nil)) ?_))))))))))))
 exact ⟨_, ⟨rfl, rfl⟩, inferInstance⟩
 intro c3
 refine aa (ae (a7 rfl (ab rfl) (a7 rfl (ab rfl) (a7 rfl (aY dV rfl) (a7 rfl (cA rfl rfl) (a7 rfl (ag rfl) (ac (a8 ?_))))))))
 refine au rfl ?_ ?_
 intro c4
 refine aA (a8 (cI rfl (aa (ae (a7 rfl (ag rfl) (a7 rfl (ag rfl) (ac (a8 (ao (be (aJ (ak (.inl rfl) (.cons (aj rfl) (.cons (aj rfl) .nil)) ?_))))))))))))
 exact ⟨_, ⟨rfl, rfl⟩, inferInstance⟩
 intro c4
 refine ae (a7 rfl (ab rfl) (a7 rfl (ab rfl) (a7 rfl (aY dV rfl) (a7 rfl (ab rfl) ?_))))
 refine a7 rfl (d7 rfl rfl (by first | exact aT (by omega) | rfl)) ?_
 refine a7 rfl (cA rfl rfl) (a7 rfl (ag rfl) (ac (a8 ?_)))
 refine au rfl ?_ ?_
 intro c5
 refine aa (ae (a7 rfl (ag rfl) (a7 rfl (ag rfl) (ac (a8 (ao (be (aJ (ak (.inl rfl) (.cons (aj rfl) (.cons (aj rfl) .nil)) ?_)))))))))
 exact ⟨_, ⟨rfl, rfl⟩, inferInstance⟩
 intro c5
 exfalso; omega
 intro g1_3
 refine aD rfl rfl rfl rfl (a7 rfl (aX rfl rfl) (a7 rfl (ab rfl) (aD rfl rfl rfl rfl (aD rfl rfl rfl rfl (a7 rfl (aX rfl rfl) (a7 rfl (ag rfl) (ac (a8 (iA rfl (aa (aa (ae (a7 rfl (ab rfl) (a7 rfl (aV rfl rfl) (a7 rfl (ag rfl) (ac (a8 ?_)))))))))))))))))
 refine au rfl ?_ ?_
 intro c3
 refine aA (a8 (cI rfl (aa (ae (a7 rfl (ag rfl) (a7 rfl (ag rfl) (ac (a8 (ao (be (aJ (ak (.inl rfl) (.cons (aj rfl) (.cons (aj rfl) .nil)) ?_))))))))))))
 exact ⟨_, ⟨rfl, rfl⟩, inferInstance⟩
 intro c3
 refine aa (ae (a7 rfl (ab rfl) (a7 rfl (ab rfl) (a7 rfl (aY dV rfl) (a7 rfl (cA rfl rfl) (a7 rfl (ag rfl) (ac (a8 ?_))))))))
 refine au rfl ?_ ?_
 intro c4
 refine aA (a8 (cI rfl (aa (ae (a7 rfl (ag rfl) (a7 rfl (ag rfl) (ac (a8 (ao (be (aJ (ak (.inl rfl) (.cons (aj rfl) (.cons (aj rfl) .nil)) ?_))))))))))))
 exact ⟨_, ⟨rfl, rfl⟩, inferInstance⟩
 intro c4
 refine ae (a7 rfl (ab rfl) (a7 rfl (ab rfl) (a7 rfl (aY dV rfl) (a7 rfl (ab rfl) ?_))))
 refine a7 rfl (d7 rfl rfl (by first | exact aT (by omega) | rfl)) ?_
 refine a7 rfl (cA rfl rfl) (a7 rfl (ag rfl) (ac (a8 ?_)))
 refine au rfl ?_ ?_
 intro c5
 refine aa (ae (a7 rfl (ag rfl) (a7 rfl (ag rfl) (ac (a8 (ao (be (aJ (ak (.inl rfl) (.cons (aj rfl) (.cons (aj rfl) .nil)) ?_)))))))))
 exact ⟨_, ⟨rfl, rfl⟩, inferInstance⟩
 intro c5
 exfalso; omega
theorem cB.part {S : World → Prop} {b off : Nat} {l : List Nat} (h : cB S b off (bR l)) (i k : Nat) (hik : i + k ≤ l.length) : cB S b (off + i) (bR ((l.drop i).take k)) := fun j v hv => by
 have hj : j < k := by
  rcases Nat.lt_or_ge j k with q | q
  exact q
  rw [List.getElem?_eq_none (by rw [dQ, List.length_take]; omega)] at hv; cases hv
 have := h (i + j) v (by
   rw [bR, List.getElem?_map, List.getElem?_take_of_lt hj, List.getElem?_drop] at hv
   rw [bR, List.getElem?_map]; exact hv)
 rwa [← Nat.add_assoc] at this
def yA (l : List Nat) (at_ w : Int) : Nat := if dH l.length at_ w then nZ ((l.drop at_.toNat).take w.toNat) else 0
theorem yB (W0 : World) (R : List HP) (g off n c ty : Nat) (L : List Value) (w : Nat) (hw : w < 4294967296) (hn : n ≤ 4) (hL : off + n ≤ L.length) :
    ax Tryz.prog W0 184 [.slice (some ⟨g, off, none⟩) n c, .int .u32 w] (pt g (am L ty) :: R) (fun v B => v = .tuple #[] ∧ B = pt g (am (setR L off (bR (fN n w))) ty) :: R) := by
 refine aB func184 ntmps184 rfl rfl ?_
 refine aa (ae (a7 rfl (ab rfl) (a7 rfl (aY dV rfl) (a7 rfl (ab rfl) (ac (a8 (aP ?_)))))))
 refine bX (fun i : Nat => i ≤ n) (fun i => [(0, .slice (some ⟨g, off, none⟩) n c), (1, .int .u32 w), (6, .int .i64 n), (7, .int .i64 i)]) (fun i => pt g (am (setR L off (bR (fN i w))) ty) :: R) (fun i => n - i) 0 ?_ ?_ ?_ ?_
 exact Nat.zero_le _
 · repeat (first | exact aQ | refine aO rfl ?_)
 rw [show setR L off (bR (fN 0 w)) = L from rfl]; exact inferInstance
 intro i hi
 refine aa (ae (a7 rfl (aV rfl rfl) (ac (a8 (aa ?_)))))
 refine au rfl ?_ ?_
 intro c1
 refine aA (a8 (aa (aP (aa (ae (a7 rfl (ab rfl) (a7 rfl (ag rfl) (ac (a8 (ae (a7 rfl (ab rfl) (a7 rfl (ab rfl) (a7 rfl (ab rfl) (a7 rfl (ab rfl) ?_))))))))))))))
 refine a7 rfl (iy rfl rfl (by rw [aT (by omega)]; omega : IntKind.wrap .i64 (8 * (i : Int)) = ((8 * i : Nat) : Int))) ?_
 refine a7 rfl (nE rfl rfl (by omega) rfl) ?_
 refine a7 rfl (kR underlying42 s6 rfl (yu (by omega))) ?_
 refine a7 rfl (bK dV g8 rfl rfl rfl (by omega) (by first | exact Nat.zero_add _ | rfl)) ?_
 refine bc (ck g8 rfl rfl rfl (by rw [nK]; omega) (by rw [yt, yp, show bR [w / 256 ^ i % 256] = [bV (w / 256 ^ i % 256)] from rfl, tC, dQ, mb, Nat.mul_one]; rfl : (setR L off (bR (fN i w))).set (off + i * 1) _ = setR L off (bR (fN (i + 1) w)))) ?_
 rintro _ _ rfl
 refine ac (bw (a8 (ae ?_)))
 refine a7 rfl (bz rfl rfl (by first | exact aT (by omega) | rfl)) ?_
 refine a7 rfl (ab rfl) (ac (a8 ?_))
 refine cg (i + 1) ?_ ?_ ?_ ?_
 omega
 omega
 · repeat (first | exact aQ | refine aO rfl ?_)
 exact inferInstance
 intro c1
 refine bF (aR (aR (bH (ak (.inr rfl) .nil ?_))))
 have : i = n := by omega
 subst this
 exact ⟨_, ⟨rfl, rfl⟩, inferInstance⟩
theorem tE {W0 : World} {R : List HP} (g off c : Nat) (l : List Nat) (hc : cB (bj W0 R) g off (bR l)) (hn : l.length ≤ 1000000) :
    ax Tryz.prog W0 182 [.slice (some ⟨g, off, none⟩) l.length c] R (fun v B => ∃ a' c', v = .slice a' l.length c' ∧ B = osl 5 1 (.slice a' l.length c') (bR l) :: R) := by
 refine aB func182 ntmps182 rfl rfl ?_
 refine aa (ae (a7 rfl (ag rfl) (ac (a8 (aa (aa (ae (a7 rfl (ab rfl) (a7 rfl (nW dV rfl rfl) (ac (a8 ?_)))))))))))
 refine au rfl ?_ ?_
 intro c1
 cases c1
 intro c1
 refine aA (a8 (aa (ae (ah rfl (qq dV g8 rfl) ?_))))
 rintro _ _ ⟨b1, rfl, rfl⟩
 refine a7 rfl (ab rfl) ?_
 refine ah rfl (eg (sz := 1) (by_ := 1) (info := Tryz.t5) dV (by kernel_rfl) rfl rfl rfl rfl (by decide) rfl rfl hc.weak ((dQ l).trans (Nat.mul_one _).symm) (nY l) (by simp only [maxLen]; omega) (by omega)) ?_
 rintro _ _ ⟨a1, c1, rfl, rfl⟩
 refine a7 rfl (ag rfl) (ac (a8 (ao (ak (.inl rfl) (.cons (aj rfl) .nil) ?_))))
 exact ⟨_, ⟨a1, c1, by simp [ct], rfl⟩, by simpa using (ent_refl : Ent _ _)⟩
theorem yC {c : Nat} (h : c ≤ maxLen) : c < 9223372036854775808 := by simp only [maxLen] at h; omega
theorem yD {l : List Nat} {sp : List Value} {i k w : Nat} (h : i + k ≤ l.length) : setR (bR l ++ sp) i (bR (fN k w)) = bR (ii l i k w) ++ sp := by
 rw [tD _ _ _ _ (by rw [dQ, dQ, mb]; exact h), yx h]
def tF (a : Option Addr) (n c : Nat) : Value := .tuple #[.slice a n c, .int .i64 0]
def tG : Value := .tuple #[.slice none 0 0, .int .i64 1]
theorem yE {W0 : World} {R : List HP} (g off c : Nat) (l : List Nat) (i k w : Nat) (hw : w < 4294967296) (hc : cB (bj W0 R) g off (bR l)) (hi : dH l.length i k = true) (hn : l.length ≤ 1000000) :
    ax Tryz.prog W0 73 [.slice (some ⟨g, off, none⟩) l.length c, .int .i64 i, .int .i64 k, .int .u32 w] R (fun v B => ∃ a' c', v = tF a' l.length c' ∧ B = osl 5 1 (.slice a' l.length c') (bR (ii l i k w)) :: R) := by
 have hb := fe.1 hi
 refine aB func73 ntmps73 rfl rfl ?_
 refine aa (ae (a7 rfl (ag rfl) (a7 rfl (ag rfl) (ac (a8 (aa (ae (a7 rfl (ab rfl) (ah rfl (aS call182 rfl (tE g off c l hc hn)) ?_)))))))))
 rintro _ B_ ⟨a', c', rfl, hB_⟩
 obtain rfl := hB_.symm
 refine a7 rfl (ag rfl) (ac (a8 (aa ?_)))
 refine gq (fun h _ => by have := (Value.slice.inj h).2.1; omega) fun g' n' cap sp h1 h2 h3 h4 h5 => ?_
 cases h1
 have hwv : ff g' 0 l.length i k = .tuple #[.slice (some ⟨g', i, none⟩) k k, .bool true] := by simp [ff, hi]
 refine ae (a7 rfl (ab rfl) (a7 rfl (ab rfl) (a7 rfl (ab rfl) (ah rfl (aS call183 rfl (yy W0 _ g' 0 l.length c' i k h2 (yC h3))) ?_))))
 rintro _ B_ ⟨rfl, hB_⟩
 obtain rfl := hB_.symm
 rw [hwv]
 refine a7 rfl (ab rfl) (a7 rfl (aW rfl rfl) (a7 rfl (aW rfl rfl) (a7 rfl (ag rfl) (a7 rfl (ag rfl) (ac (a8 (aa (aa (ae (a7 rfl (ab rfl) (a7 rfl (bM rfl) (ac (a8 ?_)))))))))))))
 refine au rfl ?_ ?_
 intro c3
 exact absurd c3 (by simp)
 intro c3
 refine aA (a8 (aa (ae (a7 rfl (ab rfl) (a7 rfl (ab rfl) ?_)))))
 refine ah rfl (aF call184 rfl (yB W0 _ g' i k k 5 (bR l ++ sp) w hw (by omega) (by rw [List.length_append, dQ]; omega))) ?_
 rintro _ B_ ⟨rfl, hB_⟩
 obtain rfl := hB_.symm
 rw [yD (by omega)]
 refine ac (a8 (aa (ae (a7 rfl (ab rfl) (a7 rfl (ag rfl) (a7 rfl (ag rfl) (ac (a8 (ao (ak (.inl rfl) (.cons (aj rfl) (.cons (aj rfl) .nil)) ?_))))))))))
 exact ⟨_, ⟨_, c', rfl, rfl⟩, e7 h2 h3 (by rw [dQ, o8 (by omega), Nat.mul_one]) (by rw [← h5, List.length_append, List.length_append, dQ, dQ, o8 (by omega)])⟩
theorem yF {W0 : World} {R : List HP} (g off c : Nat) (l : List Nat) (at_ k : Int) (w : Nat) (hc : cB (bj W0 R) g off (bR l)) (hi : dH l.length at_ k = false) (hn : l.length ≤ 1000000) :
    ax Tryz.prog W0 73 [.slice (some ⟨g, off, none⟩) l.length c, .int .i64 at_, .int .i64 k, .int .u32 w] R (fun v B => v = tG ∧ B = R) := by
 refine aB func73 ntmps73 rfl rfl ?_
 refine aa (ae (a7 rfl (ag rfl) (a7 rfl (ag rfl) (ac (a8 (aa (ae (a7 rfl (ab rfl) (ah rfl (aS call182 rfl (tE g off c l hc hn)) ?_)))))))))
 rintro _ B_ ⟨a', c', rfl, hB_⟩
 obtain rfl := hB_.symm
 refine a7 rfl (ag rfl) (ac (a8 (aa ?_)))
 obtain ⟨R', hR'⟩ : ∃ R', R' = osl 5 1 (.slice a' l.length c') (bR l) :: R := ⟨_, rfl⟩
 refine ae (a7 rfl (ab rfl) (a7 rfl (ab rfl) (a7 rfl (ab rfl) ?_)))
 refine ah rfl (aS call183 rfl (yz W0 _ a' l.length c' at_ k hi (by omega))) ?_
 rintro _ B_ ⟨rfl, hB_⟩
 obtain rfl := hB_.symm
 refine a7 rfl (ab rfl) (a7 rfl (aW rfl rfl) (a7 rfl (aW rfl rfl) (a7 rfl (ag rfl) (a7 rfl (ag rfl) (ac (a8 (aa (aa (ae (a7 rfl (ab rfl) (a7 rfl (bM rfl) (ac (a8 ?_)))))))))))))
 refine au rfl ?_ ?_
 intro c3
 refine aa (ae (a7 rfl (ag rfl) (a7 rfl (ag rfl) (ac (a8 (ao (aJ (ak (.inl rfl) (.cons (aj rfl) (.cons (aj rfl) .nil)) ?_))))))))
 exact ⟨_, ⟨rfl, rfl⟩, inferInstance⟩
 intro c3
 exact absurd c3 (by simp)
abbrev aZ := List Nat
def fP (x : aZ) : List Value := (List.range 64).map (fun i => bV (x.getD i 0))
theorem qv (x : aZ) : (fP x).length = 64 := by simp [fP]
theorem tH {x : aZ} (h : x.length = 64) : fP x = bR x := by
 apply List.ext_getElem
 simp [fP, bR, h]
 intro i h1 h2
 have : i < x.length := by simpa [bR] using h2
 simp [fP, bR, List.getD, this]
def dI (fr : List aZ) : Prop := ∀ x ∈ fr, x.length = 64 ∧ By x
theorem dI.get {fr : List aZ} (h : dI fr) {f : Nat} (hf : f < fr.length) : (fr.getD f []).length = 64 ∧ By (fr.getD f []) := by
 have : fr.getD f [] = fr[f] := by simp [List.getD, hf]
 rw [this]; exact h _ (List.getElem_mem hf)
theorem dI.set {fr : List aZ} (h : dI fr) {f : Nat} {y : aZ} (hy : y.length = 64 ∧ By y) : dI (fr.set f y) := fun x hx => by
 rcases List.mem_or_eq_of_mem_set hx with h' | rfl
 exact h x h'
 exact hy
theorem qw {fr : List aZ} (h : dI fr) {f : Nat} (hf : f < fr.length) : ((fr.flatMap fP).drop (f * 64)).take 64 = bR (fr.getD f []) := by
 have := m9 qv fr f [] hf
 rw [List.append_nil] at this
 rw [this, tH (h _ (List.getElem_mem hf)).1]; simp [List.getD, hf]
theorem tI {fr : List aZ} {f : Nat} {y : aZ} (hf : f < fr.length) (hy : y.length = 64) : setR (fr.flatMap fP) (f * 64) (bR y) = (fr.set f y).flatMap fP := by
 have := nQ qv fr f y [] hf
 rw [List.append_nil, List.append_nil, tH hy] at this
 exact this
theorem tJ (fr : List aZ) : (fr.flatMap fP).length = fr.length * 64 := cV qv fr
def bQ : aZ := List.replicate 64 0
theorem qx : bQ.length = 64 ∧ By bQ := ⟨by simp [bQ], fun b hb => by have := List.eq_of_mem_replicate hb; omega⟩
theorem dI.new (n : Nat) : dI (List.replicate n bQ) := fun x hx => by rw [List.eq_of_mem_replicate hx]; exact qx
theorem tK : ∀ n, (List.replicate n bQ).flatMap fP = List.replicate (n * 64) (bV 0)
 | 0 => rfl
 | n + 1 => by
  rw [List.replicate_succ, List.flatMap_cons, tK n, Nat.succ_mul, Nat.add_comm, ← List.replicate_append_replicate]
  congr 1
def bP (ps : Nat) (fr : List aZ) : HP := chk (fun C => ∃ g, C = [pt ps (am [.slice (some ⟨g, 0, none⟩) fr.length fr.length, .bool true] 181), pt g (am (fr.flatMap fP) 178)])
section
variable {P : Program} {W0 : World} {N : FSz} {K : Act → World → Prop} {e : bq} {A B R R1 R2 : List HP} {ps g n : Nat} {fr : List aZ} {f : FuncId} {args : List Value} {Post : Value → List HP → Prop} {l : List Value}
theorem yG (h : ∀ g, ax P W0 f args (pt ps (am [.slice (some ⟨g, 0, none⟩) fr.length fr.length, .bool true] 181) :: pt g (am (fr.flatMap fP) 178) :: R) Post) : ax P W0 f args (bP ps fr :: R) Post :=
  nT fun C hC => by obtain ⟨g, rfl⟩ := hC; exact h g
theorem iC [h1 : Tk pt ps A (am [.slice (some ⟨g, 0, none⟩) n n, .bool true] 181) R1] [h2 : Tk pt g R1 (am l 178) R2] (hl : l = fr.flatMap fP) (hn : n = fr.length) [k : Ent R2 B] : Ent A (bP ps fr :: B) := by
 subst hl; subst hn
 exact (Ent.ofPerm (h1.perm.trans (h2.perm.cons _))).trans ((Ent.cons (Ent.cons k)).trans (eX (R := B) (C := [_, _]) ⟨g, rfl⟩))
theorem l9 [hk : Tk bP ps A fr R] (h : ∀ g, aG W0 N K e (pt ps (am [.slice (some ⟨g, 0, none⟩) fr.length fr.length, .bool true] 181) :: pt g (am (fr.flatMap fP) 178) :: R)) : aG W0 N K e A :=
  eC (r := bP) (b := ps) (jm fun C hC => by obtain ⟨g, rfl⟩ := hC; exact h g)
end
theorem yH {W0 : World} {R : List HP} {g off c n : Nat} {l : List Nat} {i k w : Nat} (hl : l.length = n) (hw : w < 4294967296) (hc : cB (bj W0 R) g off (bR l)) (hi : dH n i k = true) (hn : n ≤ 1000000) :
    ax Tryz.prog W0 73 [.slice (some ⟨g, off, none⟩) n c, .int .i64 i, .int .i64 k, .int .u32 w] R (fun v B => ∃ a' c', v = tF a' n c' ∧ B = osl 5 1 (.slice a' n c') (bR (ii l i k w)) :: R) := by
 subst hl; exact yE g off c l i k w hw hc hi hn
theorem yI {W0 : World} {R : List HP} {g off c n : Nat} {l : List Nat} {at_ k : Int} {w : Nat} (hl : l.length = n) (hc : cB (bj W0 R) g off (bR l)) (hi : dH n at_ k = false) (hn : n ≤ 1000000) :
    ax Tryz.prog W0 73 [.slice (some ⟨g, off, none⟩) n c, .int .i64 at_, .int .i64 k, .int .u32 w] R (fun v B => v = tG ∧ B = R) := by
 subst hl; exact yF g off c l at_ k w hc hi hn
theorem yJ (W0 : World) (R : List HP) (n : Nat) (h : n ≤ 32) :
    ax Tryz.prog W0 46 [.int .i64 n] R (fun v B => ∃ b, v = .tuple #[.pointer (some ⟨b, 0, none⟩), .int .i64 0] ∧ B = bP b (List.replicate n bQ) :: R) := by
 refine aB func46 ntmps46 rfl rfl ?_
 refine aa (ae (a7 rfl (ag rfl) (a7 rfl (ag rfl) (ac (a8 (aa (aa (ae (a7 rfl (ab rfl) (a7 rfl (aV rfl rfl) (a7 rfl (ab rfl) ?_)))))))))))
 refine bJ rfl rfl rfl ?_ ?_
 intro g1_3
 omega
 intro g1_3
 refine a7 rfl (ab rfl) (av rfl rfl (a7 rfl (cA rfl rfl) (a7 rfl (aX rfl rfl) (ac (a8 ?_)))))
 refine au rfl ?_ ?_
 intro c1
 omega
 intro c1
 refine aA (a8 (aa (ae (a7 rfl (ab rfl) ?_))))
 refine ah rfl (qt (sz := 64) (by_ := 64) (info := Tryz.t178) kC (by kernel_rfl) rfl rfl rfl rfl (by decide) rfl rfl rfl rfl (by omega) (by decide)) ?_
 rintro _ _ ⟨b1, rfl, rfl⟩
 refine a7 rfl (cq jI zeroValue181 (aK jJ (aK cy cp)) (bB rfl jJ rfl rfl (Nat.le_of_ble_eq_true rfl) SetL.eq (bB rfl cy rfl rfl (Nat.le_of_ble_eq_true rfl) SetL.eq co))) ?_
 refine ah rfl (bL rfl) ?_
 rintro _ _ ⟨b2, rfl, rfl⟩
 refine a7 rfl (ag rfl) (a7 rfl (ag rfl) (ac (a8 (ao (ak (.inl rfl) (.cons (aj rfl) (.cons (aj rfl) .nil)) ?_)))))
 exact ⟨_, ⟨b2, rfl, rfl⟩, iC (tK n).symm (by simp)⟩
theorem tL (W0 : World) (R : List HP) (ps : Nat) (fr : List aZ) :
    ax Tryz.prog W0 181 [.pointer (some ⟨ps, 0, none⟩)] (bP ps fr :: R) (fun v B => v = .bool false ∧ B = bP ps fr :: R) := by
 refine yG fun g => ?_
 refine aB func181 ntmps181 rfl rfl ?_
 refine aa (ae (a7 rfl (ag rfl) (ac (a8 (aa (ae (a7 rfl (ab rfl) (a7 rfl (dx wQ rfl rfl) (a7 rfl (ab rfl) ?_)))))))))
 refine bJ rfl rfl rfl ?_ ?_
 intro g1_3
 cases g1_3
 intro g1_3
 refine a7 rfl (ab rfl) (av rfl rfl (a7 rfl (aI rfl) (av rfl rfl ?_)))
 refine a7 rfl (ar rfl jI rfl cy rfl (by first | exact Nat.zero_add _ | rfl)) ?_
 refine av rfl rfl (a7 rfl (ap gd rfl (az rfl)) ?_)
 refine av rfl rfl (a7 rfl (bM rfl) (a7 rfl (aX rfl rfl) (a7 rfl (ag rfl) (ac (a8 (ao (ak (.inl rfl) (.cons (aj rfl) .nil) ?_)))))))
 exact ⟨_, ⟨by simp [ct], rfl⟩, iC rfl rfl⟩
theorem jo (W0 : World) (R : List HP) (ps : Nat) (fr : List aZ) :
    ax Tryz.prog W0 86 [.pointer (some ⟨ps, 0, none⟩)] (bP ps fr :: R) (fun v B => v = .int .i64 (fr.length : Nat) ∧ B = bP ps fr :: R) := by
 refine aB func86 ntmps86 rfl rfl ?_
 refine aa (ae (a7 rfl (ag rfl) (ac (a8 (aa (aa (ae (a7 rfl (ab rfl) (ah rfl (aF call181 rfl (tL W0 _ ps fr)) ?_)))))))))
 rintro _ B_ ⟨rfl, hB_⟩
 obtain rfl := hB_.symm
 refine ac (a8 ?_)
 refine au rfl ?_ ?_
 intro c1
 exact absurd c1 (by decide)
 intro c1
 refine aA (a8 (aa ?_))
 refine l9 (ps := ps) fun g => ?_
 refine ae (a7 rfl (ab rfl) (a7 rfl (aI rfl) ?_))
 refine a7 rfl (ar rfl jI rfl jJ rfl (by first | exact Nat.zero_add _ | rfl)) ?_
 refine a7 rfl (ap lQ rfl (az rfl)) ?_
 refine a7 rfl (aY kC rfl) (a7 rfl (ag rfl) (ac (a8 (ao (ak (.inl rfl) (.cons (aj rfl) .nil) ?_)))))
 exact ⟨_, ⟨rfl, rfl⟩, iC rfl rfl⟩
def dA (n : Nat) (f : Int) : Bool := decide (0 ≤ f ∧ f < n)
theorem md (W0 : World) (R : List HP) (ps : Nat) (fr : List aZ) (f : Int) :
    ax Tryz.prog W0 72 [.pointer (some ⟨ps, 0, none⟩), .int .i64 f] (bP ps fr :: R) (fun v B => v = .int .i64 (if dA fr.length f then 0 else 1) ∧ B = bP ps fr :: R) := by
 refine aB func72 ntmps72 rfl rfl ?_
 refine aa (ae (a7 rfl (ag rfl) (ac (a8 (aa (aP (aa (ae (a7 rfl (ab rfl) (ah rfl (aF call181 rfl (tL W0 _ ps fr)) ?_))))))))))
 rintro _ B_ ⟨rfl, hB_⟩
 obtain rfl := hB_.symm
 refine a7 rfl (ag rfl) (ac (a8 ?_))
 refine au rfl ?_ ?_
 intro c1
 exact absurd c1 (by decide)
 intro c1
 refine aa (aa (ae (a7 rfl (ab rfl) (a7 rfl (aV rfl rfl) (a7 rfl (ag rfl) (ac (a8 ?_)))))))
 refine au rfl ?_ ?_
 intro c3
 refine aA (a8 (cI rfl (aa (ae (a7 rfl (ag rfl) (ac (a8 (ao (be (aJ (ak (.inl rfl) (.cons (aj rfl) .nil) ?_)))))))))))
 have hf : dA fr.length f = false := by rw [← Bool.not_eq_true]; simp only [dA, decide_eq_true_eq]; omega
 first
   | exact ⟨_, ⟨by simp [ct, hf], rfl⟩, iC rfl rfl⟩
   | exact ⟨_, ⟨by simp [ct, hf], rfl⟩, inferInstance⟩
 intro c3
 refine l9 (ps := ps) fun g => ?_
 refine ae (a7 rfl (ab rfl) (a7 rfl (ab rfl) (a7 rfl (aI rfl) ?_)))
 refine a7 rfl (ar rfl jI rfl jJ rfl (by first | exact Nat.zero_add _ | rfl)) ?_
 refine a7 rfl (ap lQ rfl (az rfl)) ?_
 refine a7 rfl (aY kC rfl) (a7 rfl (dr rfl rfl) (a7 rfl (ag rfl) (ac (a8 ?_))))
 refine au rfl ?_ ?_
 intro c4
 refine aa (ae (a7 rfl (ag rfl) (ac (a8 (ao (be (aJ (ak (.inl rfl) (.cons (aj rfl) .nil) ?_))))))))
 have hf : dA fr.length f = false := by rw [← Bool.not_eq_true]; simp only [dA, decide_eq_true_eq]; omega
 first
   | exact ⟨_, ⟨by simp [ct, hf], rfl⟩, iC rfl rfl⟩
   | exact ⟨_, ⟨by simp [ct, hf], rfl⟩, inferInstance⟩
 intro c4
 refine aA (bw (a8 (aa (ae (a7 rfl (ag rfl) (ac (a8 (ao (ak (.inl rfl) (.cons (aj rfl) .nil) ?_)))))))))
 have hf : dA fr.length f = true := by simp only [dA, decide_eq_true_eq]; omega
 exact ⟨_, ⟨by simp [ct, hf], rfl⟩, iC rfl rfl⟩
def qy (fr : List aZ) (f off w : Int) : Nat := if dA fr.length f then yA (fr.getD f.toNat []) off w else 0
theorem tM {n : Nat} {f : Int} (h : dA n f = true) : ∃ i : Nat, f = (i : Int) ∧ i < n := by
 simp only [dA, decide_eq_true_eq] at h
 exact ⟨f.toNat, by omega, by omega⟩
def iD (fr : List aZ) (f off w : Int) : Bool := dA fr.length f && dH 64 off w
def fQ (fr : List aZ) (f off w : Int) (v : Nat) : List aZ := if iD fr f off w then fr.set f.toNat (ii (fr.getD f.toNat []) off.toNat w.toNat v) else fr
theorem yK {fr : List aZ} {f off w : Int} {v : Nat} (h : dI fr) : dI (fQ fr f off w v) := by
 unfold fQ; split
 rename_i hs
 simp only [iD, Bool.and_eq_true] at hs
 obtain ⟨i, rfl, hi⟩ := tM hs.1
 obtain ⟨o, k, rfl, rfl, hk, hok⟩ := mc hs.2
 obtain ⟨hl, hb⟩ := h.get hi
 exact h.set ⟨by rw [o8 (by simp only [Int.toNat_natCast]; omega)]; exact hl, yw hb⟩
 exact h
theorem yL {fr : List aZ} {f off w : Int} {v : Nat} : (fQ fr f off w v).length = fr.length := by unfold fQ; split <;> simp
theorem tN (W0 : World) (R : List HP) (ps : Nat) (fr : List aZ) (f off w : Int) (x : Nat) (hx : x < 4294967296) (hF : dI fr) :
    ax Tryz.prog W0 29 [.pointer (some ⟨ps, 0, none⟩), .int .i64 f, .int .i64 off, .int .i64 w, .int .u32 x] (bP ps fr :: R)
      (fun v B => v = .int .i64 (if iD fr f off w then 0 else 1) ∧ B = bP ps (fQ fr f off w x) :: R) := by
 by_cases hf : dA fr.length f = true
 obtain ⟨i, rfl, hi⟩ := tM hf
 obtain ⟨hl, hb⟩ := hF.get hi
 by_cases hin : dH 64 off w = true
 obtain ⟨o, k, rfl, rfl, hk, hok⟩ := mc hin
 have hs : iD fr i o k = true := by simp [iD, hf, hin]
 have hpl : (ii (fr.getD i []) o k x).length = 64 := by rw [o8 (by omega)]; exact hl
 refine aB wR ntmps29 rfl rfl ?_
 refine aa (ae (a7 rfl (ag rfl) (ac (a8 (aa (aa (ae (a7 rfl (ab rfl) (a7 rfl (ab rfl) (ah rfl (aF pC rfl (md W0 _ ps fr i)) ?_))))))))))
 rintro _ B_ ⟨rfl, hB_⟩
 obtain rfl := hB_.symm
 refine a7 rfl (ag rfl) (ac (a8 (aa (ae (a7 rfl (ab rfl) (a7 rfl (bT rfl rfl) (ac (a8 ?_))))))))
 refine au rfl ?_ ?_
 intro c2
 exact absurd c2 (by simp [hf])
 intro c2
 refine aA (a8 (aa ?_))
 refine l9 (ps := ps) fun g => ?_
 refine ae (a7 rfl (ab rfl) (a7 rfl (aI rfl) ?_))
 refine a7 rfl (ar rfl jI rfl jJ rfl (by first | exact Nat.zero_add _ | rfl)) ?_
 refine a7 rfl (ap lQ rfl (az rfl)) ?_
 refine a7 rfl (ab rfl) ?_
 refine a7 rfl (bK kC lR rfl rfl rfl hi (by first | exact Nat.zero_add _ | rfl)) ?_
 refine a7 rfl (nX nf g8 rfl) ?_
 refine a7 rfl (ab rfl) (a7 rfl (ab rfl) (a7 rfl (ab rfl) ?_))
 refine ah rfl (aS call73 rfl (yH hl hx (dt (qw hF hi) (by rw [dQ, hl])) hin (by decide))) ?_
 rintro _ B_ ⟨a', c', rfl, hB_⟩
 obtain rfl := hB_.symm
 refine a7 rfl (ab rfl) (a7 rfl (aW rfl rfl) (a7 rfl (aW rfl rfl) (a7 rfl (ag rfl) (a7 rfl (ag rfl) (ac (a8 (aa (aa (ae (a7 rfl (ab rfl) (a7 rfl (bT rfl rfl) (ac (a8 ?_)))))))))))))
 refine au rfl ?_ ?_
 intro c5
 exact absurd c5 (by simp)
 intro c5
 refine aA (a8 (aa ?_))
 refine gq (fun h _ => by have := (Value.slice.inj h).2.1; omega) fun g' n' cap sp h1 h2 h3 h4 h5 => ?_
 cases h1
 refine ae (a7 rfl (ab rfl) (a7 rfl (aI rfl) ?_))
 refine a7 rfl (ar rfl jI rfl jJ rfl (by first | exact Nat.zero_add _ | rfl)) ?_
 refine a7 rfl (ap lQ rfl (az rfl)) ?_
 refine a7 rfl (ab rfl) ?_
 refine a7 rfl (bK kC lR rfl rfl rfl hi (by first | exact Nat.zero_add _ | rfl)) ?_
 refine a7 rfl (nX nf g8 rfl) ?_
 refine a7 rfl (ab rfl) ?_
 refine ah rfl (k8 dV g8 rfl rfl (m := 64) (vs := bR (ii (fr.getD i []) o k x)) rfl (dt (n := 64) (by rw [List.drop_zero, List.take_left' (by rw [dQ, hpl])]) (by rw [dQ, hpl])) (by rw [dQ, hpl]) (nY _) (by rw [tJ]; omega) (tI hi hpl)) ?_
 rintro _ B_ ⟨rfl, hB_⟩
 obtain rfl := hB_.symm
 refine ac (a8 (aa (ae (a7 rfl (ag rfl) (ac (a8 (ao (ak (.inl rfl) (.cons (aj rfl) .nil) ?_))))))))
 exact ⟨_, ⟨by simp [ct, hs], rfl⟩, iC (by simp [fQ, hs]) (by simp [fQ, hs])⟩
 have hin' : dH 64 off w = false := by simpa using hin
 have hs : iD fr i off w = false := by simp [iD, hin']
 refine aB wR ntmps29 rfl rfl ?_
 refine aa (ae (a7 rfl (ag rfl) (ac (a8 (aa (aa (ae (a7 rfl (ab rfl) (a7 rfl (ab rfl) (ah rfl (aF pC rfl (md W0 _ ps fr i)) ?_))))))))))
 rintro _ B_ ⟨rfl, hB_⟩
 obtain rfl := hB_.symm
 refine a7 rfl (ag rfl) (ac (a8 (aa (ae (a7 rfl (ab rfl) (a7 rfl (bT rfl rfl) (ac (a8 ?_))))))))
 refine au rfl ?_ ?_
 intro c2
 exact absurd c2 (by simp [hf])
 intro c2
 refine aA (a8 (aa ?_))
 refine l9 (ps := ps) fun g => ?_
 refine ae (a7 rfl (ab rfl) (a7 rfl (aI rfl) ?_))
 refine a7 rfl (ar rfl jI rfl jJ rfl (by first | exact Nat.zero_add _ | rfl)) ?_
 refine a7 rfl (ap lQ rfl (az rfl)) ?_
 refine a7 rfl (ab rfl) ?_
 refine a7 rfl (bK kC lR rfl rfl rfl hi (by first | exact Nat.zero_add _ | rfl)) ?_
 refine a7 rfl (nX nf g8 rfl) ?_
 refine a7 rfl (ab rfl) (a7 rfl (ab rfl) (a7 rfl (ab rfl) ?_))
 refine ah rfl (aS call73 rfl (yI hl (dt (qw hF hi) (by rw [dQ, hl])) hin' (by decide))) ?_
 rintro _ B_ ⟨rfl, hB_⟩
 obtain rfl := hB_.symm
 refine a7 rfl (ab rfl) (a7 rfl (aW rfl rfl) (a7 rfl (aW rfl rfl) (a7 rfl (ag rfl) (a7 rfl (ag rfl) (ac (a8 (aa (aa (ae (a7 rfl (ab rfl) (a7 rfl (bT rfl rfl) (ac (a8 ?_)))))))))))))
 refine au rfl ?_ ?_
 intro c5
 refine aa (ae (a7 rfl (ab rfl) (a7 rfl (ag rfl) (ac (a8 (ao (aJ (ak (.inl rfl) (.cons (aj rfl) .nil) ?_))))))))
 exact ⟨_, ⟨by simp [ct, hs], rfl⟩, iC (by simp [fQ, hs]) (by simp [fQ, hs])⟩
 intro c5
 exact absurd c5 (by simp)
 have hf' : dA fr.length f = false := by simpa using hf
 have hs : iD fr f off w = false := by simp [iD, hf']
 refine aB wR ntmps29 rfl rfl ?_
 refine aa (ae (a7 rfl (ag rfl) (ac (a8 (aa (aa (ae (a7 rfl (ab rfl) (a7 rfl (ab rfl) (ah rfl (aF pC rfl (md W0 _ ps fr f)) ?_))))))))))
 rintro _ B_ ⟨rfl, hB_⟩
 obtain rfl := hB_.symm
 refine a7 rfl (ag rfl) (ac (a8 (aa (ae (a7 rfl (ab rfl) (a7 rfl (bT rfl rfl) (ac (a8 ?_))))))))
 refine au rfl ?_ ?_
 intro c2
 refine aa (ae (a7 rfl (ab rfl) (a7 rfl (ag rfl) (ac (a8 (ao (aJ (ak (.inl rfl) (.cons (aj rfl) .nil) ?_))))))))
 rw [show fQ fr f off w x = fr by simp [fQ, hs]]
 exact ⟨_, ⟨by simp [ct, hf', hs], rfl⟩, inferInstance⟩
 intro c2
 exact absurd c2 (by simp [hf'])
abbrev Pl := Int × Int
@[reducible] def gr (p : Pl) : List Value := [.int .i64 p.1, .int .i64 p.2]
theorem me (p : Pl) : (gr p).length = 2 := rfl
def eY (pg : List Pl) (n : Nat) : Pl := pg.getD n (0, 0)
def iE (p : Pl) : Bool := decide (0 ≤ p.1 ∧ p.1 < 32 ∧ 1 ≤ p.2 ∧ p.2 ≤ 3)
structure Pgs (pg : List Pl) : Prop where
  len : pg.length = 12
  ok : ∀ n, n < 12 → eY pg n ≠ (0, 0) → iE (eY pg n) = true
def gT (n : Int) : Bool := decide (0 ≤ n ∧ n < 12)
theorem mf {n : Int} (h : gT n = true) : ∃ i : Nat, n = (i : Int) ∧ i < 12 := by
 simp only [gT, decide_eq_true_eq] at h
 exact ⟨n.toNat, by omega, by omega⟩
abbrev cK (pg : List Pl) : Obj := am (pg.flatMap gr ++ [.bool true]) 361
theorem tO {pg : List Pl} {sp : List Value} {n : Nat} (hn : n < pg.length) : ((pg.flatMap gr ++ sp).drop (n * 2)).take 2 = gr (eY pg n) := by
 rw [m9 me pg n sp hn]; simp [eY, List.getD, hn]
theorem yM {pg : List Pl} {sp : List Value} {n : Nat} {p : Pl} (hn : n < pg.length) : setR (pg.flatMap gr ++ sp) (n * 2) (gr p) = (pg.set n p).flatMap gr ++ sp := nQ me pg n p sp hn
theorem yN (pg : List Pl) (sp : List Value) : (pg.flatMap gr ++ sp).length = pg.length * 2 + sp.length := by rw [List.length_append, cV me]
theorem yO {pg : List Pl} (h : pg.length = 12) : (pg.flatMap gr ++ [.bool true])[24]? = some (Value.bool true) := by
 rw [List.getElem?_append_right (by rw [cV me]; omega), cV me, h]; rfl
theorem yP {W0 : World} {R : List HP} : ax Tryz.prog W0 85 [] R (fun v B => ∃ b, v = .pointer (some ⟨b, 0, none⟩) ∧ B = pt b (cK (List.replicate 12 (0, 0))) :: R) := by
 refine aB func85 ntmps85 rfl rfl ?_
 refine aa (ae (a7 rfl (ag rfl) (ac (a8 (aa (ae (a7 rfl (cq pD zeroValue361 (aK s7 (aK cy cp)) (bB rfl cy rfl rfl (Nat.le_of_ble_eq_true rfl) SetL.eq co)) ?_)))))))
 refine ah rfl (bL rfl) ?_
 rintro _ _ ⟨b1, rfl, rfl⟩
 refine a7 rfl (ag rfl) (ac (a8 (ao (ak (.inl rfl) (.cons (aj rfl) .nil) ?_))))
 exact ⟨_, ⟨b1, rfl, rfl⟩, ent_refl⟩
theorem mg {W0 : World} {R : List HP} (b : Nat) (pg : List Pl) (h : Pgs pg) : ax Tryz.prog W0 277 [.pointer (some ⟨b, 0, none⟩)] (pt b (cK pg) :: R) (fun v B => v = .bool false ∧ B = pt b (cK pg) :: R) := by
 refine aB func277 ntmps277 rfl rfl ?_
 refine aa (ae (a7 rfl (ag rfl) (ac (a8 (aa (ae (a7 rfl (ab rfl) (a7 rfl (dx Ew rfl rfl) (a7 rfl (ab rfl) ?_)))))))))
 refine bJ rfl rfl rfl ?_ ?_
 intro g1_3
 cases g1_3
 intro g1_3
 refine a7 rfl (ab rfl) (av rfl rfl (a7 rfl (aI rfl) (av rfl rfl ?_)))
 refine a7 rfl (ar rfl pD rfl cy rfl (by first | exact Nat.zero_add _ | rfl)) ?_
 refine av rfl rfl (a7 rfl (ap gd rfl (az (yO h.len))) ?_)
 refine av rfl rfl (a7 rfl (bM rfl) (a7 rfl (aX rfl rfl) (a7 rfl (ag rfl) (ac (a8 (ao (ak (.inl rfl) (.cons (aj rfl) .nil) ?_)))))))
 exact ⟨_, ⟨rfl, rfl⟩, inferInstance⟩
theorem o9 {W0 : World} {R : List HP} (n : Int) : ax Tryz.prog W0 301 [.int .i64 n] R (fun v B => v = .bool (gT n) ∧ B = R) := by
 refine aB func301 ntmps301 rfl rfl ?_
 refine aa (ae (a7 rfl (ag rfl) (ac (a8 (aa (ae (a7 rfl (ab rfl) (a7 rfl (dr rfl rfl) (a7 rfl (ab rfl) ?_)))))))))
 refine dh rfl rfl rfl ?_ ?_
 intro g1_3
 refine a7 rfl (ab rfl) (av rfl rfl (a7 rfl (aV rfl rfl) (a7 rfl (bI rfl rfl) (a7 rfl (ag rfl) (ac (a8 (ao (ak (.inl rfl) (.cons (aj rfl) .nil) ?_))))))))
 refine ⟨_, ⟨?_, rfl⟩, inferInstance⟩
 refine congrArg Value.bool ?_
 rw [Bool.eq_iff_iff]; simp only [gT, decide_eq_true_eq, Bool.false_eq_true, false_iff]; omega
 intro g1_3
 refine aD rfl rfl rfl rfl (a7 rfl (aX rfl rfl) (a7 rfl (ag rfl) (ac (a8 (ao (ak (.inl rfl) (.cons (aj rfl) .nil) ?_))))))
 refine ⟨_, ⟨?_, rfl⟩, inferInstance⟩
 refine congrArg Value.bool ?_
 rw [Bool.eq_iff_iff]; simp only [gT, decide_eq_true_eq, Bool.false_eq_true, false_iff]; omega
theorem yQ {W0 : World} {R : List HP} (p : Pl) : ax Tryz.prog W0 302 [.agg (gr p).toArray] R (fun v B => v = .bool (iE p) ∧ B = R) := by
 refine aB func302 ntmps302 rfl rfl ?_
 refine aa (ae (ah rfl (bL rfl) ?_))
 rintro _ _ ⟨b1, rfl, rfl⟩
 refine a7 rfl (ag rfl) (ac (a8 (aa (ae ?_))))
 refine a7 rfl (ar rfl ge rfl aC rfl (by first | exact Nat.zero_add _ | rfl)) ?_
 refine a7 rfl (ap aM rfl (az rfl)) ?_
 refine a7 rfl (dr rfl rfl) (a7 rfl (ab rfl) ?_)
 refine dh rfl rfl rfl ?_ ?_
 intro g1_4
 refine a7 rfl (ar rfl ge rfl aC rfl (by first | exact Nat.zero_add _ | rfl)) ?_
 refine av rfl rfl (a7 rfl (ap aM rfl (az rfl)) ?_)
 refine av rfl rfl (a7 rfl (aV rfl rfl) (a7 rfl (bI rfl rfl) (a7 rfl (ab rfl) ?_)))
 refine dh rfl rfl rfl ?_ ?_
 intro g1_9
 refine a7 rfl (ar rfl ge rfl aC rfl (by first | exact Nat.zero_add _ | rfl)) ?_
 refine av rfl rfl (a7 rfl (ap aM rfl (az rfl)) ?_)
 refine av rfl rfl (a7 rfl (dr rfl rfl) (a7 rfl (bI rfl rfl) (a7 rfl (ab rfl) ?_)))
 refine dh rfl rfl rfl ?_ ?_
 intro g1_14
 refine a7 rfl (ar rfl ge rfl aC rfl (by first | exact Nat.zero_add _ | rfl)) ?_
 refine av rfl rfl (a7 rfl (ap aM rfl (az rfl)) ?_)
 refine av rfl rfl (a7 rfl (iU rfl rfl) (a7 rfl (bI rfl rfl) (a7 rfl (ag rfl) (ac (a8 (ao (ak (.inl rfl) (.cons (aj rfl) .nil) ?_)))))))
 refine ⟨_, ⟨?_, rfl⟩, inferInstance⟩
 refine congrArg Value.bool ?_
 rw [Bool.eq_iff_iff]; simp only [iE, decide_eq_true_eq, Bool.false_eq_true, false_iff]; omega
 intro g1_14
 refine aD rfl rfl rfl rfl (aD rfl rfl rfl rfl (a7 rfl (aX rfl rfl) (a7 rfl (ag rfl) (ac (a8 (ao (ak (.inl rfl) (.cons (aj rfl) .nil) ?_)))))))
 refine ⟨_, ⟨?_, rfl⟩, inferInstance⟩
 refine congrArg Value.bool ?_
 rw [Bool.eq_iff_iff]; simp only [iE, decide_eq_true_eq, Bool.false_eq_true, false_iff]; omega
 intro g1_9
 refine aD rfl rfl rfl rfl (aD rfl rfl rfl rfl (a7 rfl (aX rfl rfl) (a7 rfl (ab rfl) (aD rfl rfl rfl rfl (aD rfl rfl rfl rfl (aD rfl rfl rfl rfl (a7 rfl (aX rfl rfl) (a7 rfl (ag rfl) (ac (a8 (ao (ak (.inl rfl) (.cons (aj rfl) .nil) ?_))))))))))))
 refine ⟨_, ⟨?_, rfl⟩, inferInstance⟩
 refine congrArg Value.bool ?_
 rw [Bool.eq_iff_iff]; simp only [iE, decide_eq_true_eq, Bool.false_eq_true, false_iff]; omega
 intro g1_4
 refine aD rfl rfl rfl rfl (aD rfl rfl rfl rfl (a7 rfl (aX rfl rfl) (a7 rfl (ab rfl) (aD rfl rfl rfl rfl (aD rfl rfl rfl rfl (aD rfl rfl rfl rfl (a7 rfl (aX rfl rfl) (a7 rfl (ab rfl) (aD rfl rfl rfl rfl (aD rfl rfl rfl rfl (aD rfl rfl rfl rfl (a7 rfl (aX rfl rfl) (a7 rfl (ag rfl) (ac (a8 (ao (ak (.inl rfl) (.cons (aj rfl) .nil) ?_)))))))))))))))))
 refine ⟨_, ⟨?_, rfl⟩, inferInstance⟩
 refine congrArg Value.bool ?_
 rw [Bool.eq_iff_iff]; simp only [iE, decide_eq_true_eq, Bool.false_eq_true, false_iff]; omega
def cr (pg : List Pl) (n : Int) : Bool := gT n && decide (eY pg n.toNat ≠ (0, 0))
theorem qz {W0 : World} {R : List HP} (b : Nat) (pg : List Pl) (h : Pgs pg) (n : Int) : ax Tryz.prog W0 278 [.pointer (some ⟨b, 0, none⟩), .int .i64 n] (pt b (cK pg) :: R) (fun v B => v = .bool (cr pg n) ∧ B = pt b (cK pg) :: R) := by
 refine aB func278 ntmps278 rfl rfl ?_
 refine aa (ae (a7 rfl (ag rfl) (ac (a8 (aa (ae (a7 rfl (ab rfl) (ah rfl (aS s8 rfl (o9 n)) ?_))))))))
 rintro _ B_ ⟨rfl, hB_⟩
 obtain rfl := hB_.symm
 refine a7 rfl (ab rfl) ?_
 refine dh rfl rfl rfl ?_ ?_
 intro g1_3
 obtain ⟨i, rfl, hi⟩ := mf g1_3
 have hl := h.len
 refine a7 rfl (ab rfl) (av rfl rfl (a7 rfl (ab rfl) (av rfl rfl (a7 rfl (aI rfl) (av rfl rfl ?_)))))
 refine a7 rfl (ar rfl pD rfl s7 rfl (by first | exact Nat.zero_add _ | rfl)) ?_
 refine av rfl rfl ?_
 refine a7 rfl (iz wS eH rfl rfl rfl (by omega) (by first | exact Nat.zero_add _ | rfl)) ?_
 refine av rfl rfl ?_
 refine a7 rfl (bN jK eH rfl (dt (tO (by omega)) rfl) rfl) ?_
 refine av rfl rfl (a7 rfl (cq ge iN (aK aC (aK aC cp)) co) ?_)
 refine av rfl rfl (a7 rfl (tf Tryz.eqGuardType238 rfl rfl (nJ ge Tryz.stoodInHeld238 (jd rfl aM rfl rfl (jc dF) (jd rfl aM rfl rfl (jc dF) nG)))) ?_)
 refine a7 rfl (bI rfl rfl) (a7 rfl (ag rfl) (ac (a8 (ao (ak (.inl rfl) (.cons (aj rfl) .nil) ?_)))))
 refine ⟨_, ⟨?_, rfl⟩, inferInstance⟩
 refine congrArg Value.bool ?_
 first
   | (rw [Bool.eq_iff_iff]; simp [cr, g1_3, Prod.ext_iff])
   | simp [cr, g1_3]
 intro g1_3
 refine aD rfl rfl rfl rfl (aD rfl rfl rfl rfl (aD rfl rfl rfl rfl (aD rfl rfl rfl rfl (aD rfl rfl rfl rfl (aD rfl rfl rfl rfl (aD rfl rfl rfl rfl (a7 rfl (aX rfl rfl) (a7 rfl (ag rfl) (ac (a8 (ao (ak (.inl rfl) (.cons (aj rfl) .nil) ?_))))))))))))
 refine ⟨_, ⟨?_, rfl⟩, inferInstance⟩
 refine congrArg Value.bool ?_
 first
   | (rw [Bool.eq_iff_iff]; simp [cr, g1_3, Prod.ext_iff])
   | simp [cr, g1_3]
def du (pg : List Pl) (n : Int) : Pl := if cr pg n then eY pg n.toNat else (0, 0)
theorem qA {W0 : World} {R : List HP} (b : Nat) (pg : List Pl) (h : Pgs pg) (n : Int) : ax Tryz.prog W0 144 [.pointer (some ⟨b, 0, none⟩), .int .i64 n] (pt b (cK pg) :: R)
    (fun v B => v = .tuple #[.agg (gr (du pg n)).toArray, .bool (cr pg n)] ∧ B = pt b (cK pg) :: R) := by
 refine aB func144 ntmps144 rfl rfl ?_
 refine aa (ae (ah rfl (cH iN) ?_))
 rintro _ _ ⟨b1, rfl, rfl⟩
 refine a7 rfl (ag rfl) (ac (a8 (aa (aa (ae (a7 rfl (ab rfl) (ah rfl (aF pE rfl (mg b pg h)) ?_)))))))
 rintro _ B_ ⟨rfl, hB_⟩
 obtain rfl := hB_.symm
 refine a7 rfl (ab rfl) ?_
 refine bJ rfl rfl rfl ?_ ?_
 intro g1_3
 exact absurd g1_3 (by decide)
 intro g1_3
 refine a7 rfl (ab rfl) (av rfl rfl (a7 rfl (ab rfl) (av rfl rfl (ah rfl (aF wT rfl (qz b pg h n)) ?_))))
 rintro _ B_ ⟨rfl, hB_⟩
 obtain rfl := hB_.symm
 refine av rfl rfl (a7 rfl (bM rfl) (a7 rfl (aX rfl rfl) (ac (a8 ?_))))
 refine au rfl ?_ ?_
 intro c1
 refine aa (ae (a7 rfl (cq ge iN (aK aC (aK aC cp)) co) ?_))
 refine bc (cD eH rfl rfl rfl rfl rfl) ?_
 rintro _ _ rfl
 refine a7 rfl (ag rfl) (ac (a8 (ao (aJ (ak (.inl rfl) (.cons (ig jK eH rfl rfl) (.cons (aj rfl) .nil)) ?_)))))
 refine ⟨_, ⟨?_, rfl⟩, inferInstance⟩
 have ht : cr pg n = false := by simpa using c1
 simp [ct, du, ht]
 intro c1
 have ht : cr pg n = true := by simpa using c1
 have hp : gT n = true := by simp only [cr, Bool.and_eq_true] at ht; exact ht.1
 obtain ⟨i, rfl, hi⟩ := mf hp
 have hl := h.len
 refine aA (a8 (aa (ae (a7 rfl (ab rfl) (a7 rfl (ab rfl) (a7 rfl (aI rfl) ?_))))))
 refine a7 rfl (ar rfl pD rfl s7 rfl (by first | exact Nat.zero_add _ | rfl)) ?_
 refine a7 rfl (iz wS eH rfl rfl rfl (by omega) (by first | exact Nat.zero_add _ | rfl)) ?_
 refine a7 rfl (bN jK eH rfl (dt (tO (by omega)) rfl) rfl) ?_
 refine bc (cD eH rfl rfl rfl rfl rfl) ?_
 rintro _ _ rfl
 refine a7 rfl (ag rfl) (ac (a8 (ao (ak (.inl rfl) (.cons (ig jK eH rfl rfl) (.cons (aj rfl) .nil)) ?_))))
 refine ⟨_, ⟨?_, rfl⟩, inferInstance⟩
 simp [ct, du, ht]
def gt (pg : List Pl) (n : Int) (p : Pl) : Int := if gT n ∧ iE p then (if cr pg n then 5 else 0) else 1
def gv (pg : List Pl) (n : Int) (p : Pl) : List Pl := if gt pg n p = 0 then pg.set n.toNat p else pg
theorem tP {pg : List Pl} {n : Int} {p : Pl} (h : Pgs pg) : Pgs (gv pg n p) := by
 unfold gv; split
 rename_i hs
 have hop : iE p = true := by
  unfold gt at hs; split at hs
  rename_i k; exact k.2
  omega
 refine ⟨by simp [h.len], fun m hm hne => ?_⟩
 unfold eY at hne ⊢
 by_cases e : n.toNat = m
 subst e
 simp only [List.getD_eq_getElem?_getD, List.getElem?_set, if_true] at hne ⊢
 rw [if_pos (by rw [h.len]; exact hm)] at hne ⊢
 exact hop
 simp only [List.getD_eq_getElem?_getD, List.getElem?_set_ne e] at hne ⊢
 have := h.ok m hm
 unfold eY at this
 simp only [List.getD_eq_getElem?_getD] at this
 exact this hne
 exact h
theorem tQ {W0 : World} {R : List HP} (b : Nat) (pg : List Pl) (h : Pgs pg) (n : Int) (p : Pl) : ax Tryz.prog W0 204 [.pointer (some ⟨b, 0, none⟩), .int .i64 n, .agg (gr p).toArray] (pt b (cK pg) :: R)
    (fun v B => v = .int .i64 (gt pg n p) ∧ B = pt b (cK (gv pg n p)) :: R) := by
 have hl := h.len
 refine aB func204 ntmps204 rfl rfl ?_
 refine aa (ae (ah rfl (bL rfl) ?_))
 rintro _ _ ⟨b1, rfl, rfl⟩
 refine a7 rfl (ag rfl) (ac (a8 (aa (aP (aa (ae (a7 rfl (ab rfl) (ah rfl (aF pE rfl (mg b pg h)) ?_))))))))
 rintro _ B_ ⟨rfl, hB_⟩
 obtain rfl := hB_.symm
 refine a7 rfl (ag rfl) (ac (a8 ?_))
 refine au rfl ?_ ?_
 intro c1
 exact absurd c1 (by decide)
 intro c1
 refine aa (aa (ae (a7 rfl (ab rfl) (ah rfl (aS s8 rfl (o9 n)) ?_))))
 rintro _ B_ ⟨rfl, hB_⟩
 obtain rfl := hB_.symm
 refine a7 rfl (bM rfl) (a7 rfl (ag rfl) (ac (a8 ?_)))
 refine au rfl ?_ ?_
 intro c3
 refine aA (a8 (cI rfl (aa (ae (a7 rfl (ag rfl) (ac (a8 (ao (be (aJ (ak (.inl rfl) (.cons (aj rfl) .nil) ?_)))))))))))
 have he : gt pg n p = 1 := by
  unfold gt; rw [if_neg]
  first
    | (intro hk; exact absurd hk.1 (by simpa using c3))
    | (intro hk; exact absurd hk.2 (by simpa using c4))
 exact ⟨_, ⟨by simp [ct, he], by rw [gv, he, if_neg (by decide)]⟩, inferInstance⟩
 intro c3
 have hp : gT n = true := by simpa using c3
 refine ae (a7 rfl (cC jK eH rfl rfl) ?_)
 refine ah rfl (aS call302 rfl (yQ p)) ?_
 rintro _ B_ ⟨rfl, hB_⟩
 obtain rfl := hB_.symm
 refine a7 rfl (bM rfl) (a7 rfl (ag rfl) (ac (a8 ?_)))
 refine au rfl ?_ ?_
 intro c4
 refine aa (ae (a7 rfl (ag rfl) (ac (a8 (ao (be (aJ (ak (.inl rfl) (.cons (aj rfl) .nil) ?_))))))))
 have he : gt pg n p = 1 := by
  unfold gt; rw [if_neg]
  first
    | (intro hk; exact absurd hk.1 (by simpa using c3))
    | (intro hk; exact absurd hk.2 (by simpa using c4))
 exact ⟨_, ⟨by simp [ct, he], by rw [gv, he, if_neg (by decide)]⟩, inferInstance⟩
 intro c4
 have ho : iE p = true := by simpa using c4
 refine aa (ae (a7 rfl (ab rfl) (a7 rfl (ab rfl) (ah rfl (aF wT rfl (qz b pg h n)) ?_))))
 rintro _ B_ ⟨rfl, hB_⟩
 obtain rfl := hB_.symm
 refine a7 rfl (ag rfl) (ac (a8 ?_))
 refine au rfl ?_ ?_
 intro c6
 refine aa (ae (a7 rfl (ag rfl) (ac (a8 (ao (be (aJ (ak (.inl rfl) (.cons (aj rfl) .nil) ?_))))))))
 have he : gt pg n p = 5 := by
  unfold gt; rw [if_pos ⟨hp, ho⟩, if_pos c6]
 exact ⟨_, ⟨by simp [ct, he], by rw [gv, he, if_neg (by decide)]⟩, inferInstance⟩
 intro c6
 have ht : cr pg n = false := by simpa using c6
 have he : gt pg n p = 0 := by simp [gt, hp, ho, ht]
 refine aA (bw (a8 (aa ?_)))
 obtain ⟨i, rfl, hi⟩ := mf hp
 refine di [(b1, 0, _)] 7 d4 rfl (aE aH) (fun hS => ?_)
 refine ai 0 rfl rfl (by kernel_rfl) (by kernel_rfl) (by kernel_rfl) rfl hS (ab rfl) ?_
 refine ai 1 rfl rfl (by kernel_rfl) (by kernel_rfl) (by kernel_rfl) rfl hS (ab rfl) ?_
 refine ai 2 rfl rfl (by kernel_rfl) (by kernel_rfl) (by kernel_rfl) rfl hS (bN jK eH rfl (ee (k := 0) rfl) rfl) ?_
 refine ai 3 rfl rfl (by kernel_rfl) (by kernel_rfl) (by kernel_rfl) rfl hS (aI rfl) ?_
 refine ai 4 rfl rfl (by kernel_rfl) (by kernel_rfl) (by kernel_rfl) rfl hS (ar rfl pD rfl s7 rfl (by first | exact Nat.zero_add _ | rfl)) ?_
 refine ai 5 rfl rfl (by kernel_rfl) (by kernel_rfl) (by kernel_rfl) rfl hS (iz wS eH rfl rfl rfl hi (by first | exact Nat.zero_add _ | rfl)) ?_
 refine b0 6 (by kernel_rfl) rfl rfl (fy eH rfl rfl rfl rfl (by rw [yN, hl]; omega) (yM (by omega))) rfl ?_; clear hS
 rintro _ _ rfl
 refine ⟨(aE aH), fun hS => ?_⟩
 refine cm (by kernel_rfl) ?_; clear hS
 refine a8 (aa (ae (a7 rfl (ag rfl) (ac (a8 (ao (ak (.inl rfl) (.cons (aj rfl) .nil) ?_)))))))
 rw [show gv pg i p = pg.set i p by simp [gv, he]]
 exact ⟨_, ⟨by simp [ct, he], rfl⟩, inferInstance⟩
theorem yR {W0 : World} {R : List HP} (b : Nat) (pg : List Pl) (h : Pgs pg) : ax Tryz.prog W0 207 [.pointer (some ⟨b, 0, none⟩), .int .i64 12] (pt b (cK pg) :: R)
    (fun v B => v = .int .i64 1 ∧ B = pt b (cK pg) :: R) := by
 refine aB func207 ntmps207 rfl rfl ?_
 refine aa (ae (a7 rfl (ag rfl) (ac (a8 (aa (aP (aa (ae (a7 rfl (ab rfl) (ah rfl (aF pE rfl (mg b pg h)) ?_))))))))))
 rintro _ B_ ⟨rfl, hB_⟩
 obtain rfl := hB_.symm
 refine a7 rfl (ag rfl) (ac (a8 ?_))
 refine au rfl ?_ ?_
 intro c1
 exact absurd c1 (by decide)
 intro c1
 refine aa (ae (a7 rfl (ab rfl) (ah rfl (aS s8 rfl (o9 12)) ?_)))
 rintro _ B_ ⟨rfl, hB_⟩
 obtain rfl := hB_.symm
 refine a7 rfl (bM rfl) (a7 rfl (ag rfl) (ac (a8 ?_)))
 refine au rfl ?_ ?_
 intro c3
 refine aa (ae (a7 rfl (ag rfl) (ac (a8 (ao (be (aJ (ak (.inl rfl) (.cons (aj rfl) .nil) ?_))))))))
 exact ⟨_, ⟨rfl, rfl⟩, inferInstance⟩
 intro c3
 exact absurd c3 (by decide)
def yS (n : Int) (p : Pl) (kind : Int) : Bool := decide (kind = 0 ∧ n < 8 ∨ kind = 1 ∧ p.2 % 2 = 1 ∨ kind = 2 ∧ 2 ≤ p.2)
def mh (pg : List Pl) (n kind : Int) : Int := if cr pg n then (if yS n (eY pg n.toNat) kind then 0 else 6) else 7
end
section
class Hk (α : Type) extends Inhabited α where
  ky : α → Int
namespace Hp
variable {α : Type} [Hk α]
def us (l : List α) (i : Nat) : Int := Hk.ky (l.getD i default)
theorem mi {l : List α} {i : Nat} (h : i < l.length) : us l i = Hk.ky l[i] := by simp [us, List.getD, h]
def swapL (l : List α) (i j : Nat) : List α := (l.set i (l.getD j default)).set j (l.getD i default)
theorem oc (l : List α) (i j : Nat) : (swapL l i j).length = l.length := by simp [swapL]
theorem jp {l : List α} {i j : Nat} (hi : i < l.length) (hj : j < l.length) (x : Nat) : (swapL l i j).getD x default = if x = i then l.getD j default else if x = j then l.getD i default else l.getD x default := by
 simp only [swapL, List.getD_eq_getElem?_getD, List.getElem?_set, List.length_set]
 by_cases h1 : x = j
 subst h1
 by_cases h2 : x = i
 subst h2; simp [hj]
 simp [hj, h2]
 have h1' : ¬ j = x := fun h => h1 h.symm
 by_cases h2 : x = i
 subst h2; simp [h1', hi]
 have h2' : ¬ i = x := fun h => h2 h.symm
 simp [h1, h1', h2, h2']
theorem fR {l : List α} {i j : Nat} (hi : i < l.length) (hj : j < l.length) (x : Nat) : us (swapL l i j) x = if x = i then us l j else if x = j then us l i else us l x := by
 unfold us; rw [jp hi hj]; split
 rfl
 split <;> rfl
theorem qB {β : Type} : ∀ (l : List β) (i j : Nat) (hi : i < l.length) (hj : j < l.length), ((l.set i l[j]).set j l[i]).Perm l := by
 intro l i j hi hj
 have : ((l.set i l[j]).set j l[i]).Perm l := List.set_set_perm hi hj
 exact this
theorem fz {l : List α} {i j : Nat} (hi : i < l.length) (hj : j < l.length) : (swapL l i j).Perm l := by
 have := qB l i j hi hj
 simpa [swapL, List.getD, hi, hj] using this
def Heap (l : List α) (n : Nat) : Prop := ∀ c, c < n → 0 < c → us l ((c - 1) / 2) ≤ us l c
def eL (l : List α) (i n : Nat) : Prop := ∀ c, c < n → 0 < c → (c ≠ i → (c - 1) / 2 ≠ i → us l ((c - 1) / 2) ≤ us l c) ∧ ((c - 1) / 2 = i → 0 < i → us l ((i - 1) / 2) ≤ us l c)
def Up (l : List α) (j n : Nat) : Prop := ∀ c, c < n → 0 < c → (c ≠ j → us l ((c - 1) / 2) ≤ us l c) ∧ ((c - 1) / 2 = j → 0 < j → us l ((j - 1) / 2) ≤ us l c)
theorem qC {l : List α} {i j n : Nat} (h : eL l i n) (hn : n ≤ l.length) (hj : j < n) (hc : (j - 1) / 2 = i) (h0 : 0 < j) (hlt : us l j < us l i)
    (hmin : ∀ c, c < n → 0 < c → (c - 1) / 2 = i → us l j ≤ us l c) : eL (swapL l i j) j n ∧ us (swapL l i j) ((j - 1) / 2) ≤ us (swapL l i j) j := by
 have hij : i < j := by omega
 have sw := fR (l := l) (i := i) (j := j) (by omega) (by omega)
 refine ⟨fun c hcn hc0 => ⟨fun h1 h2 => ?_, fun h1 h2 => ?_⟩, ?_⟩
 rw [sw, sw]
 by_cases e1 : c = i
 subst e1
 have := (h j hj h0).2 hc (by omega)
 rw [if_neg (by omega), if_neg (by omega), if_pos rfl]; exact this
 by_cases e2 : (c - 1) / 2 = i
 rw [if_pos e2, if_neg e1, if_neg h1]; exact hmin c hcn hc0 e2
 rw [if_neg e2, if_neg h2, if_neg e1, if_neg h1]; exact (h c hcn hc0).1 e1 e2
 rw [hc, sw, sw, if_pos rfl, if_neg (by omega), if_neg (by omega)]
 rw [← h1]; exact (h c hcn hc0).1 (by omega) (by omega)
 rw [hc, sw, sw, if_pos rfl, if_neg (by omega), if_pos rfl]; omega
theorem mj {l : List α} {i n : Nat} (h : eL l i n) (hmin : ∀ c, c < n → 0 < c → (c - 1) / 2 = i → us l i ≤ us l c) (hp : 0 < i → us l ((i - 1) / 2) ≤ us l i) : Heap l n := fun c hc h0 => by
 by_cases e1 : (c - 1) / 2 = i
 rw [e1]; exact hmin c hc h0 e1
 by_cases e2 : c = i
 subst e2; exact hp h0
 exact (h c hc h0).1 e2 e1
theorem tT {l : List α} {i n : Nat} (h : eL l i n) (hmin : ∀ c, c < n → 0 < c → (c - 1) / 2 = i → us l i ≤ us l c) : Up l i n := fun c hc h0 => ⟨fun e => by
 by_cases e1 : (c - 1) / 2 = i
 rw [e1]; exact hmin c hc h0 e1
 exact (h c hc h0).1 e e1, (h c hc h0).2⟩
theorem qD {l : List α} {j n : Nat} (h : Up l j n) (hn : n ≤ l.length) (hj : j < n) (h0 : 0 < j) (hlt : us l j < us l ((j - 1) / 2)) : Up (swapL l ((j - 1) / 2) j) ((j - 1) / 2) n := by
 have sw := fR (l := l) (i := (j - 1) / 2) (j := j) (by omega) (by omega)
 intro c hc hc0
 refine ⟨fun h1 => ?_, fun h1 h2 => ?_⟩
 rw [sw, sw]
 by_cases e1 : c = j
 subst e1; rw [if_pos rfl, if_neg (by omega), if_pos rfl]; omega
 by_cases e2 : (c - 1) / 2 = (j - 1) / 2
 rw [if_pos e2, if_neg (by omega), if_neg e1]
 have := (h c hc hc0).1 e1; rw [e2] at this; omega
 by_cases e3 : (c - 1) / 2 = j
 rw [if_neg e2, if_pos e3, if_neg h1, if_neg e1]; exact (h c hc hc0).2 e3 h0
 rw [if_neg e2, if_neg e3, if_neg h1, if_neg e1]; exact (h c hc hc0).1 e1
 rw [sw, sw, if_neg (by omega), if_neg (by omega)]
 have hp := (h ((j - 1) / 2) (by omega) h2).1 (by omega)
 by_cases e1 : c = j
 subst e1; rw [if_neg (by omega), if_pos rfl]; exact hp
 rw [if_neg (by omega), if_neg e1]
 have := (h c hc hc0).1 e1; rw [h1] at this; omega
theorem ml {l : List α} {j n : Nat} (h : Up l j n) (hp : 0 < j → us l ((j - 1) / 2) ≤ us l j) : Heap l n := fun c hc h0 => by
 by_cases e : c = j
 subst e; exact hp h0
 exact (h c hc h0).1 e
theorem qE {l : List α} {n : Nat} (h : Heap l n) : ∀ c, c < n → us l 0 ≤ us l c := by
 intro c
 induction c using Nat.strongRecOn with
 | _ c ih =>
  intro hc
  by_cases h0 : c = 0
  subst h0; omega
  have := h c hc (by omega)
  have := ih ((c - 1) / 2) (by omega) (by omega)
  omega
theorem mm {l l' : List α} {n : Nat} (h : ∀ i, i < n → l.getD i default = l'.getD i default) {i : Nat} (hi : i < n) : us l i = us l' i := by unfold us; rw [h i hi]
theorem qF {l l' : List α} {n : Nat} (h : ∀ i, i < n → l.getD i default = l'.getD i default) (k : Heap l n) : Heap l' n := fun c hc h0 => by
 rw [← mm h hc, ← mm h (i := (c - 1) / 2) (by omega)]; exact k c hc h0
theorem tU {l : List α} {n m : Nat} (h : Heap l n) (k : m ≤ n) : Heap l m := fun c hc h0 => h c (by omega) h0
structure Down (its l : List α) (i0 n : Nat) (moved : Bool) : Prop where
  perm : l.Perm its
  tail : ∀ x, n ≤ x → l.getD x default = its.getD x default
  no : moved = false → l = its ∧ ∀ c, c < n → 0 < c → (c - 1) / 2 = i0 → us its i0 ≤ us its c
  yes : moved = true → Heap l n
theorem mn {l its : List α} {i i0 n : Nat} (hp : l.Perm its) (hi : i0 ≤ i) (hH : eL l i n) (ht : ∀ x, n ≤ x → l.getD x default = its.getD x default) (h0 : i = i0 → l = its)
    (hg : i0 < i → us l ((i - 1) / 2) ≤ us l i) (hmin : ∀ c, c < n → 0 < c → (c - 1) / 2 = i → us l i ≤ us l c) : Down its l i0 n (decide (i0 < i)) :=
  ⟨hp, ht, fun h => by
 have : i = i0 := by simp at h; omega
 subst this
 obtain rfl := h0 rfl
 exact ⟨rfl, hmin⟩, fun h => by
 have : i0 < i := by simpa using h
 exact mj hH hmin fun _ => hg this⟩
theorem mo {l l0 : List α} {i j n : Nat} (hi : i < n) (hj : j < n) (hn : n ≤ l.length) (h : ∀ x, n ≤ x → l.getD x default = l0.getD x default) : ∀ x, n ≤ x → (swapL l i j).getD x default = l0.getD x default := fun x hx => by
 rw [jp (by omega) (by omega), if_neg (by omega), if_neg (by omega)]; exact h x hx
end Hp
instance F8 : Hk Nat := { ky := fun n => (n : Int) }
abbrev Po := List (Int × Bool)
def cG (po : Po) (f : Nat) : Int × Bool := po.getD f (-1, true)
def bS (po : Po) (w : Nat) : List Nat := (List.range po.length).filter fun f => cG po f == ((w : Int), false)
theorem iW {po : Po} {f : Nat} {x : Int × Bool} (hf : f < po.length) (g : Nat) : cG (po.set f x) g = if g = f then x else cG po g := by
 simp only [cG, List.getD_eq_getElem?_getD, List.getElem?_set]
 by_cases h : f = g
 subst h; simp [hf]
 simp [h, show ¬ g = f from fun e => h e.symm]
theorem iF {po : Po} {w f : Nat} : f ∈ bS po w ↔ f < po.length ∧ cG po f = ((w : Int), false) := by
 rw [bS, List.mem_filter, List.mem_range, beq_iff_eq]
theorem qG (po : Po) (w : Nat) : (bS po w).Pairwise (· < ·) := List.pairwise_lt_range.filter _
theorem tV (po : Po) (w : Nat) : (bS po w).Nodup := (qG po w).imp (fun h e => by omega)
theorem yT {po : Po} {w : Nat} {l : List Nat} (hn : l.Nodup) (h : ∀ f, f ∈ l ↔ f < po.length ∧ cG po f = ((w : Int), false)) : l.Perm (bS po w) :=
  (List.perm_ext_iff_of_nodup hn (tV po w)).2 fun f => by rw [h, iF]
theorem yU {po : Po} {f : Nat} {u : Int} (hf : f < po.length) (w : Nat) : bS (po.set f (u, true)) w = (bS po w).filter (· != f) := by
 simp only [bS, List.length_set, List.filter_filter]
 apply List.filter_congr
 intro g _
 rw [iW hf]
 by_cases h : g = f
 subst h; simp
 simp [h]
theorem yV {po : Po} {f : Nat} {w : Nat} (hf : f < po.length) (h : cG po f ≠ ((w : Int), false)) : (bS po w ++ [f]).Perm (bS (po.set f ((w : Int), false)) w) := by
 refine yT ?_ fun g => ?_
 rw [List.nodup_append]
 refine ⟨tV po w, by simp, fun a ha b hb e => ?_⟩
 rw [List.mem_singleton] at hb; subst hb; subst e
 exact h (iF.1 ha).2
 rw [List.mem_append, List.mem_singleton, iF, List.length_set, iW hf]
 by_cases e : g = f
 subst e; simp [hf]
 simp [e]
theorem tW {po : Po} {f : Nat} {x : Int × Bool} {w : Nat} (hf : f < po.length) (h1 : cG po f ≠ ((w : Int), false)) (h2 : x ≠ ((w : Int), false)) : bS (po.set f x) w = bS po w := by
 simp only [bS, List.length_set]
 apply List.filter_congr
 intro g _
 rw [iW hf]
 by_cases h : g = f
 subst h; rw [if_pos rfl, Bool.eq_iff_iff, beq_iff_eq, beq_iff_eq]; exact ⟨fun e => absurd e h2, fun e => absurd e h1⟩
 rw [if_neg h]
theorem qH {po : Po} {w x : Nat} {l : List Nat} (hp : (l ++ [x]).Perm (bS po w)) (hm : ∀ y ∈ bS po w, x ≤ y) : bS po w = x :: bS (po.set x ((w : Int), true)) w := by
 have hx : x ∈ bS po w := hp.mem_iff.1 (by simp)
 have hs := qG po w
 rw [yU (iF.1 hx).1]
 generalize bS po w = m at hx hm hs
 cases m with
 | nil => cases hx
 | cons y t =>
  rw [List.pairwise_cons] at hs
  have : x = y := by
   rcases List.mem_cons.1 hx with e | e
   exact e
   have := hs.1 x e
   have := hm y (by simp)
   omega
  subst this
  congr 1
  rw [List.filter_cons, if_neg (by simp)]
  refine (List.filter_eq_self.2 fun z hz => ?_).symm
  have := hs.1 z hz
  simp; omega
theorem yW {po : Po} {w x : Nat} {l : List Nat} (hp : (l ++ [x]).Perm (bS po w)) (hm : ∀ y ∈ bS po w, x ≤ y) : l.Perm (bS (po.set x ((w : Int), true)) w) := by
 have h := qH hp hm
 rw [h] at hp
 exact ((List.perm_append_comm (l₁ := [x]) (l₂ := l)).trans hp).cons_inv
structure LsOk (po : Po) (Ls : List (List Nat)) : Prop where
  len : Ls.length = 16
  row : ∀ w, w < 16 → (Ls.getD w []).Perm (bS po w) ∧ Hp.Heap (Ls.getD w []) (Ls.getD w []).length
structure PoOk (po : Po) : Prop where
  len : po.length ≤ 32
  who : ∀ f, f < po.length → -1 ≤ (cG po f).1 ∧ (cG po f).1 < 16 ∧ ((cG po f).1 = -1 → (cG po f).2 = false)
theorem PoOk.set {po : Po} (h : PoOk po) {f : Nat} {x : Int × Bool} (hf : f < po.length) (h1 : 0 ≤ x.1) (h2 : x.1 < 16) : PoOk (po.set f x) := ⟨by rw [List.length_set]; exact h.len, fun g hg => by
 rw [List.length_set] at hg
 rw [iW hf]
 split
 exact ⟨by omega, h2, fun e => by omega⟩
 exact h.who g hg⟩
theorem yX {po : Po} (h : PoOk po) (w : Nat) : (bS po w).length ≤ 32 := by
 have := List.length_filter_le (fun f => cG po f == ((w : Int), false)) (List.range po.length)
 rw [List.length_range] at this
 have := h.len
 unfold bS; omega
theorem LsOk.rlen {po : Po} {Ls : List (List Nat)} (h : LsOk po Ls) (hp : PoOk po) {w : Nat} (hw : w < 16) : (Ls.getD w []).length ≤ 32 := by
 rw [(h.row w hw).1.length_eq]; exact yX hp w
theorem LsOk.set {po po' : Po} {Ls : List (List Nat)} (h : LsOk po Ls) {w : Nat} (hw : w < 16) {l : List Nat} (h1 : l.Perm (bS po' w)) (h2 : Hp.Heap l l.length) (h3 : ∀ u, u < 16 → u ≠ w → bS po' u = bS po u) : LsOk po' (Ls.set w l) := ⟨by rw [List.length_set]; exact h.len, fun u hu => by
 have e : (Ls.set w l).getD u [] = if u = w then l else Ls.getD u [] := by
  simp only [List.getD_eq_getElem?_getD, List.getElem?_set]
  by_cases k : w = u
  subst k; simp [h.len, hw]
  simp [k, show ¬ u = w from fun e => k e.symm]
 rw [e]
 split
 rename_i k; subst k; exact ⟨h1, h2⟩
 rename_i k; rw [h3 u hu k]; exact h.row u hu⟩
theorem LsOk.new (n : Nat) : LsOk (List.replicate n (-1, false)) (List.replicate 16 []) := ⟨by simp, fun w hw => by
 have e : bS (List.replicate n (-1, false)) w = [] := by
  rw [List.eq_nil_iff_forall_not_mem]
  intro f hf
  have := (iF.1 hf)
  rw [List.length_replicate] at this
  have h2 := this.2
  simp [cG, List.getD, this.1] at h2
 rw [e, show (List.replicate 16 ([] : List Nat)).getD w [] = [] by rw [List.getD_eq_getElem?_getD, List.getElem?_replicate]; split <;> rfl]
 exact ⟨List.Perm.refl _, fun c hc _ => absurd hc (Nat.not_lt_zero _)⟩⟩
theorem PoOk.new {n : Nat} (h : n ≤ 32) : PoOk (List.replicate n (-1, false)) := ⟨by simpa using h, fun f hf => by
 rw [List.length_replicate] at hf
 simp [cG, List.getD, hf]⟩
structure Im where
  fr : List aZ
  po : Po
  pg : List Pl
def fg (f : Nat) : List Nat → Nat → List aZ → List aZ
 | [], _, fr => fr
 | x :: t, k, fr => fg f t (k + 1) (fQ fr f (4 * k : Nat) 4 x)
theorem tX (f x : Nat) : ∀ (l : List Nat) (k : Nat) (fr : List aZ), fg f (l ++ [x]) k fr = fQ (fg f l k fr) f (4 * (k + l.length) : Nat) 4 x
 | [], k, fr => by simp [fg]
 | y :: t, k, fr => by
  rw [List.cons_append, fg, fg, tX f x t (k + 1)]
  congr 3; simp only [List.length_cons]; omega
theorem mp {f : Nat} : ∀ {l : List Nat} {k : Nat} {fr : List aZ}, dI fr → dI (fg f l k fr) ∧ (fg f l k fr).length = fr.length
 | [], _, _, h => ⟨h, rfl⟩
 | x :: t, k, fr, h => by
  obtain ⟨h1, h2⟩ := mp (f := f) (l := t) (k := k + 1) (yK (f := f) (off := (4 * k : Nat)) (w := 4) (v := x) h)
  exact ⟨h1, by rw [fg, h2, yL]⟩
def d9 (words : List Nat) (i : Nat) : List Nat := (words.drop (16 * i)).take 16
def fT (who : Nat) (words : List Nat) (x : Im) (i : Nat) : Im :=
  match bS x.po who with
 | f :: _ => ⟨fg f (d9 words i) 0 x.fr, x.po.set f ((who : Int), true), gv x.pg i ((f : Int), 3)⟩
 | [] => x
def dB (who : Nat) (words : List Nat) : Nat → Im → Im
 | 0, x => x
 | n + 1, x => fT who words (dB who words n x) n
structure ImOk (x : Im) : Prop where
  fr : dI x.fr
  po : PoOk x.po
  pg : Pgs x.pg
  len : x.po.length = x.fr.length
theorem yY {who i : Nat} {words : List Nat} {x : Im} (h : ImOk x) (hw : who < 16) : ImOk (fT who words x i) := by
 unfold fT
 cases e : bS x.po who with
 | nil => exact h
 | cons f t =>
  have hf := iF.1 (show f ∈ bS x.po who by rw [e]; simp)
  obtain ⟨k1, k2⟩ := mp (f := f) (l := d9 words i) (k := 0) h.fr
  exact ⟨k1, h.po.set hf.1 (by simp) (by simp; omega), tP h.pg, by rw [List.length_set, k2]; exact h.len⟩
theorem mq {who : Nat} {words : List Nat} (hw : who < 16) : ∀ {n : Nat} {x : Im}, ImOk x → ImOk (dB who words n x)
 | 0, _, h => h
 | n + 1, _, h => yY (mq hw h) hw
theorem yZ {who i : Nat} {words : List Nat} {x : Im} : (bS (fT who words x i).po who).length = (bS x.po who).length - 1 := by
 unfold fT
 cases e : bS x.po who with
 | nil => simp [e]
 | cons f t =>
  have hf := iF.1 (show f ∈ bS x.po who by rw [e]; simp)
  dsimp only
  have hm : ∀ y ∈ bS x.po who, f ≤ y := fun y hy => by
   have := qG x.po who
   rw [e] at hy this
   rw [List.pairwise_cons] at this
   rcases List.mem_cons.1 hy with rfl | k
   exact Nat.le_refl _
   exact Nat.le_of_lt (this.1 y k)
  have := qH (l := t) (by rw [e]; exact List.perm_append_comm (l₁ := t) (l₂ := [f])) hm
  rw [e] at this
  have := (List.cons.inj this).2
  rw [← this, List.length_cons]; omega
theorem tY {who : Nat} {words : List Nat} {x : Im} : ∀ n : Nat, (bS (dB who words n x).po who).length = (bS x.po who).length - n
 | 0 => rfl
 | n + 1 => by rw [dB, yZ, tY n]; omega
def lc (pg : List Pl) (n m : Nat) : Prop := ∀ i, n ≤ i → i < m → cr pg (i : Nat) = false
theorem tZ {who : Nat} {words : List Nat} {x : Im} (h : lc x.pg 0 8) (hl : x.pg.length = 12) : ∀ n : Nat, n ≤ 8 → lc (dB who words n x).pg n 8 ∧ (dB who words n x).pg.length = 12
 | 0, _ => ⟨h, hl⟩
 | n + 1, hn => by
  obtain ⟨k1, k2⟩ := tZ h hl n (by omega)
  rw [dB]
  generalize dB who words n x = y at k1 k2
  unfold fT
  cases e : bS y.po who with
  | nil => exact ⟨fun i h1 h2 => k1 i (by omega) h2, k2⟩
  | cons f t =>
   dsimp only
   refine ⟨fun i h1 h2 => ?_, ?_⟩
   have := k1 i (by omega) h2
   unfold gv
   split
   simp only [cr, eY, Int.toNat_natCast, List.getD_eq_getElem?_getD] at this ⊢
   rw [List.getElem?_set_ne (by omega)]; exact this
   exact this
   unfold gv; split
   rw [List.length_set]; exact k2
   exact k2
end
section
open Go.RowKit
section
variable {rd : Option Nat} {P : Program} {S : World → Prop} {W0 : World} {N : FSz} {Q : Exit → Act → World → Prop} {e : bq} {A B R R1 R2 R3 R4 R5 R6 : List HP} {ops : Array Oper} {rest : List Oper}
variable {op : Op} {ty t t' : TypeId} {pos : String} {af : Array Edge} {v u : Value} {d b off : Nat} {x y z : Operand} {l l' vs : List Value}
variable {K1 K2 K3 K4 K5 K6 X1 X2 X3 X4 X5 X6 : Type} {r1 : K1 → X1 → HP} {b1 : K1} {x1 : X1} {r2 : K2 → X2 → HP} {b2 : K2} {x2 : X2} {r3 : K3 → X3 → HP} {b3 : K3} {x3 : X3} {r4 : K4 → X4 → HP} {b4 : K4} {x4 : X4} {r5 : K5 → X5 → HP} {b5 : K5} {x5 : X5} {r6 : K6 → X6 → HP} {b6 : K6} {x6 : X6}
theorem od [h1 : Tk r1 b1 A x1 R1] [h2 : Tk r2 b2 R1 x2 R2] [h3 : Tk r3 b3 R2 x3 R] : A.Perm (r1 b1 x1 :: r2 b2 x2 :: r3 b3 x3 :: R) := h1.perm.trans (tv.cons _)
theorem z0 [h1 : Tk r1 b1 A x1 R1] [h2 : Tk r2 b2 R1 x2 R2] [h3 : Tk r3 b3 R2 x3 R3] [h4 : Tk r4 b4 R3 x4 R] : A.Perm (r1 b1 x1 :: r2 b2 x2 :: r3 b3 x3 :: r4 b4 x4 :: R) := h1.perm.trans (od.cons _)
section
variable {f : FuncId} {xs : Array Operand} {ats : Array TypeId} {Post : Value → List HP → Prop}
theorem qI (hc : ∀ args w, (callFunc f args).run P w = .ok (.enter f args) w) (hx : dO e xs.toList = some vs)
    (hs : ax P W0 f vs (r1 b1 x1 :: r2 b2 x2 :: r3 b3 x3 :: r4 b4 x4 :: R) Post) [h1 : Tk r1 b1 A x1 R1] [h2 : Tk r2 b2 R1 x2 R2] [h3 : Tk r3 b3 R2 x3 R3] [h4 : Tk r4 b4 R3 x4 R] : cQ P W0 N e A (.call { callee := .value (.func f), args := xs, argTypes := ats }) Post :=
  jh z0 (aS hc hx hs)
variable {fx : Operand} {us cs : List Value}
end
def kH (_ : Nat) (x : HP) : HP := x
instance (priority := low) ent_app {R R' : List HP} : Ent (R ++ R') R := ⟨fun l hl => by
 obtain ⟨l1, l2, rfl, h1, h2⟩ := dX.append.1 hl
 exact ⟨l1, l2, h1, List.Perm.refl _⟩⟩
theorem jq {C : List HP} {f : FuncId} {args : List Value} {Post : Value → List HP → Prop} (h : ax P W0 f args (C ++ R) Post) : ax P W0 f args (kH 0 (bC C) :: R) Post := fun w hO => h w (hO.ent iS)
theorem u0 {C : List HP} [h : Ent A (C ++ R)] : Ent A (kH 0 (bC C) :: R) := h.trans gN
theorem z4 {C : List HP} {K : Act → World → Prop} (h : aG W0 N K e (C ++ R)) : aG W0 N K e (bC C :: R) := fun a w hF hO => h a w hF (hO.ent iS)
theorem u1 {L : Nat} {Post : Value → List HP → Prop} (hp : A.Perm B) (h : jn P W0 L vs B Post) : jn P W0 L vs A Post := fun w hO => h w (hO.perm hp)
theorem z5 {f : FuncId} {args : List Value} {Post : Value → List HP → Prop} (he : Ent A B) (h : ax P W0 f args B Post) : ax P W0 f args A Post := fun w hO => h w (hO.ent he)
instance F9 [h : Ent A R] : Ent A (kH 0 (bC []) :: R) := u0 (h := h)
instance Fa {K X : Type} {r : K → X → HP} {b : K} {x : X} {C : List HP} [h : Tk r b A x R1] [k : Ent R1 (kH 0 (bC C) :: R)] : Ent A (kH 0 (bC (r b x :: C)) :: R) :=
  (Ent.ofPerm h.perm).trans ((Ent.cons (k.trans iS)).trans (u0 (C := r b x :: C) (h := ent_refl)))
instance Fb [h : Ent A R] : Ent A (bC [] :: R) := h.trans (gN (A := []))
instance Fc {K X : Type} {r : K → X → HP} {b : K} {x : X} {C : List HP} [h : Tk r b A x R1] [k : Ent R1 (bC C :: R)] : Ent A (bC (r b x :: C) :: R) :=
  (Ent.ofPerm h.perm).trans ((Ent.cons (k.trans iS)).trans (gN (A := r b x :: C)))
theorem ka {o o' : Obj} {K : Act → World → Prop} [h : Tk pt b A o R] (he : o = o') (k : aG W0 N K e (pt b o' :: R)) : aG W0 N K e A := by
 subst he; exact eC (r := pt) (b := b) k
theorem z6 {E sz g n : Nat} {xs : List Value} [h : Tk pt g A (am xs E) R] (h2 : n ≤ maxLen) (h3 : xs.length = n * sz) [k : Ent R B] : Ent A (osl E sz (.slice (some ⟨g, 0, none⟩) n n) xs :: B) :=
  e7 (sp := []) (h := ⟨by rw [List.append_nil]; exact h.perm⟩) (Nat.le_refl _) h2 h3 (by rw [List.append_nil]; exact h3)
theorem z7 {C : List HP} {K : Act → World → Prop} [h : Tk kH 0 A (bC C) R] (k : aG W0 N K e (C ++ R)) : aG W0 N K e A := eC (r := kH) (b := 0) (z4 k)
theorem u2 {E n sz : Nat} {ps : Array (Nat × Operand)} (hu : P.underlying t = some (.array n E)) (hs : ∀ w, (sizeOf E).run P w = .ok sz w) (hz : ∀ w, (zeroValue t).run P w = .ok (.agg l.toArray) w) (hp : ps = #[]) :
    bO P S N e (.build t ps) (.agg l.toArray) := fun a w _ _ _ _ _ hF _ => by
 subst hp
 have hb : Instr.build t ((#[] : Array (Nat × Operand)).map fun (i, x) => (i, a.eval x)) = (do
     let zero := (← zeroValue t).cells
     match ← underlying t with
     | .struct fields =>
       let places ← fields.mapM kU
       let some cells := Instr.fill (places[·]?) zero ((#[] : Array (Nat × Operand)).map fun (i, x) => (i, a.eval x)).toList | stuck "build: no such field, or a part of the wrong size"
       pure (.agg cells)
     | .array _ elem =>
       let size ← sizeOf elem
       let some cells := Instr.fill (fun i => some (i * size, size)) zero ((#[] : Array (Nat × Operand)).map fun (i, x) => (i, a.eval x)).toList | stuck "build: a part of the wrong size"
       pure (.agg cells)
     | _ => stuck "build: struct or array type expected") := rfl
 simp only [execOp, hb, Sem.run_bind, hz, d8 hu, hs, Result.andThen_ok, Value.cells, Sem.run_pure]
 simp [Instr.fill]
def bU {α : Type} (S : World → Prop) (a : Option Addr) (sz : Nat) (f : α → List Value) (xs : List α) : Prop :=
  ∀ i x, xs[i]? = some x → ∃ b off, a = some ⟨b, off, none⟩ ∧ cB S b (off + i * sz) (f x)
variable {α : Type} {sz : Nat} {f : α → List Value} {xs : List α} {a : Option Addr}
theorem mr : bU S a sz f [] := fun i x h => by simp at h
theorem bU.weak (h : bU (bj W0 B) a sz f xs) [k : Ent A B] : bU (bj W0 A) a sz f xs := fun i x hi => by
 obtain ⟨b, off, rfl, hc⟩ := h i x hi
 exact ⟨b, off, rfl, hc.weak⟩
theorem bU.at_ (h : bU S a sz f xs) {i : Nat} (hi : i < xs.length) : ∃ b off, a = some ⟨b, off, none⟩ ∧ cB S b (off + i * sz) (f xs[i]) := h i xs[i] (by simp [hi])
theorem z8 {E n c : Nat} {ys : List Value} {w : World} [h : Tk (osl E sz) (.slice a n c) A ys R] (hf : ∀ x, (f x).length = sz) (hz : 0 < sz) (hy : ys = xs.flatMap f) (hO : Own W0 w A) : bU (bj W0 A) a sz f xs := by
 rcases (hO.tk (r := osl E sz) (b := .slice a n c)).osl with ⟨k1, k2, _⟩ | ⟨g, n', cap, sp, k1, _, _, _, _, _⟩
 have : xs = [] := by
  have hl := cV hf xs
  rw [← hy, k2] at hl
  rcases Nat.eq_zero_or_pos xs.length with q | q
  exact List.eq_nil_of_length_eq_zero q
  have := Nat.mul_pos q hz
  simp at hl; omega
 subst this; exact mr
 cases k1
 intro i x hi
 have hlt : i < xs.length := by
  rcases Nat.lt_or_ge i xs.length with k | k
  exact k
  rw [List.getElem?_eq_none k] at hi; cases hi
 have hx : x = xs[i] := by rw [List.getElem?_eq_getElem hlt] at hi; exact (Option.some.inj hi).symm
 subst hx
 refine ⟨g, 0, rfl, fun j v hj w' hO' => ?_⟩
 rcases (Own.tk (r := osl E sz) (b := .slice (some ⟨g, 0, none⟩) n c) hO').osl with ⟨q1, _, _⟩ | ⟨g', n'', cap', sp', q1, _, _, _, _, q6⟩
 cases q1
 cases q1
 have hb := q6.has.2
 have hjl : j < sz := by
  rcases Nat.lt_or_ge j (f xs[i]).length with q | q
  rw [hf] at q; exact q
  rw [List.getElem?_eq_none q] at hj; cases hj
 have hg := jk hf xs i j sp' hlt hjl
 subst hy
 rw [hj] at hg
 simp only [World.cell?, hb, Option.isSome_none, Bool.false_eq_true, if_false, List.getElem?_toArray, Nat.zero_add]
 exact hg
theorem mt {l : List Value} [h : Tk pt b A (am l ty) R] (hf : ∀ x, (f x).length = sz) (hl : l = xs.flatMap f) : bU (bj W0 A) (some ⟨b, 0, none⟩) sz f xs := fun i x hi => by
 have hlt : i < xs.length := by
  rcases Nat.lt_or_ge i xs.length with k | k
  exact k
  rw [List.getElem?_eq_none k] at hi; cases hi
 have hx : x = xs[i] := by rw [List.getElem?_eq_getElem hlt] at hi; exact (Option.some.inj hi).symm
 subst hx
 refine ⟨b, 0, rfl, fun j v hj => az (l := l) (ty := ty) (R := R) ?_⟩
 have hjl : j < sz := by
  rcases Nat.lt_or_ge j (f xs[i]).length with q | q
  rw [hf] at q; exact q
  rw [List.getElem?_eq_none q] at hj; cases hj
 have hg := jk hf xs i j [] hlt hjl
 rw [List.append_nil, hj] at hg
 subst hl
 rw [Nat.zero_add]; exact hg
theorem kb {E n c : Nat} {ys : List Value} {K : Act → World → Prop} [h : Tk (osl E sz) (.slice a n c) A ys R] (f : α → List Value) (xs : List α) (hf : ∀ x, (f x).length = sz) (hz : 0 < sz) (hy : ys = xs.flatMap f) (k : bU (bj W0 A) a sz f xs → aG W0 N K e A) : aG W0 N K e A :=
  fun a w hF hO => k (z8 (h := h) hf hz hy hO) a w hF hO
def qJ : Option Addr → Nat
 | some ad => ad.block
 | none => 0
def oe (a : Option Addr) (ys : List Value) : Prop := (a = none ∧ ys = []) ∨ ∃ g, a = some ⟨g, 0, none⟩
theorem z9 {E n c : Nat} {ys : List Value} {K : Act → World → Prop} [h : Tk (osl E sz) (.slice a n c) A ys R] (k : oe a ys → aG W0 N K e A) : aG W0 N K e A := fun act w hF hO => by
 refine k ?_ act w hF hO
 rcases (hO.tk (r := osl E sz) (b := .slice a n c)).osl with ⟨k1, k2, _⟩ | ⟨g, n', cap, sp, k1, _, _, _, _, _⟩
 cases k1; exact .inl ⟨rfl, k2⟩
 cases k1; exact .inr ⟨g, rfl⟩
theorem za {E n c : Nat} {ys : List Value} [h : Tk (osl E sz) (.slice a n c) A ys R] : cB (bj W0 A) (qJ a) 0 ys := fun i v hi w hO => by
 rcases (Own.tk (r := osl E sz) (b := .slice a n c) hO).osl with ⟨k1, k2, _⟩ | ⟨g, n', cap, sp, k1, _, _, _, _, q⟩
 rw [k2] at hi; simp at hi
 cases k1
 have hb := q.has.2
 have hlt : i < ys.length := by
  rcases Nat.lt_or_ge i ys.length with k | k
  exact k
  rw [List.getElem?_eq_none k] at hi; cases hi
 simp only [qJ, World.cell?, hb, Option.isSome_none, Bool.false_eq_true, if_false, List.getElem?_toArray, Nat.zero_add]
 rw [List.getElem?_append_left hlt]; exact hi
theorem zb {ys : List Value} (hf : oe a ys) (hc : cB S (qJ a) 0 ys) (hl : ∀ x, (f x).length = sz) (hy : ys = xs.flatMap f) (hz : 0 < sz) : bU S a sz f xs := fun i x hi => by
 have hlt : i < xs.length := by
  rcases Nat.lt_or_ge i xs.length with k | k
  exact k
  rw [List.getElem?_eq_none k] at hi; cases hi
 have hx : x = xs[i] := by rw [List.getElem?_eq_getElem hlt] at hi; exact (Option.some.inj hi).symm
 subst hx
 rcases hf with ⟨_, h0⟩ | ⟨g, rfl⟩
 have := cV hl xs
 rw [← hy, h0] at this
 have h2 := Nat.mul_pos (show 0 < xs.length by omega) hz
 simp at this; omega
 refine ⟨g, 0, rfl, fun j v hj => ?_⟩
 have hjl : j < sz := by
  rcases Nat.lt_or_ge j (f xs[i]).length with q | q
  rw [hl] at q; exact q
  rw [List.getElem?_eq_none q] at hj; cases hj
 have hg := jk hl xs i j [] hlt hjl
 rw [List.append_nil, hj, ← hy] at hg
 have := hc _ v hg
 rw [Nat.zero_add] at this ⊢
 exact this
theorem bU.all (h : bU S a sz f xs) (hne : xs ≠ []) (hf : ∀ x, (f x).length = sz) : ∃ b off, a = some ⟨b, off, none⟩ ∧ cB S b off (xs.flatMap f) := by
 obtain ⟨b, off, rfl, h0⟩ := h.at_ (i := 0) (List.length_pos_iff.2 hne)
 refine ⟨b, off, rfl, fun j v hj => ?_⟩
 have hl := cV hf xs
 have hjl : j < xs.length * sz := by
  rcases Nat.lt_or_ge j (xs.flatMap f).length with q | q
  omega
  rw [List.getElem?_eq_none q] at hj; cases hj
 have hz : 0 < sz := by
  rcases Nat.eq_zero_or_pos sz with q | q
  subst q; simp at hjl
  exact q
 have hi : j / sz < xs.length := (Nat.div_lt_iff_lt_mul hz).2 hjl
 obtain ⟨b', off', he, hc⟩ := h.at_ hi
 cases he
 have hm : j / sz * sz + j % sz = j := by rw [Nat.mul_comm]; exact Nat.div_add_mod j sz
 have hg := jk hf xs (j / sz) (j % sz) [] hi (Nat.mod_lt _ hz)
 rw [List.append_nil, hm, hj] at hg
 have := hc (j % sz) v hg.symm
 rwa [Nat.add_assoc, hm] at this
end
def iX (x : Int) : List Value := [.int .i64 x]
def jr (T E : TypeId) (sz : Nat) {α : Type} (f : α → List Value) (o b : Nat) (x : List α × List Value) : HP := chk (fun C => o < x.2.length ∧ ∃ a c, C = [pt b (am (x.2.set o (.slice a x.1.length c)) T), osl E sz (.slice a x.1.length c) (x.1.flatMap f)])
theorem gU {l : List Value} {o : Nat} {v : Value} (h : o < l.length) : (l.set o v)[o]? = some v := by simp [h]
theorem set_set {l : List Value} {o : Nat} {v u : Value} : (l.set o v).set o u = l.set o u := List.set_set ..
section
variable {P : Program} {W0 : World} {N : FSz} {K : Act → World → Prop} {e : bq} {R A B R1 R2 : List HP} {T E : TypeId} {sz o b n : Nat} {α : Type} {f : α → List Value} {its : List α} {cs cs' : List Value} {fn : FuncId} {args : List Value} {Post : Value → List HP → Prop}
theorem qK (h : ∀ a c, o < cs.length → ax P W0 fn args (pt b (am (cs.set o (.slice a its.length c)) T) :: osl E sz (.slice a its.length c) (its.flatMap f) :: R) Post) : ax P W0 fn args (jr T E sz f o b (its, cs) :: R) Post :=
  nT fun C hC => by obtain ⟨ho, a, c, rfl⟩ := hC; exact h a c ho
theorem qL {a : Option Addr} {c : Nat} {xs : List Value} [h1 : Tk pt b A (am cs' T) R1] [h2 : Tk (osl E sz) (.slice a n c) R1 xs R2] (hx : xs = its.flatMap f) (hc : cs' = cs.set o (.slice a n c)) (ho : o < cs.length) (hn : n = its.length) [k : Ent R2 B] : Ent A (jr T E sz f o b (its, cs) :: B) := by
 subst hn; subst hc; subst hx
 exact (Ent.ofPerm (h1.perm.trans (h2.perm.cons _))).trans ((Ent.cons (Ent.cons k)).trans (eX (R := B) (C := [_, _]) ⟨ho, a, c, rfl⟩))
theorem qM (hf : ∀ x, (f x).length = sz) (h0 : its ≠ []) (hz : 0 < sz) (h : ∀ g c sp, o < cs.length → its.length ≤ c → c ≤ maxLen → (its.flatMap f ++ sp).length = c * sz → ax P W0 fn args (pt b (am (cs.set o (.slice (some ⟨g, 0, none⟩) its.length c)) T) :: pt g (am (its.flatMap f ++ sp) E) :: R) Post) : ax P W0 fn args (jr T E sz f o b (its, cs) :: R) Post :=
  qK fun a c ho => k7 (List.Perm.swap _ _ _) (nS (fun h1 h2 => by
      have := cV hf its
      rw [h2] at this
      have h3 : its.length = 0 := by
        rcases Nat.mul_eq_zero.1 this.symm with k | k
        · exact k
        omega
      exact absurd (List.eq_nil_of_length_eq_zero h3) h0)
    (fun g n cap sp h1 h2 h3 h4 h5 => by
      cases h1
      exact k7 (List.Perm.swap _ _ _) (h g _ sp ho h2 h3 h5)))
theorem oi {g c : Nat} {xs sp : List Value} [h1 : Tk pt b A (am cs' T) R1] [h2 : Tk pt g R1 (am (xs ++ sp) E) R2] (hf : ∀ x, (f x).length = sz) (hx : xs = its.flatMap f) (hcs : cs' = cs.set o (.slice (some ⟨g, 0, none⟩) n c)) (ho : o < cs.length) (hn : n = its.length) (hc : n ≤ c) (hm : c ≤ maxLen) (hl : (xs ++ sp).length = c * sz) [k : Ent R2 B] : Ent A (jr T E sz f o b (its, cs) :: B) := by
 subst hn; subst hx; subst hcs
 have e : Ent R1 (osl E sz (.slice (some ⟨g, 0, none⟩) its.length c) (its.flatMap f) :: B) := e7 hc hm (cV hf its) hl
 exact (Ent.ofPerm h1.perm).trans ((Ent.cons e).trans (eX (R := B) (C := [_, _]) ⟨ho, _, c, rfl⟩))
theorem u3 [hk : Tk (jr T E sz f o) b A (its, cs) R] {i : Nat} {v : Value} (hi : i ≠ o) (h : cs[i]? = some v) : fb (bj W0 A) b i v := fun w (hO : Own W0 w A) => by
 obtain ⟨C, ⟨ho, a, c, rfl⟩, hO'⟩ := (hO.tk (r := jr T E sz f o) (b := b)).chk
 have h1 : Own W0 w (pt b (am (cs.set o (.slice a its.length c)) T) :: (osl E sz (.slice a its.length c) (its.flatMap f) :: R)) := hO'
 have h2 : fb (bj W0 (pt b (am (cs.set o (.slice a its.length c)) T) :: (osl E sz (.slice a its.length c) (its.flatMap f) :: R))) b i v := az (by rw [List.getElem?_set_ne (by omega)]; exact h)
 exact h2 w h1
theorem u4 [hk : Tk (jr T E sz f o) b A (its, cs) R] {i : Nat} {v : Value} (hi : i ≠ o) (h : cs[i]? = some v) : cB (bj W0 A) b i [v] := fun j u hj => by
 match j, hj with
 | 0, hj => rw [← Option.some.inj hj]; exact u3 (o := o) (f := f) (T := T) (E := E) (sz := sz) hi h
 | j + 1, hj => cases hj
end
theorem zc {α : Type} (f : α → Value) (l : List α) : (l.flatMap fun x => [f x]) = l.map f := by
 induction l with
 | nil => rfl
 | cons x l ih => rw [List.flatMap_cons, ih]; rfl
theorem zd {α : Type} {f : α → List Value} {k : Nat} (hf : ∀ x, (f x).length = k) (its : List α) (sp : List Value) (i : Nat) (hi : i < its.length) : i * k + k ≤ (its.flatMap f ++ sp).length := by
 have := Nat.mul_le_mul_right k (show i + 1 ≤ its.length by omega)
 rw [Nat.succ_mul] at this
 rw [List.length_append, cV hf]; omega
structure HpO (W0 : World) (α : Type) [Hk α] where
  T : TypeId
  p : Value
  el : α → Value
  H : List α → HP
  fL : FuncId
  fE : FuncId
  fS : FuncId
  fU : FuncId
  fO : FuncId
  mL : ∀ w, (method (Tryz.prog.types.size + Made.depth) T p "Len").run Tryz.prog w = .ok (fL, p) w
  mE : ∀ w, (method (Tryz.prog.types.size + Made.depth) T p "Less").run Tryz.prog w = .ok (fE, p) w
  mS : ∀ w, (method (Tryz.prog.types.size + Made.depth) T p "Swap").run Tryz.prog w = .ok (fS, p) w
  mU : ∀ w, (method (Tryz.prog.types.size + Made.depth) T p "Push").run Tryz.prog w = .ok (fU, p) w
  mO : ∀ w, (method (Tryz.prog.types.size + Made.depth) T p "Pop").run Tryz.prog w = .ok (fO, p) w
  cL : ∀ args w, (callFunc fL args).run Tryz.prog w = .ok (.enter fL args) w
  cE : ∀ args w, (callFunc fE args).run Tryz.prog w = .ok (.enter fE args) w
  cS : ∀ args w, (callFunc fS args).run Tryz.prog w = .ok (.enter fS args) w
  cU : ∀ args w, (callFunc fU args).run Tryz.prog w = .ok (.enter fU args) w
  cO : ∀ args w, (callFunc fO args).run Tryz.prog w = .ok (.enter fO args) w
  sL : ∀ R l, ax Tryz.prog W0 fL [p] (kH 0 (H l) :: R) (fun v B => v = .int .i64 (l.length : Nat) ∧ B = kH 0 (H l) :: R)
  sE : ∀ R l (i j : Nat), i < l.length → j < l.length → ax Tryz.prog W0 fE [p, .int .i64 i, .int .i64 j] (kH 0 (H l) :: R) (fun v B => v = .bool (decide (Hp.us l i < Hp.us l j)) ∧ B = kH 0 (H l) :: R)
  sS : ∀ R l (i j : Nat), i < l.length → j < l.length → ax Tryz.prog W0 fS [p, .int .i64 i, .int .i64 j] (kH 0 (H l) :: R) (fun v B => v = .tuple #[] ∧ B = kH 0 (H (Hp.swapL l i j)) :: R)
  sU : ∀ R l x, l.length < 1000 → ax Tryz.prog W0 fU [p, el x] (kH 0 (H l) :: R) (fun v B => v = .tuple #[] ∧ B = kH 0 (H (l ++ [x])) :: R)
  sO : ∀ R l x, ax Tryz.prog W0 fO [p] (kH 0 (H (l ++ [x])) :: R) (fun v B => v = el x ∧ B = kH 0 (H l) :: R)
namespace Hp
variable {W0 : World} {α : Type} [Hk α] (o : HpO W0 α)
def iv : Value := .iface o.T o.p
theorem qP {j : Nat} (h : j < 1000) : IntKind.wrap .i64 (Int.tdiv ((j : Int) - 1) 2) = (((j - 1) / 2 : Nat) : Int) := by
 by_cases h0 : j = 0
 subst h0; decide
 obtain ⟨k, rfl⟩ : ∃ k, j = k + 1 := ⟨j - 1, by omega⟩
 have e : ((k + 1 : Nat) : Int) - 1 = (k : Int) := by omega
 rw [e, Int.tdiv_eq_ediv_of_nonneg (by omega), aT (by omega)]; simp
theorem oj (R : List HP) (its : List α) (j n : Nat) (hn : n ≤ its.length) (hN : n < 1000) (hj : j < n) (hU : Up its j n) :
    ax Tryz.prog W0 293 [iv o, .int .i64 j] (kH 0 (o.H its) :: R) (fun v B => v = .tuple #[] ∧ ∃ its', B = kH 0 (o.H its') :: R ∧ its'.Perm its ∧ Heap its' n ∧ ∀ x, n ≤ x → its'.getD x default = its.getD x default) := by
 refine aB func293 ntmps293 rfl rfl ?_
 refine aP ?_
 refine bX (fun X : List α × Nat => X.1.Perm its ∧ X.2 < n ∧ Up X.1 X.2 n ∧ ∀ x, n ≤ x → X.1.getD x default = its.getD x default) (fun X => [(0, iv o), (1, .int .i64 X.2)]) (fun X => kH 0 (o.H X.1) :: R) (fun X => X.2) (its, j) ?_ ?_ ?_ ?_
 exact ⟨List.Perm.refl _, hj, hU, fun _ _ => rfl⟩
 · repeat (first | exact aQ | refine aO rfl ?_)
 exact inferInstance
 intro ⟨l, j⟩ ⟨hp, hj, hU, ht⟩
 have hlen := hp.length_eq
 simp only at hj hU ht hp hlen ⊢
 refine aP (aa (ae (a7 rfl (ab rfl) ?_)))
 refine a7 rfl (d7 rfl rfl (by first | exact aT (by omega) | rfl)) ?_
 refine a7 rfl (m4 rfl rfl (by decide) (qP (by omega))) ?_
 refine a7 rfl (ag rfl) (ac (a8 (aa (aa (ae (a7 rfl (ab rfl) (a7 rfl (ab rfl) (a7 rfl (cu rfl rfl) (a7 rfl (ab rfl) ?_)))))))))
 refine bJ rfl rfl rfl ?_ ?_
 intro g1_4
 refine aD rfl rfl rfl rfl (aD rfl rfl rfl rfl (aD rfl rfl rfl rfl (aD rfl rfl rfl rfl (a7 rfl (bI rfl rfl) (ac (a8 (cI rfl (bF (aR (dY rfl (aR (bH (ak (.inr rfl) .nil ?_)))))))))))))
 exact ⟨_, ⟨rfl, l, rfl, hp, ml hU (by intro _; first | omega | (simp at c1; omega)), ht⟩, inferInstance⟩
 intro g1_4
 refine a7 rfl (ab rfl) (av rfl rfl (a7 rfl (ab rfl) (av rfl rfl (a7 rfl (ab rfl) (av rfl rfl ?_)))))
 refine ah rfl (dL rfl o.mE o.cE rfl (o.sE _ l j ((j - 1) / 2) (by omega) (by omega))) ?_
 rintro _ B_ ⟨rfl, hB_⟩
 obtain rfl := hB_.symm
 refine av rfl rfl (a7 rfl (bM rfl) (a7 rfl (aX rfl rfl) (ac (a8 ?_))))
 refine au rfl ?_ ?_
 intro c1
 refine bF (aR (dY rfl (aR (bH (ak (.inr rfl) .nil ?_)))))
 exact ⟨_, ⟨rfl, l, rfl, hp, ml hU (by intro _; first | omega | (simp at c1; omega)), ht⟩, inferInstance⟩
 intro c1
 replace c1 : us l j < us l ((j - 1) / 2) := by simpa using c1
 refine aA (a8 (aa (ae (a7 rfl (ab rfl) (a7 rfl (ab rfl) (a7 rfl (ab rfl) ?_))))))
 refine ah rfl (dL rfl o.mS o.cS rfl (o.sS _ l ((j - 1) / 2) j (by omega) (by omega))) ?_
 rintro _ B_ ⟨rfl, hB_⟩
 obtain rfl := hB_.symm
 refine ac (a8 (ae (a7 rfl (ab rfl) (a7 rfl (ag rfl) (ac (bw (a8 ?_)))))))
 refine cg (swapL l ((j - 1) / 2) j, (j - 1) / 2) ?_ ?_ ?_ ?_
 exact ⟨(fz (by omega) (by omega)).trans hp, by show (j - 1) / 2 < n; omega, qD hU (by omega) hj (by omega) c1, mo (by omega) hj (by omega) ht⟩
 show (j - 1) / 2 < j; omega
 · repeat (first | exact aQ | refine aO rfl ?_)
 exact inferInstance
theorem ol (R : List HP) (its : List α) (i0 n : Nat) (hn : n ≤ its.length) (hN : n < 1000) (hi : i0 ≤ n) (hH : eL its i0 n) :
    ax Tryz.prog W0 361 [iv o, .int .i64 i0, .int .i64 n] (kH 0 (o.H its) :: R) (fun v B => ∃ l m, v = .bool m ∧ B = kH 0 (o.H l) :: R ∧ Down its l i0 n m) := by
 refine aB func361 ntmps361 rfl rfl ?_
 refine aa (ae (a7 rfl (ag rfl) (ac (a8 (aa (ae (a7 rfl (ab rfl) (a7 rfl (ag rfl) (ac (a8 (aa (aP ?_))))))))))))
 refine bX (fun X : List α × Nat => X.1.Perm its ∧ i0 ≤ X.2 ∧ eL X.1 X.2 n ∧ (∀ x, n ≤ x → X.1.getD x default = its.getD x default) ∧ (X.2 = i0 → X.1 = its) ∧ (i0 < X.2 → us X.1 ((X.2 - 1) / 2) ≤ us X.1 X.2) ∧ X.2 ≤ n) (fun X => [(0, iv o), (1, .int .i64 i0), (2, .int .i64 n), (7, .int .i64 X.2)]) (fun X => kH 0 (o.H X.1) :: R) (fun X => n - X.2) (its, i0) ?_ ?_ ?_ ?_
 exact ⟨List.Perm.refl _, Nat.le_refl _, hH, fun _ _ => rfl, fun _ => rfl, fun h => absurd h (Nat.lt_irrefl _), hi⟩
 · repeat (first | exact aQ | refine aO rfl ?_)
 exact inferInstance
 intro ⟨l, i⟩ ⟨hp, hi0, hl, ht, he, hg, hin⟩
 have hlen := hp.length_eq
 simp only at hp hi0 hl ht he hg hin hlen ⊢
 refine aP (aa (ae (a7 rfl (ab rfl) ?_)))
 refine a7 rfl (iy rfl rfl (by first | exact aT (by omega) | rfl)) ?_
 refine a7 rfl (bz rfl rfl (by rw [aT (by omega)]; omega : IntKind.wrap .i64 (2 * (i : Int) + 1) = ((2 * i + 1 : Nat) : Int))) ?_
 refine a7 rfl (ag rfl) (ac (a8 (aa (aa (ae (a7 rfl (ab rfl) (a7 rfl (ab rfl) (a7 rfl (dr rfl rfl) (a7 rfl (ab rfl) ?_)))))))))
 refine bJ rfl rfl rfl ?_ ?_
 intro g3_4
 refine aD rfl rfl rfl rfl (a7 rfl (bI rfl rfl) (ac (a8 (cI rfl (bF (aR (dY rfl (aR (bH (a8 (aa (ae (a7 rfl (ab rfl) (a7 rfl (ab rfl) (a7 rfl (cA rfl rfl) (a7 rfl (ag rfl) (ac (a8 (ao (ak (.inl rfl) (.cons (aj rfl) .nil) ?_))))))))))))))))))))
 refine ⟨_, ⟨l, decide (i0 < i), by simp [ct], rfl, mn hp hi0 hl ht he hg ?_⟩, inferInstance⟩
 first | (intro c hc h0 h1; exfalso; omega) | (intro c hc h0 h1; have := hmin c hc h0 h1; simp at c8; omega)
 intro g3_4
 refine a7 rfl (ab rfl) (av rfl rfl (a7 rfl (aV rfl rfl) (a7 rfl (aX rfl rfl) (ac (a8 ?_)))))
 refine au rfl ?_ ?_
 intro c3
 omega
 intro c3
 refine aA (a8 (aa (ae (a7 rfl (ab rfl) (a7 rfl (ag rfl) (ac (a8 ?_)))))))
 refine gQ (fun j : Nat => (j - 1) / 2 = i ∧ 0 < j ∧ j < n ∧ ∀ c, c < n → 0 < c → (c - 1) / 2 = i → us l j ≤ us l c) (fun j => [(0, iv o), (1, .int .i64 i0), (2, .int .i64 n), (7, .int .i64 i), (9, .int .i64 j)]) (fun j => kH 0 (o.H l) :: R) ?_ ?_
 skip
 refine aa (ae (a7 rfl (ab rfl) ?_))
 refine a7 rfl (bz rfl rfl (by rw [aT (by omega)]; omega : IntKind.wrap .i64 (((2 * i + 1 : Nat) : Int) + 1) = ((2 * i + 2 : Nat) : Int))) ?_
 refine a7 rfl (ag rfl) (ac (a8 (aa (ae (a7 rfl (ab rfl) (a7 rfl (ab rfl) (a7 rfl (aV rfl rfl) (a7 rfl (ab rfl) ?_))))))))
 refine dh rfl rfl rfl ?_ ?_
 intro g6_4
 refine a7 rfl (ab rfl) (av rfl rfl (a7 rfl (ab rfl) (av rfl rfl (a7 rfl (ab rfl) (av rfl rfl ?_)))))
 refine ah rfl (dL rfl o.mE o.cE rfl (o.sE _ l (2 * i + 2) (2 * i + 1) (by omega) (by omega))) ?_
 rintro _ B_ ⟨rfl, hB_⟩
 obtain rfl := hB_.symm
 refine a7 rfl (bI rfl rfl) (ac (a8 ?_))
 refine au rfl ?_ ?_
 intro c6
 refine ae (a7 rfl (ab rfl) (a7 rfl (ag rfl) (ac (a8 ?_))))
 refine dG (2 * i + 2) ?_ ?_ ?_
 refine ⟨by omega, by omega, by omega, fun c hc h0 h1 => ?_⟩
 have : c = 2 * i + 1 ∨ c = 2 * i + 2 := by omega
 rcases this with rfl | rfl <;> (first | omega | (simp at c6; omega) | (simp at c3; omega))
 · repeat (first | exact aQ | refine aO rfl ?_)
 exact inferInstance
 intro c6
 refine aA (a8 ?_)
 refine dG (2 * i + 1) ?_ ?_ ?_
 refine ⟨by omega, by omega, by omega, fun c hc h0 h1 => ?_⟩
 have : c = 2 * i + 1 ∨ c = 2 * i + 2 := by omega
 rcases this with rfl | rfl <;> (first | omega | (simp at c6; omega) | (simp at c3; omega))
 · repeat (first | exact aQ | refine aO rfl ?_)
 exact inferInstance
 intro g6_4
 refine aD rfl rfl rfl rfl (aD rfl rfl rfl rfl (aD rfl rfl rfl rfl (a7 rfl (aX rfl rfl) (ac (a8 (iA rfl (aA (a8 ?_))))))))
 refine dG (2 * i + 1) ?_ ?_ ?_
 refine ⟨by omega, by omega, by omega, fun c hc h0 h1 => ?_⟩
 have : c = 2 * i + 1 ∨ c = 2 * i + 2 := by omega
 rcases this with rfl | rfl <;> (first | omega | (simp at c6; omega) | (simp at c3; omega))
 · repeat (first | exact aQ | refine aO rfl ?_)
 exact inferInstance
 intro j ⟨hj, hj0, hjn, hmin⟩
 refine aa (aa (ae (a7 rfl (ab rfl) (a7 rfl (ab rfl) (a7 rfl (ab rfl) ?_)))))
 refine ah rfl (dL rfl o.mE o.cE rfl (o.sE _ l j i (by omega) (by omega))) ?_
 rintro _ B_ ⟨rfl, hB_⟩
 obtain rfl := hB_.symm
 refine a7 rfl (bM rfl) (ac (a8 ?_))
 refine au rfl ?_ ?_
 intro c8
 refine bF (aR (dY rfl (aR (bH (a8 (aa (ae (a7 rfl (ab rfl) (a7 rfl (ab rfl) (a7 rfl (cA rfl rfl) (a7 rfl (ag rfl) (ac (a8 (ao (ak (.inl rfl) (.cons (aj rfl) .nil) ?_)))))))))))))))
 refine ⟨_, ⟨l, decide (i0 < i), by simp [ct], rfl, mn hp hi0 hl ht he hg ?_⟩, inferInstance⟩
 first | (intro c hc h0 h1; exfalso; omega) | (intro c hc h0 h1; have := hmin c hc h0 h1; simp at c8; omega)
 intro c8
 replace c8 : us l j < us l i := by simpa using c8
 refine aA (a8 (aa (ae (a7 rfl (ab rfl) (a7 rfl (ab rfl) (a7 rfl (ab rfl) ?_))))))
 refine ah rfl (dL rfl o.mS o.cS rfl (o.sS _ l i j (by omega) (by omega))) ?_
 rintro _ B_ ⟨rfl, hB_⟩
 obtain rfl := hB_.symm
 refine ac (a8 (ae (a7 rfl (ab rfl) (a7 rfl (ag rfl) (ac (bw (a8 ?_)))))))
 refine cg (swapL l i j, j) ?_ ?_ ?_ ?_
 have hs := qC hl (by omega) hjn hj hj0 c8 hmin
 exact ⟨(fz (by omega) (by omega)).trans hp, by show i0 ≤ j; omega, hs.1, mo (by omega) hjn (by omega) ht, by show j = i0 → _; omega, fun _ => hs.2, by show j ≤ n; omega⟩
 show n - j < n - i; omega
 · repeat (first | exact aQ | refine aO rfl ?_)
 exact inferInstance
theorem qQ {its : List α} {x : α} (h : Heap its its.length) : Up (its ++ [x]) its.length (its.length + 1) := by
 have e : ∀ c, c < its.length → us (its ++ [x]) c = us its c := fun c hc => by
  unfold us; simp only [List.getD_eq_getElem?_getD]; rw [List.getElem?_append_left hc]
 intro c hc h0
 refine ⟨fun h1 => ?_, fun h1 h2 => by omega⟩
 rw [e c (by omega), e _ (by omega)]; exact h c (by omega) h0
theorem heapPush_spec (R : List HP) (its : List α) (x : α) (hN : its.length < 900) (hh : Heap its its.length) :
    ax Tryz.prog W0 176 [iv o, o.el x] (kH 0 (o.H its) :: R) (fun v B => v = .tuple #[] ∧ ∃ its', B = kH 0 (o.H its') :: R ∧ its'.Perm (its ++ [x]) ∧ Heap its' its'.length) := by
 have hl : (its ++ [x]).length = its.length + 1 := by simp
 refine aB func176 ntmps176 rfl rfl ?_
 refine aa (ae (a7 rfl (ab rfl) (a7 rfl (ab rfl) ?_)))
 refine ah rfl (dL rfl o.mU o.cU rfl (o.sU _ its x (by omega))) ?_
 rintro _ B_ ⟨rfl, hB_⟩
 obtain rfl := hB_.symm
 refine ac (a8 (ae (a7 rfl (ab rfl) (a7 rfl (ab rfl) (ah rfl (dL rfl o.mL o.cL rfl (o.sL _ (its ++ [x]))) ?_)))))
 rintro _ B_ ⟨rfl, hB_⟩
 obtain rfl := hB_.symm
 refine a7 rfl (d7 rfl rfl (by rw [aT (by omega)]; omega : IntKind.wrap .i64 (((its ++ [x]).length : Nat) - 1 : Int) = ((its.length : Nat) : Int))) ?_
 refine ah rfl (aF wU rfl (oj o _ (its ++ [x]) its.length (its.length + 1) (by omega) (by omega) (by omega) (qQ hh))) ?_
 rintro _ _ ⟨rfl, l', rfl, hp, hh', _⟩
 refine ac (ak (.inr rfl) .nil ?_)
 exact ⟨_, ⟨rfl, l', rfl, hp, by rw [hp.length_eq, hl]; exact hh'⟩, inferInstance⟩
theorem om {l : List α} {n : Nat} (h : l.length = n + 1) : ∃ l' x, l = l' ++ [x] ∧ l'.length = n ∧ x = l.getD n default := by
 have hne : l ≠ [] := fun e => by rw [e] at h; simp at h
 refine ⟨l.dropLast, l.getLast hne, (List.dropLast_concat_getLast hne).symm, by simp [h], ?_⟩
 rw [List.getLast_eq_getElem]
 simp [List.getD, h]
theorem oo {l : List α} {x : α} {n : Nat} (h : Heap (l ++ [x]) n) (hn : n ≤ l.length) : Heap l n :=
  qF (fun i hi => by simp only [List.getD_eq_getElem?_getD]; rw [List.getElem?_append_left (by omega)]) h
theorem heapPop_spec (R : List HP) (its : List α) (hN : its.length < 900) (h0 : its ≠ []) (hh : Heap its its.length) :
    ax Tryz.prog W0 300 [iv o] (kH 0 (o.H its) :: R) (fun v B => ∃ x its', v = o.el x ∧ B = kH 0 (o.H its') :: R ∧ (its' ++ [x]).Perm its ∧ Heap its' its'.length ∧ ∀ y ∈ its, Hk.ky x ≤ Hk.ky y) := by
 obtain ⟨n, hn⟩ : ∃ n, its.length = n + 1 := ⟨its.length - 1, by have := List.length_pos_iff.2 h0; omega⟩
 have hs : eL (swapL its 0 n) 0 n := fun c hc h0 => ⟨fun h1 h2 => by
  rw [fR (by omega) (by omega), fR (by omega) (by omega), if_neg h2, if_neg h1, if_neg (by omega), if_neg (by omega)]
  exact hh c (by omega) h0, fun _ h => by omega⟩
 have hsl := oc its 0 n
 refine aB func300 ntmps300 rfl rfl ?_
 refine aa (ae (a7 rfl (ag rfl) (ac (a8 (aa (ae (a7 rfl (ab rfl) (ah rfl (dL rfl o.mL o.cL rfl (o.sL _ its)) ?_))))))))
 rintro _ B_ ⟨rfl, hB_⟩
 obtain rfl := hB_.symm
 refine a7 rfl (d7 rfl rfl (by rw [aT (by omega)]; omega : IntKind.wrap .i64 ((its.length : Nat) - 1 : Int) = ((n : Nat) : Int))) ?_
 refine a7 rfl (ag rfl) (ac (a8 (aa (ae (a7 rfl (ab rfl) (a7 rfl (ab rfl) ?_))))))
 refine ah rfl (dL rfl o.mS o.cS rfl (o.sS _ its 0 n (by omega) (by omega))) ?_
 rintro _ B_ ⟨rfl, hB_⟩
 obtain rfl := hB_.symm
 refine ac (a8 (aa (ae (a7 rfl (ab rfl) (a7 rfl (ab rfl) ?_)))))
 refine ah rfl (aF wW rfl (ol o _ (swapL its 0 n) 0 n (by omega) (by omega) (by omega) hs)) ?_
 rintro _ _ ⟨l, m, rfl, rfl, hD⟩
 have hll := hD.perm.length_eq
 obtain ⟨l', x, rfl, hl', hx⟩ := om (l := l) (n := n) (by omega)
 have hx0 : x = its.getD 0 default := by
  rw [hx, hD.tail n (Nat.le_refl _), jp (by omega) (by omega)]; split
  rename_i e; subst e; rfl
  rw [if_pos rfl]
 have hp : (l' ++ [x]).Perm its := hD.perm.trans (fz (by omega) (by omega))
 have hH : Heap (l' ++ [x]) n := by
  cases m with
  | true => exact hD.yes rfl
  | false =>
   obtain ⟨e, hmin⟩ := hD.no rfl
   rw [e]; exact mj hs hmin (fun h => absurd h (by omega))
 refine ac (a8 (aa (ae (a7 rfl (ab rfl) (ah rfl (dL rfl o.mO o.cO rfl (o.sO _ l' x)) ?_)))))
 rintro _ B_ ⟨rfl, hB_⟩
 obtain rfl := hB_.symm
 refine a7 rfl (ag rfl) (ac (a8 (ao (ak (.inl rfl) (.cons (aj rfl) .nil) ?_))))
 refine ⟨_, ⟨x, l', rfl, rfl, hp, by rw [hl']; exact oo hH (by omega), fun y hy => ?_⟩, inferInstance⟩
 obtain ⟨c, hc, rfl⟩ := List.mem_iff_getElem.1 hy
 have := qE hh c hc
 rw [mi hc] at this
 rw [hx0]; exact this
end Hp
theorem oq {a : Nat} (h : a < 9223372036854775808) : (BitVec.ofInt 64 (a : Int)).toNat = a := by
 rw [BitVec.toNat_ofInt]; omega
theorem ze {a b : Nat} (ha : a < 9223372036854775808) (hb : b < 9223372036854775808) : m5 .i64 a b = ((a &&& b : Nat) : Int) := by
 have h : a &&& b < 9223372036854775808 := Nat.lt_of_le_of_lt Nat.and_le_left ha
 show IntKind.wrap .i64 ((BitVec.ofInt 64 (a : Int) &&& BitVec.ofInt 64 (b : Int)).toNat : Int) = _
 rw [BitVec.toNat_and, oq ha, oq hb, aT (by omega)]
theorem zf {a b : Nat} (ha : a < 9223372036854775808) (hb : b < 9223372036854775808) : qc .i64 a b = ((a - (a &&& b) : Nat) : Int) := by
 have hle : a &&& b ≤ a := Nat.and_le_left
 generalize hx : BitVec.ofInt 64 (a : Int) = x
 generalize hy : BitVec.ofInt 64 (b : Int) = y
 have ex : x.toNat = a := by rw [← hx]; exact oq ha
 have ey : y.toNat = b := by rw [← hy]; exact oq hb
 have e : (x &&& ~~~ y).toNat = a - (a &&& b) := by
  have hz : (x &&& ~~~ y) &&& (x &&& y) = 0#64 := by
   ext i hi
   simp only [BitVec.getElem_and, BitVec.getElem_not, BitVec.getElem_zero]
   cases x[i] <;> cases y[i] <;> rfl
  have h1 : (x &&& ~~~ y) + (x &&& y) = x := by
   rw [BitVec.add_eq_or_of_and_eq_zero _ _ hz]
   ext i hi
   simp only [BitVec.getElem_or, BitVec.getElem_and, BitVec.getElem_not]
   cases x[i] <;> cases y[i] <;> rfl
  have h2 := congrArg BitVec.toNat h1
  rw [BitVec.toNat_add_of_and_eq_zero hz, BitVec.toNat_and x y, ex, ey] at h2
  omega
 show IntKind.wrap .i64 ((BitVec.ofInt 64 (a : Int) &&& ~~~ BitVec.ofInt 64 (b : Int)).toNat : Int) = _
 rw [hx, hy, e, aT (by omega)]
def e5 (l : Int) : Bool := decide (0 ≤ l ∧ l < 256)
theorem lh {l : Int} : e5 l = true ↔ 0 ≤ l ∧ l < 256 := by simp [e5]
def js (a b : Int) : Bool := e5 a && e5 b && decide (a.toNat - (a.toNat &&& b.toNat) = 0)
theorem u5 {a b : Int} (h : ¬ (e5 a = true ∧ e5 b = true)) : js a b = false := by
 rw [← Bool.not_eq_true]; intro q
 simp only [js, Bool.and_eq_true] at q
 exact h q.1
theorem or (W0 : World) (R : List HP) (l : Int) : ax Tryz.prog W0 264 [.int .i64 l] R (fun v B => v = .bool (e5 l) ∧ B = R) := by
 refine aB func264 ntmps264 rfl rfl ?_
 refine aa (ae (a7 rfl (ag rfl) (ac (a8 (aa (ae (a7 rfl (ab rfl) (a7 rfl (dr rfl rfl) (a7 rfl (ab rfl) ?_)))))))))
 refine dh rfl rfl rfl ?_ ?_
 intro g1_3
 refine a7 rfl (ab rfl) (av rfl rfl (a7 rfl (iU rfl rfl) (a7 rfl (bI rfl rfl) (a7 rfl (ag rfl) (ac (a8 (ao (ak (.inl rfl) (.cons (aj rfl) .nil) ?_))))))))
 refine ⟨_, ⟨?_, rfl⟩, inferInstance⟩
 refine congrArg Value.bool ?_
 rw [Bool.eq_iff_iff]; simp only [e5, decide_eq_true_eq, Bool.false_eq_true, false_iff]; omega
 intro g1_3
 refine aD rfl rfl rfl rfl (a7 rfl (aX rfl rfl) (a7 rfl (ag rfl) (ac (a8 (ao (ak (.inl rfl) (.cons (aj rfl) .nil) ?_))))))
 refine ⟨_, ⟨?_, rfl⟩, inferInstance⟩
 refine congrArg Value.bool ?_
 rw [Bool.eq_iff_iff]; simp only [e5, decide_eq_true_eq, Bool.false_eq_true, false_iff]; omega
theorem zg {W0 : World} {R : List HP} (a b : Int) : ax Tryz.prog W0 254 [.int .i64 a, .int .i64 b] R (fun v B => v = .bool (js a b) ∧ B = R) := by
 refine aB func254 ntmps254 rfl rfl ?_
 refine aa (ae (a7 rfl (ag rfl) (ac (a8 (aa (ae (a7 rfl (ab rfl) (ah rfl (aS s9 rfl (or W0 _ a)) ?_))))))))
 rintro _ B_ ⟨rfl, hB_⟩
 obtain rfl := hB_.symm
 refine a7 rfl (ab rfl) ?_
 refine dh rfl rfl rfl ?_ ?_
 intro g1_3
 refine a7 rfl (ab rfl) (av rfl rfl (ah rfl (aS s9 rfl (or W0 _ b)) ?_))
 rintro _ B_ ⟨rfl, hB_⟩
 obtain rfl := hB_.symm
 refine a7 rfl (bI rfl rfl) (a7 rfl (ab rfl) ?_)
 refine dh rfl rfl rfl ?_ ?_
 intro g1_7
 obtain ⟨x, rfl, hx⟩ : ∃ x : Nat, a = (x : Int) ∧ x < 256 := ⟨a.toNat, by have := lh.1 g1_3; omega, by have := lh.1 g1_3; omega⟩
 obtain ⟨y, rfl, hy⟩ : ∃ y : Nat, b = (y : Int) ∧ y < 256 := ⟨b.toNat, by have := lh.1 g1_7; omega, by have := lh.1 g1_7; omega⟩
 refine a7 rfl (ab rfl) (av rfl rfl (a7 rfl (ab rfl) (av rfl rfl ?_)))
 refine a7 rfl (y4 rfl rfl (zf (by omega) (by omega))) ?_
 refine av rfl rfl (a7 rfl (cu rfl rfl) (a7 rfl (bI rfl rfl) (a7 rfl (ag rfl) (ac (a8 (ao (ak (.inl rfl) (.cons (aj rfl) .nil) ?_)))))))
 refine ⟨_, ⟨?_, rfl⟩, inferInstance⟩
 first
   | (rw [hno]; rfl)
   | (refine congrArg Value.bool ?_
      rw [Bool.eq_iff_iff, beq_iff_eq, js, g1_3, g1_7, Int.toNat_natCast, Int.toNat_natCast]
      simp only [Bool.and_self, Bool.true_and, decide_eq_true_iff]
      omega)
 intro g1_7
 have hno := u5 (a := a) (b := b) (fun q => g1_7 q.2)
 refine aD rfl rfl rfl rfl (aD rfl rfl rfl rfl (aD rfl rfl rfl rfl (a7 rfl (aX rfl rfl) (a7 rfl (ag rfl) (ac (a8 (ao (ak (.inl rfl) (.cons (aj rfl) .nil) ?_))))))))
 refine ⟨_, ⟨?_, rfl⟩, inferInstance⟩
 first
   | (rw [hno]; rfl)
   | (refine congrArg Value.bool ?_
      rw [Bool.eq_iff_iff, beq_iff_eq, js, g1_3, g1_7, Int.toNat_natCast, Int.toNat_natCast]
      simp only [Bool.and_self, Bool.true_and, decide_eq_true_iff]
      omega)
 intro g1_3
 have hno := u5 (a := a) (b := b) (fun q => g1_3 q.1)
 refine aD rfl rfl rfl rfl (a7 rfl (aX rfl rfl) (a7 rfl (ab rfl) (aD rfl rfl rfl rfl (aD rfl rfl rfl rfl (aD rfl rfl rfl rfl (aD rfl rfl rfl rfl (a7 rfl (aX rfl rfl) (a7 rfl (ag rfl) (ac (a8 (ao (ak (.inl rfl) (.cons (aj rfl) .nil) ?_))))))))))))
 refine ⟨_, ⟨?_, rfl⟩, inferInstance⟩
 first
   | (rw [hno]; rfl)
   | (refine congrArg Value.bool ?_
      rw [Bool.eq_iff_iff, beq_iff_eq, js, g1_3, g1_7, Int.toNat_natCast, Int.toNat_natCast]
      simp only [Bool.and_self, Bool.true_and, decide_eq_true_iff]
      omega)
theorem u6 {W0 : World} {R : List HP} (l : Int) : ax Tryz.prog W0 126 [.int .i64 l] R (fun v B => ∃ n : Int, v = .int .i64 n ∧ (decide (n < 0) = !e5 l) ∧ B = R) := by
 refine aB func126 ntmps126 rfl rfl ?_
 refine aa (ae (a7 rfl (ag rfl) (ac (a8 (aa (aa (ae (a7 rfl (ab rfl) (ah rfl (aS s9 rfl (or W0 _ l)) ?_)))))))))
 rintro _ B_ ⟨rfl, hB_⟩
 obtain rfl := hB_.symm
 refine a7 rfl (bM rfl) (ac (a8 ?_))
 refine au rfl ?_ ?_
 intro c1
 refine aa (ae (a7 rfl (ag rfl) (ac (a8 (ao (aJ (ak (.inl rfl) (.cons (aj rfl) .nil) ?_)))))))
 have h : e5 l = false := by simpa using c1
 exact ⟨_, ⟨-1, rfl, by rw [h]; rfl, rfl⟩, inferInstance⟩
 intro c1
 have hl : e5 l = true := Decidable.not_not.1 c1
 obtain ⟨x, rfl, hx⟩ : ∃ x : Nat, l = (x : Int) ∧ x < 256 := ⟨l.toNat, by have := lh.1 hl; omega, by have := lh.1 hl; omega⟩
 refine aA (a8 (aa (ae (a7 rfl (ag rfl) (ac (a8 (aa (aP ?_))))))))
 refine bX (fun X : Nat × Nat => X.1 + X.2 ≤ 256) (fun X => [(0, .int .i64 X.1), (3, .int .i64 X.2)]) (fun X => R) (fun X => X.1) (x, 0) ?_ ?_ ?_ ?_
 show x + 0 ≤ 256; omega
 · repeat (first | exact aQ | refine aO rfl ?_)
 exact inferInstance
 intro ⟨k, n⟩ hk
 dsimp only at hk ⊢
 refine aa (aa (ae (a7 rfl (ab rfl) (a7 rfl (bT rfl rfl) (ac (a8 ?_))))))
 refine au rfl ?_ ?_
 intro c4
 have hk0 : 0 < k := by omega
 have hlt : k &&& (k - 1) ≤ k - 1 := Nat.and_le_right
 refine aA (a8 (aa (aP (ae (a7 rfl (ab rfl) ?_)))))
 refine a7 rfl (bz rfl rfl (by rw [aT (by omega)]; omega : IntKind.wrap .i64 ((n : Int) + 1) = ((n + 1 : Nat) : Int))) ?_
 refine a7 rfl (ag rfl) (ac (bw (a8 (ae (a7 rfl (ab rfl) (a7 rfl (ab rfl) ?_))))))
 refine a7 rfl (d7 rfl rfl (by rw [aT (by omega)]; omega : IntKind.wrap .i64 ((k : Int) - 1) = ((k - 1 : Nat) : Int))) ?_
 refine a7 rfl (t9 rfl rfl (ze (by omega) (by omega))) ?_
 refine a7 rfl (ag rfl) (ac (a8 ?_))
 refine cg (k &&& (k - 1), n + 1) ?_ ?_ ?_ ?_
 show (k &&& (k - 1)) + (n + 1) ≤ 256; omega
 show k &&& (k - 1) < k; omega
 · repeat (first | exact aQ | refine aO rfl ?_)
 exact inferInstance
 intro c4
 refine bF (aR (aR (bH (a8 (aa (ae (a7 rfl (ab rfl) (a7 rfl (ag rfl) (ac (a8 (ao (ak (.inl rfl) (.cons (aj rfl) .nil) ?_))))))))))))
 exact ⟨_, ⟨(n : Int), rfl, by rw [hl]; simp, rfl⟩, inferInstance⟩
section
variable {rd : Option Nat} {P : Program} {S : World → Prop} {W0 : World} {N : FSz} {Q : Exit → Act → World → Prop} {e : bq} {A B R : List HP} {ops : Array Oper} {rest : List Oper}
variable {op : Op} {ty t t' : TypeId} {pos : String} {af : Array Edge} {v u : Value} {d b off : Nat} {x y z : Operand} {l l' vs : List Value} {L : Nat} {xr : RecX}
theorem u7 {c : Code} (h : aG W0 N (c.wpR none P (Exit.noGoto Q)) e A) : aG W0 N ((Code.scope c).wpR none P Q) e A := fun a w hF hO => pZ.2 (wp_scope_straight (pZ.1 (h a w hF hO)))
instance Fe [h : POk Q] : POk (Exit.noGoto Q) := ⟨fun c a d v w k => h.ok c a d v w k⟩
theorem kc (h : aG W0 N (Ex Q .ret) e A) : aG W0 N (Ex (Exit.noGoto Q) .ret) e A := h
theorem u9 {id : Nat} {Post : Value → List HP → Prop} [h : Tk cJ L A xr R] (hp : ∃ B, Post (.bool false) B ∧ Ent (cJ L { xr with st := .done, pe := some (.exit id) } :: R) B) : aG W0 N (Ex (l7 P W0 L Post) (.exit id)) e A := by
 intro a w hF hO
 obtain ⟨fn, tmps, h1, h2, hO1⟩ := (hO.tk (r := cJ) (b := L)).loopRec
 obtain ⟨B, hB, hE⟩ := hp
 exact ⟨_, _, run_endRound (some (.exit id)) hO1.has.2, _, B, rfl, hB, Own.ent (Own.toRec (x := { xr with st := .done, pe := some (.exit id) }) h1 h2 (hO1.turn _)) hE⟩
theorem zh {n gf : Nat} {g : Operand} {ps : Array Tmp} {asg body : Code} {lb : List Value} (id : Nat) (Go Stop : List HP → Prop) (hg : ev e g = some (.func (.func gf) #[] lb.toArray))
    (hc : ∀ args w, (callFunc gf args).run P w = .ok (.enter gf args) w)
    (hs : ∀ L D, ax P W0 gf (.func (.yield L) #[] #[] :: lb) (cJ L ⟨e, n, ps, asg, body, .ready, none, D⟩ :: pt D (.deferred (some [])) :: A)
      (fun _ B => (∃ C, B = cJ L ⟨e, n, ps, asg, body, .ready, none, D⟩ :: pt D (.deferred (some [])) :: C ∧ Go C) ∨ (∃ C, B = cJ L ⟨e, n, ps, asg, body, .done, some (.exit id), D⟩ :: pt D (.deferred (some [])) :: C ∧ Stop C)))
    (hgo : ∀ D C, Go C → aG W0 ⟨n, [ic D]⟩ (Ex Q .normal) e (pt D (.deferred (some [])) :: C))
    (hstop : ∀ D C, Stop C → aG W0 ⟨n, [ic D]⟩ (Ex Q (.exit id)) e (pt D (.deferred (some [])) :: C)) :
    aG W0 ⟨n, []⟩ ((Code.rangeFunc g ps asg body).wpR none P Q) e A := by
 intro a w hF hO
 refine wpIn_rangeFunc (F := FW none) (n := 0) ?_
 intro fn _
 have hO1 : Own W0 ((w.alloc (.deferred (some []))).alloc (.loop ((⟨e, n, ps, asg, body, .ready, none, w.heap.size⟩ : RecX).loop fn a.tmps))) (cJ (w.heap.size + 1) ⟨e, n, ps, asg, body, .ready, none, w.heap.size⟩ :: pt w.heap.size (.deferred (some [])) :: A) := by
  refine Own.toRec (fn := fn) hF.size hF.at_ ?_
  have h1 := (hO.new (.deferred (some []))).new (.loop ((⟨e, n, ps, asg, body, .ready, none, w.heap.size⟩ : RecX).loop fn a.tmps))
  have e1 : (w.heap.push (.deferred (some []))).size = w.heap.size + 1 := by simp
  simp only [e1] at h1
  exact h1
 have hent := run_enterLoop_outer (P := P) (w := w) fn a.tmps ps asg body
 generalize hW1 : (w.alloc (.deferred (some []))).alloc (.loop ((⟨e, n, ps, asg, body, .ready, none, w.heap.size⟩ : RecX).loop fn a.tmps)) = W1 at hO1
 rw [show (w.alloc (.deferred (some []))).alloc (.loop { state := .ready, pending := none, fn, tmps := a.tmps, params := ps, assign := asg, body, defers := w.heap.size }) = W1 from hW1] at hent
 have hF' : ∀ D, Fr { a with defers := [ic D] ++ a.defers } ⟨n, [ic D]⟩ e := fun D => ⟨by simp [hF.defers], hF.size, hF.at_⟩
 refine ⟨w.heap.size + 1, [{ target := .collected w.heap.size, args := #[] }], W1, { target := .fn (.func gf) lb.toArray, args := #[.func (.yield (w.heap.size + 1)) #[] #[]] }, W1, gf,
   #[.func (.yield (w.heap.size + 1)) #[] #[]] ++ lb.toArray, W1, hent, ?_, fun _ _ => trivial, ?_, fun h => (by cases h), ?_⟩
 have hgv := hF.eval hg
 simp only [resolve, hgv]
 simp [go_sem]
 simp [invoke, go_sem, hc]
 refine nD.2 ?_
 have e2 : (#[.func (.yield (w.heap.size + 1)) #[] #[]] ++ lb.toArray : Array Value) = (.func (.yield (w.heap.size + 1)) #[] #[] :: lb).toArray := by simp
 rw [e2]
 refine Calls.mono (hs (w.heap.size + 1) w.heap.size _ hO1) ?_
 rintro _ w' ⟨v, B, rfl, hp, hO2⟩
 rcases hp with ⟨C, rfl, hC⟩ | ⟨C, rfl, hC⟩
 obtain ⟨fn', tmps', h1, h2, hO3⟩ := hO2.loopRec
 refine ⟨none, _, run_endLoop hO3.has.2 (by simp [RecX.loop]), ?_⟩
 exact hgo _ C hC _ _ (hF' _) (hO3.turn _).drop
 obtain ⟨fn', tmps', h1, h2, hO3⟩ := hO2.loopRec
 refine ⟨some (.exit id), _, run_endLoop hO3.has.2 (by simp [RecX.loop]), ?_⟩
 exact wpIn_exit (hstop _ C hC _ _ (hF' _) (hO3.turn _).drop)
theorem zi {E n c sz : Nat} {a : Option Addr} {ys : List Value} {K : Act → World → Prop} [h : Tk (osl E sz) (.slice a n c) A ys R] (k : n ≤ c ∧ c ≤ maxLen → aG W0 N K e A) : aG W0 N K e A := fun act w hF hO => by
 refine k ?_ act w hF hO
 rcases (hO.tk (r := osl E sz) (b := .slice a n c)).osl with ⟨k1, k2, _⟩ | ⟨g, n', cap, sp, k1, k2, k3, _, _, _⟩
 cases k1; simp
 cases k1; exact ⟨k2, k3⟩
theorem zj {a : Option Addr} {ys : List Value} (h : oe a ys) (hne : ys ≠ []) : ∃ g, a = some ⟨g, 0, none⟩ := by
 rcases h with ⟨_, q⟩ | q
 exact absurd q hne
 exact q
end
section
variable {rd : Option Nat} {P : Program} {S : World → Prop} {W0 : World} {N : FSz} {Q : Exit → Act → World → Prop} {e : bq} {A B R : List HP} {ops : Array Oper} {rest : List Oper}
variable {op : Op} {ty t t' : TypeId} {pos : String} {af : Array Edge} {v u : Value} {d b off : Nat} {x y z : Operand} {l l' vs : List Value}
variable {α : Type} {sz : Nat} {f : α → List Value} {xs : List α} {a : Option Addr}
theorem zk {k : IntKind} {m n r : Int} {ats : Array TypeId} (hx : ev e x = some (.int k m)) (hy : ev e y = some (.int k n)) (hr : (if n > m then n else m) = r) : bO P S N e (.call { callee := .builtin .max, args := #[x, y], argTypes := ats }) (.int k r) := fun a w _ _ _ _ _ hF _ => by
 simp [execOp, resolve, invoke, builtin, hF.eval hx, hF.eval hy, Builtin.max_, Builtin.max2, hr]
def fh (a : Option Addr) (c i sz : Nat) : Option Addr := if c = i then a else a.map (·.add (i * sz))
theorem zl {E n c sz : Nat} {k k' : IntKind} {i h : Nat} {j1 j2 : Int} (hu : P.underlying t = some (.slice E)) (hs : ∀ w, (sizeOf E).run P w = .ok sz w) (hx : ev e x = some (.slice a n c))
    {lo hi : Operand} (h1 : ev e lo = some (.int k j1)) (h2 : ev e hi = some (.int k' j2)) (e1 : j1 = (i : Int)) (e2 : j2 = (h : Int)) (hil : i ≤ h) (hmc : h ≤ c) :
    bO P S N e (.slice t x (some lo) (some hi) none) (.slice (fh a c i sz) (h - i) (c - i)) := fun act w _ _ _ _ _ hF _ => by
 subst e1; subst e2
 simp [execOp, Instr.sliceAt, Instr.slice, hF.eval hx, hF.eval h1, hF.eval h2, d8 hu, Instr.sliceBounds, l8 hmc, l8 hil, hs, fh]
theorem bU.sub (h : bU S a sz f xs) {c i k : Nat} (hk : i + k ≤ xs.length) (hc : xs.length ≤ c) : bU S (fh a c i sz) sz f ((xs.drop i).take k) := fun j x hj => by
 have hjk : j < k := by
  rcases Nat.lt_or_ge j k with q | q
  exact q
  rw [List.getElem?_eq_none (by rw [List.length_take]; omega)] at hj; cases hj
 rw [List.getElem?_take_of_lt hjk, List.getElem?_drop] at hj
 obtain ⟨b, off, rfl, hcl⟩ := h (i + j) x hj
 refine ⟨b, off + i * sz, ?_, ?_⟩
 rw [fh, if_neg (by omega)]; simp [eK]
 rw [Nat.add_assoc, ← Nat.add_mul]; exact hcl
theorem bU.take (h : bU S a sz f xs) (k : Nat) : bU S a sz f (xs.take k) := fun j x hj => by
 have hjk : j < k := by
  rcases Nat.lt_or_ge j k with q | q
  exact q
  rw [List.getElem?_eq_none (by rw [List.length_take]; omega)] at hj; cases hj
 rw [List.getElem?_take_of_lt hjk] at hj
 exact h j x hj
theorem bU.src (h : bU S a sz f xs) (hf : ∀ x, (f x).length = sz) (ha : a = none → True) : (xs = []) ∨ ∃ b off, a = some ⟨b, off, none⟩ ∧ cB S b off (xs.flatMap f) := by
 by_cases h0 : xs = []
 exact .inl h0
 exact .inr (h.all h0 hf)
theorem qR {E n m c cx by_ : Nat} {ay : Option Addr} {info : TypeInfo} {z : Value} {an : Option Addr} {xs news : List Value} (hu : P.underlying t = some (.slice E))
    (hi : P.info? E = some info) (hz : info.zero = some z) (hsz : info.size = sz) (hby : info.bytes = by_) (hz1 : z.cells.size = sz) (hsz0 : 0 < sz)
    (hx : ev e x = some (.slice an n c)) (hy : ev e y = some (.slice ay m cx)) [h : Tk (osl E sz) (.slice an n c) A xs R]
    (hsrc : m = 0 ∨ ∃ bx ox, ay = some ⟨bx, ox, none⟩ ∧ cB (bj W0 A) bx ox news) (hnl : news.length = m * sz) (h1 : e6 news = true) (h63 : n + m ≤ maxLen) (hbig : (n + m) * by_ ≤ 140737488355328) :
    cQ P W0 N e A (.call { callee := .builtin .append, args := #[x, y], argTypes := #[t, t] }) (fun v B => ∃ a' c', v = .slice a' (n + m) c' ∧ B = osl E sz v (xs ++ news) :: R) := by
 rcases hsrc with rfl | ⟨bx, ox, rfl, hc⟩
 have h0 : news = [] := List.eq_nil_of_length_eq_zero (by simpa using hnl)
 subst h0
 intro act w dst ty pos af g K Q hF hO k
 have hO' := hO.tk (r := osl E sz) (b := .slice an n c)
 have hcap : n ≤ c := by
  rcases hO'.osl with ⟨k1, _, _⟩ | ⟨_, _, _, _, k1, k2, _⟩
  cases k1; exact Nat.le_refl _
  cases k1; exact k2
 have hrun : (Builtin.append_ #[t, t] ty #[.slice an n c, .slice ay 0 cx]).run P w = .ok (.slice an n c) w := by
  cases an <;> cases ay <;> simp [Builtin.append_, d8 hu, sizeOf, typeInfo, hi, Builtin.lenOf, Builtin.firstCells, hcap, loadCells, loadCellsFrom, storeCells]
 unfold Oper.wp
 have hexec : (execOp act.eval { dst := dst, op := .call { callee := .builtin .append, args := #[x, y], argTypes := #[t, t] }, type := ty, pos := pos, after := af, guard := g }).run P w = .ok (.value (.slice an n c)) w := by
  simp only [execOp, resolve, invoke, builtin, Sem.run_bind, Sem.run_pure, Result.andThen_ok, List.map_toArray, List.map_cons, List.map_nil, hF.eval hx, hF.eval hy, hrun]
 rw [hexec]
 exact k _ w _ ⟨an, c, rfl, by rw [List.append_nil]⟩ hO'
 exact eg hu hi hz hsz hby hz1 hsz0 hx hy hc hnl h1 h63 hbig
end
section
variable {P : Program} {S : World → Prop} {W0 : World} {N : FSz} {e : bq} {A R : List HP} {t ty : TypeId} {b off : Nat} {x : Operand} {l : List Value}
theorem jt {E n c sz : Nat} {k : IntKind} {i : Nat} {j1 : Int} {a a' : Option Addr} (hu : P.underlying t = some (.slice E)) (hs : ∀ w, (sizeOf E).run P w = .ok sz w) (hx : ev e x = some (.slice a n c))
    {lo : Operand} (h1 : ev e lo = some (.int k j1)) (e1 : j1 = (i : Int)) (hil : i ≤ n) (ha : fh a c i sz = a') :
    bO P S N e (.slice t x (some lo) none none) (.slice a' (n - i) (c - i)) := fun act w _ _ _ _ _ hF _ => by
 subst e1; subst ha
 simp [execOp, Instr.sliceAt, Instr.slice, hF.eval hx, hF.eval h1, d8 hu, Instr.sliceBounds, l8 hil, hs, fh]
section
variable {rd : Option Nat} {Q : Exit → Act → World → Prop} {ops : Array Oper} {rest : List Oper} {pos : String} {af : Array Edge} {d : Nat} {y : Operand}
theorem zm {xc yc : Code} (k : aG W0 N (yc.wpR rd P Q) e A) : aG W0 N ((Code.cond (.const (.bool false)) xc yc).wpR rd P Q) e A :=
  fun a w hF hO => wpIn_cond_false (hF.eval (x := .const (.bool false)) rfl) (k a w hF hO)
theorem zn {k : IntKind} {i : Int} {j : Nat} {s : ByteArray} (hu : P.underlying t = some .string) (hx : ev e x = some (.string s)) (hy : ev e y = some (.int k i)) (hi : i = (j : Int)) (hj : j < s.size) :
    bO P S N e (.index t x y) (.int .u8 (s[j]'hj).toNat) := fun a w _ _ _ _ _ hF _ => by
 subst hi
 have h1 : (0 : Int) ≤ (j : Int) := by omega
 simp only [execOp, Instr.index, Sem.run_bind, hF.eval hx, hF.eval hy, asIntOf, Sem.run_pure, Result.andThen_ok, d8 hu, if_pos h1, Int.toNat_natCast, getElem?_pos s j hj]
theorem zo {k : IntKind} {i : Int} {j : Nat} {s : ByteArray} (hd : Nat.blt d N.n = true) (hu : P.underlying t = some .string) (hx : ev e x = some (.string s)) (hy : ev e y = some (.int k i)) (hi : i = (j : Int)) (hj : j < s.size)
    (kk : ∀ m : Nat, m < 256 → aG W0 N (cz rd P ops Q rest) ((d, .int .u8 m) :: e) A) :
    aG W0 N (cz rd P ops Q ({ dst := some d, op := .index t x y, type := ty, pos := pos, after := af, guard := none } :: rest)) e A :=
  a7 hd (zn hu hx hy hi hj) (kk _ (UInt8.toNat_lt _))
end
end
section
variable {P : Program} {W0 : World} {N : FSz} {e : bq} {A R R1 R2 R3 R4 R5 R6 R7 : List HP} {vs us cs : List Value}
variable {K1 K2 K3 K4 K5 K6 K7 K8 X1 X2 X3 X4 X5 X6 X7 X8 : Type} {r1 : K1 → X1 → HP} {b1 : K1} {x1 : X1} {r2 : K2 → X2 → HP} {b2 : K2} {x2 : X2} {r3 : K3 → X3 → HP} {b3 : K3} {x3 : X3} {r4 : K4 → X4 → HP} {b4 : K4} {x4 : X4} {r5 : K5 → X5 → HP} {b5 : K5} {x5 : X5} {r6 : K6 → X6 → HP} {b6 : K6} {x6 : X6} {r7 : K7 → X7 → HP} {b7 : K7} {x7 : X7} {r8 : K8 → X8 → HP} {b8 : K8} {x8 : X8}
variable {f : FuncId} {xs : Array Operand} {ats : Array TypeId} {Post : Value → List HP → Prop}
end
def sV (s : ByteArray) : Value := .string s
def zp (l : List ByteArray) : List Value := l.map sV
structure Prt where
  lab : Int
  gu : Int
  l : List ByteArray
instance : Inhabited Prt := ⟨⟨0, 0, []⟩⟩
def mu (p : Value × Prt) : List Value := [.int .i64 p.2.lab, .int .i64 p.2.gu, p.1]
def iY (p : Value × Prt) : HP := osl 9 1 p.1 (zp p.2.l)
def ik (p : Nat) (ps : List Prt) : HP := chk (fun C => ∃ a c, ∃ vs : List Value, vs.length = ps.length ∧ C = [pt p (am [.slice a ps.length c, .bool true] 267), osl 270 3 (.slice a ps.length c) ((vs.zip ps).flatMap mu), kH 2 (bC ((vs.zip ps).map iY))])
section
variable {P : Program} {W0 : World} {N : FSz} {K : Act → World → Prop} {e : bq} {A B R R1 R2 R3 R4 : List HP} {p g n : Nat} {ps : List Prt} {f : FuncId} {args : List Value} {Post : Value → List HP → Prop}
theorem ua {α : Type} : ∀ (l : List α) (i : Nat) (h : i < l.length), l.Perm (l[i] :: l.eraseIdx i)
 | x :: l, 0, h => by simp
 | x :: l, i + 1, h => by
  simp only [List.getElem_cons_succ, List.eraseIdx_cons_succ]
  exact ((ua l i (by simpa using h)).cons x).trans (List.Perm.swap _ _ _)
theorem ub {α : Type} : ∀ (l : List α) (i : Nat) (x : α) (h : i < l.length), (x :: l.eraseIdx i).Perm (l.set i x)
 | y :: l, 0, x, h => by simp
 | y :: l, i + 1, x, h => by
  simp only [List.set_cons_succ, List.eraseIdx_cons_succ]
  exact (List.Perm.swap _ _ _).trans ((ub l i x (by simpa using h)).cons y)
theorem zq {L : List HP} {i : Nat} (h : i < L.length) : Ent (kH 2 (bC L) :: R) (L[i] :: kH 3 (bC (L.eraseIdx i)) :: R) := by
 refine (iS (A := L) (R := R)).trans ?_
 refine (Ent.ofPerm ((ua L i h).append_right R)).trans ?_
 exact Ent.cons gN
theorem zr {L : List HP} {i : Nat} {x : HP} (h : i < L.length) : Ent (x :: kH 3 (bC (L.eraseIdx i)) :: R) (kH 2 (bC (L.set i x)) :: R) := by
 refine (Ent.cons iS).trans ?_
 exact (Ent.ofPerm ((ub L i x h).append_right R)).trans gN
theorem zt [hk : Tk ik p A ps R] (h : ∀ a c (vs : List Value), vs.length = ps.length → aG W0 N K e (pt p (am [.slice a ps.length c, .bool true] 267) :: osl 270 3 (.slice a ps.length c) ((vs.zip ps).flatMap mu) :: kH 2 (bC ((vs.zip ps).map iY)) :: R)) : aG W0 N K e A :=
  eC (r := ik) (b := p) (jm fun C hC => by obtain ⟨a, c, vs, h1, rfl⟩ := hC; exact h a c vs h1)
theorem uc {a : Option Addr} {c : Nat} {vs : List Value} [h1 : Tk pt p A (am [.slice a n c, .bool true] 267) R1] [h2 : Tk (osl 270 3) (.slice a n c) R1 ((vs.zip ps).flatMap mu) R2] [h3 : Tk kH 2 R2 (bC ((vs.zip ps).map iY)) R3] (hv : vs.length = ps.length) (hn : n = ps.length) [k : Ent R3 B] : Ent A (ik p ps :: B) := by
 subst hn
 have e1 : A.Perm ([pt p (am [.slice a ps.length c, .bool true] 267), osl 270 3 (.slice a ps.length c) ((vs.zip ps).flatMap mu), kH 2 (bC ((vs.zip ps).map iY))] ++ R3) := h1.perm.trans ((h2.perm.trans (h3.perm.cons _)).cons _)
 exact (Ent.ofPerm e1).trans ((eX (R := R3) ⟨a, c, vs, hv, rfl⟩).trans (Ent.cons k))
end
theorem zu {vs : List Value} {i : Nat} {v : Value} (h : vs[i]? = some v) : vs.set i v = vs := by
 have hi : i < vs.length := by
  rcases Nat.lt_or_ge i vs.length with k | k
  exact k
  rw [List.getElem?_eq_none k] at h; cases h
 have : vs[i] = v := by simpa [hi] using h
 rw [← this]; exact List.set_getElem_self _
end
end Go.Proofs.YtofillmoflhijaaGreat
