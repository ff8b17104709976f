/-
  Part 1 of the proof of HcallZero: rules, and walks of functions. Conditions: none.
-/
import Derived.WalkKit
import Derived.ProofKit
import Derived.RangeFuncRecord
import Derived.OrdersHeld
import Derived.Test.YtofillmoflhijaaGreatProg
import Derived.Laws.MakeOwn
import Derived.Scope
import Derived.Lib.AppendZerosOnto
import Derived.Lib.Overlaps
import Derived.OrdersIn
import Derived.Laws.BytesString
import Derived.OpenShut
import Derived.Carry
import Derived.MapKept
import Derived.ChangeKeysEq
import Derived.Laws.IdiomStrings
import Derived.Test.YtofillmoflhijaaGreatRows
namespace Go.Proofs.YtofillmoflhijaaGreat
open Go.Proofs.Tryz
set_option linter.unusedSimpArgs false
set_option linter.unusedVariables false
set_option maxRecDepth 20000
set_option linter.defProp false
set_option synthInstance.maxSize 8192
set_option synthInstance.maxHeartbeats 2000000
def az:=@sizeOf3
def aM:=@isAgg3
def bw:=@underlying29
def bS:=@sizeOf29
def cm:=@isAgg29
def cB:=@sizeOf4
def d9:=@sizeOf37
def dj:=@underlying23
def dt:=@underlying37
def du:=@sizeOf23
def dy:=@isAgg23
def dz:=@sizeOf42
def dE:=@underlying174
def dO:=@underlying85
def ej:=@sizeOf85
def ek:=@underlying492
def eA:=@isAgg37
def eB:=@underlying146
def eN:=@sizeOf146
def eS:=@sizeOf238
def eT:=@underlying25
def eU:=@sizeOf498
def eV:=@sizeOf518
def fg:=@sizeOf26
def fh:=@sizeOf25
def fv:=@underlying26
def fw:=@underlying61
def fy:=@underlying234
def fI:=@underlying344
def fY:=@underlying238
def fZ:=@isAgg26
def g5:=@underlying24
def g6:=@sizeOf191
def g7:=@sizeOf515
def gt:=@sizeOf61
def gv:=@sizeOf195
def gx:=@underlying515
def gy:=@sizeOf138
def gK:=@underlying420
def gL:=@underlying191
def gT:=@sizeOf5
def gU:=@underlying417
def gV:=@sizeOf144
def gW:=@underlying144
def gX:=@underlying193
def gY:=@underlying523
def gZ:=@sizeOf355
def hJ:=@underlying31
def ib:=@isAgg4
def ic:=@sizeOf63
def ie:=@sizeOf24
def ig:=@isAgg25
def ii:=@sizeOf255
def ij:=@sizeOf51
def ik:=@underlying98
def il:=@sizeOf58
def im:=@underlying142
def io:=@call36
def iF:=@zeroValue238
def iG:=@isAgg191
def iH:=@isAgg515
def iI:=@underlying357
def iJ:=@sizeOf50
def iR:=@sizeOf415
def iS:=@sizeOf27
def iT:=@zeroValue195
def iU:=@underlying195
def iV:=@sizeOf43
def iW:=@underlying68
def jd:=@isAgg238
def je:=@isAgg42
def jf:=@sizeOf104
def jg:=@underlying138
def jh:=@sizeOf130
def jx:=@underlying3
def jy:=@zeroValue146
def jz:=@underlying415
def jA:=@underlying27
def jB:=@sizeOf174
def jC:=@sizeOf342
def jD:=@underlying254
def jE:=@sizeOf182
def jF:=@isAgg50
def kh:=@underlying181
def ki:=@sizeOf179
def kj:=@isAgg415
def kl:=@isAgg63
def km:=@isAgg27
def ko:=@underlying494
def ks:=@isAgg24
def kt:=@underlying258
def ku:=@zeroValue258
def kv:=@underlying450
def kw:=@sizeOf252
def kx:=@sizeOf456
def kz:=@underlying355
def kA:=@isAgg130
def kB:=@sizeOf116
def lj:=@underlying179
def lm:=@sizeOf239
def ln:=@zeroValue3
def lp:=@sizeOf218
def lq:=@zeroValue85
def lr:=@sizeOf87
def lu:=@underlying87
def lw:=@call251
def lx:=@underlying342
def ly:=@isAgg195
def lz:=@underlying184
def lB:=@sizeOf223
def lD:=@underlying118
def lE:=@underlying116
def mq:=@isAgg179
def mr:=@sizeOf265
def mt:=@isAgg146
def mu:=@call86
def mw:=@underlying422
def my:=@sizeOf422
def mz:=@zeroValue61
def mB:=@sizeOf492
def mD:=@underlying241
def mF:=@sizeOf98
def mG:=@isAgg342
def mH:=@call191
def mI:=@underlying252
def mJ:=@underlying182
def mK:=@isAgg518
def mM:=@sizeOf64
def mN:=@sizeOf105
def ou:=@underlying42
def ov:=@underlying63
def ow:=@sizeOf178
def oy:=@underlying361
def oz:=@underlying239
def oA:=@sizeOf418
def oB:=@call127
def oC:=@isAgg61
def oD:=@zeroValue144
def oE:=@call192
def oF:=@sizeOf236
def oG:=@call190
def oH:=@underlying130
def oI:=@underlying58
def oJ:=@sizeOf139
def oK:=@underlying243
def oL:=@sizeOf235
def oM:=@underlying30
def rn:=@call72
def rp:=@underlying178
def rq:=@call301
def rr:=@call277
def ru:=@call264
def rx:=@call195
def ry:=@underlying267
def rz:=@underlying265
def rA:=@underlying418
def rB:=@sizeOf417
def rC:=@call257
def rD:=@isAgg85
def rE:=@zeroValue87
def rF:=@zeroValue498
def rG:=@underlying498
def rH:=@sizeOf258
def rI:=@isAgg104
def rJ:=@call94
def rK:=@isAgg182
def rL:=@underlying518
def rM:=@zeroValue138
def rN:=@sizeOf94
def rO:=@isAgg223
def rP:=@underlying43
def rQ:=@zeroValue43
def rR:=@underlying425
def rS:=@isAgg355
def rT:=@zeroValue218
def rU:=@underlying50
def rV:=@call43
def rW:=@zeroValue29
def rX:=@call14
def vz:=@func29
def vA:=@call299
def vB:=@zeroValue270
def vC:=@underlying64
def vD:=@call259
def vE:=@call164
def vF:=@isAgg492
def vG:=@isAgg498
def vH:=@isAgg144
def vJ:=@sizeOf410
def vK:=@underlying259
def vL:=@call119
def vM:=@call45
def vN:=@underlying368
def vP:=@sizeOf207
def vQ:=@isAgg207
def vR:=@func310
def vS:=@zeroValue174
def vT:=@underlying236
def vU:=@isAgg64
def vV:=@call97
def vW:=@call294
def vX:=@call120
def vY:=@call256
def vZ:=@zeroValue58
def w0:=@isAgg58
def w3:=@zeroValue456
def w4:=@underlying456
def w5:=@sizeOf407
def w6:=@zeroValue407
def w7:=@zeroValue518
def w8:=@call505
def w9:=@call508
def wa:=@isAgg138
def wc:=@underlying474
def wd:=@isAgg235
def we:=@sizeOf221
def wi:=@sizeOf222
def wj:=@sizeOf230
def wk:=@sizeOf231
def wl:=@sizeOf232
def wm:=@sizeOf65
def wn:=@sizeOf66
def wo:=@sizeOf55
def wq:=@underlying110
def wt:=@func36
def wu:=@call98
def ww:=@isAgg43
def wx:=@func14
def wy:=@call18
def wz:=@func5
def wA:=@call20
def Cx:=@underlying5
def Cy:=@underlying207
def Cz:=@zeroValue422
def CB:=@underlying454
def CC:=@underlying139
def CE:=@underlying104
def CF:=@underlying89
def CG:=@zeroValue68
def CH:=@underlying45
def CI:=@underlying4
def CJ:=@underlying46
def CK:=@underlying51
section
open Go.RowKit
abbrev HP := List (Nat × Obj) → Prop
def pt (b : Nat) (o : Obj) : HP := fun l => l = [(b, o)]
abbrev aw (l : List Value) (t : TypeId) : Obj := .cells l.toArray t (0, 0)
def eO : List HP → List (Nat × Obj) → Prop
 | [], l => l = []
 | a :: A, l => ∃ l1 l2, l = l1 ++ l2 ∧ a l1 ∧ eO A l2
structure Own (W0 w : World) (A : List HP) : Prop where
  os : w.os = W0.os
  tape : w.tape = W0.tape
  output : w.output = W0.output
  size : W0.heap.size ≤ w.heap.size
  base : ∀ b, b < W0.heap.size → w.heap[b]? = W0.heap[b]?
  owns : ∃ ls : List (Nat × Obj), eO A ls ∧ (ls.map (·.1)).Nodup ∧ ∀ p ∈ ls, W0.heap.size ≤ p.1 ∧ w.heap[p.1]? = some p.2
theorem eO.perm {A B : List HP} (h : A.Perm B) : ∀ {l}, eO A l → ∃ l', eO B l' ∧ l.Perm l' := by
 induction h with
 | nil => exact fun h => ⟨_, h, List.Perm.refl _⟩
 | cons x h ih =>
  rintro l ⟨l1, l2, rfl, ha, hs⟩
  obtain ⟨l', hs', hp⟩ := ih hs
  exact ⟨l1 ++ l', ⟨l1, l', rfl, ha, hs'⟩, hp.append_left l1⟩
 | swap x y l =>
  rintro l ⟨l1, l2, rfl, ha, m1, m2, rfl, hb, hs⟩
  refine ⟨m1 ++ (l1 ++ m2), ⟨m1, l1 ++ m2, rfl, hb, l1, m2, rfl, ha, hs⟩, ?_⟩
  rw [← List.append_assoc, ← List.append_assoc]
  exact (List.perm_append_comm).append_right m2
 | trans h1 h2 ih1 ih2 =>
  intro l hl
  obtain ⟨l', hs, hp⟩ := ih1 hl
  obtain ⟨l'', hs', hp'⟩ := ih2 hs
  exact ⟨l'', hs', hp.trans hp'⟩
theorem Own.perm {W0 w : World} {A B : List HP} (h : Own W0 w A) (hp : A.Perm B) : Own W0 w B := by
 obtain ⟨ls, hs, hn, hb⟩ := h.owns
 obtain ⟨l', hs', hp'⟩ := hs.perm hp
 exact ⟨h.os, h.tape, h.output, h.size, h.base, l', hs', (hp'.map _).nodup hn, fun p hm => hb p (hp'.mem_iff.2 hm)⟩
theorem Own.drop {W0 w : World} {a : HP} {A : List HP} (h : Own W0 w (a :: A)) : Own W0 w A := by
 obtain ⟨ls, ⟨l1, l2, rfl, _, hs⟩, hn, hb⟩ := h.owns
 refine ⟨h.os, h.tape, h.output, h.size, h.base, l2, hs, ?_, fun p hm => hb p (List.mem_append_right _ hm)⟩
 rw [List.map_append] at hn
 exact (List.nodup_append.1 hn).2.1
theorem Own.refl (W : World) : Own W W [] := ⟨rfl, rfl, rfl, Nat.le_refl _, fun _ _ => rfl, [], rfl, List.nodup_nil, fun _ h => by cases h⟩
theorem Own.below {W0 w : World} {A : List HP} (h : Own W0 w A) : Below W0.heap.size W0 w := ⟨h.os, h.tape, h.output, h.size, h.base⟩
theorem Own.drew {W0 w : World} {A : List HP} (h : Own W0 w A) (n : Nat) : Own W0 { w with drawn := n } A := ⟨h.os, h.tape, h.output, h.size, h.base, h.owns⟩
theorem Own.has {W0 w : World} {b : Nat} {o : Obj} {A : List HP} (h : Own W0 w (pt b o :: A)) : W0.heap.size ≤ b ∧ w.heap[b]? = some o := by
 obtain ⟨ls, ⟨l1, l2, rfl, h1, _⟩, _, hb⟩ := h.owns
 cases h1
 exact hb (b, o) (by simp)
theorem Own.set {W0 w w' : World} {b : Nat} {o o' : Obj} {A : List HP} (h : Own W0 w (pt b o :: A)) (hos : w'.os = w.os) (htape : w'.tape = w.tape)
    (hout : w'.output = w.output) (hsz : w'.heap.size = w.heap.size)
    (hb : w'.heap[b]? = some o') (hne : ∀ k, k ≠ b → w'.heap[k]? = w.heap[k]?) : Own W0 w' (pt b o' :: A) := by
 have hbase := h.has.1
 obtain ⟨ls, ⟨l1, l2, rfl, h1, hs⟩, hn, hm⟩ := h.owns
 cases h1
 refine ⟨hos.trans h.os, htape.trans h.tape, hout.trans h.output, by have := h.size; omega, fun k hk => ?_, (b, o') :: l2, ⟨[(b, o')], l2, rfl, rfl, hs⟩, ?_, ?_⟩
 rw [hne k (by omega)]; exact h.base k hk
 simpa using hn
 rintro p hp
 rcases List.mem_cons.1 hp with rfl | hp
 exact ⟨hbase, hb⟩
 have hp' := hm p (List.mem_append_right _ hp)
 refine ⟨hp'.1, ?_⟩
 rw [hne]; · exact hp'.2
 intro e
 simp only [List.singleton_append, List.map_cons, List.nodup_cons, List.mem_map, not_exists, not_and] at hn
 exact hn.1 p hp e
theorem Own.new {W0 w : World} {A : List HP} (h : Own W0 w A) (o : Obj) : Own W0 { w with heap := w.heap.push o } (pt w.heap.size o :: A) := by
 obtain ⟨ls, hs, hn, hb⟩ := h.owns
 refine ⟨h.os, h.tape, h.output, ?_, fun k hk => ?_, (w.heap.size, o) :: ls, ⟨[_], ls, rfl, rfl, hs⟩, ?_, ?_⟩
 have := h.size; simp; omega
 have := h.size
 show (w.heap.push o)[k]? = _
 rw [Array.getElem?_push, if_neg (by omega)]; exact h.base k hk
 simp only [List.map_cons, List.nodup_cons]
 refine ⟨?_, hn⟩
 intro hmem
 obtain ⟨p, hp, e⟩ := List.mem_map.1 hmem
 have := (hb p hp).2
 rw [e] at this
 simp at this
 rintro p hp
 show _ ∧ (w.heap.push o)[p.1]? = _
 rcases List.mem_cons.1 hp with rfl | hp
 exact ⟨h.size, by simp⟩
 refine ⟨(hb p hp).1, ?_⟩
 have := (hb p hp).2
 have hlt : p.1 < w.heap.size := by
  rcases Nat.lt_or_ge p.1 w.heap.size with h | h
  exact h
  rw [Array.getElem?_eq_none h] at this; cases this
 rw [Array.getElem?_push, if_neg (by omega)]; exact this
class Tk {K X : Type} (r : K → X → HP) (b : K) (A : List HP) (x : outParam X) (R : outParam (List HP)) : Prop where
  perm : A.Perm (r b x :: R)
instance CL {K X : Type} {r : K → X → HP} {b : K} {x : X} {R : List HP} : Tk r b (r b x :: R) x R := ⟨List.Perm.refl _⟩
instance (priority := low) tk_there {K X : Type} {r : K → X → HP} {b : K} {c : HP} {A : List HP} {x : X} {R : List HP} [h : Tk r b A x R] : Tk r b (c :: A) x (c :: R) :=
  ⟨(h.perm.cons c).trans (List.Perm.swap _ _ _)⟩
class Ent (A B : List HP) : Prop where
  out : ∀ l, eO A l → ∃ l' r, eO B l' ∧ l.Perm (l' ++ r)
theorem Own.ent {W0 w : World} {A B : List HP} (h : Own W0 w A) (e : Ent A B) : Own W0 w B := by
 obtain ⟨ls, hs, hn, hb⟩ := h.owns
 obtain ⟨l', r, hs', hp⟩ := e.out _ hs
 refine ⟨h.os, h.tape, h.output, h.size, h.base, l', hs', ?_, fun p hm => hb p (hp.mem_iff.2 (List.mem_append_left _ hm))⟩
 have := (hp.map (·.1)).nodup hn
 rw [List.map_append] at this
 exact (List.nodup_append.1 this).1
instance (priority := high) ent_refl {A : List HP} : Ent A A := ⟨fun l h => ⟨l, [], h, by simp⟩⟩
theorem Ent.trans {A B C : List HP} (h : Ent A B) (k : Ent B C) : Ent A C := ⟨fun l hl => by
 obtain ⟨l1, r1, hs1, hp1⟩ := h.out l hl
 obtain ⟨l2, r2, hs2, hp2⟩ := k.out l1 hs1
 exact ⟨l2, r2 ++ r1, hs2, hp1.trans (by rw [← List.append_assoc]; exact hp2.append_right r1)⟩⟩
theorem Ent.ofPerm {A B : List HP} (h : A.Perm B) : Ent A B := ⟨fun l hl => by
 obtain ⟨l', hs, hp⟩ := hl |> eO.perm h
 exact ⟨l', [], hs, by simpa using hp⟩⟩
theorem Ent.cons {a : HP} {A B : List HP} (h : Ent A B) : Ent (a :: A) (a :: B) := ⟨fun l hl => by
 obtain ⟨l1, l2, rfl, ha, hs⟩ := hl
 obtain ⟨l', r, hs', hp⟩ := h.out l2 hs
 exact ⟨l1 ++ l', r, ⟨l1, l', rfl, ha, hs'⟩, by rw [List.append_assoc]; exact hp.append_left l1⟩⟩
theorem Ent.drop {a : HP} {A : List HP} : Ent (a :: A) A := ⟨fun l hl => by
 obtain ⟨l1, l2, rfl, _, hs⟩ := hl
 exact ⟨l2, l1, hs, List.perm_append_comm⟩⟩
instance CM {K X : Type} {r : K → X → HP} {b : K} {x : X} {A R B : List HP} [h : Tk r b A x R] [k : Ent R B] : Ent A (r b x :: B) :=
  (Ent.ofPerm h.perm).trans k.cons
instance (priority := low) ent_drop {a : HP} {A B : List HP} [k : Ent A B] : Ent (a :: A) B := Ent.drop.trans k
def bG (A : List HP) : HP := fun l => eO A l
theorem eO.append {A B : List HP} {l : List (Nat × Obj)} : eO (A ++ B) l ↔ ∃ l1 l2, l = l1 ++ l2 ∧ eO A l1 ∧ eO B l2 := by
 induction A generalizing l with
 | nil => exact ⟨fun h => ⟨[], l, rfl, rfl, h⟩, by rintro ⟨l1, l2, rfl, rfl, h⟩; exact h⟩
 | cons a A ih =>
  constructor
  rintro ⟨l1, l2, rfl, ha, hs⟩
  obtain ⟨m1, m2, rfl, h1, h2⟩ := ih.1 hs
  exact ⟨l1 ++ m1, m2, by simp, ⟨l1, m1, rfl, ha, h1⟩, h2⟩
  rintro ⟨l1, l2, rfl, ⟨m1, m2, rfl, ha, hs⟩, h2⟩
  exact ⟨m1, m2 ++ l2, by simp, ha, ih.2 ⟨m2, l2, rfl, hs, h2⟩⟩
theorem ip {A R : List HP} : Ent (bG A :: R) (A ++ R) := ⟨fun l hl => by
 obtain ⟨l1, l2, rfl, ha, hs⟩ := hl
 exact ⟨l1 ++ l2, [], eO.append.2 ⟨l1, l2, rfl, ha, hs⟩, by simp⟩⟩
theorem g8 {A R : List HP} : Ent (A ++ R) (bG A :: R) := ⟨fun l hl => by
 obtain ⟨l1, l2, rfl, ha, hs⟩ := eO.append.1 hl
 exact ⟨l1 ++ l2, [], ⟨l1, l2, rfl, ha, hs⟩, by simp⟩⟩
abbrev bK := List (Nat × Value)
def dJ : bK → Nat → Option Value
 | [], _ => none
 | (t, v) :: r, u => match Nat.beq t u with | true => some v | false => dJ r u
def ev (e : bK) : Operand → Option Value
 | .tmp t => dJ e t
 | .const v => some v
 | .global g => some (.pointer (some ⟨g, 0, none⟩))
 | .func f => some (.func (.func f) #[] #[])
def eC (e : bK) : List Operand → Option (List Value)
 | [] => some []
 | x :: xs => match ev e x with
   | some v => match eC e xs with
     | some vs => some (v :: vs)
     | none => none
   | none => none
structure FSz where
  n : Nat
  ds : List Deferred
structure Fr (a : Act) (N : FSz) (e : bK) : Prop where
  defers : a.defers = N.ds
  size : a.tmps.size = N.n
  at_ : ∀ t v, dJ e t = some v → a.tmps[t]? = some v
theorem Fr.eval {a : Act} {N : FSz} {e : bK} (h : Fr a N e) {x : Operand} {v : Value} (hx : ev e x = some v) : a.eval x = v := by
 cases x with
 | tmp t => simp [Act.eval, Array.getD_eq_getD_getElem?, h.at_ t v hx]
 | const c => exact Option.some.inj hx
 | global g => exact Option.some.inj hx
 | func f => exact Option.some.inj hx
theorem Fr.evals {a : Act} {N : FSz} {e : bK} (h : Fr a N e) : ∀ {xs : List Operand} {vs : List Value}, eC e xs = some vs → xs.map a.eval = vs
 | [], vs, hx => by simp [eC] at hx; simp [hx]
 | x :: xs, vs, hx => by
  unfold eC at hx
  cases hv : ev e x with
  | none => rw [hv] at hx; cases hx
  | some v =>
   rw [hv] at hx
   cases hvs : eC e xs with
   | none => simp only [hvs] at hx; cases hx
   | some vs' =>
    simp only [hvs, Option.some.injEq] at hx
    subst hx
    simp [h.eval hv, h.evals hvs]
theorem oN {e : bK} {t : Nat} {v : Value} : dJ ((t, v) :: e) t = some v := by simp [dJ]
theorem oO {e : bK} {t u : Nat} {v : Value} (h : t ≠ u) : dJ ((t, v) :: e) u = dJ e u := by
 have : Nat.beq t u = false := by
  cases hb : Nat.beq t u with
  | false => rfl
  | true => exact absurd (Nat.eq_of_beq_eq_true hb) h
 simp [dJ, this]
theorem Fr.put {a : Act} {N : FSz} {e : bK} (h : Fr a N e) {d : Nat} (hd : d < N.n) (v : Value) : Fr (a.put (some d) v) N ((d, v) :: e) := by
 refine ⟨h.defers, by simp [Act.put, h.size], fun t u hu => ?_⟩
 show (a.tmps.setIfInBounds d v)[t]? = some u
 by_cases e' : d = t
 subst e'
 rw [oN] at hu
 have hd' : d < a.tmps.size := by rw [h.size]; exact hd
 simp [hd', Option.some.inj hu]
 rw [oO e'] at hu
 rw [Array.getElem?_setIfInBounds, if_neg e']
 exact h.at_ t u hu
def iX (e e' : bK) : Prop := ∀ t v, dJ e' t = some v → dJ e t = some v
theorem Fr.sub {a : Act} {N : FSz} {e e' : bK} (h : Fr a N e) (s : iX e e') : Fr a N e' := ⟨h.defers, h.size, fun t v hv => h.at_ t v (s t v hv)⟩
theorem aX {e : bK} : iX e [] := fun _ _ h => by cases h
theorem aU {e e' : bK} {t : Nat} {v : Value} (h : dJ e t = some v) (k : iX e e') : iX e ((t, v) :: e') := fun u x hx => by
 by_cases c : t = u
 subst c; rw [oN] at hx; rw [h]; exact hx
 rw [oO c] at hx; exact k u x hx
theorem lF {e : bK} : iX e e := fun _ _ h => h
def aQ (W0 : World) (N : FSz) (K : Act → World → Prop) (e : bK) (A : List HP) : Prop := ∀ a w, Fr a N e → Own W0 w A → K a w
def Ex (Q : Exit → Act → World → Prop) (x : Exit) : Act → World → Prop := fun a w => Q x a w
def aC (P : Program) (W0 : World) (f : FuncId) (args : List Value) (A : List HP) (Post : Value → List HP → Prop) : Prop :=
  ∀ w, Own W0 w A → Calls P f args.toArray w fun e w' => ∃ v B, e = .returned v ∧ Post v B ∧ Own W0 w' B
section
variable {W0 : World} {N : FSz} {K K' : Act → World → Prop} {e e' : bK} {A B : List HP}
theorem fJ (h : Ent A B) (r : aQ W0 N K e B) : aQ W0 N K e A := fun a w hF hO => r a w hF (hO.ent h)
theorem oP (h : A.Perm B) (r : aQ W0 N K e B) : aQ W0 N K e A := fun a w hF hO => r a w hF (hO.perm h)
end
def FW (rd : Option Nat) : Fence := { Fence.wide with round := rd }
def _root_.Go.Code.wpR (c : Code) (rd : Option Nat) (P : Program) (Q : Exit → Act → World → Prop) (a : Act) (w : World) : Prop := c.wpIn (FW rd) 0 P Q a w
theorem oQ {P : Program} {c : Code} {Q : Exit → Act → World → Prop} {a : Act} {w : World} : c.wpR none P Q a w ↔ c.wp P Q a w := wpIn_wide
theorem oR {rd : Option Nat} {n : Nat} {P : Program} {f : FuncId} {args : Array Value} {w : World} {R : Ending → World → Prop} : CallsIn (FW rd) n P f args w R ↔ Calls P f args w R :=
  callsIn_wide (n := n)
theorem wB {rd : Option Nat} {P : Program} {m m' : Machine} : StepsIn (Machine.fenced P (FW rd)) P m m' ↔ Steps P m m' := stepsIn_wide
theorem rY {rd : Option Nat} {P : Program} {o : Oper} {a : Act} {K K' : Act → World → Prop} {Q : Exit → Act → World → Prop} (hk : ∀ a w, K a w → K' a w) :
    ∀ {r : Result Next}, o.upon P a K Q r → o.uponIn (FW rd) 0 P a K' Q r
 | .ok (.value v) w, h => hk _ _ h
 | .ok .skip w, h => hk _ _ h
 | .ok (.defer d) w, h => hk _ _ h
 | .ok (.enter f args) w, h => ⟨fun h => (by cases h), oR.2 (Calls.mono (show Calls P f args w _ from h) (by
     intro e w' he
     cases e with
     | returned v => exact hk _ _ he
     | panicked c => exact he
     | outgrown => exact he))⟩
 | .ok (.row row args) w, h => ⟨fun h => (by cases h), fun c cs _ => by
  obtain ⟨v, w', h1, h2⟩ := (show Rows P row args w _ from h) c cs
  exact ⟨v, w', hk _ _ h1, wB.2 h2⟩⟩
 | .halt (.panic v) w, h => h
theorem wC {rd : Option Nat} {P : Program} {o : Oper} {a : Act} {K K' : Act → World → Prop} {Q : Exit → Act → World → Prop} (hk : ∀ a w, K a w → K' a w) :
    ∀ {r : Result Next}, o.uponIn (FW rd) 0 P a K Q r → o.uponIn (FW rd) 0 P a K' Q r
 | .ok (.value v) w, h => hk _ _ h
 | .ok .skip w, h => hk _ _ h
 | .ok (.defer d) w, h => hk _ _ h
 | .ok (.enter f args) w, h => ⟨h.1, CallsIn.mono h.2 (by
     intro e w' he
     cases e with
     | returned v => exact hk _ _ he
     | panicked c => exact he
     | outgrown => exact he)⟩
 | .ok (.row row args) w, h => ⟨h.1, RowsIn.mono h.2 (fun v w' he => hk _ _ he)⟩
 | .ok (.round l f tmps assign body) w, h => ⟨h.1, RoundIn.mono h.2 (by
     intro e w' he
     cases e with
     | returned v => exact hk _ _ he
     | panicked c => exact he
     | outgrown => exact he)⟩
 | .halt (.panic v) w, h => h
def da (rd : Option Nat) (P : Program) (ops : Array Oper) (Q : Exit → Act → World → Prop) : List Oper → Act → World → Prop
 | [], a, w => Q .normal a w
 | o :: rest, a, w =>
  if Region.wanted o (yielded ops a.tmps) then o.wp P a w (da rd P ops Q rest) Q ∨ o.wpIn (FW rd) 0 P a w (da rd P ops Q rest) Q
  else da rd P ops Q rest (a.put o.dst undef) w
def oS (o : Oper) : Bool := match o.op with | .defer _ => false | _ => true
theorem rZ {o : Oper} (h : oS o = true) : ∀ c, o.op ≠ .defer c := fun c hc => by simp [oS, hc] at h
def jG (rd : Option Nat) (ops : List Oper) : Bool := rd.isNone || ops.all oS
theorem s0 {rd : Option Nat} {P : Program} {ops : Array Oper} {Q : Exit → Act → World → Prop} (hp : jG rd ops.toList = true) : ∀ (n i : Nat), i + n = ops.size → ∀ a w, da rd P ops Q (ops.toList.drop i) a w →
    wpOpsIn (FW rd) 0 P ops Q (List.range' i n) a w
 | 0, i, h, a, w, hw => by
  have : ops.toList.drop i = [] := by rw [List.drop_eq_nil_iff]; simp; omega
  rw [this] at hw; exact hw
 | n + 1, i, h, a, w, hw => by
  have hi : i < ops.size := by omega
  have e1 : ops.toList.drop i = ops[i] :: ops.toList.drop (i + 1) := by
   rw [List.drop_eq_getElem_cons (by simpa using hi)]; simp
  rw [e1] at hw
  rw [List.range'_succ]
  have ih := s0 (rd := rd) (P := P) (Q := Q) hp n (i + 1) (by omega)
  simp only [wpOpsIn, Array.getElem?_eq_getElem hi]
  simp only [da] at hw
  split at hw
  rename_i hwant
  rw [if_pos hwant]
  rcases hw with hw | hw
  have hsem : (ops[i]).semAt (FW rd).round a.eval = execOp a.eval ops[i] := by
   cases rd with
   | none => rfl
   | some l =>
    refine Oper.semAt_eq _ _ _ (rZ ?_)
    simp only [jG, Option.isNone_some, Bool.false_or, List.all_eq_true] at hp
    exact hp _ (by simp)
  refine ⟨fun _ _ => trivial, ?_⟩
  rw [hsem]
  exact rY ih hw
  exact ⟨hw.1, wC ih hw.2⟩
  rename_i hwant
  rw [if_neg hwant]
  exact ⟨fun _ _ => trivial, ih _ _ hw⟩
theorem wD {rd : Option Nat} {P : Program} {id : Nat} {ops : Array Oper} {Q : Exit → Act → World → Prop} {a : Act} {w : World} (hp : jG rd ops.toList = true)
    (h : da rd P ops Q ops.toList a w) : (Code.region id ops false).wpR rd P Q a w := by
 refine wpIn_region ?_
 rw [List.range_eq_range']
 exact s0 hp ops.size 0 (by omega) a w (by simpa using h)
section control
variable {rd : Option Nat} {P : Program} {W0 : World} {N : FSz} {Q Q' : Exit → Act → World → Prop} {e e' : bK} {A B : List HP}
theorem ah {id : Nat} {ops : Array Oper} (h : aQ W0 N (da rd P ops Q ops.toList) e A) (hp : jG rd ops.toList = true := by rfl) : aQ W0 N ((Code.region id ops false).wpR rd P Q) e A :=
  fun a w hF hO => wD hp (h a w hF hO)
theorem ae {x y : Code} (h : aQ W0 N (x.wpR rd P (Exit.then (y.wpR rd P Q) Q)) e A) : aQ W0 N ((Code.seq x y).wpR rd P Q) e A := fun a w hF hO => wpIn_seq (h a w hF hO)
theorem aB (h : aQ W0 N (Ex Q .normal) e A) : aQ W0 N (Code.skip.wpR rd P Q) e A := fun a w hF hO => wpIn_skip (h a w hF hO)
theorem av (h : aQ W0 N (Ex Q .ret) e A) : aQ W0 N (Code.ret.wpR rd P Q) e A := fun a w hF hO => wpIn_ret (h a w hF hO)
theorem bX {id : Nat} (h : aQ W0 N (Ex Q (.exit id)) e A) : aQ W0 N ((Code.exit id).wpR rd P Q) e A := fun a w hF hO => wpIn_exit (h a w hF hO)
theorem b0 {id : Nat} {c : Code} (h : aQ W0 N (c.wpR rd P (Exit.inBlock id Q)) e A) : aQ W0 N ((Code.block id c).wpR rd P Q) e A := fun a w hF hO => wpIn_block (h a w hF hO)
theorem s3 {l : Nat} (h : aQ W0 N (Ex Q .normal) e A) : aQ W0 N ((Code.label l).wpR rd P Q) e A := fun a w hF hO => wpIn_label (h a w hF hO)
theorem ag {ops : Array Oper} (h : aQ W0 N (Ex Q .normal) e A) : aQ W0 N (da rd P ops Q []) e A := fun a w hF hO => h a w hF hO
theorem wE {c : Operand} {x y : Code} {t : Nat} {b : Bool} (hc : c = .tmp t) (hv : dJ e t = some (.bool b))
    (ht : b = true → aQ W0 N (x.wpR rd P Q) ((t, .bool true) :: e) A) (hf : b = false → aQ W0 N (y.wpR rd P Q) ((t, .bool false) :: e) A) : aQ W0 N ((Code.cond c x y).wpR rd P Q) e A := by
  intro a w hF hO
  subst hc
  have hs : ∀ b', b = b' → iX e ((t, .bool b') :: e) := fun b' hb => aU (hb ▸ hv) lF
  cases hb : b with
  | true => exact wpIn_cond_true (hF.eval (x := .tmp t) (hb ▸ hv)) (ht hb a w (hF.sub (hs _ hb)) hO)
  | false => exact wpIn_cond_false (hF.eval (x := .tmp t) (hb ▸ hv)) (hf hb a w (hF.sub (hs _ hb)) hO)

-- ways out
theorem ab {n : Act → World → Prop} (h : aQ W0 N n e A) : aQ W0 N (Ex (Exit.then n Q) .normal) e A := h
theorem bF {id : Nat} (h : aQ W0 N (Ex Q .normal) e A) : aQ W0 N (Ex (Exit.inBlock id Q) .normal) e A := h
theorem bi {n : Act → World → Prop} {id : Nat} (h : aQ W0 N (Ex Q (.exit id)) e A) : aQ W0 N (Ex (Exit.then n Q) (.exit id)) e A := h
theorem bZ {id : Nat} (h : aQ W0 N (Ex Q .normal) e A) : aQ W0 N (Ex (Exit.inBlock id Q) (.exit id)) e A := fun a w hF hO => by
 simp only [Ex, Exit.inBlock, if_true]; exact h a w hF hO
theorem eK {id j : Nat} (hj : Nat.beq j id = false) (h : aQ W0 N (Ex Q (.exit j)) e A) : aQ W0 N (Ex (Exit.inBlock id Q) (.exit j)) e A := fun a w hF hO => by
 have : j ≠ id := Nat.ne_of_beq_eq_false hj
 simp only [Ex, Exit.inBlock, this, if_false]; exact h a w hF hO
theorem aD {n : Act → World → Prop} (h : aQ W0 N (Ex Q .ret) e A) : aQ W0 N (Ex (Exit.then n Q) .ret) e A := h
theorem bj {id : Nat} (h : aQ W0 N (Ex Q .ret) e A) : aQ W0 N (Ex (Exit.inBlock id Q) .ret) e A := h
def s4 (W0 : World) (N : FSz) {X : Type} (I : X → Prop) (E : X → bK) (C : X → List HP) (μ : X → Nat) (x : X) : Act → World → Prop :=
  fun a w => ∃ y, I y ∧ μ y < μ x ∧ Fr a N (E y) ∧ Own W0 w (C y)
theorem cC {X : Type} (I : X → Prop) (E : X → bK) (C : X → List HP) (μ : X → Nat) (x : X) {c : Code} (hI : I x) (hs : iX e (E x)) (he : Ent A (C x))
    (hr : ∀ x, I x → aQ W0 N (c.wpR rd P (Exit.then (s4 W0 N I E C μ x) Q)) (E x) (C x)) : aQ W0 N ((Code.loop c).wpR rd P Q) e A := by
 intro a w hF hO b k cs hro hb hr0
 have key : ∀ n x, μ x = n → I x → ∀ a w, Fr a N (E x) → Own W0 w (C x) →
     ∃ e a' w', Q e a' w' ∧ ArrivesIn (Machine.fenced P (FW rd)) P (lone (b.atR a (.code c :: .inLoop c :: k)) cs w) b k cs e a' w' := by
   intro n
   induction n using Nat.strongRecOn with
   | _ n ih =>
     intro x hn hIx a w hF hO
     obtain ⟨ex, a₁, w₁, hq, harr⟩ := hr x hIx a w hF hO b (.inLoop c :: k) cs hro hb hr0
     cases ex with
     | normal =>
       obtain ⟨y, hIy, hlt, hF₁, hO₁⟩ := hq
       obtain ⟨e₂, a₂, w₂, hq₂, harr₂⟩ := ih (μ y) (hn ▸ hlt) y rfl hIy a₁ w₁ hF₁ hO₁
       exact ⟨e₂, a₂, w₂, hq₂, .of_steps (StepsIn.trans harr (.one (fenced_calm hb hr0 rfl) stepR_inLoop)) harr₂⟩
     | exit id => exact ⟨_, a₁, w₁, hq, .pass (x := .inLoop c) rfl (fun _ _ => .inl (by simp)) harr⟩
     | goto l => exact ⟨_, a₁, w₁, hq, .pass (x := .inLoop c) rfl (fun _ _ => .inl (by simp)) harr⟩
     | ret => exact ⟨_, a₁, w₁, hq, .pass (x := .inLoop c) rfl (fun _ _ => .inl (by simp)) harr⟩
     | panic ch => exact ⟨_, a₁, w₁, hq, .pass (x := .inLoop c) rfl (fun _ _ => .inl (by simp)) harr⟩
     | outgrown => exact ⟨_, a₁, w₁, hq, .pass (x := .inLoop c) rfl (fun _ _ => .inl (by simp)) harr⟩
 obtain ⟨e, a', w', hq, harr⟩ := key _ x rfl hI a w (hF.sub hs) (hO.ent he)
 exact ⟨e, a', w', hq, .of_steps (.one (fenced_calm hb hr0 rfl) stepR_loop) harr⟩
theorem cp {X : Type} {I : X → Prop} {E : X → bK} {C : X → List HP} {μ : X → Nat} {x : X} (y : X) (hI : I y) (hμ : μ y < μ x) (hs : iX e (E y)) (he : Ent A (C y)) : aQ W0 N (s4 W0 N I E C μ x) e A :=
  fun _ _ hF hO => ⟨y, hI, hμ, hF.sub hs, hO.ent he⟩
def s5 (W0 : World) (N : FSz) {X : Type} (I : X → Prop) (E : X → bK) (C : X → List HP) : Act → World → Prop := fun a w => ∃ y, I y ∧ Fr a N (E y) ∧ Own W0 w (C y)
theorem gM {X : Type} (I : X → Prop) (E : X → bK) (C : X → List HP) {x y : Code} (h1 : aQ W0 N (x.wpR rd P (Exit.then (s5 W0 N I E C) Q)) e A)
    (h2 : ∀ z, I z → aQ W0 N (y.wpR rd P Q) (E z) (C z)) : aQ W0 N ((Code.seq x y).wpR rd P Q) e A := fun a w hF hO => by
 refine wpIn_seq (wpIn_mono (h1 a w hF hO) ?_)
 intro ex a' w' hq
 cases ex with
 | normal =>
  obtain ⟨z, hz, hF', hO'⟩ := hq
  exact h2 z hz a' w' hF' hO'
 | exit id => exact hq
 | goto l => exact hq
 | ret => exact hq
 | panic ch => exact hq
 | outgrown => exact hq
theorem dK {X : Type} {I : X → Prop} {E : X → bK} {C : X → List HP} (y : X) (hI : I y) (hs : iX e (E y)) (he : Ent A (C y)) : aQ W0 N (s5 W0 N I E C) e A :=
  fun _ _ hF hO => ⟨y, hI, hF.sub hs, hO.ent he⟩
end control
def bI (W0 : World) (A : List HP) : World → Prop := fun w => Own W0 w A
def cn (P : Program) (S : World → Prop) (N : FSz) (e : bK) (op : Op) (v : Value) : Prop :=
  ∀ a w dst ty pos af g, Fr a N e → S w → (execOp a.eval { dst := dst, op := op, type := ty, pos := pos, after := af, guard := g }).run P w = .ok (.value v) w
section
variable {rd : Option Nat} {P : Program} {W0 : World} {N : FSz} {Q : Exit → Act → World → Prop} {e : bK} {A : List HP} {ops : Array Oper} {rest : List Oper}
variable {op : Op} {ty : TypeId} {pos : String} {af : Array Edge} {v : Value} {d : Nat}
theorem lG {dst : Option Tmp} {y : Nat → Option Bool} : Region.wanted { dst := dst, op := op, type := ty, pos := pos, after := af, guard := none } y = true := rfl
theorem aa (hd : Nat.blt d N.n = true) (hv : cn P (bI W0 A) N e op v) (k : aQ W0 N (da rd P ops Q rest) ((d, v) :: e) A) :
    aQ W0 N (da rd P ops Q ({ dst := some d, op := op, type := ty, pos := pos, after := af, guard := none } :: rest)) e A := by
 intro a w hF hO
 simp only [da, lG, if_true]
 refine .inl ?_
 unfold Oper.wp
 rw [hv a w _ _ _ _ _ hF hO]
 exact k _ _ (hF.put (Nat.lt_of_lt_of_le (Nat.lt_of_succ_le (Nat.le_of_ble_eq_true hd)) (Nat.le_refl _)) v) hO
def hM (ops : Array Oper) (j : Nat) : Option Nat := (ops[j]?).bind (·.dst)
theorem oT {ops : Array Oper} {j t : Nat} {b : Bool} {a : Act} (ht : hM ops j = some t) (hv : a.tmps[t]? = some (.bool b)) : yielded ops a.tmps j = some b := by
 unfold hM at ht
 simp only [yielded]
 cases hj : ops[j]? with
 | none => rw [hj] at ht; cases ht
 | some o =>
  rw [hj] at ht
  simp only [Option.bind_some] at ht
  simp only [Option.bind_some, ht, hv]
theorem s6 {j t : Nat} {want b : Bool} {dst : Option Tmp} (ht : hM ops j = some t) (hv : dJ e t = some (.bool b)) (hd : (match dst with | some d => Nat.blt d N.n | none => true) = true)
    (h1 : b = want → aQ W0 N (da rd P ops Q ({ dst := dst, op := op, type := ty, pos := pos, after := af, guard := none } :: rest)) ((t, .bool want) :: e) A)
    (h2 : b = !want → aQ W0 N (da rd P ops Q rest) (match dst with | some d => (d, undef) :: (t, .bool !want) :: e | none => (t, .bool !want) :: e) A) :
    aQ W0 N (da rd P ops Q ({ dst := dst, op := op, type := ty, pos := pos, after := af, guard := some (j, want) } :: rest)) e A := by
 intro a w hF hO
 have hy := oT ht (hF.at_ t _ hv)
 by_cases hb : b = want
 have h := h1 hb a w (hF.sub (aU (hb ▸ hv) lF)) hO
 simp only [da, lG, if_true] at h
 have hw : Region.wanted { dst := dst, op := op, type := ty, pos := pos, after := af, guard := some (j, want) } (yielded ops a.tmps) = true := by
  simp [Region.wanted, hy, hb]
 simp only [da, hw, if_true]
 exact h
 have hb' : b = !want := by cases b <;> cases want <;> simp_all
 have hw : Region.wanted { dst := dst, op := op, type := ty, pos := pos, after := af, guard := some (j, want) } (yielded ops a.tmps) = false := by
  simp [Region.wanted, hy, hb']
 simp only [da, hw, Bool.false_eq_true, if_false]
 have hF' := hF.sub (aU (t := t) (v := .bool !want) (hb' ▸ hv) lF)
 cases dst with
 | none => exact h2 hb' a w hF' hO
 | some d => exact h2 hb' _ w (hF'.put (Nat.lt_of_succ_le (Nat.le_of_ble_eq_true hd)) undef) hO
theorem ar {j t : Nat} {want : Bool} {dst : Option Tmp} (ht : hM ops j = some t) (hv : dJ e t = some (.bool want))
    (h : aQ W0 N (da rd P ops Q ({ dst := dst, op := op, type := ty, pos := pos, after := af, guard := none } :: rest)) e A) :
    aQ W0 N (da rd P ops Q ({ dst := dst, op := op, type := ty, pos := pos, after := af, guard := some (j, want) } :: rest)) e A := by
 intro a w hF hO
 have hy := oT ht (hF.at_ t _ hv)
 have h := h a w hF hO
 simp only [da, lG, if_true] at h
 have hw : Region.wanted { dst := dst, op := op, type := ty, pos := pos, after := af, guard := some (j, want) } (yielded ops a.tmps) = true := by
  simp [Region.wanted, hy]
 simp only [da, hw, if_true]
 exact h
theorem f6 {j t : Nat} {want : Bool} (ht : hM ops j = some t) (hv : dJ e t = some undef) (hd : Nat.blt d N.n = true)
    (h : aQ W0 N (da rd P ops Q rest) ((d, undef) :: e) A) :
    aQ W0 N (da rd P ops Q ({ dst := some d, op := op, type := ty, pos := pos, after := af, guard := some (j, want) } :: rest)) e A := by
 intro a w hF hO
 have hy : yielded ops a.tmps j = none := by
  have hv' := hF.at_ t _ hv
  unfold hM at ht
  simp only [yielded]
  cases hj : ops[j]? with
  | none => rw [hj] at ht; cases ht
  | some o =>
   rw [hj] at ht
   simp only [Option.bind_some] at ht
   simp only [Option.bind_some, ht, hv']
   rfl
 have hw : Region.wanted { dst := some d, op := op, type := ty, pos := pos, after := af, guard := some (j, want) } (yielded ops a.tmps) = false := by
  simp [Region.wanted, hy]
 simp only [da, hw, Bool.false_eq_true, if_false]
 exact h _ w (hF.put (Nat.lt_of_succ_le (Nat.le_of_ble_eq_true hd)) undef) hO
theorem al {j t : Nat} {want b : Bool} (ht : hM ops j = some t) (hv : dJ e t = some (.bool b)) (hb : Bool.xor b want = true) (hd : Nat.blt d N.n = true)
    (h : aQ W0 N (da rd P ops Q rest) ((d, undef) :: e) A) :
    aQ W0 N (da rd P ops Q ({ dst := some d, op := op, type := ty, pos := pos, after := af, guard := some (j, want) } :: rest)) e A := by
 intro a w hF hO
 have hy := oT ht (hF.at_ t _ hv)
 have hw : Region.wanted { dst := some d, op := op, type := ty, pos := pos, after := af, guard := some (j, want) } (yielded ops a.tmps) = false := by
  cases b <;> cases want <;> simp_all [Region.wanted]
 simp only [da, hw, Bool.false_eq_true, if_false]
 exact h _ w (hF.put (Nat.lt_of_succ_le (Nat.le_of_ble_eq_true hd)) undef) hO
end
section
variable {rd : Option Nat} {P : Program} {S : World → Prop} {N : FSz} {e : bK} {x y c : Operand} {v u : Value} {t t' : TypeId} {k k' : IntKind} {m n r : Int}
theorem ac (h : ev e x = some v) : cn P S N e (.move x) v := fun a w _ _ _ _ _ hF _ => by
 rw [← hF.eval h]; rfl
theorem ai (h : ev e x = some v) : cn P S N e (.assign x) v := fun a w _ _ _ _ _ hF _ => by
 rw [← hF.eval h]; rfl
theorem aT (hc : ev e c = some (.bool true)) (h : ev e x = some v) : cn P S N e (.pick c x y) v := fun a w _ _ _ _ _ hF _ => by
 simp [execOp, hF.eval hc, hF.eval h, asBool]
theorem aJ (hc : ev e c = some (.bool false)) (h : ev e y = some v) : cn P S N e (.pick c x y) v := fun a w _ _ _ _ _ hF _ => by
 simp [execOp, hF.eval hc, hF.eval h, asBool]
theorem fi {op : BinOp} (hx : ev e x = some u) (hy : ev e y = some v) {r : Value} (hg : ∀ w x y, (eqGuard op t x y u v).run P w = .ok () w)
    (h : ∀ w, (binOp op t u v).run P w = .ok r w) : cn P S N e (.binOp op t x y t') r := fun a w _ _ _ _ _ hF _ => by
 simp only [execOp, hF.eval hx, hF.eval hy, Sem.run_bind, hg, Result.andThen_ok, h, Sem.run_pure]
theorem gz {op : BinOp} (w : World) (x y : Operand) : (eqGuard op t x y (.int k m) (.int k' n)).run P w = .ok () w := by
 cases op <;> simp [eqGuard]
theorem wF {op : BinOp} {p q : Bool} (w : World) (x y : Operand) : (eqGuard op t x y (.bool p) (.bool q)).run P w = .ok () w := by
 cases op <;> simp [eqGuard]
theorem wG {op : BinOp} {p q : Option Addr} (w : World) (x y : Operand) : (eqGuard op t x y (.pointer p) (.pointer q)).run P w = .ok () w := by
 cases op <;> simp [eqGuard]
theorem bC (hx : ev e x = some (.int k m)) (hy : ev e y = some (.int k n)) (hw : k.wrap (m + n) = r) : cn P S N e (.binOp .add t x y t') (.int k r) :=
  fi hx hy gz fun w => by simp [binOp, Op.intArith, hw]
theorem dW (hx : ev e x = some (.int k m)) (hy : ev e y = some (.int k n)) (hw : k.wrap (m - n) = r) : cn P S N e (.binOp .sub t x y t') (.int k r) :=
  fi hx hy gz fun w => by simp [binOp, Op.intArith, hw]
theorem iq (hx : ev e x = some (.int k m)) (hy : ev e y = some (.int k n)) (hw : k.wrap (m * n) = r) : cn P S N e (.binOp .mul t x y t') (.int k r) :=
  fi hx hy gz fun w => by simp [binOp, Op.intArith, hw]
theorem s7 (hx : ev e x = some (.int k m)) (hy : ev e y = some (.int k n)) (hn : n ≠ 0) (hw : k.wrap (m.tdiv n) = r) : cn P S N e (.binOp .quo t x y t') (.int k r) :=
  fi hx hy gz fun w => by simp [binOp, Op.intDiv, hw, hn]
def oU (k : IntKind) (m n : Int) : Int := k.wrap (BitVec.ofInt k.bits m &&& BitVec.ofInt k.bits n).toNat
def oV (k : IntKind) (m n : Int) : Int := k.wrap (BitVec.ofInt k.bits m &&& ~~~ BitVec.ofInt k.bits n).toNat
theorem s8 (hx : ev e x = some (.int k m)) (hy : ev e y = some (.int k n)) (hw : oU k m n = r) : cn P S N e (.binOp .and t x y t') (.int k r) :=
  fi hx hy gz fun w => by rw [← hw]; simp [binOp, Op.intBits, oU]
theorem wH (hx : ev e x = some (.int k m)) (hy : ev e y = some (.int k n)) (hw : oV k m n = r) : cn P S N e (.binOp .andNot t x y t') (.int k r) :=
  fi hx hy gz fun w => by rw [← hw]; simp [binOp, Op.intBits, oV]
def oW (k : IntKind) (m n : Int) : Int := k.wrap (m * 2 ^ (min n.toNat k.bits))
def kC (k : IntKind) (m n : Int) : Int := m.fdiv (2 ^ (min n.toNat k.bits))
theorem wI (hx : ev e x = some (.int k m)) (hy : ev e y = some (.int k' n)) (hn : 0 ≤ n) (hw : oW k m n = r) : cn P S N e (.binOp .shl t x y t') (.int k r) :=
  fi hx hy gz fun w => by
 have : ¬ n < 0 := by omega
 rw [← hw]; simp [binOp, Op.shift, this, oW]
theorem mP (hx : ev e x = some (.int k m)) (hy : ev e y = some (.int k' n)) (hn : 0 ≤ n) (hw : kC k m n = r) : cn P S N e (.binOp .shr t x y t') (.int k r) :=
  fi hx hy gz fun w => by
 have : ¬ n < 0 := by omega
 rw [← hw]; simp [binOp, Op.shift, this, kC]
theorem cz (hx : ev e x = some (.int k m)) (hy : ev e y = some (.int k n)) : cn P S N e (.binOp .eql t x y t') (.bool (m == n)) :=
  fi hx hy gz fun w => by simp [binOp, Op.intCmp]
theorem co (hx : ev e x = some (.int k m)) (hy : ev e y = some (.int k n)) : cn P S N e (.binOp .neq t x y t') (.bool (m != n)) :=
  fi hx hy gz fun w => by simp [binOp, Op.intCmp]
theorem aY (hx : ev e x = some (.int k m)) (hy : ev e y = some (.int k n)) : cn P S N e (.binOp .lss t x y t') (.bool (decide (m < n))) :=
  fi hx hy gz fun w => by simp [binOp, Op.intCmp]
theorem jH (hx : ev e x = some (.int k m)) (hy : ev e y = some (.int k n)) : cn P S N e (.binOp .leq t x y t') (.bool (decide (m ≤ n))) :=
  fi hx hy gz fun w => by simp [binOp, Op.intCmp]
theorem cd (hx : ev e x = some (.int k m)) (hy : ev e y = some (.int k n)) : cn P S N e (.binOp .gtr t x y t') (.bool (decide (n < m))) :=
  fi hx hy gz fun w => by simp [binOp, Op.intCmp]
theorem cF (hx : ev e x = some (.int k m)) (hy : ev e y = some (.int k n)) : cn P S N e (.binOp .geq t x y t') (.bool (decide (n ≤ m))) :=
  fi hx hy gz fun w => by simp [binOp, Op.intCmp]
theorem dF {d : TypeDesc} (h : P.underlying t = some d) (w : World) : (underlying t).run P w = .ok d w := by
 simp [underlying, h]
def iK (P : Program) (n : Nat) (t : TypeId) (u v : Value) (b : Bool) : Prop := ∀ d w, (Op.equalIn (d + n) t u v).run P w = .ok b w
theorem s9 {u v : Value} {b : Bool} (hb : binOp .eql t u v = (do pure (.bool (← Op.equal t u v)))) (h : iK P 9 t u v b) (w : World) : (binOp .eql t u v).run P w = .ok (.bool b) w := by
 rw [hb]
 have := h 9991 w
 show ((Op.equalIn (9991 + 9) t u v) >>= _).run P w = _
 rw [Sem.run_bind, this]; rfl
theorem sb {u v : Value} {b : Bool} (hb : binOp .neq t u v = (do pure (.bool (!(← Op.equal t u v))))) (h : iK P 9 t u v b) (w : World) : (binOp .neq t u v).run P w = .ok (.bool (!b)) w := by
 rw [hb]
 have := h 9991 w
 show ((Op.equalIn (9991 + 9) t u v) >>= _).run P w = _
 rw [Sem.run_bind, this]; rfl
theorem wJ {p q : Bool} {z : Nat} (hu : P.underlying t = some .bool) : iK P (z + 1) t (.bool p) (.bool q) (p == q) := fun d w => run_equalIn_bool' w (d + z) t p q hu
theorem sd {z : Nat} (hu : P.underlying t = some (.int k')) : iK P (z + 1) t (.int k m) (.int k n) (m == n) := fun d w => run_equalIn_int w (d + z) t k k' m n hu
theorem wK {p q : Bool} (hu : P.underlying t = some .bool) (hx : ev e x = some (.bool p)) (hy : ev e y = some (.bool q)) : cn P S N e (.binOp .neq t x y t') (.bool (!(p == q))) :=
  fi hx hy wF (sb rfl (wJ hu))
theorem wL {E : TypeId} {p : Option Addr} {z : Nat} (hu : P.underlying t = some (.pointer E)) : iK P (z + 1) t (.pointer p) (.pointer none) p.isNone := fun d w =>
  run_equalIn_pointer_nil w (d + z) t p (by rw [show P.pointee t = E by simp [Program.pointee, hu]]; exact hu)
theorem dl {E : TypeId} {p : Option Addr} (hu : P.underlying t = some (.pointer E)) (hx : ev e x = some (.pointer p)) (hy : ev e y = some (.pointer none)) : cn P S N e (.binOp .eql t x y t') (.bool p.isNone) :=
  fi hx hy wG (s9 rfl (wL hu))
def kD (P : Program) (z : Nat) (xs ys : List Value) (fs : List Field) (b : Bool) : Prop := ∀ d w, (Op.eqFields (d + z) xs.toArray ys.toArray fs).run P w = .ok b w
theorem wM {xs ys : List Value} {z : Nat} : kD P z xs ys [] true := fun d w => by simp [Op.eqFields]
theorem mQ {l : List Value} {i : Nat} (ha : ∀ w, (isAgg t).run P w = .ok false w) (hi : l[i]? = some v) (w : World) : (part t l.toArray i).run P w = .ok v w := by
 simp [part, ha, hi]
theorem wN {xs ys : List Value} {nm : String} {ft fo : Nat} {em : Bool} {tg pk : String} {bo : Nat} {fs : List Field} {b c : Bool} {z : Nat} (hn : (nm == "_") = false) (hx : ∀ w, (part ft xs.toArray fo).run P w = .ok u w) (hy : ∀ w, (part ft ys.toArray fo).run P w = .ok v w)
    (h : iK P z ft u v b) (r : kD P z xs ys fs c) : kD P z xs ys (⟨nm, ft, fo, em, tg, pk, bo⟩ :: fs) (b && c) := fun d w => by
 have hn' : nm ≠ "_" := by simpa using hn
 simp only [Op.eqFields, hn', ne_eq, not_false_eq_true, if_true, Sem.run_bind, hx, hy, Result.andThen_ok, h d]
 cases b with
 | false => simp
 | true => simp [r d w]
theorem se {xs ys : List Value} {nm : String} {ft fo : Nat} {em : Bool} {tg pk : String} {bo : Nat} {fs : List Field} {b c : Bool} {z : Nat} (hn : (nm == "_") = false) (ha : ∀ w, (isAgg ft).run P w = .ok false w) (hx : xs[fo]? = some u) (hy : ys[fo]? = some v)
    (h : iK P z ft u v b) (r : kD P z xs ys fs c) : kD P z xs ys (⟨nm, ft, fo, em, tg, pk, bo⟩ :: fs) (b && c) := wN hn (mQ ha hx) (mQ ha hy) h r
theorem wO {xs ys : List Value} {fs : Array Field} {b : Bool} {z : Nat} (hu : P.underlying t = some (.struct fs)) (hp : P.stoodInHeld t = false) (h : kD P z xs ys fs.toList b) : iK P (z + 1) t (.agg xs.toArray) (.agg ys.toArray) b := fun d w => by
 have hf : P.fieldsOf t = fs := by simp [Program.fieldsOf, hu]
 rw [← Nat.add_assoc, run_equalIn_struct w (d + z) t _ _ (by rw [hf]; exact hu) hp, hf]
 exact h d w
theorem wP {op : BinOp} {xs ys : Array Value} (hg : P.eqGuardType P.depth t = false) (w : World) (x y : Operand) : (eqGuard op t x y (.agg xs) (.agg ys)).run P w = .ok () w := by
 cases op <;> simp [eqGuard, hg]
theorem wQ {xs ys : List Value} {b : Bool} (hg : P.eqGuardType P.depth t = false) (hx : ev e x = some (.agg xs.toArray)) (hy : ev e y = some (.agg ys.toArray)) (h : iK P 9 t (.agg xs.toArray) (.agg ys.toArray) b) : cn P S N e (.binOp .neq t x y t') (.bool (!b)) :=
  fi hx hy (wP hg) (sb rfl h)
theorem bN {b : Bool} (hx : ev e x = some (.bool b)) : cn P S N e (.unOp .not t x) (.bool (!b)) := fun a w _ _ _ _ _ hF _ => by
 simp [execOp, hF.eval hx, Op.unary]
theorem lH {d : TypeDesc} (hs : P.underlying t = some d) (hu : P.underlying t' = some (.int k)) (hx : ev e x = some (.int k' n)) (hw : k.wrap n = r) : cn P S N e (.convert t t' x) (.int k r) := fun a w _ _ _ _ _ hF _ => by
 rw [← hw]; simp [execOp, hF.eval hx, convert, dF hs, dF hu, Conv.intToInt]
theorem aZ {l : List Value} {i : Nat} (hx : ev e x = some (.tuple l.toArray)) (hi : l[i]? = some v) : cn P S N e (.extract x i) v := fun a w _ _ _ _ _ hF _ => by
 simp [execOp, hF.eval hx, Instr.extract, hi]
theorem aH {a' : Addr} (hx : ev e x = some (.pointer (some a'))) : cn P S N e (.nilCheck x) (.pointer (some a')) := fun a w _ _ _ _ _ hF _ => by
 simp [execOp, hF.eval hx]
theorem bq {E n c : Nat} {a' : Option Addr} (hu : P.underlying t = some (.slice E)) (hx : ev e x = some (.slice a' n c)) :
    cn P S N e (.call { callee := .builtin .len, args := #[x], argTypes := #[t] }) (.int .i64 n) := fun a w _ _ _ _ _ hF _ => by
 simp [execOp, resolve, invoke, builtin, Builtin.len_, hF.eval hx, dF hu, goInt]
theorem ao {T : TypeId} {fs : Array Field} {nm : String} {ft fo : Nat} {em : Bool} {tg pk : String} {bo i b off off' sz : Nat} (hx : ev e x = some (.pointer (some ⟨b, off, none⟩))) (hu : P.underlying T = some (.struct fs)) (hf : fs.toList[i]? = some ⟨nm, ft, fo, em, tg, pk, bo⟩)
    (hs : ∀ w, (sizeOf ft).run P w = .ok sz w) (hz : Nat.beq sz 0 = false) (ho : off + fo = off') : cn P S N e (.fieldAddr T x i) (.pointer (some ⟨b, off', none⟩)) := fun a w _ _ _ _ _ hF _ => by
 subst ho
 have hz' : sz ≠ 0 := Nat.ne_of_beq_eq_false hz
 have hf' : fs[i]? = some ⟨nm, ft, fo, em, tg, pk, bo⟩ := by simpa using hf
 simp [execOp, Instr.fieldAt, hF.eval hx, dF hu, hf', Instr.sureAddr, fieldPlace, hs, hz', Addr.add]
end
class SetL (l : List Value) (i : Nat) (v : Value) (l' : outParam (List Value)) : Prop where
  eq : l.set i v = l'
instance CN {x v : Value} {l : List Value} : SetL (x :: l) 0 v (v :: l) := ⟨rfl⟩
instance CO {x v : Value} {l l' : List Value} {i : Nat} [h : SetL l i v l'] : SetL (x :: l) (i + 1) v (x :: l') := ⟨by rw [List.set_cons_succ, h.eq]⟩
def setR : List Value → Nat → List Value → List Value
 | l, _, [] => l
 | l, i, v :: vs => setR (l.set i v) (i + 1) vs
theorem lI : ∀ (vs l : List Value) (i : Nat), (setR l i vs).length = l.length
 | [], _, _ => rfl
 | v :: vs, l, i => by rw [setR, lI vs]; simp
class SetRL (l : List Value) (i : Nat) (vs : List Value) (l' : outParam (List Value)) : Prop where
  eq : setR l i vs = l'
instance CP {l : List Value} {i : Nat} : SetRL l i [] l := ⟨rfl⟩
instance CQ {l l' l'' vs : List Value} {i : Nat} {v : Value} [h : SetL l i v l'] [k : SetRL l' (i + 1) vs l''] : SetRL l i (v :: vs) l'' := ⟨by rw [setR, h.eq, k.eq]⟩
theorem mR : ∀ (vs l p : List Value), vs.length = l.length → setR (p ++ l) p.length vs = p ++ vs
 | [], l, p, h => by
  have : l = [] := List.length_eq_zero_iff.1 h.symm
  subst this; rfl
 | v :: vs, [], p, h => by simp at h
 | v :: vs, x :: l, p, h => by
  rw [setR]
  have e1 : (p ++ x :: l).set p.length v = (p ++ [v]) ++ l := by simp
  rw [e1]
  have := mR vs l (p ++ [v]) (by simpa using h)
  simp only [List.length_append, List.length_cons, List.length_nil, Nat.zero_add] at this
  rw [this]; simp
class TakeL (l : List Value) (i n : Nat) (l' : outParam (List Value)) : Prop where
  eq : (l.drop i).take n = l'
instance CR {l : List Value} : TakeL l 0 0 [] := ⟨by simp⟩
instance CS {l l' : List Value} {n : Nat} {x : Value} [h : TakeL l 0 n l'] : TakeL (x :: l) 0 (n + 1) (x :: l') := ⟨by have := h.eq; simp at this; simp [this]⟩
instance CU {l l' : List Value} {i n : Nat} {x : Value} [h : TakeL l i n l'] : TakeL (x :: l) (i + 1) n l' := ⟨by rw [List.drop_succ_cons, h.eq]⟩
section
variable {rd : Option Nat} {P : Program} {S : World → Prop} {W0 : World} {N : FSz} {Q : Exit → Act → World → Prop} {e : bK} {A B R : List HP} {ops : Array Oper} {rest : List Oper}
variable {op : Op} {ty t : TypeId} {pos : String} {af : Array Edge} {v : Value} {d b off : Nat} {x y : Operand} {l l' vs : List Value}
def gA (S : World → Prop) (b off : Nat) (v : Value) : Prop := ∀ w, S w → w.cell? ⟨b, off, none⟩ = some v
theorem Own.tk {K X : Type} {r : K → X → HP} {w : World} {b : K} {x : X} (h : Own W0 w A) [k : Tk r b A x R] : Own W0 w (r b x :: R) := h.perm k.perm
theorem aA [h : Tk pt b A (aw l ty) R] (hv : l[off]? = some v) : gA (bI W0 A) b off v := fun w (hO : Own W0 w A) => by
 have := (hO.tk (r := pt) (b := b)).has.2
 simp [World.cell?, this, hv]
theorem wR (h : W0.cell? ⟨b, off, none⟩ = some v) : gA (bI W0 A) b off v := fun w (hO : Own W0 w A) => by
 have hb : b < W0.heap.size := by
  rcases Nat.lt_or_ge b W0.heap.size with k | k
  exact k
  simp [World.cell?, Array.getElem?_eq_none k] at h
 rw [← h]; simp [World.cell?, hO.base b hb]
theorem gA.weak (h : gA (bI W0 B) b off v) [k : Ent A B] : gA (bI W0 A) b off v := fun w (hO : Own W0 w A) => h w (hO.ent k)
def cJ (S : World → Prop) (b off : Nat) (vs : List Value) : Prop := ∀ i v, vs[i]? = some v → gA S b (off + i) v
theorem lJ [h : Tk pt b A (aw l ty) R] (hv : (l.drop off).take vs.length = vs) : cJ (bI W0 A) b off vs := fun i v hi => by
 refine aA ?_
 have hlt : i < vs.length := by
  rcases Nat.lt_or_ge i vs.length with k | k
  exact k
  simp [List.getElem?_eq_none k] at hi
 rw [← hv] at hi
 rw [List.getElem?_take_of_lt hlt, List.getElem?_drop] at hi
 exact hi
theorem fz [h : Tk pt b A (aw l ty) R] {n : Nat} (hv : (l.drop off).take n = vs) (hn : vs.length = n) : cJ (bI W0 A) b off vs := lJ (by rw [hn]; exact hv)
theorem fa (n : Nat) : (⟨b, off, none⟩ : Addr).add n = ⟨b, off + n, none⟩ := by
 unfold Addr.add; split
 rename_i h; subst h; rfl
 rfl
theorem mT {w : World} (hc : ∀ i v, vs[i]? = some v → w.cell? ⟨b, off + i, none⟩ = some v) : ∀ (n i : Nat) (acc : Array Value), i + n = vs.length →
    (loadCellsFrom ⟨b, off, none⟩ i n acc).run P w = .ok (acc ++ (vs.drop i).toArray) w
 | 0, i, acc, h => by
  have : vs.drop i = [] := by rw [List.drop_eq_nil_iff]; omega
  simp [loadCellsFrom, this]
 | n + 1, i, acc, h => by
  have hi : i < vs.length := by omega
  have hcell := hc i vs[i] (by simp [hi])
  simp only [loadCellsFrom, Sem.run_bind, run_load, fa, hcell, Result.andThen_ok]
  rw [mT hc n (i + 1) _ (by omega)]
  rw [List.drop_eq_getElem_cons hi]
  simp
theorem ap (ha : ∀ w, (isAgg t).run P w = .ok false w) (hx : ev e x = some (.pointer (some ⟨b, off, none⟩))) (hc : gA S b off v) : cn P S N e (.load t x) v := fun a w _ _ _ _ _ hF hO => by
 simp [execOp, Instr.loadAt, Instr.sureAddr, hF.eval hx, loadVar, ha, hc w hO]
theorem cQ {n : Nat} (ha : ∀ w, (isAgg t).run P w = .ok true w) (hs : ∀ w, (sizeOf t).run P w = .ok n w) (hx : ev e x = some (.pointer (some ⟨b, off, none⟩))) (hc : cJ S b off vs) (hn : vs.length = n) :
    cn P S N e (.load t x) (.agg vs.toArray) := fun a w _ _ _ _ _ hF hO => by
 have := mT (P := P) (w := w) (fun i v hi => hc i v hi w hO) n 0 #[] (by omega)
 simp [execOp, Instr.loadAt, Instr.sureAddr, hF.eval hx, loadVar, ha, hs, loadCells, this]
theorem cu [h : Tk pt b A (aw l ty) R] {n : Nat} (ha : ∀ w, (isAgg t).run P w = .ok true w) (hs : ∀ w, (sizeOf t).run P w = .ok n w) (hx : ev e x = some (.pointer (some ⟨b, 0, none⟩))) (hn : l.length = n) :
    cn P (bI W0 A) N e (.load t x) (.agg l.toArray) :=
  cQ ha hs hx (lJ (by simp)) hn
theorem sf {w : World} (h : Own W0 w (pt b (aw l ty) :: R)) (v : Value) : Own W0 (w.setCell ⟨b, off, none⟩ v) (pt b (aw (l.set off v) ty) :: R) := by
 refine h.set rfl rfl rfl (by simp [World.setCell]) ?_ (fun k hk => Below.heap_setCell _ _ _ _ hk)
 have := h.has.2
 simp [World.setCell, Array.getElem?_modify, this, aw]
theorem sg {w : World} (h : Own W0 w (pt b (aw l ty) :: R)) (ho : off < l.length) (h1 : v.oneCell' = true) : (store ⟨b, off, none⟩ v).run P w = .ok () (w.setCell ⟨b, off, none⟩ v) := by
 have hb := h.has.2
 rw [run_store P w _ v _ h1]
 have : w.cell? ⟨b, off, none⟩ = some l[off] := by simp [World.cell?, hb, ho]
 simp [this, World.frozen?, hb]
theorem jI (h1 : v.oneCell' = true) : v.cells = #[v] := by cases v <;> first | rfl | cases h1
def di (P : Program) (W0 : World) (N : FSz) (e : bK) (A : List HP) (op : Op) (Post : Value → List HP → Prop) : Prop :=
  ∀ a w dst ty pos af g (K : Act → World → Prop) (Q : Exit → Act → World → Prop), Fr a N e → Own W0 w A → (∀ v w' B, Post v B → Own W0 w' B → K (a.put dst v) w') →
    Oper.wp P { dst := dst, op := op, type := ty, pos := pos, after := af, guard := g } a w K Q
theorem am {Post : Value → List HP → Prop} (hd : Nat.blt d N.n = true) (h : di P W0 N e A op Post) (k : ∀ v B, Post v B → aQ W0 N (da rd P ops Q rest) ((d, v) :: e) B) :
    aQ W0 N (da rd P ops Q ({ dst := some d, op := op, type := ty, pos := pos, after := af, guard := none } :: rest)) e A := by
 intro a w hF hO
 simp only [da, lG, if_true]
 exact .inl (h a w _ _ _ _ _ _ _ hF hO fun v w' B hp hO' => k v B hp _ _ (hF.put (Nat.lt_of_succ_le (Nat.le_of_ble_eq_true hd)) v) hO')
theorem bE {Post : Value → List HP → Prop} (h : di P W0 N e A op Post) (k : ∀ v B, Post v B → aQ W0 N (da rd P ops Q rest) e B) :
    aQ W0 N (da rd P ops Q ({ dst := none, op := op, type := ty, pos := pos, after := af, guard := none } :: rest)) e A := by
 intro a w hF hO
 simp only [da, lG, if_true]
 exact .inl (h a w _ _ _ _ _ _ _ hF hO fun v w' B hp hO' => k v B hp _ _ hF hO')
theorem jJ {Post : Value → List HP → Prop} (h : ∀ a w dst ty pos af g, Fr a N e → Own W0 w A → ∃ v w' B, ((execOp a.eval { dst := dst, op := op, type := ty, pos := pos, after := af, guard := g }).run P w = .ok (.value v) w' ∨
      ((execOp a.eval { dst := dst, op := op, type := ty, pos := pos, after := af, guard := g }).run P w = .ok .skip w' ∧ v = undef)) ∧ Post v B ∧ Own W0 w' B) : di P W0 N e A op Post := by
 intro a w dst ty pos af g K Q hF hO k
 obtain ⟨v, w', B, hr, hp, hO'⟩ := h a w dst ty pos af g hF hO
 unfold Oper.wp
 rcases hr with hr | ⟨hr, rfl⟩
 rw [hr]; exact k v w' B hp hO'
 rw [hr]; exact k _ w' B hp hO'
theorem eD (h : cn P (bI W0 A) N e op v) : di P W0 N e A op (fun u B => u = v ∧ B = A) := jJ fun a w _ _ _ _ _ hF hO =>
  ⟨v, w, A, .inl (h a w _ _ _ _ _ hF hO), ⟨rfl, rfl⟩, hO⟩
theorem ce [h : Tk pt b A (aw l ty) R] (hs : ∀ w, (sizeOf t).run P w = .ok 1 w) (hx : ev e x = some (.pointer (some ⟨b, off, none⟩))) (hy : ev e y = some v)
    (h1 : v.oneCell' = true) (ho : off < l.length) (hl : l.set off v = l') : di P W0 N e A (.store t x y) (fun _ B => B = pt b (aw l' ty) :: R) := jJ fun a w _ _ _ _ _ hF hO => by
 have hO' := hO.tk (r := pt) (b := b)
 refine ⟨undef, w.setCell ⟨b, off, none⟩ v, _, .inr ⟨?_, rfl⟩, rfl, hl ▸ sf hO' v⟩
 simp [execOp, Instr.storeAt, Instr.sureAddr, hF.eval hx, hF.eval hy, storeVar, hs, jI h1, storeCells, fa, sg hO' ho h1]
theorem oX : ∀ (vs : List Value) {l : List Value} {w : World} (i : Nat), Own W0 w (pt b (aw l ty) :: R) → off + i + vs.length ≤ l.length → (∀ v ∈ vs, v.oneCell' = true) →
    ∃ w', (storeCells ⟨b, off, none⟩ vs i).run P w = .ok () w' ∧ Own W0 w' (pt b (aw (setR l (off + i) vs) ty) :: R)
 | [], l, w, i, h, _, _ => ⟨w, by simp [storeCells], h⟩
 | v :: vs, l, w, i, h, hlen, h1 => by
  simp only [List.length_cons] at hlen
  have hr := sg (P := P) h (off := off + i) (by omega) (h1 v (by simp))
  obtain ⟨w', hr', ho'⟩ := oX vs (i + 1) (sf (off := off + i) h v) (by simp; omega) (fun u hu => h1 u (by simp [hu]))
  refine ⟨w', ?_, ho'⟩
  simp only [storeCells, Sem.run_bind, fa, hr, Result.andThen_ok, hr']
def en (vs : List Value) : Bool := vs.all (·.oneCell')
theorem ir {n : Nat} [h : Tk pt b A (aw l ty) R] (hs : ∀ w, (sizeOf t).run P w = .ok n w) (hx : ev e x = some (.pointer (some ⟨b, off, none⟩))) (hy : ev e y = some (.agg vs.toArray))
    (hn : vs.length = n) (h1 : en vs = true) (ho : off + n ≤ l.length) (hl : setR l off vs = l') : di P W0 N e A (.store t x y) (fun _ B => B = pt b (aw l' ty) :: R) := jJ fun a w _ _ _ _ _ hF hO => by
 have hO' := hO.tk (r := pt) (b := b)
 obtain ⟨w', hr, hO''⟩ := oX (P := P) (off := off) vs 0 hO' (by omega) (fun v hv => by simpa [en] using (List.all_eq_true.1 h1 v hv))
 rw [Nat.add_zero] at hO''
 refine ⟨undef, w', _, .inr ⟨?_, rfl⟩, rfl, hl ▸ hO''⟩
 simp [execOp, Instr.storeAt, Instr.sureAddr, hF.eval hx, hF.eval hy, storeVar, hs, Value.cells, hn, hr]
theorem cK {n : Nat} [h : Tk pt b A (aw l ty) R] (hs : ∀ w, (sizeOf t).run P w = .ok n w) (hx : ev e x = some (.pointer (some ⟨b, 0, none⟩))) (hy : ev e y = some (.agg vs.toArray))
    (hn : vs.length = n) (h1 : en vs = true) (ho : l.length = n) : di P W0 N e A (.store t x y) (fun _ B => B = pt b (aw vs ty) :: R) :=
  ir hs hx hy hn h1 (by omega) (by simpa using mR vs l [] (by omega))
theorem jK {o : Obj} {g : Nat → Value}
    (hrun : ∀ a w dst ty pos af g', Fr a N e → Own W0 w A → (execOp a.eval { dst := dst, op := op, type := ty, pos := pos, after := af, guard := g' }).run P w = .ok (.value (g w.heap.size)) { w with heap := w.heap.push o }) :
    di P W0 N e A op (fun v B => ∃ b, v = g b ∧ B = pt b o :: A) := jJ fun a w _ _ _ _ _ hF hO =>
  ⟨_, _, _, .inl (hrun a w _ _ _ _ _ hF hO), ⟨w.heap.size, rfl, rfl⟩, hO.new o⟩
theorem dd (hz : ∀ w, (zeroValue t).run P w = .ok (.agg l.toArray) w) : di P W0 N e A (.alloc t) (fun v B => ∃ b, v = .pointer (some ⟨b, 0, none⟩) ∧ B = pt b (aw l t) :: A) :=
  jK (g := fun b => .pointer (some ⟨b, 0, none⟩)) (fun a w _ _ _ _ _ hF _ => by simp [execOp, Instr.alloc, hz, newVar, newRow, Value.cells])
theorem mV (hz : ∀ w, (zeroValue t).run P w = .ok v w) (h1 : v.oneCell' = true) : di P W0 N e A (.alloc t) (fun u B => ∃ b, u = .pointer (some ⟨b, 0, none⟩) ∧ B = pt b (aw [v] t) :: A) :=
  jK (g := fun b => .pointer (some ⟨b, 0, none⟩)) (fun a w _ _ _ _ _ hF _ => by simp [execOp, Instr.alloc, hz, newVar, newRow, jI h1])
theorem bL (hx : ev e x = some (.agg l.toArray)) : di P W0 N e A (.box t x) (fun v B => ∃ b, v = .pointer (some ⟨b, 0, none⟩) ∧ B = pt b (aw l t) :: A) :=
  jK (g := fun b => .pointer (some ⟨b, 0, none⟩)) (fun a w _ _ _ _ _ hF _ => by simp [execOp, Instr.box, hF.eval hx, newVar, newRow, Value.cells])
theorem ji (hx : ev e x = some v) (h1 : v.oneCell' = true) : di P W0 N e A (.box t x) (fun u B => ∃ b, u = .pointer (some ⟨b, 0, none⟩) ∧ B = pt b (aw [v] t) :: A) :=
  jK (g := fun b => .pointer (some ⟨b, 0, none⟩)) (fun a w _ _ _ _ _ hF _ => by simp [execOp, Instr.box, hF.eval hx, newVar, newRow, jI h1])
def kE (P : Program) (fs : List Field) (e : bK) (l : List Value) (ps : List (Nat × Operand)) (l' : List Value) : Prop :=
  ∀ (a : Act), (∀ x v, ev e x = some v → a.eval x = v) → ∀ (pl : Nat → Option (Nat × Nat)), (∀ i f, fs[i]? = some f → ∃ n, pl i = some (f.offset, n) ∧ ∀ w, (sizeOf f.type).run P w = .ok n w) →
    Instr.fill pl l.toArray (ps.map fun (i, x) => (i, a.eval x)) = some l'.toArray
theorem oY : ∀ (vs : List Value) (l : List Value) (off : Nat), (vs.toArray.zipIdx.foldl (fun cs (c, j) => cs.setIfInBounds (off + j) c) l.toArray) = (setR l off vs).toArray := by
 intro vs
 suffices h : ∀ (vs : List Value) (l : List Value) (off s : Nat), (vs.zipIdx s).foldl (fun (cs : Array Value) (x : Value × Nat) => cs.setIfInBounds (off + x.2) x.1) l.toArray = (setR l (off + s) vs).toArray by
  intro l off
  have := h vs l off 0
  rw [← Array.foldl_toList]
  simpa using this
 intro vs
 induction vs with
 | nil => intro l off s; rfl
 | cons v vs ih =>
  intro l off s
  rw [List.zipIdx_cons, List.foldl_cons, setR]
  have := ih (l.set (off + s) v) off (s + 1)
  rw [← Nat.add_assoc] at this
  simpa using this
theorem bO {fs : List Field} : kE P fs e l [] l := fun _ _ _ _ => rfl
theorem bn {fs : List Field} {nm : String} {ft fo : Nat} {em : Bool} {tg pk : String} {bo i : Nat} {ps : List (Nat × Operand)} {l'' : List Value} (hf : fs[i]? = some ⟨nm, ft, fo, em, tg, pk, bo⟩) (hs : ∀ w, (sizeOf ft).run P w = .ok 1 w)
    (hx : ev e x = some v) (h1 : v.oneCell' = true) (ho : fo < l.length) (hl : l.set fo v = l') (r : kE P fs e l' ps l'') : kE P fs e l ((i, x) :: ps) l'' := by
 intro a ha pl hp
 obtain ⟨n, hpl, hn⟩ := hp i _ hf
 have hn1 : n = 1 := by have := (hn default).symm.trans (hs default); simpa using this
 subst hn1
 have hv := ha x v hx
 simp only [List.map_cons, Instr.fill, hpl, hv, jI h1]
 have hc : ¬ (fo + 1 > l.length) := by omega
 simp [hc, hl]
 simpa using r a ha pl hp
theorem it {fs : List Field} {nm : String} {ft fo : Nat} {em : Bool} {tg pk : String} {bo i n : Nat} {ps : List (Nat × Operand)} {l'' : List Value} (hf : fs[i]? = some ⟨nm, ft, fo, em, tg, pk, bo⟩) (hs : ∀ w, (sizeOf ft).run P w = .ok n w)
    (hx : ev e x = some (.agg vs.toArray)) (hn : vs.length = n) (ho : fo + n ≤ l.length) (hl : setR l fo vs = l') (r : kE P fs e l' ps l'') : kE P fs e l ((i, x) :: ps) l'' := by
 intro a ha pl hp
 obtain ⟨m, hpl, hm⟩ := hp i _ hf
 have hmn : m = n := by have := (hm default).symm.trans (hs default); simpa using this
 subst hmn
 have hv := ha x _ hx
 simp only [List.map_cons, Instr.fill, hpl, hv, Value.cells]
 have hc : ¬ (fo + vs.length > l.length) := by omega
 have hc' : ¬ (vs.length ≠ m) := by omega
 simp only [List.size_toArray, hc, hc', decide_false, Bool.or_false, if_false, oY, hl, Bool.false_eq_true]
 exact r a ha pl hp
def kF (f : Field) : Sem (Nat × Nat) := do pure (f.offset, ← sizeOf f.type)
theorem sh {P : Program} {w : World} : ∀ (fs : List Field), (∀ f : Field, f ∈ fs → ∃ n, ∀ w, (sizeOf f.type).run P w = .ok n w) →
    ∃ ps : List (Nat × Nat), (fs.mapM kF).run P w = .ok ps w ∧
      ∀ (i : Nat) (f : Field), fs[i]? = some f → ∃ n, ps[i]? = some (f.offset, n) ∧ ∀ w, (sizeOf f.type).run P w = .ok n w
 | [], _ => ⟨[], by simp, fun i f h => by simp at h⟩
 | f :: fs, h => by
  obtain ⟨n, hn⟩ := h f (by simp)
  obtain ⟨ps, hps, hq⟩ := sh fs (fun g hg => h g (by simp [hg]))
  refine ⟨(f.offset, n) :: ps, ?_, fun i g hi => ?_⟩
  simp only [List.mapM_cons, kF, Sem.run_bind, hn, Result.andThen_ok, Sem.run_pure]
  rw [hps]; rfl
  cases i with
  | zero => simp only [List.getElem?_cons_zero, Option.some.injEq] at hi; subst hi; exact ⟨n, rfl, hn⟩
  | succ i => exact hq i g (by simpa using hi)
def mW (P : Program) (fs : List Field) : Prop := ∀ f : Field, f ∈ fs → ∃ n, ∀ w, (sizeOf f.type).run P w = .ok n w
theorem bP : mW P [] := fun _ h => by cases h
theorem aE {nm : String} {ft fo : Nat} {em : Bool} {tg pk : String} {bo n : Nat} {fs : List Field} (h : ∀ w, (sizeOf ft).run P w = .ok n w) (k : mW P fs) : mW P (⟨nm, ft, fo, em, tg, pk, bo⟩ :: fs) := fun f hf => by
 rcases List.mem_cons.1 hf with rfl | hf
 exact ⟨n, h⟩
 exact k f hf
theorem bQ {fs : Array Field} {ps : Array (Nat × Operand)} (hu : P.underlying t = some (.struct fs)) (hz : ∀ w, (zeroValue t).run P w = .ok (.agg l.toArray) w) (hs : mW P fs.toList) (hf : kE P fs.toList e l ps.toList l') :
    cn P S N e (.build t ps) (.agg l'.toArray) := fun a w _ _ _ _ _ hF _ => by
 obtain ⟨pls, hpl, hq⟩ := sh (w := w) fs.toList hs
 have := hf a (fun x v h => hF.eval h) (fun i => pls.toArray[i]?) (fun i f h => by simpa using hq i f h)
 have hm : (fs.mapM kF).run P w = .ok pls.toArray w := by
  rw [Array.mapM_eq_mapM_toList, Sem.run_map, hpl]; rfl
 have hb : Instr.build t (ps.map fun (i, x) => (i, a.eval x)) = (do
     let zero := (← zeroValue t).cells
     match ← underlying t with
     | .struct fields =>
       let places ← fields.mapM kF
       let some cells := Instr.fill (places[·]?) zero (ps.map fun (i, x) => (i, a.eval x)).toList | stuck "build: no such field, or a part of the wrong size"
       pure (.agg cells)
     | .array _ elem =>
       let size ← sizeOf elem
       let some cells := Instr.fill (fun i => some (i * size, size)) zero (ps.map fun (i, x) => (i, a.eval x)).toList | stuck "build: a part of the wrong size"
       pure (.agg cells)
     | _ => stuck "build: struct or array type expected") := rfl
 simp only [execOp, hb, Sem.run_bind, hz, dF hu, Result.andThen_ok, hm, Value.cells, Sem.run_pure]
 simp only [Array.toList_map]
 rw [this]; rfl
def oZ (e : bK) : Nat → List (Nat × Operand) → List Value → Prop
 | _, [], [] => True
 | i, (j, x) :: ps, v :: vs => j = i ∧ ev e x = some v ∧ v.oneCell' = true ∧ oZ e (i + 1) ps vs
 | _, _, _ => False
theorem si {a : Act} (he : ∀ x v, ev e x = some v → a.eval x = v) : ∀ (ps : List (Nat × Operand)) (vs done l : List Value), oZ e done.length ps vs → l.length = vs.length →
    Instr.fill (fun i => some (i * 1, 1)) (done ++ l).toArray (ps.map fun (i, x) => (i, a.eval x)) = some (done ++ vs).toArray
 | [], [], done, l, _, hl => by
  have : l = [] := List.length_eq_zero_iff.1 hl
  subst this; rfl
 | [], _ :: _, _, _, h, _ => h.elim
 | _ :: _, [], _, _, h, _ => by cases h
 | (j, x) :: ps, v :: vs, done, [], _, hl => by cases hl
 | (j, x) :: ps, v :: vs, done, z :: l, h, hl => by
  obtain ⟨rfl, hx, h1, hr⟩ := h
  have hv := he x v hx
  simp only [List.map_cons, Instr.fill, hv, jI h1, List.size_toArray, List.length_cons, List.length_nil, Nat.zero_add, ne_eq, not_true_eq_false, decide_false, Bool.false_or, Nat.mul_one]
  have e1 : Array.foldl (fun cs (x : Value × Nat) => cs.setIfInBounds (done.length + x.2) x.1) (done ++ z :: l).toArray #[v].zipIdx = ((done ++ [v]) ++ l).toArray := by
   have := oY [v] (done ++ z :: l) done.length
   simp only [setR] at this
   rw [show (#[v] : Array Value) = [v].toArray from rfl, this]
   simp
  rw [e1]
  have := si he ps vs (done ++ [v]) l (by simpa using hr) (by simpa using hl)
  simp only [Nat.mul_one] at this
  rw [this]; simp
theorem sj : ∀ (ps : List (Nat × Operand)) (i : Nat) (vs : List Value), eC e (ps.map (·.2)) = some vs → ps.map (·.1) = List.range' i ps.length → en vs = true → oZ e i ps vs
 | [], _, vs, h, _, _ => by simp [eC] at h; subst h; trivial
 | (j, x) :: ps, i, vs, h, hi, h1 => by
  simp only [List.map_cons, eC] at h
  cases hv : ev e x with
  | none => rw [hv] at h; cases h
  | some v =>
   rw [hv] at h
   cases hvs : eC e (ps.map (·.2)) with
   | none => simp only [hvs] at h; cases h
   | some vs' =>
    simp only [hvs, Option.some.injEq] at h
    subst h
    simp only [List.map_cons, List.length_cons, List.range'_succ, List.cons.injEq] at hi
    simp only [en, List.all_cons, Bool.and_eq_true] at h1
    exact ⟨hi.1, hv, h1.1, sj ps (i + 1) vs' hvs hi.2 h1.2⟩
theorem fK {E n : Nat} {z : Value} {ps : Array (Nat × Operand)} (hu : P.underlying t = some (.slice E)) (hs : ∀ w, (sizeOf E).run P w = .ok 1 w) (hz : ∀ w, (zeroValue E).run P w = .ok z w) (hz1 : z.oneCell' = true)
    (hev : eC e (ps.toList.map (·.2)) = some vs) (hix : ps.toList.map (·.1) = List.range' 0 ps.toList.length) (ha1 : en vs = true) (hn : vs.length = n) (hn0 : n ≠ 0) (hn2 : n ≤ 1000) :
    di P W0 N e A (.buildSlice t n ps) (fun v B => ∃ b, v = .slice (some ⟨b, 0, none⟩) n n ∧ B = pt b (aw vs E) :: A) :=
  jK (g := fun b => .slice (some ⟨b, 0, none⟩) n n) (fun a w _ _ _ _ _ hF _ => by
 have hel := sj ps.toList 0 vs hev hix ha1
 have hfl := si (fun x v h => hF.eval h) ps.toList vs [] (List.replicate n z) (by simpa using hel) (by simpa using hn.symm)
 simp only [Nat.mul_one, List.nil_append] at hfl
 have hr : (Array.range n).map (fun i => (#[z] : Array Value)[i % (#[z] : Array Value).size]!) = (List.replicate n z).toArray := by
  apply Array.ext
  simp
  intro i h1 h2; simp [Nat.mod_one]
 have hbig : ¬ (n > 2 ^ 24) := by omega
 simp only [execOp, Instr.buildSlice, Sem.run_bind, dF hu, Result.andThen_ok, hs, Nat.mul_one, Array.toList_map, Sem.run_ite, if_neg hbig, if_neg hn0, hz, Sem.run_pure, jI hz1, hr]
 rw [hfl]
 rfl)
theorem aS {f : FuncId} {xs : Array Operand} {ats : Array TypeId} {Post : Value → List HP → Prop} (hc : ∀ args w, (callFunc f args).run P w = .ok (.enter f args) w) (hx : eC e xs.toList = some vs)
    (hs : aC P W0 f vs A Post) : di P W0 N e A (.call { callee := .value (.func f), args := xs, argTypes := ats }) Post := by
 intro a w dst ty pos af g K Q hF hO k
 unfold Oper.wp
 rw [execOp_call_go]
 have he : (#[] ++ xs.map a.eval ++ #[] : Array Value) = vs.toArray := by
  have := hF.evals hx
  rw [← this]; apply Array.ext'; simp
 rw [he, hc]
 refine (hs w hO).mono ?_
 rintro _ w' ⟨v, B, rfl, hp, hO'⟩
 exact k v w' B hp hO'
theorem jL {Post : Value → List HP → Prop} (hp : A.Perm B) (h : di P W0 N e B op Post) : di P W0 N e A op Post :=
  fun a w dst ty pos af g K Q hF hO k => h a w dst ty pos af g K Q hF (hO.perm hp) k
theorem bz {K1 X1 : Type} {r1 : K1 → X1 → HP} {b1 : K1} {x1 : X1} {f : FuncId} {xs : Array Operand} {ats : Array TypeId} {Post : Value → List HP → Prop} (hc : ∀ args w, (callFunc f args).run P w = .ok (.enter f args) w) (hx : eC e xs.toList = some vs)
    (hs : aC P W0 f vs (r1 b1 x1 :: R) Post) [h1 : Tk r1 b1 A x1 R] : di P W0 N e A (.call { callee := .value (.func f), args := xs, argTypes := ats }) Post :=
  jL h1.perm (aS hc hx hs)
theorem gN {K1 K2 X1 X2 : Type} {r1 : K1 → X1 → HP} {b1 : K1} {x1 : X1} {R1 : List HP} {r2 : K2 → X2 → HP} {b2 : K2} {x2 : X2} {f : FuncId} {xs : Array Operand} {ats : Array TypeId} {Post : Value → List HP → Prop} (hc : ∀ args w, (callFunc f args).run P w = .ok (.enter f args) w) (hx : eC e xs.toList = some vs)
    (hs : aC P W0 f vs (r1 b1 x1 :: r2 b2 x2 :: R) Post) [h1 : Tk r1 b1 A x1 R1] [h2 : Tk r2 b2 R1 x2 R] : di P W0 N e A (.call { callee := .value (.func f), args := xs, argTypes := ats }) Post :=
  jL (h1.perm.trans (h2.perm.cons _)) (aS hc hx hs)
theorem kG {K1 K2 K3 X1 X2 X3 : Type} {r1 : K1 → X1 → HP} {b1 : K1} {x1 : X1} {R1 : List HP} {r2 : K2 → X2 → HP} {b2 : K2} {x2 : X2} {R2 : List HP} {r3 : K3 → X3 → HP} {b3 : K3} {x3 : X3} {f : FuncId} {xs : Array Operand} {ats : Array TypeId} {Post : Value → List HP → Prop} (hc : ∀ args w, (callFunc f args).run P w = .ok (.enter f args) w) (hx : eC e xs.toList = some vs)
    (hs : aC P W0 f vs (r1 b1 x1 :: r2 b2 x2 :: r3 b3 x3 :: R) Post) [h1 : Tk r1 b1 A x1 R1] [h2 : Tk r2 b2 R1 x2 R2] [h3 : Tk r3 b3 R2 x3 R] : di P W0 N e A (.call { callee := .value (.func f), args := xs, argTypes := ats }) Post :=
  jL (h1.perm.trans ((h2.perm.trans (h3.perm.cons _)).cons _)) (aS hc hx hs)
def lK : Nat → List Value → bK
 | _, [] => []
 | i, v :: vs => (i, v) :: lK (i + 1) vs
theorem sk : ∀ (vs : List Value) (i t : Nat) (v : Value), dJ (lK i vs) t = some v → ∃ j, t = i + j ∧ vs[j]? = some v
 | [], i, t, v, h => by cases h
 | u :: vs, i, t, v, h => by
  by_cases c : i = t
  subst c; rw [lK, oN] at h; exact ⟨0, rfl, by simpa using h⟩
  rw [lK, oO c] at h
  obtain ⟨j, rfl, hj⟩ := sk vs (i + 1) t v h
  exact ⟨j + 1, by omega, by simpa using hj⟩
abbrev jM (D : Nat) : Deferred := { target := .collected D, args := #[] }
def lL (P : Program) (W0 : World) (fn : Func) (Post : Value → List HP → Prop) : Exit → Act → World → Prop
 | .normal, a, w => bodyPostM (FW none) 0 P fn (fun e w' => ∃ v B, e = .returned v ∧ Post v B ∧ Own W0 w' B) .normal a w
 | .ret, a, w => bodyPostM (FW none) 0 P fn (fun e w' => ∃ v B, e = .returned v ∧ Post v B ∧ Own W0 w' B) .ret a w
 | _, _, _ => False
theorem wS {fn : Func} {Post : Value → List HP → Prop} {ex : Exit} {a : Act} {w : World} (h : lL P W0 fn Post ex a w) : bodyPostM (FW none) 0 P fn (fun e w' => ∃ v B, e = .returned v ∧ Post v B ∧ Own W0 w' B) ex a w := by
 cases ex <;> first | exact h | exact h.elim
theorem aF {n : Nat} {f : FuncId} {fn : Func} {c : Code} {Post : Value → List HP → Prop} (hf : P.funcs[f]? = some fn) (hN : fn.ntmps = n) (hb : fn.body = some c) (hl : Nat.ble vs.length n = true)
    (k : aQ W0 ⟨n, []⟩ (c.wpR none P (lL P W0 fn Post)) (lK 0 vs) A) : aC P W0 f vs A Post := by
 intro w hO
 refine (oR (rd := none) (n := 0)).1 (callsIn_of_wp_marks hf hb trivial (wpIn_mono (k _ w ⟨rfl, ?_, fun t v h => ?_⟩ hO) fun _ _ _ h => wS h) rfl)
 have := Nat.le_of_ble_eq_true hl
 simp [hN]; omega
 obtain ⟨j, rfl, hj⟩ := sk _ _ _ _ h
 have hlt : j < vs.length := by
  rcases Nat.lt_or_ge j vs.length with k | k
  exact k
  simp [List.getElem?_eq_none k] at hj
 simp [hlt] at hj ⊢
 rw [Array.getElem?_append_left (by simpa using hlt)]
 simp [hlt, hj]
def lM (a : Act) : ResultVar → Sem Value
 | .tmp t => pure (a.tmps.getD t undef)
 | .cell x t => do loadVar t (← asAddr (a.tmps.getD x undef))
def p0 (P : Program) (W0 : World) (N : FSz) (e : bK) (A : List HP) (r : ResultVar) (v : Value) : Prop :=
  ∀ a w, Fr a N e → Own W0 w A → (lM a r).run P w = .ok v w
theorem ak {t : Nat} (h : dJ e t = some v) : p0 P W0 N e A (.tmp t) v := fun a w hF _ => by
 simp [lM, Array.getD_eq_getD_getElem?, hF.at_ t v h]
theorem fj {x n : Nat} [h : Tk pt b A (aw l ty) R] (ha : ∀ w, (isAgg t).run P w = .ok true w) (hs : ∀ w, (sizeOf t).run P w = .ok n w) (hx : dJ e x = some (.pointer (some ⟨b, 0, none⟩))) (hn : l.length = n) : p0 P W0 N e A (.cell x t) (.agg l.toArray) := fun a w hF hO => by
 have hc : cJ (bI W0 A) b 0 l := lJ (by simp)
 have := mT (P := P) (w := w) (fun i v hi => hc i v hi w hO) n 0 #[] (by omega)
 simp [lM, Array.getD_eq_getD_getElem?, hF.at_ x _ hx, asAddr, loadVar, ha, hs, loadCells, this]
inductive ResVs (P : Program) (W0 : World) (N : FSz) (e : bK) (A : List HP) : List ResultVar → List Value → Prop
  | nil : ResVs P W0 N e A [] []
  | cons {r : ResultVar} {v : Value} {rs : List ResultVar} {vs : List Value} : p0 P W0 N e A r v → ResVs P W0 N e A rs vs → ResVs P W0 N e A (r :: rs) (v :: vs)
theorem ResVs.run {rs : List ResultVar} {vs : List Value} (h : ResVs P W0 N e A rs vs) {a : Act} {w : World} (hF : Fr a N e) (hO : Own W0 w A) :
    (rs.mapM (lM a)).run P w = .ok vs w := by
 induction h with
 | nil => simp
 | cons h1 _ ih =>
  rw [List.mapM_cons, Sem.run_bind, h1 a w hF hO, Result.andThen_ok, Sem.run_bind, ih]; rfl
def cA : List Value → Value
 | [v] => v
 | vs => .tuple vs.toArray
theorem ResVs.all {fn : Func} {vs : List Value} (hr : ResVs P W0 N e A fn.results.toList vs) {a : Act} {w : World} (hF : Fr a N e) (hO : Own W0 w A) : (results fn a.tmps).run P w = .ok (cA vs) w := by
 have := hr.run hF hO
 have hres : results fn a.tmps = (do
     let vs ← fn.results.mapM (lM a)
     pure (if h : vs.size = 1 then vs[0] else .tuple vs)) := rfl
 rw [hres, Sem.run_bind, Array.mapM_eq_mapM_toList, Sem.run_map, this]
 simp only [Result.andThen_ok, Sem.run_pure]
 match vs with
 | [] => rfl
 | [v] => rfl
 | _ :: _ :: _ => rfl
theorem au {n : Nat} {fn : Func} {Post : Value → List HP → Prop} {vs : List Value} {ex : Exit} (hex : ex = .ret ∨ ex = .normal) (hr : ResVs P W0 ⟨n, []⟩ e A fn.results.toList vs) (hp : ∃ B, Post (cA vs) B ∧ Ent A B) : aQ W0 ⟨n, []⟩ (Ex (lL P W0 fn Post) ex) e A := by
 intro a w hF hO
 obtain ⟨B, hB, hE⟩ := hp
 have hrun := hr.all hF hO
 have hd : a.defers = [] := hF.defers
 have : LeavesInM (FW none) 0 P fn a.tmps (fun e w' => ∃ v B, e = .returned v ∧ Post v B ∧ Own W0 w' B) a.defers .returning w := by
  rw [hd]; exact ⟨cA vs, hrun, cA vs, B, rfl, hB, hO.ent hE⟩
 rcases hex with rfl | rfl <;> exact this
theorem so {n D : Nat} {fn : Func} {Post : Value → List HP → Prop} {vs : List Value} {ex : Exit} (hex : ex = .ret ∨ ex = .normal) [h : Tk pt D A (.deferred (some [])) R] (hr : ResVs P W0 ⟨n, [jM D]⟩ e (pt D (.deferred none) :: R) fn.results.toList vs)
    (hp : ∃ B, Post (cA vs) B ∧ Ent (pt D (.deferred none) :: R) B) : aQ W0 ⟨n, [jM D]⟩ (Ex (lL P W0 fn Post) ex) e A := by
 intro a w hF hO
 obtain ⟨B, hB, hE⟩ := hp
 have hO1 := hO.tk (r := pt) (b := D)
 have hK := hO1.has
 have hO2 : Own W0 (w.putObj D (.deferred none)) (pt D (.deferred none) :: R) :=
   hO1.set rfl rfl rfl (by simp) (World.putObj_heap_same (by
     rcases Nat.lt_or_ge D w.heap.size with q | q
     · exact q
     have := hK.2; rw [Array.getElem?_eq_none q] at this; cases this)) (fun k hk => World.putObj_heap_other hk)
 have hrun := hr.all hF hO2
 have hd : a.defers = [jM D] := hF.defers
 have : LeavesInM (FW none) 0 P fn a.tmps (fun e w' => ∃ v B, e = .returned v ∧ Post v B ∧ Own W0 w' B) a.defers .returning w := by
  rw [hd]
  exact ⟨by simp, .inl ⟨D, _, rfl, run_takeDeferred hK.2, cA vs, hrun, cA vs, B, rfl, hB, hO2.ent hE⟩⟩
 rcases hex with rfl | rfl <;> exact this
theorem bY {E n c j sz o' : Nat} {k : IntKind} {i : Int} (hu : P.underlying t = some (.slice E)) (hs : ∀ w, (sizeOf E).run P w = .ok sz w) (hx : ev e x = some (.slice (some ⟨b, off, none⟩) n c)) (hy : ev e y = some (.int k i))
    (hi : i = (j : Int)) (hj : j < n) (ho : off + j * sz = o') : cn P S N e (.indexAddr t x y) (.pointer (some ⟨b, o', none⟩)) := fun a w _ _ _ _ _ hF _ => by
 subst hi; subst ho
 simp [execOp, Instr.indexAt, hF.eval hx, hF.eval hy, asIntOf, dF hu, hs, fa]
 omega
theorem fk {E n j sz o' : Nat} {k : IntKind} {i : Int} (hu : P.underlying t = some (.array n E)) (hs : ∀ w, (sizeOf E).run P w = .ok sz w) (hx : ev e x = some (.pointer (some ⟨b, off, none⟩))) (hy : ev e y = some (.int k i))
    (hi : i = (j : Int)) (hj : j < n) (ho : off + j * sz = o') : cn P S N e (.indexAddr t x y) (.pointer (some ⟨b, o', none⟩)) := fun a w _ _ _ _ _ hF _ => by
 subst hi; subst ho
 simp [execOp, Instr.indexAt, hF.eval hx, hF.eval hy, asIntOf, dF hu, hs, fa, Instr.sureAddr]
 omega
end
theorem aW {n : Int} (h : -9223372036854775808 ≤ n ∧ n < 9223372036854775808) : IntKind.wrap .i64 n = n := by
 simp only [IntKind.wrap, IntKind.bits, IntKind.signed]; simp; omega
theorem mX {n : Int} (h : 0 ≤ n ∧ n < 4294967296) : IntKind.wrap .u32 n = n := by
 simp only [IntKind.wrap, IntKind.bits, IntKind.signed]; simp; omega
class BP (b : Bool) (p : outParam Prop) : Prop where
  iff : b = true ↔ p
instance CV {p : Prop} [Decidable p] : BP (decide p) p := ⟨by simp⟩
instance CW {m n : Int} : BP (m == n) (m = n) := ⟨by simp⟩
instance CX {m n : Int} : BP (m != n) (m ≠ n) := ⟨by simp⟩
instance CY {p q : Bool} : BP (p == q) (p = q) := ⟨by simp⟩
instance CZ {b : Bool} {p : Prop} [h : BP b p] : BP (!b) (¬ p) := ⟨by rw [← h.iff]; simp⟩
instance D1 {b c : Bool} {p q : Prop} [h : BP b p] [k : BP c q] : BP (b && c) (p ∧ q) := ⟨by rw [← h.iff, ← k.iff]; simp⟩
instance D2 {b c : Bool} {p q : Prop} [h : BP b p] [k : BP c q] : BP (b || c) (p ∨ q) := ⟨by rw [← h.iff, ← k.iff]; simp⟩
instance D3 {α : Type} {p : Option α} : BP p.isNone (p = none) := ⟨by simp⟩
instance (priority := low) bp_var {b : Bool} : BP b (b = true) := ⟨Iff.rfl⟩
section
variable {rd : Option Nat} {P : Program} {W0 : World} {N : FSz} {Q : Exit → Act → World → Prop} {e : bK} {A : List HP} {ops : Array Oper} {rest : List Oper} {op : Op} {ty : TypeId} {pos : String} {af : Array Edge}
theorem ax {c : Nat} {p : Prop} {b : Bool} {xc yc : Code} (hv : dJ e c = some (.bool b)) [h : BP b p]
    (ht : p → aQ W0 N (xc.wpR rd P Q) ((c, .bool true) :: e) A) (hf : ¬ p → aQ W0 N (yc.wpR rd P Q) ((c, .bool false) :: e) A) : aQ W0 N ((Code.cond (.tmp c) xc yc).wpR rd P Q) e A :=
  wE rfl hv (fun hb => ht (h.iff.1 hb)) (fun hb => hf (fun k => by rw [h.iff.2 k] at hb; cases hb))
theorem bR {c : Nat} {xc yc : Code} (hv : dJ e c = some (.bool true)) (k : aQ W0 N (xc.wpR rd P Q) e A) : aQ W0 N ((Code.cond (.tmp c) xc yc).wpR rd P Q) e A :=
  fun a w hF hO => wpIn_cond_true (hF.eval (x := .tmp c) hv) (k a w hF hO)
theorem eL {c : Nat} {xc yc : Code} (hv : dJ e c = some (.bool false)) (k : aQ W0 N (yc.wpR rd P Q) e A) : aQ W0 N ((Code.cond (.tmp c) xc yc).wpR rd P Q) e A :=
  fun a w hF hO => wpIn_cond_false (hF.eval (x := .tmp c) hv) (k a w hF hO)
theorem cG {j t d : Nat} {b : Bool} {p : Prop} (ht : hM ops j = some t) (hv : dJ e t = some (.bool b)) (hd : Nat.blt d N.n = true) [h : BP b p]
    (h1 : p → aQ W0 N (da rd P ops Q ({ dst := some d, op := op, type := ty, pos := pos, after := af, guard := none } :: rest)) ((t, .bool true) :: e) A)
    (h2 : ¬ p → aQ W0 N (da rd P ops Q rest) ((d, undef) :: (t, .bool false) :: e) A) :
    aQ W0 N (da rd P ops Q ({ dst := some d, op := op, type := ty, pos := pos, after := af, guard := some (j, true) } :: rest)) e A :=
  s6 (dst := some d) ht hv hd (fun hb => h1 (h.iff.1 hb)) (fun hb => h2 (fun k => by rw [h.iff.2 k] at hb; cases hb))
theorem bA {j t d : Nat} {b : Bool} {p : Prop} (ht : hM ops j = some t) (hv : dJ e t = some (.bool b)) (hd : Nat.blt d N.n = true) [h : BP b p]
    (h1 : p → aQ W0 N (da rd P ops Q rest) ((d, undef) :: (t, .bool true) :: e) A)
    (h2 : ¬ p → aQ W0 N (da rd P ops Q ({ dst := some d, op := op, type := ty, pos := pos, after := af, guard := none } :: rest)) ((t, .bool false) :: e) A) :
    aQ W0 N (da rd P ops Q ({ dst := some d, op := op, type := ty, pos := pos, after := af, guard := some (j, false) } :: rest)) e A :=
  s6 (dst := some d) ht hv hd (fun hb => h2 (fun k => by rw [h.iff.2 k] at hb; cases hb)) (fun hb => h1 (h.iff.1 hb))
end
end
section
theorem mY {k : IntKind} {a s : Nat} (hs : s ≤ k.bits) : kC k a s = ((a / 2 ^ s : Nat) : Int) := by
 unfold kC
 simp only [Int.toNat_natCast, Nat.min_eq_left hs]
 rw [Int.fdiv_eq_ediv_of_nonneg _ (by have := Int.pow_pos (n := (2 : Int)) (m := s) (by omega); omega)]
 push_cast; rfl
theorem wT {a n : Nat} : a &&& (2 ^ n - 1) = a % 2 ^ n := Nat.and_two_pow_sub_one_eq_mod a n
end
section
open Go.RowKit
class POk (Q : Exit → Act → World → Prop) : Prop where
  ok : ∀ c a d v w, Q (.panic c) (a.put d v) w → Q (.panic c) a w
instance D4 {n : Act → World → Prop} {Q : Exit → Act → World → Prop} [h : POk Q] : POk (Exit.then n Q) := ⟨fun c a d v w k => h.ok c a d v w k⟩
instance D5 {id : Nat} {Q : Exit → Act → World → Prop} [h : POk Q] : POk (Exit.inBlock id Q) := ⟨fun c a d v w k => h.ok c a d v w k⟩
instance D6 {P : Program} {W0 : World} {fn : Func} {Post : Value → List HP → Prop} : POk (lL P W0 fn Post) := ⟨fun c a d v w k => k.elim⟩
def SC (cs : List (Nat × Nat × List Value)) : World → Prop := fun w => ∀ c, c ∈ cs → ∀ i v, c.2.2[i]? = some v → w.cell? ⟨c.1, c.2.1 + i, none⟩ = some v
section
variable {rd : Option Nat} {P : Program} {S : World → Prop} {W0 : World} {N : FSz} {Q : Exit → Act → World → Prop} {e : bK} {A B R : List HP} {ops : Array Oper}
variable {op : Op} {ty t : TypeId} {pos : String} {af : Array Edge} {v : Value} {d b off : Nat} {l : List Value} {cs : List (Nat × Nat × List Value)} {g : Option (Nat × Bool)} {n i : Nat} {listed : Array Bool}
theorem wU {w : World} : SC [] w := fun _ h => by cases h
theorem df (h : cJ (bI W0 A) b off l) (k : ∀ w, Own W0 w A → SC cs w) : ∀ w, Own W0 w A → SC ((b, off, l) :: cs) w := fun w hO c hc => by
 rcases List.mem_cons.1 hc with rfl | hc
 exact fun i v hi => h i v hi w hO
 exact k w hO c hc
theorem aV [h : Tk pt b A (aw l t) R] (k : ∀ w, Own W0 w A → SC cs w) : ∀ w, Own W0 w A → SC ((b, 0, l) :: cs) w := df (lJ (by simp)) k
theorem aK : ∀ w, Own W0 w A → SC [] w := fun _ _ => wU
theorem eW {j k o : Nat} (hk : cs[k]? = some (b, o, l)) (hj : l[j]? = some v) : gA (SC cs) b (o + j) v := fun w hS => hS _ (List.mem_of_getElem? hk) j v hj
theorem aG {j k : Nat} (hk : cs[k]? = some (b, 0, l)) (hj : l[j]? = some v) : gA (SC cs) b j v := by
 have := eW hk hj; rwa [Nat.zero_add] at this
theorem dA {k : Nat} (hk : cs[k]? = some (b, off, l)) : cJ (SC cs) b off l := fun j v hj => eW hk hj
theorem wW {k : Nat} (hk : cs[k]? = some (b, off, [v])) : gA (SC cs) b off v := eW (j := 0) hk rfl
def gw (ops : Array Oper) (e : bK) : Option (Nat × Bool) → Option Bool
 | none => some true
 | some (j, want) => match hM ops j with
   | some t => match dJ e t with
     | some (.bool b) => some (b == want)
     | some (.tuple _) => some false
     | _ => none
   | none => none
theorem mZ {dst : Option Tmp} {a : Act} {r : Bool} (hF : Fr a N e) (h : gw ops e g = some r) : Region.wanted { dst := dst, op := op, type := ty, pos := pos, after := af, guard := g } (yielded ops a.tmps) = r := by
 match g, h with
 | none, h => simp [gw] at h; subst h; rfl
 | some (j, want), h =>
  unfold gw at h
  cases ht : hM ops j with
  | none => simp only [ht] at h; cases h
  | some t =>
   simp only [ht] at h
   cases hv : dJ e t with
   | none => simp only [hv] at h; cases h
   | some u =>
    simp only [hv] at h
    have hy : yielded ops a.tmps j = match u with | .bool b => some b | _ => none := by
     have hv' := hF.at_ t _ hv
     unfold hM at ht
     simp only [yielded]
     cases hj : ops[j]? with
     | none => rw [hj] at ht; cases ht
     | some o =>
      rw [hj] at ht
      simp only [Option.bind_some] at ht
      simp only [Option.bind_some, ht, hv']
      cases u <;> rfl
    cases u <;> simp only [Option.some.injEq, reduceCtorEq] at h
    rename_i c
    simp only [Region.wanted, hy]; subst h; cases c <;> cases want <;> rfl
    simp only [Region.wanted, hy]; subst h; rfl
theorem f7 {K : Act → World → Prop} {p : Prop} {c : Bool} {t : Nat} (hv : dJ e t = some (.bool c)) [h : BP c p] (ht : p → aQ W0 N K ((t, .bool true) :: e) A) (hf : ¬ p → aQ W0 N K ((t, .bool false) :: e) A) : aQ W0 N K e A := by
 intro a w hF hO
 by_cases k : p
 exact ht k a w (hF.sub (aU (by rw [hv, h.iff.2 k]) lF)) hO
 have : c = false := by
  cases hc : c with
  | false => rfl
  | true => exact absurd (h.iff.1 hc) k
 exact hf k a w (hF.sub (aU (by rw [hv, this]) lF)) hO
def DR (P : Program) (ops : Array Oper) (Q : Exit → Act → World → Prop) (cs : List (Nat × Nat × List Value)) (n : Nat) (listed : Array Bool) : Act → World → Prop := wpAnyH P .any ops Q (SC cs) n listed
theorem cY {id : Nat} (cs : List (Nat × Nat × List Value)) (n : Nat) (hm : P.follows .mixedOrders = true) (hn : Nat.beq ops.size n = true) (hS : ∀ w, Own W0 w A → SC cs w) (k : (∀ w, Own W0 w A → SC cs w) → aQ W0 N (DR P ops Q cs n (Array.replicate n false)) e A) : aQ W0 N ((Code.region id ops true).wpR none P Q) e A := by
 intro a w hF hO
 have : ops.size = n := Nat.eq_of_beq_eq_true hn
 subst this
 exact oQ.2 <| wp_region_held hm (k hS a _ hF (hO.drew _))
theorem aj (i : Nat) (ho : ops[i]? = some ⟨some d, op, ty, pos, af, g⟩) (hg : gw ops e g = some true) (hs : Region.noSelect ops = true) (hf : Region.free .any ops listed i = true) (hr : (Region.ready .any ops listed).contains i = true)
    (hd : Nat.blt d N.n = true) [hq : POk Q] (hS : ∀ w, Own W0 w A → SC cs w) (hv : cn P (SC cs) N e op v) (k : aQ W0 N (DR P ops Q cs n (listed.setIfInBounds i true)) ((d, v) :: e) A) : aQ W0 N (DR P ops Q cs (n + 1) listed) e A := by
 intro a w hF hO
 refine wpAnyH_take (v := v) ho hs hf hr (fun c a w => hq.ok c a _ v w) (.inl ⟨mZ hF hg, fun w hw => hv a w _ _ _ _ _ hF hw⟩) (hS w hO) ?_
 exact k _ _ (hF.put (Nat.lt_of_succ_le (Nat.le_of_ble_eq_true hd)) v) hO
theorem bp (i : Nat) (ho : ops[i]? = some ⟨some d, op, ty, pos, af, g⟩) (hg : gw ops e g = some false) (hs : Region.noSelect ops = true) (hf : Region.free .any ops listed i = true) (hr : (Region.ready .any ops listed).contains i = true)
    (hd : Nat.blt d N.n = true) [hq : POk Q] (hS : ∀ w, Own W0 w A → SC cs w) (k : aQ W0 N (DR P ops Q cs n (listed.setIfInBounds i true)) ((d, undef) :: e) A) : aQ W0 N (DR P ops Q cs (n + 1) listed) e A := by
 intro a w hF hO
 refine wpAnyH_take (v := undef) ho hs hf hr (fun c a w => hq.ok c a _ undef w) (.inr ⟨mZ hF hg, rfl⟩) (hS w hO) ?_
 exact k _ _ (hF.put (Nat.lt_of_succ_le (Nat.le_of_ble_eq_true hd)) undef) hO
theorem bB {dst : Option Tmp} {Post : Value → List HP → Prop} (i : Nat) (hr : Region.ready .any ops listed = [i]) (ho : ops[i]? = some ⟨dst, op, ty, pos, af, g⟩) (hg : gw ops e g = some true) (h : di P W0 N e A op Post)
    (hd : (match dst with | some d => Nat.blt d N.n | none => true) = true)
    (k : ∀ v B, Post v B → (∀ w, Own W0 w B → SC cs w) ∧ ((∀ w, Own W0 w B → SC cs w) → aQ W0 N (DR P ops Q cs n (listed.setIfInBounds i true)) (match (generalizing := false) dst with | some d => (d, v) :: e | none => e) B)) : aQ W0 N (DR P ops Q cs (n + 1) listed) e A := by
 intro a w hF hO
 refine wpAnyH_all hr (by simp) fun j hj => ?_
 obtain rfl : j = i := by simpa using hj
 unfold wpOp
 simp only [ho, mZ hF hg, if_true]
 refine .inl (h a w _ _ _ _ _ _ _ hF hO fun v w' B hp hO' => ?_)
 obtain ⟨k1, k2⟩ := k v B hp
 refine ⟨k1 w' hO', ?_⟩
 have k2 := k2 k1
 cases dst with
 | none => exact k2 a w' hF hO'
 | some d => exact k2 _ w' (hF.put (Nat.lt_of_succ_le (Nat.le_of_ble_eq_true hd)) v) hO'
def DX (P : Program) (ops : Array Oper) (Q : Exit → Act → World → Prop) (cs : List (Nat × Nat × List Value)) (n : Nat) (listed : Array Bool) (i : Nat) : Act → World → Prop :=
  wpOp P ops Q i (fun a' w' => SC cs w' ∧ DR P ops Q cs n (listed.setIfInBounds i true) a' w')
def lN (W0 : World) (N : FSz) (K : Nat → Act → World → Prop) (e : bK) (A : List HP) : List Nat → Prop
 | [] => True
 | i :: is => aQ W0 N (K i) e A ∧ lN W0 N K e A is
theorem lN.at_ {K : Nat → Act → World → Prop} : ∀ {is : List Nat}, lN W0 N K e A is → ∀ i ∈ is, aQ W0 N (K i) e A
 | _ :: _, h, i, hi => by
  rcases List.mem_cons.1 hi with rfl | hi
  exact h.1
  exact lN.at_ h.2 i hi
theorem iL {is : List Nat} (hr : Region.ready .any ops listed = is) (hne : is.isEmpty = false) (h : lN W0 N (DX P ops Q cs n listed) e A is) : aQ W0 N (DR P ops Q cs (n + 1) listed) e A := by
 intro a w hF hO
 exact wpAnyH_all hr (by intro h0; subst h0; cases hne) fun i hi => h.at_ i hi a w hF hO
theorem f8 {dst : Option Tmp} {Post : Value → List HP → Prop} {i : Nat} (ho : ops[i]? = some ⟨dst, op, ty, pos, af, g⟩) (hg : gw ops e g = some true) (h : di P W0 N e A op Post)
    (hd : (match dst with | some d => Nat.blt d N.n | none => true) = true)
    (k : ∀ v B, Post v B → (∀ w, Own W0 w B → SC cs w) ∧ ((∀ w, Own W0 w B → SC cs w) → aQ W0 N (DR P ops Q cs n (listed.setIfInBounds i true)) (match (generalizing := false) dst with | some d => (d, v) :: e | none => e) B)) : aQ W0 N (DX P ops Q cs n listed i) e A := by
 intro a w hF hO
 unfold DX wpOp
 simp only [ho, mZ hF hg, if_true]
 refine .inl (h a w _ _ _ _ _ _ _ hF hO fun v w' B hp hO' => ?_)
 obtain ⟨k1, k2⟩ := k v B hp
 refine ⟨k1 w' hO', ?_⟩
 have k2 := k2 k1
 cases dst with
 | none => exact k2 a w' hF hO'
 | some d => exact k2 _ w' (hF.put (Nat.lt_of_succ_le (Nat.le_of_ble_eq_true hd)) v) hO'
theorem cg (hr : Region.ready .any ops listed = []) (k : aQ W0 N (Ex Q .normal) e A) : aQ W0 N (DR P ops Q cs n listed) e A := fun a w hF hO => wpAnyH_done hr (k a w hF hO) n
end
section
variable {α : Type} {f : α → List Value} {k : Nat}
theorem dm (hf : ∀ x, (f x).length = k) : ∀ (l : List α), (l.flatMap f).length = l.length * k
 | [] => by simp
 | x :: l => by rw [List.flatMap_cons, List.length_append, hf, dm hf l, List.length_cons, Nat.succ_mul, Nat.add_comm]
theorem p1 (hf : ∀ x, (f x).length = k) : ∀ (l : List α) (i : Nat) (sp : List Value), i ≤ l.length → (l.flatMap f ++ sp).drop (i * k) = (l.drop i).flatMap f ++ sp
 | l, 0, sp, _ => by simp
 | [], i + 1, sp, h => by simp at h
 | x :: l, i + 1, sp, h => by
  have h0 : (f x ++ (l.flatMap f ++ sp)).drop k = l.flatMap f ++ sp := by
   rw [List.drop_append_of_le_length (by rw [hf]; omega), List.drop_of_length_le (by rw [hf]; omega), List.nil_append]
  rw [List.flatMap_cons, List.append_assoc, Nat.succ_mul, Nat.add_comm (i * k) k, ← List.drop_drop, h0, List.drop_succ_cons]
  exact p1 hf l i sp (by simpa using h)
theorem lO (hf : ∀ x, (f x).length = k) (l : List α) (i : Nat) (sp : List Value) (h : i < l.length) : ((l.flatMap f ++ sp).drop (i * k)).take k = f l[i] := by
 rw [p1 hf l i sp (by omega), List.drop_eq_getElem_cons h, List.flatMap_cons, List.append_assoc]
 rw [List.take_append_of_le_length (by rw [hf]; omega), List.take_of_length_le (by rw [hf]; omega)]
theorem iY (hf : ∀ x, (f x).length = k) (l : List α) (i j : Nat) (sp : List Value) (h : i < l.length) (hj : j < k) : (l.flatMap f ++ sp)[i * k + j]? = (f l[i])[j]? := by
 have := congrArg (fun r => r[j]?) (lO hf l i sp h)
 simp only [List.getElem?_take_of_lt hj, List.getElem?_drop] at this
 exact this
theorem kI : ∀ (vs l : List Value) (i : Nat), i + vs.length ≤ l.length → setR l i vs = l.take i ++ vs ++ l.drop (i + vs.length)
 | [], l, i, h => by simp [setR]
 | v :: vs, l, i, h => by
  simp only [List.length_cons] at h
  rw [setR, kI vs (l.set i v) (i + 1) (by simp; omega)]
  have h1 : (l.set i v).take (i + 1) = l.take i ++ [v] := by
   rw [List.take_set, List.take_succ_eq_append_getElem (by omega)]
   rw [List.set_append_right _ _ (by simp; omega)]
   simp [Nat.min_eq_left (show i ≤ l.length by omega)]
  have h2 : (l.set i v).drop (i + 1 + vs.length) = l.drop (i + (vs.length + 1)) := by
   rw [List.drop_set_of_lt (by omega)]; congr 1; omega
  rw [h1, h2]; simp
theorem wX (hf : ∀ x, (f x).length = k) (l : List α) (i : Nat) (sp : List Value) (h : i ≤ l.length) : (l.flatMap f ++ sp).take (i * k) = (l.take i).flatMap f := by
 have e : l.flatMap f = (l.take i).flatMap f ++ (l.drop i).flatMap f := by rw [← List.flatMap_append, List.take_append_drop]
 have hl : ((l.take i).flatMap f).length = i * k := by rw [dm hf, List.length_take, Nat.min_eq_left h]
 rw [e, List.append_assoc, List.take_append_of_le_length (by omega), List.take_of_length_le (by omega)]
theorem nf (hf : ∀ x, (f x).length = k) (l : List α) (i : Nat) (x : α) (sp : List Value) (h : i < l.length) : setR (l.flatMap f ++ sp) (i * k) (f x) = (l.set i x).flatMap f ++ sp := by
 have hlen := dm hf l
 have hb : i * k + k ≤ l.length * k := by have := Nat.mul_le_mul_right k (show i + 1 ≤ l.length by omega); rw [Nat.succ_mul] at this; exact this
 rw [kI _ _ _ (by rw [hf, List.length_append]; omega), hf, wX hf l i sp (by omega)]
 have e : i * k + k = (i + 1) * k := by rw [Nat.succ_mul]
 rw [e, p1 hf l (i + 1) sp (by omega), List.set_eq_take_append_cons_drop, if_pos h]
 simp [List.flatMap_append, List.flatMap_cons]
theorem wY (L : List Value) (o k j : Nat) (v : Value) (h : o + k ≤ L.length) (hj : j < k) : L.take o ++ ((L.drop o).take k).set j v ++ L.drop (o + k) = L.set (o + j) v := by
 have e : L = L.take o ++ ((L.drop o).take k ++ L.drop (o + k)) := by
  rw [← List.drop_drop, List.take_append_drop, List.take_append_drop]
 have h1 : (L.take o).length = o := by rw [List.length_take]; omega
 have h2 : ((L.drop o).take k).length = k := by rw [List.length_take, List.length_drop]; omega
 conv => rhs; rw [e]
 rw [List.set_append_right _ _ (by omega), h1, Nat.add_sub_cancel_left, List.set_append_left _ _ (by omega), List.append_assoc]
theorem lP (hf : ∀ x, (f x).length = k) (l : List α) (i j : Nat) (v : Value) (x : α) (sp : List Value) (h : i < l.length) (hj : j < k) (hx : f x = (f l[i]).set j v) : (l.flatMap f ++ sp).set (i * k + j) v = (l.set i x).flatMap f ++ sp := by
 have hb : i * k + k ≤ l.length * k := by have := Nat.mul_le_mul_right k (show i + 1 ≤ l.length by omega); rw [Nat.succ_mul] at this; exact this
 have hlen := dm hf l
 have hle : i * k + k ≤ (l.flatMap f ++ sp).length := by rw [List.length_append, hlen]; omega
 rw [← nf hf l i x sp h, hx, ← lO hf l i sp h, kI _ _ _ (by rw [List.length_set, List.length_take, List.length_drop]; omega)]
 rw [List.length_set, List.length_take, List.length_drop, Nat.min_eq_left (by omega)]
 exact (wY _ _ _ _ _ hle hj).symm
end
section
variable {rd : Option Nat} {P : Program} {S : World → Prop} {W0 : World} {N : FSz} {Q : Exit → Act → World → Prop} {e : bK} {A B R : List HP} {ops : Array Oper} {rest : List Oper}
variable {op : Op} {ty t t' : TypeId} {pos : String} {af : Array Edge} {v u : Value} {d b off : Nat} {x y : Operand} {l l' vs : List Value}
theorem lQ {de : TypeDesc} (hu : P.underlying t = some de) (hn : ∀ ms, de ≠ .interface ms) (hx : ev e x = some v) : cn P S N e (.makeInterface t x) (.iface t v) := fun a w _ _ _ _ _ hF _ => by
 simp only [execOp, Instr.makeInterface, hF.eval hx, Sem.run_bind, dF hu, Result.andThen_ok]
 cases de <;> first | rfl | exact absurd rfl (hn _)
theorem p5 {de : TypeDesc} (hu : P.underlying t' = some de) (hn : ∀ ms, de ≠ .interface ms) (hx : ev e x = some (.iface t' v)) : cn P S N e (.typeAssert x t t' false) v := fun a w _ _ _ _ _ hF _ => by
 simp only [execOp, Instr.typeAssert, hF.eval hx, Sem.run_bind, dF hu, Result.andThen_ok]
 cases de <;> first | (simp; done) | exact absurd rfl (hn _)
theorem iZ {fn : Fn} {fs cs : Array Operand} {us : List Value} (h1 : eC e fs.toList = some us) (h2 : eC e cs.toList = some vs) : cn P S N e (.makeFunc fn fs cs) (.func fn us.toArray vs.toArray) := fun a w _ _ _ _ _ hF _ => by
 have e1 : fs.map a.eval = us.toArray := by rw [← hF.evals h1]; apply Array.ext'; simp
 have e2 : cs.map a.eval = vs.toArray := by rw [← hF.evals h2]; apply Array.ext'; simp
 simp [execOp, Instr.makeFunc, e1, e2]
theorem add_zero (a : Addr) : a.add 0 = a := rfl
theorem jN {E n c : Nat} {a' : Option Addr} {k : IntKind} {h : Nat} {i : Int} (hu : P.underlying t = some (.slice E)) (hs : ∀ w, (sizeOf E).run P w = .ok d w) (hx : ev e x = some (.slice a' n c)) (hy : ev e y = some (.int k i)) (hi : i = (h : Int)) (hc : h ≤ c) :
    cn P S N e (.slice t x none (some y) none) (.slice a' h c) := fun a w _ _ _ _ _ hF _ => by
 subst hi
 have h1 : (0 : Int) ≤ (h : Int) ∧ (h : Int) ≤ (c : Int) := by omega
 simp only [execOp, Instr.sliceAt, Instr.slice, hF.eval hx, hF.eval hy, Sem.run_bind, dF hu, Result.andThen_ok, Option.map_none, Option.map_some, Instr.sliceBounds, Instr.sliceBound, asIntOf, hs, Sem.run_pure, h1, and_self, if_true]
 by_cases hc0 : c = 0
 simp [hc0]
 simp [hc0, add_zero]
theorem wZ {recv : Operand} {nm : String} {xs : Array Operand} {ats : Array TypeId} {T : TypeId} {rv rv' : Value} {f : FuncId} {Post : Value → List HP → Prop} (hr : ev e recv = some (.iface T rv))
    (hm : ∀ w, (method (P.types.size + Made.depth) T rv nm).run P w = .ok (f, rv') w) (hc : ∀ args w, (callFunc f args).run P w = .ok (.enter f args) w) (hx : eC e xs.toList = some vs)
    (hs : aC P W0 f (rv' :: vs) A Post) : di P W0 N e A (.call { callee := .invoke recv nm, args := xs, argTypes := ats }) Post := by
 intro a w dst ty pos af g K Q hF hO k
 have he : xs.map a.eval = vs.toArray := by
  have := hF.evals hx
  rw [← this]; apply Array.ext'; simp
 unfold Oper.wp
 have hrun : (execOp a.eval { dst := dst, op := .call { callee := .invoke recv nm, args := xs, argTypes := ats }, type := ty, pos := pos, after := af, guard := g }).run P w = .ok (.enter f (rv' :: vs).toArray) w := by
  simp only [execOp, resolve, Sem.run_bind, Sem.run_pure, Result.andThen_ok, invoke, he, hF.eval hr]
  have e0 : (#[Value.iface T rv] ++ vs.toArray : Array Value)[0]? = some (.iface T rv) := by simp
  have e1 : (#[Value.iface T rv] ++ vs.toArray : Array Value).extract 1 (#[Value.iface T rv] ++ vs.toArray : Array Value).size = vs.toArray := by
   apply Array.ext'; simp
  simp only [e0, e1, callMethod, Sem.run_bind, run_program, Result.andThen_ok, hm]
  rw [show (#[rv'] ++ vs.toArray : Array Value) = (rv' :: vs).toArray by simp, hc]
 rw [hrun]
 refine (hs w hO).mono ?_
 rintro _ w' ⟨v, B, rfl, hp, hO'⟩
 exact k v w' B hp hO'
theorem p6 {fx : Operand} {xs : Array Operand} {ats : Array TypeId} {f : FuncId} {us cs : List Value} {Post : Value → List HP → Prop} (hf : ev e fx = some (.func (.func f) us.toArray cs.toArray))
    (hc : ∀ args w, (callFunc f args).run P w = .ok (.enter f args) w) (hx : eC e xs.toList = some vs) (hs : aC P W0 f (us ++ vs ++ cs) A Post) : di P W0 N e A (.call { callee := .value fx, args := xs, argTypes := ats }) Post := by
 intro a w dst ty pos af g K Q hF hO k
 have he : xs.map a.eval = vs.toArray := by
  have := hF.evals hx
  rw [← this]; apply Array.ext'; simp
 unfold Oper.wp
 have hrun : (execOp a.eval { dst := dst, op := .call { callee := .value fx, args := xs, argTypes := ats }, type := ty, pos := pos, after := af, guard := g }).run P w = .ok (.enter f (us ++ vs ++ cs).toArray) w := by
  simp only [execOp, resolve, Deferred.ofValue, Sem.run_bind, Sem.run_pure, Result.andThen_ok, invoke, he, hF.eval hf]
  rw [show (us.toArray ++ vs.toArray ++ cs.toArray : Array Value) = (us ++ vs ++ cs).toArray by simp, hc]
 rw [hrun]
 refine (hs w hO).mono ?_
 rintro _ w' ⟨v, B, rfl, hp, hO'⟩
 exact k v w' B hp hO'
theorem x9 {Post : Value → List HP → Prop} (hp : Ent A B) (h : di P W0 N e B op Post) : di P W0 N e A op Post :=
  fun a w dst ty pos af g K Q hF hO k => h a w dst ty pos af g K Q hF (hO.ent hp) k
def osl (E : TypeId) (sz : Nat) (v : Value) (xs : List Value) : HP := fun l =>
  (v = .slice none 0 0 ∧ xs = [] ∧ l = []) ∨
  ∃ g n cap sp, v = .slice (some ⟨g, 0, none⟩) n cap ∧ n ≤ cap ∧ cap ≤ maxLen ∧ xs.length = n * sz ∧ (xs ++ sp).length = cap * sz ∧ l = [(g, aw (xs ++ sp) E)]
theorem Own.osl {E sz : Nat} {w : World} {xs : List Value} (h : Own W0 w (osl E sz v xs :: A)) : (v = .slice none 0 0 ∧ xs = [] ∧ Own W0 w A) ∨
    ∃ g n cap sp, v = .slice (some ⟨g, 0, none⟩) n cap ∧ n ≤ cap ∧ cap ≤ maxLen ∧ xs.length = n * sz ∧ (xs ++ sp).length = cap * sz ∧ Own W0 w (pt g (aw (xs ++ sp) E) :: A) := by
 obtain ⟨ls, ⟨l1, l2, rfl, h1, hs⟩, hn, hb⟩ := h.owns
 rcases h1 with ⟨h1, h2, rfl⟩ | ⟨g, n, cap, sp, h1, h2, h3, h4, h5, rfl⟩
 exact .inl ⟨h1, h2, h.os, h.tape, h.output, h.size, h.base, l2, hs, by simpa using hn, fun p hp => hb p (by simpa using hp)⟩
 exact .inr ⟨g, n, cap, sp, h1, h2, h3, h4, h5, h.os, h.tape, h.output, h.size, h.base, _, ⟨_, l2, rfl, rfl, hs⟩, hn, hb⟩
theorem ge {K : Act → World → Prop} {E sz : Nat} {xs : List Value} (h0 : v = .slice none 0 0 → xs = [] → aQ W0 N K e A)
    (h1 : ∀ g n cap sp, v = .slice (some ⟨g, 0, none⟩) n cap → n ≤ cap → cap ≤ maxLen → xs.length = n * sz → (xs ++ sp).length = cap * sz → aQ W0 N K e (pt g (aw (xs ++ sp) E) :: A)) : aQ W0 N K e (osl E sz v xs :: A) := fun a w hF hO => by
 rcases hO.osl with ⟨k1, k2, k3⟩ | ⟨g, n, cap, sp, k1, k2, k3, k4, k5, k6⟩
 exact h0 k1 k2 a w hF k3
 exact h1 g n cap sp k1 k2 k3 k4 k5 a w hF k6
theorem sq {f : FuncId} {args : List Value} {Post : Value → List HP → Prop} {E sz : Nat} {xs : List Value} (h0 : v = .slice none 0 0 → xs = [] → aC P W0 f args A Post)
    (h1 : ∀ g n cap sp, v = .slice (some ⟨g, 0, none⟩) n cap → n ≤ cap → cap ≤ maxLen → xs.length = n * sz → (xs ++ sp).length = cap * sz → aC P W0 f args (pt g (aw (xs ++ sp) E) :: A) Post) : aC P W0 f args (osl E sz v xs :: A) Post := fun w hO => by
 rcases hO.osl with ⟨k1, k2, k3⟩ | ⟨g, n, cap, sp, k1, k2, k3, k4, k5, k6⟩
 exact h0 k1 k2 w k3
 exact h1 g n cap sp k1 k2 k3 k4 k5 w k6
theorem eP {E sz g n cap : Nat} {xs sp : List Value} [h : Tk pt g A (aw (xs ++ sp) E) R] (h1 : n ≤ cap) (h2 : cap ≤ maxLen) (h3 : xs.length = n * sz) (h4 : (xs ++ sp).length = cap * sz) [k : Ent R B] : Ent A (osl E sz (.slice (some ⟨g, 0, none⟩) n cap) xs :: B) :=
  (Ent.ofPerm h.perm).trans ((Ent.cons k).trans ⟨fun l hl => by
 obtain ⟨l1, l2, rfl, rfl, hs⟩ := hl
 exact ⟨_, [], ⟨_, l2, rfl, .inr ⟨g, n, cap, sp, rfl, h1, h2, h3, h4, rfl⟩, hs⟩, by simp⟩⟩)
theorem fb {E sz : Nat} [k : Ent A B] : Ent A (osl E sz (.slice none 0 0) [] :: B) :=
  k.trans ⟨fun l hl => ⟨l, [], ⟨[], l, rfl, .inl ⟨rfl, rfl, rfl⟩, hl⟩, by simp⟩⟩
theorem dL {E sz n m c cx by_ : Nat} {bx ox : Nat} {info : TypeInfo} {z : Value} {an : Option Addr} {xs news : List Value} (hu : P.underlying t = some (.slice E))
    (hi : P.info? E = some info) (hz : info.zero = some z) (hsz : info.size = sz) (hby : info.bytes = by_) (hz1 : z.cells.size = sz) (hsz0 : 0 < sz)
    (hx : ev e x = some (.slice an n c)) (hy : ev e y = some (.slice (some ⟨bx, ox, none⟩) m cx)) [h : Tk (osl E sz) (.slice an n c) A xs R]
    (hnew : cJ (bI W0 A) bx ox news) (hnl : news.length = m * sz) (h1 : en news = true) (h63 : n + m ≤ maxLen) (hbig : (n + m) * by_ ≤ 140737488355328) :
    di P W0 N e A (.call { callee := .builtin .append, args := #[x, y], argTypes := #[t, t] }) (fun v B => ∃ a' c', v = .slice a' (n + m) c' ∧ B = osl E sz v (xs ++ news) :: R) := by
 intro a w dst ty pos af g K Q hF hO k
 have hO' := hO.tk (r := osl E sz) (b := .slice an n c)
 have hcell : ∀ j u, news[j]? = some u → w.cell? ((⟨bx, ox, none⟩ : Addr).add j) = some u := fun j u hj => by rw [fa]; exact hnew j u hj w hO
 have hone : ∀ u ∈ news, u.oneCell' = true := fun u hm => by simpa [en] using List.all_eq_true.1 h1 u hm
 have hsmall : n + m ≤ 9223372036854775807 := by simp only [maxLen] at h63; omega
 suffices hh : ∃ a' c' w', (Builtin.append_ #[t, t] ty #[.slice an n c, .slice (some ⟨bx, ox, none⟩) m cx]).run P w = .ok (.slice a' (n + m) c') w' ∧ Own W0 w' (osl E sz (.slice a' (n + m) c') (xs ++ news) :: R) by
  obtain ⟨a', c', w', hrun, hown⟩ := hh
  unfold Oper.wp
  have hexec : (execOp a.eval { dst := dst, op := .call { callee := .builtin .append, args := #[x, y], argTypes := #[t, t] }, type := ty, pos := pos, after := af, guard := g }).run P w = .ok (.value (.slice a' (n + m) c')) w' := by
   simp only [execOp, resolve, invoke, builtin, Sem.run_bind, Sem.run_pure, Result.andThen_ok, List.map_toArray, List.map_cons, List.map_nil, hF.eval hx, hF.eval hy, hrun]
  rw [hexec]
  exact k _ w' _ ⟨a', c', rfl, rfl⟩ hown
 subst hsz
 subst hby
 rcases hO'.osl with ⟨k1, k2, k3⟩ | ⟨g, n', cap, sp, k1, k2, k3, k4, k5, k6⟩
 cases k1; subst k2
 by_cases hm : m = 0
 subst hm
 have hn : news = [] := List.eq_nil_of_length_eq_zero (by simpa using hnl)
 subst hn
 refine ⟨none, 0, w, ?_, k3.ent fb⟩
 simp [Builtin.append_, dF hu, sizeOf, typeInfo, hi, Builtin.lenOf, Builtin.firstCells, loadCells, loadCellsFrom]
 have hr := run_append_nil (P := P) w t ty E info z hu hi hz ⟨bx, ox, none⟩ m cx news hnl hcell (by omega) (by omega) (by have hb := hbig; simp only [Nat.zero_add] at hb; omega)
 refine ⟨_, _, _, by simpa using hr, ?_⟩
 have hge := grownCap_ge w m 0 E
 have hcm := grownCap_le_maxLen w m 0 E (by omega)
 have hnew' := (Own.drew k3 (w.drawn + 1)).new (aw (news ++ (Builtin.zeroCells z.cells (grownCap w m 0 E - m)).toList) E)
 have hw : (w.drew.alloc (.cells (news.toArray ++ Builtin.zeroCells z.cells (grownCap w m 0 E - m)) E)) = { ({ w with drawn := w.drawn + 1 } : World) with heap := w.heap.push (aw (news ++ (Builtin.zeroCells z.cells (grownCap w m 0 E - m)).toList) E) } := by
  have ea : (news ++ (Builtin.zeroCells z.cells (grownCap w m 0 E - m)).toList).toArray = news.toArray ++ Builtin.zeroCells z.cells (grownCap w m 0 E - m) := by apply Array.ext'; simp
  simp only [World.drew, World.alloc, aw, ea]
 rw [hw]
 refine hnew'.ent ?_
 have := @eP (pt w.heap.size (aw (news ++ (Builtin.zeroCells z.cells (grownCap w m 0 E - m)).toList) E) :: R) R R E info.size w.heap.size m (grownCap w m 0 E) news _ _ hge hcm hnl (by rw [List.length_append, hnl]; simp only [Array.length_toList, size_zeroCells, hz1, ← Nat.add_mul]; congr 1; omega) _
 simpa using this
 cases k1
 by_cases hroom : n + m ≤ c
 have hfit : n * info.size + news.length ≤ ((xs ++ sp).toArray).size := by rw [hnl, List.size_toArray, k5, ← Nat.add_mul]; exact Nat.mul_le_mul_right _ hroom
 have hr := run_append_room (P := P) w t ty E info hu hi g n c (xs ++ sp).toArray k6.has.2 ⟨bx, ox, none⟩ m cx news hnl hcell hone hroom hfit
 refine ⟨_, _, _, hr, ?_⟩
 have hl : (xs ++ sp).toArray.toList.take (n * info.size) ++ news ++ (xs ++ sp).toArray.toList.drop (n * info.size + news.length) = xs ++ news ++ sp.drop news.length := by
  simp only [← k4]
  rw [List.take_left, ← List.drop_drop, List.drop_left]
 rw [hl]
 have hset : Own W0 (w.setRow g (xs ++ news ++ sp.drop news.length).toArray) (pt g (aw (xs ++ news ++ sp.drop news.length) E) :: R) :=
   k6.set rfl rfl rfl (by simp [World.setRow]) (setRow_heap w g _ _ E _ k6.has.2) (fun k hk => setRow_other w g k _ hk)
 refine hset.ent ?_
 have hspl : news.length ≤ sp.length := by
  have := k5; rw [List.length_append, k4] at this; rw [hnl]
  have h3 := Nat.mul_le_mul_right info.size hroom; rw [Nat.add_mul] at h3; omega
 exact @eP _ R R E info.size g (n + m) c (xs ++ news) (sp.drop news.length) _ hroom k3 (by rw [List.length_append, k4, hnl, Nat.add_mul]) (by
   rw [← k5]; simp only [List.length_append, List.length_drop]; omega) _
 have holds : ∀ j u, xs[j]? = some u → w.cell? ((⟨g, 0, none⟩ : Addr).add j) = some u := fun j u hj => by
  rw [fa, Nat.zero_add]
  have := k6.has.2
  simp only [World.cell?, this, Option.isSome_none, Bool.false_eq_true, if_false]
  rw [List.getElem?_toArray, List.getElem?_append_left (by
    rcases Nat.lt_or_ge j xs.length with q | q
    · exact q
    rw [List.getElem?_eq_none q] at hj; cases hj)]
  exact hj
 have hr := run_append_grow (P := P) w t ty E info z hu hi hz ⟨g, 0, none⟩ n c xs k4 holds ⟨bx, ox, none⟩ m cx news hnl hcell (by omega) (by omega) (growslice_fits (by omega) hbig)
 refine ⟨_, _, _, hr, ?_⟩
 have hge := grownCap_ge w (n + m) c E
 have hcm := grownCap_le_maxLen w (n + m) c E h63
 have hnew' := (Own.drew k6.drop (w.drawn + 1)).new (aw (xs ++ news ++ (Builtin.zeroCells z.cells (grownCap w (n + m) c E - (n + m))).toList) E)
 have hw : (w.drew.alloc (.cells (xs.toArray ++ news.toArray ++ Builtin.zeroCells z.cells (grownCap w (n + m) c E - (n + m))) E)) = { ({ w with drawn := w.drawn + 1 } : World) with heap := w.heap.push (aw (xs ++ news ++ (Builtin.zeroCells z.cells (grownCap w (n + m) c E - (n + m))).toList) E) } := by
  have ea : (xs ++ news ++ (Builtin.zeroCells z.cells (grownCap w (n + m) c E - (n + m))).toList).toArray = xs.toArray ++ news.toArray ++ Builtin.zeroCells z.cells (grownCap w (n + m) c E - (n + m)) := by apply Array.ext'; simp
  simp only [World.drew, World.alloc, aw, ea]
 rw [hw]
 refine hnew'.ent ?_
 exact @eP _ R R E info.size w.heap.size (n + m) (grownCap w (n + m) c E) (xs ++ news) _ _ hge hcm (by rw [List.length_append, k4, hnl, Nat.add_mul]) (by
   rw [List.length_append, List.length_append, k4, hnl]; simp only [Array.length_toList, size_zeroCells, hz1, ← Nat.add_mul]; congr 1; omega) _
theorem dM [h : Tk pt b A (aw l ty) R] : cJ (bI W0 A) b 0 l := lJ (by simp)
def kJ (k : Nat) (e : bK) : Nat → List (Nat × Operand) → List (List Value) → Prop
 | _, [], [] => True
 | i, (j, x) :: ps, r :: rs => j = i ∧ ev e x = some (.agg r.toArray) ∧ r.length = k ∧ kJ k e (i + 1) ps rs
 | _, _, _ => False
theorem fM {k i : Nat} : kJ k e i [] [] := trivial
theorem eM {k i : Nat} {ps : List (Nat × Operand)} {r : List Value} {rs : List (List Value)} (h : ev e x = some (.agg r.toArray)) (hl : r.length = k) (hr : kJ k e (i + 1) ps rs) : kJ k e i ((i, x) :: ps) (r :: rs) := ⟨rfl, h, hl, hr⟩
theorem sr {a : Act} {k : Nat} (he : ∀ x v, ev e x = some v → a.eval x = v) : ∀ (ps : List (Nat × Operand)) (rs : List (List Value)) (done l : List Value) (i : Nat), done.length = i * k → kJ k e i ps rs → l.length = rs.length * k →
    Instr.fill (fun i => some (i * k, k)) (done ++ l).toArray (ps.map fun (i, x) => (i, a.eval x)) = some (done ++ rs.flatten).toArray
 | [], [], done, l, i, _, _, hl => by
  have : l = [] := List.length_eq_zero_iff.1 (by simpa using hl)
  subst this; rfl
 | [], _ :: _, _, _, _, _, h, _ => h.elim
 | _ :: _, [], _, _, _, _, h, _ => by cases h
 | (j, x) :: ps, r :: rs, done, l, i, hd, h, hl => by
  obtain ⟨rfl, hx, h1, hr⟩ := h
  have hv := he x _ hx
  rw [List.length_cons, Nat.succ_mul] at hl
  have hc : ¬ (r.length ≠ k) := by omega
  have hc2 : ¬ (j * k + r.length > (done ++ l).length) := by rw [List.length_append]; omega
  simp only [List.map_cons, Instr.fill, hv, Value.cells, List.size_toArray, hc, hc2, decide_false, Bool.or_false, Bool.false_eq_true, if_false]
  rw [← hd, oY, kI _ _ _ (by rw [List.length_append]; omega), hd]
  have e1 : (done ++ l).take (j * k) ++ r ++ (done ++ l).drop (j * k + r.length) = (done ++ r) ++ l.drop k := by
   rw [← hd, List.take_left, ← List.drop_drop, List.drop_left, h1]
  rw [e1, sr he ps rs (done ++ r) (l.drop k) (j + 1) (by rw [List.length_append, hd, h1, Nat.succ_mul]) hr (by rw [List.length_drop]; omega)]
  simp
theorem fN {E n k : Nat} {z : List Value} {ps : Array (Nat × Operand)} {rs : List (List Value)} (hu : P.underlying t = some (.slice E)) (hs : ∀ w, (sizeOf E).run P w = .ok k w) (hz : ∀ w, (zeroValue E).run P w = .ok (.agg z.toArray) w) (hzl : z.length = k)
    (hel : kJ k e 0 ps.toList rs) (hn : rs.length = n) (hn0 : n ≠ 0) (hk0 : k ≠ 0) (hn2 : n * k ≤ 100000) :
    di P W0 N e A (.buildSlice t n ps) (fun v B => ∃ b, v = .slice (some ⟨b, 0, none⟩) n n ∧ B = pt b (aw rs.flatten E) :: A) :=
  jK (g := fun b => .slice (some ⟨b, 0, none⟩) n n) (fun a w _ _ _ _ _ hF _ => by
 have hfl := sr (k := k) (fun x v h => hF.eval h) ps.toList rs [] ((Array.range (n * k)).map (z.toArray[· % z.toArray.size]!)).toList 0 (by simp) hel (by simp [hn])
 simp only [List.nil_append, Array.toArray_toList] at hfl
 have hbig : ¬ (n * k > 2 ^ 24) := by omega
 have hn1 : ¬ (n * k = 0) := by rw [Nat.mul_eq_zero]; omega
 simp only [execOp, Instr.buildSlice, Sem.run_bind, dF hu, Result.andThen_ok, hs, Array.toList_map, Sem.run_ite, if_neg hbig, if_neg hn1, hz, Sem.run_pure, Value.cells]
 rw [hfl]
 rfl)
theorem xa {K1 K2 X1 X2 : Type} {r1 : K1 → X1 → HP} {b1 : K1} {x1 : X1} {R1 : List HP} {r2 : K2 → X2 → HP} {b2 : K2} {x2 : X2} [h1 : Tk r1 b1 A x1 R1] [h2 : Tk r2 b2 R1 x2 R] : A.Perm (r1 b1 x1 :: r2 b2 x2 :: R) := h1.perm.trans (h2.perm.cons _)
theorem su {K1 X1 : Type} {r1 : K1 → X1 → HP} {b1 : K1} {x1 : X1} [h1 : Tk r1 b1 A x1 R] : A.Perm (r1 b1 x1 :: R) := h1.perm
theorem f9 {K1 X1 : Type} {r1 : K1 → X1 → HP} {b1 : K1} {x1 : X1} {recv : Operand} {nm : String} {xs : Array Operand} {ats : Array TypeId} {T : TypeId} {rv rv' : Value} {f : FuncId} {Post : Value → List HP → Prop} (hr : ev e recv = some (.iface T rv))
    (hm : ∀ w, (method (P.types.size + Made.depth) T rv nm).run P w = .ok (f, rv') w) (hc : ∀ args w, (callFunc f args).run P w = .ok (.enter f args) w) (hx : eC e xs.toList = some vs)
    (hs : aC P W0 f (rv' :: vs) (r1 b1 x1 :: R) Post) [h1 : Tk r1 b1 A x1 R] : di P W0 N e A (.call { callee := .invoke recv nm, args := xs, argTypes := ats }) Post :=
  jL su (wZ hr hm hc hx hs)
theorem p7 {K1 X1 : Type} {r1 : K1 → X1 → HP} {b1 : K1} {x1 : X1} {fx : Operand} {xs : Array Operand} {ats : Array TypeId} {f : FuncId} {us cs : List Value} {Post : Value → List HP → Prop} (hf : ev e fx = some (.func (.func f) us.toArray cs.toArray))
    (hc : ∀ args w, (callFunc f args).run P w = .ok (.enter f args) w) (hx : eC e xs.toList = some vs) (hs : aC P W0 f (us ++ vs ++ cs) (r1 b1 x1 :: R) Post) [h1 : Tk r1 b1 A x1 R] : di P W0 N e A (.call { callee := .value fx, args := xs, argTypes := ats }) Post :=
  jL su (p6 hf hc hx hs)
def chk (F : List HP → Prop) : HP := fun l => ∃ C, F C ∧ eO C l
theorem Own.chk {F : List HP → Prop} {w : World} (h : Own W0 w (chk F :: R)) : ∃ C, F C ∧ Own W0 w (C ++ R) := by
 obtain ⟨ls, ⟨l1, l2, rfl, ⟨C, hC, h1⟩, hs⟩, hn, hb⟩ := h.owns
 exact ⟨C, hC, h.os, h.tape, h.output, h.size, h.base, _, eO.append.2 ⟨l1, l2, rfl, h1, hs⟩, hn, hb⟩
theorem eE {F : List HP → Prop} {C : List HP} (h : F C) : Ent (C ++ R) (chk F :: R) := ⟨fun l hl => by
 obtain ⟨l1, l2, rfl, h1, h2⟩ := eO.append.1 hl
 exact ⟨l1 ++ l2, [], ⟨l1, l2, rfl, ⟨C, h, h1⟩, h2⟩, by simp⟩⟩
theorem iM {K : Act → World → Prop} {F : List HP → Prop} (h : ∀ C, F C → aQ W0 N K e (C ++ R)) : aQ W0 N K e (chk F :: R) := fun a w hF hO => by
 obtain ⟨C, hC, hO'⟩ := hO.chk
 exact h C hC a w hF hO'
theorem ng {f : FuncId} {args : List Value} {Post : Value → List HP → Prop} {F : List HP → Prop} (h : ∀ C, F C → aC P W0 f args (C ++ R) Post) : aC P W0 f args (chk F :: R) Post := fun w hO => by
 obtain ⟨C, hC, hO'⟩ := hO.chk
 exact h C hC w hO'
theorem p8 {f : FuncId} {args : List Value} {Post Post' : Value → List HP → Prop} (h : aC P W0 f args A Post) (k : ∀ v B, Post v B → ∃ B', Post' v B' ∧ Ent B B') : aC P W0 f args A Post' := fun w hO =>
  (h w hO).mono fun e w' ⟨v, B, h1, h2, h3⟩ => by
 obtain ⟨B', h4, h5⟩ := k v B h2
 exact ⟨v, B', h1, h4, h3.ent h5⟩
theorem dP {K X : Type} {r : K → X → HP} {b : K} {x : X} {Kt : Act → World → Prop} [h : Tk r b A x R] (k : aQ W0 N Kt e (r b x :: R)) : aQ W0 N Kt e A := oP h.perm k
theorem lR {f : FuncId} {args : List Value} {Post : Value → List HP → Prop} (hp : A.Perm B) (h : aC P W0 f args B Post) : aC P W0 f args A Post := fun w hO => h w (hO.perm hp)
end
theorem cV : Tryz.prog.follows .mixedOrders = true := by kernel_rfl
structure RecX where
  e : bK
  n : Nat
  ps : Array Tmp
  asg : Code
  body : Code
  st : LoopState
  pe : Option Code
  D : Nat
def RecX.loop (x : RecX) (fn : FuncId) (tmps : Array Value) : Loop := { state := x.st, pending := x.pe, fn := fn, tmps := tmps, params := x.ps, assign := x.asg, body := x.body, defers := x.D }
def dQ (L : Nat) (x : RecX) : HP := chk (fun C => ∃ fn tmps, tmps.size = x.n ∧ (∀ t v, dJ x.e t = some v → tmps[t]? = some v) ∧ C = [pt L (.loop (x.loop fn tmps))])
section
variable {rd : Option Nat} {P : Program} {W0 : World} {N : FSz} {Q : Exit → Act → World → Prop} {e : bK} {A B R : List HP} {ops : Array Oper} {rest : List Oper} {L : Nat} {x : RecX}
theorem Own.loopRec {w : World} (h : Own W0 w (dQ L x :: R)) : ∃ fn tmps, tmps.size = x.n ∧ (∀ t v, dJ x.e t = some v → tmps[t]? = some v) ∧ Own W0 w (pt L (.loop (x.loop fn tmps)) :: R) := by
 obtain ⟨C, ⟨fn, tmps, h1, h2, rfl⟩, hO⟩ := h.chk
 exact ⟨fn, tmps, h1, h2, hO⟩
theorem Own.toRec {w : World} {fn : FuncId} {tmps : Array Value} (h1 : tmps.size = x.n) (h2 : ∀ t v, dJ x.e t = some v → tmps[t]? = some v) (h : Own W0 w (pt L (.loop (x.loop fn tmps)) :: R)) : Own W0 w (dQ L x :: R) :=
  h.ent (eE (C := [pt L (.loop (x.loop fn tmps))]) ⟨fn, tmps, h1, h2, rfl⟩)
theorem Own.turn {w : World} {b : Nat} {o : Obj} (h : Own W0 w (pt b o :: R)) (o' : Obj) : Own W0 (w.putObj b o') (pt b o' :: R) :=
  h.set rfl rfl rfl (by simp) (World.putObj_heap_same (by
    rcases Nat.lt_or_ge b w.heap.size with q | q
    · exact q
    have := h.has.2; rw [Array.getElem?_eq_none q] at this; cases this)) (fun k hk => World.putObj_heap_other hk)
def kK (P : Program) (W0 : World) (L : Nat) (args : List Value) (A : List HP) (Post : Value → List HP → Prop) : Prop :=
  ∀ w, Own W0 w A → ∃ f tmps asg body, (Instr.yield L args.toArray).run P w = .ok (.round L f tmps asg body) w ∧ RoundIn (FW none) 0 P L f tmps asg body w (fun e w' => ∃ v B, e = .returned v ∧ Post v B ∧ Own W0 w' B)
theorem xb {fx : Operand} {xs : Array Operand} {ats : Array TypeId} {vs : List Value} {Post : Value → List HP → Prop} {dst : Option Tmp} {ty : TypeId} {pos : String} {af : Array Edge} (hf : ev e fx = some (.func (.yield L) #[] #[])) (hx : eC e xs.toList = some vs)
    (hd : (match dst with | some d => Nat.blt d N.n | none => true) = true)
    (hr : kK P W0 L vs A Post) (k : ∀ v B, Post v B → aQ W0 N (da rd P ops Q rest) (match (generalizing := false) dst with | some d => (d, v) :: e | none => e) B) :
    aQ W0 N (da rd P ops Q ({ dst := dst, op := .call { callee := .value fx, args := xs, argTypes := ats }, type := ty, pos := pos, after := af, guard := none } :: rest)) e A := by
 intro a w hF hO
 simp only [da, Region.wanted, if_true]
 refine .inr ⟨fun _ _ => trivial, ?_⟩
 have he : xs.map a.eval = vs.toArray := by
  have := hF.evals hx
  rw [← this]; apply Array.ext'; simp
 obtain ⟨f, tmps, asg, body, hy, hR⟩ := hr w hO
 have hrun : (execOp a.eval { dst := dst, op := .call { callee := .value fx, args := xs, argTypes := ats }, type := ty, pos := pos, after := af, guard := none }).run P w = .ok (.round L f tmps asg body) w := by
  simp only [execOp, resolve, Deferred.ofValue, Sem.run_bind, Sem.run_pure, Result.andThen_ok, invoke, he, hF.eval hf]
  have : (#[] ++ vs.toArray : Array Value) = vs.toArray := by simp
  simp only [this]; exact hy
 have hsem : Oper.semAt (FW rd).round a.eval { dst := dst, op := .call { callee := .value fx, args := xs, argTypes := ats }, type := ty, pos := pos, after := af, guard := none } = execOp a.eval { dst := dst, op := .call { callee := .value fx, args := xs, argTypes := ats }, type := ty, pos := pos, after := af, guard := none } :=
   Oper.semAt_eq _ _ _ (fun c h => by cases h)
 rw [hsem, hrun]
 refine ⟨fun h => (by cases h), RoundIn.mono hR ?_⟩
 rintro _ w' ⟨v, B, rfl, hp, hO'⟩
 have k := k v B hp
 cases dst with
 | none => exact k a w' hF hO'
 | some d => exact k _ w' (hF.put (Nat.lt_of_succ_le (Nat.le_of_ble_eq_true hd)) v) hO'
def lS : List Nat → List Value → bK → bK
 | p :: ps, v :: vs, e => lS ps vs ((p, v) :: e)
 | _, _, e => e
theorem sx {n : Nat} {ds : List Deferred} : ∀ (ps : List Nat) (vs : List Value) (e : bK) (tmps : Array Value), (ps.all fun p => Nat.blt p n) = true → Fr { tmps := tmps, defers := ds } ⟨n, ds⟩ e →
    Fr { tmps := (ps.zip vs).foldl (fun t (p, v) => t.setIfInBounds p v) tmps, defers := ds } ⟨n, ds⟩ (lS ps vs e)
 | [], _, e, tmps, _, h => by simpa [lS] using h
 | p :: ps, [], e, tmps, _, h => by simpa [lS] using h
 | p :: ps, v :: vs, e, tmps, hp, h => by
  simp only [List.all_cons, Bool.and_eq_true] at hp
  have := h.put (Nat.lt_of_succ_le (Nat.le_of_ble_eq_true hp.1)) v
  exact sx ps vs _ _ hp.2 this
def sy (P : Program) (L : Nat) (body : Code) (Q : Exit → Act → World → Prop) : Act → World → Prop := fun a w => ∃ w₂, (Instr.beginRound L).run P w = .ok () w₂ ∧ body.wpR (some L) P Q a w₂
theorem xd {body : Code} [h : Tk dQ L A x R] (hs : x.st = .ready) (k : aQ W0 N (body.wpR (some L) P Q) e (dQ L { x with st := .busy } :: R)) : aQ W0 N (Ex (Exit.then (sy P L body Q) (fun _ _ _ => False)) .normal) e A := by
 intro a w hF hO
 obtain ⟨fn, tmps, h1, h2, hO1⟩ := (hO.tk (r := dQ) (b := L)).loopRec
 refine ⟨_, run_beginRound hO1.has.2 (by exact hs), k a _ hF ?_⟩
 exact Own.toRec (x := { x with st := .busy }) h1 h2 (hO1.turn _)
def lT (P : Program) (W0 : World) (L : Nat) (Post : Value → List HP → Prop) : Exit → Act → World → Prop := roundPost P L (fun e w' => ∃ v B, e = .returned v ∧ Post v B ∧ Own W0 w' B)
theorem xe {Post : Value → List HP → Prop} [h : Tk dQ L A x R] (hp : ∃ B, Post (.bool true) B ∧ Ent (dQ L { x with st := .ready, pe := none } :: R) B) : aQ W0 N (Ex (lT P W0 L Post) .normal) e A := by
 intro a w hF hO
 obtain ⟨fn, tmps, h1, h2, hO1⟩ := (hO.tk (r := dQ) (b := L)).loopRec
 obtain ⟨B, hB, hE⟩ := hp
 exact ⟨_, _, run_endRound none hO1.has.2, _, B, rfl, hB, Own.ent (Own.toRec (x := { x with st := .ready, pe := none }) h1 h2 (hO1.turn _)) hE⟩
theorem xf {args : List Value} {Post : Value → List HP → Prop} [h : Tk dQ L A x R] (hl : args.length = x.ps.size) (hps : (x.ps.toList.all fun p => Nat.blt p x.n) = true)
    (k : aQ W0 ⟨x.n, []⟩ (x.asg.wpR (some L) P (Exit.then (sy P L x.body (lT P W0 L Post)) (fun _ _ _ => False))) (lS x.ps.toList args x.e) (dQ L x :: R)) : kK P W0 L args A Post := by
 intro w hO
 obtain ⟨fn, tmps, h1, h2, hO1⟩ := (hO.tk (r := dQ) (b := L)).loopRec
 refine ⟨_, _, _, _, run_yield hO1.has.2 (by simpa [RecX.loop] using hl), ?_⟩
 refine roundIn_of_wpIn (F := FW none) trivial ?_
 have hF := sx (n := x.n) (ds := []) x.ps.toList args x.e tmps hps ⟨rfl, h1, h2⟩
 have e1 : ((x.loop fn tmps).params.zip args.toArray).foldl (fun t (p, v) => t.setIfInBounds p v) (x.loop fn tmps).tmps = (x.ps.toList.zip args).foldl (fun t (p, v) => t.setIfInBounds p v) tmps := by
  simp only [RecX.loop]
  rw [← Array.foldl_toList, Array.toList_zip]
 rw [e1]
 exact k _ w hF (Own.toRec h1 h2 hO1)
end
section
variable {rd : Option Nat} {P : Program} {S : World → Prop} {W0 : World} {N : FSz} {Q : Exit → Act → World → Prop} {e : bK} {A B R : List HP} {ops : Array Oper} {rest : List Oper}
variable {op : Op} {ty t t' : TypeId} {pos : String} {af : Array Edge} {v u : Value} {d b off : Nat} {x y z : Operand} {l l' vs : List Value}
theorem cJ.weak (h : cJ (bI W0 B) b off vs) [k : Ent A B] : cJ (bI W0 A) b off vs := fun i v hi => (h i v hi).weak
theorem xg {E d : Nat} {a : Option Addr} {n c : Nat} (hu : P.underlying t = some (.slice E)) : iK P (d + 1) t (.slice a n c) (.slice none 0 0) a.isNone := fun w => by
 cases a <;> simp [Op.equalIn, dF hu]
theorem sB {E : TypeId} {a : Option Addr} {n c : Nat} (hu : P.underlying t = some (.slice E)) (hx : ev e x = some (.slice a n c)) (hy : ev e y = some (.slice none 0 0)) : cn P S N e (.binOp .eql t x y t') (.bool a.isNone) :=
  fi hx hy (fun w x y => by simp [eqGuard]) (s9 rfl (xg hu))
theorem jj {P : Program} {k : IntKind} {i y : Nat} {code : BoundsCode} (h : i ≤ y) (w : World) : (Instr.sliceBound (.int k (i : Int)) y code).run P w = .ok i w := by
 have : (0 : Int) ≤ (i : Int) ∧ (i : Int) ≤ (y : Int) := by omega
 simp [Instr.sliceBound, asIntOf, this, h]
theorem p9 {E n c sz o' : Nat} {k k' k'' : IntKind} {i h m : Nat} {j1 j2 j3 : Int} (hu : P.underlying t = some (.slice E)) (hs : ∀ w, (sizeOf E).run P w = .ok sz w) (hx : ev e x = some (.slice (some ⟨b, off, none⟩) n c))
    {lo hi mx : Operand} (h1 : ev e lo = some (.int k j1)) (h2 : ev e hi = some (.int k' j2)) (h3 : ev e mx = some (.int k'' j3)) (e1 : j1 = (i : Int)) (e2 : j2 = (h : Int)) (e3 : j3 = (m : Int)) (hil : i ≤ h) (hhm : h ≤ m) (hmc : m ≤ c) (hne : i < m) (ho : off + i * sz = o') :
    cn P S N e (.slice t x (some lo) (some hi) (some mx)) (.slice (some ⟨b, o', none⟩) (h - i) (m - i)) := fun a w _ _ _ _ _ hF _ => by
 subst e1; subst e2; subst e3; subst ho
 have hmi : ¬ m = i := by omega
 simp [execOp, Instr.sliceAt, Instr.slice, hF.eval hx, hF.eval h1, hF.eval h2, hF.eval h3, dF hu, Instr.sliceBounds, jj hmc, jj hhm, jj hil, hs, hmi, fa]
theorem pd {E n sz : Nat} (hu : P.underlying t = some (.array n E)) (hs : ∀ w, (sizeOf E).run P w = .ok sz w) (hx : ev e x = some (.pointer (some ⟨b, off, none⟩))) :
    cn P S N e (.slice t x none none none) (.slice (some ⟨b, off, none⟩) n n) := fun a w _ _ _ _ _ hF _ => by
 by_cases h : n = 0
 simp [execOp, Instr.sliceAt, hF.eval hx, dF hu, Instr.sureAddr, Instr.sliceBounds, hs, h]
 simp [execOp, Instr.sliceAt, hF.eval hx, dF hu, Instr.sureAddr, Instr.sliceBounds, hs, h, fa]
theorem lU {E sz : Nat} {ps : Array (Nat × Operand)} (hu : P.underlying t = some (.slice E)) (hs : ∀ w, (sizeOf E).run P w = .ok sz w) (hp : ps = #[]) :
    di P W0 N e A (.buildSlice t 0 ps) (fun v B => ∃ b, v = .slice (some ⟨b, 0, none⟩) 0 0 ∧ B = osl E sz v [] :: A) := jJ fun a w _ _ _ _ _ hF hO => by
 subst hp
 have hn := hO.new (aw [] E)
 refine ⟨_, { w with heap := w.heap.push (aw [] E) }, _, .inl ?_, ⟨w.heap.size, rfl, rfl⟩, ?_⟩
 simp [execOp, Instr.buildSlice, dF hu, hs, Instr.fill, newRow, Array.range_zero']
 have : pt w.heap.size (aw [] E) = pt w.heap.size (aw ([] ++ []) E) := rfl
 rw [this] at hn
 exact hn.ent (eP (Nat.le_refl _) (Nat.zero_le _) (by simp) (by simp))
theorem lV {E sz by_ : Nat} {info : TypeInfo} {zz : Value} {v0 : Value} {n : Nat} {k k' : IntKind} {i1 i2 : Int} (hu : P.underlying t = some (.slice E)) (hi : P.info? E = some info) (hz : info.zero = some zz) (hsz : info.size = sz) (hby : info.bytes = by_)
    (hzc : zz.cells = (List.replicate sz v0).toArray) (hsz0 : 0 < sz) (hx : ev e x = some (.int k i1)) (hy : ev e y = some (.int k' i2)) (e1 : i1 = (n : Int)) (e2 : i2 = (n : Int)) (hn : n ≤ 1000000) (hb : by_ ≤ 1000000) :
    di P W0 N e A (.makeSlice t x y) (fun v B => ∃ b, v = .slice (some ⟨b, 0, none⟩) n n ∧ B = pt b (aw (List.replicate (n * sz) v0) E) :: A) :=
  jK (g := fun b => .slice (some ⟨b, 0, none⟩) n n) (fun a w _ _ _ _ _ hF _ => by
 subst e1; subst e2; subst hsz; subst hby
 have hm : info.bytes * n ≤ 1000000 * 1000000 := Nat.mul_le_mul hb hn
 have hr := run_make (P := P) w t E info zz hu hi hz k k' n n (by omega) (by omega) (by rw [← Int.natCast_mul]; omega) (by omega)
 simp only [Int.toNat_natCast] at hr
 have hc : madeCells zz.cells (n * info.size) = (List.replicate (n * info.size) v0).toArray := by
  apply Array.ext
  simp [madeCells]
  intro i h1 h2
  simp only [madeCells, hzc, Array.getElem_map, Array.getElem_range, List.size_toArray, List.length_replicate]
  have hlt : i % info.size < info.size := Nat.mod_lt _ hsz0
  rw [getElem!_pos _ _ (by simpa using hlt)]
  simp
 rw [hc] at hr
 simp only [execOp, hF.eval hx, hF.eval hy, Sem.run_bind, hr, Result.andThen_ok, Sem.run_pure]
 rfl)
theorem kL {E sz dn dc sn sc bx ox m : Nat} (hu : P.underlying t = some (.slice E)) (hs : ∀ w, (sizeOf E).run P w = .ok sz w) (hx : ev e x = some (.slice (some ⟨b, off, none⟩) dn dc)) (hy : ev e y = some (.slice (some ⟨bx, ox, none⟩) sn sc))
    [h : Tk pt b A (aw l ty) R] (hm : Nat.min sn dn = m) (hc : cJ (bI W0 A) bx ox vs) (hl : vs.length = m * sz) (h1 : en vs = true) (ho : off + m * sz ≤ l.length) (hr : setR l off vs = l') :
    di P W0 N e A (.call { callee := .builtin .copy, args := #[x, y], argTypes := #[t, t'] }) (fun v B => v = .int .i64 m ∧ B = pt b (aw l' ty) :: R) := by
 intro a w dst ty' pos af g K Q hF hO k
 have hO' := hO.tk (r := pt) (b := b)
 have hld := mT (P := P) (w := w) (fun i v hi => hc i v hi w hO) (m * sz) 0 #[] (by omega)
 obtain ⟨w', hst, hO''⟩ := oX (P := P) (off := off) vs 0 hO' (by omega) (fun v hv => by simpa [en] using (List.all_eq_true.1 h1 v hv))
 rw [Nat.add_zero, hr] at hO''
 have hexec : (execOp a.eval { dst := dst, op := .call { callee := .builtin .copy, args := #[x, y], argTypes := #[t, t'] }, type := ty', pos := pos, after := af, guard := g }).run P w = .ok (.value (.int .i64 m)) w' := by
  simp only [execOp, resolve, invoke, builtin, Sem.run_bind, Sem.run_pure, Result.andThen_ok, List.map_toArray, List.map_cons, List.map_nil, hF.eval hx, hF.eval hy, Builtin.copy_, Builtin.lenOf, Builtin.firstCells, dF hu, hs]
  have hs' : (sizeOf E).run P w = .ok sz w := hs w
  simp only [hm, Array.getElem?_eq_getElem, List.getElem?_toArray, List.getElem?_cons_zero, List.getElem?_cons_succ, Sem.run_bind, Sem.run_pure, Result.andThen_ok, dF hu, hs', loadCells, hld, List.drop_zero, List.nil_append, Array.empty_append, hst, goInt]
 unfold Oper.wp
 rw [hexec]
 exact k _ w' _ ⟨rfl, rfl⟩ hO''
theorem lW {k : IntKind} {m n r : Int} {ats : Array TypeId} (hx : ev e x = some (.int k m)) (hy : ev e y = some (.int k n)) (hr : (if n < m then n else m) = r) : cn P S N e (.call { callee := .builtin .min, args := #[x, y], argTypes := ats }) (.int k r) := fun a w _ _ _ _ _ hF _ => by
 simp [execOp, resolve, invoke, builtin, hF.eval hx, hF.eval hy, Builtin.min_, Builtin.min2, hr]
end
end
section
def bV (b : Nat) : Value := .int .u8 (b : Int)
def bU (l : List Nat) : List Value := l.map bV
theorem dG (l : List Nat) : (bU l).length = l.length := by simp [bU]
theorem sD (a b : List Nat) : bU (a ++ b) = bU a ++ bU b := by simp [bU]
theorem pf (l : List Nat) : en (bU l) = true := by simp [en, bU, bV, Value.oneCell']
def By (l : List Nat) : Prop := ∀ b ∈ l, b < 256
theorem By.get {l : List Nat} (h : By l) {i : Nat} (hi : i < l.length) : l[i] < 256 := h _ (List.getElem_mem hi)
def pi : List Nat → Nat
 | [] => 0
 | b :: bs => b + 256 * pi bs
theorem By.take {l : List Nat} (h : By l) (i : Nat) : By (l.take i) := fun b hb => h b (List.mem_of_mem_take hb)
theorem By.drop {l : List Nat} (h : By l) (i : Nat) : By (l.drop i) := fun b hb => h b (List.mem_of_mem_drop hb)
theorem By.append {a b : List Nat} (h : By a) (k : By b) : By (a ++ b) := fun x hx => by
 rcases List.mem_append.1 hx with h' | h'
 exact h x h'
 exact k x h'
theorem xh (i : Nat) : 256 ^ i = 2 ^ (8 * i) := by rw [Nat.pow_mul]
def fl (n w : Nat) : List Nat := (List.range n).map fun i => w / 256 ^ i % 256
theorem kM (n w : Nat) : (fl n w).length = n := by simp [fl]
theorem xi (n w : Nat) : By (fl n w) := fun b hb => by
 obtain ⟨i, _, rfl⟩ := List.mem_map.1 hb
 exact Nat.mod_lt _ (by decide)
theorem sF (n w : Nat) : fl (n + 1) w = fl n w ++ [w / 256 ^ n % 256] := by simp [fl, List.range_succ]
theorem sG {w i : Nat} (hi : 8 * i ≤ 32) : IntKind.wrap .u8 (kC .u32 (w : Int) ((8 * i : Nat) : Int)) = ((w / 256 ^ i % 256 : Nat) : Int) := by
 rw [mY (by simpa [IntKind.bits] using hi), ← xh]
 simp only [IntKind.wrap, IntKind.bits, IntKind.signed]
 simp
def gi (l : List Nat) (at_ n w : Nat) : List Nat := l.take at_ ++ fl n w ++ l.drop (at_ + n)
theorem jO {l : List Nat} {at_ n w : Nat} (h : at_ + n ≤ l.length) : (gi l at_ n w).length = l.length := by simp [gi, kM]; omega
theorem xj {l : List Nat} {at_ n w : Nat} (h : By l) : By (gi l at_ n w) := ((h.take _).append (xi _ _)).append (h.drop _)
theorem pj : ∀ (vs l : List Value) (off : Nat) (v : Value), setR l off (vs ++ [v]) = (setR l off vs).set (off + vs.length) v
 | [], l, off, v => by simp [setR]
 | u :: vs, l, off, v => by
  rw [List.cons_append, setR, setR, pj vs]
  congr 1; simp; omega
theorem xk {l : List Nat} {at_ n w : Nat} (h : at_ + n ≤ l.length) : setR (bU l) at_ (bU (fl n w)) = bU (gi l at_ n w) := by
 rw [kI _ _ _ (by rw [dG, dG, kM]; exact h), dG, kM]
 simp [gi, bU, List.map_take, List.map_drop]
theorem sH : ∀ (vs a b : List Value) (off : Nat), off + vs.length ≤ a.length → setR (a ++ b) off vs = setR a off vs ++ b
 | [], a, b, off, _ => rfl
 | v :: vs, a, b, off, h => by
  simp only [List.length_cons] at h
  rw [setR, setR, List.set_append_left _ _ (by omega), sH vs _ b (off + 1) (by simp; omega)]
def dB (n : Nat) (at_ w : Int) : Bool := decide ((w = 1 ∨ w = 2 ∨ w = 4) ∧ 0 ≤ at_ ∧ at_ ≤ n ∧ w ≤ n - at_)
theorem e8 {n : Nat} {at_ w : Int} : dB n at_ w = true ↔ (w = 1 ∨ w = 2 ∨ w = 4) ∧ 0 ≤ at_ ∧ at_ ≤ n ∧ w ≤ n - at_ := by simp [dB]
theorem kN {n : Nat} {at_ w : Int} (h : dB n at_ w = true) : ∃ i k : Nat, at_ = (i : Int) ∧ w = (k : Int) ∧ (k = 1 ∨ k = 2 ∨ k = 4) ∧ i + k ≤ n := by
 have := e8.1 h
 exact ⟨at_.toNat, w.toNat, by omega, by omega, by omega, by omega⟩
end
section
open Go.RowKit
def fP (g off n : Nat) (at_ w : Int) : Value := if dB n at_ w then .tuple #[.slice (some ⟨g, off + at_.toNat, none⟩) w.toNat w.toNat, .bool true] else .tuple #[.slice none 0 0, .bool false]
theorem xl (W0 : World) (R : List HP) (g off n c : Nat) (at_ w : Int) (hn : n ≤ c) (h63 : c < 9223372036854775808) :
    aC Tryz.prog W0 183 [.slice (some ⟨g, off, none⟩) n c, .int .i64 at_, .int .i64 w] R (fun v B => v = fP g off n at_ w ∧ B = R) := by
 refine aF func183 ntmps183 rfl rfl ?_
 refine ae (ah (aa rfl (ai rfl) (aa rfl (ai rfl) (ag (ab (ae (b0 (ae (ah (aa rfl (ac rfl) (aa rfl (co rfl rfl) (aa rfl (ac rfl) ?_))))))))))))
 refine cG rfl rfl rfl ?_ ?_
 intro g1_3
 refine aa rfl (ac rfl) (ar rfl rfl (aa rfl (co rfl rfl) (aa rfl (aT rfl rfl) (aa rfl (ac rfl) ?_))))
 refine cG rfl rfl rfl ?_ ?_
 intro g1_7
 refine aa rfl (ac rfl) (ar rfl rfl (aa rfl (co rfl rfl) (aa rfl (aT rfl rfl) (aa rfl (ai rfl) (ag (ab ?_))))))
 refine ax rfl ?_ ?_
 intro c1
 refine ae (ah (aa rfl (ai rfl) (aa rfl (ai rfl) (ag (ab (av (bj (aD (au (.inl rfl) (.cons (ak rfl) (.cons (ak rfl) .nil)) ?_)))))))))
 refine ⟨_, ⟨?_, rfl⟩, inferInstance⟩
 have hi : dB n at_ w = false := by
  rw [← Bool.not_eq_true, e8]; omega
 simp [cA, fP, hi]
 intro c1
 refine ae (ae (ah (aa rfl (ac rfl) (aa rfl (aY rfl rfl) (aa rfl (ai rfl) (ag (ab ?_)))))))
 refine ax rfl ?_ ?_
 intro c3
 refine aB (ab (bR rfl (ae (ah (aa rfl (ai rfl) (aa rfl (ai rfl) (ag (ab (av (bj (aD (au (.inl rfl) (.cons (ak rfl) (.cons (ak rfl) .nil)) ?_))))))))))))
 refine ⟨_, ⟨?_, rfl⟩, inferInstance⟩
 have hi : dB n at_ w = false := by
  rw [← Bool.not_eq_true, e8]; omega
 simp [cA, fP, hi]
 intro c3
 refine ae (ah (aa rfl (ac rfl) (aa rfl (ac rfl) (aa rfl (bq dE rfl) (aa rfl (cd rfl rfl) (aa rfl (ai rfl) (ag (ab ?_))))))))
 refine ax rfl ?_ ?_
 intro c4
 refine aB (ab (bR rfl (ae (ah (aa rfl (ai rfl) (aa rfl (ai rfl) (ag (ab (av (bj (aD (au (.inl rfl) (.cons (ak rfl) (.cons (ak rfl) .nil)) ?_))))))))))))
 refine ⟨_, ⟨?_, rfl⟩, inferInstance⟩
 have hi : dB n at_ w = false := by
  rw [← Bool.not_eq_true, e8]; omega
 simp [cA, fP, hi]
 intro c4
 refine ah (aa rfl (ac rfl) (aa rfl (ac rfl) (aa rfl (bq dE rfl) (aa rfl (ac rfl) ?_))))
 refine aa rfl (dW rfl rfl (by first | exact aW (by omega) | rfl)) ?_
 refine aa rfl (cd rfl rfl) (aa rfl (ai rfl) (ag (ab ?_)))
 refine ax rfl ?_ ?_
 intro c5
 refine ae (ah (aa rfl (ai rfl) (aa rfl (ai rfl) (ag (ab (av (bj (aD (au (.inl rfl) (.cons (ak rfl) (.cons (ak rfl) .nil)) ?_)))))))))
 refine ⟨_, ⟨?_, rfl⟩, inferInstance⟩
 have hi : dB n at_ w = false := by
  rw [← Bool.not_eq_true, e8]; omega
 simp [cA, fP, hi]
 intro c5
 refine aB (bF (ab (ae ?_)))
 have hi : dB n at_ w = true := e8.2 ⟨by omega, by omega, by omega, by omega⟩
 obtain ⟨i, k, rfl, rfl, hk, hik⟩ := kN hi
 refine ah (aa rfl (ac rfl) (aa rfl (ac rfl) (aa rfl (ac rfl) (aa rfl (ac rfl) ?_))))
 refine aa rfl (bC rfl rfl (by rw [aW (by omega)]; exact (Int.natCast_add i k).symm : IntKind.wrap .i64 ((i : Int) + (k : Int)) = ((i + k : Nat) : Int))) ?_
 refine aa rfl (ac rfl) (aa rfl (ac rfl) ?_)
 refine aa rfl (bC rfl rfl (by rw [aW (by omega)]; exact (Int.natCast_add i k).symm : IntKind.wrap .i64 ((i : Int) + (k : Int)) = ((i + k : Nat) : Int))) ?_
 refine aa rfl (p9 dE gT rfl rfl rfl rfl rfl rfl rfl (by omega) (by omega) (by omega) (by omega) (by first | exact Nat.zero_add _ | rfl)) ?_
 refine aa rfl (ai rfl) (aa rfl (ai rfl) (ag (ab (av (au (.inl rfl) (.cons (ak rfl) (.cons (ak rfl) .nil)) ?_)))))
 refine ⟨_, ⟨?_, rfl⟩, inferInstance⟩
 simp [cA, fP, hi]
 intro g1_7
 refine al rfl rfl rfl rfl (aa rfl (aJ rfl rfl) (aa rfl (ai rfl) (ag (ab (eL rfl (ae (ae (ah (aa rfl (ac rfl) (aa rfl (aY rfl rfl) (aa rfl (ai rfl) (ag (ab ?_)))))))))))))
 refine ax rfl ?_ ?_
 intro c3
 refine aB (ab (bR rfl (ae (ah (aa rfl (ai rfl) (aa rfl (ai rfl) (ag (ab (av (bj (aD (au (.inl rfl) (.cons (ak rfl) (.cons (ak rfl) .nil)) ?_))))))))))))
 refine ⟨_, ⟨?_, rfl⟩, inferInstance⟩
 have hi : dB n at_ w = false := by
  rw [← Bool.not_eq_true, e8]; omega
 simp [cA, fP, hi]
 intro c3
 refine ae (ah (aa rfl (ac rfl) (aa rfl (ac rfl) (aa rfl (bq dE rfl) (aa rfl (cd rfl rfl) (aa rfl (ai rfl) (ag (ab ?_))))))))
 refine ax rfl ?_ ?_
 intro c4
 refine aB (ab (bR rfl (ae (ah (aa rfl (ai rfl) (aa rfl (ai rfl) (ag (ab (av (bj (aD (au (.inl rfl) (.cons (ak rfl) (.cons (ak rfl) .nil)) ?_))))))))))))
 refine ⟨_, ⟨?_, rfl⟩, inferInstance⟩
 have hi : dB n at_ w = false := by
  rw [← Bool.not_eq_true, e8]; omega
 simp [cA, fP, hi]
 intro c4
 refine ah (aa rfl (ac rfl) (aa rfl (ac rfl) (aa rfl (bq dE rfl) (aa rfl (ac rfl) ?_))))
 refine aa rfl (dW rfl rfl (by first | exact aW (by omega) | rfl)) ?_
 refine aa rfl (cd rfl rfl) (aa rfl (ai rfl) (ag (ab ?_)))
 refine ax rfl ?_ ?_
 intro c5
 refine ae (ah (aa rfl (ai rfl) (aa rfl (ai rfl) (ag (ab (av (bj (aD (au (.inl rfl) (.cons (ak rfl) (.cons (ak rfl) .nil)) ?_)))))))))
 refine ⟨_, ⟨?_, rfl⟩, inferInstance⟩
 have hi : dB n at_ w = false := by
  rw [← Bool.not_eq_true, e8]; omega
 simp [cA, fP, hi]
 intro c5
 refine aB (bF (ab (ae ?_)))
 have hi : dB n at_ w = true := e8.2 ⟨by omega, by omega, by omega, by omega⟩
 obtain ⟨i, k, rfl, rfl, hk, hik⟩ := kN hi
 refine ah (aa rfl (ac rfl) (aa rfl (ac rfl) (aa rfl (ac rfl) (aa rfl (ac rfl) ?_))))
 refine aa rfl (bC rfl rfl (by rw [aW (by omega)]; exact (Int.natCast_add i k).symm : IntKind.wrap .i64 ((i : Int) + (k : Int)) = ((i + k : Nat) : Int))) ?_
 refine aa rfl (ac rfl) (aa rfl (ac rfl) ?_)
 refine aa rfl (bC rfl rfl (by rw [aW (by omega)]; exact (Int.natCast_add i k).symm : IntKind.wrap .i64 ((i : Int) + (k : Int)) = ((i + k : Nat) : Int))) ?_
 refine aa rfl (p9 dE gT rfl rfl rfl rfl rfl rfl rfl (by omega) (by omega) (by omega) (by omega) (by first | exact Nat.zero_add _ | rfl)) ?_
 refine aa rfl (ai rfl) (aa rfl (ai rfl) (ag (ab (av (au (.inl rfl) (.cons (ak rfl) (.cons (ak rfl) .nil)) ?_)))))
 refine ⟨_, ⟨?_, rfl⟩, inferInstance⟩
 simp [cA, fP, hi]
 intro g1_3
 refine al rfl rfl rfl rfl (aa rfl (aJ rfl rfl) (aa rfl (ac rfl) (al rfl rfl rfl rfl (al rfl rfl rfl rfl (aa rfl (aJ rfl rfl) (aa rfl (ai rfl) (ag (ab (eL rfl (ae (ae (ah (aa rfl (ac rfl) (aa rfl (aY rfl rfl) (aa rfl (ai rfl) (ag (ab ?_)))))))))))))))))
 refine ax rfl ?_ ?_
 intro c3
 refine aB (ab (bR rfl (ae (ah (aa rfl (ai rfl) (aa rfl (ai rfl) (ag (ab (av (bj (aD (au (.inl rfl) (.cons (ak rfl) (.cons (ak rfl) .nil)) ?_))))))))))))
 refine ⟨_, ⟨?_, rfl⟩, inferInstance⟩
 have hi : dB n at_ w = false := by
  rw [← Bool.not_eq_true, e8]; omega
 simp [cA, fP, hi]
 intro c3
 refine ae (ah (aa rfl (ac rfl) (aa rfl (ac rfl) (aa rfl (bq dE rfl) (aa rfl (cd rfl rfl) (aa rfl (ai rfl) (ag (ab ?_))))))))
 refine ax rfl ?_ ?_
 intro c4
 refine aB (ab (bR rfl (ae (ah (aa rfl (ai rfl) (aa rfl (ai rfl) (ag (ab (av (bj (aD (au (.inl rfl) (.cons (ak rfl) (.cons (ak rfl) .nil)) ?_))))))))))))
 refine ⟨_, ⟨?_, rfl⟩, inferInstance⟩
 have hi : dB n at_ w = false := by
  rw [← Bool.not_eq_true, e8]; omega
 simp [cA, fP, hi]
 intro c4
 refine ah (aa rfl (ac rfl) (aa rfl (ac rfl) (aa rfl (bq dE rfl) (aa rfl (ac rfl) ?_))))
 refine aa rfl (dW rfl rfl (by first | exact aW (by omega) | rfl)) ?_
 refine aa rfl (cd rfl rfl) (aa rfl (ai rfl) (ag (ab ?_)))
 refine ax rfl ?_ ?_
 intro c5
 refine ae (ah (aa rfl (ai rfl) (aa rfl (ai rfl) (ag (ab (av (bj (aD (au (.inl rfl) (.cons (ak rfl) (.cons (ak rfl) .nil)) ?_)))))))))
 refine ⟨_, ⟨?_, rfl⟩, inferInstance⟩
 have hi : dB n at_ w = false := by
  rw [← Bool.not_eq_true, e8]; omega
 simp [cA, fP, hi]
 intro c5
 refine aB (bF (ab (ae ?_)))
 have hi : dB n at_ w = true := e8.2 ⟨by omega, by omega, by omega, by omega⟩
 obtain ⟨i, k, rfl, rfl, hk, hik⟩ := kN hi
 refine ah (aa rfl (ac rfl) (aa rfl (ac rfl) (aa rfl (ac rfl) (aa rfl (ac rfl) ?_))))
 refine aa rfl (bC rfl rfl (by rw [aW (by omega)]; exact (Int.natCast_add i k).symm : IntKind.wrap .i64 ((i : Int) + (k : Int)) = ((i + k : Nat) : Int))) ?_
 refine aa rfl (ac rfl) (aa rfl (ac rfl) ?_)
 refine aa rfl (bC rfl rfl (by rw [aW (by omega)]; exact (Int.natCast_add i k).symm : IntKind.wrap .i64 ((i : Int) + (k : Int)) = ((i + k : Nat) : Int))) ?_
 refine aa rfl (p9 dE gT rfl rfl rfl rfl rfl rfl rfl (by omega) (by omega) (by omega) (by omega) (by first | exact Nat.zero_add _ | rfl)) ?_
 refine aa rfl (ai rfl) (aa rfl (ai rfl) (ag (ab (av (au (.inl rfl) (.cons (ak rfl) (.cons (ak rfl) .nil)) ?_)))))
 refine ⟨_, ⟨?_, rfl⟩, inferInstance⟩
 simp [cA, fP, hi]
theorem xm (W0 : World) (R : List HP) (a : Option Addr) (n c : Nat) (at_ w : Int) (hi : dB n at_ w = false) (hn : n < 9223372036854775808) :
    aC Tryz.prog W0 183 [.slice a n c, .int .i64 at_, .int .i64 w] R (fun v B => v = .tuple #[.slice none 0 0, .bool false] ∧ B = R) := by
 have hq : ¬ ((w = 1 ∨ w = 2 ∨ w = 4) ∧ 0 ≤ at_ ∧ at_ ≤ n ∧ w ≤ n - at_) := fun h => by rw [e8.2 h] at hi; cases hi
 refine aF func183 ntmps183 rfl rfl ?_
 refine ae (ah (aa rfl (ai rfl) (aa rfl (ai rfl) (ag (ab (ae (b0 (ae (ah (aa rfl (ac rfl) (aa rfl (co rfl rfl) (aa rfl (ac rfl) ?_))))))))))))
 refine cG rfl rfl rfl ?_ ?_
 intro g1_3
 refine aa rfl (ac rfl) (ar rfl rfl (aa rfl (co rfl rfl) (aa rfl (aT rfl rfl) (aa rfl (ac rfl) ?_))))
 refine cG rfl rfl rfl ?_ ?_
 intro g1_7
 refine aa rfl (ac rfl) (ar rfl rfl (aa rfl (co rfl rfl) (aa rfl (aT rfl rfl) (aa rfl (ai rfl) (ag (ab ?_))))))
 refine ax rfl ?_ ?_
 intro c1
 refine ae (ah (aa rfl (ai rfl) (aa rfl (ai rfl) (ag (ab (av (bj (aD (au (.inl rfl) (.cons (ak rfl) (.cons (ak rfl) .nil)) ?_)))))))))
 exact ⟨_, ⟨rfl, rfl⟩, inferInstance⟩
 intro c1
 refine ae (ae (ah (aa rfl (ac rfl) (aa rfl (aY rfl rfl) (aa rfl (ai rfl) (ag (ab ?_)))))))
 refine ax rfl ?_ ?_
 intro c3
 refine aB (ab (bR rfl (ae (ah (aa rfl (ai rfl) (aa rfl (ai rfl) (ag (ab (av (bj (aD (au (.inl rfl) (.cons (ak rfl) (.cons (ak rfl) .nil)) ?_))))))))))))
 exact ⟨_, ⟨rfl, rfl⟩, inferInstance⟩
 intro c3
 refine ae (ah (aa rfl (ac rfl) (aa rfl (ac rfl) (aa rfl (bq dE rfl) (aa rfl (cd rfl rfl) (aa rfl (ai rfl) (ag (ab ?_))))))))
 refine ax rfl ?_ ?_
 intro c4
 refine aB (ab (bR rfl (ae (ah (aa rfl (ai rfl) (aa rfl (ai rfl) (ag (ab (av (bj (aD (au (.inl rfl) (.cons (ak rfl) (.cons (ak rfl) .nil)) ?_))))))))))))
 exact ⟨_, ⟨rfl, rfl⟩, inferInstance⟩
 intro c4
 refine ah (aa rfl (ac rfl) (aa rfl (ac rfl) (aa rfl (bq dE rfl) (aa rfl (ac rfl) ?_))))
 refine aa rfl (dW rfl rfl (by first | exact aW (by omega) | rfl)) ?_
 refine aa rfl (cd rfl rfl) (aa rfl (ai rfl) (ag (ab ?_)))
 refine ax rfl ?_ ?_
 intro c5
 refine ae (ah (aa rfl (ai rfl) (aa rfl (ai rfl) (ag (ab (av (bj (aD (au (.inl rfl) (.cons (ak rfl) (.cons (ak rfl) .nil)) ?_)))))))))
 exact ⟨_, ⟨rfl, rfl⟩, inferInstance⟩
 intro c5
 exfalso; omega
 intro g1_7
 refine al rfl rfl rfl rfl (aa rfl (aJ rfl rfl) (aa rfl (ai rfl) (ag (ab (eL rfl (ae (ae (ah (aa rfl (ac rfl) (aa rfl (aY rfl rfl) (aa rfl (ai rfl) (ag (ab ?_)))))))))))))
 refine ax rfl ?_ ?_
 intro c3
 refine aB (ab (bR rfl (ae (ah (aa rfl (ai rfl) (aa rfl (ai rfl) (ag (ab (av (bj (aD (au (.inl rfl) (.cons (ak rfl) (.cons (ak rfl) .nil)) ?_))))))))))))
 exact ⟨_, ⟨rfl, rfl⟩, inferInstance⟩
 intro c3
 refine ae (ah (aa rfl (ac rfl) (aa rfl (ac rfl) (aa rfl (bq dE rfl) (aa rfl (cd rfl rfl) (aa rfl (ai rfl) (ag (ab ?_))))))))
 refine ax rfl ?_ ?_
 intro c4
 refine aB (ab (bR rfl (ae (ah (aa rfl (ai rfl) (aa rfl (ai rfl) (ag (ab (av (bj (aD (au (.inl rfl) (.cons (ak rfl) (.cons (ak rfl) .nil)) ?_))))))))))))
 exact ⟨_, ⟨rfl, rfl⟩, inferInstance⟩
 intro c4
 refine ah (aa rfl (ac rfl) (aa rfl (ac rfl) (aa rfl (bq dE rfl) (aa rfl (ac rfl) ?_))))
 refine aa rfl (dW rfl rfl (by first | exact aW (by omega) | rfl)) ?_
 refine aa rfl (cd rfl rfl) (aa rfl (ai rfl) (ag (ab ?_)))
 refine ax rfl ?_ ?_
 intro c5
 refine ae (ah (aa rfl (ai rfl) (aa rfl (ai rfl) (ag (ab (av (bj (aD (au (.inl rfl) (.cons (ak rfl) (.cons (ak rfl) .nil)) ?_)))))))))
 exact ⟨_, ⟨rfl, rfl⟩, inferInstance⟩
 intro c5
 exfalso; omega
 intro g1_3
 refine al rfl rfl rfl rfl (aa rfl (aJ rfl rfl) (aa rfl (ac rfl) (al rfl rfl rfl rfl (al rfl rfl rfl rfl (aa rfl (aJ rfl rfl) (aa rfl (ai rfl) (ag (ab (eL rfl (ae (ae (ah (aa rfl (ac rfl) (aa rfl (aY rfl rfl) (aa rfl (ai rfl) (ag (ab ?_)))))))))))))))))
 refine ax rfl ?_ ?_
 intro c3
 refine aB (ab (bR rfl (ae (ah (aa rfl (ai rfl) (aa rfl (ai rfl) (ag (ab (av (bj (aD (au (.inl rfl) (.cons (ak rfl) (.cons (ak rfl) .nil)) ?_))))))))))))
 exact ⟨_, ⟨rfl, rfl⟩, inferInstance⟩
 intro c3
 refine ae (ah (aa rfl (ac rfl) (aa rfl (ac rfl) (aa rfl (bq dE rfl) (aa rfl (cd rfl rfl) (aa rfl (ai rfl) (ag (ab ?_))))))))
 refine ax rfl ?_ ?_
 intro c4
 refine aB (ab (bR rfl (ae (ah (aa rfl (ai rfl) (aa rfl (ai rfl) (ag (ab (av (bj (aD (au (.inl rfl) (.cons (ak rfl) (.cons (ak rfl) .nil)) ?_))))))))))))
 exact ⟨_, ⟨rfl, rfl⟩, inferInstance⟩
 intro c4
 refine ah (aa rfl (ac rfl) (aa rfl (ac rfl) (aa rfl (bq dE rfl) (aa rfl (ac rfl) ?_))))
 refine aa rfl (dW rfl rfl (by first | exact aW (by omega) | rfl)) ?_
 refine aa rfl (cd rfl rfl) (aa rfl (ai rfl) (ag (ab ?_)))
 refine ax rfl ?_ ?_
 intro c5
 refine ae (ah (aa rfl (ai rfl) (aa rfl (ai rfl) (ag (ab (av (bj (aD (au (.inl rfl) (.cons (ak rfl) (.cons (ak rfl) .nil)) ?_)))))))))
 exact ⟨_, ⟨rfl, rfl⟩, inferInstance⟩
 intro c5
 exfalso; omega
theorem cJ.part {S : World → Prop} {b off : Nat} {l : List Nat} (h : cJ S b off (bU l)) (i k : Nat) (hik : i + k ≤ l.length) : cJ S b (off + i) (bU ((l.drop i).take k)) := fun j v hv => by
 have hj : j < k := by
  rcases Nat.lt_or_ge j k with q | q
  exact q
  rw [List.getElem?_eq_none (by rw [dG, List.length_take]; omega)] at hv; cases hv
 have := h (i + j) v (by
   rw [bU, List.getElem?_map, List.getElem?_take_of_lt hj, List.getElem?_drop] at hv
   rw [bU, List.getElem?_map]; exact hv)
 rwa [← Nat.add_assoc] at this
def xn (l : List Nat) (at_ w : Int) : Nat := if dB l.length at_ w then pi ((l.drop at_.toNat).take w.toNat) else 0
theorem xo (W0 : World) (R : List HP) (g off n c ty : Nat) (L : List Value) (w : Nat) (hw : w < 4294967296) (hn : n ≤ 4) (hL : off + n ≤ L.length) :
    aC Tryz.prog W0 184 [.slice (some ⟨g, off, none⟩) n c, .int .u32 w] (pt g (aw L ty) :: R) (fun v B => v = .tuple #[] ∧ B = pt g (aw (setR L off (bU (fl n w))) ty) :: R) := by
 refine aF func184 ntmps184 rfl rfl ?_
 refine ae (ah (aa rfl (ac rfl) (aa rfl (bq dE rfl) (aa rfl (ac rfl) (ag (ab (b0 ?_)))))))
 refine cC (fun i : Nat => i ≤ n) (fun i => [(0, .slice (some ⟨g, off, none⟩) n c), (1, .int .u32 w), (6, .int .i64 n), (7, .int .i64 i)]) (fun i => pt g (aw (setR L off (bU (fl i w))) ty) :: R) (fun i => n - i) 0 ?_ ?_ ?_ ?_
 exact Nat.zero_le _
 · repeat (first | exact aX | refine aU rfl ?_)
 rw [show setR L off (bU (fl 0 w)) = L from rfl]; exact inferInstance
 intro i hi
 refine ae (ah (aa rfl (aY rfl rfl) (ag (ab (ae ?_)))))
 refine ax rfl ?_ ?_
 intro c1
 refine aB (ab (ae (b0 (ae (ah (aa rfl (ac rfl) (aa rfl (ai rfl) (ag (ab (ah (aa rfl (ac rfl) (aa rfl (ac rfl) (aa rfl (ac rfl) (aa rfl (ac rfl) ?_))))))))))))))
 refine aa rfl (iq rfl rfl (by rw [aW (by omega)]; omega : IntKind.wrap .i64 (8 * (i : Int)) = ((8 * i : Nat) : Int))) ?_
 refine aa rfl (mP rfl rfl (by omega) rfl) ?_
 refine aa rfl (lH ou Cx rfl (sG (by omega))) ?_
 refine aa rfl (bY dE gT rfl rfl rfl (by omega) (by first | exact Nat.zero_add _ | rfl)) ?_
 refine bE (ce gT rfl rfl rfl (by rw [lI]; omega) (by rw [sF, sD, show bU [w / 256 ^ i % 256] = [bV (w / 256 ^ i % 256)] from rfl, pj, dG, kM, Nat.mul_one]; rfl : (setR L off (bU (fl i w))).set (off + i * 1) _ = setR L off (bU (fl (i + 1) w)))) ?_
 rintro _ _ rfl
 refine ag (bF (ab (ah ?_)))
 refine aa rfl (bC rfl rfl (by first | exact aW (by omega) | rfl)) ?_
 refine aa rfl (ac rfl) (ag (ab ?_))
 refine cp (i + 1) ?_ ?_ ?_ ?_
 omega
 omega
 · repeat (first | exact aX | refine aU rfl ?_)
 exact inferInstance
 intro c1
 refine bX (bi (bi (bZ (au (.inr rfl) .nil ?_))))
 have : i = n := by omega
 subst this
 exact ⟨_, ⟨rfl, rfl⟩, inferInstance⟩
theorem sI {W0 : World} {R : List HP} (g off c : Nat) (l : List Nat) (hc : cJ (bI W0 R) g off (bU l)) (hn : l.length ≤ 1000000) :
    aC Tryz.prog W0 182 [.slice (some ⟨g, off, none⟩) l.length c] R (fun v B => ∃ a' c', v = .slice a' l.length c' ∧ B = osl 5 1 (.slice a' l.length c') (bU l) :: R) := by
 refine aF func182 ntmps182 rfl rfl ?_
 refine ae (ah (aa rfl (ai rfl) (ag (ab (ae (ae (ah (aa rfl (ac rfl) (aa rfl (sB dE rfl rfl) (ag (ab ?_)))))))))))
 refine ax rfl ?_ ?_
 intro c1
 cases c1
 intro c1
 refine aB (ab (ae (ah (am rfl (lU dE gT rfl) ?_))))
 rintro _ _ ⟨b1, rfl, rfl⟩
 refine aa rfl (ac rfl) ?_
 refine am rfl (dL (sz := 1) (by_ := 1) (info := Tryz.t5) dE (by kernel_rfl) rfl rfl rfl rfl (by decide) rfl rfl hc.weak ((dG l).trans (Nat.mul_one _).symm) (pf l) (by simp only [maxLen]; omega) (by omega)) ?_
 rintro _ _ ⟨a1, c1, rfl, rfl⟩
 refine aa rfl (ai rfl) (ag (ab (av (au (.inl rfl) (.cons (ak rfl) .nil) ?_))))
 exact ⟨_, ⟨a1, c1, by simp [cA], rfl⟩, by simpa using (ent_refl : Ent _ _)⟩
theorem sJ (W0 : World) (R : List HP) (a : Option Addr) (n c : Nat) (at_ w : Int) (hn : n < 9223372036854775808) :
    aC Tryz.prog W0 389 [.slice a n c, .int .i64 at_, .int .i64 w] R (fun v B => v = .bool (dB n at_ w) ∧ B = R) := by
 refine aF func389 ntmps389 rfl rfl ?_
 refine ae (ah (aa rfl (ai rfl) (ag (ab (ae (ae (ah (aa rfl (ac rfl) (aa rfl (co rfl rfl) (aa rfl (ac rfl) ?_))))))))))
 refine cG rfl rfl rfl ?_ ?_
 intro g1_3
 refine aa rfl (ac rfl) (ar rfl rfl (aa rfl (co rfl rfl) (aa rfl (aT rfl rfl) (aa rfl (ac rfl) ?_))))
 refine cG rfl rfl rfl ?_ ?_
 intro g1_7
 refine aa rfl (ac rfl) (ar rfl rfl (aa rfl (co rfl rfl) (aa rfl (aT rfl rfl) (ag (ab ?_)))))
 refine ax rfl ?_ ?_
 intro c1
 refine ae (ah (aa rfl (ai rfl) (ag (ab (av (aD (au (.inl rfl) (.cons (ak rfl) .nil) ?_)))))))
 refine ⟨_, ⟨?_, rfl⟩, inferInstance⟩
 have hi : dB n at_ w = false := by
  rw [← Bool.not_eq_true, e8]; omega
 simp [cA, hi]
 intro c1
 refine aB (ab (ae (ah (aa rfl (ac rfl) (aa rfl (cF rfl rfl) (aa rfl (ac rfl) ?_))))))
 refine cG rfl rfl rfl ?_ ?_
 intro g3_3
 refine aa rfl (ac rfl) (ar rfl rfl (aa rfl (ac rfl) (ar rfl rfl (aa rfl (bq dE rfl) (ar rfl rfl (aa rfl (jH rfl rfl) (aa rfl (aT rfl rfl) (aa rfl (ac rfl) ?_))))))))
 refine cG rfl rfl rfl ?_ ?_
 intro g3_9
 refine aa rfl (ac rfl) (ar rfl rfl (aa rfl (bq dE rfl) (ar rfl rfl (aa rfl (ac rfl) (ar rfl rfl ?_)))))
 refine aa rfl (dW rfl rfl (aW (by omega))) ?_
 refine ar rfl rfl (aa rfl (ac rfl) (ar rfl rfl (aa rfl (cF rfl rfl) (aa rfl (aT rfl rfl) (aa rfl (ai rfl) (ag (ab (av (au (.inl rfl) (.cons (ak rfl) .nil) ?_)))))))))
 refine ⟨_, ⟨?_, rfl⟩, inferInstance⟩
 refine congrArg Value.bool ?_
 rw [Bool.eq_iff_iff, e8]; simp only [Bool.false_eq_true, false_iff, decide_eq_true_eq]; omega
 intro g3_9
 refine al rfl rfl rfl rfl (al rfl rfl rfl rfl (al rfl rfl rfl rfl (al rfl rfl rfl rfl (al rfl rfl rfl rfl (aa rfl (aJ rfl rfl) (aa rfl (ai rfl) (ag (ab (av (au (.inl rfl) (.cons (ak rfl) .nil) ?_))))))))))
 refine ⟨_, ⟨?_, rfl⟩, inferInstance⟩
 refine congrArg Value.bool ?_
 rw [Bool.eq_iff_iff, e8]; simp only [Bool.false_eq_true, false_iff, decide_eq_true_eq]; omega
 intro g3_3
 refine al rfl rfl rfl rfl (al rfl rfl rfl rfl (al rfl rfl rfl rfl (aa rfl (aJ rfl rfl) (aa rfl (ac rfl) (al rfl rfl rfl rfl (al rfl rfl rfl rfl (al rfl rfl rfl rfl (al rfl rfl rfl rfl (al rfl rfl rfl rfl (al rfl rfl rfl rfl (aa rfl (aJ rfl rfl) (aa rfl (ai rfl) (ag (ab (av (au (.inl rfl) (.cons (ak rfl) .nil) ?_))))))))))))))))
 refine ⟨_, ⟨?_, rfl⟩, inferInstance⟩
 refine congrArg Value.bool ?_
 rw [Bool.eq_iff_iff, e8]; simp only [Bool.false_eq_true, false_iff, decide_eq_true_eq]; omega
 intro g1_7
 refine al rfl rfl rfl rfl (aa rfl (aJ rfl rfl) (ag (ab (eL rfl (aB (ab (ae (ah (aa rfl (ac rfl) (aa rfl (cF rfl rfl) (aa rfl (ac rfl) ?_)))))))))))
 refine cG rfl rfl rfl ?_ ?_
 intro g3_3
 refine aa rfl (ac rfl) (ar rfl rfl (aa rfl (ac rfl) (ar rfl rfl (aa rfl (bq dE rfl) (ar rfl rfl (aa rfl (jH rfl rfl) (aa rfl (aT rfl rfl) (aa rfl (ac rfl) ?_))))))))
 refine cG rfl rfl rfl ?_ ?_
 intro g3_9
 refine aa rfl (ac rfl) (ar rfl rfl (aa rfl (bq dE rfl) (ar rfl rfl (aa rfl (ac rfl) (ar rfl rfl ?_)))))
 refine aa rfl (dW rfl rfl (aW (by omega))) ?_
 refine ar rfl rfl (aa rfl (ac rfl) (ar rfl rfl (aa rfl (cF rfl rfl) (aa rfl (aT rfl rfl) (aa rfl (ai rfl) (ag (ab (av (au (.inl rfl) (.cons (ak rfl) .nil) ?_)))))))))
 refine ⟨_, ⟨?_, rfl⟩, inferInstance⟩
 refine congrArg Value.bool ?_
 rw [Bool.eq_iff_iff, e8]; simp only [Bool.false_eq_true, false_iff, decide_eq_true_eq]; omega
 intro g3_9
 refine al rfl rfl rfl rfl (al rfl rfl rfl rfl (al rfl rfl rfl rfl (al rfl rfl rfl rfl (al rfl rfl rfl rfl (aa rfl (aJ rfl rfl) (aa rfl (ai rfl) (ag (ab (av (au (.inl rfl) (.cons (ak rfl) .nil) ?_))))))))))
 refine ⟨_, ⟨?_, rfl⟩, inferInstance⟩
 refine congrArg Value.bool ?_
 rw [Bool.eq_iff_iff, e8]; simp only [Bool.false_eq_true, false_iff, decide_eq_true_eq]; omega
 intro g3_3
 refine al rfl rfl rfl rfl (al rfl rfl rfl rfl (al rfl rfl rfl rfl (aa rfl (aJ rfl rfl) (aa rfl (ac rfl) (al rfl rfl rfl rfl (al rfl rfl rfl rfl (al rfl rfl rfl rfl (al rfl rfl rfl rfl (al rfl rfl rfl rfl (al rfl rfl rfl rfl (aa rfl (aJ rfl rfl) (aa rfl (ai rfl) (ag (ab (av (au (.inl rfl) (.cons (ak rfl) .nil) ?_))))))))))))))))
 refine ⟨_, ⟨?_, rfl⟩, inferInstance⟩
 refine congrArg Value.bool ?_
 rw [Bool.eq_iff_iff, e8]; simp only [Bool.false_eq_true, false_iff, decide_eq_true_eq]; omega
 intro g1_3
 refine al rfl rfl rfl rfl (aa rfl (aJ rfl rfl) (aa rfl (ac rfl) (al rfl rfl rfl rfl (al rfl rfl rfl rfl (aa rfl (aJ rfl rfl) (ag (ab (eL rfl (aB (ab (ae (ah (aa rfl (ac rfl) (aa rfl (cF rfl rfl) (aa rfl (ac rfl) ?_)))))))))))))))
 refine cG rfl rfl rfl ?_ ?_
 intro g3_3
 refine aa rfl (ac rfl) (ar rfl rfl (aa rfl (ac rfl) (ar rfl rfl (aa rfl (bq dE rfl) (ar rfl rfl (aa rfl (jH rfl rfl) (aa rfl (aT rfl rfl) (aa rfl (ac rfl) ?_))))))))
 refine cG rfl rfl rfl ?_ ?_
 intro g3_9
 refine aa rfl (ac rfl) (ar rfl rfl (aa rfl (bq dE rfl) (ar rfl rfl (aa rfl (ac rfl) (ar rfl rfl ?_)))))
 refine aa rfl (dW rfl rfl (aW (by omega))) ?_
 refine ar rfl rfl (aa rfl (ac rfl) (ar rfl rfl (aa rfl (cF rfl rfl) (aa rfl (aT rfl rfl) (aa rfl (ai rfl) (ag (ab (av (au (.inl rfl) (.cons (ak rfl) .nil) ?_)))))))))
 refine ⟨_, ⟨?_, rfl⟩, inferInstance⟩
 refine congrArg Value.bool ?_
 rw [Bool.eq_iff_iff, e8]; simp only [Bool.false_eq_true, false_iff, decide_eq_true_eq]; omega
 intro g3_9
 refine al rfl rfl rfl rfl (al rfl rfl rfl rfl (al rfl rfl rfl rfl (al rfl rfl rfl rfl (al rfl rfl rfl rfl (aa rfl (aJ rfl rfl) (aa rfl (ai rfl) (ag (ab (av (au (.inl rfl) (.cons (ak rfl) .nil) ?_))))))))))
 refine ⟨_, ⟨?_, rfl⟩, inferInstance⟩
 refine congrArg Value.bool ?_
 rw [Bool.eq_iff_iff, e8]; simp only [Bool.false_eq_true, false_iff, decide_eq_true_eq]; omega
 intro g3_3
 refine al rfl rfl rfl rfl (al rfl rfl rfl rfl (al rfl rfl rfl rfl (aa rfl (aJ rfl rfl) (aa rfl (ac rfl) (al rfl rfl rfl rfl (al rfl rfl rfl rfl (al rfl rfl rfl rfl (al rfl rfl rfl rfl (al rfl rfl rfl rfl (al rfl rfl rfl rfl (aa rfl (aJ rfl rfl) (aa rfl (ai rfl) (ag (ab (av (au (.inl rfl) (.cons (ak rfl) .nil) ?_))))))))))))))))
 refine ⟨_, ⟨?_, rfl⟩, inferInstance⟩
 refine congrArg Value.bool ?_
 rw [Bool.eq_iff_iff, e8]; simp only [Bool.false_eq_true, false_iff, decide_eq_true_eq]; omega
theorem xp {c : Nat} (h : c ≤ maxLen) : c < 9223372036854775808 := by simp only [maxLen] at h; omega
theorem sK {l : List Nat} {sp : List Value} {i k w : Nat} (h : i + k ≤ l.length) : setR (bU l ++ sp) i (bU (fl k w)) = bU (gi l i k w) ++ sp := by
 rw [sH _ _ _ _ (by rw [dG, dG, kM]; exact h), xk h]
def nh (a : Option Addr) (n c : Nat) : Value := .tuple #[.slice a n c, .int .i64 0]
def pn : Value := .tuple #[.slice none 0 0, .int .i64 1]
theorem xq {W0 : World} {R : List HP} (g off c : Nat) (l : List Nat) (i k w : Nat) (hw : w < 4294967296) (hc : cJ (bI W0 R) g off (bU l)) (hi : dB l.length i k = true) (hn : l.length ≤ 1000000) :
    aC Tryz.prog W0 73 [.slice (some ⟨g, off, none⟩) l.length c, .int .i64 i, .int .i64 k, .int .u32 w] R (fun v B => ∃ a' c', v = nh a' l.length c' ∧ B = osl 5 1 (.slice a' l.length c') (bU (gi l i k w)) :: R) := by
 have hb := e8.1 hi
 refine aF func73 ntmps73 rfl rfl ?_
 refine ae (ah (aa rfl (ai rfl) (aa rfl (ai rfl) (ag (ab (ae (ah (aa rfl (ac rfl) (am rfl (aS call182 rfl (sI g off c l hc hn)) ?_)))))))))
 rintro _ B_ ⟨a', c', rfl, hB_⟩
 obtain rfl := hB_.symm
 refine aa rfl (ai rfl) (ag (ab (ae ?_)))
 refine ge (fun h _ => by have := (Value.slice.inj h).2.1; omega) fun g' n' cap sp h1 h2 h3 h4 h5 => ?_
 cases h1
 have hwv : fP g' 0 l.length i k = .tuple #[.slice (some ⟨g', i, none⟩) k k, .bool true] := by simp [fP, hi]
 refine ah (aa rfl (ac rfl) (aa rfl (ac rfl) (aa rfl (ac rfl) (am rfl (aS call183 rfl (xl W0 _ g' 0 l.length c' i k h2 (xp h3))) ?_))))
 rintro _ B_ ⟨rfl, hB_⟩
 obtain rfl := hB_.symm
 rw [hwv]
 refine aa rfl (ac rfl) (aa rfl (aZ rfl rfl) (aa rfl (aZ rfl rfl) (aa rfl (ai rfl) (aa rfl (ai rfl) (ag (ab (ae (ae (ah (aa rfl (ac rfl) (aa rfl (bN rfl) (ag (ab ?_)))))))))))))
 refine ax rfl ?_ ?_
 intro c3
 exact absurd c3 (by simp)
 intro c3
 refine aB (ab (ae (ah (aa rfl (ac rfl) (aa rfl (ac rfl) ?_)))))
 refine am rfl (bz call184 rfl (xo W0 _ g' i k k 5 (bU l ++ sp) w hw (by omega) (by rw [List.length_append, dG]; omega))) ?_
 rintro _ B_ ⟨rfl, hB_⟩
 obtain rfl := hB_.symm
 rw [sK (by omega)]
 refine ag (ab (ae (ah (aa rfl (ac rfl) (aa rfl (ai rfl) (aa rfl (ai rfl) (ag (ab (av (au (.inl rfl) (.cons (ak rfl) (.cons (ak rfl) .nil)) ?_))))))))))
 exact ⟨_, ⟨_, c', rfl, rfl⟩, eP h2 h3 (by rw [dG, jO (by omega), Nat.mul_one]) (by rw [← h5, List.length_append, List.length_append, dG, dG, jO (by omega)])⟩
theorem xt {W0 : World} {R : List HP} (g off c : Nat) (l : List Nat) (at_ k : Int) (w : Nat) (hc : cJ (bI W0 R) g off (bU l)) (hi : dB l.length at_ k = false) (hn : l.length ≤ 1000000) :
    aC Tryz.prog W0 73 [.slice (some ⟨g, off, none⟩) l.length c, .int .i64 at_, .int .i64 k, .int .u32 w] R (fun v B => v = pn ∧ B = R) := by
 refine aF func73 ntmps73 rfl rfl ?_
 refine ae (ah (aa rfl (ai rfl) (aa rfl (ai rfl) (ag (ab (ae (ah (aa rfl (ac rfl) (am rfl (aS call182 rfl (sI g off c l hc hn)) ?_)))))))))
 rintro _ B_ ⟨a', c', rfl, hB_⟩
 obtain rfl := hB_.symm
 refine aa rfl (ai rfl) (ag (ab (ae ?_)))
 obtain ⟨R', hR'⟩ : ∃ R', R' = osl 5 1 (.slice a' l.length c') (bU l) :: R := ⟨_, rfl⟩
 refine ah (aa rfl (ac rfl) (aa rfl (ac rfl) (aa rfl (ac rfl) ?_)))
 refine am rfl (aS call183 rfl (xm W0 _ a' l.length c' at_ k hi (by omega))) ?_
 rintro _ B_ ⟨rfl, hB_⟩
 obtain rfl := hB_.symm
 refine aa rfl (ac rfl) (aa rfl (aZ rfl rfl) (aa rfl (aZ rfl rfl) (aa rfl (ai rfl) (aa rfl (ai rfl) (ag (ab (ae (ae (ah (aa rfl (ac rfl) (aa rfl (bN rfl) (ag (ab ?_)))))))))))))
 refine ax rfl ?_ ?_
 intro c3
 refine ae (ah (aa rfl (ai rfl) (aa rfl (ai rfl) (ag (ab (av (aD (au (.inl rfl) (.cons (ak rfl) (.cons (ak rfl) .nil)) ?_))))))))
 exact ⟨_, ⟨rfl, rfl⟩, inferInstance⟩
 intro c3
 exact absurd c3 (by simp)
theorem xu {W0 : World} {R : List HP} (g off c : Nat) (l : List Nat) (i0 k w : Nat) (hw : w < 4294967296) (hc : cJ (bI W0 R) g off (bU l)) (hi : dB l.length i0 k = true) (hn : l.length ≤ 1000000) :
    aC Tryz.prog W0 362 [.slice (some ⟨g, off, none⟩) l.length c, .int .i64 i0, .int .i64 k, .int .u32 w] R (fun v B => ∃ a' c', v = nh a' l.length c' ∧ B = osl 5 1 (.slice a' l.length c') (bU (gi l i0 k w)) :: R) := by
 have hb := e8.1 hi
 refine aF func362 ntmps362 rfl rfl ?_
 refine ae (ah (aa rfl (ai rfl) (aa rfl (ai rfl) (ag (ab (ae (ae (ah (aa rfl (ac rfl) (aa rfl (ac rfl) (aa rfl (ac rfl) ?_)))))))))))
 refine am rfl (aS call389 rfl (sJ W0 _ _ l.length c i0 k (by omega))) ?_
 rintro _ B_ ⟨rfl, hB_⟩
 obtain rfl := hB_.symm
 refine aa rfl (bN rfl) (ag (ab ?_))
 refine ax rfl ?_ ?_
 intro c1
 exact absurd c1 (by simp [hi])
 intro c1
 refine aB (ab (ae (ah (am rfl (lU dE gT rfl) ?_))))
 rintro _ _ ⟨b1, rfl, rfl⟩
 refine aa rfl (ac rfl) ?_
 refine am rfl (dL (sz := 1) (by_ := 1) (info := Tryz.t5) dE (by kernel_rfl) rfl rfl rfl rfl (by decide) rfl rfl hc.weak ((dG l).trans (Nat.mul_one _).symm) (pf l) (by simp only [maxLen]; omega) (by omega)) ?_
 rintro _ B_ ⟨a', c', rfl, hB_⟩
 obtain rfl := hB_.symm
 simp only [Nat.zero_add, List.nil_append]
 refine aa rfl (ai rfl) (ag (ab (ae (ae ?_))))
 refine ge (fun h _ => by have := (Value.slice.inj h).2.1; omega) fun g' n' cap sp h1 h2 h3 h4 h5 => ?_
 cases h1
 refine ah (aa rfl (ai rfl) (ag (ab (b0 ?_))))
 refine cC (fun i : Nat => i ≤ k) (fun i => [(1, .int .i64 i0), (2, .int .i64 k), (3, .int .u32 w), (10, .slice (some ⟨g', 0, none⟩) l.length c'), (11, .int .i64 i)]) (fun i => pt g' (aw (setR (bU l ++ sp) i0 (bU (fl i w))) 5) :: R) (fun i => k - i) 0 ?_ ?_ ?_ ?_
 exact Nat.zero_le _
 · repeat (first | exact aX | refine aU rfl ?_)
 rw [show setR (bU l ++ sp) i0 (bU (fl 0 w)) = bU l ++ sp from rfl]; exact inferInstance
 intro i hik
 refine ae (ae (ah (aa rfl (ac rfl) (aa rfl (ac rfl) (aa rfl (aY rfl rfl) (ag (ab ?_)))))))
 refine ax rfl ?_ ?_
 intro c5
 refine aB (ab (ae (b0 (ah (aa rfl (ac rfl) (aa rfl (ac rfl) (aa rfl (ac rfl) ?_)))))))
 refine aa rfl (bC rfl rfl (by rw [aW (by omega)]; omega : IntKind.wrap .i64 ((i0 : Int) + (i : Int)) = ((i0 + i : Nat) : Int))) ?_
 refine aa rfl (ac rfl) (aa rfl (ac rfl) ?_)
 refine aa rfl (iq rfl rfl (by rw [aW (by omega)]; omega : IntKind.wrap .i64 (8 * (i : Int)) = ((8 * i : Nat) : Int))) ?_
 refine aa rfl (mP rfl rfl (by omega) rfl) ?_
 refine aa rfl (lH ou Cx rfl (sG (by omega))) ?_
 refine aa rfl (bY dE gT rfl rfl rfl (by omega) (by first | exact Nat.zero_add _ | rfl)) ?_
 refine bE (ce gT rfl rfl rfl (by rw [lI, List.length_append, dG]; omega) (by rw [sF, sD, show bU [w / 256 ^ i % 256] = [bV (w / 256 ^ i % 256)] from rfl, pj, dG, kM, Nat.mul_one]; rfl : (setR (bU l ++ sp) i0 (bU (fl i w))).set ((i0 + i) * 1) _ = setR (bU l ++ sp) i0 (bU (fl (i + 1) w)))) ?_
 rintro _ _ rfl
 refine ag (bF (ab (ah (aa rfl (ac rfl) ?_))))
 refine aa rfl (bC rfl rfl (by first | exact aW (by omega) | rfl)) ?_
 refine aa rfl (ai rfl) (ag (ab ?_))
 refine cp (i + 1) ?_ ?_ ?_ ?_
 omega
 omega
 · repeat (first | exact aX | refine aU rfl ?_)
 exact inferInstance
 intro c5
 refine bX (bi (bi (bZ (ab (ae (ah (aa rfl (ac rfl) (aa rfl (ai rfl) (aa rfl (ai rfl) (ag (ab (av (au (.inl rfl) (.cons (ak rfl) (.cons (ak rfl) .nil)) ?_)))))))))))))
 have : i = k := by omega
 subst this
 rw [sK (by omega)]
 exact ⟨_, ⟨_, c', rfl, rfl⟩, eP h2 h3 (by rw [dG, jO (by omega), Nat.mul_one]) (by rw [← h5, List.length_append, List.length_append, dG, dG, jO (by omega)])⟩
theorem xv (W0 : World) (R : List HP) (a : Option Addr) (n c : Nat) (at_ k : Int) (w : Nat) (hi : dB n at_ k = false) (hn : n ≤ 1000000) :
    aC Tryz.prog W0 362 [.slice a n c, .int .i64 at_, .int .i64 k, .int .u32 w] R (fun v B => v = pn ∧ B = R) := by
 refine aF func362 ntmps362 rfl rfl ?_
 refine ae (ah (aa rfl (ai rfl) (aa rfl (ai rfl) (ag (ab (ae (ae (ah (aa rfl (ac rfl) (aa rfl (ac rfl) (aa rfl (ac rfl) ?_)))))))))))
 refine am rfl (aS call389 rfl (sJ W0 _ _ n c at_ k (by omega))) ?_
 rintro _ B_ ⟨rfl, hB_⟩
 obtain rfl := hB_.symm
 refine aa rfl (bN rfl) (ag (ab ?_))
 refine ax rfl ?_ ?_
 intro c1
 refine ae (ah (aa rfl (ai rfl) (aa rfl (ai rfl) (ag (ab (av (aD (au (.inl rfl) (.cons (ak rfl) (.cons (ak rfl) .nil)) ?_))))))))
 exact ⟨_, ⟨rfl, rfl⟩, inferInstance⟩
 intro c1
 exact absurd c1 (by simp [hi])
abbrev bW := List Nat
def gB (x : bW) : List Value := (List.range 64).map (fun i => bV (x.getD i 0))
theorem pp (x : bW) : (gB x).length = 64 := by simp [gB]
theorem sM {x : bW} (h : x.length = 64) : gB x = bU x := by
 apply List.ext_getElem
 simp [gB, bU, h]
 intro i h1 h2
 have : i < x.length := by simpa [bU] using h2
 simp [gB, bU, List.getD, this]
def eX (fr : List bW) : Prop := ∀ x ∈ fr, x.length = 64 ∧ By x
theorem eX.get {fr : List bW} (h : eX fr) {f : Nat} (hf : f < fr.length) : (fr.getD f []).length = 64 ∧ By (fr.getD f []) := by
 have : fr.getD f [] = fr[f] := by simp [List.getD, hf]
 rw [this]; exact h _ (List.getElem_mem hf)
theorem eX.set {fr : List bW} (h : eX fr) {f : Nat} {y : bW} (hy : y.length = 64 ∧ By y) : eX (fr.set f y) := fun x hx => by
 rcases List.mem_or_eq_of_mem_set hx with h' | rfl
 exact h x h'
 exact hy
theorem sN {fr : List bW} (h : eX fr) {f : Nat} (hf : f < fr.length) : ((fr.flatMap gB).drop (f * 64)).take 64 = bU (fr.getD f []) := by
 have := lO pp fr f [] hf
 rw [List.append_nil] at this
 rw [this, sM (h _ (List.getElem_mem hf)).1]; simp [List.getD, hf]
theorem sP {fr : List bW} {f : Nat} {y : bW} (hf : f < fr.length) (hy : y.length = 64) : setR (fr.flatMap gB) (f * 64) (bU y) = (fr.set f y).flatMap gB := by
 have := nf pp fr f y [] hf
 rw [List.append_nil, List.append_nil, sM hy] at this
 exact this
theorem sQ (fr : List bW) : (fr.flatMap gB).length = fr.length * 64 := dm pp fr
def bT : bW := List.replicate 64 0
theorem xw : bT.length = 64 ∧ By bT := ⟨by simp [bT], fun b hb => by have := List.eq_of_mem_replicate hb; omega⟩
theorem eX.new (n : Nat) : eX (List.replicate n bT) := fun x hx => by rw [List.eq_of_mem_replicate hx]; exact xw
theorem sR : ∀ n, (List.replicate n bT).flatMap gB = List.replicate (n * 64) (bV 0)
 | 0 => rfl
 | n + 1 => by
  rw [List.replicate_succ, List.flatMap_cons, sR n, Nat.succ_mul, Nat.add_comm, ← List.replicate_append_replicate]
  congr 1
def cy (ps : Nat) (fr : List bW) : HP := chk (fun C => ∃ g, C = [pt ps (aw [.slice (some ⟨g, 0, none⟩) fr.length fr.length, .bool true] 181), pt g (aw (fr.flatMap gB) 178)])
section
variable {P : Program} {W0 : World} {N : FSz} {K : Act → World → Prop} {e : bK} {A B R R1 R2 : List HP} {ps g n : Nat} {fr : List bW} {f : FuncId} {args : List Value} {Post : Value → List HP → Prop} {l : List Value}
theorem xx (h : ∀ g, aC P W0 f args (pt ps (aw [.slice (some ⟨g, 0, none⟩) fr.length fr.length, .bool true] 181) :: pt g (aw (fr.flatMap gB) 178) :: R) Post) : aC P W0 f args (cy ps fr :: R) Post :=
  ng fun C hC => by obtain ⟨g, rfl⟩ := hC; exact h g
theorem j0 [h1 : Tk pt ps A (aw [.slice (some ⟨g, 0, none⟩) n n, .bool true] 181) R1] [h2 : Tk pt g R1 (aw l 178) R2] (hl : l = fr.flatMap gB) (hn : n = fr.length) [k : Ent R2 B] : Ent A (cy ps fr :: B) := by
 subst hl; subst hn
 exact (Ent.ofPerm (h1.perm.trans (h2.perm.cons _))).trans ((Ent.cons (Ent.cons k)).trans (eE (R := B) (C := [_, _]) ⟨g, rfl⟩))
theorem lX [hk : Tk cy ps A fr R] (h : ∀ g, aQ W0 N K e (pt ps (aw [.slice (some ⟨g, 0, none⟩) fr.length fr.length, .bool true] 181) :: pt g (aw (fr.flatMap gB) 178) :: R)) : aQ W0 N K e A :=
  dP (r := cy) (b := ps) (iM fun C hC => by obtain ⟨g, rfl⟩ := hC; exact h g)
end
theorem xy {W0 : World} {R : List HP} {g off c n : Nat} {l : List Nat} {i k w : Nat} (hl : l.length = n) (hw : w < 4294967296) (hc : cJ (bI W0 R) g off (bU l)) (hi : dB n i k = true) (hn : n ≤ 1000000) :
    aC Tryz.prog W0 73 [.slice (some ⟨g, off, none⟩) n c, .int .i64 i, .int .i64 k, .int .u32 w] R (fun v B => ∃ a' c', v = nh a' n c' ∧ B = osl 5 1 (.slice a' n c') (bU (gi l i k w)) :: R) := by
 subst hl; exact xq g off c l i k w hw hc hi hn
theorem xz {W0 : World} {R : List HP} {g off c n : Nat} {l : List Nat} {at_ k : Int} {w : Nat} (hl : l.length = n) (hc : cJ (bI W0 R) g off (bU l)) (hi : dB n at_ k = false) (hn : n ≤ 1000000) :
    aC Tryz.prog W0 73 [.slice (some ⟨g, off, none⟩) n c, .int .i64 at_, .int .i64 k, .int .u32 w] R (fun v B => v = pn ∧ B = R) := by
 subst hl; exact xt g off c l at_ k w hc hi hn
theorem xA (W0 : World) (R : List HP) (n : Nat) (h : n ≤ 32) :
    aC Tryz.prog W0 46 [.int .i64 n] R (fun v B => ∃ b, v = .tuple #[.pointer (some ⟨b, 0, none⟩), .int .i64 0] ∧ B = cy b (List.replicate n bT) :: R) := by
 refine aF func46 ntmps46 rfl rfl ?_
 refine ae (ah (aa rfl (ai rfl) (aa rfl (ai rfl) (ag (ab (ae (ae (ah (aa rfl (ac rfl) (aa rfl (aY rfl rfl) (aa rfl (ac rfl) ?_)))))))))))
 refine bA rfl rfl rfl ?_ ?_
 intro g1_3
 omega
 intro g1_3
 refine aa rfl (ac rfl) (ar rfl rfl (aa rfl (cd rfl rfl) (aa rfl (aJ rfl rfl) (ag (ab ?_)))))
 refine ax rfl ?_ ?_
 intro c1
 omega
 intro c1
 refine aB (ab (ae (ah (aa rfl (ac rfl) ?_))))
 refine am rfl (lV (sz := 64) (by_ := 64) (info := Tryz.t178) lj (by kernel_rfl) rfl rfl rfl rfl (by decide) rfl rfl rfl rfl (by omega) (by decide)) ?_
 rintro _ _ ⟨b1, rfl, rfl⟩
 refine aa rfl (bQ kh zeroValue181 (aE ki (aE cB bP)) (bn rfl ki rfl rfl (Nat.le_of_ble_eq_true rfl) SetL.eq (bn rfl cB rfl rfl (Nat.le_of_ble_eq_true rfl) SetL.eq bO))) ?_
 refine am rfl (bL rfl) ?_
 rintro _ _ ⟨b2, rfl, rfl⟩
 refine aa rfl (ai rfl) (aa rfl (ai rfl) (ag (ab (av (au (.inl rfl) (.cons (ak rfl) (.cons (ak rfl) .nil)) ?_)))))
 exact ⟨_, ⟨b2, rfl, rfl⟩, j0 (sR n).symm (by simp)⟩
theorem sT (W0 : World) (R : List HP) (ps : Nat) (fr : List bW) :
    aC Tryz.prog W0 181 [.pointer (some ⟨ps, 0, none⟩)] (cy ps fr :: R) (fun v B => v = .bool false ∧ B = cy ps fr :: R) := by
 refine xx fun g => ?_
 refine aF func181 ntmps181 rfl rfl ?_
 refine ae (ah (aa rfl (ai rfl) (ag (ab (ae (ah (aa rfl (ac rfl) (aa rfl (dl ov rfl rfl) (aa rfl (ac rfl) ?_)))))))))
 refine bA rfl rfl rfl ?_ ?_
 intro g1_3
 cases g1_3
 intro g1_3
 refine aa rfl (ac rfl) (ar rfl rfl (aa rfl (aH rfl) (ar rfl rfl ?_)))
 refine aa rfl (ao rfl kh rfl cB rfl (by first | exact Nat.zero_add _ | rfl)) ?_
 refine ar rfl rfl (aa rfl (ap ib rfl (aA rfl)) ?_)
 refine ar rfl rfl (aa rfl (bN rfl) (aa rfl (aJ rfl rfl) (aa rfl (ai rfl) (ag (ab (av (au (.inl rfl) (.cons (ak rfl) .nil) ?_)))))))
 exact ⟨_, ⟨by simp [cA], rfl⟩, j0 rfl rfl⟩
theorem kO (W0 : World) (R : List HP) (ps : Nat) (fr : List bW) :
    aC Tryz.prog W0 86 [.pointer (some ⟨ps, 0, none⟩)] (cy ps fr :: R) (fun v B => v = .int .i64 (fr.length : Nat) ∧ B = cy ps fr :: R) := by
 refine aF func86 ntmps86 rfl rfl ?_
 refine ae (ah (aa rfl (ai rfl) (ag (ab (ae (ae (ah (aa rfl (ac rfl) (am rfl (bz call181 rfl (sT W0 _ ps fr)) ?_)))))))))
 rintro _ B_ ⟨rfl, hB_⟩
 obtain rfl := hB_.symm
 refine ag (ab ?_)
 refine ax rfl ?_ ?_
 intro c1
 exact absurd c1 (by decide)
 intro c1
 refine aB (ab (ae ?_))
 refine lX (ps := ps) fun g => ?_
 refine ah (aa rfl (ac rfl) (aa rfl (aH rfl) ?_))
 refine aa rfl (ao rfl kh rfl ki rfl (by first | exact Nat.zero_add _ | rfl)) ?_
 refine aa rfl (ap mq rfl (aA rfl)) ?_
 refine aa rfl (bq lj rfl) (aa rfl (ai rfl) (ag (ab (av (au (.inl rfl) (.cons (ak rfl) .nil) ?_)))))
 exact ⟨_, ⟨rfl, rfl⟩, j0 rfl rfl⟩
def dH (n : Nat) (f : Int) : Bool := decide (0 ≤ f ∧ f < n)
theorem ni (W0 : World) (R : List HP) (ps : Nat) (fr : List bW) (f : Int) :
    aC Tryz.prog W0 72 [.pointer (some ⟨ps, 0, none⟩), .int .i64 f] (cy ps fr :: R) (fun v B => v = .int .i64 (if dH fr.length f then 0 else 1) ∧ B = cy ps fr :: R) := by
 refine aF func72 ntmps72 rfl rfl ?_
 refine ae (ah (aa rfl (ai rfl) (ag (ab (ae (b0 (ae (ah (aa rfl (ac rfl) (am rfl (bz call181 rfl (sT W0 _ ps fr)) ?_))))))))))
 rintro _ B_ ⟨rfl, hB_⟩
 obtain rfl := hB_.symm
 refine aa rfl (ai rfl) (ag (ab ?_))
 refine ax rfl ?_ ?_
 intro c1
 exact absurd c1 (by decide)
 intro c1
 refine ae (ae (ah (aa rfl (ac rfl) (aa rfl (aY rfl rfl) (aa rfl (ai rfl) (ag (ab ?_)))))))
 refine ax rfl ?_ ?_
 intro c3
 refine aB (ab (bR rfl (ae (ah (aa rfl (ai rfl) (ag (ab (av (bj (aD (au (.inl rfl) (.cons (ak rfl) .nil) ?_)))))))))))
 have hf : dH fr.length f = false := by rw [← Bool.not_eq_true]; simp only [dH, decide_eq_true_eq]; omega
 first
   | exact ⟨_, ⟨by simp [cA, hf], rfl⟩, j0 rfl rfl⟩
   | exact ⟨_, ⟨by simp [cA, hf], rfl⟩, inferInstance⟩
 intro c3
 refine lX (ps := ps) fun g => ?_
 refine ah (aa rfl (ac rfl) (aa rfl (ac rfl) (aa rfl (aH rfl) ?_)))
 refine aa rfl (ao rfl kh rfl ki rfl (by first | exact Nat.zero_add _ | rfl)) ?_
 refine aa rfl (ap mq rfl (aA rfl)) ?_
 refine aa rfl (bq lj rfl) (aa rfl (cF rfl rfl) (aa rfl (ai rfl) (ag (ab ?_))))
 refine ax rfl ?_ ?_
 intro c4
 refine ae (ah (aa rfl (ai rfl) (ag (ab (av (bj (aD (au (.inl rfl) (.cons (ak rfl) .nil) ?_))))))))
 have hf : dH fr.length f = false := by rw [← Bool.not_eq_true]; simp only [dH, decide_eq_true_eq]; omega
 first
   | exact ⟨_, ⟨by simp [cA, hf], rfl⟩, j0 rfl rfl⟩
   | exact ⟨_, ⟨by simp [cA, hf], rfl⟩, inferInstance⟩
 intro c4
 refine aB (bF (ab (ae (ah (aa rfl (ai rfl) (ag (ab (av (au (.inl rfl) (.cons (ak rfl) .nil) ?_)))))))))
 have hf : dH fr.length f = true := by simp only [dH, decide_eq_true_eq]; omega
 exact ⟨_, ⟨by simp [cA, hf], rfl⟩, j0 rfl rfl⟩
def xB (fr : List bW) (f off w : Int) : Nat := if dH fr.length f then xn (fr.getD f.toNat []) off w else 0
theorem pq {n : Nat} {f : Int} (h : dH n f = true) : ∃ i : Nat, f = (i : Int) ∧ i < n := by
 simp only [dH, decide_eq_true_eq] at h
 exact ⟨f.toNat, by omega, by omega⟩
def fQ (fr : List bW) (f off w : Int) : Bool := dH fr.length f && dB 64 off w
def eY (fr : List bW) (f off w : Int) (v : Nat) : List bW := if fQ fr f off w then fr.set f.toNat (gi (fr.getD f.toNat []) off.toNat w.toNat v) else fr
theorem xC {fr : List bW} {f off w : Int} {v : Nat} (h : eX fr) : eX (eY fr f off w v) := by
 unfold eY; split
 rename_i hs
 simp only [fQ, Bool.and_eq_true] at hs
 obtain ⟨i, rfl, hi⟩ := pq hs.1
 obtain ⟨o, k, rfl, rfl, hk, hok⟩ := kN hs.2
 obtain ⟨hl, hb⟩ := h.get hi
 exact h.set ⟨by rw [jO (by simp only [Int.toNat_natCast]; omega)]; exact hl, xj hb⟩
 exact h
theorem xD {fr : List bW} {f off w : Int} {v : Nat} : (eY fr f off w v).length = fr.length := by unfold eY; split <;> simp
theorem xE (W0 : World) (R : List HP) (ps : Nat) (fr : List bW) (f off w : Int) (x : Nat) (hx : x < 4294967296) (hF : eX fr) :
    aC Tryz.prog W0 29 [.pointer (some ⟨ps, 0, none⟩), .int .i64 f, .int .i64 off, .int .i64 w, .int .u32 x] (cy ps fr :: R)
      (fun v B => v = .int .i64 (if fQ fr f off w then 0 else 1) ∧ B = cy ps (eY fr f off w x) :: R) := by
 by_cases hf : dH fr.length f = true
 obtain ⟨i, rfl, hi⟩ := pq hf
 obtain ⟨hl, hb⟩ := hF.get hi
 by_cases hin : dB 64 off w = true
 obtain ⟨o, k, rfl, rfl, hk, hok⟩ := kN hin
 have hs : fQ fr i o k = true := by simp [fQ, hf, hin]
 have hpl : (gi (fr.getD i []) o k x).length = 64 := by rw [jO (by omega)]; exact hl
 refine aF vz ntmps29 rfl rfl ?_
 refine ae (ah (aa rfl (ai rfl) (ag (ab (ae (ae (ah (aa rfl (ac rfl) (aa rfl (ac rfl) (am rfl (bz rn rfl (ni W0 _ ps fr i)) ?_))))))))))
 rintro _ B_ ⟨rfl, hB_⟩
 obtain rfl := hB_.symm
 refine aa rfl (ai rfl) (ag (ab (ae (ah (aa rfl (ac rfl) (aa rfl (co rfl rfl) (ag (ab ?_))))))))
 refine ax rfl ?_ ?_
 intro c2
 exact absurd c2 (by simp [hf])
 intro c2
 refine aB (ab (ae ?_))
 refine lX (ps := ps) fun g => ?_
 refine ah (aa rfl (ac rfl) (aa rfl (aH rfl) ?_))
 refine aa rfl (ao rfl kh rfl ki rfl (by first | exact Nat.zero_add _ | rfl)) ?_
 refine aa rfl (ap mq rfl (aA rfl)) ?_
 refine aa rfl (ac rfl) ?_
 refine aa rfl (bY lj ow rfl rfl rfl hi (by first | exact Nat.zero_add _ | rfl)) ?_
 refine aa rfl (pd rp gT rfl) ?_
 refine aa rfl (ac rfl) (aa rfl (ac rfl) (aa rfl (ac rfl) ?_))
 refine am rfl (aS call73 rfl (xy hl hx (fz (sN hF hi) (by rw [dG, hl])) hin (by decide))) ?_
 rintro _ B_ ⟨a', c', rfl, hB_⟩
 obtain rfl := hB_.symm
 refine aa rfl (ac rfl) (aa rfl (aZ rfl rfl) (aa rfl (aZ rfl rfl) (aa rfl (ai rfl) (aa rfl (ai rfl) (ag (ab (ae (ae (ah (aa rfl (ac rfl) (aa rfl (co rfl rfl) (ag (ab ?_)))))))))))))
 refine ax rfl ?_ ?_
 intro c5
 exact absurd c5 (by simp)
 intro c5
 refine aB (ab (ae ?_))
 refine ge (fun h _ => by have := (Value.slice.inj h).2.1; omega) fun g' n' cap sp h1 h2 h3 h4 h5 => ?_
 cases h1
 refine ah (aa rfl (ac rfl) (aa rfl (aH rfl) ?_))
 refine aa rfl (ao rfl kh rfl ki rfl (by first | exact Nat.zero_add _ | rfl)) ?_
 refine aa rfl (ap mq rfl (aA rfl)) ?_
 refine aa rfl (ac rfl) ?_
 refine aa rfl (bY lj ow rfl rfl rfl hi (by first | exact Nat.zero_add _ | rfl)) ?_
 refine aa rfl (pd rp gT rfl) ?_
 refine aa rfl (ac rfl) ?_
 refine am rfl (kL dE gT rfl rfl (m := 64) (vs := bU (gi (fr.getD i []) o k x)) rfl (fz (n := 64) (by rw [List.drop_zero, List.take_left' (by rw [dG, hpl])]) (by rw [dG, hpl])) (by rw [dG, hpl]) (pf _) (by rw [sQ]; omega) (sP hi hpl)) ?_
 rintro _ B_ ⟨rfl, hB_⟩
 obtain rfl := hB_.symm
 refine ag (ab (ae (ah (aa rfl (ai rfl) (ag (ab (av (au (.inl rfl) (.cons (ak rfl) .nil) ?_))))))))
 exact ⟨_, ⟨by simp [cA, hs], rfl⟩, j0 (by simp [eY, hs]) (by simp [eY, hs])⟩
 have hin' : dB 64 off w = false := by simpa using hin
 have hs : fQ fr i off w = false := by simp [fQ, hin']
 refine aF vz ntmps29 rfl rfl ?_
 refine ae (ah (aa rfl (ai rfl) (ag (ab (ae (ae (ah (aa rfl (ac rfl) (aa rfl (ac rfl) (am rfl (bz rn rfl (ni W0 _ ps fr i)) ?_))))))))))
 rintro _ B_ ⟨rfl, hB_⟩
 obtain rfl := hB_.symm
 refine aa rfl (ai rfl) (ag (ab (ae (ah (aa rfl (ac rfl) (aa rfl (co rfl rfl) (ag (ab ?_))))))))
 refine ax rfl ?_ ?_
 intro c2
 exact absurd c2 (by simp [hf])
 intro c2
 refine aB (ab (ae ?_))
 refine lX (ps := ps) fun g => ?_
 refine ah (aa rfl (ac rfl) (aa rfl (aH rfl) ?_))
 refine aa rfl (ao rfl kh rfl ki rfl (by first | exact Nat.zero_add _ | rfl)) ?_
 refine aa rfl (ap mq rfl (aA rfl)) ?_
 refine aa rfl (ac rfl) ?_
 refine aa rfl (bY lj ow rfl rfl rfl hi (by first | exact Nat.zero_add _ | rfl)) ?_
 refine aa rfl (pd rp gT rfl) ?_
 refine aa rfl (ac rfl) (aa rfl (ac rfl) (aa rfl (ac rfl) ?_))
 refine am rfl (aS call73 rfl (xz hl (fz (sN hF hi) (by rw [dG, hl])) hin' (by decide))) ?_
 rintro _ B_ ⟨rfl, hB_⟩
 obtain rfl := hB_.symm
 refine aa rfl (ac rfl) (aa rfl (aZ rfl rfl) (aa rfl (aZ rfl rfl) (aa rfl (ai rfl) (aa rfl (ai rfl) (ag (ab (ae (ae (ah (aa rfl (ac rfl) (aa rfl (co rfl rfl) (ag (ab ?_)))))))))))))
 refine ax rfl ?_ ?_
 intro c5
 refine ae (ah (aa rfl (ac rfl) (aa rfl (ai rfl) (ag (ab (av (aD (au (.inl rfl) (.cons (ak rfl) .nil) ?_))))))))
 exact ⟨_, ⟨by simp [cA, hs], rfl⟩, j0 (by simp [eY, hs]) (by simp [eY, hs])⟩
 intro c5
 exact absurd c5 (by simp)
 have hf' : dH fr.length f = false := by simpa using hf
 have hs : fQ fr f off w = false := by simp [fQ, hf']
 refine aF vz ntmps29 rfl rfl ?_
 refine ae (ah (aa rfl (ai rfl) (ag (ab (ae (ae (ah (aa rfl (ac rfl) (aa rfl (ac rfl) (am rfl (bz rn rfl (ni W0 _ ps fr f)) ?_))))))))))
 rintro _ B_ ⟨rfl, hB_⟩
 obtain rfl := hB_.symm
 refine aa rfl (ai rfl) (ag (ab (ae (ah (aa rfl (ac rfl) (aa rfl (co rfl rfl) (ag (ab ?_))))))))
 refine ax rfl ?_ ?_
 intro c2
 refine ae (ah (aa rfl (ac rfl) (aa rfl (ai rfl) (ag (ab (av (aD (au (.inl rfl) (.cons (ak rfl) .nil) ?_))))))))
 rw [show eY fr f off w x = fr by simp [eY, hs]]
 exact ⟨_, ⟨by simp [cA, hf', hs], rfl⟩, inferInstance⟩
 intro c2
 exact absurd c2 (by simp [hf'])
abbrev Pl := Int × Int
@[reducible] def eo (p : Pl) : List Value := [.int .i64 p.1, .int .i64 p.2]
theorem jP (p : Pl) : (eo p).length = 2 := rfl
def fA (pg : List Pl) (n : Nat) : Pl := pg.getD n (0, 0)
def gC (p : Pl) : Bool := decide (0 ≤ p.1 ∧ p.1 < 32 ∧ 1 ≤ p.2 ∧ p.2 ≤ 3)
structure Pgs (pg : List Pl) : Prop where
  len : pg.length = 12
  ok : ∀ n, n < 12 → fA pg n ≠ (0, 0) → gC (fA pg n) = true
def fR (n : Int) : Bool := decide (0 ≤ n ∧ n < 12)
theorem lY {n : Int} (h : fR n = true) : ∃ i : Nat, n = (i : Int) ∧ i < 12 := by
 simp only [fR, decide_eq_true_eq] at h
 exact ⟨n.toNat, by omega, by omega⟩
abbrev dv (pg : List Pl) : Obj := aw (pg.flatMap eo ++ [.bool true]) 361
theorem pr {pg : List Pl} {sp : List Value} {n : Nat} (hn : n < pg.length) : ((pg.flatMap eo ++ sp).drop (n * 2)).take 2 = eo (fA pg n) := by
 rw [lO jP pg n sp hn]; simp [fA, List.getD, hn]
theorem sW {pg : List Pl} {sp : List Value} {n : Nat} {p : Pl} (hn : n < pg.length) : setR (pg.flatMap eo ++ sp) (n * 2) (eo p) = (pg.set n p).flatMap eo ++ sp := nf jP pg n p sp hn
theorem xF (pg : List Pl) (sp : List Value) : (pg.flatMap eo ++ sp).length = pg.length * 2 + sp.length := by rw [List.length_append, dm jP]
theorem xG {pg : List Pl} (h : pg.length = 12) : (pg.flatMap eo ++ [.bool true])[24]? = some (Value.bool true) := by
 rw [List.getElem?_append_right (by rw [dm jP]; omega), dm jP, h]; rfl
theorem xH {W0 : World} {R : List HP} : aC Tryz.prog W0 85 [] R (fun v B => ∃ b, v = .pointer (some ⟨b, 0, none⟩) ∧ B = pt b (dv (List.replicate 12 (0, 0))) :: R) := by
 refine aF func85 ntmps85 rfl rfl ?_
 refine ae (ah (aa rfl (ai rfl) (ag (ab (ae (ah (aa rfl (bQ oy zeroValue361 (aE lm (aE cB bP)) (bn rfl cB rfl rfl (Nat.le_of_ble_eq_true rfl) SetL.eq bO)) ?_)))))))
 refine am rfl (bL rfl) ?_
 rintro _ _ ⟨b1, rfl, rfl⟩
 refine aa rfl (ai rfl) (ag (ab (av (au (.inl rfl) (.cons (ak rfl) .nil) ?_))))
 exact ⟨_, ⟨b1, rfl, rfl⟩, ent_refl⟩
theorem nj {W0 : World} {R : List HP} (b : Nat) (pg : List Pl) (h : Pgs pg) : aC Tryz.prog W0 277 [.pointer (some ⟨b, 0, none⟩)] (pt b (dv pg) :: R) (fun v B => v = .bool false ∧ B = pt b (dv pg) :: R) := by
 refine aF func277 ntmps277 rfl rfl ?_
 refine ae (ah (aa rfl (ai rfl) (ag (ab (ae (ah (aa rfl (ac rfl) (aa rfl (dl Cy rfl rfl) (aa rfl (ac rfl) ?_)))))))))
 refine bA rfl rfl rfl ?_ ?_
 intro g1_3
 cases g1_3
 intro g1_3
 refine aa rfl (ac rfl) (ar rfl rfl (aa rfl (aH rfl) (ar rfl rfl ?_)))
 refine aa rfl (ao rfl oy rfl cB rfl (by first | exact Nat.zero_add _ | rfl)) ?_
 refine ar rfl rfl (aa rfl (ap ib rfl (aA (xG h.len))) ?_)
 refine ar rfl rfl (aa rfl (bN rfl) (aa rfl (aJ rfl rfl) (aa rfl (ai rfl) (ag (ab (av (au (.inl rfl) (.cons (ak rfl) .nil) ?_)))))))
 exact ⟨_, ⟨rfl, rfl⟩, inferInstance⟩
theorem nk {W0 : World} {R : List HP} (n : Int) : aC Tryz.prog W0 301 [.int .i64 n] R (fun v B => v = .bool (fR n) ∧ B = R) := by
 refine aF func301 ntmps301 rfl rfl ?_
 refine ae (ah (aa rfl (ai rfl) (ag (ab (ae (ah (aa rfl (ac rfl) (aa rfl (cF rfl rfl) (aa rfl (ac rfl) ?_)))))))))
 refine cG rfl rfl rfl ?_ ?_
 intro g1_3
 refine aa rfl (ac rfl) (ar rfl rfl (aa rfl (aY rfl rfl) (aa rfl (aT rfl rfl) (aa rfl (ai rfl) (ag (ab (av (au (.inl rfl) (.cons (ak rfl) .nil) ?_))))))))
 refine ⟨_, ⟨?_, rfl⟩, inferInstance⟩
 refine congrArg Value.bool ?_
 rw [Bool.eq_iff_iff]; simp only [fR, decide_eq_true_eq, Bool.false_eq_true, false_iff]; omega
 intro g1_3
 refine al rfl rfl rfl rfl (aa rfl (aJ rfl rfl) (aa rfl (ai rfl) (ag (ab (av (au (.inl rfl) (.cons (ak rfl) .nil) ?_))))))
 refine ⟨_, ⟨?_, rfl⟩, inferInstance⟩
 refine congrArg Value.bool ?_
 rw [Bool.eq_iff_iff]; simp only [fR, decide_eq_true_eq, Bool.false_eq_true, false_iff]; omega
theorem xI {W0 : World} {R : List HP} (p : Pl) : aC Tryz.prog W0 302 [.agg (eo p).toArray] R (fun v B => v = .bool (gC p) ∧ B = R) := by
 refine aF func302 ntmps302 rfl rfl ?_
 refine ae (ah (am rfl (bL rfl) ?_))
 rintro _ _ ⟨b1, rfl, rfl⟩
 refine aa rfl (ai rfl) (ag (ab (ae (ah ?_))))
 refine aa rfl (ao rfl fY rfl az rfl (by first | exact Nat.zero_add _ | rfl)) ?_
 refine aa rfl (ap aM rfl (aA rfl)) ?_
 refine aa rfl (cF rfl rfl) (aa rfl (ac rfl) ?_)
 refine cG rfl rfl rfl ?_ ?_
 intro g1_4
 refine aa rfl (ao rfl fY rfl az rfl (by first | exact Nat.zero_add _ | rfl)) ?_
 refine ar rfl rfl (aa rfl (ap aM rfl (aA rfl)) ?_)
 refine ar rfl rfl (aa rfl (aY rfl rfl) (aa rfl (aT rfl rfl) (aa rfl (ac rfl) ?_)))
 refine cG rfl rfl rfl ?_ ?_
 intro g1_9
 refine aa rfl (ao rfl fY rfl az rfl (by first | exact Nat.zero_add _ | rfl)) ?_
 refine ar rfl rfl (aa rfl (ap aM rfl (aA rfl)) ?_)
 refine ar rfl rfl (aa rfl (cF rfl rfl) (aa rfl (aT rfl rfl) (aa rfl (ac rfl) ?_)))
 refine cG rfl rfl rfl ?_ ?_
 intro g1_14
 refine aa rfl (ao rfl fY rfl az rfl (by first | exact Nat.zero_add _ | rfl)) ?_
 refine ar rfl rfl (aa rfl (ap aM rfl (aA rfl)) ?_)
 refine ar rfl rfl (aa rfl (jH rfl rfl) (aa rfl (aT rfl rfl) (aa rfl (ai rfl) (ag (ab (av (au (.inl rfl) (.cons (ak rfl) .nil) ?_)))))))
 refine ⟨_, ⟨?_, rfl⟩, inferInstance⟩
 refine congrArg Value.bool ?_
 rw [Bool.eq_iff_iff]; simp only [gC, decide_eq_true_eq, Bool.false_eq_true, false_iff]; omega
 intro g1_14
 refine al rfl rfl rfl rfl (al rfl rfl rfl rfl (aa rfl (aJ rfl rfl) (aa rfl (ai rfl) (ag (ab (av (au (.inl rfl) (.cons (ak rfl) .nil) ?_)))))))
 refine ⟨_, ⟨?_, rfl⟩, inferInstance⟩
 refine congrArg Value.bool ?_
 rw [Bool.eq_iff_iff]; simp only [gC, decide_eq_true_eq, Bool.false_eq_true, false_iff]; omega
 intro g1_9
 refine al rfl rfl rfl rfl (al rfl rfl rfl rfl (aa rfl (aJ rfl rfl) (aa rfl (ac rfl) (al rfl rfl rfl rfl (al rfl rfl rfl rfl (al rfl rfl rfl rfl (aa rfl (aJ rfl rfl) (aa rfl (ai rfl) (ag (ab (av (au (.inl rfl) (.cons (ak rfl) .nil) ?_))))))))))))
 refine ⟨_, ⟨?_, rfl⟩, inferInstance⟩
 refine congrArg Value.bool ?_
 rw [Bool.eq_iff_iff]; simp only [gC, decide_eq_true_eq, Bool.false_eq_true, false_iff]; omega
 intro g1_4
 refine al rfl rfl rfl rfl (al rfl rfl rfl rfl (aa rfl (aJ rfl rfl) (aa rfl (ac rfl) (al rfl rfl rfl rfl (al rfl rfl rfl rfl (al rfl rfl rfl rfl (aa rfl (aJ rfl rfl) (aa rfl (ac rfl) (al rfl rfl rfl rfl (al rfl rfl rfl rfl (al rfl rfl rfl rfl (aa rfl (aJ rfl rfl) (aa rfl (ai rfl) (ag (ab (av (au (.inl rfl) (.cons (ak rfl) .nil) ?_)))))))))))))))))
 refine ⟨_, ⟨?_, rfl⟩, inferInstance⟩
 refine congrArg Value.bool ?_
 rw [Bool.eq_iff_iff]; simp only [gC, decide_eq_true_eq, Bool.false_eq_true, false_iff]; omega
def dX (pg : List Pl) (n : Int) : Bool := fR n && decide (fA pg n.toNat ≠ (0, 0))
theorem sX {W0 : World} {R : List HP} (b : Nat) (pg : List Pl) (h : Pgs pg) (n : Int) : aC Tryz.prog W0 278 [.pointer (some ⟨b, 0, none⟩), .int .i64 n] (pt b (dv pg) :: R) (fun v B => v = .bool (dX pg n) ∧ B = pt b (dv pg) :: R) := by
 refine aF func278 ntmps278 rfl rfl ?_
 refine ae (ah (aa rfl (ai rfl) (ag (ab (ae (ah (aa rfl (ac rfl) (am rfl (aS rq rfl (nk n)) ?_))))))))
 rintro _ B_ ⟨rfl, hB_⟩
 obtain rfl := hB_.symm
 refine aa rfl (ac rfl) ?_
 refine cG rfl rfl rfl ?_ ?_
 intro g1_3
 obtain ⟨i, rfl, hi⟩ := lY g1_3
 have hl := h.len
 refine aa rfl (ac rfl) (ar rfl rfl (aa rfl (ac rfl) (ar rfl rfl (aa rfl (aH rfl) (ar rfl rfl ?_)))))
 refine aa rfl (ao rfl oy rfl lm rfl (by first | exact Nat.zero_add _ | rfl)) ?_
 refine ar rfl rfl ?_
 refine aa rfl (fk oz eS rfl rfl rfl (by omega) (by first | exact Nat.zero_add _ | rfl)) ?_
 refine ar rfl rfl ?_
 refine aa rfl (cQ jd eS rfl (fz (pr (by omega)) rfl) rfl) ?_
 refine ar rfl rfl (aa rfl (bQ fY iF (aE az (aE az bP)) bO) ?_)
 refine ar rfl rfl (aa rfl (wQ Tryz.eqGuardType238 rfl rfl (wO fY Tryz.stoodInHeld238 (se rfl aM rfl rfl (sd jx) (se rfl aM rfl rfl (sd jx) wM)))) ?_)
 refine aa rfl (aT rfl rfl) (aa rfl (ai rfl) (ag (ab (av (au (.inl rfl) (.cons (ak rfl) .nil) ?_)))))
 refine ⟨_, ⟨?_, rfl⟩, inferInstance⟩
 refine congrArg Value.bool ?_
 first
   | (rw [Bool.eq_iff_iff]; simp [dX, g1_3, Prod.ext_iff])
   | simp [dX, g1_3]
 intro g1_3
 refine al rfl rfl rfl rfl (al rfl rfl rfl rfl (al rfl rfl rfl rfl (al rfl rfl rfl rfl (al rfl rfl rfl rfl (al rfl rfl rfl rfl (al rfl rfl rfl rfl (aa rfl (aJ rfl rfl) (aa rfl (ai rfl) (ag (ab (av (au (.inl rfl) (.cons (ak rfl) .nil) ?_))))))))))))
 refine ⟨_, ⟨?_, rfl⟩, inferInstance⟩
 refine congrArg Value.bool ?_
 first
   | (rw [Bool.eq_iff_iff]; simp [dX, g1_3, Prod.ext_iff])
   | simp [dX, g1_3]
def j4 (pg : List Pl) (n : Int) : Pl := if dX pg n then fA pg n.toNat else (0, 0)
theorem xJ {W0 : World} {R : List HP} (b : Nat) (pg : List Pl) (h : Pgs pg) (n : Int) : aC Tryz.prog W0 144 [.pointer (some ⟨b, 0, none⟩), .int .i64 n] (pt b (dv pg) :: R)
    (fun v B => v = .tuple #[.agg (eo (j4 pg n)).toArray, .bool (dX pg n)] ∧ B = pt b (dv pg) :: R) := by
 refine aF func144 ntmps144 rfl rfl ?_
 refine ae (ah (am rfl (dd iF) ?_))
 rintro _ _ ⟨b1, rfl, rfl⟩
 refine aa rfl (ai rfl) (ag (ab (ae (ae (ah (aa rfl (ac rfl) (am rfl (bz rr rfl (nj b pg h)) ?_)))))))
 rintro _ B_ ⟨rfl, hB_⟩
 obtain rfl := hB_.symm
 refine aa rfl (ac rfl) ?_
 refine bA rfl rfl rfl ?_ ?_
 intro g1_3
 exact absurd g1_3 (by decide)
 intro g1_3
 refine aa rfl (ac rfl) (ar rfl rfl (aa rfl (ac rfl) (ar rfl rfl (am rfl (bz call278 rfl (sX b pg h n)) ?_))))
 rintro _ B_ ⟨rfl, hB_⟩
 obtain rfl := hB_.symm
 refine ar rfl rfl (aa rfl (bN rfl) (aa rfl (aJ rfl rfl) (ag (ab ?_))))
 refine ax rfl ?_ ?_
 intro c1
 refine ae (ah (aa rfl (bQ fY iF (aE az (aE az bP)) bO) ?_))
 refine bE (cK eS rfl rfl rfl rfl rfl) ?_
 rintro _ _ rfl
 refine aa rfl (ai rfl) (ag (ab (av (aD (au (.inl rfl) (.cons (fj jd eS rfl rfl) (.cons (ak rfl) .nil)) ?_)))))
 refine ⟨_, ⟨?_, rfl⟩, inferInstance⟩
 have ht : dX pg n = false := by simpa using c1
 simp [cA, j4, ht]
 intro c1
 have ht : dX pg n = true := by simpa using c1
 have hp : fR n = true := by simp only [dX, Bool.and_eq_true] at ht; exact ht.1
 obtain ⟨i, rfl, hi⟩ := lY hp
 have hl := h.len
 refine aB (ab (ae (ah (aa rfl (ac rfl) (aa rfl (ac rfl) (aa rfl (aH rfl) ?_))))))
 refine aa rfl (ao rfl oy rfl lm rfl (by first | exact Nat.zero_add _ | rfl)) ?_
 refine aa rfl (fk oz eS rfl rfl rfl (by omega) (by first | exact Nat.zero_add _ | rfl)) ?_
 refine aa rfl (cQ jd eS rfl (fz (pr (by omega)) rfl) rfl) ?_
 refine bE (cK eS rfl rfl rfl rfl rfl) ?_
 rintro _ _ rfl
 refine aa rfl (ai rfl) (ag (ab (av (au (.inl rfl) (.cons (fj jd eS rfl rfl) (.cons (ak rfl) .nil)) ?_))))
 refine ⟨_, ⟨?_, rfl⟩, inferInstance⟩
 simp [cA, j4, ht]
def dY (pg : List Pl) (n : Int) (p : Pl) : Int := if fR n ∧ gC p then (if dX pg n then 5 else 0) else 1
def e9 (pg : List Pl) (n : Int) (p : Pl) : List Pl := if dY pg n p = 0 then pg.set n.toNat p else pg
theorem np {pg : List Pl} {n : Int} {p : Pl} (h : Pgs pg) : Pgs (e9 pg n p) := by
 unfold e9; split
 rename_i hs
 have hop : gC p = true := by
  unfold dY at hs; split at hs
  rename_i k; exact k.2
  omega
 refine ⟨by simp [h.len], fun m hm hne => ?_⟩
 unfold fA at hne ⊢
 by_cases e : n.toNat = m
 subst e
 simp only [List.getD_eq_getElem?_getD, List.getElem?_set, if_true] at hne ⊢
 rw [if_pos (by rw [h.len]; exact hm)] at hne ⊢
 exact hop
 simp only [List.getD_eq_getElem?_getD, List.getElem?_set_ne e] at hne ⊢
 have := h.ok m hm
 unfold fA at this
 simp only [List.getD_eq_getElem?_getD] at this
 exact this hne
 exact h
theorem sY {W0 : World} {R : List HP} (b : Nat) (pg : List Pl) (h : Pgs pg) (n : Int) (p : Pl) : aC Tryz.prog W0 204 [.pointer (some ⟨b, 0, none⟩), .int .i64 n, .agg (eo p).toArray] (pt b (dv pg) :: R)
    (fun v B => v = .int .i64 (dY pg n p) ∧ B = pt b (dv (e9 pg n p)) :: R) := by
 have hl := h.len
 refine aF func204 ntmps204 rfl rfl ?_
 refine ae (ah (am rfl (bL rfl) ?_))
 rintro _ _ ⟨b1, rfl, rfl⟩
 refine aa rfl (ai rfl) (ag (ab (ae (b0 (ae (ah (aa rfl (ac rfl) (am rfl (bz rr rfl (nj b pg h)) ?_))))))))
 rintro _ B_ ⟨rfl, hB_⟩
 obtain rfl := hB_.symm
 refine aa rfl (ai rfl) (ag (ab ?_))
 refine ax rfl ?_ ?_
 intro c1
 exact absurd c1 (by decide)
 intro c1
 refine ae (ae (ah (aa rfl (ac rfl) (am rfl (aS rq rfl (nk n)) ?_))))
 rintro _ B_ ⟨rfl, hB_⟩
 obtain rfl := hB_.symm
 refine aa rfl (bN rfl) (aa rfl (ai rfl) (ag (ab ?_)))
 refine ax rfl ?_ ?_
 intro c3
 refine aB (ab (bR rfl (ae (ah (aa rfl (ai rfl) (ag (ab (av (bj (aD (au (.inl rfl) (.cons (ak rfl) .nil) ?_)))))))))))
 have he : dY pg n p = 1 := by
  unfold dY; rw [if_neg]
  first
    | (intro hk; exact absurd hk.1 (by simpa using c3))
    | (intro hk; exact absurd hk.2 (by simpa using c4))
 exact ⟨_, ⟨by simp [cA, he], by rw [e9, he, if_neg (by decide)]⟩, inferInstance⟩
 intro c3
 have hp : fR n = true := by simpa using c3
 refine ah (aa rfl (cu jd eS rfl rfl) ?_)
 refine am rfl (aS call302 rfl (xI p)) ?_
 rintro _ B_ ⟨rfl, hB_⟩
 obtain rfl := hB_.symm
 refine aa rfl (bN rfl) (aa rfl (ai rfl) (ag (ab ?_)))
 refine ax rfl ?_ ?_
 intro c4
 refine ae (ah (aa rfl (ai rfl) (ag (ab (av (bj (aD (au (.inl rfl) (.cons (ak rfl) .nil) ?_))))))))
 have he : dY pg n p = 1 := by
  unfold dY; rw [if_neg]
  first
    | (intro hk; exact absurd hk.1 (by simpa using c3))
    | (intro hk; exact absurd hk.2 (by simpa using c4))
 exact ⟨_, ⟨by simp [cA, he], by rw [e9, he, if_neg (by decide)]⟩, inferInstance⟩
 intro c4
 have ho : gC p = true := by simpa using c4
 refine ae (ah (aa rfl (ac rfl) (aa rfl (ac rfl) (am rfl (bz call278 rfl (sX b pg h n)) ?_))))
 rintro _ B_ ⟨rfl, hB_⟩
 obtain rfl := hB_.symm
 refine aa rfl (ai rfl) (ag (ab ?_))
 refine ax rfl ?_ ?_
 intro c6
 refine ae (ah (aa rfl (ai rfl) (ag (ab (av (bj (aD (au (.inl rfl) (.cons (ak rfl) .nil) ?_))))))))
 have he : dY pg n p = 5 := by
  unfold dY; rw [if_pos ⟨hp, ho⟩, if_pos c6]
 exact ⟨_, ⟨by simp [cA, he], by rw [e9, he, if_neg (by decide)]⟩, inferInstance⟩
 intro c6
 have ht : dX pg n = false := by simpa using c6
 have he : dY pg n p = 0 := by simp [dY, hp, ho, ht]
 refine aB (bF (ab (ae ?_)))
 obtain ⟨i, rfl, hi⟩ := lY hp
 refine cY [(b1, 0, _)] 7 cV rfl (aV aK) (fun hS => ?_)
 refine aj 0 rfl rfl (by kernel_rfl) (by kernel_rfl) (by kernel_rfl) rfl hS (ac rfl) ?_
 refine aj 1 rfl rfl (by kernel_rfl) (by kernel_rfl) (by kernel_rfl) rfl hS (ac rfl) ?_
 refine aj 2 rfl rfl (by kernel_rfl) (by kernel_rfl) (by kernel_rfl) rfl hS (cQ jd eS rfl (dA (k := 0) rfl) rfl) ?_
 refine aj 3 rfl rfl (by kernel_rfl) (by kernel_rfl) (by kernel_rfl) rfl hS (aH rfl) ?_
 refine aj 4 rfl rfl (by kernel_rfl) (by kernel_rfl) (by kernel_rfl) rfl hS (ao rfl oy rfl lm rfl (by first | exact Nat.zero_add _ | rfl)) ?_
 refine aj 5 rfl rfl (by kernel_rfl) (by kernel_rfl) (by kernel_rfl) rfl hS (fk oz eS rfl rfl rfl hi (by first | exact Nat.zero_add _ | rfl)) ?_
 refine bB 6 (by kernel_rfl) rfl rfl (ir eS rfl rfl rfl rfl (by rw [xF, hl]; omega) (sW (by omega))) rfl ?_; clear hS
 rintro _ _ rfl
 refine ⟨(aV aK), fun hS => ?_⟩
 refine cg (by kernel_rfl) ?_; clear hS
 refine ab (ae (ah (aa rfl (ai rfl) (ag (ab (av (au (.inl rfl) (.cons (ak rfl) .nil) ?_)))))))
 rw [show e9 pg i p = pg.set i p by simp [e9, he]]
 exact ⟨_, ⟨by simp [cA, he], rfl⟩, inferInstance⟩
theorem xK {W0 : World} {R : List HP} (b : Nat) (pg : List Pl) (h : Pgs pg) : aC Tryz.prog W0 207 [.pointer (some ⟨b, 0, none⟩), .int .i64 12] (pt b (dv pg) :: R)
    (fun v B => v = .int .i64 1 ∧ B = pt b (dv pg) :: R) := by
 refine aF func207 ntmps207 rfl rfl ?_
 refine ae (ah (aa rfl (ai rfl) (ag (ab (ae (b0 (ae (ah (aa rfl (ac rfl) (am rfl (bz rr rfl (nj b pg h)) ?_))))))))))
 rintro _ B_ ⟨rfl, hB_⟩
 obtain rfl := hB_.symm
 refine aa rfl (ai rfl) (ag (ab ?_))
 refine ax rfl ?_ ?_
 intro c1
 exact absurd c1 (by decide)
 intro c1
 refine ae (ah (aa rfl (ac rfl) (am rfl (aS rq rfl (nk 12)) ?_)))
 rintro _ B_ ⟨rfl, hB_⟩
 obtain rfl := hB_.symm
 refine aa rfl (bN rfl) (aa rfl (ai rfl) (ag (ab ?_)))
 refine ax rfl ?_ ?_
 intro c3
 refine ae (ah (aa rfl (ai rfl) (ag (ab (av (bj (aD (au (.inl rfl) (.cons (ak rfl) .nil) ?_))))))))
 exact ⟨_, ⟨rfl, rfl⟩, inferInstance⟩
 intro c3
 exact absurd c3 (by decide)
theorem jQ {p : Pl} : gC p = true ↔ 0 ≤ p.1 ∧ p.1 < 32 ∧ 1 ≤ p.2 ∧ p.2 ≤ 3 := by simp [gC]
end
section
class Hk (α : Type) extends Inhabited α where
  ky : α → Int
namespace Hp
variable {α : Type} [Hk α]
def us (l : List α) (i : Nat) : Int := Hk.ky (l.getD i default)
theorem pu {l : List α} {i : Nat} (h : i < l.length) : us l i = Hk.ky l[i] := by simp [us, List.getD, h]
def swapL (l : List α) (i j : Nat) : List α := (l.set i (l.getD j default)).set j (l.getD i default)
theorem pw (l : List α) (i j : Nat) : (swapL l i j).length = l.length := by simp [swapL]
theorem jR {l : List α} {i j : Nat} (hi : i < l.length) (hj : j < l.length) (x : Nat) : (swapL l i j).getD x default = if x = i then l.getD j default else if x = j then l.getD i default else l.getD x default := by
 simp only [swapL, List.getD_eq_getElem?_getD, List.getElem?_set, List.length_set]
 by_cases h1 : x = j
 subst h1
 by_cases h2 : x = i
 subst h2; simp [hj]
 simp [hj, h2]
 have h1' : ¬ j = x := fun h => h1 h.symm
 by_cases h2 : x = i
 subst h2; simp [h1', hi]
 have h2' : ¬ i = x := fun h => h2 h.symm
 simp [h1, h1', h2, h2']
theorem j5 {l : List α} {i j : Nat} (hi : i < l.length) (hj : j < l.length) (x : Nat) : us (swapL l i j) x = if x = i then us l j else if x = j then us l i else us l x := by
 unfold us; rw [jR hi hj]; split
 rfl
 split <;> rfl
theorem px {β : Type} : ∀ (l : List β) (i j : Nat) (hi : i < l.length) (hj : j < l.length), ((l.set i l[j]).set j l[i]).Perm l := by
 intro l i j hi hj
 have : ((l.set i l[j]).set j l[i]).Perm l := List.set_set_perm hi hj
 exact this
theorem jS {l : List α} {i j : Nat} (hi : i < l.length) (hj : j < l.length) : (swapL l i j).Perm l := by
 have := px l i j hi hj
 simpa [swapL, List.getD, hi, hj] using this
def Heap (l : List α) (n : Nat) : Prop := ∀ c, c < n → 0 < c → us l ((c - 1) / 2) ≤ us l c
def gj (l : List α) (i n : Nat) : Prop := ∀ c, c < n → 0 < c → (c ≠ i → (c - 1) / 2 ≠ i → us l ((c - 1) / 2) ≤ us l c) ∧ ((c - 1) / 2 = i → 0 < i → us l ((i - 1) / 2) ≤ us l c)
def Up (l : List α) (j n : Nat) : Prop := ∀ c, c < n → 0 < c → (c ≠ j → us l ((c - 1) / 2) ≤ us l c) ∧ ((c - 1) / 2 = j → 0 < j → us l ((j - 1) / 2) ≤ us l c)
theorem py {l : List α} {i j n : Nat} (h : gj l i n) (hn : n ≤ l.length) (hj : j < n) (hc : (j - 1) / 2 = i) (h0 : 0 < j) (hlt : us l j < us l i)
    (hmin : ∀ c, c < n → 0 < c → (c - 1) / 2 = i → us l j ≤ us l c) : gj (swapL l i j) j n ∧ us (swapL l i j) ((j - 1) / 2) ≤ us (swapL l i j) j := by
 have hij : i < j := by omega
 have sw := j5 (l := l) (i := i) (j := j) (by omega) (by omega)
 refine ⟨fun c hcn hc0 => ⟨fun h1 h2 => ?_, fun h1 h2 => ?_⟩, ?_⟩
 rw [sw, sw]
 by_cases e1 : c = i
 subst e1
 have := (h j hj h0).2 hc (by omega)
 rw [if_neg (by omega), if_neg (by omega), if_pos rfl]; exact this
 by_cases e2 : (c - 1) / 2 = i
 rw [if_pos e2, if_neg e1, if_neg h1]; exact hmin c hcn hc0 e2
 rw [if_neg e2, if_neg h2, if_neg e1, if_neg h1]; exact (h c hcn hc0).1 e1 e2
 rw [hc, sw, sw, if_pos rfl, if_neg (by omega), if_neg (by omega)]
 rw [← h1]; exact (h c hcn hc0).1 (by omega) (by omega)
 rw [hc, sw, sw, if_pos rfl, if_neg (by omega), if_pos rfl]; omega
theorem lZ {l : List α} {i n : Nat} (h : gj l i n) (hmin : ∀ c, c < n → 0 < c → (c - 1) / 2 = i → us l i ≤ us l c) (hp : 0 < i → us l ((i - 1) / 2) ≤ us l i) : Heap l n := fun c hc h0 => by
 by_cases e1 : (c - 1) / 2 = i
 rw [e1]; exact hmin c hc h0 e1
 by_cases e2 : c = i
 subst e2; exact hp h0
 exact (h c hc h0).1 e2 e1
theorem pz {l : List α} {j n : Nat} (h : Up l j n) (hn : n ≤ l.length) (hj : j < n) (h0 : 0 < j) (hlt : us l j < us l ((j - 1) / 2)) : Up (swapL l ((j - 1) / 2) j) ((j - 1) / 2) n := by
 have sw := j5 (l := l) (i := (j - 1) / 2) (j := j) (by omega) (by omega)
 intro c hc hc0
 refine ⟨fun h1 => ?_, fun h1 h2 => ?_⟩
 rw [sw, sw]
 by_cases e1 : c = j
 subst e1; rw [if_pos rfl, if_neg (by omega), if_pos rfl]; omega
 by_cases e2 : (c - 1) / 2 = (j - 1) / 2
 rw [if_pos e2, if_neg (by omega), if_neg e1]
 have := (h c hc hc0).1 e1; rw [e2] at this; omega
 by_cases e3 : (c - 1) / 2 = j
 rw [if_neg e2, if_pos e3, if_neg h1, if_neg e1]; exact (h c hc hc0).2 e3 h0
 rw [if_neg e2, if_neg e3, if_neg h1, if_neg e1]; exact (h c hc hc0).1 e1
 rw [sw, sw, if_neg (by omega), if_neg (by omega)]
 have hp := (h ((j - 1) / 2) (by omega) h2).1 (by omega)
 by_cases e1 : c = j
 subst e1; rw [if_neg (by omega), if_pos rfl]; exact hp
 rw [if_neg (by omega), if_neg e1]
 have := (h c hc hc0).1 e1; rw [h1] at this; omega
theorem m0 {l : List α} {j n : Nat} (h : Up l j n) (hp : 0 < j → us l ((j - 1) / 2) ≤ us l j) : Heap l n := fun c hc h0 => by
 by_cases e : c = j
 subst e; exact hp h0
 exact (h c hc h0).1 e
theorem pA {l : List α} {n : Nat} (h : Heap l n) : ∀ c, c < n → us l 0 ≤ us l c := by
 intro c
 induction c using Nat.strongRecOn with
 | _ c ih =>
  intro hc
  by_cases h0 : c = 0
  subst h0; omega
  have := h c hc (by omega)
  have := ih ((c - 1) / 2) (by omega) (by omega)
  omega
theorem m3 {l l' : List α} {n : Nat} (h : ∀ i, i < n → l.getD i default = l'.getD i default) {i : Nat} (hi : i < n) : us l i = us l' i := by unfold us; rw [h i hi]
theorem pB {l l' : List α} {n : Nat} (h : ∀ i, i < n → l.getD i default = l'.getD i default) (k : Heap l n) : Heap l' n := fun c hc h0 => by
 rw [← m3 h hc, ← m3 h (i := (c - 1) / 2) (by omega)]; exact k c hc h0
structure Down (its l : List α) (i0 n : Nat) (moved : Bool) : Prop where
  perm : l.Perm its
  tail : ∀ x, n ≤ x → l.getD x default = its.getD x default
  no : moved = false → l = its ∧ ∀ c, c < n → 0 < c → (c - 1) / 2 = i0 → us its i0 ≤ us its c
  yes : moved = true → Heap l n
theorem m4 {l its : List α} {i i0 n : Nat} (hp : l.Perm its) (hi : i0 ≤ i) (hH : gj l i n) (ht : ∀ x, n ≤ x → l.getD x default = its.getD x default) (h0 : i = i0 → l = its)
    (hg : i0 < i → us l ((i - 1) / 2) ≤ us l i) (hmin : ∀ c, c < n → 0 < c → (c - 1) / 2 = i → us l i ≤ us l c) : Down its l i0 n (decide (i0 < i)) :=
  ⟨hp, ht, fun h => by
 have : i = i0 := by simp at h; omega
 subst this
 obtain rfl := h0 rfl
 exact ⟨rfl, hmin⟩, fun h => by
 have : i0 < i := by simpa using h
 exact lZ hH hmin fun _ => hg this⟩
theorem m5 {l l0 : List α} {i j n : Nat} (hi : i < n) (hj : j < n) (hn : n ≤ l.length) (h : ∀ x, n ≤ x → l.getD x default = l0.getD x default) : ∀ x, n ≤ x → (swapL l i j).getD x default = l0.getD x default := fun x hx => by
 rw [jR (by omega) (by omega), if_neg (by omega), if_neg (by omega)]; exact h x hx
end Hp
instance D7 : Hk Nat := { ky := fun n => (n : Int) }
abbrev Po := List (Int × Bool)
def cW (po : Po) (f : Nat) : Int × Bool := po.getD f (-1, true)
def bJ (po : Po) (w : Nat) : List Nat := (List.range po.length).filter fun f => cW po f == ((w : Int), false)
theorem j6 {po : Po} {f : Nat} {x : Int × Bool} (hf : f < po.length) (g : Nat) : cW (po.set f x) g = if g = f then x else cW po g := by
 simp only [cW, List.getD_eq_getElem?_getD, List.getElem?_set]
 by_cases h : f = g
 subst h; simp [hf]
 simp [h, show ¬ g = f from fun e => h e.symm]
theorem gD {po : Po} {w f : Nat} : f ∈ bJ po w ↔ f < po.length ∧ cW po f = ((w : Int), false) := by
 rw [bJ, List.mem_filter, List.mem_range, beq_iff_eq]
theorem nq (po : Po) (w : Nat) : (bJ po w).Pairwise (· < ·) := List.pairwise_lt_range.filter _
theorem sZ (po : Po) (w : Nat) : (bJ po w).Nodup := (nq po w).imp (fun h e => by omega)
theorem xL {po : Po} {w : Nat} {l : List Nat} (hn : l.Nodup) (h : ∀ f, f ∈ l ↔ f < po.length ∧ cW po f = ((w : Int), false)) : l.Perm (bJ po w) :=
  (List.perm_ext_iff_of_nodup hn (sZ po w)).2 fun f => by rw [h, gD]
theorem xM {po : Po} {f : Nat} {u : Int} (hf : f < po.length) (w : Nat) : bJ (po.set f (u, true)) w = (bJ po w).filter (· != f) := by
 simp only [bJ, List.length_set, List.filter_filter]
 apply List.filter_congr
 intro g _
 rw [j6 hf]
 by_cases h : g = f
 subst h; simp
 simp [h]
theorem xN {po : Po} {f : Nat} {w : Nat} (hf : f < po.length) (h : cW po f ≠ ((w : Int), false)) : (bJ po w ++ [f]).Perm (bJ (po.set f ((w : Int), false)) w) := by
 refine xL ?_ fun g => ?_
 rw [List.nodup_append]
 refine ⟨sZ po w, by simp, fun a ha b hb e => ?_⟩
 rw [List.mem_singleton] at hb; subst hb; subst e
 exact h (gD.1 ha).2
 rw [List.mem_append, List.mem_singleton, gD, List.length_set, j6 hf]
 by_cases e : g = f
 subst e; simp [hf]
 simp [e]
theorem pC {po : Po} {f : Nat} {x : Int × Bool} {w : Nat} (hf : f < po.length) (h1 : cW po f ≠ ((w : Int), false)) (h2 : x ≠ ((w : Int), false)) : bJ (po.set f x) w = bJ po w := by
 simp only [bJ, List.length_set]
 apply List.filter_congr
 intro g _
 rw [j6 hf]
 by_cases h : g = f
 subst h; rw [if_pos rfl, Bool.eq_iff_iff, beq_iff_eq, beq_iff_eq]; exact ⟨fun e => absurd e h2, fun e => absurd e h1⟩
 rw [if_neg h]
theorem pD {po : Po} {w x : Nat} {l : List Nat} (hp : (l ++ [x]).Perm (bJ po w)) (hm : ∀ y ∈ bJ po w, x ≤ y) : bJ po w = x :: bJ (po.set x ((w : Int), true)) w := by
 have hx : x ∈ bJ po w := hp.mem_iff.1 (by simp)
 have hs := nq po w
 rw [xM (gD.1 hx).1]
 generalize bJ po w = m at hx hm hs
 cases m with
 | nil => cases hx
 | cons y t =>
  rw [List.pairwise_cons] at hs
  have : x = y := by
   rcases List.mem_cons.1 hx with e | e
   exact e
   have := hs.1 x e
   have := hm y (by simp)
   omega
  subst this
  congr 1
  rw [List.filter_cons, if_neg (by simp)]
  refine (List.filter_eq_self.2 fun z hz => ?_).symm
  have := hs.1 z hz
  simp; omega
theorem xO {po : Po} {w x : Nat} {l : List Nat} (hp : (l ++ [x]).Perm (bJ po w)) (hm : ∀ y ∈ bJ po w, x ≤ y) : l.Perm (bJ (po.set x ((w : Int), true)) w) := by
 have h := pD hp hm
 rw [h] at hp
 exact ((List.perm_append_comm (l₁ := [x]) (l₂ := l)).trans hp).cons_inv
structure LsOk (po : Po) (Ls : List (List Nat)) : Prop where
  len : Ls.length = 16
  row : ∀ w, w < 16 → (Ls.getD w []).Perm (bJ po w) ∧ Hp.Heap (Ls.getD w []) (Ls.getD w []).length
structure PoOk (po : Po) : Prop where
  len : po.length ≤ 32
  who : ∀ f, f < po.length → -1 ≤ (cW po f).1 ∧ (cW po f).1 < 16 ∧ ((cW po f).1 = -1 → (cW po f).2 = false)
theorem PoOk.set {po : Po} (h : PoOk po) {f : Nat} {x : Int × Bool} (hf : f < po.length) (h1 : 0 ≤ x.1) (h2 : x.1 < 16) : PoOk (po.set f x) := ⟨by rw [List.length_set]; exact h.len, fun g hg => by
 rw [List.length_set] at hg
 rw [j6 hf]
 split
 exact ⟨by omega, h2, fun e => by omega⟩
 exact h.who g hg⟩
theorem xP {po : Po} (h : PoOk po) (w : Nat) : (bJ po w).length ≤ 32 := by
 have := List.length_filter_le (fun f => cW po f == ((w : Int), false)) (List.range po.length)
 rw [List.length_range] at this
 have := h.len
 unfold bJ; omega
theorem LsOk.rlen {po : Po} {Ls : List (List Nat)} (h : LsOk po Ls) (hp : PoOk po) {w : Nat} (hw : w < 16) : (Ls.getD w []).length ≤ 32 := by
 rw [(h.row w hw).1.length_eq]; exact xP hp w
theorem LsOk.set {po po' : Po} {Ls : List (List Nat)} (h : LsOk po Ls) {w : Nat} (hw : w < 16) {l : List Nat} (h1 : l.Perm (bJ po' w)) (h2 : Hp.Heap l l.length) (h3 : ∀ u, u < 16 → u ≠ w → bJ po' u = bJ po u) : LsOk po' (Ls.set w l) := ⟨by rw [List.length_set]; exact h.len, fun u hu => by
 have e : (Ls.set w l).getD u [] = if u = w then l else Ls.getD u [] := by
  simp only [List.getD_eq_getElem?_getD, List.getElem?_set]
  by_cases k : w = u
  subst k; simp [h.len, hw]
  simp [k, show ¬ u = w from fun e => k e.symm]
 rw [e]
 split
 rename_i k; subst k; exact ⟨h1, h2⟩
 rename_i k; rw [h3 u hu k]; exact h.row u hu⟩
theorem LsOk.new (n : Nat) : LsOk (List.replicate n (-1, false)) (List.replicate 16 []) := ⟨by simp, fun w hw => by
 have e : bJ (List.replicate n (-1, false)) w = [] := by
  rw [List.eq_nil_iff_forall_not_mem]
  intro f hf
  have := (gD.1 hf)
  rw [List.length_replicate] at this
  have h2 := this.2
  simp [cW, List.getD, this.1] at h2
 rw [e, show (List.replicate 16 ([] : List Nat)).getD w [] = [] by rw [List.getD_eq_getElem?_getD, List.getElem?_replicate]; split <;> rfl]
 exact ⟨List.Perm.refl _, fun c hc _ => absurd hc (Nat.not_lt_zero _)⟩⟩
theorem PoOk.new {n : Nat} (h : n ≤ 32) : PoOk (List.replicate n (-1, false)) := ⟨by simpa using h, fun f hf => by
 rw [List.length_replicate] at hf
 simp [cW, List.getD, hf]⟩
structure Im where
  fr : List bW
  po : Po
  pg : List Pl
def eF (f : Nat) : List Nat → Nat → List bW → List bW
 | [], _, fr => fr
 | x :: t, k, fr => eF f t (k + 1) (eY fr f (4 * k : Nat) 4 x)
theorem pE (f x : Nat) : ∀ (l : List Nat) (k : Nat) (fr : List bW), eF f (l ++ [x]) k fr = eY (eF f l k fr) f (4 * (k + l.length) : Nat) 4 x
 | [], k, fr => by simp [eF]
 | y :: t, k, fr => by
  rw [List.cons_append, eF, eF, pE f x t (k + 1)]
  congr 3; simp only [List.length_cons]; omega
theorem kP {f : Nat} : ∀ {l : List Nat} {k : Nat} {fr : List bW}, eX fr → eX (eF f l k fr) ∧ (eF f l k fr).length = fr.length
 | [], _, _, h => ⟨h, rfl⟩
 | x :: t, k, fr, h => by
  obtain ⟨h1, h2⟩ := kP (f := f) (l := t) (k := k + 1) (xC (f := f) (off := (4 * k : Nat)) (w := 4) (v := x) h)
  exact ⟨h1, by rw [eF, h2, xD]⟩
def cH (words : List Nat) (i : Nat) : List Nat := (words.drop (16 * i)).take 16
def fm (who : Nat) (words : List Nat) (x : Im) (i : Nat) : Im :=
  match bJ x.po who with
 | f :: _ => ⟨eF f (cH words i) 0 x.fr, x.po.set f ((who : Int), true), e9 x.pg i ((f : Int), 3)⟩
 | [] => x
def cZ (who : Nat) (words : List Nat) : Nat → Im → Im
 | 0, x => x
 | n + 1, x => fm who words (cZ who words n x) n
structure ImOk (x : Im) : Prop where
  fr : eX x.fr
  po : PoOk x.po
  pg : Pgs x.pg
  len : x.po.length = x.fr.length
theorem xQ {who i : Nat} {words : List Nat} {x : Im} (h : ImOk x) (hw : who < 16) : ImOk (fm who words x i) := by
 unfold fm
 cases e : bJ x.po who with
 | nil => exact h
 | cons f t =>
  have hf := gD.1 (show f ∈ bJ x.po who by rw [e]; simp)
  obtain ⟨k1, k2⟩ := kP (f := f) (l := cH words i) (k := 0) h.fr
  exact ⟨k1, h.po.set hf.1 (by simp) (by simp; omega), np h.pg, by rw [List.length_set, k2]; exact h.len⟩
theorem jT {who : Nat} {words : List Nat} (hw : who < 16) : ∀ {n : Nat} {x : Im}, ImOk x → ImOk (cZ who words n x)
 | 0, _, h => h
 | n + 1, _, h => xQ (jT hw h) hw
theorem xR {who i : Nat} {words : List Nat} {x : Im} : (bJ (fm who words x i).po who).length = (bJ x.po who).length - 1 := by
 unfold fm
 cases e : bJ x.po who with
 | nil => simp [e]
 | cons f t =>
  have hf := gD.1 (show f ∈ bJ x.po who by rw [e]; simp)
  dsimp only
  have hm : ∀ y ∈ bJ x.po who, f ≤ y := fun y hy => by
   have := nq x.po who
   rw [e] at hy this
   rw [List.pairwise_cons] at this
   rcases List.mem_cons.1 hy with rfl | k
   exact Nat.le_refl _
   exact Nat.le_of_lt (this.1 y k)
  have := pD (l := t) (by rw [e]; exact List.perm_append_comm (l₁ := t) (l₂ := [f])) hm
  rw [e] at this
  have := (List.cons.inj this).2
  rw [← this, List.length_cons]; omega
theorem pF {who : Nat} {words : List Nat} {x : Im} : ∀ n : Nat, (bJ (cZ who words n x).po who).length = (bJ x.po who).length - n
 | 0 => rfl
 | n + 1 => by rw [cZ, xR, pF n]; omega
theorem xS {who i v : Nat} {words : List Nat} {x : Im} (h : v ≠ who) : bJ (fm who words x i).po v = bJ x.po v := by
 unfold fm
 cases e : bJ x.po who with
 | nil => rfl
 | cons f t =>
  have hf := gD.1 (show f ∈ bJ x.po who by rw [e]; simp)
  dsimp only
  refine pC hf.1 ?_ ?_
  rw [hf.2]; intro q; have := (Prod.mk.inj q).1; omega
  intro q; have := (Prod.mk.inj q).2; cases this
theorem t0 {who v : Nat} {words : List Nat} {x : Im} (h : v ≠ who) : ∀ n : Nat, bJ (cZ who words n x).po v = bJ x.po v
 | 0 => rfl
 | n + 1 => by rw [cZ, xS h, t0 h n]
def jU (pg : List Pl) (n m : Nat) : Prop := ∀ i, n ≤ i → i < m → dX pg (i : Nat) = false
theorem pG {who : Nat} {words : List Nat} {x : Im} (h : jU x.pg 0 8) (hl : x.pg.length = 12) : ∀ n : Nat, n ≤ 8 → jU (cZ who words n x).pg n 8 ∧ (cZ who words n x).pg.length = 12
 | 0, _ => ⟨h, hl⟩
 | n + 1, hn => by
  obtain ⟨k1, k2⟩ := pG h hl n (by omega)
  rw [cZ]
  generalize cZ who words n x = y at k1 k2
  unfold fm
  cases e : bJ y.po who with
  | nil => exact ⟨fun i h1 h2 => k1 i (by omega) h2, k2⟩
  | cons f t =>
   dsimp only
   refine ⟨fun i h1 h2 => ?_, ?_⟩
   have := k1 i (by omega) h2
   unfold e9
   split
   simp only [dX, fA, Int.toNat_natCast, List.getD_eq_getElem?_getD] at this ⊢
   rw [List.getElem?_set_ne (by omega)]; exact this
   exact this
   unfold e9; split
   rw [List.length_set]; exact k2
   exact k2
end
section
open Go.RowKit
section
variable {rd : Option Nat} {P : Program} {S : World → Prop} {W0 : World} {N : FSz} {Q : Exit → Act → World → Prop} {e : bK} {A B R R1 R2 R3 R4 R5 R6 : List HP} {ops : Array Oper} {rest : List Oper}
variable {op : Op} {ty t t' : TypeId} {pos : String} {af : Array Edge} {v u : Value} {d b off : Nat} {x y z : Operand} {l l' vs : List Value}
variable {K1 K2 K3 K4 K5 K6 X1 X2 X3 X4 X5 X6 : Type} {r1 : K1 → X1 → HP} {b1 : K1} {x1 : X1} {r2 : K2 → X2 → HP} {b2 : K2} {x2 : X2} {r3 : K3 → X3 → HP} {b3 : K3} {x3 : X3} {r4 : K4 → X4 → HP} {b4 : K4} {x4 : X4} {r5 : K5 → X5 → HP} {b5 : K5} {x5 : X5} {r6 : K6 → X6 → HP} {b6 : K6} {x6 : X6}
theorem t1 [h1 : Tk r1 b1 A x1 R1] [h2 : Tk r2 b2 R1 x2 R2] [h3 : Tk r3 b3 R2 x3 R] : A.Perm (r1 b1 x1 :: r2 b2 x2 :: r3 b3 x3 :: R) := h1.perm.trans (xa.cons _)
theorem t2 [h1 : Tk r1 b1 A x1 R1] [h2 : Tk r2 b2 R1 x2 R2] [h3 : Tk r3 b3 R2 x3 R3] [h4 : Tk r4 b4 R3 x4 R] : A.Perm (r1 b1 x1 :: r2 b2 x2 :: r3 b3 x3 :: r4 b4 x4 :: R) := h1.perm.trans (t1.cons _)
theorem xT [h1 : Tk r1 b1 A x1 R1] [h2 : Tk r2 b2 R1 x2 R2] [h3 : Tk r3 b3 R2 x3 R3] [h4 : Tk r4 b4 R3 x4 R4] [h5 : Tk r5 b5 R4 x5 R] : A.Perm (r1 b1 x1 :: r2 b2 x2 :: r3 b3 x3 :: r4 b4 x4 :: r5 b5 x5 :: R) := h1.perm.trans (t2.cons _)
section
variable {f : FuncId} {xs : Array Operand} {ats : Array TypeId} {Post : Value → List HP → Prop}
theorem xU (hc : ∀ args w, (callFunc f args).run P w = .ok (.enter f args) w) (hx : eC e xs.toList = some vs)
    (hs : aC P W0 f vs (r1 b1 x1 :: r2 b2 x2 :: r3 b3 x3 :: r4 b4 x4 :: R) Post) [h1 : Tk r1 b1 A x1 R1] [h2 : Tk r2 b2 R1 x2 R2] [h3 : Tk r3 b3 R2 x3 R3] [h4 : Tk r4 b4 R3 x4 R] : di P W0 N e A (.call { callee := .value (.func f), args := xs, argTypes := ats }) Post :=
  jL t2 (aS hc hx hs)
theorem t6 (hc : ∀ args w, (callFunc f args).run P w = .ok (.enter f args) w) (hx : eC e xs.toList = some vs)
    (hs : aC P W0 f vs (r1 b1 x1 :: r2 b2 x2 :: r3 b3 x3 :: r4 b4 x4 :: r5 b5 x5 :: R) Post) [h1 : Tk r1 b1 A x1 R1] [h2 : Tk r2 b2 R1 x2 R2] [h3 : Tk r3 b3 R2 x3 R3] [h4 : Tk r4 b4 R3 x4 R4] [h5 : Tk r5 b5 R4 x5 R] : di P W0 N e A (.call { callee := .value (.func f), args := xs, argTypes := ats }) Post :=
  jL xT (aS hc hx hs)
variable {fx : Operand} {us cs : List Value}
end
def kH (_ : Nat) (x : HP) : HP := x
instance (priority := low) ent_app {R R' : List HP} : Ent (R ++ R') R := ⟨fun l hl => by
 obtain ⟨l1, l2, rfl, h1, h2⟩ := eO.append.1 hl
 exact ⟨l1, l2, h1, List.Perm.refl _⟩⟩
theorem kQ {C : List HP} {f : FuncId} {args : List Value} {Post : Value → List HP → Prop} (h : aC P W0 f args (C ++ R) Post) : aC P W0 f args (kH 0 (bG C) :: R) Post := fun w hO => h w (hO.ent ip)
theorem t7 {C : List HP} [h : Ent A (C ++ R)] : Ent A (kH 0 (bG C) :: R) := h.trans g8
theorem xV {C : List HP} {K : Act → World → Prop} (h : aQ W0 N K e (C ++ R)) : aQ W0 N K e (bG C :: R) := fun a w hF hO => h a w hF (hO.ent ip)
theorem xW {L : Nat} {Post : Value → List HP → Prop} (hp : A.Perm B) (h : kK P W0 L vs B Post) : kK P W0 L vs A Post := fun w hO => h w (hO.perm hp)
theorem xX {f : FuncId} {args : List Value} {Post : Value → List HP → Prop} (he : Ent A B) (h : aC P W0 f args B Post) : aC P W0 f args A Post := fun w hO => h w (hO.ent he)
instance D8 [h : Ent A R] : Ent A (kH 0 (bG []) :: R) := t7 (h := h)
instance D9 {K X : Type} {r : K → X → HP} {b : K} {x : X} {C : List HP} [h : Tk r b A x R1] [k : Ent R1 (kH 0 (bG C) :: R)] : Ent A (kH 0 (bG (r b x :: C)) :: R) :=
  (Ent.ofPerm h.perm).trans ((Ent.cons (k.trans ip)).trans (t7 (C := r b x :: C) (h := ent_refl)))
instance Da [h : Ent A R] : Ent A (bG [] :: R) := h.trans (g8 (A := []))
instance Db {K X : Type} {r : K → X → HP} {b : K} {x : X} {C : List HP} [h : Tk r b A x R1] [k : Ent R1 (bG C :: R)] : Ent A (bG (r b x :: C) :: R) :=
  (Ent.ofPerm h.perm).trans ((Ent.cons (k.trans ip)).trans (g8 (A := r b x :: C)))
theorem iu {o o' : Obj} {K : Act → World → Prop} [h : Tk pt b A o R] (he : o = o') (k : aQ W0 N K e (pt b o' :: R)) : aQ W0 N K e A := by
 subst he; exact dP (r := pt) (b := b) k
theorem xY {C : List HP} {K : Act → World → Prop} [h : Tk kH 0 A (bG C) R] (k : aQ W0 N K e (C ++ R)) : aQ W0 N K e A := dP (r := kH) (b := 0) (xV k)
theorem m6 {E n sz : Nat} {ps : Array (Nat × Operand)} (hu : P.underlying t = some (.array n E)) (hs : ∀ w, (sizeOf E).run P w = .ok sz w) (hz : ∀ w, (zeroValue t).run P w = .ok (.agg l.toArray) w) (hp : ps = #[]) :
    cn P S N e (.build t ps) (.agg l.toArray) := fun a w _ _ _ _ _ hF _ => by
 subst hp
 have hb : Instr.build t ((#[] : Array (Nat × Operand)).map fun (i, x) => (i, a.eval x)) = (do
     let zero := (← zeroValue t).cells
     match ← underlying t with
     | .struct fields =>
       let places ← fields.mapM kF
       let some cells := Instr.fill (places[·]?) zero ((#[] : Array (Nat × Operand)).map fun (i, x) => (i, a.eval x)).toList | stuck "build: no such field, or a part of the wrong size"
       pure (.agg cells)
     | .array _ elem =>
       let size ← sizeOf elem
       let some cells := Instr.fill (fun i => some (i * size, size)) zero ((#[] : Array (Nat × Operand)).map fun (i, x) => (i, a.eval x)).toList | stuck "build: a part of the wrong size"
       pure (.agg cells)
     | _ => stuck "build: struct or array type expected") := rfl
 simp only [execOp, hb, Sem.run_bind, hz, dF hu, hs, Result.andThen_ok, Value.cells, Sem.run_pure]
 simp [Instr.fill]
def cq {α : Type} (S : World → Prop) (a : Option Addr) (sz : Nat) (f : α → List Value) (xs : List α) : Prop :=
  ∀ i x, xs[i]? = some x → ∃ b off, a = some ⟨b, off, none⟩ ∧ cJ S b (off + i * sz) (f x)
variable {α : Type} {sz : Nat} {f : α → List Value} {xs : List α} {a : Option Addr}
theorem pH : cq S a sz f [] := fun i x h => by simp at h
theorem cq.weak (h : cq (bI W0 B) a sz f xs) [k : Ent A B] : cq (bI W0 A) a sz f xs := fun i x hi => by
 obtain ⟨b, off, rfl, hc⟩ := h i x hi
 exact ⟨b, off, rfl, hc.weak⟩
theorem cq.at_ (h : cq S a sz f xs) {i : Nat} (hi : i < xs.length) : ∃ b off, a = some ⟨b, off, none⟩ ∧ cJ S b (off + i * sz) (f xs[i]) := h i xs[i] (by simp [hi])
theorem xZ {E n c : Nat} {ys : List Value} {w : World} [h : Tk (osl E sz) (.slice a n c) A ys R] (hf : ∀ x, (f x).length = sz) (hz : 0 < sz) (hy : ys = xs.flatMap f) (hO : Own W0 w A) : cq (bI W0 A) a sz f xs := by
 rcases (hO.tk (r := osl E sz) (b := .slice a n c)).osl with ⟨k1, k2, _⟩ | ⟨g, n', cap, sp, k1, _, _, _, _, _⟩
 have : xs = [] := by
  have hl := dm hf xs
  rw [← hy, k2] at hl
  rcases Nat.eq_zero_or_pos xs.length with q | q
  exact List.eq_nil_of_length_eq_zero q
  have := Nat.mul_pos q hz
  simp at hl; omega
 subst this; exact pH
 cases k1
 intro i x hi
 have hlt : i < xs.length := by
  rcases Nat.lt_or_ge i xs.length with k | k
  exact k
  rw [List.getElem?_eq_none k] at hi; cases hi
 have hx : x = xs[i] := by rw [List.getElem?_eq_getElem hlt] at hi; exact (Option.some.inj hi).symm
 subst hx
 refine ⟨g, 0, rfl, fun j v hj w' hO' => ?_⟩
 rcases (Own.tk (r := osl E sz) (b := .slice (some ⟨g, 0, none⟩) n c) hO').osl with ⟨q1, _, _⟩ | ⟨g', n'', cap', sp', q1, _, _, _, _, q6⟩
 cases q1
 cases q1
 have hb := q6.has.2
 have hjl : j < sz := by
  rcases Nat.lt_or_ge j (f xs[i]).length with q | q
  rw [hf] at q; exact q
  rw [List.getElem?_eq_none q] at hj; cases hj
 have hg := iY hf xs i j sp' hlt hjl
 subst hy
 rw [hj] at hg
 simp only [World.cell?, hb, Option.isSome_none, Bool.false_eq_true, if_false, List.getElem?_toArray, Nat.zero_add]
 exact hg
theorem jk {l : List Value} [h : Tk pt b A (aw l ty) R] (hf : ∀ x, (f x).length = sz) (hl : l = xs.flatMap f) : cq (bI W0 A) (some ⟨b, 0, none⟩) sz f xs := fun i x hi => by
 have hlt : i < xs.length := by
  rcases Nat.lt_or_ge i xs.length with k | k
  exact k
  rw [List.getElem?_eq_none k] at hi; cases hi
 have hx : x = xs[i] := by rw [List.getElem?_eq_getElem hlt] at hi; exact (Option.some.inj hi).symm
 subst hx
 refine ⟨b, 0, rfl, fun j v hj => aA (l := l) (ty := ty) (R := R) ?_⟩
 have hjl : j < sz := by
  rcases Nat.lt_or_ge j (f xs[i]).length with q | q
  rw [hf] at q; exact q
  rw [List.getElem?_eq_none q] at hj; cases hj
 have hg := iY hf xs i j [] hlt hjl
 rw [List.append_nil, hj] at hg
 subst hl
 rw [Nat.zero_add]; exact hg
theorem y0 {E n c : Nat} {ys : List Value} {K : Act → World → Prop} [h : Tk (osl E sz) (.slice a n c) A ys R] (f : α → List Value) (xs : List α) (hf : ∀ x, (f x).length = sz) (hz : 0 < sz) (hy : ys = xs.flatMap f) (k : cq (bI W0 A) a sz f xs → aQ W0 N K e A) : aQ W0 N K e A :=
  fun a w hF hO => k (xZ (h := h) hf hz hy hO) a w hF hO
def pI : Option Addr → Nat
 | some ad => ad.block
 | none => 0
def pJ (a : Option Addr) (ys : List Value) : Prop := (a = none ∧ ys = []) ∨ ∃ g, a = some ⟨g, 0, none⟩
theorem pK {E n c : Nat} {ys : List Value} {K : Act → World → Prop} [h : Tk (osl E sz) (.slice a n c) A ys R] (k : pJ a ys → aQ W0 N K e A) : aQ W0 N K e A := fun act w hF hO => by
 refine k ?_ act w hF hO
 rcases (hO.tk (r := osl E sz) (b := .slice a n c)).osl with ⟨k1, k2, _⟩ | ⟨g, n', cap, sp, k1, _, _, _, _, _⟩
 cases k1; exact .inl ⟨rfl, k2⟩
 cases k1; exact .inr ⟨g, rfl⟩
theorem t8 {E n c : Nat} {ys : List Value} [h : Tk (osl E sz) (.slice a n c) A ys R] : cJ (bI W0 A) (pI a) 0 ys := fun i v hi w hO => by
 rcases (Own.tk (r := osl E sz) (b := .slice a n c) hO).osl with ⟨k1, k2, _⟩ | ⟨g, n', cap, sp, k1, _, _, _, _, q⟩
 rw [k2] at hi; simp at hi
 cases k1
 have hb := q.has.2
 have hlt : i < ys.length := by
  rcases Nat.lt_or_ge i ys.length with k | k
  exact k
  rw [List.getElem?_eq_none k] at hi; cases hi
 simp only [pI, World.cell?, hb, Option.isSome_none, Bool.false_eq_true, if_false, List.getElem?_toArray, Nat.zero_add]
 rw [List.getElem?_append_left hlt]; exact hi
theorem y1 {ys : List Value} (hf : pJ a ys) (hc : cJ S (pI a) 0 ys) (hl : ∀ x, (f x).length = sz) (hy : ys = xs.flatMap f) (hz : 0 < sz) : cq S a sz f xs := fun i x hi => by
 have hlt : i < xs.length := by
  rcases Nat.lt_or_ge i xs.length with k | k
  exact k
  rw [List.getElem?_eq_none k] at hi; cases hi
 have hx : x = xs[i] := by rw [List.getElem?_eq_getElem hlt] at hi; exact (Option.some.inj hi).symm
 subst hx
 rcases hf with ⟨_, h0⟩ | ⟨g, rfl⟩
 have := dm hl xs
 rw [← hy, h0] at this
 have h2 := Nat.mul_pos (show 0 < xs.length by omega) hz
 simp at this; omega
 refine ⟨g, 0, rfl, fun j v hj => ?_⟩
 have hjl : j < sz := by
  rcases Nat.lt_or_ge j (f xs[i]).length with q | q
  rw [hl] at q; exact q
  rw [List.getElem?_eq_none q] at hj; cases hj
 have hg := iY hl xs i j [] hlt hjl
 rw [List.append_nil, hj, ← hy] at hg
 have := hc _ v hg
 rw [Nat.zero_add] at this ⊢
 exact this
theorem cq.all (h : cq S a sz f xs) (hne : xs ≠ []) (hf : ∀ x, (f x).length = sz) : ∃ b off, a = some ⟨b, off, none⟩ ∧ cJ S b off (xs.flatMap f) := by
 obtain ⟨b, off, rfl, h0⟩ := h.at_ (i := 0) (List.length_pos_iff.2 hne)
 refine ⟨b, off, rfl, fun j v hj => ?_⟩
 have hl := dm hf xs
 have hjl : j < xs.length * sz := by
  rcases Nat.lt_or_ge j (xs.flatMap f).length with q | q
  omega
  rw [List.getElem?_eq_none q] at hj; cases hj
 have hz : 0 < sz := by
  rcases Nat.eq_zero_or_pos sz with q | q
  subst q; simp at hjl
  exact q
 have hi : j / sz < xs.length := (Nat.div_lt_iff_lt_mul hz).2 hjl
 obtain ⟨b', off', he, hc⟩ := h.at_ hi
 cases he
 have hm : j / sz * sz + j % sz = j := by rw [Nat.mul_comm]; exact Nat.div_add_mod j sz
 have hg := iY hf xs (j / sz) (j % sz) [] hi (Nat.mod_lt _ hz)
 rw [List.append_nil, hm, hj] at hg
 have := hc (j % sz) v hg.symm
 rwa [Nat.add_assoc, hm] at this
end
def ei (x : Int) : List Value := [.int .i64 x]
def jl (T E : TypeId) (sz : Nat) {α : Type} (f : α → List Value) (o b : Nat) (x : List α × List Value) : HP := chk (fun C => o < x.2.length ∧ ∃ a c, C = [pt b (aw (x.2.set o (.slice a x.1.length c)) T), osl E sz (.slice a x.1.length c) (x.1.flatMap f)])
theorem hQ {l : List Value} {o : Nat} {v : Value} (h : o < l.length) : (l.set o v)[o]? = some v := by simp [h]
theorem set_set {l : List Value} {o : Nat} {v u : Value} : (l.set o v).set o u = l.set o u := List.set_set ..
section
variable {P : Program} {W0 : World} {N : FSz} {K : Act → World → Prop} {e : bK} {R A B R1 R2 : List HP} {T E : TypeId} {sz o b n : Nat} {α : Type} {f : α → List Value} {its : List α} {cs cs' : List Value} {fn : FuncId} {args : List Value} {Post : Value → List HP → Prop}
theorem pL (h : ∀ a c, o < cs.length → aC P W0 fn args (pt b (aw (cs.set o (.slice a its.length c)) T) :: osl E sz (.slice a its.length c) (its.flatMap f) :: R) Post) : aC P W0 fn args (jl T E sz f o b (its, cs) :: R) Post :=
  ng fun C hC => by obtain ⟨ho, a, c, rfl⟩ := hC; exact h a c ho
theorem pM {a : Option Addr} {c : Nat} {xs : List Value} [h1 : Tk pt b A (aw cs' T) R1] [h2 : Tk (osl E sz) (.slice a n c) R1 xs R2] (hx : xs = its.flatMap f) (hc : cs' = cs.set o (.slice a n c)) (ho : o < cs.length) (hn : n = its.length) [k : Ent R2 B] : Ent A (jl T E sz f o b (its, cs) :: B) := by
 subst hn; subst hc; subst hx
 exact (Ent.ofPerm (h1.perm.trans (h2.perm.cons _))).trans ((Ent.cons (Ent.cons k)).trans (eE (R := B) (C := [_, _]) ⟨ho, a, c, rfl⟩))
theorem pN (hf : ∀ x, (f x).length = sz) (h0 : its ≠ []) (hz : 0 < sz) (h : ∀ g c sp, o < cs.length → its.length ≤ c → c ≤ maxLen → (its.flatMap f ++ sp).length = c * sz → aC P W0 fn args (pt b (aw (cs.set o (.slice (some ⟨g, 0, none⟩) its.length c)) T) :: pt g (aw (its.flatMap f ++ sp) E) :: R) Post) : aC P W0 fn args (jl T E sz f o b (its, cs) :: R) Post :=
  pL fun a c ho => lR (List.Perm.swap _ _ _) (sq (fun h1 h2 => by
      have := dm hf its
      rw [h2] at this
      have h3 : its.length = 0 := by
        rcases Nat.mul_eq_zero.1 this.symm with k | k
        · exact k
        omega
      exact absurd (List.eq_nil_of_length_eq_zero h3) h0)
    (fun g n cap sp h1 h2 h3 h4 h5 => by
      cases h1
      exact lR (List.Perm.swap _ _ _) (h g _ sp ho h2 h3 h5)))
theorem nr {g c : Nat} {xs sp : List Value} [h1 : Tk pt b A (aw cs' T) R1] [h2 : Tk pt g R1 (aw (xs ++ sp) E) R2] (hf : ∀ x, (f x).length = sz) (hx : xs = its.flatMap f) (hcs : cs' = cs.set o (.slice (some ⟨g, 0, none⟩) n c)) (ho : o < cs.length) (hn : n = its.length) (hc : n ≤ c) (hm : c ≤ maxLen) (hl : (xs ++ sp).length = c * sz) [k : Ent R2 B] : Ent A (jl T E sz f o b (its, cs) :: B) := by
 subst hn; subst hx; subst hcs
 have e : Ent R1 (osl E sz (.slice (some ⟨g, 0, none⟩) its.length c) (its.flatMap f) :: B) := eP hc hm (dm hf its) hl
 exact (Ent.ofPerm h1.perm).trans ((Ent.cons e).trans (eE (R := B) (C := [_, _]) ⟨ho, _, c, rfl⟩))
theorem t9 [hk : Tk (jl T E sz f o) b A (its, cs) R] {i : Nat} {v : Value} (hi : i ≠ o) (h : cs[i]? = some v) : gA (bI W0 A) b i v := fun w (hO : Own W0 w A) => by
 obtain ⟨C, ⟨ho, a, c, rfl⟩, hO'⟩ := (hO.tk (r := jl T E sz f o) (b := b)).chk
 have h1 : Own W0 w (pt b (aw (cs.set o (.slice a its.length c)) T) :: (osl E sz (.slice a its.length c) (its.flatMap f) :: R)) := hO'
 have h2 : gA (bI W0 (pt b (aw (cs.set o (.slice a its.length c)) T) :: (osl E sz (.slice a its.length c) (its.flatMap f) :: R))) b i v := aA (by rw [List.getElem?_set_ne (by omega)]; exact h)
 exact h2 w h1
theorem tc [hk : Tk (jl T E sz f o) b A (its, cs) R] {i : Nat} {v : Value} (hi : i ≠ o) (h : cs[i]? = some v) : cJ (bI W0 A) b i [v] := fun j u hj => by
 match j, hj with
 | 0, hj => rw [← Option.some.inj hj]; exact t9 (o := o) (f := f) (T := T) (E := E) (sz := sz) hi h
 | j + 1, hj => cases hj
end
theorem y2 {α : Type} (f : α → Value) (l : List α) : (l.flatMap fun x => [f x]) = l.map f := by
 induction l with
 | nil => rfl
 | cons x l ih => rw [List.flatMap_cons, ih]; rfl
theorem y3 {α : Type} {f : α → List Value} {k : Nat} (hf : ∀ x, (f x).length = k) (its : List α) (sp : List Value) (i : Nat) (hi : i < its.length) : i * k + k ≤ (its.flatMap f ++ sp).length := by
 have := Nat.mul_le_mul_right k (show i + 1 ≤ its.length by omega)
 rw [Nat.succ_mul] at this
 rw [List.length_append, dm hf]; omega
structure HpO (W0 : World) (α : Type) [Hk α] where
  T : TypeId
  p : Value
  el : α → Value
  H : List α → HP
  fL : FuncId
  fE : FuncId
  fS : FuncId
  fU : FuncId
  fO : FuncId
  mL : ∀ w, (method (Tryz.prog.types.size + Made.depth) T p "Len").run Tryz.prog w = .ok (fL, p) w
  mE : ∀ w, (method (Tryz.prog.types.size + Made.depth) T p "Less").run Tryz.prog w = .ok (fE, p) w
  mS : ∀ w, (method (Tryz.prog.types.size + Made.depth) T p "Swap").run Tryz.prog w = .ok (fS, p) w
  mU : ∀ w, (method (Tryz.prog.types.size + Made.depth) T p "Push").run Tryz.prog w = .ok (fU, p) w
  mO : ∀ w, (method (Tryz.prog.types.size + Made.depth) T p "Pop").run Tryz.prog w = .ok (fO, p) w
  cL : ∀ args w, (callFunc fL args).run Tryz.prog w = .ok (.enter fL args) w
  cE : ∀ args w, (callFunc fE args).run Tryz.prog w = .ok (.enter fE args) w
  cS : ∀ args w, (callFunc fS args).run Tryz.prog w = .ok (.enter fS args) w
  cU : ∀ args w, (callFunc fU args).run Tryz.prog w = .ok (.enter fU args) w
  cO : ∀ args w, (callFunc fO args).run Tryz.prog w = .ok (.enter fO args) w
  sL : ∀ R l, aC Tryz.prog W0 fL [p] (kH 0 (H l) :: R) (fun v B => v = .int .i64 (l.length : Nat) ∧ B = kH 0 (H l) :: R)
  sE : ∀ R l (i j : Nat), i < l.length → j < l.length → aC Tryz.prog W0 fE [p, .int .i64 i, .int .i64 j] (kH 0 (H l) :: R) (fun v B => v = .bool (decide (Hp.us l i < Hp.us l j)) ∧ B = kH 0 (H l) :: R)
  sS : ∀ R l (i j : Nat), i < l.length → j < l.length → aC Tryz.prog W0 fS [p, .int .i64 i, .int .i64 j] (kH 0 (H l) :: R) (fun v B => v = .tuple #[] ∧ B = kH 0 (H (Hp.swapL l i j)) :: R)
  sU : ∀ R l x, l.length < 1000 → aC Tryz.prog W0 fU [p, el x] (kH 0 (H l) :: R) (fun v B => v = .tuple #[] ∧ B = kH 0 (H (l ++ [x])) :: R)
  sO : ∀ R l x, aC Tryz.prog W0 fO [p] (kH 0 (H (l ++ [x])) :: R) (fun v B => v = el x ∧ B = kH 0 (H l) :: R)
namespace Hp
variable {W0 : World} {α : Type} [Hk α] (o : HpO W0 α)
def iv : Value := .iface o.T o.p
theorem pO {j : Nat} (h : j < 1000) : IntKind.wrap .i64 (Int.tdiv ((j : Int) - 1) 2) = (((j - 1) / 2 : Nat) : Int) := by
 by_cases h0 : j = 0
 subst h0; decide
 obtain ⟨k, rfl⟩ : ∃ k, j = k + 1 := ⟨j - 1, by omega⟩
 have e : ((k + 1 : Nat) : Int) - 1 = (k : Int) := by omega
 rw [e, Int.tdiv_eq_ediv_of_nonneg (by omega), aW (by omega)]; simp
theorem pP (R : List HP) (its : List α) (j n : Nat) (hn : n ≤ its.length) (hN : n < 1000) (hj : j < n) (hU : Up its j n) :
    aC Tryz.prog W0 293 [iv o, .int .i64 j] (kH 0 (o.H its) :: R) (fun v B => v = .tuple #[] ∧ ∃ its', B = kH 0 (o.H its') :: R ∧ its'.Perm its ∧ Heap its' n ∧ ∀ x, n ≤ x → its'.getD x default = its.getD x default) := by
 refine aF func293 ntmps293 rfl rfl ?_
 refine b0 ?_
 refine cC (fun X : List α × Nat => X.1.Perm its ∧ X.2 < n ∧ Up X.1 X.2 n ∧ ∀ x, n ≤ x → X.1.getD x default = its.getD x default) (fun X => [(0, iv o), (1, .int .i64 X.2)]) (fun X => kH 0 (o.H X.1) :: R) (fun X => X.2) (its, j) ?_ ?_ ?_ ?_
 exact ⟨List.Perm.refl _, hj, hU, fun _ _ => rfl⟩
 · repeat (first | exact aX | refine aU rfl ?_)
 exact inferInstance
 intro ⟨l, j⟩ ⟨hp, hj, hU, ht⟩
 have hlen := hp.length_eq
 simp only at hj hU ht hp hlen ⊢
 refine b0 (ae (ah (aa rfl (ac rfl) ?_)))
 refine aa rfl (dW rfl rfl (by first | exact aW (by omega) | rfl)) ?_
 refine aa rfl (s7 rfl rfl (by decide) (pO (by omega))) ?_
 refine aa rfl (ai rfl) (ag (ab (ae (ae (ah (aa rfl (ac rfl) (aa rfl (ac rfl) (aa rfl (cz rfl rfl) (aa rfl (ac rfl) ?_)))))))))
 refine bA rfl rfl rfl ?_ ?_
 intro g1_4
 refine al rfl rfl rfl rfl (al rfl rfl rfl rfl (al rfl rfl rfl rfl (al rfl rfl rfl rfl (aa rfl (aT rfl rfl) (ag (ab (bR rfl (bX (bi (eK rfl (bi (bZ (au (.inr rfl) .nil ?_)))))))))))))
 exact ⟨_, ⟨rfl, l, rfl, hp, m0 hU (by intro _; first | omega | (simp at c1; omega)), ht⟩, inferInstance⟩
 intro g1_4
 refine aa rfl (ac rfl) (ar rfl rfl (aa rfl (ac rfl) (ar rfl rfl (aa rfl (ac rfl) (ar rfl rfl ?_)))))
 refine am rfl (f9 rfl o.mE o.cE rfl (o.sE _ l j ((j - 1) / 2) (by omega) (by omega))) ?_
 rintro _ B_ ⟨rfl, hB_⟩
 obtain rfl := hB_.symm
 refine ar rfl rfl (aa rfl (bN rfl) (aa rfl (aJ rfl rfl) (ag (ab ?_))))
 refine ax rfl ?_ ?_
 intro c1
 refine bX (bi (eK rfl (bi (bZ (au (.inr rfl) .nil ?_)))))
 exact ⟨_, ⟨rfl, l, rfl, hp, m0 hU (by intro _; first | omega | (simp at c1; omega)), ht⟩, inferInstance⟩
 intro c1
 replace c1 : us l j < us l ((j - 1) / 2) := by simpa using c1
 refine aB (ab (ae (ah (aa rfl (ac rfl) (aa rfl (ac rfl) (aa rfl (ac rfl) ?_))))))
 refine am rfl (f9 rfl o.mS o.cS rfl (o.sS _ l ((j - 1) / 2) j (by omega) (by omega))) ?_
 rintro _ B_ ⟨rfl, hB_⟩
 obtain rfl := hB_.symm
 refine ag (ab (ah (aa rfl (ac rfl) (aa rfl (ai rfl) (ag (bF (ab ?_)))))))
 refine cp (swapL l ((j - 1) / 2) j, (j - 1) / 2) ?_ ?_ ?_ ?_
 exact ⟨(jS (by omega) (by omega)).trans hp, by show (j - 1) / 2 < n; omega, pz hU (by omega) hj (by omega) c1, m5 (by omega) hj (by omega) ht⟩
 show (j - 1) / 2 < j; omega
 · repeat (first | exact aX | refine aU rfl ?_)
 exact inferInstance
theorem pQ (R : List HP) (its : List α) (i0 n : Nat) (hn : n ≤ its.length) (hN : n < 1000) (hi : i0 ≤ n) (hH : gj its i0 n) :
    aC Tryz.prog W0 361 [iv o, .int .i64 i0, .int .i64 n] (kH 0 (o.H its) :: R) (fun v B => ∃ l m, v = .bool m ∧ B = kH 0 (o.H l) :: R ∧ Down its l i0 n m) := by
 refine aF func361 ntmps361 rfl rfl ?_
 refine ae (ah (aa rfl (ai rfl) (ag (ab (ae (ah (aa rfl (ac rfl) (aa rfl (ai rfl) (ag (ab (ae (b0 ?_))))))))))))
 refine cC (fun X : List α × Nat => X.1.Perm its ∧ i0 ≤ X.2 ∧ gj X.1 X.2 n ∧ (∀ x, n ≤ x → X.1.getD x default = its.getD x default) ∧ (X.2 = i0 → X.1 = its) ∧ (i0 < X.2 → us X.1 ((X.2 - 1) / 2) ≤ us X.1 X.2) ∧ X.2 ≤ n) (fun X => [(0, iv o), (1, .int .i64 i0), (2, .int .i64 n), (7, .int .i64 X.2)]) (fun X => kH 0 (o.H X.1) :: R) (fun X => n - X.2) (its, i0) ?_ ?_ ?_ ?_
 exact ⟨List.Perm.refl _, Nat.le_refl _, hH, fun _ _ => rfl, fun _ => rfl, fun h => absurd h (Nat.lt_irrefl _), hi⟩
 · repeat (first | exact aX | refine aU rfl ?_)
 exact inferInstance
 intro ⟨l, i⟩ ⟨hp, hi0, hl, ht, he, hg, hin⟩
 have hlen := hp.length_eq
 simp only at hp hi0 hl ht he hg hin hlen ⊢
 refine b0 (ae (ah (aa rfl (ac rfl) ?_)))
 refine aa rfl (iq rfl rfl (by first | exact aW (by omega) | rfl)) ?_
 refine aa rfl (bC rfl rfl (by rw [aW (by omega)]; omega : IntKind.wrap .i64 (2 * (i : Int) + 1) = ((2 * i + 1 : Nat) : Int))) ?_
 refine aa rfl (ai rfl) (ag (ab (ae (ae (ah (aa rfl (ac rfl) (aa rfl (ac rfl) (aa rfl (cF rfl rfl) (aa rfl (ac rfl) ?_)))))))))
 refine bA rfl rfl rfl ?_ ?_
 intro g3_4
 refine al rfl rfl rfl rfl (aa rfl (aT rfl rfl) (ag (ab (bR rfl (bX (bi (eK rfl (bi (bZ (ab (ae (ah (aa rfl (ac rfl) (aa rfl (ac rfl) (aa rfl (cd rfl rfl) (aa rfl (ai rfl) (ag (ab (av (au (.inl rfl) (.cons (ak rfl) .nil) ?_))))))))))))))))))))
 refine ⟨_, ⟨l, decide (i0 < i), by simp [cA], rfl, m4 hp hi0 hl ht he hg ?_⟩, inferInstance⟩
 first | (intro c hc h0 h1; exfalso; omega) | (intro c hc h0 h1; have := hmin c hc h0 h1; simp at c8; omega)
 intro g3_4
 refine aa rfl (ac rfl) (ar rfl rfl (aa rfl (aY rfl rfl) (aa rfl (aJ rfl rfl) (ag (ab ?_)))))
 refine ax rfl ?_ ?_
 intro c3
 omega
 intro c3
 refine aB (ab (ae (ah (aa rfl (ac rfl) (aa rfl (ai rfl) (ag (ab ?_)))))))
 refine gM (fun j : Nat => (j - 1) / 2 = i ∧ 0 < j ∧ j < n ∧ ∀ c, c < n → 0 < c → (c - 1) / 2 = i → us l j ≤ us l c) (fun j => [(0, iv o), (1, .int .i64 i0), (2, .int .i64 n), (7, .int .i64 i), (9, .int .i64 j)]) (fun j => kH 0 (o.H l) :: R) ?_ ?_
 skip
 refine ae (ah (aa rfl (ac rfl) ?_))
 refine aa rfl (bC rfl rfl (by rw [aW (by omega)]; omega : IntKind.wrap .i64 (((2 * i + 1 : Nat) : Int) + 1) = ((2 * i + 2 : Nat) : Int))) ?_
 refine aa rfl (ai rfl) (ag (ab (ae (ah (aa rfl (ac rfl) (aa rfl (ac rfl) (aa rfl (aY rfl rfl) (aa rfl (ac rfl) ?_))))))))
 refine cG rfl rfl rfl ?_ ?_
 intro g6_4
 refine aa rfl (ac rfl) (ar rfl rfl (aa rfl (ac rfl) (ar rfl rfl (aa rfl (ac rfl) (ar rfl rfl ?_)))))
 refine am rfl (f9 rfl o.mE o.cE rfl (o.sE _ l (2 * i + 2) (2 * i + 1) (by omega) (by omega))) ?_
 rintro _ B_ ⟨rfl, hB_⟩
 obtain rfl := hB_.symm
 refine aa rfl (aT rfl rfl) (ag (ab ?_))
 refine ax rfl ?_ ?_
 intro c6
 refine ah (aa rfl (ac rfl) (aa rfl (ai rfl) (ag (ab ?_))))
 refine dK (2 * i + 2) ?_ ?_ ?_
 refine ⟨by omega, by omega, by omega, fun c hc h0 h1 => ?_⟩
 have : c = 2 * i + 1 ∨ c = 2 * i + 2 := by omega
 rcases this with rfl | rfl <;> (first | omega | (simp at c6; omega) | (simp at c3; omega))
 · repeat (first | exact aX | refine aU rfl ?_)
 exact inferInstance
 intro c6
 refine aB (ab ?_)
 refine dK (2 * i + 1) ?_ ?_ ?_
 refine ⟨by omega, by omega, by omega, fun c hc h0 h1 => ?_⟩
 have : c = 2 * i + 1 ∨ c = 2 * i + 2 := by omega
 rcases this with rfl | rfl <;> (first | omega | (simp at c6; omega) | (simp at c3; omega))
 · repeat (first | exact aX | refine aU rfl ?_)
 exact inferInstance
 intro g6_4
 refine al rfl rfl rfl rfl (al rfl rfl rfl rfl (al rfl rfl rfl rfl (aa rfl (aJ rfl rfl) (ag (ab (eL rfl (aB (ab ?_))))))))
 refine dK (2 * i + 1) ?_ ?_ ?_
 refine ⟨by omega, by omega, by omega, fun c hc h0 h1 => ?_⟩
 have : c = 2 * i + 1 ∨ c = 2 * i + 2 := by omega
 rcases this with rfl | rfl <;> (first | omega | (simp at c6; omega) | (simp at c3; omega))
 · repeat (first | exact aX | refine aU rfl ?_)
 exact inferInstance
 intro j ⟨hj, hj0, hjn, hmin⟩
 refine ae (ae (ah (aa rfl (ac rfl) (aa rfl (ac rfl) (aa rfl (ac rfl) ?_)))))
 refine am rfl (f9 rfl o.mE o.cE rfl (o.sE _ l j i (by omega) (by omega))) ?_
 rintro _ B_ ⟨rfl, hB_⟩
 obtain rfl := hB_.symm
 refine aa rfl (bN rfl) (ag (ab ?_))
 refine ax rfl ?_ ?_
 intro c8
 refine bX (bi (eK rfl (bi (bZ (ab (ae (ah (aa rfl (ac rfl) (aa rfl (ac rfl) (aa rfl (cd rfl rfl) (aa rfl (ai rfl) (ag (ab (av (au (.inl rfl) (.cons (ak rfl) .nil) ?_)))))))))))))))
 refine ⟨_, ⟨l, decide (i0 < i), by simp [cA], rfl, m4 hp hi0 hl ht he hg ?_⟩, inferInstance⟩
 first | (intro c hc h0 h1; exfalso; omega) | (intro c hc h0 h1; have := hmin c hc h0 h1; simp at c8; omega)
 intro c8
 replace c8 : us l j < us l i := by simpa using c8
 refine aB (ab (ae (ah (aa rfl (ac rfl) (aa rfl (ac rfl) (aa rfl (ac rfl) ?_))))))
 refine am rfl (f9 rfl o.mS o.cS rfl (o.sS _ l i j (by omega) (by omega))) ?_
 rintro _ B_ ⟨rfl, hB_⟩
 obtain rfl := hB_.symm
 refine ag (ab (ah (aa rfl (ac rfl) (aa rfl (ai rfl) (ag (bF (ab ?_)))))))
 refine cp (swapL l i j, j) ?_ ?_ ?_ ?_
 have hs := py hl (by omega) hjn hj hj0 c8 hmin
 exact ⟨(jS (by omega) (by omega)).trans hp, by show i0 ≤ j; omega, hs.1, m5 (by omega) hjn (by omega) ht, by show j = i0 → _; omega, fun _ => hs.2, by show j ≤ n; omega⟩
 show n - j < n - i; omega
 · repeat (first | exact aX | refine aU rfl ?_)
 exact inferInstance
theorem pR {its : List α} {x : α} (h : Heap its its.length) : Up (its ++ [x]) its.length (its.length + 1) := by
 have e : ∀ c, c < its.length → us (its ++ [x]) c = us its c := fun c hc => by
  unfold us; simp only [List.getD_eq_getElem?_getD]; rw [List.getElem?_append_left hc]
 intro c hc h0
 refine ⟨fun h1 => ?_, fun h1 h2 => by omega⟩
 rw [e c (by omega), e _ (by omega)]; exact h c (by omega) h0
theorem heapPush_spec (R : List HP) (its : List α) (x : α) (hN : its.length < 900) (hh : Heap its its.length) :
    aC Tryz.prog W0 176 [iv o, o.el x] (kH 0 (o.H its) :: R) (fun v B => v = .tuple #[] ∧ ∃ its', B = kH 0 (o.H its') :: R ∧ its'.Perm (its ++ [x]) ∧ Heap its' its'.length) := by
 have hl : (its ++ [x]).length = its.length + 1 := by simp
 refine aF func176 ntmps176 rfl rfl ?_
 refine ae (ah (aa rfl (ac rfl) (aa rfl (ac rfl) ?_)))
 refine am rfl (f9 rfl o.mU o.cU rfl (o.sU _ its x (by omega))) ?_
 rintro _ B_ ⟨rfl, hB_⟩
 obtain rfl := hB_.symm
 refine ag (ab (ah (aa rfl (ac rfl) (aa rfl (ac rfl) (am rfl (f9 rfl o.mL o.cL rfl (o.sL _ (its ++ [x]))) ?_)))))
 rintro _ B_ ⟨rfl, hB_⟩
 obtain rfl := hB_.symm
 refine aa rfl (dW rfl rfl (by rw [aW (by omega)]; omega : IntKind.wrap .i64 (((its ++ [x]).length : Nat) - 1 : Int) = ((its.length : Nat) : Int))) ?_
 refine am rfl (bz call293 rfl (pP o _ (its ++ [x]) its.length (its.length + 1) (by omega) (by omega) (by omega) (pR hh))) ?_
 rintro _ _ ⟨rfl, l', rfl, hp, hh', _⟩
 refine ag (au (.inr rfl) .nil ?_)
 exact ⟨_, ⟨rfl, l', rfl, hp, by rw [hp.length_eq, hl]; exact hh'⟩, inferInstance⟩
theorem pS {l : List α} {n : Nat} (h : l.length = n + 1) : ∃ l' x, l = l' ++ [x] ∧ l'.length = n ∧ x = l.getD n default := by
 have hne : l ≠ [] := fun e => by rw [e] at h; simp at h
 refine ⟨l.dropLast, l.getLast hne, (List.dropLast_concat_getLast hne).symm, by simp [h], ?_⟩
 rw [List.getLast_eq_getElem]
 simp [List.getD, h]
theorem pT {l : List α} {x : α} {n : Nat} (h : Heap (l ++ [x]) n) (hn : n ≤ l.length) : Heap l n :=
  pB (fun i hi => by simp only [List.getD_eq_getElem?_getD]; rw [List.getElem?_append_left (by omega)]) h
theorem heapPop_spec (R : List HP) (its : List α) (hN : its.length < 900) (h0 : its ≠ []) (hh : Heap its its.length) :
    aC Tryz.prog W0 300 [iv o] (kH 0 (o.H its) :: R) (fun v B => ∃ x its', v = o.el x ∧ B = kH 0 (o.H its') :: R ∧ (its' ++ [x]).Perm its ∧ Heap its' its'.length ∧ ∀ y ∈ its, Hk.ky x ≤ Hk.ky y) := by
 obtain ⟨n, hn⟩ : ∃ n, its.length = n + 1 := ⟨its.length - 1, by have := List.length_pos_iff.2 h0; omega⟩
 have hs : gj (swapL its 0 n) 0 n := fun c hc h0 => ⟨fun h1 h2 => by
  rw [j5 (by omega) (by omega), j5 (by omega) (by omega), if_neg h2, if_neg h1, if_neg (by omega), if_neg (by omega)]
  exact hh c (by omega) h0, fun _ h => by omega⟩
 have hsl := pw its 0 n
 refine aF func300 ntmps300 rfl rfl ?_
 refine ae (ah (aa rfl (ai rfl) (ag (ab (ae (ah (aa rfl (ac rfl) (am rfl (f9 rfl o.mL o.cL rfl (o.sL _ its)) ?_))))))))
 rintro _ B_ ⟨rfl, hB_⟩
 obtain rfl := hB_.symm
 refine aa rfl (dW rfl rfl (by rw [aW (by omega)]; omega : IntKind.wrap .i64 ((its.length : Nat) - 1 : Int) = ((n : Nat) : Int))) ?_
 refine aa rfl (ai rfl) (ag (ab (ae (ah (aa rfl (ac rfl) (aa rfl (ac rfl) ?_))))))
 refine am rfl (f9 rfl o.mS o.cS rfl (o.sS _ its 0 n (by omega) (by omega))) ?_
 rintro _ B_ ⟨rfl, hB_⟩
 obtain rfl := hB_.symm
 refine ag (ab (ae (ah (aa rfl (ac rfl) (aa rfl (ac rfl) ?_)))))
 refine am rfl (bz call361 rfl (pQ o _ (swapL its 0 n) 0 n (by omega) (by omega) (by omega) hs)) ?_
 rintro _ _ ⟨l, m, rfl, rfl, hD⟩
 have hll := hD.perm.length_eq
 obtain ⟨l', x, rfl, hl', hx⟩ := pS (l := l) (n := n) (by omega)
 have hx0 : x = its.getD 0 default := by
  rw [hx, hD.tail n (Nat.le_refl _), jR (by omega) (by omega)]; split
  rename_i e; subst e; rfl
  rw [if_pos rfl]
 have hp : (l' ++ [x]).Perm its := hD.perm.trans (jS (by omega) (by omega))
 have hH : Heap (l' ++ [x]) n := by
  cases m with
  | true => exact hD.yes rfl
  | false =>
   obtain ⟨e, hmin⟩ := hD.no rfl
   rw [e]; exact lZ hs hmin (fun h => absurd h (by omega))
 refine ag (ab (ae (ah (aa rfl (ac rfl) (am rfl (f9 rfl o.mO o.cO rfl (o.sO _ l' x)) ?_)))))
 rintro _ B_ ⟨rfl, hB_⟩
 obtain rfl := hB_.symm
 refine aa rfl (ai rfl) (ag (ab (av (au (.inl rfl) (.cons (ak rfl) .nil) ?_))))
 refine ⟨_, ⟨x, l', rfl, rfl, hp, by rw [hl']; exact pT hH (by omega), fun y hy => ?_⟩, inferInstance⟩
 obtain ⟨c, hc, rfl⟩ := List.mem_iff_getElem.1 hy
 have := pA hh c hc
 rw [pu hc] at this
 rw [hx0]; exact this
end Hp
theorem ns {a : Nat} (h : a < 9223372036854775808) : (BitVec.ofInt 64 (a : Int)).toNat = a := by
 rw [BitVec.toNat_ofInt]; omega
theorem td {a b : Nat} (ha : a < 9223372036854775808) (hb : b < 9223372036854775808) : oU .i64 a b = ((a &&& b : Nat) : Int) := by
 have h : a &&& b < 9223372036854775808 := Nat.lt_of_le_of_lt Nat.and_le_left ha
 show IntKind.wrap .i64 ((BitVec.ofInt 64 (a : Int) &&& BitVec.ofInt 64 (b : Int)).toNat : Int) = _
 rw [BitVec.toNat_and, ns ha, ns hb, aW (by omega)]
theorem y4 {a b : Nat} (ha : a < 9223372036854775808) (hb : b < 9223372036854775808) : oV .i64 a b = ((a - (a &&& b) : Nat) : Int) := by
 have hle : a &&& b ≤ a := Nat.and_le_left
 generalize hx : BitVec.ofInt 64 (a : Int) = x
 generalize hy : BitVec.ofInt 64 (b : Int) = y
 have ex : x.toNat = a := by rw [← hx]; exact ns ha
 have ey : y.toNat = b := by rw [← hy]; exact ns hb
 have e : (x &&& ~~~ y).toNat = a - (a &&& b) := by
  have hz : (x &&& ~~~ y) &&& (x &&& y) = 0#64 := by
   ext i hi
   simp only [BitVec.getElem_and, BitVec.getElem_not, BitVec.getElem_zero]
   cases x[i] <;> cases y[i] <;> rfl
  have h1 : (x &&& ~~~ y) + (x &&& y) = x := by
   rw [BitVec.add_eq_or_of_and_eq_zero _ _ hz]
   ext i hi
   simp only [BitVec.getElem_or, BitVec.getElem_and, BitVec.getElem_not]
   cases x[i] <;> cases y[i] <;> rfl
  have h2 := congrArg BitVec.toNat h1
  rw [BitVec.toNat_add_of_and_eq_zero hz, BitVec.toNat_and x y, ex, ey] at h2
  omega
 show IntKind.wrap .i64 ((BitVec.ofInt 64 (a : Int) &&& ~~~ BitVec.ofInt 64 (b : Int)).toNat : Int) = _
 rw [hx, hy, e, aW (by omega)]
def dw (l : Int) : Bool := decide (0 ≤ l ∧ l < 256)
theorem iw {l : Int} : dw l = true ↔ 0 ≤ l ∧ l < 256 := by simp [dw]
def hX (a b : Int) : Bool := dw a && dw b && decide (a.toNat - (a.toNat &&& b.toNat) = 0)
theorem nt {a b : Int} (h : ¬ (dw a = true ∧ dw b = true)) : hX a b = false := by
 rw [← Bool.not_eq_true]; intro q
 simp only [hX, Bool.and_eq_true] at q
 exact h q.1
theorem te {a b : Nat} (ha : a < 256) : a - (a &&& b) = 0 ↔ ∀ c, c < 8 → a.testBit c = true → b.testBit c = true := by
 have hle : a &&& b ≤ a := Nat.and_le_left
 constructor
 intro h c _ hc
 have e : a &&& b = a := by omega
 have := congrArg (fun n => n.testBit c) e
 simp only [Nat.testBit_and, hc, Bool.true_and] at this
 exact this
 intro h
 have e : a &&& b = a := by
  apply Nat.eq_of_testBit_eq
  intro i
  rw [Nat.testBit_and]
  by_cases hi : i < 8
  cases ha' : a.testBit i with
  | false => rfl
  | true => rw [h i hi ha']; rfl
  have : a.testBit i = false := Nat.testBit_lt_two_pow (Nat.lt_of_lt_of_le ha (Nat.pow_le_pow_right (n := 2) (by decide) (show 8 ≤ i by omega)))
  rw [this]; rfl
 omega
theorem nu {W0 : World} {R : List HP} (l : Int) : aC Tryz.prog W0 264 [.int .i64 l] R (fun v B => v = .bool (dw l) ∧ B = R) := by
 refine aF func264 ntmps264 rfl rfl ?_
 refine ae (ah (aa rfl (ai rfl) (ag (ab (ae (ah (aa rfl (ac rfl) (aa rfl (cF rfl rfl) (aa rfl (ac rfl) ?_)))))))))
 refine cG rfl rfl rfl ?_ ?_
 intro g1_3
 refine aa rfl (ac rfl) (ar rfl rfl (aa rfl (jH rfl rfl) (aa rfl (aT rfl rfl) (aa rfl (ai rfl) (ag (ab (av (au (.inl rfl) (.cons (ak rfl) .nil) ?_))))))))
 refine ⟨_, ⟨?_, rfl⟩, inferInstance⟩
 refine congrArg Value.bool ?_
 rw [Bool.eq_iff_iff]; simp only [dw, decide_eq_true_eq, Bool.false_eq_true, false_iff]; omega
 intro g1_3
 refine al rfl rfl rfl rfl (aa rfl (aJ rfl rfl) (aa rfl (ai rfl) (ag (ab (av (au (.inl rfl) (.cons (ak rfl) .nil) ?_))))))
 refine ⟨_, ⟨?_, rfl⟩, inferInstance⟩
 refine congrArg Value.bool ?_
 rw [Bool.eq_iff_iff]; simp only [dw, decide_eq_true_eq, Bool.false_eq_true, false_iff]; omega
theorem y5 {W0 : World} {R : List HP} (a b : Int) : aC Tryz.prog W0 254 [.int .i64 a, .int .i64 b] R (fun v B => v = .bool (hX a b) ∧ B = R) := by
 refine aF func254 ntmps254 rfl rfl ?_
 refine ae (ah (aa rfl (ai rfl) (ag (ab (ae (ah (aa rfl (ac rfl) (am rfl (aS ru rfl (nu a)) ?_))))))))
 rintro _ B_ ⟨rfl, hB_⟩
 obtain rfl := hB_.symm
 refine aa rfl (ac rfl) ?_
 refine cG rfl rfl rfl ?_ ?_
 intro g1_3
 refine aa rfl (ac rfl) (ar rfl rfl (am rfl (aS ru rfl (nu b)) ?_))
 rintro _ B_ ⟨rfl, hB_⟩
 obtain rfl := hB_.symm
 refine aa rfl (aT rfl rfl) (aa rfl (ac rfl) ?_)
 refine cG rfl rfl rfl ?_ ?_
 intro g1_7
 obtain ⟨x, rfl, hx⟩ : ∃ x : Nat, a = (x : Int) ∧ x < 256 := ⟨a.toNat, by have := iw.1 g1_3; omega, by have := iw.1 g1_3; omega⟩
 obtain ⟨y, rfl, hy⟩ : ∃ y : Nat, b = (y : Int) ∧ y < 256 := ⟨b.toNat, by have := iw.1 g1_7; omega, by have := iw.1 g1_7; omega⟩
 refine aa rfl (ac rfl) (ar rfl rfl (aa rfl (ac rfl) (ar rfl rfl ?_)))
 refine aa rfl (wH rfl rfl (y4 (by omega) (by omega))) ?_
 refine ar rfl rfl (aa rfl (cz rfl rfl) (aa rfl (aT rfl rfl) (aa rfl (ai rfl) (ag (ab (av (au (.inl rfl) (.cons (ak rfl) .nil) ?_)))))))
 refine ⟨_, ⟨?_, rfl⟩, inferInstance⟩
 first
   | (rw [hno]; rfl)
   | (refine congrArg Value.bool ?_
      rw [Bool.eq_iff_iff, beq_iff_eq, hX, g1_3, g1_7, Int.toNat_natCast, Int.toNat_natCast]
      simp only [Bool.and_self, Bool.true_and, decide_eq_true_iff]
      omega)
 intro g1_7
 have hno := nt (a := a) (b := b) (fun q => g1_7 q.2)
 refine al rfl rfl rfl rfl (al rfl rfl rfl rfl (al rfl rfl rfl rfl (aa rfl (aJ rfl rfl) (aa rfl (ai rfl) (ag (ab (av (au (.inl rfl) (.cons (ak rfl) .nil) ?_))))))))
 refine ⟨_, ⟨?_, rfl⟩, inferInstance⟩
 first
   | (rw [hno]; rfl)
   | (refine congrArg Value.bool ?_
      rw [Bool.eq_iff_iff, beq_iff_eq, hX, g1_3, g1_7, Int.toNat_natCast, Int.toNat_natCast]
      simp only [Bool.and_self, Bool.true_and, decide_eq_true_iff]
      omega)
 intro g1_3
 have hno := nt (a := a) (b := b) (fun q => g1_3 q.1)
 refine al rfl rfl rfl rfl (aa rfl (aJ rfl rfl) (aa rfl (ac rfl) (al rfl rfl rfl rfl (al rfl rfl rfl rfl (al rfl rfl rfl rfl (al rfl rfl rfl rfl (aa rfl (aJ rfl rfl) (aa rfl (ai rfl) (ag (ab (av (au (.inl rfl) (.cons (ak rfl) .nil) ?_))))))))))))
 refine ⟨_, ⟨?_, rfl⟩, inferInstance⟩
 first
   | (rw [hno]; rfl)
   | (refine congrArg Value.bool ?_
      rw [Bool.eq_iff_iff, beq_iff_eq, hX, g1_3, g1_7, Int.toNat_natCast, Int.toNat_natCast]
      simp only [Bool.and_self, Bool.true_and, decide_eq_true_iff]
      omega)
theorem tf {W0 : World} {R : List HP} (l : Int) : aC Tryz.prog W0 126 [.int .i64 l] R (fun v B => ∃ n : Int, v = .int .i64 n ∧ (decide (n < 0) = !dw l) ∧ B = R) := by
 refine aF func126 ntmps126 rfl rfl ?_
 refine ae (ah (aa rfl (ai rfl) (ag (ab (ae (ae (ah (aa rfl (ac rfl) (am rfl (aS ru rfl (nu l)) ?_)))))))))
 rintro _ B_ ⟨rfl, hB_⟩
 obtain rfl := hB_.symm
 refine aa rfl (bN rfl) (ag (ab ?_))
 refine ax rfl ?_ ?_
 intro c1
 refine ae (ah (aa rfl (ai rfl) (ag (ab (av (aD (au (.inl rfl) (.cons (ak rfl) .nil) ?_)))))))
 have h : dw l = false := by simpa using c1
 exact ⟨_, ⟨-1, rfl, by rw [h]; rfl, rfl⟩, inferInstance⟩
 intro c1
 have hl : dw l = true := Decidable.not_not.1 c1
 obtain ⟨x, rfl, hx⟩ : ∃ x : Nat, l = (x : Int) ∧ x < 256 := ⟨l.toNat, by have := iw.1 hl; omega, by have := iw.1 hl; omega⟩
 refine aB (ab (ae (ah (aa rfl (ai rfl) (ag (ab (ae (b0 ?_))))))))
 refine cC (fun X : Nat × Nat => X.1 + X.2 ≤ 256) (fun X => [(0, .int .i64 X.1), (3, .int .i64 X.2)]) (fun X => R) (fun X => X.1) (x, 0) ?_ ?_ ?_ ?_
 show x + 0 ≤ 256; omega
 · repeat (first | exact aX | refine aU rfl ?_)
 exact inferInstance
 intro ⟨k, n⟩ hk
 dsimp only at hk ⊢
 refine ae (ae (ah (aa rfl (ac rfl) (aa rfl (co rfl rfl) (ag (ab ?_))))))
 refine ax rfl ?_ ?_
 intro c4
 have hk0 : 0 < k := by omega
 have hlt : k &&& (k - 1) ≤ k - 1 := Nat.and_le_right
 refine aB (ab (ae (b0 (ah (aa rfl (ac rfl) ?_)))))
 refine aa rfl (bC rfl rfl (by rw [aW (by omega)]; omega : IntKind.wrap .i64 ((n : Int) + 1) = ((n + 1 : Nat) : Int))) ?_
 refine aa rfl (ai rfl) (ag (bF (ab (ah (aa rfl (ac rfl) (aa rfl (ac rfl) ?_))))))
 refine aa rfl (dW rfl rfl (by rw [aW (by omega)]; omega : IntKind.wrap .i64 ((k : Int) - 1) = ((k - 1 : Nat) : Int))) ?_
 refine aa rfl (s8 rfl rfl (td (by omega) (by omega))) ?_
 refine aa rfl (ai rfl) (ag (ab ?_))
 refine cp (k &&& (k - 1), n + 1) ?_ ?_ ?_ ?_
 show (k &&& (k - 1)) + (n + 1) ≤ 256; omega
 show k &&& (k - 1) < k; omega
 · repeat (first | exact aX | refine aU rfl ?_)
 exact inferInstance
 intro c4
 refine bX (bi (bi (bZ (ab (ae (ah (aa rfl (ac rfl) (aa rfl (ai rfl) (ag (ab (av (au (.inl rfl) (.cons (ak rfl) .nil) ?_))))))))))))
 exact ⟨_, ⟨(n : Int), rfl, by rw [hl]; simp, rfl⟩, inferInstance⟩
theorem nv {W0 : World} {R : List HP} (l : Int) : aC Tryz.prog W0 195 [.int .i64 l] R (fun v B => v = .bool (dw l) ∧ B = R) := by
 refine aF func195 ntmps195 rfl rfl ?_
 refine ae (ah (aa rfl (ai rfl) (ag (ab (ae (ah (aa rfl (ac rfl) (aa rfl (cF rfl rfl) (aa rfl (ac rfl) ?_)))))))))
 refine cG rfl rfl rfl ?_ ?_
 intro g1_3
 refine aa rfl (ac rfl) (ar rfl rfl (aa rfl (aY rfl rfl) (aa rfl (aT rfl rfl) (aa rfl (ai rfl) (ag (ab (av (au (.inl rfl) (.cons (ak rfl) .nil) ?_))))))))
 refine ⟨_, ⟨?_, rfl⟩, inferInstance⟩
 refine congrArg Value.bool ?_
 rw [Bool.eq_iff_iff]; simp only [dw, decide_eq_true_eq, Bool.false_eq_true, false_iff]; omega
 intro g1_3
 refine al rfl rfl rfl rfl (aa rfl (aJ rfl rfl) (aa rfl (ai rfl) (ag (ab (av (au (.inl rfl) (.cons (ak rfl) .nil) ?_))))))
 refine ⟨_, ⟨?_, rfl⟩, inferInstance⟩
 refine congrArg Value.bool ?_
 rw [Bool.eq_iff_iff]; simp only [dw, decide_eq_true_eq, Bool.false_eq_true, false_iff]; omega
theorem ti {W0 : World} {R : List HP} (l c : Nat) (hl : l < 256) (hc : c < 8) : aC Tryz.prog W0 360 [.int .i64 l, .int .i64 c] R (fun v B => v = .bool (l.testBit c) ∧ B = R) := by
 have hd : l / 2 ^ c < 256 := Nat.lt_of_le_of_lt (Nat.div_le_self _ _) hl
 refine aF func360 ntmps360 rfl rfl ?_
 refine ae (ah (aa rfl (ai rfl) (ag (ab (ae (ah (aa rfl (ac rfl) (aa rfl (ac rfl) ?_))))))))
 refine aa rfl (mP rfl rfl (by omega) (mY (k := .i64) (a := l) (s := c) (by show c ≤ 64; omega))) ?_
 refine aa rfl (s8 rfl rfl (td (a := l / 2 ^ c) (b := 1) (by omega) (by decide))) ?_
 refine aa rfl (cz rfl rfl) (aa rfl (ai rfl) (ag (ab (av (au (.inl rfl) (.cons (ak rfl) .nil) ?_)))))
 refine ⟨_, ⟨?_, rfl⟩, inferInstance⟩
 refine congrArg Value.bool ?_
 rw [Bool.eq_iff_iff, beq_iff_eq, show (l / 2 ^ c) &&& 1 = l / 2 ^ c % 2 from wT (a := l / 2 ^ c) (n := 1), Nat.testBit_eq_decide_div_mod_eq, decide_eq_true_iff]
 omega
theorem y6 {W0 : World} {R : List HP} (a b : Int) : aC Tryz.prog W0 295 [.int .i64 a, .int .i64 b] R (fun v B => v = .bool (hX a b) ∧ B = R) := by
 refine aF func295 ntmps295 rfl rfl ?_
 refine ae (ah (aa rfl (ai rfl) (ag (ab (ae (ae (ah (aa rfl (ac rfl) (am rfl (aS rx rfl (nv a)) ?_)))))))))
 rintro _ B_ ⟨rfl, hB_⟩
 obtain rfl := hB_.symm
 refine aa rfl (bN rfl) (aa rfl (ac rfl) ?_)
 refine bA rfl rfl rfl ?_ ?_
 intro g1_4
 refine al rfl rfl rfl rfl (al rfl rfl rfl rfl (aa rfl (aT rfl rfl) (ag (ab (bR rfl (ae (ah (aa rfl (ai rfl) (ag (ab (av (aD (au (.inl rfl) (.cons (ak rfl) .nil) ?_)))))))))))))
 refine ⟨_, ⟨?_, rfl⟩, inferInstance⟩
 rw [nt (fun q => by simp_all)]; rfl
 intro g1_4
 refine aa rfl (ac rfl) (ar rfl rfl (am rfl (aS rx rfl (nv b)) ?_))
 rintro _ B_ ⟨rfl, hB_⟩
 obtain rfl := hB_.symm
 refine ar rfl rfl (aa rfl (bN rfl) (aa rfl (aJ rfl rfl) (ag (ab ?_))))
 refine ax rfl ?_ ?_
 intro c1
 refine ae (ah (aa rfl (ai rfl) (ag (ab (av (aD (au (.inl rfl) (.cons (ak rfl) .nil) ?_)))))))
 refine ⟨_, ⟨?_, rfl⟩, inferInstance⟩
 rw [nt (fun q => by simp_all)]; rfl
 intro c1
 have ha : dw a = true := by simpa using g1_4
 have hb : dw b = true := by simpa using c1
 obtain ⟨x, rfl, hx⟩ : ∃ x : Nat, a = (x : Int) ∧ x < 256 := ⟨a.toNat, by have := iw.1 ha; omega, by have := iw.1 ha; omega⟩
 obtain ⟨y, rfl, hy⟩ : ∃ y : Nat, b = (y : Int) ∧ y < 256 := ⟨b.toNat, by have := iw.1 hb; omega, by have := iw.1 hb; omega⟩
 refine aB (ab (ae (ae (ah (aa rfl (ai rfl) (ag (ab (b0 ?_))))))))
 refine cC (fun i : Nat => i ≤ 8 ∧ ∀ c, c < i → x.testBit c = true → y.testBit c = true) (fun i => [(0, .int .i64 x), (1, .int .i64 y), (5, .int .i64 i)]) (fun i => R) (fun i => 8 - i) 0 ?_ ?_ ?_ ?_
 exact ⟨Nat.zero_le _, fun c h => absurd h (Nat.not_lt_zero _)⟩
 · repeat (first | exact aX | refine aU rfl ?_)
 exact inferInstance
 intro i ⟨hi, hI⟩
 refine ae (ae (ah (aa rfl (ac rfl) (aa rfl (aY rfl rfl) (ag (ab ?_))))))
 refine ax rfl ?_ ?_
 intro c4
 refine aB (ab (ae (b0 (ae (ah (aa rfl (ac rfl) (aa rfl (ac rfl) ?_)))))))
 refine am rfl (aS call360 rfl (ti x i hx (by omega))) ?_
 rintro _ B_ ⟨rfl, hB_⟩
 obtain rfl := hB_.symm
 refine aa rfl (ac rfl) ?_
 refine cG rfl rfl rfl ?_ ?_
 intro g6_4
 refine aa rfl (ac rfl) (ar rfl rfl (aa rfl (ac rfl) (ar rfl rfl ?_)))
 refine am rfl (aS call360 rfl (ti y i hy (by omega))) ?_
 rintro _ B_ ⟨rfl, hB_⟩
 obtain rfl := hB_.symm
 refine ar rfl rfl (aa rfl (bN rfl) (aa rfl (aT rfl rfl) (ag (ab ?_))))
 refine ax rfl ?_ ?_
 intro c6
 refine ae (ah (aa rfl (ai rfl) (ag (ab (av (bj (aD (aD (bj (aD (au (.inl rfl) (.cons (ak rfl) .nil) ?_)))))))))))
 refine ⟨_, ⟨?_, rfl⟩, inferInstance⟩
 refine congrArg Value.bool (Eq.symm ?_)
 rw [← Bool.not_eq_true, hX]
 intro q
 simp only [Bool.and_eq_true, decide_eq_true_iff, Int.toNat_natCast] at q
 exact c6 ((te hx).1 q.2 i (by omega) g6_4)
 intro c6
 refine aB (bF (ab (ah (aa rfl (ac rfl) ?_))))
 refine aa rfl (bC rfl rfl (by first | exact aW (by omega) | rfl)) ?_
 refine aa rfl (ai rfl) (ag (ab ?_))
 refine cp (i + 1) ?_ ?_ ?_ ?_
 refine ⟨by omega, fun c hc h => ?_⟩
 by_cases e : c = i
 subst e
 first
   | exact Decidable.not_not.1 c6
   | exact absurd h g6_4
 exact hI c (by omega) h
 omega
 · repeat (first | exact aX | refine aU rfl ?_)
 exact inferInstance
 intro g6_4
 refine al rfl rfl rfl rfl (al rfl rfl rfl rfl (al rfl rfl rfl rfl (aa rfl (aJ rfl rfl) (ag (ab (eL rfl (aB (bF (ab (ah (aa rfl (ac rfl) ?_)))))))))))
 refine aa rfl (bC rfl rfl (by first | exact aW (by omega) | rfl)) ?_
 refine aa rfl (ai rfl) (ag (ab ?_))
 refine cp (i + 1) ?_ ?_ ?_ ?_
 refine ⟨by omega, fun c hc h => ?_⟩
 by_cases e : c = i
 subst e
 first
   | exact Decidable.not_not.1 c6
   | exact absurd h g6_4
 exact hI c (by omega) h
 omega
 · repeat (first | exact aX | refine aU rfl ?_)
 exact inferInstance
 intro c4
 refine bX (bi (bi (bZ (ab (ae (ah (aa rfl (ai rfl) (ag (ab (av (au (.inl rfl) (.cons (ak rfl) .nil) ?_)))))))))))
 refine ⟨_, ⟨?_, rfl⟩, inferInstance⟩
 refine congrArg Value.bool (Eq.symm ?_)
 rw [hX, ha, hb]
 simp only [Bool.and_self, Bool.true_and, decide_eq_true_iff, Int.toNat_natCast]
 exact (te hx).2 fun c hc => hI c (by omega)
end
end Go.Proofs.YtofillmoflhijaaGreat
