/-
  Part 1 of the proof of HcallWho: rules, and walks of functions. Conditions: none.
-/
import Derived.WalkKit
import Derived.ProofKit
import Derived.RangeFuncRecord
import Derived.OrdersHeld
import Derived.Test.YtoedafbckfgkjaaGreatProg
import Derived.Laws.MakeOwn
import Derived.Scope
import Derived.Lib.AppendZerosOnto
import Derived.Lib.Overlaps
import Derived.OrdersIn
import Derived.Laws.BytesString
import Derived.OpenShut
import Derived.Carry
import Derived.MapKept
import Derived.ChangeKeysEq
import Derived.Laws.IdiomStrings
import Derived.Test.YtoedafbckfgkjaaGreatRows
namespace Go.Proofs.YtoedafbckfgkjaaGreat
set_option linter.unusedSimpArgs false
set_option linter.unusedVariables false
set_option maxRecDepth 20000
set_option linter.defProp false
set_option synthInstance.maxSize 8192
set_option synthInstance.maxHeartbeats 2000000
def ar:=@Tryz.sizeOf3
def aT:=@Tryz.isAgg3
def cg:=@Tryz.sizeOf42
def cu:=@Tryz.sizeOf4
def cG:=@Tryz.underlying29
def dj:=@Tryz.underlying111
def dC:=@Tryz.underlying72
def dF:=@Tryz.underlying37
def dM:=@Tryz.sizeOf29
def dN:=@Tryz.underlying3
def dT:=@Tryz.sizeOf61
def eb:=@Tryz.sizeOf109
def eh:=@Tryz.sizeOf43
def ei:=@Tryz.sizeOf72
def eB:=@Tryz.underlying109
def eC:=@Tryz.underlying23
def eD:=@Tryz.underlying497
def eM:=@Tryz.sizeOf37
def eS:=@Tryz.isAgg42
def eT:=@Tryz.sizeOf159
def f0:=@Tryz.sizeOf227
def f2:=@Tryz.sizeOf504
def f3:=@Tryz.sizeOf487
def fc:=@Tryz.sizeOf23
def fe:=@Tryz.underlying61
def ff:=@Tryz.underlying31
def fg:=@Tryz.sizeOf50
def fA:=@Tryz.isAgg23
def fB:=@Tryz.underlying159
def gj:=@Tryz.sizeOf484
def gk:=@Tryz.underlying26
def gm:=@Tryz.isAgg50
def gC:=@Tryz.isAgg29
def gD:=@Tryz.underlying148
def gE:=@Tryz.underlying25
def gF:=@Tryz.underlying484
def gG:=@Tryz.sizeOf5
def gH:=@Tryz.underlying42
def gI:=@Tryz.sizeOf184
def gV:=@Tryz.isAgg37
def gW:=@Tryz.underlying119
def gX:=@Tryz.underlying24
def gY:=@Tryz.zeroValue61
def gZ:=@Tryz.underlying157
def hJ:=@Tryz.underlying43
def ii:=@Tryz.underlying492
def ij:=@Tryz.sizeOf157
def iA:=@Tryz.sizeOf180
def iB:=@Tryz.sizeOf280
def iC:=@Tryz.sizeOf51
def iM:=@Tryz.isAgg484
def iN:=@Tryz.sizeOf80
def iO:=@Tryz.zeroValue227
def j6:=@Tryz.isAgg4
def j7:=@Tryz.sizeOf25
def j8:=@Tryz.sizeOf26
def j9:=@Tryz.sizeOf58
def ja:=@Tryz.underlying180
def jb:=@Tryz.zeroValue184
def jc:=@Tryz.sizeOf30
def jo:=@Tryz.isAgg227
def jp:=@Tryz.sizeOf135
def jq:=@Tryz.underlying182
def jr:=@Tryz.underlying227
def js:=@Tryz.underlying396
def jM:=@Tryz.isAgg26
def jN:=@Tryz.isAgg43
def jO:=@Tryz.sizeOf24
def jP:=@Tryz.sizeOf97
def jQ:=@Tryz.underlying223
def jR:=@Tryz.zeroValue159
def jS:=@Tryz.sizeOf148
def kE:=@Tryz.isAgg180
def kF:=@Tryz.isAgg61
def kG:=@Tryz.sizeOf160
def kI:=@Tryz.underlying184
def kJ:=@Tryz.underlying394
def kK:=@Tryz.underlying283
def kL:=@Tryz.zeroValue283
def kM:=@Tryz.underlying332
def kN:=@Tryz.isAgg127
def lI:=@Tryz.sizeOf332
def lJ:=@Tryz.sizeOf429
def lK:=@Tryz.sizeOf439
def lL:=@Tryz.underlying153
def lM:=@Tryz.underlying393
def lN:=@Tryz.underlying443
def lO:=@Tryz.underlying89
def lP:=@Tryz.zeroValue3
def lQ:=@Tryz.sizeOf207
def lR:=@Tryz.zeroValue72
def lS:=@Tryz.sizeOf74
def lT:=@Tryz.call264
def lU:=@Tryz.isAgg184
def lV:=@Tryz.zeroValue43
def lW:=@Tryz.isAgg30
def mV:=@Tryz.isAgg80
def mW:=@Tryz.sizeOf153
def mX:=@Tryz.sizeOf228
def mY:=@Tryz.underlying319
def mZ:=@Tryz.underlying439
def n0:=@Tryz.underlying5
def nf:=@Tryz.call55
def ng:=@Tryz.sizeOf152
def nh:=@Tryz.sizeOf311
def ni:=@Tryz.isAgg159
def nj:=@Tryz.call75
def nk:=@Tryz.sizeOf393
def np:=@Tryz.sizeOf89
def nq:=@Tryz.call174
def nr:=@Tryz.underlying58
def ns:=@Tryz.isAgg487
def nt:=@Tryz.sizeOf92
def nu:=@Tryz.sizeOf98
def nv:=@Tryz.call39
def nw:=@Tryz.sizeOf437
def nx:=@Tryz.sizeOf31
def ny:=@Tryz.call207
def pf:=@Tryz.isAgg24
def pi:=@Tryz.isAgg25
def pj:=@Tryz.sizeOf136
def pn:=@Tryz.sizeOf212
def pp:=@Tryz.sizeOf497
def pq:=@Tryz.underlying155
def pr:=@Tryz.underlying160
def pu:=@Tryz.underlying162
def pw:=@Tryz.underlying230
def px:=@Tryz.underlying27
def py:=@Tryz.underlying334
def pz:=@Tryz.underlying437
def pA:=@Tryz.underlying441
def pB:=@Tryz.underlying152
def pC:=@Tryz.underlying228
def pD:=@Tryz.call253
def pE:=@Tryz.zeroValue157
def pF:=@Tryz.call175
def pG:=@Tryz.call173
def pH:=@Tryz.call32
def pI:=@Tryz.underlying4
def pJ:=@Tryz.zeroValue377
def pK:=@Tryz.sizeOf377
def pL:=@Tryz.call10
def sD:=@Tryz.isAgg153
def sF:=@Tryz.isAgg439
def sG:=@Tryz.sizeOf127
def sH:=@Tryz.sizeOf224
def sI:=@Tryz.sizeOf225
def sJ:=@Tryz.sizeOf394
def sK:=@Tryz.sizeOf438
def sM:=@Tryz.sizeOf55
def sN:=@Tryz.sizeOf83
def sP:=@Tryz.underlying135
def sQ:=@Tryz.underlying139
def sR:=@Tryz.underlying232
def sT:=@Tryz.underlying30
def sW:=@Tryz.underlying399
def sX:=@Tryz.underlying499
def sY:=@Tryz.call159
def sZ:=@Tryz.call283
def t0:=@Tryz.call239
def t1:=@Tryz.call249
def t2:=@Tryz.call178
def t6:=@Tryz.underlying313
def t7:=@Tryz.underlying311
def t8:=@Tryz.underlying397
def t9:=@Tryz.sizeOf396
def tc:=@Tryz.call233
def td:=@Tryz.isAgg72
def te:=@Tryz.zeroValue74
def tf:=@Tryz.zeroValue504
def ti:=@Tryz.underlying504
def tj:=@Tryz.sizeOf283
def tm:=@Tryz.call51
def tn:=@Tryz.call83
def tp:=@Tryz.underlying487
def tq:=@Tryz.zeroValue135
def tt:=@Tryz.isAgg212
def tu:=@Tryz.underlying408
def tv:=@Tryz.zeroValue207
def tw:=@Tryz.func34
def tx:=@Tryz.underlying438
def tz:=@Tryz.underlying461
def tA:=@Tryz.call12
def tB:=@Tryz.call13
def tC:=@Tryz.func4
def xy:=@Tryz.isAgg160
def xz:=@Tryz.isAgg394
def xA:=@Tryz.isAgg497
def xB:=@Tryz.isAgg97
def xC:=@Tryz.sizeOf116
def xD:=@Tryz.sizeOf117
def xE:=@Tryz.sizeOf132
def xF:=@Tryz.sizeOf196
def xG:=@Tryz.sizeOf210
def xH:=@Tryz.sizeOf211
def xI:=@Tryz.sizeOf219
def xJ:=@Tryz.sizeOf220
def xK:=@Tryz.sizeOf221
def xL:=@Tryz.sizeOf242
def xM:=@Tryz.sizeOf27
def xN:=@Tryz.sizeOf319
def xO:=@Tryz.sizeOf397
def xP:=@Tryz.underlying338
def xQ:=@Tryz.underlying50
def xR:=@Tryz.underlying74
def xS:=@Tryz.func22
def xT:=@Tryz.func269
def xU:=@Tryz.func152
def xV:=@Tryz.call269
def xW:=@Tryz.call281
def xX:=@Tryz.zeroValue315
def xY:=@Tryz.call271
def xZ:=@Tryz.call128
def y1:=@Tryz.isAgg504
def y2:=@Tryz.isAgg157
def y3:=@Tryz.sizeOf405
def y4:=@Tryz.underlying284
def y5:=@Tryz.call149
def y8:=@Tryz.func292
def y9:=@Tryz.zeroValue148
def ya:=@Tryz.underlying225
def yd:=@Tryz.call22
def yf:=@Tryz.call86
def yg:=@Tryz.call276
def yh:=@Tryz.call64
def yi:=@Tryz.call161
def yj:=@Tryz.call270
def yk:=@Tryz.zeroValue58
def yl:=@Tryz.isAgg58
def ym:=@Tryz.zeroValue429
def yn:=@Tryz.underlying429
def yo:=@Tryz.sizeOf441
def yp:=@Tryz.sizeOf389
def yq:=@Tryz.zeroValue389
def yr:=@Tryz.zeroValue487
def yt:=@Tryz.call503
def yu:=@Tryz.call506
def yw:=@Tryz.isAgg135
def yx:=@Tryz.underlying103
def yy:=@Tryz.call87
def yz:=@Tryz.call16
def yA:=@Tryz.underlying529
def yB:=@Tryz.zeroValue529
def yC:=@Tryz.func89
def yD:=@Tryz.func90
def yE:=@Tryz.call209
def yF:=@Tryz.call11
def Fp:=@Tryz.underlying126
def Fq:=@Tryz.underlying242
def Fs:=@Tryz.underlying244
def Ft:=@Tryz.underlying321
def Fu:=@Tryz.underlying345
def Fv:=@Tryz.underlying377
def Fw:=@Tryz.underlying423
def Fx:=@Tryz.underlying455
def Fy:=@Tryz.underlying80
def Fz:=@Tryz.zeroValue393
def FA:=@Tryz.underlying427
def FB:=@Tryz.underlying46
def FC:=@Tryz.underlying51
def FD:=@Tryz.zeroValue109
def FE:=@Tryz.zeroValue111
def FF:=@Tryz.zeroValue29
def FG:=@Tryz.underlying54
section
open Go.RowKit
abbrev HP := List (Nat × Obj) → Prop
def pt (b : Nat) (o : Obj) : HP := fun l => l = [(b, o)]
abbrev aj (l : List Value) (t : TypeId) : Obj := .cells l.toArray t (0, 0)
def eU : List HP → List (Nat × Obj) → Prop
  | [], l => l = []
  | a :: A, l => ∃ l1 l2, l = l1 ++ l2 ∧ a l1 ∧ eU A l2
structure Own (W0 w : World) (A : List HP) : Prop where
  os : w.os = W0.os
  tape : w.tape = W0.tape
  output : w.output = W0.output
  size : W0.heap.size ≤ w.heap.size
  base : ∀ b, b < W0.heap.size → w.heap[b]? = W0.heap[b]?
  owns : ∃ ls : List (Nat × Obj), eU A ls ∧ (ls.map (·.1)).Nodup ∧ ∀ p ∈ ls, W0.heap.size ≤ p.1 ∧ w.heap[p.1]? = some p.2
theorem eU.perm {A B : List HP} (h : A.Perm B) : ∀ {l}, eU A l → ∃ l', eU B l' ∧ l.Perm l' := by
 induction h with
 | nil => exact fun h => ⟨_, h, List.Perm.refl _⟩
 | cons x h ih =>
  rintro l ⟨l1, l2, rfl, ha, hs⟩
  obtain ⟨l', hs', hp⟩ := ih hs
  exact ⟨l1 ++ l', ⟨l1, l', rfl, ha, hs'⟩, hp.append_left l1⟩
 | swap x y l =>
  rintro l ⟨l1, l2, rfl, ha, m1, m2, rfl, hb, hs⟩
  refine ⟨m1 ++ (l1 ++ m2), ⟨m1, l1 ++ m2, rfl, hb, l1, m2, rfl, ha, hs⟩, ?_⟩
  rw [← List.append_assoc, ← List.append_assoc]
  exact (List.perm_append_comm).append_right m2
 | trans h1 h2 ih1 ih2 =>
  intro l hl
  obtain ⟨l', hs, hp⟩ := ih1 hl
  obtain ⟨l'', hs', hp'⟩ := ih2 hs
  exact ⟨l'', hs', hp.trans hp'⟩
theorem Own.perm {W0 w : World} {A B : List HP} (h : Own W0 w A) (hp : A.Perm B) : Own W0 w B := by
 obtain ⟨ls, hs, hn, hb⟩ := h.owns
 obtain ⟨l', hs', hp'⟩ := hs.perm hp
 exact ⟨h.os, h.tape, h.output, h.size, h.base, l', hs', (hp'.map _).nodup hn, fun p hm => hb p (hp'.mem_iff.2 hm)⟩
theorem Own.drop {W0 w : World} {a : HP} {A : List HP} (h : Own W0 w (a :: A)) : Own W0 w A := by
 obtain ⟨ls, ⟨l1, l2, rfl, _, hs⟩, hn, hb⟩ := h.owns
 refine ⟨h.os, h.tape, h.output, h.size, h.base, l2, hs, ?_, fun p hm => hb p (List.mem_append_right _ hm)⟩
 rw [List.map_append] at hn
 exact (List.nodup_append.1 hn).2.1
theorem Own.refl (W : World) : Own W W [] := ⟨rfl, rfl, rfl, Nat.le_refl _, fun _ _ => rfl, [], rfl, List.nodup_nil, fun _ h => nomatch h⟩
theorem Own.below {W0 w : World} {A : List HP} (h : Own W0 w A) : Below W0.heap.size W0 w := ⟨h.os, h.tape, h.output, h.size, h.base⟩
theorem Own.drew {W0 w : World} {A : List HP} (h : Own W0 w A) (n : Nat) : Own W0 { w with drawn := n } A := ⟨h.os, h.tape, h.output, h.size, h.base, h.owns⟩
theorem Own.has {W0 w : World} {b : Nat} {o : Obj} {A : List HP} (h : Own W0 w (pt b o :: A)) : W0.heap.size ≤ b ∧ w.heap[b]? = some o := by
 obtain ⟨ls, ⟨l1, l2, rfl, h1, _⟩, _, hb⟩ := h.owns
 cases h1
 exact hb (b, o) (by simp)
theorem Own.set {W0 w w' : World} {b : Nat} {o o' : Obj} {A : List HP} (h : Own W0 w (pt b o :: A)) (hos : w'.os = w.os) (htape : w'.tape = w.tape)
  (hout : w'.output = w.output) (hsz : w'.heap.size = w.heap.size)
  (hb : w'.heap[b]? = some o') (hne : ∀ k, k ≠ b → w'.heap[k]? = w.heap[k]?) : Own W0 w' (pt b o' :: A) := by
 have hbase := h.has.1
 obtain ⟨ls, ⟨l1, l2, rfl, h1, hs⟩, hn, hm⟩ := h.owns
 cases h1
 refine ⟨hos.trans h.os, htape.trans h.tape, hout.trans h.output, by have := h.size; omega, fun k hk => ?_, (b, o') :: l2, ⟨[(b, o')], l2, rfl, rfl, hs⟩, ?_, ?_⟩
 ·rw [hne k (by omega)]; exact h.base k hk
 ·simpa using hn
 ·rintro p hp
  rcases List.mem_cons.1 hp with rfl | hp
  ·exact ⟨hbase, hb⟩
  ·have hp' := hm p (List.mem_append_right _ hp)
   refine ⟨hp'.1, ?_⟩
   rw [hne]; · exact hp'.2
   intro e
   simp only [List.singleton_append, List.map_cons, List.nodup_cons, List.mem_map, not_exists, not_and] at hn
   exact hn.1 p hp e
theorem Own.new {W0 w : World} {A : List HP} (h : Own W0 w A) (o : Obj) : Own W0 { w with heap := w.heap.push o } (pt w.heap.size o :: A) := by
 obtain ⟨ls, hs, hn, hb⟩ := h.owns
 refine ⟨h.os, h.tape, h.output, ?_, fun k hk => ?_, (w.heap.size, o) :: ls, ⟨[_], ls, rfl, rfl, hs⟩, ?_, ?_⟩
 ·have := h.size; simp; omega
 ·have := h.size
  show (w.heap.push o)[k]? = _
  rw [Array.getElem?_push, if_neg (by omega)]; exact h.base k hk
 ·simp only [List.map_cons, List.nodup_cons]
  refine ⟨?_, hn⟩
  intro hmem
  obtain ⟨p, hp, e⟩ := List.mem_map.1 hmem
  have := (hb p hp).2
  rw [e] at this
  simp at this
 ·rintro p hp
  show _ ∧ (w.heap.push o)[p.1]? = _
  rcases List.mem_cons.1 hp with rfl | hp
  ·exact ⟨h.size, by simp⟩
  ·refine ⟨(hb p hp).1, ?_⟩
   have := (hb p hp).2
   have hlt : p.1 < w.heap.size := by
    rcases Nat.lt_or_ge p.1 w.heap.size with h | h
    ·exact h
    ·rw [Array.getElem?_eq_none h] at this; cases this
   rw [Array.getElem?_push, if_neg (by omega)]; exact this
class Tk {K X : Type} (r : K → X → HP) (b : K) (A : List HP) (x : outParam X) (R : outParam (List HP)) : Prop where
  perm : A.Perm (r b x :: R)
instance FH {K X : Type} {r : K → X → HP} {b : K} {x : X} {R : List HP} : Tk r b (r b x :: R) x R := ⟨List.Perm.refl _⟩
instance (priority := low) tk_there {K X : Type} {r : K → X → HP} {b : K} {c : HP} {A : List HP} {x : X} {R : List HP} [h : Tk r b A x R] : Tk r b (c :: A) x (c :: R) :=
  ⟨(h.perm.cons c).trans (List.Perm.swap _ _ _)⟩
class Ent (A B : List HP) : Prop where
  out : ∀ l, eU A l → ∃ l' r, eU B l' ∧ l.Perm (l' ++ r)
theorem Own.ent {W0 w : World} {A B : List HP} (h : Own W0 w A) (e : Ent A B) : Own W0 w B := by
 obtain ⟨ls, hs, hn, hb⟩ := h.owns
 obtain ⟨l', r, hs', hp⟩ := e.out _ hs
 refine ⟨h.os, h.tape, h.output, h.size, h.base, l', hs', ?_, fun p hm => hb p (hp.mem_iff.2 (List.mem_append_left _ hm))⟩
 have := (hp.map (·.1)).nodup hn
 rw [List.map_append] at this
 exact (List.nodup_append.1 this).1
instance (priority := high) ent_refl {A : List HP} : Ent A A := ⟨fun l h => ⟨l, [], h, by simp⟩⟩
theorem Ent.trans {A B C : List HP} (h : Ent A B) (k : Ent B C) : Ent A C := ⟨fun l hl => by
 obtain ⟨l1, r1, hs1, hp1⟩ := h.out l hl
 obtain ⟨l2, r2, hs2, hp2⟩ := k.out l1 hs1
 exact ⟨l2, r2 ++ r1, hs2, hp1.trans (by rw [← List.append_assoc]; exact hp2.append_right r1)⟩⟩
theorem Ent.ofPerm {A B : List HP} (h : A.Perm B) : Ent A B := ⟨fun l hl => by
 obtain ⟨l', hs, hp⟩ := hl |> eU.perm h
 exact ⟨l', [], hs, by simpa using hp⟩⟩
theorem Ent.cons {a : HP} {A B : List HP} (h : Ent A B) : Ent (a :: A) (a :: B) := ⟨fun l hl => by
 obtain ⟨l1, l2, rfl, ha, hs⟩ := hl
 obtain ⟨l', r, hs', hp⟩ := h.out l2 hs
 exact ⟨l1 ++ l', r, ⟨l1, l', rfl, ha, hs'⟩, by rw [List.append_assoc]; exact hp.append_left l1⟩⟩
theorem Ent.drop {a : HP} {A : List HP} : Ent (a :: A) A := ⟨fun l hl => by
 obtain ⟨l1, l2, rfl, _, hs⟩ := hl
 exact ⟨l2, l1, hs, List.perm_append_comm⟩⟩
instance FI {K X : Type} {r : K → X → HP} {b : K} {x : X} {A R B : List HP} [h : Tk r b A x R] [k : Ent R B] : Ent A (r b x :: B) :=
  (Ent.ofPerm h.perm).trans k.cons
instance (priority := low) ent_drop {a : HP} {A B : List HP} [k : Ent A B] : Ent (a :: A) B := Ent.drop.trans k
def aX (A : List HP) : HP := fun l => eU A l
theorem eU.append {A B : List HP} {l : List (Nat × Obj)} : eU (A ++ B) l ↔ ∃ l1 l2, l = l1 ++ l2 ∧ eU A l1 ∧ eU B l2 := by
 induction A generalizing l with
 | nil => exact ⟨fun h => ⟨[], l, rfl, rfl, h⟩, by rintro ⟨l1, l2, rfl, rfl, h⟩; exact h⟩
 | cons a A ih =>
  constructor
  ·rintro ⟨l1, l2, rfl, ha, hs⟩
   obtain ⟨m1, m2, rfl, h1, h2⟩ := ih.1 hs
   exact ⟨l1 ++ m1, m2, by simp, ⟨l1, m1, rfl, ha, h1⟩, h2⟩
  ·rintro ⟨l1, l2, rfl, ⟨m1, m2, rfl, ha, hs⟩, h2⟩
   exact ⟨m1, m2 ++ l2, by simp, ha, ih.2 ⟨m2, l2, rfl, hs, h2⟩⟩
theorem hM {A R : List HP} : Ent (aX A :: R) (A ++ R) := ⟨fun l hl => by
 obtain ⟨l1, l2, rfl, ha, hs⟩ := hl
 exact ⟨l1 ++ l2, [], eU.append.2 ⟨l1, l2, rfl, ha, hs⟩, by simp⟩⟩
theorem fC {A R : List HP} : Ent (A ++ R) (aX A :: R) := ⟨fun l hl => by
 obtain ⟨l1, l2, rfl, ha, hs⟩ := eU.append.1 hl
 exact ⟨l1 ++ l2, [], ⟨l1, l2, rfl, ha, hs⟩, by simp⟩⟩
abbrev bq := List (Nat × Value)
def dl : bq → Nat → Option Value
  | [], _ => none
  | (t, v) :: r, u => match Nat.beq t u with | true => some v | false => dl r u
def ev (e : bq) : Operand → Option Value
  | .tmp t => dl e t
  | .const v => some v
  | .global g => some (.pointer (some ⟨g, 0, none⟩))
  | .func f => some (.func (.func f) #[] #[])
def ej (e : bq) : List Operand → Option (List Value)
  | [] => some []
  | x :: xs => match ev e x with
    | some v => match ej e xs with
      | some vs => some (v :: vs)
      | none => none
    | none => none
structure FSz where
  n : Nat
  ds : List Deferred
structure Fr (a : Act) (N : FSz) (e : bq) : Prop where
  defers : a.defers = N.ds
  size : a.tmps.size = N.n
  at_ : ∀ t v, dl e t = some v → a.tmps[t]? = some v
theorem Fr.eval {a : Act} {N : FSz} {e : bq} (h : Fr a N e) {x : Operand} {v : Value} (hx : ev e x = some v) : a.eval x = v := by
 cases x with
 | tmp t => simp [Act.eval, Array.getD_eq_getD_getElem?, h.at_ t v hx]
 | const c => exact Option.some.inj hx
 | global g => exact Option.some.inj hx
 | func f => exact Option.some.inj hx
theorem Fr.evals {a : Act} {N : FSz} {e : bq} (h : Fr a N e) : ∀ {xs : List Operand} {vs : List Value}, ej e xs = some vs → xs.map a.eval = vs
 | [], vs, hx => by simp [ej] at hx; simp [hx]
 | x :: xs, vs, hx => by
  unfold ej at hx
  cases hv : ev e x with
  | none => rw [hv] at hx; cases hx
  | some v =>
   rw [hv] at hx
   cases hvs : ej e xs with
   | none => simp only [hvs] at hx; cases hx
   | some vs' =>
    simp only [hvs, Option.some.injEq] at hx
    subst hx
    simp [h.eval hv, h.evals hvs]
theorem pM {e : bq} {t : Nat} {v : Value} : dl ((t, v) :: e) t = some v := by simp [dl]
theorem pN {e : bq} {t u : Nat} {v : Value} (h : t ≠ u) : dl ((t, v) :: e) u = dl e u := by
 have : Nat.beq t u = false := by
  cases hb : Nat.beq t u with
  | false => rfl
  | true => exact absurd (Nat.eq_of_beq_eq_true hb) h
 simp [dl, this]
theorem Fr.put {a : Act} {N : FSz} {e : bq} (h : Fr a N e) {d : Nat} (hd : d < N.n) (v : Value) : Fr (a.put (some d) v) N ((d, v) :: e) := by
 refine ⟨h.defers, by simp [Act.put, h.size], fun t u hu => ?_⟩
 show (a.tmps.setIfInBounds d v)[t]? = some u
 by_cases e' : d = t
 ·subst e'
  rw [pM] at hu
  have hd' : d < a.tmps.size := by rw [h.size]; exact hd
  simp [hd', Option.some.inj hu]
 ·rw [pN e'] at hu
  rw [Array.getElem?_setIfInBounds, if_neg e']
  exact h.at_ t u hu
def jd (e e' : bq) : Prop := ∀ t v, dl e' t = some v → dl e t = some v
theorem Fr.sub {a : Act} {N : FSz} {e e' : bq} (h : Fr a N e) (s : jd e e') : Fr a N e' := ⟨h.defers, h.size, fun t v hv => h.at_ t v (s t v hv)⟩
theorem aJ {e : bq} : jd e [] := fun _ _ h => nomatch h
theorem aG {e e' : bq} {t : Nat} {v : Value} (h : dl e t = some v) (k : jd e e') : jd e ((t, v) :: e') := fun u x hx => by
 by_cases c : t = u
 ·subst c; rw [pM] at hx; rw [h]; exact hx
 ·rw [pN c] at hx; exact k u x hx
theorem lX {e : bq} : jd e e := fun _ _ h => h
def aE (W0 : World) (N : FSz) (K : Act → World → Prop) (e : bq) (A : List HP) : Prop := ∀ a w, Fr a N e → Own W0 w A → K a w
def Ex (Q : Exit → Act → World → Prop) (x : Exit) : Act → World → Prop := fun a w => Q x a w
def ao (P : Program) (W0 : World) (f : FuncId) (args : List Value) (A : List HP) (Post : Value → List HP → Prop) : Prop :=
  ∀ w, Own W0 w A → Calls P f args.toArray w fun e w' => ∃ v B, e = .returned v ∧ Post v B ∧ Own W0 w' B
section
variable {W0 : World} {N : FSz} {K K' : Act → World → Prop} {e e' : bq} {A B : List HP}
theorem eN (h : Ent A B) (r : aE W0 N K e B) : aE W0 N K e A := fun a w hF hO => r a w hF (hO.ent h)
theorem pO (h : A.Perm B) (r : aE W0 N K e B) : aE W0 N K e A := fun a w hF hO => r a w hF (hO.perm h)
end
def FW (rd : Option Nat) : Fence := { Fence.wide with round := rd }
def _root_.Go.Code.wpR (c : Code) (rd : Option Nat) (P : Program) (Q : Exit → Act → World → Prop) (a : Act) (w : World) : Prop := c.wpIn (FW rd) 0 P Q a w
theorem pP {P : Program} {c : Code} {Q : Exit → Act → World → Prop} {a : Act} {w : World} : c.wpR none P Q a w ↔ c.wp P Q a w := wpIn_wide
theorem pQ {rd : Option Nat} {n : Nat} {P : Program} {f : FuncId} {args : Array Value} {w : World} {R : Ending → World → Prop} : CallsIn (FW rd) n P f args w R ↔ Calls P f args w R :=
 callsIn_wide (n := n)
theorem yG {rd : Option Nat} {P : Program} {m m' : Machine} : StepsIn (Machine.fenced P (FW rd)) P m m' ↔ Steps P m m' := stepsIn_wide
theorem tD {rd : Option Nat} {P : Program} {o : Oper} {a : Act} {K K' : Act → World → Prop} {Q : Exit → Act → World → Prop} (hk : ∀ a w, K a w → K' a w) :
  ∀ {r : Result Next}, o.upon P a K Q r → o.uponIn (FW rd) 0 P a K' Q r
 | .ok (.value v) w, h => hk _ _ h
 | .ok .skip w, h => hk _ _ h
 | .ok (.defer d) w, h => hk _ _ h
 | .ok (.enter f args) w, h => ⟨fun h => (by cases h), pQ.2 (Calls.mono (show Calls P f args w _ from h) (by
   intro e w' he
   cases e with
   | returned v => exact hk _ _ he
   | panicked c => exact he
   | outgrown => exact he))⟩
 | .ok (.row row args) w, h => ⟨fun h => (by cases h), fun c cs _ => by
   obtain ⟨v, w', h1, h2⟩ := (show Rows P row args w _ from h) c cs
   exact ⟨v, w', hk _ _ h1, yG.2 h2⟩⟩
 | .halt (.panic v) w, h => h
theorem yH {rd : Option Nat} {P : Program} {o : Oper} {a : Act} {K K' : Act → World → Prop} {Q : Exit → Act → World → Prop} (hk : ∀ a w, K a w → K' a w) :
  ∀ {r : Result Next}, o.uponIn (FW rd) 0 P a K Q r → o.uponIn (FW rd) 0 P a K' Q r
 | .ok (.value v) w, h => hk _ _ h
 | .ok .skip w, h => hk _ _ h
 | .ok (.defer d) w, h => hk _ _ h
 | .ok (.enter f args) w, h => ⟨h.1, CallsIn.mono h.2 (by
   intro e w' he
   cases e with
   | returned v => exact hk _ _ he
   | panicked c => exact he
   | outgrown => exact he)⟩
 | .ok (.row row args) w, h => ⟨h.1, RowsIn.mono h.2 (fun v w' he => hk _ _ he)⟩
 | .ok (.round l f tmps assign body) w, h => ⟨h.1, RoundIn.mono h.2 (by
   intro e w' he
   cases e with
   | returned v => exact hk _ _ he
   | panicked c => exact he
   | outgrown => exact he)⟩
 | .halt (.panic v) w, h => h
def bp (rd : Option Nat) (P : Program) (ops : Array Oper) (Q : Exit → Act → World → Prop) : List Oper → Act → World → Prop
  | [], a, w => Q .normal a w
  | o :: rest, a, w =>
    if Region.wanted o (yielded ops a.tmps) then o.wp P a w (bp rd P ops Q rest) Q ∨ o.wpIn (FW rd) 0 P a w (bp rd P ops Q rest) Q
    else bp rd P ops Q rest (a.put o.dst undef) w
def pR (o : Oper) : Bool := match o.op with | .defer _ => false | _ => true
theorem tE {o : Oper} (h : pR o = true) : ∀ c, o.op ≠ .defer c := fun c hc => by simp [pR, hc] at h
def jt (rd : Option Nat) (ops : List Oper) : Bool := rd.isNone || ops.all pR
theorem tF {rd : Option Nat} {P : Program} {ops : Array Oper} {Q : Exit → Act → World → Prop} (hp : jt rd ops.toList = true) : ∀ (n i : Nat), i + n = ops.size → ∀ a w, bp rd P ops Q (ops.toList.drop i) a w →
  wpOpsIn (FW rd) 0 P ops Q (List.range' i n) a w
 | 0, i, h, a, w, hw => by
  have : ops.toList.drop i = [] := by rw [List.drop_eq_nil_iff]; simp; omega
  rw [this] at hw; exact hw
 | n + 1, i, h, a, w, hw => by
  have hi : i < ops.size := by omega
  have e1 : ops.toList.drop i = ops[i] :: ops.toList.drop (i + 1) := by
   rw [List.drop_eq_getElem_cons (by simpa using hi)]; simp
  rw [e1] at hw
  rw [List.range'_succ]
  have ih := tF (rd := rd) (P := P) (Q := Q) hp n (i + 1) (by omega)
  simp only [wpOpsIn, Array.getElem?_eq_getElem hi]
  simp only [bp] at hw
  split at hw
  ·rename_i hwant
   rw [if_pos hwant]
   rcases hw with hw | hw
   ·have hsem : (ops[i]).semAt (FW rd).round a.eval = execOp a.eval ops[i] := by
     cases rd with
     | none => rfl
     | some l =>
      refine Oper.semAt_eq _ _ _ (tE ?_)
      simp only [jt, Option.isNone_some, Bool.false_or, List.all_eq_true] at hp
      exact hp _ (by simp)
    refine ⟨fun _ _ => trivial, ?_⟩
    rw [hsem]
    exact tD ih hw
   ·exact ⟨hw.1, yH ih hw.2⟩
  ·rename_i hwant
   rw [if_neg hwant]
   exact ⟨fun _ _ => trivial, ih _ _ hw⟩
theorem yI {rd : Option Nat} {P : Program} {id : Nat} {ops : Array Oper} {Q : Exit → Act → World → Prop} {a : Act} {w : World} (hp : jt rd ops.toList = true)
  (h : bp rd P ops Q ops.toList a w) : (Code.region id ops false).wpR rd P Q a w := by
 refine wpIn_region ?_
 rw [List.range_eq_range']
 exact tF hp ops.size 0 (by omega) a w (by simpa using h)
section control
variable {rd : Option Nat} {P : Program} {W0 : World} {N : FSz} {Q Q' : Exit → Act → World → Prop} {e e' : bq} {A B : List HP}
theorem az {id : Nat} {ops : Array Oper} (h : aE W0 N (bp rd P ops Q ops.toList) e A) (hp : jt rd ops.toList = true := by rfl) : aE W0 N ((Code.region id ops false).wpR rd P Q) e A :=
 fun a w hF hO => yI hp (h a w hF hO)
theorem al {x y : Code} (h : aE W0 N (x.wpR rd P (Exit.then (y.wpR rd P Q) Q)) e A) : aE W0 N ((Code.seq x y).wpR rd P Q) e A := fun a w hF hO => wpIn_seq (h a w hF hO)
theorem cy (h : aE W0 N (Ex Q .normal) e A) : aE W0 N (Code.skip.wpR rd P Q) e A := fun a w hF hO => wpIn_skip (h a w hF hO)
theorem bY (h : aE W0 N (Ex Q .ret) e A) : aE W0 N (Code.ret.wpR rd P Q) e A := fun a w hF hO => wpIn_ret (h a w hF hO)
theorem gJ {id : Nat} (h : aE W0 N (Ex Q (.exit id)) e A) : aE W0 N ((Code.exit id).wpR rd P Q) e A := fun a w hF hO => wpIn_exit (h a w hF hO)
theorem dt {id : Nat} {c : Code} (h : aE W0 N (c.wpR rd P (Exit.inBlock id Q)) e A) : aE W0 N ((Code.block id c).wpR rd P Q) e A := fun a w hF hO => wpIn_block (h a w hF hO)
theorem tG {l : Nat} (h : aE W0 N (Ex Q .normal) e A) : aE W0 N ((Code.label l).wpR rd P Q) e A := fun a w hF hO => wpIn_label (h a w hF hO)
theorem aw {ops : Array Oper} (h : aE W0 N (Ex Q .normal) e A) : aE W0 N (bp rd P ops Q []) e A := fun a w hF hO => h a w hF hO
theorem yJ {c : Operand} {x y : Code} {t : Nat} {b : Bool} (hc : c = .tmp t) (hv : dl e t = some (.bool b))
  (ht : b = true → aE W0 N (x.wpR rd P Q) ((t, .bool true) :: e) A) (hf : b = false → aE W0 N (y.wpR rd P Q) ((t, .bool false) :: e) A) : aE W0 N ((Code.cond c x y).wpR rd P Q) e A := by
 intro a w hF hO
 subst hc
 have hs : ∀ b', b = b' → jd e ((t, .bool b') :: e) := fun b' hb => aG (hb ▸ hv) lX
 cases hb : b with
 | true => exact wpIn_cond_true (hF.eval (x := .tmp t) (hb ▸ hv)) (ht hb a w (hF.sub (hs _ hb)) hO)
 | false => exact wpIn_cond_false (hF.eval (x := .tmp t) (hb ▸ hv)) (hf hb a w (hF.sub (hs _ hb)) hO)

-- ways out
theorem ak {n : Act → World → Prop} (h : aE W0 N n e A) : aE W0 N (Ex (Exit.then n Q) .normal) e A := h
theorem fY {id : Nat} (h : aE W0 N (Ex Q .normal) e A) : aE W0 N (Ex (Exit.inBlock id Q) .normal) e A := h
theorem eV {n : Act → World → Prop} {id : Nat} (h : aE W0 N (Ex Q (.exit id)) e A) : aE W0 N (Ex (Exit.then n Q) (.exit id)) e A := h
theorem i3 {id : Nat} (h : aE W0 N (Ex Q .normal) e A) : aE W0 N (Ex (Exit.inBlock id Q) (.exit id)) e A := fun a w hF hO => by
 simp only [Ex, Exit.inBlock, if_true]; exact h a w hF hO
theorem lY {id j : Nat} (hj : Nat.beq j id = false) (h : aE W0 N (Ex Q (.exit j)) e A) : aE W0 N (Ex (Exit.inBlock id Q) (.exit j)) e A := fun a w hF hO => by
 have : j ≠ id := Nat.ne_of_beq_eq_false hj
 simp only [Ex, Exit.inBlock, this, if_false]; exact h a w hF hO
theorem cn {n : Act → World → Prop} (h : aE W0 N (Ex Q .ret) e A) : aE W0 N (Ex (Exit.then n Q) .ret) e A := h
theorem dO {id : Nat} (h : aE W0 N (Ex Q .ret) e A) : aE W0 N (Ex (Exit.inBlock id Q) .ret) e A := h
def tH (W0 : World) (N : FSz) {X : Type} (I : X → Prop) (E : X → bq) (C : X → List HP) (μ : X → Nat) (x : X) : Act → World → Prop :=
  fun a w => ∃ y, I y ∧ μ y < μ x ∧ Fr a N (E y) ∧ Own W0 w (C y)
theorem ce {X : Type} (I : X → Prop) (E : X → bq) (C : X → List HP) (μ : X → Nat) (x : X) {c : Code} (hI : I x) (hs : jd e (E x)) (he : Ent A (C x))
  (hr : ∀ x, I x → aE W0 N (c.wpR rd P (Exit.then (tH W0 N I E C μ x) Q)) (E x) (C x)) : aE W0 N ((Code.loop c).wpR rd P Q) e A := by
 intro a w hF hO b k cs hro hb hr0
 have key : ∀ n x, μ x = n → I x → ∀ a w, Fr a N (E x) → Own W0 w (C x) →
   ∃ e a' w', Q e a' w' ∧ ArrivesIn (Machine.fenced P (FW rd)) P (lone (b.atR a (.code c :: .inLoop c :: k)) cs w) b k cs e a' w' := by
  intro n
  induction n using Nat.strongRecOn with
  | _ n ih =>
   intro x hn hIx a w hF hO
   obtain ⟨ex, a₁, w₁, hq, harr⟩ := hr x hIx a w hF hO b (.inLoop c :: k) cs hro hb hr0
   cases ex with
   | normal =>
    obtain ⟨y, hIy, hlt, hF₁, hO₁⟩ := hq
    obtain ⟨e₂, a₂, w₂, hq₂, harr₂⟩ := ih (μ y) (hn ▸ hlt) y rfl hIy a₁ w₁ hF₁ hO₁
    exact ⟨e₂, a₂, w₂, hq₂, .of_steps (StepsIn.trans harr (.one (fenced_calm hb hr0 rfl) stepR_inLoop)) harr₂⟩
   | exit id => exact ⟨_, a₁, w₁, hq, .pass (x := .inLoop c) rfl (fun _ _ => .inl (by simp)) harr⟩
   | goto l => exact ⟨_, a₁, w₁, hq, .pass (x := .inLoop c) rfl (fun _ _ => .inl (by simp)) harr⟩
   | ret => exact ⟨_, a₁, w₁, hq, .pass (x := .inLoop c) rfl (fun _ _ => .inl (by simp)) harr⟩
   | panic ch => exact ⟨_, a₁, w₁, hq, .pass (x := .inLoop c) rfl (fun _ _ => .inl (by simp)) harr⟩
   | outgrown => exact ⟨_, a₁, w₁, hq, .pass (x := .inLoop c) rfl (fun _ _ => .inl (by simp)) harr⟩
 obtain ⟨e, a', w', hq, harr⟩ := key _ x rfl hI a w (hF.sub hs) (hO.ent he)
 exact ⟨e, a', w', hq, .of_steps (.one (fenced_calm hb hr0 rfl) stepR_loop) harr⟩
theorem bU {X : Type} {I : X → Prop} {E : X → bq} {C : X → List HP} {μ : X → Nat} {x : X} (y : X) (hI : I y) (hμ : μ y < μ x) (hs : jd e (E y)) (he : Ent A (C y)) : aE W0 N (tH W0 N I E C μ x) e A :=
 fun _ _ hF hO => ⟨y, hI, hμ, hF.sub hs, hO.ent he⟩
def tI (W0 : World) (N : FSz) {X : Type} (I : X → Prop) (E : X → bq) (C : X → List HP) : Act → World → Prop := fun a w => ∃ y, I y ∧ Fr a N (E y) ∧ Own W0 w (C y)
theorem gn {X : Type} (I : X → Prop) (E : X → bq) (C : X → List HP) {x y : Code} (h1 : aE W0 N (x.wpR rd P (Exit.then (tI W0 N I E C) Q)) e A)
  (h2 : ∀ z, I z → aE W0 N (y.wpR rd P Q) (E z) (C z)) : aE W0 N ((Code.seq x y).wpR rd P Q) e A := fun a w hF hO => by
 refine wpIn_seq (wpIn_mono (h1 a w hF hO) ?_)
 intro ex a' w' hq
 cases ex with
 | normal =>
  obtain ⟨z, hz, hF', hO'⟩ := hq
  exact h2 z hz a' w' hF' hO'
 | exit id => exact hq
 | goto l => exact hq
 | ret => exact hq
 | panic ch => exact hq
 | outgrown => exact hq
theorem d8 {X : Type} {I : X → Prop} {E : X → bq} {C : X → List HP} (y : X) (hI : I y) (hs : jd e (E y)) (he : Ent A (C y)) : aE W0 N (tI W0 N I E C) e A :=
 fun _ _ hF hO => ⟨y, hI, hF.sub hs, hO.ent he⟩
end control
def bu (W0 : World) (A : List HP) : World → Prop := fun w => Own W0 w A
def bP (P : Program) (S : World → Prop) (N : FSz) (e : bq) (op : Op) (v : Value) : Prop :=
  ∀ a w dst ty pos af g, Fr a N e → S w → (execOp a.eval { dst := dst, op := op, type := ty, pos := pos, after := af, guard := g }).run P w = .ok (.value v) w
section
variable {rd : Option Nat} {P : Program} {W0 : World} {N : FSz} {Q : Exit → Act → World → Prop} {e : bq} {A : List HP} {ops : Array Oper} {rest : List Oper}
variable {op : Op} {ty : TypeId} {pos : String} {af : Array Edge} {v : Value} {d : Nat}
theorem lZ {dst : Option Tmp} {y : Nat → Option Bool} : Region.wanted { dst := dst, op := op, type := ty, pos := pos, after := af, guard := none } y = true := rfl
theorem aa (hd : Nat.blt d N.n = true) (hv : bP P (bu W0 A) N e op v) (k : aE W0 N (bp rd P ops Q rest) ((d, v) :: e) A) :
  aE W0 N (bp rd P ops Q ({ dst := some d, op := op, type := ty, pos := pos, after := af, guard := none } :: rest)) e A := by
 intro a w hF hO
 simp only [bp, lZ, if_true]
 refine .inl ?_
 unfold Oper.wp
 rw [hv a w _ _ _ _ _ hF hO]
 exact k _ _ (hF.put (Nat.lt_of_lt_of_le (Nat.lt_of_succ_le (Nat.le_of_ble_eq_true hd)) (Nat.le_refl _)) v) hO
def fK (ops : Array Oper) (j : Nat) : Option Nat := (ops[j]?).bind (·.dst)
theorem pS {ops : Array Oper} {j t : Nat} {b : Bool} {a : Act} (ht : fK ops j = some t) (hv : a.tmps[t]? = some (.bool b)) : yielded ops a.tmps j = some b := by
 unfold fK at ht
 simp only [yielded]
 cases hj : ops[j]? with
 | none => rw [hj] at ht; cases ht
 | some o =>
  rw [hj] at ht
  simp only [Option.bind_some] at ht
  simp only [Option.bind_some, ht, hv]
theorem tJ {j t : Nat} {want b : Bool} {dst : Option Tmp} (ht : fK ops j = some t) (hv : dl e t = some (.bool b)) (hd : (match dst with | some d => Nat.blt d N.n | none => true) = true)
  (h1 : b = want → aE W0 N (bp rd P ops Q ({ dst := dst, op := op, type := ty, pos := pos, after := af, guard := none } :: rest)) ((t, .bool want) :: e) A)
  (h2 : b = !want → aE W0 N (bp rd P ops Q rest) (match dst with | some d => (d, undef) :: (t, .bool !want) :: e | none => (t, .bool !want) :: e) A) :
  aE W0 N (bp rd P ops Q ({ dst := dst, op := op, type := ty, pos := pos, after := af, guard := some (j, want) } :: rest)) e A := by
 intro a w hF hO
 have hy := pS ht (hF.at_ t _ hv)
 by_cases hb : b = want
 ·have h := h1 hb a w (hF.sub (aG (hb ▸ hv) lX)) hO
  simp only [bp, lZ, if_true] at h
  have hw : Region.wanted { dst := dst, op := op, type := ty, pos := pos, after := af, guard := some (j, want) } (yielded ops a.tmps) = true := by
   simp [Region.wanted, hy, hb]
  simp only [bp, hw, if_true]
  exact h
 ·have hb' : b = !want := by cases b <;> cases want <;> simp_all
  have hw : Region.wanted { dst := dst, op := op, type := ty, pos := pos, after := af, guard := some (j, want) } (yielded ops a.tmps) = false := by
   simp [Region.wanted, hy, hb']
  simp only [bp, hw, Bool.false_eq_true, if_false]
  have hF' := hF.sub (aG (t := t) (v := .bool !want) (hb' ▸ hv) lX)
  cases dst with
  | none => exact h2 hb' a w hF' hO
  | some d => exact h2 hb' _ w (hF'.put (Nat.lt_of_succ_le (Nat.le_of_ble_eq_true hd)) undef) hO
theorem aY {j t : Nat} {want : Bool} {dst : Option Tmp} (ht : fK ops j = some t) (hv : dl e t = some (.bool want))
  (h : aE W0 N (bp rd P ops Q ({ dst := dst, op := op, type := ty, pos := pos, after := af, guard := none } :: rest)) e A) :
  aE W0 N (bp rd P ops Q ({ dst := dst, op := op, type := ty, pos := pos, after := af, guard := some (j, want) } :: rest)) e A := by
 intro a w hF hO
 have hy := pS ht (hF.at_ t _ hv)
 have h := h a w hF hO
 simp only [bp, lZ, if_true] at h
 have hw : Region.wanted { dst := dst, op := op, type := ty, pos := pos, after := af, guard := some (j, want) } (yielded ops a.tmps) = true := by
  simp [Region.wanted, hy]
 simp only [bp, hw, if_true]
 exact h
theorem yK {j t : Nat} {want : Bool} (ht : fK ops j = some t) (hv : dl e t = some undef) (hd : Nat.blt d N.n = true)
  (h : aE W0 N (bp rd P ops Q rest) ((d, undef) :: e) A) :
  aE W0 N (bp rd P ops Q ({ dst := some d, op := op, type := ty, pos := pos, after := af, guard := some (j, want) } :: rest)) e A := by
 intro a w hF hO
 have hy : yielded ops a.tmps j = none := by
  have hv' := hF.at_ t _ hv
  unfold fK at ht
  simp only [yielded]
  cases hj : ops[j]? with
  | none => rw [hj] at ht; cases ht
  | some o =>
   rw [hj] at ht
   simp only [Option.bind_some] at ht
   simp only [Option.bind_some, ht, hv']
   rfl
 have hw : Region.wanted { dst := some d, op := op, type := ty, pos := pos, after := af, guard := some (j, want) } (yielded ops a.tmps) = false := by
  simp [Region.wanted, hy]
 simp only [bp, hw, Bool.false_eq_true, if_false]
 exact h _ w (hF.put (Nat.lt_of_succ_le (Nat.le_of_ble_eq_true hd)) undef) hO
theorem bK {j t : Nat} {want b : Bool} (ht : fK ops j = some t) (hv : dl e t = some (.bool b)) (hb : Bool.xor b want = true) (hd : Nat.blt d N.n = true)
  (h : aE W0 N (bp rd P ops Q rest) ((d, undef) :: e) A) :
  aE W0 N (bp rd P ops Q ({ dst := some d, op := op, type := ty, pos := pos, after := af, guard := some (j, want) } :: rest)) e A := by
 intro a w hF hO
 have hy := pS ht (hF.at_ t _ hv)
 have hw : Region.wanted { dst := some d, op := op, type := ty, pos := pos, after := af, guard := some (j, want) } (yielded ops a.tmps) = false := by
  cases b <;> cases want <;> simp_all [Region.wanted]
 simp only [bp, hw, Bool.false_eq_true, if_false]
 exact h _ w (hF.put (Nat.lt_of_succ_le (Nat.le_of_ble_eq_true hd)) undef) hO
end
section
variable {rd : Option Nat} {P : Program} {S : World → Prop} {N : FSz} {e : bq} {x y c : Operand} {v u : Value} {t t' : TypeId} {k k' : IntKind} {m n r : Int}
theorem ag (h : ev e x = some v) : bP P S N e (.move x) v := fun a w _ _ _ _ _ hF _ => by
 rw [← hF.eval h]; rfl
theorem ax (h : ev e x = some v) : bP P S N e (.assign x) v := fun a w _ _ _ _ _ hF _ => by
 rw [← hF.eval h]; rfl
theorem cV (hc : ev e c = some (.bool true)) (h : ev e x = some v) : bP P S N e (.pick c x y) v := fun a w _ _ _ _ _ hF _ => by
 simp [execOp, hF.eval hc, hF.eval h, asBool]
theorem d4 (hc : ev e c = some (.bool false)) (h : ev e y = some v) : bP P S N e (.pick c x y) v := fun a w _ _ _ _ _ hF _ => by
 simp [execOp, hF.eval hc, hF.eval h, asBool]
theorem eW {op : BinOp} (hx : ev e x = some u) (hy : ev e y = some v) {r : Value} (hg : ∀ w x y, (eqGuard op t x y u v).run P w = .ok () w)
  (h : ∀ w, (binOp op t u v).run P w = .ok r w) : bP P S N e (.binOp op t x y t') r := fun a w _ _ _ _ _ hF _ => by
 simp only [execOp, hF.eval hx, hF.eval hy, Sem.run_bind, hg, Result.andThen_ok, h, Sem.run_pure]
theorem fZ {op : BinOp} (w : World) (x y : Operand) : (eqGuard op t x y (.int k m) (.int k' n)).run P w = .ok () w := by
 cases op <;> simp [eqGuard]
theorem tK {op : BinOp} {p q : Bool} (w : World) (x y : Operand) : (eqGuard op t x y (.bool p) (.bool q)).run P w = .ok () w := by
 cases op <;> simp [eqGuard]
theorem tL {op : BinOp} {p q : Option Addr} (w : World) (x y : Operand) : (eqGuard op t x y (.pointer p) (.pointer q)).run P w = .ok () w := by
 cases op <;> simp [eqGuard]
theorem bj (hx : ev e x = some (.int k m)) (hy : ev e y = some (.int k n)) (hw : k.wrap (m + n) = r) : bP P S N e (.binOp .add t x y t') (.int k r) :=
 eW hx hy fZ fun w => by simp [binOp, Op.intArith, hw]
theorem dG (hx : ev e x = some (.int k m)) (hy : ev e y = some (.int k n)) (hw : k.wrap (m - n) = r) : bP P S N e (.binOp .sub t x y t') (.int k r) :=
 eW hx hy fZ fun w => by simp [binOp, Op.intArith, hw]
theorem i4 (hx : ev e x = some (.int k m)) (hy : ev e y = some (.int k n)) (hw : k.wrap (m * n) = r) : bP P S N e (.binOp .mul t x y t') (.int k r) :=
 eW hx hy fZ fun w => by simp [binOp, Op.intArith, hw]
theorem pT (hx : ev e x = some (.int k m)) (hy : ev e y = some (.int k n)) (hn : n ≠ 0) (hw : k.wrap (m.tdiv n) = r) : bP P S N e (.binOp .quo t x y t') (.int k r) :=
 eW hx hy fZ fun w => by simp [binOp, Op.intDiv, hw, hn]
theorem pU (hx : ev e x = some (.int k m)) (hy : ev e y = some (.int k n)) (hn : n ≠ 0) (hw : m.tmod n = r) : bP P S N e (.binOp .rem t x y t') (.int k r) :=
 eW hx hy fZ fun w => by simp [binOp, Op.intDiv, hw, hn]
def pW (k : IntKind) (m n : Int) : Int := k.wrap (BitVec.ofInt k.bits m &&& BitVec.ofInt k.bits n).toNat
def nz (k : IntKind) (m n : Int) : Int := k.wrap (BitVec.ofInt k.bits m ||| BitVec.ofInt k.bits n).toNat
def pX (k : IntKind) (m n : Int) : Int := k.wrap (BitVec.ofInt k.bits m &&& ~~~ BitVec.ofInt k.bits n).toNat
theorem tM (hx : ev e x = some (.int k m)) (hy : ev e y = some (.int k n)) (hw : pW k m n = r) : bP P S N e (.binOp .and t x y t') (.int k r) :=
 eW hx hy fZ fun w => by rw [← hw]; simp [binOp, Op.intBits, pW]
theorem yL (hx : ev e x = some (.int k m)) (hy : ev e y = some (.int k n)) (hw : nz k m n = r) : bP P S N e (.binOp .or t x y t') (.int k r) :=
 eW hx hy fZ fun w => by rw [← hw]; simp [binOp, Op.intBits, nz]
theorem yM (hx : ev e x = some (.int k m)) (hy : ev e y = some (.int k n)) (hw : pX k m n = r) : bP P S N e (.binOp .andNot t x y t') (.int k r) :=
 eW hx hy fZ fun w => by rw [← hw]; simp [binOp, Op.intBits, pX]
def m4 (k : IntKind) (m n : Int) : Int := k.wrap (m * 2 ^ (min n.toNat k.bits))
def kO (k : IntKind) (m n : Int) : Int := m.fdiv (2 ^ (min n.toNat k.bits))
theorem tN (hx : ev e x = some (.int k m)) (hy : ev e y = some (.int k' n)) (hn : 0 ≤ n) (hw : m4 k m n = r) : bP P S N e (.binOp .shl t x y t') (.int k r) :=
 eW hx hy fZ fun w => by
  have : ¬ n < 0 := by omega
  rw [← hw]; simp [binOp, Op.shift, this, m4]
theorem nB (hx : ev e x = some (.int k m)) (hy : ev e y = some (.int k' n)) (hn : 0 ≤ n) (hw : kO k m n = r) : bP P S N e (.binOp .shr t x y t') (.int k r) :=
 eW hx hy fZ fun w => by
  have : ¬ n < 0 := by omega
  rw [← hw]; simp [binOp, Op.shift, this, kO]
theorem dd (hx : ev e x = some (.int k m)) (hy : ev e y = some (.int k n)) : bP P S N e (.binOp .eql t x y t') (.bool (m == n)) :=
 eW hx hy fZ fun w => by simp [binOp, Op.intCmp]
theorem du (hx : ev e x = some (.int k m)) (hy : ev e y = some (.int k n)) : bP P S N e (.binOp .neq t x y t') (.bool (m != n)) :=
 eW hx hy fZ fun w => by simp [binOp, Op.intCmp]
theorem eO (hx : ev e x = some (.int k m)) (hy : ev e y = some (.int k n)) : bP P S N e (.binOp .lss t x y t') (.bool (decide (m < n))) :=
 eW hx hy fZ fun w => by simp [binOp, Op.intCmp]
theorem tO (hx : ev e x = some (.int k m)) (hy : ev e y = some (.int k n)) : bP P S N e (.binOp .leq t x y t') (.bool (decide (m ≤ n))) :=
 eW hx hy fZ fun w => by simp [binOp, Op.intCmp]
theorem iP (hx : ev e x = some (.int k m)) (hy : ev e y = some (.int k n)) : bP P S N e (.binOp .gtr t x y t') (.bool (decide (n < m))) :=
 eW hx hy fZ fun w => by simp [binOp, Op.intCmp]
theorem iQ (hx : ev e x = some (.int k m)) (hy : ev e y = some (.int k n)) : bP P S N e (.binOp .geq t x y t') (.bool (decide (n ≤ m))) :=
 eW hx hy fZ fun w => by simp [binOp, Op.intCmp]
theorem dH {d : TypeDesc} (h : P.underlying t = some d) (w : World) : (underlying t).run P w = .ok d w := by
 simp [underlying, h]
def iR (P : Program) (n : Nat) (t : TypeId) (u v : Value) (b : Bool) : Prop := ∀ d w, (Op.equalIn (d + n) t u v).run P w = .ok b w
theorem pY {u v : Value} {b : Bool} (hb : binOp .eql t u v = (do pure (.bool (← Op.equal t u v)))) (h : iR P 9 t u v b) (w : World) : (binOp .eql t u v).run P w = .ok (.bool b) w := by
 rw [hb]
 have := h 9991 w
 show ((Op.equalIn (9991 + 9) t u v) >>= _).run P w = _
 rw [Sem.run_bind, this]; rfl
theorem pZ {u v : Value} {b : Bool} (hb : binOp .neq t u v = (do pure (.bool (!(← Op.equal t u v))))) (h : iR P 9 t u v b) (w : World) : (binOp .neq t u v).run P w = .ok (.bool (!b)) w := by
 rw [hb]
 have := h 9991 w
 show ((Op.equalIn (9991 + 9) t u v) >>= _).run P w = _
 rw [Sem.run_bind, this]; rfl
theorem tP {p q : Bool} {z : Nat} (hu : P.underlying t = some .bool) : iR P (z + 1) t (.bool p) (.bool q) (p == q) := fun d w => run_equalIn_bool' w (d + z) t p q hu
theorem tQ {z : Nat} (hu : P.underlying t = some (.int k')) : iR P (z + 1) t (.int k m) (.int k n) (m == n) := fun d w => run_equalIn_int w (d + z) t k k' m n hu
theorem tT {p q : Bool} (hu : P.underlying t = some .bool) (hx : ev e x = some (.bool p)) (hy : ev e y = some (.bool q)) : bP P S N e (.binOp .eql t x y t') (.bool (p == q)) :=
 eW hx hy tK (pY rfl (tP hu))
theorem tU {p q : Bool} (hu : P.underlying t = some .bool) (hx : ev e x = some (.bool p)) (hy : ev e y = some (.bool q)) : bP P S N e (.binOp .neq t x y t') (.bool (!(p == q))) :=
 eW hx hy tK (pZ rfl (tP hu))
theorem tV {E : TypeId} {p : Option Addr} {z : Nat} (hu : P.underlying t = some (.pointer E)) : iR P (z + 1) t (.pointer p) (.pointer none) p.isNone := fun d w =>
 run_equalIn_pointer_nil w (d + z) t p (by rw [show P.pointee t = E by simp [Program.pointee, hu]]; exact hu)
theorem jT {E : TypeId} {p : Option Addr} (hu : P.underlying t = some (.pointer E)) (hx : ev e x = some (.pointer p)) (hy : ev e y = some (.pointer none)) : bP P S N e (.binOp .eql t x y t') (.bool p.isNone) :=
 eW hx hy tL (pY rfl (tV hu))
theorem yN {E : TypeId} {p : Option Addr} (hu : P.underlying t = some (.pointer E)) (hx : ev e x = some (.pointer p)) (hy : ev e y = some (.pointer none)) : bP P S N e (.binOp .neq t x y t') (.bool (!p.isNone)) :=
 eW hx hy tL (pZ rfl (tV hu))
def kP (P : Program) (z : Nat) (xs ys : List Value) (fs : List Field) (b : Bool) : Prop := ∀ d w, (Op.eqFields (d + z) xs.toArray ys.toArray fs).run P w = .ok b w
theorem yO {xs ys : List Value} {z : Nat} : kP P z xs ys [] true := fun d w => by simp [Op.eqFields]
theorem q9 {l : List Value} {i : Nat} (ha : ∀ w, (isAgg t).run P w = .ok false w) (hi : l[i]? = some v) (w : World) : (part t l.toArray i).run P w = .ok v w := by
 simp [part, ha, hi]
theorem yP {xs ys : List Value} {nm : String} {ft fo : Nat} {em : Bool} {tg pk : String} {bo : Nat} {fs : List Field} {b c : Bool} {z : Nat} (hn : (nm == "_") = false) (hx : ∀ w, (part ft xs.toArray fo).run P w = .ok u w) (hy : ∀ w, (part ft ys.toArray fo).run P w = .ok v w)
  (h : iR P z ft u v b) (r : kP P z xs ys fs c) : kP P z xs ys (⟨nm, ft, fo, em, tg, pk, bo⟩ :: fs) (b && c) := fun d w => by
 have hn' : nm ≠ "_" := by simpa using hn
 simp only [Op.eqFields, hn', ne_eq, not_false_eq_true, if_true, Sem.run_bind, hx, hy, Result.andThen_ok, h d]
 cases b with
 | false => simp
 | true => simp [r d w]
theorem tW {xs ys : List Value} {nm : String} {ft fo : Nat} {em : Bool} {tg pk : String} {bo : Nat} {fs : List Field} {b c : Bool} {z : Nat} (hn : (nm == "_") = false) (ha : ∀ w, (isAgg ft).run P w = .ok false w) (hx : xs[fo]? = some u) (hy : ys[fo]? = some v)
  (h : iR P z ft u v b) (r : kP P z xs ys fs c) : kP P z xs ys (⟨nm, ft, fo, em, tg, pk, bo⟩ :: fs) (b && c) := yP hn (q9 ha hx) (q9 ha hy) h r
theorem yQ {xs ys : List Value} {fs : Array Field} {b : Bool} {z : Nat} (hu : P.underlying t = some (.struct fs)) (hp : P.stoodInHeld t = false) (h : kP P z xs ys fs.toList b) : iR P (z + 1) t (.agg xs.toArray) (.agg ys.toArray) b := fun d w => by
 have hf : P.fieldsOf t = fs := by simp [Program.fieldsOf, hu]
 rw [← Nat.add_assoc, run_equalIn_struct w (d + z) t _ _ (by rw [hf]; exact hu) hp, hf]
 exact h d w
theorem yR {op : BinOp} {xs ys : Array Value} (hg : P.eqGuardType P.depth t = false) (w : World) (x y : Operand) : (eqGuard op t x y (.agg xs) (.agg ys)).run P w = .ok () w := by
 cases op <;> simp [eqGuard, hg]
theorem yS {xs ys : List Value} {b : Bool} (hg : P.eqGuardType P.depth t = false) (hx : ev e x = some (.agg xs.toArray)) (hy : ev e y = some (.agg ys.toArray)) (h : iR P 9 t (.agg xs.toArray) (.agg ys.toArray) b) : bP P S N e (.binOp .neq t x y t') (.bool (!b)) :=
 eW hx hy (yR hg) (pZ rfl h)
theorem fM {b : Bool} (hx : ev e x = some (.bool b)) : bP P S N e (.unOp .not t x) (.bool (!b)) := fun a w _ _ _ _ _ hF _ => by
 simp [execOp, hF.eval hx, Op.unary]
theorem g5 {d : TypeDesc} (hs : P.underlying t = some d) (hu : P.underlying t' = some (.int k)) (hx : ev e x = some (.int k' n)) (hw : k.wrap n = r) : bP P S N e (.convert t t' x) (.int k r) := fun a w _ _ _ _ _ hF _ => by
 rw [← hw]; simp [execOp, hF.eval hx, convert, dH hs, dH hu, Conv.intToInt]
theorem bZ {l : List Value} {i : Nat} (hx : ev e x = some (.tuple l.toArray)) (hi : l[i]? = some v) : bP P S N e (.extract x i) v := fun a w _ _ _ _ _ hF _ => by
 simp [execOp, hF.eval hx, Instr.extract, hi]
theorem aU {a' : Addr} (hx : ev e x = some (.pointer (some a'))) : bP P S N e (.nilCheck x) (.pointer (some a')) := fun a w _ _ _ _ _ hF _ => by
 simp [execOp, hF.eval hx]
theorem dU {E n c : Nat} {a' : Option Addr} (hu : P.underlying t = some (.slice E)) (hx : ev e x = some (.slice a' n c)) :
  bP P S N e (.call { callee := .builtin .len, args := #[x], argTypes := #[t] }) (.int .i64 n) := fun a w _ _ _ _ _ hF _ => by
 simp [execOp, resolve, invoke, builtin, Builtin.len_, hF.eval hx, dH hu, goInt]
theorem ap {T : TypeId} {fs : Array Field} {nm : String} {ft fo : Nat} {em : Bool} {tg pk : String} {bo i b off off' sz : Nat} (hx : ev e x = some (.pointer (some ⟨b, off, none⟩))) (hu : P.underlying T = some (.struct fs)) (hf : fs.toList[i]? = some ⟨nm, ft, fo, em, tg, pk, bo⟩)
  (hs : ∀ w, (sizeOf ft).run P w = .ok sz w) (hz : Nat.beq sz 0 = false) (ho : off + fo = off') : bP P S N e (.fieldAddr T x i) (.pointer (some ⟨b, off', none⟩)) := fun a w _ _ _ _ _ hF _ => by
 subst ho
 have hz' : sz ≠ 0 := Nat.ne_of_beq_eq_false hz
 have hf' : fs[i]? = some ⟨nm, ft, fo, em, tg, pk, bo⟩ := by simpa using hf
 simp [execOp, Instr.fieldAt, hF.eval hx, dH hu, hf', Instr.sureAddr, fieldPlace, hs, hz', Addr.add]
end
class SetL (l : List Value) (i : Nat) (v : Value) (l' : outParam (List Value)) : Prop where
  eq : l.set i v = l'
instance FJ {x v : Value} {l : List Value} : SetL (x :: l) 0 v (v :: l) := ⟨rfl⟩
instance FK {x v : Value} {l l' : List Value} {i : Nat} [h : SetL l i v l'] : SetL (x :: l) (i + 1) v (x :: l') := ⟨by rw [List.set_cons_succ, h.eq]⟩
def setR : List Value → Nat → List Value → List Value
  | l, _, [] => l
  | l, i, v :: vs => setR (l.set i v) (i + 1) vs
theorem m5 : ∀ (vs l : List Value) (i : Nat), (setR l i vs).length = l.length
 | [], _, _ => rfl
 | v :: vs, l, i => by rw [setR, m5 vs]; simp
class SetRL (l : List Value) (i : Nat) (vs : List Value) (l' : outParam (List Value)) : Prop where
  eq : setR l i vs = l'
instance FL {l : List Value} {i : Nat} : SetRL l i [] l := ⟨rfl⟩
instance FM {l l' l'' vs : List Value} {i : Nat} {v : Value} [h : SetL l i v l'] [k : SetRL l' (i + 1) vs l''] : SetRL l i (v :: vs) l'' := ⟨by rw [setR, h.eq, k.eq]⟩
theorem nD : ∀ (vs l p : List Value), vs.length = l.length → setR (p ++ l) p.length vs = p ++ vs
 | [], l, p, h => by
  have : l = [] := List.length_eq_zero_iff.1 h.symm
  subst this; rfl
 | v :: vs, [], p, h => by simp at h
 | v :: vs, x :: l, p, h => by
  rw [setR]
  have e1 : (p ++ x :: l).set p.length v = (p ++ [v]) ++ l := by simp
  rw [e1]
  have := nD vs l (p ++ [v]) (by simpa using h)
  simp only [List.length_append, List.length_cons, List.length_nil, Nat.zero_add] at this
  rw [this]; simp
class TakeL (l : List Value) (i n : Nat) (l' : outParam (List Value)) : Prop where
  eq : (l.drop i).take n = l'
instance FN {l : List Value} : TakeL l 0 0 [] := ⟨by simp⟩
instance FO {l l' : List Value} {n : Nat} {x : Value} [h : TakeL l 0 n l'] : TakeL (x :: l) 0 (n + 1) (x :: l') := ⟨by have := h.eq; simp at this; simp [this]⟩
instance FP {l l' : List Value} {i n : Nat} {x : Value} [h : TakeL l i n l'] : TakeL (x :: l) (i + 1) n l' := ⟨by rw [List.drop_succ_cons, h.eq]⟩
section
variable {rd : Option Nat} {P : Program} {S : World → Prop} {W0 : World} {N : FSz} {Q : Exit → Act → World → Prop} {e : bq} {A B R : List HP} {ops : Array Oper} {rest : List Oper}
variable {op : Op} {ty t : TypeId} {pos : String} {af : Array Edge} {v : Value} {d b off : Nat} {x y : Operand} {l l' vs : List Value}
def ik (S : World → Prop) (b off : Nat) (v : Value) : Prop := ∀ w, S w → w.cell? ⟨b, off, none⟩ = some v
theorem Own.tk {K X : Type} {r : K → X → HP} {w : World} {b : K} {x : X} (h : Own W0 w A) [k : Tk r b A x R] : Own W0 w (r b x :: R) := h.perm k.perm
theorem aH [h : Tk pt b A (aj l ty) R] (hv : l[off]? = some v) : ik (bu W0 A) b off v := fun w (hO : Own W0 w A) => by
 have := (hO.tk (r := pt) (b := b)).has.2
 simp [World.cell?, this, hv]
theorem tX (h : W0.cell? ⟨b, off, none⟩ = some v) : ik (bu W0 A) b off v := fun w (hO : Own W0 w A) => by
 have hb : b < W0.heap.size := by
  rcases Nat.lt_or_ge b W0.heap.size with k | k
  ·exact k
  ·simp [World.cell?, Array.getElem?_eq_none k] at h
 rw [← h]; simp [World.cell?, hO.base b hb]
theorem ik.weak (h : ik (bu W0 B) b off v) [k : Ent A B] : ik (bu W0 A) b off v := fun w (hO : Own W0 w A) => h w (hO.ent k)
def cp (S : World → Prop) (b off : Nat) (vs : List Value) : Prop := ∀ i v, vs[i]? = some v → ik S b (off + i) v
theorem ju [h : Tk pt b A (aj l ty) R] (hv : (l.drop off).take vs.length = vs) : cp (bu W0 A) b off vs := fun i v hi => by
 refine aH ?_
 have hlt : i < vs.length := by
  rcases Nat.lt_or_ge i vs.length with k | k
  ·exact k
  ·simp [List.getElem?_eq_none k] at hi
 rw [← hv] at hi
 rw [List.getElem?_take_of_lt hlt, List.getElem?_drop] at hi
 exact hi
theorem fp [h : Tk pt b A (aj l ty) R] {n : Nat} (hv : (l.drop off).take n = vs) (hn : vs.length = n) : cp (bu W0 A) b off vs := ju (by rw [hn]; exact hv)
theorem f5 (n : Nat) : (⟨b, off, none⟩ : Addr).add n = ⟨b, off + n, none⟩ := by
 unfold Addr.add; split
 ·rename_i h; subst h; rfl
 ·rfl
theorem nE {w : World} (hc : ∀ i v, vs[i]? = some v → w.cell? ⟨b, off + i, none⟩ = some v) : ∀ (n i : Nat) (acc : Array Value), i + n = vs.length →
  (loadCellsFrom ⟨b, off, none⟩ i n acc).run P w = .ok (acc ++ (vs.drop i).toArray) w
 | 0, i, acc, h => by
  have : vs.drop i = [] := by rw [List.drop_eq_nil_iff]; omega
  simp [loadCellsFrom, this]
 | n + 1, i, acc, h => by
  have hi : i < vs.length := by omega
  have hcell := hc i vs[i] (by simp [hi])
  simp only [loadCellsFrom, Sem.run_bind, run_load, f5, hcell, Result.andThen_ok]
  rw [nE hc n (i + 1) _ (by omega)]
  rw [List.drop_eq_getElem_cons hi]
  simp
theorem am (ha : ∀ w, (isAgg t).run P w = .ok false w) (hx : ev e x = some (.pointer (some ⟨b, off, none⟩))) (hc : ik S b off v) : bP P S N e (.load t x) v := fun a w _ _ _ _ _ hF hO => by
 simp [execOp, Instr.loadAt, Instr.sureAddr, hF.eval hx, loadVar, ha, hc w hO]
theorem cj {n : Nat} (ha : ∀ w, (isAgg t).run P w = .ok true w) (hs : ∀ w, (sizeOf t).run P w = .ok n w) (hx : ev e x = some (.pointer (some ⟨b, off, none⟩))) (hc : cp S b off vs) (hn : vs.length = n) :
  bP P S N e (.load t x) (.agg vs.toArray) := fun a w _ _ _ _ _ hF hO => by
 have := nE (P := P) (w := w) (fun i v hi => hc i v hi w hO) n 0 #[] (by omega)
 simp [execOp, Instr.loadAt, Instr.sureAddr, hF.eval hx, loadVar, ha, hs, loadCells, this]
theorem iS [h : Tk pt b A (aj l ty) R] {n : Nat} (ha : ∀ w, (isAgg t).run P w = .ok true w) (hs : ∀ w, (sizeOf t).run P w = .ok n w) (hx : ev e x = some (.pointer (some ⟨b, 0, none⟩))) (hn : l.length = n) :
  bP P (bu W0 A) N e (.load t x) (.agg l.toArray) :=
 cj ha hs hx (ju (by simp)) hn
theorem tY {w : World} (h : Own W0 w (pt b (aj l ty) :: R)) (v : Value) : Own W0 (w.setCell ⟨b, off, none⟩ v) (pt b (aj (l.set off v) ty) :: R) := by
 refine h.set rfl rfl rfl (by simp [World.setCell]) ?_ (fun k hk => Below.heap_setCell _ _ _ _ hk)
 have := h.has.2
 simp [World.setCell, Array.getElem?_modify, this, aj]
theorem tZ {w : World} (h : Own W0 w (pt b (aj l ty) :: R)) (ho : off < l.length) (h1 : v.oneCell' = true) : (store ⟨b, off, none⟩ v).run P w = .ok () (w.setCell ⟨b, off, none⟩ v) := by
 have hb := h.has.2
 rw [run_store P w _ v _ h1]
 have : w.cell? ⟨b, off, none⟩ = some l[off] := by simp [World.cell?, hb, ho]
 simp [this, World.frozen?, hb]
theorem jU (h1 : v.oneCell' = true) : v.cells = #[v] := by cases v <;> first | rfl | cases h1
def cQ (P : Program) (W0 : World) (N : FSz) (e : bq) (A : List HP) (op : Op) (Post : Value → List HP → Prop) : Prop :=
  ∀ a w dst ty pos af g (K : Act → World → Prop) (Q : Exit → Act → World → Prop), Fr a N e → Own W0 w A → (∀ v w' B, Post v B → Own W0 w' B → K (a.put dst v) w') →
    Oper.wp P { dst := dst, op := op, type := ty, pos := pos, after := af, guard := g } a w K Q
theorem ae {Post : Value → List HP → Prop} (hd : Nat.blt d N.n = true) (h : cQ P W0 N e A op Post) (k : ∀ v B, Post v B → aE W0 N (bp rd P ops Q rest) ((d, v) :: e) B) :
  aE W0 N (bp rd P ops Q ({ dst := some d, op := op, type := ty, pos := pos, after := af, guard := none } :: rest)) e A := by
 intro a w hF hO
 simp only [bp, lZ, if_true]
 exact .inl (h a w _ _ _ _ _ _ _ hF hO fun v w' B hp hO' => k v B hp _ _ (hF.put (Nat.lt_of_succ_le (Nat.le_of_ble_eq_true hd)) v) hO')
theorem b0 {Post : Value → List HP → Prop} (h : cQ P W0 N e A op Post) (k : ∀ v B, Post v B → aE W0 N (bp rd P ops Q rest) e B) :
  aE W0 N (bp rd P ops Q ({ dst := none, op := op, type := ty, pos := pos, after := af, guard := none } :: rest)) e A := by
 intro a w hF hO
 simp only [bp, lZ, if_true]
 exact .inl (h a w _ _ _ _ _ _ _ hF hO fun v w' B hp hO' => k v B hp _ _ hF hO')
theorem jV {Post : Value → List HP → Prop} (h : ∀ a w dst ty pos af g, Fr a N e → Own W0 w A → ∃ v w' B, ((execOp a.eval { dst := dst, op := op, type := ty, pos := pos, after := af, guard := g }).run P w = .ok (.value v) w' ∨
   ((execOp a.eval { dst := dst, op := op, type := ty, pos := pos, after := af, guard := g }).run P w = .ok .skip w' ∧ v = undef)) ∧ Post v B ∧ Own W0 w' B) : cQ P W0 N e A op Post := by
 intro a w dst ty pos af g K Q hF hO k
 obtain ⟨v, w', B, hr, hp, hO'⟩ := h a w dst ty pos af g hF hO
 unfold Oper.wp
 rcases hr with hr | ⟨hr, rfl⟩
 ·rw [hr]; exact k v w' B hp hO'
 ·rw [hr]; exact k _ w' B hp hO'
theorem ec (h : bP P (bu W0 A) N e op v) : cQ P W0 N e A op (fun u B => u = v ∧ B = A) := jV fun a w _ _ _ _ _ hF hO =>
 ⟨v, w, A, .inl (h a w _ _ _ _ _ hF hO), ⟨rfl, rfl⟩, hO⟩
theorem bN [h : Tk pt b A (aj l ty) R] (hs : ∀ w, (sizeOf t).run P w = .ok 1 w) (hx : ev e x = some (.pointer (some ⟨b, off, none⟩))) (hy : ev e y = some v)
  (h1 : v.oneCell' = true) (ho : off < l.length) (hl : l.set off v = l') : cQ P W0 N e A (.store t x y) (fun _ B => B = pt b (aj l' ty) :: R) := jV fun a w _ _ _ _ _ hF hO => by
 have hO' := hO.tk (r := pt) (b := b)
 refine ⟨undef, w.setCell ⟨b, off, none⟩ v, _, .inr ⟨?_, rfl⟩, rfl, hl ▸ tY hO' v⟩
 simp [execOp, Instr.storeAt, Instr.sureAddr, hF.eval hx, hF.eval hy, storeVar, hs, jU h1, storeCells, f5, tZ hO' ho h1]
theorem qa : ∀ (vs : List Value) {l : List Value} {w : World} (i : Nat), Own W0 w (pt b (aj l ty) :: R) → off + i + vs.length ≤ l.length → (∀ v ∈ vs, v.oneCell' = true) →
  ∃ w', (storeCells ⟨b, off, none⟩ vs i).run P w = .ok () w' ∧ Own W0 w' (pt b (aj (setR l (off + i) vs) ty) :: R)
 | [], l, w, i, h, _, _ => ⟨w, by simp [storeCells], h⟩
 | v :: vs, l, w, i, h, hlen, h1 => by
  simp only [List.length_cons] at hlen
  have hr := tZ (P := P) h (off := off + i) (by omega) (h1 v (by simp))
  obtain ⟨w', hr', ho'⟩ := qa vs (i + 1) (tY (off := off + i) h v) (by simp; omega) (fun u hu => h1 u (by simp [hu]))
  refine ⟨w', ?_, ho'⟩
  simp only [storeCells, Sem.run_bind, f5, hr, Result.andThen_ok, hr']
def ek (vs : List Value) : Bool := vs.all (·.oneCell')
theorem iD {n : Nat} [h : Tk pt b A (aj l ty) R] (hs : ∀ w, (sizeOf t).run P w = .ok n w) (hx : ev e x = some (.pointer (some ⟨b, off, none⟩))) (hy : ev e y = some (.agg vs.toArray))
  (hn : vs.length = n) (h1 : ek vs = true) (ho : off + n ≤ l.length) (hl : setR l off vs = l') : cQ P W0 N e A (.store t x y) (fun _ B => B = pt b (aj l' ty) :: R) := jV fun a w _ _ _ _ _ hF hO => by
 have hO' := hO.tk (r := pt) (b := b)
 obtain ⟨w', hr, hO''⟩ := qa (P := P) (off := off) vs 0 hO' (by omega) (fun v hv => by simpa [ek] using (List.all_eq_true.1 h1 v hv))
 rw [Nat.add_zero] at hO''
 refine ⟨undef, w', _, .inr ⟨?_, rfl⟩, rfl, hl ▸ hO''⟩
 simp [execOp, Instr.storeAt, Instr.sureAddr, hF.eval hx, hF.eval hy, storeVar, hs, Value.cells, hn, hr]
theorem bS {n : Nat} [h : Tk pt b A (aj l ty) R] (hs : ∀ w, (sizeOf t).run P w = .ok n w) (hx : ev e x = some (.pointer (some ⟨b, 0, none⟩))) (hy : ev e y = some (.agg vs.toArray))
  (hn : vs.length = n) (h1 : ek vs = true) (ho : l.length = n) : cQ P W0 N e A (.store t x y) (fun _ B => B = pt b (aj vs ty) :: R) :=
 iD hs hx hy hn h1 (by omega) (by simpa using nD vs l [] (by omega))
theorem jW {o : Obj} {g : Nat → Value}
  (hrun : ∀ a w dst ty pos af g', Fr a N e → Own W0 w A → (execOp a.eval { dst := dst, op := op, type := ty, pos := pos, after := af, guard := g' }).run P w = .ok (.value (g w.heap.size)) { w with heap := w.heap.push o }) :
  cQ P W0 N e A op (fun v B => ∃ b, v = g b ∧ B = pt b o :: A) := jV fun a w _ _ _ _ _ hF hO =>
 ⟨_, _, _, .inl (hrun a w _ _ _ _ _ hF hO), ⟨w.heap.size, rfl, rfl⟩, hO.new o⟩
theorem cd (hz : ∀ w, (zeroValue t).run P w = .ok (.agg l.toArray) w) : cQ P W0 N e A (.alloc t) (fun v B => ∃ b, v = .pointer (some ⟨b, 0, none⟩) ∧ B = pt b (aj l t) :: A) :=
 jW (g := fun b => .pointer (some ⟨b, 0, none⟩)) (fun a w _ _ _ _ _ hF _ => by simp [execOp, Instr.alloc, hz, newVar, newRow, Value.cells])
theorem nF (hz : ∀ w, (zeroValue t).run P w = .ok v w) (h1 : v.oneCell' = true) : cQ P W0 N e A (.alloc t) (fun u B => ∃ b, u = .pointer (some ⟨b, 0, none⟩) ∧ B = pt b (aj [v] t) :: A) :=
 jW (g := fun b => .pointer (some ⟨b, 0, none⟩)) (fun a w _ _ _ _ _ hF _ => by simp [execOp, Instr.alloc, hz, newVar, newRow, jU h1])
theorem bw (hx : ev e x = some (.agg l.toArray)) : cQ P W0 N e A (.box t x) (fun v B => ∃ b, v = .pointer (some ⟨b, 0, none⟩) ∧ B = pt b (aj l t) :: A) :=
 jW (g := fun b => .pointer (some ⟨b, 0, none⟩)) (fun a w _ _ _ _ _ hF _ => by simp [execOp, Instr.box, hF.eval hx, newVar, newRow, Value.cells])
theorem jv (hx : ev e x = some v) (h1 : v.oneCell' = true) : cQ P W0 N e A (.box t x) (fun u B => ∃ b, u = .pointer (some ⟨b, 0, none⟩) ∧ B = pt b (aj [v] t) :: A) :=
 jW (g := fun b => .pointer (some ⟨b, 0, none⟩)) (fun a w _ _ _ _ _ hF _ => by simp [execOp, Instr.box, hF.eval hx, newVar, newRow, jU h1])
def kQ (P : Program) (fs : List Field) (e : bq) (l : List Value) (ps : List (Nat × Operand)) (l' : List Value) : Prop :=
  ∀ (a : Act), (∀ x v, ev e x = some v → a.eval x = v) → ∀ (pl : Nat → Option (Nat × Nat)), (∀ i f, fs[i]? = some f → ∃ n, pl i = some (f.offset, n) ∧ ∀ w, (sizeOf f.type).run P w = .ok n w) →
    Instr.fill pl l.toArray (ps.map fun (i, x) => (i, a.eval x)) = some l'.toArray
theorem qc : ∀ (vs : List Value) (l : List Value) (off : Nat), (vs.toArray.zipIdx.foldl (fun cs (c, j) => cs.setIfInBounds (off + j) c) l.toArray) = (setR l off vs).toArray := by
 intro vs
 suffices h : ∀ (vs : List Value) (l : List Value) (off s : Nat), (vs.zipIdx s).foldl (fun (cs : Array Value) (x : Value × Nat) => cs.setIfInBounds (off + x.2) x.1) l.toArray = (setR l (off + s) vs).toArray by
  intro l off
  have := h vs l off 0
  rw [← Array.foldl_toList]
  simpa using this
 intro vs
 induction vs with
 | nil => intro l off s; rfl
 | cons v vs ih =>
  intro l off s
  rw [List.zipIdx_cons, List.foldl_cons, setR]
  have := ih (l.set (off + s) v) off (s + 1)
  rw [← Nat.add_assoc] at this
  simpa using this
theorem bG {fs : List Field} : kQ P fs e l [] l := fun _ _ _ _ => rfl
theorem aS {fs : List Field} {nm : String} {ft fo : Nat} {em : Bool} {tg pk : String} {bo i : Nat} {ps : List (Nat × Operand)} {l'' : List Value} (hf : fs[i]? = some ⟨nm, ft, fo, em, tg, pk, bo⟩) (hs : ∀ w, (sizeOf ft).run P w = .ok 1 w)
  (hx : ev e x = some v) (h1 : v.oneCell' = true) (ho : fo < l.length) (hl : l.set fo v = l') (r : kQ P fs e l' ps l'') : kQ P fs e l ((i, x) :: ps) l'' := by
 intro a ha pl hp
 obtain ⟨n, hpl, hn⟩ := hp i _ hf
 have hn1 : n = 1 := by have := (hn default).symm.trans (hs default); simpa using this
 subst hn1
 have hv := ha x v hx
 simp only [List.map_cons, Instr.fill, hpl, hv, jU h1]
 have hc : ¬ (fo + 1 > l.length) := by omega
 simp [hc, hl]
 simpa using r a ha pl hp
theorem i5 {fs : List Field} {nm : String} {ft fo : Nat} {em : Bool} {tg pk : String} {bo i n : Nat} {ps : List (Nat × Operand)} {l'' : List Value} (hf : fs[i]? = some ⟨nm, ft, fo, em, tg, pk, bo⟩) (hs : ∀ w, (sizeOf ft).run P w = .ok n w)
  (hx : ev e x = some (.agg vs.toArray)) (hn : vs.length = n) (ho : fo + n ≤ l.length) (hl : setR l fo vs = l') (r : kQ P fs e l' ps l'') : kQ P fs e l ((i, x) :: ps) l'' := by
 intro a ha pl hp
 obtain ⟨m, hpl, hm⟩ := hp i _ hf
 have hmn : m = n := by have := (hm default).symm.trans (hs default); simpa using this
 subst hmn
 have hv := ha x _ hx
 simp only [List.map_cons, Instr.fill, hpl, hv, Value.cells]
 have hc : ¬ (fo + vs.length > l.length) := by omega
 have hc' : ¬ (vs.length ≠ m) := by omega
 simp only [List.size_toArray, hc, hc', decide_false, Bool.or_false, if_false, qc, hl, Bool.false_eq_true]
 exact r a ha pl hp
def kR (f : Field) : Sem (Nat × Nat) := do pure (f.offset, ← sizeOf f.type)
theorem u0 {P : Program} {w : World} : ∀ (fs : List Field), (∀ f : Field, f ∈ fs → ∃ n, ∀ w, (sizeOf f.type).run P w = .ok n w) →
  ∃ ps : List (Nat × Nat), (fs.mapM kR).run P w = .ok ps w ∧
   ∀ (i : Nat) (f : Field), fs[i]? = some f → ∃ n, ps[i]? = some (f.offset, n) ∧ ∀ w, (sizeOf f.type).run P w = .ok n w
 | [], _ => ⟨[], by simp, fun i f h => by simp at h⟩
 | f :: fs, h => by
  obtain ⟨n, hn⟩ := h f (by simp)
  obtain ⟨ps, hps, hq⟩ := u0 fs (fun g hg => h g (by simp [hg]))
  refine ⟨(f.offset, n) :: ps, ?_, fun i g hi => ?_⟩
  ·simp only [List.mapM_cons, kR, Sem.run_bind, hn, Result.andThen_ok, Sem.run_pure]
   rw [hps]; rfl
  ·cases i with
   | zero => simp only [List.getElem?_cons_zero, Option.some.injEq] at hi; subst hi; exact ⟨n, rfl, hn⟩
   | succ i => exact hq i g (by simpa using hi)
def nG (P : Program) (fs : List Field) : Prop := ∀ f : Field, f ∈ fs → ∃ n, ∀ w, (sizeOf f.type).run P w = .ok n w
theorem bH : nG P [] := fun _ h => nomatch h
theorem aA {nm : String} {ft fo : Nat} {em : Bool} {tg pk : String} {bo n : Nat} {fs : List Field} (h : ∀ w, (sizeOf ft).run P w = .ok n w) (k : nG P fs) : nG P (⟨nm, ft, fo, em, tg, pk, bo⟩ :: fs) := fun f hf => by
 rcases List.mem_cons.1 hf with rfl | hf
 ·exact ⟨n, h⟩
 ·exact k f hf
theorem bI {fs : Array Field} {ps : Array (Nat × Operand)} (hu : P.underlying t = some (.struct fs)) (hz : ∀ w, (zeroValue t).run P w = .ok (.agg l.toArray) w) (hs : nG P fs.toList) (hf : kQ P fs.toList e l ps.toList l') :
  bP P S N e (.build t ps) (.agg l'.toArray) := fun a w _ _ _ _ _ hF _ => by
 obtain ⟨pls, hpl, hq⟩ := u0 (w := w) fs.toList hs
 have := hf a (fun x v h => hF.eval h) (fun i => pls.toArray[i]?) (fun i f h => by simpa using hq i f h)
 have hm : (fs.mapM kR).run P w = .ok pls.toArray w := by
  rw [Array.mapM_eq_mapM_toList, Sem.run_map, hpl]; rfl
 have hb : Instr.build t (ps.map fun (i, x) => (i, a.eval x)) = (do
   let zero := (← zeroValue t).cells
   match ← underlying t with
   | .struct fields =>
    let places ← fields.mapM kR
    let some cells := Instr.fill (places[·]?) zero (ps.map fun (i, x) => (i, a.eval x)).toList | stuck "build: no such field, or a part of the wrong size"
    pure (.agg cells)
   | .array _ elem =>
    let size ← sizeOf elem
    let some cells := Instr.fill (fun i => some (i * size, size)) zero (ps.map fun (i, x) => (i, a.eval x)).toList | stuck "build: a part of the wrong size"
    pure (.agg cells)
   | _ => stuck "build: struct or array type expected") := rfl
 simp only [execOp, hb, Sem.run_bind, hz, dH hu, Result.andThen_ok, hm, Value.cells, Sem.run_pure]
 simp only [Array.toList_map]
 rw [this]; rfl
def qd (e : bq) : Nat → List (Nat × Operand) → List Value → Prop
  | _, [], [] => True
  | i, (j, x) :: ps, v :: vs => j = i ∧ ev e x = some v ∧ v.oneCell' = true ∧ qd e (i + 1) ps vs
  | _, _, _ => False
theorem u3 {a : Act} (he : ∀ x v, ev e x = some v → a.eval x = v) : ∀ (ps : List (Nat × Operand)) (vs done l : List Value), qd e done.length ps vs → l.length = vs.length →
  Instr.fill (fun i => some (i * 1, 1)) (done ++ l).toArray (ps.map fun (i, x) => (i, a.eval x)) = some (done ++ vs).toArray
 | [], [], done, l, _, hl => by
  have : l = [] := List.length_eq_zero_iff.1 hl
  subst this; rfl
 | [], _ :: _, _, _, h, _ => h.elim
 | _ :: _, [], _, _, h, _ => by cases h
 | (j, x) :: ps, v :: vs, done, [], _, hl => by cases hl
 | (j, x) :: ps, v :: vs, done, z :: l, h, hl => by
  obtain ⟨rfl, hx, h1, hr⟩ := h
  have hv := he x v hx
  simp only [List.map_cons, Instr.fill, hv, jU h1, List.size_toArray, List.length_cons, List.length_nil, Nat.zero_add, ne_eq, not_true_eq_false, decide_false, Bool.false_or, Nat.mul_one]
  have e1 : Array.foldl (fun cs (x : Value × Nat) => cs.setIfInBounds (done.length + x.2) x.1) (done ++ z :: l).toArray #[v].zipIdx = ((done ++ [v]) ++ l).toArray := by
   have := qc [v] (done ++ z :: l) done.length
   simp only [setR] at this
   rw [show (#[v] : Array Value) = [v].toArray from rfl, this]
   simp
  rw [e1]
  have := u3 he ps vs (done ++ [v]) l (by simpa using hr) (by simpa using hl)
  simp only [Nat.mul_one] at this
  rw [this]; simp
theorem u4 : ∀ (ps : List (Nat × Operand)) (i : Nat) (vs : List Value), ej e (ps.map (·.2)) = some vs → ps.map (·.1) = List.range' i ps.length → ek vs = true → qd e i ps vs
 | [], _, vs, h, _, _ => by simp [ej] at h; subst h; trivial
 | (j, x) :: ps, i, vs, h, hi, h1 => by
  simp only [List.map_cons, ej] at h
  cases hv : ev e x with
  | none => rw [hv] at h; cases h
  | some v =>
   rw [hv] at h
   cases hvs : ej e (ps.map (·.2)) with
   | none => simp only [hvs] at h; cases h
   | some vs' =>
    simp only [hvs, Option.some.injEq] at h
    subst h
    simp only [List.map_cons, List.length_cons, List.range'_succ, List.cons.injEq] at hi
    simp only [ek, List.all_cons, Bool.and_eq_true] at h1
    exact ⟨hi.1, hv, h1.1, u4 ps (i + 1) vs' hvs hi.2 h1.2⟩
theorem g6 {E n : Nat} {z : Value} {ps : Array (Nat × Operand)} (hu : P.underlying t = some (.slice E)) (hs : ∀ w, (sizeOf E).run P w = .ok 1 w) (hz : ∀ w, (zeroValue E).run P w = .ok z w) (hz1 : z.oneCell' = true)
  (hev : ej e (ps.toList.map (·.2)) = some vs) (hix : ps.toList.map (·.1) = List.range' 0 ps.toList.length) (ha1 : ek vs = true) (hn : vs.length = n) (hn0 : n ≠ 0) (hn2 : n ≤ 1000) :
  cQ P W0 N e A (.buildSlice t n ps) (fun v B => ∃ b, v = .slice (some ⟨b, 0, none⟩) n n ∧ B = pt b (aj vs E) :: A) :=
 jW (g := fun b => .slice (some ⟨b, 0, none⟩) n n) (fun a w _ _ _ _ _ hF _ => by
  have hel := u4 ps.toList 0 vs hev hix ha1
  have hfl := u3 (fun x v h => hF.eval h) ps.toList vs [] (List.replicate n z) (by simpa using hel) (by simpa using hn.symm)
  simp only [Nat.mul_one, List.nil_append] at hfl
  have hr : (Array.range n).map (fun i => (#[z] : Array Value)[i % (#[z] : Array Value).size]!) = (List.replicate n z).toArray := by
   apply Array.ext
   ·simp
   ·intro i h1 h2; simp [Nat.mod_one]
  have hbig : ¬ (n > 2 ^ 24) := by omega
  simp only [execOp, Instr.buildSlice, Sem.run_bind, dH hu, Result.andThen_ok, hs, Nat.mul_one, Array.toList_map, Sem.run_ite, if_neg hbig, if_neg hn0, hz, Sem.run_pure, jU hz1, hr]
  rw [hfl]
  rfl)
theorem aF {f : FuncId} {xs : Array Operand} {ats : Array TypeId} {Post : Value → List HP → Prop} (hc : ∀ args w, (callFunc f args).run P w = .ok (.enter f args) w) (hx : ej e xs.toList = some vs)
  (hs : ao P W0 f vs A Post) : cQ P W0 N e A (.call { callee := .value (.func f), args := xs, argTypes := ats }) Post := by
 intro a w dst ty pos af g K Q hF hO k
 unfold Oper.wp
 rw [execOp_call_go]
 have he : (#[] ++ xs.map a.eval ++ #[] : Array Value) = vs.toArray := by
  have := hF.evals hx
  rw [← this]; apply Array.ext'; simp
 rw [he, hc]
 refine (hs w hO).mono ?_
 rintro _ w' ⟨v, B, rfl, hp, hO'⟩
 exact k v w' B hp hO'
theorem jw {Post : Value → List HP → Prop} (hp : A.Perm B) (h : cQ P W0 N e B op Post) : cQ P W0 N e A op Post :=
 fun a w dst ty pos af g K Q hF hO k => h a w dst ty pos af g K Q hF (hO.perm hp) k
theorem aM {K1 X1 : Type} {r1 : K1 → X1 → HP} {b1 : K1} {x1 : X1} {f : FuncId} {xs : Array Operand} {ats : Array TypeId} {Post : Value → List HP → Prop} (hc : ∀ args w, (callFunc f args).run P w = .ok (.enter f args) w) (hx : ej e xs.toList = some vs)
  (hs : ao P W0 f vs (r1 b1 x1 :: R) Post) [h1 : Tk r1 b1 A x1 R] : cQ P W0 N e A (.call { callee := .value (.func f), args := xs, argTypes := ats }) Post :=
 jw h1.perm (aF hc hx hs)
theorem eE {K1 K2 X1 X2 : Type} {r1 : K1 → X1 → HP} {b1 : K1} {x1 : X1} {R1 : List HP} {r2 : K2 → X2 → HP} {b2 : K2} {x2 : X2} {f : FuncId} {xs : Array Operand} {ats : Array TypeId} {Post : Value → List HP → Prop} (hc : ∀ args w, (callFunc f args).run P w = .ok (.enter f args) w) (hx : ej e xs.toList = some vs)
  (hs : ao P W0 f vs (r1 b1 x1 :: r2 b2 x2 :: R) Post) [h1 : Tk r1 b1 A x1 R1] [h2 : Tk r2 b2 R1 x2 R] : cQ P W0 N e A (.call { callee := .value (.func f), args := xs, argTypes := ats }) Post :=
 jw (h1.perm.trans (h2.perm.cons _)) (aF hc hx hs)
theorem jX {K1 K2 K3 X1 X2 X3 : Type} {r1 : K1 → X1 → HP} {b1 : K1} {x1 : X1} {R1 : List HP} {r2 : K2 → X2 → HP} {b2 : K2} {x2 : X2} {R2 : List HP} {r3 : K3 → X3 → HP} {b3 : K3} {x3 : X3} {f : FuncId} {xs : Array Operand} {ats : Array TypeId} {Post : Value → List HP → Prop} (hc : ∀ args w, (callFunc f args).run P w = .ok (.enter f args) w) (hx : ej e xs.toList = some vs)
  (hs : ao P W0 f vs (r1 b1 x1 :: r2 b2 x2 :: r3 b3 x3 :: R) Post) [h1 : Tk r1 b1 A x1 R1] [h2 : Tk r2 b2 R1 x2 R2] [h3 : Tk r3 b3 R2 x3 R] : cQ P W0 N e A (.call { callee := .value (.func f), args := xs, argTypes := ats }) Post :=
 jw (h1.perm.trans ((h2.perm.trans (h3.perm.cons _)).cons _)) (aF hc hx hs)
def jY : Nat → List Value → bq
  | _, [] => []
  | i, v :: vs => (i, v) :: jY (i + 1) vs
theorem u5 : ∀ (vs : List Value) (i t : Nat) (v : Value), dl (jY i vs) t = some v → ∃ j, t = i + j ∧ vs[j]? = some v
 | [], i, t, v, h => nomatch h
 | u :: vs, i, t, v, h => by
  by_cases c : i = t
  ·subst c; rw [jY, pM] at h; exact ⟨0, rfl, by simpa using h⟩
  ·rw [jY, pN c] at h
   obtain ⟨j, rfl, hj⟩ := u5 vs (i + 1) t v h
   exact ⟨j + 1, by omega, by simpa using hj⟩
abbrev jZ (D : Nat) : Deferred := { target := .collected D, args := #[] }
def kS (P : Program) (W0 : World) (fn : Func) (Post : Value → List HP → Prop) : Exit → Act → World → Prop
  | .normal, a, w => bodyPostM (FW none) 0 P fn (fun e w' => ∃ v B, e = .returned v ∧ Post v B ∧ Own W0 w' B) .normal a w
  | .ret, a, w => bodyPostM (FW none) 0 P fn (fun e w' => ∃ v B, e = .returned v ∧ Post v B ∧ Own W0 w' B) .ret a w
  | _, _, _ => False
theorem yT {fn : Func} {Post : Value → List HP → Prop} {ex : Exit} {a : Act} {w : World} (h : kS P W0 fn Post ex a w) : bodyPostM (FW none) 0 P fn (fun e w' => ∃ v B, e = .returned v ∧ Post v B ∧ Own W0 w' B) ex a w := by
 cases ex <;> first | exact h | exact h.elim
theorem d5 {n : Nat} {f : FuncId} {fn : Func} {c : Code} {Post : Value → List HP → Prop} (hf : P.funcs[f]? = some fn) (hN : fn.ntmps = n) (hb : fn.body = some c) (hl : Nat.ble vs.length n = true)
  (k : aE W0 ⟨n, []⟩ (c.wpR none P (kS P W0 fn Post)) (jY 0 vs) A) : ao P W0 f vs A Post := by
 intro w hO
 refine (pQ (rd := none) (n := 0)).1 (callsIn_of_wp_marks hf hb trivial (wpIn_mono (k _ w ⟨rfl, ?_, fun t v h => ?_⟩ hO) fun _ _ _ h => yT h) rfl)
 ·have := Nat.le_of_ble_eq_true hl
  simp [hN]; omega
 ·obtain ⟨j, rfl, hj⟩ := u5 _ _ _ _ h
  have hlt : j < vs.length := by
   rcases Nat.lt_or_ge j vs.length with k | k
   ·exact k
   ·simp [List.getElem?_eq_none k] at hj
  simp [hlt] at hj ⊢
  rw [Array.getElem?_append_left (by simpa using hlt)]
  simp [hlt, hj]
def m6 (a : Act) : ResultVar → Sem Value
  | .tmp t => pure (a.tmps.getD t undef)
  | .cell x t => do loadVar t (← asAddr (a.tmps.getD x undef))
def qe (P : Program) (W0 : World) (N : FSz) (e : bq) (A : List HP) (r : ResultVar) (v : Value) : Prop :=
  ∀ a w, Fr a N e → Own W0 w A → (m6 a r).run P w = .ok v w
theorem ac {t : Nat} (h : dl e t = some v) : qe P W0 N e A (.tmp t) v := fun a w hF _ => by
 simp [m6, Array.getD_eq_getD_getElem?, hF.at_ t v h]
theorem fh {x n : Nat} [h : Tk pt b A (aj l ty) R] (ha : ∀ w, (isAgg t).run P w = .ok true w) (hs : ∀ w, (sizeOf t).run P w = .ok n w) (hx : dl e x = some (.pointer (some ⟨b, 0, none⟩))) (hn : l.length = n) : qe P W0 N e A (.cell x t) (.agg l.toArray) := fun a w hF hO => by
 have hc : cp (bu W0 A) b 0 l := ju (by simp)
 have := nE (P := P) (w := w) (fun i v hi => hc i v hi w hO) n 0 #[] (by omega)
 simp [m6, Array.getD_eq_getD_getElem?, hF.at_ x _ hx, asAddr, loadVar, ha, hs, loadCells, this]
inductive ResVs (P : Program) (W0 : World) (N : FSz) (e : bq) (A : List HP) : List ResultVar → List Value → Prop
  | nil : ResVs P W0 N e A [] []
  | cons {r : ResultVar} {v : Value} {rs : List ResultVar} {vs : List Value} : qe P W0 N e A r v → ResVs P W0 N e A rs vs → ResVs P W0 N e A (r :: rs) (v :: vs)
theorem ResVs.run {rs : List ResultVar} {vs : List Value} (h : ResVs P W0 N e A rs vs) {a : Act} {w : World} (hF : Fr a N e) (hO : Own W0 w A) :
  (rs.mapM (m6 a)).run P w = .ok vs w := by
 induction h with
 | nil => simp
 | cons h1 _ ih =>
  rw [List.mapM_cons, Sem.run_bind, h1 a w hF hO, Result.andThen_ok, Sem.run_bind, ih]; rfl
def bW : List Value → Value
  | [v] => v
  | vs => .tuple vs.toArray
theorem ResVs.all {fn : Func} {vs : List Value} (hr : ResVs P W0 N e A fn.results.toList vs) {a : Act} {w : World} (hF : Fr a N e) (hO : Own W0 w A) : (results fn a.tmps).run P w = .ok (bW vs) w := by
 have := hr.run hF hO
 have hres : results fn a.tmps = (do
   let vs ← fn.results.mapM (m6 a)
   pure (if h : vs.size = 1 then vs[0] else .tuple vs)) := rfl
 rw [hres, Sem.run_bind, Array.mapM_eq_mapM_toList, Sem.run_map, this]
 simp only [Result.andThen_ok, Sem.run_pure]
 match vs with
 | [] => rfl
 | [v] => rfl
 | _ :: _ :: _ => rfl
theorem ah {n : Nat} {fn : Func} {Post : Value → List HP → Prop} {vs : List Value} {ex : Exit} (hex : ex = .ret ∨ ex = .normal) (hr : ResVs P W0 ⟨n, []⟩ e A fn.results.toList vs) (hp : ∃ B, Post (bW vs) B ∧ Ent A B) : aE W0 ⟨n, []⟩ (Ex (kS P W0 fn Post) ex) e A := by
 intro a w hF hO
 obtain ⟨B, hB, hE⟩ := hp
 have hrun := hr.all hF hO
 have hd : a.defers = [] := hF.defers
 have : LeavesInM (FW none) 0 P fn a.tmps (fun e w' => ∃ v B, e = .returned v ∧ Post v B ∧ Own W0 w' B) a.defers .returning w := by
  rw [hd]; exact ⟨bW vs, hrun, bW vs, B, rfl, hB, hO.ent hE⟩
 rcases hex with rfl | rfl <;> exact this
theorem u6 {n D : Nat} {fn : Func} {Post : Value → List HP → Prop} {vs : List Value} {ex : Exit} (hex : ex = .ret ∨ ex = .normal) [h : Tk pt D A (.deferred (some [])) R] (hr : ResVs P W0 ⟨n, [jZ D]⟩ e (pt D (.deferred none) :: R) fn.results.toList vs)
  (hp : ∃ B, Post (bW vs) B ∧ Ent (pt D (.deferred none) :: R) B) : aE W0 ⟨n, [jZ D]⟩ (Ex (kS P W0 fn Post) ex) e A := by
 intro a w hF hO
 obtain ⟨B, hB, hE⟩ := hp
 have hO1 := hO.tk (r := pt) (b := D)
 have hK := hO1.has
 have hO2 : Own W0 (w.putObj D (.deferred none)) (pt D (.deferred none) :: R) :=
  hO1.set rfl rfl rfl (by simp) (World.putObj_heap_same (by
   rcases Nat.lt_or_ge D w.heap.size with q | q
   ·exact q
   ·have := hK.2; rw [Array.getElem?_eq_none q] at this; cases this)) (fun k hk => World.putObj_heap_other hk)
 have hrun := hr.all hF hO2
 have hd : a.defers = [jZ D] := hF.defers
 have : LeavesInM (FW none) 0 P fn a.tmps (fun e w' => ∃ v B, e = .returned v ∧ Post v B ∧ Own W0 w' B) a.defers .returning w := by
  rw [hd]
  exact ⟨by simp, .inl ⟨D, _, rfl, run_takeDeferred hK.2, bW vs, hrun, bW vs, B, rfl, hB, hO2.ent hE⟩⟩
 rcases hex with rfl | rfl <;> exact this
theorem bM {E n c j sz o' : Nat} {k : IntKind} {i : Int} (hu : P.underlying t = some (.slice E)) (hs : ∀ w, (sizeOf E).run P w = .ok sz w) (hx : ev e x = some (.slice (some ⟨b, off, none⟩) n c)) (hy : ev e y = some (.int k i))
  (hi : i = (j : Int)) (hj : j < n) (ho : off + j * sz = o') : bP P S N e (.indexAddr t x y) (.pointer (some ⟨b, o', none⟩)) := fun a w _ _ _ _ _ hF _ => by
 subst hi; subst ho
 simp [execOp, Instr.indexAt, hF.eval hx, hF.eval hy, asIntOf, dH hu, hs, f5]
 omega
theorem dv {E n j sz o' : Nat} {k : IntKind} {i : Int} (hu : P.underlying t = some (.array n E)) (hs : ∀ w, (sizeOf E).run P w = .ok sz w) (hx : ev e x = some (.pointer (some ⟨b, off, none⟩))) (hy : ev e y = some (.int k i))
  (hi : i = (j : Int)) (hj : j < n) (ho : off + j * sz = o') : bP P S N e (.indexAddr t x y) (.pointer (some ⟨b, o', none⟩)) := fun a w _ _ _ _ _ hF _ => by
 subst hi; subst ho
 simp [execOp, Instr.indexAt, hF.eval hx, hF.eval hy, asIntOf, dH hu, hs, f5, Instr.sureAddr]
 omega
end
theorem aK {n : Int} (h : -9223372036854775808 ≤ n ∧ n < 9223372036854775808) : IntKind.wrap .i64 n = n := by
 simp only [IntKind.wrap, IntKind.bits, IntKind.signed]; simp; omega
theorem jx {n : Int} (h : 0 ≤ n ∧ n < 4294967296) : IntKind.wrap .u32 n = n := by
 simp only [IntKind.wrap, IntKind.bits, IntKind.signed]; simp; omega
theorem nH {n : Int} (h : 0 ≤ n ∧ n < 18446744073709551616) : IntKind.wrap .u64 n = n := by
 simp only [IntKind.wrap, IntKind.bits, IntKind.signed]; simp; omega
class BP (b : Bool) (p : outParam Prop) : Prop where
  iff : b = true ↔ p
instance FQ {p : Prop} [Decidable p] : BP (decide p) p := ⟨by simp⟩
instance FR {m n : Int} : BP (m == n) (m = n) := ⟨by simp⟩
instance FT {m n : Int} : BP (m != n) (m ≠ n) := ⟨by simp⟩
instance FU {p q : Bool} : BP (p == q) (p = q) := ⟨by simp⟩
instance FV {b : Bool} {p : Prop} [h : BP b p] : BP (!b) (¬ p) := ⟨by rw [← h.iff]; simp⟩
instance FX {b c : Bool} {p q : Prop} [h : BP b p] [k : BP c q] : BP (b && c) (p ∧ q) := ⟨by rw [← h.iff, ← k.iff]; simp⟩
instance FY {b c : Bool} {p q : Prop} [h : BP b p] [k : BP c q] : BP (b || c) (p ∨ q) := ⟨by rw [← h.iff, ← k.iff]; simp⟩
instance FZ {α : Type} {p : Option α} : BP p.isNone (p = none) := ⟨by simp⟩
instance (priority := low) bp_var {b : Bool} : BP b (b = true) := ⟨Iff.rfl⟩
section
variable {rd : Option Nat} {P : Program} {W0 : World} {N : FSz} {Q : Exit → Act → World → Prop} {e : bq} {A : List HP} {ops : Array Oper} {rest : List Oper} {op : Op} {ty : TypeId} {pos : String} {af : Array Edge}
theorem ai {c : Nat} {p : Prop} {b : Bool} {xc yc : Code} (hv : dl e c = some (.bool b)) [h : BP b p]
  (ht : p → aE W0 N (xc.wpR rd P Q) ((c, .bool true) :: e) A) (hf : ¬ p → aE W0 N (yc.wpR rd P Q) ((c, .bool false) :: e) A) : aE W0 N ((Code.cond (.tmp c) xc yc).wpR rd P Q) e A :=
 yJ rfl hv (fun hb => ht (h.iff.1 hb)) (fun hb => hf (fun k => by rw [h.iff.2 k] at hb; cases hb))
theorem iT {c : Nat} {xc yc : Code} (hv : dl e c = some (.bool true)) (k : aE W0 N (xc.wpR rd P Q) e A) : aE W0 N ((Code.cond (.tmp c) xc yc).wpR rd P Q) e A :=
 fun a w hF hO => wpIn_cond_true (hF.eval (x := .tmp c) hv) (k a w hF hO)
theorem nI {c : Nat} {xc yc : Code} (hv : dl e c = some (.bool false)) (k : aE W0 N (yc.wpR rd P Q) e A) : aE W0 N ((Code.cond (.tmp c) xc yc).wpR rd P Q) e A :=
 fun a w hF hO => wpIn_cond_false (hF.eval (x := .tmp c) hv) (k a w hF hO)
theorem bX {j t d : Nat} {b : Bool} {p : Prop} (ht : fK ops j = some t) (hv : dl e t = some (.bool b)) (hd : Nat.blt d N.n = true) [h : BP b p]
  (h1 : p → aE W0 N (bp rd P ops Q ({ dst := some d, op := op, type := ty, pos := pos, after := af, guard := none } :: rest)) ((t, .bool true) :: e) A)
  (h2 : ¬ p → aE W0 N (bp rd P ops Q rest) ((d, undef) :: (t, .bool false) :: e) A) :
  aE W0 N (bp rd P ops Q ({ dst := some d, op := op, type := ty, pos := pos, after := af, guard := some (j, true) } :: rest)) e A :=
 tJ (dst := some d) ht hv hd (fun hb => h1 (h.iff.1 hb)) (fun hb => h2 (fun k => by rw [h.iff.2 k] at hb; cases hb))
theorem aZ {j t d : Nat} {b : Bool} {p : Prop} (ht : fK ops j = some t) (hv : dl e t = some (.bool b)) (hd : Nat.blt d N.n = true) [h : BP b p]
  (h1 : p → aE W0 N (bp rd P ops Q rest) ((d, undef) :: (t, .bool true) :: e) A)
  (h2 : ¬ p → aE W0 N (bp rd P ops Q ({ dst := some d, op := op, type := ty, pos := pos, after := af, guard := none } :: rest)) ((t, .bool false) :: e) A) :
  aE W0 N (bp rd P ops Q ({ dst := some d, op := op, type := ty, pos := pos, after := af, guard := some (j, false) } :: rest)) e A :=
 tJ (dst := some d) ht hv hd (fun hb => h2 (fun k => by rw [h.iff.2 k] at hb; cases hb)) (fun hb => h1 (h.iff.1 hb))
end
end
section
theorem u7 {n : Nat} (a : Nat) : BitVec.ofInt n (a : Int) = BitVec.ofNat n a := by
 simp
theorem yU {a b : Nat} (ha : a < 4294967296) (hb : b < 4294967296) : (BitVec.ofNat 32 a ||| BitVec.ofNat 32 b).toNat = a ||| b := by
 simp only [BitVec.toNat_or, BitVec.toNat_ofNat]
 rw [Nat.mod_eq_of_lt (show a < 2 ^ 32 by omega), Nat.mod_eq_of_lt (show b < 2 ^ 32 by omega)]
theorem yV {a b : Nat} (ha : a < 4294967296) (hb : b < 4294967296) : nz .u32 a b = ((a ||| b : Nat) : Int) := by
 have h : a ||| b < 2 ^ 32 := Nat.or_lt_two_pow (by omega) (by omega)
 show IntKind.wrap .u32 ((BitVec.ofInt 32 (a : Int) ||| BitVec.ofInt 32 (b : Int)).toNat : Int) = _
 rw [u7, u7, yU ha hb]
 exact jx (by omega)
theorem nJ {k : IntKind} {a s : Nat} (hs : s ≤ k.bits) : kO k a s = ((a / 2 ^ s : Nat) : Int) := by
 unfold kO
 simp only [Int.toNat_natCast, Nat.min_eq_left hs]
 rw [Int.fdiv_eq_ediv_of_nonneg _ (by have := Int.pow_pos (n := (2 : Int)) (m := s) (by omega); omega)]
 push_cast; rfl
theorem yW {a n : Nat} : a &&& (2 ^ n - 1) = a % 2 ^ n := Nat.and_two_pow_sub_one_eq_mod a n
end
section
open Go.RowKit
class POk (Q : Exit → Act → World → Prop) : Prop where
  ok : ∀ c a d v w, Q (.panic c) (a.put d v) w → Q (.panic c) a w
instance G0 {n : Act → World → Prop} {Q : Exit → Act → World → Prop} [h : POk Q] : POk (Exit.then n Q) := ⟨fun c a d v w k => h.ok c a d v w k⟩
instance G1 {id : Nat} {Q : Exit → Act → World → Prop} [h : POk Q] : POk (Exit.inBlock id Q) := ⟨fun c a d v w k => h.ok c a d v w k⟩
instance G2 {P : Program} {W0 : World} {fn : Func} {Post : Value → List HP → Prop} : POk (kS P W0 fn Post) := ⟨fun c a d v w k => k.elim⟩
def SC (cs : List (Nat × Nat × List Value)) : World → Prop := fun w => ∀ c, c ∈ cs → ∀ i v, c.2.2[i]? = some v → w.cell? ⟨c.1, c.2.1 + i, none⟩ = some v
section
variable {rd : Option Nat} {P : Program} {S : World → Prop} {W0 : World} {N : FSz} {Q : Exit → Act → World → Prop} {e : bq} {A B R : List HP} {ops : Array Oper}
variable {op : Op} {ty t : TypeId} {pos : String} {af : Array Edge} {v : Value} {d b off : Nat} {l : List Value} {cs : List (Nat × Nat × List Value)} {g : Option (Nat × Bool)} {n i : Nat} {listed : Array Bool}
theorem yX {w : World} : SC [] w := fun _ h => nomatch h
theorem cm (h : cp (bu W0 A) b off l) (k : ∀ w, Own W0 w A → SC cs w) : ∀ w, Own W0 w A → SC ((b, off, l) :: cs) w := fun w hO c hc => by
 rcases List.mem_cons.1 hc with rfl | hc
 ·exact fun i v hi => h i v hi w hO
 ·exact k w hO c hc
theorem aC [h : Tk pt b A (aj l t) R] (k : ∀ w, Own W0 w A → SC cs w) : ∀ w, Own W0 w A → SC ((b, 0, l) :: cs) w := cm (ju (by simp)) k
theorem aB : ∀ w, Own W0 w A → SC [] w := fun _ _ => yX
theorem f6 {j k o : Nat} (hk : cs[k]? = some (b, o, l)) (hj : l[j]? = some v) : ik (SC cs) b (o + j) v := fun w hS => hS _ (List.mem_of_getElem? hk) j v hj
theorem av {j k : Nat} (hk : cs[k]? = some (b, 0, l)) (hj : l[j]? = some v) : ik (SC cs) b j v := by
 have := f6 hk hj; rwa [Nat.zero_add] at this
theorem cT {k : Nat} (hk : cs[k]? = some (b, off, l)) : cp (SC cs) b off l := fun j v hj => f6 hk hj
theorem m7 {k : Nat} (hk : cs[k]? = some (b, off, [v])) : ik (SC cs) b off v := f6 (j := 0) hk rfl
def gw (ops : Array Oper) (e : bq) : Option (Nat × Bool) → Option Bool
  | none => some true
  | some (j, want) => match fK ops j with
    | some t => match dl e t with
      | some (.bool b) => some (b == want)
      | some (.tuple _) => some false
      | _ => none
    | none => none
theorem nK {dst : Option Tmp} {a : Act} {r : Bool} (hF : Fr a N e) (h : gw ops e g = some r) : Region.wanted { dst := dst, op := op, type := ty, pos := pos, after := af, guard := g } (yielded ops a.tmps) = r := by
 match g, h with
 | none, h => simp [gw] at h; subst h; rfl
 | some (j, want), h =>
  unfold gw at h
  cases ht : fK ops j with
  | none => simp only [ht] at h; cases h
  | some t =>
   simp only [ht] at h
   cases hv : dl e t with
   | none => simp only [hv] at h; cases h
   | some u =>
    simp only [hv] at h
    have hy : yielded ops a.tmps j = match u with | .bool b => some b | _ => none := by
     have hv' := hF.at_ t _ hv
     unfold fK at ht
     simp only [yielded]
     cases hj : ops[j]? with
     | none => rw [hj] at ht; cases ht
     | some o =>
      rw [hj] at ht
      simp only [Option.bind_some] at ht
      simp only [Option.bind_some, ht, hv']
      cases u <;> rfl
    cases u <;> simp only [Option.some.injEq, reduceCtorEq] at h
    ·rename_i c
     simp only [Region.wanted, hy]; subst h; cases c <;> cases want <;> rfl
    ·simp only [Region.wanted, hy]; subst h; rfl
theorem je {K : Act → World → Prop} {p : Prop} {c : Bool} {t : Nat} (hv : dl e t = some (.bool c)) [h : BP c p] (ht : p → aE W0 N K ((t, .bool true) :: e) A) (hf : ¬ p → aE W0 N K ((t, .bool false) :: e) A) : aE W0 N K e A := by
 intro a w hF hO
 by_cases k : p
 ·exact ht k a w (hF.sub (aG (by rw [hv, h.iff.2 k]) lX)) hO
 ·have : c = false := by
   cases hc : c with
   | false => rfl
   | true => exact absurd (h.iff.1 hc) k
  exact hf k a w (hF.sub (aG (by rw [hv, this]) lX)) hO
def DR (P : Program) (ops : Array Oper) (Q : Exit → Act → World → Prop) (cs : List (Nat × Nat × List Value)) (n : Nat) (listed : Array Bool) : Act → World → Prop := wpAnyH P .any ops Q (SC cs) n listed
theorem bR {id : Nat} (cs : List (Nat × Nat × List Value)) (n : Nat) (hm : P.follows .mixedOrders = true) (hn : Nat.beq ops.size n = true) (hS : ∀ w, Own W0 w A → SC cs w) (k : (∀ w, Own W0 w A → SC cs w) → aE W0 N (DR P ops Q cs n (Array.replicate n false)) e A) : aE W0 N ((Code.region id ops true).wpR none P Q) e A := by
 intro a w hF hO
 have : ops.size = n := Nat.eq_of_beq_eq_true hn
 subst this
 exact pP.2 <| wp_region_held hm (k hS a _ hF (hO.drew _))
theorem yY (i : Nat) (ho : ops[i]? = some ⟨some d, op, ty, pos, af, g⟩) (hg : gw ops e g = some true) (hs : Region.noSelect ops = true) (hf : Region.free .any ops listed i = true) (hr : (Region.ready .any ops listed).contains i = true)
  (hd : Nat.blt d N.n = true) [hq : POk Q] (hS : ∀ w, Own W0 w A → SC cs w) (hv : bP P (SC cs) N e op v) (k : aE W0 N (DR P ops Q cs n (listed.setIfInBounds i true)) ((d, v) :: e) A) : aE W0 N (DR P ops Q cs (n + 1) listed) e A := by
 intro a w hF hO
 refine wpAnyH_take (v := v) ho hs hf hr (fun c a w => hq.ok c a _ v w) (.inl ⟨nK hF hg, fun w hw => hv a w _ _ _ _ _ hF hw⟩) (hS w hO) ?_
 exact k _ _ (hF.put (Nat.lt_of_succ_le (Nat.le_of_ble_eq_true hd)) v) hO
theorem yZ (i : Nat) (ho : ops[i]? = some ⟨some d, op, ty, pos, af, g⟩) (hg : gw ops e g = some false) (hs : Region.noSelect ops = true) (hf : Region.free .any ops listed i = true) (hr : (Region.ready .any ops listed).contains i = true)
  (hd : Nat.blt d N.n = true) [hq : POk Q] (hS : ∀ w, Own W0 w A → SC cs w) (k : aE W0 N (DR P ops Q cs n (listed.setIfInBounds i true)) ((d, undef) :: e) A) : aE W0 N (DR P ops Q cs (n + 1) listed) e A := by
 intro a w hF hO
 refine wpAnyH_take (v := undef) ho hs hf hr (fun c a w => hq.ok c a _ undef w) (.inr ⟨nK hF hg, rfl⟩) (hS w hO) ?_
 exact k _ _ (hF.put (Nat.lt_of_succ_le (Nat.le_of_ble_eq_true hd)) undef) hO
theorem aW {dst : Option Tmp} {Post : Value → List HP → Prop} (i : Nat) (hr : Region.ready .any ops listed = [i]) (ho : ops[i]? = some ⟨dst, op, ty, pos, af, g⟩) (hg : gw ops e g = some true) (h : cQ P W0 N e A op Post)
  (hd : (match dst with | some d => Nat.blt d N.n | none => true) = true)
  (k : ∀ v B, Post v B → (∀ w, Own W0 w B → SC cs w) ∧ ((∀ w, Own W0 w B → SC cs w) → aE W0 N (DR P ops Q cs n (listed.setIfInBounds i true)) (match (generalizing := false) dst with | some d => (d, v) :: e | none => e) B)) : aE W0 N (DR P ops Q cs (n + 1) listed) e A := by
 intro a w hF hO
 refine wpAnyH_all hr (by simp) fun j hj => ?_
 obtain rfl : j = i := by simpa using hj
 unfold wpOp
 simp only [ho, nK hF hg, if_true]
 refine .inl (h a w _ _ _ _ _ _ _ hF hO fun v w' B hp hO' => ?_)
 obtain ⟨k1, k2⟩ := k v B hp
 refine ⟨k1 w' hO', ?_⟩
 have k2 := k2 k1
 cases dst with
 | none => exact k2 a w' hF hO'
 | some d => exact k2 _ w' (hF.put (Nat.lt_of_succ_le (Nat.le_of_ble_eq_true hd)) v) hO'
def DX (P : Program) (ops : Array Oper) (Q : Exit → Act → World → Prop) (cs : List (Nat × Nat × List Value)) (n : Nat) (listed : Array Bool) (i : Nat) : Act → World → Prop :=
  wpOp P ops Q i (fun a' w' => SC cs w' ∧ DR P ops Q cs n (listed.setIfInBounds i true) a' w')
def m8 (W0 : World) (N : FSz) (K : Nat → Act → World → Prop) (e : bq) (A : List HP) : List Nat → Prop
  | [] => True
  | i :: is => aE W0 N (K i) e A ∧ m8 W0 N K e A is
theorem m8.at_ {K : Nat → Act → World → Prop} : ∀ {is : List Nat}, m8 W0 N K e A is → ∀ i ∈ is, aE W0 N (K i) e A
 | _ :: _, h, i, hi => by
  rcases List.mem_cons.1 hi with rfl | hi
  ·exact h.1
  ·exact m8.at_ h.2 i hi
theorem i6 {is : List Nat} (hr : Region.ready .any ops listed = is) (hne : is.isEmpty = false) (h : m8 W0 N (DX P ops Q cs n listed) e A is) : aE W0 N (DR P ops Q cs (n + 1) listed) e A := by
 intro a w hF hO
 exact wpAnyH_all hr (by intro h0; subst h0; cases hne) fun i hi => h.at_ i hi a w hF hO
theorem ed {dst : Option Tmp} {Post : Value → List HP → Prop} {i : Nat} (ho : ops[i]? = some ⟨dst, op, ty, pos, af, g⟩) (hg : gw ops e g = some true) (h : cQ P W0 N e A op Post)
  (hd : (match dst with | some d => Nat.blt d N.n | none => true) = true)
  (k : ∀ v B, Post v B → (∀ w, Own W0 w B → SC cs w) ∧ ((∀ w, Own W0 w B → SC cs w) → aE W0 N (DR P ops Q cs n (listed.setIfInBounds i true)) (match (generalizing := false) dst with | some d => (d, v) :: e | none => e) B)) : aE W0 N (DX P ops Q cs n listed i) e A := by
 intro a w hF hO
 unfold DX wpOp
 simp only [ho, nK hF hg, if_true]
 refine .inl (h a w _ _ _ _ _ _ _ hF hO fun v w' B hp hO' => ?_)
 obtain ⟨k1, k2⟩ := k v B hp
 refine ⟨k1 w' hO', ?_⟩
 have k2 := k2 k1
 cases dst with
 | none => exact k2 a w' hF hO'
 | some d => exact k2 _ w' (hF.put (Nat.lt_of_succ_le (Nat.le_of_ble_eq_true hd)) v) hO'
theorem bz (hr : Region.ready .any ops listed = []) (k : aE W0 N (Ex Q .normal) e A) : aE W0 N (DR P ops Q cs n listed) e A := fun a w hF hO => wpAnyH_done hr (k a w hF hO) n
end
class Is {α : Type} (a : α) (b : outParam α) : Prop where
  h : a = b
instance G3 {α : Type} {a : α} : Is a a := ⟨rfl⟩
abbrev gq : bq → Nat → Option Value
  | [], _ => none
  | (t, v) :: r, u => match Nat.beq t u with | true => some v | false => gq r u
theorem m9 : ∀ (e : bq) (t : Nat), gq e t = dl e t
 | [], _ => rfl
 | (t, v) :: r, u => by
  show (match Nat.beq t u with | true => some v | false => gq r u) = (match Nat.beq t u with | true => some v | false => dl r u)
  rw [m9 r u]
abbrev dw (e : bq) : Operand → Option Value
  | .tmp t => gq e t
  | .const v => some v
  | .global g => some (.pointer (some ⟨g, 0, none⟩))
  | .func f => some (.func (.func f) #[] #[])
theorem z0 (e : bq) (x : Operand) : dw e x = ev e x := by cases x <;> first | rfl | exact m9 e _
abbrev jy : List Oper → Nat → Option Nat
  | [], _ => none
  | o :: _, 0 => o.dst
  | _ :: l, j + 1 => jy l j
theorem u9 : ∀ (l : List Oper) (j : Nat), jy l j = fK l.toArray j
 | [], j => by simp [fK]
 | o :: l, 0 => by simp [fK]
 | o :: l, j + 1 => by
  show jy l j = _
  rw [u9 l j]; simp [fK]
class Au (n : Nat) (W0 : World) (N : FSz) (K : Act → World → Prop) (e : bq) (A : List HP) (K' : outParam (Act → World → Prop)) (e' : outParam bq) : Prop where
  go : aE W0 N K' e' A → aE W0 N K e A
theorem au (n : Nat) {W0 : World} {N : FSz} {K K' : Act → World → Prop} {e e' : bq} {A : List HP} [h : Au n W0 N K e A K' e'] (k : aE W0 N K' e' A) : aE W0 N K e A := h.go k
section
variable {rd : Option Nat} {P : Program} {W0 : World} {N : FSz} {Q K' : Act → World → Prop} {R : Exit → Act → World → Prop} {e e' : bq} {A : List HP} {l rest : List Oper} {n : Nat}
variable {x y c : Operand} {t t' ty : TypeId} {pos : String} {af : Array Edge} {u v : Value} {d j i : Nat} {g : Option (Nat × Bool)} {b : Bool} {id : Nat}
instance (priority := low) au_0 : Au 0 W0 N Q e A Q e := ⟨fun h => h⟩
theorem nL {d m : Nat} (h : Nat.ble m d = false) : Nat.blt d m = true := by
 have : ¬ m ≤ d := fun k => by rw [Nat.ble_eq_true_of_le k] at h; cases h
 exact Nat.ble_eq_true_of_le (by omega)
instance G4 {a b : Code} [h : Au n W0 N (a.wpR rd P (Exit.then (b.wpR rd P R) R)) e A K' e'] : Au (n + 1) W0 N ((Code.seq a b).wpR rd P R) e A K' e' := ⟨fun k => al (h.go k)⟩
class NoDefer (l : List Oper) : Prop where
  h : jt rd l = true
instance G5 [h : Au n W0 N (bp none P l.toArray R l) e A K' e'] : Au (n + 1) W0 N ((Code.region id l.toArray false).wpR none P R) e A K' e' := ⟨fun k => az (h.go k) rfl⟩
instance G6 [h : Au n W0 N (Ex R .normal) e A K' e'] : Au (n + 1) W0 N (Code.skip.wpR rd P R) e A K' e' := ⟨fun k => cy (h.go k)⟩
instance G7 {a : Code} [h : Au n W0 N (a.wpR rd P (Exit.inBlock id R)) e A K' e'] : Au (n + 1) W0 N ((Code.block id a).wpR rd P R) e A K' e' := ⟨fun k => dt (h.go k)⟩
instance G8 [h : Au n W0 N (Ex R .ret) e A K' e'] : Au (n + 1) W0 N (Code.ret.wpR rd P R) e A K' e' := ⟨fun k => bY (h.go k)⟩
instance G9 [h : Au n W0 N (Ex R (.exit id)) e A K' e'] : Au (n + 1) W0 N ((Code.exit id).wpR rd P R) e A K' e' := ⟨fun k => gJ (h.go k)⟩
instance Ga {ops : Array Oper} [h : Au n W0 N (Ex R .normal) e A K' e'] : Au (n + 1) W0 N (bp rd P ops R []) e A K' e' := ⟨fun k => aw (h.go k)⟩
instance Gb [h : Au n W0 N Q e A K' e'] : Au (n + 1) W0 N (Ex (Exit.then Q R) .normal) e A K' e' := ⟨fun k => ak (h.go k)⟩
instance Gc [h : Au n W0 N (Ex R .normal) e A K' e'] : Au (n + 1) W0 N (Ex (Exit.inBlock id R) .normal) e A K' e' := ⟨fun k => fY (h.go k)⟩
instance Gd [h : Au n W0 N (Ex R (.exit id)) e A K' e'] : Au (n + 1) W0 N (Ex (Exit.then Q R) (.exit id)) e A K' e' := ⟨fun k => eV (h.go k)⟩
instance Ge [h : Au n W0 N (Ex R .normal) e A K' e'] : Au (n + 1) W0 N (Ex (Exit.inBlock id R) (.exit id)) e A K' e' := ⟨fun k => i3 (h.go k)⟩
instance Gf [hj : Is (Nat.beq j id) false] [h : Au n W0 N (Ex R (.exit j)) e A K' e'] : Au (n + 1) W0 N (Ex (Exit.inBlock id R) (.exit j)) e A K' e' := ⟨fun k => lY hj.h (h.go k)⟩
instance Gg [h : Au n W0 N (Ex R .ret) e A K' e'] : Au (n + 1) W0 N (Ex (Exit.then Q R) .ret) e A K' e' := ⟨fun k => cn (h.go k)⟩
instance Gh [h : Au n W0 N (Ex R .ret) e A K' e'] : Au (n + 1) W0 N (Ex (Exit.inBlock id R) .ret) e A K' e' := ⟨fun k => dO (h.go k)⟩
instance Gi {xc yc : Code} [hv : Is (gq e j) (some (.bool true))] [h : Au n W0 N (xc.wpR rd P R) e A K' e'] : Au (n + 1) W0 N ((Code.cond (.tmp j) xc yc).wpR rd P R) e A K' e' := ⟨fun k => iT ((m9 _ _).symm.trans hv.h) (h.go k)⟩
instance Gj {xc yc : Code} [hv : Is (gq e j) (some (.bool false))] [h : Au n W0 N (yc.wpR rd P R) e A K' e'] : Au (n + 1) W0 N ((Code.cond (.tmp j) xc yc).wpR rd P R) e A K' e' := ⟨fun k => nI ((m9 _ _).symm.trans hv.h) (h.go k)⟩
-- operations
theorem fi {op : Op} (hd : Nat.ble N.n d = false) (hv : bP P (bu W0 A) N e op v) (h : Au n W0 N (bp rd P l.toArray R rest) ((d, v) :: e) A K' e') :
  Au (n + 1) W0 N (bp rd P l.toArray R ({ dst := some d, op := op, type := ty, pos := pos, after := af, guard := none } :: rest)) e A K' e' := ⟨fun k => aa (nL hd) hv (h.go k)⟩
theorem dI {x : Operand} {r : Option Value} (h : dw e x = r) : ev e x = r := (z0 _ _).symm.trans h
instance Gk [hd : Is (Nat.ble N.n d) false] [hx : Is (dw e x) (some v)] [h : Au n W0 N (bp rd P l.toArray R rest) ((d, v) :: e) A K' e'] :
    Au (n + 1) W0 N (bp rd P l.toArray R ({ dst := some d, op := .move x, type := ty, pos := pos, after := af, guard := none } :: rest)) e A K' e' := fi hd.h (ag (dI hx.h)) h
instance Gl [hd : Is (Nat.ble N.n d) false] [hx : Is (dw e x) (some v)] [h : Au n W0 N (bp rd P l.toArray R rest) ((d, v) :: e) A K' e'] :
    Au (n + 1) W0 N (bp rd P l.toArray R ({ dst := some d, op := .assign x, type := ty, pos := pos, after := af, guard := none } :: rest)) e A K' e' := fi hd.h (ax (dI hx.h)) h
instance Gm {a : Addr} [hd : Is (Nat.ble N.n d) false] [hx : Is (dw e x) (some (.pointer (some a)))] [h : Au n W0 N (bp rd P l.toArray R rest) ((d, .pointer (some a)) :: e) A K' e'] :
    Au (n + 1) W0 N (bp rd P l.toArray R ({ dst := some d, op := .nilCheck x, type := ty, pos := pos, after := af, guard := none } :: rest)) e A K' e' := fi hd.h (aU (dI hx.h)) h
abbrev nM : List Value → Nat → Option Value
  | [], _ => none
  | v :: _, 0 => some v
  | _ :: l, j + 1 => nM l j
theorem qf : ∀ {l : List Value} {j : Nat} {r : Option Value}, nM l j = r → l[j]? = r
 | [], j, _, h => by simpa using h
 | v :: l, 0, _, h => by simpa using h
 | v :: l, j + 1, _, h => by simpa using qf (l := l) h
instance Gn {vs : List Value} [hd : Is (Nat.ble N.n d) false] [hx : Is (dw e x) (some (.tuple vs.toArray))] [hi : Is (nM vs i) (some v)] [h : Au n W0 N (bp rd P l.toArray R rest) ((d, v) :: e) A K' e'] :
    Au (n + 1) W0 N (bp rd P l.toArray R ({ dst := some d, op := .extract x i, type := ty, pos := pos, after := af, guard := none } :: rest)) e A K' e' := fi hd.h (bZ (dI hx.h) (qf hi.h)) h
instance Gp [hd : Is (Nat.ble N.n d) false] [hc : Is (dw e c) (some (.bool true))] [hx : Is (dw e x) (some v)] [h : Au n W0 N (bp rd P l.toArray R rest) ((d, v) :: e) A K' e'] :
    Au (n + 1) W0 N (bp rd P l.toArray R ({ dst := some d, op := .pick c x y, type := ty, pos := pos, after := af, guard := none } :: rest)) e A K' e' := fi hd.h (cV (dI hc.h) (dI hx.h)) h
instance Gq [hd : Is (Nat.ble N.n d) false] [hc : Is (dw e c) (some (.bool false))] [hx : Is (dw e y) (some v)] [h : Au n W0 N (bp rd P l.toArray R rest) ((d, v) :: e) A K' e'] :
    Au (n + 1) W0 N (bp rd P l.toArray R ({ dst := some d, op := .pick c x y, type := ty, pos := pos, after := af, guard := none } :: rest)) e A K' e' := fi hd.h (d4 (dI hc.h) (dI hx.h)) h
instance Gr [hd : Is (Nat.ble N.n d) false] [hx : Is (dw e x) (some (.bool b))] [h : Au n W0 N (bp rd P l.toArray R rest) ((d, .bool (!b)) :: e) A K' e'] :
    Au (n + 1) W0 N (bp rd P l.toArray R ({ dst := some d, op := .unOp .not t x, type := ty, pos := pos, after := af, guard := none } :: rest)) e A K' e' := fi hd.h (fM (dI hx.h)) h
section cmp
variable {k : IntKind} {p q : Int}
instance Gt [hd : Is (Nat.ble N.n d) false] [hx : Is (dw e x) (some (.int k p))] [hy : Is (dw e y) (some (.int k q))] [h : Au n W0 N (bp rd P l.toArray R rest) ((d, .bool (decide (p < q))) :: e) A K' e'] :
    Au (n + 1) W0 N (bp rd P l.toArray R ({ dst := some d, op := .binOp .lss t x y t', type := ty, pos := pos, after := af, guard := none } :: rest)) e A K' e' := fi hd.h (eO (dI hx.h) (dI hy.h)) h
instance Gu [hd : Is (Nat.ble N.n d) false] [hx : Is (dw e x) (some (.int k p))] [hy : Is (dw e y) (some (.int k q))] [h : Au n W0 N (bp rd P l.toArray R rest) ((d, .bool (decide (p ≤ q))) :: e) A K' e'] :
    Au (n + 1) W0 N (bp rd P l.toArray R ({ dst := some d, op := .binOp .leq t x y t', type := ty, pos := pos, after := af, guard := none } :: rest)) e A K' e' := fi hd.h (tO (dI hx.h) (dI hy.h)) h
instance Gv [hd : Is (Nat.ble N.n d) false] [hx : Is (dw e x) (some (.int k p))] [hy : Is (dw e y) (some (.int k q))] [h : Au n W0 N (bp rd P l.toArray R rest) ((d, .bool (decide (q < p))) :: e) A K' e'] :
    Au (n + 1) W0 N (bp rd P l.toArray R ({ dst := some d, op := .binOp .gtr t x y t', type := ty, pos := pos, after := af, guard := none } :: rest)) e A K' e' := fi hd.h (iP (dI hx.h) (dI hy.h)) h
instance Gw [hd : Is (Nat.ble N.n d) false] [hx : Is (dw e x) (some (.int k p))] [hy : Is (dw e y) (some (.int k q))] [h : Au n W0 N (bp rd P l.toArray R rest) ((d, .bool (decide (q ≤ p))) :: e) A K' e'] :
    Au (n + 1) W0 N (bp rd P l.toArray R ({ dst := some d, op := .binOp .geq t x y t', type := ty, pos := pos, after := af, guard := none } :: rest)) e A K' e' := fi hd.h (iQ (dI hx.h) (dI hy.h)) h
instance Gx [hd : Is (Nat.ble N.n d) false] [hx : Is (dw e x) (some (.int k p))] [hy : Is (dw e y) (some (.int k q))] [h : Au n W0 N (bp rd P l.toArray R rest) ((d, .bool (p == q)) :: e) A K' e'] :
    Au (n + 1) W0 N (bp rd P l.toArray R ({ dst := some d, op := .binOp .eql t x y t', type := ty, pos := pos, after := af, guard := none } :: rest)) e A K' e' := fi hd.h (dd (dI hx.h) (dI hy.h)) h
instance Gy [hd : Is (Nat.ble N.n d) false] [hx : Is (dw e x) (some (.int k p))] [hy : Is (dw e y) (some (.int k q))] [h : Au n W0 N (bp rd P l.toArray R rest) ((d, .bool (p != q)) :: e) A K' e'] :
    Au (n + 1) W0 N (bp rd P l.toArray R ({ dst := some d, op := .binOp .neq t x y t', type := ty, pos := pos, after := af, guard := none } :: rest)) e A K' e' := fi hd.h (du (dI hx.h) (dI hy.h)) h
end cmp
-- guards
theorem nN {l : List Oper} {r : Option Nat} (h : jy l j = r) : fK l.toArray j = r := (u9 _ _).symm.trans h
theorem nO {r : Option Value} (h : gq e j = r) : dl e j = r := (m9 _ _).symm.trans h
variable {s : Nat} {op : Op} {dst : Option Tmp}
instance Gz [ht : Is (jy l j) (some s)] [hv : Is (gq e s) (some (.bool b))] [h : Au n W0 N (bp rd P l.toArray R ({ dst := dst, op := op, type := ty, pos := pos, after := af, guard := none } :: rest)) e A K' e'] :
    Au (n + 1) W0 N (bp rd P l.toArray R ({ dst := dst, op := op, type := ty, pos := pos, after := af, guard := some (j, b) } :: rest)) e A K' e' := ⟨fun k => aY (nN ht.h) (nO hv.h) (h.go k)⟩
instance GA [hd : Is (Nat.ble N.n d) false] [ht : Is (jy l j) (some s)] [hv : Is (gq e s) (some undef)] [h : Au n W0 N (bp rd P l.toArray R rest) ((d, undef) :: e) A K' e'] :
    Au (n + 1) W0 N (bp rd P l.toArray R ({ dst := some d, op := op, type := ty, pos := pos, after := af, guard := some (j, b) } :: rest)) e A K' e' := ⟨fun k => yK (nN ht.h) (nO hv.h) (nL hd.h) (h.go k)⟩
instance GB [hd : Is (Nat.ble N.n d) false] [ht : Is (jy l j) (some s)] [hv : Is (gq e s) (some (.bool false))] [h : Au n W0 N (bp rd P l.toArray R rest) ((d, undef) :: e) A K' e'] :
    Au (n + 1) W0 N (bp rd P l.toArray R ({ dst := some d, op := op, type := ty, pos := pos, after := af, guard := some (j, true) } :: rest)) e A K' e' := ⟨fun k => bK (nN ht.h) (nO hv.h) rfl (nL hd.h) (h.go k)⟩
instance GD [hd : Is (Nat.ble N.n d) false] [ht : Is (jy l j) (some s)] [hv : Is (gq e s) (some (.bool true))] [h : Au n W0 N (bp rd P l.toArray R rest) ((d, undef) :: e) A K' e'] :
    Au (n + 1) W0 N (bp rd P l.toArray R ({ dst := some d, op := op, type := ty, pos := pos, after := af, guard := some (j, false) } :: rest)) e A K' e' := ⟨fun k => bK (nN ht.h) (nO hv.h) rfl (nL hd.h) (h.go k)⟩
end
-- what the program's types are: a fact each, laid where it is wanted
class UndQ (P : Program) (t : TypeId) (r : outParam TypeDesc) : Prop where
  h : P.underlying t = some r
class SzQ (P : Program) (t : TypeId) (n : outParam Nat) : Prop where
  h : ∀ w, (sizeOf t).run P w = .ok n w
class AgQ (P : Program) (t : TypeId) (b : outParam Bool) : Prop where
  h : ∀ w, (isAgg t).run P w = .ok b w
abbrev nP : List Field → Nat → Option Field
  | [], _ => none
  | v :: _, 0 => some v
  | _ :: l, j + 1 => nP l j
theorem qg : ∀ {l : List Field} {j : Nat} {r : Option Field}, nP l j = r → l[j]? = r
 | [], j, _, h => by simpa using h
 | v :: l, 0, _, h => by simpa using h
 | v :: l, j + 1, _, h => by simpa using qg (l := l) h
section
variable {rd : Option Nat} {P : Program} {W0 : World} {N : FSz} {K' : Act → World → Prop} {R : Exit → Act → World → Prop} {e e' : bq} {A B : List HP} {l rest : List Oper} {n : Nat}
variable {x y c : Operand} {t t' T ty tb : TypeId} {pos : String} {af : Array Edge} {u v : Value} {d j i b off sz : Nat} {vs : List Value}
variable {fs : List Field} {nm : String} {ft : TypeId} {fo : Nat} {em : Bool} {tg pk : String} {bo : Nat}
instance (priority := low) au_field [hd : Is (Nat.ble N.n d) false] [hx : Is (dw e x) (some (.pointer (some ⟨b, off, none⟩)))] [hu : UndQ P T (.struct fs.toArray)] [hf : Is (nP fs i) (some ⟨nm, ft, fo, em, tg, pk, bo⟩)] [hs : SzQ P ft sz] [hz : Is (Nat.beq sz 0) false]
    [h : Au n W0 N (bp rd P l.toArray R rest) ((d, .pointer (some ⟨b, off + fo, none⟩)) :: e) A K' e'] :
    Au (n + 1) W0 N (bp rd P l.toArray R ({ dst := some d, op := .fieldAddr T x i, type := ty, pos := pos, after := af, guard := none } :: rest)) e A K' e' := fi hd.h (ap (dI hx.h) hu.h (qg hf.h) hs.h hz.h rfl) h
instance GE [hd : Is (Nat.ble N.n d) false] [hx : Is (dw e x) (some (.pointer (some ⟨b, 0, none⟩)))] [hu : UndQ P T (.struct fs.toArray)] [hf : Is (nP fs i) (some ⟨nm, ft, fo, em, tg, pk, bo⟩)] [hs : SzQ P ft sz] [hz : Is (Nat.beq sz 0) false]
    [h : Au n W0 N (bp rd P l.toArray R rest) ((d, .pointer (some ⟨b, fo, none⟩)) :: e) A K' e'] :
    Au (n + 1) W0 N (bp rd P l.toArray R ({ dst := some d, op := .fieldAddr T x i, type := ty, pos := pos, after := af, guard := none } :: rest)) e A K' e' := fi hd.h (ap (dI hx.h) hu.h (qg hf.h) hs.h hz.h (Nat.zero_add _)) h
instance GF [hd : Is (Nat.ble N.n d) false] [ha : AgQ P t false] [hx : Is (dw e x) (some (.pointer (some ⟨b, off, none⟩)))] [hk : Tk pt b A (aj vs tb) B] [hv : Is (nM vs off) (some v)] [h : Au n W0 N (bp rd P l.toArray R rest) ((d, v) :: e) A K' e'] :
    Au (n + 1) W0 N (bp rd P l.toArray R ({ dst := some d, op := .load t x, type := ty, pos := pos, after := af, guard := none } :: rest)) e A K' e' := fi hd.h (am ha.h (dI hx.h) (aH (qf hv.h))) h
instance GG [hd : Is (Nat.ble N.n d) false] [ha : AgQ P t true] [hs : SzQ P t sz] [hx : Is (dw e x) (some (.pointer (some ⟨b, 0, none⟩)))] [hk : Tk pt b A (aj vs tb) B] [hv : Is vs.length sz] [h : Au n W0 N (bp rd P l.toArray R rest) ((d, .agg vs.toArray) :: e) A K' e'] :
    Au (n + 1) W0 N (bp rd P l.toArray R ({ dst := some d, op := .load t x, type := ty, pos := pos, after := af, guard := none } :: rest)) e A K' e' := fi hd.h (iS ha.h hs.h (dI hx.h) hv.h) h
instance GH {E m k : Nat} {a : Option Addr} {q : TypeId} [hd : Is (Nat.ble N.n d) false] [hu : UndQ P q (.slice E)] [hx : Is (dw e x) (some (.slice a m k))] [h : Au n W0 N (bp rd P l.toArray R rest) ((d, .int .i64 m) :: e) A K' e'] :
    Au (n + 1) W0 N (bp rd P l.toArray R ({ dst := some d, op := .call { callee := .builtin .len, args := #[x], argTypes := #[q] }, type := ty, pos := pos, after := af, guard := none } :: rest)) e A K' e' := fi hd.h (dU hu.h (dI hx.h)) h
instance GI {E : TypeId} {p : Option Addr} [hd : Is (Nat.ble N.n d) false] [hu : UndQ P t (.pointer E)] [hx : Is (dw e x) (some (.pointer p))] [hy : Is (dw e y) (some (.pointer none))] [h : Au n W0 N (bp rd P l.toArray R rest) ((d, .bool p.isNone) :: e) A K' e'] :
    Au (n + 1) W0 N (bp rd P l.toArray R ({ dst := some d, op := .binOp .eql t x y t', type := ty, pos := pos, after := af, guard := none } :: rest)) e A K' e' := fi hd.h (jT hu.h (dI hx.h) (dI hy.h)) h
instance GJ {E : TypeId} {p : Option Addr} [hd : Is (Nat.ble N.n d) false] [hu : UndQ P t (.pointer E)] [hx : Is (dw e x) (some (.pointer p))] [hy : Is (dw e y) (some (.pointer none))] [h : Au n W0 N (bp rd P l.toArray R rest) ((d, .bool (!p.isNone)) :: e) A K' e'] :
    Au (n + 1) W0 N (bp rd P l.toArray R ({ dst := some d, op := .binOp .neq t x y t', type := ty, pos := pos, after := af, guard := none } :: rest)) e A K' e' := fi hd.h (yN hu.h (dI hx.h) (dI hy.h)) h
end
abbrev nQ : Nat → List Value → bq
  | _, [] => []
  | i, v :: vs => (i, v) :: nQ (i + 1) vs
theorem ua : ∀ (i : Nat) (vs : List Value), jY i vs = nQ i vs
 | _, [] => rfl
 | i, v :: vs => by
  show (i, v) :: jY (i + 1) vs = (i, v) :: nQ (i + 1) vs
  rw [ua]
theorem aD {P : Program} {W0 : World} {vs : List Value} {A : List HP} {n : Nat} {f : FuncId} {fn : Func} {c : Code} {Post : Value → List HP → Prop} (hf : P.funcs[f]? = some fn) (hN : fn.ntmps = n) (hb : fn.body = some c) (hl : Nat.ble vs.length n = true)
  (k : aE W0 ⟨n, []⟩ (c.wpR none P (kS P W0 fn Post)) (nQ 0 vs) A) : ao P W0 f vs A Post := d5 hf hN hb hl (by rw [ua]; exact k)
-- drawn regions: closed facts are left to the rule
section
variable {P : Program} {ops : Array Oper} {W0 : World} {N : FSz} {Q : Exit → Act → World → Prop} {e : bq} {A : List HP} {cs : List (Nat × Nat × List Value)} {n : Nat} {listed : Array Bool}
variable {op : Op} {ty : TypeId} {pos : String} {af : Array Edge} {g : Option (Nat × Bool)} {v : Value} {d : Nat}
theorem ab (i : Nat) (ho : ops[i]? = some ⟨some d, op, ty, pos, af, g⟩) (hg : gw ops e g = some true) (hd : Nat.blt d N.n = true) [hq : POk Q] (hS : ∀ w, Own W0 w A → SC cs w) (hv : bP P (SC cs) N e op v)
  (k : aE W0 N (DR P ops Q cs n (listed.setIfInBounds i true)) ((d, v) :: e) A) (hs : Region.noSelect ops = true := by kernel_rfl) (hf : Region.free .any ops listed i = true := by kernel_rfl) (hr : (Region.ready .any ops listed).contains i = true := by kernel_rfl) : aE W0 N (DR P ops Q cs (n + 1) listed) e A :=
 yY i ho hg hs hf hr hd hS hv k
theorem aV (i : Nat) (ho : ops[i]? = some ⟨some d, op, ty, pos, af, g⟩) (hg : gw ops e g = some false) (hd : Nat.blt d N.n = true) [hq : POk Q] (hS : ∀ w, Own W0 w A → SC cs w)
  (k : aE W0 N (DR P ops Q cs n (listed.setIfInBounds i true)) ((d, undef) :: e) A) (hs : Region.noSelect ops = true := by kernel_rfl) (hf : Region.free .any ops listed i = true := by kernel_rfl) (hr : (Region.ready .any ops listed).contains i = true := by kernel_rfl) : aE W0 N (DR P ops Q cs (n + 1) listed) e A :=
 yZ i ho hg hs hf hr hd hS k
end
end
section
@[reducible,instance] def GK:=AgQ.mk sD
@[reducible,instance] def GL:=AgQ.mk xy
@[reducible,instance] def GM:=AgQ.mk kE
@[reducible,instance] def GN:=AgQ.mk Tryz.isAgg196
@[reducible,instance] def GO:=AgQ.mk Tryz.isAgg224
@[reducible,instance] def GP:=AgQ.mk jo
@[reducible,instance] def GQ:=AgQ.mk fA
@[reducible,instance] def GR:=AgQ.mk pf
@[reducible,instance] def GT:=AgQ.mk pi
@[reducible,instance] def GU:=AgQ.mk jM
@[reducible,instance] def GV:=AgQ.mk Tryz.isAgg27
@[reducible,instance] def GW:=AgQ.mk gC
@[reducible,instance] def GX:=AgQ.mk aT
@[reducible,instance] def GY:=AgQ.mk Tryz.isAgg319
@[reducible,instance] def GZ:=AgQ.mk Tryz.isAgg332
@[reducible,instance] def H0:=AgQ.mk gV
@[reducible,instance] def H1:=AgQ.mk xz
@[reducible,instance] def H2:=AgQ.mk j6
@[reducible,instance] def H3:=AgQ.mk eS
@[reducible,instance] def H4:=AgQ.mk jN
@[reducible,instance] def H5:=AgQ.mk sF
@[reducible,instance] def H6:=AgQ.mk iM
@[reducible,instance] def H7:=AgQ.mk xA
@[reducible,instance] def H8:=AgQ.mk Tryz.isAgg54
@[reducible,instance] def H9:=AgQ.mk kF
@[reducible,instance] def Ha:=AgQ.mk mV
@[reducible,instance] def Hb:=AgQ.mk Tryz.isAgg89
@[reducible,instance] def Hc:=AgQ.mk Tryz.isAgg92
@[reducible,instance] def Hd:=AgQ.mk xB
@[reducible,instance] def He:=SzQ.mk eb
@[reducible,instance] def Hf:=SzQ.mk xC
@[reducible,instance] def Hg:=SzQ.mk xD
@[reducible,instance] def Hh:=SzQ.mk Tryz.sizeOf124
@[reducible,instance] def Hi:=SzQ.mk sG
@[reducible,instance] def Hj:=SzQ.mk xE
@[reducible,instance] def Hl:=SzQ.mk jp
@[reducible,instance] def Hm:=SzQ.mk pj
@[reducible,instance] def Hn:=SzQ.mk mW
@[reducible,instance] def Ho:=SzQ.mk kG
@[reducible,instance] def Hq:=SzQ.mk iA
@[reducible,instance] def Hr:=SzQ.mk xF
@[reducible,instance] def Hs:=SzQ.mk xG
@[reducible,instance] def Ht:=SzQ.mk xH
@[reducible,instance] def Hu:=SzQ.mk pn
@[reducible,instance] def Hv:=SzQ.mk xI
@[reducible,instance] def Hw:=SzQ.mk xJ
@[reducible,instance] def Hy:=SzQ.mk xK
@[reducible,instance] def Hz:=SzQ.mk sH
@[reducible,instance] def HA:=SzQ.mk sI
@[reducible,instance] def HB:=SzQ.mk f0
@[reducible,instance] def HC:=SzQ.mk mX
@[reducible,instance] def HD:=SzQ.mk fc
@[reducible,instance] def HE:=SzQ.mk jO
@[reducible,instance] def HF:=SzQ.mk xL
@[reducible,instance] def HG:=SzQ.mk j7
@[reducible,instance] def HH:=SzQ.mk j8
@[reducible,instance] def HI:=SzQ.mk xM
@[reducible,instance] def HJ:=SzQ.mk dM
@[reducible,instance] def HK:=SzQ.mk ar
@[reducible,instance] def HL:=SzQ.mk xN
@[reducible,instance] def HM:=SzQ.mk lI
@[reducible,instance] def HN:=SzQ.mk eM
@[reducible,instance] def HO:=SzQ.mk sJ
@[reducible,instance] def HQ:=SzQ.mk xO
@[reducible,instance] def HR:=SzQ.mk cu
@[reducible,instance] def HS:=SzQ.mk cg
@[reducible,instance] def HT:=SzQ.mk lJ
@[reducible,instance] def HU:=SzQ.mk eh
@[reducible,instance] def HV:=SzQ.mk sK
@[reducible,instance] def HW:=SzQ.mk lK
@[reducible,instance] def HX:=SzQ.mk gj
@[reducible,instance] def HY:=SzQ.mk pp
@[reducible,instance] def HZ:=SzQ.mk Tryz.sizeOf54
@[reducible,instance] def I0:=SzQ.mk sM
@[reducible,instance] def I1:=SzQ.mk j9
@[reducible,instance] def I2:=SzQ.mk dT
@[reducible,instance] def I3:=SzQ.mk iN
@[reducible,instance] def I4:=SzQ.mk sN
@[reducible,instance] def I5:=SzQ.mk jP
@[reducible,instance] def I6:=UndQ.mk eB
@[reducible,instance] def I7:=UndQ.mk dj
@[reducible,instance] def I8:=UndQ.mk gW
@[reducible,instance] def I9:=UndQ.mk Tryz.underlying124
@[reducible,instance] def Ia:=UndQ.mk Fp
@[reducible,instance] def Ib:=UndQ.mk Tryz.underlying127
@[reducible,instance] def Ic:=UndQ.mk Tryz.underlying132
@[reducible,instance] def Ie:=UndQ.mk sP
@[reducible,instance] def If:=UndQ.mk Tryz.underlying136
@[reducible,instance] def Ig:=UndQ.mk sQ
@[reducible,instance] def Ih:=UndQ.mk gD
@[reducible,instance] def Ii:=UndQ.mk lL
@[reducible,instance] def Ij:=UndQ.mk pq
@[reducible,instance] def Ik:=UndQ.mk fB
@[reducible,instance] def Il:=UndQ.mk pr
@[reducible,instance] def Io:=UndQ.mk pu
@[reducible,instance] def Ip:=UndQ.mk ja
@[reducible,instance] def Iq:=UndQ.mk jq
@[reducible,instance] def Ir:=UndQ.mk kI
@[reducible,instance] def Iu:=UndQ.mk Tryz.underlying196
@[reducible,instance] def Iv:=UndQ.mk jQ
@[reducible,instance] def Iw:=UndQ.mk jr
@[reducible,instance] def Ix:=UndQ.mk eC
@[reducible,instance] def Iy:=UndQ.mk pw
@[reducible,instance] def Iz:=UndQ.mk sR
@[reducible,instance] def IA:=UndQ.mk gX
@[reducible,instance] def IB:=UndQ.mk Fq
@[reducible,instance] def IC:=UndQ.mk Fs
@[reducible,instance] def ID:=UndQ.mk gE
@[reducible,instance] def IE:=UndQ.mk gk
@[reducible,instance] def IF:=UndQ.mk px
@[reducible,instance] def IG:=UndQ.mk cG
@[reducible,instance] def IH:=UndQ.mk sT
@[reducible,instance] def II:=UndQ.mk mY
@[reducible,instance] def IJ:=UndQ.mk Ft
@[reducible,instance] def IK:=UndQ.mk py
@[reducible,instance] def IL:=UndQ.mk xP
@[reducible,instance] def IM:=UndQ.mk Fu
@[reducible,instance] def IN:=UndQ.mk dF
@[reducible,instance] def IP:=UndQ.mk Fv
@[reducible,instance] def IQ:=UndQ.mk lM
@[reducible,instance] def IR:=UndQ.mk kJ
@[reducible,instance] def IS:=UndQ.mk js
@[reducible,instance] def IT:=UndQ.mk sW
@[reducible,instance] def IU:=UndQ.mk Tryz.underlying405
@[reducible,instance] def IV:=UndQ.mk Fw
@[reducible,instance] def IW:=UndQ.mk pz
@[reducible,instance] def IX:=UndQ.mk mZ
@[reducible,instance] def IY:=UndQ.mk pA
@[reducible,instance] def IZ:=UndQ.mk lN
@[reducible,instance] def J0:=UndQ.mk Tryz.underlying45
@[reducible,instance] def J1:=UndQ.mk Fx
@[reducible,instance] def J2:=UndQ.mk gF
@[reducible,instance] def J3:=UndQ.mk ii
@[reducible,instance] def J4:=UndQ.mk eD
@[reducible,instance] def J5:=UndQ.mk sX
@[reducible,instance] def J6:=UndQ.mk xQ
@[reducible,instance] def J7:=UndQ.mk Tryz.underlying55
@[reducible,instance] def J8:=UndQ.mk fe
@[reducible,instance] def J9:=UndQ.mk dC
@[reducible,instance] def Ja:=UndQ.mk xR
@[reducible,instance] def Jb:=UndQ.mk Tryz.underlying75
@[reducible,instance] def Jc:=UndQ.mk Tryz.underlying76
@[reducible,instance] def Jd:=UndQ.mk Fy
@[reducible,instance] def Je:=UndQ.mk Tryz.underlying83
@[reducible,instance] def Jf:=UndQ.mk lO
@[reducible,instance] def Jg:=UndQ.mk Tryz.underlying92
@[reducible,instance] def Jh:=UndQ.mk Tryz.underlying94
@[reducible,instance] def Ji:=UndQ.mk Tryz.underlying97
@[reducible,instance] def Jj:=UndQ.mk Tryz.underlying98
end
section
open Go.RowKit
section
variable {α : Type} {f : α → List Value} {k : Nat}
theorem cX (hf : ∀ x, (f x).length = k) : ∀ (l : List α), (l.flatMap f).length = l.length * k
 | [] => by simp
 | x :: l => by rw [List.flatMap_cons, List.length_append, hf, cX hf l, List.length_cons, Nat.succ_mul, Nat.add_comm]
theorem qh (hf : ∀ x, (f x).length = k) : ∀ (l : List α) (i : Nat) (sp : List Value), i ≤ l.length → (l.flatMap f ++ sp).drop (i * k) = (l.drop i).flatMap f ++ sp
 | l, 0, sp, _ => by simp
 | [], i + 1, sp, h => by simp at h
 | x :: l, i + 1, sp, h => by
  have h0 : (f x ++ (l.flatMap f ++ sp)).drop k = l.flatMap f ++ sp := by
   rw [List.drop_append_of_le_length (by rw [hf]; omega), List.drop_of_length_le (by rw [hf]; omega), List.nil_append]
  rw [List.flatMap_cons, List.append_assoc, Nat.succ_mul, Nat.add_comm (i * k) k, ← List.drop_drop, h0, List.drop_succ_cons]
  exact qh hf l i sp (by simpa using h)
theorem ma (hf : ∀ x, (f x).length = k) (l : List α) (i : Nat) (sp : List Value) (h : i < l.length) : ((l.flatMap f ++ sp).drop (i * k)).take k = f l[i] := by
 rw [qh hf l i sp (by omega), List.drop_eq_getElem_cons h, List.flatMap_cons, List.append_assoc]
 rw [List.take_append_of_le_length (by rw [hf]; omega), List.take_of_length_le (by rw [hf]; omega)]
theorem jf (hf : ∀ x, (f x).length = k) (l : List α) (i j : Nat) (sp : List Value) (h : i < l.length) (hj : j < k) : (l.flatMap f ++ sp)[i * k + j]? = (f l[i])[j]? := by
 have := congrArg (fun r => r[j]?) (ma hf l i sp h)
 simp only [List.getElem?_take_of_lt hj, List.getElem?_drop] at this
 exact this
theorem kT : ∀ (vs l : List Value) (i : Nat), i + vs.length ≤ l.length → setR l i vs = l.take i ++ vs ++ l.drop (i + vs.length)
 | [], l, i, h => by simp [setR]
 | v :: vs, l, i, h => by
  simp only [List.length_cons] at h
  rw [setR, kT vs (l.set i v) (i + 1) (by simp; omega)]
  have h1 : (l.set i v).take (i + 1) = l.take i ++ [v] := by
   rw [List.take_set, List.take_succ_eq_append_getElem (by omega)]
   rw [List.set_append_right _ _ (by simp; omega)]
   simp [Nat.min_eq_left (show i ≤ l.length by omega)]
  have h2 : (l.set i v).drop (i + 1 + vs.length) = l.drop (i + (vs.length + 1)) := by
   rw [List.drop_set_of_lt (by omega)]; congr 1; omega
  rw [h1, h2]; simp
theorem z4 (hf : ∀ x, (f x).length = k) (l : List α) (i : Nat) (sp : List Value) (h : i ≤ l.length) : (l.flatMap f ++ sp).take (i * k) = (l.take i).flatMap f := by
 have e : l.flatMap f = (l.take i).flatMap f ++ (l.drop i).flatMap f := by rw [← List.flatMap_append, List.take_append_drop]
 have hl : ((l.take i).flatMap f).length = i * k := by rw [cX hf, List.length_take, Nat.min_eq_left h]
 rw [e, List.append_assoc, List.take_append_of_le_length (by omega), List.take_of_length_le (by omega)]
theorem nR (hf : ∀ x, (f x).length = k) (l : List α) (i : Nat) (x : α) (sp : List Value) (h : i < l.length) : setR (l.flatMap f ++ sp) (i * k) (f x) = (l.set i x).flatMap f ++ sp := by
 have hlen := cX hf l
 have hb : i * k + k ≤ l.length * k := by have := Nat.mul_le_mul_right k (show i + 1 ≤ l.length by omega); rw [Nat.succ_mul] at this; exact this
 rw [kT _ _ _ (by rw [hf, List.length_append]; omega), hf, z4 hf l i sp (by omega)]
 have e : i * k + k = (i + 1) * k := by rw [Nat.succ_mul]
 rw [e, qh hf l (i + 1) sp (by omega), List.set_eq_take_append_cons_drop, if_pos h]
 simp [List.flatMap_append, List.flatMap_cons]
theorem z5 (L : List Value) (o k j : Nat) (v : Value) (h : o + k ≤ L.length) (hj : j < k) : L.take o ++ ((L.drop o).take k).set j v ++ L.drop (o + k) = L.set (o + j) v := by
 have e : L = L.take o ++ ((L.drop o).take k ++ L.drop (o + k)) := by
  rw [← List.drop_drop, List.take_append_drop, List.take_append_drop]
 have h1 : (L.take o).length = o := by rw [List.length_take]; omega
 have h2 : ((L.drop o).take k).length = k := by rw [List.length_take, List.length_drop]; omega
 conv => rhs; rw [e]
 rw [List.set_append_right _ _ (by omega), h1, Nat.add_sub_cancel_left, List.set_append_left _ _ (by omega), List.append_assoc]
theorem mb (hf : ∀ x, (f x).length = k) (l : List α) (i j : Nat) (v : Value) (x : α) (sp : List Value) (h : i < l.length) (hj : j < k) (hx : f x = (f l[i]).set j v) : (l.flatMap f ++ sp).set (i * k + j) v = (l.set i x).flatMap f ++ sp := by
 have hb : i * k + k ≤ l.length * k := by have := Nat.mul_le_mul_right k (show i + 1 ≤ l.length by omega); rw [Nat.succ_mul] at this; exact this
 have hlen := cX hf l
 have hle : i * k + k ≤ (l.flatMap f ++ sp).length := by rw [List.length_append, hlen]; omega
 rw [← nR hf l i x sp h, hx, ← ma hf l i sp h, kT _ _ _ (by rw [List.length_set, List.length_take, List.length_drop]; omega)]
 rw [List.length_set, List.length_take, List.length_drop, Nat.min_eq_left (by omega)]
 exact (z5 _ _ _ _ _ hle hj).symm
end
section
variable {rd : Option Nat} {P : Program} {S : World → Prop} {W0 : World} {N : FSz} {Q : Exit → Act → World → Prop} {e : bq} {A B R : List HP} {ops : Array Oper} {rest : List Oper}
variable {op : Op} {ty t t' : TypeId} {pos : String} {af : Array Edge} {v u : Value} {d b off : Nat} {x y : Operand} {l l' vs : List Value}
theorem ka {de : TypeDesc} (hu : P.underlying t = some de) (hn : ∀ ms, de ≠ .interface ms) (hx : ev e x = some v) : bP P S N e (.makeInterface t x) (.iface t v) := fun a w _ _ _ _ _ hF _ => by
 simp only [execOp, Instr.makeInterface, hF.eval hx, Sem.run_bind, dH hu, Result.andThen_ok]
 cases de <;> first | rfl | exact absurd rfl (hn _)
theorem nS {de : TypeDesc} (hu : P.underlying t' = some de) (hn : ∀ ms, de ≠ .interface ms) (hx : ev e x = some (.iface t' v)) : bP P S N e (.typeAssert x t t' false) v := fun a w _ _ _ _ _ hF _ => by
 simp only [execOp, Instr.typeAssert, hF.eval hx, Sem.run_bind, dH hu, Result.andThen_ok]
 cases de <;> first | (simp; done) | exact absurd rfl (hn _)
theorem i7 {fn : Fn} {fs cs : Array Operand} {us : List Value} (h1 : ej e fs.toList = some us) (h2 : ej e cs.toList = some vs) : bP P S N e (.makeFunc fn fs cs) (.func fn us.toArray vs.toArray) := fun a w _ _ _ _ _ hF _ => by
 have e1 : fs.map a.eval = us.toArray := by rw [← hF.evals h1]; apply Array.ext'; simp
 have e2 : cs.map a.eval = vs.toArray := by rw [← hF.evals h2]; apply Array.ext'; simp
 simp [execOp, Instr.makeFunc, e1, e2]
theorem add_zero (a : Addr) : a.add 0 = a := rfl
theorem kb {E n c : Nat} {a' : Option Addr} {k : IntKind} {h : Nat} {i : Int} (hu : P.underlying t = some (.slice E)) (hs : ∀ w, (sizeOf E).run P w = .ok d w) (hx : ev e x = some (.slice a' n c)) (hy : ev e y = some (.int k i)) (hi : i = (h : Int)) (hc : h ≤ c) :
  bP P S N e (.slice t x none (some y) none) (.slice a' h c) := fun a w _ _ _ _ _ hF _ => by
 subst hi
 have h1 : (0 : Int) ≤ (h : Int) ∧ (h : Int) ≤ (c : Int) := by omega
 simp only [execOp, Instr.sliceAt, Instr.slice, hF.eval hx, hF.eval hy, Sem.run_bind, dH hu, Result.andThen_ok, Option.map_none, Option.map_some, Instr.sliceBounds, Instr.sliceBound, asIntOf, hs, Sem.run_pure, h1, and_self, if_true]
 by_cases hc0 : c = 0
 ·simp [hc0]
 ·simp [hc0, add_zero]
theorem z6 {recv : Operand} {nm : String} {xs : Array Operand} {ats : Array TypeId} {T : TypeId} {rv rv' : Value} {f : FuncId} {Post : Value → List HP → Prop} (hr : ev e recv = some (.iface T rv))
  (hm : ∀ w, (method (P.types.size + Made.depth) T rv nm).run P w = .ok (f, rv') w) (hc : ∀ args w, (callFunc f args).run P w = .ok (.enter f args) w) (hx : ej e xs.toList = some vs)
  (hs : ao P W0 f (rv' :: vs) A Post) : cQ P W0 N e A (.call { callee := .invoke recv nm, args := xs, argTypes := ats }) Post := by
 intro a w dst ty pos af g K Q hF hO k
 have he : xs.map a.eval = vs.toArray := by
  have := hF.evals hx
  rw [← this]; apply Array.ext'; simp
 unfold Oper.wp
 have hrun : (execOp a.eval { dst := dst, op := .call { callee := .invoke recv nm, args := xs, argTypes := ats }, type := ty, pos := pos, after := af, guard := g }).run P w = .ok (.enter f (rv' :: vs).toArray) w := by
  simp only [execOp, resolve, Sem.run_bind, Sem.run_pure, Result.andThen_ok, invoke, he, hF.eval hr]
  have e0 : (#[Value.iface T rv] ++ vs.toArray : Array Value)[0]? = some (.iface T rv) := by simp
  have e1 : (#[Value.iface T rv] ++ vs.toArray : Array Value).extract 1 (#[Value.iface T rv] ++ vs.toArray : Array Value).size = vs.toArray := by
   apply Array.ext'; simp
  simp only [e0, e1, callMethod, Sem.run_bind, run_program, Result.andThen_ok, hm]
  rw [show (#[rv'] ++ vs.toArray : Array Value) = (rv' :: vs).toArray by simp, hc]
 rw [hrun]
 refine (hs w hO).mono ?_
 rintro _ w' ⟨v, B, rfl, hp, hO'⟩
 exact k v w' B hp hO'
theorem nT {fx : Operand} {xs : Array Operand} {ats : Array TypeId} {f : FuncId} {us cs : List Value} {Post : Value → List HP → Prop} (hf : ev e fx = some (.func (.func f) us.toArray cs.toArray))
  (hc : ∀ args w, (callFunc f args).run P w = .ok (.enter f args) w) (hx : ej e xs.toList = some vs) (hs : ao P W0 f (us ++ vs ++ cs) A Post) : cQ P W0 N e A (.call { callee := .value fx, args := xs, argTypes := ats }) Post := by
 intro a w dst ty pos af g K Q hF hO k
 have he : xs.map a.eval = vs.toArray := by
  have := hF.evals hx
  rw [← this]; apply Array.ext'; simp
 unfold Oper.wp
 have hrun : (execOp a.eval { dst := dst, op := .call { callee := .value fx, args := xs, argTypes := ats }, type := ty, pos := pos, after := af, guard := g }).run P w = .ok (.enter f (us ++ vs ++ cs).toArray) w := by
  simp only [execOp, resolve, Deferred.ofValue, Sem.run_bind, Sem.run_pure, Result.andThen_ok, invoke, he, hF.eval hf]
  rw [show (us.toArray ++ vs.toArray ++ cs.toArray : Array Value) = (us ++ vs ++ cs).toArray by simp, hc]
 rw [hrun]
 refine (hs w hO).mono ?_
 rintro _ w' ⟨v, B, rfl, hp, hO'⟩
 exact k v w' B hp hO'
theorem z7 {Post : Value → List HP → Prop} (hp : Ent A B) (h : cQ P W0 N e B op Post) : cQ P W0 N e A op Post :=
 fun a w dst ty pos af g K Q hF hO k => h a w dst ty pos af g K Q hF (hO.ent hp) k
def osl (E : TypeId) (sz : Nat) (v : Value) (xs : List Value) : HP := fun l =>
  (v = .slice none 0 0 ∧ xs = [] ∧ l = []) ∨
  ∃ g n cap sp, v = .slice (some ⟨g, 0, none⟩) n cap ∧ n ≤ cap ∧ cap ≤ maxLen ∧ xs.length = n * sz ∧ (xs ++ sp).length = cap * sz ∧ l = [(g, aj (xs ++ sp) E)]
theorem Own.osl {E sz : Nat} {w : World} {xs : List Value} (h : Own W0 w (osl E sz v xs :: A)) : (v = .slice none 0 0 ∧ xs = [] ∧ Own W0 w A) ∨
  ∃ g n cap sp, v = .slice (some ⟨g, 0, none⟩) n cap ∧ n ≤ cap ∧ cap ≤ maxLen ∧ xs.length = n * sz ∧ (xs ++ sp).length = cap * sz ∧ Own W0 w (pt g (aj (xs ++ sp) E) :: A) := by
 obtain ⟨ls, ⟨l1, l2, rfl, h1, hs⟩, hn, hb⟩ := h.owns
 rcases h1 with ⟨h1, h2, rfl⟩ | ⟨g, n, cap, sp, h1, h2, h3, h4, h5, rfl⟩
 ·exact .inl ⟨h1, h2, h.os, h.tape, h.output, h.size, h.base, l2, hs, by simpa using hn, fun p hp => hb p (by simpa using hp)⟩
 ·exact .inr ⟨g, n, cap, sp, h1, h2, h3, h4, h5, h.os, h.tape, h.output, h.size, h.base, _, ⟨_, l2, rfl, rfl, hs⟩, hn, hb⟩
theorem gr {K : Act → World → Prop} {E sz : Nat} {xs : List Value} (h0 : v = .slice none 0 0 → xs = [] → aE W0 N K e A)
  (h1 : ∀ g n cap sp, v = .slice (some ⟨g, 0, none⟩) n cap → n ≤ cap → cap ≤ maxLen → xs.length = n * sz → (xs ++ sp).length = cap * sz → aE W0 N K e (pt g (aj (xs ++ sp) E) :: A)) : aE W0 N K e (osl E sz v xs :: A) := fun a w hF hO => by
 rcases hO.osl with ⟨k1, k2, k3⟩ | ⟨g, n, cap, sp, k1, k2, k3, k4, k5, k6⟩
 ·exact h0 k1 k2 a w hF k3
 ·exact h1 g n cap sp k1 k2 k3 k4 k5 a w hF k6
theorem ub {f : FuncId} {args : List Value} {Post : Value → List HP → Prop} {E sz : Nat} {xs : List Value} (h0 : v = .slice none 0 0 → xs = [] → ao P W0 f args A Post)
  (h1 : ∀ g n cap sp, v = .slice (some ⟨g, 0, none⟩) n cap → n ≤ cap → cap ≤ maxLen → xs.length = n * sz → (xs ++ sp).length = cap * sz → ao P W0 f args (pt g (aj (xs ++ sp) E) :: A) Post) : ao P W0 f args (osl E sz v xs :: A) Post := fun w hO => by
 rcases hO.osl with ⟨k1, k2, k3⟩ | ⟨g, n, cap, sp, k1, k2, k3, k4, k5, k6⟩
 ·exact h0 k1 k2 w k3
 ·exact h1 g n cap sp k1 k2 k3 k4 k5 w k6
theorem eP {E sz g n cap : Nat} {xs sp : List Value} [h : Tk pt g A (aj (xs ++ sp) E) R] (h1 : n ≤ cap) (h2 : cap ≤ maxLen) (h3 : xs.length = n * sz) (h4 : (xs ++ sp).length = cap * sz) [k : Ent R B] : Ent A (osl E sz (.slice (some ⟨g, 0, none⟩) n cap) xs :: B) :=
 (Ent.ofPerm h.perm).trans ((Ent.cons k).trans ⟨fun l hl => by
  obtain ⟨l1, l2, rfl, rfl, hs⟩ := hl
  exact ⟨_, [], ⟨_, l2, rfl, .inr ⟨g, n, cap, sp, rfl, h1, h2, h3, h4, rfl⟩, hs⟩, by simp⟩⟩)
theorem fj {E sz : Nat} [k : Ent A B] : Ent A (osl E sz (.slice none 0 0) [] :: B) :=
 k.trans ⟨fun l hl => ⟨l, [], ⟨[], l, rfl, .inl ⟨rfl, rfl, rfl⟩, hl⟩, by simp⟩⟩
theorem dy {E sz n m c cx by_ : Nat} {bx ox : Nat} {info : TypeInfo} {z : Value} {an : Option Addr} {xs news : List Value} (hu : P.underlying t = some (.slice E))
  (hi : P.info? E = some info) (hz : info.zero = some z) (hsz : info.size = sz) (hby : info.bytes = by_) (hz1 : z.cells.size = sz) (hsz0 : 0 < sz)
  (hx : ev e x = some (.slice an n c)) (hy : ev e y = some (.slice (some ⟨bx, ox, none⟩) m cx)) [h : Tk (osl E sz) (.slice an n c) A xs R]
  (hnew : cp (bu W0 A) bx ox news) (hnl : news.length = m * sz) (h1 : ek news = true) (h63 : n + m ≤ maxLen) (hbig : (n + m) * by_ ≤ 140737488355328) :
  cQ P W0 N e A (.call { callee := .builtin .append, args := #[x, y], argTypes := #[t, t] }) (fun v B => ∃ a' c', v = .slice a' (n + m) c' ∧ B = osl E sz v (xs ++ news) :: R) := by
 intro a w dst ty pos af g K Q hF hO k
 have hO' := hO.tk (r := osl E sz) (b := .slice an n c)
 have hcell : ∀ j u, news[j]? = some u → w.cell? ((⟨bx, ox, none⟩ : Addr).add j) = some u := fun j u hj => by rw [f5]; exact hnew j u hj w hO
 have hone : ∀ u ∈ news, u.oneCell' = true := fun u hm => by simpa [ek] using List.all_eq_true.1 h1 u hm
 have hsmall : n + m ≤ 9223372036854775807 := by simp only [maxLen] at h63; omega
 suffices hh : ∃ a' c' w', (Builtin.append_ #[t, t] ty #[.slice an n c, .slice (some ⟨bx, ox, none⟩) m cx]).run P w = .ok (.slice a' (n + m) c') w' ∧ Own W0 w' (osl E sz (.slice a' (n + m) c') (xs ++ news) :: R) by
  obtain ⟨a', c', w', hrun, hown⟩ := hh
  unfold Oper.wp
  have hexec : (execOp a.eval { dst := dst, op := .call { callee := .builtin .append, args := #[x, y], argTypes := #[t, t] }, type := ty, pos := pos, after := af, guard := g }).run P w = .ok (.value (.slice a' (n + m) c')) w' := by
   simp only [execOp, resolve, invoke, builtin, Sem.run_bind, Sem.run_pure, Result.andThen_ok, List.map_toArray, List.map_cons, List.map_nil, hF.eval hx, hF.eval hy, hrun]
  rw [hexec]
  exact k _ w' _ ⟨a', c', rfl, rfl⟩ hown
 subst hsz
 subst hby
 rcases hO'.osl with ⟨k1, k2, k3⟩ | ⟨g, n', cap, sp, k1, k2, k3, k4, k5, k6⟩
 ·cases k1; subst k2
  by_cases hm : m = 0
  ·subst hm
   have hn : news = [] := List.eq_nil_of_length_eq_zero (by simpa using hnl)
   subst hn
   refine ⟨none, 0, w, ?_, k3.ent fj⟩
   simp [Builtin.append_, dH hu, sizeOf, typeInfo, hi, Builtin.lenOf, Builtin.firstCells, loadCells, loadCellsFrom]
  ·have hr := run_append_nil (P := P) w t ty E info z hu hi hz ⟨bx, ox, none⟩ m cx news hnl hcell (by omega) (by omega) (by have hb := hbig; simp only [Nat.zero_add] at hb; omega)
   refine ⟨_, _, _, by simpa using hr, ?_⟩
   have hge := grownCap_ge w m 0 E
   have hcm := grownCap_le_maxLen w m 0 E (by omega)
   have hnew' := (Own.drew k3 (w.drawn + 1)).new (aj (news ++ (Builtin.zeroCells z.cells (grownCap w m 0 E - m)).toList) E)
   have hw : (w.drew.alloc (.cells (news.toArray ++ Builtin.zeroCells z.cells (grownCap w m 0 E - m)) E)) = { ({ w with drawn := w.drawn + 1 } : World) with heap := w.heap.push (aj (news ++ (Builtin.zeroCells z.cells (grownCap w m 0 E - m)).toList) E) } := by
    have ea : (news ++ (Builtin.zeroCells z.cells (grownCap w m 0 E - m)).toList).toArray = news.toArray ++ Builtin.zeroCells z.cells (grownCap w m 0 E - m) := by apply Array.ext'; simp
    simp only [World.drew, World.alloc, aj, ea]
   rw [hw]
   refine hnew'.ent ?_
   have := @eP (pt w.heap.size (aj (news ++ (Builtin.zeroCells z.cells (grownCap w m 0 E - m)).toList) E) :: R) R R E info.size w.heap.size m (grownCap w m 0 E) news _ _ hge hcm hnl (by rw [List.length_append, hnl]; simp only [Array.length_toList, size_zeroCells, hz1, ← Nat.add_mul]; congr 1; omega) _
   simpa using this
 ·cases k1
  by_cases hroom : n + m ≤ c
  ·have hfit : n * info.size + news.length ≤ ((xs ++ sp).toArray).size := by rw [hnl, List.size_toArray, k5, ← Nat.add_mul]; exact Nat.mul_le_mul_right _ hroom
   have hr := run_append_room (P := P) w t ty E info hu hi g n c (xs ++ sp).toArray k6.has.2 ⟨bx, ox, none⟩ m cx news hnl hcell hone hroom hfit
   refine ⟨_, _, _, hr, ?_⟩
   have hl : (xs ++ sp).toArray.toList.take (n * info.size) ++ news ++ (xs ++ sp).toArray.toList.drop (n * info.size + news.length) = xs ++ news ++ sp.drop news.length := by
    simp only [← k4]
    rw [List.take_left, ← List.drop_drop, List.drop_left]
   rw [hl]
   have hset : Own W0 (w.setRow g (xs ++ news ++ sp.drop news.length).toArray) (pt g (aj (xs ++ news ++ sp.drop news.length) E) :: R) :=
    k6.set rfl rfl rfl (by simp [World.setRow]) (setRow_heap w g _ _ E _ k6.has.2) (fun k hk => setRow_other w g k _ hk)
   refine hset.ent ?_
   have hspl : news.length ≤ sp.length := by
    have := k5; rw [List.length_append, k4] at this; rw [hnl]
    have h3 := Nat.mul_le_mul_right info.size hroom; rw [Nat.add_mul] at h3; omega
   exact @eP _ R R E info.size g (n + m) c (xs ++ news) (sp.drop news.length) _ hroom k3 (by rw [List.length_append, k4, hnl, Nat.add_mul]) (by
    rw [← k5]; simp only [List.length_append, List.length_drop]; omega) _
  ·have holds : ∀ j u, xs[j]? = some u → w.cell? ((⟨g, 0, none⟩ : Addr).add j) = some u := fun j u hj => by
    rw [f5, Nat.zero_add]
    have := k6.has.2
    simp only [World.cell?, this, Option.isSome_none, Bool.false_eq_true, if_false]
    rw [List.getElem?_toArray, List.getElem?_append_left (by
     rcases Nat.lt_or_ge j xs.length with q | q
     ·exact q
     ·rw [List.getElem?_eq_none q] at hj; cases hj)]
    exact hj
   have hr := run_append_grow (P := P) w t ty E info z hu hi hz ⟨g, 0, none⟩ n c xs k4 holds ⟨bx, ox, none⟩ m cx news hnl hcell (by omega) (by omega) (growslice_fits (by omega) hbig)
   refine ⟨_, _, _, hr, ?_⟩
   have hge := grownCap_ge w (n + m) c E
   have hcm := grownCap_le_maxLen w (n + m) c E h63
   have hnew' := (Own.drew k6.drop (w.drawn + 1)).new (aj (xs ++ news ++ (Builtin.zeroCells z.cells (grownCap w (n + m) c E - (n + m))).toList) E)
   have hw : (w.drew.alloc (.cells (xs.toArray ++ news.toArray ++ Builtin.zeroCells z.cells (grownCap w (n + m) c E - (n + m))) E)) = { ({ w with drawn := w.drawn + 1 } : World) with heap := w.heap.push (aj (xs ++ news ++ (Builtin.zeroCells z.cells (grownCap w (n + m) c E - (n + m))).toList) E) } := by
    have ea : (xs ++ news ++ (Builtin.zeroCells z.cells (grownCap w (n + m) c E - (n + m))).toList).toArray = xs.toArray ++ news.toArray ++ Builtin.zeroCells z.cells (grownCap w (n + m) c E - (n + m)) := by apply Array.ext'; simp
    simp only [World.drew, World.alloc, aj, ea]
   rw [hw]
   refine hnew'.ent ?_
   exact @eP _ R R E info.size w.heap.size (n + m) (grownCap w (n + m) c E) (xs ++ news) _ _ hge hcm (by rw [List.length_append, k4, hnl, Nat.add_mul]) (by
    rw [List.length_append, List.length_append, k4, hnl]; simp only [Array.length_toList, size_zeroCells, hz1, ← Nat.add_mul]; congr 1; omega) _
theorem dz [h : Tk pt b A (aj l ty) R] : cp (bu W0 A) b 0 l := ju (by simp)
def kU (k : Nat) (e : bq) : Nat → List (Nat × Operand) → List (List Value) → Prop
  | _, [], [] => True
  | i, (j, x) :: ps, r :: rs => j = i ∧ ev e x = some (.agg r.toArray) ∧ r.length = k ∧ kU k e (i + 1) ps rs
  | _, _, _ => False
theorem fD {k i : Nat} : kU k e i [] [] := trivial
theorem eo {k i : Nat} {ps : List (Nat × Operand)} {r : List Value} {rs : List (List Value)} (h : ev e x = some (.agg r.toArray)) (hl : r.length = k) (hr : kU k e (i + 1) ps rs) : kU k e i ((i, x) :: ps) (r :: rs) := ⟨rfl, h, hl, hr⟩
theorem uc {a : Act} {k : Nat} (he : ∀ x v, ev e x = some v → a.eval x = v) : ∀ (ps : List (Nat × Operand)) (rs : List (List Value)) (done l : List Value) (i : Nat), done.length = i * k → kU k e i ps rs → l.length = rs.length * k →
  Instr.fill (fun i => some (i * k, k)) (done ++ l).toArray (ps.map fun (i, x) => (i, a.eval x)) = some (done ++ rs.flatten).toArray
 | [], [], done, l, i, _, _, hl => by
  have : l = [] := List.length_eq_zero_iff.1 (by simpa using hl)
  subst this; rfl
 | [], _ :: _, _, _, _, _, h, _ => h.elim
 | _ :: _, [], _, _, _, _, h, _ => by cases h
 | (j, x) :: ps, r :: rs, done, l, i, hd, h, hl => by
  obtain ⟨rfl, hx, h1, hr⟩ := h
  have hv := he x _ hx
  rw [List.length_cons, Nat.succ_mul] at hl
  have hc : ¬ (r.length ≠ k) := by omega
  have hc2 : ¬ (j * k + r.length > (done ++ l).length) := by rw [List.length_append]; omega
  simp only [List.map_cons, Instr.fill, hv, Value.cells, List.size_toArray, hc, hc2, decide_false, Bool.or_false, Bool.false_eq_true, if_false]
  rw [← hd, qc, kT _ _ _ (by rw [List.length_append]; omega), hd]
  have e1 : (done ++ l).take (j * k) ++ r ++ (done ++ l).drop (j * k + r.length) = (done ++ r) ++ l.drop k := by
   rw [← hd, List.take_left, ← List.drop_drop, List.drop_left, h1]
  rw [e1, uc he ps rs (done ++ r) (l.drop k) (j + 1) (by rw [List.length_append, hd, h1, Nat.succ_mul]) hr (by rw [List.length_drop]; omega)]
  simp
theorem fF {E n k : Nat} {z : List Value} {ps : Array (Nat × Operand)} {rs : List (List Value)} (hu : P.underlying t = some (.slice E)) (hs : ∀ w, (sizeOf E).run P w = .ok k w) (hz : ∀ w, (zeroValue E).run P w = .ok (.agg z.toArray) w) (hzl : z.length = k)
  (hel : kU k e 0 ps.toList rs) (hn : rs.length = n) (hn0 : n ≠ 0) (hk0 : k ≠ 0) (hn2 : n * k ≤ 100000) :
  cQ P W0 N e A (.buildSlice t n ps) (fun v B => ∃ b, v = .slice (some ⟨b, 0, none⟩) n n ∧ B = pt b (aj rs.flatten E) :: A) :=
 jW (g := fun b => .slice (some ⟨b, 0, none⟩) n n) (fun a w _ _ _ _ _ hF _ => by
  have hfl := uc (k := k) (fun x v h => hF.eval h) ps.toList rs [] ((Array.range (n * k)).map (z.toArray[· % z.toArray.size]!)).toList 0 (by simp) hel (by simp [hn])
  simp only [List.nil_append, Array.toArray_toList] at hfl
  have hbig : ¬ (n * k > 2 ^ 24) := by omega
  have hn1 : ¬ (n * k = 0) := by rw [Nat.mul_eq_zero]; omega
  simp only [execOp, Instr.buildSlice, Sem.run_bind, dH hu, Result.andThen_ok, hs, Array.toList_map, Sem.run_ite, if_neg hbig, if_neg hn1, hz, Sem.run_pure, Value.cells]
  rw [hfl]
  rfl)
theorem z8 {K1 K2 X1 X2 : Type} {r1 : K1 → X1 → HP} {b1 : K1} {x1 : X1} {R1 : List HP} {r2 : K2 → X2 → HP} {b2 : K2} {x2 : X2} [h1 : Tk r1 b1 A x1 R1] [h2 : Tk r2 b2 R1 x2 R] : A.Perm (r1 b1 x1 :: r2 b2 x2 :: R) := h1.perm.trans (h2.perm.cons _)
theorem ud {K1 X1 : Type} {r1 : K1 → X1 → HP} {b1 : K1} {x1 : X1} [h1 : Tk r1 b1 A x1 R] : A.Perm (r1 b1 x1 :: R) := h1.perm
theorem eX {K1 X1 : Type} {r1 : K1 → X1 → HP} {b1 : K1} {x1 : X1} {recv : Operand} {nm : String} {xs : Array Operand} {ats : Array TypeId} {T : TypeId} {rv rv' : Value} {f : FuncId} {Post : Value → List HP → Prop} (hr : ev e recv = some (.iface T rv))
  (hm : ∀ w, (method (P.types.size + Made.depth) T rv nm).run P w = .ok (f, rv') w) (hc : ∀ args w, (callFunc f args).run P w = .ok (.enter f args) w) (hx : ej e xs.toList = some vs)
  (hs : ao P W0 f (rv' :: vs) (r1 b1 x1 :: R) Post) [h1 : Tk r1 b1 A x1 R] : cQ P W0 N e A (.call { callee := .invoke recv nm, args := xs, argTypes := ats }) Post :=
 jw ud (z6 hr hm hc hx hs)
theorem mc {K1 X1 : Type} {r1 : K1 → X1 → HP} {b1 : K1} {x1 : X1} {fx : Operand} {xs : Array Operand} {ats : Array TypeId} {f : FuncId} {us cs : List Value} {Post : Value → List HP → Prop} (hf : ev e fx = some (.func (.func f) us.toArray cs.toArray))
  (hc : ∀ args w, (callFunc f args).run P w = .ok (.enter f args) w) (hx : ej e xs.toList = some vs) (hs : ao P W0 f (us ++ vs ++ cs) (r1 b1 x1 :: R) Post) [h1 : Tk r1 b1 A x1 R] : cQ P W0 N e A (.call { callee := .value fx, args := xs, argTypes := ats }) Post :=
 jw ud (nT hf hc hx hs)
def chk (F : List HP → Prop) : HP := fun l => ∃ C, F C ∧ eU C l
theorem Own.chk {F : List HP → Prop} {w : World} (h : Own W0 w (chk F :: R)) : ∃ C, F C ∧ Own W0 w (C ++ R) := by
 obtain ⟨ls, ⟨l1, l2, rfl, ⟨C, hC, h1⟩, hs⟩, hn, hb⟩ := h.owns
 exact ⟨C, hC, h.os, h.tape, h.output, h.size, h.base, _, eU.append.2 ⟨l1, l2, rfl, h1, hs⟩, hn, hb⟩
theorem eF {F : List HP → Prop} {C : List HP} (h : F C) : Ent (C ++ R) (chk F :: R) := ⟨fun l hl => by
 obtain ⟨l1, l2, rfl, h1, h2⟩ := eU.append.1 hl
 exact ⟨l1 ++ l2, [], ⟨l1, l2, rfl, ⟨C, h, h1⟩, h2⟩, by simp⟩⟩
theorem iU {K : Act → World → Prop} {F : List HP → Prop} (h : ∀ C, F C → aE W0 N K e (C ++ R)) : aE W0 N K e (chk F :: R) := fun a w hF hO => by
 obtain ⟨C, hC, hO'⟩ := hO.chk
 exact h C hC a w hF hO'
theorem md {f : FuncId} {args : List Value} {Post : Value → List HP → Prop} {F : List HP → Prop} (h : ∀ C, F C → ao P W0 f args (C ++ R) Post) : ao P W0 f args (chk F :: R) Post := fun w hO => by
 obtain ⟨C, hC, hO'⟩ := hO.chk
 exact h C hC w hO'
theorem iV {f : FuncId} {args : List Value} {Post Post' : Value → List HP → Prop} (h : ao P W0 f args A Post) (k : ∀ v B, Post v B → ∃ B', Post' v B' ∧ Ent B B') : ao P W0 f args A Post' := fun w hO =>
 (h w hO).mono fun e w' ⟨v, B, h1, h2, h3⟩ => by
  obtain ⟨B', h4, h5⟩ := k v B h2
  exact ⟨v, B', h1, h4, h3.ent h5⟩
theorem dP {K X : Type} {r : K → X → HP} {b : K} {x : X} {Kt : Act → World → Prop} [h : Tk r b A x R] (k : aE W0 N Kt e (r b x :: R)) : aE W0 N Kt e A := pO h.perm k
theorem me {f : FuncId} {args : List Value} {Post : Value → List HP → Prop} (hp : A.Perm B) (h : ao P W0 f args B Post) : ao P W0 f args A Post := fun w hO => h w (hO.perm hp)
end
theorem bQ : Tryz.prog.follows .mixedOrders = true := by kernel_rfl
structure RecX where
  e : bq
  n : Nat
  ps : Array Tmp
  asg : Code
  body : Code
  st : LoopState
  pe : Option Code
  D : Nat
def RecX.loop (x : RecX) (fn : FuncId) (tmps : Array Value) : Loop := { state := x.st, pending := x.pe, fn := fn, tmps := tmps, params := x.ps, assign := x.asg, body := x.body, defers := x.D }
def dQ (L : Nat) (x : RecX) : HP := chk (fun C => ∃ fn tmps, tmps.size = x.n ∧ (∀ t v, dl x.e t = some v → tmps[t]? = some v) ∧ C = [pt L (.loop (x.loop fn tmps))])
section
variable {rd : Option Nat} {P : Program} {W0 : World} {N : FSz} {Q : Exit → Act → World → Prop} {e : bq} {A B R : List HP} {ops : Array Oper} {rest : List Oper} {L : Nat} {x : RecX}
theorem Own.loopRec {w : World} (h : Own W0 w (dQ L x :: R)) : ∃ fn tmps, tmps.size = x.n ∧ (∀ t v, dl x.e t = some v → tmps[t]? = some v) ∧ Own W0 w (pt L (.loop (x.loop fn tmps)) :: R) := by
 obtain ⟨C, ⟨fn, tmps, h1, h2, rfl⟩, hO⟩ := h.chk
 exact ⟨fn, tmps, h1, h2, hO⟩
theorem Own.toRec {w : World} {fn : FuncId} {tmps : Array Value} (h1 : tmps.size = x.n) (h2 : ∀ t v, dl x.e t = some v → tmps[t]? = some v) (h : Own W0 w (pt L (.loop (x.loop fn tmps)) :: R)) : Own W0 w (dQ L x :: R) :=
 h.ent (eF (C := [pt L (.loop (x.loop fn tmps))]) ⟨fn, tmps, h1, h2, rfl⟩)
theorem Own.turn {w : World} {b : Nat} {o : Obj} (h : Own W0 w (pt b o :: R)) (o' : Obj) : Own W0 (w.putObj b o') (pt b o' :: R) :=
 h.set rfl rfl rfl (by simp) (World.putObj_heap_same (by
  rcases Nat.lt_or_ge b w.heap.size with q | q
  ·exact q
  ·have := h.has.2; rw [Array.getElem?_eq_none q] at this; cases this)) (fun k hk => World.putObj_heap_other hk)
def kV (P : Program) (W0 : World) (L : Nat) (args : List Value) (A : List HP) (Post : Value → List HP → Prop) : Prop :=
  ∀ w, Own W0 w A → ∃ f tmps asg body, (Instr.yield L args.toArray).run P w = .ok (.round L f tmps asg body) w ∧ RoundIn (FW none) 0 P L f tmps asg body w (fun e w' => ∃ v B, e = .returned v ∧ Post v B ∧ Own W0 w' B)
theorem z9 {fx : Operand} {xs : Array Operand} {ats : Array TypeId} {vs : List Value} {Post : Value → List HP → Prop} {dst : Option Tmp} {ty : TypeId} {pos : String} {af : Array Edge} (hf : ev e fx = some (.func (.yield L) #[] #[])) (hx : ej e xs.toList = some vs)
  (hd : (match dst with | some d => Nat.blt d N.n | none => true) = true)
  (hr : kV P W0 L vs A Post) (k : ∀ v B, Post v B → aE W0 N (bp rd P ops Q rest) (match (generalizing := false) dst with | some d => (d, v) :: e | none => e) B) :
  aE W0 N (bp rd P ops Q ({ dst := dst, op := .call { callee := .value fx, args := xs, argTypes := ats }, type := ty, pos := pos, after := af, guard := none } :: rest)) e A := by
 intro a w hF hO
 simp only [bp, Region.wanted, if_true]
 refine .inr ⟨fun _ _ => trivial, ?_⟩
 have he : xs.map a.eval = vs.toArray := by
  have := hF.evals hx
  rw [← this]; apply Array.ext'; simp
 obtain ⟨f, tmps, asg, body, hy, hR⟩ := hr w hO
 have hrun : (execOp a.eval { dst := dst, op := .call { callee := .value fx, args := xs, argTypes := ats }, type := ty, pos := pos, after := af, guard := none }).run P w = .ok (.round L f tmps asg body) w := by
  simp only [execOp, resolve, Deferred.ofValue, Sem.run_bind, Sem.run_pure, Result.andThen_ok, invoke, he, hF.eval hf]
  have : (#[] ++ vs.toArray : Array Value) = vs.toArray := by simp
  simp only [this]; exact hy
 have hsem : Oper.semAt (FW rd).round a.eval { dst := dst, op := .call { callee := .value fx, args := xs, argTypes := ats }, type := ty, pos := pos, after := af, guard := none } = execOp a.eval { dst := dst, op := .call { callee := .value fx, args := xs, argTypes := ats }, type := ty, pos := pos, after := af, guard := none } :=
  Oper.semAt_eq _ _ _ (fun c h => by cases h)
 rw [hsem, hrun]
 refine ⟨fun h => (by cases h), RoundIn.mono hR ?_⟩
 rintro _ w' ⟨v, B, rfl, hp, hO'⟩
 have k := k v B hp
 cases dst with
 | none => exact k a w' hF hO'
 | some d => exact k _ w' (hF.put (Nat.lt_of_succ_le (Nat.le_of_ble_eq_true hd)) v) hO'
def mf : List Nat → List Value → bq → bq
  | p :: ps, v :: vs, e => mf ps vs ((p, v) :: e)
  | _, _, e => e
theorem ue {n : Nat} {ds : List Deferred} : ∀ (ps : List Nat) (vs : List Value) (e : bq) (tmps : Array Value), (ps.all fun p => Nat.blt p n) = true → Fr { tmps := tmps, defers := ds } ⟨n, ds⟩ e →
  Fr { tmps := (ps.zip vs).foldl (fun t (p, v) => t.setIfInBounds p v) tmps, defers := ds } ⟨n, ds⟩ (mf ps vs e)
 | [], _, e, tmps, _, h => by simpa [mf] using h
 | p :: ps, [], e, tmps, _, h => by simpa [mf] using h
 | p :: ps, v :: vs, e, tmps, hp, h => by
  simp only [List.all_cons, Bool.and_eq_true] at hp
  have := h.put (Nat.lt_of_succ_le (Nat.le_of_ble_eq_true hp.1)) v
  exact ue ps vs _ _ hp.2 this
def uf (P : Program) (L : Nat) (body : Code) (Q : Exit → Act → World → Prop) : Act → World → Prop := fun a w => ∃ w₂, (Instr.beginRound L).run P w = .ok () w₂ ∧ body.wpR (some L) P Q a w₂
theorem za {body : Code} [h : Tk dQ L A x R] (hs : x.st = .ready) (k : aE W0 N (body.wpR (some L) P Q) e (dQ L { x with st := .busy } :: R)) : aE W0 N (Ex (Exit.then (uf P L body Q) (fun _ _ _ => False)) .normal) e A := by
 intro a w hF hO
 obtain ⟨fn, tmps, h1, h2, hO1⟩ := (hO.tk (r := dQ) (b := L)).loopRec
 refine ⟨_, run_beginRound hO1.has.2 (by exact hs), k a _ hF ?_⟩
 exact Own.toRec (x := { x with st := .busy }) h1 h2 (hO1.turn _)
def mg (P : Program) (W0 : World) (L : Nat) (Post : Value → List HP → Prop) : Exit → Act → World → Prop := roundPost P L (fun e w' => ∃ v B, e = .returned v ∧ Post v B ∧ Own W0 w' B)
theorem zb {Post : Value → List HP → Prop} [h : Tk dQ L A x R] (hp : ∃ B, Post (.bool true) B ∧ Ent (dQ L { x with st := .ready, pe := none } :: R) B) : aE W0 N (Ex (mg P W0 L Post) .normal) e A := by
 intro a w hF hO
 obtain ⟨fn, tmps, h1, h2, hO1⟩ := (hO.tk (r := dQ) (b := L)).loopRec
 obtain ⟨B, hB, hE⟩ := hp
 exact ⟨_, _, run_endRound none hO1.has.2, _, B, rfl, hB, Own.ent (Own.toRec (x := { x with st := .ready, pe := none }) h1 h2 (hO1.turn _)) hE⟩
theorem zc {args : List Value} {Post : Value → List HP → Prop} [h : Tk dQ L A x R] (hl : args.length = x.ps.size) (hps : (x.ps.toList.all fun p => Nat.blt p x.n) = true)
  (k : aE W0 ⟨x.n, []⟩ (x.asg.wpR (some L) P (Exit.then (uf P L x.body (mg P W0 L Post)) (fun _ _ _ => False))) (mf x.ps.toList args x.e) (dQ L x :: R)) : kV P W0 L args A Post := by
 intro w hO
 obtain ⟨fn, tmps, h1, h2, hO1⟩ := (hO.tk (r := dQ) (b := L)).loopRec
 refine ⟨_, _, _, _, run_yield hO1.has.2 (by simpa [RecX.loop] using hl), ?_⟩
 refine roundIn_of_wpIn (F := FW none) trivial ?_
 have hF := ue (n := x.n) (ds := []) x.ps.toList args x.e tmps hps ⟨rfl, h1, h2⟩
 have e1 : ((x.loop fn tmps).params.zip args.toArray).foldl (fun t (p, v) => t.setIfInBounds p v) (x.loop fn tmps).tmps = (x.ps.toList.zip args).foldl (fun t (p, v) => t.setIfInBounds p v) tmps := by
  simp only [RecX.loop]
  rw [← Array.foldl_toList, Array.toList_zip]
 rw [e1]
 exact k _ w hF (Own.toRec h1 h2 hO1)
end
section
variable {rd : Option Nat} {P : Program} {S : World → Prop} {W0 : World} {N : FSz} {Q : Exit → Act → World → Prop} {e : bq} {A B R : List HP} {ops : Array Oper} {rest : List Oper}
variable {op : Op} {ty t t' : TypeId} {pos : String} {af : Array Edge} {v u : Value} {d b off : Nat} {x y z : Operand} {l l' vs : List Value}
theorem cp.weak (h : cp (bu W0 B) b off vs) [k : Ent A B] : cp (bu W0 A) b off vs := fun i v hi => (h i v hi).weak
theorem zd {E d : Nat} {a : Option Addr} {n c : Nat} (hu : P.underlying t = some (.slice E)) : iR P (d + 1) t (.slice a n c) (.slice none 0 0) a.isNone := fun w => by
 cases a <;> simp [Op.equalIn, dH hu]
theorem qi {E : TypeId} {a : Option Addr} {n c : Nat} (hu : P.underlying t = some (.slice E)) (hx : ev e x = some (.slice a n c)) (hy : ev e y = some (.slice none 0 0)) : bP P S N e (.binOp .eql t x y t') (.bool a.isNone) :=
 eW hx hy (fun w x y => by simp [eqGuard]) (pY rfl (zd hu))
theorem jz {P : Program} {k : IntKind} {i y : Nat} {code : BoundsCode} (h : i ≤ y) (w : World) : (Instr.sliceBound (.int k (i : Int)) y code).run P w = .ok i w := by
 have : (0 : Int) ≤ (i : Int) ∧ (i : Int) ≤ (y : Int) := by omega
 simp [Instr.sliceBound, asIntOf, this, h]
theorem qj {E n c sz o' : Nat} {k k' k'' : IntKind} {i h m : Nat} {j1 j2 j3 : Int} (hu : P.underlying t = some (.slice E)) (hs : ∀ w, (sizeOf E).run P w = .ok sz w) (hx : ev e x = some (.slice (some ⟨b, off, none⟩) n c))
  {lo hi mx : Operand} (h1 : ev e lo = some (.int k j1)) (h2 : ev e hi = some (.int k' j2)) (h3 : ev e mx = some (.int k'' j3)) (e1 : j1 = (i : Int)) (e2 : j2 = (h : Int)) (e3 : j3 = (m : Int)) (hil : i ≤ h) (hhm : h ≤ m) (hmc : m ≤ c) (hne : i < m) (ho : off + i * sz = o') :
  bP P S N e (.slice t x (some lo) (some hi) (some mx)) (.slice (some ⟨b, o', none⟩) (h - i) (m - i)) := fun a w _ _ _ _ _ hF _ => by
 subst e1; subst e2; subst e3; subst ho
 have hmi : ¬ m = i := by omega
 simp [execOp, Instr.sliceAt, Instr.slice, hF.eval hx, hF.eval h1, hF.eval h2, hF.eval h3, dH hu, Instr.sliceBounds, jz hmc, jz hhm, jz hil, hs, hmi, f5]
theorem nU {E n sz : Nat} (hu : P.underlying t = some (.array n E)) (hs : ∀ w, (sizeOf E).run P w = .ok sz w) (hx : ev e x = some (.pointer (some ⟨b, off, none⟩))) :
  bP P S N e (.slice t x none none none) (.slice (some ⟨b, off, none⟩) n n) := fun a w _ _ _ _ _ hF _ => by
 by_cases h : n = 0
 ·simp [execOp, Instr.sliceAt, hF.eval hx, dH hu, Instr.sureAddr, Instr.sliceBounds, hs, h]
 ·simp [execOp, Instr.sliceAt, hF.eval hx, dH hu, Instr.sureAddr, Instr.sliceBounds, hs, h, f5]
theorem mh {E sz : Nat} {ps : Array (Nat × Operand)} (hu : P.underlying t = some (.slice E)) (hs : ∀ w, (sizeOf E).run P w = .ok sz w) (hp : ps = #[]) :
  cQ P W0 N e A (.buildSlice t 0 ps) (fun v B => ∃ b, v = .slice (some ⟨b, 0, none⟩) 0 0 ∧ B = osl E sz v [] :: A) := jV fun a w _ _ _ _ _ hF hO => by
 subst hp
 have hn := hO.new (aj [] E)
 refine ⟨_, { w with heap := w.heap.push (aj [] E) }, _, .inl ?_, ⟨w.heap.size, rfl, rfl⟩, ?_⟩
 ·simp [execOp, Instr.buildSlice, dH hu, hs, Instr.fill, newRow, Array.range_zero']
 ·have : pt w.heap.size (aj [] E) = pt w.heap.size (aj ([] ++ []) E) := rfl
  rw [this] at hn
  exact hn.ent (eP (Nat.le_refl _) (Nat.zero_le _) (by simp) (by simp))
theorem mi {E sz by_ : Nat} {info : TypeInfo} {zz : Value} {v0 : Value} {n : Nat} {k k' : IntKind} {i1 i2 : Int} (hu : P.underlying t = some (.slice E)) (hi : P.info? E = some info) (hz : info.zero = some zz) (hsz : info.size = sz) (hby : info.bytes = by_)
  (hzc : zz.cells = (List.replicate sz v0).toArray) (hsz0 : 0 < sz) (hx : ev e x = some (.int k i1)) (hy : ev e y = some (.int k' i2)) (e1 : i1 = (n : Int)) (e2 : i2 = (n : Int)) (hn : n ≤ 1000000) (hb : by_ ≤ 1000000) :
  cQ P W0 N e A (.makeSlice t x y) (fun v B => ∃ b, v = .slice (some ⟨b, 0, none⟩) n n ∧ B = pt b (aj (List.replicate (n * sz) v0) E) :: A) :=
 jW (g := fun b => .slice (some ⟨b, 0, none⟩) n n) (fun a w _ _ _ _ _ hF _ => by
  subst e1; subst e2; subst hsz; subst hby
  have hm : info.bytes * n ≤ 1000000 * 1000000 := Nat.mul_le_mul hb hn
  have hr := run_make (P := P) w t E info zz hu hi hz k k' n n (by omega) (by omega) (by rw [← Int.natCast_mul]; omega) (by omega)
  simp only [Int.toNat_natCast] at hr
  have hc : madeCells zz.cells (n * info.size) = (List.replicate (n * info.size) v0).toArray := by
   apply Array.ext
   ·simp [madeCells]
   ·intro i h1 h2
    simp only [madeCells, hzc, Array.getElem_map, Array.getElem_range, List.size_toArray, List.length_replicate]
    have hlt : i % info.size < info.size := Nat.mod_lt _ hsz0
    rw [getElem!_pos _ _ (by simpa using hlt)]
    simp
  rw [hc] at hr
  simp only [execOp, hF.eval hx, hF.eval hy, Sem.run_bind, hr, Result.andThen_ok, Sem.run_pure]
  rfl)
theorem kW {E sz dn dc sn sc bx ox m : Nat} (hu : P.underlying t = some (.slice E)) (hs : ∀ w, (sizeOf E).run P w = .ok sz w) (hx : ev e x = some (.slice (some ⟨b, off, none⟩) dn dc)) (hy : ev e y = some (.slice (some ⟨bx, ox, none⟩) sn sc))
  [h : Tk pt b A (aj l ty) R] (hm : Nat.min sn dn = m) (hc : cp (bu W0 A) bx ox vs) (hl : vs.length = m * sz) (h1 : ek vs = true) (ho : off + m * sz ≤ l.length) (hr : setR l off vs = l') :
  cQ P W0 N e A (.call { callee := .builtin .copy, args := #[x, y], argTypes := #[t, t'] }) (fun v B => v = .int .i64 m ∧ B = pt b (aj l' ty) :: R) := by
 intro a w dst ty' pos af g K Q hF hO k
 have hO' := hO.tk (r := pt) (b := b)
 have hld := nE (P := P) (w := w) (fun i v hi => hc i v hi w hO) (m * sz) 0 #[] (by omega)
 obtain ⟨w', hst, hO''⟩ := qa (P := P) (off := off) vs 0 hO' (by omega) (fun v hv => by simpa [ek] using (List.all_eq_true.1 h1 v hv))
 rw [Nat.add_zero, hr] at hO''
 have hexec : (execOp a.eval { dst := dst, op := .call { callee := .builtin .copy, args := #[x, y], argTypes := #[t, t'] }, type := ty', pos := pos, after := af, guard := g }).run P w = .ok (.value (.int .i64 m)) w' := by
  simp only [execOp, resolve, invoke, builtin, Sem.run_bind, Sem.run_pure, Result.andThen_ok, List.map_toArray, List.map_cons, List.map_nil, hF.eval hx, hF.eval hy, Builtin.copy_, Builtin.lenOf, Builtin.firstCells, dH hu, hs]
  have hs' : (sizeOf E).run P w = .ok sz w := hs w
  simp only [hm, Array.getElem?_eq_getElem, List.getElem?_toArray, List.getElem?_cons_zero, List.getElem?_cons_succ, Sem.run_bind, Sem.run_pure, Result.andThen_ok, dH hu, hs', loadCells, hld, List.drop_zero, List.nil_append, Array.empty_append, hst, goInt]
 unfold Oper.wp
 rw [hexec]
 exact k _ w' _ ⟨rfl, rfl⟩ hO''
theorem mj {k : IntKind} {m n r : Int} {ats : Array TypeId} (hx : ev e x = some (.int k m)) (hy : ev e y = some (.int k n)) (hr : (if n < m then n else m) = r) : bP P S N e (.call { callee := .builtin .min, args := #[x, y], argTypes := ats }) (.int k r) := fun a w _ _ _ _ _ hF _ => by
 simp [execOp, resolve, invoke, builtin, hF.eval hx, hF.eval hy, Builtin.min_, Builtin.min2, hr]
end
end
section
def bV (b : Nat) : Value := .int .u8 (b : Int)
def bL (l : List Nat) : List Value := l.map bV
theorem dA (l : List Nat) : (bL l).length = l.length := by simp [bL]
theorem ze (l : List Nat) (i : Nat) (h : i < l.length) : (bL l)[i]? = some (bV l[i]) := by simp [bL, h]
theorem ug (a b : List Nat) : bL (a ++ b) = bL a ++ bL b := by simp [bL]
theorem qk (l : List Nat) : ek (bL l) = true := by simp [ek, bL, bV, Value.oneCell']
def By (l : List Nat) : Prop := ∀ b ∈ l, b < 256
theorem By.get {l : List Nat} (h : By l) {i : Nat} (hi : i < l.length) : l[i] < 256 := h _ (List.getElem_mem hi)
def gK : List Nat → Nat
  | [] => 0
  | b :: bs => b + 256 * gK bs
theorem uh : ∀ {l : List Nat}, By l → gK l < 256 ^ l.length
 | [], _ => by simp [gK]
 | b :: bs, h => by
  have h1 := h b (by simp)
  have h2 := uh (l := bs) fun x hx => h x (by simp [hx])
  simp only [gK, List.length_cons, Nat.pow_succ]; omega
theorem ui : ∀ (l : List Nat) (b : Nat), gK (l ++ [b]) = gK l + 256 ^ l.length * b
 | [], b => by simp [gK]
 | x :: l, b => by
  simp only [List.cons_append, gK, ui l b, List.length_cons, Nat.pow_succ]
  rw [Nat.mul_add, Nat.add_assoc, ← Nat.mul_assoc, Nat.mul_comm 256 (256 ^ l.length)]
theorem zf {l : List Nat} {i : Nat} (h : i < l.length) : gK (l.take (i + 1)) = gK (l.take i) + 256 ^ i * l[i] := by
 rw [List.take_succ_eq_append_getElem h, ui, List.length_take, Nat.min_eq_left (by omega)]
theorem By.take {l : List Nat} (h : By l) (i : Nat) : By (l.take i) := fun b hb => h b (List.mem_of_mem_take hb)
theorem By.drop {l : List Nat} (h : By l) (i : Nat) : By (l.drop i) := fun b hb => h b (List.mem_of_mem_drop hb)
theorem By.append {a b : List Nat} (h : By a) (k : By b) : By (a ++ b) := fun x hx => by
 rcases List.mem_append.1 hx with h' | h'
 ·exact h x h'
 ·exact k x h'
theorem ql (i : Nat) : 256 ^ i = 2 ^ (8 * i) := by rw [Nat.pow_mul]
theorem uj {i : Nat} (h : i ≤ 3) : 256 ^ i ≤ 16777216 := by
 match i, h with
 | 0, _ | 1, _ | 2, _ | 3, _ => decide
theorem zg {b i : Nat} (hb : b < 256) (hi : i ≤ 3) : m4 .u32 (b : Int) ((8 * i : Nat) : Int) = ((256 ^ i * b : Nat) : Int) := by
 unfold m4
 have h1 : min ((8 * i : Nat) : Int).toNat IntKind.u32.bits = 8 * i := by simp [IntKind.bits]; omega
 rw [h1]
 have h2 : (b : Int) * 2 ^ (8 * i) = ((256 ^ i * b : Nat) : Int) := by rw [ql]; push_cast; exact Int.mul_comm _ _
 rw [h2]
 have := uj hi
 have h3 : 256 ^ i * b ≤ 16777216 * 255 := Nat.mul_le_mul this (by omega)
 exact jx (by omega)
theorem zh {a b i : Nat} (ha : a < 256 ^ i) (hb : b < 256) (hi : i ≤ 3) : nz .u32 (a : Int) ((256 ^ i * b : Nat) : Int) = ((a + 256 ^ i * b : Nat) : Int) := by
 have := uj hi
 have h3 : 256 ^ i * b ≤ 16777216 * 255 := Nat.mul_le_mul this (by omega)
 rw [yV (by omega) (by omega)]
 congr 1
 rw [ql] at ha ⊢
 have := Nat.two_pow_add_eq_or_of_lt (i := 8 * i) (b := a) ha b
 rw [Nat.or_comm, ← this, Nat.add_comm]
def fG (n w : Nat) : List Nat := (List.range n).map fun i => w / 256 ^ i % 256
theorem kX (n w : Nat) : (fG n w).length = n := by simp [fG]
theorem zi (n w : Nat) : By (fG n w) := fun b hb => by
 obtain ⟨i, _, rfl⟩ := List.mem_map.1 hb
 exact Nat.mod_lt _ (by decide)
theorem uk (n w : Nat) : fG (n + 1) w = fG n w ++ [w / 256 ^ n % 256] := by simp [fG, List.range_succ]
theorem ul {w i : Nat} (hi : 8 * i ≤ 32) : IntKind.wrap .u8 (kO .u32 (w : Int) ((8 * i : Nat) : Int)) = ((w / 256 ^ i % 256 : Nat) : Int) := by
 rw [nJ (by simpa [IntKind.bits] using hi), ← ql]
 simp only [IntKind.wrap, IntKind.bits, IntKind.signed]
 simp
def gt (l : List Nat) (at_ n w : Nat) : List Nat := l.take at_ ++ fG n w ++ l.drop (at_ + n)
theorem kc {l : List Nat} {at_ n w : Nat} (h : at_ + n ≤ l.length) : (gt l at_ n w).length = l.length := by simp [gt, kX]; omega
theorem zj {l : List Nat} {at_ n w : Nat} (h : By l) : By (gt l at_ n w) := ((h.take _).append (zi _ _)).append (h.drop _)
theorem qn : ∀ (vs l : List Value) (off : Nat) (v : Value), setR l off (vs ++ [v]) = (setR l off vs).set (off + vs.length) v
 | [], l, off, v => by simp [setR]
 | u :: vs, l, off, v => by
  rw [List.cons_append, setR, setR, qn vs]
  congr 1; simp; omega
theorem zk {l : List Nat} {at_ n w : Nat} (h : at_ + n ≤ l.length) : setR (bL l) at_ (bL (fG n w)) = bL (gt l at_ n w) := by
 rw [kT _ _ _ (by rw [dA, dA, kX]; exact h), dA, kX]
 simp [gt, bL, List.map_take, List.map_drop]
theorem um : ∀ (vs a b : List Value) (off : Nat), off + vs.length ≤ a.length → setR (a ++ b) off vs = setR a off vs ++ b
 | [], a, b, off, _ => rfl
 | v :: vs, a, b, off, h => by
  simp only [List.length_cons] at h
  rw [setR, setR, List.set_append_left _ _ (by omega), um vs _ b (off + 1) (by simp; omega)]
def d6 (n : Nat) (at_ w : Int) : Bool := decide ((w = 1 ∨ w = 2 ∨ w = 4) ∧ 0 ≤ at_ ∧ at_ ≤ n ∧ w ≤ n - at_)
theorem dR {n : Nat} {at_ w : Int} : d6 n at_ w = true ↔ (w = 1 ∨ w = 2 ∨ w = 4) ∧ 0 ≤ at_ ∧ at_ ≤ n ∧ w ≤ n - at_ := by simp [d6]
theorem kd {n : Nat} {at_ w : Int} (h : d6 n at_ w = true) : ∃ i k : Nat, at_ = (i : Int) ∧ w = (k : Int) ∧ (k = 1 ∨ k = 2 ∨ k = 4) ∧ i + k ≤ n := by
 have := dR.1 h
 exact ⟨at_.toNat, w.toNat, by omega, by omega, by omega, by omega⟩
end
section
open Go.RowKit
def fk (g off n : Nat) (at_ w : Int) : Value := if d6 n at_ w then .tuple #[.slice (some ⟨g, off + at_.toNat, none⟩) w.toNat w.toNat, .bool true] else .tuple #[.slice none 0 0, .bool false]
theorem qo (W0 : World) (R : List HP) (g off n c : Nat) (at_ w : Int) (hn : n ≤ c) (h63 : c < 9223372036854775808) :
  ao Tryz.prog W0 159 [.slice (some ⟨g, off, none⟩) n c, .int .i64 at_, .int .i64 w] R (fun v B => v = fk g off n at_ w ∧ B = R) := by
 refine aD Tryz.func159 Tryz.ntmps159 rfl rfl ?_
 refine au 13 ?_
 refine bX rfl rfl rfl ?_ ?_
 ·intro g1_3
  refine au 5 ?_
  refine bX rfl rfl rfl ?_ ?_
  ·intro g1_7
   refine au 7 ?_
   refine ai rfl ?_ ?_
   ·intro c1
    refine au 9 ?_
    refine ah (.inl rfl) (.cons (ac rfl) (.cons (ac rfl) .nil)) ?_
    refine ⟨_, ⟨?_, rfl⟩, inferInstance⟩
    have hi : d6 n at_ w = false := by
     rw [← Bool.not_eq_true, dR]; omega
    simp [bW, fk, hi]
   ·intro c1
    refine au 8 ?_
    refine ai rfl ?_ ?_
    ·intro c3
     refine au 12 ?_
     refine ah (.inl rfl) (.cons (ac rfl) (.cons (ac rfl) .nil)) ?_
     refine ⟨_, ⟨?_, rfl⟩, inferInstance⟩
     have hi : d6 n at_ w = false := by
      rw [← Bool.not_eq_true, dR]; omega
     simp [bW, fk, hi]
    ·intro c3
     refine au 9 ?_
     refine ai rfl ?_ ?_
     ·intro c4
      refine au 12 ?_
      refine ah (.inl rfl) (.cons (ac rfl) (.cons (ac rfl) .nil)) ?_
      refine ⟨_, ⟨?_, rfl⟩, inferInstance⟩
      have hi : d6 n at_ w = false := by
       rw [← Bool.not_eq_true, dR]; omega
      simp [bW, fk, hi]
     ·intro c4
      refine au 5 ?_
      refine aa rfl (dG rfl rfl (by first | exact aK (by omega) | rfl)) ?_
      refine au 4 ?_
      refine ai rfl ?_ ?_
      ·intro c5
       refine au 9 ?_
       refine ah (.inl rfl) (.cons (ac rfl) (.cons (ac rfl) .nil)) ?_
       refine ⟨_, ⟨?_, rfl⟩, inferInstance⟩
       have hi : d6 n at_ w = false := by
        rw [← Bool.not_eq_true, dR]; omega
       simp [bW, fk, hi]
      ·intro c5
       refine au 4 ?_
       have hi : d6 n at_ w = true := dR.2 ⟨by omega, by omega, by omega, by omega⟩
       obtain ⟨i, k, rfl, rfl, hk, hik⟩ := kd hi
       refine au 5 ?_
       refine aa rfl (bj rfl rfl (by rw [aK (by omega)]; exact (Int.natCast_add i k).symm : IntKind.wrap .i64 ((i : Int) + (k : Int)) = ((i + k : Nat) : Int))) ?_
       refine au 2 ?_
       refine aa rfl (bj rfl rfl (by rw [aK (by omega)]; exact (Int.natCast_add i k).symm : IntKind.wrap .i64 ((i : Int) + (k : Int)) = ((i + k : Nat) : Int))) ?_
       refine aa rfl (qj gD gG rfl rfl rfl rfl rfl rfl rfl (by omega) (by omega) (by omega) (by omega) (by first | exact Nat.zero_add _ | rfl)) ?_
       refine au 5 ?_
       refine ah (.inl rfl) (.cons (ac rfl) (.cons (ac rfl) .nil)) ?_
       refine ⟨_, ⟨?_, rfl⟩, inferInstance⟩
       simp [bW, fk, hi]
  ·intro g1_7
   refine au 14 ?_
   refine ai rfl ?_ ?_
   ·intro c3
    refine au 12 ?_
    refine ah (.inl rfl) (.cons (ac rfl) (.cons (ac rfl) .nil)) ?_
    refine ⟨_, ⟨?_, rfl⟩, inferInstance⟩
    have hi : d6 n at_ w = false := by
     rw [← Bool.not_eq_true, dR]; omega
    simp [bW, fk, hi]
   ·intro c3
    refine au 9 ?_
    refine ai rfl ?_ ?_
    ·intro c4
     refine au 12 ?_
     refine ah (.inl rfl) (.cons (ac rfl) (.cons (ac rfl) .nil)) ?_
     refine ⟨_, ⟨?_, rfl⟩, inferInstance⟩
     have hi : d6 n at_ w = false := by
      rw [← Bool.not_eq_true, dR]; omega
     simp [bW, fk, hi]
    ·intro c4
     refine au 5 ?_
     refine aa rfl (dG rfl rfl (by first | exact aK (by omega) | rfl)) ?_
     refine au 4 ?_
     refine ai rfl ?_ ?_
     ·intro c5
      refine au 9 ?_
      refine ah (.inl rfl) (.cons (ac rfl) (.cons (ac rfl) .nil)) ?_
      refine ⟨_, ⟨?_, rfl⟩, inferInstance⟩
      have hi : d6 n at_ w = false := by
       rw [← Bool.not_eq_true, dR]; omega
      simp [bW, fk, hi]
     ·intro c5
      refine au 4 ?_
      have hi : d6 n at_ w = true := dR.2 ⟨by omega, by omega, by omega, by omega⟩
      obtain ⟨i, k, rfl, rfl, hk, hik⟩ := kd hi
      refine au 5 ?_
      refine aa rfl (bj rfl rfl (by rw [aK (by omega)]; exact (Int.natCast_add i k).symm : IntKind.wrap .i64 ((i : Int) + (k : Int)) = ((i + k : Nat) : Int))) ?_
      refine au 2 ?_
      refine aa rfl (bj rfl rfl (by rw [aK (by omega)]; exact (Int.natCast_add i k).symm : IntKind.wrap .i64 ((i : Int) + (k : Int)) = ((i + k : Nat) : Int))) ?_
      refine aa rfl (qj gD gG rfl rfl rfl rfl rfl rfl rfl (by omega) (by omega) (by omega) (by omega) (by first | exact Nat.zero_add _ | rfl)) ?_
      refine au 5 ?_
      refine ah (.inl rfl) (.cons (ac rfl) (.cons (ac rfl) .nil)) ?_
      refine ⟨_, ⟨?_, rfl⟩, inferInstance⟩
      simp [bW, fk, hi]
 ·intro g1_3
  refine au 18 ?_
  refine ai rfl ?_ ?_
  ·intro c3
   refine au 12 ?_
   refine ah (.inl rfl) (.cons (ac rfl) (.cons (ac rfl) .nil)) ?_
   refine ⟨_, ⟨?_, rfl⟩, inferInstance⟩
   have hi : d6 n at_ w = false := by
    rw [← Bool.not_eq_true, dR]; omega
   simp [bW, fk, hi]
  ·intro c3
   refine au 9 ?_
   refine ai rfl ?_ ?_
   ·intro c4
    refine au 12 ?_
    refine ah (.inl rfl) (.cons (ac rfl) (.cons (ac rfl) .nil)) ?_
    refine ⟨_, ⟨?_, rfl⟩, inferInstance⟩
    have hi : d6 n at_ w = false := by
     rw [← Bool.not_eq_true, dR]; omega
    simp [bW, fk, hi]
   ·intro c4
    refine au 5 ?_
    refine aa rfl (dG rfl rfl (by first | exact aK (by omega) | rfl)) ?_
    refine au 4 ?_
    refine ai rfl ?_ ?_
    ·intro c5
     refine au 9 ?_
     refine ah (.inl rfl) (.cons (ac rfl) (.cons (ac rfl) .nil)) ?_
     refine ⟨_, ⟨?_, rfl⟩, inferInstance⟩
     have hi : d6 n at_ w = false := by
      rw [← Bool.not_eq_true, dR]; omega
     simp [bW, fk, hi]
    ·intro c5
     refine au 4 ?_
     have hi : d6 n at_ w = true := dR.2 ⟨by omega, by omega, by omega, by omega⟩
     obtain ⟨i, k, rfl, rfl, hk, hik⟩ := kd hi
     refine au 5 ?_
     refine aa rfl (bj rfl rfl (by rw [aK (by omega)]; exact (Int.natCast_add i k).symm : IntKind.wrap .i64 ((i : Int) + (k : Int)) = ((i + k : Nat) : Int))) ?_
     refine au 2 ?_
     refine aa rfl (bj rfl rfl (by rw [aK (by omega)]; exact (Int.natCast_add i k).symm : IntKind.wrap .i64 ((i : Int) + (k : Int)) = ((i + k : Nat) : Int))) ?_
     refine aa rfl (qj gD gG rfl rfl rfl rfl rfl rfl rfl (by omega) (by omega) (by omega) (by omega) (by first | exact Nat.zero_add _ | rfl)) ?_
     refine au 5 ?_
     refine ah (.inl rfl) (.cons (ac rfl) (.cons (ac rfl) .nil)) ?_
     refine ⟨_, ⟨?_, rfl⟩, inferInstance⟩
     simp [bW, fk, hi]
theorem zl (W0 : World) (R : List HP) (a : Option Addr) (n c : Nat) (at_ w : Int) (hi : d6 n at_ w = false) (hn : n < 9223372036854775808) :
  ao Tryz.prog W0 159 [.slice a n c, .int .i64 at_, .int .i64 w] R (fun v B => v = .tuple #[.slice none 0 0, .bool false] ∧ B = R) := by
 have hq : ¬ ((w = 1 ∨ w = 2 ∨ w = 4) ∧ 0 ≤ at_ ∧ at_ ≤ n ∧ w ≤ n - at_) := fun h => by rw [dR.2 h] at hi; cases hi
 refine aD Tryz.func159 Tryz.ntmps159 rfl rfl ?_
 refine au 13 ?_
 refine bX rfl rfl rfl ?_ ?_
 ·intro g1_3
  refine au 5 ?_
  refine bX rfl rfl rfl ?_ ?_
  ·intro g1_7
   refine au 7 ?_
   refine ai rfl ?_ ?_
   ·intro c1
    refine au 9 ?_
    refine ah (.inl rfl) (.cons (ac rfl) (.cons (ac rfl) .nil)) ?_
    exact ⟨_, ⟨rfl, rfl⟩, inferInstance⟩
   ·intro c1
    refine au 8 ?_
    refine ai rfl ?_ ?_
    ·intro c3
     refine au 12 ?_
     refine ah (.inl rfl) (.cons (ac rfl) (.cons (ac rfl) .nil)) ?_
     exact ⟨_, ⟨rfl, rfl⟩, inferInstance⟩
    ·intro c3
     refine au 9 ?_
     refine ai rfl ?_ ?_
     ·intro c4
      refine au 12 ?_
      refine ah (.inl rfl) (.cons (ac rfl) (.cons (ac rfl) .nil)) ?_
      exact ⟨_, ⟨rfl, rfl⟩, inferInstance⟩
     ·intro c4
      refine au 5 ?_
      refine aa rfl (dG rfl rfl (by first | exact aK (by omega) | rfl)) ?_
      refine au 4 ?_
      refine ai rfl ?_ ?_
      ·intro c5
       refine au 9 ?_
       refine ah (.inl rfl) (.cons (ac rfl) (.cons (ac rfl) .nil)) ?_
       exact ⟨_, ⟨rfl, rfl⟩, inferInstance⟩
      ·intro c5
       exfalso; omega
  ·intro g1_7
   refine au 14 ?_
   refine ai rfl ?_ ?_
   ·intro c3
    refine au 12 ?_
    refine ah (.inl rfl) (.cons (ac rfl) (.cons (ac rfl) .nil)) ?_
    exact ⟨_, ⟨rfl, rfl⟩, inferInstance⟩
   ·intro c3
    refine au 9 ?_
    refine ai rfl ?_ ?_
    ·intro c4
     refine au 12 ?_
     refine ah (.inl rfl) (.cons (ac rfl) (.cons (ac rfl) .nil)) ?_
     exact ⟨_, ⟨rfl, rfl⟩, inferInstance⟩
    ·intro c4
     refine au 5 ?_
     refine aa rfl (dG rfl rfl (by first | exact aK (by omega) | rfl)) ?_
     refine au 4 ?_
     refine ai rfl ?_ ?_
     ·intro c5
      refine au 9 ?_
      refine ah (.inl rfl) (.cons (ac rfl) (.cons (ac rfl) .nil)) ?_
      exact ⟨_, ⟨rfl, rfl⟩, inferInstance⟩
     ·intro c5
      exfalso; omega
 ·intro g1_3
  refine au 18 ?_
  refine ai rfl ?_ ?_
  ·intro c3
   refine au 12 ?_
   refine ah (.inl rfl) (.cons (ac rfl) (.cons (ac rfl) .nil)) ?_
   exact ⟨_, ⟨rfl, rfl⟩, inferInstance⟩
  ·intro c3
   refine au 9 ?_
   refine ai rfl ?_ ?_
   ·intro c4
    refine au 12 ?_
    refine ah (.inl rfl) (.cons (ac rfl) (.cons (ac rfl) .nil)) ?_
    exact ⟨_, ⟨rfl, rfl⟩, inferInstance⟩
   ·intro c4
    refine au 5 ?_
    refine aa rfl (dG rfl rfl (by first | exact aK (by omega) | rfl)) ?_
    refine au 4 ?_
    refine ai rfl ?_ ?_
    ·intro c5
     refine au 9 ?_
     refine ah (.inl rfl) (.cons (ac rfl) (.cons (ac rfl) .nil)) ?_
     exact ⟨_, ⟨rfl, rfl⟩, inferInstance⟩
    ·intro c5
     exfalso; omega
theorem zm (W0 : World) (R : List HP) (g off c : Nat) (l : List Nat) (hc : cp (bu W0 R) g off (bL l)) (hl : l.length ≤ 4) (hb : By l) :
  ao Tryz.prog W0 388 [.slice (some ⟨g, off, none⟩) l.length c] R (fun v B => v = .int .u32 (gK l : Nat) ∧ B = R) := by
 refine aD Tryz.func388 Tryz.ntmps388 rfl rfl ?_
 refine au 19 ?_
 refine ce (fun i : Nat => i ≤ l.length) (fun i => [(0, .slice (some ⟨g, off, none⟩) l.length c), (3, .int .u32 (gK (l.take i) : Nat)), (6, .int .i64 (l.length : Nat)), (7, .int .i64 i)]) (fun _ => R) (fun i => l.length - i) 0 ?_ ?_ ?_ ?_
 ·exact Nat.zero_le _
 ·repeat (first | exact aJ | refine aG rfl ?_)
 ·exact inferInstance
 ·intro i hi
  refine au 6 ?_
  refine ai rfl ?_ ?_
  ·intro c3
   refine au 10 ?_
   have hil : i < l.length := by omega
   have hbi := hb.get hil
   have hlt := uh (hb.take i)
   rw [List.length_take, Nat.min_eq_left (by omega)] at hlt
   refine au 4 ?_
   refine aa rfl (bM gD gG rfl rfl rfl hil (by first | exact Nat.zero_add _ | rfl)) ?_
   refine aa rfl (am Tryz.isAgg5 rfl (by have := hc i (bV l[i]) (ze l i hil); rwa [Nat.mul_one])) ?_
   refine aa rfl (g5 n0 gH rfl (jx (by omega))) ?_
   refine aa rfl (ag rfl) ?_
   refine aa rfl (i4 rfl rfl (by rw [aK (by omega)]; omega : IntKind.wrap .i64 (8 * (i : Int)) = ((8 * i : Nat) : Int))) ?_
   refine aa rfl (tN rfl rfl (by omega) (zg hbi (by omega))) ?_
   refine aa rfl (yL rfl rfl ((zh hlt hbi (by omega)).trans (congrArg _ (zf hil).symm))) ?_
   refine au 5 ?_
   refine aa rfl (bj rfl rfl (by first | exact aK (by omega) | rfl)) ?_
   refine au 3 ?_
   refine bU (i + 1) ?_ ?_ ?_ ?_
   ·omega
   ·omega
   ·repeat (first | exact aJ | refine aG rfl ?_)
   ·exact inferInstance
  ·intro c3
   refine au 12 ?_
   refine ah (.inl rfl) (.cons (ac rfl) .nil) ?_
   refine ⟨_, ⟨?_, rfl⟩, inferInstance⟩
   have : i = l.length := by omega
   subst this; simp [bW]
theorem cp.part {S : World → Prop} {b off : Nat} {l : List Nat} (h : cp S b off (bL l)) (i k : Nat) (hik : i + k ≤ l.length) : cp S b (off + i) (bL ((l.drop i).take k)) := fun j v hv => by
 have hj : j < k := by
  rcases Nat.lt_or_ge j k with q | q
  ·exact q
  ·rw [List.getElem?_eq_none (by rw [dA, List.length_take]; omega)] at hv; cases hv
 have := h (i + j) v (by
  rw [bL, List.getElem?_map, List.getElem?_take_of_lt hj, List.getElem?_drop] at hv
  rw [bL, List.getElem?_map]; exact hv)
 rwa [← Nat.add_assoc] at this
def ml (l : List Nat) (at_ w : Int) : Nat := if d6 l.length at_ w then gK ((l.drop at_.toNat).take w.toNat) else 0
def kY (l : List Nat) (at_ w : Int) : Int := if d6 l.length at_ w then 0 else 1
theorem zn (W0 : World) (R : List HP) (g off c : Nat) (l : List Nat) (at_ w : Int) (hc : cp (bu W0 R) g off (bL l)) (hb : By l) (hn : l.length ≤ c) (h63 : c < 9223372036854775808) :
  ao Tryz.prog W0 356 [.slice (some ⟨g, off, none⟩) l.length c, .int .i64 at_, .int .i64 w] R (fun v B => v = .tuple #[.int .u32 (ml l at_ w : Nat), .int .i64 (kY l at_ w)] ∧ B = R) := by
 by_cases hi : d6 l.length at_ w = true
 ·obtain ⟨i, k, rfl, rfl, hk, hik⟩ := kd hi
  have hw : fk g off l.length i k = .tuple #[.slice (some ⟨g, off + i, none⟩) ((l.drop i).take k).length k, .bool true] := by
   have : min k (l.length - i) = k := by omega
   simp [fk, hi, this]
  refine aD Tryz.func356 Tryz.ntmps356 rfl rfl ?_
  refine au 11 ?_
  refine ae rfl (aF sY rfl (qo W0 _ g off l.length c i k hn h63)) ?_
  rintro _ B_ ⟨rfl, hB_⟩
  obtain rfl := hB_.symm
  rw [hw]
  refine au 14 ?_
  refine ai rfl ?_ ?_
  ·intro c2
   exact absurd c2 (by simp)
  ·intro c2
   refine au 5 ?_
   refine ae rfl (aF Tryz.call388 rfl (zm W0 _ g (off + i) k ((l.drop i).take k) (hc.part i k hik) (by rw [List.length_take]; omega) ((hb.drop i).take k))) ?_
   rintro _ B_ ⟨rfl, hB_⟩
   obtain rfl := hB_.symm
   refine au 5 ?_
   refine ah (.inl rfl) (.cons (ac rfl) (.cons (ac rfl) .nil)) ?_
   refine ⟨_, ⟨?_, rfl⟩, inferInstance⟩
   simp [bW, ml, kY, hi]
 ·have hi' : d6 l.length at_ w = false := by simpa using hi
  have hw : fk g off l.length at_ w = .tuple #[.slice none 0 0, .bool false] := by simp [fk, hi']
  refine aD Tryz.func356 Tryz.ntmps356 rfl rfl ?_
  refine au 11 ?_
  refine ae rfl (aF sY rfl (qo W0 _ g off l.length c at_ w hn h63)) ?_
  rintro _ B_ ⟨rfl, hB_⟩
  obtain rfl := hB_.symm
  rw [hw]
  refine au 14 ?_
  refine ai rfl ?_ ?_
  ·intro c2
   refine au 8 ?_
   refine ah (.inl rfl) (.cons (ac rfl) (.cons (ac rfl) .nil)) ?_
   refine ⟨_, ⟨?_, rfl⟩, inferInstance⟩
   simp [bW, ml, kY, hi']
  ·intro c2
   exact absurd c2 (by simp)
theorem zo (W0 : World) (R : List HP) (g off n c ty : Nat) (L : List Value) (w : Nat) (hw : w < 4294967296) (hn : n ≤ 4) (hL : off + n ≤ L.length) :
  ao Tryz.prog W0 160 [.slice (some ⟨g, off, none⟩) n c, .int .u32 w] (pt g (aj L ty) :: R) (fun v B => v = .tuple #[] ∧ B = pt g (aj (setR L off (bL (fG n w))) ty) :: R) := by
 refine aD Tryz.func160 Tryz.ntmps160 rfl rfl ?_
 refine au 8 ?_
 refine ce (fun i : Nat => i ≤ n) (fun i => [(0, .slice (some ⟨g, off, none⟩) n c), (1, .int .u32 w), (6, .int .i64 n), (7, .int .i64 i)]) (fun i => pt g (aj (setR L off (bL (fG i w))) ty) :: R) (fun i => n - i) 0 ?_ ?_ ?_ ?_
 ·exact Nat.zero_le _
 ·repeat (first | exact aJ | refine aG rfl ?_)
 ·rw [show setR L off (bL (fG 0 w)) = L from rfl]; exact inferInstance
 ·intro i hi
  refine au 6 ?_
  refine ai rfl ?_ ?_
  ·intro c1
   refine au 15 ?_
   refine aa rfl (i4 rfl rfl (by rw [aK (by omega)]; omega : IntKind.wrap .i64 (8 * (i : Int)) = ((8 * i : Nat) : Int))) ?_
   refine aa rfl (nB rfl rfl (by omega) rfl) ?_
   refine aa rfl (g5 gH n0 rfl (ul (by omega))) ?_
   refine aa rfl (bM gD gG rfl rfl rfl (by omega) (by first | exact Nat.zero_add _ | rfl)) ?_
   refine b0 (bN gG rfl rfl rfl (by rw [m5]; omega) (by rw [uk, ug, show bL [w / 256 ^ i % 256] = [bV (w / 256 ^ i % 256)] from rfl, qn, dA, kX, Nat.mul_one]; rfl : (setR L off (bL (fG i w))).set (off + i * 1) _ = setR L off (bL (fG (i + 1) w)))) ?_
   rintro _ _ rfl
   refine au 4 ?_
   refine aa rfl (bj rfl rfl (by first | exact aK (by omega) | rfl)) ?_
   refine au 3 ?_
   refine bU (i + 1) ?_ ?_ ?_ ?_
   ·omega
   ·omega
   ·repeat (first | exact aJ | refine aG rfl ?_)
   ·exact inferInstance
  ·intro c1
   refine au 4 ?_
   refine ah (.inr rfl) .nil ?_
   have : i = n := by omega
   subst this
   exact ⟨_, ⟨rfl, rfl⟩, inferInstance⟩
theorem un (W0 : World) (R : List HP) (g off c : Nat) (l : List Nat) (hc : cp (bu W0 R) g off (bL l)) (hn : l.length ≤ 1000000) :
  ao Tryz.prog W0 158 [.slice (some ⟨g, off, none⟩) l.length c] R (fun v B => ∃ a' c', v = .slice a' l.length c' ∧ B = osl 5 1 (.slice a' l.length c') (bL l) :: R) := by
 refine aD Tryz.func158 Tryz.ntmps158 rfl rfl ?_
 refine au 9 ?_
 refine aa rfl (qi gD rfl rfl) (au 2 ?_)
 refine ai rfl ?_ ?_
 ·intro c1
  cases c1
 ·intro c1
  refine au 4 ?_
  refine ae rfl (mh gD gG rfl) ?_
  rintro _ _ ⟨b1, rfl, rfl⟩
  refine aa rfl (ag rfl) ?_
  refine ae rfl (dy (sz := 1) (by_ := 1) (info := Tryz.t5) gD (by kernel_rfl) rfl rfl rfl rfl (by decide) rfl rfl hc.weak ((dA l).trans (Nat.mul_one _).symm) (qk l) (by simp only [maxLen]; omega) (by omega)) ?_
  rintro _ _ ⟨a1, c1, rfl, rfl⟩
  refine au 4 ?_
  refine ah (.inl rfl) (.cons (ac rfl) .nil) ?_
  exact ⟨_, ⟨a1, c1, by simp [bW], rfl⟩, by simpa using (ent_refl : Ent _ _)⟩
theorem uo (W0 : World) (R : List HP) (a : Option Addr) (n c : Nat) (at_ w : Int) (hn : n < 9223372036854775808) :
  ao Tryz.prog W0 374 [.slice a n c, .int .i64 at_, .int .i64 w] R (fun v B => v = .bool (d6 n at_ w) ∧ B = R) := by
 refine aD Tryz.func374 Tryz.ntmps374 rfl rfl ?_
 refine au 11 ?_
 refine bX rfl rfl rfl ?_ ?_
 ·intro g1_3
  refine au 5 ?_
  refine bX rfl rfl rfl ?_ ?_
  ·intro g1_7
   refine au 6 ?_
   refine ai rfl ?_ ?_
   ·intro c1
    refine au 7 ?_
    refine ah (.inl rfl) (.cons (ac rfl) .nil) ?_
    refine ⟨_, ⟨?_, rfl⟩, inferInstance⟩
    have hi : d6 n at_ w = false := by
     rw [← Bool.not_eq_true, dR]; omega
    simp [bW, hi]
   ·intro c1
    refine au 7 ?_
    refine bX rfl rfl rfl ?_ ?_
    ·intro g3_3
     refine au 9 ?_
     refine bX rfl rfl rfl ?_ ?_
     ·intro g3_9
      refine au 6 ?_
      refine aa rfl (dG rfl rfl (aK (by omega))) ?_
      refine au 9 ?_
      refine ah (.inl rfl) (.cons (ac rfl) .nil) ?_
      refine ⟨_, ⟨?_, rfl⟩, inferInstance⟩
      refine congrArg Value.bool ?_
      rw [Bool.eq_iff_iff, dR]; simp only [Bool.false_eq_true, false_iff, decide_eq_true_eq]; omega
     ·intro g3_9
      refine au 10 ?_
      refine ah (.inl rfl) (.cons (ac rfl) .nil) ?_
      refine ⟨_, ⟨?_, rfl⟩, inferInstance⟩
      refine congrArg Value.bool ?_
      rw [Bool.eq_iff_iff, dR]; simp only [Bool.false_eq_true, false_iff, decide_eq_true_eq]; omega
    ·intro g3_3
     refine au 16 ?_
     refine ah (.inl rfl) (.cons (ac rfl) .nil) ?_
     refine ⟨_, ⟨?_, rfl⟩, inferInstance⟩
     refine congrArg Value.bool ?_
     rw [Bool.eq_iff_iff, dR]; simp only [Bool.false_eq_true, false_iff, decide_eq_true_eq]; omega
  ·intro g1_7
   refine au 12 ?_
   refine bX rfl rfl rfl ?_ ?_
   ·intro g3_3
    refine au 9 ?_
    refine bX rfl rfl rfl ?_ ?_
    ·intro g3_9
     refine au 6 ?_
     refine aa rfl (dG rfl rfl (aK (by omega))) ?_
     refine au 9 ?_
     refine ah (.inl rfl) (.cons (ac rfl) .nil) ?_
     refine ⟨_, ⟨?_, rfl⟩, inferInstance⟩
     refine congrArg Value.bool ?_
     rw [Bool.eq_iff_iff, dR]; simp only [Bool.false_eq_true, false_iff, decide_eq_true_eq]; omega
    ·intro g3_9
     refine au 10 ?_
     refine ah (.inl rfl) (.cons (ac rfl) .nil) ?_
     refine ⟨_, ⟨?_, rfl⟩, inferInstance⟩
     refine congrArg Value.bool ?_
     rw [Bool.eq_iff_iff, dR]; simp only [Bool.false_eq_true, false_iff, decide_eq_true_eq]; omega
   ·intro g3_3
    refine au 16 ?_
    refine ah (.inl rfl) (.cons (ac rfl) .nil) ?_
    refine ⟨_, ⟨?_, rfl⟩, inferInstance⟩
    refine congrArg Value.bool ?_
    rw [Bool.eq_iff_iff, dR]; simp only [Bool.false_eq_true, false_iff, decide_eq_true_eq]; omega
 ·intro g1_3
  refine au 16 ?_
  refine bX rfl rfl rfl ?_ ?_
  ·intro g3_3
   refine au 9 ?_
   refine bX rfl rfl rfl ?_ ?_
   ·intro g3_9
    refine au 6 ?_
    refine aa rfl (dG rfl rfl (aK (by omega))) ?_
    refine au 9 ?_
    refine ah (.inl rfl) (.cons (ac rfl) .nil) ?_
    refine ⟨_, ⟨?_, rfl⟩, inferInstance⟩
    refine congrArg Value.bool ?_
    rw [Bool.eq_iff_iff, dR]; simp only [Bool.false_eq_true, false_iff, decide_eq_true_eq]; omega
   ·intro g3_9
    refine au 10 ?_
    refine ah (.inl rfl) (.cons (ac rfl) .nil) ?_
    refine ⟨_, ⟨?_, rfl⟩, inferInstance⟩
    refine congrArg Value.bool ?_
    rw [Bool.eq_iff_iff, dR]; simp only [Bool.false_eq_true, false_iff, decide_eq_true_eq]; omega
  ·intro g3_3
   refine au 16 ?_
   refine ah (.inl rfl) (.cons (ac rfl) .nil) ?_
   refine ⟨_, ⟨?_, rfl⟩, inferInstance⟩
   refine congrArg Value.bool ?_
   rw [Bool.eq_iff_iff, dR]; simp only [Bool.false_eq_true, false_iff, decide_eq_true_eq]; omega
theorem zp {c : Nat} (h : c ≤ maxLen) : c < 9223372036854775808 := by simp only [maxLen] at h; omega
theorem uq {l : List Nat} {sp : List Value} {i k w : Nat} (h : i + k ≤ l.length) : setR (bL l ++ sp) i (bL (fG k w)) = bL (gt l i k w) ++ sp := by
 rw [um _ _ _ _ (by rw [dA, dA, kX]; exact h), zk h]
def nV (a : Option Addr) (n c : Nat) : Value := .tuple #[.slice a n c, .int .i64 0]
def qp : Value := .tuple #[.slice none 0 0, .int .i64 1]
theorem zq (W0 : World) (R : List HP) (g off c : Nat) (l : List Nat) (i k w : Nat) (hw : w < 4294967296) (hc : cp (bu W0 R) g off (bL l)) (hi : d6 l.length i k = true) (hn : l.length ≤ 1000000) :
  ao Tryz.prog W0 56 [.slice (some ⟨g, off, none⟩) l.length c, .int .i64 i, .int .i64 k, .int .u32 w] R (fun v B => ∃ a' c', v = nV a' l.length c' ∧ B = osl 5 1 (.slice a' l.length c') (bL (gt l i k w)) :: R) := by
 have hb := dR.1 hi
 refine aD Tryz.func56 Tryz.ntmps56 rfl rfl ?_
 refine au 9 ?_
 refine ae rfl (aF Tryz.call158 rfl (un W0 _ g off c l hc hn)) ?_
 rintro _ B_ ⟨a', c', rfl, hB_⟩
 obtain rfl := hB_.symm
 refine au 4 ?_
 refine gr (fun h _ => by have := (Value.slice.inj h).2.1; omega) fun g' n' cap sp h1 h2 h3 h4 h5 => ?_
 cases h1
 have hwv : fk g' 0 l.length i k = .tuple #[.slice (some ⟨g', i, none⟩) k k, .bool true] := by simp [fk, hi]
 refine au 4 ?_
 refine ae rfl (aF sY rfl (qo W0 _ g' 0 l.length c' i k h2 (zp h3))) ?_
 rintro _ B_ ⟨rfl, hB_⟩
 obtain rfl := hB_.symm
 rw [hwv]
 refine au 14 ?_
 refine ai rfl ?_ ?_
 ·intro c3
  exact absurd c3 (by simp)
 ·intro c3
  refine au 6 ?_
  refine ae rfl (aM Tryz.call160 rfl (zo W0 _ g' i k k 5 (bL l ++ sp) w hw (by omega) (by rw [List.length_append, dA]; omega))) ?_
  rintro _ B_ ⟨rfl, hB_⟩
  obtain rfl := hB_.symm
  rw [uq (by omega)]
  refine au 10 ?_
  refine ah (.inl rfl) (.cons (ac rfl) (.cons (ac rfl) .nil)) ?_
  exact ⟨_, ⟨_, c', rfl, rfl⟩, eP h2 h3 (by rw [dA, kc (by omega), Nat.mul_one]) (by rw [← h5, List.length_append, List.length_append, dA, dA, kc (by omega)])⟩
theorem zr (W0 : World) (R : List HP) (g off c : Nat) (l : List Nat) (at_ k : Int) (w : Nat) (hc : cp (bu W0 R) g off (bL l)) (hi : d6 l.length at_ k = false) (hn : l.length ≤ 1000000) :
  ao Tryz.prog W0 56 [.slice (some ⟨g, off, none⟩) l.length c, .int .i64 at_, .int .i64 k, .int .u32 w] R (fun v B => v = qp ∧ B = R) := by
 refine aD Tryz.func56 Tryz.ntmps56 rfl rfl ?_
 refine au 9 ?_
 refine ae rfl (aF Tryz.call158 rfl (un W0 _ g off c l hc hn)) ?_
 rintro _ B_ ⟨a', c', rfl, hB_⟩
 obtain rfl := hB_.symm
 refine au 4 ?_
 obtain ⟨R', hR'⟩ : ∃ R', R' = osl 5 1 (.slice a' l.length c') (bL l) :: R := ⟨_, rfl⟩
 refine au 4 ?_
 refine ae rfl (aF sY rfl (zl W0 _ a' l.length c' at_ k hi (by omega))) ?_
 rintro _ B_ ⟨rfl, hB_⟩
 obtain rfl := hB_.symm
 refine au 14 ?_
 refine ai rfl ?_ ?_
 ·intro c3
  refine au 8 ?_
  refine ah (.inl rfl) (.cons (ac rfl) (.cons (ac rfl) .nil)) ?_
  exact ⟨_, ⟨rfl, rfl⟩, inferInstance⟩
 ·intro c3
  exact absurd c3 (by simp)
theorem zt (W0 : World) (R : List HP) (g off c : Nat) (l : List Nat) (i0 k w : Nat) (hw : w < 4294967296) (hc : cp (bu W0 R) g off (bL l)) (hi : d6 l.length i0 k = true) (hn : l.length ≤ 1000000) :
  ao Tryz.prog W0 341 [.slice (some ⟨g, off, none⟩) l.length c, .int .i64 i0, .int .i64 k, .int .u32 w] R (fun v B => ∃ a' c', v = nV a' l.length c' ∧ B = osl 5 1 (.slice a' l.length c') (bL (gt l i0 k w)) :: R) := by
 have hb := dR.1 hi
 refine aD Tryz.func341 Tryz.ntmps341 rfl rfl ?_
 refine au 12 ?_
 refine ae rfl (aF Tryz.call374 rfl (uo W0 _ _ l.length c i0 k (by omega))) ?_
 rintro _ B_ ⟨rfl, hB_⟩
 obtain rfl := hB_.symm
 refine au 3 ?_
 refine ai rfl ?_ ?_
 ·intro c1
  exact absurd c1 (by simp [hi])
 ·intro c1
  refine au 4 ?_
  refine ae rfl (mh gD gG rfl) ?_
  rintro _ _ ⟨b1, rfl, rfl⟩
  refine aa rfl (ag rfl) ?_
  refine ae rfl (dy (sz := 1) (by_ := 1) (info := Tryz.t5) gD (by kernel_rfl) rfl rfl rfl rfl (by decide) rfl rfl hc.weak ((dA l).trans (Nat.mul_one _).symm) (qk l) (by simp only [maxLen]; omega) (by omega)) ?_
  rintro _ B_ ⟨a', c', rfl, hB_⟩
  obtain rfl := hB_.symm
  simp only [Nat.zero_add, List.nil_append]
  refine au 5 ?_
  refine gr (fun h _ => by have := (Value.slice.inj h).2.1; omega) fun g' n' cap sp h1 h2 h3 h4 h5 => ?_
  cases h1
  refine au 5 ?_
  refine ce (fun i : Nat => i ≤ k) (fun i => [(1, .int .i64 i0), (2, .int .i64 k), (3, .int .u32 w), (10, .slice (some ⟨g', 0, none⟩) l.length c'), (11, .int .i64 i)]) (fun i => pt g' (aj (setR (bL l ++ sp) i0 (bL (fG i w))) 5) :: R) (fun i => k - i) 0 ?_ ?_ ?_ ?_
  ·exact Nat.zero_le _
  ·repeat (first | exact aJ | refine aG rfl ?_)
  ·rw [show setR (bL l ++ sp) i0 (bL (fG 0 w)) = bL l ++ sp from rfl]; exact inferInstance
  ·intro i hik
   refine au 8 ?_
   refine ai rfl ?_ ?_
   ·intro c5
    refine au 8 ?_
    refine aa rfl (bj rfl rfl (by rw [aK (by omega)]; omega : IntKind.wrap .i64 ((i0 : Int) + (i : Int)) = ((i0 + i : Nat) : Int))) ?_
    refine au 2 ?_
    refine aa rfl (i4 rfl rfl (by rw [aK (by omega)]; omega : IntKind.wrap .i64 (8 * (i : Int)) = ((8 * i : Nat) : Int))) ?_
    refine aa rfl (nB rfl rfl (by omega) rfl) ?_
    refine aa rfl (g5 gH n0 rfl (ul (by omega))) ?_
    refine aa rfl (bM gD gG rfl rfl rfl (by omega) (by first | exact Nat.zero_add _ | rfl)) ?_
    refine b0 (bN gG rfl rfl rfl (by rw [m5, List.length_append, dA]; omega) (by rw [uk, ug, show bL [w / 256 ^ i % 256] = [bV (w / 256 ^ i % 256)] from rfl, qn, dA, kX, Nat.mul_one]; rfl : (setR (bL l ++ sp) i0 (bL (fG i w))).set ((i0 + i) * 1) _ = setR (bL l ++ sp) i0 (bL (fG (i + 1) w)))) ?_
    rintro _ _ rfl
    refine au 5 ?_
    refine aa rfl (bj rfl rfl (by first | exact aK (by omega) | rfl)) ?_
    refine au 3 ?_
    refine bU (i + 1) ?_ ?_ ?_ ?_
    ·omega
    ·omega
    ·repeat (first | exact aJ | refine aG rfl ?_)
    ·exact inferInstance
   ·intro c5
    refine au 13 ?_
    refine ah (.inl rfl) (.cons (ac rfl) (.cons (ac rfl) .nil)) ?_
    have : i = k := by omega
    subst this
    rw [uq (by omega)]
    exact ⟨_, ⟨_, c', rfl, rfl⟩, eP h2 h3 (by rw [dA, kc (by omega), Nat.mul_one]) (by rw [← h5, List.length_append, List.length_append, dA, dA, kc (by omega)])⟩
theorem zu (W0 : World) (R : List HP) (a : Option Addr) (n c : Nat) (at_ k : Int) (w : Nat) (hi : d6 n at_ k = false) (hn : n ≤ 1000000) :
  ao Tryz.prog W0 341 [.slice a n c, .int .i64 at_, .int .i64 k, .int .u32 w] R (fun v B => v = qp ∧ B = R) := by
 refine aD Tryz.func341 Tryz.ntmps341 rfl rfl ?_
 refine au 12 ?_
 refine ae rfl (aF Tryz.call374 rfl (uo W0 _ _ n c at_ k (by omega))) ?_
 rintro _ B_ ⟨rfl, hB_⟩
 obtain rfl := hB_.symm
 refine au 3 ?_
 refine ai rfl ?_ ?_
 ·intro c1
  refine au 8 ?_
  refine ah (.inl rfl) (.cons (ac rfl) (.cons (ac rfl) .nil)) ?_
  exact ⟨_, ⟨rfl, rfl⟩, inferInstance⟩
 ·intro c1
  exact absurd c1 (by simp [hi])
abbrev bJ := List Nat
def gL (x : bJ) : List Value := (List.range 64).map (fun i => bV (x.getD i 0))
theorem qq (x : bJ) : (gL x).length = 64 := by simp [gL]
theorem ut {x : bJ} (h : x.length = 64) : gL x = bL x := by
 apply List.ext_getElem
 ·simp [gL, bL, h]
 ·intro i h1 h2
  have : i < x.length := by simpa [bL] using h2
  simp [gL, bL, List.getD, this]
def dJ (fr : List bJ) : Prop := ∀ x ∈ fr, x.length = 64 ∧ By x
theorem dJ.get {fr : List bJ} (h : dJ fr) {f : Nat} (hf : f < fr.length) : (fr.getD f []).length = 64 ∧ By (fr.getD f []) := by
 have : fr.getD f [] = fr[f] := by simp [List.getD, hf]
 rw [this]; exact h _ (List.getElem_mem hf)
theorem dJ.set {fr : List bJ} (h : dJ fr) {f : Nat} {y : bJ} (hy : y.length = 64 ∧ By y) : dJ (fr.set f y) := fun x hx => by
 rcases List.mem_or_eq_of_mem_set hx with h' | rfl
 ·exact h x h'
 ·exact hy
theorem qt {fr : List bJ} (h : dJ fr) {f : Nat} (hf : f < fr.length) : ((fr.flatMap gL).drop (f * 64)).take 64 = bL (fr.getD f []) := by
 have := ma qq fr f [] hf
 rw [List.append_nil] at this
 rw [this, ut (h _ (List.getElem_mem hf)).1]; simp [List.getD, hf]
theorem uu {fr : List bJ} {f : Nat} {y : bJ} (hf : f < fr.length) (hy : y.length = 64) : setR (fr.flatMap gL) (f * 64) (bL y) = (fr.set f y).flatMap gL := by
 have := nR qq fr f y [] hf
 rw [List.append_nil, List.append_nil, ut hy] at this
 exact this
theorem uv (fr : List bJ) : (fr.flatMap gL).length = fr.length * 64 := cX qq fr
def bi : bJ := List.replicate 64 0
theorem zv : bi.length = 64 ∧ By bi := ⟨by simp [bi], fun b hb => by have := List.eq_of_mem_replicate hb; omega⟩
theorem dJ.new (n : Nat) : dJ (List.replicate n bi) := fun x hx => by rw [List.eq_of_mem_replicate hx]; exact zv
theorem uw : ∀ n, (List.replicate n bi).flatMap gL = List.replicate (n * 64) (bV 0)
 | 0 => rfl
 | n + 1 => by
  rw [List.replicate_succ, List.flatMap_cons, uw n, Nat.succ_mul, Nat.add_comm, ← List.replicate_append_replicate]
  congr 1
def bn (ps : Nat) (fr : List bJ) : HP := chk (fun C => ∃ g, C = [pt ps (aj [.slice (some ⟨g, 0, none⟩) fr.length fr.length, .bool true] 155), pt g (aj (fr.flatMap gL) 152)])
section
variable {P : Program} {W0 : World} {N : FSz} {K : Act → World → Prop} {e : bq} {A B R R1 R2 : List HP} {ps g n : Nat} {fr : List bJ} {f : FuncId} {args : List Value} {Post : Value → List HP → Prop} {l : List Value}
theorem zw (h : ∀ g, ao P W0 f args (pt ps (aj [.slice (some ⟨g, 0, none⟩) fr.length fr.length, .bool true] 155) :: pt g (aj (fr.flatMap gL) 152) :: R) Post) : ao P W0 f args (bn ps fr :: R) Post :=
 md fun C hC => by obtain ⟨g, rfl⟩ := hC; exact h g
theorem iW [h1 : Tk pt ps A (aj [.slice (some ⟨g, 0, none⟩) n n, .bool true] 155) R1] [h2 : Tk pt g R1 (aj l 152) R2] (hl : l = fr.flatMap gL) (hn : n = fr.length) [k : Ent R2 B] : Ent A (bn ps fr :: B) := by
 subst hl; subst hn
 exact (Ent.ofPerm (h1.perm.trans (h2.perm.cons _))).trans ((Ent.cons (Ent.cons k)).trans (eF (R := B) (C := [_, _]) ⟨g, rfl⟩))
theorem kZ [hk : Tk bn ps A fr R] (h : ∀ g, aE W0 N K e (pt ps (aj [.slice (some ⟨g, 0, none⟩) fr.length fr.length, .bool true] 155) :: pt g (aj (fr.flatMap gL) 152) :: R)) : aE W0 N K e A :=
 dP (r := bn) (b := ps) (iU fun C hC => by obtain ⟨g, rfl⟩ := hC; exact h g)
end
theorem zx {W0 : World} {R : List HP} {g off c n : Nat} {l : List Nat} {at_ w : Int} (hl : l.length = n) (hc : cp (bu W0 R) g off (bL l)) (hb : By l) (hn : n ≤ c) (h63 : c < 9223372036854775808) :
  ao Tryz.prog W0 356 [.slice (some ⟨g, off, none⟩) n c, .int .i64 at_, .int .i64 w] R (fun v B => v = .tuple #[.int .u32 (ml l at_ w : Nat), .int .i64 (kY l at_ w)] ∧ B = R) := by
 subst hl; exact zn W0 R g off c l at_ w hc hb hn h63
theorem zy {W0 : World} {R : List HP} {g off c n : Nat} {l : List Nat} {i k w : Nat} (hl : l.length = n) (hw : w < 4294967296) (hc : cp (bu W0 R) g off (bL l)) (hi : d6 n i k = true) (hn : n ≤ 1000000) :
  ao Tryz.prog W0 56 [.slice (some ⟨g, off, none⟩) n c, .int .i64 i, .int .i64 k, .int .u32 w] R (fun v B => ∃ a' c', v = nV a' n c' ∧ B = osl 5 1 (.slice a' n c') (bL (gt l i k w)) :: R) := by
 subst hl; exact zq W0 R g off c l i k w hw hc hi hn
theorem zA {W0 : World} {R : List HP} {g off c n : Nat} {l : List Nat} {at_ k : Int} {w : Nat} (hl : l.length = n) (hc : cp (bu W0 R) g off (bL l)) (hi : d6 n at_ k = false) (hn : n ≤ 1000000) :
  ao Tryz.prog W0 56 [.slice (some ⟨g, off, none⟩) n c, .int .i64 at_, .int .i64 k, .int .u32 w] R (fun v B => v = qp ∧ B = R) := by
 subst hl; exact zr W0 R g off c l at_ k w hc hi hn
theorem zB (W0 : World) (R : List HP) (n : Nat) (h : n ≤ 32) :
  ao Tryz.prog W0 58 [.int .i64 n] R (fun v B => ∃ b, v = .tuple #[.pointer (some ⟨b, 0, none⟩), .int .i64 0] ∧ B = bn b (List.replicate n bi) :: R) := by
 refine aD Tryz.func58 Tryz.ntmps58 rfl rfl ?_
 refine au 12 ?_
 refine aZ rfl rfl rfl ?_ ?_
 ·intro g1_3
  omega
 ·intro g1_3
  refine au 6 ?_
  refine ai rfl ?_ ?_
  ·intro c1
   omega
  ·intro c1
   refine au 5 ?_
   refine ae rfl (mi (sz := 64) (by_ := 64) (info := Tryz.t152) lL (by kernel_rfl) rfl rfl rfl rfl (by decide) rfl rfl rfl rfl (by omega) (by decide)) ?_
   rintro _ _ ⟨b1, rfl, rfl⟩
   refine aa rfl (bI pq Tryz.zeroValue155 (aA mW (aA cu bH)) (aS rfl mW rfl rfl (Nat.le_of_ble_eq_true rfl) SetL.eq (aS rfl cu rfl rfl (Nat.le_of_ble_eq_true rfl) SetL.eq bG))) ?_
   refine ae rfl (bw rfl) ?_
   rintro _ _ ⟨b2, rfl, rfl⟩
   refine au 5 ?_
   refine ah (.inl rfl) (.cons (ac rfl) (.cons (ac rfl) .nil)) ?_
   exact ⟨_, ⟨b2, rfl, rfl⟩, iW (uw n).symm (by simp)⟩
theorem ux (W0 : World) (R : List HP) (ps : Nat) (fr : List bJ) :
  ao Tryz.prog W0 157 [.pointer (some ⟨ps, 0, none⟩)] (bn ps fr :: R) (fun v B => v = .bool false ∧ B = bn ps fr :: R) := by
 refine zw fun g => ?_
 refine aD Tryz.func157 Tryz.ntmps157 rfl rfl ?_
 refine au 10 ?_
 refine aZ rfl rfl rfl ?_ ?_
 ·intro g1_3
  cases g1_3
 ·intro g1_3
  refine au 14 ?_
  refine ah (.inl rfl) (.cons (ac rfl) .nil) ?_
  exact ⟨_, ⟨by simp [bW], rfl⟩, iW rfl rfl⟩
theorem l5 (W0 : World) (R : List HP) (ps : Nat) (fr : List bJ) :
  ao Tryz.prog W0 75 [.pointer (some ⟨ps, 0, none⟩)] (bn ps fr :: R) (fun v B => v = .int .i64 (fr.length : Nat) ∧ B = bn ps fr :: R) := by
 refine aD Tryz.func75 Tryz.ntmps75 rfl rfl ?_
 refine au 9 ?_
 refine ae rfl (aM Tryz.call157 rfl (ux W0 _ ps fr)) ?_
 rintro _ B_ ⟨rfl, hB_⟩
 obtain rfl := hB_.symm
 refine au 2 ?_
 refine ai rfl ?_ ?_
 ·intro c1
  exact absurd c1 (by decide)
 ·intro c1
  refine au 3 ?_
  refine kZ (ps := ps) fun g => ?_
  refine au 10 ?_
  refine ah (.inl rfl) (.cons (ac rfl) .nil) ?_
  exact ⟨_, ⟨rfl, rfl⟩, iW rfl rfl⟩
def d7 (n : Nat) (f : Int) : Bool := decide (0 ≤ f ∧ f < n)
theorem l6 (W0 : World) (R : List HP) (ps : Nat) (fr : List bJ) (f : Int) :
  ao Tryz.prog W0 55 [.pointer (some ⟨ps, 0, none⟩), .int .i64 f] (bn ps fr :: R) (fun v B => v = .int .i64 (if d7 fr.length f then 0 else 1) ∧ B = bn ps fr :: R) := by
 refine aD Tryz.func55 Tryz.ntmps55 rfl rfl ?_
 refine au 10 ?_
 refine ae rfl (aM Tryz.call157 rfl (ux W0 _ ps fr)) ?_
 rintro _ B_ ⟨rfl, hB_⟩
 obtain rfl := hB_.symm
 refine au 3 ?_
 refine ai rfl ?_ ?_
 ·intro c1
  exact absurd c1 (by decide)
 ·intro c1
  refine au 8 ?_
  refine ai rfl ?_ ?_
  ·intro c3
   refine au 11 ?_
   refine ah (.inl rfl) (.cons (ac rfl) .nil) ?_
   have hf : d7 fr.length f = false := by rw [← Bool.not_eq_true]; simp only [d7, decide_eq_true_eq]; omega
   first
    | exact ⟨_, ⟨by simp [bW, hf], rfl⟩, iW rfl rfl⟩
    | exact ⟨_, ⟨by simp [bW, hf], rfl⟩, inferInstance⟩
  ·intro c3
   refine kZ (ps := ps) fun g => ?_
   refine au 11 ?_
   refine ai rfl ?_ ?_
   ·intro c4
    refine au 8 ?_
    refine ah (.inl rfl) (.cons (ac rfl) .nil) ?_
    have hf : d7 fr.length f = false := by rw [← Bool.not_eq_true]; simp only [d7, decide_eq_true_eq]; omega
    first
     | exact ⟨_, ⟨by simp [bW, hf], rfl⟩, iW rfl rfl⟩
     | exact ⟨_, ⟨by simp [bW, hf], rfl⟩, inferInstance⟩
   ·intro c4
    refine au 9 ?_
    refine ah (.inl rfl) (.cons (ac rfl) .nil) ?_
    have hf : d7 fr.length f = true := by simp only [d7, decide_eq_true_eq]; omega
    exact ⟨_, ⟨by simp [bW, hf], rfl⟩, iW rfl rfl⟩
def jg (fr : List bJ) (f off w : Int) : Nat := if d7 fr.length f then ml (fr.getD f.toNat []) off w else 0
def l7 (fr : List bJ) (f off w : Int) : Int := if d7 fr.length f then kY (fr.getD f.toNat []) off w else 1
theorem nW {n : Nat} {f : Int} (h : d7 n f = true) : ∃ i : Nat, f = (i : Int) ∧ i < n := by
 simp only [d7, decide_eq_true_eq] at h
 exact ⟨f.toNat, by omega, by omega⟩
theorem zC (W0 : World) (R : List HP) (ps : Nat) (fr : List bJ) (f off w : Int) (hF : dJ fr) :
  ao Tryz.prog W0 304 [.pointer (some ⟨ps, 0, none⟩), .int .i64 f, .int .i64 off, .int .i64 w] (bn ps fr :: R)
   (fun v B => v = .tuple #[.int .u32 (jg fr f off w : Nat), .int .i64 (l7 fr f off w)] ∧ B = bn ps fr :: R) := by
 by_cases hf : d7 fr.length f = true
 ·obtain ⟨i, rfl, hi⟩ := nW hf
  obtain ⟨hl, hb⟩ := hF.get hi
  refine aD Tryz.func304 Tryz.ntmps304 rfl rfl ?_
  refine au 11 ?_
  refine ae rfl (aM nf rfl (l6 W0 _ ps fr i)) ?_
  rintro _ B_ ⟨rfl, hB_⟩
  obtain rfl := hB_.symm
  refine au 9 ?_
  refine ai rfl ?_ ?_
  ·intro c2
   exact absurd c2 (by simp [hf])
  ·intro c2
   refine au 3 ?_
   refine kZ (ps := ps) fun g => ?_
   refine au 6 ?_
   refine aa rfl (bM lL ng rfl rfl rfl hi (by first | exact Nat.zero_add _ | rfl)) ?_
   refine aa rfl (nU pB gG rfl) ?_
   refine au 2 ?_
   refine ae rfl (aF Tryz.call356 rfl (zx hl (fp (qt hF hi) (by rw [dA, hl])) hb (by decide) (by decide))) ?_
   rintro _ B_ ⟨rfl, hB_⟩
   obtain rfl := hB_.symm
   refine au 7 ?_
   refine ah (.inl rfl) (.cons (ac rfl) (.cons (ac rfl) .nil)) ?_
   exact ⟨_, ⟨by simp [bW, jg, l7, hf], rfl⟩, iW rfl rfl⟩
 ·have hf' : d7 fr.length f = false := by simpa using hf
  refine aD Tryz.func304 Tryz.ntmps304 rfl rfl ?_
  refine au 11 ?_
  refine ae rfl (aM nf rfl (l6 W0 _ ps fr f)) ?_
  rintro _ B_ ⟨rfl, hB_⟩
  obtain rfl := hB_.symm
  refine au 9 ?_
  refine ai rfl ?_ ?_
  ·intro c2
   refine au 9 ?_
   refine ah (.inl rfl) (.cons (ac rfl) (.cons (ac rfl) .nil)) ?_
   exact ⟨_, ⟨by simp [bW, jg, l7, hf'], rfl⟩, inferInstance⟩
  ·intro c2
   exact absurd c2 (by simp [hf'])
def fH (fr : List bJ) (f off w : Int) : Bool := d7 fr.length f && d6 64 off w
def eG (fr : List bJ) (f off w : Int) (v : Nat) : List bJ := if fH fr f off w then fr.set f.toNat (gt (fr.getD f.toNat []) off.toNat w.toNat v) else fr
theorem uy {fr : List bJ} {f off w : Int} {v : Nat} (h : dJ fr) : dJ (eG fr f off w v) := by
 unfold eG; split
 ·rename_i hs
  simp only [fH, Bool.and_eq_true] at hs
  obtain ⟨i, rfl, hi⟩ := nW hs.1
  obtain ⟨o, k, rfl, rfl, hk, hok⟩ := kd hs.2
  obtain ⟨hl, hb⟩ := h.get hi
  exact h.set ⟨by rw [kc (by simp only [Int.toNat_natCast]; omega)]; exact hl, zj hb⟩
 ·exact h
theorem uz {fr : List bJ} {f off w : Int} {v : Nat} : (eG fr f off w v).length = fr.length := by unfold eG; split <;> simp
theorem uA (W0 : World) (R : List HP) (ps : Nat) (fr : List bJ) (f off w : Int) (x : Nat) (hx : x < 4294967296) (hF : dJ fr) :
  ao Tryz.prog W0 22 [.pointer (some ⟨ps, 0, none⟩), .int .i64 f, .int .i64 off, .int .i64 w, .int .u32 x] (bn ps fr :: R)
   (fun v B => v = .int .i64 (if fH fr f off w then 0 else 1) ∧ B = bn ps (eG fr f off w x) :: R) := by
 by_cases hf : d7 fr.length f = true
 ·obtain ⟨i, rfl, hi⟩ := nW hf
  obtain ⟨hl, hb⟩ := hF.get hi
  by_cases hin : d6 64 off w = true
  ·obtain ⟨o, k, rfl, rfl, hk, hok⟩ := kd hin
   have hs : fH fr i o k = true := by simp [fH, hf, hin]
   have hpl : (gt (fr.getD i []) o k x).length = 64 := by rw [kc (by omega)]; exact hl
   refine d5 xS Tryz.ntmps22 rfl rfl ?_
   refine al (az (aa rfl (ax rfl) (aw (ak (al (al (az (aa rfl (ag rfl) (aa rfl (ag rfl) (ae rfl (aM nf rfl (l6 W0 _ ps fr i)) ?_))))))))))
   rintro _ B_ ⟨rfl, hB_⟩
   obtain rfl := hB_.symm
   refine aa rfl (ax rfl) (aw (ak (al (az (aa rfl (ag rfl) (aa rfl (du rfl rfl) (aw (ak ?_))))))))
   refine ai rfl ?_ ?_
   ·intro c2
    exact absurd c2 (by simp [hf])
   ·intro c2
    refine cy (ak (al ?_))
    refine kZ (ps := ps) fun g => ?_
    refine az (aa rfl (ag rfl) (aa rfl (aU rfl) ?_))
    refine aa rfl (ap rfl pq rfl mW rfl (by first | exact Nat.zero_add _ | rfl)) ?_
    refine aa rfl (am sD rfl (aH rfl)) ?_
    refine aa rfl (ag rfl) ?_
    refine aa rfl (bM lL ng rfl rfl rfl hi (by first | exact Nat.zero_add _ | rfl)) ?_
    refine aa rfl (nU pB gG rfl) ?_
    refine aa rfl (ag rfl) (aa rfl (ag rfl) (aa rfl (ag rfl) ?_))
    refine ae rfl (aF Tryz.call56 rfl (zy hl hx (fp (qt hF hi) (by rw [dA, hl])) hin (by decide))) ?_
    rintro _ B_ ⟨a', c', rfl, hB_⟩
    obtain rfl := hB_.symm
    refine aa rfl (ag rfl) (aa rfl (bZ rfl rfl) (aa rfl (bZ rfl rfl) (aa rfl (ax rfl) (aa rfl (ax rfl) (aw (ak (al (al (az (aa rfl (ag rfl) (aa rfl (du rfl rfl) (aw (ak ?_)))))))))))))
    refine ai rfl ?_ ?_
    ·intro c5
     exact absurd c5 (by simp)
    ·intro c5
     refine cy (ak (al ?_))
     refine gr (fun h _ => by have := (Value.slice.inj h).2.1; omega) fun g' n' cap sp h1 h2 h3 h4 h5 => ?_
     cases h1
     refine az (aa rfl (ag rfl) (aa rfl (aU rfl) ?_))
     refine aa rfl (ap rfl pq rfl mW rfl (by first | exact Nat.zero_add _ | rfl)) ?_
     refine aa rfl (am sD rfl (aH rfl)) ?_
     refine aa rfl (ag rfl) ?_
     refine aa rfl (bM lL ng rfl rfl rfl hi (by first | exact Nat.zero_add _ | rfl)) ?_
     refine aa rfl (nU pB gG rfl) ?_
     refine aa rfl (ag rfl) ?_
     refine ae rfl (kW gD gG rfl rfl (m := 64) (vs := bL (gt (fr.getD i []) o k x)) rfl (fp (n := 64) (by rw [List.drop_zero, List.take_left' (by rw [dA, hpl])]) (by rw [dA, hpl])) (by rw [dA, hpl]) (qk _) (by rw [uv]; omega) (uu hi hpl)) ?_
     rintro _ B_ ⟨rfl, hB_⟩
     obtain rfl := hB_.symm
     refine aw (ak (al (az (aa rfl (ax rfl) (aw (ak (bY (ah (.inl rfl) (.cons (ac rfl) .nil) ?_))))))))
     exact ⟨_, ⟨by simp [bW, hs], rfl⟩, iW (by simp [eG, hs]) (by simp [eG, hs])⟩
  ·have hin' : d6 64 off w = false := by simpa using hin
   have hs : fH fr i off w = false := by simp [fH, hin']
   refine d5 xS Tryz.ntmps22 rfl rfl ?_
   refine al (az (aa rfl (ax rfl) (aw (ak (al (al (az (aa rfl (ag rfl) (aa rfl (ag rfl) (ae rfl (aM nf rfl (l6 W0 _ ps fr i)) ?_))))))))))
   rintro _ B_ ⟨rfl, hB_⟩
   obtain rfl := hB_.symm
   refine aa rfl (ax rfl) (aw (ak (al (az (aa rfl (ag rfl) (aa rfl (du rfl rfl) (aw (ak ?_))))))))
   refine ai rfl ?_ ?_
   ·intro c2
    exact absurd c2 (by simp [hf])
   ·intro c2
    refine cy (ak (al ?_))
    refine kZ (ps := ps) fun g => ?_
    refine az (aa rfl (ag rfl) (aa rfl (aU rfl) ?_))
    refine aa rfl (ap rfl pq rfl mW rfl (by first | exact Nat.zero_add _ | rfl)) ?_
    refine aa rfl (am sD rfl (aH rfl)) ?_
    refine aa rfl (ag rfl) ?_
    refine aa rfl (bM lL ng rfl rfl rfl hi (by first | exact Nat.zero_add _ | rfl)) ?_
    refine aa rfl (nU pB gG rfl) ?_
    refine aa rfl (ag rfl) (aa rfl (ag rfl) (aa rfl (ag rfl) ?_))
    refine ae rfl (aF Tryz.call56 rfl (zA hl (fp (qt hF hi) (by rw [dA, hl])) hin' (by decide))) ?_
    rintro _ B_ ⟨rfl, hB_⟩
    obtain rfl := hB_.symm
    refine aa rfl (ag rfl) (aa rfl (bZ rfl rfl) (aa rfl (bZ rfl rfl) (aa rfl (ax rfl) (aa rfl (ax rfl) (aw (ak (al (al (az (aa rfl (ag rfl) (aa rfl (du rfl rfl) (aw (ak ?_)))))))))))))
    refine ai rfl ?_ ?_
    ·intro c5
     refine al (az (aa rfl (ag rfl) (aa rfl (ax rfl) (aw (ak (bY (cn (ah (.inl rfl) (.cons (ac rfl) .nil) ?_))))))))
     exact ⟨_, ⟨by simp [bW, hs], rfl⟩, iW (by simp [eG, hs]) (by simp [eG, hs])⟩
    ·intro c5
     exact absurd c5 (by simp)
 ·have hf' : d7 fr.length f = false := by simpa using hf
  have hs : fH fr f off w = false := by simp [fH, hf']
  refine d5 xS Tryz.ntmps22 rfl rfl ?_
  refine al (az (aa rfl (ax rfl) (aw (ak (al (al (az (aa rfl (ag rfl) (aa rfl (ag rfl) (ae rfl (aM nf rfl (l6 W0 _ ps fr f)) ?_))))))))))
  rintro _ B_ ⟨rfl, hB_⟩
  obtain rfl := hB_.symm
  refine aa rfl (ax rfl) (aw (ak (al (az (aa rfl (ag rfl) (aa rfl (du rfl rfl) (aw (ak ?_))))))))
  refine ai rfl ?_ ?_
  ·intro c2
   refine al (az (aa rfl (ag rfl) (aa rfl (ax rfl) (aw (ak (bY (cn (ah (.inl rfl) (.cons (ac rfl) .nil) ?_))))))))
   rw [show eG fr f off w x = fr by simp [eG, hs]]
   exact ⟨_, ⟨by simp [bW, hf', hs], rfl⟩, inferInstance⟩
  ·intro c2
   exact absurd c2 (by simp [hf'])
abbrev Pl := Int × Int
@[reducible] def et (p : Pl) : List Value := [.int .i64 p.1, .int .i64 p.2]
theorem ke (p : Pl) : (et p).length = 2 := rfl
def fN (pg : List Pl) (n : Nat) : Pl := pg.getD n (0, 0)
def gM (p : Pl) : Bool := decide (0 ≤ p.1 ∧ p.1 < 32 ∧ 1 ≤ p.2 ∧ p.2 ≤ 3)
structure Pgs (pg : List Pl) : Prop where
  len : pg.length = 12
  ok : ∀ n, n < 12 → fN pg n ≠ (0, 0) → gM (fN pg n) = true
def g7 (n : Int) : Bool := decide (0 ≤ n ∧ n < 12)
theorem mm {n : Int} (h : g7 n = true) : ∃ i : Nat, n = (i : Int) ∧ i < 12 := by
 simp only [g7, decide_eq_true_eq] at h
 exact ⟨n.toNat, by omega, by omega⟩
abbrev df (pg : List Pl) : Obj := aj (pg.flatMap et ++ [.bool true]) 338
theorem qu {pg : List Pl} {sp : List Value} {n : Nat} (hn : n < pg.length) : ((pg.flatMap et ++ sp).drop (n * 2)).take 2 = et (fN pg n) := by
 rw [ma ke pg n sp hn]; simp [fN, List.getD, hn]
theorem uB {pg : List Pl} {sp : List Value} {n : Nat} {p : Pl} (hn : n < pg.length) : setR (pg.flatMap et ++ sp) (n * 2) (et p) = (pg.set n p).flatMap et ++ sp := nR ke pg n p sp hn
theorem zE (pg : List Pl) (sp : List Value) : (pg.flatMap et ++ sp).length = pg.length * 2 + sp.length := by rw [List.length_append, cX ke]
theorem zF {pg : List Pl} (h : pg.length = 12) : (pg.flatMap et ++ [.bool true])[24]? = some (Value.bool true) := by
 rw [List.getElem?_append_right (by rw [cX ke]; omega), cX ke, h]; rfl
theorem zG (W0 : World) (R : List HP) : ao Tryz.prog W0 74 [] R (fun v B => ∃ b, v = .pointer (some ⟨b, 0, none⟩) ∧ B = pt b (df (List.replicate 12 (0, 0))) :: R) := by
 refine aD Tryz.func74 Tryz.ntmps74 rfl rfl ?_
 refine au 7 ?_
 refine aa rfl (bI xP Tryz.zeroValue338 (aA mX (aA cu bH)) (aS rfl cu rfl rfl (Nat.le_of_ble_eq_true rfl) SetL.eq bG)) ?_
 refine ae rfl (bw rfl) ?_
 rintro _ _ ⟨b1, rfl, rfl⟩
 refine au 4 ?_
 refine ah (.inl rfl) (.cons (ac rfl) .nil) ?_
 exact ⟨_, ⟨b1, rfl, rfl⟩, ent_refl⟩
theorem nX (W0 : World) (R : List HP) (b : Nat) (pg : List Pl) (h : Pgs pg) : ao Tryz.prog W0 239 [.pointer (some ⟨b, 0, none⟩)] (pt b (df pg) :: R) (fun v B => v = .bool false ∧ B = pt b (df pg) :: R) := by
 refine aD Tryz.func239 Tryz.ntmps239 rfl rfl ?_
 refine au 10 ?_
 refine aZ rfl rfl rfl ?_ ?_
 ·intro g1_3
  cases g1_3
 ·intro g1_3
  refine au 6 ?_
  refine aa rfl (am j6 rfl (aH (zF h.len))) ?_
  refine au 7 ?_
  refine ah (.inl rfl) (.cons (ac rfl) .nil) ?_
  exact ⟨_, ⟨rfl, rfl⟩, inferInstance⟩
theorem nY (W0 : World) (R : List HP) (n : Int) : ao Tryz.prog W0 283 [.int .i64 n] R (fun v B => v = .bool (g7 n) ∧ B = R) := by
 refine aD Tryz.func283 Tryz.ntmps283 rfl rfl ?_
 refine au 10 ?_
 refine bX rfl rfl rfl ?_ ?_
 ·intro g1_3
  refine au 8 ?_
  refine ah (.inl rfl) (.cons (ac rfl) .nil) ?_
  refine ⟨_, ⟨?_, rfl⟩, inferInstance⟩
  refine congrArg Value.bool ?_
  rw [Bool.eq_iff_iff]; simp only [g7, decide_eq_true_eq, Bool.false_eq_true, false_iff]; omega
 ·intro g1_3
  refine au 6 ?_
  refine ah (.inl rfl) (.cons (ac rfl) .nil) ?_
  refine ⟨_, ⟨?_, rfl⟩, inferInstance⟩
  refine congrArg Value.bool ?_
  rw [Bool.eq_iff_iff]; simp only [g7, decide_eq_true_eq, Bool.false_eq_true, false_iff]; omega
theorem zH (W0 : World) (R : List HP) (p : Pl) : ao Tryz.prog W0 284 [.agg (et p).toArray] R (fun v B => v = .bool (gM p) ∧ B = R) := by
 refine aD Tryz.func284 Tryz.ntmps284 rfl rfl ?_
 refine au 2 ?_
 refine ae rfl (bw rfl) ?_
 rintro _ _ ⟨b1, rfl, rfl⟩
 refine au 9 ?_
 refine bX rfl rfl rfl ?_ ?_
 ·intro g1_4
  refine au 7 ?_
  refine bX rfl rfl rfl ?_ ?_
  ·intro g1_9
   refine au 7 ?_
   refine bX rfl rfl rfl ?_ ?_
   ·intro g1_14
    refine au 10 ?_
    refine ah (.inl rfl) (.cons (ac rfl) .nil) ?_
    refine ⟨_, ⟨?_, rfl⟩, inferInstance⟩
    refine congrArg Value.bool ?_
    rw [Bool.eq_iff_iff]; simp only [gM, decide_eq_true_eq, Bool.false_eq_true, false_iff]; omega
   ·intro g1_14
    refine au 7 ?_
    refine ah (.inl rfl) (.cons (ac rfl) .nil) ?_
    refine ⟨_, ⟨?_, rfl⟩, inferInstance⟩
    refine congrArg Value.bool ?_
    rw [Bool.eq_iff_iff]; simp only [gM, decide_eq_true_eq, Bool.false_eq_true, false_iff]; omega
  ·intro g1_9
   refine au 12 ?_
   refine ah (.inl rfl) (.cons (ac rfl) .nil) ?_
   refine ⟨_, ⟨?_, rfl⟩, inferInstance⟩
   refine congrArg Value.bool ?_
   rw [Bool.eq_iff_iff]; simp only [gM, decide_eq_true_eq, Bool.false_eq_true, false_iff]; omega
 ·intro g1_4
  refine au 17 ?_
  refine ah (.inl rfl) (.cons (ac rfl) .nil) ?_
  refine ⟨_, ⟨?_, rfl⟩, inferInstance⟩
  refine congrArg Value.bool ?_
  rw [Bool.eq_iff_iff]; simp only [gM, decide_eq_true_eq, Bool.false_eq_true, false_iff]; omega
def dV (pg : List Pl) (n : Int) : Bool := g7 n && decide (fN pg n.toNat ≠ (0, 0))
theorem uC (W0 : World) (R : List HP) (b : Nat) (pg : List Pl) (h : Pgs pg) (n : Int) : ao Tryz.prog W0 240 [.pointer (some ⟨b, 0, none⟩), .int .i64 n] (pt b (df pg) :: R) (fun v B => v = .bool (dV pg n) ∧ B = pt b (df pg) :: R) := by
 refine aD Tryz.func240 Tryz.ntmps240 rfl rfl ?_
 refine au 8 ?_
 refine ae rfl (aF sZ rfl (nY W0 _ n)) ?_
 rintro _ B_ ⟨rfl, hB_⟩
 obtain rfl := hB_.symm
 refine aa rfl (ag rfl) ?_
 refine bX rfl rfl rfl ?_ ?_
 ·intro g1_3
  obtain ⟨i, rfl, hi⟩ := mm g1_3
  have hl := h.len
  refine au 8 ?_
  refine aa rfl (dv pC f0 rfl rfl rfl (by omega) (by first | exact Nat.zero_add _ | rfl)) ?_
  refine aY rfl rfl ?_
  refine aa rfl (cj jo f0 rfl (fp (qu (by omega)) rfl) rfl) ?_
  refine aY rfl rfl (aa rfl (bI jr iO (aA ar (aA ar bH)) bG) ?_)
  refine aY rfl rfl (aa rfl (yS Tryz.eqGuardType227 rfl rfl (yQ jr Tryz.stoodInHeld227 (tW rfl aT rfl rfl (tQ dN) (tW rfl aT rfl rfl (tQ dN) yO)))) ?_)
  refine au 5 ?_
  refine ah (.inl rfl) (.cons (ac rfl) .nil) ?_
  refine ⟨_, ⟨?_, rfl⟩, inferInstance⟩
  refine congrArg Value.bool ?_
  first
   | (rw [Bool.eq_iff_iff]; simp [dV, g1_3, Prod.ext_iff])
   | simp [dV, g1_3]
 ·intro g1_3
  refine au 12 ?_
  refine ah (.inl rfl) (.cons (ac rfl) .nil) ?_
  refine ⟨_, ⟨?_, rfl⟩, inferInstance⟩
  refine congrArg Value.bool ?_
  first
   | (rw [Bool.eq_iff_iff]; simp [dV, g1_3, Prod.ext_iff])
   | simp [dV, g1_3]
def jh (pg : List Pl) (n : Int) : Pl := if dV pg n then fN pg n.toNat else (0, 0)
theorem zI (W0 : World) (R : List HP) (b : Nat) (pg : List Pl) (h : Pgs pg) (n : Int) : ao Tryz.prog W0 108 [.pointer (some ⟨b, 0, none⟩), .int .i64 n] (pt b (df pg) :: R)
  (fun v B => v = .tuple #[.agg (et (jh pg n)).toArray, .bool (dV pg n)] ∧ B = pt b (df pg) :: R) := by
 refine aD Tryz.func108 Tryz.ntmps108 rfl rfl ?_
 refine au 2 ?_
 refine ae rfl (cd iO) ?_
 rintro _ _ ⟨b1, rfl, rfl⟩
 refine au 7 ?_
 refine ae rfl (aM t0 rfl (nX W0 _ b pg h)) ?_
 rintro _ B_ ⟨rfl, hB_⟩
 obtain rfl := hB_.symm
 refine aa rfl (ag rfl) ?_
 refine aZ rfl rfl rfl ?_ ?_
 ·intro g1_3
  exact absurd g1_3 (by decide)
 ·intro g1_3
  refine au 4 ?_
  refine ae rfl (aM Tryz.call240 rfl (uC W0 _ b pg h n)) ?_
  rintro _ B_ ⟨rfl, hB_⟩
  obtain rfl := hB_.symm
  refine au 5 ?_
  refine ai rfl ?_ ?_
  ·intro c1
   refine au 2 ?_
   refine aa rfl (bI jr iO (aA ar (aA ar bH)) bG) ?_
   refine b0 (bS f0 rfl rfl rfl rfl rfl) ?_
   rintro _ _ rfl
   refine au 5 ?_
   refine ah (.inl rfl) (.cons (fh jo f0 rfl rfl) (.cons (ac rfl) .nil)) ?_
   refine ⟨_, ⟨?_, rfl⟩, inferInstance⟩
   have ht : dV pg n = false := by simpa using c1
   simp [bW, jh, ht]
  ·intro c1
   have ht : dV pg n = true := by simpa using c1
   have hp : g7 n = true := by simp only [dV, Bool.and_eq_true] at ht; exact ht.1
   obtain ⟨i, rfl, hi⟩ := mm hp
   have hl := h.len
   refine au 8 ?_
   refine aa rfl (dv pC f0 rfl rfl rfl (by omega) (by first | exact Nat.zero_add _ | rfl)) ?_
   refine aa rfl (cj jo f0 rfl (fp (qu (by omega)) rfl) rfl) ?_
   refine b0 (bS f0 rfl rfl rfl rfl rfl) ?_
   rintro _ _ rfl
   refine au 4 ?_
   refine ah (.inl rfl) (.cons (fh jo f0 rfl rfl) (.cons (ac rfl) .nil)) ?_
   refine ⟨_, ⟨?_, rfl⟩, inferInstance⟩
   simp [bW, jh, ht]
def dW (pg : List Pl) (n : Int) (p : Pl) : Int := if g7 n ∧ gM p then (if dV pg n then 5 else 0) else 1
def dY (pg : List Pl) (n : Int) (p : Pl) : List Pl := if dW pg n p = 0 then pg.set n.toNat p else pg
theorem nZ {pg : List Pl} {n : Int} {p : Pl} (h : Pgs pg) : Pgs (dY pg n p) := by
 unfold dY; split
 ·rename_i hs
  have hop : gM p = true := by
   unfold dW at hs; split at hs
   ·rename_i k; exact k.2
   ·omega
  refine ⟨by simp [h.len], fun m hm hne => ?_⟩
  unfold fN at hne ⊢
  by_cases e : n.toNat = m
  ·subst e
   simp only [List.getD_eq_getElem?_getD, List.getElem?_set, if_true] at hne ⊢
   rw [if_pos (by rw [h.len]; exact hm)] at hne ⊢
   exact hop
  ·simp only [List.getD_eq_getElem?_getD, List.getElem?_set_ne e] at hne ⊢
   have := h.ok m hm
   unfold fN at this
   simp only [List.getD_eq_getElem?_getD] at this
   exact this hne
 ·exact h
theorem uD (W0 : World) (R : List HP) (b : Nat) (pg : List Pl) (h : Pgs pg) (n : Int) (p : Pl) : ao Tryz.prog W0 187 [.pointer (some ⟨b, 0, none⟩), .int .i64 n, .agg (et p).toArray] (pt b (df pg) :: R)
  (fun v B => v = .int .i64 (dW pg n p) ∧ B = pt b (df (dY pg n p)) :: R) := by
 have hl := h.len
 refine aD Tryz.func187 Tryz.ntmps187 rfl rfl ?_
 refine au 2 ?_
 refine ae rfl (bw rfl) ?_
 rintro _ _ ⟨b1, rfl, rfl⟩
 refine au 8 ?_
 refine ae rfl (aM t0 rfl (nX W0 _ b pg h)) ?_
 rintro _ B_ ⟨rfl, hB_⟩
 obtain rfl := hB_.symm
 refine au 3 ?_
 refine ai rfl ?_ ?_
 ·intro c1
  exact absurd c1 (by decide)
 ·intro c1
  refine au 4 ?_
  refine ae rfl (aF sZ rfl (nY W0 _ n)) ?_
  rintro _ B_ ⟨rfl, hB_⟩
  obtain rfl := hB_.symm
  refine au 4 ?_
  refine ai rfl ?_ ?_
  ·intro c3
   refine au 11 ?_
   refine ah (.inl rfl) (.cons (ac rfl) .nil) ?_
   have he : dW pg n p = 1 := by
    unfold dW; rw [if_neg]
    first
     | (intro hk; exact absurd hk.1 (by simpa using c3))
     | (intro hk; exact absurd hk.2 (by simpa using c4))
   exact ⟨_, ⟨by simp [bW, he], by rw [dY, he, if_neg (by decide)]⟩, inferInstance⟩
  ·intro c3
   have hp : g7 n = true := by simpa using c3
   refine au 2 ?_
   refine ae rfl (aF Tryz.call284 rfl (zH W0 _ p)) ?_
   rintro _ B_ ⟨rfl, hB_⟩
   obtain rfl := hB_.symm
   refine au 4 ?_
   refine ai rfl ?_ ?_
   ·intro c4
    refine au 8 ?_
    refine ah (.inl rfl) (.cons (ac rfl) .nil) ?_
    have he : dW pg n p = 1 := by
     unfold dW; rw [if_neg]
     first
      | (intro hk; exact absurd hk.1 (by simpa using c3))
      | (intro hk; exact absurd hk.2 (by simpa using c4))
    exact ⟨_, ⟨by simp [bW, he], by rw [dY, he, if_neg (by decide)]⟩, inferInstance⟩
   ·intro c4
    have ho : gM p = true := by simpa using c4
    refine au 4 ?_
    refine ae rfl (aM Tryz.call240 rfl (uC W0 _ b pg h n)) ?_
    rintro _ B_ ⟨rfl, hB_⟩
    obtain rfl := hB_.symm
    refine au 3 ?_
    refine ai rfl ?_ ?_
    ·intro c6
     refine au 8 ?_
     refine ah (.inl rfl) (.cons (ac rfl) .nil) ?_
     have he : dW pg n p = 5 := by
      unfold dW; rw [if_pos ⟨hp, ho⟩, if_pos c6]
     exact ⟨_, ⟨by simp [bW, he], by rw [dY, he, if_neg (by decide)]⟩, inferInstance⟩
    ·intro c6
     have ht : dV pg n = false := by simpa using c6
     have he : dW pg n p = 0 := by simp [dW, hp, ho, ht]
     refine au 4 ?_
     obtain ⟨i, rfl, hi⟩ := mm hp
     refine bR [(b1, 0, _)] 7 bQ rfl (aC aB) (fun hS => ?_)
     refine ab 0 rfl rfl rfl hS (ag rfl) ?_
     refine ab 1 rfl rfl rfl hS (ag rfl) ?_
     refine ab 2 rfl rfl rfl hS (cj jo f0 rfl (cT (k := 0) rfl) rfl) ?_
     refine ab 3 rfl rfl rfl hS (aU rfl) ?_
     refine ab 4 rfl rfl rfl hS (ap rfl xP rfl mX rfl (by first | exact Nat.zero_add _ | rfl)) ?_
     refine ab 5 rfl rfl rfl hS (dv pC f0 rfl rfl rfl hi (by first | exact Nat.zero_add _ | rfl)) ?_
     refine aW 6 (by kernel_rfl) rfl rfl (iD f0 rfl rfl rfl rfl (by rw [zE, hl]; omega) (uB (by omega))) rfl ?_; clear hS
     rintro _ _ rfl
     refine ⟨(aC aB), fun hS => ?_⟩
     refine bz (by kernel_rfl) ?_; clear hS
     refine au 7 ?_
     refine ah (.inl rfl) (.cons (ac rfl) .nil) ?_
     rw [show dY pg i p = pg.set i p by simp [dY, he]]
     exact ⟨_, ⟨by simp [bW, he], rfl⟩, inferInstance⟩
theorem zJ (W0 : World) (R : List HP) (b : Nat) (pg : List Pl) (h : Pgs pg) : ao Tryz.prog W0 190 [.pointer (some ⟨b, 0, none⟩), .int .i64 12] (pt b (df pg) :: R)
  (fun v B => v = .int .i64 1 ∧ B = pt b (df pg) :: R) := by
 refine aD Tryz.func190 Tryz.ntmps190 rfl rfl ?_
 refine au 10 ?_
 refine ae rfl (aM t0 rfl (nX W0 _ b pg h)) ?_
 rintro _ B_ ⟨rfl, hB_⟩
 obtain rfl := hB_.symm
 refine au 3 ?_
 refine ai rfl ?_ ?_
 ·intro c1
  exact absurd c1 (by decide)
 ·intro c1
  refine au 3 ?_
  refine ae rfl (aF sZ rfl (nY W0 _ 12)) ?_
  rintro _ B_ ⟨rfl, hB_⟩
  obtain rfl := hB_.symm
  refine au 4 ?_
  refine ai rfl ?_ ?_
  ·intro c3
   refine au 8 ?_
   refine ah (.inl rfl) (.cons (ac rfl) .nil) ?_
   exact ⟨_, ⟨rfl, rfl⟩, inferInstance⟩
  ·intro c3
   exact absurd c3 (by decide)
theorem kf {p : Pl} : gM p = true ↔ 0 ≤ p.1 ∧ p.1 < 32 ∧ 1 ≤ p.2 ∧ p.2 ≤ 3 := by simp [gM]
end
section
class Hk (α : Type) extends Inhabited α where
  ky : α → Int
namespace Hp
variable {α : Type} [Hk α]
def us (l : List α) (i : Nat) : Int := Hk.ky (l.getD i default)
theorem qv {l : List α} {i : Nat} (h : i < l.length) : us l i = Hk.ky l[i] := by simp [us, List.getD, h]
def swapL (l : List α) (i j : Nat) : List α := (l.set i (l.getD j default)).set j (l.getD i default)
theorem qw (l : List α) (i j : Nat) : (swapL l i j).length = l.length := by simp [swapL]
theorem kg {l : List α} {i j : Nat} (hi : i < l.length) (hj : j < l.length) (x : Nat) : (swapL l i j).getD x default = if x = i then l.getD j default else if x = j then l.getD i default else l.getD x default := by
 simp only [swapL, List.getD_eq_getElem?_getD, List.getElem?_set, List.length_set]
 by_cases h1 : x = j
 ·subst h1
  by_cases h2 : x = i
  ·subst h2; simp [hj]
  ·simp [hj, h2]
 ·have h1' : ¬ j = x := fun h => h1 h.symm
  by_cases h2 : x = i
  ·subst h2; simp [h1', hi]
  ·have h2' : ¬ i = x := fun h => h2 h.symm
   simp [h1, h1', h2, h2']
theorem ji {l : List α} {i j : Nat} (hi : i < l.length) (hj : j < l.length) (x : Nat) : us (swapL l i j) x = if x = i then us l j else if x = j then us l i else us l x := by
 unfold us; rw [kg hi hj]; split
 ·rfl
 ·split <;> rfl
theorem qx {β : Type} : ∀ (l : List β) (i j : Nat) (hi : i < l.length) (hj : j < l.length), ((l.set i l[j]).set j l[i]).Perm l := by
 intro l i j hi hj
 have : ((l.set i l[j]).set j l[i]).Perm l := List.set_set_perm hi hj
 exact this
theorem kh {l : List α} {i j : Nat} (hi : i < l.length) (hj : j < l.length) : (swapL l i j).Perm l := by
 have := qx l i j hi hj
 simpa [swapL, List.getD, hi, hj] using this
def Heap (l : List α) (n : Nat) : Prop := ∀ c, c < n → 0 < c → us l ((c - 1) / 2) ≤ us l c
def gv (l : List α) (i n : Nat) : Prop := ∀ c, c < n → 0 < c → (c ≠ i → (c - 1) / 2 ≠ i → us l ((c - 1) / 2) ≤ us l c) ∧ ((c - 1) / 2 = i → 0 < i → us l ((i - 1) / 2) ≤ us l c)
def Up (l : List α) (j n : Nat) : Prop := ∀ c, c < n → 0 < c → (c ≠ j → us l ((c - 1) / 2) ≤ us l c) ∧ ((c - 1) / 2 = j → 0 < j → us l ((j - 1) / 2) ≤ us l c)
theorem qy {l : List α} {i j n : Nat} (h : gv l i n) (hn : n ≤ l.length) (hj : j < n) (hc : (j - 1) / 2 = i) (h0 : 0 < j) (hlt : us l j < us l i)
  (hmin : ∀ c, c < n → 0 < c → (c - 1) / 2 = i → us l j ≤ us l c) : gv (swapL l i j) j n ∧ us (swapL l i j) ((j - 1) / 2) ≤ us (swapL l i j) j := by
 have hij : i < j := by omega
 have sw := ji (l := l) (i := i) (j := j) (by omega) (by omega)
 refine ⟨fun c hcn hc0 => ⟨fun h1 h2 => ?_, fun h1 h2 => ?_⟩, ?_⟩
 ·rw [sw, sw]
  by_cases e1 : c = i
  ·subst e1
   have := (h j hj h0).2 hc (by omega)
   rw [if_neg (by omega), if_neg (by omega), if_pos rfl]; exact this
  ·by_cases e2 : (c - 1) / 2 = i
   ·rw [if_pos e2, if_neg e1, if_neg h1]; exact hmin c hcn hc0 e2
   ·rw [if_neg e2, if_neg h2, if_neg e1, if_neg h1]; exact (h c hcn hc0).1 e1 e2
 ·rw [hc, sw, sw, if_pos rfl, if_neg (by omega), if_neg (by omega)]
  rw [← h1]; exact (h c hcn hc0).1 (by omega) (by omega)
 ·rw [hc, sw, sw, if_pos rfl, if_neg (by omega), if_pos rfl]; omega
theorem mn {l : List α} {i n : Nat} (h : gv l i n) (hmin : ∀ c, c < n → 0 < c → (c - 1) / 2 = i → us l i ≤ us l c) (hp : 0 < i → us l ((i - 1) / 2) ≤ us l i) : Heap l n := fun c hc h0 => by
 by_cases e1 : (c - 1) / 2 = i
 ·rw [e1]; exact hmin c hc h0 e1
 ·by_cases e2 : c = i
  ·subst e2; exact hp h0
  ·exact (h c hc h0).1 e2 e1
theorem qz {l : List α} {j n : Nat} (h : Up l j n) (hn : n ≤ l.length) (hj : j < n) (h0 : 0 < j) (hlt : us l j < us l ((j - 1) / 2)) : Up (swapL l ((j - 1) / 2) j) ((j - 1) / 2) n := by
 have sw := ji (l := l) (i := (j - 1) / 2) (j := j) (by omega) (by omega)
 intro c hc hc0
 refine ⟨fun h1 => ?_, fun h1 h2 => ?_⟩
 ·rw [sw, sw]
  by_cases e1 : c = j
  ·subst e1; rw [if_pos rfl, if_neg (by omega), if_pos rfl]; omega
  ·by_cases e2 : (c - 1) / 2 = (j - 1) / 2
   ·rw [if_pos e2, if_neg (by omega), if_neg e1]
    have := (h c hc hc0).1 e1; rw [e2] at this; omega
   ·by_cases e3 : (c - 1) / 2 = j
    ·rw [if_neg e2, if_pos e3, if_neg h1, if_neg e1]; exact (h c hc hc0).2 e3 h0
    ·rw [if_neg e2, if_neg e3, if_neg h1, if_neg e1]; exact (h c hc hc0).1 e1
 ·rw [sw, sw, if_neg (by omega), if_neg (by omega)]
  have hp := (h ((j - 1) / 2) (by omega) h2).1 (by omega)
  by_cases e1 : c = j
  ·subst e1; rw [if_neg (by omega), if_pos rfl]; exact hp
  ·rw [if_neg (by omega), if_neg e1]
   have := (h c hc hc0).1 e1; rw [h1] at this; omega
theorem mo {l : List α} {j n : Nat} (h : Up l j n) (hp : 0 < j → us l ((j - 1) / 2) ≤ us l j) : Heap l n := fun c hc h0 => by
 by_cases e : c = j
 ·subst e; exact hp h0
 ·exact (h c hc h0).1 e
theorem qA {l : List α} {n : Nat} (h : Heap l n) : ∀ c, c < n → us l 0 ≤ us l c := by
 intro c
 induction c using Nat.strongRecOn with
 | _ c ih =>
  intro hc
  by_cases h0 : c = 0
  ·subst h0; omega
  ·have := h c hc (by omega)
   have := ih ((c - 1) / 2) (by omega) (by omega)
   omega
theorem mp {l l' : List α} {n : Nat} (h : ∀ i, i < n → l.getD i default = l'.getD i default) {i : Nat} (hi : i < n) : us l i = us l' i := by unfold us; rw [h i hi]
theorem qB {l l' : List α} {n : Nat} (h : ∀ i, i < n → l.getD i default = l'.getD i default) (k : Heap l n) : Heap l' n := fun c hc h0 => by
 rw [← mp h hc, ← mp h (i := (c - 1) / 2) (by omega)]; exact k c hc h0
structure Down (its l : List α) (i0 n : Nat) (moved : Bool) : Prop where
  perm : l.Perm its
  tail : ∀ x, n ≤ x → l.getD x default = its.getD x default
  no : moved = false → l = its ∧ ∀ c, c < n → 0 < c → (c - 1) / 2 = i0 → us its i0 ≤ us its c
  yes : moved = true → Heap l n
theorem mq {l its : List α} {i i0 n : Nat} (hp : l.Perm its) (hi : i0 ≤ i) (hH : gv l i n) (ht : ∀ x, n ≤ x → l.getD x default = its.getD x default) (h0 : i = i0 → l = its)
  (hg : i0 < i → us l ((i - 1) / 2) ≤ us l i) (hmin : ∀ c, c < n → 0 < c → (c - 1) / 2 = i → us l i ≤ us l c) : Down its l i0 n (decide (i0 < i)) :=
 ⟨hp, ht, fun h => by
  have : i = i0 := by simp at h; omega
  subst this
  obtain rfl := h0 rfl
  exact ⟨rfl, hmin⟩, fun h => by
  have : i0 < i := by simpa using h
  exact mn hH hmin fun _ => hg this⟩
theorem mr {l l0 : List α} {i j n : Nat} (hi : i < n) (hj : j < n) (hn : n ≤ l.length) (h : ∀ x, n ≤ x → l.getD x default = l0.getD x default) : ∀ x, n ≤ x → (swapL l i j).getD x default = l0.getD x default := fun x hx => by
 rw [kg (by omega) (by omega), if_neg (by omega), if_neg (by omega)]; exact h x hx
end Hp
instance Jk : Hk Nat := { ky := fun n => (n : Int) }
abbrev Po := List (Int × Bool)
def cC (po : Po) (f : Nat) : Int × Bool := po.getD f (-1, true)
def bB (po : Po) (w : Nat) : List Nat := (List.range po.length).filter fun f => cC po f == ((w : Int), false)
theorem jj {po : Po} {f : Nat} {x : Int × Bool} (hf : f < po.length) (g : Nat) : cC (po.set f x) g = if g = f then x else cC po g := by
 simp only [cC, List.getD_eq_getElem?_getD, List.getElem?_set]
 by_cases h : f = g
 ·subst h; simp [hf]
 ·simp [h, show ¬ g = f from fun e => h e.symm]
theorem gN {po : Po} {w f : Nat} : f ∈ bB po w ↔ f < po.length ∧ cC po f = ((w : Int), false) := by
 rw [bB, List.mem_filter, List.mem_range, beq_iff_eq]
theorem o8 (po : Po) (w : Nat) : (bB po w).Pairwise (· < ·) := List.pairwise_lt_range.filter _
theorem uE (po : Po) (w : Nat) : (bB po w).Nodup := (o8 po w).imp (fun h e => by omega)
theorem zK {po : Po} {w : Nat} {l : List Nat} (hn : l.Nodup) (h : ∀ f, f ∈ l ↔ f < po.length ∧ cC po f = ((w : Int), false)) : l.Perm (bB po w) :=
 (List.perm_ext_iff_of_nodup hn (uE po w)).2 fun f => by rw [h, gN]
theorem zL {po : Po} {f : Nat} {u : Int} (hf : f < po.length) (w : Nat) : bB (po.set f (u, true)) w = (bB po w).filter (· != f) := by
 simp only [bB, List.length_set, List.filter_filter]
 apply List.filter_congr
 intro g _
 rw [jj hf]
 by_cases h : g = f
 ·subst h; simp
 ·simp [h]
theorem zM {po : Po} {f : Nat} {w : Nat} (hf : f < po.length) (h : cC po f ≠ ((w : Int), false)) : (bB po w ++ [f]).Perm (bB (po.set f ((w : Int), false)) w) := by
 refine zK ?_ fun g => ?_
 ·rw [List.nodup_append]
  refine ⟨uE po w, by simp, fun a ha b hb e => ?_⟩
  rw [List.mem_singleton] at hb; subst hb; subst e
  exact h (gN.1 ha).2
 ·rw [List.mem_append, List.mem_singleton, gN, List.length_set, jj hf]
  by_cases e : g = f
  ·subst e; simp [hf]
  ·simp [e]
theorem qC {po : Po} {f : Nat} {x : Int × Bool} {w : Nat} (hf : f < po.length) (h1 : cC po f ≠ ((w : Int), false)) (h2 : x ≠ ((w : Int), false)) : bB (po.set f x) w = bB po w := by
 simp only [bB, List.length_set]
 apply List.filter_congr
 intro g _
 rw [jj hf]
 by_cases h : g = f
 ·subst h; rw [if_pos rfl, Bool.eq_iff_iff, beq_iff_eq, beq_iff_eq]; exact ⟨fun e => absurd e h2, fun e => absurd e h1⟩
 ·rw [if_neg h]
theorem qD {po : Po} {w x : Nat} {l : List Nat} (hp : (l ++ [x]).Perm (bB po w)) (hm : ∀ y ∈ bB po w, x ≤ y) : bB po w = x :: bB (po.set x ((w : Int), true)) w := by
 have hx : x ∈ bB po w := hp.mem_iff.1 (by simp)
 have hs := o8 po w
 rw [zL (gN.1 hx).1]
 generalize bB po w = m at hx hm hs
 cases m with
 | nil => cases hx
 | cons y t =>
  rw [List.pairwise_cons] at hs
  have : x = y := by
   rcases List.mem_cons.1 hx with e | e
   ·exact e
   ·have := hs.1 x e
    have := hm y (by simp)
    omega
  subst this
  congr 1
  rw [List.filter_cons, if_neg (by simp)]
  refine (List.filter_eq_self.2 fun z hz => ?_).symm
  have := hs.1 z hz
  simp; omega
theorem zN {po : Po} {w x : Nat} {l : List Nat} (hp : (l ++ [x]).Perm (bB po w)) (hm : ∀ y ∈ bB po w, x ≤ y) : l.Perm (bB (po.set x ((w : Int), true)) w) := by
 have h := qD hp hm
 rw [h] at hp
 exact ((List.perm_append_comm (l₁ := [x]) (l₂ := l)).trans hp).cons_inv
structure LsOk (po : Po) (Ls : List (List Nat)) : Prop where
  len : Ls.length = 16
  row : ∀ w, w < 16 → (Ls.getD w []).Perm (bB po w) ∧ Hp.Heap (Ls.getD w []) (Ls.getD w []).length
structure PoOk (po : Po) : Prop where
  len : po.length ≤ 32
  who : ∀ f, f < po.length → -1 ≤ (cC po f).1 ∧ (cC po f).1 < 16 ∧ ((cC po f).1 = -1 → (cC po f).2 = false)
theorem PoOk.set {po : Po} (h : PoOk po) {f : Nat} {x : Int × Bool} (hf : f < po.length) (h1 : 0 ≤ x.1) (h2 : x.1 < 16) : PoOk (po.set f x) := ⟨by rw [List.length_set]; exact h.len, fun g hg => by
 rw [List.length_set] at hg
 rw [jj hf]
 split
 ·exact ⟨by omega, h2, fun e => by omega⟩
 ·exact h.who g hg⟩
theorem zO {po : Po} (h : PoOk po) (w : Nat) : (bB po w).length ≤ 32 := by
 have := List.length_filter_le (fun f => cC po f == ((w : Int), false)) (List.range po.length)
 rw [List.length_range] at this
 have := h.len
 unfold bB; omega
theorem LsOk.rlen {po : Po} {Ls : List (List Nat)} (h : LsOk po Ls) (hp : PoOk po) {w : Nat} (hw : w < 16) : (Ls.getD w []).length ≤ 32 := by
 rw [(h.row w hw).1.length_eq]; exact zO hp w
theorem LsOk.set {po po' : Po} {Ls : List (List Nat)} (h : LsOk po Ls) {w : Nat} (hw : w < 16) {l : List Nat} (h1 : l.Perm (bB po' w)) (h2 : Hp.Heap l l.length) (h3 : ∀ u, u < 16 → u ≠ w → bB po' u = bB po u) : LsOk po' (Ls.set w l) := ⟨by rw [List.length_set]; exact h.len, fun u hu => by
 have e : (Ls.set w l).getD u [] = if u = w then l else Ls.getD u [] := by
  simp only [List.getD_eq_getElem?_getD, List.getElem?_set]
  by_cases k : w = u
  ·subst k; simp [h.len, hw]
  ·simp [k, show ¬ u = w from fun e => k e.symm]
 rw [e]
 split
 ·rename_i k; subst k; exact ⟨h1, h2⟩
 ·rename_i k; rw [h3 u hu k]; exact h.row u hu⟩
theorem LsOk.new (n : Nat) : LsOk (List.replicate n (-1, false)) (List.replicate 16 []) := ⟨by simp, fun w hw => by
 have e : bB (List.replicate n (-1, false)) w = [] := by
  rw [List.eq_nil_iff_forall_not_mem]
  intro f hf
  have := (gN.1 hf)
  rw [List.length_replicate] at this
  have h2 := this.2
  simp [cC, List.getD, this.1] at h2
 rw [e, show (List.replicate 16 ([] : List Nat)).getD w [] = [] by rw [List.getD_eq_getElem?_getD, List.getElem?_replicate]; split <;> rfl]
 exact ⟨List.Perm.refl _, fun c hc _ => absurd hc (Nat.not_lt_zero _)⟩⟩
theorem PoOk.new {n : Nat} (h : n ≤ 32) : PoOk (List.replicate n (-1, false)) := ⟨by simpa using h, fun f hf => by
 rw [List.length_replicate] at hf
 simp [cC, List.getD, hf]⟩
structure Im where
  fr : List bJ
  po : Po
  pg : List Pl
def eH (f : Nat) : List Nat → Nat → List bJ → List bJ
  | [], _, fr => fr
  | x :: t, k, fr => eH f t (k + 1) (eG fr f (4 * k : Nat) 4 x)
theorem qE (f x : Nat) : ∀ (l : List Nat) (k : Nat) (fr : List bJ), eH f (l ++ [x]) k fr = eG (eH f l k fr) f (4 * (k + l.length) : Nat) 4 x
 | [], k, fr => by simp [eH]
 | y :: t, k, fr => by
  rw [List.cons_append, eH, eH, qE f x t (k + 1)]
  congr 3; simp only [List.length_cons]; omega
theorem l8 {f : Nat} : ∀ {l : List Nat} {k : Nat} {fr : List bJ}, dJ fr → dJ (eH f l k fr) ∧ (eH f l k fr).length = fr.length
 | [], _, _, h => ⟨h, rfl⟩
 | x :: t, k, fr, h => by
  obtain ⟨h1, h2⟩ := l8 (f := f) (l := t) (k := k + 1) (uy (f := f) (off := (4 * k : Nat)) (w := 4) (v := x) h)
  exact ⟨h1, by rw [eH, h2, uz]⟩
def cz (words : List Nat) (i : Nat) : List Nat := (words.drop (16 * i)).take 16
def fI (who : Nat) (words : List Nat) (x : Im) (i : Nat) : Im :=
  match bB x.po who with
  | f :: _ => ⟨eH f (cz words i) 0 x.fr, x.po.set f ((who : Int), true), dY x.pg i ((f : Int), 3)⟩
  | [] => x
def cD (who : Nat) (words : List Nat) : Nat → Im → Im
  | 0, x => x
  | n + 1, x => fI who words (cD who words n x) n
structure ImOk (x : Im) : Prop where
  fr : dJ x.fr
  po : PoOk x.po
  pg : Pgs x.pg
  len : x.po.length = x.fr.length
theorem zP {who i : Nat} {words : List Nat} {x : Im} (h : ImOk x) (hw : who < 16) : ImOk (fI who words x i) := by
 unfold fI
 cases e : bB x.po who with
 | nil => exact h
 | cons f t =>
  have hf := gN.1 (show f ∈ bB x.po who by rw [e]; simp)
  obtain ⟨k1, k2⟩ := l8 (f := f) (l := cz words i) (k := 0) h.fr
  exact ⟨k1, h.po.set hf.1 (by simp) (by simp; omega), nZ h.pg, by rw [List.length_set, k2]; exact h.len⟩
theorem ki {who : Nat} {words : List Nat} (hw : who < 16) : ∀ {n : Nat} {x : Im}, ImOk x → ImOk (cD who words n x)
 | 0, _, h => h
 | n + 1, _, h => zP (ki hw h) hw
theorem zQ {who i : Nat} {words : List Nat} {x : Im} : (bB (fI who words x i).po who).length = (bB x.po who).length - 1 := by
 unfold fI
 cases e : bB x.po who with
 | nil => simp [e]
 | cons f t =>
  have hf := gN.1 (show f ∈ bB x.po who by rw [e]; simp)
  dsimp only
  have hm : ∀ y ∈ bB x.po who, f ≤ y := fun y hy => by
   have := o8 x.po who
   rw [e] at hy this
   rw [List.pairwise_cons] at this
   rcases List.mem_cons.1 hy with rfl | k
   ·exact Nat.le_refl _
   ·exact Nat.le_of_lt (this.1 y k)
  have := qD (l := t) (by rw [e]; exact List.perm_append_comm (l₁ := t) (l₂ := [f])) hm
  rw [e] at this
  have := (List.cons.inj this).2
  rw [← this, List.length_cons]; omega
theorem qF {who : Nat} {words : List Nat} {x : Im} : ∀ n : Nat, (bB (cD who words n x).po who).length = (bB x.po who).length - n
 | 0 => rfl
 | n + 1 => by rw [cD, zQ, qF n]; omega
theorem zR {who i v : Nat} {words : List Nat} {x : Im} (h : v ≠ who) : bB (fI who words x i).po v = bB x.po v := by
 unfold fI
 cases e : bB x.po who with
 | nil => rfl
 | cons f t =>
  have hf := gN.1 (show f ∈ bB x.po who by rw [e]; simp)
  dsimp only
  refine qC hf.1 ?_ ?_
  ·rw [hf.2]; intro q; have := (Prod.mk.inj q).1; omega
  ·intro q; have := (Prod.mk.inj q).2; cases this
theorem uF {who v : Nat} {words : List Nat} {x : Im} (h : v ≠ who) : ∀ n : Nat, bB (cD who words n x).po v = bB x.po v
 | 0 => rfl
 | n + 1 => by rw [cD, zR h, uF h n]
def kj (pg : List Pl) (n m : Nat) : Prop := ∀ i, n ≤ i → i < m → dV pg (i : Nat) = false
theorem qG {who : Nat} {words : List Nat} {x : Im} (h : kj x.pg 0 8) (hl : x.pg.length = 12) : ∀ n : Nat, n ≤ 8 → kj (cD who words n x).pg n 8 ∧ (cD who words n x).pg.length = 12
 | 0, _ => ⟨h, hl⟩
 | n + 1, hn => by
  obtain ⟨k1, k2⟩ := qG h hl n (by omega)
  rw [cD]
  generalize cD who words n x = y at k1 k2
  unfold fI
  cases e : bB y.po who with
  | nil => exact ⟨fun i h1 h2 => k1 i (by omega) h2, k2⟩
  | cons f t =>
   dsimp only
   refine ⟨fun i h1 h2 => ?_, ?_⟩
   ·have := k1 i (by omega) h2
    unfold dY
    split
    ·simp only [dV, fN, Int.toNat_natCast, List.getD_eq_getElem?_getD] at this ⊢
     rw [List.getElem?_set_ne (by omega)]; exact this
    ·exact this
   ·unfold dY; split
    ·rw [List.length_set]; exact k2
    ·exact k2
end
section
open Go.RowKit
section
variable {rd : Option Nat} {P : Program} {S : World → Prop} {W0 : World} {N : FSz} {Q : Exit → Act → World → Prop} {e : bq} {A B R R1 R2 R3 R4 R5 R6 : List HP} {ops : Array Oper} {rest : List Oper}
variable {op : Op} {ty t t' : TypeId} {pos : String} {af : Array Edge} {v u : Value} {d b off : Nat} {x y z : Operand} {l l' vs : List Value}
variable {K1 K2 K3 K4 K5 K6 X1 X2 X3 X4 X5 X6 : Type} {r1 : K1 → X1 → HP} {b1 : K1} {x1 : X1} {r2 : K2 → X2 → HP} {b2 : K2} {x2 : X2} {r3 : K3 → X3 → HP} {b3 : K3} {x3 : X3} {r4 : K4 → X4 → HP} {b4 : K4} {x4 : X4} {r5 : K5 → X5 → HP} {b5 : K5} {x5 : X5} {r6 : K6 → X6 → HP} {b6 : K6} {x6 : X6}
theorem uG [h1 : Tk r1 b1 A x1 R1] [h2 : Tk r2 b2 R1 x2 R2] [h3 : Tk r3 b3 R2 x3 R] : A.Perm (r1 b1 x1 :: r2 b2 x2 :: r3 b3 x3 :: R) := h1.perm.trans (z8.cons _)
theorem uH [h1 : Tk r1 b1 A x1 R1] [h2 : Tk r2 b2 R1 x2 R2] [h3 : Tk r3 b3 R2 x3 R3] [h4 : Tk r4 b4 R3 x4 R] : A.Perm (r1 b1 x1 :: r2 b2 x2 :: r3 b3 x3 :: r4 b4 x4 :: R) := h1.perm.trans (uG.cons _)
theorem uI [h1 : Tk r1 b1 A x1 R1] [h2 : Tk r2 b2 R1 x2 R2] [h3 : Tk r3 b3 R2 x3 R3] [h4 : Tk r4 b4 R3 x4 R4] [h5 : Tk r5 b5 R4 x5 R] : A.Perm (r1 b1 x1 :: r2 b2 x2 :: r3 b3 x3 :: r4 b4 x4 :: r5 b5 x5 :: R) := h1.perm.trans (uH.cons _)
theorem zS [h1 : Tk r1 b1 A x1 R1] [h2 : Tk r2 b2 R1 x2 R2] [h3 : Tk r3 b3 R2 x3 R3] [h4 : Tk r4 b4 R3 x4 R4] [h5 : Tk r5 b5 R4 x5 R5] [h6 : Tk r6 b6 R5 x6 R] : A.Perm (r1 b1 x1 :: r2 b2 x2 :: r3 b3 x3 :: r4 b4 x4 :: r5 b5 x5 :: r6 b6 x6 :: R) := h1.perm.trans (uI.cons _)
section
variable {f : FuncId} {xs : Array Operand} {ats : Array TypeId} {Post : Value → List HP → Prop}
theorem zT (hc : ∀ args w, (callFunc f args).run P w = .ok (.enter f args) w) (hx : ej e xs.toList = some vs)
  (hs : ao P W0 f vs (r1 b1 x1 :: r2 b2 x2 :: r3 b3 x3 :: r4 b4 x4 :: R) Post) [h1 : Tk r1 b1 A x1 R1] [h2 : Tk r2 b2 R1 x2 R2] [h3 : Tk r3 b3 R2 x3 R3] [h4 : Tk r4 b4 R3 x4 R] : cQ P W0 N e A (.call { callee := .value (.func f), args := xs, argTypes := ats }) Post :=
 jw uH (aF hc hx hs)
theorem qH (hc : ∀ args w, (callFunc f args).run P w = .ok (.enter f args) w) (hx : ej e xs.toList = some vs)
  (hs : ao P W0 f vs (r1 b1 x1 :: r2 b2 x2 :: r3 b3 x3 :: r4 b4 x4 :: r5 b5 x5 :: R) Post) [h1 : Tk r1 b1 A x1 R1] [h2 : Tk r2 b2 R1 x2 R2] [h3 : Tk r3 b3 R2 x3 R3] [h4 : Tk r4 b4 R3 x4 R4] [h5 : Tk r5 b5 R4 x5 R] : cQ P W0 N e A (.call { callee := .value (.func f), args := xs, argTypes := ats }) Post :=
 jw uI (aF hc hx hs)
theorem uJ (hc : ∀ args w, (callFunc f args).run P w = .ok (.enter f args) w) (hx : ej e xs.toList = some vs)
  (hs : ao P W0 f vs (r1 b1 x1 :: r2 b2 x2 :: r3 b3 x3 :: r4 b4 x4 :: r5 b5 x5 :: r6 b6 x6 :: R) Post) [h1 : Tk r1 b1 A x1 R1] [h2 : Tk r2 b2 R1 x2 R2] [h3 : Tk r3 b3 R2 x3 R3] [h4 : Tk r4 b4 R3 x4 R4] [h5 : Tk r5 b5 R4 x5 R5] [h6 : Tk r6 b6 R5 x6 R] : cQ P W0 N e A (.call { callee := .value (.func f), args := xs, argTypes := ats }) Post :=
 jw zS (aF hc hx hs)
variable {fx : Operand} {us cs : List Value}
end
def kH (_ : Nat) (x : HP) : HP := x
instance (priority := low) ent_app {R R' : List HP} : Ent (R ++ R') R := ⟨fun l hl => by
  obtain ⟨l1, l2, rfl, h1, h2⟩ := eU.append.1 hl
  exact ⟨l1, l2, h1, List.Perm.refl _⟩⟩
theorem l9 {C : List HP} {f : FuncId} {args : List Value} {Post : Value → List HP → Prop} (h : ao P W0 f args (C ++ R) Post) : ao P W0 f args (kH 0 (aX C) :: R) Post := fun w hO => h w (hO.ent hM)
theorem uK {C : List HP} [h : Ent A (C ++ R)] : Ent A (kH 0 (aX C) :: R) := h.trans fC
theorem zU {C : List HP} {K : Act → World → Prop} (h : aE W0 N K e (C ++ R)) : aE W0 N K e (aX C :: R) := fun a w hF hO => h a w hF (hO.ent hM)
theorem zV {L : Nat} {Post : Value → List HP → Prop} (hp : A.Perm B) (h : kV P W0 L vs B Post) : kV P W0 L vs A Post := fun w hO => h w (hO.perm hp)
theorem iX {f : FuncId} {args : List Value} {Post : Value → List HP → Prop} (he : Ent A B) (h : ao P W0 f args B Post) : ao P W0 f args A Post := fun w hO => h w (hO.ent he)
instance Jl [h : Ent A R] : Ent A (kH 0 (aX []) :: R) := uK (h := h)
instance Jm {K X : Type} {r : K → X → HP} {b : K} {x : X} {C : List HP} [h : Tk r b A x R1] [k : Ent R1 (kH 0 (aX C) :: R)] : Ent A (kH 0 (aX (r b x :: C)) :: R) :=
  (Ent.ofPerm h.perm).trans ((Ent.cons (k.trans hM)).trans (uK (C := r b x :: C) (h := ent_refl)))
instance Jn [h : Ent A R] : Ent A (aX [] :: R) := h.trans (fC (A := []))
instance Jo {K X : Type} {r : K → X → HP} {b : K} {x : X} {C : List HP} [h : Tk r b A x R1] [k : Ent R1 (aX C :: R)] : Ent A (aX (r b x :: C) :: R) :=
  (Ent.ofPerm h.perm).trans ((Ent.cons (k.trans hM)).trans (fC (A := r b x :: C)))
theorem il {o o' : Obj} {K : Act → World → Prop} [h : Tk pt b A o R] (he : o = o') (k : aE W0 N K e (pt b o' :: R)) : aE W0 N K e A := by
 subst he; exact dP (r := pt) (b := b) k
theorem zW {C : List HP} {K : Act → World → Prop} [h : Tk kH 0 A (aX C) R] (k : aE W0 N K e (C ++ R)) : aE W0 N K e A := dP (r := kH) (b := 0) (zU k)
theorem mt {E n sz : Nat} {ps : Array (Nat × Operand)} (hu : P.underlying t = some (.array n E)) (hs : ∀ w, (sizeOf E).run P w = .ok sz w) (hz : ∀ w, (zeroValue t).run P w = .ok (.agg l.toArray) w) (hp : ps = #[]) :
  bP P S N e (.build t ps) (.agg l.toArray) := fun a w _ _ _ _ _ hF _ => by
 subst hp
 have hb : Instr.build t ((#[] : Array (Nat × Operand)).map fun (i, x) => (i, a.eval x)) = (do
   let zero := (← zeroValue t).cells
   match ← underlying t with
   | .struct fields =>
    let places ← fields.mapM kR
    let some cells := Instr.fill (places[·]?) zero ((#[] : Array (Nat × Operand)).map fun (i, x) => (i, a.eval x)).toList | stuck "build: no such field, or a part of the wrong size"
    pure (.agg cells)
   | .array _ elem =>
    let size ← sizeOf elem
    let some cells := Instr.fill (fun i => some (i * size, size)) zero ((#[] : Array (Nat × Operand)).map fun (i, x) => (i, a.eval x)).toList | stuck "build: a part of the wrong size"
    pure (.agg cells)
   | _ => stuck "build: struct or array type expected") := rfl
 simp only [execOp, hb, Sem.run_bind, hz, dH hu, hs, Result.andThen_ok, Value.cells, Sem.run_pure]
 simp [Instr.fill]
def bT {α : Type} (S : World → Prop) (a : Option Addr) (sz : Nat) (f : α → List Value) (xs : List α) : Prop :=
  ∀ i x, xs[i]? = some x → ∃ b off, a = some ⟨b, off, none⟩ ∧ cp S b (off + i * sz) (f x)
variable {α : Type} {sz : Nat} {f : α → List Value} {xs : List α} {a : Option Addr}
theorem qI : bT S a sz f [] := fun i x h => by simp at h
theorem bT.weak (h : bT (bu W0 B) a sz f xs) [k : Ent A B] : bT (bu W0 A) a sz f xs := fun i x hi => by
 obtain ⟨b, off, rfl, hc⟩ := h i x hi
 exact ⟨b, off, rfl, hc.weak⟩
theorem bT.at_ (h : bT S a sz f xs) {i : Nat} (hi : i < xs.length) : ∃ b off, a = some ⟨b, off, none⟩ ∧ cp S b (off + i * sz) (f xs[i]) := h i xs[i] (by simp [hi])
theorem uL {E n c : Nat} {ys : List Value} {w : World} [h : Tk (osl E sz) (.slice a n c) A ys R] (hf : ∀ x, (f x).length = sz) (hz : 0 < sz) (hy : ys = xs.flatMap f) (hO : Own W0 w A) : bT (bu W0 A) a sz f xs := by
 rcases (hO.tk (r := osl E sz) (b := .slice a n c)).osl with ⟨k1, k2, _⟩ | ⟨g, n', cap, sp, k1, _, _, _, _, _⟩
 ·have : xs = [] := by
   have hl := cX hf xs
   rw [← hy, k2] at hl
   rcases Nat.eq_zero_or_pos xs.length with q | q
   ·exact List.eq_nil_of_length_eq_zero q
   ·have := Nat.mul_pos q hz
    simp at hl; omega
  subst this; exact qI
 ·cases k1
  intro i x hi
  have hlt : i < xs.length := by
   rcases Nat.lt_or_ge i xs.length with k | k
   ·exact k
   ·rw [List.getElem?_eq_none k] at hi; cases hi
  have hx : x = xs[i] := by rw [List.getElem?_eq_getElem hlt] at hi; exact (Option.some.inj hi).symm
  subst hx
  refine ⟨g, 0, rfl, fun j v hj w' hO' => ?_⟩
  rcases (Own.tk (r := osl E sz) (b := .slice (some ⟨g, 0, none⟩) n c) hO').osl with ⟨q1, _, _⟩ | ⟨g', n'', cap', sp', q1, _, _, _, _, q6⟩
  ·cases q1
  ·cases q1
   have hb := q6.has.2
   have hjl : j < sz := by
    rcases Nat.lt_or_ge j (f xs[i]).length with q | q
    ·rw [hf] at q; exact q
    ·rw [List.getElem?_eq_none q] at hj; cases hj
   have hg := jf hf xs i j sp' hlt hjl
   subst hy
   rw [hj] at hg
   simp only [World.cell?, hb, Option.isSome_none, Bool.false_eq_true, if_false, List.getElem?_toArray, Nat.zero_add]
   exact hg
theorem jA {l : List Value} [h : Tk pt b A (aj l ty) R] (hf : ∀ x, (f x).length = sz) (hl : l = xs.flatMap f) : bT (bu W0 A) (some ⟨b, 0, none⟩) sz f xs := fun i x hi => by
 have hlt : i < xs.length := by
  rcases Nat.lt_or_ge i xs.length with k | k
  ·exact k
  ·rw [List.getElem?_eq_none k] at hi; cases hi
 have hx : x = xs[i] := by rw [List.getElem?_eq_getElem hlt] at hi; exact (Option.some.inj hi).symm
 subst hx
 refine ⟨b, 0, rfl, fun j v hj => aH (l := l) (ty := ty) (R := R) ?_⟩
 have hjl : j < sz := by
  rcases Nat.lt_or_ge j (f xs[i]).length with q | q
  ·rw [hf] at q; exact q
  ·rw [List.getElem?_eq_none q] at hj; cases hj
 have hg := jf hf xs i j [] hlt hjl
 rw [List.append_nil, hj] at hg
 subst hl
 rw [Nat.zero_add]; exact hg
theorem zX {E n c : Nat} {ys : List Value} {K : Act → World → Prop} [h : Tk (osl E sz) (.slice a n c) A ys R] (f : α → List Value) (xs : List α) (hf : ∀ x, (f x).length = sz) (hz : 0 < sz) (hy : ys = xs.flatMap f) (k : bT (bu W0 A) a sz f xs → aE W0 N K e A) : aE W0 N K e A :=
 fun a w hF hO => k (uL (h := h) hf hz hy hO) a w hF hO
def qJ : Option Addr → Nat
  | some ad => ad.block
  | none => 0
def qK (a : Option Addr) (ys : List Value) : Prop := (a = none ∧ ys = []) ∨ ∃ g, a = some ⟨g, 0, none⟩
theorem qL {E n c : Nat} {ys : List Value} {K : Act → World → Prop} [h : Tk (osl E sz) (.slice a n c) A ys R] (k : qK a ys → aE W0 N K e A) : aE W0 N K e A := fun act w hF hO => by
 refine k ?_ act w hF hO
 rcases (hO.tk (r := osl E sz) (b := .slice a n c)).osl with ⟨k1, k2, _⟩ | ⟨g, n', cap, sp, k1, _, _, _, _, _⟩
 ·cases k1; exact .inl ⟨rfl, k2⟩
 ·cases k1; exact .inr ⟨g, rfl⟩
theorem uM {E n c : Nat} {ys : List Value} [h : Tk (osl E sz) (.slice a n c) A ys R] : cp (bu W0 A) (qJ a) 0 ys := fun i v hi w hO => by
 rcases (Own.tk (r := osl E sz) (b := .slice a n c) hO).osl with ⟨k1, k2, _⟩ | ⟨g, n', cap, sp, k1, _, _, _, _, q⟩
 ·rw [k2] at hi; simp at hi
 ·cases k1
  have hb := q.has.2
  have hlt : i < ys.length := by
   rcases Nat.lt_or_ge i ys.length with k | k
   ·exact k
   ·rw [List.getElem?_eq_none k] at hi; cases hi
  simp only [qJ, World.cell?, hb, Option.isSome_none, Bool.false_eq_true, if_false, List.getElem?_toArray, Nat.zero_add]
  rw [List.getElem?_append_left hlt]; exact hi
theorem zY {ys : List Value} (hf : qK a ys) (hc : cp S (qJ a) 0 ys) (hl : ∀ x, (f x).length = sz) (hy : ys = xs.flatMap f) (hz : 0 < sz) : bT S a sz f xs := fun i x hi => by
 have hlt : i < xs.length := by
  rcases Nat.lt_or_ge i xs.length with k | k
  ·exact k
  ·rw [List.getElem?_eq_none k] at hi; cases hi
 have hx : x = xs[i] := by rw [List.getElem?_eq_getElem hlt] at hi; exact (Option.some.inj hi).symm
 subst hx
 rcases hf with ⟨_, h0⟩ | ⟨g, rfl⟩
 ·have := cX hl xs
  rw [← hy, h0] at this
  have h2 := Nat.mul_pos (show 0 < xs.length by omega) hz
  simp at this; omega
 ·refine ⟨g, 0, rfl, fun j v hj => ?_⟩
  have hjl : j < sz := by
   rcases Nat.lt_or_ge j (f xs[i]).length with q | q
   ·rw [hl] at q; exact q
   ·rw [List.getElem?_eq_none q] at hj; cases hj
  have hg := jf hl xs i j [] hlt hjl
  rw [List.append_nil, hj, ← hy] at hg
  have := hc _ v hg
  rw [Nat.zero_add] at this ⊢
  exact this
theorem bT.all (h : bT S a sz f xs) (hne : xs ≠ []) (hf : ∀ x, (f x).length = sz) : ∃ b off, a = some ⟨b, off, none⟩ ∧ cp S b off (xs.flatMap f) := by
 obtain ⟨b, off, rfl, h0⟩ := h.at_ (i := 0) (List.length_pos_iff.2 hne)
 refine ⟨b, off, rfl, fun j v hj => ?_⟩
 have hl := cX hf xs
 have hjl : j < xs.length * sz := by
  rcases Nat.lt_or_ge j (xs.flatMap f).length with q | q
  ·omega
  ·rw [List.getElem?_eq_none q] at hj; cases hj
 have hz : 0 < sz := by
  rcases Nat.eq_zero_or_pos sz with q | q
  ·subst q; simp at hjl
  ·exact q
 have hi : j / sz < xs.length := (Nat.div_lt_iff_lt_mul hz).2 hjl
 obtain ⟨b', off', he, hc⟩ := h.at_ hi
 cases he
 have hm : j / sz * sz + j % sz = j := by rw [Nat.mul_comm]; exact Nat.div_add_mod j sz
 have hg := jf hf xs (j / sz) (j % sz) [] hi (Nat.mod_lt _ hz)
 rw [List.append_nil, hm, hj] at hg
 have := hc (j % sz) v hg.symm
 rwa [Nat.add_assoc, hm] at this
end
def ee (x : Int) : List Value := [.int .i64 x]
def jB (T E : TypeId) (sz : Nat) {α : Type} (f : α → List Value) (o b : Nat) (x : List α × List Value) : HP := chk (fun C => o < x.2.length ∧ ∃ a c, C = [pt b (aj (x.2.set o (.slice a x.1.length c)) T), osl E sz (.slice a x.1.length c) (x.1.flatMap f)])
theorem im {l : List Value} {o : Nat} {v : Value} (h : o < l.length) : (l.set o v)[o]? = some v := by simp [h]
theorem set_set {l : List Value} {o : Nat} {v u : Value} : (l.set o v).set o u = l.set o u := List.set_set ..
section
variable {P : Program} {W0 : World} {N : FSz} {K : Act → World → Prop} {e : bq} {R A B R1 R2 : List HP} {T E : TypeId} {sz o b n : Nat} {α : Type} {f : α → List Value} {its : List α} {cs cs' : List Value} {fn : FuncId} {args : List Value} {Post : Value → List HP → Prop}
theorem qM (h : ∀ a c, o < cs.length → ao P W0 fn args (pt b (aj (cs.set o (.slice a its.length c)) T) :: osl E sz (.slice a its.length c) (its.flatMap f) :: R) Post) : ao P W0 fn args (jB T E sz f o b (its, cs) :: R) Post :=
 md fun C hC => by obtain ⟨ho, a, c, rfl⟩ := hC; exact h a c ho
theorem qN {a : Option Addr} {c : Nat} {xs : List Value} [h1 : Tk pt b A (aj cs' T) R1] [h2 : Tk (osl E sz) (.slice a n c) R1 xs R2] (hx : xs = its.flatMap f) (hc : cs' = cs.set o (.slice a n c)) (ho : o < cs.length) (hn : n = its.length) [k : Ent R2 B] : Ent A (jB T E sz f o b (its, cs) :: B) := by
 subst hn; subst hc; subst hx
 exact (Ent.ofPerm (h1.perm.trans (h2.perm.cons _))).trans ((Ent.cons (Ent.cons k)).trans (eF (R := B) (C := [_, _]) ⟨ho, a, c, rfl⟩))
theorem qP (hf : ∀ x, (f x).length = sz) (h0 : its ≠ []) (hz : 0 < sz) (h : ∀ g c sp, o < cs.length → its.length ≤ c → c ≤ maxLen → (its.flatMap f ++ sp).length = c * sz → ao P W0 fn args (pt b (aj (cs.set o (.slice (some ⟨g, 0, none⟩) its.length c)) T) :: pt g (aj (its.flatMap f ++ sp) E) :: R) Post) : ao P W0 fn args (jB T E sz f o b (its, cs) :: R) Post :=
 qM fun a c ho => me (List.Perm.swap _ _ _) (ub (fun h1 h2 => by
   have := cX hf its
   rw [h2] at this
   have h3 : its.length = 0 := by
    rcases Nat.mul_eq_zero.1 this.symm with k | k
    ·exact k
    ·omega
   exact absurd (List.eq_nil_of_length_eq_zero h3) h0)
  (fun g n cap sp h1 h2 h3 h4 h5 => by
   cases h1
   exact me (List.Perm.swap _ _ _) (h g _ sp ho h2 h3 h5)))
theorem o9 {g c : Nat} {xs sp : List Value} [h1 : Tk pt b A (aj cs' T) R1] [h2 : Tk pt g R1 (aj (xs ++ sp) E) R2] (hf : ∀ x, (f x).length = sz) (hx : xs = its.flatMap f) (hcs : cs' = cs.set o (.slice (some ⟨g, 0, none⟩) n c)) (ho : o < cs.length) (hn : n = its.length) (hc : n ≤ c) (hm : c ≤ maxLen) (hl : (xs ++ sp).length = c * sz) [k : Ent R2 B] : Ent A (jB T E sz f o b (its, cs) :: B) := by
 subst hn; subst hx; subst hcs
 have e : Ent R1 (osl E sz (.slice (some ⟨g, 0, none⟩) its.length c) (its.flatMap f) :: B) := eP hc hm (cX hf its) hl
 exact (Ent.ofPerm h1.perm).trans ((Ent.cons e).trans (eF (R := B) (C := [_, _]) ⟨ho, _, c, rfl⟩))
theorem uN [hk : Tk (jB T E sz f o) b A (its, cs) R] {i : Nat} {v : Value} (hi : i ≠ o) (h : cs[i]? = some v) : ik (bu W0 A) b i v := fun w (hO : Own W0 w A) => by
 obtain ⟨C, ⟨ho, a, c, rfl⟩, hO'⟩ := (hO.tk (r := jB T E sz f o) (b := b)).chk
 have h1 : Own W0 w (pt b (aj (cs.set o (.slice a its.length c)) T) :: (osl E sz (.slice a its.length c) (its.flatMap f) :: R)) := hO'
 have h2 : ik (bu W0 (pt b (aj (cs.set o (.slice a its.length c)) T) :: (osl E sz (.slice a its.length c) (its.flatMap f) :: R))) b i v := aH (by rw [List.getElem?_set_ne (by omega)]; exact h)
 exact h2 w h1
theorem uO [hk : Tk (jB T E sz f o) b A (its, cs) R] {i : Nat} {v : Value} (hi : i ≠ o) (h : cs[i]? = some v) : cp (bu W0 A) b i [v] := fun j u hj => by
 match j, hj with
 | 0, hj => rw [← Option.some.inj hj]; exact uN (o := o) (f := f) (T := T) (E := E) (sz := sz) hi h
 | j + 1, hj => cases hj
end
theorem zZ {α : Type} (f : α → Value) (l : List α) : (l.flatMap fun x => [f x]) = l.map f := by
 induction l with
 | nil => rfl
 | cons x l ih => rw [List.flatMap_cons, ih]; rfl
theorem A0 {α : Type} {f : α → List Value} {k : Nat} (hf : ∀ x, (f x).length = k) (its : List α) (sp : List Value) (i : Nat) (hi : i < its.length) : i * k + k ≤ (its.flatMap f ++ sp).length := by
 have := Nat.mul_le_mul_right k (show i + 1 ≤ its.length by omega)
 rw [Nat.succ_mul] at this
 rw [List.length_append, cX hf]; omega
structure HpO (W0 : World) (α : Type) [Hk α] where
  T : TypeId
  p : Value
  el : α → Value
  H : List α → HP
  fL : FuncId
  fE : FuncId
  fS : FuncId
  fU : FuncId
  fO : FuncId
  mL : ∀ w, (method (Tryz.prog.types.size + Made.depth) T p "Len").run Tryz.prog w = .ok (fL, p) w
  mE : ∀ w, (method (Tryz.prog.types.size + Made.depth) T p "Less").run Tryz.prog w = .ok (fE, p) w
  mS : ∀ w, (method (Tryz.prog.types.size + Made.depth) T p "Swap").run Tryz.prog w = .ok (fS, p) w
  mU : ∀ w, (method (Tryz.prog.types.size + Made.depth) T p "Push").run Tryz.prog w = .ok (fU, p) w
  mO : ∀ w, (method (Tryz.prog.types.size + Made.depth) T p "Pop").run Tryz.prog w = .ok (fO, p) w
  cL : ∀ args w, (callFunc fL args).run Tryz.prog w = .ok (.enter fL args) w
  cE : ∀ args w, (callFunc fE args).run Tryz.prog w = .ok (.enter fE args) w
  cS : ∀ args w, (callFunc fS args).run Tryz.prog w = .ok (.enter fS args) w
  cU : ∀ args w, (callFunc fU args).run Tryz.prog w = .ok (.enter fU args) w
  cO : ∀ args w, (callFunc fO args).run Tryz.prog w = .ok (.enter fO args) w
  sL : ∀ R l, ao Tryz.prog W0 fL [p] (kH 0 (H l) :: R) (fun v B => v = .int .i64 (l.length : Nat) ∧ B = kH 0 (H l) :: R)
  sE : ∀ R l (i j : Nat), i < l.length → j < l.length → ao Tryz.prog W0 fE [p, .int .i64 i, .int .i64 j] (kH 0 (H l) :: R) (fun v B => v = .bool (decide (Hp.us l i < Hp.us l j)) ∧ B = kH 0 (H l) :: R)
  sS : ∀ R l (i j : Nat), i < l.length → j < l.length → ao Tryz.prog W0 fS [p, .int .i64 i, .int .i64 j] (kH 0 (H l) :: R) (fun v B => v = .tuple #[] ∧ B = kH 0 (H (Hp.swapL l i j)) :: R)
  sU : ∀ R l x, l.length < 1000 → ao Tryz.prog W0 fU [p, el x] (kH 0 (H l) :: R) (fun v B => v = .tuple #[] ∧ B = kH 0 (H (l ++ [x])) :: R)
  sO : ∀ R l x, ao Tryz.prog W0 fO [p] (kH 0 (H (l ++ [x])) :: R) (fun v B => v = el x ∧ B = kH 0 (H l) :: R)
namespace Hp
variable {W0 : World} {α : Type} [Hk α] (o : HpO W0 α)
def iv : Value := .iface o.T o.p
theorem qQ {j : Nat} (h : j < 1000) : IntKind.wrap .i64 (Int.tdiv ((j : Int) - 1) 2) = (((j - 1) / 2 : Nat) : Int) := by
 by_cases h0 : j = 0
 ·subst h0; decide
 ·obtain ⟨k, rfl⟩ : ∃ k, j = k + 1 := ⟨j - 1, by omega⟩
  have e : ((k + 1 : Nat) : Int) - 1 = (k : Int) := by omega
  rw [e, Int.tdiv_eq_ediv_of_nonneg (by omega), aK (by omega)]; simp
theorem qR (R : List HP) (its : List α) (j n : Nat) (hn : n ≤ its.length) (hN : n < 1000) (hj : j < n) (hU : Up its j n) :
  ao Tryz.prog W0 269 [iv o, .int .i64 j] (kH 0 (o.H its) :: R) (fun v B => v = .tuple #[] ∧ ∃ its', B = kH 0 (o.H its') :: R ∧ its'.Perm its ∧ Heap its' n ∧ ∀ x, n ≤ x → its'.getD x default = its.getD x default) := by
 refine aD xT Tryz.ntmps269 rfl rfl ?_
 refine dt ?_
 refine ce (fun X : List α × Nat => X.1.Perm its ∧ X.2 < n ∧ Up X.1 X.2 n ∧ ∀ x, n ≤ x → X.1.getD x default = its.getD x default) (fun X => [(0, iv o), (1, .int .i64 X.2)]) (fun X => kH 0 (o.H X.1) :: R) (fun X => X.2) (its, j) ?_ ?_ ?_ ?_
 ·exact ⟨List.Perm.refl _, hj, hU, fun _ _ => rfl⟩
 ·repeat (first | exact aJ | refine aG rfl ?_)
 ·exact inferInstance
 ·intro ⟨l, j⟩ ⟨hp, hj, hU, ht⟩
  have hlen := hp.length_eq
  simp only at hj hU ht hp hlen ⊢
  refine au 4 ?_
  refine aa rfl (dG rfl rfl (by first | exact aK (by omega) | rfl)) ?_
  refine aa rfl (pT rfl rfl (by decide) (qQ (by omega))) ?_
  refine au 10 ?_
  refine aZ rfl rfl rfl ?_ ?_
  ·intro g1_4
   refine au 13 ?_
   refine ah (.inr rfl) .nil ?_
   exact ⟨_, ⟨rfl, l, rfl, hp, mo hU (by intro _; first | omega | (simp at c1; omega)), ht⟩, inferInstance⟩
  ·intro g1_4
   refine au 6 ?_
   refine ae rfl (eX rfl o.mE o.cE rfl (o.sE _ l j ((j - 1) / 2) (by omega) (by omega))) ?_
   rintro _ B_ ⟨rfl, hB_⟩
   obtain rfl := hB_.symm
   refine au 5 ?_
   refine ai rfl ?_ ?_
   ·intro c1
    refine au 5 ?_
    refine ah (.inr rfl) .nil ?_
    exact ⟨_, ⟨rfl, l, rfl, hp, mo hU (by intro _; first | omega | (simp at c1; omega)), ht⟩, inferInstance⟩
   ·intro c1
    replace c1 : us l j < us l ((j - 1) / 2) := by simpa using c1
    refine au 7 ?_
    refine ae rfl (eX rfl o.mS o.cS rfl (o.sS _ l ((j - 1) / 2) j (by omega) (by omega))) ?_
    rintro _ B_ ⟨rfl, hB_⟩
    obtain rfl := hB_.symm
    refine au 8 ?_
    refine bU (swapL l ((j - 1) / 2) j, (j - 1) / 2) ?_ ?_ ?_ ?_
    ·exact ⟨(kh (by omega) (by omega)).trans hp, by show (j - 1) / 2 < n; omega, qz hU (by omega) hj (by omega) c1, mr (by omega) hj (by omega) ht⟩
    ·show (j - 1) / 2 < j; omega
    ·repeat (first | exact aJ | refine aG rfl ?_)
    ·exact inferInstance
theorem qS (R : List HP) (its : List α) (i0 n : Nat) (hn : n ≤ its.length) (hN : n < 1000) (hi : i0 ≤ n) (hH : gv its i0 n) :
  ao Tryz.prog W0 340 [iv o, .int .i64 i0, .int .i64 n] (kH 0 (o.H its) :: R) (fun v B => ∃ l m, v = .bool m ∧ B = kH 0 (o.H l) :: R ∧ Down its l i0 n m) := by
 refine aD Tryz.func340 Tryz.ntmps340 rfl rfl ?_
 refine au 13 ?_
 refine ce (fun X : List α × Nat => X.1.Perm its ∧ i0 ≤ X.2 ∧ gv X.1 X.2 n ∧ (∀ x, n ≤ x → X.1.getD x default = its.getD x default) ∧ (X.2 = i0 → X.1 = its) ∧ (i0 < X.2 → us X.1 ((X.2 - 1) / 2) ≤ us X.1 X.2) ∧ X.2 ≤ n) (fun X => [(0, iv o), (1, .int .i64 i0), (2, .int .i64 n), (7, .int .i64 X.2)]) (fun X => kH 0 (o.H X.1) :: R) (fun X => n - X.2) (its, i0) ?_ ?_ ?_ ?_
 ·exact ⟨List.Perm.refl _, Nat.le_refl _, hH, fun _ _ => rfl, fun _ => rfl, fun h => absurd h (Nat.lt_irrefl _), hi⟩
 ·repeat (first | exact aJ | refine aG rfl ?_)
 ·exact inferInstance
 ·intro ⟨l, i⟩ ⟨hp, hi0, hl, ht, he, hg, hin⟩
  have hlen := hp.length_eq
  simp only at hp hi0 hl ht he hg hin hlen ⊢
  refine au 4 ?_
  refine aa rfl (i4 rfl rfl (by first | exact aK (by omega) | rfl)) ?_
  refine aa rfl (bj rfl rfl (by rw [aK (by omega)]; omega : IntKind.wrap .i64 (2 * (i : Int) + 1) = ((2 * i + 1 : Nat) : Int))) ?_
  refine au 10 ?_
  refine aZ rfl rfl rfl ?_ ?_
  ·intro g3_4
   refine au 20 ?_
   refine ah (.inl rfl) (.cons (ac rfl) .nil) ?_
   refine ⟨_, ⟨l, decide (i0 < i), by simp [bW], rfl, mq hp hi0 hl ht he hg ?_⟩, inferInstance⟩
   first | (intro c hc h0 h1; exfalso; omega) | (intro c hc h0 h1; have := hmin c hc h0 h1; simp at c8; omega)
  ·intro g3_4
   refine au 6 ?_
   refine ai rfl ?_ ?_
   ·intro c3
    omega
   ·intro c3
    refine au 8 ?_
    refine gn (fun j : Nat => (j - 1) / 2 = i ∧ 0 < j ∧ j < n ∧ ∀ c, c < n → 0 < c → (c - 1) / 2 = i → us l j ≤ us l c) (fun j => [(0, iv o), (1, .int .i64 i0), (2, .int .i64 n), (7, .int .i64 i), (9, .int .i64 j)]) (fun j => kH 0 (o.H l) :: R) ?_ ?_
    ·skip
     refine au 3 ?_
     refine aa rfl (bj rfl rfl (by rw [aK (by omega)]; omega : IntKind.wrap .i64 (((2 * i + 1 : Nat) : Int) + 1) = ((2 * i + 2 : Nat) : Int))) ?_
     refine au 9 ?_
     refine bX rfl rfl rfl ?_ ?_
     ·intro g6_4
      refine au 6 ?_
      refine ae rfl (eX rfl o.mE o.cE rfl (o.sE _ l (2 * i + 2) (2 * i + 1) (by omega) (by omega))) ?_
      rintro _ B_ ⟨rfl, hB_⟩
      obtain rfl := hB_.symm
      refine au 3 ?_
      refine ai rfl ?_ ?_
      ·intro c6
       refine au 5 ?_
       refine d8 (2 * i + 2) ?_ ?_ ?_
       ·refine ⟨by omega, by omega, by omega, fun c hc h0 h1 => ?_⟩
        have : c = 2 * i + 1 ∨ c = 2 * i + 2 := by omega
        rcases this with rfl | rfl <;> (first | omega | (simp at c6; omega) | (simp at c3; omega))
       ·repeat (first | exact aJ | refine aG rfl ?_)
       ·exact inferInstance
      ·intro c6
       refine au 2 ?_
       refine d8 (2 * i + 1) ?_ ?_ ?_
       ·refine ⟨by omega, by omega, by omega, fun c hc h0 h1 => ?_⟩
        have : c = 2 * i + 1 ∨ c = 2 * i + 2 := by omega
        rcases this with rfl | rfl <;> (first | omega | (simp at c6; omega) | (simp at c3; omega))
       ·repeat (first | exact aJ | refine aG rfl ?_)
       ·exact inferInstance
     ·intro g6_4
      refine au 9 ?_
      refine d8 (2 * i + 1) ?_ ?_ ?_
      ·refine ⟨by omega, by omega, by omega, fun c hc h0 h1 => ?_⟩
       have : c = 2 * i + 1 ∨ c = 2 * i + 2 := by omega
       rcases this with rfl | rfl <;> (first | omega | (simp at c6; omega) | (simp at c3; omega))
      ·repeat (first | exact aJ | refine aG rfl ?_)
      ·exact inferInstance
    ·intro j ⟨hj, hj0, hjn, hmin⟩
     refine au 6 ?_
     refine ae rfl (eX rfl o.mE o.cE rfl (o.sE _ l j i (by omega) (by omega))) ?_
     rintro _ B_ ⟨rfl, hB_⟩
     obtain rfl := hB_.symm
     refine au 3 ?_
     refine ai rfl ?_ ?_
     ·intro c8
      refine au 15 ?_
      refine ah (.inl rfl) (.cons (ac rfl) .nil) ?_
      refine ⟨_, ⟨l, decide (i0 < i), by simp [bW], rfl, mq hp hi0 hl ht he hg ?_⟩, inferInstance⟩
      first | (intro c hc h0 h1; exfalso; omega) | (intro c hc h0 h1; have := hmin c hc h0 h1; simp at c8; omega)
     ·intro c8
      replace c8 : us l j < us l i := by simpa using c8
      refine au 7 ?_
      refine ae rfl (eX rfl o.mS o.cS rfl (o.sS _ l i j (by omega) (by omega))) ?_
      rintro _ B_ ⟨rfl, hB_⟩
      obtain rfl := hB_.symm
      refine au 8 ?_
      refine bU (swapL l i j, j) ?_ ?_ ?_ ?_
      ·have hs := qy hl (by omega) hjn hj hj0 c8 hmin
       exact ⟨(kh (by omega) (by omega)).trans hp, by show i0 ≤ j; omega, hs.1, mr (by omega) hjn (by omega) ht, by show j = i0 → _; omega, fun _ => hs.2, by show j ≤ n; omega⟩
      ·show n - j < n - i; omega
      ·repeat (first | exact aJ | refine aG rfl ?_)
      ·exact inferInstance
theorem qT {its : List α} {x : α} (h : Heap its its.length) : Up (its ++ [x]) its.length (its.length + 1) := by
 have e : ∀ c, c < its.length → us (its ++ [x]) c = us its c := fun c hc => by
  unfold us; simp only [List.getD_eq_getElem?_getD]; rw [List.getElem?_append_left hc]
 intro c hc h0
 refine ⟨fun h1 => ?_, fun h1 h2 => by omega⟩
 rw [e c (by omega), e _ (by omega)]; exact h c (by omega) h0
theorem heapPush_spec (R : List HP) (its : List α) (x : α) (hN : its.length < 900) (hh : Heap its its.length) :
  ao Tryz.prog W0 152 [iv o, o.el x] (kH 0 (o.H its) :: R) (fun v B => v = .tuple #[] ∧ ∃ its', B = kH 0 (o.H its') :: R ∧ its'.Perm (its ++ [x]) ∧ Heap its' its'.length) := by
 have hl : (its ++ [x]).length = its.length + 1 := by simp
 refine aD xU Tryz.ntmps152 rfl rfl ?_
 refine au 4 ?_
 refine ae rfl (eX rfl o.mU o.cU rfl (o.sU _ its x (by omega))) ?_
 rintro _ B_ ⟨rfl, hB_⟩
 obtain rfl := hB_.symm
 refine au 5 ?_
 refine ae rfl (eX rfl o.mL o.cL rfl (o.sL _ (its ++ [x]))) ?_
 rintro _ B_ ⟨rfl, hB_⟩
 obtain rfl := hB_.symm
 refine aa rfl (dG rfl rfl (by rw [aK (by omega)]; omega : IntKind.wrap .i64 (((its ++ [x]).length : Nat) - 1 : Int) = ((its.length : Nat) : Int))) ?_
 refine ae rfl (aM xV rfl (qR o _ (its ++ [x]) its.length (its.length + 1) (by omega) (by omega) (by omega) (qT hh))) ?_
 rintro _ _ ⟨rfl, l', rfl, hp, hh', _⟩
 refine aw (ah (.inr rfl) .nil ?_)
 exact ⟨_, ⟨rfl, l', rfl, hp, by rw [hp.length_eq, hl]; exact hh'⟩, inferInstance⟩
theorem qU {l : List α} {n : Nat} (h : l.length = n + 1) : ∃ l' x, l = l' ++ [x] ∧ l'.length = n ∧ x = l.getD n default := by
 have hne : l ≠ [] := fun e => by rw [e] at h; simp at h
 refine ⟨l.dropLast, l.getLast hne, (List.dropLast_concat_getLast hne).symm, by simp [h], ?_⟩
 rw [List.getLast_eq_getElem]
 simp [List.getD, h]
theorem qV {l : List α} {x : α} {n : Nat} (h : Heap (l ++ [x]) n) (hn : n ≤ l.length) : Heap l n :=
 qB (fun i hi => by simp only [List.getD_eq_getElem?_getD]; rw [List.getElem?_append_left (by omega)]) h
theorem heapPop_spec (R : List HP) (its : List α) (hN : its.length < 900) (h0 : its ≠ []) (hh : Heap its its.length) :
  ao Tryz.prog W0 282 [iv o] (kH 0 (o.H its) :: R) (fun v B => ∃ x its', v = o.el x ∧ B = kH 0 (o.H its') :: R ∧ (its' ++ [x]).Perm its ∧ Heap its' its'.length ∧ ∀ y ∈ its, Hk.ky x ≤ Hk.ky y) := by
 obtain ⟨n, hn⟩ : ∃ n, its.length = n + 1 := ⟨its.length - 1, by have := List.length_pos_iff.2 h0; omega⟩
 have hs : gv (swapL its 0 n) 0 n := fun c hc h0 => ⟨fun h1 h2 => by
  rw [ji (by omega) (by omega), ji (by omega) (by omega), if_neg h2, if_neg h1, if_neg (by omega), if_neg (by omega)]
  exact hh c (by omega) h0, fun _ h => by omega⟩
 have hsl := qw its 0 n
 refine aD Tryz.func282 Tryz.ntmps282 rfl rfl ?_
 refine au 8 ?_
 refine ae rfl (eX rfl o.mL o.cL rfl (o.sL _ its)) ?_
 rintro _ B_ ⟨rfl, hB_⟩
 obtain rfl := hB_.symm
 refine aa rfl (dG rfl rfl (by rw [aK (by omega)]; omega : IntKind.wrap .i64 ((its.length : Nat) - 1 : Int) = ((n : Nat) : Int))) ?_
 refine au 7 ?_
 refine ae rfl (eX rfl o.mS o.cS rfl (o.sS _ its 0 n (by omega) (by omega))) ?_
 rintro _ B_ ⟨rfl, hB_⟩
 obtain rfl := hB_.symm
 refine au 6 ?_
 refine ae rfl (aM Tryz.call340 rfl (qS o _ (swapL its 0 n) 0 n (by omega) (by omega) (by omega) hs)) ?_
 rintro _ _ ⟨l, m, rfl, rfl, hD⟩
 have hll := hD.perm.length_eq
 obtain ⟨l', x, rfl, hl', hx⟩ := qU (l := l) (n := n) (by omega)
 have hx0 : x = its.getD 0 default := by
  rw [hx, hD.tail n (Nat.le_refl _), kg (by omega) (by omega)]; split
  ·rename_i e; subst e; rfl
  ·rw [if_pos rfl]
 have hp : (l' ++ [x]).Perm its := hD.perm.trans (kh (by omega) (by omega))
 have hH : Heap (l' ++ [x]) n := by
  cases m with
  | true => exact hD.yes rfl
  | false =>
   obtain ⟨e, hmin⟩ := hD.no rfl
   rw [e]; exact mn hs hmin (fun h => absurd h (by omega))
 refine au 5 ?_
 refine ae rfl (eX rfl o.mO o.cO rfl (o.sO _ l' x)) ?_
 rintro _ B_ ⟨rfl, hB_⟩
 obtain rfl := hB_.symm
 refine au 4 ?_
 refine ah (.inl rfl) (.cons (ac rfl) .nil) ?_
 refine ⟨_, ⟨x, l', rfl, rfl, hp, by rw [hl']; exact qV hH (by omega), fun y hy => ?_⟩, inferInstance⟩
 obtain ⟨c, hc, rfl⟩ := List.mem_iff_getElem.1 hy
 have := qA hh c hc
 rw [qv hc] at this
 rw [hx0]; exact this
end Hp
end
end Go.Proofs.YtoedafbckfgkjaaGreat
