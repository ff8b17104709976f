/-
  Part 1 of the proof of HcallWho: rules, and walks of functions. Conditions: none.
-/
import Derived.WalkKit
import Derived.ProofKit
import Derived.RangeFuncRecord
import Derived.OrdersHeld
import Derived.Test.YtofillmoflhijaaGreatProg
import Derived.Laws.MakeOwn
import Derived.Scope
import Derived.Lib.AppendZerosOnto
import Derived.Lib.Overlaps
import Derived.OrdersIn
import Derived.Laws.BytesString
import Derived.OpenShut
import Derived.Carry
import Derived.MapKept
import Derived.ChangeKeysEq
import Derived.Laws.IdiomStrings
import Derived.Test.YtofillmoflhijaaGreatRows
namespace Go.Proofs.YtofillmoflhijaaGreat
open Go.Proofs.Tryz
set_option linter.unusedSimpArgs false
set_option linter.unusedVariables false
set_option maxRecDepth 20000
set_option linter.defProp false
set_option synthInstance.maxSize 8192
set_option synthInstance.maxHeartbeats 2000000
def az:=@sizeOf3
def aQ:=@isAgg3
def bw:=@underlying29
def bN:=@sizeOf29
def cn:=@isAgg29
def cB:=@sizeOf4
def cQ:=@sizeOf42
def dh:=@sizeOf37
def dq:=@underlying23
def dC:=@underlying37
def dD:=@sizeOf23
def dE:=@underlying118
def dI:=@underlying174
def dN:=@isAgg23
def dV:=@underlying85
def eb:=@underlying3
def ec:=@sizeOf43
def ei:=@sizeOf61
def et:=@underlying61
def eu:=@sizeOf116
def eG:=@underlying146
def eH:=@sizeOf85
def eI:=@underlying26
def eJ:=@underlying492
def eK:=@underlying116
def eU:=@isAgg37
def eV:=@sizeOf26
def f8:=@underlying25
def fe:=@sizeOf146
def ff:=@isAgg26
def fk:=@sizeOf238
def fl:=@sizeOf498
def fm:=@isAgg42
def fp:=@sizeOf518
def fC:=@underlying31
def fD:=@sizeOf50
def fM:=@isAgg4
def fX:=@sizeOf25
def gi:=@underlying24
def gj:=@underlying234
def gy:=@underlying344
def gz:=@sizeOf138
def gA:=@underlying68
def gI:=@underlying238
def gJ:=@sizeOf191
def gK:=@sizeOf515
def gL:=@isAgg50
def gV:=@sizeOf5
def gW:=@underlying42
def gX:=@sizeOf195
def gY:=@underlying515
def ib:=@underlying420
def ic:=@zeroValue61
def ie:=@underlying144
def ig:=@underlying191
def ii:=@underlying142
def ij:=@underlying43
def iz:=@underlying417
def iA:=@sizeOf63
def iB:=@sizeOf144
def iC:=@isAgg25
def iD:=@underlying193
def iE:=@underlying523
def iF:=@sizeOf355
def iU:=@sizeOf24
def iV:=@sizeOf255
def iW:=@sizeOf51
def iX:=@underlying98
def iY:=@sizeOf58
def jb:=@zeroValue238
def jc:=@isAgg191
def jd:=@isAgg515
def je:=@underlying138
def jf:=@underlying357
def jq:=@sizeOf415
def jr:=@sizeOf27
def js:=@underlying27
def jt:=@zeroValue195
def ju:=@underlying195
def jv:=@underlying285
def jw:=@sizeOf30
def jI:=@isAgg238
def jJ:=@sizeOf104
def jK:=@sizeOf130
def kc:=@underlying181
def kd:=@sizeOf179
def ke:=@zeroValue146
def kf:=@underlying415
def kg:=@isAgg63
def kh:=@isAgg27
def ki:=@isAgg24
def kj:=@sizeOf174
def kl:=@sizeOf342
def km:=@underlying254
def ko:=@sizeOf182
def ks:=@isAgg43
def kZ:=@underlying179
def l5:=@isAgg415
def l6:=@underlying87
def l7:=@isAgg61
def l8:=@underlying494
def l9:=@underlying258
def lc:=@zeroValue258
def lf:=@underlying450
def lh:=@sizeOf252
def lj:=@sizeOf456
def lm:=@underlying355
def ln:=@isAgg130
def m8:=@isAgg179
def m9:=@sizeOf239
def ma:=@zeroValue3
def mb:=@sizeOf218
def mc:=@zeroValue85
def md:=@sizeOf87
def me:=@call251
def mf:=@underlying342
def mg:=@isAgg195
def mh:=@underlying184
def mi:=@sizeOf223
def mj:=@zeroValue43
def ml:=@sizeOf281
def mm:=@underlying279
def mn:=@isAgg30
def nz:=@underlying5
def nB:=@call72
def nD:=@sizeOf178
def nE:=@sizeOf265
def nF:=@isAgg146
def nG:=@call86
def nH:=@underlying422
def nI:=@sizeOf422
def nJ:=@sizeOf492
def nK:=@underlying241
def nL:=@sizeOf98
def nM:=@isAgg342
def nN:=@call191
def nO:=@underlying252
def nP:=@underlying58
def nQ:=@underlying182
def nR:=@isAgg518
def nS:=@sizeOf64
def nT:=@sizeOf105
def nU:=@underlying30
def nV:=@call43
def nW:=@underlying281
def nX:=@sizeOf279
def nY:=@sizeOf31
def nZ:=@call220
def pG:=@underlying178
def pH:=@underlying361
def pI:=@underlying239
def pJ:=@sizeOf418
def pK:=@call127
def pL:=@zeroValue144
def pM:=@call192
def pN:=@sizeOf236
def pO:=@call190
def pP:=@underlying130
def pQ:=@sizeOf280
def pR:=@sizeOf139
def pS:=@underlying243
def pT:=@sizeOf235
def pU:=@call36
def pW:=@underlying4
def pX:=@underlying283
def pY:=@zeroValue396
def pZ:=@sizeOf396
def q9:=@call11
def sR:=@call183
def sT:=@call301
def sW:=@call277
def sX:=@call264
def sY:=@call195
def sZ:=@underlying267
def t0:=@underlying265
def t1:=@underlying418
def t2:=@sizeOf417
def t6:=@call257
def t7:=@isAgg85
def t8:=@zeroValue87
def t9:=@zeroValue498
def tc:=@underlying498
def td:=@sizeOf258
def te:=@call45
def tf:=@isAgg104
def ti:=@call94
def tj:=@isAgg182
def tm:=@underlying518
def tn:=@zeroValue138
def to:=@sizeOf94
def tp:=@isAgg223
def tq:=@underlying425
def tt:=@isAgg355
def tu:=@zeroValue218
def tv:=@sizeOf55
def tw:=@underlying45
def tx:=@underlying50
def tz:=@func38
def tA:=@isAgg281
def tB:=@underlying280
def tC:=@underlying396
def tD:=@underlying477
def tE:=@call13
def tF:=@call14
def tG:=@func4
def xy:=@underlying63
def xz:=@func29
def xA:=@func293
def xB:=@func176
def xC:=@call293
def xD:=@call299
def xE:=@zeroValue270
def xF:=@call259
def xG:=@call164
def xH:=@isAgg492
def xI:=@isAgg498
def xJ:=@isAgg144
def xK:=@sizeOf410
def xL:=@underlying259
def xM:=@call119
def xN:=@underlying368
def xO:=@sizeOf207
def xP:=@isAgg207
def xQ:=@func310
def xR:=@zeroValue174
def xS:=@underlying236
def xT:=@isAgg64
def xU:=@call29
def xV:=@call97
def xW:=@call294
def xX:=@call75
def xY:=@call120
def xZ:=@call256
def y1:=@zeroValue58
def y2:=@isAgg58
def y3:=@zeroValue456
def y4:=@underlying456
def y5:=@sizeOf283
def y8:=@sizeOf407
def y9:=@zeroValue407
def ya:=@underlying129
def yd:=@zeroValue518
def yf:=@call505
def yg:=@call508
def yh:=@sizeOf135
def yi:=@isAgg138
def yj:=@underlying474
def yk:=@isAgg235
def yl:=@sizeOf221
def ym:=@sizeOf222
def yn:=@sizeOf230
def yo:=@sizeOf231
def yp:=@sizeOf232
def yq:=@sizeOf65
def yr:=@sizeOf66
def yt:=@underlying110
def yu:=@call98
def yw:=@call17
def yx:=@underlying438
def yy:=@zeroValue438
def yz:=@func100
def yA:=@func101
def yB:=@call222
def yC:=@call12
def Ff:=@underlying207
def Fg:=@underlying64
def Fh:=@zeroValue422
def Fi:=@underlying454
def Fj:=@underlying139
def Fl:=@underlying104
def Fo:=@underlying89
def Fp:=@underlying46
def Fq:=@underlying51
def Fs:=@zeroValue116
def Ft:=@zeroValue118
def Fu:=@zeroValue29
def Fv:=@underlying54
section
open Go.RowKit
abbrev HP := List (Nat × Obj) → Prop
def pt (b : Nat) (o : Obj) : HP := fun l => l = [(b, o)]
abbrev ax (l : List Value) (t : TypeId) : Obj := .cells l.toArray t (0, 0)
def fg : List HP → List (Nat × Obj) → Prop
 | [], l => l = []
 | a :: A, l => ∃ l1 l2, l = l1 ++ l2 ∧ a l1 ∧ fg A l2
structure Own (W0 w : World) (A : List HP) : Prop where
  os : w.os = W0.os
  tape : w.tape = W0.tape
  output : w.output = W0.output
  size : W0.heap.size ≤ w.heap.size
  base : ∀ b, b < W0.heap.size → w.heap[b]? = W0.heap[b]?
  owns : ∃ ls : List (Nat × Obj), fg A ls ∧ (ls.map (·.1)).Nodup ∧ ∀ p ∈ ls, W0.heap.size ≤ p.1 ∧ w.heap[p.1]? = some p.2
theorem fg.perm {A B : List HP} (h : A.Perm B) : ∀ {l}, fg A l → ∃ l', fg B l' ∧ l.Perm l' := by
 induction h with
 | nil => exact fun h => ⟨_, h, List.Perm.refl _⟩
 | cons x h ih =>
  rintro l ⟨l1, l2, rfl, ha, hs⟩
  obtain ⟨l', hs', hp⟩ := ih hs
  exact ⟨l1 ++ l', ⟨l1, l', rfl, ha, hs'⟩, hp.append_left l1⟩
 | swap x y l =>
  rintro l ⟨l1, l2, rfl, ha, m1, m2, rfl, hb, hs⟩
  refine ⟨m1 ++ (l1 ++ m2), ⟨m1, l1 ++ m2, rfl, hb, l1, m2, rfl, ha, hs⟩, ?_⟩
  rw [← List.append_assoc, ← List.append_assoc]
  exact (List.perm_append_comm).append_right m2
 | trans h1 h2 ih1 ih2 =>
  intro l hl
  obtain ⟨l', hs, hp⟩ := ih1 hl
  obtain ⟨l'', hs', hp'⟩ := ih2 hs
  exact ⟨l'', hs', hp.trans hp'⟩
theorem Own.perm {W0 w : World} {A B : List HP} (h : Own W0 w A) (hp : A.Perm B) : Own W0 w B := by
 obtain ⟨ls, hs, hn, hb⟩ := h.owns
 obtain ⟨l', hs', hp'⟩ := hs.perm hp
 exact ⟨h.os, h.tape, h.output, h.size, h.base, l', hs', (hp'.map _).nodup hn, fun p hm => hb p (hp'.mem_iff.2 hm)⟩
theorem Own.drop {W0 w : World} {a : HP} {A : List HP} (h : Own W0 w (a :: A)) : Own W0 w A := by
 obtain ⟨ls, ⟨l1, l2, rfl, _, hs⟩, hn, hb⟩ := h.owns
 refine ⟨h.os, h.tape, h.output, h.size, h.base, l2, hs, ?_, fun p hm => hb p (List.mem_append_right _ hm)⟩
 rw [List.map_append] at hn
 exact (List.nodup_append.1 hn).2.1
theorem Own.refl (W : World) : Own W W [] := ⟨rfl, rfl, rfl, Nat.le_refl _, fun _ _ => rfl, [], rfl, List.nodup_nil, fun _ h => by cases h⟩
theorem Own.below {W0 w : World} {A : List HP} (h : Own W0 w A) : Below W0.heap.size W0 w := ⟨h.os, h.tape, h.output, h.size, h.base⟩
theorem Own.drew {W0 w : World} {A : List HP} (h : Own W0 w A) (n : Nat) : Own W0 { w with drawn := n } A := ⟨h.os, h.tape, h.output, h.size, h.base, h.owns⟩
theorem Own.has {W0 w : World} {b : Nat} {o : Obj} {A : List HP} (h : Own W0 w (pt b o :: A)) : W0.heap.size ≤ b ∧ w.heap[b]? = some o := by
 obtain ⟨ls, ⟨l1, l2, rfl, h1, _⟩, _, hb⟩ := h.owns
 cases h1
 exact hb (b, o) (by simp)
theorem Own.set {W0 w w' : World} {b : Nat} {o o' : Obj} {A : List HP} (h : Own W0 w (pt b o :: A)) (hos : w'.os = w.os) (htape : w'.tape = w.tape)
    (hout : w'.output = w.output) (hsz : w'.heap.size = w.heap.size)
    (hb : w'.heap[b]? = some o') (hne : ∀ k, k ≠ b → w'.heap[k]? = w.heap[k]?) : Own W0 w' (pt b o' :: A) := by
 have hbase := h.has.1
 obtain ⟨ls, ⟨l1, l2, rfl, h1, hs⟩, hn, hm⟩ := h.owns
 cases h1
 refine ⟨hos.trans h.os, htape.trans h.tape, hout.trans h.output, by have := h.size; omega, fun k hk => ?_, (b, o') :: l2, ⟨[(b, o')], l2, rfl, rfl, hs⟩, ?_, ?_⟩
 rw [hne k (by omega)]; exact h.base k hk
 simpa using hn
 rintro p hp
 rcases List.mem_cons.1 hp with rfl | hp
 exact ⟨hbase, hb⟩
 have hp' := hm p (List.mem_append_right _ hp)
 refine ⟨hp'.1, ?_⟩
 rw [hne]; · exact hp'.2
 intro e
 simp only [List.singleton_append, List.map_cons, List.nodup_cons, List.mem_map, not_exists, not_and] at hn
 exact hn.1 p hp e
theorem Own.new {W0 w : World} {A : List HP} (h : Own W0 w A) (o : Obj) : Own W0 { w with heap := w.heap.push o } (pt w.heap.size o :: A) := by
 obtain ⟨ls, hs, hn, hb⟩ := h.owns
 refine ⟨h.os, h.tape, h.output, ?_, fun k hk => ?_, (w.heap.size, o) :: ls, ⟨[_], ls, rfl, rfl, hs⟩, ?_, ?_⟩
 have := h.size; simp; omega
 have := h.size
 show (w.heap.push o)[k]? = _
 rw [Array.getElem?_push, if_neg (by omega)]; exact h.base k hk
 simp only [List.map_cons, List.nodup_cons]
 refine ⟨?_, hn⟩
 intro hmem
 obtain ⟨p, hp, e⟩ := List.mem_map.1 hmem
 have := (hb p hp).2
 rw [e] at this
 simp at this
 rintro p hp
 show _ ∧ (w.heap.push o)[p.1]? = _
 rcases List.mem_cons.1 hp with rfl | hp
 exact ⟨h.size, by simp⟩
 refine ⟨(hb p hp).1, ?_⟩
 have := (hb p hp).2
 have hlt : p.1 < w.heap.size := by
  rcases Nat.lt_or_ge p.1 w.heap.size with h | h
  exact h
  rw [Array.getElem?_eq_none h] at this; cases this
 rw [Array.getElem?_push, if_neg (by omega)]; exact this
class Tk {K X : Type} (r : K → X → HP) (b : K) (A : List HP) (x : outParam X) (R : outParam (List HP)) : Prop where
  perm : A.Perm (r b x :: R)
instance Fw {K X : Type} {r : K → X → HP} {b : K} {x : X} {R : List HP} : Tk r b (r b x :: R) x R := ⟨List.Perm.refl _⟩
instance (priority := low) tk_there {K X : Type} {r : K → X → HP} {b : K} {c : HP} {A : List HP} {x : X} {R : List HP} [h : Tk r b A x R] : Tk r b (c :: A) x (c :: R) :=
  ⟨(h.perm.cons c).trans (List.Perm.swap _ _ _)⟩
class Ent (A B : List HP) : Prop where
  out : ∀ l, fg A l → ∃ l' r, fg B l' ∧ l.Perm (l' ++ r)
theorem Own.ent {W0 w : World} {A B : List HP} (h : Own W0 w A) (e : Ent A B) : Own W0 w B := by
 obtain ⟨ls, hs, hn, hb⟩ := h.owns
 obtain ⟨l', r, hs', hp⟩ := e.out _ hs
 refine ⟨h.os, h.tape, h.output, h.size, h.base, l', hs', ?_, fun p hm => hb p (hp.mem_iff.2 (List.mem_append_left _ hm))⟩
 have := (hp.map (·.1)).nodup hn
 rw [List.map_append] at this
 exact (List.nodup_append.1 this).1
instance (priority := high) ent_refl {A : List HP} : Ent A A := ⟨fun l h => ⟨l, [], h, by simp⟩⟩
theorem Ent.trans {A B C : List HP} (h : Ent A B) (k : Ent B C) : Ent A C := ⟨fun l hl => by
 obtain ⟨l1, r1, hs1, hp1⟩ := h.out l hl
 obtain ⟨l2, r2, hs2, hp2⟩ := k.out l1 hs1
 exact ⟨l2, r2 ++ r1, hs2, hp1.trans (by rw [← List.append_assoc]; exact hp2.append_right r1)⟩⟩
theorem Ent.ofPerm {A B : List HP} (h : A.Perm B) : Ent A B := ⟨fun l hl => by
 obtain ⟨l', hs, hp⟩ := hl |> fg.perm h
 exact ⟨l', [], hs, by simpa using hp⟩⟩
theorem Ent.cons {a : HP} {A B : List HP} (h : Ent A B) : Ent (a :: A) (a :: B) := ⟨fun l hl => by
 obtain ⟨l1, l2, rfl, ha, hs⟩ := hl
 obtain ⟨l', r, hs', hp⟩ := h.out l2 hs
 exact ⟨l1 ++ l', r, ⟨l1, l', rfl, ha, hs'⟩, by rw [List.append_assoc]; exact hp.append_left l1⟩⟩
theorem Ent.drop {a : HP} {A : List HP} : Ent (a :: A) A := ⟨fun l hl => by
 obtain ⟨l1, l2, rfl, _, hs⟩ := hl
 exact ⟨l2, l1, hs, List.perm_append_comm⟩⟩
instance Fx {K X : Type} {r : K → X → HP} {b : K} {x : X} {A R B : List HP} [h : Tk r b A x R] [k : Ent R B] : Ent A (r b x :: B) :=
  (Ent.ofPerm h.perm).trans k.cons
instance (priority := low) ent_drop {a : HP} {A B : List HP} [k : Ent A B] : Ent (a :: A) B := Ent.drop.trans k
def bB (A : List HP) : HP := fun l => fg A l
theorem fg.append {A B : List HP} {l : List (Nat × Obj)} : fg (A ++ B) l ↔ ∃ l1 l2, l = l1 ++ l2 ∧ fg A l1 ∧ fg B l2 := by
 induction A generalizing l with
 | nil => exact ⟨fun h => ⟨[], l, rfl, rfl, h⟩, by rintro ⟨l1, l2, rfl, rfl, h⟩; exact h⟩
 | cons a A ih =>
  constructor
  rintro ⟨l1, l2, rfl, ha, hs⟩
  obtain ⟨m1, m2, rfl, h1, h2⟩ := ih.1 hs
  exact ⟨l1 ++ m1, m2, by simp, ⟨l1, m1, rfl, ha, h1⟩, h2⟩
  rintro ⟨l1, l2, rfl, ⟨m1, m2, rfl, ha, hs⟩, h2⟩
  exact ⟨m1, m2 ++ l2, by simp, ha, ih.2 ⟨m2, l2, rfl, hs, h2⟩⟩
theorem ik {A R : List HP} : Ent (bB A :: R) (A ++ R) := ⟨fun l hl => by
 obtain ⟨l1, l2, rfl, ha, hs⟩ := hl
 exact ⟨l1 ++ l2, [], fg.append.2 ⟨l1, l2, rfl, ha, hs⟩, by simp⟩⟩
theorem fY {A R : List HP} : Ent (A ++ R) (bB A :: R) := ⟨fun l hl => by
 obtain ⟨l1, l2, rfl, ha, hs⟩ := fg.append.1 hl
 exact ⟨l1 ++ l2, [], ⟨l1, l2, rfl, ha, hs⟩, by simp⟩⟩
abbrev bQ := List (Nat × Value)
def dW : bQ → Nat → Option Value
 | [], _ => none
 | (t, v) :: r, u => match Nat.beq t u with | true => some v | false => dW r u
def ev (e : bQ) : Operand → Option Value
 | .tmp t => dW e t
 | .const v => some v
 | .global g => some (.pointer (some ⟨g, 0, none⟩))
 | .func f => some (.func (.func f) #[] #[])
def eL (e : bQ) : List Operand → Option (List Value)
 | [] => some []
 | x :: xs => match ev e x with
   | some v => match eL e xs with
     | some vs => some (v :: vs)
     | none => none
   | none => none
structure FSz where
  n : Nat
  ds : List Deferred
structure Fr (a : Act) (N : FSz) (e : bQ) : Prop where
  defers : a.defers = N.ds
  size : a.tmps.size = N.n
  at_ : ∀ t v, dW e t = some v → a.tmps[t]? = some v
theorem Fr.eval {a : Act} {N : FSz} {e : bQ} (h : Fr a N e) {x : Operand} {v : Value} (hx : ev e x = some v) : a.eval x = v := by
 cases x with
 | tmp t => simp [Act.eval, Array.getD_eq_getD_getElem?, h.at_ t v hx]
 | const c => exact Option.some.inj hx
 | global g => exact Option.some.inj hx
 | func f => exact Option.some.inj hx
theorem Fr.evals {a : Act} {N : FSz} {e : bQ} (h : Fr a N e) : ∀ {xs : List Operand} {vs : List Value}, eL e xs = some vs → xs.map a.eval = vs
 | [], vs, hx => by simp [eL] at hx; simp [hx]
 | x :: xs, vs, hx => by
  unfold eL at hx
  cases hv : ev e x with
  | none => rw [hv] at hx; cases hx
  | some v =>
   rw [hv] at hx
   cases hvs : eL e xs with
   | none => simp only [hvs] at hx; cases hx
   | some vs' =>
    simp only [hvs, Option.some.injEq] at hx
    subst hx
    simp [h.eval hv, h.evals hvs]
theorem qa {e : bQ} {t : Nat} {v : Value} : dW ((t, v) :: e) t = some v := by simp [dW]
theorem qc {e : bQ} {t u : Nat} {v : Value} (h : t ≠ u) : dW ((t, v) :: e) u = dW e u := by
 have : Nat.beq t u = false := by
  cases hb : Nat.beq t u with
  | false => rfl
  | true => exact absurd (Nat.eq_of_beq_eq_true hb) h
 simp [dW, this]
theorem Fr.put {a : Act} {N : FSz} {e : bQ} (h : Fr a N e) {d : Nat} (hd : d < N.n) (v : Value) : Fr (a.put (some d) v) N ((d, v) :: e) := by
 refine ⟨h.defers, by simp [Act.put, h.size], fun t u hu => ?_⟩
 show (a.tmps.setIfInBounds d v)[t]? = some u
 by_cases e' : d = t
 subst e'
 rw [qa] at hu
 have hd' : d < a.tmps.size := by rw [h.size]; exact hd
 simp [hd', Option.some.inj hu]
 rw [qc e'] at hu
 rw [Array.getElem?_setIfInBounds, if_neg e']
 exact h.at_ t u hu
def jx (e e' : bQ) : Prop := ∀ t v, dW e' t = some v → dW e t = some v
theorem Fr.sub {a : Act} {N : FSz} {e e' : bQ} (h : Fr a N e) (s : jx e e') : Fr a N e' := ⟨h.defers, h.size, fun t v hv => h.at_ t v (s t v hv)⟩
theorem aX {e : bQ} : jx e [] := fun _ _ h => by cases h
theorem aV {e e' : bQ} {t : Nat} {v : Value} (h : dW e t = some v) (k : jx e e') : jx e ((t, v) :: e') := fun u x hx => by
 by_cases c : t = u
 subst c; rw [qa] at hx; rw [h]; exact hx
 rw [qc c] at hx; exact k u x hx
theorem mo {e : bQ} : jx e e := fun _ _ h => h
def aT (W0 : World) (N : FSz) (K : Act → World → Prop) (e : bQ) (A : List HP) : Prop := ∀ a w, Fr a N e → Own W0 w A → K a w
def Ex (Q : Exit → Act → World → Prop) (x : Exit) : Act → World → Prop := fun a w => Q x a w
def aC (P : Program) (W0 : World) (f : FuncId) (args : List Value) (A : List HP) (Post : Value → List HP → Prop) : Prop :=
  ∀ w, Own W0 w A → Calls P f args.toArray w fun e w' => ∃ v B, e = .returned v ∧ Post v B ∧ Own W0 w' B
section
variable {W0 : World} {N : FSz} {K K' : Act → World → Prop} {e e' : bQ} {A B : List HP}
theorem f9 (h : Ent A B) (r : aT W0 N K e B) : aT W0 N K e A := fun a w hF hO => r a w hF (hO.ent h)
theorem qd (h : A.Perm B) (r : aT W0 N K e B) : aT W0 N K e A := fun a w hF hO => r a w hF (hO.perm h)
end
def FW (rd : Option Nat) : Fence := { Fence.wide with round := rd }
def _root_.Go.Code.wpR (c : Code) (rd : Option Nat) (P : Program) (Q : Exit → Act → World → Prop) (a : Act) (w : World) : Prop := c.wpIn (FW rd) 0 P Q a w
theorem qe {P : Program} {c : Code} {Q : Exit → Act → World → Prop} {a : Act} {w : World} : c.wpR none P Q a w ↔ c.wp P Q a w := wpIn_wide
theorem qf {rd : Option Nat} {n : Nat} {P : Program} {f : FuncId} {args : Array Value} {w : World} {R : Ending → World → Prop} : CallsIn (FW rd) n P f args w R ↔ Calls P f args w R :=
  callsIn_wide (n := n)
theorem yD {rd : Option Nat} {P : Program} {m m' : Machine} : StepsIn (Machine.fenced P (FW rd)) P m m' ↔ Steps P m m' := stepsIn_wide
theorem tH {rd : Option Nat} {P : Program} {o : Oper} {a : Act} {K K' : Act → World → Prop} {Q : Exit → Act → World → Prop} (hk : ∀ a w, K a w → K' a w) :
    ∀ {r : Result Next}, o.upon P a K Q r → o.uponIn (FW rd) 0 P a K' Q r
 | .ok (.value v) w, h => hk _ _ h
 | .ok .skip w, h => hk _ _ h
 | .ok (.defer d) w, h => hk _ _ h
 | .ok (.enter f args) w, h => ⟨fun h => (by cases h), qf.2 (Calls.mono (show Calls P f args w _ from h) (by
     intro e w' he
     cases e with
     | returned v => exact hk _ _ he
     | panicked c => exact he
     | outgrown => exact he))⟩
 | .ok (.row row args) w, h => ⟨fun h => (by cases h), fun c cs _ => by
  obtain ⟨v, w', h1, h2⟩ := (show Rows P row args w _ from h) c cs
  exact ⟨v, w', hk _ _ h1, yD.2 h2⟩⟩
 | .halt (.panic v) w, h => h
theorem yE {rd : Option Nat} {P : Program} {o : Oper} {a : Act} {K K' : Act → World → Prop} {Q : Exit → Act → World → Prop} (hk : ∀ a w, K a w → K' a w) :
    ∀ {r : Result Next}, o.uponIn (FW rd) 0 P a K Q r → o.uponIn (FW rd) 0 P a K' Q r
 | .ok (.value v) w, h => hk _ _ h
 | .ok .skip w, h => hk _ _ h
 | .ok (.defer d) w, h => hk _ _ h
 | .ok (.enter f args) w, h => ⟨h.1, CallsIn.mono h.2 (by
     intro e w' he
     cases e with
     | returned v => exact hk _ _ he
     | panicked c => exact he
     | outgrown => exact he)⟩
 | .ok (.row row args) w, h => ⟨h.1, RowsIn.mono h.2 (fun v w' he => hk _ _ he)⟩
 | .ok (.round l f tmps assign body) w, h => ⟨h.1, RoundIn.mono h.2 (by
     intro e w' he
     cases e with
     | returned v => exact hk _ _ he
     | panicked c => exact he
     | outgrown => exact he)⟩
 | .halt (.panic v) w, h => h
def di (rd : Option Nat) (P : Program) (ops : Array Oper) (Q : Exit → Act → World → Prop) : List Oper → Act → World → Prop
 | [], a, w => Q .normal a w
 | o :: rest, a, w =>
  if Region.wanted o (yielded ops a.tmps) then o.wp P a w (di rd P ops Q rest) Q ∨ o.wpIn (FW rd) 0 P a w (di rd P ops Q rest) Q
  else di rd P ops Q rest (a.put o.dst undef) w
def qg (o : Oper) : Bool := match o.op with | .defer _ => false | _ => true
theorem tI {o : Oper} (h : qg o = true) : ∀ c, o.op ≠ .defer c := fun c hc => by simp [qg, hc] at h
def kt (rd : Option Nat) (ops : List Oper) : Bool := rd.isNone || ops.all qg
theorem tJ {rd : Option Nat} {P : Program} {ops : Array Oper} {Q : Exit → Act → World → Prop} (hp : kt rd ops.toList = true) : ∀ (n i : Nat), i + n = ops.size → ∀ a w, di rd P ops Q (ops.toList.drop i) a w →
    wpOpsIn (FW rd) 0 P ops Q (List.range' i n) a w
 | 0, i, h, a, w, hw => by
  have : ops.toList.drop i = [] := by rw [List.drop_eq_nil_iff]; simp; omega
  rw [this] at hw; exact hw
 | n + 1, i, h, a, w, hw => by
  have hi : i < ops.size := by omega
  have e1 : ops.toList.drop i = ops[i] :: ops.toList.drop (i + 1) := by
   rw [List.drop_eq_getElem_cons (by simpa using hi)]; simp
  rw [e1] at hw
  rw [List.range'_succ]
  have ih := tJ (rd := rd) (P := P) (Q := Q) hp n (i + 1) (by omega)
  simp only [wpOpsIn, Array.getElem?_eq_getElem hi]
  simp only [di] at hw
  split at hw
  rename_i hwant
  rw [if_pos hwant]
  rcases hw with hw | hw
  have hsem : (ops[i]).semAt (FW rd).round a.eval = execOp a.eval ops[i] := by
   cases rd with
   | none => rfl
   | some l =>
    refine Oper.semAt_eq _ _ _ (tI ?_)
    simp only [kt, Option.isNone_some, Bool.false_or, List.all_eq_true] at hp
    exact hp _ (by simp)
  refine ⟨fun _ _ => trivial, ?_⟩
  rw [hsem]
  exact tH ih hw
  exact ⟨hw.1, yE ih hw.2⟩
  rename_i hwant
  rw [if_neg hwant]
  exact ⟨fun _ _ => trivial, ih _ _ hw⟩
theorem yF {rd : Option Nat} {P : Program} {id : Nat} {ops : Array Oper} {Q : Exit → Act → World → Prop} {a : Act} {w : World} (hp : kt rd ops.toList = true)
    (h : di rd P ops Q ops.toList a w) : (Code.region id ops false).wpR rd P Q a w := by
 refine wpIn_region ?_
 rw [List.range_eq_range']
 exact tJ hp ops.size 0 (by omega) a w (by simpa using h)
section control
variable {rd : Option Nat} {P : Program} {W0 : World} {N : FSz} {Q Q' : Exit → Act → World → Prop} {e e' : bQ} {A B : List HP}
theorem ah {id : Nat} {ops : Array Oper} (h : aT W0 N (di rd P ops Q ops.toList) e A) (hp : kt rd ops.toList = true := by rfl) : aT W0 N ((Code.region id ops false).wpR rd P Q) e A :=
  fun a w hF hO => yF hp (h a w hF hO)
theorem ae {x y : Code} (h : aT W0 N (x.wpR rd P (Exit.then (y.wpR rd P Q) Q)) e A) : aT W0 N ((Code.seq x y).wpR rd P Q) e A := fun a w hF hO => wpIn_seq (h a w hF hO)
theorem aB (h : aT W0 N (Ex Q .normal) e A) : aT W0 N (Code.skip.wpR rd P Q) e A := fun a w hF hO => wpIn_skip (h a w hF hO)
theorem av (h : aT W0 N (Ex Q .ret) e A) : aT W0 N (Code.ret.wpR rd P Q) e A := fun a w hF hO => wpIn_ret (h a w hF hO)
theorem cj {id : Nat} (h : aT W0 N (Ex Q (.exit id)) e A) : aT W0 N ((Code.exit id).wpR rd P Q) e A := fun a w hF hO => wpIn_exit (h a w hF hO)
theorem aW {id : Nat} {c : Code} (h : aT W0 N (c.wpR rd P (Exit.inBlock id Q)) e A) : aT W0 N ((Code.block id c).wpR rd P Q) e A := fun a w hF hO => wpIn_block (h a w hF hO)
theorem tK {l : Nat} (h : aT W0 N (Ex Q .normal) e A) : aT W0 N ((Code.label l).wpR rd P Q) e A := fun a w hF hO => wpIn_label (h a w hF hO)
theorem ag {ops : Array Oper} (h : aT W0 N (Ex Q .normal) e A) : aT W0 N (di rd P ops Q []) e A := fun a w hF hO => h a w hF hO
theorem yG {c : Operand} {x y : Code} {t : Nat} {b : Bool} (hc : c = .tmp t) (hv : dW e t = some (.bool b))
    (ht : b = true → aT W0 N (x.wpR rd P Q) ((t, .bool true) :: e) A) (hf : b = false → aT W0 N (y.wpR rd P Q) ((t, .bool false) :: e) A) : aT W0 N ((Code.cond c x y).wpR rd P Q) e A := by
  intro a w hF hO
  subst hc
  have hs : ∀ b', b = b' → jx e ((t, .bool b') :: e) := fun b' hb => aV (hb ▸ hv) mo
  cases hb : b with
  | true => exact wpIn_cond_true (hF.eval (x := .tmp t) (hb ▸ hv)) (ht hb a w (hF.sub (hs _ hb)) hO)
  | false => exact wpIn_cond_false (hF.eval (x := .tmp t) (hb ▸ hv)) (hf hb a w (hF.sub (hs _ hb)) hO)

-- ways out
theorem ab {n : Act → World → Prop} (h : aT W0 N n e A) : aT W0 N (Ex (Exit.then n Q) .normal) e A := h
theorem bH {id : Nat} (h : aT W0 N (Ex Q .normal) e A) : aT W0 N (Ex (Exit.inBlock id Q) .normal) e A := h
theorem bi {n : Act → World → Prop} {id : Nat} (h : aT W0 N (Ex Q (.exit id)) e A) : aT W0 N (Ex (Exit.then n Q) (.exit id)) e A := h
theorem co {id : Nat} (h : aT W0 N (Ex Q .normal) e A) : aT W0 N (Ex (Exit.inBlock id Q) (.exit id)) e A := fun a w hF hO => by
 simp only [Ex, Exit.inBlock, if_true]; exact h a w hF hO
theorem eW {id j : Nat} (hj : Nat.beq j id = false) (h : aT W0 N (Ex Q (.exit j)) e A) : aT W0 N (Ex (Exit.inBlock id Q) (.exit j)) e A := fun a w hF hO => by
 have : j ≠ id := Nat.ne_of_beq_eq_false hj
 simp only [Ex, Exit.inBlock, this, if_false]; exact h a w hF hO
theorem aE {n : Act → World → Prop} (h : aT W0 N (Ex Q .ret) e A) : aT W0 N (Ex (Exit.then n Q) .ret) e A := h
theorem bj {id : Nat} (h : aT W0 N (Ex Q .ret) e A) : aT W0 N (Ex (Exit.inBlock id Q) .ret) e A := h
def tL (W0 : World) (N : FSz) {X : Type} (I : X → Prop) (E : X → bQ) (C : X → List HP) (μ : X → Nat) (x : X) : Act → World → Prop :=
  fun a w => ∃ y, I y ∧ μ y < μ x ∧ Fr a N (E y) ∧ Own W0 w (C y)
theorem cT {X : Type} (I : X → Prop) (E : X → bQ) (C : X → List HP) (μ : X → Nat) (x : X) {c : Code} (hI : I x) (hs : jx e (E x)) (he : Ent A (C x))
    (hr : ∀ x, I x → aT W0 N (c.wpR rd P (Exit.then (tL W0 N I E C μ x) Q)) (E x) (C x)) : aT W0 N ((Code.loop c).wpR rd P Q) e A := by
 intro a w hF hO b k cs hro hb hr0
 have key : ∀ n x, μ x = n → I x → ∀ a w, Fr a N (E x) → Own W0 w (C x) →
     ∃ e a' w', Q e a' w' ∧ ArrivesIn (Machine.fenced P (FW rd)) P (lone (b.atR a (.code c :: .inLoop c :: k)) cs w) b k cs e a' w' := by
   intro n
   induction n using Nat.strongRecOn with
   | _ n ih =>
     intro x hn hIx a w hF hO
     obtain ⟨ex, a₁, w₁, hq, harr⟩ := hr x hIx a w hF hO b (.inLoop c :: k) cs hro hb hr0
     cases ex with
     | normal =>
       obtain ⟨y, hIy, hlt, hF₁, hO₁⟩ := hq
       obtain ⟨e₂, a₂, w₂, hq₂, harr₂⟩ := ih (μ y) (hn ▸ hlt) y rfl hIy a₁ w₁ hF₁ hO₁
       exact ⟨e₂, a₂, w₂, hq₂, .of_steps (StepsIn.trans harr (.one (fenced_calm hb hr0 rfl) stepR_inLoop)) harr₂⟩
     | exit id => exact ⟨_, a₁, w₁, hq, .pass (x := .inLoop c) rfl (fun _ _ => .inl (by simp)) harr⟩
     | goto l => exact ⟨_, a₁, w₁, hq, .pass (x := .inLoop c) rfl (fun _ _ => .inl (by simp)) harr⟩
     | ret => exact ⟨_, a₁, w₁, hq, .pass (x := .inLoop c) rfl (fun _ _ => .inl (by simp)) harr⟩
     | panic ch => exact ⟨_, a₁, w₁, hq, .pass (x := .inLoop c) rfl (fun _ _ => .inl (by simp)) harr⟩
     | outgrown => exact ⟨_, a₁, w₁, hq, .pass (x := .inLoop c) rfl (fun _ _ => .inl (by simp)) harr⟩
 obtain ⟨e, a', w', hq, harr⟩ := key _ x rfl hI a w (hF.sub hs) (hO.ent he)
 exact ⟨e, a', w', hq, .of_steps (.one (fenced_calm hb hr0 rfl) stepR_loop) harr⟩
theorem cG {X : Type} {I : X → Prop} {E : X → bQ} {C : X → List HP} {μ : X → Nat} {x : X} (y : X) (hI : I y) (hμ : μ y < μ x) (hs : jx e (E y)) (he : Ent A (C y)) : aT W0 N (tL W0 N I E C μ x) e A :=
  fun _ _ hF hO => ⟨y, hI, hμ, hF.sub hs, hO.ent he⟩
def tM (W0 : World) (N : FSz) {X : Type} (I : X → Prop) (E : X → bQ) (C : X → List HP) : Act → World → Prop := fun a w => ∃ y, I y ∧ Fr a N (E y) ∧ Own W0 w (C y)
theorem gM {X : Type} (I : X → Prop) (E : X → bQ) (C : X → List HP) {x y : Code} (h1 : aT W0 N (x.wpR rd P (Exit.then (tM W0 N I E C) Q)) e A)
    (h2 : ∀ z, I z → aT W0 N (y.wpR rd P Q) (E z) (C z)) : aT W0 N ((Code.seq x y).wpR rd P Q) e A := fun a w hF hO => by
 refine wpIn_seq (wpIn_mono (h1 a w hF hO) ?_)
 intro ex a' w' hq
 cases ex with
 | normal =>
  obtain ⟨z, hz, hF', hO'⟩ := hq
  exact h2 z hz a' w' hF' hO'
 | exit id => exact hq
 | goto l => exact hq
 | ret => exact hq
 | panic ch => exact hq
 | outgrown => exact hq
theorem dz {X : Type} {I : X → Prop} {E : X → bQ} {C : X → List HP} (y : X) (hI : I y) (hs : jx e (E y)) (he : Ent A (C y)) : aT W0 N (tM W0 N I E C) e A :=
  fun _ _ hF hO => ⟨y, hI, hF.sub hs, hO.ent he⟩
end control
def bK (W0 : World) (A : List HP) : World → Prop := fun w => Own W0 w A
def cC (P : Program) (S : World → Prop) (N : FSz) (e : bQ) (op : Op) (v : Value) : Prop :=
  ∀ a w dst ty pos af g, Fr a N e → S w → (execOp a.eval { dst := dst, op := op, type := ty, pos := pos, after := af, guard := g }).run P w = .ok (.value v) w
section
variable {rd : Option Nat} {P : Program} {W0 : World} {N : FSz} {Q : Exit → Act → World → Prop} {e : bQ} {A : List HP} {ops : Array Oper} {rest : List Oper}
variable {op : Op} {ty : TypeId} {pos : String} {af : Array Edge} {v : Value} {d : Nat}
theorem mp {dst : Option Tmp} {y : Nat → Option Bool} : Region.wanted { dst := dst, op := op, type := ty, pos := pos, after := af, guard := none } y = true := rfl
theorem aa (hd : Nat.blt d N.n = true) (hv : cC P (bK W0 A) N e op v) (k : aT W0 N (di rd P ops Q rest) ((d, v) :: e) A) :
    aT W0 N (di rd P ops Q ({ dst := some d, op := op, type := ty, pos := pos, after := af, guard := none } :: rest)) e A := by
 intro a w hF hO
 simp only [di, mp, if_true]
 refine .inl ?_
 unfold Oper.wp
 rw [hv a w _ _ _ _ _ hF hO]
 exact k _ _ (hF.put (Nat.lt_of_lt_of_le (Nat.lt_of_succ_le (Nat.le_of_ble_eq_true hd)) (Nat.le_refl _)) v) hO
def iG (ops : Array Oper) (j : Nat) : Option Nat := (ops[j]?).bind (·.dst)
theorem qh {ops : Array Oper} {j t : Nat} {b : Bool} {a : Act} (ht : iG ops j = some t) (hv : a.tmps[t]? = some (.bool b)) : yielded ops a.tmps j = some b := by
 unfold iG at ht
 simp only [yielded]
 cases hj : ops[j]? with
 | none => rw [hj] at ht; cases ht
 | some o =>
  rw [hj] at ht
  simp only [Option.bind_some] at ht
  simp only [Option.bind_some, ht, hv]
theorem tN {j t : Nat} {want b : Bool} {dst : Option Tmp} (ht : iG ops j = some t) (hv : dW e t = some (.bool b)) (hd : (match dst with | some d => Nat.blt d N.n | none => true) = true)
    (h1 : b = want → aT W0 N (di rd P ops Q ({ dst := dst, op := op, type := ty, pos := pos, after := af, guard := none } :: rest)) ((t, .bool want) :: e) A)
    (h2 : b = !want → aT W0 N (di rd P ops Q rest) (match dst with | some d => (d, undef) :: (t, .bool !want) :: e | none => (t, .bool !want) :: e) A) :
    aT W0 N (di rd P ops Q ({ dst := dst, op := op, type := ty, pos := pos, after := af, guard := some (j, want) } :: rest)) e A := by
 intro a w hF hO
 have hy := qh ht (hF.at_ t _ hv)
 by_cases hb : b = want
 have h := h1 hb a w (hF.sub (aV (hb ▸ hv) mo)) hO
 simp only [di, mp, if_true] at h
 have hw : Region.wanted { dst := dst, op := op, type := ty, pos := pos, after := af, guard := some (j, want) } (yielded ops a.tmps) = true := by
  simp [Region.wanted, hy, hb]
 simp only [di, hw, if_true]
 exact h
 have hb' : b = !want := by cases b <;> cases want <;> simp_all
 have hw : Region.wanted { dst := dst, op := op, type := ty, pos := pos, after := af, guard := some (j, want) } (yielded ops a.tmps) = false := by
  simp [Region.wanted, hy, hb']
 simp only [di, hw, Bool.false_eq_true, if_false]
 have hF' := hF.sub (aV (t := t) (v := .bool !want) (hb' ▸ hv) mo)
 cases dst with
 | none => exact h2 hb' a w hF' hO
 | some d => exact h2 hb' _ w (hF'.put (Nat.lt_of_succ_le (Nat.le_of_ble_eq_true hd)) undef) hO
theorem ar {j t : Nat} {want : Bool} {dst : Option Tmp} (ht : iG ops j = some t) (hv : dW e t = some (.bool want))
    (h : aT W0 N (di rd P ops Q ({ dst := dst, op := op, type := ty, pos := pos, after := af, guard := none } :: rest)) e A) :
    aT W0 N (di rd P ops Q ({ dst := dst, op := op, type := ty, pos := pos, after := af, guard := some (j, want) } :: rest)) e A := by
 intro a w hF hO
 have hy := qh ht (hF.at_ t _ hv)
 have h := h a w hF hO
 simp only [di, mp, if_true] at h
 have hw : Region.wanted { dst := dst, op := op, type := ty, pos := pos, after := af, guard := some (j, want) } (yielded ops a.tmps) = true := by
  simp [Region.wanted, hy]
 simp only [di, hw, if_true]
 exact h
theorem fF {j t : Nat} {want : Bool} (ht : iG ops j = some t) (hv : dW e t = some undef) (hd : Nat.blt d N.n = true)
    (h : aT W0 N (di rd P ops Q rest) ((d, undef) :: e) A) :
    aT W0 N (di rd P ops Q ({ dst := some d, op := op, type := ty, pos := pos, after := af, guard := some (j, want) } :: rest)) e A := by
 intro a w hF hO
 have hy : yielded ops a.tmps j = none := by
  have hv' := hF.at_ t _ hv
  unfold iG at ht
  simp only [yielded]
  cases hj : ops[j]? with
  | none => rw [hj] at ht; cases ht
  | some o =>
   rw [hj] at ht
   simp only [Option.bind_some] at ht
   simp only [Option.bind_some, ht, hv']
   rfl
 have hw : Region.wanted { dst := some d, op := op, type := ty, pos := pos, after := af, guard := some (j, want) } (yielded ops a.tmps) = false := by
  simp [Region.wanted, hy]
 simp only [di, hw, Bool.false_eq_true, if_false]
 exact h _ w (hF.put (Nat.lt_of_succ_le (Nat.le_of_ble_eq_true hd)) undef) hO
theorem ap {j t : Nat} {want b : Bool} (ht : iG ops j = some t) (hv : dW e t = some (.bool b)) (hb : Bool.xor b want = true) (hd : Nat.blt d N.n = true)
    (h : aT W0 N (di rd P ops Q rest) ((d, undef) :: e) A) :
    aT W0 N (di rd P ops Q ({ dst := some d, op := op, type := ty, pos := pos, after := af, guard := some (j, want) } :: rest)) e A := by
 intro a w hF hO
 have hy := qh ht (hF.at_ t _ hv)
 have hw : Region.wanted { dst := some d, op := op, type := ty, pos := pos, after := af, guard := some (j, want) } (yielded ops a.tmps) = false := by
  cases b <;> cases want <;> simp_all [Region.wanted]
 simp only [di, hw, Bool.false_eq_true, if_false]
 exact h _ w (hF.put (Nat.lt_of_succ_le (Nat.le_of_ble_eq_true hd)) undef) hO
end
section
variable {rd : Option Nat} {P : Program} {S : World → Prop} {N : FSz} {e : bQ} {x y c : Operand} {v u : Value} {t t' : TypeId} {k k' : IntKind} {m n r : Int}
theorem ac (h : ev e x = some v) : cC P S N e (.move x) v := fun a w _ _ _ _ _ hF _ => by
 rw [← hF.eval h]; rfl
theorem ai (h : ev e x = some v) : cC P S N e (.assign x) v := fun a w _ _ _ _ _ hF _ => by
 rw [← hF.eval h]; rfl
theorem aY (hc : ev e c = some (.bool true)) (h : ev e x = some v) : cC P S N e (.pick c x y) v := fun a w _ _ _ _ _ hF _ => by
 simp [execOp, hF.eval hc, hF.eval h, asBool]
theorem aM (hc : ev e c = some (.bool false)) (h : ev e y = some v) : cC P S N e (.pick c x y) v := fun a w _ _ _ _ _ hF _ => by
 simp [execOp, hF.eval hc, hF.eval h, asBool]
theorem fq {op : BinOp} (hx : ev e x = some u) (hy : ev e y = some v) {r : Value} (hg : ∀ w x y, (eqGuard op t x y u v).run P w = .ok () w)
    (h : ∀ w, (binOp op t u v).run P w = .ok r w) : cC P S N e (.binOp op t x y t') r := fun a w _ _ _ _ _ hF _ => by
 simp only [execOp, hF.eval hx, hF.eval hy, Sem.run_bind, hg, Result.andThen_ok, h, Sem.run_pure]
theorem gB {op : BinOp} (w : World) (x y : Operand) : (eqGuard op t x y (.int k m) (.int k' n)).run P w = .ok () w := by
 cases op <;> simp [eqGuard]
theorem tO {op : BinOp} {p q : Bool} (w : World) (x y : Operand) : (eqGuard op t x y (.bool p) (.bool q)).run P w = .ok () w := by
 cases op <;> simp [eqGuard]
theorem yH {op : BinOp} {p q : Option Addr} (w : World) (x y : Operand) : (eqGuard op t x y (.pointer p) (.pointer q)).run P w = .ok () w := by
 cases op <;> simp [eqGuard]
theorem bF (hx : ev e x = some (.int k m)) (hy : ev e y = some (.int k n)) (hw : k.wrap (m + n) = r) : cC P S N e (.binOp .add t x y t') (.int k r) :=
  fq hx hy gB fun w => by simp [binOp, Op.intArith, hw]
theorem dX (hx : ev e x = some (.int k m)) (hy : ev e y = some (.int k n)) (hw : k.wrap (m - n) = r) : cC P S N e (.binOp .sub t x y t') (.int k r) :=
  fq hx hy gB fun w => by simp [binOp, Op.intArith, hw]
theorem il (hx : ev e x = some (.int k m)) (hy : ev e y = some (.int k n)) (hw : k.wrap (m * n) = r) : cC P S N e (.binOp .mul t x y t') (.int k r) :=
  fq hx hy gB fun w => by simp [binOp, Op.intArith, hw]
theorem qi (hx : ev e x = some (.int k m)) (hy : ev e y = some (.int k n)) (hn : n ≠ 0) (hw : k.wrap (m.tdiv n) = r) : cC P S N e (.binOp .quo t x y t') (.int k r) :=
  fq hx hy gB fun w => by simp [binOp, Op.intDiv, hw, hn]
theorem qj (hx : ev e x = some (.int k m)) (hy : ev e y = some (.int k n)) (hn : n ≠ 0) (hw : m.tmod n = r) : cC P S N e (.binOp .rem t x y t') (.int k r) :=
  fq hx hy gB fun w => by simp [binOp, Op.intDiv, hw, hn]
def qk (k : IntKind) (m n : Int) : Int := k.wrap (BitVec.ofInt k.bits m &&& BitVec.ofInt k.bits n).toNat
def o8 (k : IntKind) (m n : Int) : Int := k.wrap (BitVec.ofInt k.bits m ||| BitVec.ofInt k.bits n).toNat
def ql (k : IntKind) (m n : Int) : Int := k.wrap (BitVec.ofInt k.bits m &&& ~~~ BitVec.ofInt k.bits n).toNat
theorem tP (hx : ev e x = some (.int k m)) (hy : ev e y = some (.int k n)) (hw : qk k m n = r) : cC P S N e (.binOp .and t x y t') (.int k r) :=
  fq hx hy gB fun w => by rw [← hw]; simp [binOp, Op.intBits, qk]
theorem yI (hx : ev e x = some (.int k m)) (hy : ev e y = some (.int k n)) (hw : o8 k m n = r) : cC P S N e (.binOp .or t x y t') (.int k r) :=
  fq hx hy gB fun w => by rw [← hw]; simp [binOp, Op.intBits, o8]
theorem yJ (hx : ev e x = some (.int k m)) (hy : ev e y = some (.int k n)) (hw : ql k m n = r) : cC P S N e (.binOp .andNot t x y t') (.int k r) :=
  fq hx hy gB fun w => by rw [← hw]; simp [binOp, Op.intBits, ql]
def mq (k : IntKind) (m n : Int) : Int := k.wrap (m * 2 ^ (min n.toNat k.bits))
def lp (k : IntKind) (m n : Int) : Int := m.fdiv (2 ^ (min n.toNat k.bits))
theorem tQ (hx : ev e x = some (.int k m)) (hy : ev e y = some (.int k' n)) (hn : 0 ≤ n) (hw : mq k m n = r) : cC P S N e (.binOp .shl t x y t') (.int k r) :=
  fq hx hy gB fun w => by
 have : ¬ n < 0 := by omega
 rw [← hw]; simp [binOp, Op.shift, this, mq]
theorem o9 (hx : ev e x = some (.int k m)) (hy : ev e y = some (.int k' n)) (hn : 0 ≤ n) (hw : lp k m n = r) : cC P S N e (.binOp .shr t x y t') (.int k r) :=
  fq hx hy gB fun w => by
 have : ¬ n < 0 := by omega
 rw [← hw]; simp [binOp, Op.shift, this, lp]
theorem cu (hx : ev e x = some (.int k m)) (hy : ev e y = some (.int k n)) : cC P S N e (.binOp .eql t x y t') (.bool (m == n)) :=
  fq hx hy gB fun w => by simp [binOp, Op.intCmp]
theorem bI (hx : ev e x = some (.int k m)) (hy : ev e y = some (.int k n)) : cC P S N e (.binOp .neq t x y t') (.bool (m != n)) :=
  fq hx hy gB fun w => by simp [binOp, Op.intCmp]
theorem b0 (hx : ev e x = some (.int k m)) (hy : ev e y = some (.int k n)) : cC P S N e (.binOp .lss t x y t') (.bool (decide (m < n))) :=
  fq hx hy gB fun w => by simp [binOp, Op.intCmp]
theorem iH (hx : ev e x = some (.int k m)) (hy : ev e y = some (.int k n)) : cC P S N e (.binOp .leq t x y t') (.bool (decide (m ≤ n))) :=
  fq hx hy gB fun w => by simp [binOp, Op.intCmp]
theorem cy (hx : ev e x = some (.int k m)) (hy : ev e y = some (.int k n)) : cC P S N e (.binOp .gtr t x y t') (.bool (decide (n < m))) :=
  fq hx hy gB fun w => by simp [binOp, Op.intCmp]
theorem cK (hx : ev e x = some (.int k m)) (hy : ev e y = some (.int k n)) : cC P S N e (.binOp .geq t x y t') (.bool (decide (n ≤ m))) :=
  fq hx hy gB fun w => by simp [binOp, Op.intCmp]
theorem dY {d : TypeDesc} (h : P.underlying t = some d) (w : World) : (underlying t).run P w = .ok d w := by
 simp [underlying, h]
def jg (P : Program) (n : Nat) (t : TypeId) (u v : Value) (b : Bool) : Prop := ∀ d w, (Op.equalIn (d + n) t u v).run P w = .ok b w
theorem qn {u v : Value} {b : Bool} (hb : binOp .eql t u v = (do pure (.bool (← Op.equal t u v)))) (h : jg P 9 t u v b) (w : World) : (binOp .eql t u v).run P w = .ok (.bool b) w := by
 rw [hb]
 have := h 9991 w
 show ((Op.equalIn (9991 + 9) t u v) >>= _).run P w = _
 rw [Sem.run_bind, this]; rfl
theorem tT {u v : Value} {b : Bool} (hb : binOp .neq t u v = (do pure (.bool (!(← Op.equal t u v))))) (h : jg P 9 t u v b) (w : World) : (binOp .neq t u v).run P w = .ok (.bool (!b)) w := by
 rw [hb]
 have := h 9991 w
 show ((Op.equalIn (9991 + 9) t u v) >>= _).run P w = _
 rw [Sem.run_bind, this]; rfl
theorem tU {p q : Bool} {z : Nat} (hu : P.underlying t = some .bool) : jg P (z + 1) t (.bool p) (.bool q) (p == q) := fun d w => run_equalIn_bool' w (d + z) t p q hu
theorem tV {z : Nat} (hu : P.underlying t = some (.int k')) : jg P (z + 1) t (.int k m) (.int k n) (m == n) := fun d w => run_equalIn_int w (d + z) t k k' m n hu
theorem tW {p q : Bool} (hu : P.underlying t = some .bool) (hx : ev e x = some (.bool p)) (hy : ev e y = some (.bool q)) : cC P S N e (.binOp .eql t x y t') (.bool (p == q)) :=
  fq hx hy tO (qn rfl (tU hu))
theorem tX {p q : Bool} (hu : P.underlying t = some .bool) (hx : ev e x = some (.bool p)) (hy : ev e y = some (.bool q)) : cC P S N e (.binOp .neq t x y t') (.bool (!(p == q))) :=
  fq hx hy tO (tT rfl (tU hu))
theorem yK {E : TypeId} {p : Option Addr} {z : Nat} (hu : P.underlying t = some (.pointer E)) : jg P (z + 1) t (.pointer p) (.pointer none) p.isNone := fun d w =>
  run_equalIn_pointer_nil w (d + z) t p (by rw [show P.pointee t = E by simp [Program.pointee, hu]]; exact hu)
theorem dv {E : TypeId} {p : Option Addr} (hu : P.underlying t = some (.pointer E)) (hx : ev e x = some (.pointer p)) (hy : ev e y = some (.pointer none)) : cC P S N e (.binOp .eql t x y t') (.bool p.isNone) :=
  fq hx hy yH (qn rfl (yK hu))
def lq (P : Program) (z : Nat) (xs ys : List Value) (fs : List Field) (b : Bool) : Prop := ∀ d w, (Op.eqFields (d + z) xs.toArray ys.toArray fs).run P w = .ok b w
theorem yL {xs ys : List Value} {z : Nat} : lq P z xs ys [] true := fun d w => by simp [Op.eqFields]
theorem qo {l : List Value} {i : Nat} (ha : ∀ w, (isAgg t).run P w = .ok false w) (hi : l[i]? = some v) (w : World) : (part t l.toArray i).run P w = .ok v w := by
 simp [part, ha, hi]
theorem yM {xs ys : List Value} {nm : String} {ft fo : Nat} {em : Bool} {tg pk : String} {bo : Nat} {fs : List Field} {b c : Bool} {z : Nat} (hn : (nm == "_") = false) (hx : ∀ w, (part ft xs.toArray fo).run P w = .ok u w) (hy : ∀ w, (part ft ys.toArray fo).run P w = .ok v w)
    (h : jg P z ft u v b) (r : lq P z xs ys fs c) : lq P z xs ys (⟨nm, ft, fo, em, tg, pk, bo⟩ :: fs) (b && c) := fun d w => by
 have hn' : nm ≠ "_" := by simpa using hn
 simp only [Op.eqFields, hn', ne_eq, not_false_eq_true, if_true, Sem.run_bind, hx, hy, Result.andThen_ok, h d]
 cases b with
 | false => simp
 | true => simp [r d w]
theorem tY {xs ys : List Value} {nm : String} {ft fo : Nat} {em : Bool} {tg pk : String} {bo : Nat} {fs : List Field} {b c : Bool} {z : Nat} (hn : (nm == "_") = false) (ha : ∀ w, (isAgg ft).run P w = .ok false w) (hx : xs[fo]? = some u) (hy : ys[fo]? = some v)
    (h : jg P z ft u v b) (r : lq P z xs ys fs c) : lq P z xs ys (⟨nm, ft, fo, em, tg, pk, bo⟩ :: fs) (b && c) := yM hn (qo ha hx) (qo ha hy) h r
theorem yN {xs ys : List Value} {fs : Array Field} {b : Bool} {z : Nat} (hu : P.underlying t = some (.struct fs)) (hp : P.stoodInHeld t = false) (h : lq P z xs ys fs.toList b) : jg P (z + 1) t (.agg xs.toArray) (.agg ys.toArray) b := fun d w => by
 have hf : P.fieldsOf t = fs := by simp [Program.fieldsOf, hu]
 rw [← Nat.add_assoc, run_equalIn_struct w (d + z) t _ _ (by rw [hf]; exact hu) hp, hf]
 exact h d w
theorem yO {op : BinOp} {xs ys : Array Value} (hg : P.eqGuardType P.depth t = false) (w : World) (x y : Operand) : (eqGuard op t x y (.agg xs) (.agg ys)).run P w = .ok () w := by
 cases op <;> simp [eqGuard, hg]
theorem yP {xs ys : List Value} {b : Bool} (hg : P.eqGuardType P.depth t = false) (hx : ev e x = some (.agg xs.toArray)) (hy : ev e y = some (.agg ys.toArray)) (h : jg P 9 t (.agg xs.toArray) (.agg ys.toArray) b) : cC P S N e (.binOp .neq t x y t') (.bool (!b)) :=
  fq hx hy (yO hg) (tT rfl h)
theorem bM {b : Bool} (hx : ev e x = some (.bool b)) : cC P S N e (.unOp .not t x) (.bool (!b)) := fun a w _ _ _ _ _ hF _ => by
 simp [execOp, hF.eval hx, Op.unary]
theorem gC {d : TypeDesc} (hs : P.underlying t = some d) (hu : P.underlying t' = some (.int k)) (hx : ev e x = some (.int k' n)) (hw : k.wrap n = r) : cC P S N e (.convert t t' x) (.int k r) := fun a w _ _ _ _ _ hF _ => by
 rw [← hw]; simp [execOp, hF.eval hx, convert, dY hs, dY hu, Conv.intToInt]
theorem aS {l : List Value} {i : Nat} (hx : ev e x = some (.tuple l.toArray)) (hi : l[i]? = some v) : cC P S N e (.extract x i) v := fun a w _ _ _ _ _ hF _ => by
 simp [execOp, hF.eval hx, Instr.extract, hi]
theorem aF {a' : Addr} (hx : ev e x = some (.pointer (some a'))) : cC P S N e (.nilCheck x) (.pointer (some a')) := fun a w _ _ _ _ _ hF _ => by
 simp [execOp, hF.eval hx]
theorem bu {E n c : Nat} {a' : Option Addr} (hu : P.underlying t = some (.slice E)) (hx : ev e x = some (.slice a' n c)) :
    cC P S N e (.call { callee := .builtin .len, args := #[x], argTypes := #[t] }) (.int .i64 n) := fun a w _ _ _ _ _ hF _ => by
 simp [execOp, resolve, invoke, builtin, Builtin.len_, hF.eval hx, dY hu, goInt]
theorem al {T : TypeId} {fs : Array Field} {nm : String} {ft fo : Nat} {em : Bool} {tg pk : String} {bo i b off off' sz : Nat} (hx : ev e x = some (.pointer (some ⟨b, off, none⟩))) (hu : P.underlying T = some (.struct fs)) (hf : fs.toList[i]? = some ⟨nm, ft, fo, em, tg, pk, bo⟩)
    (hs : ∀ w, (sizeOf ft).run P w = .ok sz w) (hz : Nat.beq sz 0 = false) (ho : off + fo = off') : cC P S N e (.fieldAddr T x i) (.pointer (some ⟨b, off', none⟩)) := fun a w _ _ _ _ _ hF _ => by
 subst ho
 have hz' : sz ≠ 0 := Nat.ne_of_beq_eq_false hz
 have hf' : fs[i]? = some ⟨nm, ft, fo, em, tg, pk, bo⟩ := by simpa using hf
 simp [execOp, Instr.fieldAt, hF.eval hx, dY hu, hf', Instr.sureAddr, fieldPlace, hs, hz', Addr.add]
end
class SetL (l : List Value) (i : Nat) (v : Value) (l' : outParam (List Value)) : Prop where
  eq : l.set i v = l'
instance Fy {x v : Value} {l : List Value} : SetL (x :: l) 0 v (v :: l) := ⟨rfl⟩
instance Fz {x v : Value} {l l' : List Value} {i : Nat} [h : SetL l i v l'] : SetL (x :: l) (i + 1) v (x :: l') := ⟨by rw [List.set_cons_succ, h.eq]⟩
def setR : List Value → Nat → List Value → List Value
 | l, _, [] => l
 | l, i, v :: vs => setR (l.set i v) (i + 1) vs
theorem mr : ∀ (vs l : List Value) (i : Nat), (setR l i vs).length = l.length
 | [], _, _ => rfl
 | v :: vs, l, i => by rw [setR, mr vs]; simp
class SetRL (l : List Value) (i : Nat) (vs : List Value) (l' : outParam (List Value)) : Prop where
  eq : setR l i vs = l'
instance FA {l : List Value} {i : Nat} : SetRL l i [] l := ⟨rfl⟩
instance FB {l l' l'' vs : List Value} {i : Nat} {v : Value} [h : SetL l i v l'] [k : SetRL l' (i + 1) vs l''] : SetRL l i (v :: vs) l'' := ⟨by rw [setR, h.eq, k.eq]⟩
theorem oc : ∀ (vs l p : List Value), vs.length = l.length → setR (p ++ l) p.length vs = p ++ vs
 | [], l, p, h => by
  have : l = [] := List.length_eq_zero_iff.1 h.symm
  subst this; rfl
 | v :: vs, [], p, h => by simp at h
 | v :: vs, x :: l, p, h => by
  rw [setR]
  have e1 : (p ++ x :: l).set p.length v = (p ++ [v]) ++ l := by simp
  rw [e1]
  have := oc vs l (p ++ [v]) (by simpa using h)
  simp only [List.length_append, List.length_cons, List.length_nil, Nat.zero_add] at this
  rw [this]; simp
class TakeL (l : List Value) (i n : Nat) (l' : outParam (List Value)) : Prop where
  eq : (l.drop i).take n = l'
instance FC {l : List Value} : TakeL l 0 0 [] := ⟨by simp⟩
instance FD {l l' : List Value} {n : Nat} {x : Value} [h : TakeL l 0 n l'] : TakeL (x :: l) 0 (n + 1) (x :: l') := ⟨by have := h.eq; simp at this; simp [this]⟩
instance FE {l l' : List Value} {i n : Nat} {x : Value} [h : TakeL l i n l'] : TakeL (x :: l) (i + 1) n l' := ⟨by rw [List.drop_succ_cons, h.eq]⟩
section
variable {rd : Option Nat} {P : Program} {S : World → Prop} {W0 : World} {N : FSz} {Q : Exit → Act → World → Prop} {e : bQ} {A B R : List HP} {ops : Array Oper} {rest : List Oper}
variable {op : Op} {ty t : TypeId} {pos : String} {af : Array Edge} {v : Value} {d b off : Nat} {x y : Operand} {l l' vs : List Value}
def iI (S : World → Prop) (b off : Nat) (v : Value) : Prop := ∀ w, S w → w.cell? ⟨b, off, none⟩ = some v
theorem Own.tk {K X : Type} {r : K → X → HP} {w : World} {b : K} {x : X} (h : Own W0 w A) [k : Tk r b A x R] : Own W0 w (r b x :: R) := h.perm k.perm
theorem aA [h : Tk pt b A (ax l ty) R] (hv : l[off]? = some v) : iI (bK W0 A) b off v := fun w (hO : Own W0 w A) => by
 have := (hO.tk (r := pt) (b := b)).has.2
 simp [World.cell?, this, hv]
theorem tZ (h : W0.cell? ⟨b, off, none⟩ = some v) : iI (bK W0 A) b off v := fun w (hO : Own W0 w A) => by
 have hb : b < W0.heap.size := by
  rcases Nat.lt_or_ge b W0.heap.size with k | k
  exact k
  simp [World.cell?, Array.getElem?_eq_none k] at h
 rw [← h]; simp [World.cell?, hO.base b hb]
theorem iI.weak (h : iI (bK W0 B) b off v) [k : Ent A B] : iI (bK W0 A) b off v := fun w (hO : Own W0 w A) => h w (hO.ent k)
def cY (S : World → Prop) (b off : Nat) (vs : List Value) : Prop := ∀ i v, vs[i]? = some v → iI S b (off + i) v
theorem jL [h : Tk pt b A (ax l ty) R] (hv : (l.drop off).take vs.length = vs) : cY (bK W0 A) b off vs := fun i v hi => by
 refine aA ?_
 have hlt : i < vs.length := by
  rcases Nat.lt_or_ge i vs.length with k | k
  exact k
  simp [List.getElem?_eq_none k] at hi
 rw [← hv] at hi
 rw [List.getElem?_take_of_lt hlt, List.getElem?_drop] at hi
 exact hi
theorem fN [h : Tk pt b A (ax l ty) R] {n : Nat} (hv : (l.drop off).take n = vs) (hn : vs.length = n) : cY (bK W0 A) b off vs := jL (by rw [hn]; exact hv)
theorem fu (n : Nat) : (⟨b, off, none⟩ : Addr).add n = ⟨b, off + n, none⟩ := by
 unfold Addr.add; split
 rename_i h; subst h; rfl
 rfl
theorem od {w : World} (hc : ∀ i v, vs[i]? = some v → w.cell? ⟨b, off + i, none⟩ = some v) : ∀ (n i : Nat) (acc : Array Value), i + n = vs.length →
    (loadCellsFrom ⟨b, off, none⟩ i n acc).run P w = .ok (acc ++ (vs.drop i).toArray) w
 | 0, i, acc, h => by
  have : vs.drop i = [] := by rw [List.drop_eq_nil_iff]; omega
  simp [loadCellsFrom, this]
 | n + 1, i, acc, h => by
  have hi : i < vs.length := by omega
  have hcell := hc i vs[i] (by simp [hi])
  simp only [loadCellsFrom, Sem.run_bind, run_load, fu, hcell, Result.andThen_ok]
  rw [od hc n (i + 1) _ (by omega)]
  rw [List.drop_eq_getElem_cons hi]
  simp
theorem ao (ha : ∀ w, (isAgg t).run P w = .ok false w) (hx : ev e x = some (.pointer (some ⟨b, off, none⟩))) (hc : iI S b off v) : cC P S N e (.load t x) v := fun a w _ _ _ _ _ hF hO => by
 simp [execOp, Instr.loadAt, Instr.sureAddr, hF.eval hx, loadVar, ha, hc w hO]
theorem cV {n : Nat} (ha : ∀ w, (isAgg t).run P w = .ok true w) (hs : ∀ w, (sizeOf t).run P w = .ok n w) (hx : ev e x = some (.pointer (some ⟨b, off, none⟩))) (hc : cY S b off vs) (hn : vs.length = n) :
    cC P S N e (.load t x) (.agg vs.toArray) := fun a w _ _ _ _ _ hF hO => by
 have := od (P := P) (w := w) (fun i v hi => hc i v hi w hO) n 0 #[] (by omega)
 simp [execOp, Instr.loadAt, Instr.sureAddr, hF.eval hx, loadVar, ha, hs, loadCells, this]
theorem cp [h : Tk pt b A (ax l ty) R] {n : Nat} (ha : ∀ w, (isAgg t).run P w = .ok true w) (hs : ∀ w, (sizeOf t).run P w = .ok n w) (hx : ev e x = some (.pointer (some ⟨b, 0, none⟩))) (hn : l.length = n) :
    cC P (bK W0 A) N e (.load t x) (.agg l.toArray) :=
  cV ha hs hx (jL (by simp)) hn
theorem u0 {w : World} (h : Own W0 w (pt b (ax l ty) :: R)) (v : Value) : Own W0 (w.setCell ⟨b, off, none⟩ v) (pt b (ax (l.set off v) ty) :: R) := by
 refine h.set rfl rfl rfl (by simp [World.setCell]) ?_ (fun k hk => Below.heap_setCell _ _ _ _ hk)
 have := h.has.2
 simp [World.setCell, Array.getElem?_modify, this, ax]
theorem u3 {w : World} (h : Own W0 w (pt b (ax l ty) :: R)) (ho : off < l.length) (h1 : v.oneCell' = true) : (store ⟨b, off, none⟩ v).run P w = .ok () (w.setCell ⟨b, off, none⟩ v) := by
 have hb := h.has.2
 rw [run_store P w _ v _ h1]
 have : w.cell? ⟨b, off, none⟩ = some l[off] := by simp [World.cell?, hb, ho]
 simp [this, World.frozen?, hb]
theorem ku (h1 : v.oneCell' = true) : v.cells = #[v] := by cases v <;> first | rfl | cases h1
def dl (P : Program) (W0 : World) (N : FSz) (e : bQ) (A : List HP) (op : Op) (Post : Value → List HP → Prop) : Prop :=
  ∀ a w dst ty pos af g (K : Act → World → Prop) (Q : Exit → Act → World → Prop), Fr a N e → Own W0 w A → (∀ v w' B, Post v B → Own W0 w' B → K (a.put dst v) w') →
    Oper.wp P { dst := dst, op := op, type := ty, pos := pos, after := af, guard := g } a w K Q
theorem am {Post : Value → List HP → Prop} (hd : Nat.blt d N.n = true) (h : dl P W0 N e A op Post) (k : ∀ v B, Post v B → aT W0 N (di rd P ops Q rest) ((d, v) :: e) B) :
    aT W0 N (di rd P ops Q ({ dst := some d, op := op, type := ty, pos := pos, after := af, guard := none } :: rest)) e A := by
 intro a w hF hO
 simp only [di, mp, if_true]
 exact .inl (h a w _ _ _ _ _ _ _ hF hO fun v w' B hp hO' => k v B hp _ _ (hF.put (Nat.lt_of_succ_le (Nat.le_of_ble_eq_true hd)) v) hO')
theorem bD {Post : Value → List HP → Prop} (h : dl P W0 N e A op Post) (k : ∀ v B, Post v B → aT W0 N (di rd P ops Q rest) e B) :
    aT W0 N (di rd P ops Q ({ dst := none, op := op, type := ty, pos := pos, after := af, guard := none } :: rest)) e A := by
 intro a w hF hO
 simp only [di, mp, if_true]
 exact .inl (h a w _ _ _ _ _ _ _ hF hO fun v w' B hp hO' => k v B hp _ _ hF hO')
theorem kv {Post : Value → List HP → Prop} (h : ∀ a w dst ty pos af g, Fr a N e → Own W0 w A → ∃ v w' B, ((execOp a.eval { dst := dst, op := op, type := ty, pos := pos, after := af, guard := g }).run P w = .ok (.value v) w' ∨
      ((execOp a.eval { dst := dst, op := op, type := ty, pos := pos, after := af, guard := g }).run P w = .ok .skip w' ∧ v = undef)) ∧ Post v B ∧ Own W0 w' B) : dl P W0 N e A op Post := by
 intro a w dst ty pos af g K Q hF hO k
 obtain ⟨v, w', B, hr, hp, hO'⟩ := h a w dst ty pos af g hF hO
 unfold Oper.wp
 rcases hr with hr | ⟨hr, rfl⟩
 rw [hr]; exact k v w' B hp hO'
 rw [hr]; exact k _ w' B hp hO'
theorem eC (h : cC P (bK W0 A) N e op v) : dl P W0 N e A op (fun u B => u = v ∧ B = A) := kv fun a w _ _ _ _ _ hF hO =>
  ⟨v, w, A, .inl (h a w _ _ _ _ _ hF hO), ⟨rfl, rfl⟩, hO⟩
theorem cm [h : Tk pt b A (ax l ty) R] (hs : ∀ w, (sizeOf t).run P w = .ok 1 w) (hx : ev e x = some (.pointer (some ⟨b, off, none⟩))) (hy : ev e y = some v)
    (h1 : v.oneCell' = true) (ho : off < l.length) (hl : l.set off v = l') : dl P W0 N e A (.store t x y) (fun _ B => B = pt b (ax l' ty) :: R) := kv fun a w _ _ _ _ _ hF hO => by
 have hO' := hO.tk (r := pt) (b := b)
 refine ⟨undef, w.setCell ⟨b, off, none⟩ v, _, .inr ⟨?_, rfl⟩, rfl, hl ▸ u0 hO' v⟩
 simp [execOp, Instr.storeAt, Instr.sureAddr, hF.eval hx, hF.eval hy, storeVar, hs, ku h1, storeCells, fu, u3 hO' ho h1]
theorem qp : ∀ (vs : List Value) {l : List Value} {w : World} (i : Nat), Own W0 w (pt b (ax l ty) :: R) → off + i + vs.length ≤ l.length → (∀ v ∈ vs, v.oneCell' = true) →
    ∃ w', (storeCells ⟨b, off, none⟩ vs i).run P w = .ok () w' ∧ Own W0 w' (pt b (ax (setR l (off + i) vs) ty) :: R)
 | [], l, w, i, h, _, _ => ⟨w, by simp [storeCells], h⟩
 | v :: vs, l, w, i, h, hlen, h1 => by
  simp only [List.length_cons] at hlen
  have hr := u3 (P := P) h (off := off + i) (by omega) (h1 v (by simp))
  obtain ⟨w', hr', ho'⟩ := qp vs (i + 1) (u0 (off := off + i) h v) (by simp; omega) (fun u hu => h1 u (by simp [hu]))
  refine ⟨w', ?_, ho'⟩
  simp only [storeCells, Sem.run_bind, fu, hr, Result.andThen_ok, hr']
def eM (vs : List Value) : Bool := vs.all (·.oneCell')
theorem iZ {n : Nat} [h : Tk pt b A (ax l ty) R] (hs : ∀ w, (sizeOf t).run P w = .ok n w) (hx : ev e x = some (.pointer (some ⟨b, off, none⟩))) (hy : ev e y = some (.agg vs.toArray))
    (hn : vs.length = n) (h1 : eM vs = true) (ho : off + n ≤ l.length) (hl : setR l off vs = l') : dl P W0 N e A (.store t x y) (fun _ B => B = pt b (ax l' ty) :: R) := kv fun a w _ _ _ _ _ hF hO => by
 have hO' := hO.tk (r := pt) (b := b)
 obtain ⟨w', hr, hO''⟩ := qp (P := P) (off := off) vs 0 hO' (by omega) (fun v hv => by simpa [eM] using (List.all_eq_true.1 h1 v hv))
 rw [Nat.add_zero] at hO''
 refine ⟨undef, w', _, .inr ⟨?_, rfl⟩, rfl, hl ▸ hO''⟩
 simp [execOp, Instr.storeAt, Instr.sureAddr, hF.eval hx, hF.eval hy, storeVar, hs, Value.cells, hn, hr]
theorem cD {n : Nat} [h : Tk pt b A (ax l ty) R] (hs : ∀ w, (sizeOf t).run P w = .ok n w) (hx : ev e x = some (.pointer (some ⟨b, 0, none⟩))) (hy : ev e y = some (.agg vs.toArray))
    (hn : vs.length = n) (h1 : eM vs = true) (ho : l.length = n) : dl P W0 N e A (.store t x y) (fun _ B => B = pt b (ax vs ty) :: R) :=
  iZ hs hx hy hn h1 (by omega) (by simpa using oc vs l [] (by omega))
theorem kw {o : Obj} {g : Nat → Value}
    (hrun : ∀ a w dst ty pos af g', Fr a N e → Own W0 w A → (execOp a.eval { dst := dst, op := op, type := ty, pos := pos, after := af, guard := g' }).run P w = .ok (.value (g w.heap.size)) { w with heap := w.heap.push o }) :
    dl P W0 N e A op (fun v B => ∃ b, v = g b ∧ B = pt b o :: A) := kv fun a w _ _ _ _ _ hF hO =>
  ⟨_, _, _, .inl (hrun a w _ _ _ _ _ hF hO), ⟨w.heap.size, rfl, rfl⟩, hO.new o⟩
theorem cM (hz : ∀ w, (zeroValue t).run P w = .ok (.agg l.toArray) w) : dl P W0 N e A (.alloc t) (fun v B => ∃ b, v = .pointer (some ⟨b, 0, none⟩) ∧ B = pt b (ax l t) :: A) :=
  kw (g := fun b => .pointer (some ⟨b, 0, none⟩)) (fun a w _ _ _ _ _ hF _ => by simp [execOp, Instr.alloc, hz, newVar, newRow, Value.cells])
theorem oe (hz : ∀ w, (zeroValue t).run P w = .ok v w) (h1 : v.oneCell' = true) : dl P W0 N e A (.alloc t) (fun u B => ∃ b, u = .pointer (some ⟨b, 0, none⟩) ∧ B = pt b (ax [v] t) :: A) :=
  kw (g := fun b => .pointer (some ⟨b, 0, none⟩)) (fun a w _ _ _ _ _ hF _ => by simp [execOp, Instr.alloc, hz, newVar, newRow, ku h1])
theorem bJ (hx : ev e x = some (.agg l.toArray)) : dl P W0 N e A (.box t x) (fun v B => ∃ b, v = .pointer (some ⟨b, 0, none⟩) ∧ B = pt b (ax l t) :: A) :=
  kw (g := fun b => .pointer (some ⟨b, 0, none⟩)) (fun a w _ _ _ _ _ hF _ => by simp [execOp, Instr.box, hF.eval hx, newVar, newRow, Value.cells])
theorem jM (hx : ev e x = some v) (h1 : v.oneCell' = true) : dl P W0 N e A (.box t x) (fun u B => ∃ b, u = .pointer (some ⟨b, 0, none⟩) ∧ B = pt b (ax [v] t) :: A) :=
  kw (g := fun b => .pointer (some ⟨b, 0, none⟩)) (fun a w _ _ _ _ _ hF _ => by simp [execOp, Instr.box, hF.eval hx, newVar, newRow, ku h1])
def lr (P : Program) (fs : List Field) (e : bQ) (l : List Value) (ps : List (Nat × Operand)) (l' : List Value) : Prop :=
  ∀ (a : Act), (∀ x v, ev e x = some v → a.eval x = v) → ∀ (pl : Nat → Option (Nat × Nat)), (∀ i f, fs[i]? = some f → ∃ n, pl i = some (f.offset, n) ∧ ∀ w, (sizeOf f.type).run P w = .ok n w) →
    Instr.fill pl l.toArray (ps.map fun (i, x) => (i, a.eval x)) = some l'.toArray
theorem qq : ∀ (vs : List Value) (l : List Value) (off : Nat), (vs.toArray.zipIdx.foldl (fun cs (c, j) => cs.setIfInBounds (off + j) c) l.toArray) = (setR l off vs).toArray := by
 intro vs
 suffices h : ∀ (vs : List Value) (l : List Value) (off s : Nat), (vs.zipIdx s).foldl (fun (cs : Array Value) (x : Value × Nat) => cs.setIfInBounds (off + x.2) x.1) l.toArray = (setR l (off + s) vs).toArray by
  intro l off
  have := h vs l off 0
  rw [← Array.foldl_toList]
  simpa using this
 intro vs
 induction vs with
 | nil => intro l off s; rfl
 | cons v vs ih =>
  intro l off s
  rw [List.zipIdx_cons, List.foldl_cons, setR]
  have := ih (l.set (off + s) v) off (s + 1)
  rw [← Nat.add_assoc] at this
  simpa using this
theorem bW {fs : List Field} : lr P fs e l [] l := fun _ _ _ _ => rfl
theorem bq {fs : List Field} {nm : String} {ft fo : Nat} {em : Bool} {tg pk : String} {bo i : Nat} {ps : List (Nat × Operand)} {l'' : List Value} (hf : fs[i]? = some ⟨nm, ft, fo, em, tg, pk, bo⟩) (hs : ∀ w, (sizeOf ft).run P w = .ok 1 w)
    (hx : ev e x = some v) (h1 : v.oneCell' = true) (ho : fo < l.length) (hl : l.set fo v = l') (r : lr P fs e l' ps l'') : lr P fs e l ((i, x) :: ps) l'' := by
 intro a ha pl hp
 obtain ⟨n, hpl, hn⟩ := hp i _ hf
 have hn1 : n = 1 := by have := (hn default).symm.trans (hs default); simpa using this
 subst hn1
 have hv := ha x v hx
 simp only [List.map_cons, Instr.fill, hpl, hv, ku h1]
 have hc : ¬ (fo + 1 > l.length) := by omega
 simp [hc, hl]
 simpa using r a ha pl hp
theorem im {fs : List Field} {nm : String} {ft fo : Nat} {em : Bool} {tg pk : String} {bo i n : Nat} {ps : List (Nat × Operand)} {l'' : List Value} (hf : fs[i]? = some ⟨nm, ft, fo, em, tg, pk, bo⟩) (hs : ∀ w, (sizeOf ft).run P w = .ok n w)
    (hx : ev e x = some (.agg vs.toArray)) (hn : vs.length = n) (ho : fo + n ≤ l.length) (hl : setR l fo vs = l') (r : lr P fs e l' ps l'') : lr P fs e l ((i, x) :: ps) l'' := by
 intro a ha pl hp
 obtain ⟨m, hpl, hm⟩ := hp i _ hf
 have hmn : m = n := by have := (hm default).symm.trans (hs default); simpa using this
 subst hmn
 have hv := ha x _ hx
 simp only [List.map_cons, Instr.fill, hpl, hv, Value.cells]
 have hc : ¬ (fo + vs.length > l.length) := by omega
 have hc' : ¬ (vs.length ≠ m) := by omega
 simp only [List.size_toArray, hc, hc', decide_false, Bool.or_false, if_false, qq, hl, Bool.false_eq_true]
 exact r a ha pl hp
def lu (f : Field) : Sem (Nat × Nat) := do pure (f.offset, ← sizeOf f.type)
theorem u4 {P : Program} {w : World} : ∀ (fs : List Field), (∀ f : Field, f ∈ fs → ∃ n, ∀ w, (sizeOf f.type).run P w = .ok n w) →
    ∃ ps : List (Nat × Nat), (fs.mapM lu).run P w = .ok ps w ∧
      ∀ (i : Nat) (f : Field), fs[i]? = some f → ∃ n, ps[i]? = some (f.offset, n) ∧ ∀ w, (sizeOf f.type).run P w = .ok n w
 | [], _ => ⟨[], by simp, fun i f h => by simp at h⟩
 | f :: fs, h => by
  obtain ⟨n, hn⟩ := h f (by simp)
  obtain ⟨ps, hps, hq⟩ := u4 fs (fun g hg => h g (by simp [hg]))
  refine ⟨(f.offset, n) :: ps, ?_, fun i g hi => ?_⟩
  simp only [List.mapM_cons, lu, Sem.run_bind, hn, Result.andThen_ok, Sem.run_pure]
  rw [hps]; rfl
  cases i with
  | zero => simp only [List.getElem?_cons_zero, Option.some.injEq] at hi; subst hi; exact ⟨n, rfl, hn⟩
  | succ i => exact hq i g (by simpa using hi)
def oi (P : Program) (fs : List Field) : Prop := ∀ f : Field, f ∈ fs → ∃ n, ∀ w, (sizeOf f.type).run P w = .ok n w
theorem bX : oi P [] := fun _ h => by cases h
theorem aH {nm : String} {ft fo : Nat} {em : Bool} {tg pk : String} {bo n : Nat} {fs : List Field} (h : ∀ w, (sizeOf ft).run P w = .ok n w) (k : oi P fs) : oi P (⟨nm, ft, fo, em, tg, pk, bo⟩ :: fs) := fun f hf => by
 rcases List.mem_cons.1 hf with rfl | hf
 exact ⟨n, h⟩
 exact k f hf
theorem bY {fs : Array Field} {ps : Array (Nat × Operand)} (hu : P.underlying t = some (.struct fs)) (hz : ∀ w, (zeroValue t).run P w = .ok (.agg l.toArray) w) (hs : oi P fs.toList) (hf : lr P fs.toList e l ps.toList l') :
    cC P S N e (.build t ps) (.agg l'.toArray) := fun a w _ _ _ _ _ hF _ => by
 obtain ⟨pls, hpl, hq⟩ := u4 (w := w) fs.toList hs
 have := hf a (fun x v h => hF.eval h) (fun i => pls.toArray[i]?) (fun i f h => by simpa using hq i f h)
 have hm : (fs.mapM lu).run P w = .ok pls.toArray w := by
  rw [Array.mapM_eq_mapM_toList, Sem.run_map, hpl]; rfl
 have hb : Instr.build t (ps.map fun (i, x) => (i, a.eval x)) = (do
     let zero := (← zeroValue t).cells
     match ← underlying t with
     | .struct fields =>
       let places ← fields.mapM lu
       let some cells := Instr.fill (places[·]?) zero (ps.map fun (i, x) => (i, a.eval x)).toList | stuck "build: no such field, or a part of the wrong size"
       pure (.agg cells)
     | .array _ elem =>
       let size ← sizeOf elem
       let some cells := Instr.fill (fun i => some (i * size, size)) zero (ps.map fun (i, x) => (i, a.eval x)).toList | stuck "build: a part of the wrong size"
       pure (.agg cells)
     | _ => stuck "build: struct or array type expected") := rfl
 simp only [execOp, hb, Sem.run_bind, hz, dY hu, Result.andThen_ok, hm, Value.cells, Sem.run_pure]
 simp only [Array.toList_map]
 rw [this]; rfl
def qt (e : bQ) : Nat → List (Nat × Operand) → List Value → Prop
 | _, [], [] => True
 | i, (j, x) :: ps, v :: vs => j = i ∧ ev e x = some v ∧ v.oneCell' = true ∧ qt e (i + 1) ps vs
 | _, _, _ => False
theorem u5 {a : Act} (he : ∀ x v, ev e x = some v → a.eval x = v) : ∀ (ps : List (Nat × Operand)) (vs done l : List Value), qt e done.length ps vs → l.length = vs.length →
    Instr.fill (fun i => some (i * 1, 1)) (done ++ l).toArray (ps.map fun (i, x) => (i, a.eval x)) = some (done ++ vs).toArray
 | [], [], done, l, _, hl => by
  have : l = [] := List.length_eq_zero_iff.1 hl
  subst this; rfl
 | [], _ :: _, _, _, h, _ => h.elim
 | _ :: _, [], _, _, h, _ => by cases h
 | (j, x) :: ps, v :: vs, done, [], _, hl => by cases hl
 | (j, x) :: ps, v :: vs, done, z :: l, h, hl => by
  obtain ⟨rfl, hx, h1, hr⟩ := h
  have hv := he x v hx
  simp only [List.map_cons, Instr.fill, hv, ku h1, List.size_toArray, List.length_cons, List.length_nil, Nat.zero_add, ne_eq, not_true_eq_false, decide_false, Bool.false_or, Nat.mul_one]
  have e1 : Array.foldl (fun cs (x : Value × Nat) => cs.setIfInBounds (done.length + x.2) x.1) (done ++ z :: l).toArray #[v].zipIdx = ((done ++ [v]) ++ l).toArray := by
   have := qq [v] (done ++ z :: l) done.length
   simp only [setR] at this
   rw [show (#[v] : Array Value) = [v].toArray from rfl, this]
   simp
  rw [e1]
  have := u5 he ps vs (done ++ [v]) l (by simpa using hr) (by simpa using hl)
  simp only [Nat.mul_one] at this
  rw [this]; simp
theorem u6 : ∀ (ps : List (Nat × Operand)) (i : Nat) (vs : List Value), eL e (ps.map (·.2)) = some vs → ps.map (·.1) = List.range' i ps.length → eM vs = true → qt e i ps vs
 | [], _, vs, h, _, _ => by simp [eL] at h; subst h; trivial
 | (j, x) :: ps, i, vs, h, hi, h1 => by
  simp only [List.map_cons, eL] at h
  cases hv : ev e x with
  | none => rw [hv] at h; cases h
  | some v =>
   rw [hv] at h
   cases hvs : eL e (ps.map (·.2)) with
   | none => simp only [hvs] at h; cases h
   | some vs' =>
    simp only [hvs, Option.some.injEq] at h
    subst h
    simp only [List.map_cons, List.length_cons, List.range'_succ, List.cons.injEq] at hi
    simp only [eM, List.all_cons, Bool.and_eq_true] at h1
    exact ⟨hi.1, hv, h1.1, u6 ps (i + 1) vs' hvs hi.2 h1.2⟩
theorem gD {E n : Nat} {z : Value} {ps : Array (Nat × Operand)} (hu : P.underlying t = some (.slice E)) (hs : ∀ w, (sizeOf E).run P w = .ok 1 w) (hz : ∀ w, (zeroValue E).run P w = .ok z w) (hz1 : z.oneCell' = true)
    (hev : eL e (ps.toList.map (·.2)) = some vs) (hix : ps.toList.map (·.1) = List.range' 0 ps.toList.length) (ha1 : eM vs = true) (hn : vs.length = n) (hn0 : n ≠ 0) (hn2 : n ≤ 1000) :
    dl P W0 N e A (.buildSlice t n ps) (fun v B => ∃ b, v = .slice (some ⟨b, 0, none⟩) n n ∧ B = pt b (ax vs E) :: A) :=
  kw (g := fun b => .slice (some ⟨b, 0, none⟩) n n) (fun a w _ _ _ _ _ hF _ => by
 have hel := u6 ps.toList 0 vs hev hix ha1
 have hfl := u5 (fun x v h => hF.eval h) ps.toList vs [] (List.replicate n z) (by simpa using hel) (by simpa using hn.symm)
 simp only [Nat.mul_one, List.nil_append] at hfl
 have hr : (Array.range n).map (fun i => (#[z] : Array Value)[i % (#[z] : Array Value).size]!) = (List.replicate n z).toArray := by
  apply Array.ext
  simp
  intro i h1 h2; simp [Nat.mod_one]
 have hbig : ¬ (n > 2 ^ 24) := by omega
 simp only [execOp, Instr.buildSlice, Sem.run_bind, dY hu, Result.andThen_ok, hs, Nat.mul_one, Array.toList_map, Sem.run_ite, if_neg hbig, if_neg hn0, hz, Sem.run_pure, ku hz1, hr]
 rw [hfl]
 rfl)
theorem aU {f : FuncId} {xs : Array Operand} {ats : Array TypeId} {Post : Value → List HP → Prop} (hc : ∀ args w, (callFunc f args).run P w = .ok (.enter f args) w) (hx : eL e xs.toList = some vs)
    (hs : aC P W0 f vs A Post) : dl P W0 N e A (.call { callee := .value (.func f), args := xs, argTypes := ats }) Post := by
 intro a w dst ty pos af g K Q hF hO k
 unfold Oper.wp
 rw [execOp_call_go]
 have he : (#[] ++ xs.map a.eval ++ #[] : Array Value) = vs.toArray := by
  have := hF.evals hx
  rw [← this]; apply Array.ext'; simp
 rw [he, hc]
 refine (hs w hO).mono ?_
 rintro _ w' ⟨v, B, rfl, hp, hO'⟩
 exact k v w' B hp hO'
theorem jN {Post : Value → List HP → Prop} (hp : A.Perm B) (h : dl P W0 N e B op Post) : dl P W0 N e A op Post :=
  fun a w dst ty pos af g K Q hF hO k => h a w dst ty pos af g K Q hF (hO.perm hp) k
theorem bn {K1 X1 : Type} {r1 : K1 → X1 → HP} {b1 : K1} {x1 : X1} {f : FuncId} {xs : Array Operand} {ats : Array TypeId} {Post : Value → List HP → Prop} (hc : ∀ args w, (callFunc f args).run P w = .ok (.enter f args) w) (hx : eL e xs.toList = some vs)
    (hs : aC P W0 f vs (r1 b1 x1 :: R) Post) [h1 : Tk r1 b1 A x1 R] : dl P W0 N e A (.call { callee := .value (.func f), args := xs, argTypes := ats }) Post :=
  jN h1.perm (aU hc hx hs)
theorem eX {K1 K2 X1 X2 : Type} {r1 : K1 → X1 → HP} {b1 : K1} {x1 : X1} {R1 : List HP} {r2 : K2 → X2 → HP} {b2 : K2} {x2 : X2} {f : FuncId} {xs : Array Operand} {ats : Array TypeId} {Post : Value → List HP → Prop} (hc : ∀ args w, (callFunc f args).run P w = .ok (.enter f args) w) (hx : eL e xs.toList = some vs)
    (hs : aC P W0 f vs (r1 b1 x1 :: r2 b2 x2 :: R) Post) [h1 : Tk r1 b1 A x1 R1] [h2 : Tk r2 b2 R1 x2 R] : dl P W0 N e A (.call { callee := .value (.func f), args := xs, argTypes := ats }) Post :=
  jN (h1.perm.trans (h2.perm.cons _)) (aU hc hx hs)
theorem kx {K1 K2 K3 X1 X2 X3 : Type} {r1 : K1 → X1 → HP} {b1 : K1} {x1 : X1} {R1 : List HP} {r2 : K2 → X2 → HP} {b2 : K2} {x2 : X2} {R2 : List HP} {r3 : K3 → X3 → HP} {b3 : K3} {x3 : X3} {f : FuncId} {xs : Array Operand} {ats : Array TypeId} {Post : Value → List HP → Prop} (hc : ∀ args w, (callFunc f args).run P w = .ok (.enter f args) w) (hx : eL e xs.toList = some vs)
    (hs : aC P W0 f vs (r1 b1 x1 :: r2 b2 x2 :: r3 b3 x3 :: R) Post) [h1 : Tk r1 b1 A x1 R1] [h2 : Tk r2 b2 R1 x2 R2] [h3 : Tk r3 b3 R2 x3 R] : dl P W0 N e A (.call { callee := .value (.func f), args := xs, argTypes := ats }) Post :=
  jN (h1.perm.trans ((h2.perm.trans (h3.perm.cons _)).cons _)) (aU hc hx hs)
def mt : Nat → List Value → bQ
 | _, [] => []
 | i, v :: vs => (i, v) :: mt (i + 1) vs
theorem u7 : ∀ (vs : List Value) (i t : Nat) (v : Value), dW (mt i vs) t = some v → ∃ j, t = i + j ∧ vs[j]? = some v
 | [], i, t, v, h => by cases h
 | u :: vs, i, t, v, h => by
  by_cases c : i = t
  subst c; rw [mt, qa] at h; exact ⟨0, rfl, by simpa using h⟩
  rw [mt, qc c] at h
  obtain ⟨j, rfl, hj⟩ := u7 vs (i + 1) t v h
  exact ⟨j + 1, by omega, by simpa using hj⟩
abbrev kz (D : Nat) : Deferred := { target := .collected D, args := #[] }
def mu (P : Program) (W0 : World) (fn : Func) (Post : Value → List HP → Prop) : Exit → Act → World → Prop
 | .normal, a, w => bodyPostM (FW none) 0 P fn (fun e w' => ∃ v B, e = .returned v ∧ Post v B ∧ Own W0 w' B) .normal a w
 | .ret, a, w => bodyPostM (FW none) 0 P fn (fun e w' => ∃ v B, e = .returned v ∧ Post v B ∧ Own W0 w' B) .ret a w
 | _, _, _ => False
theorem yQ {fn : Func} {Post : Value → List HP → Prop} {ex : Exit} {a : Act} {w : World} (h : mu P W0 fn Post ex a w) : bodyPostM (FW none) 0 P fn (fun e w' => ∃ v B, e = .returned v ∧ Post v B ∧ Own W0 w' B) ex a w := by
 cases ex <;> first | exact h | exact h.elim
theorem aG {n : Nat} {f : FuncId} {fn : Func} {c : Code} {Post : Value → List HP → Prop} (hf : P.funcs[f]? = some fn) (hN : fn.ntmps = n) (hb : fn.body = some c) (hl : Nat.ble vs.length n = true)
    (k : aT W0 ⟨n, []⟩ (c.wpR none P (mu P W0 fn Post)) (mt 0 vs) A) : aC P W0 f vs A Post := by
 intro w hO
 refine (qf (rd := none) (n := 0)).1 (callsIn_of_wp_marks hf hb trivial (wpIn_mono (k _ w ⟨rfl, ?_, fun t v h => ?_⟩ hO) fun _ _ _ h => yQ h) rfl)
 have := Nat.le_of_ble_eq_true hl
 simp [hN]; omega
 obtain ⟨j, rfl, hj⟩ := u7 _ _ _ _ h
 have hlt : j < vs.length := by
  rcases Nat.lt_or_ge j vs.length with k | k
  exact k
  simp [List.getElem?_eq_none k] at hj
 simp [hlt] at hj ⊢
 rw [Array.getElem?_append_left (by simpa using hlt)]
 simp [hlt, hj]
def mw (a : Act) : ResultVar → Sem Value
 | .tmp t => pure (a.tmps.getD t undef)
 | .cell x t => do loadVar t (← asAddr (a.tmps.getD x undef))
def qu (P : Program) (W0 : World) (N : FSz) (e : bQ) (A : List HP) (r : ResultVar) (v : Value) : Prop :=
  ∀ a w, Fr a N e → Own W0 w A → (mw a r).run P w = .ok v w
theorem ak {t : Nat} (h : dW e t = some v) : qu P W0 N e A (.tmp t) v := fun a w hF _ => by
 simp [mw, Array.getD_eq_getD_getElem?, hF.at_ t v h]
theorem fG {x n : Nat} [h : Tk pt b A (ax l ty) R] (ha : ∀ w, (isAgg t).run P w = .ok true w) (hs : ∀ w, (sizeOf t).run P w = .ok n w) (hx : dW e x = some (.pointer (some ⟨b, 0, none⟩))) (hn : l.length = n) : qu P W0 N e A (.cell x t) (.agg l.toArray) := fun a w hF hO => by
 have hc : cY (bK W0 A) b 0 l := jL (by simp)
 have := od (P := P) (w := w) (fun i v hi => hc i v hi w hO) n 0 #[] (by omega)
 simp [mw, Array.getD_eq_getD_getElem?, hF.at_ x _ hx, asAddr, loadVar, ha, hs, loadCells, this]
inductive ResVs (P : Program) (W0 : World) (N : FSz) (e : bQ) (A : List HP) : List ResultVar → List Value → Prop
  | nil : ResVs P W0 N e A [] []
  | cons {r : ResultVar} {v : Value} {rs : List ResultVar} {vs : List Value} : qu P W0 N e A r v → ResVs P W0 N e A rs vs → ResVs P W0 N e A (r :: rs) (v :: vs)
theorem ResVs.run {rs : List ResultVar} {vs : List Value} (h : ResVs P W0 N e A rs vs) {a : Act} {w : World} (hF : Fr a N e) (hO : Own W0 w A) :
    (rs.mapM (mw a)).run P w = .ok vs w := by
 induction h with
 | nil => simp
 | cons h1 _ ih =>
  rw [List.mapM_cons, Sem.run_bind, h1 a w hF hO, Result.andThen_ok, Sem.run_bind, ih]; rfl
def cH : List Value → Value
 | [v] => v
 | vs => .tuple vs.toArray
theorem ResVs.all {fn : Func} {vs : List Value} (hr : ResVs P W0 N e A fn.results.toList vs) {a : Act} {w : World} (hF : Fr a N e) (hO : Own W0 w A) : (results fn a.tmps).run P w = .ok (cH vs) w := by
 have := hr.run hF hO
 have hres : results fn a.tmps = (do
     let vs ← fn.results.mapM (mw a)
     pure (if h : vs.size = 1 then vs[0] else .tuple vs)) := rfl
 rw [hres, Sem.run_bind, Array.mapM_eq_mapM_toList, Sem.run_map, this]
 simp only [Result.andThen_ok, Sem.run_pure]
 match vs with
 | [] => rfl
 | [v] => rfl
 | _ :: _ :: _ => rfl
theorem au {n : Nat} {fn : Func} {Post : Value → List HP → Prop} {vs : List Value} {ex : Exit} (hex : ex = .ret ∨ ex = .normal) (hr : ResVs P W0 ⟨n, []⟩ e A fn.results.toList vs) (hp : ∃ B, Post (cH vs) B ∧ Ent A B) : aT W0 ⟨n, []⟩ (Ex (mu P W0 fn Post) ex) e A := by
 intro a w hF hO
 obtain ⟨B, hB, hE⟩ := hp
 have hrun := hr.all hF hO
 have hd : a.defers = [] := hF.defers
 have : LeavesInM (FW none) 0 P fn a.tmps (fun e w' => ∃ v B, e = .returned v ∧ Post v B ∧ Own W0 w' B) a.defers .returning w := by
  rw [hd]; exact ⟨cH vs, hrun, cH vs, B, rfl, hB, hO.ent hE⟩
 rcases hex with rfl | rfl <;> exact this
theorem u9 {n D : Nat} {fn : Func} {Post : Value → List HP → Prop} {vs : List Value} {ex : Exit} (hex : ex = .ret ∨ ex = .normal) [h : Tk pt D A (.deferred (some [])) R] (hr : ResVs P W0 ⟨n, [kz D]⟩ e (pt D (.deferred none) :: R) fn.results.toList vs)
    (hp : ∃ B, Post (cH vs) B ∧ Ent (pt D (.deferred none) :: R) B) : aT W0 ⟨n, [kz D]⟩ (Ex (mu P W0 fn Post) ex) e A := by
 intro a w hF hO
 obtain ⟨B, hB, hE⟩ := hp
 have hO1 := hO.tk (r := pt) (b := D)
 have hK := hO1.has
 have hO2 : Own W0 (w.putObj D (.deferred none)) (pt D (.deferred none) :: R) :=
   hO1.set rfl rfl rfl (by simp) (World.putObj_heap_same (by
     rcases Nat.lt_or_ge D w.heap.size with q | q
     · exact q
     have := hK.2; rw [Array.getElem?_eq_none q] at this; cases this)) (fun k hk => World.putObj_heap_other hk)
 have hrun := hr.all hF hO2
 have hd : a.defers = [kz D] := hF.defers
 have : LeavesInM (FW none) 0 P fn a.tmps (fun e w' => ∃ v B, e = .returned v ∧ Post v B ∧ Own W0 w' B) a.defers .returning w := by
  rw [hd]
  exact ⟨by simp, .inl ⟨D, _, rfl, run_takeDeferred hK.2, cH vs, hrun, cH vs, B, rfl, hB, hO2.ent hE⟩⟩
 rcases hex with rfl | rfl <;> exact this
theorem ce {E n c j sz o' : Nat} {k : IntKind} {i : Int} (hu : P.underlying t = some (.slice E)) (hs : ∀ w, (sizeOf E).run P w = .ok sz w) (hx : ev e x = some (.slice (some ⟨b, off, none⟩) n c)) (hy : ev e y = some (.int k i))
    (hi : i = (j : Int)) (hj : j < n) (ho : off + j * sz = o') : cC P S N e (.indexAddr t x y) (.pointer (some ⟨b, o', none⟩)) := fun a w _ _ _ _ _ hF _ => by
 subst hi; subst ho
 simp [execOp, Instr.indexAt, hF.eval hx, hF.eval hy, asIntOf, dY hu, hs, fu]
 omega
theorem dO {E n j sz o' : Nat} {k : IntKind} {i : Int} (hu : P.underlying t = some (.array n E)) (hs : ∀ w, (sizeOf E).run P w = .ok sz w) (hx : ev e x = some (.pointer (some ⟨b, off, none⟩))) (hy : ev e y = some (.int k i))
    (hi : i = (j : Int)) (hj : j < n) (ho : off + j * sz = o') : cC P S N e (.indexAddr t x y) (.pointer (some ⟨b, o', none⟩)) := fun a w _ _ _ _ _ hF _ => by
 subst hi; subst ho
 simp [execOp, Instr.indexAt, hF.eval hx, hF.eval hy, asIntOf, dY hu, hs, fu, Instr.sureAddr]
 omega
end
theorem aZ {n : Int} (h : -9223372036854775808 ≤ n ∧ n < 9223372036854775808) : IntKind.wrap .i64 n = n := by
 simp only [IntKind.wrap, IntKind.bits, IntKind.signed]; simp; omega
theorem jO {n : Int} (h : 0 ≤ n ∧ n < 4294967296) : IntKind.wrap .u32 n = n := by
 simp only [IntKind.wrap, IntKind.bits, IntKind.signed]; simp; omega
theorem oj {n : Int} (h : 0 ≤ n ∧ n < 18446744073709551616) : IntKind.wrap .u64 n = n := by
 simp only [IntKind.wrap, IntKind.bits, IntKind.signed]; simp; omega
class BP (b : Bool) (p : outParam Prop) : Prop where
  iff : b = true ↔ p
instance FF {p : Prop} [Decidable p] : BP (decide p) p := ⟨by simp⟩
instance FG {m n : Int} : BP (m == n) (m = n) := ⟨by simp⟩
instance FH {m n : Int} : BP (m != n) (m ≠ n) := ⟨by simp⟩
instance FI {p q : Bool} : BP (p == q) (p = q) := ⟨by simp⟩
instance FJ {b : Bool} {p : Prop} [h : BP b p] : BP (!b) (¬ p) := ⟨by rw [← h.iff]; simp⟩
instance FK {b c : Bool} {p q : Prop} [h : BP b p] [k : BP c q] : BP (b && c) (p ∧ q) := ⟨by rw [← h.iff, ← k.iff]; simp⟩
instance FL {b c : Bool} {p q : Prop} [h : BP b p] [k : BP c q] : BP (b || c) (p ∨ q) := ⟨by rw [← h.iff, ← k.iff]; simp⟩
instance FM {α : Type} {p : Option α} : BP p.isNone (p = none) := ⟨by simp⟩
instance (priority := low) bp_var {b : Bool} : BP b (b = true) := ⟨Iff.rfl⟩
section
variable {rd : Option Nat} {P : Program} {W0 : World} {N : FSz} {Q : Exit → Act → World → Prop} {e : bQ} {A : List HP} {ops : Array Oper} {rest : List Oper} {op : Op} {ty : TypeId} {pos : String} {af : Array Edge}
theorem aw {c : Nat} {p : Prop} {b : Bool} {xc yc : Code} (hv : dW e c = some (.bool b)) [h : BP b p]
    (ht : p → aT W0 N (xc.wpR rd P Q) ((c, .bool true) :: e) A) (hf : ¬ p → aT W0 N (yc.wpR rd P Q) ((c, .bool false) :: e) A) : aT W0 N ((Code.cond (.tmp c) xc yc).wpR rd P Q) e A :=
  yG rfl hv (fun hb => ht (h.iff.1 hb)) (fun hb => hf (fun k => by rw [h.iff.2 k] at hb; cases hb))
theorem cg {c : Nat} {xc yc : Code} (hv : dW e c = some (.bool true)) (k : aT W0 N (xc.wpR rd P Q) e A) : aT W0 N ((Code.cond (.tmp c) xc yc).wpR rd P Q) e A :=
  fun a w hF hO => wpIn_cond_true (hF.eval (x := .tmp c) hv) (k a w hF hO)
theorem eY {c : Nat} {xc yc : Code} (hv : dW e c = some (.bool false)) (k : aT W0 N (yc.wpR rd P Q) e A) : aT W0 N ((Code.cond (.tmp c) xc yc).wpR rd P Q) e A :=
  fun a w hF hO => wpIn_cond_false (hF.eval (x := .tmp c) hv) (k a w hF hO)
theorem cJ {j t d : Nat} {b : Bool} {p : Prop} (ht : iG ops j = some t) (hv : dW e t = some (.bool b)) (hd : Nat.blt d N.n = true) [h : BP b p]
    (h1 : p → aT W0 N (di rd P ops Q ({ dst := some d, op := op, type := ty, pos := pos, after := af, guard := none } :: rest)) ((t, .bool true) :: e) A)
    (h2 : ¬ p → aT W0 N (di rd P ops Q rest) ((d, undef) :: (t, .bool false) :: e) A) :
    aT W0 N (di rd P ops Q ({ dst := some d, op := op, type := ty, pos := pos, after := af, guard := some (j, true) } :: rest)) e A :=
  tN (dst := some d) ht hv hd (fun hb => h1 (h.iff.1 hb)) (fun hb => h2 (fun k => by rw [h.iff.2 k] at hb; cases hb))
theorem bC {j t d : Nat} {b : Bool} {p : Prop} (ht : iG ops j = some t) (hv : dW e t = some (.bool b)) (hd : Nat.blt d N.n = true) [h : BP b p]
    (h1 : p → aT W0 N (di rd P ops Q rest) ((d, undef) :: (t, .bool true) :: e) A)
    (h2 : ¬ p → aT W0 N (di rd P ops Q ({ dst := some d, op := op, type := ty, pos := pos, after := af, guard := none } :: rest)) ((t, .bool false) :: e) A) :
    aT W0 N (di rd P ops Q ({ dst := some d, op := op, type := ty, pos := pos, after := af, guard := some (j, false) } :: rest)) e A :=
  tN (dst := some d) ht hv hd (fun hb => h2 (fun k => by rw [h.iff.2 k] at hb; cases hb)) (fun hb => h1 (h.iff.1 hb))
end
end
section
theorem ua {n : Nat} (a : Nat) : BitVec.ofInt n (a : Int) = BitVec.ofNat n a := by
 simp
theorem yR {a b : Nat} (ha : a < 4294967296) (hb : b < 4294967296) : (BitVec.ofNat 32 a ||| BitVec.ofNat 32 b).toNat = a ||| b := by
 simp only [BitVec.toNat_or, BitVec.toNat_ofNat]
 rw [Nat.mod_eq_of_lt (show a < 2 ^ 32 by omega), Nat.mod_eq_of_lt (show b < 2 ^ 32 by omega)]
theorem yS {a b : Nat} (ha : a < 4294967296) (hb : b < 4294967296) : o8 .u32 a b = ((a ||| b : Nat) : Int) := by
 have h : a ||| b < 2 ^ 32 := Nat.or_lt_two_pow (by omega) (by omega)
 show IntKind.wrap .u32 ((BitVec.ofInt 32 (a : Int) ||| BitVec.ofInt 32 (b : Int)).toNat : Int) = _
 rw [ua, ua, yR ha hb]
 exact jO (by omega)
theorem ol {k : IntKind} {a s : Nat} (hs : s ≤ k.bits) : lp k a s = ((a / 2 ^ s : Nat) : Int) := by
 unfold lp
 simp only [Int.toNat_natCast, Nat.min_eq_left hs]
 rw [Int.fdiv_eq_ediv_of_nonneg _ (by have := Int.pow_pos (n := (2 : Int)) (m := s) (by omega); omega)]
 push_cast; rfl
theorem yT {a n : Nat} : a &&& (2 ^ n - 1) = a % 2 ^ n := Nat.and_two_pow_sub_one_eq_mod a n
end
section
open Go.RowKit
class POk (Q : Exit → Act → World → Prop) : Prop where
  ok : ∀ c a d v w, Q (.panic c) (a.put d v) w → Q (.panic c) a w
instance FN {n : Act → World → Prop} {Q : Exit → Act → World → Prop} [h : POk Q] : POk (Exit.then n Q) := ⟨fun c a d v w k => h.ok c a d v w k⟩
instance FO {id : Nat} {Q : Exit → Act → World → Prop} [h : POk Q] : POk (Exit.inBlock id Q) := ⟨fun c a d v w k => h.ok c a d v w k⟩
instance FP {P : Program} {W0 : World} {fn : Func} {Post : Value → List HP → Prop} : POk (mu P W0 fn Post) := ⟨fun c a d v w k => k.elim⟩
def SC (cs : List (Nat × Nat × List Value)) : World → Prop := fun w => ∀ c, c ∈ cs → ∀ i v, c.2.2[i]? = some v → w.cell? ⟨c.1, c.2.1 + i, none⟩ = some v
section
variable {rd : Option Nat} {P : Program} {S : World → Prop} {W0 : World} {N : FSz} {Q : Exit → Act → World → Prop} {e : bQ} {A B R : List HP} {ops : Array Oper}
variable {op : Op} {ty t : TypeId} {pos : String} {af : Array Edge} {v : Value} {d b off : Nat} {l : List Value} {cs : List (Nat × Nat × List Value)} {g : Option (Nat × Bool)} {n i : Nat} {listed : Array Bool}
theorem yU {w : World} : SC [] w := fun _ h => by cases h
theorem cW (h : cY (bK W0 A) b off l) (k : ∀ w, Own W0 w A → SC cs w) : ∀ w, Own W0 w A → SC ((b, off, l) :: cs) w := fun w hO c hc => by
 rcases List.mem_cons.1 hc with rfl | hc
 exact fun i v hi => h i v hi w hO
 exact k w hO c hc
theorem aK [h : Tk pt b A (ax l t) R] (k : ∀ w, Own W0 w A → SC cs w) : ∀ w, Own W0 w A → SC ((b, 0, l) :: cs) w := cW (jL (by simp)) k
theorem aJ : ∀ w, Own W0 w A → SC [] w := fun _ _ => yU
theorem fv {j k o : Nat} (hk : cs[k]? = some (b, o, l)) (hj : l[j]? = some v) : iI (SC cs) b (o + j) v := fun w hS => hS _ (List.mem_of_getElem? hk) j v hj
theorem aD {j k : Nat} (hk : cs[k]? = some (b, 0, l)) (hj : l[j]? = some v) : iI (SC cs) b j v := by
 have := fv hk hj; rwa [Nat.zero_add] at this
theorem dm {k : Nat} (hk : cs[k]? = some (b, off, l)) : cY (SC cs) b off l := fun j v hj => fv hk hj
theorem my {k : Nat} (hk : cs[k]? = some (b, off, [v])) : iI (SC cs) b off v := fv (j := 0) hk rfl
def gw (ops : Array Oper) (e : bQ) : Option (Nat × Bool) → Option Bool
 | none => some true
 | some (j, want) => match iG ops j with
   | some t => match dW e t with
     | some (.bool b) => some (b == want)
     | some (.tuple _) => some false
     | _ => none
   | none => none
theorem om {dst : Option Tmp} {a : Act} {r : Bool} (hF : Fr a N e) (h : gw ops e g = some r) : Region.wanted { dst := dst, op := op, type := ty, pos := pos, after := af, guard := g } (yielded ops a.tmps) = r := by
 match g, h with
 | none, h => simp [gw] at h; subst h; rfl
 | some (j, want), h =>
  unfold gw at h
  cases ht : iG ops j with
  | none => simp only [ht] at h; cases h
  | some t =>
   simp only [ht] at h
   cases hv : dW e t with
   | none => simp only [hv] at h; cases h
   | some u =>
    simp only [hv] at h
    have hy : yielded ops a.tmps j = match u with | .bool b => some b | _ => none := by
     have hv' := hF.at_ t _ hv
     unfold iG at ht
     simp only [yielded]
     cases hj : ops[j]? with
     | none => rw [hj] at ht; cases ht
     | some o =>
      rw [hj] at ht
      simp only [Option.bind_some] at ht
      simp only [Option.bind_some, ht, hv']
      cases u <;> rfl
    cases u <;> simp only [Option.some.injEq, reduceCtorEq] at h
    rename_i c
    simp only [Region.wanted, hy]; subst h; cases c <;> cases want <;> rfl
    simp only [Region.wanted, hy]; subst h; rfl
theorem jy {K : Act → World → Prop} {p : Prop} {c : Bool} {t : Nat} (hv : dW e t = some (.bool c)) [h : BP c p] (ht : p → aT W0 N K ((t, .bool true) :: e) A) (hf : ¬ p → aT W0 N K ((t, .bool false) :: e) A) : aT W0 N K e A := by
 intro a w hF hO
 by_cases k : p
 exact ht k a w (hF.sub (aV (by rw [hv, h.iff.2 k]) mo)) hO
 have : c = false := by
  cases hc : c with
  | false => rfl
  | true => exact absurd (h.iff.1 hc) k
 exact hf k a w (hF.sub (aV (by rw [hv, this]) mo)) hO
def DR (P : Program) (ops : Array Oper) (Q : Exit → Act → World → Prop) (cs : List (Nat × Nat × List Value)) (n : Nat) (listed : Array Bool) : Act → World → Prop := wpAnyH P .any ops Q (SC cs) n listed
theorem cA {id : Nat} (cs : List (Nat × Nat × List Value)) (n : Nat) (hm : P.follows .mixedOrders = true) (hn : Nat.beq ops.size n = true) (hS : ∀ w, Own W0 w A → SC cs w) (k : (∀ w, Own W0 w A → SC cs w) → aT W0 N (DR P ops Q cs n (Array.replicate n false)) e A) : aT W0 N ((Code.region id ops true).wpR none P Q) e A := by
 intro a w hF hO
 have : ops.size = n := Nat.eq_of_beq_eq_true hn
 subst this
 exact qe.2 <| wp_region_held hm (k hS a _ hF (hO.drew _))
theorem aj (i : Nat) (ho : ops[i]? = some ⟨some d, op, ty, pos, af, g⟩) (hg : gw ops e g = some true) (hs : Region.noSelect ops = true) (hf : Region.free .any ops listed i = true) (hr : (Region.ready .any ops listed).contains i = true)
    (hd : Nat.blt d N.n = true) [hq : POk Q] (hS : ∀ w, Own W0 w A → SC cs w) (hv : cC P (SC cs) N e op v) (k : aT W0 N (DR P ops Q cs n (listed.setIfInBounds i true)) ((d, v) :: e) A) : aT W0 N (DR P ops Q cs (n + 1) listed) e A := by
 intro a w hF hO
 refine wpAnyH_take (v := v) ho hs hf hr (fun c a w => hq.ok c a _ v w) (.inl ⟨om hF hg, fun w hw => hv a w _ _ _ _ _ hF hw⟩) (hS w hO) ?_
 exact k _ _ (hF.put (Nat.lt_of_succ_le (Nat.le_of_ble_eq_true hd)) v) hO
theorem bz (i : Nat) (ho : ops[i]? = some ⟨some d, op, ty, pos, af, g⟩) (hg : gw ops e g = some false) (hs : Region.noSelect ops = true) (hf : Region.free .any ops listed i = true) (hr : (Region.ready .any ops listed).contains i = true)
    (hd : Nat.blt d N.n = true) [hq : POk Q] (hS : ∀ w, Own W0 w A → SC cs w) (k : aT W0 N (DR P ops Q cs n (listed.setIfInBounds i true)) ((d, undef) :: e) A) : aT W0 N (DR P ops Q cs (n + 1) listed) e A := by
 intro a w hF hO
 refine wpAnyH_take (v := undef) ho hs hf hr (fun c a w => hq.ok c a _ undef w) (.inr ⟨om hF hg, rfl⟩) (hS w hO) ?_
 exact k _ _ (hF.put (Nat.lt_of_succ_le (Nat.le_of_ble_eq_true hd)) undef) hO
theorem bA {dst : Option Tmp} {Post : Value → List HP → Prop} (i : Nat) (hr : Region.ready .any ops listed = [i]) (ho : ops[i]? = some ⟨dst, op, ty, pos, af, g⟩) (hg : gw ops e g = some true) (h : dl P W0 N e A op Post)
    (hd : (match dst with | some d => Nat.blt d N.n | none => true) = true)
    (k : ∀ v B, Post v B → (∀ w, Own W0 w B → SC cs w) ∧ ((∀ w, Own W0 w B → SC cs w) → aT W0 N (DR P ops Q cs n (listed.setIfInBounds i true)) (match (generalizing := false) dst with | some d => (d, v) :: e | none => e) B)) : aT W0 N (DR P ops Q cs (n + 1) listed) e A := by
 intro a w hF hO
 refine wpAnyH_all hr (by simp) fun j hj => ?_
 obtain rfl : j = i := by simpa using hj
 unfold wpOp
 simp only [ho, om hF hg, if_true]
 refine .inl (h a w _ _ _ _ _ _ _ hF hO fun v w' B hp hO' => ?_)
 obtain ⟨k1, k2⟩ := k v B hp
 refine ⟨k1 w' hO', ?_⟩
 have k2 := k2 k1
 cases dst with
 | none => exact k2 a w' hF hO'
 | some d => exact k2 _ w' (hF.put (Nat.lt_of_succ_le (Nat.le_of_ble_eq_true hd)) v) hO'
def DX (P : Program) (ops : Array Oper) (Q : Exit → Act → World → Prop) (cs : List (Nat × Nat × List Value)) (n : Nat) (listed : Array Bool) (i : Nat) : Act → World → Prop :=
  wpOp P ops Q i (fun a' w' => SC cs w' ∧ DR P ops Q cs n (listed.setIfInBounds i true) a' w')
def mz (W0 : World) (N : FSz) (K : Nat → Act → World → Prop) (e : bQ) (A : List HP) : List Nat → Prop
 | [] => True
 | i :: is => aT W0 N (K i) e A ∧ mz W0 N K e A is
theorem mz.at_ {K : Nat → Act → World → Prop} : ∀ {is : List Nat}, mz W0 N K e A is → ∀ i ∈ is, aT W0 N (K i) e A
 | _ :: _, h, i, hi => by
  rcases List.mem_cons.1 hi with rfl | hi
  exact h.1
  exact mz.at_ h.2 i hi
theorem io {is : List Nat} (hr : Region.ready .any ops listed = is) (hne : is.isEmpty = false) (h : mz W0 N (DX P ops Q cs n listed) e A is) : aT W0 N (DR P ops Q cs (n + 1) listed) e A := by
 intro a w hF hO
 exact wpAnyH_all hr (by intro h0; subst h0; cases hne) fun i hi => h.at_ i hi a w hF hO
theorem eD {dst : Option Tmp} {Post : Value → List HP → Prop} {i : Nat} (ho : ops[i]? = some ⟨dst, op, ty, pos, af, g⟩) (hg : gw ops e g = some true) (h : dl P W0 N e A op Post)
    (hd : (match dst with | some d => Nat.blt d N.n | none => true) = true)
    (k : ∀ v B, Post v B → (∀ w, Own W0 w B → SC cs w) ∧ ((∀ w, Own W0 w B → SC cs w) → aT W0 N (DR P ops Q cs n (listed.setIfInBounds i true)) (match (generalizing := false) dst with | some d => (d, v) :: e | none => e) B)) : aT W0 N (DX P ops Q cs n listed i) e A := by
 intro a w hF hO
 unfold DX wpOp
 simp only [ho, om hF hg, if_true]
 refine .inl (h a w _ _ _ _ _ _ _ hF hO fun v w' B hp hO' => ?_)
 obtain ⟨k1, k2⟩ := k v B hp
 refine ⟨k1 w' hO', ?_⟩
 have k2 := k2 k1
 cases dst with
 | none => exact k2 a w' hF hO'
 | some d => exact k2 _ w' (hF.put (Nat.lt_of_succ_le (Nat.le_of_ble_eq_true hd)) v) hO'
theorem bL (hr : Region.ready .any ops listed = []) (k : aT W0 N (Ex Q .normal) e A) : aT W0 N (DR P ops Q cs n listed) e A := fun a w hF hO => wpAnyH_done hr (k a w hF hO) n
end
section
variable {α : Type} {f : α → List Value} {k : Nat}
theorem dr (hf : ∀ x, (f x).length = k) : ∀ (l : List α), (l.flatMap f).length = l.length * k
 | [] => by simp
 | x :: l => by rw [List.flatMap_cons, List.length_append, hf, dr hf l, List.length_cons, Nat.succ_mul, Nat.add_comm]
theorem qv (hf : ∀ x, (f x).length = k) : ∀ (l : List α) (i : Nat) (sp : List Value), i ≤ l.length → (l.flatMap f ++ sp).drop (i * k) = (l.drop i).flatMap f ++ sp
 | l, 0, sp, _ => by simp
 | [], i + 1, sp, h => by simp at h
 | x :: l, i + 1, sp, h => by
  have h0 : (f x ++ (l.flatMap f ++ sp)).drop k = l.flatMap f ++ sp := by
   rw [List.drop_append_of_le_length (by rw [hf]; omega), List.drop_of_length_le (by rw [hf]; omega), List.nil_append]
  rw [List.flatMap_cons, List.append_assoc, Nat.succ_mul, Nat.add_comm (i * k) k, ← List.drop_drop, h0, List.drop_succ_cons]
  exact qv hf l i sp (by simpa using h)
theorem mB (hf : ∀ x, (f x).length = k) (l : List α) (i : Nat) (sp : List Value) (h : i < l.length) : ((l.flatMap f ++ sp).drop (i * k)).take k = f l[i] := by
 rw [qv hf l i sp (by omega), List.drop_eq_getElem_cons h, List.flatMap_cons, List.append_assoc]
 rw [List.take_append_of_le_length (by rw [hf]; omega), List.take_of_length_le (by rw [hf]; omega)]
theorem jz (hf : ∀ x, (f x).length = k) (l : List α) (i j : Nat) (sp : List Value) (h : i < l.length) (hj : j < k) : (l.flatMap f ++ sp)[i * k + j]? = (f l[i])[j]? := by
 have := congrArg (fun r => r[j]?) (mB hf l i sp h)
 simp only [List.getElem?_take_of_lt hj, List.getElem?_drop] at this
 exact this
theorem lw : ∀ (vs l : List Value) (i : Nat), i + vs.length ≤ l.length → setR l i vs = l.take i ++ vs ++ l.drop (i + vs.length)
 | [], l, i, h => by simp [setR]
 | v :: vs, l, i, h => by
  simp only [List.length_cons] at h
  rw [setR, lw vs (l.set i v) (i + 1) (by simp; omega)]
  have h1 : (l.set i v).take (i + 1) = l.take i ++ [v] := by
   rw [List.take_set, List.take_succ_eq_append_getElem (by omega)]
   rw [List.set_append_right _ _ (by simp; omega)]
   simp [Nat.min_eq_left (show i ≤ l.length by omega)]
  have h2 : (l.set i v).drop (i + 1 + vs.length) = l.drop (i + (vs.length + 1)) := by
   rw [List.drop_set_of_lt (by omega)]; congr 1; omega
  rw [h1, h2]; simp
theorem yV (hf : ∀ x, (f x).length = k) (l : List α) (i : Nat) (sp : List Value) (h : i ≤ l.length) : (l.flatMap f ++ sp).take (i * k) = (l.take i).flatMap f := by
 have e : l.flatMap f = (l.take i).flatMap f ++ (l.drop i).flatMap f := by rw [← List.flatMap_append, List.take_append_drop]
 have hl : ((l.take i).flatMap f).length = i * k := by rw [dr hf, List.length_take, Nat.min_eq_left h]
 rw [e, List.append_assoc, List.take_append_of_le_length (by omega), List.take_of_length_le (by omega)]
theorem oo (hf : ∀ x, (f x).length = k) (l : List α) (i : Nat) (x : α) (sp : List Value) (h : i < l.length) : setR (l.flatMap f ++ sp) (i * k) (f x) = (l.set i x).flatMap f ++ sp := by
 have hlen := dr hf l
 have hb : i * k + k ≤ l.length * k := by have := Nat.mul_le_mul_right k (show i + 1 ≤ l.length by omega); rw [Nat.succ_mul] at this; exact this
 rw [lw _ _ _ (by rw [hf, List.length_append]; omega), hf, yV hf l i sp (by omega)]
 have e : i * k + k = (i + 1) * k := by rw [Nat.succ_mul]
 rw [e, qv hf l (i + 1) sp (by omega), List.set_eq_take_append_cons_drop, if_pos h]
 simp [List.flatMap_append, List.flatMap_cons]
theorem yW (L : List Value) (o k j : Nat) (v : Value) (h : o + k ≤ L.length) (hj : j < k) : L.take o ++ ((L.drop o).take k).set j v ++ L.drop (o + k) = L.set (o + j) v := by
 have e : L = L.take o ++ ((L.drop o).take k ++ L.drop (o + k)) := by
  rw [← List.drop_drop, List.take_append_drop, List.take_append_drop]
 have h1 : (L.take o).length = o := by rw [List.length_take]; omega
 have h2 : ((L.drop o).take k).length = k := by rw [List.length_take, List.length_drop]; omega
 conv => rhs; rw [e]
 rw [List.set_append_right _ _ (by omega), h1, Nat.add_sub_cancel_left, List.set_append_left _ _ (by omega), List.append_assoc]
theorem mD (hf : ∀ x, (f x).length = k) (l : List α) (i j : Nat) (v : Value) (x : α) (sp : List Value) (h : i < l.length) (hj : j < k) (hx : f x = (f l[i]).set j v) : (l.flatMap f ++ sp).set (i * k + j) v = (l.set i x).flatMap f ++ sp := by
 have hb : i * k + k ≤ l.length * k := by have := Nat.mul_le_mul_right k (show i + 1 ≤ l.length by omega); rw [Nat.succ_mul] at this; exact this
 have hlen := dr hf l
 have hle : i * k + k ≤ (l.flatMap f ++ sp).length := by rw [List.length_append, hlen]; omega
 rw [← oo hf l i x sp h, hx, ← mB hf l i sp h, lw _ _ _ (by rw [List.length_set, List.length_take, List.length_drop]; omega)]
 rw [List.length_set, List.length_take, List.length_drop, Nat.min_eq_left (by omega)]
 exact (yW _ _ _ _ _ hle hj).symm
end
section
variable {rd : Option Nat} {P : Program} {S : World → Prop} {W0 : World} {N : FSz} {Q : Exit → Act → World → Prop} {e : bQ} {A B R : List HP} {ops : Array Oper} {rest : List Oper}
variable {op : Op} {ty t t' : TypeId} {pos : String} {af : Array Edge} {v u : Value} {d b off : Nat} {x y : Operand} {l l' vs : List Value}
theorem kA {de : TypeDesc} (hu : P.underlying t = some de) (hn : ∀ ms, de ≠ .interface ms) (hx : ev e x = some v) : cC P S N e (.makeInterface t x) (.iface t v) := fun a w _ _ _ _ _ hF _ => by
 simp only [execOp, Instr.makeInterface, hF.eval hx, Sem.run_bind, dY hu, Result.andThen_ok]
 cases de <;> first | rfl | exact absurd rfl (hn _)
theorem oq {de : TypeDesc} (hu : P.underlying t' = some de) (hn : ∀ ms, de ≠ .interface ms) (hx : ev e x = some (.iface t' v)) : cC P S N e (.typeAssert x t t' false) v := fun a w _ _ _ _ _ hF _ => by
 simp only [execOp, Instr.typeAssert, hF.eval hx, Sem.run_bind, dY hu, Result.andThen_ok]
 cases de <;> first | (simp; done) | exact absurd rfl (hn _)
theorem ip {fn : Fn} {fs cs : Array Operand} {us : List Value} (h1 : eL e fs.toList = some us) (h2 : eL e cs.toList = some vs) : cC P S N e (.makeFunc fn fs cs) (.func fn us.toArray vs.toArray) := fun a w _ _ _ _ _ hF _ => by
 have e1 : fs.map a.eval = us.toArray := by rw [← hF.evals h1]; apply Array.ext'; simp
 have e2 : cs.map a.eval = vs.toArray := by rw [← hF.evals h2]; apply Array.ext'; simp
 simp [execOp, Instr.makeFunc, e1, e2]
theorem add_zero (a : Addr) : a.add 0 = a := rfl
theorem kB {E n c : Nat} {a' : Option Addr} {k : IntKind} {h : Nat} {i : Int} (hu : P.underlying t = some (.slice E)) (hs : ∀ w, (sizeOf E).run P w = .ok d w) (hx : ev e x = some (.slice a' n c)) (hy : ev e y = some (.int k i)) (hi : i = (h : Int)) (hc : h ≤ c) :
    cC P S N e (.slice t x none (some y) none) (.slice a' h c) := fun a w _ _ _ _ _ hF _ => by
 subst hi
 have h1 : (0 : Int) ≤ (h : Int) ∧ (h : Int) ≤ (c : Int) := by omega
 simp only [execOp, Instr.sliceAt, Instr.slice, hF.eval hx, hF.eval hy, Sem.run_bind, dY hu, Result.andThen_ok, Option.map_none, Option.map_some, Instr.sliceBounds, Instr.sliceBound, asIntOf, hs, Sem.run_pure, h1, and_self, if_true]
 by_cases hc0 : c = 0
 simp [hc0]
 simp [hc0, add_zero]
theorem yX {recv : Operand} {nm : String} {xs : Array Operand} {ats : Array TypeId} {T : TypeId} {rv rv' : Value} {f : FuncId} {Post : Value → List HP → Prop} (hr : ev e recv = some (.iface T rv))
    (hm : ∀ w, (method (P.types.size + Made.depth) T rv nm).run P w = .ok (f, rv') w) (hc : ∀ args w, (callFunc f args).run P w = .ok (.enter f args) w) (hx : eL e xs.toList = some vs)
    (hs : aC P W0 f (rv' :: vs) A Post) : dl P W0 N e A (.call { callee := .invoke recv nm, args := xs, argTypes := ats }) Post := by
 intro a w dst ty pos af g K Q hF hO k
 have he : xs.map a.eval = vs.toArray := by
  have := hF.evals hx
  rw [← this]; apply Array.ext'; simp
 unfold Oper.wp
 have hrun : (execOp a.eval { dst := dst, op := .call { callee := .invoke recv nm, args := xs, argTypes := ats }, type := ty, pos := pos, after := af, guard := g }).run P w = .ok (.enter f (rv' :: vs).toArray) w := by
  simp only [execOp, resolve, Sem.run_bind, Sem.run_pure, Result.andThen_ok, invoke, he, hF.eval hr]
  have e0 : (#[Value.iface T rv] ++ vs.toArray : Array Value)[0]? = some (.iface T rv) := by simp
  have e1 : (#[Value.iface T rv] ++ vs.toArray : Array Value).extract 1 (#[Value.iface T rv] ++ vs.toArray : Array Value).size = vs.toArray := by
   apply Array.ext'; simp
  simp only [e0, e1, callMethod, Sem.run_bind, run_program, Result.andThen_ok, hm]
  rw [show (#[rv'] ++ vs.toArray : Array Value) = (rv' :: vs).toArray by simp, hc]
 rw [hrun]
 refine (hs w hO).mono ?_
 rintro _ w' ⟨v, B, rfl, hp, hO'⟩
 exact k v w' B hp hO'
theorem ot {fx : Operand} {xs : Array Operand} {ats : Array TypeId} {f : FuncId} {us cs : List Value} {Post : Value → List HP → Prop} (hf : ev e fx = some (.func (.func f) us.toArray cs.toArray))
    (hc : ∀ args w, (callFunc f args).run P w = .ok (.enter f args) w) (hx : eL e xs.toList = some vs) (hs : aC P W0 f (us ++ vs ++ cs) A Post) : dl P W0 N e A (.call { callee := .value fx, args := xs, argTypes := ats }) Post := by
 intro a w dst ty pos af g K Q hF hO k
 have he : xs.map a.eval = vs.toArray := by
  have := hF.evals hx
  rw [← this]; apply Array.ext'; simp
 unfold Oper.wp
 have hrun : (execOp a.eval { dst := dst, op := .call { callee := .value fx, args := xs, argTypes := ats }, type := ty, pos := pos, after := af, guard := g }).run P w = .ok (.enter f (us ++ vs ++ cs).toArray) w := by
  simp only [execOp, resolve, Deferred.ofValue, Sem.run_bind, Sem.run_pure, Result.andThen_ok, invoke, he, hF.eval hf]
  rw [show (us.toArray ++ vs.toArray ++ cs.toArray : Array Value) = (us ++ vs ++ cs).toArray by simp, hc]
 rw [hrun]
 refine (hs w hO).mono ?_
 rintro _ w' ⟨v, B, rfl, hp, hO'⟩
 exact k v w' B hp hO'
theorem yY {Post : Value → List HP → Prop} (hp : Ent A B) (h : dl P W0 N e B op Post) : dl P W0 N e A op Post :=
  fun a w dst ty pos af g K Q hF hO k => h a w dst ty pos af g K Q hF (hO.ent hp) k
def osl (E : TypeId) (sz : Nat) (v : Value) (xs : List Value) : HP := fun l =>
  (v = .slice none 0 0 ∧ xs = [] ∧ l = []) ∨
  ∃ g n cap sp, v = .slice (some ⟨g, 0, none⟩) n cap ∧ n ≤ cap ∧ cap ≤ maxLen ∧ xs.length = n * sz ∧ (xs ++ sp).length = cap * sz ∧ l = [(g, ax (xs ++ sp) E)]
theorem Own.osl {E sz : Nat} {w : World} {xs : List Value} (h : Own W0 w (osl E sz v xs :: A)) : (v = .slice none 0 0 ∧ xs = [] ∧ Own W0 w A) ∨
    ∃ g n cap sp, v = .slice (some ⟨g, 0, none⟩) n cap ∧ n ≤ cap ∧ cap ≤ maxLen ∧ xs.length = n * sz ∧ (xs ++ sp).length = cap * sz ∧ Own W0 w (pt g (ax (xs ++ sp) E) :: A) := by
 obtain ⟨ls, ⟨l1, l2, rfl, h1, hs⟩, hn, hb⟩ := h.owns
 rcases h1 with ⟨h1, h2, rfl⟩ | ⟨g, n, cap, sp, h1, h2, h3, h4, h5, rfl⟩
 exact .inl ⟨h1, h2, h.os, h.tape, h.output, h.size, h.base, l2, hs, by simpa using hn, fun p hp => hb p (by simpa using hp)⟩
 exact .inr ⟨g, n, cap, sp, h1, h2, h3, h4, h5, h.os, h.tape, h.output, h.size, h.base, _, ⟨_, l2, rfl, rfl, hs⟩, hn, hb⟩
theorem gN {K : Act → World → Prop} {E sz : Nat} {xs : List Value} (h0 : v = .slice none 0 0 → xs = [] → aT W0 N K e A)
    (h1 : ∀ g n cap sp, v = .slice (some ⟨g, 0, none⟩) n cap → n ≤ cap → cap ≤ maxLen → xs.length = n * sz → (xs ++ sp).length = cap * sz → aT W0 N K e (pt g (ax (xs ++ sp) E) :: A)) : aT W0 N K e (osl E sz v xs :: A) := fun a w hF hO => by
 rcases hO.osl with ⟨k1, k2, k3⟩ | ⟨g, n, cap, sp, k1, k2, k3, k4, k5, k6⟩
 exact h0 k1 k2 a w hF k3
 exact h1 g n cap sp k1 k2 k3 k4 k5 a w hF k6
theorem ub {f : FuncId} {args : List Value} {Post : Value → List HP → Prop} {E sz : Nat} {xs : List Value} (h0 : v = .slice none 0 0 → xs = [] → aC P W0 f args A Post)
    (h1 : ∀ g n cap sp, v = .slice (some ⟨g, 0, none⟩) n cap → n ≤ cap → cap ≤ maxLen → xs.length = n * sz → (xs ++ sp).length = cap * sz → aC P W0 f args (pt g (ax (xs ++ sp) E) :: A) Post) : aC P W0 f args (osl E sz v xs :: A) Post := fun w hO => by
 rcases hO.osl with ⟨k1, k2, k3⟩ | ⟨g, n, cap, sp, k1, k2, k3, k4, k5, k6⟩
 exact h0 k1 k2 w k3
 exact h1 g n cap sp k1 k2 k3 k4 k5 w k6
theorem fa {E sz g n cap : Nat} {xs sp : List Value} [h : Tk pt g A (ax (xs ++ sp) E) R] (h1 : n ≤ cap) (h2 : cap ≤ maxLen) (h3 : xs.length = n * sz) (h4 : (xs ++ sp).length = cap * sz) [k : Ent R B] : Ent A (osl E sz (.slice (some ⟨g, 0, none⟩) n cap) xs :: B) :=
  (Ent.ofPerm h.perm).trans ((Ent.cons k).trans ⟨fun l hl => by
 obtain ⟨l1, l2, rfl, rfl, hs⟩ := hl
 exact ⟨_, [], ⟨_, l2, rfl, .inr ⟨g, n, cap, sp, rfl, h1, h2, h3, h4, rfl⟩, hs⟩, by simp⟩⟩)
theorem fH {E sz : Nat} [k : Ent A B] : Ent A (osl E sz (.slice none 0 0) [] :: B) :=
  k.trans ⟨fun l hl => ⟨l, [], ⟨[], l, rfl, .inl ⟨rfl, rfl, rfl⟩, hl⟩, by simp⟩⟩
theorem dP {E sz n m c cx by_ : Nat} {bx ox : Nat} {info : TypeInfo} {z : Value} {an : Option Addr} {xs news : List Value} (hu : P.underlying t = some (.slice E))
    (hi : P.info? E = some info) (hz : info.zero = some z) (hsz : info.size = sz) (hby : info.bytes = by_) (hz1 : z.cells.size = sz) (hsz0 : 0 < sz)
    (hx : ev e x = some (.slice an n c)) (hy : ev e y = some (.slice (some ⟨bx, ox, none⟩) m cx)) [h : Tk (osl E sz) (.slice an n c) A xs R]
    (hnew : cY (bK W0 A) bx ox news) (hnl : news.length = m * sz) (h1 : eM news = true) (h63 : n + m ≤ maxLen) (hbig : (n + m) * by_ ≤ 140737488355328) :
    dl P W0 N e A (.call { callee := .builtin .append, args := #[x, y], argTypes := #[t, t] }) (fun v B => ∃ a' c', v = .slice a' (n + m) c' ∧ B = osl E sz v (xs ++ news) :: R) := by
 intro a w dst ty pos af g K Q hF hO k
 have hO' := hO.tk (r := osl E sz) (b := .slice an n c)
 have hcell : ∀ j u, news[j]? = some u → w.cell? ((⟨bx, ox, none⟩ : Addr).add j) = some u := fun j u hj => by rw [fu]; exact hnew j u hj w hO
 have hone : ∀ u ∈ news, u.oneCell' = true := fun u hm => by simpa [eM] using List.all_eq_true.1 h1 u hm
 have hsmall : n + m ≤ 9223372036854775807 := by simp only [maxLen] at h63; omega
 suffices hh : ∃ a' c' w', (Builtin.append_ #[t, t] ty #[.slice an n c, .slice (some ⟨bx, ox, none⟩) m cx]).run P w = .ok (.slice a' (n + m) c') w' ∧ Own W0 w' (osl E sz (.slice a' (n + m) c') (xs ++ news) :: R) by
  obtain ⟨a', c', w', hrun, hown⟩ := hh
  unfold Oper.wp
  have hexec : (execOp a.eval { dst := dst, op := .call { callee := .builtin .append, args := #[x, y], argTypes := #[t, t] }, type := ty, pos := pos, after := af, guard := g }).run P w = .ok (.value (.slice a' (n + m) c')) w' := by
   simp only [execOp, resolve, invoke, builtin, Sem.run_bind, Sem.run_pure, Result.andThen_ok, List.map_toArray, List.map_cons, List.map_nil, hF.eval hx, hF.eval hy, hrun]
  rw [hexec]
  exact k _ w' _ ⟨a', c', rfl, rfl⟩ hown
 subst hsz
 subst hby
 rcases hO'.osl with ⟨k1, k2, k3⟩ | ⟨g, n', cap, sp, k1, k2, k3, k4, k5, k6⟩
 cases k1; subst k2
 by_cases hm : m = 0
 subst hm
 have hn : news = [] := List.eq_nil_of_length_eq_zero (by simpa using hnl)
 subst hn
 refine ⟨none, 0, w, ?_, k3.ent fH⟩
 simp [Builtin.append_, dY hu, sizeOf, typeInfo, hi, Builtin.lenOf, Builtin.firstCells, loadCells, loadCellsFrom]
 have hr := run_append_nil (P := P) w t ty E info z hu hi hz ⟨bx, ox, none⟩ m cx news hnl hcell (by omega) (by omega) (by have hb := hbig; simp only [Nat.zero_add] at hb; omega)
 refine ⟨_, _, _, by simpa using hr, ?_⟩
 have hge := grownCap_ge w m 0 E
 have hcm := grownCap_le_maxLen w m 0 E (by omega)
 have hnew' := (Own.drew k3 (w.drawn + 1)).new (ax (news ++ (Builtin.zeroCells z.cells (grownCap w m 0 E - m)).toList) E)
 have hw : (w.drew.alloc (.cells (news.toArray ++ Builtin.zeroCells z.cells (grownCap w m 0 E - m)) E)) = { ({ w with drawn := w.drawn + 1 } : World) with heap := w.heap.push (ax (news ++ (Builtin.zeroCells z.cells (grownCap w m 0 E - m)).toList) E) } := by
  have ea : (news ++ (Builtin.zeroCells z.cells (grownCap w m 0 E - m)).toList).toArray = news.toArray ++ Builtin.zeroCells z.cells (grownCap w m 0 E - m) := by apply Array.ext'; simp
  simp only [World.drew, World.alloc, ax, ea]
 rw [hw]
 refine hnew'.ent ?_
 have := @fa (pt w.heap.size (ax (news ++ (Builtin.zeroCells z.cells (grownCap w m 0 E - m)).toList) E) :: R) R R E info.size w.heap.size m (grownCap w m 0 E) news _ _ hge hcm hnl (by rw [List.length_append, hnl]; simp only [Array.length_toList, size_zeroCells, hz1, ← Nat.add_mul]; congr 1; omega) _
 simpa using this
 cases k1
 by_cases hroom : n + m ≤ c
 have hfit : n * info.size + news.length ≤ ((xs ++ sp).toArray).size := by rw [hnl, List.size_toArray, k5, ← Nat.add_mul]; exact Nat.mul_le_mul_right _ hroom
 have hr := run_append_room (P := P) w t ty E info hu hi g n c (xs ++ sp).toArray k6.has.2 ⟨bx, ox, none⟩ m cx news hnl hcell hone hroom hfit
 refine ⟨_, _, _, hr, ?_⟩
 have hl : (xs ++ sp).toArray.toList.take (n * info.size) ++ news ++ (xs ++ sp).toArray.toList.drop (n * info.size + news.length) = xs ++ news ++ sp.drop news.length := by
  simp only [← k4]
  rw [List.take_left, ← List.drop_drop, List.drop_left]
 rw [hl]
 have hset : Own W0 (w.setRow g (xs ++ news ++ sp.drop news.length).toArray) (pt g (ax (xs ++ news ++ sp.drop news.length) E) :: R) :=
   k6.set rfl rfl rfl (by simp [World.setRow]) (setRow_heap w g _ _ E _ k6.has.2) (fun k hk => setRow_other w g k _ hk)
 refine hset.ent ?_
 have hspl : news.length ≤ sp.length := by
  have := k5; rw [List.length_append, k4] at this; rw [hnl]
  have h3 := Nat.mul_le_mul_right info.size hroom; rw [Nat.add_mul] at h3; omega
 exact @fa _ R R E info.size g (n + m) c (xs ++ news) (sp.drop news.length) _ hroom k3 (by rw [List.length_append, k4, hnl, Nat.add_mul]) (by
   rw [← k5]; simp only [List.length_append, List.length_drop]; omega) _
 have holds : ∀ j u, xs[j]? = some u → w.cell? ((⟨g, 0, none⟩ : Addr).add j) = some u := fun j u hj => by
  rw [fu, Nat.zero_add]
  have := k6.has.2
  simp only [World.cell?, this, Option.isSome_none, Bool.false_eq_true, if_false]
  rw [List.getElem?_toArray, List.getElem?_append_left (by
    rcases Nat.lt_or_ge j xs.length with q | q
    · exact q
    rw [List.getElem?_eq_none q] at hj; cases hj)]
  exact hj
 have hr := run_append_grow (P := P) w t ty E info z hu hi hz ⟨g, 0, none⟩ n c xs k4 holds ⟨bx, ox, none⟩ m cx news hnl hcell (by omega) (by omega) (growslice_fits (by omega) hbig)
 refine ⟨_, _, _, hr, ?_⟩
 have hge := grownCap_ge w (n + m) c E
 have hcm := grownCap_le_maxLen w (n + m) c E h63
 have hnew' := (Own.drew k6.drop (w.drawn + 1)).new (ax (xs ++ news ++ (Builtin.zeroCells z.cells (grownCap w (n + m) c E - (n + m))).toList) E)
 have hw : (w.drew.alloc (.cells (xs.toArray ++ news.toArray ++ Builtin.zeroCells z.cells (grownCap w (n + m) c E - (n + m))) E)) = { ({ w with drawn := w.drawn + 1 } : World) with heap := w.heap.push (ax (xs ++ news ++ (Builtin.zeroCells z.cells (grownCap w (n + m) c E - (n + m))).toList) E) } := by
  have ea : (xs ++ news ++ (Builtin.zeroCells z.cells (grownCap w (n + m) c E - (n + m))).toList).toArray = xs.toArray ++ news.toArray ++ Builtin.zeroCells z.cells (grownCap w (n + m) c E - (n + m)) := by apply Array.ext'; simp
  simp only [World.drew, World.alloc, ax, ea]
 rw [hw]
 refine hnew'.ent ?_
 exact @fa _ R R E info.size w.heap.size (n + m) (grownCap w (n + m) c E) (xs ++ news) _ _ hge hcm (by rw [List.length_append, k4, hnl, Nat.add_mul]) (by
   rw [List.length_append, List.length_append, k4, hnl]; simp only [Array.length_toList, size_zeroCells, hz1, ← Nat.add_mul]; congr 1; omega) _
theorem dQ [h : Tk pt b A (ax l ty) R] : cY (bK W0 A) b 0 l := jL (by simp)
def lx (k : Nat) (e : bQ) : Nat → List (Nat × Operand) → List (List Value) → Prop
 | _, [], [] => True
 | i, (j, x) :: ps, r :: rs => j = i ∧ ev e x = some (.agg r.toArray) ∧ r.length = k ∧ lx k e (i + 1) ps rs
 | _, _, _ => False
theorem fZ {k i : Nat} : lx k e i [] [] := trivial
theorem eN {k i : Nat} {ps : List (Nat × Operand)} {r : List Value} {rs : List (List Value)} (h : ev e x = some (.agg r.toArray)) (hl : r.length = k) (hr : lx k e (i + 1) ps rs) : lx k e i ((i, x) :: ps) (r :: rs) := ⟨rfl, h, hl, hr⟩
theorem uc {a : Act} {k : Nat} (he : ∀ x v, ev e x = some v → a.eval x = v) : ∀ (ps : List (Nat × Operand)) (rs : List (List Value)) (done l : List Value) (i : Nat), done.length = i * k → lx k e i ps rs → l.length = rs.length * k →
    Instr.fill (fun i => some (i * k, k)) (done ++ l).toArray (ps.map fun (i, x) => (i, a.eval x)) = some (done ++ rs.flatten).toArray
 | [], [], done, l, i, _, _, hl => by
  have : l = [] := List.length_eq_zero_iff.1 (by simpa using hl)
  subst this; rfl
 | [], _ :: _, _, _, _, _, h, _ => h.elim
 | _ :: _, [], _, _, _, _, h, _ => by cases h
 | (j, x) :: ps, r :: rs, done, l, i, hd, h, hl => by
  obtain ⟨rfl, hx, h1, hr⟩ := h
  have hv := he x _ hx
  rw [List.length_cons, Nat.succ_mul] at hl
  have hc : ¬ (r.length ≠ k) := by omega
  have hc2 : ¬ (j * k + r.length > (done ++ l).length) := by rw [List.length_append]; omega
  simp only [List.map_cons, Instr.fill, hv, Value.cells, List.size_toArray, hc, hc2, decide_false, Bool.or_false, Bool.false_eq_true, if_false]
  rw [← hd, qq, lw _ _ _ (by rw [List.length_append]; omega), hd]
  have e1 : (done ++ l).take (j * k) ++ r ++ (done ++ l).drop (j * k + r.length) = (done ++ r) ++ l.drop k := by
   rw [← hd, List.take_left, ← List.drop_drop, List.drop_left, h1]
  rw [e1, uc he ps rs (done ++ r) (l.drop k) (j + 1) (by rw [List.length_append, hd, h1, Nat.succ_mul]) hr (by rw [List.length_drop]; omega)]
  simp
theorem g5 {E n k : Nat} {z : List Value} {ps : Array (Nat × Operand)} {rs : List (List Value)} (hu : P.underlying t = some (.slice E)) (hs : ∀ w, (sizeOf E).run P w = .ok k w) (hz : ∀ w, (zeroValue E).run P w = .ok (.agg z.toArray) w) (hzl : z.length = k)
    (hel : lx k e 0 ps.toList rs) (hn : rs.length = n) (hn0 : n ≠ 0) (hk0 : k ≠ 0) (hn2 : n * k ≤ 100000) :
    dl P W0 N e A (.buildSlice t n ps) (fun v B => ∃ b, v = .slice (some ⟨b, 0, none⟩) n n ∧ B = pt b (ax rs.flatten E) :: A) :=
  kw (g := fun b => .slice (some ⟨b, 0, none⟩) n n) (fun a w _ _ _ _ _ hF _ => by
 have hfl := uc (k := k) (fun x v h => hF.eval h) ps.toList rs [] ((Array.range (n * k)).map (z.toArray[· % z.toArray.size]!)).toList 0 (by simp) hel (by simp [hn])
 simp only [List.nil_append, Array.toArray_toList] at hfl
 have hbig : ¬ (n * k > 2 ^ 24) := by omega
 have hn1 : ¬ (n * k = 0) := by rw [Nat.mul_eq_zero]; omega
 simp only [execOp, Instr.buildSlice, Sem.run_bind, dY hu, Result.andThen_ok, hs, Array.toList_map, Sem.run_ite, if_neg hbig, if_neg hn1, hz, Sem.run_pure, Value.cells]
 rw [hfl]
 rfl)
theorem yZ {K1 K2 X1 X2 : Type} {r1 : K1 → X1 → HP} {b1 : K1} {x1 : X1} {R1 : List HP} {r2 : K2 → X2 → HP} {b2 : K2} {x2 : X2} [h1 : Tk r1 b1 A x1 R1] [h2 : Tk r2 b2 R1 x2 R] : A.Perm (r1 b1 x1 :: r2 b2 x2 :: R) := h1.perm.trans (h2.perm.cons _)
theorem ud {K1 X1 : Type} {r1 : K1 → X1 → HP} {b1 : K1} {x1 : X1} [h1 : Tk r1 b1 A x1 R] : A.Perm (r1 b1 x1 :: R) := h1.perm
theorem fh {K1 X1 : Type} {r1 : K1 → X1 → HP} {b1 : K1} {x1 : X1} {recv : Operand} {nm : String} {xs : Array Operand} {ats : Array TypeId} {T : TypeId} {rv rv' : Value} {f : FuncId} {Post : Value → List HP → Prop} (hr : ev e recv = some (.iface T rv))
    (hm : ∀ w, (method (P.types.size + Made.depth) T rv nm).run P w = .ok (f, rv') w) (hc : ∀ args w, (callFunc f args).run P w = .ok (.enter f args) w) (hx : eL e xs.toList = some vs)
    (hs : aC P W0 f (rv' :: vs) (r1 b1 x1 :: R) Post) [h1 : Tk r1 b1 A x1 R] : dl P W0 N e A (.call { callee := .invoke recv nm, args := xs, argTypes := ats }) Post :=
  jN ud (yX hr hm hc hx hs)
theorem mF {K1 X1 : Type} {r1 : K1 → X1 → HP} {b1 : K1} {x1 : X1} {fx : Operand} {xs : Array Operand} {ats : Array TypeId} {f : FuncId} {us cs : List Value} {Post : Value → List HP → Prop} (hf : ev e fx = some (.func (.func f) us.toArray cs.toArray))
    (hc : ∀ args w, (callFunc f args).run P w = .ok (.enter f args) w) (hx : eL e xs.toList = some vs) (hs : aC P W0 f (us ++ vs ++ cs) (r1 b1 x1 :: R) Post) [h1 : Tk r1 b1 A x1 R] : dl P W0 N e A (.call { callee := .value fx, args := xs, argTypes := ats }) Post :=
  jN ud (ot hf hc hx hs)
def chk (F : List HP → Prop) : HP := fun l => ∃ C, F C ∧ fg C l
theorem Own.chk {F : List HP → Prop} {w : World} (h : Own W0 w (chk F :: R)) : ∃ C, F C ∧ Own W0 w (C ++ R) := by
 obtain ⟨ls, ⟨l1, l2, rfl, ⟨C, hC, h1⟩, hs⟩, hn, hb⟩ := h.owns
 exact ⟨C, hC, h.os, h.tape, h.output, h.size, h.base, _, fg.append.2 ⟨l1, l2, rfl, h1, hs⟩, hn, hb⟩
theorem eZ {F : List HP → Prop} {C : List HP} (h : F C) : Ent (C ++ R) (chk F :: R) := ⟨fun l hl => by
 obtain ⟨l1, l2, rfl, h1, h2⟩ := fg.append.1 hl
 exact ⟨l1 ++ l2, [], ⟨l1, l2, rfl, ⟨C, h, h1⟩, h2⟩, by simp⟩⟩
theorem jh {K : Act → World → Prop} {F : List HP → Prop} (h : ∀ C, F C → aT W0 N K e (C ++ R)) : aT W0 N K e (chk F :: R) := fun a w hF hO => by
 obtain ⟨C, hC, hO'⟩ := hO.chk
 exact h C hC a w hF hO'
theorem mG {f : FuncId} {args : List Value} {Post : Value → List HP → Prop} {F : List HP → Prop} (h : ∀ C, F C → aC P W0 f args (C ++ R) Post) : aC P W0 f args (chk F :: R) Post := fun w hO => by
 obtain ⟨C, hC, hO'⟩ := hO.chk
 exact h C hC w hO'
theorem ji {f : FuncId} {args : List Value} {Post Post' : Value → List HP → Prop} (h : aC P W0 f args A Post) (k : ∀ v B, Post v B → ∃ B', Post' v B' ∧ Ent B B') : aC P W0 f args A Post' := fun w hO =>
  (h w hO).mono fun e w' ⟨v, B, h1, h2, h3⟩ => by
 obtain ⟨B', h4, h5⟩ := k v B h2
 exact ⟨v, B', h1, h4, h3.ent h5⟩
theorem ed {K X : Type} {r : K → X → HP} {b : K} {x : X} {Kt : Act → World → Prop} [h : Tk r b A x R] (k : aT W0 N Kt e (r b x :: R)) : aT W0 N Kt e A := qd h.perm k
theorem mH {f : FuncId} {args : List Value} {Post : Value → List HP → Prop} (hp : A.Perm B) (h : aC P W0 f args B Post) : aC P W0 f args A Post := fun w hO => h w (hO.perm hp)
end
theorem cz : Tryz.prog.follows .mixedOrders = true := by kernel_rfl
structure RecX where
  e : bQ
  n : Nat
  ps : Array Tmp
  asg : Code
  body : Code
  st : LoopState
  pe : Option Code
  D : Nat
def RecX.loop (x : RecX) (fn : FuncId) (tmps : Array Value) : Loop := { state := x.st, pending := x.pe, fn := fn, tmps := tmps, params := x.ps, assign := x.asg, body := x.body, defers := x.D }
def ee (L : Nat) (x : RecX) : HP := chk (fun C => ∃ fn tmps, tmps.size = x.n ∧ (∀ t v, dW x.e t = some v → tmps[t]? = some v) ∧ C = [pt L (.loop (x.loop fn tmps))])
section
variable {rd : Option Nat} {P : Program} {W0 : World} {N : FSz} {Q : Exit → Act → World → Prop} {e : bQ} {A B R : List HP} {ops : Array Oper} {rest : List Oper} {L : Nat} {x : RecX}
theorem Own.loopRec {w : World} (h : Own W0 w (ee L x :: R)) : ∃ fn tmps, tmps.size = x.n ∧ (∀ t v, dW x.e t = some v → tmps[t]? = some v) ∧ Own W0 w (pt L (.loop (x.loop fn tmps)) :: R) := by
 obtain ⟨C, ⟨fn, tmps, h1, h2, rfl⟩, hO⟩ := h.chk
 exact ⟨fn, tmps, h1, h2, hO⟩
theorem Own.toRec {w : World} {fn : FuncId} {tmps : Array Value} (h1 : tmps.size = x.n) (h2 : ∀ t v, dW x.e t = some v → tmps[t]? = some v) (h : Own W0 w (pt L (.loop (x.loop fn tmps)) :: R)) : Own W0 w (ee L x :: R) :=
  h.ent (eZ (C := [pt L (.loop (x.loop fn tmps))]) ⟨fn, tmps, h1, h2, rfl⟩)
theorem Own.turn {w : World} {b : Nat} {o : Obj} (h : Own W0 w (pt b o :: R)) (o' : Obj) : Own W0 (w.putObj b o') (pt b o' :: R) :=
  h.set rfl rfl rfl (by simp) (World.putObj_heap_same (by
    rcases Nat.lt_or_ge b w.heap.size with q | q
    · exact q
    have := h.has.2; rw [Array.getElem?_eq_none q] at this; cases this)) (fun k hk => World.putObj_heap_other hk)
def ly (P : Program) (W0 : World) (L : Nat) (args : List Value) (A : List HP) (Post : Value → List HP → Prop) : Prop :=
  ∀ w, Own W0 w A → ∃ f tmps asg body, (Instr.yield L args.toArray).run P w = .ok (.round L f tmps asg body) w ∧ RoundIn (FW none) 0 P L f tmps asg body w (fun e w' => ∃ v B, e = .returned v ∧ Post v B ∧ Own W0 w' B)
theorem z0 {fx : Operand} {xs : Array Operand} {ats : Array TypeId} {vs : List Value} {Post : Value → List HP → Prop} {dst : Option Tmp} {ty : TypeId} {pos : String} {af : Array Edge} (hf : ev e fx = some (.func (.yield L) #[] #[])) (hx : eL e xs.toList = some vs)
    (hd : (match dst with | some d => Nat.blt d N.n | none => true) = true)
    (hr : ly P W0 L vs A Post) (k : ∀ v B, Post v B → aT W0 N (di rd P ops Q rest) (match (generalizing := false) dst with | some d => (d, v) :: e | none => e) B) :
    aT W0 N (di rd P ops Q ({ dst := dst, op := .call { callee := .value fx, args := xs, argTypes := ats }, type := ty, pos := pos, after := af, guard := none } :: rest)) e A := by
 intro a w hF hO
 simp only [di, Region.wanted, if_true]
 refine .inr ⟨fun _ _ => trivial, ?_⟩
 have he : xs.map a.eval = vs.toArray := by
  have := hF.evals hx
  rw [← this]; apply Array.ext'; simp
 obtain ⟨f, tmps, asg, body, hy, hR⟩ := hr w hO
 have hrun : (execOp a.eval { dst := dst, op := .call { callee := .value fx, args := xs, argTypes := ats }, type := ty, pos := pos, after := af, guard := none }).run P w = .ok (.round L f tmps asg body) w := by
  simp only [execOp, resolve, Deferred.ofValue, Sem.run_bind, Sem.run_pure, Result.andThen_ok, invoke, he, hF.eval hf]
  have : (#[] ++ vs.toArray : Array Value) = vs.toArray := by simp
  simp only [this]; exact hy
 have hsem : Oper.semAt (FW rd).round a.eval { dst := dst, op := .call { callee := .value fx, args := xs, argTypes := ats }, type := ty, pos := pos, after := af, guard := none } = execOp a.eval { dst := dst, op := .call { callee := .value fx, args := xs, argTypes := ats }, type := ty, pos := pos, after := af, guard := none } :=
   Oper.semAt_eq _ _ _ (fun c h => by cases h)
 rw [hsem, hrun]
 refine ⟨fun h => (by cases h), RoundIn.mono hR ?_⟩
 rintro _ w' ⟨v, B, rfl, hp, hO'⟩
 have k := k v B hp
 cases dst with
 | none => exact k a w' hF hO'
 | some d => exact k _ w' (hF.put (Nat.lt_of_succ_le (Nat.le_of_ble_eq_true hd)) v) hO'
def mI : List Nat → List Value → bQ → bQ
 | p :: ps, v :: vs, e => mI ps vs ((p, v) :: e)
 | _, _, e => e
theorem ue {n : Nat} {ds : List Deferred} : ∀ (ps : List Nat) (vs : List Value) (e : bQ) (tmps : Array Value), (ps.all fun p => Nat.blt p n) = true → Fr { tmps := tmps, defers := ds } ⟨n, ds⟩ e →
    Fr { tmps := (ps.zip vs).foldl (fun t (p, v) => t.setIfInBounds p v) tmps, defers := ds } ⟨n, ds⟩ (mI ps vs e)
 | [], _, e, tmps, _, h => by simpa [mI] using h
 | p :: ps, [], e, tmps, _, h => by simpa [mI] using h
 | p :: ps, v :: vs, e, tmps, hp, h => by
  simp only [List.all_cons, Bool.and_eq_true] at hp
  have := h.put (Nat.lt_of_succ_le (Nat.le_of_ble_eq_true hp.1)) v
  exact ue ps vs _ _ hp.2 this
def uf (P : Program) (L : Nat) (body : Code) (Q : Exit → Act → World → Prop) : Act → World → Prop := fun a w => ∃ w₂, (Instr.beginRound L).run P w = .ok () w₂ ∧ body.wpR (some L) P Q a w₂
theorem z4 {body : Code} [h : Tk ee L A x R] (hs : x.st = .ready) (k : aT W0 N (body.wpR (some L) P Q) e (ee L { x with st := .busy } :: R)) : aT W0 N (Ex (Exit.then (uf P L body Q) (fun _ _ _ => False)) .normal) e A := by
 intro a w hF hO
 obtain ⟨fn, tmps, h1, h2, hO1⟩ := (hO.tk (r := ee) (b := L)).loopRec
 refine ⟨_, run_beginRound hO1.has.2 (by exact hs), k a _ hF ?_⟩
 exact Own.toRec (x := { x with st := .busy }) h1 h2 (hO1.turn _)
def mJ (P : Program) (W0 : World) (L : Nat) (Post : Value → List HP → Prop) : Exit → Act → World → Prop := roundPost P L (fun e w' => ∃ v B, e = .returned v ∧ Post v B ∧ Own W0 w' B)
theorem z5 {Post : Value → List HP → Prop} [h : Tk ee L A x R] (hp : ∃ B, Post (.bool true) B ∧ Ent (ee L { x with st := .ready, pe := none } :: R) B) : aT W0 N (Ex (mJ P W0 L Post) .normal) e A := by
 intro a w hF hO
 obtain ⟨fn, tmps, h1, h2, hO1⟩ := (hO.tk (r := ee) (b := L)).loopRec
 obtain ⟨B, hB, hE⟩ := hp
 exact ⟨_, _, run_endRound none hO1.has.2, _, B, rfl, hB, Own.ent (Own.toRec (x := { x with st := .ready, pe := none }) h1 h2 (hO1.turn _)) hE⟩
theorem z6 {args : List Value} {Post : Value → List HP → Prop} [h : Tk ee L A x R] (hl : args.length = x.ps.size) (hps : (x.ps.toList.all fun p => Nat.blt p x.n) = true)
    (k : aT W0 ⟨x.n, []⟩ (x.asg.wpR (some L) P (Exit.then (uf P L x.body (mJ P W0 L Post)) (fun _ _ _ => False))) (mI x.ps.toList args x.e) (ee L x :: R)) : ly P W0 L args A Post := by
 intro w hO
 obtain ⟨fn, tmps, h1, h2, hO1⟩ := (hO.tk (r := ee) (b := L)).loopRec
 refine ⟨_, _, _, _, run_yield hO1.has.2 (by simpa [RecX.loop] using hl), ?_⟩
 refine roundIn_of_wpIn (F := FW none) trivial ?_
 have hF := ue (n := x.n) (ds := []) x.ps.toList args x.e tmps hps ⟨rfl, h1, h2⟩
 have e1 : ((x.loop fn tmps).params.zip args.toArray).foldl (fun t (p, v) => t.setIfInBounds p v) (x.loop fn tmps).tmps = (x.ps.toList.zip args).foldl (fun t (p, v) => t.setIfInBounds p v) tmps := by
  simp only [RecX.loop]
  rw [← Array.foldl_toList, Array.toList_zip]
 rw [e1]
 exact k _ w hF (Own.toRec h1 h2 hO1)
end
section
variable {rd : Option Nat} {P : Program} {S : World → Prop} {W0 : World} {N : FSz} {Q : Exit → Act → World → Prop} {e : bQ} {A B R : List HP} {ops : Array Oper} {rest : List Oper}
variable {op : Op} {ty t t' : TypeId} {pos : String} {af : Array Edge} {v u : Value} {d b off : Nat} {x y z : Operand} {l l' vs : List Value}
theorem cY.weak (h : cY (bK W0 B) b off vs) [k : Ent A B] : cY (bK W0 A) b off vs := fun i v hi => (h i v hi).weak
theorem z7 {E d : Nat} {a : Option Addr} {n c : Nat} (hu : P.underlying t = some (.slice E)) : jg P (d + 1) t (.slice a n c) (.slice none 0 0) a.isNone := fun w => by
 cases a <;> simp [Op.equalIn, dY hu]
theorem qw {E : TypeId} {a : Option Addr} {n c : Nat} (hu : P.underlying t = some (.slice E)) (hx : ev e x = some (.slice a n c)) (hy : ev e y = some (.slice none 0 0)) : cC P S N e (.binOp .eql t x y t') (.bool a.isNone) :=
  fq hx hy (fun w x y => by simp [eqGuard]) (qn rfl (z7 hu))
theorem jP {P : Program} {k : IntKind} {i y : Nat} {code : BoundsCode} (h : i ≤ y) (w : World) : (Instr.sliceBound (.int k (i : Int)) y code).run P w = .ok i w := by
 have : (0 : Int) ≤ (i : Int) ∧ (i : Int) ≤ (y : Int) := by omega
 simp [Instr.sliceBound, asIntOf, this, h]
theorem qx {E n c sz o' : Nat} {k k' k'' : IntKind} {i h m : Nat} {j1 j2 j3 : Int} (hu : P.underlying t = some (.slice E)) (hs : ∀ w, (sizeOf E).run P w = .ok sz w) (hx : ev e x = some (.slice (some ⟨b, off, none⟩) n c))
    {lo hi mx : Operand} (h1 : ev e lo = some (.int k j1)) (h2 : ev e hi = some (.int k' j2)) (h3 : ev e mx = some (.int k'' j3)) (e1 : j1 = (i : Int)) (e2 : j2 = (h : Int)) (e3 : j3 = (m : Int)) (hil : i ≤ h) (hhm : h ≤ m) (hmc : m ≤ c) (hne : i < m) (ho : off + i * sz = o') :
    cC P S N e (.slice t x (some lo) (some hi) (some mx)) (.slice (some ⟨b, o', none⟩) (h - i) (m - i)) := fun a w _ _ _ _ _ hF _ => by
 subst e1; subst e2; subst e3; subst ho
 have hmi : ¬ m = i := by omega
 simp [execOp, Instr.sliceAt, Instr.slice, hF.eval hx, hF.eval h1, hF.eval h2, hF.eval h3, dY hu, Instr.sliceBounds, jP hmc, jP hhm, jP hil, hs, hmi, fu]
theorem ou {E n sz : Nat} (hu : P.underlying t = some (.array n E)) (hs : ∀ w, (sizeOf E).run P w = .ok sz w) (hx : ev e x = some (.pointer (some ⟨b, off, none⟩))) :
    cC P S N e (.slice t x none none none) (.slice (some ⟨b, off, none⟩) n n) := fun a w _ _ _ _ _ hF _ => by
 by_cases h : n = 0
 simp [execOp, Instr.sliceAt, hF.eval hx, dY hu, Instr.sureAddr, Instr.sliceBounds, hs, h]
 simp [execOp, Instr.sliceAt, hF.eval hx, dY hu, Instr.sureAddr, Instr.sliceBounds, hs, h, fu]
theorem mK {E sz : Nat} {ps : Array (Nat × Operand)} (hu : P.underlying t = some (.slice E)) (hs : ∀ w, (sizeOf E).run P w = .ok sz w) (hp : ps = #[]) :
    dl P W0 N e A (.buildSlice t 0 ps) (fun v B => ∃ b, v = .slice (some ⟨b, 0, none⟩) 0 0 ∧ B = osl E sz v [] :: A) := kv fun a w _ _ _ _ _ hF hO => by
 subst hp
 have hn := hO.new (ax [] E)
 refine ⟨_, { w with heap := w.heap.push (ax [] E) }, _, .inl ?_, ⟨w.heap.size, rfl, rfl⟩, ?_⟩
 simp [execOp, Instr.buildSlice, dY hu, hs, Instr.fill, newRow, Array.range_zero']
 have : pt w.heap.size (ax [] E) = pt w.heap.size (ax ([] ++ []) E) := rfl
 rw [this] at hn
 exact hn.ent (fa (Nat.le_refl _) (Nat.zero_le _) (by simp) (by simp))
theorem mM {E sz by_ : Nat} {info : TypeInfo} {zz : Value} {v0 : Value} {n : Nat} {k k' : IntKind} {i1 i2 : Int} (hu : P.underlying t = some (.slice E)) (hi : P.info? E = some info) (hz : info.zero = some zz) (hsz : info.size = sz) (hby : info.bytes = by_)
    (hzc : zz.cells = (List.replicate sz v0).toArray) (hsz0 : 0 < sz) (hx : ev e x = some (.int k i1)) (hy : ev e y = some (.int k' i2)) (e1 : i1 = (n : Int)) (e2 : i2 = (n : Int)) (hn : n ≤ 1000000) (hb : by_ ≤ 1000000) :
    dl P W0 N e A (.makeSlice t x y) (fun v B => ∃ b, v = .slice (some ⟨b, 0, none⟩) n n ∧ B = pt b (ax (List.replicate (n * sz) v0) E) :: A) :=
  kw (g := fun b => .slice (some ⟨b, 0, none⟩) n n) (fun a w _ _ _ _ _ hF _ => by
 subst e1; subst e2; subst hsz; subst hby
 have hm : info.bytes * n ≤ 1000000 * 1000000 := Nat.mul_le_mul hb hn
 have hr := run_make (P := P) w t E info zz hu hi hz k k' n n (by omega) (by omega) (by rw [← Int.natCast_mul]; omega) (by omega)
 simp only [Int.toNat_natCast] at hr
 have hc : madeCells zz.cells (n * info.size) = (List.replicate (n * info.size) v0).toArray := by
  apply Array.ext
  simp [madeCells]
  intro i h1 h2
  simp only [madeCells, hzc, Array.getElem_map, Array.getElem_range, List.size_toArray, List.length_replicate]
  have hlt : i % info.size < info.size := Nat.mod_lt _ hsz0
  rw [getElem!_pos _ _ (by simpa using hlt)]
  simp
 rw [hc] at hr
 simp only [execOp, hF.eval hx, hF.eval hy, Sem.run_bind, hr, Result.andThen_ok, Sem.run_pure]
 rfl)
theorem lz {E sz dn dc sn sc bx ox m : Nat} (hu : P.underlying t = some (.slice E)) (hs : ∀ w, (sizeOf E).run P w = .ok sz w) (hx : ev e x = some (.slice (some ⟨b, off, none⟩) dn dc)) (hy : ev e y = some (.slice (some ⟨bx, ox, none⟩) sn sc))
    [h : Tk pt b A (ax l ty) R] (hm : Nat.min sn dn = m) (hc : cY (bK W0 A) bx ox vs) (hl : vs.length = m * sz) (h1 : eM vs = true) (ho : off + m * sz ≤ l.length) (hr : setR l off vs = l') :
    dl P W0 N e A (.call { callee := .builtin .copy, args := #[x, y], argTypes := #[t, t'] }) (fun v B => v = .int .i64 m ∧ B = pt b (ax l' ty) :: R) := by
 intro a w dst ty' pos af g K Q hF hO k
 have hO' := hO.tk (r := pt) (b := b)
 have hld := od (P := P) (w := w) (fun i v hi => hc i v hi w hO) (m * sz) 0 #[] (by omega)
 obtain ⟨w', hst, hO''⟩ := qp (P := P) (off := off) vs 0 hO' (by omega) (fun v hv => by simpa [eM] using (List.all_eq_true.1 h1 v hv))
 rw [Nat.add_zero, hr] at hO''
 have hexec : (execOp a.eval { dst := dst, op := .call { callee := .builtin .copy, args := #[x, y], argTypes := #[t, t'] }, type := ty', pos := pos, after := af, guard := g }).run P w = .ok (.value (.int .i64 m)) w' := by
  simp only [execOp, resolve, invoke, builtin, Sem.run_bind, Sem.run_pure, Result.andThen_ok, List.map_toArray, List.map_cons, List.map_nil, hF.eval hx, hF.eval hy, Builtin.copy_, Builtin.lenOf, Builtin.firstCells, dY hu, hs]
  have hs' : (sizeOf E).run P w = .ok sz w := hs w
  simp only [hm, Array.getElem?_eq_getElem, List.getElem?_toArray, List.getElem?_cons_zero, List.getElem?_cons_succ, Sem.run_bind, Sem.run_pure, Result.andThen_ok, dY hu, hs', loadCells, hld, List.drop_zero, List.nil_append, Array.empty_append, hst, goInt]
 unfold Oper.wp
 rw [hexec]
 exact k _ w' _ ⟨rfl, rfl⟩ hO''
theorem mN {k : IntKind} {m n r : Int} {ats : Array TypeId} (hx : ev e x = some (.int k m)) (hy : ev e y = some (.int k n)) (hr : (if n < m then n else m) = r) : cC P S N e (.call { callee := .builtin .min, args := #[x, y], argTypes := ats }) (.int k r) := fun a w _ _ _ _ _ hF _ => by
 simp [execOp, resolve, invoke, builtin, hF.eval hx, hF.eval hy, Builtin.min_, Builtin.min2, hr]
end
end
section
def bV (b : Nat) : Value := .int .u8 (b : Int)
def cd (l : List Nat) : List Value := l.map bV
theorem dR (l : List Nat) : (cd l).length = l.length := by simp [cd]
theorem z8 (l : List Nat) (i : Nat) (h : i < l.length) : (cd l)[i]? = some (bV l[i]) := by simp [cd, h]
theorem ug (a b : List Nat) : cd (a ++ b) = cd a ++ cd b := by simp [cd]
theorem qy (l : List Nat) : eM (cd l) = true := by simp [eM, cd, bV, Value.oneCell']
def By (l : List Nat) : Prop := ∀ b ∈ l, b < 256
theorem By.get {l : List Nat} (h : By l) {i : Nat} (hi : i < l.length) : l[i] < 256 := h _ (List.getElem_mem hi)
def gZ : List Nat → Nat
 | [] => 0
 | b :: bs => b + 256 * gZ bs
theorem uh : ∀ {l : List Nat}, By l → gZ l < 256 ^ l.length
 | [], _ => by simp [gZ]
 | b :: bs, h => by
  have h1 := h b (by simp)
  have h2 := uh (l := bs) fun x hx => h x (by simp [hx])
  simp only [gZ, List.length_cons, Nat.pow_succ]; omega
theorem ui : ∀ (l : List Nat) (b : Nat), gZ (l ++ [b]) = gZ l + 256 ^ l.length * b
 | [], b => by simp [gZ]
 | x :: l, b => by
  simp only [List.cons_append, gZ, ui l b, List.length_cons, Nat.pow_succ]
  rw [Nat.mul_add, Nat.add_assoc, ← Nat.mul_assoc, Nat.mul_comm 256 (256 ^ l.length)]
theorem z9 {l : List Nat} {i : Nat} (h : i < l.length) : gZ (l.take (i + 1)) = gZ (l.take i) + 256 ^ i * l[i] := by
 rw [List.take_succ_eq_append_getElem h, ui, List.length_take, Nat.min_eq_left (by omega)]
theorem By.take {l : List Nat} (h : By l) (i : Nat) : By (l.take i) := fun b hb => h b (List.mem_of_mem_take hb)
theorem By.drop {l : List Nat} (h : By l) (i : Nat) : By (l.drop i) := fun b hb => h b (List.mem_of_mem_drop hb)
theorem By.append {a b : List Nat} (h : By a) (k : By b) : By (a ++ b) := fun x hx => by
 rcases List.mem_append.1 hx with h' | h'
 exact h x h'
 exact k x h'
theorem qz (i : Nat) : 256 ^ i = 2 ^ (8 * i) := by rw [Nat.pow_mul]
theorem uj {i : Nat} (h : i ≤ 3) : 256 ^ i ≤ 16777216 := by
 match i, h with
 | 0, _ | 1, _ | 2, _ | 3, _ => decide
theorem za {b i : Nat} (hb : b < 256) (hi : i ≤ 3) : mq .u32 (b : Int) ((8 * i : Nat) : Int) = ((256 ^ i * b : Nat) : Int) := by
 unfold mq
 have h1 : min ((8 * i : Nat) : Int).toNat IntKind.u32.bits = 8 * i := by simp [IntKind.bits]; omega
 rw [h1]
 have h2 : (b : Int) * 2 ^ (8 * i) = ((256 ^ i * b : Nat) : Int) := by rw [qz]; push_cast; exact Int.mul_comm _ _
 rw [h2]
 have := uj hi
 have h3 : 256 ^ i * b ≤ 16777216 * 255 := Nat.mul_le_mul this (by omega)
 exact jO (by omega)
theorem zb {a b i : Nat} (ha : a < 256 ^ i) (hb : b < 256) (hi : i ≤ 3) : o8 .u32 (a : Int) ((256 ^ i * b : Nat) : Int) = ((a + 256 ^ i * b : Nat) : Int) := by
 have := uj hi
 have h3 : 256 ^ i * b ≤ 16777216 * 255 := Nat.mul_le_mul this (by omega)
 rw [yS (by omega) (by omega)]
 congr 1
 rw [qz] at ha ⊢
 have := Nat.two_pow_add_eq_or_of_lt (i := 8 * i) (b := a) ha b
 rw [Nat.or_comm, ← this, Nat.add_comm]
def g6 (n w : Nat) : List Nat := (List.range n).map fun i => w / 256 ^ i % 256
theorem lB (n w : Nat) : (g6 n w).length = n := by simp [g6]
theorem zc (n w : Nat) : By (g6 n w) := fun b hb => by
 obtain ⟨i, _, rfl⟩ := List.mem_map.1 hb
 exact Nat.mod_lt _ (by decide)
theorem uk (n w : Nat) : g6 (n + 1) w = g6 n w ++ [w / 256 ^ n % 256] := by simp [g6, List.range_succ]
theorem ul {w i : Nat} (hi : 8 * i ≤ 32) : IntKind.wrap .u8 (lp .u32 (w : Int) ((8 * i : Nat) : Int)) = ((w / 256 ^ i % 256 : Nat) : Int) := by
 rw [ol (by simpa [IntKind.bits] using hi), ← qz]
 simp only [IntKind.wrap, IntKind.bits, IntKind.signed]
 simp
def gO (l : List Nat) (at_ n w : Nat) : List Nat := l.take at_ ++ g6 n w ++ l.drop (at_ + n)
theorem kC {l : List Nat} {at_ n w : Nat} (h : at_ + n ≤ l.length) : (gO l at_ n w).length = l.length := by simp [gO, lB]; omega
theorem zd {l : List Nat} {at_ n w : Nat} (h : By l) : By (gO l at_ n w) := ((h.take _).append (zc _ _)).append (h.drop _)
theorem qA : ∀ (vs l : List Value) (off : Nat) (v : Value), setR l off (vs ++ [v]) = (setR l off vs).set (off + vs.length) v
 | [], l, off, v => by simp [setR]
 | u :: vs, l, off, v => by
  rw [List.cons_append, setR, setR, qA vs]
  congr 1; simp; omega
theorem ze {l : List Nat} {at_ n w : Nat} (h : at_ + n ≤ l.length) : setR (cd l) at_ (cd (g6 n w)) = cd (gO l at_ n w) := by
 rw [lw _ _ _ (by rw [dR, dR, lB]; exact h), dR, lB]
 simp [gO, cd, List.map_take, List.map_drop]
theorem um : ∀ (vs a b : List Value) (off : Nat), off + vs.length ≤ a.length → setR (a ++ b) off vs = setR a off vs ++ b
 | [], a, b, off, _ => rfl
 | v :: vs, a, b, off, h => by
  simp only [List.length_cons] at h
  rw [setR, setR, List.set_append_left _ _ (by omega), um vs _ b (off + 1) (by simp; omega)]
def dw (n : Nat) (at_ w : Int) : Bool := decide ((w = 1 ∨ w = 2 ∨ w = 4) ∧ 0 ≤ at_ ∧ at_ ≤ n ∧ w ≤ n - at_)
theorem eg {n : Nat} {at_ w : Int} : dw n at_ w = true ↔ (w = 1 ∨ w = 2 ∨ w = 4) ∧ 0 ≤ at_ ∧ at_ ≤ n ∧ w ≤ n - at_ := by simp [dw]
theorem kD {n : Nat} {at_ w : Int} (h : dw n at_ w = true) : ∃ i k : Nat, at_ = (i : Int) ∧ w = (k : Int) ∧ (k = 1 ∨ k = 2 ∨ k = 4) ∧ i + k ≤ n := by
 have := eg.1 h
 exact ⟨at_.toNat, w.toNat, by omega, by omega, by omega, by omega⟩
end
section
open Go.RowKit
def fI (g off n : Nat) (at_ w : Int) : Value := if dw n at_ w then .tuple #[.slice (some ⟨g, off + at_.toNat, none⟩) w.toNat w.toNat, .bool true] else .tuple #[.slice none 0 0, .bool false]
theorem qB (W0 : World) (R : List HP) (g off n c : Nat) (at_ w : Int) (hn : n ≤ c) (h63 : c < 9223372036854775808) :
    aC Tryz.prog W0 183 [.slice (some ⟨g, off, none⟩) n c, .int .i64 at_, .int .i64 w] R (fun v B => v = fI g off n at_ w ∧ B = R) := by
 refine aG func183 ntmps183 rfl rfl ?_
 refine ae (ah (aa rfl (ai rfl) (aa rfl (ai rfl) (ag (ab (ae (aW (ae (ah (aa rfl (ac rfl) (aa rfl (bI rfl rfl) (aa rfl (ac rfl) ?_))))))))))))
 refine cJ rfl rfl rfl ?_ ?_
 intro g1_3
 refine aa rfl (ac rfl) (ar rfl rfl (aa rfl (bI rfl rfl) (aa rfl (aY rfl rfl) (aa rfl (ac rfl) ?_))))
 refine cJ rfl rfl rfl ?_ ?_
 intro g1_7
 refine aa rfl (ac rfl) (ar rfl rfl (aa rfl (bI rfl rfl) (aa rfl (aY rfl rfl) (aa rfl (ai rfl) (ag (ab ?_))))))
 refine aw rfl ?_ ?_
 intro c1
 refine ae (ah (aa rfl (ai rfl) (aa rfl (ai rfl) (ag (ab (av (bj (aE (au (.inl rfl) (.cons (ak rfl) (.cons (ak rfl) .nil)) ?_)))))))))
 refine ⟨_, ⟨?_, rfl⟩, inferInstance⟩
 have hi : dw n at_ w = false := by
  rw [← Bool.not_eq_true, eg]; omega
 simp [cH, fI, hi]
 intro c1
 refine ae (ae (ah (aa rfl (ac rfl) (aa rfl (b0 rfl rfl) (aa rfl (ai rfl) (ag (ab ?_)))))))
 refine aw rfl ?_ ?_
 intro c3
 refine aB (ab (cg rfl (ae (ah (aa rfl (ai rfl) (aa rfl (ai rfl) (ag (ab (av (bj (aE (au (.inl rfl) (.cons (ak rfl) (.cons (ak rfl) .nil)) ?_))))))))))))
 refine ⟨_, ⟨?_, rfl⟩, inferInstance⟩
 have hi : dw n at_ w = false := by
  rw [← Bool.not_eq_true, eg]; omega
 simp [cH, fI, hi]
 intro c3
 refine ae (ah (aa rfl (ac rfl) (aa rfl (ac rfl) (aa rfl (bu dI rfl) (aa rfl (cy rfl rfl) (aa rfl (ai rfl) (ag (ab ?_))))))))
 refine aw rfl ?_ ?_
 intro c4
 refine aB (ab (cg rfl (ae (ah (aa rfl (ai rfl) (aa rfl (ai rfl) (ag (ab (av (bj (aE (au (.inl rfl) (.cons (ak rfl) (.cons (ak rfl) .nil)) ?_))))))))))))
 refine ⟨_, ⟨?_, rfl⟩, inferInstance⟩
 have hi : dw n at_ w = false := by
  rw [← Bool.not_eq_true, eg]; omega
 simp [cH, fI, hi]
 intro c4
 refine ah (aa rfl (ac rfl) (aa rfl (ac rfl) (aa rfl (bu dI rfl) (aa rfl (ac rfl) ?_))))
 refine aa rfl (dX rfl rfl (by first | exact aZ (by omega) | rfl)) ?_
 refine aa rfl (cy rfl rfl) (aa rfl (ai rfl) (ag (ab ?_)))
 refine aw rfl ?_ ?_
 intro c5
 refine ae (ah (aa rfl (ai rfl) (aa rfl (ai rfl) (ag (ab (av (bj (aE (au (.inl rfl) (.cons (ak rfl) (.cons (ak rfl) .nil)) ?_)))))))))
 refine ⟨_, ⟨?_, rfl⟩, inferInstance⟩
 have hi : dw n at_ w = false := by
  rw [← Bool.not_eq_true, eg]; omega
 simp [cH, fI, hi]
 intro c5
 refine aB (bH (ab (ae ?_)))
 have hi : dw n at_ w = true := eg.2 ⟨by omega, by omega, by omega, by omega⟩
 obtain ⟨i, k, rfl, rfl, hk, hik⟩ := kD hi
 refine ah (aa rfl (ac rfl) (aa rfl (ac rfl) (aa rfl (ac rfl) (aa rfl (ac rfl) ?_))))
 refine aa rfl (bF rfl rfl (by rw [aZ (by omega)]; exact (Int.natCast_add i k).symm : IntKind.wrap .i64 ((i : Int) + (k : Int)) = ((i + k : Nat) : Int))) ?_
 refine aa rfl (ac rfl) (aa rfl (ac rfl) ?_)
 refine aa rfl (bF rfl rfl (by rw [aZ (by omega)]; exact (Int.natCast_add i k).symm : IntKind.wrap .i64 ((i : Int) + (k : Int)) = ((i + k : Nat) : Int))) ?_
 refine aa rfl (qx dI gV rfl rfl rfl rfl rfl rfl rfl (by omega) (by omega) (by omega) (by omega) (by first | exact Nat.zero_add _ | rfl)) ?_
 refine aa rfl (ai rfl) (aa rfl (ai rfl) (ag (ab (av (au (.inl rfl) (.cons (ak rfl) (.cons (ak rfl) .nil)) ?_)))))
 refine ⟨_, ⟨?_, rfl⟩, inferInstance⟩
 simp [cH, fI, hi]
 intro g1_7
 refine ap rfl rfl rfl rfl (aa rfl (aM rfl rfl) (aa rfl (ai rfl) (ag (ab (eY rfl (ae (ae (ah (aa rfl (ac rfl) (aa rfl (b0 rfl rfl) (aa rfl (ai rfl) (ag (ab ?_)))))))))))))
 refine aw rfl ?_ ?_
 intro c3
 refine aB (ab (cg rfl (ae (ah (aa rfl (ai rfl) (aa rfl (ai rfl) (ag (ab (av (bj (aE (au (.inl rfl) (.cons (ak rfl) (.cons (ak rfl) .nil)) ?_))))))))))))
 refine ⟨_, ⟨?_, rfl⟩, inferInstance⟩
 have hi : dw n at_ w = false := by
  rw [← Bool.not_eq_true, eg]; omega
 simp [cH, fI, hi]
 intro c3
 refine ae (ah (aa rfl (ac rfl) (aa rfl (ac rfl) (aa rfl (bu dI rfl) (aa rfl (cy rfl rfl) (aa rfl (ai rfl) (ag (ab ?_))))))))
 refine aw rfl ?_ ?_
 intro c4
 refine aB (ab (cg rfl (ae (ah (aa rfl (ai rfl) (aa rfl (ai rfl) (ag (ab (av (bj (aE (au (.inl rfl) (.cons (ak rfl) (.cons (ak rfl) .nil)) ?_))))))))))))
 refine ⟨_, ⟨?_, rfl⟩, inferInstance⟩
 have hi : dw n at_ w = false := by
  rw [← Bool.not_eq_true, eg]; omega
 simp [cH, fI, hi]
 intro c4
 refine ah (aa rfl (ac rfl) (aa rfl (ac rfl) (aa rfl (bu dI rfl) (aa rfl (ac rfl) ?_))))
 refine aa rfl (dX rfl rfl (by first | exact aZ (by omega) | rfl)) ?_
 refine aa rfl (cy rfl rfl) (aa rfl (ai rfl) (ag (ab ?_)))
 refine aw rfl ?_ ?_
 intro c5
 refine ae (ah (aa rfl (ai rfl) (aa rfl (ai rfl) (ag (ab (av (bj (aE (au (.inl rfl) (.cons (ak rfl) (.cons (ak rfl) .nil)) ?_)))))))))
 refine ⟨_, ⟨?_, rfl⟩, inferInstance⟩
 have hi : dw n at_ w = false := by
  rw [← Bool.not_eq_true, eg]; omega
 simp [cH, fI, hi]
 intro c5
 refine aB (bH (ab (ae ?_)))
 have hi : dw n at_ w = true := eg.2 ⟨by omega, by omega, by omega, by omega⟩
 obtain ⟨i, k, rfl, rfl, hk, hik⟩ := kD hi
 refine ah (aa rfl (ac rfl) (aa rfl (ac rfl) (aa rfl (ac rfl) (aa rfl (ac rfl) ?_))))
 refine aa rfl (bF rfl rfl (by rw [aZ (by omega)]; exact (Int.natCast_add i k).symm : IntKind.wrap .i64 ((i : Int) + (k : Int)) = ((i + k : Nat) : Int))) ?_
 refine aa rfl (ac rfl) (aa rfl (ac rfl) ?_)
 refine aa rfl (bF rfl rfl (by rw [aZ (by omega)]; exact (Int.natCast_add i k).symm : IntKind.wrap .i64 ((i : Int) + (k : Int)) = ((i + k : Nat) : Int))) ?_
 refine aa rfl (qx dI gV rfl rfl rfl rfl rfl rfl rfl (by omega) (by omega) (by omega) (by omega) (by first | exact Nat.zero_add _ | rfl)) ?_
 refine aa rfl (ai rfl) (aa rfl (ai rfl) (ag (ab (av (au (.inl rfl) (.cons (ak rfl) (.cons (ak rfl) .nil)) ?_)))))
 refine ⟨_, ⟨?_, rfl⟩, inferInstance⟩
 simp [cH, fI, hi]
 intro g1_3
 refine ap rfl rfl rfl rfl (aa rfl (aM rfl rfl) (aa rfl (ac rfl) (ap rfl rfl rfl rfl (ap rfl rfl rfl rfl (aa rfl (aM rfl rfl) (aa rfl (ai rfl) (ag (ab (eY rfl (ae (ae (ah (aa rfl (ac rfl) (aa rfl (b0 rfl rfl) (aa rfl (ai rfl) (ag (ab ?_)))))))))))))))))
 refine aw rfl ?_ ?_
 intro c3
 refine aB (ab (cg rfl (ae (ah (aa rfl (ai rfl) (aa rfl (ai rfl) (ag (ab (av (bj (aE (au (.inl rfl) (.cons (ak rfl) (.cons (ak rfl) .nil)) ?_))))))))))))
 refine ⟨_, ⟨?_, rfl⟩, inferInstance⟩
 have hi : dw n at_ w = false := by
  rw [← Bool.not_eq_true, eg]; omega
 simp [cH, fI, hi]
 intro c3
 refine ae (ah (aa rfl (ac rfl) (aa rfl (ac rfl) (aa rfl (bu dI rfl) (aa rfl (cy rfl rfl) (aa rfl (ai rfl) (ag (ab ?_))))))))
 refine aw rfl ?_ ?_
 intro c4
 refine aB (ab (cg rfl (ae (ah (aa rfl (ai rfl) (aa rfl (ai rfl) (ag (ab (av (bj (aE (au (.inl rfl) (.cons (ak rfl) (.cons (ak rfl) .nil)) ?_))))))))))))
 refine ⟨_, ⟨?_, rfl⟩, inferInstance⟩
 have hi : dw n at_ w = false := by
  rw [← Bool.not_eq_true, eg]; omega
 simp [cH, fI, hi]
 intro c4
 refine ah (aa rfl (ac rfl) (aa rfl (ac rfl) (aa rfl (bu dI rfl) (aa rfl (ac rfl) ?_))))
 refine aa rfl (dX rfl rfl (by first | exact aZ (by omega) | rfl)) ?_
 refine aa rfl (cy rfl rfl) (aa rfl (ai rfl) (ag (ab ?_)))
 refine aw rfl ?_ ?_
 intro c5
 refine ae (ah (aa rfl (ai rfl) (aa rfl (ai rfl) (ag (ab (av (bj (aE (au (.inl rfl) (.cons (ak rfl) (.cons (ak rfl) .nil)) ?_)))))))))
 refine ⟨_, ⟨?_, rfl⟩, inferInstance⟩
 have hi : dw n at_ w = false := by
  rw [← Bool.not_eq_true, eg]; omega
 simp [cH, fI, hi]
 intro c5
 refine aB (bH (ab (ae ?_)))
 have hi : dw n at_ w = true := eg.2 ⟨by omega, by omega, by omega, by omega⟩
 obtain ⟨i, k, rfl, rfl, hk, hik⟩ := kD hi
 refine ah (aa rfl (ac rfl) (aa rfl (ac rfl) (aa rfl (ac rfl) (aa rfl (ac rfl) ?_))))
 refine aa rfl (bF rfl rfl (by rw [aZ (by omega)]; exact (Int.natCast_add i k).symm : IntKind.wrap .i64 ((i : Int) + (k : Int)) = ((i + k : Nat) : Int))) ?_
 refine aa rfl (ac rfl) (aa rfl (ac rfl) ?_)
 refine aa rfl (bF rfl rfl (by rw [aZ (by omega)]; exact (Int.natCast_add i k).symm : IntKind.wrap .i64 ((i : Int) + (k : Int)) = ((i + k : Nat) : Int))) ?_
 refine aa rfl (qx dI gV rfl rfl rfl rfl rfl rfl rfl (by omega) (by omega) (by omega) (by omega) (by first | exact Nat.zero_add _ | rfl)) ?_
 refine aa rfl (ai rfl) (aa rfl (ai rfl) (ag (ab (av (au (.inl rfl) (.cons (ak rfl) (.cons (ak rfl) .nil)) ?_)))))
 refine ⟨_, ⟨?_, rfl⟩, inferInstance⟩
 simp [cH, fI, hi]
theorem zf (W0 : World) (R : List HP) (a : Option Addr) (n c : Nat) (at_ w : Int) (hi : dw n at_ w = false) (hn : n < 9223372036854775808) :
    aC Tryz.prog W0 183 [.slice a n c, .int .i64 at_, .int .i64 w] R (fun v B => v = .tuple #[.slice none 0 0, .bool false] ∧ B = R) := by
 have hq : ¬ ((w = 1 ∨ w = 2 ∨ w = 4) ∧ 0 ≤ at_ ∧ at_ ≤ n ∧ w ≤ n - at_) := fun h => by rw [eg.2 h] at hi; cases hi
 refine aG func183 ntmps183 rfl rfl ?_
 refine ae (ah (aa rfl (ai rfl) (aa rfl (ai rfl) (ag (ab (ae (aW (ae (ah (aa rfl (ac rfl) (aa rfl (bI rfl rfl) (aa rfl (ac rfl) ?_))))))))))))
 refine cJ rfl rfl rfl ?_ ?_
 intro g1_3
 refine aa rfl (ac rfl) (ar rfl rfl (aa rfl (bI rfl rfl) (aa rfl (aY rfl rfl) (aa rfl (ac rfl) ?_))))
 refine cJ rfl rfl rfl ?_ ?_
 intro g1_7
 refine aa rfl (ac rfl) (ar rfl rfl (aa rfl (bI rfl rfl) (aa rfl (aY rfl rfl) (aa rfl (ai rfl) (ag (ab ?_))))))
 refine aw rfl ?_ ?_
 intro c1
 refine ae (ah (aa rfl (ai rfl) (aa rfl (ai rfl) (ag (ab (av (bj (aE (au (.inl rfl) (.cons (ak rfl) (.cons (ak rfl) .nil)) ?_)))))))))
 exact ⟨_, ⟨rfl, rfl⟩, inferInstance⟩
 intro c1
 refine ae (ae (ah (aa rfl (ac rfl) (aa rfl (b0 rfl rfl) (aa rfl (ai rfl) (ag (ab ?_)))))))
 refine aw rfl ?_ ?_
 intro c3
 refine aB (ab (cg rfl (ae (ah (aa rfl (ai rfl) (aa rfl (ai rfl) (ag (ab (av (bj (aE (au (.inl rfl) (.cons (ak rfl) (.cons (ak rfl) .nil)) ?_))))))))))))
 exact ⟨_, ⟨rfl, rfl⟩, inferInstance⟩
 intro c3
 refine ae (ah (aa rfl (ac rfl) (aa rfl (ac rfl) (aa rfl (bu dI rfl) (aa rfl (cy rfl rfl) (aa rfl (ai rfl) (ag (ab ?_))))))))
 refine aw rfl ?_ ?_
 intro c4
 refine aB (ab (cg rfl (ae (ah (aa rfl (ai rfl) (aa rfl (ai rfl) (ag (ab (av (bj (aE (au (.inl rfl) (.cons (ak rfl) (.cons (ak rfl) .nil)) ?_))))))))))))
 exact ⟨_, ⟨rfl, rfl⟩, inferInstance⟩
 intro c4
 refine ah (aa rfl (ac rfl) (aa rfl (ac rfl) (aa rfl (bu dI rfl) (aa rfl (ac rfl) ?_))))
 refine aa rfl (dX rfl rfl (by first | exact aZ (by omega) | rfl)) ?_
 refine aa rfl (cy rfl rfl) (aa rfl (ai rfl) (ag (ab ?_)))
 refine aw rfl ?_ ?_
 intro c5
 refine ae (ah (aa rfl (ai rfl) (aa rfl (ai rfl) (ag (ab (av (bj (aE (au (.inl rfl) (.cons (ak rfl) (.cons (ak rfl) .nil)) ?_)))))))))
 exact ⟨_, ⟨rfl, rfl⟩, inferInstance⟩
 intro c5
 exfalso; omega
 intro g1_7
 refine ap rfl rfl rfl rfl (aa rfl (aM rfl rfl) (aa rfl (ai rfl) (ag (ab (eY rfl (ae (ae (ah (aa rfl (ac rfl) (aa rfl (b0 rfl rfl) (aa rfl (ai rfl) (ag (ab ?_)))))))))))))
 refine aw rfl ?_ ?_
 intro c3
 refine aB (ab (cg rfl (ae (ah (aa rfl (ai rfl) (aa rfl (ai rfl) (ag (ab (av (bj (aE (au (.inl rfl) (.cons (ak rfl) (.cons (ak rfl) .nil)) ?_))))))))))))
 exact ⟨_, ⟨rfl, rfl⟩, inferInstance⟩
 intro c3
 refine ae (ah (aa rfl (ac rfl) (aa rfl (ac rfl) (aa rfl (bu dI rfl) (aa rfl (cy rfl rfl) (aa rfl (ai rfl) (ag (ab ?_))))))))
 refine aw rfl ?_ ?_
 intro c4
 refine aB (ab (cg rfl (ae (ah (aa rfl (ai rfl) (aa rfl (ai rfl) (ag (ab (av (bj (aE (au (.inl rfl) (.cons (ak rfl) (.cons (ak rfl) .nil)) ?_))))))))))))
 exact ⟨_, ⟨rfl, rfl⟩, inferInstance⟩
 intro c4
 refine ah (aa rfl (ac rfl) (aa rfl (ac rfl) (aa rfl (bu dI rfl) (aa rfl (ac rfl) ?_))))
 refine aa rfl (dX rfl rfl (by first | exact aZ (by omega) | rfl)) ?_
 refine aa rfl (cy rfl rfl) (aa rfl (ai rfl) (ag (ab ?_)))
 refine aw rfl ?_ ?_
 intro c5
 refine ae (ah (aa rfl (ai rfl) (aa rfl (ai rfl) (ag (ab (av (bj (aE (au (.inl rfl) (.cons (ak rfl) (.cons (ak rfl) .nil)) ?_)))))))))
 exact ⟨_, ⟨rfl, rfl⟩, inferInstance⟩
 intro c5
 exfalso; omega
 intro g1_3
 refine ap rfl rfl rfl rfl (aa rfl (aM rfl rfl) (aa rfl (ac rfl) (ap rfl rfl rfl rfl (ap rfl rfl rfl rfl (aa rfl (aM rfl rfl) (aa rfl (ai rfl) (ag (ab (eY rfl (ae (ae (ah (aa rfl (ac rfl) (aa rfl (b0 rfl rfl) (aa rfl (ai rfl) (ag (ab ?_)))))))))))))))))
 refine aw rfl ?_ ?_
 intro c3
 refine aB (ab (cg rfl (ae (ah (aa rfl (ai rfl) (aa rfl (ai rfl) (ag (ab (av (bj (aE (au (.inl rfl) (.cons (ak rfl) (.cons (ak rfl) .nil)) ?_))))))))))))
 exact ⟨_, ⟨rfl, rfl⟩, inferInstance⟩
 intro c3
 refine ae (ah (aa rfl (ac rfl) (aa rfl (ac rfl) (aa rfl (bu dI rfl) (aa rfl (cy rfl rfl) (aa rfl (ai rfl) (ag (ab ?_))))))))
 refine aw rfl ?_ ?_
 intro c4
 refine aB (ab (cg rfl (ae (ah (aa rfl (ai rfl) (aa rfl (ai rfl) (ag (ab (av (bj (aE (au (.inl rfl) (.cons (ak rfl) (.cons (ak rfl) .nil)) ?_))))))))))))
 exact ⟨_, ⟨rfl, rfl⟩, inferInstance⟩
 intro c4
 refine ah (aa rfl (ac rfl) (aa rfl (ac rfl) (aa rfl (bu dI rfl) (aa rfl (ac rfl) ?_))))
 refine aa rfl (dX rfl rfl (by first | exact aZ (by omega) | rfl)) ?_
 refine aa rfl (cy rfl rfl) (aa rfl (ai rfl) (ag (ab ?_)))
 refine aw rfl ?_ ?_
 intro c5
 refine ae (ah (aa rfl (ai rfl) (aa rfl (ai rfl) (ag (ab (av (bj (aE (au (.inl rfl) (.cons (ak rfl) (.cons (ak rfl) .nil)) ?_)))))))))
 exact ⟨_, ⟨rfl, rfl⟩, inferInstance⟩
 intro c5
 exfalso; omega
theorem zg {W0 : World} {R : List HP} (g off c : Nat) (l : List Nat) (hc : cY (bK W0 R) g off (cd l)) (hl : l.length ≤ 4) (hb : By l) :
    aC Tryz.prog W0 397 [.slice (some ⟨g, off, none⟩) l.length c] R (fun v B => v = .int .u32 (gZ l : Nat) ∧ B = R) := by
 refine aG func397 ntmps397 rfl rfl ?_
 refine ae (ah (aa rfl (ai rfl) (ag (ab (ae (ah (aa rfl (ai rfl) (ag (ab (ae (ae (ah (aa rfl (ac rfl) (aa rfl (bu dI rfl) (aa rfl (ac rfl) (ag (ab (aW ?_))))))))))))))))))
 refine cT (fun i : Nat => i ≤ l.length) (fun i => [(0, .slice (some ⟨g, off, none⟩) l.length c), (3, .int .u32 (gZ (l.take i) : Nat)), (6, .int .i64 (l.length : Nat)), (7, .int .i64 i)]) (fun _ => R) (fun i => l.length - i) 0 ?_ ?_ ?_ ?_
 exact Nat.zero_le _
 · repeat (first | exact aX | refine aV rfl ?_)
 exact inferInstance
 intro i hi
 refine ae (ah (aa rfl (b0 rfl rfl) (ag (ab (ae ?_)))))
 refine aw rfl ?_ ?_
 intro c3
 refine aB (ab (ae (aW (ae (ah (aa rfl (ac rfl) (aa rfl (ai rfl) (ag (ab ?_)))))))))
 have hil : i < l.length := by omega
 have hbi := hb.get hil
 have hlt := uh (hb.take i)
 rw [List.length_take, Nat.min_eq_left (by omega)] at hlt
 refine ah (aa rfl (ac rfl) (aa rfl (ac rfl) (aa rfl (ac rfl) ?_)))
 refine aa rfl (ce dI gV rfl rfl rfl hil (by first | exact Nat.zero_add _ | rfl)) ?_
 refine aa rfl (ao isAgg5 rfl (by have := hc i (bV l[i]) (z8 l i hil); rwa [Nat.mul_one])) ?_
 refine aa rfl (gC nz gW rfl (jO (by omega))) ?_
 refine aa rfl (ac rfl) ?_
 refine aa rfl (il rfl rfl (by rw [aZ (by omega)]; omega : IntKind.wrap .i64 (8 * (i : Int)) = ((8 * i : Nat) : Int))) ?_
 refine aa rfl (tQ rfl rfl (by omega) (za hbi (by omega))) ?_
 refine aa rfl (yI rfl rfl ((zb hlt hbi (by omega)).trans (congrArg _ (z9 hil).symm))) ?_
 refine aa rfl (ai rfl) (ag (bH (ab (ah ?_))))
 refine aa rfl (bF rfl rfl (by first | exact aZ (by omega) | rfl)) ?_
 refine aa rfl (ac rfl) (ag (ab ?_))
 refine cG (i + 1) ?_ ?_ ?_ ?_
 omega
 omega
 · repeat (first | exact aX | refine aV rfl ?_)
 exact inferInstance
 intro c3
 refine cj (bi (bi (co (ab (ae (ah (aa rfl (ac rfl) (aa rfl (ai rfl) (ag (ab (av (au (.inl rfl) (.cons (ak rfl) .nil) ?_))))))))))))
 refine ⟨_, ⟨?_, rfl⟩, inferInstance⟩
 have : i = l.length := by omega
 subst this; simp [cH]
theorem cY.part {S : World → Prop} {b off : Nat} {l : List Nat} (h : cY S b off (cd l)) (i k : Nat) (hik : i + k ≤ l.length) : cY S b (off + i) (cd ((l.drop i).take k)) := fun j v hv => by
 have hj : j < k := by
  rcases Nat.lt_or_ge j k with q | q
  exact q
  rw [List.getElem?_eq_none (by rw [dR, List.length_take]; omega)] at hv; cases hv
 have := h (i + j) v (by
   rw [cd, List.getElem?_map, List.getElem?_take_of_lt hj, List.getElem?_drop] at hv
   rw [cd, List.getElem?_map]; exact hv)
 rwa [← Nat.add_assoc] at this
def mP (l : List Nat) (at_ w : Int) : Nat := if dw l.length at_ w then gZ ((l.drop at_.toNat).take w.toNat) else 0
def lD (l : List Nat) (at_ w : Int) : Int := if dw l.length at_ w then 0 else 1
theorem zh {W0 : World} {R : List HP} (g off c : Nat) (l : List Nat) (at_ w : Int) (hc : cY (bK W0 R) g off (cd l)) (hb : By l) (hn : l.length ≤ c) (h63 : c < 9223372036854775808) :
    aC Tryz.prog W0 368 [.slice (some ⟨g, off, none⟩) l.length c, .int .i64 at_, .int .i64 w] R (fun v B => v = .tuple #[.int .u32 (mP l at_ w : Nat), .int .i64 (lD l at_ w)] ∧ B = R) := by
 by_cases hi : dw l.length at_ w = true
 obtain ⟨i, k, rfl, rfl, hk, hik⟩ := kD hi
 have hw : fI g off l.length i k = .tuple #[.slice (some ⟨g, off + i, none⟩) ((l.drop i).take k).length k, .bool true] := by
  have : min k (l.length - i) = k := by omega
  simp [fI, hi, this]
 refine aG func368 ntmps368 rfl rfl ?_
 refine ae (ah (aa rfl (ai rfl) (aa rfl (ai rfl) (ag (ab (ae (ah (aa rfl (ac rfl) (aa rfl (ac rfl) (aa rfl (ac rfl) (am rfl (aU sR rfl (qB W0 _ g off l.length c i k hn h63)) ?_)))))))))))
 rintro _ B_ ⟨rfl, hB_⟩
 obtain rfl := hB_.symm
 rw [hw]
 refine aa rfl (ac rfl) (aa rfl (aS rfl rfl) (aa rfl (aS rfl rfl) (aa rfl (ai rfl) (aa rfl (ai rfl) (ag (ab (ae (ae (ah (aa rfl (ac rfl) (aa rfl (bM rfl) (ag (ab ?_)))))))))))))
 refine aw rfl ?_ ?_
 intro c2
 exact absurd c2 (by simp)
 intro c2
 refine aB (ab (ae (ah (aa rfl (ac rfl) ?_))))
 refine am rfl (aU call397 rfl (zg g (off + i) k ((l.drop i).take k) (hc.part i k hik) (by rw [List.length_take]; omega) ((hb.drop i).take k))) ?_
 rintro _ B_ ⟨rfl, hB_⟩
 obtain rfl := hB_.symm
 refine aa rfl (ai rfl) (aa rfl (ai rfl) (ag (ab (av (au (.inl rfl) (.cons (ak rfl) (.cons (ak rfl) .nil)) ?_)))))
 refine ⟨_, ⟨?_, rfl⟩, inferInstance⟩
 simp [cH, mP, lD, hi]
 have hi' : dw l.length at_ w = false := by simpa using hi
 have hw : fI g off l.length at_ w = .tuple #[.slice none 0 0, .bool false] := by simp [fI, hi']
 refine aG func368 ntmps368 rfl rfl ?_
 refine ae (ah (aa rfl (ai rfl) (aa rfl (ai rfl) (ag (ab (ae (ah (aa rfl (ac rfl) (aa rfl (ac rfl) (aa rfl (ac rfl) (am rfl (aU sR rfl (qB W0 _ g off l.length c at_ w hn h63)) ?_)))))))))))
 rintro _ B_ ⟨rfl, hB_⟩
 obtain rfl := hB_.symm
 rw [hw]
 refine aa rfl (ac rfl) (aa rfl (aS rfl rfl) (aa rfl (aS rfl rfl) (aa rfl (ai rfl) (aa rfl (ai rfl) (ag (ab (ae (ae (ah (aa rfl (ac rfl) (aa rfl (bM rfl) (ag (ab ?_)))))))))))))
 refine aw rfl ?_ ?_
 intro c2
 refine ae (ah (aa rfl (ai rfl) (aa rfl (ai rfl) (ag (ab (av (aE (au (.inl rfl) (.cons (ak rfl) (.cons (ak rfl) .nil)) ?_))))))))
 refine ⟨_, ⟨?_, rfl⟩, inferInstance⟩
 simp [cH, mP, lD, hi']
 intro c2
 exact absurd c2 (by simp)
theorem zi (W0 : World) (R : List HP) (g off n c ty : Nat) (L : List Value) (w : Nat) (hw : w < 4294967296) (hn : n ≤ 4) (hL : off + n ≤ L.length) :
    aC Tryz.prog W0 184 [.slice (some ⟨g, off, none⟩) n c, .int .u32 w] (pt g (ax L ty) :: R) (fun v B => v = .tuple #[] ∧ B = pt g (ax (setR L off (cd (g6 n w))) ty) :: R) := by
 refine aG func184 ntmps184 rfl rfl ?_
 refine ae (ah (aa rfl (ac rfl) (aa rfl (bu dI rfl) (aa rfl (ac rfl) (ag (ab (aW ?_)))))))
 refine cT (fun i : Nat => i ≤ n) (fun i => [(0, .slice (some ⟨g, off, none⟩) n c), (1, .int .u32 w), (6, .int .i64 n), (7, .int .i64 i)]) (fun i => pt g (ax (setR L off (cd (g6 i w))) ty) :: R) (fun i => n - i) 0 ?_ ?_ ?_ ?_
 exact Nat.zero_le _
 · repeat (first | exact aX | refine aV rfl ?_)
 rw [show setR L off (cd (g6 0 w)) = L from rfl]; exact inferInstance
 intro i hi
 refine ae (ah (aa rfl (b0 rfl rfl) (ag (ab (ae ?_)))))
 refine aw rfl ?_ ?_
 intro c1
 refine aB (ab (ae (aW (ae (ah (aa rfl (ac rfl) (aa rfl (ai rfl) (ag (ab (ah (aa rfl (ac rfl) (aa rfl (ac rfl) (aa rfl (ac rfl) (aa rfl (ac rfl) ?_))))))))))))))
 refine aa rfl (il rfl rfl (by rw [aZ (by omega)]; omega : IntKind.wrap .i64 (8 * (i : Int)) = ((8 * i : Nat) : Int))) ?_
 refine aa rfl (o9 rfl rfl (by omega) rfl) ?_
 refine aa rfl (gC gW nz rfl (ul (by omega))) ?_
 refine aa rfl (ce dI gV rfl rfl rfl (by omega) (by first | exact Nat.zero_add _ | rfl)) ?_
 refine bD (cm gV rfl rfl rfl (by rw [mr]; omega) (by rw [uk, ug, show cd [w / 256 ^ i % 256] = [bV (w / 256 ^ i % 256)] from rfl, qA, dR, lB, Nat.mul_one]; rfl : (setR L off (cd (g6 i w))).set (off + i * 1) _ = setR L off (cd (g6 (i + 1) w)))) ?_
 rintro _ _ rfl
 refine ag (bH (ab (ah ?_)))
 refine aa rfl (bF rfl rfl (by first | exact aZ (by omega) | rfl)) ?_
 refine aa rfl (ac rfl) (ag (ab ?_))
 refine cG (i + 1) ?_ ?_ ?_ ?_
 omega
 omega
 · repeat (first | exact aX | refine aV rfl ?_)
 exact inferInstance
 intro c1
 refine cj (bi (bi (co (au (.inr rfl) .nil ?_))))
 have : i = n := by omega
 subst this
 exact ⟨_, ⟨rfl, rfl⟩, inferInstance⟩
theorem un {W0 : World} {R : List HP} (g off c : Nat) (l : List Nat) (hc : cY (bK W0 R) g off (cd l)) (hn : l.length ≤ 1000000) :
    aC Tryz.prog W0 182 [.slice (some ⟨g, off, none⟩) l.length c] R (fun v B => ∃ a' c', v = .slice a' l.length c' ∧ B = osl 5 1 (.slice a' l.length c') (cd l) :: R) := by
 refine aG func182 ntmps182 rfl rfl ?_
 refine ae (ah (aa rfl (ai rfl) (ag (ab (ae (ae (ah (aa rfl (ac rfl) (aa rfl (qw dI rfl rfl) (ag (ab ?_)))))))))))
 refine aw rfl ?_ ?_
 intro c1
 cases c1
 intro c1
 refine aB (ab (ae (ah (am rfl (mK dI gV rfl) ?_))))
 rintro _ _ ⟨b1, rfl, rfl⟩
 refine aa rfl (ac rfl) ?_
 refine am rfl (dP (sz := 1) (by_ := 1) (info := Tryz.t5) dI (by kernel_rfl) rfl rfl rfl rfl (by decide) rfl rfl hc.weak ((dR l).trans (Nat.mul_one _).symm) (qy l) (by simp only [maxLen]; omega) (by omega)) ?_
 rintro _ _ ⟨a1, c1, rfl, rfl⟩
 refine aa rfl (ai rfl) (ag (ab (av (au (.inl rfl) (.cons (ak rfl) .nil) ?_))))
 exact ⟨_, ⟨a1, c1, by simp [cH], rfl⟩, by simpa using (ent_refl : Ent _ _)⟩
theorem uo (W0 : World) (R : List HP) (a : Option Addr) (n c : Nat) (at_ w : Int) (hn : n < 9223372036854775808) :
    aC Tryz.prog W0 389 [.slice a n c, .int .i64 at_, .int .i64 w] R (fun v B => v = .bool (dw n at_ w) ∧ B = R) := by
 refine aG func389 ntmps389 rfl rfl ?_
 refine ae (ah (aa rfl (ai rfl) (ag (ab (ae (ae (ah (aa rfl (ac rfl) (aa rfl (bI rfl rfl) (aa rfl (ac rfl) ?_))))))))))
 refine cJ rfl rfl rfl ?_ ?_
 intro g1_3
 refine aa rfl (ac rfl) (ar rfl rfl (aa rfl (bI rfl rfl) (aa rfl (aY rfl rfl) (aa rfl (ac rfl) ?_))))
 refine cJ rfl rfl rfl ?_ ?_
 intro g1_7
 refine aa rfl (ac rfl) (ar rfl rfl (aa rfl (bI rfl rfl) (aa rfl (aY rfl rfl) (ag (ab ?_)))))
 refine aw rfl ?_ ?_
 intro c1
 refine ae (ah (aa rfl (ai rfl) (ag (ab (av (aE (au (.inl rfl) (.cons (ak rfl) .nil) ?_)))))))
 refine ⟨_, ⟨?_, rfl⟩, inferInstance⟩
 have hi : dw n at_ w = false := by
  rw [← Bool.not_eq_true, eg]; omega
 simp [cH, hi]
 intro c1
 refine aB (ab (ae (ah (aa rfl (ac rfl) (aa rfl (cK rfl rfl) (aa rfl (ac rfl) ?_))))))
 refine cJ rfl rfl rfl ?_ ?_
 intro g3_3
 refine aa rfl (ac rfl) (ar rfl rfl (aa rfl (ac rfl) (ar rfl rfl (aa rfl (bu dI rfl) (ar rfl rfl (aa rfl (iH rfl rfl) (aa rfl (aY rfl rfl) (aa rfl (ac rfl) ?_))))))))
 refine cJ rfl rfl rfl ?_ ?_
 intro g3_9
 refine aa rfl (ac rfl) (ar rfl rfl (aa rfl (bu dI rfl) (ar rfl rfl (aa rfl (ac rfl) (ar rfl rfl ?_)))))
 refine aa rfl (dX rfl rfl (aZ (by omega))) ?_
 refine ar rfl rfl (aa rfl (ac rfl) (ar rfl rfl (aa rfl (cK rfl rfl) (aa rfl (aY rfl rfl) (aa rfl (ai rfl) (ag (ab (av (au (.inl rfl) (.cons (ak rfl) .nil) ?_)))))))))
 refine ⟨_, ⟨?_, rfl⟩, inferInstance⟩
 refine congrArg Value.bool ?_
 rw [Bool.eq_iff_iff, eg]; simp only [Bool.false_eq_true, false_iff, decide_eq_true_eq]; omega
 intro g3_9
 refine ap rfl rfl rfl rfl (ap rfl rfl rfl rfl (ap rfl rfl rfl rfl (ap rfl rfl rfl rfl (ap rfl rfl rfl rfl (aa rfl (aM rfl rfl) (aa rfl (ai rfl) (ag (ab (av (au (.inl rfl) (.cons (ak rfl) .nil) ?_))))))))))
 refine ⟨_, ⟨?_, rfl⟩, inferInstance⟩
 refine congrArg Value.bool ?_
 rw [Bool.eq_iff_iff, eg]; simp only [Bool.false_eq_true, false_iff, decide_eq_true_eq]; omega
 intro g3_3
 refine ap rfl rfl rfl rfl (ap rfl rfl rfl rfl (ap rfl rfl rfl rfl (aa rfl (aM rfl rfl) (aa rfl (ac rfl) (ap rfl rfl rfl rfl (ap rfl rfl rfl rfl (ap rfl rfl rfl rfl (ap rfl rfl rfl rfl (ap rfl rfl rfl rfl (ap rfl rfl rfl rfl (aa rfl (aM rfl rfl) (aa rfl (ai rfl) (ag (ab (av (au (.inl rfl) (.cons (ak rfl) .nil) ?_))))))))))))))))
 refine ⟨_, ⟨?_, rfl⟩, inferInstance⟩
 refine congrArg Value.bool ?_
 rw [Bool.eq_iff_iff, eg]; simp only [Bool.false_eq_true, false_iff, decide_eq_true_eq]; omega
 intro g1_7
 refine ap rfl rfl rfl rfl (aa rfl (aM rfl rfl) (ag (ab (eY rfl (aB (ab (ae (ah (aa rfl (ac rfl) (aa rfl (cK rfl rfl) (aa rfl (ac rfl) ?_)))))))))))
 refine cJ rfl rfl rfl ?_ ?_
 intro g3_3
 refine aa rfl (ac rfl) (ar rfl rfl (aa rfl (ac rfl) (ar rfl rfl (aa rfl (bu dI rfl) (ar rfl rfl (aa rfl (iH rfl rfl) (aa rfl (aY rfl rfl) (aa rfl (ac rfl) ?_))))))))
 refine cJ rfl rfl rfl ?_ ?_
 intro g3_9
 refine aa rfl (ac rfl) (ar rfl rfl (aa rfl (bu dI rfl) (ar rfl rfl (aa rfl (ac rfl) (ar rfl rfl ?_)))))
 refine aa rfl (dX rfl rfl (aZ (by omega))) ?_
 refine ar rfl rfl (aa rfl (ac rfl) (ar rfl rfl (aa rfl (cK rfl rfl) (aa rfl (aY rfl rfl) (aa rfl (ai rfl) (ag (ab (av (au (.inl rfl) (.cons (ak rfl) .nil) ?_)))))))))
 refine ⟨_, ⟨?_, rfl⟩, inferInstance⟩
 refine congrArg Value.bool ?_
 rw [Bool.eq_iff_iff, eg]; simp only [Bool.false_eq_true, false_iff, decide_eq_true_eq]; omega
 intro g3_9
 refine ap rfl rfl rfl rfl (ap rfl rfl rfl rfl (ap rfl rfl rfl rfl (ap rfl rfl rfl rfl (ap rfl rfl rfl rfl (aa rfl (aM rfl rfl) (aa rfl (ai rfl) (ag (ab (av (au (.inl rfl) (.cons (ak rfl) .nil) ?_))))))))))
 refine ⟨_, ⟨?_, rfl⟩, inferInstance⟩
 refine congrArg Value.bool ?_
 rw [Bool.eq_iff_iff, eg]; simp only [Bool.false_eq_true, false_iff, decide_eq_true_eq]; omega
 intro g3_3
 refine ap rfl rfl rfl rfl (ap rfl rfl rfl rfl (ap rfl rfl rfl rfl (aa rfl (aM rfl rfl) (aa rfl (ac rfl) (ap rfl rfl rfl rfl (ap rfl rfl rfl rfl (ap rfl rfl rfl rfl (ap rfl rfl rfl rfl (ap rfl rfl rfl rfl (ap rfl rfl rfl rfl (aa rfl (aM rfl rfl) (aa rfl (ai rfl) (ag (ab (av (au (.inl rfl) (.cons (ak rfl) .nil) ?_))))))))))))))))
 refine ⟨_, ⟨?_, rfl⟩, inferInstance⟩
 refine congrArg Value.bool ?_
 rw [Bool.eq_iff_iff, eg]; simp only [Bool.false_eq_true, false_iff, decide_eq_true_eq]; omega
 intro g1_3
 refine ap rfl rfl rfl rfl (aa rfl (aM rfl rfl) (aa rfl (ac rfl) (ap rfl rfl rfl rfl (ap rfl rfl rfl rfl (aa rfl (aM rfl rfl) (ag (ab (eY rfl (aB (ab (ae (ah (aa rfl (ac rfl) (aa rfl (cK rfl rfl) (aa rfl (ac rfl) ?_)))))))))))))))
 refine cJ rfl rfl rfl ?_ ?_
 intro g3_3
 refine aa rfl (ac rfl) (ar rfl rfl (aa rfl (ac rfl) (ar rfl rfl (aa rfl (bu dI rfl) (ar rfl rfl (aa rfl (iH rfl rfl) (aa rfl (aY rfl rfl) (aa rfl (ac rfl) ?_))))))))
 refine cJ rfl rfl rfl ?_ ?_
 intro g3_9
 refine aa rfl (ac rfl) (ar rfl rfl (aa rfl (bu dI rfl) (ar rfl rfl (aa rfl (ac rfl) (ar rfl rfl ?_)))))
 refine aa rfl (dX rfl rfl (aZ (by omega))) ?_
 refine ar rfl rfl (aa rfl (ac rfl) (ar rfl rfl (aa rfl (cK rfl rfl) (aa rfl (aY rfl rfl) (aa rfl (ai rfl) (ag (ab (av (au (.inl rfl) (.cons (ak rfl) .nil) ?_)))))))))
 refine ⟨_, ⟨?_, rfl⟩, inferInstance⟩
 refine congrArg Value.bool ?_
 rw [Bool.eq_iff_iff, eg]; simp only [Bool.false_eq_true, false_iff, decide_eq_true_eq]; omega
 intro g3_9
 refine ap rfl rfl rfl rfl (ap rfl rfl rfl rfl (ap rfl rfl rfl rfl (ap rfl rfl rfl rfl (ap rfl rfl rfl rfl (aa rfl (aM rfl rfl) (aa rfl (ai rfl) (ag (ab (av (au (.inl rfl) (.cons (ak rfl) .nil) ?_))))))))))
 refine ⟨_, ⟨?_, rfl⟩, inferInstance⟩
 refine congrArg Value.bool ?_
 rw [Bool.eq_iff_iff, eg]; simp only [Bool.false_eq_true, false_iff, decide_eq_true_eq]; omega
 intro g3_3
 refine ap rfl rfl rfl rfl (ap rfl rfl rfl rfl (ap rfl rfl rfl rfl (aa rfl (aM rfl rfl) (aa rfl (ac rfl) (ap rfl rfl rfl rfl (ap rfl rfl rfl rfl (ap rfl rfl rfl rfl (ap rfl rfl rfl rfl (ap rfl rfl rfl rfl (ap rfl rfl rfl rfl (aa rfl (aM rfl rfl) (aa rfl (ai rfl) (ag (ab (av (au (.inl rfl) (.cons (ak rfl) .nil) ?_))))))))))))))))
 refine ⟨_, ⟨?_, rfl⟩, inferInstance⟩
 refine congrArg Value.bool ?_
 rw [Bool.eq_iff_iff, eg]; simp only [Bool.false_eq_true, false_iff, decide_eq_true_eq]; omega
theorem zj {c : Nat} (h : c ≤ maxLen) : c < 9223372036854775808 := by simp only [maxLen] at h; omega
theorem uq {l : List Nat} {sp : List Value} {i k w : Nat} (h : i + k ≤ l.length) : setR (cd l ++ sp) i (cd (g6 k w)) = cd (gO l i k w) ++ sp := by
 rw [um _ _ _ _ (by rw [dR, dR, lB]; exact h), ze h]
def ov (a : Option Addr) (n c : Nat) : Value := .tuple #[.slice a n c, .int .i64 0]
def qC : Value := .tuple #[.slice none 0 0, .int .i64 1]
theorem zk {W0 : World} {R : List HP} (g off c : Nat) (l : List Nat) (i k w : Nat) (hw : w < 4294967296) (hc : cY (bK W0 R) g off (cd l)) (hi : dw l.length i k = true) (hn : l.length ≤ 1000000) :
    aC Tryz.prog W0 73 [.slice (some ⟨g, off, none⟩) l.length c, .int .i64 i, .int .i64 k, .int .u32 w] R (fun v B => ∃ a' c', v = ov a' l.length c' ∧ B = osl 5 1 (.slice a' l.length c') (cd (gO l i k w)) :: R) := by
 have hb := eg.1 hi
 refine aG func73 ntmps73 rfl rfl ?_
 refine ae (ah (aa rfl (ai rfl) (aa rfl (ai rfl) (ag (ab (ae (ah (aa rfl (ac rfl) (am rfl (aU call182 rfl (un g off c l hc hn)) ?_)))))))))
 rintro _ B_ ⟨a', c', rfl, hB_⟩
 obtain rfl := hB_.symm
 refine aa rfl (ai rfl) (ag (ab (ae ?_)))
 refine gN (fun h _ => by have := (Value.slice.inj h).2.1; omega) fun g' n' cap sp h1 h2 h3 h4 h5 => ?_
 cases h1
 have hwv : fI g' 0 l.length i k = .tuple #[.slice (some ⟨g', i, none⟩) k k, .bool true] := by simp [fI, hi]
 refine ah (aa rfl (ac rfl) (aa rfl (ac rfl) (aa rfl (ac rfl) (am rfl (aU sR rfl (qB W0 _ g' 0 l.length c' i k h2 (zj h3))) ?_))))
 rintro _ B_ ⟨rfl, hB_⟩
 obtain rfl := hB_.symm
 rw [hwv]
 refine aa rfl (ac rfl) (aa rfl (aS rfl rfl) (aa rfl (aS rfl rfl) (aa rfl (ai rfl) (aa rfl (ai rfl) (ag (ab (ae (ae (ah (aa rfl (ac rfl) (aa rfl (bM rfl) (ag (ab ?_)))))))))))))
 refine aw rfl ?_ ?_
 intro c3
 exact absurd c3 (by simp)
 intro c3
 refine aB (ab (ae (ah (aa rfl (ac rfl) (aa rfl (ac rfl) ?_)))))
 refine am rfl (bn call184 rfl (zi W0 _ g' i k k 5 (cd l ++ sp) w hw (by omega) (by rw [List.length_append, dR]; omega))) ?_
 rintro _ B_ ⟨rfl, hB_⟩
 obtain rfl := hB_.symm
 rw [uq (by omega)]
 refine ag (ab (ae (ah (aa rfl (ac rfl) (aa rfl (ai rfl) (aa rfl (ai rfl) (ag (ab (av (au (.inl rfl) (.cons (ak rfl) (.cons (ak rfl) .nil)) ?_))))))))))
 exact ⟨_, ⟨_, c', rfl, rfl⟩, fa h2 h3 (by rw [dR, kC (by omega), Nat.mul_one]) (by rw [← h5, List.length_append, List.length_append, dR, dR, kC (by omega)])⟩
theorem zl {W0 : World} {R : List HP} (g off c : Nat) (l : List Nat) (at_ k : Int) (w : Nat) (hc : cY (bK W0 R) g off (cd l)) (hi : dw l.length at_ k = false) (hn : l.length ≤ 1000000) :
    aC Tryz.prog W0 73 [.slice (some ⟨g, off, none⟩) l.length c, .int .i64 at_, .int .i64 k, .int .u32 w] R (fun v B => v = qC ∧ B = R) := by
 refine aG func73 ntmps73 rfl rfl ?_
 refine ae (ah (aa rfl (ai rfl) (aa rfl (ai rfl) (ag (ab (ae (ah (aa rfl (ac rfl) (am rfl (aU call182 rfl (un g off c l hc hn)) ?_)))))))))
 rintro _ B_ ⟨a', c', rfl, hB_⟩
 obtain rfl := hB_.symm
 refine aa rfl (ai rfl) (ag (ab (ae ?_)))
 obtain ⟨R', hR'⟩ : ∃ R', R' = osl 5 1 (.slice a' l.length c') (cd l) :: R := ⟨_, rfl⟩
 refine ah (aa rfl (ac rfl) (aa rfl (ac rfl) (aa rfl (ac rfl) ?_)))
 refine am rfl (aU sR rfl (zf W0 _ a' l.length c' at_ k hi (by omega))) ?_
 rintro _ B_ ⟨rfl, hB_⟩
 obtain rfl := hB_.symm
 refine aa rfl (ac rfl) (aa rfl (aS rfl rfl) (aa rfl (aS rfl rfl) (aa rfl (ai rfl) (aa rfl (ai rfl) (ag (ab (ae (ae (ah (aa rfl (ac rfl) (aa rfl (bM rfl) (ag (ab ?_)))))))))))))
 refine aw rfl ?_ ?_
 intro c3
 refine ae (ah (aa rfl (ai rfl) (aa rfl (ai rfl) (ag (ab (av (aE (au (.inl rfl) (.cons (ak rfl) (.cons (ak rfl) .nil)) ?_))))))))
 exact ⟨_, ⟨rfl, rfl⟩, inferInstance⟩
 intro c3
 exact absurd c3 (by simp)
theorem zm {W0 : World} {R : List HP} (g off c : Nat) (l : List Nat) (i0 k w : Nat) (hw : w < 4294967296) (hc : cY (bK W0 R) g off (cd l)) (hi : dw l.length i0 k = true) (hn : l.length ≤ 1000000) :
    aC Tryz.prog W0 362 [.slice (some ⟨g, off, none⟩) l.length c, .int .i64 i0, .int .i64 k, .int .u32 w] R (fun v B => ∃ a' c', v = ov a' l.length c' ∧ B = osl 5 1 (.slice a' l.length c') (cd (gO l i0 k w)) :: R) := by
 have hb := eg.1 hi
 refine aG func362 ntmps362 rfl rfl ?_
 refine ae (ah (aa rfl (ai rfl) (aa rfl (ai rfl) (ag (ab (ae (ae (ah (aa rfl (ac rfl) (aa rfl (ac rfl) (aa rfl (ac rfl) ?_)))))))))))
 refine am rfl (aU call389 rfl (uo W0 _ _ l.length c i0 k (by omega))) ?_
 rintro _ B_ ⟨rfl, hB_⟩
 obtain rfl := hB_.symm
 refine aa rfl (bM rfl) (ag (ab ?_))
 refine aw rfl ?_ ?_
 intro c1
 exact absurd c1 (by simp [hi])
 intro c1
 refine aB (ab (ae (ah (am rfl (mK dI gV rfl) ?_))))
 rintro _ _ ⟨b1, rfl, rfl⟩
 refine aa rfl (ac rfl) ?_
 refine am rfl (dP (sz := 1) (by_ := 1) (info := Tryz.t5) dI (by kernel_rfl) rfl rfl rfl rfl (by decide) rfl rfl hc.weak ((dR l).trans (Nat.mul_one _).symm) (qy l) (by simp only [maxLen]; omega) (by omega)) ?_
 rintro _ B_ ⟨a', c', rfl, hB_⟩
 obtain rfl := hB_.symm
 simp only [Nat.zero_add, List.nil_append]
 refine aa rfl (ai rfl) (ag (ab (ae (ae ?_))))
 refine gN (fun h _ => by have := (Value.slice.inj h).2.1; omega) fun g' n' cap sp h1 h2 h3 h4 h5 => ?_
 cases h1
 refine ah (aa rfl (ai rfl) (ag (ab (aW ?_))))
 refine cT (fun i : Nat => i ≤ k) (fun i => [(1, .int .i64 i0), (2, .int .i64 k), (3, .int .u32 w), (10, .slice (some ⟨g', 0, none⟩) l.length c'), (11, .int .i64 i)]) (fun i => pt g' (ax (setR (cd l ++ sp) i0 (cd (g6 i w))) 5) :: R) (fun i => k - i) 0 ?_ ?_ ?_ ?_
 exact Nat.zero_le _
 · repeat (first | exact aX | refine aV rfl ?_)
 rw [show setR (cd l ++ sp) i0 (cd (g6 0 w)) = cd l ++ sp from rfl]; exact inferInstance
 intro i hik
 refine ae (ae (ah (aa rfl (ac rfl) (aa rfl (ac rfl) (aa rfl (b0 rfl rfl) (ag (ab ?_)))))))
 refine aw rfl ?_ ?_
 intro c5
 refine aB (ab (ae (aW (ah (aa rfl (ac rfl) (aa rfl (ac rfl) (aa rfl (ac rfl) ?_)))))))
 refine aa rfl (bF rfl rfl (by rw [aZ (by omega)]; omega : IntKind.wrap .i64 ((i0 : Int) + (i : Int)) = ((i0 + i : Nat) : Int))) ?_
 refine aa rfl (ac rfl) (aa rfl (ac rfl) ?_)
 refine aa rfl (il rfl rfl (by rw [aZ (by omega)]; omega : IntKind.wrap .i64 (8 * (i : Int)) = ((8 * i : Nat) : Int))) ?_
 refine aa rfl (o9 rfl rfl (by omega) rfl) ?_
 refine aa rfl (gC gW nz rfl (ul (by omega))) ?_
 refine aa rfl (ce dI gV rfl rfl rfl (by omega) (by first | exact Nat.zero_add _ | rfl)) ?_
 refine bD (cm gV rfl rfl rfl (by rw [mr, List.length_append, dR]; omega) (by rw [uk, ug, show cd [w / 256 ^ i % 256] = [bV (w / 256 ^ i % 256)] from rfl, qA, dR, lB, Nat.mul_one]; rfl : (setR (cd l ++ sp) i0 (cd (g6 i w))).set ((i0 + i) * 1) _ = setR (cd l ++ sp) i0 (cd (g6 (i + 1) w)))) ?_
 rintro _ _ rfl
 refine ag (bH (ab (ah (aa rfl (ac rfl) ?_))))
 refine aa rfl (bF rfl rfl (by first | exact aZ (by omega) | rfl)) ?_
 refine aa rfl (ai rfl) (ag (ab ?_))
 refine cG (i + 1) ?_ ?_ ?_ ?_
 omega
 omega
 · repeat (first | exact aX | refine aV rfl ?_)
 exact inferInstance
 intro c5
 refine cj (bi (bi (co (ab (ae (ah (aa rfl (ac rfl) (aa rfl (ai rfl) (aa rfl (ai rfl) (ag (ab (av (au (.inl rfl) (.cons (ak rfl) (.cons (ak rfl) .nil)) ?_)))))))))))))
 have : i = k := by omega
 subst this
 rw [uq (by omega)]
 exact ⟨_, ⟨_, c', rfl, rfl⟩, fa h2 h3 (by rw [dR, kC (by omega), Nat.mul_one]) (by rw [← h5, List.length_append, List.length_append, dR, dR, kC (by omega)])⟩
theorem zn (W0 : World) (R : List HP) (a : Option Addr) (n c : Nat) (at_ k : Int) (w : Nat) (hi : dw n at_ k = false) (hn : n ≤ 1000000) :
    aC Tryz.prog W0 362 [.slice a n c, .int .i64 at_, .int .i64 k, .int .u32 w] R (fun v B => v = qC ∧ B = R) := by
 refine aG func362 ntmps362 rfl rfl ?_
 refine ae (ah (aa rfl (ai rfl) (aa rfl (ai rfl) (ag (ab (ae (ae (ah (aa rfl (ac rfl) (aa rfl (ac rfl) (aa rfl (ac rfl) ?_)))))))))))
 refine am rfl (aU call389 rfl (uo W0 _ _ n c at_ k (by omega))) ?_
 rintro _ B_ ⟨rfl, hB_⟩
 obtain rfl := hB_.symm
 refine aa rfl (bM rfl) (ag (ab ?_))
 refine aw rfl ?_ ?_
 intro c1
 refine ae (ah (aa rfl (ai rfl) (aa rfl (ai rfl) (ag (ab (av (aE (au (.inl rfl) (.cons (ak rfl) (.cons (ak rfl) .nil)) ?_))))))))
 exact ⟨_, ⟨rfl, rfl⟩, inferInstance⟩
 intro c1
 exact absurd c1 (by simp [hi])
abbrev bZ := List Nat
def hJ (x : bZ) : List Value := (List.range 64).map (fun i => bV (x.getD i 0))
theorem qD (x : bZ) : (hJ x).length = 64 := by simp [hJ]
theorem ut {x : bZ} (h : x.length = 64) : hJ x = cd x := by
 apply List.ext_getElem
 simp [hJ, cd, h]
 intro i h1 h2
 have : i < x.length := by simpa [cd] using h2
 simp [hJ, cd, List.getD, this]
def dZ (fr : List bZ) : Prop := ∀ x ∈ fr, x.length = 64 ∧ By x
theorem dZ.get {fr : List bZ} (h : dZ fr) {f : Nat} (hf : f < fr.length) : (fr.getD f []).length = 64 ∧ By (fr.getD f []) := by
 have : fr.getD f [] = fr[f] := by simp [List.getD, hf]
 rw [this]; exact h _ (List.getElem_mem hf)
theorem dZ.set {fr : List bZ} (h : dZ fr) {f : Nat} {y : bZ} (hy : y.length = 64 ∧ By y) : dZ (fr.set f y) := fun x hx => by
 rcases List.mem_or_eq_of_mem_set hx with h' | rfl
 exact h x h'
 exact hy
theorem qE {fr : List bZ} (h : dZ fr) {f : Nat} (hf : f < fr.length) : ((fr.flatMap hJ).drop (f * 64)).take 64 = cd (fr.getD f []) := by
 have := mB qD fr f [] hf
 rw [List.append_nil] at this
 rw [this, ut (h _ (List.getElem_mem hf)).1]; simp [List.getD, hf]
theorem uu {fr : List bZ} {f : Nat} {y : bZ} (hf : f < fr.length) (hy : y.length = 64) : setR (fr.flatMap hJ) (f * 64) (cd y) = (fr.set f y).flatMap hJ := by
 have := oo qD fr f y [] hf
 rw [List.append_nil, List.append_nil, ut hy] at this
 exact this
theorem uv (fr : List bZ) : (fr.flatMap hJ).length = fr.length * 64 := dr qD fr
def bE : bZ := List.replicate 64 0
theorem zo : bE.length = 64 ∧ By bE := ⟨by simp [bE], fun b hb => by have := List.eq_of_mem_replicate hb; omega⟩
theorem dZ.new (n : Nat) : dZ (List.replicate n bE) := fun x hx => by rw [List.eq_of_mem_replicate hx]; exact zo
theorem uw : ∀ n, (List.replicate n bE).flatMap hJ = List.replicate (n * 64) (bV 0)
 | 0 => rfl
 | n + 1 => by
  rw [List.replicate_succ, List.flatMap_cons, uw n, Nat.succ_mul, Nat.add_comm, ← List.replicate_append_replicate]
  congr 1
def bG (ps : Nat) (fr : List bZ) : HP := chk (fun C => ∃ g, C = [pt ps (ax [.slice (some ⟨g, 0, none⟩) fr.length fr.length, .bool true] 181), pt g (ax (fr.flatMap hJ) 178)])
section
variable {P : Program} {W0 : World} {N : FSz} {K : Act → World → Prop} {e : bQ} {A B R R1 R2 : List HP} {ps g n : Nat} {fr : List bZ} {f : FuncId} {args : List Value} {Post : Value → List HP → Prop} {l : List Value}
theorem zp (h : ∀ g, aC P W0 f args (pt ps (ax [.slice (some ⟨g, 0, none⟩) fr.length fr.length, .bool true] 181) :: pt g (ax (fr.flatMap hJ) 178) :: R) Post) : aC P W0 f args (bG ps fr :: R) Post :=
  mG fun C hC => by obtain ⟨g, rfl⟩ := hC; exact h g
theorem jj [h1 : Tk pt ps A (ax [.slice (some ⟨g, 0, none⟩) n n, .bool true] 181) R1] [h2 : Tk pt g R1 (ax l 178) R2] (hl : l = fr.flatMap hJ) (hn : n = fr.length) [k : Ent R2 B] : Ent A (bG ps fr :: B) := by
 subst hl; subst hn
 exact (Ent.ofPerm (h1.perm.trans (h2.perm.cons _))).trans ((Ent.cons (Ent.cons k)).trans (eZ (R := B) (C := [_, _]) ⟨g, rfl⟩))
theorem lE [hk : Tk bG ps A fr R] (h : ∀ g, aT W0 N K e (pt ps (ax [.slice (some ⟨g, 0, none⟩) fr.length fr.length, .bool true] 181) :: pt g (ax (fr.flatMap hJ) 178) :: R)) : aT W0 N K e A :=
  ed (r := bG) (b := ps) (jh fun C hC => by obtain ⟨g, rfl⟩ := hC; exact h g)
end
theorem zq {W0 : World} {R : List HP} {g off c n : Nat} {l : List Nat} {at_ w : Int} (hl : l.length = n) (hc : cY (bK W0 R) g off (cd l)) (hb : By l) (hn : n ≤ c) (h63 : c < 9223372036854775808) :
    aC Tryz.prog W0 368 [.slice (some ⟨g, off, none⟩) n c, .int .i64 at_, .int .i64 w] R (fun v B => v = .tuple #[.int .u32 (mP l at_ w : Nat), .int .i64 (lD l at_ w)] ∧ B = R) := by
 subst hl; exact zh g off c l at_ w hc hb hn h63
theorem zr {W0 : World} {R : List HP} {g off c n : Nat} {l : List Nat} {i k w : Nat} (hl : l.length = n) (hw : w < 4294967296) (hc : cY (bK W0 R) g off (cd l)) (hi : dw n i k = true) (hn : n ≤ 1000000) :
    aC Tryz.prog W0 73 [.slice (some ⟨g, off, none⟩) n c, .int .i64 i, .int .i64 k, .int .u32 w] R (fun v B => ∃ a' c', v = ov a' n c' ∧ B = osl 5 1 (.slice a' n c') (cd (gO l i k w)) :: R) := by
 subst hl; exact zk g off c l i k w hw hc hi hn
theorem zt {W0 : World} {R : List HP} {g off c n : Nat} {l : List Nat} {at_ k : Int} {w : Nat} (hl : l.length = n) (hc : cY (bK W0 R) g off (cd l)) (hi : dw n at_ k = false) (hn : n ≤ 1000000) :
    aC Tryz.prog W0 73 [.slice (some ⟨g, off, none⟩) n c, .int .i64 at_, .int .i64 k, .int .u32 w] R (fun v B => v = qC ∧ B = R) := by
 subst hl; exact zl g off c l at_ k w hc hi hn
theorem zu (W0 : World) (R : List HP) (n : Nat) (h : n ≤ 32) :
    aC Tryz.prog W0 46 [.int .i64 n] R (fun v B => ∃ b, v = .tuple #[.pointer (some ⟨b, 0, none⟩), .int .i64 0] ∧ B = bG b (List.replicate n bE) :: R) := by
 refine aG func46 ntmps46 rfl rfl ?_
 refine ae (ah (aa rfl (ai rfl) (aa rfl (ai rfl) (ag (ab (ae (ae (ah (aa rfl (ac rfl) (aa rfl (b0 rfl rfl) (aa rfl (ac rfl) ?_)))))))))))
 refine bC rfl rfl rfl ?_ ?_
 intro g1_3
 omega
 intro g1_3
 refine aa rfl (ac rfl) (ar rfl rfl (aa rfl (cy rfl rfl) (aa rfl (aM rfl rfl) (ag (ab ?_)))))
 refine aw rfl ?_ ?_
 intro c1
 omega
 intro c1
 refine aB (ab (ae (ah (aa rfl (ac rfl) ?_))))
 refine am rfl (mM (sz := 64) (by_ := 64) (info := Tryz.t178) kZ (by kernel_rfl) rfl rfl rfl rfl (by decide) rfl rfl rfl rfl (by omega) (by decide)) ?_
 rintro _ _ ⟨b1, rfl, rfl⟩
 refine aa rfl (bY kc zeroValue181 (aH kd (aH cB bX)) (bq rfl kd rfl rfl (Nat.le_of_ble_eq_true rfl) SetL.eq (bq rfl cB rfl rfl (Nat.le_of_ble_eq_true rfl) SetL.eq bW))) ?_
 refine am rfl (bJ rfl) ?_
 rintro _ _ ⟨b2, rfl, rfl⟩
 refine aa rfl (ai rfl) (aa rfl (ai rfl) (ag (ab (av (au (.inl rfl) (.cons (ak rfl) (.cons (ak rfl) .nil)) ?_)))))
 exact ⟨_, ⟨b2, rfl, rfl⟩, jj (uw n).symm (by simp)⟩
theorem ux (W0 : World) (R : List HP) (ps : Nat) (fr : List bZ) :
    aC Tryz.prog W0 181 [.pointer (some ⟨ps, 0, none⟩)] (bG ps fr :: R) (fun v B => v = .bool false ∧ B = bG ps fr :: R) := by
 refine zp fun g => ?_
 refine aG func181 ntmps181 rfl rfl ?_
 refine ae (ah (aa rfl (ai rfl) (ag (ab (ae (ah (aa rfl (ac rfl) (aa rfl (dv xy rfl rfl) (aa rfl (ac rfl) ?_)))))))))
 refine bC rfl rfl rfl ?_ ?_
 intro g1_3
 cases g1_3
 intro g1_3
 refine aa rfl (ac rfl) (ar rfl rfl (aa rfl (aF rfl) (ar rfl rfl ?_)))
 refine aa rfl (al rfl kc rfl cB rfl (by first | exact Nat.zero_add _ | rfl)) ?_
 refine ar rfl rfl (aa rfl (ao fM rfl (aA rfl)) ?_)
 refine ar rfl rfl (aa rfl (bM rfl) (aa rfl (aM rfl rfl) (aa rfl (ai rfl) (ag (ab (av (au (.inl rfl) (.cons (ak rfl) .nil) ?_)))))))
 exact ⟨_, ⟨by simp [cH], rfl⟩, jj rfl rfl⟩
theorem lF (W0 : World) (R : List HP) (ps : Nat) (fr : List bZ) :
    aC Tryz.prog W0 86 [.pointer (some ⟨ps, 0, none⟩)] (bG ps fr :: R) (fun v B => v = .int .i64 (fr.length : Nat) ∧ B = bG ps fr :: R) := by
 refine aG func86 ntmps86 rfl rfl ?_
 refine ae (ah (aa rfl (ai rfl) (ag (ab (ae (ae (ah (aa rfl (ac rfl) (am rfl (bn call181 rfl (ux W0 _ ps fr)) ?_)))))))))
 rintro _ B_ ⟨rfl, hB_⟩
 obtain rfl := hB_.symm
 refine ag (ab ?_)
 refine aw rfl ?_ ?_
 intro c1
 exact absurd c1 (by decide)
 intro c1
 refine aB (ab (ae ?_))
 refine lE (ps := ps) fun g => ?_
 refine ah (aa rfl (ac rfl) (aa rfl (aF rfl) ?_))
 refine aa rfl (al rfl kc rfl kd rfl (by first | exact Nat.zero_add _ | rfl)) ?_
 refine aa rfl (ao m8 rfl (aA rfl)) ?_
 refine aa rfl (bu kZ rfl) (aa rfl (ai rfl) (ag (ab (av (au (.inl rfl) (.cons (ak rfl) .nil) ?_)))))
 exact ⟨_, ⟨rfl, rfl⟩, jj rfl rfl⟩
def dy (n : Nat) (f : Int) : Bool := decide (0 ≤ f ∧ f < n)
theorem lG (W0 : World) (R : List HP) (ps : Nat) (fr : List bZ) (f : Int) :
    aC Tryz.prog W0 72 [.pointer (some ⟨ps, 0, none⟩), .int .i64 f] (bG ps fr :: R) (fun v B => v = .int .i64 (if dy fr.length f then 0 else 1) ∧ B = bG ps fr :: R) := by
 refine aG func72 ntmps72 rfl rfl ?_
 refine ae (ah (aa rfl (ai rfl) (ag (ab (ae (aW (ae (ah (aa rfl (ac rfl) (am rfl (bn call181 rfl (ux W0 _ ps fr)) ?_))))))))))
 rintro _ B_ ⟨rfl, hB_⟩
 obtain rfl := hB_.symm
 refine aa rfl (ai rfl) (ag (ab ?_))
 refine aw rfl ?_ ?_
 intro c1
 exact absurd c1 (by decide)
 intro c1
 refine ae (ae (ah (aa rfl (ac rfl) (aa rfl (b0 rfl rfl) (aa rfl (ai rfl) (ag (ab ?_)))))))
 refine aw rfl ?_ ?_
 intro c3
 refine aB (ab (cg rfl (ae (ah (aa rfl (ai rfl) (ag (ab (av (bj (aE (au (.inl rfl) (.cons (ak rfl) .nil) ?_)))))))))))
 have hf : dy fr.length f = false := by rw [← Bool.not_eq_true]; simp only [dy, decide_eq_true_eq]; omega
 first
   | exact ⟨_, ⟨by simp [cH, hf], rfl⟩, jj rfl rfl⟩
   | exact ⟨_, ⟨by simp [cH, hf], rfl⟩, inferInstance⟩
 intro c3
 refine lE (ps := ps) fun g => ?_
 refine ah (aa rfl (ac rfl) (aa rfl (ac rfl) (aa rfl (aF rfl) ?_)))
 refine aa rfl (al rfl kc rfl kd rfl (by first | exact Nat.zero_add _ | rfl)) ?_
 refine aa rfl (ao m8 rfl (aA rfl)) ?_
 refine aa rfl (bu kZ rfl) (aa rfl (cK rfl rfl) (aa rfl (ai rfl) (ag (ab ?_))))
 refine aw rfl ?_ ?_
 intro c4
 refine ae (ah (aa rfl (ai rfl) (ag (ab (av (bj (aE (au (.inl rfl) (.cons (ak rfl) .nil) ?_))))))))
 have hf : dy fr.length f = false := by rw [← Bool.not_eq_true]; simp only [dy, decide_eq_true_eq]; omega
 first
   | exact ⟨_, ⟨by simp [cH, hf], rfl⟩, jj rfl rfl⟩
   | exact ⟨_, ⟨by simp [cH, hf], rfl⟩, inferInstance⟩
 intro c4
 refine aB (bH (ab (ae (ah (aa rfl (ai rfl) (ag (ab (av (au (.inl rfl) (.cons (ak rfl) .nil) ?_)))))))))
 have hf : dy fr.length f = true := by simp only [dy, decide_eq_true_eq]; omega
 exact ⟨_, ⟨by simp [cH, hf], rfl⟩, jj rfl rfl⟩
def jA (fr : List bZ) (f off w : Int) : Nat := if dy fr.length f then mP (fr.getD f.toNat []) off w else 0
def lH (fr : List bZ) (f off w : Int) : Int := if dy fr.length f then lD (fr.getD f.toNat []) off w else 1
theorem ow {n : Nat} {f : Int} (h : dy n f = true) : ∃ i : Nat, f = (i : Int) ∧ i < n := by
 simp only [dy, decide_eq_true_eq] at h
 exact ⟨f.toNat, by omega, by omega⟩
theorem zv (W0 : World) (R : List HP) (ps : Nat) (fr : List bZ) (f off w : Int) (hF : dZ fr) :
    aC Tryz.prog W0 317 [.pointer (some ⟨ps, 0, none⟩), .int .i64 f, .int .i64 off, .int .i64 w] (bG ps fr :: R)
      (fun v B => v = .tuple #[.int .u32 (jA fr f off w : Nat), .int .i64 (lH fr f off w)] ∧ B = bG ps fr :: R) := by
 by_cases hf : dy fr.length f = true
 obtain ⟨i, rfl, hi⟩ := ow hf
 obtain ⟨hl, hb⟩ := hF.get hi
 refine aG func317 ntmps317 rfl rfl ?_
 refine ae (ah (aa rfl (ai rfl) (aa rfl (ai rfl) (ag (ab (ae (ae (ah (aa rfl (ac rfl) (aa rfl (ac rfl) (am rfl (bn nB rfl (lG W0 _ ps fr i)) ?_)))))))))))
 rintro _ B_ ⟨rfl, hB_⟩
 obtain rfl := hB_.symm
 refine aa rfl (ai rfl) (ag (ab (ae (ah (aa rfl (ac rfl) (aa rfl (bI rfl rfl) (ag (ab ?_))))))))
 refine aw rfl ?_ ?_
 intro c2
 exact absurd c2 (by simp [hf])
 intro c2
 refine aB (ab (ae ?_))
 refine lE (ps := ps) fun g => ?_
 refine ah (aa rfl (ac rfl) (aa rfl (aF rfl) ?_))
 refine aa rfl (al rfl kc rfl kd rfl (by first | exact Nat.zero_add _ | rfl)) ?_
 refine aa rfl (ao m8 rfl (aA rfl)) ?_
 refine aa rfl (ac rfl) ?_
 refine aa rfl (ce kZ nD rfl rfl rfl hi (by first | exact Nat.zero_add _ | rfl)) ?_
 refine aa rfl (ou pG gV rfl) ?_
 refine aa rfl (ac rfl) (aa rfl (ac rfl) ?_)
 refine am rfl (aU call368 rfl (zq hl (fN (qE hF hi) (by rw [dR, hl])) hb (by decide) (by decide))) ?_
 rintro _ B_ ⟨rfl, hB_⟩
 obtain rfl := hB_.symm
 refine aa rfl (aS rfl rfl) (aa rfl (aS rfl rfl) (aa rfl (ai rfl) (aa rfl (ai rfl) (ag (ab (av (au (.inl rfl) (.cons (ak rfl) (.cons (ak rfl) .nil)) ?_)))))))
 exact ⟨_, ⟨by simp [cH, jA, lH, hf], rfl⟩, jj rfl rfl⟩
 have hf' : dy fr.length f = false := by simpa using hf
 refine aG func317 ntmps317 rfl rfl ?_
 refine ae (ah (aa rfl (ai rfl) (aa rfl (ai rfl) (ag (ab (ae (ae (ah (aa rfl (ac rfl) (aa rfl (ac rfl) (am rfl (bn nB rfl (lG W0 _ ps fr f)) ?_)))))))))))
 rintro _ B_ ⟨rfl, hB_⟩
 obtain rfl := hB_.symm
 refine aa rfl (ai rfl) (ag (ab (ae (ah (aa rfl (ac rfl) (aa rfl (bI rfl rfl) (ag (ab ?_))))))))
 refine aw rfl ?_ ?_
 intro c2
 refine ae (ah (aa rfl (ac rfl) (aa rfl (ai rfl) (aa rfl (ai rfl) (ag (ab (av (aE (au (.inl rfl) (.cons (ak rfl) (.cons (ak rfl) .nil)) ?_)))))))))
 exact ⟨_, ⟨by simp [cH, jA, lH, hf'], rfl⟩, inferInstance⟩
 intro c2
 exact absurd c2 (by simp [hf'])
def g7 (fr : List bZ) (f off w : Int) : Bool := dy fr.length f && dw 64 off w
def f0 (fr : List bZ) (f off w : Int) (v : Nat) : List bZ := if g7 fr f off w then fr.set f.toNat (gO (fr.getD f.toNat []) off.toNat w.toNat v) else fr
theorem uy {fr : List bZ} {f off w : Int} {v : Nat} (h : dZ fr) : dZ (f0 fr f off w v) := by
 unfold f0; split
 rename_i hs
 simp only [g7, Bool.and_eq_true] at hs
 obtain ⟨i, rfl, hi⟩ := ow hs.1
 obtain ⟨o, k, rfl, rfl, hk, hok⟩ := kD hs.2
 obtain ⟨hl, hb⟩ := h.get hi
 exact h.set ⟨by rw [kC (by simp only [Int.toNat_natCast]; omega)]; exact hl, zd hb⟩
 exact h
theorem uz {fr : List bZ} {f off w : Int} {v : Nat} : (f0 fr f off w v).length = fr.length := by unfold f0; split <;> simp
theorem uA (W0 : World) (R : List HP) (ps : Nat) (fr : List bZ) (f off w : Int) (x : Nat) (hx : x < 4294967296) (hF : dZ fr) :
    aC Tryz.prog W0 29 [.pointer (some ⟨ps, 0, none⟩), .int .i64 f, .int .i64 off, .int .i64 w, .int .u32 x] (bG ps fr :: R)
      (fun v B => v = .int .i64 (if g7 fr f off w then 0 else 1) ∧ B = bG ps (f0 fr f off w x) :: R) := by
 by_cases hf : dy fr.length f = true
 obtain ⟨i, rfl, hi⟩ := ow hf
 obtain ⟨hl, hb⟩ := hF.get hi
 by_cases hin : dw 64 off w = true
 obtain ⟨o, k, rfl, rfl, hk, hok⟩ := kD hin
 have hs : g7 fr i o k = true := by simp [g7, hf, hin]
 have hpl : (gO (fr.getD i []) o k x).length = 64 := by rw [kC (by omega)]; exact hl
 refine aG xz ntmps29 rfl rfl ?_
 refine ae (ah (aa rfl (ai rfl) (ag (ab (ae (ae (ah (aa rfl (ac rfl) (aa rfl (ac rfl) (am rfl (bn nB rfl (lG W0 _ ps fr i)) ?_))))))))))
 rintro _ B_ ⟨rfl, hB_⟩
 obtain rfl := hB_.symm
 refine aa rfl (ai rfl) (ag (ab (ae (ah (aa rfl (ac rfl) (aa rfl (bI rfl rfl) (ag (ab ?_))))))))
 refine aw rfl ?_ ?_
 intro c2
 exact absurd c2 (by simp [hf])
 intro c2
 refine aB (ab (ae ?_))
 refine lE (ps := ps) fun g => ?_
 refine ah (aa rfl (ac rfl) (aa rfl (aF rfl) ?_))
 refine aa rfl (al rfl kc rfl kd rfl (by first | exact Nat.zero_add _ | rfl)) ?_
 refine aa rfl (ao m8 rfl (aA rfl)) ?_
 refine aa rfl (ac rfl) ?_
 refine aa rfl (ce kZ nD rfl rfl rfl hi (by first | exact Nat.zero_add _ | rfl)) ?_
 refine aa rfl (ou pG gV rfl) ?_
 refine aa rfl (ac rfl) (aa rfl (ac rfl) (aa rfl (ac rfl) ?_))
 refine am rfl (aU call73 rfl (zr hl hx (fN (qE hF hi) (by rw [dR, hl])) hin (by decide))) ?_
 rintro _ B_ ⟨a', c', rfl, hB_⟩
 obtain rfl := hB_.symm
 refine aa rfl (ac rfl) (aa rfl (aS rfl rfl) (aa rfl (aS rfl rfl) (aa rfl (ai rfl) (aa rfl (ai rfl) (ag (ab (ae (ae (ah (aa rfl (ac rfl) (aa rfl (bI rfl rfl) (ag (ab ?_)))))))))))))
 refine aw rfl ?_ ?_
 intro c5
 exact absurd c5 (by simp)
 intro c5
 refine aB (ab (ae ?_))
 refine gN (fun h _ => by have := (Value.slice.inj h).2.1; omega) fun g' n' cap sp h1 h2 h3 h4 h5 => ?_
 cases h1
 refine ah (aa rfl (ac rfl) (aa rfl (aF rfl) ?_))
 refine aa rfl (al rfl kc rfl kd rfl (by first | exact Nat.zero_add _ | rfl)) ?_
 refine aa rfl (ao m8 rfl (aA rfl)) ?_
 refine aa rfl (ac rfl) ?_
 refine aa rfl (ce kZ nD rfl rfl rfl hi (by first | exact Nat.zero_add _ | rfl)) ?_
 refine aa rfl (ou pG gV rfl) ?_
 refine aa rfl (ac rfl) ?_
 refine am rfl (lz dI gV rfl rfl (m := 64) (vs := cd (gO (fr.getD i []) o k x)) rfl (fN (n := 64) (by rw [List.drop_zero, List.take_left' (by rw [dR, hpl])]) (by rw [dR, hpl])) (by rw [dR, hpl]) (qy _) (by rw [uv]; omega) (uu hi hpl)) ?_
 rintro _ B_ ⟨rfl, hB_⟩
 obtain rfl := hB_.symm
 refine ag (ab (ae (ah (aa rfl (ai rfl) (ag (ab (av (au (.inl rfl) (.cons (ak rfl) .nil) ?_))))))))
 exact ⟨_, ⟨by simp [cH, hs], rfl⟩, jj (by simp [f0, hs]) (by simp [f0, hs])⟩
 have hin' : dw 64 off w = false := by simpa using hin
 have hs : g7 fr i off w = false := by simp [g7, hin']
 refine aG xz ntmps29 rfl rfl ?_
 refine ae (ah (aa rfl (ai rfl) (ag (ab (ae (ae (ah (aa rfl (ac rfl) (aa rfl (ac rfl) (am rfl (bn nB rfl (lG W0 _ ps fr i)) ?_))))))))))
 rintro _ B_ ⟨rfl, hB_⟩
 obtain rfl := hB_.symm
 refine aa rfl (ai rfl) (ag (ab (ae (ah (aa rfl (ac rfl) (aa rfl (bI rfl rfl) (ag (ab ?_))))))))
 refine aw rfl ?_ ?_
 intro c2
 exact absurd c2 (by simp [hf])
 intro c2
 refine aB (ab (ae ?_))
 refine lE (ps := ps) fun g => ?_
 refine ah (aa rfl (ac rfl) (aa rfl (aF rfl) ?_))
 refine aa rfl (al rfl kc rfl kd rfl (by first | exact Nat.zero_add _ | rfl)) ?_
 refine aa rfl (ao m8 rfl (aA rfl)) ?_
 refine aa rfl (ac rfl) ?_
 refine aa rfl (ce kZ nD rfl rfl rfl hi (by first | exact Nat.zero_add _ | rfl)) ?_
 refine aa rfl (ou pG gV rfl) ?_
 refine aa rfl (ac rfl) (aa rfl (ac rfl) (aa rfl (ac rfl) ?_))
 refine am rfl (aU call73 rfl (zt hl (fN (qE hF hi) (by rw [dR, hl])) hin' (by decide))) ?_
 rintro _ B_ ⟨rfl, hB_⟩
 obtain rfl := hB_.symm
 refine aa rfl (ac rfl) (aa rfl (aS rfl rfl) (aa rfl (aS rfl rfl) (aa rfl (ai rfl) (aa rfl (ai rfl) (ag (ab (ae (ae (ah (aa rfl (ac rfl) (aa rfl (bI rfl rfl) (ag (ab ?_)))))))))))))
 refine aw rfl ?_ ?_
 intro c5
 refine ae (ah (aa rfl (ac rfl) (aa rfl (ai rfl) (ag (ab (av (aE (au (.inl rfl) (.cons (ak rfl) .nil) ?_))))))))
 exact ⟨_, ⟨by simp [cH, hs], rfl⟩, jj (by simp [f0, hs]) (by simp [f0, hs])⟩
 intro c5
 exact absurd c5 (by simp)
 have hf' : dy fr.length f = false := by simpa using hf
 have hs : g7 fr f off w = false := by simp [g7, hf']
 refine aG xz ntmps29 rfl rfl ?_
 refine ae (ah (aa rfl (ai rfl) (ag (ab (ae (ae (ah (aa rfl (ac rfl) (aa rfl (ac rfl) (am rfl (bn nB rfl (lG W0 _ ps fr f)) ?_))))))))))
 rintro _ B_ ⟨rfl, hB_⟩
 obtain rfl := hB_.symm
 refine aa rfl (ai rfl) (ag (ab (ae (ah (aa rfl (ac rfl) (aa rfl (bI rfl rfl) (ag (ab ?_))))))))
 refine aw rfl ?_ ?_
 intro c2
 refine ae (ah (aa rfl (ac rfl) (aa rfl (ai rfl) (ag (ab (av (aE (au (.inl rfl) (.cons (ak rfl) .nil) ?_))))))))
 rw [show f0 fr f off w x = fr by simp [f0, hs]]
 exact ⟨_, ⟨by simp [cH, hf', hs], rfl⟩, inferInstance⟩
 intro c2
 exact absurd c2 (by simp [hf'])
abbrev Pl := Int × Int
@[reducible] def eO (p : Pl) : List Value := [.int .i64 p.1, .int .i64 p.2]
theorem kE (p : Pl) : (eO p).length = 2 := rfl
def gk (pg : List Pl) (n : Nat) : Pl := pg.getD n (0, 0)
def hM (p : Pl) : Bool := decide (0 ≤ p.1 ∧ p.1 < 32 ∧ 1 ≤ p.2 ∧ p.2 ≤ 3)
structure Pgs (pg : List Pl) : Prop where
  len : pg.length = 12
  ok : ∀ n, n < 12 → gk pg n ≠ (0, 0) → hM (gk pg n) = true
def gE (n : Int) : Bool := decide (0 ≤ n ∧ n < 12)
theorem mQ {n : Int} (h : gE n = true) : ∃ i : Nat, n = (i : Int) ∧ i < 12 := by
 simp only [gE, decide_eq_true_eq] at h
 exact ⟨n.toNat, by omega, by omega⟩
abbrev dF (pg : List Pl) : Obj := ax (pg.flatMap eO ++ [.bool true]) 361
theorem qF {pg : List Pl} {sp : List Value} {n : Nat} (hn : n < pg.length) : ((pg.flatMap eO ++ sp).drop (n * 2)).take 2 = eO (gk pg n) := by
 rw [mB kE pg n sp hn]; simp [gk, List.getD, hn]
theorem uB {pg : List Pl} {sp : List Value} {n : Nat} {p : Pl} (hn : n < pg.length) : setR (pg.flatMap eO ++ sp) (n * 2) (eO p) = (pg.set n p).flatMap eO ++ sp := oo kE pg n p sp hn
theorem zw (pg : List Pl) (sp : List Value) : (pg.flatMap eO ++ sp).length = pg.length * 2 + sp.length := by rw [List.length_append, dr kE]
theorem zx {pg : List Pl} (h : pg.length = 12) : (pg.flatMap eO ++ [.bool true])[24]? = some (Value.bool true) := by
 rw [List.getElem?_append_right (by rw [dr kE]; omega), dr kE, h]; rfl
theorem zy {W0 : World} {R : List HP} : aC Tryz.prog W0 85 [] R (fun v B => ∃ b, v = .pointer (some ⟨b, 0, none⟩) ∧ B = pt b (dF (List.replicate 12 (0, 0))) :: R) := by
 refine aG func85 ntmps85 rfl rfl ?_
 refine ae (ah (aa rfl (ai rfl) (ag (ab (ae (ah (aa rfl (bY pH zeroValue361 (aH m9 (aH cB bX)) (bq rfl cB rfl rfl (Nat.le_of_ble_eq_true rfl) SetL.eq bW)) ?_)))))))
 refine am rfl (bJ rfl) ?_
 rintro _ _ ⟨b1, rfl, rfl⟩
 refine aa rfl (ai rfl) (ag (ab (av (au (.inl rfl) (.cons (ak rfl) .nil) ?_))))
 exact ⟨_, ⟨b1, rfl, rfl⟩, ent_refl⟩
theorem oy {W0 : World} {R : List HP} (b : Nat) (pg : List Pl) (h : Pgs pg) : aC Tryz.prog W0 277 [.pointer (some ⟨b, 0, none⟩)] (pt b (dF pg) :: R) (fun v B => v = .bool false ∧ B = pt b (dF pg) :: R) := by
 refine aG func277 ntmps277 rfl rfl ?_
 refine ae (ah (aa rfl (ai rfl) (ag (ab (ae (ah (aa rfl (ac rfl) (aa rfl (dv Ff rfl rfl) (aa rfl (ac rfl) ?_)))))))))
 refine bC rfl rfl rfl ?_ ?_
 intro g1_3
 cases g1_3
 intro g1_3
 refine aa rfl (ac rfl) (ar rfl rfl (aa rfl (aF rfl) (ar rfl rfl ?_)))
 refine aa rfl (al rfl pH rfl cB rfl (by first | exact Nat.zero_add _ | rfl)) ?_
 refine ar rfl rfl (aa rfl (ao fM rfl (aA (zx h.len))) ?_)
 refine ar rfl rfl (aa rfl (bM rfl) (aa rfl (aM rfl rfl) (aa rfl (ai rfl) (ag (ab (av (au (.inl rfl) (.cons (ak rfl) .nil) ?_)))))))
 exact ⟨_, ⟨rfl, rfl⟩, inferInstance⟩
theorem oz {W0 : World} {R : List HP} (n : Int) : aC Tryz.prog W0 301 [.int .i64 n] R (fun v B => v = .bool (gE n) ∧ B = R) := by
 refine aG func301 ntmps301 rfl rfl ?_
 refine ae (ah (aa rfl (ai rfl) (ag (ab (ae (ah (aa rfl (ac rfl) (aa rfl (cK rfl rfl) (aa rfl (ac rfl) ?_)))))))))
 refine cJ rfl rfl rfl ?_ ?_
 intro g1_3
 refine aa rfl (ac rfl) (ar rfl rfl (aa rfl (b0 rfl rfl) (aa rfl (aY rfl rfl) (aa rfl (ai rfl) (ag (ab (av (au (.inl rfl) (.cons (ak rfl) .nil) ?_))))))))
 refine ⟨_, ⟨?_, rfl⟩, inferInstance⟩
 refine congrArg Value.bool ?_
 rw [Bool.eq_iff_iff]; simp only [gE, decide_eq_true_eq, Bool.false_eq_true, false_iff]; omega
 intro g1_3
 refine ap rfl rfl rfl rfl (aa rfl (aM rfl rfl) (aa rfl (ai rfl) (ag (ab (av (au (.inl rfl) (.cons (ak rfl) .nil) ?_))))))
 refine ⟨_, ⟨?_, rfl⟩, inferInstance⟩
 refine congrArg Value.bool ?_
 rw [Bool.eq_iff_iff]; simp only [gE, decide_eq_true_eq, Bool.false_eq_true, false_iff]; omega
theorem zA {W0 : World} {R : List HP} (p : Pl) : aC Tryz.prog W0 302 [.agg (eO p).toArray] R (fun v B => v = .bool (hM p) ∧ B = R) := by
 refine aG func302 ntmps302 rfl rfl ?_
 refine ae (ah (am rfl (bJ rfl) ?_))
 rintro _ _ ⟨b1, rfl, rfl⟩
 refine aa rfl (ai rfl) (ag (ab (ae (ah ?_))))
 refine aa rfl (al rfl gI rfl az rfl (by first | exact Nat.zero_add _ | rfl)) ?_
 refine aa rfl (ao aQ rfl (aA rfl)) ?_
 refine aa rfl (cK rfl rfl) (aa rfl (ac rfl) ?_)
 refine cJ rfl rfl rfl ?_ ?_
 intro g1_4
 refine aa rfl (al rfl gI rfl az rfl (by first | exact Nat.zero_add _ | rfl)) ?_
 refine ar rfl rfl (aa rfl (ao aQ rfl (aA rfl)) ?_)
 refine ar rfl rfl (aa rfl (b0 rfl rfl) (aa rfl (aY rfl rfl) (aa rfl (ac rfl) ?_)))
 refine cJ rfl rfl rfl ?_ ?_
 intro g1_9
 refine aa rfl (al rfl gI rfl az rfl (by first | exact Nat.zero_add _ | rfl)) ?_
 refine ar rfl rfl (aa rfl (ao aQ rfl (aA rfl)) ?_)
 refine ar rfl rfl (aa rfl (cK rfl rfl) (aa rfl (aY rfl rfl) (aa rfl (ac rfl) ?_)))
 refine cJ rfl rfl rfl ?_ ?_
 intro g1_14
 refine aa rfl (al rfl gI rfl az rfl (by first | exact Nat.zero_add _ | rfl)) ?_
 refine ar rfl rfl (aa rfl (ao aQ rfl (aA rfl)) ?_)
 refine ar rfl rfl (aa rfl (iH rfl rfl) (aa rfl (aY rfl rfl) (aa rfl (ai rfl) (ag (ab (av (au (.inl rfl) (.cons (ak rfl) .nil) ?_)))))))
 refine ⟨_, ⟨?_, rfl⟩, inferInstance⟩
 refine congrArg Value.bool ?_
 rw [Bool.eq_iff_iff]; simp only [hM, decide_eq_true_eq, Bool.false_eq_true, false_iff]; omega
 intro g1_14
 refine ap rfl rfl rfl rfl (ap rfl rfl rfl rfl (aa rfl (aM rfl rfl) (aa rfl (ai rfl) (ag (ab (av (au (.inl rfl) (.cons (ak rfl) .nil) ?_)))))))
 refine ⟨_, ⟨?_, rfl⟩, inferInstance⟩
 refine congrArg Value.bool ?_
 rw [Bool.eq_iff_iff]; simp only [hM, decide_eq_true_eq, Bool.false_eq_true, false_iff]; omega
 intro g1_9
 refine ap rfl rfl rfl rfl (ap rfl rfl rfl rfl (aa rfl (aM rfl rfl) (aa rfl (ac rfl) (ap rfl rfl rfl rfl (ap rfl rfl rfl rfl (ap rfl rfl rfl rfl (aa rfl (aM rfl rfl) (aa rfl (ai rfl) (ag (ab (av (au (.inl rfl) (.cons (ak rfl) .nil) ?_))))))))))))
 refine ⟨_, ⟨?_, rfl⟩, inferInstance⟩
 refine congrArg Value.bool ?_
 rw [Bool.eq_iff_iff]; simp only [hM, decide_eq_true_eq, Bool.false_eq_true, false_iff]; omega
 intro g1_4
 refine ap rfl rfl rfl rfl (ap rfl rfl rfl rfl (aa rfl (aM rfl rfl) (aa rfl (ac rfl) (ap rfl rfl rfl rfl (ap rfl rfl rfl rfl (ap rfl rfl rfl rfl (aa rfl (aM rfl rfl) (aa rfl (ac rfl) (ap rfl rfl rfl rfl (ap rfl rfl rfl rfl (ap rfl rfl rfl rfl (aa rfl (aM rfl rfl) (aa rfl (ai rfl) (ag (ab (av (au (.inl rfl) (.cons (ak rfl) .nil) ?_)))))))))))))))))
 refine ⟨_, ⟨?_, rfl⟩, inferInstance⟩
 refine congrArg Value.bool ?_
 rw [Bool.eq_iff_iff]; simp only [hM, decide_eq_true_eq, Bool.false_eq_true, false_iff]; omega
def ej (pg : List Pl) (n : Int) : Bool := gE n && decide (gk pg n.toNat ≠ (0, 0))
theorem uC {W0 : World} {R : List HP} (b : Nat) (pg : List Pl) (h : Pgs pg) (n : Int) : aC Tryz.prog W0 278 [.pointer (some ⟨b, 0, none⟩), .int .i64 n] (pt b (dF pg) :: R) (fun v B => v = .bool (ej pg n) ∧ B = pt b (dF pg) :: R) := by
 refine aG func278 ntmps278 rfl rfl ?_
 refine ae (ah (aa rfl (ai rfl) (ag (ab (ae (ah (aa rfl (ac rfl) (am rfl (aU sT rfl (oz n)) ?_))))))))
 rintro _ B_ ⟨rfl, hB_⟩
 obtain rfl := hB_.symm
 refine aa rfl (ac rfl) ?_
 refine cJ rfl rfl rfl ?_ ?_
 intro g1_3
 obtain ⟨i, rfl, hi⟩ := mQ g1_3
 have hl := h.len
 refine aa rfl (ac rfl) (ar rfl rfl (aa rfl (ac rfl) (ar rfl rfl (aa rfl (aF rfl) (ar rfl rfl ?_)))))
 refine aa rfl (al rfl pH rfl m9 rfl (by first | exact Nat.zero_add _ | rfl)) ?_
 refine ar rfl rfl ?_
 refine aa rfl (dO pI fk rfl rfl rfl (by omega) (by first | exact Nat.zero_add _ | rfl)) ?_
 refine ar rfl rfl ?_
 refine aa rfl (cV jI fk rfl (fN (qF (by omega)) rfl) rfl) ?_
 refine ar rfl rfl (aa rfl (bY gI jb (aH az (aH az bX)) bW) ?_)
 refine ar rfl rfl (aa rfl (yP Tryz.eqGuardType238 rfl rfl (yN gI Tryz.stoodInHeld238 (tY rfl aQ rfl rfl (tV eb) (tY rfl aQ rfl rfl (tV eb) yL)))) ?_)
 refine aa rfl (aY rfl rfl) (aa rfl (ai rfl) (ag (ab (av (au (.inl rfl) (.cons (ak rfl) .nil) ?_)))))
 refine ⟨_, ⟨?_, rfl⟩, inferInstance⟩
 refine congrArg Value.bool ?_
 first
   | (rw [Bool.eq_iff_iff]; simp [ej, g1_3, Prod.ext_iff])
   | simp [ej, g1_3]
 intro g1_3
 refine ap rfl rfl rfl rfl (ap rfl rfl rfl rfl (ap rfl rfl rfl rfl (ap rfl rfl rfl rfl (ap rfl rfl rfl rfl (ap rfl rfl rfl rfl (ap rfl rfl rfl rfl (aa rfl (aM rfl rfl) (aa rfl (ai rfl) (ag (ab (av (au (.inl rfl) (.cons (ak rfl) .nil) ?_))))))))))))
 refine ⟨_, ⟨?_, rfl⟩, inferInstance⟩
 refine congrArg Value.bool ?_
 first
   | (rw [Bool.eq_iff_iff]; simp [ej, g1_3, Prod.ext_iff])
   | simp [ej, g1_3]
def jB (pg : List Pl) (n : Int) : Pl := if ej pg n then gk pg n.toNat else (0, 0)
theorem zB {W0 : World} {R : List HP} (b : Nat) (pg : List Pl) (h : Pgs pg) (n : Int) : aC Tryz.prog W0 144 [.pointer (some ⟨b, 0, none⟩), .int .i64 n] (pt b (dF pg) :: R)
    (fun v B => v = .tuple #[.agg (eO (jB pg n)).toArray, .bool (ej pg n)] ∧ B = pt b (dF pg) :: R) := by
 refine aG func144 ntmps144 rfl rfl ?_
 refine ae (ah (am rfl (cM jb) ?_))
 rintro _ _ ⟨b1, rfl, rfl⟩
 refine aa rfl (ai rfl) (ag (ab (ae (ae (ah (aa rfl (ac rfl) (am rfl (bn sW rfl (oy b pg h)) ?_)))))))
 rintro _ B_ ⟨rfl, hB_⟩
 obtain rfl := hB_.symm
 refine aa rfl (ac rfl) ?_
 refine bC rfl rfl rfl ?_ ?_
 intro g1_3
 exact absurd g1_3 (by decide)
 intro g1_3
 refine aa rfl (ac rfl) (ar rfl rfl (aa rfl (ac rfl) (ar rfl rfl (am rfl (bn call278 rfl (uC b pg h n)) ?_))))
 rintro _ B_ ⟨rfl, hB_⟩
 obtain rfl := hB_.symm
 refine ar rfl rfl (aa rfl (bM rfl) (aa rfl (aM rfl rfl) (ag (ab ?_))))
 refine aw rfl ?_ ?_
 intro c1
 refine ae (ah (aa rfl (bY gI jb (aH az (aH az bX)) bW) ?_))
 refine bD (cD fk rfl rfl rfl rfl rfl) ?_
 rintro _ _ rfl
 refine aa rfl (ai rfl) (ag (ab (av (aE (au (.inl rfl) (.cons (fG jI fk rfl rfl) (.cons (ak rfl) .nil)) ?_)))))
 refine ⟨_, ⟨?_, rfl⟩, inferInstance⟩
 have ht : ej pg n = false := by simpa using c1
 simp [cH, jB, ht]
 intro c1
 have ht : ej pg n = true := by simpa using c1
 have hp : gE n = true := by simp only [ej, Bool.and_eq_true] at ht; exact ht.1
 obtain ⟨i, rfl, hi⟩ := mQ hp
 have hl := h.len
 refine aB (ab (ae (ah (aa rfl (ac rfl) (aa rfl (ac rfl) (aa rfl (aF rfl) ?_))))))
 refine aa rfl (al rfl pH rfl m9 rfl (by first | exact Nat.zero_add _ | rfl)) ?_
 refine aa rfl (dO pI fk rfl rfl rfl (by omega) (by first | exact Nat.zero_add _ | rfl)) ?_
 refine aa rfl (cV jI fk rfl (fN (qF (by omega)) rfl) rfl) ?_
 refine bD (cD fk rfl rfl rfl rfl rfl) ?_
 rintro _ _ rfl
 refine aa rfl (ai rfl) (ag (ab (av (au (.inl rfl) (.cons (fG jI fk rfl rfl) (.cons (ak rfl) .nil)) ?_))))
 refine ⟨_, ⟨?_, rfl⟩, inferInstance⟩
 simp [cH, jB, ht]
def ek (pg : List Pl) (n : Int) (p : Pl) : Int := if gE n ∧ hM p then (if ej pg n then 5 else 0) else 1
def ew (pg : List Pl) (n : Int) (p : Pl) : List Pl := if ek pg n p = 0 then pg.set n.toNat p else pg
theorem oA {pg : List Pl} {n : Int} {p : Pl} (h : Pgs pg) : Pgs (ew pg n p) := by
 unfold ew; split
 rename_i hs
 have hop : hM p = true := by
  unfold ek at hs; split at hs
  rename_i k; exact k.2
  omega
 refine ⟨by simp [h.len], fun m hm hne => ?_⟩
 unfold gk at hne ⊢
 by_cases e : n.toNat = m
 subst e
 simp only [List.getD_eq_getElem?_getD, List.getElem?_set, if_true] at hne ⊢
 rw [if_pos (by rw [h.len]; exact hm)] at hne ⊢
 exact hop
 simp only [List.getD_eq_getElem?_getD, List.getElem?_set_ne e] at hne ⊢
 have := h.ok m hm
 unfold gk at this
 simp only [List.getD_eq_getElem?_getD] at this
 exact this hne
 exact h
theorem uD {W0 : World} {R : List HP} (b : Nat) (pg : List Pl) (h : Pgs pg) (n : Int) (p : Pl) : aC Tryz.prog W0 204 [.pointer (some ⟨b, 0, none⟩), .int .i64 n, .agg (eO p).toArray] (pt b (dF pg) :: R)
    (fun v B => v = .int .i64 (ek pg n p) ∧ B = pt b (dF (ew pg n p)) :: R) := by
 have hl := h.len
 refine aG func204 ntmps204 rfl rfl ?_
 refine ae (ah (am rfl (bJ rfl) ?_))
 rintro _ _ ⟨b1, rfl, rfl⟩
 refine aa rfl (ai rfl) (ag (ab (ae (aW (ae (ah (aa rfl (ac rfl) (am rfl (bn sW rfl (oy b pg h)) ?_))))))))
 rintro _ B_ ⟨rfl, hB_⟩
 obtain rfl := hB_.symm
 refine aa rfl (ai rfl) (ag (ab ?_))
 refine aw rfl ?_ ?_
 intro c1
 exact absurd c1 (by decide)
 intro c1
 refine ae (ae (ah (aa rfl (ac rfl) (am rfl (aU sT rfl (oz n)) ?_))))
 rintro _ B_ ⟨rfl, hB_⟩
 obtain rfl := hB_.symm
 refine aa rfl (bM rfl) (aa rfl (ai rfl) (ag (ab ?_)))
 refine aw rfl ?_ ?_
 intro c3
 refine aB (ab (cg rfl (ae (ah (aa rfl (ai rfl) (ag (ab (av (bj (aE (au (.inl rfl) (.cons (ak rfl) .nil) ?_)))))))))))
 have he : ek pg n p = 1 := by
  unfold ek; rw [if_neg]
  first
    | (intro hk; exact absurd hk.1 (by simpa using c3))
    | (intro hk; exact absurd hk.2 (by simpa using c4))
 exact ⟨_, ⟨by simp [cH, he], by rw [ew, he, if_neg (by decide)]⟩, inferInstance⟩
 intro c3
 have hp : gE n = true := by simpa using c3
 refine ah (aa rfl (cp jI fk rfl rfl) ?_)
 refine am rfl (aU call302 rfl (zA p)) ?_
 rintro _ B_ ⟨rfl, hB_⟩
 obtain rfl := hB_.symm
 refine aa rfl (bM rfl) (aa rfl (ai rfl) (ag (ab ?_)))
 refine aw rfl ?_ ?_
 intro c4
 refine ae (ah (aa rfl (ai rfl) (ag (ab (av (bj (aE (au (.inl rfl) (.cons (ak rfl) .nil) ?_))))))))
 have he : ek pg n p = 1 := by
  unfold ek; rw [if_neg]
  first
    | (intro hk; exact absurd hk.1 (by simpa using c3))
    | (intro hk; exact absurd hk.2 (by simpa using c4))
 exact ⟨_, ⟨by simp [cH, he], by rw [ew, he, if_neg (by decide)]⟩, inferInstance⟩
 intro c4
 have ho : hM p = true := by simpa using c4
 refine ae (ah (aa rfl (ac rfl) (aa rfl (ac rfl) (am rfl (bn call278 rfl (uC b pg h n)) ?_))))
 rintro _ B_ ⟨rfl, hB_⟩
 obtain rfl := hB_.symm
 refine aa rfl (ai rfl) (ag (ab ?_))
 refine aw rfl ?_ ?_
 intro c6
 refine ae (ah (aa rfl (ai rfl) (ag (ab (av (bj (aE (au (.inl rfl) (.cons (ak rfl) .nil) ?_))))))))
 have he : ek pg n p = 5 := by
  unfold ek; rw [if_pos ⟨hp, ho⟩, if_pos c6]
 exact ⟨_, ⟨by simp [cH, he], by rw [ew, he, if_neg (by decide)]⟩, inferInstance⟩
 intro c6
 have ht : ej pg n = false := by simpa using c6
 have he : ek pg n p = 0 := by simp [ek, hp, ho, ht]
 refine aB (bH (ab (ae ?_)))
 obtain ⟨i, rfl, hi⟩ := mQ hp
 refine cA [(b1, 0, _)] 7 cz rfl (aK aJ) (fun hS => ?_)
 refine aj 0 rfl rfl (by kernel_rfl) (by kernel_rfl) (by kernel_rfl) rfl hS (ac rfl) ?_
 refine aj 1 rfl rfl (by kernel_rfl) (by kernel_rfl) (by kernel_rfl) rfl hS (ac rfl) ?_
 refine aj 2 rfl rfl (by kernel_rfl) (by kernel_rfl) (by kernel_rfl) rfl hS (cV jI fk rfl (dm (k := 0) rfl) rfl) ?_
 refine aj 3 rfl rfl (by kernel_rfl) (by kernel_rfl) (by kernel_rfl) rfl hS (aF rfl) ?_
 refine aj 4 rfl rfl (by kernel_rfl) (by kernel_rfl) (by kernel_rfl) rfl hS (al rfl pH rfl m9 rfl (by first | exact Nat.zero_add _ | rfl)) ?_
 refine aj 5 rfl rfl (by kernel_rfl) (by kernel_rfl) (by kernel_rfl) rfl hS (dO pI fk rfl rfl rfl hi (by first | exact Nat.zero_add _ | rfl)) ?_
 refine bA 6 (by kernel_rfl) rfl rfl (iZ fk rfl rfl rfl rfl (by rw [zw, hl]; omega) (uB (by omega))) rfl ?_; clear hS
 rintro _ _ rfl
 refine ⟨(aK aJ), fun hS => ?_⟩
 refine bL (by kernel_rfl) ?_; clear hS
 refine ab (ae (ah (aa rfl (ai rfl) (ag (ab (av (au (.inl rfl) (.cons (ak rfl) .nil) ?_)))))))
 rw [show ew pg i p = pg.set i p by simp [ew, he]]
 exact ⟨_, ⟨by simp [cH, he], rfl⟩, inferInstance⟩
theorem zC {W0 : World} {R : List HP} (b : Nat) (pg : List Pl) (h : Pgs pg) : aC Tryz.prog W0 207 [.pointer (some ⟨b, 0, none⟩), .int .i64 12] (pt b (dF pg) :: R)
    (fun v B => v = .int .i64 1 ∧ B = pt b (dF pg) :: R) := by
 refine aG func207 ntmps207 rfl rfl ?_
 refine ae (ah (aa rfl (ai rfl) (ag (ab (ae (aW (ae (ah (aa rfl (ac rfl) (am rfl (bn sW rfl (oy b pg h)) ?_))))))))))
 rintro _ B_ ⟨rfl, hB_⟩
 obtain rfl := hB_.symm
 refine aa rfl (ai rfl) (ag (ab ?_))
 refine aw rfl ?_ ?_
 intro c1
 exact absurd c1 (by decide)
 intro c1
 refine ae (ah (aa rfl (ac rfl) (am rfl (aU sT rfl (oz 12)) ?_)))
 rintro _ B_ ⟨rfl, hB_⟩
 obtain rfl := hB_.symm
 refine aa rfl (bM rfl) (aa rfl (ai rfl) (ag (ab ?_)))
 refine aw rfl ?_ ?_
 intro c3
 refine ae (ah (aa rfl (ai rfl) (ag (ab (av (bj (aE (au (.inl rfl) (.cons (ak rfl) .nil) ?_))))))))
 exact ⟨_, ⟨rfl, rfl⟩, inferInstance⟩
 intro c3
 exact absurd c3 (by decide)
theorem kF {p : Pl} : hM p = true ↔ 0 ≤ p.1 ∧ p.1 < 32 ∧ 1 ≤ p.2 ∧ p.2 ≤ 3 := by simp [hM]
end
section
class Hk (α : Type) extends Inhabited α where
  ky : α → Int
namespace Hp
variable {α : Type} [Hk α]
def us (l : List α) (i : Nat) : Int := Hk.ky (l.getD i default)
theorem qG {l : List α} {i : Nat} (h : i < l.length) : us l i = Hk.ky l[i] := by simp [us, List.getD, h]
def swapL (l : List α) (i j : Nat) : List α := (l.set i (l.getD j default)).set j (l.getD i default)
theorem qH (l : List α) (i j : Nat) : (swapL l i j).length = l.length := by simp [swapL]
theorem kG {l : List α} {i j : Nat} (hi : i < l.length) (hj : j < l.length) (x : Nat) : (swapL l i j).getD x default = if x = i then l.getD j default else if x = j then l.getD i default else l.getD x default := by
 simp only [swapL, List.getD_eq_getElem?_getD, List.getElem?_set, List.length_set]
 by_cases h1 : x = j
 subst h1
 by_cases h2 : x = i
 subst h2; simp [hj]
 simp [hj, h2]
 have h1' : ¬ j = x := fun h => h1 h.symm
 by_cases h2 : x = i
 subst h2; simp [h1', hi]
 have h2' : ¬ i = x := fun h => h2 h.symm
 simp [h1, h1', h2, h2']
theorem jC {l : List α} {i j : Nat} (hi : i < l.length) (hj : j < l.length) (x : Nat) : us (swapL l i j) x = if x = i then us l j else if x = j then us l i else us l x := by
 unfold us; rw [kG hi hj]; split
 rfl
 split <;> rfl
theorem qI {β : Type} : ∀ (l : List β) (i j : Nat) (hi : i < l.length) (hj : j < l.length), ((l.set i l[j]).set j l[i]).Perm l := by
 intro l i j hi hj
 have : ((l.set i l[j]).set j l[i]).Perm l := List.set_set_perm hi hj
 exact this
theorem kI {l : List α} {i j : Nat} (hi : i < l.length) (hj : j < l.length) : (swapL l i j).Perm l := by
 have := qI l i j hi hj
 simpa [swapL, List.getD, hi, hj] using this
def Heap (l : List α) (n : Nat) : Prop := ∀ c, c < n → 0 < c → us l ((c - 1) / 2) ≤ us l c
def gP (l : List α) (i n : Nat) : Prop := ∀ c, c < n → 0 < c → (c ≠ i → (c - 1) / 2 ≠ i → us l ((c - 1) / 2) ≤ us l c) ∧ ((c - 1) / 2 = i → 0 < i → us l ((i - 1) / 2) ≤ us l c)
def Up (l : List α) (j n : Nat) : Prop := ∀ c, c < n → 0 < c → (c ≠ j → us l ((c - 1) / 2) ≤ us l c) ∧ ((c - 1) / 2 = j → 0 < j → us l ((j - 1) / 2) ≤ us l c)
theorem qJ {l : List α} {i j n : Nat} (h : gP l i n) (hn : n ≤ l.length) (hj : j < n) (hc : (j - 1) / 2 = i) (h0 : 0 < j) (hlt : us l j < us l i)
    (hmin : ∀ c, c < n → 0 < c → (c - 1) / 2 = i → us l j ≤ us l c) : gP (swapL l i j) j n ∧ us (swapL l i j) ((j - 1) / 2) ≤ us (swapL l i j) j := by
 have hij : i < j := by omega
 have sw := jC (l := l) (i := i) (j := j) (by omega) (by omega)
 refine ⟨fun c hcn hc0 => ⟨fun h1 h2 => ?_, fun h1 h2 => ?_⟩, ?_⟩
 rw [sw, sw]
 by_cases e1 : c = i
 subst e1
 have := (h j hj h0).2 hc (by omega)
 rw [if_neg (by omega), if_neg (by omega), if_pos rfl]; exact this
 by_cases e2 : (c - 1) / 2 = i
 rw [if_pos e2, if_neg e1, if_neg h1]; exact hmin c hcn hc0 e2
 rw [if_neg e2, if_neg h2, if_neg e1, if_neg h1]; exact (h c hcn hc0).1 e1 e2
 rw [hc, sw, sw, if_pos rfl, if_neg (by omega), if_neg (by omega)]
 rw [← h1]; exact (h c hcn hc0).1 (by omega) (by omega)
 rw [hc, sw, sw, if_pos rfl, if_neg (by omega), if_pos rfl]; omega
theorem mR {l : List α} {i n : Nat} (h : gP l i n) (hmin : ∀ c, c < n → 0 < c → (c - 1) / 2 = i → us l i ≤ us l c) (hp : 0 < i → us l ((i - 1) / 2) ≤ us l i) : Heap l n := fun c hc h0 => by
 by_cases e1 : (c - 1) / 2 = i
 rw [e1]; exact hmin c hc h0 e1
 by_cases e2 : c = i
 subst e2; exact hp h0
 exact (h c hc h0).1 e2 e1
theorem qK {l : List α} {j n : Nat} (h : Up l j n) (hn : n ≤ l.length) (hj : j < n) (h0 : 0 < j) (hlt : us l j < us l ((j - 1) / 2)) : Up (swapL l ((j - 1) / 2) j) ((j - 1) / 2) n := by
 have sw := jC (l := l) (i := (j - 1) / 2) (j := j) (by omega) (by omega)
 intro c hc hc0
 refine ⟨fun h1 => ?_, fun h1 h2 => ?_⟩
 rw [sw, sw]
 by_cases e1 : c = j
 subst e1; rw [if_pos rfl, if_neg (by omega), if_pos rfl]; omega
 by_cases e2 : (c - 1) / 2 = (j - 1) / 2
 rw [if_pos e2, if_neg (by omega), if_neg e1]
 have := (h c hc hc0).1 e1; rw [e2] at this; omega
 by_cases e3 : (c - 1) / 2 = j
 rw [if_neg e2, if_pos e3, if_neg h1, if_neg e1]; exact (h c hc hc0).2 e3 h0
 rw [if_neg e2, if_neg e3, if_neg h1, if_neg e1]; exact (h c hc hc0).1 e1
 rw [sw, sw, if_neg (by omega), if_neg (by omega)]
 have hp := (h ((j - 1) / 2) (by omega) h2).1 (by omega)
 by_cases e1 : c = j
 subst e1; rw [if_neg (by omega), if_pos rfl]; exact hp
 rw [if_neg (by omega), if_neg e1]
 have := (h c hc hc0).1 e1; rw [h1] at this; omega
theorem mT {l : List α} {j n : Nat} (h : Up l j n) (hp : 0 < j → us l ((j - 1) / 2) ≤ us l j) : Heap l n := fun c hc h0 => by
 by_cases e : c = j
 subst e; exact hp h0
 exact (h c hc h0).1 e
theorem qL {l : List α} {n : Nat} (h : Heap l n) : ∀ c, c < n → us l 0 ≤ us l c := by
 intro c
 induction c using Nat.strongRecOn with
 | _ c ih =>
  intro hc
  by_cases h0 : c = 0
  subst h0; omega
  have := h c hc (by omega)
  have := ih ((c - 1) / 2) (by omega) (by omega)
  omega
theorem mV {l l' : List α} {n : Nat} (h : ∀ i, i < n → l.getD i default = l'.getD i default) {i : Nat} (hi : i < n) : us l i = us l' i := by unfold us; rw [h i hi]
theorem qM {l l' : List α} {n : Nat} (h : ∀ i, i < n → l.getD i default = l'.getD i default) (k : Heap l n) : Heap l' n := fun c hc h0 => by
 rw [← mV h hc, ← mV h (i := (c - 1) / 2) (by omega)]; exact k c hc h0
structure Down (its l : List α) (i0 n : Nat) (moved : Bool) : Prop where
  perm : l.Perm its
  tail : ∀ x, n ≤ x → l.getD x default = its.getD x default
  no : moved = false → l = its ∧ ∀ c, c < n → 0 < c → (c - 1) / 2 = i0 → us its i0 ≤ us its c
  yes : moved = true → Heap l n
theorem mW {l its : List α} {i i0 n : Nat} (hp : l.Perm its) (hi : i0 ≤ i) (hH : gP l i n) (ht : ∀ x, n ≤ x → l.getD x default = its.getD x default) (h0 : i = i0 → l = its)
    (hg : i0 < i → us l ((i - 1) / 2) ≤ us l i) (hmin : ∀ c, c < n → 0 < c → (c - 1) / 2 = i → us l i ≤ us l c) : Down its l i0 n (decide (i0 < i)) :=
  ⟨hp, ht, fun h => by
 have : i = i0 := by simp at h; omega
 subst this
 obtain rfl := h0 rfl
 exact ⟨rfl, hmin⟩, fun h => by
 have : i0 < i := by simpa using h
 exact mR hH hmin fun _ => hg this⟩
theorem mX {l l0 : List α} {i j n : Nat} (hi : i < n) (hj : j < n) (hn : n ≤ l.length) (h : ∀ x, n ≤ x → l.getD x default = l0.getD x default) : ∀ x, n ≤ x → (swapL l i j).getD x default = l0.getD x default := fun x hx => by
 rw [kG (by omega) (by omega), if_neg (by omega), if_neg (by omega)]; exact h x hx
end Hp
instance FQ : Hk Nat := { ky := fun n => (n : Int) }
abbrev Po := List (Int × Bool)
def d7 (po : Po) (f : Nat) : Int × Bool := po.getD f (-1, true)
def bP (po : Po) (w : Nat) : List Nat := (List.range po.length).filter fun f => d7 po f == ((w : Int), false)
theorem jD {po : Po} {f : Nat} {x : Int × Bool} (hf : f < po.length) (g : Nat) : d7 (po.set f x) g = if g = f then x else d7 po g := by
 simp only [d7, List.getD_eq_getElem?_getD, List.getElem?_set]
 by_cases h : f = g
 subst h; simp [hf]
 simp [h, show ¬ g = f from fun e => h e.symm]
theorem i3 {po : Po} {w f : Nat} : f ∈ bP po w ↔ f < po.length ∧ d7 po f = ((w : Int), false) := by
 rw [bP, List.mem_filter, List.mem_range, beq_iff_eq]
theorem oB (po : Po) (w : Nat) : (bP po w).Pairwise (· < ·) := List.pairwise_lt_range.filter _
theorem uE (po : Po) (w : Nat) : (bP po w).Nodup := (oB po w).imp (fun h e => by omega)
theorem zE {po : Po} {w : Nat} {l : List Nat} (hn : l.Nodup) (h : ∀ f, f ∈ l ↔ f < po.length ∧ d7 po f = ((w : Int), false)) : l.Perm (bP po w) :=
  (List.perm_ext_iff_of_nodup hn (uE po w)).2 fun f => by rw [h, i3]
theorem zF {po : Po} {f : Nat} {u : Int} (hf : f < po.length) (w : Nat) : bP (po.set f (u, true)) w = (bP po w).filter (· != f) := by
 simp only [bP, List.length_set, List.filter_filter]
 apply List.filter_congr
 intro g _
 rw [jD hf]
 by_cases h : g = f
 subst h; simp
 simp [h]
theorem zG {po : Po} {f : Nat} {w : Nat} (hf : f < po.length) (h : d7 po f ≠ ((w : Int), false)) : (bP po w ++ [f]).Perm (bP (po.set f ((w : Int), false)) w) := by
 refine zE ?_ fun g => ?_
 rw [List.nodup_append]
 refine ⟨uE po w, by simp, fun a ha b hb e => ?_⟩
 rw [List.mem_singleton] at hb; subst hb; subst e
 exact h (i3.1 ha).2
 rw [List.mem_append, List.mem_singleton, i3, List.length_set, jD hf]
 by_cases e : g = f
 subst e; simp [hf]
 simp [e]
theorem qN {po : Po} {f : Nat} {x : Int × Bool} {w : Nat} (hf : f < po.length) (h1 : d7 po f ≠ ((w : Int), false)) (h2 : x ≠ ((w : Int), false)) : bP (po.set f x) w = bP po w := by
 simp only [bP, List.length_set]
 apply List.filter_congr
 intro g _
 rw [jD hf]
 by_cases h : g = f
 subst h; rw [if_pos rfl, Bool.eq_iff_iff, beq_iff_eq, beq_iff_eq]; exact ⟨fun e => absurd e h2, fun e => absurd e h1⟩
 rw [if_neg h]
theorem qP {po : Po} {w x : Nat} {l : List Nat} (hp : (l ++ [x]).Perm (bP po w)) (hm : ∀ y ∈ bP po w, x ≤ y) : bP po w = x :: bP (po.set x ((w : Int), true)) w := by
 have hx : x ∈ bP po w := hp.mem_iff.1 (by simp)
 have hs := oB po w
 rw [zF (i3.1 hx).1]
 generalize bP po w = m at hx hm hs
 cases m with
 | nil => cases hx
 | cons y t =>
  rw [List.pairwise_cons] at hs
  have : x = y := by
   rcases List.mem_cons.1 hx with e | e
   exact e
   have := hs.1 x e
   have := hm y (by simp)
   omega
  subst this
  congr 1
  rw [List.filter_cons, if_neg (by simp)]
  refine (List.filter_eq_self.2 fun z hz => ?_).symm
  have := hs.1 z hz
  simp; omega
theorem zH {po : Po} {w x : Nat} {l : List Nat} (hp : (l ++ [x]).Perm (bP po w)) (hm : ∀ y ∈ bP po w, x ≤ y) : l.Perm (bP (po.set x ((w : Int), true)) w) := by
 have h := qP hp hm
 rw [h] at hp
 exact ((List.perm_append_comm (l₁ := [x]) (l₂ := l)).trans hp).cons_inv
structure LsOk (po : Po) (Ls : List (List Nat)) : Prop where
  len : Ls.length = 16
  row : ∀ w, w < 16 → (Ls.getD w []).Perm (bP po w) ∧ Hp.Heap (Ls.getD w []) (Ls.getD w []).length
structure PoOk (po : Po) : Prop where
  len : po.length ≤ 32
  who : ∀ f, f < po.length → -1 ≤ (d7 po f).1 ∧ (d7 po f).1 < 16 ∧ ((d7 po f).1 = -1 → (d7 po f).2 = false)
theorem PoOk.set {po : Po} (h : PoOk po) {f : Nat} {x : Int × Bool} (hf : f < po.length) (h1 : 0 ≤ x.1) (h2 : x.1 < 16) : PoOk (po.set f x) := ⟨by rw [List.length_set]; exact h.len, fun g hg => by
 rw [List.length_set] at hg
 rw [jD hf]
 split
 exact ⟨by omega, h2, fun e => by omega⟩
 exact h.who g hg⟩
theorem zI {po : Po} (h : PoOk po) (w : Nat) : (bP po w).length ≤ 32 := by
 have := List.length_filter_le (fun f => d7 po f == ((w : Int), false)) (List.range po.length)
 rw [List.length_range] at this
 have := h.len
 unfold bP; omega
theorem LsOk.rlen {po : Po} {Ls : List (List Nat)} (h : LsOk po Ls) (hp : PoOk po) {w : Nat} (hw : w < 16) : (Ls.getD w []).length ≤ 32 := by
 rw [(h.row w hw).1.length_eq]; exact zI hp w
theorem LsOk.set {po po' : Po} {Ls : List (List Nat)} (h : LsOk po Ls) {w : Nat} (hw : w < 16) {l : List Nat} (h1 : l.Perm (bP po' w)) (h2 : Hp.Heap l l.length) (h3 : ∀ u, u < 16 → u ≠ w → bP po' u = bP po u) : LsOk po' (Ls.set w l) := ⟨by rw [List.length_set]; exact h.len, fun u hu => by
 have e : (Ls.set w l).getD u [] = if u = w then l else Ls.getD u [] := by
  simp only [List.getD_eq_getElem?_getD, List.getElem?_set]
  by_cases k : w = u
  subst k; simp [h.len, hw]
  simp [k, show ¬ u = w from fun e => k e.symm]
 rw [e]
 split
 rename_i k; subst k; exact ⟨h1, h2⟩
 rename_i k; rw [h3 u hu k]; exact h.row u hu⟩
theorem LsOk.new (n : Nat) : LsOk (List.replicate n (-1, false)) (List.replicate 16 []) := ⟨by simp, fun w hw => by
 have e : bP (List.replicate n (-1, false)) w = [] := by
  rw [List.eq_nil_iff_forall_not_mem]
  intro f hf
  have := (i3.1 hf)
  rw [List.length_replicate] at this
  have h2 := this.2
  simp [d7, List.getD, this.1] at h2
 rw [e, show (List.replicate 16 ([] : List Nat)).getD w [] = [] by rw [List.getD_eq_getElem?_getD, List.getElem?_replicate]; split <;> rfl]
 exact ⟨List.Perm.refl _, fun c hc _ => absurd hc (Nat.not_lt_zero _)⟩⟩
theorem PoOk.new {n : Nat} (h : n ≤ 32) : PoOk (List.replicate n (-1, false)) := ⟨by simpa using h, fun f hf => by
 rw [List.length_replicate] at hf
 simp [d7, List.getD, hf]⟩
structure Im where
  fr : List bZ
  po : Po
  pg : List Pl
def f2 (f : Nat) : List Nat → Nat → List bZ → List bZ
 | [], _, fr => fr
 | x :: t, k, fr => f2 f t (k + 1) (f0 fr f (4 * k : Nat) 4 x)
theorem qQ (f x : Nat) : ∀ (l : List Nat) (k : Nat) (fr : List bZ), f2 f (l ++ [x]) k fr = f0 (f2 f l k fr) f (4 * (k + l.length) : Nat) 4 x
 | [], k, fr => by simp [f2]
 | y :: t, k, fr => by
  rw [List.cons_append, f2, f2, qQ f x t (k + 1)]
  congr 3; simp only [List.length_cons]; omega
theorem lI {f : Nat} : ∀ {l : List Nat} {k : Nat} {fr : List bZ}, dZ fr → dZ (f2 f l k fr) ∧ (f2 f l k fr).length = fr.length
 | [], _, _, h => ⟨h, rfl⟩
 | x :: t, k, fr, h => by
  obtain ⟨h1, h2⟩ := lI (f := f) (l := t) (k := k + 1) (uy (f := f) (off := (4 * k : Nat)) (w := 4) (v := x) h)
  exact ⟨h1, by rw [f2, h2, uz]⟩
def d4 (words : List Nat) (i : Nat) : List Nat := (words.drop (16 * i)).take 16
def g8 (who : Nat) (words : List Nat) (x : Im) (i : Nat) : Im :=
  match bP x.po who with
 | f :: _ => ⟨f2 f (d4 words i) 0 x.fr, x.po.set f ((who : Int), true), ew x.pg i ((f : Int), 3)⟩
 | [] => x
def d8 (who : Nat) (words : List Nat) : Nat → Im → Im
 | 0, x => x
 | n + 1, x => g8 who words (d8 who words n x) n
structure ImOk (x : Im) : Prop where
  fr : dZ x.fr
  po : PoOk x.po
  pg : Pgs x.pg
  len : x.po.length = x.fr.length
theorem zJ {who i : Nat} {words : List Nat} {x : Im} (h : ImOk x) (hw : who < 16) : ImOk (g8 who words x i) := by
 unfold g8
 cases e : bP x.po who with
 | nil => exact h
 | cons f t =>
  have hf := i3.1 (show f ∈ bP x.po who by rw [e]; simp)
  obtain ⟨k1, k2⟩ := lI (f := f) (l := d4 words i) (k := 0) h.fr
  exact ⟨k1, h.po.set hf.1 (by simp) (by simp; omega), oA h.pg, by rw [List.length_set, k2]; exact h.len⟩
theorem kJ {who : Nat} {words : List Nat} (hw : who < 16) : ∀ {n : Nat} {x : Im}, ImOk x → ImOk (d8 who words n x)
 | 0, _, h => h
 | n + 1, _, h => zJ (kJ hw h) hw
theorem zK {who i : Nat} {words : List Nat} {x : Im} : (bP (g8 who words x i).po who).length = (bP x.po who).length - 1 := by
 unfold g8
 cases e : bP x.po who with
 | nil => simp [e]
 | cons f t =>
  have hf := i3.1 (show f ∈ bP x.po who by rw [e]; simp)
  dsimp only
  have hm : ∀ y ∈ bP x.po who, f ≤ y := fun y hy => by
   have := oB x.po who
   rw [e] at hy this
   rw [List.pairwise_cons] at this
   rcases List.mem_cons.1 hy with rfl | k
   exact Nat.le_refl _
   exact Nat.le_of_lt (this.1 y k)
  have := qP (l := t) (by rw [e]; exact List.perm_append_comm (l₁ := t) (l₂ := [f])) hm
  rw [e] at this
  have := (List.cons.inj this).2
  rw [← this, List.length_cons]; omega
theorem qR {who : Nat} {words : List Nat} {x : Im} : ∀ n : Nat, (bP (d8 who words n x).po who).length = (bP x.po who).length - n
 | 0 => rfl
 | n + 1 => by rw [d8, zK, qR n]; omega
theorem zL {who i v : Nat} {words : List Nat} {x : Im} (h : v ≠ who) : bP (g8 who words x i).po v = bP x.po v := by
 unfold g8
 cases e : bP x.po who with
 | nil => rfl
 | cons f t =>
  have hf := i3.1 (show f ∈ bP x.po who by rw [e]; simp)
  dsimp only
  refine qN hf.1 ?_ ?_
  rw [hf.2]; intro q; have := (Prod.mk.inj q).1; omega
  intro q; have := (Prod.mk.inj q).2; cases this
theorem uF {who v : Nat} {words : List Nat} {x : Im} (h : v ≠ who) : ∀ n : Nat, bP (d8 who words n x).po v = bP x.po v
 | 0 => rfl
 | n + 1 => by rw [d8, zL h, uF h n]
def kK (pg : List Pl) (n m : Nat) : Prop := ∀ i, n ≤ i → i < m → ej pg (i : Nat) = false
theorem qS {who : Nat} {words : List Nat} {x : Im} (h : kK x.pg 0 8) (hl : x.pg.length = 12) : ∀ n : Nat, n ≤ 8 → kK (d8 who words n x).pg n 8 ∧ (d8 who words n x).pg.length = 12
 | 0, _ => ⟨h, hl⟩
 | n + 1, hn => by
  obtain ⟨k1, k2⟩ := qS h hl n (by omega)
  rw [d8]
  generalize d8 who words n x = y at k1 k2
  unfold g8
  cases e : bP y.po who with
  | nil => exact ⟨fun i h1 h2 => k1 i (by omega) h2, k2⟩
  | cons f t =>
   dsimp only
   refine ⟨fun i h1 h2 => ?_, ?_⟩
   have := k1 i (by omega) h2
   unfold ew
   split
   simp only [ej, gk, Int.toNat_natCast, List.getD_eq_getElem?_getD] at this ⊢
   rw [List.getElem?_set_ne (by omega)]; exact this
   exact this
   unfold ew; split
   rw [List.length_set]; exact k2
   exact k2
end
section
open Go.RowKit
section
variable {rd : Option Nat} {P : Program} {S : World → Prop} {W0 : World} {N : FSz} {Q : Exit → Act → World → Prop} {e : bQ} {A B R R1 R2 R3 R4 R5 R6 : List HP} {ops : Array Oper} {rest : List Oper}
variable {op : Op} {ty t t' : TypeId} {pos : String} {af : Array Edge} {v u : Value} {d b off : Nat} {x y z : Operand} {l l' vs : List Value}
variable {K1 K2 K3 K4 K5 K6 X1 X2 X3 X4 X5 X6 : Type} {r1 : K1 → X1 → HP} {b1 : K1} {x1 : X1} {r2 : K2 → X2 → HP} {b2 : K2} {x2 : X2} {r3 : K3 → X3 → HP} {b3 : K3} {x3 : X3} {r4 : K4 → X4 → HP} {b4 : K4} {x4 : X4} {r5 : K5 → X5 → HP} {b5 : K5} {x5 : X5} {r6 : K6 → X6 → HP} {b6 : K6} {x6 : X6}
theorem uG [h1 : Tk r1 b1 A x1 R1] [h2 : Tk r2 b2 R1 x2 R2] [h3 : Tk r3 b3 R2 x3 R] : A.Perm (r1 b1 x1 :: r2 b2 x2 :: r3 b3 x3 :: R) := h1.perm.trans (yZ.cons _)
theorem uH [h1 : Tk r1 b1 A x1 R1] [h2 : Tk r2 b2 R1 x2 R2] [h3 : Tk r3 b3 R2 x3 R3] [h4 : Tk r4 b4 R3 x4 R] : A.Perm (r1 b1 x1 :: r2 b2 x2 :: r3 b3 x3 :: r4 b4 x4 :: R) := h1.perm.trans (uG.cons _)
theorem uI [h1 : Tk r1 b1 A x1 R1] [h2 : Tk r2 b2 R1 x2 R2] [h3 : Tk r3 b3 R2 x3 R3] [h4 : Tk r4 b4 R3 x4 R4] [h5 : Tk r5 b5 R4 x5 R] : A.Perm (r1 b1 x1 :: r2 b2 x2 :: r3 b3 x3 :: r4 b4 x4 :: r5 b5 x5 :: R) := h1.perm.trans (uH.cons _)
theorem zM [h1 : Tk r1 b1 A x1 R1] [h2 : Tk r2 b2 R1 x2 R2] [h3 : Tk r3 b3 R2 x3 R3] [h4 : Tk r4 b4 R3 x4 R4] [h5 : Tk r5 b5 R4 x5 R5] [h6 : Tk r6 b6 R5 x6 R] : A.Perm (r1 b1 x1 :: r2 b2 x2 :: r3 b3 x3 :: r4 b4 x4 :: r5 b5 x5 :: r6 b6 x6 :: R) := h1.perm.trans (uI.cons _)
section
variable {f : FuncId} {xs : Array Operand} {ats : Array TypeId} {Post : Value → List HP → Prop}
theorem zN (hc : ∀ args w, (callFunc f args).run P w = .ok (.enter f args) w) (hx : eL e xs.toList = some vs)
    (hs : aC P W0 f vs (r1 b1 x1 :: r2 b2 x2 :: r3 b3 x3 :: r4 b4 x4 :: R) Post) [h1 : Tk r1 b1 A x1 R1] [h2 : Tk r2 b2 R1 x2 R2] [h3 : Tk r3 b3 R2 x3 R3] [h4 : Tk r4 b4 R3 x4 R] : dl P W0 N e A (.call { callee := .value (.func f), args := xs, argTypes := ats }) Post :=
  jN uH (aU hc hx hs)
theorem qT (hc : ∀ args w, (callFunc f args).run P w = .ok (.enter f args) w) (hx : eL e xs.toList = some vs)
    (hs : aC P W0 f vs (r1 b1 x1 :: r2 b2 x2 :: r3 b3 x3 :: r4 b4 x4 :: r5 b5 x5 :: R) Post) [h1 : Tk r1 b1 A x1 R1] [h2 : Tk r2 b2 R1 x2 R2] [h3 : Tk r3 b3 R2 x3 R3] [h4 : Tk r4 b4 R3 x4 R4] [h5 : Tk r5 b5 R4 x5 R] : dl P W0 N e A (.call { callee := .value (.func f), args := xs, argTypes := ats }) Post :=
  jN uI (aU hc hx hs)
theorem uJ (hc : ∀ args w, (callFunc f args).run P w = .ok (.enter f args) w) (hx : eL e xs.toList = some vs)
    (hs : aC P W0 f vs (r1 b1 x1 :: r2 b2 x2 :: r3 b3 x3 :: r4 b4 x4 :: r5 b5 x5 :: r6 b6 x6 :: R) Post) [h1 : Tk r1 b1 A x1 R1] [h2 : Tk r2 b2 R1 x2 R2] [h3 : Tk r3 b3 R2 x3 R3] [h4 : Tk r4 b4 R3 x4 R4] [h5 : Tk r5 b5 R4 x5 R5] [h6 : Tk r6 b6 R5 x6 R] : dl P W0 N e A (.call { callee := .value (.func f), args := xs, argTypes := ats }) Post :=
  jN zM (aU hc hx hs)
variable {fx : Operand} {us cs : List Value}
end
def kH (_ : Nat) (x : HP) : HP := x
instance (priority := low) ent_app {R R' : List HP} : Ent (R ++ R') R := ⟨fun l hl => by
 obtain ⟨l1, l2, rfl, h1, h2⟩ := fg.append.1 hl
 exact ⟨l1, l2, h1, List.Perm.refl _⟩⟩
theorem lJ {C : List HP} {f : FuncId} {args : List Value} {Post : Value → List HP → Prop} (h : aC P W0 f args (C ++ R) Post) : aC P W0 f args (kH 0 (bB C) :: R) Post := fun w hO => h w (hO.ent ik)
theorem uK {C : List HP} [h : Ent A (C ++ R)] : Ent A (kH 0 (bB C) :: R) := h.trans fY
theorem zO {C : List HP} {K : Act → World → Prop} (h : aT W0 N K e (C ++ R)) : aT W0 N K e (bB C :: R) := fun a w hF hO => h a w hF (hO.ent ik)
theorem zP {L : Nat} {Post : Value → List HP → Prop} (hp : A.Perm B) (h : ly P W0 L vs B Post) : ly P W0 L vs A Post := fun w hO => h w (hO.perm hp)
theorem jk {f : FuncId} {args : List Value} {Post : Value → List HP → Prop} (he : Ent A B) (h : aC P W0 f args B Post) : aC P W0 f args A Post := fun w hO => h w (hO.ent he)
instance FR [h : Ent A R] : Ent A (kH 0 (bB []) :: R) := uK (h := h)
instance FT {K X : Type} {r : K → X → HP} {b : K} {x : X} {C : List HP} [h : Tk r b A x R1] [k : Ent R1 (kH 0 (bB C) :: R)] : Ent A (kH 0 (bB (r b x :: C)) :: R) :=
  (Ent.ofPerm h.perm).trans ((Ent.cons (k.trans ik)).trans (uK (C := r b x :: C) (h := ent_refl)))
instance FU [h : Ent A R] : Ent A (bB [] :: R) := h.trans (fY (A := []))
instance FV {K X : Type} {r : K → X → HP} {b : K} {x : X} {C : List HP} [h : Tk r b A x R1] [k : Ent R1 (bB C :: R)] : Ent A (bB (r b x :: C) :: R) :=
  (Ent.ofPerm h.perm).trans ((Ent.cons (k.trans ik)).trans (fY (A := r b x :: C)))
theorem iJ {o o' : Obj} {K : Act → World → Prop} [h : Tk pt b A o R] (he : o = o') (k : aT W0 N K e (pt b o' :: R)) : aT W0 N K e A := by
 subst he; exact ed (r := pt) (b := b) k
theorem zQ {C : List HP} {K : Act → World → Prop} [h : Tk kH 0 A (bB C) R] (k : aT W0 N K e (C ++ R)) : aT W0 N K e A := ed (r := kH) (b := 0) (zO k)
theorem mY {E n sz : Nat} {ps : Array (Nat × Operand)} (hu : P.underlying t = some (.array n E)) (hs : ∀ w, (sizeOf E).run P w = .ok sz w) (hz : ∀ w, (zeroValue t).run P w = .ok (.agg l.toArray) w) (hp : ps = #[]) :
    cC P S N e (.build t ps) (.agg l.toArray) := fun a w _ _ _ _ _ hF _ => by
 subst hp
 have hb : Instr.build t ((#[] : Array (Nat × Operand)).map fun (i, x) => (i, a.eval x)) = (do
     let zero := (← zeroValue t).cells
     match ← underlying t with
     | .struct fields =>
       let places ← fields.mapM lu
       let some cells := Instr.fill (places[·]?) zero ((#[] : Array (Nat × Operand)).map fun (i, x) => (i, a.eval x)).toList | stuck "build: no such field, or a part of the wrong size"
       pure (.agg cells)
     | .array _ elem =>
       let size ← sizeOf elem
       let some cells := Instr.fill (fun i => some (i * size, size)) zero ((#[] : Array (Nat × Operand)).map fun (i, x) => (i, a.eval x)).toList | stuck "build: a part of the wrong size"
       pure (.agg cells)
     | _ => stuck "build: struct or array type expected") := rfl
 simp only [execOp, hb, Sem.run_bind, hz, dY hu, hs, Result.andThen_ok, Value.cells, Sem.run_pure]
 simp [Instr.fill]
def cF {α : Type} (S : World → Prop) (a : Option Addr) (sz : Nat) (f : α → List Value) (xs : List α) : Prop :=
  ∀ i x, xs[i]? = some x → ∃ b off, a = some ⟨b, off, none⟩ ∧ cY S b (off + i * sz) (f x)
variable {α : Type} {sz : Nat} {f : α → List Value} {xs : List α} {a : Option Addr}
theorem qU : cF S a sz f [] := fun i x h => by simp at h
theorem cF.weak (h : cF (bK W0 B) a sz f xs) [k : Ent A B] : cF (bK W0 A) a sz f xs := fun i x hi => by
 obtain ⟨b, off, rfl, hc⟩ := h i x hi
 exact ⟨b, off, rfl, hc.weak⟩
theorem cF.at_ (h : cF S a sz f xs) {i : Nat} (hi : i < xs.length) : ∃ b off, a = some ⟨b, off, none⟩ ∧ cY S b (off + i * sz) (f xs[i]) := h i xs[i] (by simp [hi])
theorem uL {E n c : Nat} {ys : List Value} {w : World} [h : Tk (osl E sz) (.slice a n c) A ys R] (hf : ∀ x, (f x).length = sz) (hz : 0 < sz) (hy : ys = xs.flatMap f) (hO : Own W0 w A) : cF (bK W0 A) a sz f xs := by
 rcases (hO.tk (r := osl E sz) (b := .slice a n c)).osl with ⟨k1, k2, _⟩ | ⟨g, n', cap, sp, k1, _, _, _, _, _⟩
 have : xs = [] := by
  have hl := dr hf xs
  rw [← hy, k2] at hl
  rcases Nat.eq_zero_or_pos xs.length with q | q
  exact List.eq_nil_of_length_eq_zero q
  have := Nat.mul_pos q hz
  simp at hl; omega
 subst this; exact qU
 cases k1
 intro i x hi
 have hlt : i < xs.length := by
  rcases Nat.lt_or_ge i xs.length with k | k
  exact k
  rw [List.getElem?_eq_none k] at hi; cases hi
 have hx : x = xs[i] := by rw [List.getElem?_eq_getElem hlt] at hi; exact (Option.some.inj hi).symm
 subst hx
 refine ⟨g, 0, rfl, fun j v hj w' hO' => ?_⟩
 rcases (Own.tk (r := osl E sz) (b := .slice (some ⟨g, 0, none⟩) n c) hO').osl with ⟨q1, _, _⟩ | ⟨g', n'', cap', sp', q1, _, _, _, _, q6⟩
 cases q1
 cases q1
 have hb := q6.has.2
 have hjl : j < sz := by
  rcases Nat.lt_or_ge j (f xs[i]).length with q | q
  rw [hf] at q; exact q
  rw [List.getElem?_eq_none q] at hj; cases hj
 have hg := jz hf xs i j sp' hlt hjl
 subst hy
 rw [hj] at hg
 simp only [World.cell?, hb, Option.isSome_none, Bool.false_eq_true, if_false, List.getElem?_toArray, Nat.zero_add]
 exact hg
theorem jQ {l : List Value} [h : Tk pt b A (ax l ty) R] (hf : ∀ x, (f x).length = sz) (hl : l = xs.flatMap f) : cF (bK W0 A) (some ⟨b, 0, none⟩) sz f xs := fun i x hi => by
 have hlt : i < xs.length := by
  rcases Nat.lt_or_ge i xs.length with k | k
  exact k
  rw [List.getElem?_eq_none k] at hi; cases hi
 have hx : x = xs[i] := by rw [List.getElem?_eq_getElem hlt] at hi; exact (Option.some.inj hi).symm
 subst hx
 refine ⟨b, 0, rfl, fun j v hj => aA (l := l) (ty := ty) (R := R) ?_⟩
 have hjl : j < sz := by
  rcases Nat.lt_or_ge j (f xs[i]).length with q | q
  rw [hf] at q; exact q
  rw [List.getElem?_eq_none q] at hj; cases hj
 have hg := jz hf xs i j [] hlt hjl
 rw [List.append_nil, hj] at hg
 subst hl
 rw [Nat.zero_add]; exact hg
theorem zR {E n c : Nat} {ys : List Value} {K : Act → World → Prop} [h : Tk (osl E sz) (.slice a n c) A ys R] (f : α → List Value) (xs : List α) (hf : ∀ x, (f x).length = sz) (hz : 0 < sz) (hy : ys = xs.flatMap f) (k : cF (bK W0 A) a sz f xs → aT W0 N K e A) : aT W0 N K e A :=
  fun a w hF hO => k (uL (h := h) hf hz hy hO) a w hF hO
def qV : Option Addr → Nat
 | some ad => ad.block
 | none => 0
def qW (a : Option Addr) (ys : List Value) : Prop := (a = none ∧ ys = []) ∨ ∃ g, a = some ⟨g, 0, none⟩
theorem qX {E n c : Nat} {ys : List Value} {K : Act → World → Prop} [h : Tk (osl E sz) (.slice a n c) A ys R] (k : qW a ys → aT W0 N K e A) : aT W0 N K e A := fun act w hF hO => by
 refine k ?_ act w hF hO
 rcases (hO.tk (r := osl E sz) (b := .slice a n c)).osl with ⟨k1, k2, _⟩ | ⟨g, n', cap, sp, k1, _, _, _, _, _⟩
 cases k1; exact .inl ⟨rfl, k2⟩
 cases k1; exact .inr ⟨g, rfl⟩
theorem uM {E n c : Nat} {ys : List Value} [h : Tk (osl E sz) (.slice a n c) A ys R] : cY (bK W0 A) (qV a) 0 ys := fun i v hi w hO => by
 rcases (Own.tk (r := osl E sz) (b := .slice a n c) hO).osl with ⟨k1, k2, _⟩ | ⟨g, n', cap, sp, k1, _, _, _, _, q⟩
 rw [k2] at hi; simp at hi
 cases k1
 have hb := q.has.2
 have hlt : i < ys.length := by
  rcases Nat.lt_or_ge i ys.length with k | k
  exact k
  rw [List.getElem?_eq_none k] at hi; cases hi
 simp only [qV, World.cell?, hb, Option.isSome_none, Bool.false_eq_true, if_false, List.getElem?_toArray, Nat.zero_add]
 rw [List.getElem?_append_left hlt]; exact hi
theorem zS {ys : List Value} (hf : qW a ys) (hc : cY S (qV a) 0 ys) (hl : ∀ x, (f x).length = sz) (hy : ys = xs.flatMap f) (hz : 0 < sz) : cF S a sz f xs := fun i x hi => by
 have hlt : i < xs.length := by
  rcases Nat.lt_or_ge i xs.length with k | k
  exact k
  rw [List.getElem?_eq_none k] at hi; cases hi
 have hx : x = xs[i] := by rw [List.getElem?_eq_getElem hlt] at hi; exact (Option.some.inj hi).symm
 subst hx
 rcases hf with ⟨_, h0⟩ | ⟨g, rfl⟩
 have := dr hl xs
 rw [← hy, h0] at this
 have h2 := Nat.mul_pos (show 0 < xs.length by omega) hz
 simp at this; omega
 refine ⟨g, 0, rfl, fun j v hj => ?_⟩
 have hjl : j < sz := by
  rcases Nat.lt_or_ge j (f xs[i]).length with q | q
  rw [hl] at q; exact q
  rw [List.getElem?_eq_none q] at hj; cases hj
 have hg := jz hl xs i j [] hlt hjl
 rw [List.append_nil, hj, ← hy] at hg
 have := hc _ v hg
 rw [Nat.zero_add] at this ⊢
 exact this
theorem cF.all (h : cF S a sz f xs) (hne : xs ≠ []) (hf : ∀ x, (f x).length = sz) : ∃ b off, a = some ⟨b, off, none⟩ ∧ cY S b off (xs.flatMap f) := by
 obtain ⟨b, off, rfl, h0⟩ := h.at_ (i := 0) (List.length_pos_iff.2 hne)
 refine ⟨b, off, rfl, fun j v hj => ?_⟩
 have hl := dr hf xs
 have hjl : j < xs.length * sz := by
  rcases Nat.lt_or_ge j (xs.flatMap f).length with q | q
  omega
  rw [List.getElem?_eq_none q] at hj; cases hj
 have hz : 0 < sz := by
  rcases Nat.eq_zero_or_pos sz with q | q
  subst q; simp at hjl
  exact q
 have hi : j / sz < xs.length := (Nat.div_lt_iff_lt_mul hz).2 hjl
 obtain ⟨b', off', he, hc⟩ := h.at_ hi
 cases he
 have hm : j / sz * sz + j % sz = j := by rw [Nat.mul_comm]; exact Nat.div_add_mod j sz
 have hg := jz hf xs (j / sz) (j % sz) [] hi (Nat.mod_lt _ hz)
 rw [List.append_nil, hm, hj] at hg
 have := hc (j % sz) v hg.symm
 rwa [Nat.add_assoc, hm] at this
end
def eE (x : Int) : List Value := [.int .i64 x]
def jR (T E : TypeId) (sz : Nat) {α : Type} (f : α → List Value) (o b : Nat) (x : List α × List Value) : HP := chk (fun C => o < x.2.length ∧ ∃ a c, C = [pt b (ax (x.2.set o (.slice a x.1.length c)) T), osl E sz (.slice a x.1.length c) (x.1.flatMap f)])
theorem iK {l : List Value} {o : Nat} {v : Value} (h : o < l.length) : (l.set o v)[o]? = some v := by simp [h]
theorem set_set {l : List Value} {o : Nat} {v u : Value} : (l.set o v).set o u = l.set o u := List.set_set ..
section
variable {P : Program} {W0 : World} {N : FSz} {K : Act → World → Prop} {e : bQ} {R A B R1 R2 : List HP} {T E : TypeId} {sz o b n : Nat} {α : Type} {f : α → List Value} {its : List α} {cs cs' : List Value} {fn : FuncId} {args : List Value} {Post : Value → List HP → Prop}
theorem qY (h : ∀ a c, o < cs.length → aC P W0 fn args (pt b (ax (cs.set o (.slice a its.length c)) T) :: osl E sz (.slice a its.length c) (its.flatMap f) :: R) Post) : aC P W0 fn args (jR T E sz f o b (its, cs) :: R) Post :=
  mG fun C hC => by obtain ⟨ho, a, c, rfl⟩ := hC; exact h a c ho
theorem qZ {a : Option Addr} {c : Nat} {xs : List Value} [h1 : Tk pt b A (ax cs' T) R1] [h2 : Tk (osl E sz) (.slice a n c) R1 xs R2] (hx : xs = its.flatMap f) (hc : cs' = cs.set o (.slice a n c)) (ho : o < cs.length) (hn : n = its.length) [k : Ent R2 B] : Ent A (jR T E sz f o b (its, cs) :: B) := by
 subst hn; subst hc; subst hx
 exact (Ent.ofPerm (h1.perm.trans (h2.perm.cons _))).trans ((Ent.cons (Ent.cons k)).trans (eZ (R := B) (C := [_, _]) ⟨ho, a, c, rfl⟩))
theorem r0 (hf : ∀ x, (f x).length = sz) (h0 : its ≠ []) (hz : 0 < sz) (h : ∀ g c sp, o < cs.length → its.length ≤ c → c ≤ maxLen → (its.flatMap f ++ sp).length = c * sz → aC P W0 fn args (pt b (ax (cs.set o (.slice (some ⟨g, 0, none⟩) its.length c)) T) :: pt g (ax (its.flatMap f ++ sp) E) :: R) Post) : aC P W0 fn args (jR T E sz f o b (its, cs) :: R) Post :=
  qY fun a c ho => mH (List.Perm.swap _ _ _) (ub (fun h1 h2 => by
      have := dr hf its
      rw [h2] at this
      have h3 : its.length = 0 := by
        rcases Nat.mul_eq_zero.1 this.symm with k | k
        · exact k
        omega
      exact absurd (List.eq_nil_of_length_eq_zero h3) h0)
    (fun g n cap sp h1 h2 h3 h4 h5 => by
      cases h1
      exact mH (List.Perm.swap _ _ _) (h g _ sp ho h2 h3 h5)))
theorem oC {g c : Nat} {xs sp : List Value} [h1 : Tk pt b A (ax cs' T) R1] [h2 : Tk pt g R1 (ax (xs ++ sp) E) R2] (hf : ∀ x, (f x).length = sz) (hx : xs = its.flatMap f) (hcs : cs' = cs.set o (.slice (some ⟨g, 0, none⟩) n c)) (ho : o < cs.length) (hn : n = its.length) (hc : n ≤ c) (hm : c ≤ maxLen) (hl : (xs ++ sp).length = c * sz) [k : Ent R2 B] : Ent A (jR T E sz f o b (its, cs) :: B) := by
 subst hn; subst hx; subst hcs
 have e : Ent R1 (osl E sz (.slice (some ⟨g, 0, none⟩) its.length c) (its.flatMap f) :: B) := fa hc hm (dr hf its) hl
 exact (Ent.ofPerm h1.perm).trans ((Ent.cons e).trans (eZ (R := B) (C := [_, _]) ⟨ho, _, c, rfl⟩))
theorem uN [hk : Tk (jR T E sz f o) b A (its, cs) R] {i : Nat} {v : Value} (hi : i ≠ o) (h : cs[i]? = some v) : iI (bK W0 A) b i v := fun w (hO : Own W0 w A) => by
 obtain ⟨C, ⟨ho, a, c, rfl⟩, hO'⟩ := (hO.tk (r := jR T E sz f o) (b := b)).chk
 have h1 : Own W0 w (pt b (ax (cs.set o (.slice a its.length c)) T) :: (osl E sz (.slice a its.length c) (its.flatMap f) :: R)) := hO'
 have h2 : iI (bK W0 (pt b (ax (cs.set o (.slice a its.length c)) T) :: (osl E sz (.slice a its.length c) (its.flatMap f) :: R))) b i v := aA (by rw [List.getElem?_set_ne (by omega)]; exact h)
 exact h2 w h1
theorem uO [hk : Tk (jR T E sz f o) b A (its, cs) R] {i : Nat} {v : Value} (hi : i ≠ o) (h : cs[i]? = some v) : cY (bK W0 A) b i [v] := fun j u hj => by
 match j, hj with
 | 0, hj => rw [← Option.some.inj hj]; exact uN (o := o) (f := f) (T := T) (E := E) (sz := sz) hi h
 | j + 1, hj => cases hj
end
theorem zT {α : Type} (f : α → Value) (l : List α) : (l.flatMap fun x => [f x]) = l.map f := by
 induction l with
 | nil => rfl
 | cons x l ih => rw [List.flatMap_cons, ih]; rfl
theorem zU {α : Type} {f : α → List Value} {k : Nat} (hf : ∀ x, (f x).length = k) (its : List α) (sp : List Value) (i : Nat) (hi : i < its.length) : i * k + k ≤ (its.flatMap f ++ sp).length := by
 have := Nat.mul_le_mul_right k (show i + 1 ≤ its.length by omega)
 rw [Nat.succ_mul] at this
 rw [List.length_append, dr hf]; omega
structure HpO (W0 : World) (α : Type) [Hk α] where
  T : TypeId
  p : Value
  el : α → Value
  H : List α → HP
  fL : FuncId
  fE : FuncId
  fS : FuncId
  fU : FuncId
  fO : FuncId
  mL : ∀ w, (method (Tryz.prog.types.size + Made.depth) T p "Len").run Tryz.prog w = .ok (fL, p) w
  mE : ∀ w, (method (Tryz.prog.types.size + Made.depth) T p "Less").run Tryz.prog w = .ok (fE, p) w
  mS : ∀ w, (method (Tryz.prog.types.size + Made.depth) T p "Swap").run Tryz.prog w = .ok (fS, p) w
  mU : ∀ w, (method (Tryz.prog.types.size + Made.depth) T p "Push").run Tryz.prog w = .ok (fU, p) w
  mO : ∀ w, (method (Tryz.prog.types.size + Made.depth) T p "Pop").run Tryz.prog w = .ok (fO, p) w
  cL : ∀ args w, (callFunc fL args).run Tryz.prog w = .ok (.enter fL args) w
  cE : ∀ args w, (callFunc fE args).run Tryz.prog w = .ok (.enter fE args) w
  cS : ∀ args w, (callFunc fS args).run Tryz.prog w = .ok (.enter fS args) w
  cU : ∀ args w, (callFunc fU args).run Tryz.prog w = .ok (.enter fU args) w
  cO : ∀ args w, (callFunc fO args).run Tryz.prog w = .ok (.enter fO args) w
  sL : ∀ R l, aC Tryz.prog W0 fL [p] (kH 0 (H l) :: R) (fun v B => v = .int .i64 (l.length : Nat) ∧ B = kH 0 (H l) :: R)
  sE : ∀ R l (i j : Nat), i < l.length → j < l.length → aC Tryz.prog W0 fE [p, .int .i64 i, .int .i64 j] (kH 0 (H l) :: R) (fun v B => v = .bool (decide (Hp.us l i < Hp.us l j)) ∧ B = kH 0 (H l) :: R)
  sS : ∀ R l (i j : Nat), i < l.length → j < l.length → aC Tryz.prog W0 fS [p, .int .i64 i, .int .i64 j] (kH 0 (H l) :: R) (fun v B => v = .tuple #[] ∧ B = kH 0 (H (Hp.swapL l i j)) :: R)
  sU : ∀ R l x, l.length < 1000 → aC Tryz.prog W0 fU [p, el x] (kH 0 (H l) :: R) (fun v B => v = .tuple #[] ∧ B = kH 0 (H (l ++ [x])) :: R)
  sO : ∀ R l x, aC Tryz.prog W0 fO [p] (kH 0 (H (l ++ [x])) :: R) (fun v B => v = el x ∧ B = kH 0 (H l) :: R)
namespace Hp
variable {W0 : World} {α : Type} [Hk α] (o : HpO W0 α)
def iv : Value := .iface o.T o.p
theorem r9 {j : Nat} (h : j < 1000) : IntKind.wrap .i64 (Int.tdiv ((j : Int) - 1) 2) = (((j - 1) / 2 : Nat) : Int) := by
 by_cases h0 : j = 0
 subst h0; decide
 obtain ⟨k, rfl⟩ : ∃ k, j = k + 1 := ⟨j - 1, by omega⟩
 have e : ((k + 1 : Nat) : Int) - 1 = (k : Int) := by omega
 rw [e, Int.tdiv_eq_ediv_of_nonneg (by omega), aZ (by omega)]; simp
theorem re (R : List HP) (its : List α) (j n : Nat) (hn : n ≤ its.length) (hN : n < 1000) (hj : j < n) (hU : Up its j n) :
    aC Tryz.prog W0 293 [iv o, .int .i64 j] (kH 0 (o.H its) :: R) (fun v B => v = .tuple #[] ∧ ∃ its', B = kH 0 (o.H its') :: R ∧ its'.Perm its ∧ Heap its' n ∧ ∀ x, n ≤ x → its'.getD x default = its.getD x default) := by
 refine aG xA ntmps293 rfl rfl ?_
 refine aW ?_
 refine cT (fun X : List α × Nat => X.1.Perm its ∧ X.2 < n ∧ Up X.1 X.2 n ∧ ∀ x, n ≤ x → X.1.getD x default = its.getD x default) (fun X => [(0, iv o), (1, .int .i64 X.2)]) (fun X => kH 0 (o.H X.1) :: R) (fun X => X.2) (its, j) ?_ ?_ ?_ ?_
 exact ⟨List.Perm.refl _, hj, hU, fun _ _ => rfl⟩
 · repeat (first | exact aX | refine aV rfl ?_)
 exact inferInstance
 intro ⟨l, j⟩ ⟨hp, hj, hU, ht⟩
 have hlen := hp.length_eq
 simp only at hj hU ht hp hlen ⊢
 refine aW (ae (ah (aa rfl (ac rfl) ?_)))
 refine aa rfl (dX rfl rfl (by first | exact aZ (by omega) | rfl)) ?_
 refine aa rfl (qi rfl rfl (by decide) (r9 (by omega))) ?_
 refine aa rfl (ai rfl) (ag (ab (ae (ae (ah (aa rfl (ac rfl) (aa rfl (ac rfl) (aa rfl (cu rfl rfl) (aa rfl (ac rfl) ?_)))))))))
 refine bC rfl rfl rfl ?_ ?_
 intro g1_4
 refine ap rfl rfl rfl rfl (ap rfl rfl rfl rfl (ap rfl rfl rfl rfl (ap rfl rfl rfl rfl (aa rfl (aY rfl rfl) (ag (ab (cg rfl (cj (bi (eW rfl (bi (co (au (.inr rfl) .nil ?_)))))))))))))
 exact ⟨_, ⟨rfl, l, rfl, hp, mT hU (by intro _; first | omega | (simp at c1; omega)), ht⟩, inferInstance⟩
 intro g1_4
 refine aa rfl (ac rfl) (ar rfl rfl (aa rfl (ac rfl) (ar rfl rfl (aa rfl (ac rfl) (ar rfl rfl ?_)))))
 refine am rfl (fh rfl o.mE o.cE rfl (o.sE _ l j ((j - 1) / 2) (by omega) (by omega))) ?_
 rintro _ B_ ⟨rfl, hB_⟩
 obtain rfl := hB_.symm
 refine ar rfl rfl (aa rfl (bM rfl) (aa rfl (aM rfl rfl) (ag (ab ?_))))
 refine aw rfl ?_ ?_
 intro c1
 refine cj (bi (eW rfl (bi (co (au (.inr rfl) .nil ?_)))))
 exact ⟨_, ⟨rfl, l, rfl, hp, mT hU (by intro _; first | omega | (simp at c1; omega)), ht⟩, inferInstance⟩
 intro c1
 replace c1 : us l j < us l ((j - 1) / 2) := by simpa using c1
 refine aB (ab (ae (ah (aa rfl (ac rfl) (aa rfl (ac rfl) (aa rfl (ac rfl) ?_))))))
 refine am rfl (fh rfl o.mS o.cS rfl (o.sS _ l ((j - 1) / 2) j (by omega) (by omega))) ?_
 rintro _ B_ ⟨rfl, hB_⟩
 obtain rfl := hB_.symm
 refine ag (ab (ah (aa rfl (ac rfl) (aa rfl (ai rfl) (ag (bH (ab ?_)))))))
 refine cG (swapL l ((j - 1) / 2) j, (j - 1) / 2) ?_ ?_ ?_ ?_
 exact ⟨(kI (by omega) (by omega)).trans hp, by show (j - 1) / 2 < n; omega, qK hU (by omega) hj (by omega) c1, mX (by omega) hj (by omega) ht⟩
 show (j - 1) / 2 < j; omega
 · repeat (first | exact aX | refine aV rfl ?_)
 exact inferInstance
theorem rf (R : List HP) (its : List α) (i0 n : Nat) (hn : n ≤ its.length) (hN : n < 1000) (hi : i0 ≤ n) (hH : gP its i0 n) :
    aC Tryz.prog W0 361 [iv o, .int .i64 i0, .int .i64 n] (kH 0 (o.H its) :: R) (fun v B => ∃ l m, v = .bool m ∧ B = kH 0 (o.H l) :: R ∧ Down its l i0 n m) := by
 refine aG func361 ntmps361 rfl rfl ?_
 refine ae (ah (aa rfl (ai rfl) (ag (ab (ae (ah (aa rfl (ac rfl) (aa rfl (ai rfl) (ag (ab (ae (aW ?_))))))))))))
 refine cT (fun X : List α × Nat => X.1.Perm its ∧ i0 ≤ X.2 ∧ gP X.1 X.2 n ∧ (∀ x, n ≤ x → X.1.getD x default = its.getD x default) ∧ (X.2 = i0 → X.1 = its) ∧ (i0 < X.2 → us X.1 ((X.2 - 1) / 2) ≤ us X.1 X.2) ∧ X.2 ≤ n) (fun X => [(0, iv o), (1, .int .i64 i0), (2, .int .i64 n), (7, .int .i64 X.2)]) (fun X => kH 0 (o.H X.1) :: R) (fun X => n - X.2) (its, i0) ?_ ?_ ?_ ?_
 exact ⟨List.Perm.refl _, Nat.le_refl _, hH, fun _ _ => rfl, fun _ => rfl, fun h => absurd h (Nat.lt_irrefl _), hi⟩
 · repeat (first | exact aX | refine aV rfl ?_)
 exact inferInstance
 intro ⟨l, i⟩ ⟨hp, hi0, hl, ht, he, hg, hin⟩
 have hlen := hp.length_eq
 simp only at hp hi0 hl ht he hg hin hlen ⊢
 refine aW (ae (ah (aa rfl (ac rfl) ?_)))
 refine aa rfl (il rfl rfl (by first | exact aZ (by omega) | rfl)) ?_
 refine aa rfl (bF rfl rfl (by rw [aZ (by omega)]; omega : IntKind.wrap .i64 (2 * (i : Int) + 1) = ((2 * i + 1 : Nat) : Int))) ?_
 refine aa rfl (ai rfl) (ag (ab (ae (ae (ah (aa rfl (ac rfl) (aa rfl (ac rfl) (aa rfl (cK rfl rfl) (aa rfl (ac rfl) ?_)))))))))
 refine bC rfl rfl rfl ?_ ?_
 intro g3_4
 refine ap rfl rfl rfl rfl (aa rfl (aY rfl rfl) (ag (ab (cg rfl (cj (bi (eW rfl (bi (co (ab (ae (ah (aa rfl (ac rfl) (aa rfl (ac rfl) (aa rfl (cy rfl rfl) (aa rfl (ai rfl) (ag (ab (av (au (.inl rfl) (.cons (ak rfl) .nil) ?_))))))))))))))))))))
 refine ⟨_, ⟨l, decide (i0 < i), by simp [cH], rfl, mW hp hi0 hl ht he hg ?_⟩, inferInstance⟩
 first | (intro c hc h0 h1; exfalso; omega) | (intro c hc h0 h1; have := hmin c hc h0 h1; simp at c8; omega)
 intro g3_4
 refine aa rfl (ac rfl) (ar rfl rfl (aa rfl (b0 rfl rfl) (aa rfl (aM rfl rfl) (ag (ab ?_)))))
 refine aw rfl ?_ ?_
 intro c3
 omega
 intro c3
 refine aB (ab (ae (ah (aa rfl (ac rfl) (aa rfl (ai rfl) (ag (ab ?_)))))))
 refine gM (fun j : Nat => (j - 1) / 2 = i ∧ 0 < j ∧ j < n ∧ ∀ c, c < n → 0 < c → (c - 1) / 2 = i → us l j ≤ us l c) (fun j => [(0, iv o), (1, .int .i64 i0), (2, .int .i64 n), (7, .int .i64 i), (9, .int .i64 j)]) (fun j => kH 0 (o.H l) :: R) ?_ ?_
 skip
 refine ae (ah (aa rfl (ac rfl) ?_))
 refine aa rfl (bF rfl rfl (by rw [aZ (by omega)]; omega : IntKind.wrap .i64 (((2 * i + 1 : Nat) : Int) + 1) = ((2 * i + 2 : Nat) : Int))) ?_
 refine aa rfl (ai rfl) (ag (ab (ae (ah (aa rfl (ac rfl) (aa rfl (ac rfl) (aa rfl (b0 rfl rfl) (aa rfl (ac rfl) ?_))))))))
 refine cJ rfl rfl rfl ?_ ?_
 intro g6_4
 refine aa rfl (ac rfl) (ar rfl rfl (aa rfl (ac rfl) (ar rfl rfl (aa rfl (ac rfl) (ar rfl rfl ?_)))))
 refine am rfl (fh rfl o.mE o.cE rfl (o.sE _ l (2 * i + 2) (2 * i + 1) (by omega) (by omega))) ?_
 rintro _ B_ ⟨rfl, hB_⟩
 obtain rfl := hB_.symm
 refine aa rfl (aY rfl rfl) (ag (ab ?_))
 refine aw rfl ?_ ?_
 intro c6
 refine ah (aa rfl (ac rfl) (aa rfl (ai rfl) (ag (ab ?_))))
 refine dz (2 * i + 2) ?_ ?_ ?_
 refine ⟨by omega, by omega, by omega, fun c hc h0 h1 => ?_⟩
 have : c = 2 * i + 1 ∨ c = 2 * i + 2 := by omega
 rcases this with rfl | rfl <;> (first | omega | (simp at c6; omega) | (simp at c3; omega))
 · repeat (first | exact aX | refine aV rfl ?_)
 exact inferInstance
 intro c6
 refine aB (ab ?_)
 refine dz (2 * i + 1) ?_ ?_ ?_
 refine ⟨by omega, by omega, by omega, fun c hc h0 h1 => ?_⟩
 have : c = 2 * i + 1 ∨ c = 2 * i + 2 := by omega
 rcases this with rfl | rfl <;> (first | omega | (simp at c6; omega) | (simp at c3; omega))
 · repeat (first | exact aX | refine aV rfl ?_)
 exact inferInstance
 intro g6_4
 refine ap rfl rfl rfl rfl (ap rfl rfl rfl rfl (ap rfl rfl rfl rfl (aa rfl (aM rfl rfl) (ag (ab (eY rfl (aB (ab ?_))))))))
 refine dz (2 * i + 1) ?_ ?_ ?_
 refine ⟨by omega, by omega, by omega, fun c hc h0 h1 => ?_⟩
 have : c = 2 * i + 1 ∨ c = 2 * i + 2 := by omega
 rcases this with rfl | rfl <;> (first | omega | (simp at c6; omega) | (simp at c3; omega))
 · repeat (first | exact aX | refine aV rfl ?_)
 exact inferInstance
 intro j ⟨hj, hj0, hjn, hmin⟩
 refine ae (ae (ah (aa rfl (ac rfl) (aa rfl (ac rfl) (aa rfl (ac rfl) ?_)))))
 refine am rfl (fh rfl o.mE o.cE rfl (o.sE _ l j i (by omega) (by omega))) ?_
 rintro _ B_ ⟨rfl, hB_⟩
 obtain rfl := hB_.symm
 refine aa rfl (bM rfl) (ag (ab ?_))
 refine aw rfl ?_ ?_
 intro c8
 refine cj (bi (eW rfl (bi (co (ab (ae (ah (aa rfl (ac rfl) (aa rfl (ac rfl) (aa rfl (cy rfl rfl) (aa rfl (ai rfl) (ag (ab (av (au (.inl rfl) (.cons (ak rfl) .nil) ?_)))))))))))))))
 refine ⟨_, ⟨l, decide (i0 < i), by simp [cH], rfl, mW hp hi0 hl ht he hg ?_⟩, inferInstance⟩
 first | (intro c hc h0 h1; exfalso; omega) | (intro c hc h0 h1; have := hmin c hc h0 h1; simp at c8; omega)
 intro c8
 replace c8 : us l j < us l i := by simpa using c8
 refine aB (ab (ae (ah (aa rfl (ac rfl) (aa rfl (ac rfl) (aa rfl (ac rfl) ?_))))))
 refine am rfl (fh rfl o.mS o.cS rfl (o.sS _ l i j (by omega) (by omega))) ?_
 rintro _ B_ ⟨rfl, hB_⟩
 obtain rfl := hB_.symm
 refine ag (ab (ah (aa rfl (ac rfl) (aa rfl (ai rfl) (ag (bH (ab ?_)))))))
 refine cG (swapL l i j, j) ?_ ?_ ?_ ?_
 have hs := qJ hl (by omega) hjn hj hj0 c8 hmin
 exact ⟨(kI (by omega) (by omega)).trans hp, by show i0 ≤ j; omega, hs.1, mX (by omega) hjn (by omega) ht, by show j = i0 → _; omega, fun _ => hs.2, by show j ≤ n; omega⟩
 show n - j < n - i; omega
 · repeat (first | exact aX | refine aV rfl ?_)
 exact inferInstance
theorem rh {its : List α} {x : α} (h : Heap its its.length) : Up (its ++ [x]) its.length (its.length + 1) := by
 have e : ∀ c, c < its.length → us (its ++ [x]) c = us its c := fun c hc => by
  unfold us; simp only [List.getD_eq_getElem?_getD]; rw [List.getElem?_append_left hc]
 intro c hc h0
 refine ⟨fun h1 => ?_, fun h1 h2 => by omega⟩
 rw [e c (by omega), e _ (by omega)]; exact h c (by omega) h0
theorem heapPush_spec (R : List HP) (its : List α) (x : α) (hN : its.length < 900) (hh : Heap its its.length) :
    aC Tryz.prog W0 176 [iv o, o.el x] (kH 0 (o.H its) :: R) (fun v B => v = .tuple #[] ∧ ∃ its', B = kH 0 (o.H its') :: R ∧ its'.Perm (its ++ [x]) ∧ Heap its' its'.length) := by
 have hl : (its ++ [x]).length = its.length + 1 := by simp
 refine aG xB ntmps176 rfl rfl ?_
 refine ae (ah (aa rfl (ac rfl) (aa rfl (ac rfl) ?_)))
 refine am rfl (fh rfl o.mU o.cU rfl (o.sU _ its x (by omega))) ?_
 rintro _ B_ ⟨rfl, hB_⟩
 obtain rfl := hB_.symm
 refine ag (ab (ah (aa rfl (ac rfl) (aa rfl (ac rfl) (am rfl (fh rfl o.mL o.cL rfl (o.sL _ (its ++ [x]))) ?_)))))
 rintro _ B_ ⟨rfl, hB_⟩
 obtain rfl := hB_.symm
 refine aa rfl (dX rfl rfl (by rw [aZ (by omega)]; omega : IntKind.wrap .i64 (((its ++ [x]).length : Nat) - 1 : Int) = ((its.length : Nat) : Int))) ?_
 refine am rfl (bn xC rfl (re o _ (its ++ [x]) its.length (its.length + 1) (by omega) (by omega) (by omega) (rh hh))) ?_
 rintro _ _ ⟨rfl, l', rfl, hp, hh', _⟩
 refine ag (au (.inr rfl) .nil ?_)
 exact ⟨_, ⟨rfl, l', rfl, hp, by rw [hp.length_eq, hl]; exact hh'⟩, inferInstance⟩
theorem ri {l : List α} {n : Nat} (h : l.length = n + 1) : ∃ l' x, l = l' ++ [x] ∧ l'.length = n ∧ x = l.getD n default := by
 have hne : l ≠ [] := fun e => by rw [e] at h; simp at h
 refine ⟨l.dropLast, l.getLast hne, (List.dropLast_concat_getLast hne).symm, by simp [h], ?_⟩
 rw [List.getLast_eq_getElem]
 simp [List.getD, h]
theorem rj {l : List α} {x : α} {n : Nat} (h : Heap (l ++ [x]) n) (hn : n ≤ l.length) : Heap l n :=
  qM (fun i hi => by simp only [List.getD_eq_getElem?_getD]; rw [List.getElem?_append_left (by omega)]) h
theorem heapPop_spec (R : List HP) (its : List α) (hN : its.length < 900) (h0 : its ≠ []) (hh : Heap its its.length) :
    aC Tryz.prog W0 300 [iv o] (kH 0 (o.H its) :: R) (fun v B => ∃ x its', v = o.el x ∧ B = kH 0 (o.H its') :: R ∧ (its' ++ [x]).Perm its ∧ Heap its' its'.length ∧ ∀ y ∈ its, Hk.ky x ≤ Hk.ky y) := by
 obtain ⟨n, hn⟩ : ∃ n, its.length = n + 1 := ⟨its.length - 1, by have := List.length_pos_iff.2 h0; omega⟩
 have hs : gP (swapL its 0 n) 0 n := fun c hc h0 => ⟨fun h1 h2 => by
  rw [jC (by omega) (by omega), jC (by omega) (by omega), if_neg h2, if_neg h1, if_neg (by omega), if_neg (by omega)]
  exact hh c (by omega) h0, fun _ h => by omega⟩
 have hsl := qH its 0 n
 refine aG func300 ntmps300 rfl rfl ?_
 refine ae (ah (aa rfl (ai rfl) (ag (ab (ae (ah (aa rfl (ac rfl) (am rfl (fh rfl o.mL o.cL rfl (o.sL _ its)) ?_))))))))
 rintro _ B_ ⟨rfl, hB_⟩
 obtain rfl := hB_.symm
 refine aa rfl (dX rfl rfl (by rw [aZ (by omega)]; omega : IntKind.wrap .i64 ((its.length : Nat) - 1 : Int) = ((n : Nat) : Int))) ?_
 refine aa rfl (ai rfl) (ag (ab (ae (ah (aa rfl (ac rfl) (aa rfl (ac rfl) ?_))))))
 refine am rfl (fh rfl o.mS o.cS rfl (o.sS _ its 0 n (by omega) (by omega))) ?_
 rintro _ B_ ⟨rfl, hB_⟩
 obtain rfl := hB_.symm
 refine ag (ab (ae (ah (aa rfl (ac rfl) (aa rfl (ac rfl) ?_)))))
 refine am rfl (bn call361 rfl (rf o _ (swapL its 0 n) 0 n (by omega) (by omega) (by omega) hs)) ?_
 rintro _ _ ⟨l, m, rfl, rfl, hD⟩
 have hll := hD.perm.length_eq
 obtain ⟨l', x, rfl, hl', hx⟩ := ri (l := l) (n := n) (by omega)
 have hx0 : x = its.getD 0 default := by
  rw [hx, hD.tail n (Nat.le_refl _), kG (by omega) (by omega)]; split
  rename_i e; subst e; rfl
  rw [if_pos rfl]
 have hp : (l' ++ [x]).Perm its := hD.perm.trans (kI (by omega) (by omega))
 have hH : Heap (l' ++ [x]) n := by
  cases m with
  | true => exact hD.yes rfl
  | false =>
   obtain ⟨e, hmin⟩ := hD.no rfl
   rw [e]; exact mR hs hmin (fun h => absurd h (by omega))
 refine ag (ab (ae (ah (aa rfl (ac rfl) (am rfl (fh rfl o.mO o.cO rfl (o.sO _ l' x)) ?_)))))
 rintro _ B_ ⟨rfl, hB_⟩
 obtain rfl := hB_.symm
 refine aa rfl (ai rfl) (ag (ab (av (au (.inl rfl) (.cons (ak rfl) .nil) ?_))))
 refine ⟨_, ⟨x, l', rfl, rfl, hp, by rw [hl']; exact rj hH (by omega), fun y hy => ?_⟩, inferInstance⟩
 obtain ⟨c, hc, rfl⟩ := List.mem_iff_getElem.1 hy
 have := qL hh c hc
 rw [qG hc] at this
 rw [hx0]; exact this
end Hp
end
end Go.Proofs.YtofillmoflhijaaGreat
