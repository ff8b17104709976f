/-
  Part 1 of the proof of HcallZero: rules, and walks of functions. Conditions: none.
-/
import Derived.WalkKit
import Derived.ProofKit
import Derived.RangeFuncRecord
import Derived.OrdersHeld
import Derived.Test.YtnidndllknffgaaGreatProg
import Derived.Laws.MakeOwn
import Derived.Scope
import Derived.Lib.AppendZerosOnto
import Derived.Lib.Overlaps
import Derived.OrdersIn
import Derived.Laws.BytesString
import Derived.OpenShut
import Derived.Carry
import Derived.MapKept
import Derived.ChangeKeysEq
import Derived.Laws.IdiomStrings
import Derived.Test.YtnidndllknffgaaGreatRows
namespace Go.Proofs.YtnidndllknffgaaGreat
open Go.RowKit
abbrev HP := List (Nat × Obj) → Prop
def pt (b : Nat) (o : Obj) : HP := fun l => l = [(b, o)]
abbrev cob (l : List Value) (t : TypeId) : Obj := .cells l.toArray t (0, 0)
def Sat : List HP → List (Nat × Obj) → Prop
  | [], l => l = []
  | a :: A, l => ∃ l1 l2, l = l1 ++ l2 ∧ a l1 ∧ Sat A l2
structure Own (W0 w : World) (A : List HP) : Prop where
  os : w.os = W0.os
  tape : w.tape = W0.tape
  output : w.output = W0.output
  size : W0.heap.size ≤ w.heap.size
  base : ∀ b, b < W0.heap.size → w.heap[b]? = W0.heap[b]?
  owns : ∃ ls : List (Nat × Obj), Sat A ls ∧ (ls.map (·.1)).Nodup ∧ ∀ p ∈ ls, W0.heap.size ≤ p.1 ∧ w.heap[p.1]? = some p.2
theorem Sat.perm {A B : List HP} (h : A.Perm B) : ∀ {l}, Sat A l → ∃ l', Sat B l' ∧ l.Perm l' := by
  induction h with
  | nil => exact fun h => ⟨_, h, List.Perm.refl _⟩
  | cons x h ih =>
    rintro l ⟨l1, l2, rfl, ha, hs⟩
    obtain ⟨l', hs', hp⟩ := ih hs
    exact ⟨l1 ++ l', ⟨l1, l', rfl, ha, hs'⟩, hp.append_left l1⟩
  | swap x y l =>
    rintro l ⟨l1, l2, rfl, ha, m1, m2, rfl, hb, hs⟩
    refine ⟨m1 ++ (l1 ++ m2), ⟨m1, l1 ++ m2, rfl, hb, l1, m2, rfl, ha, hs⟩, ?_⟩
    rw [← List.append_assoc, ← List.append_assoc]
    exact (List.perm_append_comm).append_right m2
  | trans h1 h2 ih1 ih2 =>
    intro l hl
    obtain ⟨l', hs, hp⟩ := ih1 hl
    obtain ⟨l'', hs', hp'⟩ := ih2 hs
    exact ⟨l'', hs', hp.trans hp'⟩
theorem Own.perm {W0 w : World} {A B : List HP} (h : Own W0 w A) (hp : A.Perm B) : Own W0 w B := by
  obtain ⟨ls, hs, hn, hb⟩ := h.owns
  obtain ⟨l', hs', hp'⟩ := hs.perm hp
  exact ⟨h.os, h.tape, h.output, h.size, h.base, l', hs', (hp'.map _).nodup hn, fun p hm => hb p (hp'.mem_iff.2 hm)⟩
theorem Own.drop {W0 w : World} {a : HP} {A : List HP} (h : Own W0 w (a :: A)) : Own W0 w A := by
  obtain ⟨ls, ⟨l1, l2, rfl, _, hs⟩, hn, hb⟩ := h.owns
  refine ⟨h.os, h.tape, h.output, h.size, h.base, l2, hs, ?_, fun p hm => hb p (List.mem_append_right _ hm)⟩
  rw [List.map_append] at hn
  exact (List.nodup_append.1 hn).2.1
theorem Own.refl (W : World) : Own W W [] := ⟨rfl, rfl, rfl, Nat.le_refl _, fun _ _ => rfl, [], rfl, List.nodup_nil, fun _ h => nomatch h⟩
theorem Own.below {W0 w : World} {A : List HP} (h : Own W0 w A) : Below W0.heap.size W0 w := ⟨h.os, h.tape, h.output, h.size, h.base⟩
theorem Own.drew {W0 w : World} {A : List HP} (h : Own W0 w A) (n : Nat) : Own W0 { w with drawn := n } A := ⟨h.os, h.tape, h.output, h.size, h.base, h.owns⟩
theorem Own.has {W0 w : World} {b : Nat} {o : Obj} {A : List HP} (h : Own W0 w (pt b o :: A)) : W0.heap.size ≤ b ∧ w.heap[b]? = some o := by
  obtain ⟨ls, ⟨l1, l2, rfl, h1, _⟩, _, hb⟩ := h.owns
  cases h1
  exact hb (b, o) (by simp)
theorem Own.set {W0 w w' : World} {b : Nat} {o o' : Obj} {A : List HP} (h : Own W0 w (pt b o :: A)) (hos : w'.os = w.os) (htape : w'.tape = w.tape)
    (hout : w'.output = w.output) (hsz : w'.heap.size = w.heap.size)
    (hb : w'.heap[b]? = some o') (hne : ∀ k, k ≠ b → w'.heap[k]? = w.heap[k]?) : Own W0 w' (pt b o' :: A) := by
  have hbase := h.has.1
  obtain ⟨ls, ⟨l1, l2, rfl, h1, hs⟩, hn, hm⟩ := h.owns
  cases h1
  refine ⟨hos.trans h.os, htape.trans h.tape, hout.trans h.output, by have := h.size; omega, fun k hk => ?_, (b, o') :: l2, ⟨[(b, o')], l2, rfl, rfl, hs⟩, ?_, ?_⟩
  · rw [hne k (by omega)]; exact h.base k hk
  · simpa using hn
  · rintro p hp
    rcases List.mem_cons.1 hp with rfl | hp
    · exact ⟨hbase, hb⟩
    · have hp' := hm p (List.mem_append_right _ hp)
      refine ⟨hp'.1, ?_⟩
      rw [hne]; · exact hp'.2
      intro e
      simp only [List.singleton_append, List.map_cons, List.nodup_cons, List.mem_map, not_exists, not_and] at hn
      exact hn.1 p hp e
theorem Own.new {W0 w : World} {A : List HP} (h : Own W0 w A) (o : Obj) : Own W0 { w with heap := w.heap.push o } (pt w.heap.size o :: A) := by
  obtain ⟨ls, hs, hn, hb⟩ := h.owns
  refine ⟨h.os, h.tape, h.output, ?_, fun k hk => ?_, (w.heap.size, o) :: ls, ⟨[_], ls, rfl, rfl, hs⟩, ?_, ?_⟩
  · have := h.size; simp; omega
  · have := h.size
    show (w.heap.push o)[k]? = _
    rw [Array.getElem?_push, if_neg (by omega)]; exact h.base k hk
  · simp only [List.map_cons, List.nodup_cons]
    refine ⟨?_, hn⟩
    intro hmem
    obtain ⟨p, hp, e⟩ := List.mem_map.1 hmem
    have := (hb p hp).2
    rw [e] at this
    simp at this
  · rintro p hp
    show _ ∧ (w.heap.push o)[p.1]? = _
    rcases List.mem_cons.1 hp with rfl | hp
    · exact ⟨h.size, by simp⟩
    · refine ⟨(hb p hp).1, ?_⟩
      have := (hb p hp).2
      have hlt : p.1 < w.heap.size := by
        rcases Nat.lt_or_ge p.1 w.heap.size with h | h
        · exact h
        · rw [Array.getElem?_eq_none h] at this; cases this
      rw [Array.getElem?_push, if_neg (by omega)]; exact this
class Tk {K X : Type} (r : K → X → HP) (b : K) (A : List HP) (x : outParam X) (R : outParam (List HP)) : Prop where
  perm : A.Perm (r b x :: R)
instance tk_here {K X : Type} {r : K → X → HP} {b : K} {x : X} {R : List HP} : Tk r b (r b x :: R) x R := ⟨List.Perm.refl _⟩
instance (priority := low) tk_there {K X : Type} {r : K → X → HP} {b : K} {c : HP} {A : List HP} {x : X} {R : List HP} [h : Tk r b A x R] : Tk r b (c :: A) x (c :: R) :=
  ⟨(h.perm.cons c).trans (List.Perm.swap _ _ _)⟩
class Ent (A B : List HP) : Prop where
  out : ∀ l, Sat A l → ∃ l' r, Sat B l' ∧ l.Perm (l' ++ r)
theorem Own.ent {W0 w : World} {A B : List HP} (h : Own W0 w A) (e : Ent A B) : Own W0 w B := by
  obtain ⟨ls, hs, hn, hb⟩ := h.owns
  obtain ⟨l', r, hs', hp⟩ := e.out _ hs
  refine ⟨h.os, h.tape, h.output, h.size, h.base, l', hs', ?_, fun p hm => hb p (hp.mem_iff.2 (List.mem_append_left _ hm))⟩
  have := (hp.map (·.1)).nodup hn
  rw [List.map_append] at this
  exact (List.nodup_append.1 this).1
instance (priority := high) ent_refl {A : List HP} : Ent A A := ⟨fun l h => ⟨l, [], h, by simp⟩⟩
theorem Ent.trans {A B C : List HP} (h : Ent A B) (k : Ent B C) : Ent A C := ⟨fun l hl => by
  obtain ⟨l1, r1, hs1, hp1⟩ := h.out l hl
  obtain ⟨l2, r2, hs2, hp2⟩ := k.out l1 hs1
  exact ⟨l2, r2 ++ r1, hs2, hp1.trans (by rw [← List.append_assoc]; exact hp2.append_right r1)⟩⟩
theorem Ent.ofPerm {A B : List HP} (h : A.Perm B) : Ent A B := ⟨fun l hl => by
  obtain ⟨l', hs, hp⟩ := hl |> Sat.perm h
  exact ⟨l', [], hs, by simpa using hp⟩⟩
theorem Ent.cons {a : HP} {A B : List HP} (h : Ent A B) : Ent (a :: A) (a :: B) := ⟨fun l hl => by
  obtain ⟨l1, l2, rfl, ha, hs⟩ := hl
  obtain ⟨l', r, hs', hp⟩ := h.out l2 hs
  exact ⟨l1 ++ l', r, ⟨l1, l', rfl, ha, hs'⟩, by rw [List.append_assoc]; exact hp.append_left l1⟩⟩
theorem Ent.drop {a : HP} {A : List HP} : Ent (a :: A) A := ⟨fun l hl => by
  obtain ⟨l1, l2, rfl, _, hs⟩ := hl
  exact ⟨l2, l1, hs, List.perm_append_comm⟩⟩
instance ent_take {K X : Type} {r : K → X → HP} {b : K} {x : X} {A R B : List HP} [h : Tk r b A x R] [k : Ent R B] : Ent A (r b x :: B) :=
  (Ent.ofPerm h.perm).trans k.cons
instance (priority := low) ent_drop {a : HP} {A B : List HP} [k : Ent A B] : Ent (a :: A) B := Ent.drop.trans k
def grp (A : List HP) : HP := fun l => Sat A l
theorem Sat.append {A B : List HP} {l : List (Nat × Obj)} : Sat (A ++ B) l ↔ ∃ l1 l2, l = l1 ++ l2 ∧ Sat A l1 ∧ Sat B l2 := by
  induction A generalizing l with
  | nil => exact ⟨fun h => ⟨[], l, rfl, rfl, h⟩, by rintro ⟨l1, l2, rfl, rfl, h⟩; exact h⟩
  | cons a A ih =>
    constructor
    · rintro ⟨l1, l2, rfl, ha, hs⟩
      obtain ⟨m1, m2, rfl, h1, h2⟩ := ih.1 hs
      exact ⟨l1 ++ m1, m2, by simp, ⟨l1, m1, rfl, ha, h1⟩, h2⟩
    · rintro ⟨l1, l2, rfl, ⟨m1, m2, rfl, ha, hs⟩, h2⟩
      exact ⟨m1, m2 ++ l2, by simp, ha, ih.2 ⟨m2, l2, rfl, hs, h2⟩⟩
theorem ent_open {A R : List HP} : Ent (grp A :: R) (A ++ R) := ⟨fun l hl => by
  obtain ⟨l1, l2, rfl, ha, hs⟩ := hl
  exact ⟨l1 ++ l2, [], Sat.append.2 ⟨l1, l2, rfl, ha, hs⟩, by simp⟩⟩
theorem ent_shut {A R : List HP} : Ent (A ++ R) (grp A :: R) := ⟨fun l hl => by
  obtain ⟨l1, l2, rfl, ha, hs⟩ := Sat.append.1 hl
  exact ⟨l1 ++ l2, [], ⟨l1, l2, rfl, ha, hs⟩, by simp⟩⟩
abbrev Env := List (Nat × Value)
def get? : Env → Nat → Option Value
  | [], _ => none
  | (t, v) :: r, u => match Nat.beq t u with | true => some v | false => get? r u
def ev (e : Env) : Operand → Option Value
  | .tmp t => get? e t
  | .const v => some v
  | .global g => some (.pointer (some ⟨g, 0, none⟩))
  | .func f => some (.func (.func f) #[] #[])
def evs (e : Env) : List Operand → Option (List Value)
  | [] => some []
  | x :: xs => match ev e x with
    | some v => match evs e xs with
      | some vs => some (v :: vs)
      | none => none
    | none => none
structure FSz where
  n : Nat
  ds : List Deferred
structure Fr (a : Act) (N : FSz) (e : Env) : Prop where
  defers : a.defers = N.ds
  size : a.tmps.size = N.n
  at_ : ∀ t v, get? e t = some v → a.tmps[t]? = some v
theorem Fr.eval {a : Act} {N : FSz} {e : Env} (h : Fr a N e) {x : Operand} {v : Value} (hx : ev e x = some v) : a.eval x = v := by
  cases x with
  | tmp t => simp [Act.eval, Array.getD_eq_getD_getElem?, h.at_ t v hx]
  | const c => exact Option.some.inj hx
  | global g => exact Option.some.inj hx
  | func f => exact Option.some.inj hx
theorem Fr.evals {a : Act} {N : FSz} {e : Env} (h : Fr a N e) : ∀ {xs : List Operand} {vs : List Value}, evs e xs = some vs → xs.map a.eval = vs
  | [], vs, hx => by simp [evs] at hx; simp [hx]
  | x :: xs, vs, hx => by
    unfold evs at hx
    cases hv : ev e x with
    | none => rw [hv] at hx; cases hx
    | some v =>
      rw [hv] at hx
      cases hvs : evs e xs with
      | none => simp only [hvs] at hx; cases hx
      | some vs' =>
        simp only [hvs, Option.some.injEq] at hx
        subst hx
        simp [h.eval hv, h.evals hvs]
theorem get?_cons_self {e : Env} {t : Nat} {v : Value} : get? ((t, v) :: e) t = some v := by simp [get?]
theorem get?_cons_ne {e : Env} {t u : Nat} {v : Value} (h : t ≠ u) : get? ((t, v) :: e) u = get? e u := by
  have : Nat.beq t u = false := by
    cases hb : Nat.beq t u with
    | false => rfl
    | true => exact absurd (Nat.eq_of_beq_eq_true hb) h
  simp [get?, this]
theorem Fr.put {a : Act} {N : FSz} {e : Env} (h : Fr a N e) {d : Nat} (hd : d < N.n) (v : Value) : Fr (a.put (some d) v) N ((d, v) :: e) := by
  refine ⟨h.defers, by simp [Act.put, h.size], fun t u hu => ?_⟩
  show (a.tmps.setIfInBounds d v)[t]? = some u
  by_cases e' : d = t
  · subst e'
    rw [get?_cons_self] at hu
    have hd' : d < a.tmps.size := by rw [h.size]; exact hd
    simp [hd', Option.some.inj hu]
  · rw [get?_cons_ne e'] at hu
    rw [Array.getElem?_setIfInBounds, if_neg e']
    exact h.at_ t u hu
def Sub (e e' : Env) : Prop := ∀ t v, get? e' t = some v → get? e t = some v
theorem Fr.sub {a : Act} {N : FSz} {e e' : Env} (h : Fr a N e) (s : Sub e e') : Fr a N e' := ⟨h.defers, h.size, fun t v hv => h.at_ t v (s t v hv)⟩
theorem sub_nil {e : Env} : Sub e [] := fun _ _ h => nomatch h
theorem sub_cons {e e' : Env} {t : Nat} {v : Value} (h : get? e t = some v) (k : Sub e e') : Sub e ((t, v) :: e') := fun u x hx => by
  by_cases c : t = u
  · subst c; rw [get?_cons_self] at hx; rw [h]; exact hx
  · rw [get?_cons_ne c] at hx; exact k u x hx
theorem sub_refl {e : Env} : Sub e e := fun _ _ h => h
def Run (W0 : World) (N : FSz) (K : Act → World → Prop) (e : Env) (A : List HP) : Prop := ∀ a w, Fr a N e → Own W0 w A → K a w
def Ex (Q : Exit → Act → World → Prop) (x : Exit) : Act → World → Prop := fun a w => Q x a w
def Spec (P : Program) (W0 : World) (f : FuncId) (args : List Value) (A : List HP) (Post : Value → List HP → Prop) : Prop :=
  ∀ w, Own W0 w A → Calls P f args.toArray w fun e w' => ∃ v B, e = .returned v ∧ Post v B ∧ Own W0 w' B
section
variable {W0 : World} {N : FSz} {K K' : Act → World → Prop} {e e' : Env} {A B : List HP}
theorem run_ent (h : Ent A B) (r : Run W0 N K e B) : Run W0 N K e A := fun a w hF hO => r a w hF (hO.ent h)
theorem run_perm (h : A.Perm B) (r : Run W0 N K e B) : Run W0 N K e A := fun a w hF hO => r a w hF (hO.perm h)
end
def FW (rd : Option Nat) : Fence := { Fence.wide with round := rd }
def _root_.Go.Code.wpR (c : Code) (rd : Option Nat) (P : Program) (Q : Exit → Act → World → Prop) (a : Act) (w : World) : Prop := c.wpIn (FW rd) 0 P Q a w
theorem wpR_wide {P : Program} {c : Code} {Q : Exit → Act → World → Prop} {a : Act} {w : World} : c.wpR none P Q a w ↔ c.wp P Q a w := wpIn_wide
theorem callsR {rd : Option Nat} {n : Nat} {P : Program} {f : FuncId} {args : Array Value} {w : World} {R : Ending → World → Prop} : CallsIn (FW rd) n P f args w R ↔ Calls P f args w R :=
  callsIn_wide (n := n)
theorem stepsR {rd : Option Nat} {P : Program} {m m' : Machine} : StepsIn (Machine.fenced P (FW rd)) P m m' ↔ Steps P m m' := stepsIn_wide
theorem upon_in {rd : Option Nat} {P : Program} {o : Oper} {a : Act} {K K' : Act → World → Prop} {Q : Exit → Act → World → Prop} (hk : ∀ a w, K a w → K' a w) :
    ∀ {r : Result Next}, o.upon P a K Q r → o.uponIn (FW rd) 0 P a K' Q r
  | .ok (.value v) w, h => hk _ _ h
  | .ok .skip w, h => hk _ _ h
  | .ok (.defer d) w, h => hk _ _ h
  | .ok (.enter f args) w, h => ⟨fun h => (by cases h), callsR.2 (Calls.mono (show Calls P f args w _ from h) (by
      intro e w' he
      cases e with
      | returned v => exact hk _ _ he
      | panicked c => exact he
      | outgrown => exact he))⟩
  | .ok (.row row args) w, h => ⟨fun h => (by cases h), fun c cs _ => by
      obtain ⟨v, w', h1, h2⟩ := (show Rows P row args w _ from h) c cs
      exact ⟨v, w', hk _ _ h1, stepsR.2 h2⟩⟩
  | .halt (.panic v) w, h => h
theorem uponIn_mono {rd : Option Nat} {P : Program} {o : Oper} {a : Act} {K K' : Act → World → Prop} {Q : Exit → Act → World → Prop} (hk : ∀ a w, K a w → K' a w) :
    ∀ {r : Result Next}, o.uponIn (FW rd) 0 P a K Q r → o.uponIn (FW rd) 0 P a K' Q r
  | .ok (.value v) w, h => hk _ _ h
  | .ok .skip w, h => hk _ _ h
  | .ok (.defer d) w, h => hk _ _ h
  | .ok (.enter f args) w, h => ⟨h.1, CallsIn.mono h.2 (by
      intro e w' he
      cases e with
      | returned v => exact hk _ _ he
      | panicked c => exact he
      | outgrown => exact he)⟩
  | .ok (.row row args) w, h => ⟨h.1, RowsIn.mono h.2 (fun v w' he => hk _ _ he)⟩
  | .ok (.round l f tmps assign body) w, h => ⟨h.1, RoundIn.mono h.2 (by
      intro e w' he
      cases e with
      | returned v => exact hk _ _ he
      | panicked c => exact he
      | outgrown => exact he)⟩
  | .halt (.panic v) w, h => h
def wpL (rd : Option Nat) (P : Program) (ops : Array Oper) (Q : Exit → Act → World → Prop) : List Oper → Act → World → Prop
  | [], a, w => Q .normal a w
  | o :: rest, a, w =>
    if Region.wanted o (yielded ops a.tmps) then o.wp P a w (wpL rd P ops Q rest) Q ∨ o.wpIn (FW rd) 0 P a w (wpL rd P ops Q rest) Q
    else wpL rd P ops Q rest (a.put o.dst undef) w
def opPlain (o : Oper) : Bool := match o.op with | .defer _ => false | _ => true
theorem opPlain_spec {o : Oper} (h : opPlain o = true) : ∀ c, o.op ≠ .defer c := fun c hc => by simp [opPlain, hc] at h
def plainR (rd : Option Nat) (ops : List Oper) : Bool := rd.isNone || ops.all opPlain
theorem wpOps_drop {rd : Option Nat} {P : Program} {ops : Array Oper} {Q : Exit → Act → World → Prop} (hp : plainR rd ops.toList = true) : ∀ (n i : Nat), i + n = ops.size → ∀ a w, wpL rd P ops Q (ops.toList.drop i) a w →
    wpOpsIn (FW rd) 0 P ops Q (List.range' i n) a w
  | 0, i, h, a, w, hw => by
    have : ops.toList.drop i = [] := by rw [List.drop_eq_nil_iff]; simp; omega
    rw [this] at hw; exact hw
  | n + 1, i, h, a, w, hw => by
    have hi : i < ops.size := by omega
    have e1 : ops.toList.drop i = ops[i] :: ops.toList.drop (i + 1) := by
      rw [List.drop_eq_getElem_cons (by simpa using hi)]; simp
    rw [e1] at hw
    rw [List.range'_succ]
    have ih := wpOps_drop (rd := rd) (P := P) (Q := Q) hp n (i + 1) (by omega)
    simp only [wpOpsIn, Array.getElem?_eq_getElem hi]
    simp only [wpL] at hw
    split at hw
    · rename_i hwant
      rw [if_pos hwant]
      rcases hw with hw | hw
      · have hsem : (ops[i]).semAt (FW rd).round a.eval = execOp a.eval ops[i] := by
          cases rd with
          | none => rfl
          | some l =>
            refine Oper.semAt_eq _ _ _ (opPlain_spec ?_)
            simp only [plainR, Option.isNone_some, Bool.false_or, List.all_eq_true] at hp
            exact hp _ (by simp)
        refine ⟨fun _ _ => trivial, ?_⟩
        rw [hsem]
        exact upon_in ih hw
      · exact ⟨hw.1, uponIn_mono ih hw.2⟩
    · rename_i hwant
      rw [if_neg hwant]
      exact ⟨fun _ _ => trivial, ih _ _ hw⟩
theorem wp_region_list {rd : Option Nat} {P : Program} {id : Nat} {ops : Array Oper} {Q : Exit → Act → World → Prop} {a : Act} {w : World} (hp : plainR rd ops.toList = true)
    (h : wpL rd P ops Q ops.toList a w) : (Code.region id ops false).wpR rd P Q a w := by
  refine wpIn_region ?_
  rw [List.range_eq_range']
  exact wpOps_drop hp ops.size 0 (by omega) a w (by simpa using h)
section control
variable {rd : Option Nat} {P : Program} {W0 : World} {N : FSz} {Q Q' : Exit → Act → World → Prop} {e e' : Env} {A B : List HP}
theorem x_region {id : Nat} {ops : Array Oper} (h : Run W0 N (wpL rd P ops Q ops.toList) e A) (hp : plainR rd ops.toList = true := by rfl) : Run W0 N ((Code.region id ops false).wpR rd P Q) e A :=
  fun a w hF hO => wp_region_list hp (h a w hF hO)
theorem x_seq {x y : Code} (h : Run W0 N (x.wpR rd P (Exit.then (y.wpR rd P Q) Q)) e A) : Run W0 N ((Code.seq x y).wpR rd P Q) e A := fun a w hF hO => wpIn_seq (h a w hF hO)
theorem x_skip (h : Run W0 N (Ex Q .normal) e A) : Run W0 N (Code.skip.wpR rd P Q) e A := fun a w hF hO => wpIn_skip (h a w hF hO)
theorem x_ret (h : Run W0 N (Ex Q .ret) e A) : Run W0 N (Code.ret.wpR rd P Q) e A := fun a w hF hO => wpIn_ret (h a w hF hO)
theorem x_exit {id : Nat} (h : Run W0 N (Ex Q (.exit id)) e A) : Run W0 N ((Code.exit id).wpR rd P Q) e A := fun a w hF hO => wpIn_exit (h a w hF hO)
theorem x_block {id : Nat} {c : Code} (h : Run W0 N (c.wpR rd P (Exit.inBlock id Q)) e A) : Run W0 N ((Code.block id c).wpR rd P Q) e A := fun a w hF hO => wpIn_block (h a w hF hO)
theorem x_label {l : Nat} (h : Run W0 N (Ex Q .normal) e A) : Run W0 N ((Code.label l).wpR rd P Q) e A := fun a w hF hO => wpIn_label (h a w hF hO)
theorem x_nil {ops : Array Oper} (h : Run W0 N (Ex Q .normal) e A) : Run W0 N (wpL rd P ops Q []) e A := fun a w hF hO => h a w hF hO
theorem x_cond {c : Operand} {x y : Code} {t : Nat} {b : Bool} (hc : c = .tmp t) (hv : get? e t = some (.bool b))
    (ht : b = true → Run W0 N (x.wpR rd P Q) ((t, .bool true) :: e) A) (hf : b = false → Run W0 N (y.wpR rd P Q) ((t, .bool false) :: e) A) : Run W0 N ((Code.cond c x y).wpR rd P Q) e A := by
  intro a w hF hO
  subst hc
  have hs : ∀ b', b = b' → Sub e ((t, .bool b') :: e) := fun b' hb => sub_cons (hb ▸ hv) sub_refl
  cases hb : b with
  | true => exact wpIn_cond_true (hF.eval (x := .tmp t) (hb ▸ hv)) (ht hb a w (hF.sub (hs _ hb)) hO)
  | false => exact wpIn_cond_false (hF.eval (x := .tmp t) (hb ▸ hv)) (hf hb a w (hF.sub (hs _ hb)) hO)
-- ways out
theorem n_then {n : Act → World → Prop} (h : Run W0 N n e A) : Run W0 N (Ex (Exit.then n Q) .normal) e A := h
theorem n_block {id : Nat} (h : Run W0 N (Ex Q .normal) e A) : Run W0 N (Ex (Exit.inBlock id Q) .normal) e A := h
theorem e_then {n : Act → World → Prop} {id : Nat} (h : Run W0 N (Ex Q (.exit id)) e A) : Run W0 N (Ex (Exit.then n Q) (.exit id)) e A := h
theorem e_block {id : Nat} (h : Run W0 N (Ex Q .normal) e A) : Run W0 N (Ex (Exit.inBlock id Q) (.exit id)) e A := fun a w hF hO => by
  simp only [Ex, Exit.inBlock, if_true]; exact h a w hF hO
theorem e_block_ne {id j : Nat} (hj : Nat.beq j id = false) (h : Run W0 N (Ex Q (.exit j)) e A) : Run W0 N (Ex (Exit.inBlock id Q) (.exit j)) e A := fun a w hF hO => by
  have : j ≠ id := Nat.ne_of_beq_eq_false hj
  simp only [Ex, Exit.inBlock, this, if_false]; exact h a w hF hO
theorem r_then {n : Act → World → Prop} (h : Run W0 N (Ex Q .ret) e A) : Run W0 N (Ex (Exit.then n Q) .ret) e A := h
theorem r_block {id : Nat} (h : Run W0 N (Ex Q .ret) e A) : Run W0 N (Ex (Exit.inBlock id Q) .ret) e A := h
def Inv (W0 : World) (N : FSz) {X : Type} (I : X → Prop) (E : X → Env) (C : X → List HP) (μ : X → Nat) (x : X) : Act → World → Prop :=
  fun a w => ∃ y, I y ∧ μ y < μ x ∧ Fr a N (E y) ∧ Own W0 w (C y)
theorem x_loop {X : Type} (I : X → Prop) (E : X → Env) (C : X → List HP) (μ : X → Nat) (x : X) {c : Code} (hI : I x) (hs : Sub e (E x)) (he : Ent A (C x))
    (hr : ∀ x, I x → Run W0 N (c.wpR rd P (Exit.then (Inv W0 N I E C μ x) Q)) (E x) (C x)) : Run W0 N ((Code.loop c).wpR rd P Q) e A := by
  intro a w hF hO b k cs hro hb hr0
  have key : ∀ n x, μ x = n → I x → ∀ a w, Fr a N (E x) → Own W0 w (C x) →
      ∃ e a' w', Q e a' w' ∧ ArrivesIn (Machine.fenced P (FW rd)) P (lone (b.atR a (.code c :: .inLoop c :: k)) cs w) b k cs e a' w' := by
    intro n
    induction n using Nat.strongRecOn with
    | _ n ih =>
      intro x hn hIx a w hF hO
      obtain ⟨ex, a₁, w₁, hq, harr⟩ := hr x hIx a w hF hO b (.inLoop c :: k) cs hro hb hr0
      cases ex with
      | normal =>
        obtain ⟨y, hIy, hlt, hF₁, hO₁⟩ := hq
        obtain ⟨e₂, a₂, w₂, hq₂, harr₂⟩ := ih (μ y) (hn ▸ hlt) y rfl hIy a₁ w₁ hF₁ hO₁
        exact ⟨e₂, a₂, w₂, hq₂, .of_steps (StepsIn.trans harr (.one (fenced_calm hb hr0 rfl) stepR_inLoop)) harr₂⟩
      | exit id => exact ⟨_, a₁, w₁, hq, .pass (x := .inLoop c) rfl (fun _ _ => .inl (by simp)) harr⟩
      | goto l => exact ⟨_, a₁, w₁, hq, .pass (x := .inLoop c) rfl (fun _ _ => .inl (by simp)) harr⟩
      | ret => exact ⟨_, a₁, w₁, hq, .pass (x := .inLoop c) rfl (fun _ _ => .inl (by simp)) harr⟩
      | panic ch => exact ⟨_, a₁, w₁, hq, .pass (x := .inLoop c) rfl (fun _ _ => .inl (by simp)) harr⟩
      | outgrown => exact ⟨_, a₁, w₁, hq, .pass (x := .inLoop c) rfl (fun _ _ => .inl (by simp)) harr⟩
  obtain ⟨e, a', w', hq, harr⟩ := key _ x rfl hI a w (hF.sub hs) (hO.ent he)
  exact ⟨e, a', w', hq, .of_steps (.one (fenced_calm hb hr0 rfl) stepR_loop) harr⟩
theorem inv_intro {X : Type} {I : X → Prop} {E : X → Env} {C : X → List HP} {μ : X → Nat} {x : X} (y : X) (hI : I y) (hμ : μ y < μ x) (hs : Sub e (E y)) (he : Ent A (C y)) : Run W0 N (Inv W0 N I E C μ x) e A :=
  fun _ _ hF hO => ⟨y, hI, hμ, hF.sub hs, hO.ent he⟩
def Mid (W0 : World) (N : FSz) {X : Type} (I : X → Prop) (E : X → Env) (C : X → List HP) : Act → World → Prop := fun a w => ∃ y, I y ∧ Fr a N (E y) ∧ Own W0 w (C y)
theorem x_cut {X : Type} (I : X → Prop) (E : X → Env) (C : X → List HP) {x y : Code} (h1 : Run W0 N (x.wpR rd P (Exit.then (Mid W0 N I E C) Q)) e A)
    (h2 : ∀ z, I z → Run W0 N (y.wpR rd P Q) (E z) (C z)) : Run W0 N ((Code.seq x y).wpR rd P Q) e A := fun a w hF hO => by
  refine wpIn_seq (wpIn_mono (h1 a w hF hO) ?_)
  intro ex a' w' hq
  cases ex with
  | normal =>
    obtain ⟨z, hz, hF', hO'⟩ := hq
    exact h2 z hz a' w' hF' hO'
  | exit id => exact hq
  | goto l => exact hq
  | ret => exact hq
  | panic ch => exact hq
  | outgrown => exact hq
theorem mid_intro {X : Type} {I : X → Prop} {E : X → Env} {C : X → List HP} (y : X) (hI : I y) (hs : Sub e (E y)) (he : Ent A (C y)) : Run W0 N (Mid W0 N I E C) e A :=
  fun _ _ hF hO => ⟨y, hI, hF.sub hs, hO.ent he⟩
end control
end Go.Proofs.YtnidndllknffgaaGreat
namespace Go.Proofs.YtnidndllknffgaaGreat
open Go.RowKit
def OwnP (W0 : World) (A : List HP) : World → Prop := fun w => Own W0 w A
def Val (P : Program) (S : World → Prop) (N : FSz) (e : Env) (op : Op) (v : Value) : Prop :=
  ∀ a w dst ty pos af g, Fr a N e → S w → (execOp a.eval { dst := dst, op := op, type := ty, pos := pos, after := af, guard := g }).run P w = .ok (.value v) w
section
variable {rd : Option Nat} {P : Program} {W0 : World} {N : FSz} {Q : Exit → Act → World → Prop} {e : Env} {A : List HP} {ops : Array Oper} {rest : List Oper}
variable {op : Op} {ty : TypeId} {pos : String} {af : Array Edge} {v : Value} {d : Nat}
theorem wanted_none {dst : Option Tmp} {y : Nat → Option Bool} : Region.wanted { dst := dst, op := op, type := ty, pos := pos, after := af, guard := none } y = true := rfl
theorem s_val (hd : Nat.blt d N.n = true) (hv : Val P (OwnP W0 A) N e op v) (k : Run W0 N (wpL rd P ops Q rest) ((d, v) :: e) A) :
    Run W0 N (wpL rd P ops Q ({ dst := some d, op := op, type := ty, pos := pos, after := af, guard := none } :: rest)) e A := by
  intro a w hF hO
  simp only [wpL, wanted_none, if_true]
  refine .inl ?_
  unfold Oper.wp
  rw [hv a w _ _ _ _ _ hF hO]
  exact k _ _ (hF.put (Nat.lt_of_lt_of_le (Nat.lt_of_succ_le (Nat.le_of_ble_eq_true hd)) (Nat.le_refl _)) v) hO
def gtmp (ops : Array Oper) (j : Nat) : Option Nat := (ops[j]?).bind (·.dst)
theorem yielded_of {ops : Array Oper} {j t : Nat} {b : Bool} {a : Act} (ht : gtmp ops j = some t) (hv : a.tmps[t]? = some (.bool b)) : yielded ops a.tmps j = some b := by
  unfold gtmp at ht
  simp only [yielded]
  cases hj : ops[j]? with
  | none => rw [hj] at ht; cases ht
  | some o =>
    rw [hj] at ht
    simp only [Option.bind_some] at ht
    simp only [Option.bind_some, ht, hv]
theorem s_guard {j t : Nat} {want b : Bool} {dst : Option Tmp} (ht : gtmp ops j = some t) (hv : get? e t = some (.bool b)) (hd : (match dst with | some d => Nat.blt d N.n | none => true) = true)
    (h1 : b = want → Run W0 N (wpL rd P ops Q ({ dst := dst, op := op, type := ty, pos := pos, after := af, guard := none } :: rest)) ((t, .bool want) :: e) A)
    (h2 : b = !want → Run W0 N (wpL rd P ops Q rest) (match dst with | some d => (d, undef) :: (t, .bool !want) :: e | none => (t, .bool !want) :: e) A) :
    Run W0 N (wpL rd P ops Q ({ dst := dst, op := op, type := ty, pos := pos, after := af, guard := some (j, want) } :: rest)) e A := by
  intro a w hF hO
  have hy := yielded_of ht (hF.at_ t _ hv)
  by_cases hb : b = want
  · have h := h1 hb a w (hF.sub (sub_cons (hb ▸ hv) sub_refl)) hO
    simp only [wpL, wanted_none, if_true] at h
    have hw : Region.wanted { dst := dst, op := op, type := ty, pos := pos, after := af, guard := some (j, want) } (yielded ops a.tmps) = true := by
      simp [Region.wanted, hy, hb]
    simp only [wpL, hw, if_true]
    exact h
  · have hb' : b = !want := by cases b <;> cases want <;> simp_all
    have hw : Region.wanted { dst := dst, op := op, type := ty, pos := pos, after := af, guard := some (j, want) } (yielded ops a.tmps) = false := by
      simp [Region.wanted, hy, hb']
    simp only [wpL, hw, Bool.false_eq_true, if_false]
    have hF' := hF.sub (sub_cons (t := t) (v := .bool !want) (hb' ▸ hv) sub_refl)
    cases dst with
    | none => exact h2 hb' a w hF' hO
    | some d => exact h2 hb' _ w (hF'.put (Nat.lt_of_succ_le (Nat.le_of_ble_eq_true hd)) undef) hO
theorem s_yes {j t : Nat} {want : Bool} {dst : Option Tmp} (ht : gtmp ops j = some t) (hv : get? e t = some (.bool want))
    (h : Run W0 N (wpL rd P ops Q ({ dst := dst, op := op, type := ty, pos := pos, after := af, guard := none } :: rest)) e A) :
    Run W0 N (wpL rd P ops Q ({ dst := dst, op := op, type := ty, pos := pos, after := af, guard := some (j, want) } :: rest)) e A := by
  intro a w hF hO
  have hy := yielded_of ht (hF.at_ t _ hv)
  have h := h a w hF hO
  simp only [wpL, wanted_none, if_true] at h
  have hw : Region.wanted { dst := dst, op := op, type := ty, pos := pos, after := af, guard := some (j, want) } (yielded ops a.tmps) = true := by
    simp [Region.wanted, hy]
  simp only [wpL, hw, if_true]
  exact h
theorem s_nou {j t : Nat} {want : Bool} (ht : gtmp ops j = some t) (hv : get? e t = some undef) (hd : Nat.blt d N.n = true)
    (h : Run W0 N (wpL rd P ops Q rest) ((d, undef) :: e) A) :
    Run W0 N (wpL rd P ops Q ({ dst := some d, op := op, type := ty, pos := pos, after := af, guard := some (j, want) } :: rest)) e A := by
  intro a w hF hO
  have hy : yielded ops a.tmps j = none := by
    have hv' := hF.at_ t _ hv
    unfold gtmp at ht
    simp only [yielded]
    cases hj : ops[j]? with
    | none => rw [hj] at ht; cases ht
    | some o =>
      rw [hj] at ht
      simp only [Option.bind_some] at ht
      simp only [Option.bind_some, ht, hv']
      rfl
  have hw : Region.wanted { dst := some d, op := op, type := ty, pos := pos, after := af, guard := some (j, want) } (yielded ops a.tmps) = false := by
    simp [Region.wanted, hy]
  simp only [wpL, hw, Bool.false_eq_true, if_false]
  exact h _ w (hF.put (Nat.lt_of_succ_le (Nat.le_of_ble_eq_true hd)) undef) hO
theorem s_no {j t : Nat} {want b : Bool} (ht : gtmp ops j = some t) (hv : get? e t = some (.bool b)) (hb : Bool.xor b want = true) (hd : Nat.blt d N.n = true)
    (h : Run W0 N (wpL rd P ops Q rest) ((d, undef) :: e) A) :
    Run W0 N (wpL rd P ops Q ({ dst := some d, op := op, type := ty, pos := pos, after := af, guard := some (j, want) } :: rest)) e A := by
  intro a w hF hO
  have hy := yielded_of ht (hF.at_ t _ hv)
  have hw : Region.wanted { dst := some d, op := op, type := ty, pos := pos, after := af, guard := some (j, want) } (yielded ops a.tmps) = false := by
    cases b <;> cases want <;> simp_all [Region.wanted]
  simp only [wpL, hw, Bool.false_eq_true, if_false]
  exact h _ w (hF.put (Nat.lt_of_succ_le (Nat.le_of_ble_eq_true hd)) undef) hO
end
section
variable {rd : Option Nat} {P : Program} {S : World → Prop} {N : FSz} {e : Env} {x y c : Operand} {v u : Value} {t t' : TypeId} {k k' : IntKind} {m n r : Int}
theorem v_move (h : ev e x = some v) : Val P S N e (.move x) v := fun a w _ _ _ _ _ hF _ => by
  rw [← hF.eval h]; rfl
theorem v_assign (h : ev e x = some v) : Val P S N e (.assign x) v := fun a w _ _ _ _ _ hF _ => by
  rw [← hF.eval h]; rfl
theorem v_pick_t (hc : ev e c = some (.bool true)) (h : ev e x = some v) : Val P S N e (.pick c x y) v := fun a w _ _ _ _ _ hF _ => by
  simp [execOp, hF.eval hc, hF.eval h, asBool]
theorem v_pick_f (hc : ev e c = some (.bool false)) (h : ev e y = some v) : Val P S N e (.pick c x y) v := fun a w _ _ _ _ _ hF _ => by
  simp [execOp, hF.eval hc, hF.eval h, asBool]
theorem binVal {op : BinOp} (hx : ev e x = some u) (hy : ev e y = some v) {r : Value} (hg : ∀ w x y, (eqGuard op t x y u v).run P w = .ok () w)
    (h : ∀ w, (binOp op t u v).run P w = .ok r w) : Val P S N e (.binOp op t x y t') r := fun a w _ _ _ _ _ hF _ => by
  simp only [execOp, hF.eval hx, hF.eval hy, Sem.run_bind, hg, Result.andThen_ok, h, Sem.run_pure]
theorem eqGuard_int {op : BinOp} (w : World) (x y : Operand) : (eqGuard op t x y (.int k m) (.int k' n)).run P w = .ok () w := by
  cases op <;> simp [eqGuard]
theorem eqGuard_bool {op : BinOp} {p q : Bool} (w : World) (x y : Operand) : (eqGuard op t x y (.bool p) (.bool q)).run P w = .ok () w := by
  cases op <;> simp [eqGuard]
theorem eqGuard_ptr {op : BinOp} {p q : Option Addr} (w : World) (x y : Operand) : (eqGuard op t x y (.pointer p) (.pointer q)).run P w = .ok () w := by
  cases op <;> simp [eqGuard]
theorem v_add (hx : ev e x = some (.int k m)) (hy : ev e y = some (.int k n)) (hw : k.wrap (m + n) = r) : Val P S N e (.binOp .add t x y t') (.int k r) :=
  binVal hx hy eqGuard_int fun w => by simp [binOp, Op.intArith, hw]
theorem v_sub (hx : ev e x = some (.int k m)) (hy : ev e y = some (.int k n)) (hw : k.wrap (m - n) = r) : Val P S N e (.binOp .sub t x y t') (.int k r) :=
  binVal hx hy eqGuard_int fun w => by simp [binOp, Op.intArith, hw]
theorem v_mul (hx : ev e x = some (.int k m)) (hy : ev e y = some (.int k n)) (hw : k.wrap (m * n) = r) : Val P S N e (.binOp .mul t x y t') (.int k r) :=
  binVal hx hy eqGuard_int fun w => by simp [binOp, Op.intArith, hw]
theorem v_quo (hx : ev e x = some (.int k m)) (hy : ev e y = some (.int k n)) (hn : n ≠ 0) (hw : k.wrap (m.tdiv n) = r) : Val P S N e (.binOp .quo t x y t') (.int k r) :=
  binVal hx hy eqGuard_int fun w => by simp [binOp, Op.intDiv, hw, hn]
def bAnd (k : IntKind) (m n : Int) : Int := k.wrap (BitVec.ofInt k.bits m &&& BitVec.ofInt k.bits n).toNat
def bAndNot (k : IntKind) (m n : Int) : Int := k.wrap (BitVec.ofInt k.bits m &&& ~~~ BitVec.ofInt k.bits n).toNat
theorem v_and (hx : ev e x = some (.int k m)) (hy : ev e y = some (.int k n)) (hw : bAnd k m n = r) : Val P S N e (.binOp .and t x y t') (.int k r) :=
  binVal hx hy eqGuard_int fun w => by rw [← hw]; simp [binOp, Op.intBits, bAnd]
theorem v_andNot (hx : ev e x = some (.int k m)) (hy : ev e y = some (.int k n)) (hw : bAndNot k m n = r) : Val P S N e (.binOp .andNot t x y t') (.int k r) :=
  binVal hx hy eqGuard_int fun w => by rw [← hw]; simp [binOp, Op.intBits, bAndNot]
def bShl (k : IntKind) (m n : Int) : Int := k.wrap (m * 2 ^ (min n.toNat k.bits))
def bShr (k : IntKind) (m n : Int) : Int := m.fdiv (2 ^ (min n.toNat k.bits))
theorem v_shl (hx : ev e x = some (.int k m)) (hy : ev e y = some (.int k' n)) (hn : 0 ≤ n) (hw : bShl k m n = r) : Val P S N e (.binOp .shl t x y t') (.int k r) :=
  binVal hx hy eqGuard_int fun w => by
    have : ¬ n < 0 := by omega
    rw [← hw]; simp [binOp, Op.shift, this, bShl]
theorem v_shr (hx : ev e x = some (.int k m)) (hy : ev e y = some (.int k' n)) (hn : 0 ≤ n) (hw : bShr k m n = r) : Val P S N e (.binOp .shr t x y t') (.int k r) :=
  binVal hx hy eqGuard_int fun w => by
    have : ¬ n < 0 := by omega
    rw [← hw]; simp [binOp, Op.shift, this, bShr]
theorem v_eql (hx : ev e x = some (.int k m)) (hy : ev e y = some (.int k n)) : Val P S N e (.binOp .eql t x y t') (.bool (m == n)) :=
  binVal hx hy eqGuard_int fun w => by simp [binOp, Op.intCmp]
theorem v_neq (hx : ev e x = some (.int k m)) (hy : ev e y = some (.int k n)) : Val P S N e (.binOp .neq t x y t') (.bool (m != n)) :=
  binVal hx hy eqGuard_int fun w => by simp [binOp, Op.intCmp]
theorem v_lss (hx : ev e x = some (.int k m)) (hy : ev e y = some (.int k n)) : Val P S N e (.binOp .lss t x y t') (.bool (decide (m < n))) :=
  binVal hx hy eqGuard_int fun w => by simp [binOp, Op.intCmp]
theorem v_leq (hx : ev e x = some (.int k m)) (hy : ev e y = some (.int k n)) : Val P S N e (.binOp .leq t x y t') (.bool (decide (m ≤ n))) :=
  binVal hx hy eqGuard_int fun w => by simp [binOp, Op.intCmp]
theorem v_gtr (hx : ev e x = some (.int k m)) (hy : ev e y = some (.int k n)) : Val P S N e (.binOp .gtr t x y t') (.bool (decide (n < m))) :=
  binVal hx hy eqGuard_int fun w => by simp [binOp, Op.intCmp]
theorem v_geq (hx : ev e x = some (.int k m)) (hy : ev e y = some (.int k n)) : Val P S N e (.binOp .geq t x y t') (.bool (decide (n ≤ m))) :=
  binVal hx hy eqGuard_int fun w => by simp [binOp, Op.intCmp]
theorem run_und {d : TypeDesc} (h : P.underlying t = some d) (w : World) : (underlying t).run P w = .ok d w := by
  simp [underlying, h]
def EqN (P : Program) (n : Nat) (t : TypeId) (u v : Value) (b : Bool) : Prop := ∀ d w, (Op.equalIn (d + n) t u v).run P w = .ok b w
theorem run_eql {u v : Value} {b : Bool} (hb : binOp .eql t u v = (do pure (.bool (← Op.equal t u v)))) (h : EqN P 9 t u v b) (w : World) : (binOp .eql t u v).run P w = .ok (.bool b) w := by
  rw [hb]
  have := h 9991 w
  show ((Op.equalIn (9991 + 9) t u v) >>= _).run P w = _
  rw [Sem.run_bind, this]; rfl
theorem run_neq {u v : Value} {b : Bool} (hb : binOp .neq t u v = (do pure (.bool (!(← Op.equal t u v))))) (h : EqN P 9 t u v b) (w : World) : (binOp .neq t u v).run P w = .ok (.bool (!b)) w := by
  rw [hb]
  have := h 9991 w
  show ((Op.equalIn (9991 + 9) t u v) >>= _).run P w = _
  rw [Sem.run_bind, this]; rfl
theorem q_bool {p q : Bool} {z : Nat} (hu : P.underlying t = some .bool) : EqN P (z + 1) t (.bool p) (.bool q) (p == q) := fun d w => run_equalIn_bool' w (d + z) t p q hu
theorem q_int {z : Nat} (hu : P.underlying t = some (.int k')) : EqN P (z + 1) t (.int k m) (.int k n) (m == n) := fun d w => run_equalIn_int w (d + z) t k k' m n hu
theorem v_neq_bool {p q : Bool} (hu : P.underlying t = some .bool) (hx : ev e x = some (.bool p)) (hy : ev e y = some (.bool q)) : Val P S N e (.binOp .neq t x y t') (.bool (!(p == q))) :=
  binVal hx hy eqGuard_bool (run_neq rfl (q_bool hu))
theorem q_ptr_nil {E : TypeId} {p : Option Addr} {z : Nat} (hu : P.underlying t = some (.pointer E)) : EqN P (z + 1) t (.pointer p) (.pointer none) p.isNone := fun d w =>
  run_equalIn_pointer_nil w (d + z) t p (by rw [show P.pointee t = E by simp [Program.pointee, hu]]; exact hu)
theorem v_eql_ptr_nil {E : TypeId} {p : Option Addr} (hu : P.underlying t = some (.pointer E)) (hx : ev e x = some (.pointer p)) (hy : ev e y = some (.pointer none)) : Val P S N e (.binOp .eql t x y t') (.bool p.isNone) :=
  binVal hx hy eqGuard_ptr (run_eql rfl (q_ptr_nil hu))
def EqF (P : Program) (z : Nat) (xs ys : List Value) (fs : List Field) (b : Bool) : Prop := ∀ d w, (Op.eqFields (d + z) xs.toArray ys.toArray fs).run P w = .ok b w
theorem qf_nil {xs ys : List Value} {z : Nat} : EqF P z xs ys [] true := fun d w => by simp [Op.eqFields]
theorem part_scal {l : List Value} {i : Nat} (ha : ∀ w, (isAgg t).run P w = .ok false w) (hi : l[i]? = some v) (w : World) : (part t l.toArray i).run P w = .ok v w := by
  simp [part, ha, hi]
theorem qf_gen {xs ys : List Value} {nm : String} {ft fo : Nat} {em : Bool} {tg pk : String} {bo : Nat} {fs : List Field} {b c : Bool} {z : Nat} (hn : (nm == "_") = false) (hx : ∀ w, (part ft xs.toArray fo).run P w = .ok u w) (hy : ∀ w, (part ft ys.toArray fo).run P w = .ok v w)
    (h : EqN P z ft u v b) (r : EqF P z xs ys fs c) : EqF P z xs ys (⟨nm, ft, fo, em, tg, pk, bo⟩ :: fs) (b && c) := fun d w => by
  have hn' : nm ≠ "_" := by simpa using hn
  simp only [Op.eqFields, hn', ne_eq, not_false_eq_true, if_true, Sem.run_bind, hx, hy, Result.andThen_ok, h d]
  cases b with
  | false => simp
  | true => simp [r d w]
theorem qf_scal {xs ys : List Value} {nm : String} {ft fo : Nat} {em : Bool} {tg pk : String} {bo : Nat} {fs : List Field} {b c : Bool} {z : Nat} (hn : (nm == "_") = false) (ha : ∀ w, (isAgg ft).run P w = .ok false w) (hx : xs[fo]? = some u) (hy : ys[fo]? = some v)
    (h : EqN P z ft u v b) (r : EqF P z xs ys fs c) : EqF P z xs ys (⟨nm, ft, fo, em, tg, pk, bo⟩ :: fs) (b && c) := qf_gen hn (part_scal ha hx) (part_scal ha hy) h r
theorem q_struct {xs ys : List Value} {fs : Array Field} {b : Bool} {z : Nat} (hu : P.underlying t = some (.struct fs)) (hp : P.stoodInHeld t = false) (h : EqF P z xs ys fs.toList b) : EqN P (z + 1) t (.agg xs.toArray) (.agg ys.toArray) b := fun d w => by
  have hf : P.fieldsOf t = fs := by simp [Program.fieldsOf, hu]
  rw [← Nat.add_assoc, run_equalIn_struct w (d + z) t _ _ (by rw [hf]; exact hu) hp, hf]
  exact h d w
theorem eqGuard_agg {op : BinOp} {xs ys : Array Value} (hg : P.eqGuardType P.depth t = false) (w : World) (x y : Operand) : (eqGuard op t x y (.agg xs) (.agg ys)).run P w = .ok () w := by
  cases op <;> simp [eqGuard, hg]
theorem v_neq_agg {xs ys : List Value} {b : Bool} (hg : P.eqGuardType P.depth t = false) (hx : ev e x = some (.agg xs.toArray)) (hy : ev e y = some (.agg ys.toArray)) (h : EqN P 9 t (.agg xs.toArray) (.agg ys.toArray) b) : Val P S N e (.binOp .neq t x y t') (.bool (!b)) :=
  binVal hx hy (eqGuard_agg hg) (run_neq rfl h)
theorem v_not {b : Bool} (hx : ev e x = some (.bool b)) : Val P S N e (.unOp .not t x) (.bool (!b)) := fun a w _ _ _ _ _ hF _ => by
  simp [execOp, hF.eval hx, Op.unary]
theorem v_conv {d : TypeDesc} (hs : P.underlying t = some d) (hu : P.underlying t' = some (.int k)) (hx : ev e x = some (.int k' n)) (hw : k.wrap n = r) : Val P S N e (.convert t t' x) (.int k r) := fun a w _ _ _ _ _ hF _ => by
  rw [← hw]; simp [execOp, hF.eval hx, convert, run_und hs, run_und hu, Conv.intToInt]
theorem v_extract {l : List Value} {i : Nat} (hx : ev e x = some (.tuple l.toArray)) (hi : l[i]? = some v) : Val P S N e (.extract x i) v := fun a w _ _ _ _ _ hF _ => by
  simp [execOp, hF.eval hx, Instr.extract, hi]
theorem v_nilCheck {a' : Addr} (hx : ev e x = some (.pointer (some a'))) : Val P S N e (.nilCheck x) (.pointer (some a')) := fun a w _ _ _ _ _ hF _ => by
  simp [execOp, hF.eval hx]
theorem v_len_slice {E n c : Nat} {a' : Option Addr} (hu : P.underlying t = some (.slice E)) (hx : ev e x = some (.slice a' n c)) :
    Val P S N e (.call { callee := .builtin .len, args := #[x], argTypes := #[t] }) (.int .i64 n) := fun a w _ _ _ _ _ hF _ => by
  simp [execOp, resolve, invoke, builtin, Builtin.len_, hF.eval hx, run_und hu, goInt]
theorem v_fieldAddr {T : TypeId} {fs : Array Field} {nm : String} {ft fo : Nat} {em : Bool} {tg pk : String} {bo i b off off' sz : Nat} (hx : ev e x = some (.pointer (some ⟨b, off, none⟩))) (hu : P.underlying T = some (.struct fs)) (hf : fs.toList[i]? = some ⟨nm, ft, fo, em, tg, pk, bo⟩)
    (hs : ∀ w, (sizeOf ft).run P w = .ok sz w) (hz : Nat.beq sz 0 = false) (ho : off + fo = off') : Val P S N e (.fieldAddr T x i) (.pointer (some ⟨b, off', none⟩)) := fun a w _ _ _ _ _ hF _ => by
  subst ho
  have hz' : sz ≠ 0 := Nat.ne_of_beq_eq_false hz
  have hf' : fs[i]? = some ⟨nm, ft, fo, em, tg, pk, bo⟩ := by simpa using hf
  simp [execOp, Instr.fieldAt, hF.eval hx, run_und hu, hf', Instr.sureAddr, fieldPlace, hs, hz', Addr.add]
end
end Go.Proofs.YtnidndllknffgaaGreat
namespace Go.Proofs.YtnidndllknffgaaGreat
open Go.RowKit
class SetL (l : List Value) (i : Nat) (v : Value) (l' : outParam (List Value)) : Prop where
  eq : l.set i v = l'
instance setL_zero {x v : Value} {l : List Value} : SetL (x :: l) 0 v (v :: l) := ⟨rfl⟩
instance setL_succ {x v : Value} {l l' : List Value} {i : Nat} [h : SetL l i v l'] : SetL (x :: l) (i + 1) v (x :: l') := ⟨by rw [List.set_cons_succ, h.eq]⟩
def setR : List Value → Nat → List Value → List Value
  | l, _, [] => l
  | l, i, v :: vs => setR (l.set i v) (i + 1) vs
theorem setR_length : ∀ (vs l : List Value) (i : Nat), (setR l i vs).length = l.length
  | [], _, _ => rfl
  | v :: vs, l, i => by rw [setR, setR_length vs]; simp
class SetRL (l : List Value) (i : Nat) (vs : List Value) (l' : outParam (List Value)) : Prop where
  eq : setR l i vs = l'
instance setRL_nil {l : List Value} {i : Nat} : SetRL l i [] l := ⟨rfl⟩
instance setRL_cons {l l' l'' vs : List Value} {i : Nat} {v : Value} [h : SetL l i v l'] [k : SetRL l' (i + 1) vs l''] : SetRL l i (v :: vs) l'' := ⟨by rw [setR, h.eq, k.eq]⟩
theorem setR_all : ∀ (vs l p : List Value), vs.length = l.length → setR (p ++ l) p.length vs = p ++ vs
  | [], l, p, h => by
    have : l = [] := List.length_eq_zero_iff.1 h.symm
    subst this; rfl
  | v :: vs, [], p, h => by simp at h
  | v :: vs, x :: l, p, h => by
    rw [setR]
    have e1 : (p ++ x :: l).set p.length v = (p ++ [v]) ++ l := by simp
    rw [e1]
    have := setR_all vs l (p ++ [v]) (by simpa using h)
    simp only [List.length_append, List.length_cons, List.length_nil, Nat.zero_add] at this
    rw [this]; simp
class TakeL (l : List Value) (i n : Nat) (l' : outParam (List Value)) : Prop where
  eq : (l.drop i).take n = l'
instance takeL_nil {l : List Value} : TakeL l 0 0 [] := ⟨by simp⟩
instance takeL_cons {l l' : List Value} {n : Nat} {x : Value} [h : TakeL l 0 n l'] : TakeL (x :: l) 0 (n + 1) (x :: l') := ⟨by have := h.eq; simp at this; simp [this]⟩
instance takeL_drop {l l' : List Value} {i n : Nat} {x : Value} [h : TakeL l i n l'] : TakeL (x :: l) (i + 1) n l' := ⟨by rw [List.drop_succ_cons, h.eq]⟩
section
variable {rd : Option Nat} {P : Program} {S : World → Prop} {W0 : World} {N : FSz} {Q : Exit → Act → World → Prop} {e : Env} {A B R : List HP} {ops : Array Oper} {rest : List Oper}
variable {op : Op} {ty t : TypeId} {pos : String} {af : Array Edge} {v : Value} {d b off : Nat} {x y : Operand} {l l' vs : List Value}
def Cell (S : World → Prop) (b off : Nat) (v : Value) : Prop := ∀ w, S w → w.cell? ⟨b, off, none⟩ = some v
theorem Own.tk {K X : Type} {r : K → X → HP} {w : World} {b : K} {x : X} (h : Own W0 w A) [k : Tk r b A x R] : Own W0 w (r b x :: R) := h.perm k.perm
theorem cell_own [h : Tk pt b A (cob l ty) R] (hv : l[off]? = some v) : Cell (OwnP W0 A) b off v := fun w (hO : Own W0 w A) => by
  have := (hO.tk (r := pt) (b := b)).has.2
  simp [World.cell?, this, hv]
theorem cell_base (h : W0.cell? ⟨b, off, none⟩ = some v) : Cell (OwnP W0 A) b off v := fun w (hO : Own W0 w A) => by
  have hb : b < W0.heap.size := by
    rcases Nat.lt_or_ge b W0.heap.size with k | k
    · exact k
    · simp [World.cell?, Array.getElem?_eq_none k] at h
  rw [← h]; simp [World.cell?, hO.base b hb]
theorem Cell.weak (h : Cell (OwnP W0 B) b off v) [k : Ent A B] : Cell (OwnP W0 A) b off v := fun w (hO : Own W0 w A) => h w (hO.ent k)
def Cells (S : World → Prop) (b off : Nat) (vs : List Value) : Prop := ∀ i v, vs[i]? = some v → Cell S b (off + i) v
theorem cells_own [h : Tk pt b A (cob l ty) R] (hv : (l.drop off).take vs.length = vs) : Cells (OwnP W0 A) b off vs := fun i v hi => by
  refine cell_own ?_
  have hlt : i < vs.length := by
    rcases Nat.lt_or_ge i vs.length with k | k
    · exact k
    · simp [List.getElem?_eq_none k] at hi
  rw [← hv] at hi
  rw [List.getElem?_take_of_lt hlt, List.getElem?_drop] at hi
  exact hi
theorem cells_part [h : Tk pt b A (cob l ty) R] {n : Nat} (hv : (l.drop off).take n = vs) (hn : vs.length = n) : Cells (OwnP W0 A) b off vs := cells_own (by rw [hn]; exact hv)
theorem add_none (n : Nat) : (⟨b, off, none⟩ : Addr).add n = ⟨b, off + n, none⟩ := by
  unfold Addr.add; split
  · rename_i h; subst h; rfl
  · rfl
theorem run_loadCells {w : World} (hc : ∀ i v, vs[i]? = some v → w.cell? ⟨b, off + i, none⟩ = some v) : ∀ (n i : Nat) (acc : Array Value), i + n = vs.length →
    (loadCellsFrom ⟨b, off, none⟩ i n acc).run P w = .ok (acc ++ (vs.drop i).toArray) w
  | 0, i, acc, h => by
    have : vs.drop i = [] := by rw [List.drop_eq_nil_iff]; omega
    simp [loadCellsFrom, this]
  | n + 1, i, acc, h => by
    have hi : i < vs.length := by omega
    have hcell := hc i vs[i] (by simp [hi])
    simp only [loadCellsFrom, Sem.run_bind, run_load, add_none, hcell, Result.andThen_ok]
    rw [run_loadCells hc n (i + 1) _ (by omega)]
    rw [List.drop_eq_getElem_cons hi]
    simp
theorem v_load (ha : ∀ w, (isAgg t).run P w = .ok false w) (hx : ev e x = some (.pointer (some ⟨b, off, none⟩))) (hc : Cell S b off v) : Val P S N e (.load t x) v := fun a w _ _ _ _ _ hF hO => by
  simp [execOp, Instr.loadAt, Instr.sureAddr, hF.eval hx, loadVar, ha, hc w hO]
theorem v_loadAgg {n : Nat} (ha : ∀ w, (isAgg t).run P w = .ok true w) (hs : ∀ w, (sizeOf t).run P w = .ok n w) (hx : ev e x = some (.pointer (some ⟨b, off, none⟩))) (hc : Cells S b off vs) (hn : vs.length = n) :
    Val P S N e (.load t x) (.agg vs.toArray) := fun a w _ _ _ _ _ hF hO => by
  have := run_loadCells (P := P) (w := w) (fun i v hi => hc i v hi w hO) n 0 #[] (by omega)
  simp [execOp, Instr.loadAt, Instr.sureAddr, hF.eval hx, loadVar, ha, hs, loadCells, this]
theorem v_loadAll [h : Tk pt b A (cob l ty) R] {n : Nat} (ha : ∀ w, (isAgg t).run P w = .ok true w) (hs : ∀ w, (sizeOf t).run P w = .ok n w) (hx : ev e x = some (.pointer (some ⟨b, 0, none⟩))) (hn : l.length = n) :
    Val P (OwnP W0 A) N e (.load t x) (.agg l.toArray) :=
  v_loadAgg ha hs hx (cells_own (by simp)) hn
theorem setCell_own {w : World} (h : Own W0 w (pt b (cob l ty) :: R)) (v : Value) : Own W0 (w.setCell ⟨b, off, none⟩ v) (pt b (cob (l.set off v) ty) :: R) := by
  refine h.set rfl rfl rfl (by simp [World.setCell]) ?_ (fun k hk => Below.heap_setCell _ _ _ _ hk)
  have := h.has.2
  simp [World.setCell, Array.getElem?_modify, this, cob]
theorem run_store1 {w : World} (h : Own W0 w (pt b (cob l ty) :: R)) (ho : off < l.length) (h1 : v.oneCell' = true) : (store ⟨b, off, none⟩ v).run P w = .ok () (w.setCell ⟨b, off, none⟩ v) := by
  have hb := h.has.2
  rw [run_store P w _ v _ h1]
  have : w.cell? ⟨b, off, none⟩ = some l[off] := by simp [World.cell?, hb, ho]
  simp [this, World.frozen?, hb]
theorem cells_one (h1 : v.oneCell' = true) : v.cells = #[v] := by cases v <;> first | rfl | cases h1
def Does (P : Program) (W0 : World) (N : FSz) (e : Env) (A : List HP) (op : Op) (Post : Value → List HP → Prop) : Prop :=
  ∀ a w dst ty pos af g (K : Act → World → Prop) (Q : Exit → Act → World → Prop), Fr a N e → Own W0 w A → (∀ v w' B, Post v B → Own W0 w' B → K (a.put dst v) w') →
    Oper.wp P { dst := dst, op := op, type := ty, pos := pos, after := af, guard := g } a w K Q
theorem s_do {Post : Value → List HP → Prop} (hd : Nat.blt d N.n = true) (h : Does P W0 N e A op Post) (k : ∀ v B, Post v B → Run W0 N (wpL rd P ops Q rest) ((d, v) :: e) B) :
    Run W0 N (wpL rd P ops Q ({ dst := some d, op := op, type := ty, pos := pos, after := af, guard := none } :: rest)) e A := by
  intro a w hF hO
  simp only [wpL, wanted_none, if_true]
  exact .inl (h a w _ _ _ _ _ _ _ hF hO fun v w' B hp hO' => k v B hp _ _ (hF.put (Nat.lt_of_succ_le (Nat.le_of_ble_eq_true hd)) v) hO')
theorem s_do0 {Post : Value → List HP → Prop} (h : Does P W0 N e A op Post) (k : ∀ v B, Post v B → Run W0 N (wpL rd P ops Q rest) e B) :
    Run W0 N (wpL rd P ops Q ({ dst := none, op := op, type := ty, pos := pos, after := af, guard := none } :: rest)) e A := by
  intro a w hF hO
  simp only [wpL, wanted_none, if_true]
  exact .inl (h a w _ _ _ _ _ _ _ hF hO fun v w' B hp hO' => k v B hp _ _ hF hO')
theorem does_run {Post : Value → List HP → Prop} (h : ∀ a w dst ty pos af g, Fr a N e → Own W0 w A → ∃ v w' B, ((execOp a.eval { dst := dst, op := op, type := ty, pos := pos, after := af, guard := g }).run P w = .ok (.value v) w' ∨
      ((execOp a.eval { dst := dst, op := op, type := ty, pos := pos, after := af, guard := g }).run P w = .ok .skip w' ∧ v = undef)) ∧ Post v B ∧ Own W0 w' B) : Does P W0 N e A op Post := by
  intro a w dst ty pos af g K Q hF hO k
  obtain ⟨v, w', B, hr, hp, hO'⟩ := h a w dst ty pos af g hF hO
  unfold Oper.wp
  rcases hr with hr | ⟨hr, rfl⟩
  · rw [hr]; exact k v w' B hp hO'
  · rw [hr]; exact k _ w' B hp hO'
theorem d_val (h : Val P (OwnP W0 A) N e op v) : Does P W0 N e A op (fun u B => u = v ∧ B = A) := does_run fun a w _ _ _ _ _ hF hO =>
  ⟨v, w, A, .inl (h a w _ _ _ _ _ hF hO), ⟨rfl, rfl⟩, hO⟩
theorem d_store [h : Tk pt b A (cob l ty) R] (hs : ∀ w, (sizeOf t).run P w = .ok 1 w) (hx : ev e x = some (.pointer (some ⟨b, off, none⟩))) (hy : ev e y = some v)
    (h1 : v.oneCell' = true) (ho : off < l.length) (hl : l.set off v = l') : Does P W0 N e A (.store t x y) (fun _ B => B = pt b (cob l' ty) :: R) := does_run fun a w _ _ _ _ _ hF hO => by
  have hO' := hO.tk (r := pt) (b := b)
  refine ⟨undef, w.setCell ⟨b, off, none⟩ v, _, .inr ⟨?_, rfl⟩, rfl, hl ▸ setCell_own hO' v⟩
  simp [execOp, Instr.storeAt, Instr.sureAddr, hF.eval hx, hF.eval hy, storeVar, hs, cells_one h1, storeCells, add_none, run_store1 hO' ho h1]
theorem storeCells_own : ∀ (vs : List Value) {l : List Value} {w : World} (i : Nat), Own W0 w (pt b (cob l ty) :: R) → off + i + vs.length ≤ l.length → (∀ v ∈ vs, v.oneCell' = true) →
    ∃ w', (storeCells ⟨b, off, none⟩ vs i).run P w = .ok () w' ∧ Own W0 w' (pt b (cob (setR l (off + i) vs) ty) :: R)
  | [], l, w, i, h, _, _ => ⟨w, by simp [storeCells], h⟩
  | v :: vs, l, w, i, h, hlen, h1 => by
    simp only [List.length_cons] at hlen
    have hr := run_store1 (P := P) h (off := off + i) (by omega) (h1 v (by simp))
    obtain ⟨w', hr', ho'⟩ := storeCells_own vs (i + 1) (setCell_own (off := off + i) h v) (by simp; omega) (fun u hu => h1 u (by simp [hu]))
    refine ⟨w', ?_, ho'⟩
    simp only [storeCells, Sem.run_bind, add_none, hr, Result.andThen_ok, hr']
def allOne (vs : List Value) : Bool := vs.all (·.oneCell')
theorem d_storeAgg {n : Nat} [h : Tk pt b A (cob l ty) R] (hs : ∀ w, (sizeOf t).run P w = .ok n w) (hx : ev e x = some (.pointer (some ⟨b, off, none⟩))) (hy : ev e y = some (.agg vs.toArray))
    (hn : vs.length = n) (h1 : allOne vs = true) (ho : off + n ≤ l.length) (hl : setR l off vs = l') : Does P W0 N e A (.store t x y) (fun _ B => B = pt b (cob l' ty) :: R) := does_run fun a w _ _ _ _ _ hF hO => by
  have hO' := hO.tk (r := pt) (b := b)
  obtain ⟨w', hr, hO''⟩ := storeCells_own (P := P) (off := off) vs 0 hO' (by omega) (fun v hv => by simpa [allOne] using (List.all_eq_true.1 h1 v hv))
  rw [Nat.add_zero] at hO''
  refine ⟨undef, w', _, .inr ⟨?_, rfl⟩, rfl, hl ▸ hO''⟩
  simp [execOp, Instr.storeAt, Instr.sureAddr, hF.eval hx, hF.eval hy, storeVar, hs, Value.cells, hn, hr]
theorem d_storeAll {n : Nat} [h : Tk pt b A (cob l ty) R] (hs : ∀ w, (sizeOf t).run P w = .ok n w) (hx : ev e x = some (.pointer (some ⟨b, 0, none⟩))) (hy : ev e y = some (.agg vs.toArray))
    (hn : vs.length = n) (h1 : allOne vs = true) (ho : l.length = n) : Does P W0 N e A (.store t x y) (fun _ B => B = pt b (cob vs ty) :: R) :=
  d_storeAgg hs hx hy hn h1 (by omega) (by simpa using setR_all vs l [] (by omega))
theorem d_new {o : Obj} {g : Nat → Value}
    (hrun : ∀ a w dst ty pos af g', Fr a N e → Own W0 w A → (execOp a.eval { dst := dst, op := op, type := ty, pos := pos, after := af, guard := g' }).run P w = .ok (.value (g w.heap.size)) { w with heap := w.heap.push o }) :
    Does P W0 N e A op (fun v B => ∃ b, v = g b ∧ B = pt b o :: A) := does_run fun a w _ _ _ _ _ hF hO =>
  ⟨_, _, _, .inl (hrun a w _ _ _ _ _ hF hO), ⟨w.heap.size, rfl, rfl⟩, hO.new o⟩
theorem d_allocA (hz : ∀ w, (zeroValue t).run P w = .ok (.agg l.toArray) w) : Does P W0 N e A (.alloc t) (fun v B => ∃ b, v = .pointer (some ⟨b, 0, none⟩) ∧ B = pt b (cob l t) :: A) :=
  d_new (g := fun b => .pointer (some ⟨b, 0, none⟩)) (fun a w _ _ _ _ _ hF _ => by simp [execOp, Instr.alloc, hz, newVar, newRow, Value.cells])
theorem d_alloc (hz : ∀ w, (zeroValue t).run P w = .ok v w) (h1 : v.oneCell' = true) : Does P W0 N e A (.alloc t) (fun u B => ∃ b, u = .pointer (some ⟨b, 0, none⟩) ∧ B = pt b (cob [v] t) :: A) :=
  d_new (g := fun b => .pointer (some ⟨b, 0, none⟩)) (fun a w _ _ _ _ _ hF _ => by simp [execOp, Instr.alloc, hz, newVar, newRow, cells_one h1])
theorem d_boxA (hx : ev e x = some (.agg l.toArray)) : Does P W0 N e A (.box t x) (fun v B => ∃ b, v = .pointer (some ⟨b, 0, none⟩) ∧ B = pt b (cob l t) :: A) :=
  d_new (g := fun b => .pointer (some ⟨b, 0, none⟩)) (fun a w _ _ _ _ _ hF _ => by simp [execOp, Instr.box, hF.eval hx, newVar, newRow, Value.cells])
theorem d_box (hx : ev e x = some v) (h1 : v.oneCell' = true) : Does P W0 N e A (.box t x) (fun u B => ∃ b, u = .pointer (some ⟨b, 0, none⟩) ∧ B = pt b (cob [v] t) :: A) :=
  d_new (g := fun b => .pointer (some ⟨b, 0, none⟩)) (fun a w _ _ _ _ _ hF _ => by simp [execOp, Instr.box, hF.eval hx, newVar, newRow, cells_one h1])
def Fil (P : Program) (fs : List Field) (e : Env) (l : List Value) (ps : List (Nat × Operand)) (l' : List Value) : Prop :=
  ∀ (a : Act), (∀ x v, ev e x = some v → a.eval x = v) → ∀ (pl : Nat → Option (Nat × Nat)), (∀ i f, fs[i]? = some f → ∃ n, pl i = some (f.offset, n) ∧ ∀ w, (sizeOf f.type).run P w = .ok n w) →
    Instr.fill pl l.toArray (ps.map fun (i, x) => (i, a.eval x)) = some l'.toArray
theorem foldl_set : ∀ (vs : List Value) (l : List Value) (off : Nat), (vs.toArray.zipIdx.foldl (fun cs (c, j) => cs.setIfInBounds (off + j) c) l.toArray) = (setR l off vs).toArray := by
  intro vs
  suffices h : ∀ (vs : List Value) (l : List Value) (off s : Nat), (vs.zipIdx s).foldl (fun (cs : Array Value) (x : Value × Nat) => cs.setIfInBounds (off + x.2) x.1) l.toArray = (setR l (off + s) vs).toArray by
    intro l off
    have := h vs l off 0
    rw [← Array.foldl_toList]
    simpa using this
  intro vs
  induction vs with
  | nil => intro l off s; rfl
  | cons v vs ih =>
    intro l off s
    rw [List.zipIdx_cons, List.foldl_cons, setR]
    have := ih (l.set (off + s) v) off (s + 1)
    rw [← Nat.add_assoc] at this
    simpa using this
theorem fil_nil {fs : List Field} : Fil P fs e l [] l := fun _ _ _ _ => rfl
theorem fil_scal {fs : List Field} {nm : String} {ft fo : Nat} {em : Bool} {tg pk : String} {bo i : Nat} {ps : List (Nat × Operand)} {l'' : List Value} (hf : fs[i]? = some ⟨nm, ft, fo, em, tg, pk, bo⟩) (hs : ∀ w, (sizeOf ft).run P w = .ok 1 w)
    (hx : ev e x = some v) (h1 : v.oneCell' = true) (ho : fo < l.length) (hl : l.set fo v = l') (r : Fil P fs e l' ps l'') : Fil P fs e l ((i, x) :: ps) l'' := by
  intro a ha pl hp
  obtain ⟨n, hpl, hn⟩ := hp i _ hf
  have hn1 : n = 1 := by have := (hn default).symm.trans (hs default); simpa using this
  subst hn1
  have hv := ha x v hx
  simp only [List.map_cons, Instr.fill, hpl, hv, cells_one h1]
  have hc : ¬ (fo + 1 > l.length) := by omega
  simp [hc, hl]
  simpa using r a ha pl hp
theorem fil_agg {fs : List Field} {nm : String} {ft fo : Nat} {em : Bool} {tg pk : String} {bo i n : Nat} {ps : List (Nat × Operand)} {l'' : List Value} (hf : fs[i]? = some ⟨nm, ft, fo, em, tg, pk, bo⟩) (hs : ∀ w, (sizeOf ft).run P w = .ok n w)
    (hx : ev e x = some (.agg vs.toArray)) (hn : vs.length = n) (ho : fo + n ≤ l.length) (hl : setR l fo vs = l') (r : Fil P fs e l' ps l'') : Fil P fs e l ((i, x) :: ps) l'' := by
  intro a ha pl hp
  obtain ⟨m, hpl, hm⟩ := hp i _ hf
  have hmn : m = n := by have := (hm default).symm.trans (hs default); simpa using this
  subst hmn
  have hv := ha x _ hx
  simp only [List.map_cons, Instr.fill, hpl, hv, Value.cells]
  have hc : ¬ (fo + vs.length > l.length) := by omega
  have hc' : ¬ (vs.length ≠ m) := by omega
  simp only [List.size_toArray, hc, hc', decide_false, Bool.or_false, if_false, foldl_set, hl, Bool.false_eq_true]
  exact r a ha pl hp
def placeOf (f : Field) : Sem (Nat × Nat) := do pure (f.offset, ← sizeOf f.type)
theorem mapM_places {P : Program} {w : World} : ∀ (fs : List Field), (∀ f : Field, f ∈ fs → ∃ n, ∀ w, (sizeOf f.type).run P w = .ok n w) →
    ∃ ps : List (Nat × Nat), (fs.mapM placeOf).run P w = .ok ps w ∧
      ∀ (i : Nat) (f : Field), fs[i]? = some f → ∃ n, ps[i]? = some (f.offset, n) ∧ ∀ w, (sizeOf f.type).run P w = .ok n w
  | [], _ => ⟨[], by simp, fun i f h => by simp at h⟩
  | f :: fs, h => by
    obtain ⟨n, hn⟩ := h f (by simp)
    obtain ⟨ps, hps, hq⟩ := mapM_places fs (fun g hg => h g (by simp [hg]))
    refine ⟨(f.offset, n) :: ps, ?_, fun i g hi => ?_⟩
    · simp only [List.mapM_cons, placeOf, Sem.run_bind, hn, Result.andThen_ok, Sem.run_pure]
      rw [hps]; rfl
    · cases i with
      | zero => simp only [List.getElem?_cons_zero, Option.some.injEq] at hi; subst hi; exact ⟨n, rfl, hn⟩
      | succ i => exact hq i g (by simpa using hi)
def Sized (P : Program) (fs : List Field) : Prop := ∀ f : Field, f ∈ fs → ∃ n, ∀ w, (sizeOf f.type).run P w = .ok n w
theorem sized_nil : Sized P [] := fun _ h => nomatch h
theorem sized_cons {nm : String} {ft fo : Nat} {em : Bool} {tg pk : String} {bo n : Nat} {fs : List Field} (h : ∀ w, (sizeOf ft).run P w = .ok n w) (k : Sized P fs) : Sized P (⟨nm, ft, fo, em, tg, pk, bo⟩ :: fs) := fun f hf => by
  rcases List.mem_cons.1 hf with rfl | hf
  · exact ⟨n, h⟩
  · exact k f hf
theorem v_build {fs : Array Field} {ps : Array (Nat × Operand)} (hu : P.underlying t = some (.struct fs)) (hz : ∀ w, (zeroValue t).run P w = .ok (.agg l.toArray) w) (hs : Sized P fs.toList) (hf : Fil P fs.toList e l ps.toList l') :
    Val P S N e (.build t ps) (.agg l'.toArray) := fun a w _ _ _ _ _ hF _ => by
  obtain ⟨pls, hpl, hq⟩ := mapM_places (w := w) fs.toList hs
  have := hf a (fun x v h => hF.eval h) (fun i => pls.toArray[i]?) (fun i f h => by simpa using hq i f h)
  have hm : (fs.mapM placeOf).run P w = .ok pls.toArray w := by
    rw [Array.mapM_eq_mapM_toList, Sem.run_map, hpl]; rfl
  have hb : Instr.build t (ps.map fun (i, x) => (i, a.eval x)) = (do
      let zero := (← zeroValue t).cells
      match ← underlying t with
      | .struct fields =>
        let places ← fields.mapM placeOf
        let some cells := Instr.fill (places[·]?) zero (ps.map fun (i, x) => (i, a.eval x)).toList | stuck "build: no such field, or a part of the wrong size"
        pure (.agg cells)
      | .array _ elem =>
        let size ← sizeOf elem
        let some cells := Instr.fill (fun i => some (i * size, size)) zero (ps.map fun (i, x) => (i, a.eval x)).toList | stuck "build: a part of the wrong size"
        pure (.agg cells)
      | _ => stuck "build: struct or array type expected") := rfl
  simp only [execOp, hb, Sem.run_bind, hz, run_und hu, Result.andThen_ok, hm, Value.cells, Sem.run_pure]
  simp only [Array.toList_map]
  rw [this]; rfl
def Els (e : Env) : Nat → List (Nat × Operand) → List Value → Prop
  | _, [], [] => True
  | i, (j, x) :: ps, v :: vs => j = i ∧ ev e x = some v ∧ v.oneCell' = true ∧ Els e (i + 1) ps vs
  | _, _, _ => False
theorem els_fill {a : Act} (he : ∀ x v, ev e x = some v → a.eval x = v) : ∀ (ps : List (Nat × Operand)) (vs done l : List Value), Els e done.length ps vs → l.length = vs.length →
    Instr.fill (fun i => some (i * 1, 1)) (done ++ l).toArray (ps.map fun (i, x) => (i, a.eval x)) = some (done ++ vs).toArray
  | [], [], done, l, _, hl => by
    have : l = [] := List.length_eq_zero_iff.1 hl
    subst this; rfl
  | [], _ :: _, _, _, h, _ => h.elim
  | _ :: _, [], _, _, h, _ => by cases h
  | (j, x) :: ps, v :: vs, done, [], _, hl => by cases hl
  | (j, x) :: ps, v :: vs, done, z :: l, h, hl => by
    obtain ⟨rfl, hx, h1, hr⟩ := h
    have hv := he x v hx
    simp only [List.map_cons, Instr.fill, hv, cells_one h1, List.size_toArray, List.length_cons, List.length_nil, Nat.zero_add, ne_eq, not_true_eq_false, decide_false, Bool.false_or, Nat.mul_one]
    have e1 : Array.foldl (fun cs (x : Value × Nat) => cs.setIfInBounds (done.length + x.2) x.1) (done ++ z :: l).toArray #[v].zipIdx = ((done ++ [v]) ++ l).toArray := by
      have := foldl_set [v] (done ++ z :: l) done.length
      simp only [setR] at this
      rw [show (#[v] : Array Value) = [v].toArray from rfl, this]
      simp
    rw [e1]
    have := els_fill he ps vs (done ++ [v]) l (by simpa using hr) (by simpa using hl)
    simp only [Nat.mul_one] at this
    rw [this]; simp
theorem els_of : ∀ (ps : List (Nat × Operand)) (i : Nat) (vs : List Value), evs e (ps.map (·.2)) = some vs → ps.map (·.1) = List.range' i ps.length → allOne vs = true → Els e i ps vs
  | [], _, vs, h, _, _ => by simp [evs] at h; subst h; trivial
  | (j, x) :: ps, i, vs, h, hi, h1 => by
    simp only [List.map_cons, evs] at h
    cases hv : ev e x with
    | none => rw [hv] at h; cases h
    | some v =>
      rw [hv] at h
      cases hvs : evs e (ps.map (·.2)) with
      | none => simp only [hvs] at h; cases h
      | some vs' =>
        simp only [hvs, Option.some.injEq] at h
        subst h
        simp only [List.map_cons, List.length_cons, List.range'_succ, List.cons.injEq] at hi
        simp only [allOne, List.all_cons, Bool.and_eq_true] at h1
        exact ⟨hi.1, hv, h1.1, els_of ps (i + 1) vs' hvs hi.2 h1.2⟩
theorem d_sliceLit {E n : Nat} {z : Value} {ps : Array (Nat × Operand)} (hu : P.underlying t = some (.slice E)) (hs : ∀ w, (sizeOf E).run P w = .ok 1 w) (hz : ∀ w, (zeroValue E).run P w = .ok z w) (hz1 : z.oneCell' = true)
    (hev : evs e (ps.toList.map (·.2)) = some vs) (hix : ps.toList.map (·.1) = List.range' 0 ps.toList.length) (ha1 : allOne vs = true) (hn : vs.length = n) (hn0 : n ≠ 0) (hn2 : n ≤ 1000) :
    Does P W0 N e A (.buildSlice t n ps) (fun v B => ∃ b, v = .slice (some ⟨b, 0, none⟩) n n ∧ B = pt b (cob vs E) :: A) :=
  d_new (g := fun b => .slice (some ⟨b, 0, none⟩) n n) (fun a w _ _ _ _ _ hF _ => by
    have hel := els_of ps.toList 0 vs hev hix ha1
    have hfl := els_fill (fun x v h => hF.eval h) ps.toList vs [] (List.replicate n z) (by simpa using hel) (by simpa using hn.symm)
    simp only [Nat.mul_one, List.nil_append] at hfl
    have hr : (Array.range n).map (fun i => (#[z] : Array Value)[i % (#[z] : Array Value).size]!) = (List.replicate n z).toArray := by
      apply Array.ext
      · simp
      · intro i h1 h2; simp [Nat.mod_one]
    have hbig : ¬ (n > 2 ^ 24) := by omega
    simp only [execOp, Instr.buildSlice, Sem.run_bind, run_und hu, Result.andThen_ok, hs, Nat.mul_one, Array.toList_map, Sem.run_ite, if_neg hbig, if_neg hn0, hz, Sem.run_pure, cells_one hz1, hr]
    rw [hfl]
    rfl)
theorem d_call {f : FuncId} {xs : Array Operand} {ats : Array TypeId} {Post : Value → List HP → Prop} (hc : ∀ args w, (callFunc f args).run P w = .ok (.enter f args) w) (hx : evs e xs.toList = some vs)
    (hs : Spec P W0 f vs A Post) : Does P W0 N e A (.call { callee := .value (.func f), args := xs, argTypes := ats }) Post := by
  intro a w dst ty pos af g K Q hF hO k
  unfold Oper.wp
  rw [execOp_call_go]
  have he : (#[] ++ xs.map a.eval ++ #[] : Array Value) = vs.toArray := by
    have := hF.evals hx
    rw [← this]; apply Array.ext'; simp
  rw [he, hc]
  refine (hs w hO).mono ?_
  rintro _ w' ⟨v, B, rfl, hp, hO'⟩
  exact k v w' B hp hO'
theorem does_perm {Post : Value → List HP → Prop} (hp : A.Perm B) (h : Does P W0 N e B op Post) : Does P W0 N e A op Post :=
  fun a w dst ty pos af g K Q hF hO k => h a w dst ty pos af g K Q hF (hO.perm hp) k
theorem d_call1 {K1 X1 : Type} {r1 : K1 → X1 → HP} {b1 : K1} {x1 : X1} {f : FuncId} {xs : Array Operand} {ats : Array TypeId} {Post : Value → List HP → Prop} (hc : ∀ args w, (callFunc f args).run P w = .ok (.enter f args) w) (hx : evs e xs.toList = some vs)
    (hs : Spec P W0 f vs (r1 b1 x1 :: R) Post) [h1 : Tk r1 b1 A x1 R] : Does P W0 N e A (.call { callee := .value (.func f), args := xs, argTypes := ats }) Post :=
  does_perm h1.perm (d_call hc hx hs)
theorem d_call2 {K1 K2 X1 X2 : Type} {r1 : K1 → X1 → HP} {b1 : K1} {x1 : X1} {R1 : List HP} {r2 : K2 → X2 → HP} {b2 : K2} {x2 : X2} {f : FuncId} {xs : Array Operand} {ats : Array TypeId} {Post : Value → List HP → Prop} (hc : ∀ args w, (callFunc f args).run P w = .ok (.enter f args) w) (hx : evs e xs.toList = some vs)
    (hs : Spec P W0 f vs (r1 b1 x1 :: r2 b2 x2 :: R) Post) [h1 : Tk r1 b1 A x1 R1] [h2 : Tk r2 b2 R1 x2 R] : Does P W0 N e A (.call { callee := .value (.func f), args := xs, argTypes := ats }) Post :=
  does_perm (h1.perm.trans (h2.perm.cons _)) (d_call hc hx hs)
theorem d_call3 {K1 K2 K3 X1 X2 X3 : Type} {r1 : K1 → X1 → HP} {b1 : K1} {x1 : X1} {R1 : List HP} {r2 : K2 → X2 → HP} {b2 : K2} {x2 : X2} {R2 : List HP} {r3 : K3 → X3 → HP} {b3 : K3} {x3 : X3} {f : FuncId} {xs : Array Operand} {ats : Array TypeId} {Post : Value → List HP → Prop} (hc : ∀ args w, (callFunc f args).run P w = .ok (.enter f args) w) (hx : evs e xs.toList = some vs)
    (hs : Spec P W0 f vs (r1 b1 x1 :: r2 b2 x2 :: r3 b3 x3 :: R) Post) [h1 : Tk r1 b1 A x1 R1] [h2 : Tk r2 b2 R1 x2 R2] [h3 : Tk r3 b3 R2 x3 R] : Does P W0 N e A (.call { callee := .value (.func f), args := xs, argTypes := ats }) Post :=
  does_perm (h1.perm.trans ((h2.perm.trans (h3.perm.cons _)).cons _)) (d_call hc hx hs)
def zipE : Nat → List Value → Env
  | _, [] => []
  | i, v :: vs => (i, v) :: zipE (i + 1) vs
theorem get?_zipE : ∀ (vs : List Value) (i t : Nat) (v : Value), get? (zipE i vs) t = some v → ∃ j, t = i + j ∧ vs[j]? = some v
  | [], i, t, v, h => nomatch h
  | u :: vs, i, t, v, h => by
    by_cases c : i = t
    · subst c; rw [zipE, get?_cons_self] at h; exact ⟨0, rfl, by simpa using h⟩
    · rw [zipE, get?_cons_ne c] at h
      obtain ⟨j, rfl, hj⟩ := get?_zipE vs (i + 1) t v h
      exact ⟨j + 1, by omega, by simpa using hj⟩
abbrev mark (D : Nat) : Deferred := { target := .collected D, args := #[] }
def RetQ (P : Program) (W0 : World) (fn : Func) (Post : Value → List HP → Prop) : Exit → Act → World → Prop
  | .normal, a, w => bodyPostM (FW none) 0 P fn (fun e w' => ∃ v B, e = .returned v ∧ Post v B ∧ Own W0 w' B) .normal a w
  | .ret, a, w => bodyPostM (FW none) 0 P fn (fun e w' => ∃ v B, e = .returned v ∧ Post v B ∧ Own W0 w' B) .ret a w
  | _, _, _ => False
theorem retQ_post {fn : Func} {Post : Value → List HP → Prop} {ex : Exit} {a : Act} {w : World} (h : RetQ P W0 fn Post ex a w) : bodyPostM (FW none) 0 P fn (fun e w' => ∃ v B, e = .returned v ∧ Post v B ∧ Own W0 w' B) ex a w := by
  cases ex <;> first | exact h | exact h.elim
theorem spec_body {n : Nat} {f : FuncId} {fn : Func} {c : Code} {Post : Value → List HP → Prop} (hf : P.funcs[f]? = some fn) (hN : fn.ntmps = n) (hb : fn.body = some c) (hl : Nat.ble vs.length n = true)
    (k : Run W0 ⟨n, []⟩ (c.wpR none P (RetQ P W0 fn Post)) (zipE 0 vs) A) : Spec P W0 f vs A Post := by
  intro w hO
  refine (callsR (rd := none) (n := 0)).1 (callsIn_of_wp_marks hf hb trivial (wpIn_mono (k _ w ⟨rfl, ?_, fun t v h => ?_⟩ hO) fun _ _ _ h => retQ_post h) rfl)
  · have := Nat.le_of_ble_eq_true hl
    simp [hN]; omega
  · obtain ⟨j, rfl, hj⟩ := get?_zipE _ _ _ _ h
    have hlt : j < vs.length := by
      rcases Nat.lt_or_ge j vs.length with k | k
      · exact k
      · simp [List.getElem?_eq_none k] at hj
    simp [hlt] at hj ⊢
    rw [Array.getElem?_append_left (by simpa using hlt)]
    simp [hlt, hj]
def resOf (a : Act) : ResultVar → Sem Value
  | .tmp t => pure (a.tmps.getD t undef)
  | .cell x t => do loadVar t (← asAddr (a.tmps.getD x undef))
def ResV (P : Program) (W0 : World) (N : FSz) (e : Env) (A : List HP) (r : ResultVar) (v : Value) : Prop :=
  ∀ a w, Fr a N e → Own W0 w A → (resOf a r).run P w = .ok v w
theorem r_tmp {t : Nat} (h : get? e t = some v) : ResV P W0 N e A (.tmp t) v := fun a w hF _ => by
  simp [resOf, Array.getD_eq_getD_getElem?, hF.at_ t v h]
theorem r_all {x n : Nat} [h : Tk pt b A (cob l ty) R] (ha : ∀ w, (isAgg t).run P w = .ok true w) (hs : ∀ w, (sizeOf t).run P w = .ok n w) (hx : get? e x = some (.pointer (some ⟨b, 0, none⟩))) (hn : l.length = n) : ResV P W0 N e A (.cell x t) (.agg l.toArray) := fun a w hF hO => by
  have hc : Cells (OwnP W0 A) b 0 l := cells_own (by simp)
  have := run_loadCells (P := P) (w := w) (fun i v hi => hc i v hi w hO) n 0 #[] (by omega)
  simp [resOf, Array.getD_eq_getD_getElem?, hF.at_ x _ hx, asAddr, loadVar, ha, hs, loadCells, this]
inductive ResVs (P : Program) (W0 : World) (N : FSz) (e : Env) (A : List HP) : List ResultVar → List Value → Prop
  | nil : ResVs P W0 N e A [] []
  | cons {r : ResultVar} {v : Value} {rs : List ResultVar} {vs : List Value} : ResV P W0 N e A r v → ResVs P W0 N e A rs vs → ResVs P W0 N e A (r :: rs) (v :: vs)
theorem ResVs.run {rs : List ResultVar} {vs : List Value} (h : ResVs P W0 N e A rs vs) {a : Act} {w : World} (hF : Fr a N e) (hO : Own W0 w A) :
    (rs.mapM (resOf a)).run P w = .ok vs w := by
  induction h with
  | nil => simp
  | cons h1 _ ih =>
    rw [List.mapM_cons, Sem.run_bind, h1 a w hF hO, Result.andThen_ok, Sem.run_bind, ih]; rfl
def pack : List Value → Value
  | [v] => v
  | vs => .tuple vs.toArray
theorem ResVs.all {fn : Func} {vs : List Value} (hr : ResVs P W0 N e A fn.results.toList vs) {a : Act} {w : World} (hF : Fr a N e) (hO : Own W0 w A) : (results fn a.tmps).run P w = .ok (pack vs) w := by
  have := hr.run hF hO
  have hres : results fn a.tmps = (do
      let vs ← fn.results.mapM (resOf a)
      pure (if h : vs.size = 1 then vs[0] else .tuple vs)) := rfl
  rw [hres, Sem.run_bind, Array.mapM_eq_mapM_toList, Sem.run_map, this]
  simp only [Result.andThen_ok, Sem.run_pure]
  match vs with
  | [] => rfl
  | [v] => rfl
  | _ :: _ :: _ => rfl
theorem x_done {n : Nat} {fn : Func} {Post : Value → List HP → Prop} {vs : List Value} {ex : Exit} (hex : ex = .ret ∨ ex = .normal) (hr : ResVs P W0 ⟨n, []⟩ e A fn.results.toList vs) (hp : ∃ B, Post (pack vs) B ∧ Ent A B) : Run W0 ⟨n, []⟩ (Ex (RetQ P W0 fn Post) ex) e A := by
  intro a w hF hO
  obtain ⟨B, hB, hE⟩ := hp
  have hrun := hr.all hF hO
  have hd : a.defers = [] := hF.defers
  have : LeavesInM (FW none) 0 P fn a.tmps (fun e w' => ∃ v B, e = .returned v ∧ Post v B ∧ Own W0 w' B) a.defers .returning w := by
    rw [hd]; exact ⟨pack vs, hrun, pack vs, B, rfl, hB, hO.ent hE⟩
  rcases hex with rfl | rfl <;> exact this
theorem x_doneM {n D : Nat} {fn : Func} {Post : Value → List HP → Prop} {vs : List Value} {ex : Exit} (hex : ex = .ret ∨ ex = .normal) [h : Tk pt D A (.deferred (some [])) R] (hr : ResVs P W0 ⟨n, [mark D]⟩ e (pt D (.deferred none) :: R) fn.results.toList vs)
    (hp : ∃ B, Post (pack vs) B ∧ Ent (pt D (.deferred none) :: R) B) : Run W0 ⟨n, [mark D]⟩ (Ex (RetQ P W0 fn Post) ex) e A := by
  intro a w hF hO
  obtain ⟨B, hB, hE⟩ := hp
  have hO1 := hO.tk (r := pt) (b := D)
  have hK := hO1.has
  have hO2 : Own W0 (w.putObj D (.deferred none)) (pt D (.deferred none) :: R) :=
    hO1.set rfl rfl rfl (by simp) (World.putObj_heap_same (by
      rcases Nat.lt_or_ge D w.heap.size with q | q
      · exact q
      · have := hK.2; rw [Array.getElem?_eq_none q] at this; cases this)) (fun k hk => World.putObj_heap_other hk)
  have hrun := hr.all hF hO2
  have hd : a.defers = [mark D] := hF.defers
  have : LeavesInM (FW none) 0 P fn a.tmps (fun e w' => ∃ v B, e = .returned v ∧ Post v B ∧ Own W0 w' B) a.defers .returning w := by
    rw [hd]
    exact ⟨by simp, .inl ⟨D, _, rfl, run_takeDeferred hK.2, pack vs, hrun, pack vs, B, rfl, hB, hO2.ent hE⟩⟩
  rcases hex with rfl | rfl <;> exact this
theorem v_idx {E n c j sz o' : Nat} {k : IntKind} {i : Int} (hu : P.underlying t = some (.slice E)) (hs : ∀ w, (sizeOf E).run P w = .ok sz w) (hx : ev e x = some (.slice (some ⟨b, off, none⟩) n c)) (hy : ev e y = some (.int k i))
    (hi : i = (j : Int)) (hj : j < n) (ho : off + j * sz = o') : Val P S N e (.indexAddr t x y) (.pointer (some ⟨b, o', none⟩)) := fun a w _ _ _ _ _ hF _ => by
  subst hi; subst ho
  simp [execOp, Instr.indexAt, hF.eval hx, hF.eval hy, asIntOf, run_und hu, hs, add_none]
  omega
theorem v_idxArr {E n j sz o' : Nat} {k : IntKind} {i : Int} (hu : P.underlying t = some (.array n E)) (hs : ∀ w, (sizeOf E).run P w = .ok sz w) (hx : ev e x = some (.pointer (some ⟨b, off, none⟩))) (hy : ev e y = some (.int k i))
    (hi : i = (j : Int)) (hj : j < n) (ho : off + j * sz = o') : Val P S N e (.indexAddr t x y) (.pointer (some ⟨b, o', none⟩)) := fun a w _ _ _ _ _ hF _ => by
  subst hi; subst ho
  simp [execOp, Instr.indexAt, hF.eval hx, hF.eval hy, asIntOf, run_und hu, hs, add_none, Instr.sureAddr]
  omega
end
theorem w64 {n : Int} (h : -9223372036854775808 ≤ n ∧ n < 9223372036854775808) : IntKind.wrap .i64 n = n := by
  simp only [IntKind.wrap, IntKind.bits, IntKind.signed]; simp; omega
theorem w32u {n : Int} (h : 0 ≤ n ∧ n < 4294967296) : IntKind.wrap .u32 n = n := by
  simp only [IntKind.wrap, IntKind.bits, IntKind.signed]; simp; omega
class BP (b : Bool) (p : outParam Prop) : Prop where
  iff : b = true ↔ p
instance bp_dec {p : Prop} [Decidable p] : BP (decide p) p := ⟨by simp⟩
instance bp_eq {m n : Int} : BP (m == n) (m = n) := ⟨by simp⟩
instance bp_ne {m n : Int} : BP (m != n) (m ≠ n) := ⟨by simp⟩
instance bp_beq {p q : Bool} : BP (p == q) (p = q) := ⟨by simp⟩
instance bp_not {b : Bool} {p : Prop} [h : BP b p] : BP (!b) (¬ p) := ⟨by rw [← h.iff]; simp⟩
instance bp_and {b c : Bool} {p q : Prop} [h : BP b p] [k : BP c q] : BP (b && c) (p ∧ q) := ⟨by rw [← h.iff, ← k.iff]; simp⟩
instance bp_or {b c : Bool} {p q : Prop} [h : BP b p] [k : BP c q] : BP (b || c) (p ∨ q) := ⟨by rw [← h.iff, ← k.iff]; simp⟩
instance bp_none {α : Type} {p : Option α} : BP p.isNone (p = none) := ⟨by simp⟩
instance (priority := low) bp_var {b : Bool} : BP b (b = true) := ⟨Iff.rfl⟩
section
variable {rd : Option Nat} {P : Program} {W0 : World} {N : FSz} {Q : Exit → Act → World → Prop} {e : Env} {A : List HP} {ops : Array Oper} {rest : List Oper} {op : Op} {ty : TypeId} {pos : String} {af : Array Edge}
theorem x_if {c : Nat} {p : Prop} {b : Bool} {xc yc : Code} (hv : get? e c = some (.bool b)) [h : BP b p]
    (ht : p → Run W0 N (xc.wpR rd P Q) ((c, .bool true) :: e) A) (hf : ¬ p → Run W0 N (yc.wpR rd P Q) ((c, .bool false) :: e) A) : Run W0 N ((Code.cond (.tmp c) xc yc).wpR rd P Q) e A :=
  x_cond rfl hv (fun hb => ht (h.iff.1 hb)) (fun hb => hf (fun k => by rw [h.iff.2 k] at hb; cases hb))
theorem x_ift {c : Nat} {xc yc : Code} (hv : get? e c = some (.bool true)) (k : Run W0 N (xc.wpR rd P Q) e A) : Run W0 N ((Code.cond (.tmp c) xc yc).wpR rd P Q) e A :=
  fun a w hF hO => wpIn_cond_true (hF.eval (x := .tmp c) hv) (k a w hF hO)
theorem x_iff {c : Nat} {xc yc : Code} (hv : get? e c = some (.bool false)) (k : Run W0 N (yc.wpR rd P Q) e A) : Run W0 N ((Code.cond (.tmp c) xc yc).wpR rd P Q) e A :=
  fun a w hF hO => wpIn_cond_false (hF.eval (x := .tmp c) hv) (k a w hF hO)
theorem s_and {j t d : Nat} {b : Bool} {p : Prop} (ht : gtmp ops j = some t) (hv : get? e t = some (.bool b)) (hd : Nat.blt d N.n = true) [h : BP b p]
    (h1 : p → Run W0 N (wpL rd P ops Q ({ dst := some d, op := op, type := ty, pos := pos, after := af, guard := none } :: rest)) ((t, .bool true) :: e) A)
    (h2 : ¬ p → Run W0 N (wpL rd P ops Q rest) ((d, undef) :: (t, .bool false) :: e) A) :
    Run W0 N (wpL rd P ops Q ({ dst := some d, op := op, type := ty, pos := pos, after := af, guard := some (j, true) } :: rest)) e A :=
  s_guard (dst := some d) ht hv hd (fun hb => h1 (h.iff.1 hb)) (fun hb => h2 (fun k => by rw [h.iff.2 k] at hb; cases hb))
theorem s_or {j t d : Nat} {b : Bool} {p : Prop} (ht : gtmp ops j = some t) (hv : get? e t = some (.bool b)) (hd : Nat.blt d N.n = true) [h : BP b p]
    (h1 : p → Run W0 N (wpL rd P ops Q rest) ((d, undef) :: (t, .bool true) :: e) A)
    (h2 : ¬ p → Run W0 N (wpL rd P ops Q ({ dst := some d, op := op, type := ty, pos := pos, after := af, guard := none } :: rest)) ((t, .bool false) :: e) A) :
    Run W0 N (wpL rd P ops Q ({ dst := some d, op := op, type := ty, pos := pos, after := af, guard := some (j, false) } :: rest)) e A :=
  s_guard (dst := some d) ht hv hd (fun hb => h2 (fun k => by rw [h.iff.2 k] at hb; cases hb)) (fun hb => h1 (h.iff.1 hb))
end
end Go.Proofs.YtnidndllknffgaaGreat
namespace Go.Proofs.YtnidndllknffgaaGreat
theorem bShr_nat {k : IntKind} {a s : Nat} (hs : s ≤ k.bits) : bShr k a s = ((a / 2 ^ s : Nat) : Int) := by
  unfold bShr
  simp only [Int.toNat_natCast, Nat.min_eq_left hs]
  rw [Int.fdiv_eq_ediv_of_nonneg _ (by have := Int.pow_pos (n := (2 : Int)) (m := s) (by omega); omega)]
  push_cast; rfl
theorem and_low {a n : Nat} : a &&& (2 ^ n - 1) = a % 2 ^ n := Nat.and_two_pow_sub_one_eq_mod a n
end Go.Proofs.YtnidndllknffgaaGreat
namespace Go.Proofs.YtnidndllknffgaaGreat
open Go.RowKit
set_option linter.unusedVariables false
class POk (Q : Exit → Act → World → Prop) : Prop where
  ok : ∀ c a d v w, Q (.panic c) (a.put d v) w → Q (.panic c) a w
instance pok_then {n : Act → World → Prop} {Q : Exit → Act → World → Prop} [h : POk Q] : POk (Exit.then n Q) := ⟨fun c a d v w k => h.ok c a d v w k⟩
instance pok_block {id : Nat} {Q : Exit → Act → World → Prop} [h : POk Q] : POk (Exit.inBlock id Q) := ⟨fun c a d v w k => h.ok c a d v w k⟩
instance pok_ret {P : Program} {W0 : World} {fn : Func} {Post : Value → List HP → Prop} : POk (RetQ P W0 fn Post) := ⟨fun c a d v w k => k.elim⟩
def SC (cs : List (Nat × Nat × List Value)) : World → Prop := fun w => ∀ c, c ∈ cs → ∀ i v, c.2.2[i]? = some v → w.cell? ⟨c.1, c.2.1 + i, none⟩ = some v
section
variable {rd : Option Nat} {P : Program} {S : World → Prop} {W0 : World} {N : FSz} {Q : Exit → Act → World → Prop} {e : Env} {A B R : List HP} {ops : Array Oper}
variable {op : Op} {ty t : TypeId} {pos : String} {af : Array Edge} {v : Value} {d b off : Nat} {l : List Value} {cs : List (Nat × Nat × List Value)} {g : Option (Nat × Bool)} {n i : Nat} {listed : Array Bool}
theorem sc_nil {w : World} : SC [] w := fun _ h => nomatch h
theorem sc_cons (h : Cells (OwnP W0 A) b off l) (k : ∀ w, Own W0 w A → SC cs w) : ∀ w, Own W0 w A → SC ((b, off, l) :: cs) w := fun w hO c hc => by
  rcases List.mem_cons.1 hc with rfl | hc
  · exact fun i v hi => h i v hi w hO
  · exact k w hO c hc
theorem sc_own [h : Tk pt b A (cob l t) R] (k : ∀ w, Own W0 w A → SC cs w) : ∀ w, Own W0 w A → SC ((b, 0, l) :: cs) w := sc_cons (cells_own (by simp)) k
theorem sc_end : ∀ w, Own W0 w A → SC [] w := fun _ _ => sc_nil
theorem cell_sc {j k o : Nat} (hk : cs[k]? = some (b, o, l)) (hj : l[j]? = some v) : Cell (SC cs) b (o + j) v := fun w hS => hS _ (List.mem_of_getElem? hk) j v hj
theorem cell_sc0 {j k : Nat} (hk : cs[k]? = some (b, 0, l)) (hj : l[j]? = some v) : Cell (SC cs) b j v := by
  have := cell_sc hk hj; rwa [Nat.zero_add] at this
theorem cells_sc {k : Nat} (hk : cs[k]? = some (b, off, l)) : Cells (SC cs) b off l := fun j v hj => cell_sc hk hj
theorem cell_sc1 {k : Nat} (hk : cs[k]? = some (b, off, [v])) : Cell (SC cs) b off v := cell_sc (j := 0) hk rfl
def gw (ops : Array Oper) (e : Env) : Option (Nat × Bool) → Option Bool
  | none => some true
  | some (j, want) => match gtmp ops j with
    | some t => match get? e t with
      | some (.bool b) => some (b == want)
      | some (.tuple _) => some false
      | _ => none
    | none => none
theorem gw_wanted {dst : Option Tmp} {a : Act} {r : Bool} (hF : Fr a N e) (h : gw ops e g = some r) : Region.wanted { dst := dst, op := op, type := ty, pos := pos, after := af, guard := g } (yielded ops a.tmps) = r := by
  match g, h with
  | none, h => simp [gw] at h; subst h; rfl
  | some (j, want), h =>
    unfold gw at h
    cases ht : gtmp ops j with
    | none => simp only [ht] at h; cases h
    | some t =>
      simp only [ht] at h
      cases hv : get? e t with
      | none => simp only [hv] at h; cases h
      | some u =>
        simp only [hv] at h
        have hy : yielded ops a.tmps j = match u with | .bool b => some b | _ => none := by
          have hv' := hF.at_ t _ hv
          unfold gtmp at ht
          simp only [yielded]
          cases hj : ops[j]? with
          | none => rw [hj] at ht; cases ht
          | some o =>
            rw [hj] at ht
            simp only [Option.bind_some] at ht
            simp only [Option.bind_some, ht, hv']
            cases u <;> rfl
        cases u <;> simp only [Option.some.injEq, reduceCtorEq] at h
        · rename_i c
          simp only [Region.wanted, hy]; subst h; cases c <;> cases want <;> rfl
        · simp only [Region.wanted, hy]; subst h; rfl
theorem x_split {K : Act → World → Prop} {p : Prop} {c : Bool} {t : Nat} (hv : get? e t = some (.bool c)) [h : BP c p] (ht : p → Run W0 N K ((t, .bool true) :: e) A) (hf : ¬ p → Run W0 N K ((t, .bool false) :: e) A) : Run W0 N K e A := by
  intro a w hF hO
  by_cases k : p
  · exact ht k a w (hF.sub (sub_cons (by rw [hv, h.iff.2 k]) sub_refl)) hO
  · have : c = false := by
      cases hc : c with
      | false => rfl
      | true => exact absurd (h.iff.1 hc) k
    exact hf k a w (hF.sub (sub_cons (by rw [hv, this]) sub_refl)) hO
def DR (P : Program) (ops : Array Oper) (Q : Exit → Act → World → Prop) (cs : List (Nat × Nat × List Value)) (n : Nat) (listed : Array Bool) : Act → World → Prop := wpAnyH P .any ops Q (SC cs) n listed
theorem x_draw {id : Nat} (cs : List (Nat × Nat × List Value)) (n : Nat) (hm : P.follows .mixedOrders = true) (hn : Nat.beq ops.size n = true) (hS : ∀ w, Own W0 w A → SC cs w) (k : (∀ w, Own W0 w A → SC cs w) → Run W0 N (DR P ops Q cs n (Array.replicate n false)) e A) : Run W0 N ((Code.region id ops true).wpR none P Q) e A := by
  intro a w hF hO
  have : ops.size = n := Nat.eq_of_beq_eq_true hn
  subst this
  exact wpR_wide.2 <| wp_region_held hm (k hS a _ hF (hO.drew _))
theorem d_take (i : Nat) (ho : ops[i]? = some ⟨some d, op, ty, pos, af, g⟩) (hg : gw ops e g = some true) (hs : Region.noSelect ops = true) (hf : Region.free .any ops listed i = true) (hr : (Region.ready .any ops listed).contains i = true)
    (hd : Nat.blt d N.n = true) [hq : POk Q] (hS : ∀ w, Own W0 w A → SC cs w) (hv : Val P (SC cs) N e op v) (k : Run W0 N (DR P ops Q cs n (listed.setIfInBounds i true)) ((d, v) :: e) A) : Run W0 N (DR P ops Q cs (n + 1) listed) e A := by
  intro a w hF hO
  refine wpAnyH_take (v := v) ho hs hf hr (fun c a w => hq.ok c a _ v w) (.inl ⟨gw_wanted hF hg, fun w hw => hv a w _ _ _ _ _ hF hw⟩) (hS w hO) ?_
  exact k _ _ (hF.put (Nat.lt_of_succ_le (Nat.le_of_ble_eq_true hd)) v) hO
theorem d_skip (i : Nat) (ho : ops[i]? = some ⟨some d, op, ty, pos, af, g⟩) (hg : gw ops e g = some false) (hs : Region.noSelect ops = true) (hf : Region.free .any ops listed i = true) (hr : (Region.ready .any ops listed).contains i = true)
    (hd : Nat.blt d N.n = true) [hq : POk Q] (hS : ∀ w, Own W0 w A → SC cs w) (k : Run W0 N (DR P ops Q cs n (listed.setIfInBounds i true)) ((d, undef) :: e) A) : Run W0 N (DR P ops Q cs (n + 1) listed) e A := by
  intro a w hF hO
  refine wpAnyH_take (v := undef) ho hs hf hr (fun c a w => hq.ok c a _ undef w) (.inr ⟨gw_wanted hF hg, rfl⟩) (hS w hO) ?_
  exact k _ _ (hF.put (Nat.lt_of_succ_le (Nat.le_of_ble_eq_true hd)) undef) hO
theorem d_one {dst : Option Tmp} {Post : Value → List HP → Prop} (i : Nat) (hr : Region.ready .any ops listed = [i]) (ho : ops[i]? = some ⟨dst, op, ty, pos, af, g⟩) (hg : gw ops e g = some true) (h : Does P W0 N e A op Post)
    (hd : (match dst with | some d => Nat.blt d N.n | none => true) = true)
    (k : ∀ v B, Post v B → (∀ w, Own W0 w B → SC cs w) ∧ ((∀ w, Own W0 w B → SC cs w) → Run W0 N (DR P ops Q cs n (listed.setIfInBounds i true)) (match (generalizing := false) dst with | some d => (d, v) :: e | none => e) B)) : Run W0 N (DR P ops Q cs (n + 1) listed) e A := by
  intro a w hF hO
  refine wpAnyH_all hr (by simp) fun j hj => ?_
  obtain rfl : j = i := by simpa using hj
  unfold wpOp
  simp only [ho, gw_wanted hF hg, if_true]
  refine .inl (h a w _ _ _ _ _ _ _ hF hO fun v w' B hp hO' => ?_)
  obtain ⟨k1, k2⟩ := k v B hp
  refine ⟨k1 w' hO', ?_⟩
  have k2 := k2 k1
  cases dst with
  | none => exact k2 a w' hF hO'
  | some d => exact k2 _ w' (hF.put (Nat.lt_of_succ_le (Nat.le_of_ble_eq_true hd)) v) hO'
def DX (P : Program) (ops : Array Oper) (Q : Exit → Act → World → Prop) (cs : List (Nat × Nat × List Value)) (n : Nat) (listed : Array Bool) (i : Nat) : Act → World → Prop :=
  wpOp P ops Q i (fun a' w' => SC cs w' ∧ DR P ops Q cs n (listed.setIfInBounds i true) a' w')
def AllRun (W0 : World) (N : FSz) (K : Nat → Act → World → Prop) (e : Env) (A : List HP) : List Nat → Prop
  | [] => True
  | i :: is => Run W0 N (K i) e A ∧ AllRun W0 N K e A is
theorem AllRun.at_ {K : Nat → Act → World → Prop} : ∀ {is : List Nat}, AllRun W0 N K e A is → ∀ i ∈ is, Run W0 N (K i) e A
  | _ :: _, h, i, hi => by
    rcases List.mem_cons.1 hi with rfl | hi
    · exact h.1
    · exact AllRun.at_ h.2 i hi
theorem d_all {is : List Nat} (hr : Region.ready .any ops listed = is) (hne : is.isEmpty = false) (h : AllRun W0 N (DX P ops Q cs n listed) e A is) : Run W0 N (DR P ops Q cs (n + 1) listed) e A := by
  intro a w hF hO
  exact wpAnyH_all hr (by intro h0; subst h0; cases hne) fun i hi => h.at_ i hi a w hF hO
theorem dx_one {dst : Option Tmp} {Post : Value → List HP → Prop} {i : Nat} (ho : ops[i]? = some ⟨dst, op, ty, pos, af, g⟩) (hg : gw ops e g = some true) (h : Does P W0 N e A op Post)
    (hd : (match dst with | some d => Nat.blt d N.n | none => true) = true)
    (k : ∀ v B, Post v B → (∀ w, Own W0 w B → SC cs w) ∧ ((∀ w, Own W0 w B → SC cs w) → Run W0 N (DR P ops Q cs n (listed.setIfInBounds i true)) (match (generalizing := false) dst with | some d => (d, v) :: e | none => e) B)) : Run W0 N (DX P ops Q cs n listed i) e A := by
  intro a w hF hO
  unfold DX wpOp
  simp only [ho, gw_wanted hF hg, if_true]
  refine .inl (h a w _ _ _ _ _ _ _ hF hO fun v w' B hp hO' => ?_)
  obtain ⟨k1, k2⟩ := k v B hp
  refine ⟨k1 w' hO', ?_⟩
  have k2 := k2 k1
  cases dst with
  | none => exact k2 a w' hF hO'
  | some d => exact k2 _ w' (hF.put (Nat.lt_of_succ_le (Nat.le_of_ble_eq_true hd)) v) hO'
theorem d_done (hr : Region.ready .any ops listed = []) (k : Run W0 N (Ex Q .normal) e A) : Run W0 N (DR P ops Q cs n listed) e A := fun a w hF hO => wpAnyH_done hr (k a w hF hO) n
end
end Go.Proofs.YtnidndllknffgaaGreat
namespace Go.Proofs.YtnidndllknffgaaGreat
open Go.RowKit
set_option linter.unusedSimpArgs false
set_option linter.unusedVariables false
section
variable {α : Type} {f : α → List Value} {k : Nat}
theorem flat_len (hf : ∀ x, (f x).length = k) : ∀ (l : List α), (l.flatMap f).length = l.length * k
  | [] => by simp
  | x :: l => by rw [List.flatMap_cons, List.length_append, hf, flat_len hf l, List.length_cons, Nat.succ_mul, Nat.add_comm]
theorem flat_drop (hf : ∀ x, (f x).length = k) : ∀ (l : List α) (i : Nat) (sp : List Value), i ≤ l.length → (l.flatMap f ++ sp).drop (i * k) = (l.drop i).flatMap f ++ sp
  | l, 0, sp, _ => by simp
  | [], i + 1, sp, h => by simp at h
  | x :: l, i + 1, sp, h => by
    have h0 : (f x ++ (l.flatMap f ++ sp)).drop k = l.flatMap f ++ sp := by
      rw [List.drop_append_of_le_length (by rw [hf]; omega), List.drop_of_length_le (by rw [hf]; omega), List.nil_append]
    rw [List.flatMap_cons, List.append_assoc, Nat.succ_mul, Nat.add_comm (i * k) k, ← List.drop_drop, h0, List.drop_succ_cons]
    exact flat_drop hf l i sp (by simpa using h)
theorem flat_row (hf : ∀ x, (f x).length = k) (l : List α) (i : Nat) (sp : List Value) (h : i < l.length) : ((l.flatMap f ++ sp).drop (i * k)).take k = f l[i] := by
  rw [flat_drop hf l i sp (by omega), List.drop_eq_getElem_cons h, List.flatMap_cons, List.append_assoc]
  rw [List.take_append_of_le_length (by rw [hf]; omega), List.take_of_length_le (by rw [hf]; omega)]
theorem flat_get (hf : ∀ x, (f x).length = k) (l : List α) (i j : Nat) (sp : List Value) (h : i < l.length) (hj : j < k) : (l.flatMap f ++ sp)[i * k + j]? = (f l[i])[j]? := by
  have := congrArg (fun r => r[j]?) (flat_row hf l i sp h)
  simp only [List.getElem?_take_of_lt hj, List.getElem?_drop] at this
  exact this
theorem setR_eq : ∀ (vs l : List Value) (i : Nat), i + vs.length ≤ l.length → setR l i vs = l.take i ++ vs ++ l.drop (i + vs.length)
  | [], l, i, h => by simp [setR]
  | v :: vs, l, i, h => by
    simp only [List.length_cons] at h
    rw [setR, setR_eq vs (l.set i v) (i + 1) (by simp; omega)]
    have h1 : (l.set i v).take (i + 1) = l.take i ++ [v] := by
      rw [List.take_set, List.take_succ_eq_append_getElem (by omega)]
      rw [List.set_append_right _ _ (by simp; omega)]
      simp [Nat.min_eq_left (show i ≤ l.length by omega)]
    have h2 : (l.set i v).drop (i + 1 + vs.length) = l.drop (i + (vs.length + 1)) := by
      rw [List.drop_set_of_lt (by omega)]; congr 1; omega
    rw [h1, h2]; simp
theorem flat_take (hf : ∀ x, (f x).length = k) (l : List α) (i : Nat) (sp : List Value) (h : i ≤ l.length) : (l.flatMap f ++ sp).take (i * k) = (l.take i).flatMap f := by
  have e : l.flatMap f = (l.take i).flatMap f ++ (l.drop i).flatMap f := by rw [← List.flatMap_append, List.take_append_drop]
  have hl : ((l.take i).flatMap f).length = i * k := by rw [flat_len hf, List.length_take, Nat.min_eq_left h]
  rw [e, List.append_assoc, List.take_append_of_le_length (by omega), List.take_of_length_le (by omega)]
theorem flat_set (hf : ∀ x, (f x).length = k) (l : List α) (i : Nat) (x : α) (sp : List Value) (h : i < l.length) : setR (l.flatMap f ++ sp) (i * k) (f x) = (l.set i x).flatMap f ++ sp := by
  have hlen := flat_len hf l
  have hb : i * k + k ≤ l.length * k := by have := Nat.mul_le_mul_right k (show i + 1 ≤ l.length by omega); rw [Nat.succ_mul] at this; exact this
  rw [setR_eq _ _ _ (by rw [hf, List.length_append]; omega), hf, flat_take hf l i sp (by omega)]
  have e : i * k + k = (i + 1) * k := by rw [Nat.succ_mul]
  rw [e, flat_drop hf l (i + 1) sp (by omega), List.set_eq_take_append_cons_drop, if_pos h]
  simp [List.flatMap_append, List.flatMap_cons]
theorem set_seg (L : List Value) (o k j : Nat) (v : Value) (h : o + k ≤ L.length) (hj : j < k) : L.take o ++ ((L.drop o).take k).set j v ++ L.drop (o + k) = L.set (o + j) v := by
  have e : L = L.take o ++ ((L.drop o).take k ++ L.drop (o + k)) := by
    rw [← List.drop_drop, List.take_append_drop, List.take_append_drop]
  have h1 : (L.take o).length = o := by rw [List.length_take]; omega
  have h2 : ((L.drop o).take k).length = k := by rw [List.length_take, List.length_drop]; omega
  conv => rhs; rw [e]
  rw [List.set_append_right _ _ (by omega), h1, Nat.add_sub_cancel_left, List.set_append_left _ _ (by omega), List.append_assoc]
theorem flat_set1 (hf : ∀ x, (f x).length = k) (l : List α) (i j : Nat) (v : Value) (x : α) (sp : List Value) (h : i < l.length) (hj : j < k) (hx : f x = (f l[i]).set j v) : (l.flatMap f ++ sp).set (i * k + j) v = (l.set i x).flatMap f ++ sp := by
  have hb : i * k + k ≤ l.length * k := by have := Nat.mul_le_mul_right k (show i + 1 ≤ l.length by omega); rw [Nat.succ_mul] at this; exact this
  have hlen := flat_len hf l
  have hle : i * k + k ≤ (l.flatMap f ++ sp).length := by rw [List.length_append, hlen]; omega
  rw [← flat_set hf l i x sp h, hx, ← flat_row hf l i sp h, setR_eq _ _ _ (by rw [List.length_set, List.length_take, List.length_drop]; omega)]
  rw [List.length_set, List.length_take, List.length_drop, Nat.min_eq_left (by omega)]
  exact (set_seg _ _ _ _ _ hle hj).symm
end
section
variable {rd : Option Nat} {P : Program} {S : World → Prop} {W0 : World} {N : FSz} {Q : Exit → Act → World → Prop} {e : Env} {A B R : List HP} {ops : Array Oper} {rest : List Oper}
variable {op : Op} {ty t t' : TypeId} {pos : String} {af : Array Edge} {v u : Value} {d b off : Nat} {x y : Operand} {l l' vs : List Value}
theorem v_mkI {de : TypeDesc} (hu : P.underlying t = some de) (hn : ∀ ms, de ≠ .interface ms) (hx : ev e x = some v) : Val P S N e (.makeInterface t x) (.iface t v) := fun a w _ _ _ _ _ hF _ => by
  simp only [execOp, Instr.makeInterface, hF.eval hx, Sem.run_bind, run_und hu, Result.andThen_ok]
  cases de <;> first | rfl | exact absurd rfl (hn _)
theorem v_assert {de : TypeDesc} (hu : P.underlying t' = some de) (hn : ∀ ms, de ≠ .interface ms) (hx : ev e x = some (.iface t' v)) : Val P S N e (.typeAssert x t t' false) v := fun a w _ _ _ _ _ hF _ => by
  simp only [execOp, Instr.typeAssert, hF.eval hx, Sem.run_bind, run_und hu, Result.andThen_ok]
  cases de <;> first | (simp; done) | exact absurd rfl (hn _)
theorem v_mkFunc {fn : Fn} {fs cs : Array Operand} {us : List Value} (h1 : evs e fs.toList = some us) (h2 : evs e cs.toList = some vs) : Val P S N e (.makeFunc fn fs cs) (.func fn us.toArray vs.toArray) := fun a w _ _ _ _ _ hF _ => by
  have e1 : fs.map a.eval = us.toArray := by rw [← hF.evals h1]; apply Array.ext'; simp
  have e2 : cs.map a.eval = vs.toArray := by rw [← hF.evals h2]; apply Array.ext'; simp
  simp [execOp, Instr.makeFunc, e1, e2]
theorem add_zero (a : Addr) : a.add 0 = a := rfl
theorem v_sliceH {E n c : Nat} {a' : Option Addr} {k : IntKind} {h : Nat} {i : Int} (hu : P.underlying t = some (.slice E)) (hs : ∀ w, (sizeOf E).run P w = .ok d w) (hx : ev e x = some (.slice a' n c)) (hy : ev e y = some (.int k i)) (hi : i = (h : Int)) (hc : h ≤ c) :
    Val P S N e (.slice t x none (some y) none) (.slice a' h c) := fun a w _ _ _ _ _ hF _ => by
  subst hi
  have h1 : (0 : Int) ≤ (h : Int) ∧ (h : Int) ≤ (c : Int) := by omega
  simp only [execOp, Instr.sliceAt, Instr.slice, hF.eval hx, hF.eval hy, Sem.run_bind, run_und hu, Result.andThen_ok, Option.map_none, Option.map_some, Instr.sliceBounds, Instr.sliceBound, asIntOf, hs, Sem.run_pure, h1, and_self, if_true]
  by_cases hc0 : c = 0
  · simp [hc0]
  · simp [hc0, add_zero]
theorem d_invoke {recv : Operand} {nm : String} {xs : Array Operand} {ats : Array TypeId} {T : TypeId} {rv rv' : Value} {f : FuncId} {Post : Value → List HP → Prop} (hr : ev e recv = some (.iface T rv))
    (hm : ∀ w, (method (P.types.size + Made.depth) T rv nm).run P w = .ok (f, rv') w) (hc : ∀ args w, (callFunc f args).run P w = .ok (.enter f args) w) (hx : evs e xs.toList = some vs)
    (hs : Spec P W0 f (rv' :: vs) A Post) : Does P W0 N e A (.call { callee := .invoke recv nm, args := xs, argTypes := ats }) Post := by
  intro a w dst ty pos af g K Q hF hO k
  have he : xs.map a.eval = vs.toArray := by
    have := hF.evals hx
    rw [← this]; apply Array.ext'; simp
  unfold Oper.wp
  have hrun : (execOp a.eval { dst := dst, op := .call { callee := .invoke recv nm, args := xs, argTypes := ats }, type := ty, pos := pos, after := af, guard := g }).run P w = .ok (.enter f (rv' :: vs).toArray) w := by
    simp only [execOp, resolve, Sem.run_bind, Sem.run_pure, Result.andThen_ok, invoke, he, hF.eval hr]
    have e0 : (#[Value.iface T rv] ++ vs.toArray : Array Value)[0]? = some (.iface T rv) := by simp
    have e1 : (#[Value.iface T rv] ++ vs.toArray : Array Value).extract 1 (#[Value.iface T rv] ++ vs.toArray : Array Value).size = vs.toArray := by
      apply Array.ext'; simp
    simp only [e0, e1, callMethod, Sem.run_bind, run_program, Result.andThen_ok, hm]
    rw [show (#[rv'] ++ vs.toArray : Array Value) = (rv' :: vs).toArray by simp, hc]
  rw [hrun]
  refine (hs w hO).mono ?_
  rintro _ w' ⟨v, B, rfl, hp, hO'⟩
  exact k v w' B hp hO'
theorem d_callv {fx : Operand} {xs : Array Operand} {ats : Array TypeId} {f : FuncId} {us cs : List Value} {Post : Value → List HP → Prop} (hf : ev e fx = some (.func (.func f) us.toArray cs.toArray))
    (hc : ∀ args w, (callFunc f args).run P w = .ok (.enter f args) w) (hx : evs e xs.toList = some vs) (hs : Spec P W0 f (us ++ vs ++ cs) A Post) : Does P W0 N e A (.call { callee := .value fx, args := xs, argTypes := ats }) Post := by
  intro a w dst ty pos af g K Q hF hO k
  have he : xs.map a.eval = vs.toArray := by
    have := hF.evals hx
    rw [← this]; apply Array.ext'; simp
  unfold Oper.wp
  have hrun : (execOp a.eval { dst := dst, op := .call { callee := .value fx, args := xs, argTypes := ats }, type := ty, pos := pos, after := af, guard := g }).run P w = .ok (.enter f (us ++ vs ++ cs).toArray) w := by
    simp only [execOp, resolve, Deferred.ofValue, Sem.run_bind, Sem.run_pure, Result.andThen_ok, invoke, he, hF.eval hf]
    rw [show (us.toArray ++ vs.toArray ++ cs.toArray : Array Value) = (us ++ vs ++ cs).toArray by simp, hc]
  rw [hrun]
  refine (hs w hO).mono ?_
  rintro _ w' ⟨v, B, rfl, hp, hO'⟩
  exact k v w' B hp hO'
theorem does_ent {Post : Value → List HP → Prop} (hp : Ent A B) (h : Does P W0 N e B op Post) : Does P W0 N e A op Post :=
  fun a w dst ty pos af g K Q hF hO k => h a w dst ty pos af g K Q hF (hO.ent hp) k
def osl (E : TypeId) (sz : Nat) (v : Value) (xs : List Value) : HP := fun l =>
  (v = .slice none 0 0 ∧ xs = [] ∧ l = []) ∨
  ∃ g n cap sp, v = .slice (some ⟨g, 0, none⟩) n cap ∧ n ≤ cap ∧ cap ≤ maxLen ∧ xs.length = n * sz ∧ (xs ++ sp).length = cap * sz ∧ l = [(g, cob (xs ++ sp) E)]
theorem Own.osl {E sz : Nat} {w : World} {xs : List Value} (h : Own W0 w (osl E sz v xs :: A)) : (v = .slice none 0 0 ∧ xs = [] ∧ Own W0 w A) ∨
    ∃ g n cap sp, v = .slice (some ⟨g, 0, none⟩) n cap ∧ n ≤ cap ∧ cap ≤ maxLen ∧ xs.length = n * sz ∧ (xs ++ sp).length = cap * sz ∧ Own W0 w (pt g (cob (xs ++ sp) E) :: A) := by
  obtain ⟨ls, ⟨l1, l2, rfl, h1, hs⟩, hn, hb⟩ := h.owns
  rcases h1 with ⟨h1, h2, rfl⟩ | ⟨g, n, cap, sp, h1, h2, h3, h4, h5, rfl⟩
  · exact .inl ⟨h1, h2, h.os, h.tape, h.output, h.size, h.base, l2, hs, by simpa using hn, fun p hp => hb p (by simpa using hp)⟩
  · exact .inr ⟨g, n, cap, sp, h1, h2, h3, h4, h5, h.os, h.tape, h.output, h.size, h.base, _, ⟨_, l2, rfl, rfl, hs⟩, hn, hb⟩
theorem run_osl {K : Act → World → Prop} {E sz : Nat} {xs : List Value} (h0 : v = .slice none 0 0 → xs = [] → Run W0 N K e A)
    (h1 : ∀ g n cap sp, v = .slice (some ⟨g, 0, none⟩) n cap → n ≤ cap → cap ≤ maxLen → xs.length = n * sz → (xs ++ sp).length = cap * sz → Run W0 N K e (pt g (cob (xs ++ sp) E) :: A)) : Run W0 N K e (osl E sz v xs :: A) := fun a w hF hO => by
  rcases hO.osl with ⟨k1, k2, k3⟩ | ⟨g, n, cap, sp, k1, k2, k3, k4, k5, k6⟩
  · exact h0 k1 k2 a w hF k3
  · exact h1 g n cap sp k1 k2 k3 k4 k5 a w hF k6
theorem spec_osl {f : FuncId} {args : List Value} {Post : Value → List HP → Prop} {E sz : Nat} {xs : List Value} (h0 : v = .slice none 0 0 → xs = [] → Spec P W0 f args A Post)
    (h1 : ∀ g n cap sp, v = .slice (some ⟨g, 0, none⟩) n cap → n ≤ cap → cap ≤ maxLen → xs.length = n * sz → (xs ++ sp).length = cap * sz → Spec P W0 f args (pt g (cob (xs ++ sp) E) :: A) Post) : Spec P W0 f args (osl E sz v xs :: A) Post := fun w hO => by
  rcases hO.osl with ⟨k1, k2, k3⟩ | ⟨g, n, cap, sp, k1, k2, k3, k4, k5, k6⟩
  · exact h0 k1 k2 w k3
  · exact h1 g n cap sp k1 k2 k3 k4 k5 w k6
theorem ent_osl {E sz g n cap : Nat} {xs sp : List Value} [h : Tk pt g A (cob (xs ++ sp) E) R] (h1 : n ≤ cap) (h2 : cap ≤ maxLen) (h3 : xs.length = n * sz) (h4 : (xs ++ sp).length = cap * sz) [k : Ent R B] : Ent A (osl E sz (.slice (some ⟨g, 0, none⟩) n cap) xs :: B) :=
  (Ent.ofPerm h.perm).trans ((Ent.cons k).trans ⟨fun l hl => by
    obtain ⟨l1, l2, rfl, rfl, hs⟩ := hl
    exact ⟨_, [], ⟨_, l2, rfl, .inr ⟨g, n, cap, sp, rfl, h1, h2, h3, h4, rfl⟩, hs⟩, by simp⟩⟩)
theorem ent_osl_nil {E sz : Nat} [k : Ent A B] : Ent A (osl E sz (.slice none 0 0) [] :: B) :=
  k.trans ⟨fun l hl => ⟨l, [], ⟨[], l, rfl, .inl ⟨rfl, rfl, rfl⟩, hl⟩, by simp⟩⟩
theorem d_append {E sz n m c cx by_ : Nat} {bx ox : Nat} {info : TypeInfo} {z : Value} {an : Option Addr} {xs news : List Value} (hu : P.underlying t = some (.slice E))
    (hi : P.info? E = some info) (hz : info.zero = some z) (hsz : info.size = sz) (hby : info.bytes = by_) (hz1 : z.cells.size = sz) (hsz0 : 0 < sz)
    (hx : ev e x = some (.slice an n c)) (hy : ev e y = some (.slice (some ⟨bx, ox, none⟩) m cx)) [h : Tk (osl E sz) (.slice an n c) A xs R]
    (hnew : Cells (OwnP W0 A) bx ox news) (hnl : news.length = m * sz) (h1 : allOne news = true) (h63 : n + m ≤ maxLen) (hbig : (n + m) * by_ ≤ 140737488355328) :
    Does P W0 N e A (.call { callee := .builtin .append, args := #[x, y], argTypes := #[t, t] }) (fun v B => ∃ a' c', v = .slice a' (n + m) c' ∧ B = osl E sz v (xs ++ news) :: R) := by
  intro a w dst ty pos af g K Q hF hO k
  have hO' := hO.tk (r := osl E sz) (b := .slice an n c)
  have hcell : ∀ j u, news[j]? = some u → w.cell? ((⟨bx, ox, none⟩ : Addr).add j) = some u := fun j u hj => by rw [add_none]; exact hnew j u hj w hO
  have hone : ∀ u ∈ news, u.oneCell' = true := fun u hm => by simpa [allOne] using List.all_eq_true.1 h1 u hm
  have hsmall : n + m ≤ 9223372036854775807 := by simp only [maxLen] at h63; omega
  suffices hh : ∃ a' c' w', (Builtin.append_ #[t, t] ty #[.slice an n c, .slice (some ⟨bx, ox, none⟩) m cx]).run P w = .ok (.slice a' (n + m) c') w' ∧ Own W0 w' (osl E sz (.slice a' (n + m) c') (xs ++ news) :: R) by
    obtain ⟨a', c', w', hrun, hown⟩ := hh
    unfold Oper.wp
    have hexec : (execOp a.eval { dst := dst, op := .call { callee := .builtin .append, args := #[x, y], argTypes := #[t, t] }, type := ty, pos := pos, after := af, guard := g }).run P w = .ok (.value (.slice a' (n + m) c')) w' := by
      simp only [execOp, resolve, invoke, builtin, Sem.run_bind, Sem.run_pure, Result.andThen_ok, List.map_toArray, List.map_cons, List.map_nil, hF.eval hx, hF.eval hy, hrun]
    rw [hexec]
    exact k _ w' _ ⟨a', c', rfl, rfl⟩ hown
  subst hsz
  subst hby
  rcases hO'.osl with ⟨k1, k2, k3⟩ | ⟨g, n', cap, sp, k1, k2, k3, k4, k5, k6⟩
  · cases k1; subst k2
    by_cases hm : m = 0
    · subst hm
      have hn : news = [] := List.eq_nil_of_length_eq_zero (by simpa using hnl)
      subst hn
      refine ⟨none, 0, w, ?_, k3.ent ent_osl_nil⟩
      simp [Builtin.append_, run_und hu, sizeOf, typeInfo, hi, Builtin.lenOf, Builtin.firstCells, loadCells, loadCellsFrom]
    · have hr := run_append_nil (P := P) w t ty E info z hu hi hz ⟨bx, ox, none⟩ m cx news hnl hcell (by omega) (by omega) (by have hb := hbig; simp only [Nat.zero_add] at hb; omega)
      refine ⟨_, _, _, by simpa using hr, ?_⟩
      have hge := grownCap_ge w m 0 E
      have hcm := grownCap_le_maxLen w m 0 E (by omega)
      have hnew' := (Own.drew k3 (w.drawn + 1)).new (cob (news ++ (Builtin.zeroCells z.cells (grownCap w m 0 E - m)).toList) E)
      have hw : (w.drew.alloc (.cells (news.toArray ++ Builtin.zeroCells z.cells (grownCap w m 0 E - m)) E)) = { ({ w with drawn := w.drawn + 1 } : World) with heap := w.heap.push (cob (news ++ (Builtin.zeroCells z.cells (grownCap w m 0 E - m)).toList) E) } := by
        have ea : (news ++ (Builtin.zeroCells z.cells (grownCap w m 0 E - m)).toList).toArray = news.toArray ++ Builtin.zeroCells z.cells (grownCap w m 0 E - m) := by apply Array.ext'; simp
        simp only [World.drew, World.alloc, cob, ea]
      rw [hw]
      refine hnew'.ent ?_
      have := @ent_osl (pt w.heap.size (cob (news ++ (Builtin.zeroCells z.cells (grownCap w m 0 E - m)).toList) E) :: R) R R E info.size w.heap.size m (grownCap w m 0 E) news _ _ hge hcm hnl (by rw [List.length_append, hnl]; simp only [Array.length_toList, size_zeroCells, hz1, ← Nat.add_mul]; congr 1; omega) _
      simpa using this
  · cases k1
    by_cases hroom : n + m ≤ c
    · have hfit : n * info.size + news.length ≤ ((xs ++ sp).toArray).size := by rw [hnl, List.size_toArray, k5, ← Nat.add_mul]; exact Nat.mul_le_mul_right _ hroom
      have hr := run_append_room (P := P) w t ty E info hu hi g n c (xs ++ sp).toArray k6.has.2 ⟨bx, ox, none⟩ m cx news hnl hcell hone hroom hfit
      refine ⟨_, _, _, hr, ?_⟩
      have hl : (xs ++ sp).toArray.toList.take (n * info.size) ++ news ++ (xs ++ sp).toArray.toList.drop (n * info.size + news.length) = xs ++ news ++ sp.drop news.length := by
        simp only [← k4]
        rw [List.take_left, ← List.drop_drop, List.drop_left]
      rw [hl]
      have hset : Own W0 (w.setRow g (xs ++ news ++ sp.drop news.length).toArray) (pt g (cob (xs ++ news ++ sp.drop news.length) E) :: R) :=
        k6.set rfl rfl rfl (by simp [World.setRow]) (setRow_heap w g _ _ E _ k6.has.2) (fun k hk => setRow_other w g k _ hk)
      refine hset.ent ?_
      have hspl : news.length ≤ sp.length := by
        have := k5; rw [List.length_append, k4] at this; rw [hnl]
        have h3 := Nat.mul_le_mul_right info.size hroom; rw [Nat.add_mul] at h3; omega
      exact @ent_osl _ R R E info.size g (n + m) c (xs ++ news) (sp.drop news.length) _ hroom k3 (by rw [List.length_append, k4, hnl, Nat.add_mul]) (by
        rw [← k5]; simp only [List.length_append, List.length_drop]; omega) _
    · have holds : ∀ j u, xs[j]? = some u → w.cell? ((⟨g, 0, none⟩ : Addr).add j) = some u := fun j u hj => by
        rw [add_none, Nat.zero_add]
        have := k6.has.2
        simp only [World.cell?, this, Option.isSome_none, Bool.false_eq_true, if_false]
        rw [List.getElem?_toArray, List.getElem?_append_left (by
          rcases Nat.lt_or_ge j xs.length with q | q
          · exact q
          · rw [List.getElem?_eq_none q] at hj; cases hj)]
        exact hj
      have hr := run_append_grow (P := P) w t ty E info z hu hi hz ⟨g, 0, none⟩ n c xs k4 holds ⟨bx, ox, none⟩ m cx news hnl hcell (by omega) (by omega) (growslice_fits (by omega) hbig)
      refine ⟨_, _, _, hr, ?_⟩
      have hge := grownCap_ge w (n + m) c E
      have hcm := grownCap_le_maxLen w (n + m) c E h63
      have hnew' := (Own.drew k6.drop (w.drawn + 1)).new (cob (xs ++ news ++ (Builtin.zeroCells z.cells (grownCap w (n + m) c E - (n + m))).toList) E)
      have hw : (w.drew.alloc (.cells (xs.toArray ++ news.toArray ++ Builtin.zeroCells z.cells (grownCap w (n + m) c E - (n + m))) E)) = { ({ w with drawn := w.drawn + 1 } : World) with heap := w.heap.push (cob (xs ++ news ++ (Builtin.zeroCells z.cells (grownCap w (n + m) c E - (n + m))).toList) E) } := by
        have ea : (xs ++ news ++ (Builtin.zeroCells z.cells (grownCap w (n + m) c E - (n + m))).toList).toArray = xs.toArray ++ news.toArray ++ Builtin.zeroCells z.cells (grownCap w (n + m) c E - (n + m)) := by apply Array.ext'; simp
        simp only [World.drew, World.alloc, cob, ea]
      rw [hw]
      refine hnew'.ent ?_
      exact @ent_osl _ R R E info.size w.heap.size (n + m) (grownCap w (n + m) c E) (xs ++ news) _ _ hge hcm (by rw [List.length_append, k4, hnl, Nat.add_mul]) (by
        rw [List.length_append, List.length_append, k4, hnl]; simp only [Array.length_toList, size_zeroCells, hz1, ← Nat.add_mul]; congr 1; omega) _
theorem cells_all [h : Tk pt b A (cob l ty) R] : Cells (OwnP W0 A) b 0 l := cells_own (by simp)
def ElsK (k : Nat) (e : Env) : Nat → List (Nat × Operand) → List (List Value) → Prop
  | _, [], [] => True
  | i, (j, x) :: ps, r :: rs => j = i ∧ ev e x = some (.agg r.toArray) ∧ r.length = k ∧ ElsK k e (i + 1) ps rs
  | _, _, _ => False
theorem elsK_nil {k i : Nat} : ElsK k e i [] [] := trivial
theorem elsK_cons {k i : Nat} {ps : List (Nat × Operand)} {r : List Value} {rs : List (List Value)} (h : ev e x = some (.agg r.toArray)) (hl : r.length = k) (hr : ElsK k e (i + 1) ps rs) : ElsK k e i ((i, x) :: ps) (r :: rs) := ⟨rfl, h, hl, hr⟩
theorem elsK_fill {a : Act} {k : Nat} (he : ∀ x v, ev e x = some v → a.eval x = v) : ∀ (ps : List (Nat × Operand)) (rs : List (List Value)) (done l : List Value) (i : Nat), done.length = i * k → ElsK k e i ps rs → l.length = rs.length * k →
    Instr.fill (fun i => some (i * k, k)) (done ++ l).toArray (ps.map fun (i, x) => (i, a.eval x)) = some (done ++ rs.flatten).toArray
  | [], [], done, l, i, _, _, hl => by
    have : l = [] := List.length_eq_zero_iff.1 (by simpa using hl)
    subst this; rfl
  | [], _ :: _, _, _, _, _, h, _ => h.elim
  | _ :: _, [], _, _, _, _, h, _ => by cases h
  | (j, x) :: ps, r :: rs, done, l, i, hd, h, hl => by
    obtain ⟨rfl, hx, h1, hr⟩ := h
    have hv := he x _ hx
    rw [List.length_cons, Nat.succ_mul] at hl
    have hc : ¬ (r.length ≠ k) := by omega
    have hc2 : ¬ (j * k + r.length > (done ++ l).length) := by rw [List.length_append]; omega
    simp only [List.map_cons, Instr.fill, hv, Value.cells, List.size_toArray, hc, hc2, decide_false, Bool.or_false, Bool.false_eq_true, if_false]
    rw [← hd, foldl_set, setR_eq _ _ _ (by rw [List.length_append]; omega), hd]
    have e1 : (done ++ l).take (j * k) ++ r ++ (done ++ l).drop (j * k + r.length) = (done ++ r) ++ l.drop k := by
      rw [← hd, List.take_left, ← List.drop_drop, List.drop_left, h1]
    rw [e1, elsK_fill he ps rs (done ++ r) (l.drop k) (j + 1) (by rw [List.length_append, hd, h1, Nat.succ_mul]) hr (by rw [List.length_drop]; omega)]
    simp
theorem d_sliceAgg {E n k : Nat} {z : List Value} {ps : Array (Nat × Operand)} {rs : List (List Value)} (hu : P.underlying t = some (.slice E)) (hs : ∀ w, (sizeOf E).run P w = .ok k w) (hz : ∀ w, (zeroValue E).run P w = .ok (.agg z.toArray) w) (hzl : z.length = k)
    (hel : ElsK k e 0 ps.toList rs) (hn : rs.length = n) (hn0 : n ≠ 0) (hk0 : k ≠ 0) (hn2 : n * k ≤ 100000) :
    Does P W0 N e A (.buildSlice t n ps) (fun v B => ∃ b, v = .slice (some ⟨b, 0, none⟩) n n ∧ B = pt b (cob rs.flatten E) :: A) :=
  d_new (g := fun b => .slice (some ⟨b, 0, none⟩) n n) (fun a w _ _ _ _ _ hF _ => by
    have hfl := elsK_fill (k := k) (fun x v h => hF.eval h) ps.toList rs [] ((Array.range (n * k)).map (z.toArray[· % z.toArray.size]!)).toList 0 (by simp) hel (by simp [hn])
    simp only [List.nil_append, Array.toArray_toList] at hfl
    have hbig : ¬ (n * k > 2 ^ 24) := by omega
    have hn1 : ¬ (n * k = 0) := by rw [Nat.mul_eq_zero]; omega
    simp only [execOp, Instr.buildSlice, Sem.run_bind, run_und hu, Result.andThen_ok, hs, Array.toList_map, Sem.run_ite, if_neg hbig, if_neg hn1, hz, Sem.run_pure, Value.cells]
    rw [hfl]
    rfl)
theorem perm2 {K1 K2 X1 X2 : Type} {r1 : K1 → X1 → HP} {b1 : K1} {x1 : X1} {R1 : List HP} {r2 : K2 → X2 → HP} {b2 : K2} {x2 : X2} [h1 : Tk r1 b1 A x1 R1] [h2 : Tk r2 b2 R1 x2 R] : A.Perm (r1 b1 x1 :: r2 b2 x2 :: R) := h1.perm.trans (h2.perm.cons _)
theorem perm1 {K1 X1 : Type} {r1 : K1 → X1 → HP} {b1 : K1} {x1 : X1} [h1 : Tk r1 b1 A x1 R] : A.Perm (r1 b1 x1 :: R) := h1.perm
theorem d_invoke1 {K1 X1 : Type} {r1 : K1 → X1 → HP} {b1 : K1} {x1 : X1} {recv : Operand} {nm : String} {xs : Array Operand} {ats : Array TypeId} {T : TypeId} {rv rv' : Value} {f : FuncId} {Post : Value → List HP → Prop} (hr : ev e recv = some (.iface T rv))
    (hm : ∀ w, (method (P.types.size + Made.depth) T rv nm).run P w = .ok (f, rv') w) (hc : ∀ args w, (callFunc f args).run P w = .ok (.enter f args) w) (hx : evs e xs.toList = some vs)
    (hs : Spec P W0 f (rv' :: vs) (r1 b1 x1 :: R) Post) [h1 : Tk r1 b1 A x1 R] : Does P W0 N e A (.call { callee := .invoke recv nm, args := xs, argTypes := ats }) Post :=
  does_perm perm1 (d_invoke hr hm hc hx hs)
theorem d_callv1 {K1 X1 : Type} {r1 : K1 → X1 → HP} {b1 : K1} {x1 : X1} {fx : Operand} {xs : Array Operand} {ats : Array TypeId} {f : FuncId} {us cs : List Value} {Post : Value → List HP → Prop} (hf : ev e fx = some (.func (.func f) us.toArray cs.toArray))
    (hc : ∀ args w, (callFunc f args).run P w = .ok (.enter f args) w) (hx : evs e xs.toList = some vs) (hs : Spec P W0 f (us ++ vs ++ cs) (r1 b1 x1 :: R) Post) [h1 : Tk r1 b1 A x1 R] : Does P W0 N e A (.call { callee := .value fx, args := xs, argTypes := ats }) Post :=
  does_perm perm1 (d_callv hf hc hx hs)
def chk (F : List HP → Prop) : HP := fun l => ∃ C, F C ∧ Sat C l
theorem Own.chk {F : List HP → Prop} {w : World} (h : Own W0 w (chk F :: R)) : ∃ C, F C ∧ Own W0 w (C ++ R) := by
  obtain ⟨ls, ⟨l1, l2, rfl, ⟨C, hC, h1⟩, hs⟩, hn, hb⟩ := h.owns
  exact ⟨C, hC, h.os, h.tape, h.output, h.size, h.base, _, Sat.append.2 ⟨l1, l2, rfl, h1, hs⟩, hn, hb⟩
theorem ent_chk {F : List HP → Prop} {C : List HP} (h : F C) : Ent (C ++ R) (chk F :: R) := ⟨fun l hl => by
  obtain ⟨l1, l2, rfl, h1, h2⟩ := Sat.append.1 hl
  exact ⟨l1 ++ l2, [], ⟨l1, l2, rfl, ⟨C, h, h1⟩, h2⟩, by simp⟩⟩
theorem run_chk {K : Act → World → Prop} {F : List HP → Prop} (h : ∀ C, F C → Run W0 N K e (C ++ R)) : Run W0 N K e (chk F :: R) := fun a w hF hO => by
  obtain ⟨C, hC, hO'⟩ := hO.chk
  exact h C hC a w hF hO'
theorem spec_chk {f : FuncId} {args : List Value} {Post : Value → List HP → Prop} {F : List HP → Prop} (h : ∀ C, F C → Spec P W0 f args (C ++ R) Post) : Spec P W0 f args (chk F :: R) Post := fun w hO => by
  obtain ⟨C, hC, hO'⟩ := hO.chk
  exact h C hC w hO'
theorem spec_post {f : FuncId} {args : List Value} {Post Post' : Value → List HP → Prop} (h : Spec P W0 f args A Post) (k : ∀ v B, Post v B → ∃ B', Post' v B' ∧ Ent B B') : Spec P W0 f args A Post' := fun w hO =>
  (h w hO).mono fun e w' ⟨v, B, h1, h2, h3⟩ => by
    obtain ⟨B', h4, h5⟩ := k v B h2
    exact ⟨v, B', h1, h4, h3.ent h5⟩
theorem run_tk {K X : Type} {r : K → X → HP} {b : K} {x : X} {Kt : Act → World → Prop} [h : Tk r b A x R] (k : Run W0 N Kt e (r b x :: R)) : Run W0 N Kt e A := run_perm h.perm k
theorem spec_perm {f : FuncId} {args : List Value} {Post : Value → List HP → Prop} (hp : A.Perm B) (h : Spec P W0 f args B Post) : Spec P W0 f args A Post := fun w hO => h w (hO.perm hp)
end
end Go.Proofs.YtnidndllknffgaaGreat
namespace Go.Proofs.YtnidndllknffgaaGreat
open Go.RowKit
theorem mixed : Tryz.prog.follows .mixedOrders = true := by kernel_rfl
end Go.Proofs.YtnidndllknffgaaGreat
namespace Go.Proofs.YtnidndllknffgaaGreat
open Go.RowKit
set_option linter.unusedSimpArgs false
set_option linter.unusedVariables false
structure RecX where
  e : Env
  n : Nat
  ps : Array Tmp
  asg : Code
  body : Code
  st : LoopState
  pe : Option Code
  D : Nat
def RecX.loop (x : RecX) (fn : FuncId) (tmps : Array Value) : Loop := { state := x.st, pending := x.pe, fn := fn, tmps := tmps, params := x.ps, assign := x.asg, body := x.body, defers := x.D }
def recH (L : Nat) (x : RecX) : HP := chk (fun C => ∃ fn tmps, tmps.size = x.n ∧ (∀ t v, get? x.e t = some v → tmps[t]? = some v) ∧ C = [pt L (.loop (x.loop fn tmps))])
section
variable {rd : Option Nat} {P : Program} {W0 : World} {N : FSz} {Q : Exit → Act → World → Prop} {e : Env} {A B R : List HP} {ops : Array Oper} {rest : List Oper} {L : Nat} {x : RecX}
theorem Own.loopRec {w : World} (h : Own W0 w (recH L x :: R)) : ∃ fn tmps, tmps.size = x.n ∧ (∀ t v, get? x.e t = some v → tmps[t]? = some v) ∧ Own W0 w (pt L (.loop (x.loop fn tmps)) :: R) := by
  obtain ⟨C, ⟨fn, tmps, h1, h2, rfl⟩, hO⟩ := h.chk
  exact ⟨fn, tmps, h1, h2, hO⟩
theorem Own.toRec {w : World} {fn : FuncId} {tmps : Array Value} (h1 : tmps.size = x.n) (h2 : ∀ t v, get? x.e t = some v → tmps[t]? = some v) (h : Own W0 w (pt L (.loop (x.loop fn tmps)) :: R)) : Own W0 w (recH L x :: R) :=
  h.ent (ent_chk (C := [pt L (.loop (x.loop fn tmps))]) ⟨fn, tmps, h1, h2, rfl⟩)
theorem Own.turn {w : World} {b : Nat} {o : Obj} (h : Own W0 w (pt b o :: R)) (o' : Obj) : Own W0 (w.putObj b o') (pt b o' :: R) :=
  h.set rfl rfl rfl (by simp) (World.putObj_heap_same (by
    rcases Nat.lt_or_ge b w.heap.size with q | q
    · exact q
    · have := h.has.2; rw [Array.getElem?_eq_none q] at this; cases this)) (fun k hk => World.putObj_heap_other hk)
def Rounds (P : Program) (W0 : World) (L : Nat) (args : List Value) (A : List HP) (Post : Value → List HP → Prop) : Prop :=
  ∀ w, Own W0 w A → ∃ f tmps asg body, (Instr.yield L args.toArray).run P w = .ok (.round L f tmps asg body) w ∧ RoundIn (FW none) 0 P L f tmps asg body w (fun e w' => ∃ v B, e = .returned v ∧ Post v B ∧ Own W0 w' B)
theorem s_yield {fx : Operand} {xs : Array Operand} {ats : Array TypeId} {vs : List Value} {Post : Value → List HP → Prop} {dst : Option Tmp} {ty : TypeId} {pos : String} {af : Array Edge} (hf : ev e fx = some (.func (.yield L) #[] #[])) (hx : evs e xs.toList = some vs)
    (hd : (match dst with | some d => Nat.blt d N.n | none => true) = true)
    (hr : Rounds P W0 L vs A Post) (k : ∀ v B, Post v B → Run W0 N (wpL rd P ops Q rest) (match (generalizing := false) dst with | some d => (d, v) :: e | none => e) B) :
    Run W0 N (wpL rd P ops Q ({ dst := dst, op := .call { callee := .value fx, args := xs, argTypes := ats }, type := ty, pos := pos, after := af, guard := none } :: rest)) e A := by
  intro a w hF hO
  simp only [wpL, Region.wanted, if_true]
  refine .inr ⟨fun _ _ => trivial, ?_⟩
  have he : xs.map a.eval = vs.toArray := by
    have := hF.evals hx
    rw [← this]; apply Array.ext'; simp
  obtain ⟨f, tmps, asg, body, hy, hR⟩ := hr w hO
  have hrun : (execOp a.eval { dst := dst, op := .call { callee := .value fx, args := xs, argTypes := ats }, type := ty, pos := pos, after := af, guard := none }).run P w = .ok (.round L f tmps asg body) w := by
    simp only [execOp, resolve, Deferred.ofValue, Sem.run_bind, Sem.run_pure, Result.andThen_ok, invoke, he, hF.eval hf]
    have : (#[] ++ vs.toArray : Array Value) = vs.toArray := by simp
    simp only [this]; exact hy
  have hsem : Oper.semAt (FW rd).round a.eval { dst := dst, op := .call { callee := .value fx, args := xs, argTypes := ats }, type := ty, pos := pos, after := af, guard := none } = execOp a.eval { dst := dst, op := .call { callee := .value fx, args := xs, argTypes := ats }, type := ty, pos := pos, after := af, guard := none } :=
    Oper.semAt_eq _ _ _ (fun c h => by cases h)
  rw [hsem, hrun]
  refine ⟨fun h => (by cases h), RoundIn.mono hR ?_⟩
  rintro _ w' ⟨v, B, rfl, hp, hO'⟩
  have k := k v B hp
  cases dst with
  | none => exact k a w' hF hO'
  | some d => exact k _ w' (hF.put (Nat.lt_of_succ_le (Nat.le_of_ble_eq_true hd)) v) hO'
def putsE : List Nat → List Value → Env → Env
  | p :: ps, v :: vs, e => putsE ps vs ((p, v) :: e)
  | _, _, e => e
theorem fr_puts {n : Nat} {ds : List Deferred} : ∀ (ps : List Nat) (vs : List Value) (e : Env) (tmps : Array Value), (ps.all fun p => Nat.blt p n) = true → Fr { tmps := tmps, defers := ds } ⟨n, ds⟩ e →
    Fr { tmps := (ps.zip vs).foldl (fun t (p, v) => t.setIfInBounds p v) tmps, defers := ds } ⟨n, ds⟩ (putsE ps vs e)
  | [], _, e, tmps, _, h => by simpa [putsE] using h
  | p :: ps, [], e, tmps, _, h => by simpa [putsE] using h
  | p :: ps, v :: vs, e, tmps, hp, h => by
    simp only [List.all_cons, Bool.and_eq_true] at hp
    have := h.put (Nat.lt_of_succ_le (Nat.le_of_ble_eq_true hp.1)) v
    exact fr_puts ps vs _ _ hp.2 this
def BeginK (P : Program) (L : Nat) (body : Code) (Q : Exit → Act → World → Prop) : Act → World → Prop := fun a w => ∃ w₂, (Instr.beginRound L).run P w = .ok () w₂ ∧ body.wpR (some L) P Q a w₂
theorem n_begin {body : Code} [h : Tk recH L A x R] (hs : x.st = .ready) (k : Run W0 N (body.wpR (some L) P Q) e (recH L { x with st := .busy } :: R)) : Run W0 N (Ex (Exit.then (BeginK P L body Q) (fun _ _ _ => False)) .normal) e A := by
  intro a w hF hO
  obtain ⟨fn, tmps, h1, h2, hO1⟩ := (hO.tk (r := recH) (b := L)).loopRec
  refine ⟨_, run_beginRound hO1.has.2 (by exact hs), k a _ hF ?_⟩
  exact Own.toRec (x := { x with st := .busy }) h1 h2 (hO1.turn _)
def RoundQ (P : Program) (W0 : World) (L : Nat) (Post : Value → List HP → Prop) : Exit → Act → World → Prop := roundPost P L (fun e w' => ∃ v B, e = .returned v ∧ Post v B ∧ Own W0 w' B)
theorem r_go {Post : Value → List HP → Prop} [h : Tk recH L A x R] (hp : ∃ B, Post (.bool true) B ∧ Ent (recH L { x with st := .ready, pe := none } :: R) B) : Run W0 N (Ex (RoundQ P W0 L Post) .normal) e A := by
  intro a w hF hO
  obtain ⟨fn, tmps, h1, h2, hO1⟩ := (hO.tk (r := recH) (b := L)).loopRec
  obtain ⟨B, hB, hE⟩ := hp
  exact ⟨_, _, run_endRound none hO1.has.2, _, B, rfl, hB, Own.ent (Own.toRec (x := { x with st := .ready, pe := none }) h1 h2 (hO1.turn _)) hE⟩
theorem rounds_intro {args : List Value} {Post : Value → List HP → Prop} [h : Tk recH L A x R] (hl : args.length = x.ps.size) (hps : (x.ps.toList.all fun p => Nat.blt p x.n) = true)
    (k : Run W0 ⟨x.n, []⟩ (x.asg.wpR (some L) P (Exit.then (BeginK P L x.body (RoundQ P W0 L Post)) (fun _ _ _ => False))) (putsE x.ps.toList args x.e) (recH L x :: R)) : Rounds P W0 L args A Post := by
  intro w hO
  obtain ⟨fn, tmps, h1, h2, hO1⟩ := (hO.tk (r := recH) (b := L)).loopRec
  refine ⟨_, _, _, _, run_yield hO1.has.2 (by simpa [RecX.loop] using hl), ?_⟩
  refine roundIn_of_wpIn (F := FW none) trivial ?_
  have hF := fr_puts (n := x.n) (ds := []) x.ps.toList args x.e tmps hps ⟨rfl, h1, h2⟩
  have e1 : ((x.loop fn tmps).params.zip args.toArray).foldl (fun t (p, v) => t.setIfInBounds p v) (x.loop fn tmps).tmps = (x.ps.toList.zip args).foldl (fun t (p, v) => t.setIfInBounds p v) tmps := by
    simp only [RecX.loop]
    rw [← Array.foldl_toList, Array.toList_zip]
  rw [e1]
  exact k _ w hF (Own.toRec h1 h2 hO1)
end
end Go.Proofs.YtnidndllknffgaaGreat
namespace Go.Proofs.YtnidndllknffgaaGreat
open Go.RowKit
set_option linter.unusedSimpArgs false
set_option linter.unusedVariables false
section
variable {rd : Option Nat} {P : Program} {S : World → Prop} {W0 : World} {N : FSz} {Q : Exit → Act → World → Prop} {e : Env} {A B R : List HP} {ops : Array Oper} {rest : List Oper}
variable {op : Op} {ty t t' : TypeId} {pos : String} {af : Array Edge} {v u : Value} {d b off : Nat} {x y z : Operand} {l l' vs : List Value}
theorem Cells.weak (h : Cells (OwnP W0 B) b off vs) [k : Ent A B] : Cells (OwnP W0 A) b off vs := fun i v hi => (h i v hi).weak
theorem q_slice_nil {E d : Nat} {a : Option Addr} {n c : Nat} (hu : P.underlying t = some (.slice E)) : EqN P (d + 1) t (.slice a n c) (.slice none 0 0) a.isNone := fun w => by
  cases a <;> simp [Op.equalIn, run_und hu]
theorem v_eql_slice_nil {E : TypeId} {a : Option Addr} {n c : Nat} (hu : P.underlying t = some (.slice E)) (hx : ev e x = some (.slice a n c)) (hy : ev e y = some (.slice none 0 0)) : Val P S N e (.binOp .eql t x y t') (.bool a.isNone) :=
  binVal hx hy (fun w x y => by simp [eqGuard]) (run_eql rfl (q_slice_nil hu))
theorem run_bound {P : Program} {k : IntKind} {i y : Nat} {code : BoundsCode} (h : i ≤ y) (w : World) : (Instr.sliceBound (.int k (i : Int)) y code).run P w = .ok i w := by
  have : (0 : Int) ≤ (i : Int) ∧ (i : Int) ≤ (y : Int) := by omega
  simp [Instr.sliceBound, asIntOf, this, h]
theorem v_slice3 {E n c sz o' : Nat} {k k' k'' : IntKind} {i h m : Nat} {j1 j2 j3 : Int} (hu : P.underlying t = some (.slice E)) (hs : ∀ w, (sizeOf E).run P w = .ok sz w) (hx : ev e x = some (.slice (some ⟨b, off, none⟩) n c))
    {lo hi mx : Operand} (h1 : ev e lo = some (.int k j1)) (h2 : ev e hi = some (.int k' j2)) (h3 : ev e mx = some (.int k'' j3)) (e1 : j1 = (i : Int)) (e2 : j2 = (h : Int)) (e3 : j3 = (m : Int)) (hil : i ≤ h) (hhm : h ≤ m) (hmc : m ≤ c) (hne : i < m) (ho : off + i * sz = o') :
    Val P S N e (.slice t x (some lo) (some hi) (some mx)) (.slice (some ⟨b, o', none⟩) (h - i) (m - i)) := fun a w _ _ _ _ _ hF _ => by
  subst e1; subst e2; subst e3; subst ho
  have hmi : ¬ m = i := by omega
  simp [execOp, Instr.sliceAt, Instr.slice, hF.eval hx, hF.eval h1, hF.eval h2, hF.eval h3, run_und hu, Instr.sliceBounds, run_bound hmc, run_bound hhm, run_bound hil, hs, hmi, add_none]
theorem v_sliceArr {E n sz : Nat} (hu : P.underlying t = some (.array n E)) (hs : ∀ w, (sizeOf E).run P w = .ok sz w) (hx : ev e x = some (.pointer (some ⟨b, off, none⟩))) :
    Val P S N e (.slice t x none none none) (.slice (some ⟨b, off, none⟩) n n) := fun a w _ _ _ _ _ hF _ => by
  by_cases h : n = 0
  · simp [execOp, Instr.sliceAt, hF.eval hx, run_und hu, Instr.sureAddr, Instr.sliceBounds, hs, h]
  · simp [execOp, Instr.sliceAt, hF.eval hx, run_und hu, Instr.sureAddr, Instr.sliceBounds, hs, h, add_none]
theorem d_slice0 {E sz : Nat} {ps : Array (Nat × Operand)} (hu : P.underlying t = some (.slice E)) (hs : ∀ w, (sizeOf E).run P w = .ok sz w) (hp : ps = #[]) :
    Does P W0 N e A (.buildSlice t 0 ps) (fun v B => ∃ b, v = .slice (some ⟨b, 0, none⟩) 0 0 ∧ B = osl E sz v [] :: A) := does_run fun a w _ _ _ _ _ hF hO => by
  subst hp
  have hn := hO.new (cob [] E)
  refine ⟨_, { w with heap := w.heap.push (cob [] E) }, _, .inl ?_, ⟨w.heap.size, rfl, rfl⟩, ?_⟩
  · simp [execOp, Instr.buildSlice, run_und hu, hs, Instr.fill, newRow, Array.range_zero']
  · have : pt w.heap.size (cob [] E) = pt w.heap.size (cob ([] ++ []) E) := rfl
    rw [this] at hn
    exact hn.ent (ent_osl (Nat.le_refl _) (Nat.zero_le _) (by simp) (by simp))
theorem d_make {E sz by_ : Nat} {info : TypeInfo} {zz : Value} {v0 : Value} {n : Nat} {k k' : IntKind} {i1 i2 : Int} (hu : P.underlying t = some (.slice E)) (hi : P.info? E = some info) (hz : info.zero = some zz) (hsz : info.size = sz) (hby : info.bytes = by_)
    (hzc : zz.cells = (List.replicate sz v0).toArray) (hsz0 : 0 < sz) (hx : ev e x = some (.int k i1)) (hy : ev e y = some (.int k' i2)) (e1 : i1 = (n : Int)) (e2 : i2 = (n : Int)) (hn : n ≤ 1000000) (hb : by_ ≤ 1000000) :
    Does P W0 N e A (.makeSlice t x y) (fun v B => ∃ b, v = .slice (some ⟨b, 0, none⟩) n n ∧ B = pt b (cob (List.replicate (n * sz) v0) E) :: A) :=
  d_new (g := fun b => .slice (some ⟨b, 0, none⟩) n n) (fun a w _ _ _ _ _ hF _ => by
    subst e1; subst e2; subst hsz; subst hby
    have hm : info.bytes * n ≤ 1000000 * 1000000 := Nat.mul_le_mul hb hn
    have hr := run_make (P := P) w t E info zz hu hi hz k k' n n (by omega) (by omega) (by rw [← Int.natCast_mul]; omega) (by omega)
    simp only [Int.toNat_natCast] at hr
    have hc : madeCells zz.cells (n * info.size) = (List.replicate (n * info.size) v0).toArray := by
      apply Array.ext
      · simp [madeCells]
      · intro i h1 h2
        simp only [madeCells, hzc, Array.getElem_map, Array.getElem_range, List.size_toArray, List.length_replicate]
        have hlt : i % info.size < info.size := Nat.mod_lt _ hsz0
        rw [getElem!_pos _ _ (by simpa using hlt)]
        simp
    rw [hc] at hr
    simp only [execOp, hF.eval hx, hF.eval hy, Sem.run_bind, hr, Result.andThen_ok, Sem.run_pure]
    rfl)
theorem d_copy {E sz dn dc sn sc bx ox m : Nat} (hu : P.underlying t = some (.slice E)) (hs : ∀ w, (sizeOf E).run P w = .ok sz w) (hx : ev e x = some (.slice (some ⟨b, off, none⟩) dn dc)) (hy : ev e y = some (.slice (some ⟨bx, ox, none⟩) sn sc))
    [h : Tk pt b A (cob l ty) R] (hm : Nat.min sn dn = m) (hc : Cells (OwnP W0 A) bx ox vs) (hl : vs.length = m * sz) (h1 : allOne vs = true) (ho : off + m * sz ≤ l.length) (hr : setR l off vs = l') :
    Does P W0 N e A (.call { callee := .builtin .copy, args := #[x, y], argTypes := #[t, t'] }) (fun v B => v = .int .i64 m ∧ B = pt b (cob l' ty) :: R) := by
  intro a w dst ty' pos af g K Q hF hO k
  have hO' := hO.tk (r := pt) (b := b)
  have hld := run_loadCells (P := P) (w := w) (fun i v hi => hc i v hi w hO) (m * sz) 0 #[] (by omega)
  obtain ⟨w', hst, hO''⟩ := storeCells_own (P := P) (off := off) vs 0 hO' (by omega) (fun v hv => by simpa [allOne] using (List.all_eq_true.1 h1 v hv))
  rw [Nat.add_zero, hr] at hO''
  have hexec : (execOp a.eval { dst := dst, op := .call { callee := .builtin .copy, args := #[x, y], argTypes := #[t, t'] }, type := ty', pos := pos, after := af, guard := g }).run P w = .ok (.value (.int .i64 m)) w' := by
    simp only [execOp, resolve, invoke, builtin, Sem.run_bind, Sem.run_pure, Result.andThen_ok, List.map_toArray, List.map_cons, List.map_nil, hF.eval hx, hF.eval hy, Builtin.copy_, Builtin.lenOf, Builtin.firstCells, run_und hu, hs]
    have hs' : (sizeOf E).run P w = .ok sz w := hs w
    simp only [hm, Array.getElem?_eq_getElem, List.getElem?_toArray, List.getElem?_cons_zero, List.getElem?_cons_succ, Sem.run_bind, Sem.run_pure, Result.andThen_ok, run_und hu, hs', loadCells, hld, List.drop_zero, List.nil_append, Array.empty_append, hst, goInt]
  unfold Oper.wp
  rw [hexec]
  exact k _ w' _ ⟨rfl, rfl⟩ hO''
theorem v_min {k : IntKind} {m n r : Int} {ats : Array TypeId} (hx : ev e x = some (.int k m)) (hy : ev e y = some (.int k n)) (hr : (if n < m then n else m) = r) : Val P S N e (.call { callee := .builtin .min, args := #[x, y], argTypes := ats }) (.int k r) := fun a w _ _ _ _ _ hF _ => by
  simp [execOp, resolve, invoke, builtin, hF.eval hx, hF.eval hy, Builtin.min_, Builtin.min2, hr]
end
end Go.Proofs.YtnidndllknffgaaGreat
namespace Go.Proofs.YtnidndllknffgaaGreat
set_option linter.unusedSimpArgs false
set_option linter.unusedVariables false
def bV (b : Nat) : Value := .int .u8 (b : Int)
def byV (l : List Nat) : List Value := l.map bV
theorem byV_len (l : List Nat) : (byV l).length = l.length := by simp [byV]
theorem byV_append (a b : List Nat) : byV (a ++ b) = byV a ++ byV b := by simp [byV]
theorem byV_one (l : List Nat) : allOne (byV l) = true := by simp [allOne, byV, bV, Value.oneCell']
def By (l : List Nat) : Prop := ∀ b ∈ l, b < 256
theorem By.get {l : List Nat} (h : By l) {i : Nat} (hi : i < l.length) : l[i] < 256 := h _ (List.getElem_mem hi)
def leN : List Nat → Nat
  | [] => 0
  | b :: bs => b + 256 * leN bs
theorem By.take {l : List Nat} (h : By l) (i : Nat) : By (l.take i) := fun b hb => h b (List.mem_of_mem_take hb)
theorem By.drop {l : List Nat} (h : By l) (i : Nat) : By (l.drop i) := fun b hb => h b (List.mem_of_mem_drop hb)
theorem By.append {a b : List Nat} (h : By a) (k : By b) : By (a ++ b) := fun x hx => by
  rcases List.mem_append.1 hx with h' | h'
  · exact h x h'
  · exact k x h'
theorem pow256 (i : Nat) : 256 ^ i = 2 ^ (8 * i) := by rw [Nat.pow_mul]
def leB (n w : Nat) : List Nat := (List.range n).map fun i => w / 256 ^ i % 256
theorem leB_len (n w : Nat) : (leB n w).length = n := by simp [leB]
theorem leB_by (n w : Nat) : By (leB n w) := fun b hb => by
  obtain ⟨i, _, rfl⟩ := List.mem_map.1 hb
  exact Nat.mod_lt _ (by decide)
theorem leB_succ (n w : Nat) : leB (n + 1) w = leB n w ++ [w / 256 ^ n % 256] := by simp [leB, List.range_succ]
theorem byte_of {w i : Nat} (hi : 8 * i ≤ 32) : IntKind.wrap .u8 (bShr .u32 (w : Int) ((8 * i : Nat) : Int)) = ((w / 256 ^ i % 256 : Nat) : Int) := by
  rw [bShr_nat (by simpa [IntKind.bits] using hi), ← pow256]
  simp only [IntKind.wrap, IntKind.bits, IntKind.signed]
  simp
def putB (l : List Nat) (at_ n w : Nat) : List Nat := l.take at_ ++ leB n w ++ l.drop (at_ + n)
theorem putB_len {l : List Nat} {at_ n w : Nat} (h : at_ + n ≤ l.length) : (putB l at_ n w).length = l.length := by simp [putB, leB_len]; omega
theorem putB_by {l : List Nat} {at_ n w : Nat} (h : By l) : By (putB l at_ n w) := ((h.take _).append (leB_by _ _)).append (h.drop _)
theorem setR_snoc : ∀ (vs l : List Value) (off : Nat) (v : Value), setR l off (vs ++ [v]) = (setR l off vs).set (off + vs.length) v
  | [], l, off, v => by simp [setR]
  | u :: vs, l, off, v => by
    rw [List.cons_append, setR, setR, setR_snoc vs]
    congr 1; simp; omega
theorem setR_byV {l : List Nat} {at_ n w : Nat} (h : at_ + n ≤ l.length) : setR (byV l) at_ (byV (leB n w)) = byV (putB l at_ n w) := by
  rw [setR_eq _ _ _ (by rw [byV_len, byV_len, leB_len]; exact h), byV_len, leB_len]
  simp [putB, byV, List.map_take, List.map_drop]
theorem setR_front : ∀ (vs a b : List Value) (off : Nat), off + vs.length ≤ a.length → setR (a ++ b) off vs = setR a off vs ++ b
  | [], a, b, off, _ => rfl
  | v :: vs, a, b, off, h => by
    simp only [List.length_cons] at h
    rw [setR, setR, List.set_append_left _ _ (by omega), setR_front vs _ b (off + 1) (by simp; omega)]
def inB (n : Nat) (at_ w : Int) : Bool := decide ((w = 1 ∨ w = 2 ∨ w = 4) ∧ 0 ≤ at_ ∧ at_ ≤ n ∧ w ≤ n - at_)
theorem inB_iff {n : Nat} {at_ w : Int} : inB n at_ w = true ↔ (w = 1 ∨ w = 2 ∨ w = 4) ∧ 0 ≤ at_ ∧ at_ ≤ n ∧ w ≤ n - at_ := by simp [inB]
theorem inB_nat {n : Nat} {at_ w : Int} (h : inB n at_ w = true) : ∃ i k : Nat, at_ = (i : Int) ∧ w = (k : Int) ∧ (k = 1 ∨ k = 2 ∨ k = 4) ∧ i + k ≤ n := by
  have := inB_iff.1 h
  exact ⟨at_.toNat, w.toNat, by omega, by omega, by omega, by omega⟩
end Go.Proofs.YtnidndllknffgaaGreat
namespace Go.Proofs.YtnidndllknffgaaGreat
open Go.RowKit
set_option linter.unusedSimpArgs false
set_option linter.unusedVariables false
set_option maxRecDepth 20000
def winV (g off n : Nat) (at_ w : Int) : Value := if inB n at_ w then .tuple #[.slice (some ⟨g, off + at_.toNat, none⟩) w.toNat w.toNat, .bool true] else .tuple #[.slice none 0 0, .bool false]
theorem window_spec (W0 : World) (R : List HP) (g off n c : Nat) (at_ w : Int) (hn : n ≤ c) (h63 : c < 9223372036854775808) :
    Spec Tryz.prog W0 183 [.slice (some ⟨g, off, none⟩) n c, .int .i64 at_, .int .i64 w] R (fun v B => v = winV g off n at_ w ∧ B = R) := by
  refine spec_body Tryz.func183 Tryz.ntmps183 rfl rfl ?_
  refine x_seq (x_region (s_val rfl (v_assign rfl) (s_val rfl (v_assign rfl) (x_nil (n_then (x_seq (x_block (x_seq (x_region (s_val rfl (v_move rfl) (s_val rfl (v_neq rfl rfl) (s_val rfl (v_move rfl) ?_))))))))))))
  refine s_and rfl rfl rfl ?_ ?_
  · intro g1_3
    refine s_val rfl (v_move rfl) (s_yes rfl rfl (s_val rfl (v_neq rfl rfl) (s_val rfl (v_pick_t rfl rfl) (s_val rfl (v_move rfl) ?_))))
    refine s_and rfl rfl rfl ?_ ?_
    · intro g1_7
      refine s_val rfl (v_move rfl) (s_yes rfl rfl (s_val rfl (v_neq rfl rfl) (s_val rfl (v_pick_t rfl rfl) (s_val rfl (v_assign rfl) (x_nil (n_then ?_))))))
      refine x_if rfl ?_ ?_
      · intro c1
        refine x_seq (x_region (s_val rfl (v_assign rfl) (s_val rfl (v_assign rfl) (x_nil (n_then (x_ret (r_block (r_then (x_done (.inl rfl) (.cons (r_tmp rfl) (.cons (r_tmp rfl) .nil)) ?_)))))))))
        refine ⟨_, ⟨?_, rfl⟩, inferInstance⟩
        have hi : inB n at_ w = false := by
          rw [← Bool.not_eq_true, inB_iff]; omega
        simp [pack, winV, hi]
      · intro c1
        refine x_seq (x_seq (x_region (s_val rfl (v_move rfl) (s_val rfl (v_lss rfl rfl) (s_val rfl (v_assign rfl) (x_nil (n_then ?_)))))))
        refine x_if rfl ?_ ?_
        · intro c3
          refine x_skip (n_then (x_ift rfl (x_seq (x_region (s_val rfl (v_assign rfl) (s_val rfl (v_assign rfl) (x_nil (n_then (x_ret (r_block (r_then (x_done (.inl rfl) (.cons (r_tmp rfl) (.cons (r_tmp rfl) .nil)) ?_))))))))))))
          refine ⟨_, ⟨?_, rfl⟩, inferInstance⟩
          have hi : inB n at_ w = false := by
            rw [← Bool.not_eq_true, inB_iff]; omega
          simp [pack, winV, hi]
        · intro c3
          refine x_seq (x_region (s_val rfl (v_move rfl) (s_val rfl (v_move rfl) (s_val rfl (v_len_slice Tryz.underlying174 rfl) (s_val rfl (v_gtr rfl rfl) (s_val rfl (v_assign rfl) (x_nil (n_then ?_))))))))
          refine x_if rfl ?_ ?_
          · intro c4
            refine x_skip (n_then (x_ift rfl (x_seq (x_region (s_val rfl (v_assign rfl) (s_val rfl (v_assign rfl) (x_nil (n_then (x_ret (r_block (r_then (x_done (.inl rfl) (.cons (r_tmp rfl) (.cons (r_tmp rfl) .nil)) ?_))))))))))))
            refine ⟨_, ⟨?_, rfl⟩, inferInstance⟩
            have hi : inB n at_ w = false := by
              rw [← Bool.not_eq_true, inB_iff]; omega
            simp [pack, winV, hi]
          · intro c4
            refine x_region (s_val rfl (v_move rfl) (s_val rfl (v_move rfl) (s_val rfl (v_len_slice Tryz.underlying174 rfl) (s_val rfl (v_move rfl) ?_))))
            refine s_val rfl (v_sub rfl rfl (by first | exact w64 (by omega) | rfl)) ?_
            refine s_val rfl (v_gtr rfl rfl) (s_val rfl (v_assign rfl) (x_nil (n_then ?_)))
            refine x_if rfl ?_ ?_
            · intro c5
              refine x_seq (x_region (s_val rfl (v_assign rfl) (s_val rfl (v_assign rfl) (x_nil (n_then (x_ret (r_block (r_then (x_done (.inl rfl) (.cons (r_tmp rfl) (.cons (r_tmp rfl) .nil)) ?_)))))))))
              refine ⟨_, ⟨?_, rfl⟩, inferInstance⟩
              have hi : inB n at_ w = false := by
                rw [← Bool.not_eq_true, inB_iff]; omega
              simp [pack, winV, hi]
            · intro c5
              refine x_skip (n_block (n_then (x_seq ?_)))
              have hi : inB n at_ w = true := inB_iff.2 ⟨by omega, by omega, by omega, by omega⟩
              obtain ⟨i, k, rfl, rfl, hk, hik⟩ := inB_nat hi
              refine x_region (s_val rfl (v_move rfl) (s_val rfl (v_move rfl) (s_val rfl (v_move rfl) (s_val rfl (v_move rfl) ?_))))
              refine s_val rfl (v_add rfl rfl (by rw [w64 (by omega)]; exact (Int.natCast_add i k).symm : IntKind.wrap .i64 ((i : Int) + (k : Int)) = ((i + k : Nat) : Int))) ?_
              refine s_val rfl (v_move rfl) (s_val rfl (v_move rfl) ?_)
              refine s_val rfl (v_add rfl rfl (by rw [w64 (by omega)]; exact (Int.natCast_add i k).symm : IntKind.wrap .i64 ((i : Int) + (k : Int)) = ((i + k : Nat) : Int))) ?_
              refine s_val rfl (v_slice3 Tryz.underlying174 Tryz.sizeOf5 rfl rfl rfl rfl rfl rfl rfl (by omega) (by omega) (by omega) (by omega) (by first | exact Nat.zero_add _ | rfl)) ?_
              refine s_val rfl (v_assign rfl) (s_val rfl (v_assign rfl) (x_nil (n_then (x_ret (x_done (.inl rfl) (.cons (r_tmp rfl) (.cons (r_tmp rfl) .nil)) ?_)))))
              refine ⟨_, ⟨?_, rfl⟩, inferInstance⟩
              simp [pack, winV, hi]
    · intro g1_7
      refine s_no rfl rfl rfl rfl (s_val rfl (v_pick_f rfl rfl) (s_val rfl (v_assign rfl) (x_nil (n_then (x_iff rfl (x_seq (x_seq (x_region (s_val rfl (v_move rfl) (s_val rfl (v_lss rfl rfl) (s_val rfl (v_assign rfl) (x_nil (n_then ?_)))))))))))))
      refine x_if rfl ?_ ?_
      · intro c3
        refine x_skip (n_then (x_ift rfl (x_seq (x_region (s_val rfl (v_assign rfl) (s_val rfl (v_assign rfl) (x_nil (n_then (x_ret (r_block (r_then (x_done (.inl rfl) (.cons (r_tmp rfl) (.cons (r_tmp rfl) .nil)) ?_))))))))))))
        refine ⟨_, ⟨?_, rfl⟩, inferInstance⟩
        have hi : inB n at_ w = false := by
          rw [← Bool.not_eq_true, inB_iff]; omega
        simp [pack, winV, hi]
      · intro c3
        refine x_seq (x_region (s_val rfl (v_move rfl) (s_val rfl (v_move rfl) (s_val rfl (v_len_slice Tryz.underlying174 rfl) (s_val rfl (v_gtr rfl rfl) (s_val rfl (v_assign rfl) (x_nil (n_then ?_))))))))
        refine x_if rfl ?_ ?_
        · intro c4
          refine x_skip (n_then (x_ift rfl (x_seq (x_region (s_val rfl (v_assign rfl) (s_val rfl (v_assign rfl) (x_nil (n_then (x_ret (r_block (r_then (x_done (.inl rfl) (.cons (r_tmp rfl) (.cons (r_tmp rfl) .nil)) ?_))))))))))))
          refine ⟨_, ⟨?_, rfl⟩, inferInstance⟩
          have hi : inB n at_ w = false := by
            rw [← Bool.not_eq_true, inB_iff]; omega
          simp [pack, winV, hi]
        · intro c4
          refine x_region (s_val rfl (v_move rfl) (s_val rfl (v_move rfl) (s_val rfl (v_len_slice Tryz.underlying174 rfl) (s_val rfl (v_move rfl) ?_))))
          refine s_val rfl (v_sub rfl rfl (by first | exact w64 (by omega) | rfl)) ?_
          refine s_val rfl (v_gtr rfl rfl) (s_val rfl (v_assign rfl) (x_nil (n_then ?_)))
          refine x_if rfl ?_ ?_
          · intro c5
            refine x_seq (x_region (s_val rfl (v_assign rfl) (s_val rfl (v_assign rfl) (x_nil (n_then (x_ret (r_block (r_then (x_done (.inl rfl) (.cons (r_tmp rfl) (.cons (r_tmp rfl) .nil)) ?_)))))))))
            refine ⟨_, ⟨?_, rfl⟩, inferInstance⟩
            have hi : inB n at_ w = false := by
              rw [← Bool.not_eq_true, inB_iff]; omega
            simp [pack, winV, hi]
          · intro c5
            refine x_skip (n_block (n_then (x_seq ?_)))
            have hi : inB n at_ w = true := inB_iff.2 ⟨by omega, by omega, by omega, by omega⟩
            obtain ⟨i, k, rfl, rfl, hk, hik⟩ := inB_nat hi
            refine x_region (s_val rfl (v_move rfl) (s_val rfl (v_move rfl) (s_val rfl (v_move rfl) (s_val rfl (v_move rfl) ?_))))
            refine s_val rfl (v_add rfl rfl (by rw [w64 (by omega)]; exact (Int.natCast_add i k).symm : IntKind.wrap .i64 ((i : Int) + (k : Int)) = ((i + k : Nat) : Int))) ?_
            refine s_val rfl (v_move rfl) (s_val rfl (v_move rfl) ?_)
            refine s_val rfl (v_add rfl rfl (by rw [w64 (by omega)]; exact (Int.natCast_add i k).symm : IntKind.wrap .i64 ((i : Int) + (k : Int)) = ((i + k : Nat) : Int))) ?_
            refine s_val rfl (v_slice3 Tryz.underlying174 Tryz.sizeOf5 rfl rfl rfl rfl rfl rfl rfl (by omega) (by omega) (by omega) (by omega) (by first | exact Nat.zero_add _ | rfl)) ?_
            refine s_val rfl (v_assign rfl) (s_val rfl (v_assign rfl) (x_nil (n_then (x_ret (x_done (.inl rfl) (.cons (r_tmp rfl) (.cons (r_tmp rfl) .nil)) ?_)))))
            refine ⟨_, ⟨?_, rfl⟩, inferInstance⟩
            simp [pack, winV, hi]
  · intro g1_3
    refine s_no rfl rfl rfl rfl (s_val rfl (v_pick_f rfl rfl) (s_val rfl (v_move rfl) (s_no rfl rfl rfl rfl (s_no rfl rfl rfl rfl (s_val rfl (v_pick_f rfl rfl) (s_val rfl (v_assign rfl) (x_nil (n_then (x_iff rfl (x_seq (x_seq (x_region (s_val rfl (v_move rfl) (s_val rfl (v_lss rfl rfl) (s_val rfl (v_assign rfl) (x_nil (n_then ?_)))))))))))))))))
    refine x_if rfl ?_ ?_
    · intro c3
      refine x_skip (n_then (x_ift rfl (x_seq (x_region (s_val rfl (v_assign rfl) (s_val rfl (v_assign rfl) (x_nil (n_then (x_ret (r_block (r_then (x_done (.inl rfl) (.cons (r_tmp rfl) (.cons (r_tmp rfl) .nil)) ?_))))))))))))
      refine ⟨_, ⟨?_, rfl⟩, inferInstance⟩
      have hi : inB n at_ w = false := by
        rw [← Bool.not_eq_true, inB_iff]; omega
      simp [pack, winV, hi]
    · intro c3
      refine x_seq (x_region (s_val rfl (v_move rfl) (s_val rfl (v_move rfl) (s_val rfl (v_len_slice Tryz.underlying174 rfl) (s_val rfl (v_gtr rfl rfl) (s_val rfl (v_assign rfl) (x_nil (n_then ?_))))))))
      refine x_if rfl ?_ ?_
      · intro c4
        refine x_skip (n_then (x_ift rfl (x_seq (x_region (s_val rfl (v_assign rfl) (s_val rfl (v_assign rfl) (x_nil (n_then (x_ret (r_block (r_then (x_done (.inl rfl) (.cons (r_tmp rfl) (.cons (r_tmp rfl) .nil)) ?_))))))))))))
        refine ⟨_, ⟨?_, rfl⟩, inferInstance⟩
        have hi : inB n at_ w = false := by
          rw [← Bool.not_eq_true, inB_iff]; omega
        simp [pack, winV, hi]
      · intro c4
        refine x_region (s_val rfl (v_move rfl) (s_val rfl (v_move rfl) (s_val rfl (v_len_slice Tryz.underlying174 rfl) (s_val rfl (v_move rfl) ?_))))
        refine s_val rfl (v_sub rfl rfl (by first | exact w64 (by omega) | rfl)) ?_
        refine s_val rfl (v_gtr rfl rfl) (s_val rfl (v_assign rfl) (x_nil (n_then ?_)))
        refine x_if rfl ?_ ?_
        · intro c5
          refine x_seq (x_region (s_val rfl (v_assign rfl) (s_val rfl (v_assign rfl) (x_nil (n_then (x_ret (r_block (r_then (x_done (.inl rfl) (.cons (r_tmp rfl) (.cons (r_tmp rfl) .nil)) ?_)))))))))
          refine ⟨_, ⟨?_, rfl⟩, inferInstance⟩
          have hi : inB n at_ w = false := by
            rw [← Bool.not_eq_true, inB_iff]; omega
          simp [pack, winV, hi]
        · intro c5
          refine x_skip (n_block (n_then (x_seq ?_)))
          have hi : inB n at_ w = true := inB_iff.2 ⟨by omega, by omega, by omega, by omega⟩
          obtain ⟨i, k, rfl, rfl, hk, hik⟩ := inB_nat hi
          refine x_region (s_val rfl (v_move rfl) (s_val rfl (v_move rfl) (s_val rfl (v_move rfl) (s_val rfl (v_move rfl) ?_))))
          refine s_val rfl (v_add rfl rfl (by rw [w64 (by omega)]; exact (Int.natCast_add i k).symm : IntKind.wrap .i64 ((i : Int) + (k : Int)) = ((i + k : Nat) : Int))) ?_
          refine s_val rfl (v_move rfl) (s_val rfl (v_move rfl) ?_)
          refine s_val rfl (v_add rfl rfl (by rw [w64 (by omega)]; exact (Int.natCast_add i k).symm : IntKind.wrap .i64 ((i : Int) + (k : Int)) = ((i + k : Nat) : Int))) ?_
          refine s_val rfl (v_slice3 Tryz.underlying174 Tryz.sizeOf5 rfl rfl rfl rfl rfl rfl rfl (by omega) (by omega) (by omega) (by omega) (by first | exact Nat.zero_add _ | rfl)) ?_
          refine s_val rfl (v_assign rfl) (s_val rfl (v_assign rfl) (x_nil (n_then (x_ret (x_done (.inl rfl) (.cons (r_tmp rfl) (.cons (r_tmp rfl) .nil)) ?_)))))
          refine ⟨_, ⟨?_, rfl⟩, inferInstance⟩
          simp [pack, winV, hi]
theorem windowN_spec (W0 : World) (R : List HP) (a : Option Addr) (n c : Nat) (at_ w : Int) (hi : inB n at_ w = false) (hn : n < 9223372036854775808) :
    Spec Tryz.prog W0 183 [.slice a n c, .int .i64 at_, .int .i64 w] R (fun v B => v = .tuple #[.slice none 0 0, .bool false] ∧ B = R) := by
  have hq : ¬ ((w = 1 ∨ w = 2 ∨ w = 4) ∧ 0 ≤ at_ ∧ at_ ≤ n ∧ w ≤ n - at_) := fun h => by rw [inB_iff.2 h] at hi; cases hi
  refine spec_body Tryz.func183 Tryz.ntmps183 rfl rfl ?_
  refine x_seq (x_region (s_val rfl (v_assign rfl) (s_val rfl (v_assign rfl) (x_nil (n_then (x_seq (x_block (x_seq (x_region (s_val rfl (v_move rfl) (s_val rfl (v_neq rfl rfl) (s_val rfl (v_move rfl) ?_))))))))))))
  refine s_and rfl rfl rfl ?_ ?_
  · intro g1_3
    refine s_val rfl (v_move rfl) (s_yes rfl rfl (s_val rfl (v_neq rfl rfl) (s_val rfl (v_pick_t rfl rfl) (s_val rfl (v_move rfl) ?_))))
    refine s_and rfl rfl rfl ?_ ?_
    · intro g1_7
      refine s_val rfl (v_move rfl) (s_yes rfl rfl (s_val rfl (v_neq rfl rfl) (s_val rfl (v_pick_t rfl rfl) (s_val rfl (v_assign rfl) (x_nil (n_then ?_))))))
      refine x_if rfl ?_ ?_
      · intro c1
        refine x_seq (x_region (s_val rfl (v_assign rfl) (s_val rfl (v_assign rfl) (x_nil (n_then (x_ret (r_block (r_then (x_done (.inl rfl) (.cons (r_tmp rfl) (.cons (r_tmp rfl) .nil)) ?_)))))))))
        exact ⟨_, ⟨rfl, rfl⟩, inferInstance⟩
      · intro c1
        refine x_seq (x_seq (x_region (s_val rfl (v_move rfl) (s_val rfl (v_lss rfl rfl) (s_val rfl (v_assign rfl) (x_nil (n_then ?_)))))))
        refine x_if rfl ?_ ?_
        · intro c3
          refine x_skip (n_then (x_ift rfl (x_seq (x_region (s_val rfl (v_assign rfl) (s_val rfl (v_assign rfl) (x_nil (n_then (x_ret (r_block (r_then (x_done (.inl rfl) (.cons (r_tmp rfl) (.cons (r_tmp rfl) .nil)) ?_))))))))))))
          exact ⟨_, ⟨rfl, rfl⟩, inferInstance⟩
        · intro c3
          refine x_seq (x_region (s_val rfl (v_move rfl) (s_val rfl (v_move rfl) (s_val rfl (v_len_slice Tryz.underlying174 rfl) (s_val rfl (v_gtr rfl rfl) (s_val rfl (v_assign rfl) (x_nil (n_then ?_))))))))
          refine x_if rfl ?_ ?_
          · intro c4
            refine x_skip (n_then (x_ift rfl (x_seq (x_region (s_val rfl (v_assign rfl) (s_val rfl (v_assign rfl) (x_nil (n_then (x_ret (r_block (r_then (x_done (.inl rfl) (.cons (r_tmp rfl) (.cons (r_tmp rfl) .nil)) ?_))))))))))))
            exact ⟨_, ⟨rfl, rfl⟩, inferInstance⟩
          · intro c4
            refine x_region (s_val rfl (v_move rfl) (s_val rfl (v_move rfl) (s_val rfl (v_len_slice Tryz.underlying174 rfl) (s_val rfl (v_move rfl) ?_))))
            refine s_val rfl (v_sub rfl rfl (by first | exact w64 (by omega) | rfl)) ?_
            refine s_val rfl (v_gtr rfl rfl) (s_val rfl (v_assign rfl) (x_nil (n_then ?_)))
            refine x_if rfl ?_ ?_
            · intro c5
              refine x_seq (x_region (s_val rfl (v_assign rfl) (s_val rfl (v_assign rfl) (x_nil (n_then (x_ret (r_block (r_then (x_done (.inl rfl) (.cons (r_tmp rfl) (.cons (r_tmp rfl) .nil)) ?_)))))))))
              exact ⟨_, ⟨rfl, rfl⟩, inferInstance⟩
            · intro c5
              exfalso; omega
    · intro g1_7
      refine s_no rfl rfl rfl rfl (s_val rfl (v_pick_f rfl rfl) (s_val rfl (v_assign rfl) (x_nil (n_then (x_iff rfl (x_seq (x_seq (x_region (s_val rfl (v_move rfl) (s_val rfl (v_lss rfl rfl) (s_val rfl (v_assign rfl) (x_nil (n_then ?_)))))))))))))
      refine x_if rfl ?_ ?_
      · intro c3
        refine x_skip (n_then (x_ift rfl (x_seq (x_region (s_val rfl (v_assign rfl) (s_val rfl (v_assign rfl) (x_nil (n_then (x_ret (r_block (r_then (x_done (.inl rfl) (.cons (r_tmp rfl) (.cons (r_tmp rfl) .nil)) ?_))))))))))))
        exact ⟨_, ⟨rfl, rfl⟩, inferInstance⟩
      · intro c3
        refine x_seq (x_region (s_val rfl (v_move rfl) (s_val rfl (v_move rfl) (s_val rfl (v_len_slice Tryz.underlying174 rfl) (s_val rfl (v_gtr rfl rfl) (s_val rfl (v_assign rfl) (x_nil (n_then ?_))))))))
        refine x_if rfl ?_ ?_
        · intro c4
          refine x_skip (n_then (x_ift rfl (x_seq (x_region (s_val rfl (v_assign rfl) (s_val rfl (v_assign rfl) (x_nil (n_then (x_ret (r_block (r_then (x_done (.inl rfl) (.cons (r_tmp rfl) (.cons (r_tmp rfl) .nil)) ?_))))))))))))
          exact ⟨_, ⟨rfl, rfl⟩, inferInstance⟩
        · intro c4
          refine x_region (s_val rfl (v_move rfl) (s_val rfl (v_move rfl) (s_val rfl (v_len_slice Tryz.underlying174 rfl) (s_val rfl (v_move rfl) ?_))))
          refine s_val rfl (v_sub rfl rfl (by first | exact w64 (by omega) | rfl)) ?_
          refine s_val rfl (v_gtr rfl rfl) (s_val rfl (v_assign rfl) (x_nil (n_then ?_)))
          refine x_if rfl ?_ ?_
          · intro c5
            refine x_seq (x_region (s_val rfl (v_assign rfl) (s_val rfl (v_assign rfl) (x_nil (n_then (x_ret (r_block (r_then (x_done (.inl rfl) (.cons (r_tmp rfl) (.cons (r_tmp rfl) .nil)) ?_)))))))))
            exact ⟨_, ⟨rfl, rfl⟩, inferInstance⟩
          · intro c5
            exfalso; omega
  · intro g1_3
    refine s_no rfl rfl rfl rfl (s_val rfl (v_pick_f rfl rfl) (s_val rfl (v_move rfl) (s_no rfl rfl rfl rfl (s_no rfl rfl rfl rfl (s_val rfl (v_pick_f rfl rfl) (s_val rfl (v_assign rfl) (x_nil (n_then (x_iff rfl (x_seq (x_seq (x_region (s_val rfl (v_move rfl) (s_val rfl (v_lss rfl rfl) (s_val rfl (v_assign rfl) (x_nil (n_then ?_)))))))))))))))))
    refine x_if rfl ?_ ?_
    · intro c3
      refine x_skip (n_then (x_ift rfl (x_seq (x_region (s_val rfl (v_assign rfl) (s_val rfl (v_assign rfl) (x_nil (n_then (x_ret (r_block (r_then (x_done (.inl rfl) (.cons (r_tmp rfl) (.cons (r_tmp rfl) .nil)) ?_))))))))))))
      exact ⟨_, ⟨rfl, rfl⟩, inferInstance⟩
    · intro c3
      refine x_seq (x_region (s_val rfl (v_move rfl) (s_val rfl (v_move rfl) (s_val rfl (v_len_slice Tryz.underlying174 rfl) (s_val rfl (v_gtr rfl rfl) (s_val rfl (v_assign rfl) (x_nil (n_then ?_))))))))
      refine x_if rfl ?_ ?_
      · intro c4
        refine x_skip (n_then (x_ift rfl (x_seq (x_region (s_val rfl (v_assign rfl) (s_val rfl (v_assign rfl) (x_nil (n_then (x_ret (r_block (r_then (x_done (.inl rfl) (.cons (r_tmp rfl) (.cons (r_tmp rfl) .nil)) ?_))))))))))))
        exact ⟨_, ⟨rfl, rfl⟩, inferInstance⟩
      · intro c4
        refine x_region (s_val rfl (v_move rfl) (s_val rfl (v_move rfl) (s_val rfl (v_len_slice Tryz.underlying174 rfl) (s_val rfl (v_move rfl) ?_))))
        refine s_val rfl (v_sub rfl rfl (by first | exact w64 (by omega) | rfl)) ?_
        refine s_val rfl (v_gtr rfl rfl) (s_val rfl (v_assign rfl) (x_nil (n_then ?_)))
        refine x_if rfl ?_ ?_
        · intro c5
          refine x_seq (x_region (s_val rfl (v_assign rfl) (s_val rfl (v_assign rfl) (x_nil (n_then (x_ret (r_block (r_then (x_done (.inl rfl) (.cons (r_tmp rfl) (.cons (r_tmp rfl) .nil)) ?_)))))))))
          exact ⟨_, ⟨rfl, rfl⟩, inferInstance⟩
        · intro c5
          exfalso; omega
theorem Cells.part {S : World → Prop} {b off : Nat} {l : List Nat} (h : Cells S b off (byV l)) (i k : Nat) (hik : i + k ≤ l.length) : Cells S b (off + i) (byV ((l.drop i).take k)) := fun j v hv => by
  have hj : j < k := by
    rcases Nat.lt_or_ge j k with q | q
    · exact q
    · rw [List.getElem?_eq_none (by rw [byV_len, List.length_take]; omega)] at hv; cases hv
  have := h (i + j) v (by
    rw [byV, List.getElem?_map, List.getElem?_take_of_lt hj, List.getElem?_drop] at hv
    rw [byV, List.getElem?_map]; exact hv)
  rwa [← Nat.add_assoc] at this
def getN (l : List Nat) (at_ w : Int) : Nat := if inB l.length at_ w then leN ((l.drop at_.toNat).take w.toNat) else 0
theorem spread_spec (W0 : World) (R : List HP) (g off n c ty : Nat) (L : List Value) (w : Nat) (hw : w < 4294967296) (hn : n ≤ 4) (hL : off + n ≤ L.length) :
    Spec Tryz.prog W0 184 [.slice (some ⟨g, off, none⟩) n c, .int .u32 w] (pt g (cob L ty) :: R) (fun v B => v = .tuple #[] ∧ B = pt g (cob (setR L off (byV (leB n w))) ty) :: R) := by
  refine spec_body Tryz.func184 Tryz.ntmps184 rfl rfl ?_
  refine x_seq (x_region (s_val rfl (v_move rfl) (s_val rfl (v_len_slice Tryz.underlying174 rfl) (s_val rfl (v_move rfl) (x_nil (n_then (x_block ?_)))))))
  refine x_loop (fun i : Nat => i ≤ n) (fun i => [(0, .slice (some ⟨g, off, none⟩) n c), (1, .int .u32 w), (6, .int .i64 n), (7, .int .i64 i)]) (fun i => pt g (cob (setR L off (byV (leB i w))) ty) :: R) (fun i => n - i) 0 ?_ ?_ ?_ ?_
  · exact Nat.zero_le _
  · repeat (first | exact sub_nil | refine sub_cons rfl ?_)
  · rw [show setR L off (byV (leB 0 w)) = L from rfl]; exact inferInstance
  · intro i hi
    refine x_seq (x_region (s_val rfl (v_lss rfl rfl) (x_nil (n_then (x_seq ?_)))))
    refine x_if rfl ?_ ?_
    · intro c1
      refine x_skip (n_then (x_seq (x_block (x_seq (x_region (s_val rfl (v_move rfl) (s_val rfl (v_assign rfl) (x_nil (n_then (x_region (s_val rfl (v_move rfl) (s_val rfl (v_move rfl) (s_val rfl (v_move rfl) (s_val rfl (v_move rfl) ?_))))))))))))))
      refine s_val rfl (v_mul rfl rfl (by rw [w64 (by omega)]; omega : IntKind.wrap .i64 (8 * (i : Int)) = ((8 * i : Nat) : Int))) ?_
      refine s_val rfl (v_shr rfl rfl (by omega) rfl) ?_
      refine s_val rfl (v_conv Tryz.underlying42 Tryz.underlying5 rfl (byte_of (by omega))) ?_
      refine s_val rfl (v_idx Tryz.underlying174 Tryz.sizeOf5 rfl rfl rfl (by omega) (by first | exact Nat.zero_add _ | rfl)) ?_
      refine s_do0 (d_store Tryz.sizeOf5 rfl rfl rfl (by rw [setR_length]; omega) (by rw [leB_succ, byV_append, show byV [w / 256 ^ i % 256] = [bV (w / 256 ^ i % 256)] from rfl, setR_snoc, byV_len, leB_len, Nat.mul_one]; rfl : (setR L off (byV (leB i w))).set (off + i * 1) _ = setR L off (byV (leB (i + 1) w)))) ?_
      rintro _ _ rfl
      refine x_nil (n_block (n_then (x_region ?_)))
      refine s_val rfl (v_add rfl rfl (by first | exact w64 (by omega) | rfl)) ?_
      refine s_val rfl (v_move rfl) (x_nil (n_then ?_))
      refine inv_intro (i + 1) ?_ ?_ ?_ ?_
      · omega
      · omega
      · repeat (first | exact sub_nil | refine sub_cons rfl ?_)
      · exact inferInstance
    · intro c1
      refine x_exit (e_then (e_then (e_block (x_done (.inr rfl) .nil ?_))))
      have : i = n := by omega
      subst this
      exact ⟨_, ⟨rfl, rfl⟩, inferInstance⟩
theorem clone_spec (W0 : World) (R : List HP) (g off c : Nat) (l : List Nat) (hc : Cells (OwnP W0 R) g off (byV l)) (hn : l.length ≤ 1000000) :
    Spec Tryz.prog W0 182 [.slice (some ⟨g, off, none⟩) l.length c] R (fun v B => ∃ a' c', v = .slice a' l.length c' ∧ B = osl 5 1 (.slice a' l.length c') (byV l) :: R) := by
  refine spec_body Tryz.func182 Tryz.ntmps182 rfl rfl ?_
  refine x_seq (x_region (s_val rfl (v_assign rfl) (x_nil (n_then (x_seq (x_seq (x_region (s_val rfl (v_move rfl) (s_val rfl (v_eql_slice_nil Tryz.underlying174 rfl rfl) (x_nil (n_then ?_)))))))))))
  refine x_if rfl ?_ ?_
  · intro c1
    cases c1
  · intro c1
    refine x_skip (n_then (x_seq (x_region (s_do rfl (d_slice0 Tryz.underlying174 Tryz.sizeOf5 rfl) ?_))))
    rintro _ _ ⟨b1, rfl, rfl⟩
    refine s_val rfl (v_move rfl) ?_
    refine s_do rfl (d_append (sz := 1) (by_ := 1) (info := Tryz.t5) Tryz.underlying174 (by kernel_rfl) rfl rfl rfl rfl (by decide) rfl rfl hc.weak ((byV_len l).trans (Nat.mul_one _).symm) (byV_one l) (by simp only [maxLen]; omega) (by omega)) ?_
    rintro _ _ ⟨a1, c1, rfl, rfl⟩
    refine s_val rfl (v_assign rfl) (x_nil (n_then (x_ret (x_done (.inl rfl) (.cons (r_tmp rfl) .nil) ?_))))
    exact ⟨_, ⟨a1, c1, by simp [pack], rfl⟩, by simpa using (ent_refl : Ent _ _)⟩
theorem refIn_spec (W0 : World) (R : List HP) (a : Option Addr) (n c : Nat) (at_ w : Int) (hn : n < 9223372036854775808) :
    Spec Tryz.prog W0 389 [.slice a n c, .int .i64 at_, .int .i64 w] R (fun v B => v = .bool (inB n at_ w) ∧ B = R) := by
  refine spec_body Tryz.func389 Tryz.ntmps389 rfl rfl ?_
  refine x_seq (x_region (s_val rfl (v_assign rfl) (x_nil (n_then (x_seq (x_seq (x_region (s_val rfl (v_move rfl) (s_val rfl (v_neq rfl rfl) (s_val rfl (v_move rfl) ?_))))))))))
  refine s_and rfl rfl rfl ?_ ?_
  · intro g1_3
    refine s_val rfl (v_move rfl) (s_yes rfl rfl (s_val rfl (v_neq rfl rfl) (s_val rfl (v_pick_t rfl rfl) (s_val rfl (v_move rfl) ?_))))
    refine s_and rfl rfl rfl ?_ ?_
    · intro g1_7
      refine s_val rfl (v_move rfl) (s_yes rfl rfl (s_val rfl (v_neq rfl rfl) (s_val rfl (v_pick_t rfl rfl) (x_nil (n_then ?_)))))
      refine x_if rfl ?_ ?_
      · intro c1
        refine x_seq (x_region (s_val rfl (v_assign rfl) (x_nil (n_then (x_ret (r_then (x_done (.inl rfl) (.cons (r_tmp rfl) .nil) ?_)))))))
        refine ⟨_, ⟨?_, rfl⟩, inferInstance⟩
        have hi : inB n at_ w = false := by
          rw [← Bool.not_eq_true, inB_iff]; omega
        simp [pack, hi]
      · intro c1
        refine x_skip (n_then (x_seq (x_region (s_val rfl (v_move rfl) (s_val rfl (v_geq rfl rfl) (s_val rfl (v_move rfl) ?_))))))
        refine s_and rfl rfl rfl ?_ ?_
        · intro g3_3
          refine s_val rfl (v_move rfl) (s_yes rfl rfl (s_val rfl (v_move rfl) (s_yes rfl rfl (s_val rfl (v_len_slice Tryz.underlying174 rfl) (s_yes rfl rfl (s_val rfl (v_leq rfl rfl) (s_val rfl (v_pick_t rfl rfl) (s_val rfl (v_move rfl) ?_))))))))
          refine s_and rfl rfl rfl ?_ ?_
          · intro g3_9
            refine s_val rfl (v_move rfl) (s_yes rfl rfl (s_val rfl (v_len_slice Tryz.underlying174 rfl) (s_yes rfl rfl (s_val rfl (v_move rfl) (s_yes rfl rfl ?_)))))
            refine s_val rfl (v_sub rfl rfl (w64 (by omega))) ?_
            refine s_yes rfl rfl (s_val rfl (v_move rfl) (s_yes rfl rfl (s_val rfl (v_geq rfl rfl) (s_val rfl (v_pick_t rfl rfl) (s_val rfl (v_assign rfl) (x_nil (n_then (x_ret (x_done (.inl rfl) (.cons (r_tmp rfl) .nil) ?_)))))))))
            refine ⟨_, ⟨?_, rfl⟩, inferInstance⟩
            refine congrArg Value.bool ?_
            rw [Bool.eq_iff_iff, inB_iff]; simp only [Bool.false_eq_true, false_iff, decide_eq_true_eq]; omega
          · intro g3_9
            refine s_no rfl rfl rfl rfl (s_no rfl rfl rfl rfl (s_no rfl rfl rfl rfl (s_no rfl rfl rfl rfl (s_no rfl rfl rfl rfl (s_val rfl (v_pick_f rfl rfl) (s_val rfl (v_assign rfl) (x_nil (n_then (x_ret (x_done (.inl rfl) (.cons (r_tmp rfl) .nil) ?_))))))))))
            refine ⟨_, ⟨?_, rfl⟩, inferInstance⟩
            refine congrArg Value.bool ?_
            rw [Bool.eq_iff_iff, inB_iff]; simp only [Bool.false_eq_true, false_iff, decide_eq_true_eq]; omega
        · intro g3_3
          refine s_no rfl rfl rfl rfl (s_no rfl rfl rfl rfl (s_no rfl rfl rfl rfl (s_val rfl (v_pick_f rfl rfl) (s_val rfl (v_move rfl) (s_no rfl rfl rfl rfl (s_no rfl rfl rfl rfl (s_no rfl rfl rfl rfl (s_no rfl rfl rfl rfl (s_no rfl rfl rfl rfl (s_no rfl rfl rfl rfl (s_val rfl (v_pick_f rfl rfl) (s_val rfl (v_assign rfl) (x_nil (n_then (x_ret (x_done (.inl rfl) (.cons (r_tmp rfl) .nil) ?_))))))))))))))))
          refine ⟨_, ⟨?_, rfl⟩, inferInstance⟩
          refine congrArg Value.bool ?_
          rw [Bool.eq_iff_iff, inB_iff]; simp only [Bool.false_eq_true, false_iff, decide_eq_true_eq]; omega
    · intro g1_7
      refine s_no rfl rfl rfl rfl (s_val rfl (v_pick_f rfl rfl) (x_nil (n_then (x_iff rfl (x_skip (n_then (x_seq (x_region (s_val rfl (v_move rfl) (s_val rfl (v_geq rfl rfl) (s_val rfl (v_move rfl) ?_)))))))))))
      refine s_and rfl rfl rfl ?_ ?_
      · intro g3_3
        refine s_val rfl (v_move rfl) (s_yes rfl rfl (s_val rfl (v_move rfl) (s_yes rfl rfl (s_val rfl (v_len_slice Tryz.underlying174 rfl) (s_yes rfl rfl (s_val rfl (v_leq rfl rfl) (s_val rfl (v_pick_t rfl rfl) (s_val rfl (v_move rfl) ?_))))))))
        refine s_and rfl rfl rfl ?_ ?_
        · intro g3_9
          refine s_val rfl (v_move rfl) (s_yes rfl rfl (s_val rfl (v_len_slice Tryz.underlying174 rfl) (s_yes rfl rfl (s_val rfl (v_move rfl) (s_yes rfl rfl ?_)))))
          refine s_val rfl (v_sub rfl rfl (w64 (by omega))) ?_
          refine s_yes rfl rfl (s_val rfl (v_move rfl) (s_yes rfl rfl (s_val rfl (v_geq rfl rfl) (s_val rfl (v_pick_t rfl rfl) (s_val rfl (v_assign rfl) (x_nil (n_then (x_ret (x_done (.inl rfl) (.cons (r_tmp rfl) .nil) ?_)))))))))
          refine ⟨_, ⟨?_, rfl⟩, inferInstance⟩
          refine congrArg Value.bool ?_
          rw [Bool.eq_iff_iff, inB_iff]; simp only [Bool.false_eq_true, false_iff, decide_eq_true_eq]; omega
        · intro g3_9
          refine s_no rfl rfl rfl rfl (s_no rfl rfl rfl rfl (s_no rfl rfl rfl rfl (s_no rfl rfl rfl rfl (s_no rfl rfl rfl rfl (s_val rfl (v_pick_f rfl rfl) (s_val rfl (v_assign rfl) (x_nil (n_then (x_ret (x_done (.inl rfl) (.cons (r_tmp rfl) .nil) ?_))))))))))
          refine ⟨_, ⟨?_, rfl⟩, inferInstance⟩
          refine congrArg Value.bool ?_
          rw [Bool.eq_iff_iff, inB_iff]; simp only [Bool.false_eq_true, false_iff, decide_eq_true_eq]; omega
      · intro g3_3
        refine s_no rfl rfl rfl rfl (s_no rfl rfl rfl rfl (s_no rfl rfl rfl rfl (s_val rfl (v_pick_f rfl rfl) (s_val rfl (v_move rfl) (s_no rfl rfl rfl rfl (s_no rfl rfl rfl rfl (s_no rfl rfl rfl rfl (s_no rfl rfl rfl rfl (s_no rfl rfl rfl rfl (s_no rfl rfl rfl rfl (s_val rfl (v_pick_f rfl rfl) (s_val rfl (v_assign rfl) (x_nil (n_then (x_ret (x_done (.inl rfl) (.cons (r_tmp rfl) .nil) ?_))))))))))))))))
        refine ⟨_, ⟨?_, rfl⟩, inferInstance⟩
        refine congrArg Value.bool ?_
        rw [Bool.eq_iff_iff, inB_iff]; simp only [Bool.false_eq_true, false_iff, decide_eq_true_eq]; omega
  · intro g1_3
    refine s_no rfl rfl rfl rfl (s_val rfl (v_pick_f rfl rfl) (s_val rfl (v_move rfl) (s_no rfl rfl rfl rfl (s_no rfl rfl rfl rfl (s_val rfl (v_pick_f rfl rfl) (x_nil (n_then (x_iff rfl (x_skip (n_then (x_seq (x_region (s_val rfl (v_move rfl) (s_val rfl (v_geq rfl rfl) (s_val rfl (v_move rfl) ?_)))))))))))))))
    refine s_and rfl rfl rfl ?_ ?_
    · intro g3_3
      refine s_val rfl (v_move rfl) (s_yes rfl rfl (s_val rfl (v_move rfl) (s_yes rfl rfl (s_val rfl (v_len_slice Tryz.underlying174 rfl) (s_yes rfl rfl (s_val rfl (v_leq rfl rfl) (s_val rfl (v_pick_t rfl rfl) (s_val rfl (v_move rfl) ?_))))))))
      refine s_and rfl rfl rfl ?_ ?_
      · intro g3_9
        refine s_val rfl (v_move rfl) (s_yes rfl rfl (s_val rfl (v_len_slice Tryz.underlying174 rfl) (s_yes rfl rfl (s_val rfl (v_move rfl) (s_yes rfl rfl ?_)))))
        refine s_val rfl (v_sub rfl rfl (w64 (by omega))) ?_
        refine s_yes rfl rfl (s_val rfl (v_move rfl) (s_yes rfl rfl (s_val rfl (v_geq rfl rfl) (s_val rfl (v_pick_t rfl rfl) (s_val rfl (v_assign rfl) (x_nil (n_then (x_ret (x_done (.inl rfl) (.cons (r_tmp rfl) .nil) ?_)))))))))
        refine ⟨_, ⟨?_, rfl⟩, inferInstance⟩
        refine congrArg Value.bool ?_
        rw [Bool.eq_iff_iff, inB_iff]; simp only [Bool.false_eq_true, false_iff, decide_eq_true_eq]; omega
      · intro g3_9
        refine s_no rfl rfl rfl rfl (s_no rfl rfl rfl rfl (s_no rfl rfl rfl rfl (s_no rfl rfl rfl rfl (s_no rfl rfl rfl rfl (s_val rfl (v_pick_f rfl rfl) (s_val rfl (v_assign rfl) (x_nil (n_then (x_ret (x_done (.inl rfl) (.cons (r_tmp rfl) .nil) ?_))))))))))
        refine ⟨_, ⟨?_, rfl⟩, inferInstance⟩
        refine congrArg Value.bool ?_
        rw [Bool.eq_iff_iff, inB_iff]; simp only [Bool.false_eq_true, false_iff, decide_eq_true_eq]; omega
    · intro g3_3
      refine s_no rfl rfl rfl rfl (s_no rfl rfl rfl rfl (s_no rfl rfl rfl rfl (s_val rfl (v_pick_f rfl rfl) (s_val rfl (v_move rfl) (s_no rfl rfl rfl rfl (s_no rfl rfl rfl rfl (s_no rfl rfl rfl rfl (s_no rfl rfl rfl rfl (s_no rfl rfl rfl rfl (s_no rfl rfl rfl rfl (s_val rfl (v_pick_f rfl rfl) (s_val rfl (v_assign rfl) (x_nil (n_then (x_ret (x_done (.inl rfl) (.cons (r_tmp rfl) .nil) ?_))))))))))))))))
      refine ⟨_, ⟨?_, rfl⟩, inferInstance⟩
      refine congrArg Value.bool ?_
      rw [Bool.eq_iff_iff, inB_iff]; simp only [Bool.false_eq_true, false_iff, decide_eq_true_eq]; omega
end Go.Proofs.YtnidndllknffgaaGreat
namespace Go.Proofs.YtnidndllknffgaaGreat
open Go.RowKit
set_option linter.unusedSimpArgs false
set_option linter.unusedVariables false
set_option maxRecDepth 20000
theorem maxLen_lt {c : Nat} (h : c ≤ maxLen) : c < 9223372036854775808 := by simp only [maxLen] at h; omega
theorem put_cells {l : List Nat} {sp : List Value} {i k w : Nat} (h : i + k ≤ l.length) : setR (byV l ++ sp) i (byV (leB k w)) = byV (putB l i k w) ++ sp := by
  rw [setR_front _ _ _ _ (by rw [byV_len, byV_len, leB_len]; exact h), setR_byV h]
def putV (a : Option Addr) (n c : Nat) : Value := .tuple #[.slice a n c, .int .i64 0]
def putNo : Value := .tuple #[.slice none 0 0, .int .i64 1]
theorem octPut_ok (W0 : World) (R : List HP) (g off c : Nat) (l : List Nat) (i k w : Nat) (hw : w < 4294967296) (hc : Cells (OwnP W0 R) g off (byV l)) (hi : inB l.length i k = true) (hn : l.length ≤ 1000000) :
    Spec Tryz.prog W0 73 [.slice (some ⟨g, off, none⟩) l.length c, .int .i64 i, .int .i64 k, .int .u32 w] R (fun v B => ∃ a' c', v = putV a' l.length c' ∧ B = osl 5 1 (.slice a' l.length c') (byV (putB l i k w)) :: R) := by
  have hb := inB_iff.1 hi
  refine spec_body Tryz.func73 Tryz.ntmps73 rfl rfl ?_
  refine x_seq (x_region (s_val rfl (v_assign rfl) (s_val rfl (v_assign rfl) (x_nil (n_then (x_seq (x_region (s_val rfl (v_move rfl) (s_do rfl (d_call Tryz.call182 rfl (clone_spec W0 _ g off c l hc hn)) ?_)))))))))
  rintro _ B_ ⟨a', c', rfl, hB_⟩
  obtain rfl := hB_.symm
  refine s_val rfl (v_assign rfl) (x_nil (n_then (x_seq ?_)))
  refine run_osl (fun h _ => by have := (Value.slice.inj h).2.1; omega) fun g' n' cap sp h1 h2 h3 h4 h5 => ?_
  cases h1
  have hwv : winV g' 0 l.length i k = .tuple #[.slice (some ⟨g', i, none⟩) k k, .bool true] := by simp [winV, hi]
  refine x_region (s_val rfl (v_move rfl) (s_val rfl (v_move rfl) (s_val rfl (v_move rfl) (s_do rfl (d_call Tryz.call183 rfl (window_spec W0 _ g' 0 l.length c' i k h2 (maxLen_lt h3))) ?_))))
  rintro _ B_ ⟨rfl, hB_⟩
  obtain rfl := hB_.symm
  rw [hwv]
  refine s_val rfl (v_move rfl) (s_val rfl (v_extract rfl rfl) (s_val rfl (v_extract rfl rfl) (s_val rfl (v_assign rfl) (s_val rfl (v_assign rfl) (x_nil (n_then (x_seq (x_seq (x_region (s_val rfl (v_move rfl) (s_val rfl (v_not rfl) (x_nil (n_then ?_)))))))))))))
  refine x_if rfl ?_ ?_
  · intro c3
    exact absurd c3 (by simp)
  · intro c3
    refine x_skip (n_then (x_seq (x_region (s_val rfl (v_move rfl) (s_val rfl (v_move rfl) ?_)))))
    refine s_do rfl (d_call1 Tryz.call184 rfl (spread_spec W0 _ g' i k k 5 (byV l ++ sp) w hw (by omega) (by rw [List.length_append, byV_len]; omega))) ?_
    rintro _ B_ ⟨rfl, hB_⟩
    obtain rfl := hB_.symm
    rw [put_cells (by omega)]
    refine x_nil (n_then (x_seq (x_region (s_val rfl (v_move rfl) (s_val rfl (v_assign rfl) (s_val rfl (v_assign rfl) (x_nil (n_then (x_ret (x_done (.inl rfl) (.cons (r_tmp rfl) (.cons (r_tmp rfl) .nil)) ?_))))))))))
    exact ⟨_, ⟨_, c', rfl, rfl⟩, ent_osl h2 h3 (by rw [byV_len, putB_len (by omega), Nat.mul_one]) (by rw [← h5, List.length_append, List.length_append, byV_len, byV_len, putB_len (by omega)])⟩
theorem octPut_no (W0 : World) (R : List HP) (g off c : Nat) (l : List Nat) (at_ k : Int) (w : Nat) (hc : Cells (OwnP W0 R) g off (byV l)) (hi : inB l.length at_ k = false) (hn : l.length ≤ 1000000) :
    Spec Tryz.prog W0 73 [.slice (some ⟨g, off, none⟩) l.length c, .int .i64 at_, .int .i64 k, .int .u32 w] R (fun v B => v = putNo ∧ B = R) := by
  refine spec_body Tryz.func73 Tryz.ntmps73 rfl rfl ?_
  refine x_seq (x_region (s_val rfl (v_assign rfl) (s_val rfl (v_assign rfl) (x_nil (n_then (x_seq (x_region (s_val rfl (v_move rfl) (s_do rfl (d_call Tryz.call182 rfl (clone_spec W0 _ g off c l hc hn)) ?_)))))))))
  rintro _ B_ ⟨a', c', rfl, hB_⟩
  obtain rfl := hB_.symm
  refine s_val rfl (v_assign rfl) (x_nil (n_then (x_seq ?_)))
  obtain ⟨R', hR'⟩ : ∃ R', R' = osl 5 1 (.slice a' l.length c') (byV l) :: R := ⟨_, rfl⟩
  refine x_region (s_val rfl (v_move rfl) (s_val rfl (v_move rfl) (s_val rfl (v_move rfl) ?_)))
  refine s_do rfl (d_call Tryz.call183 rfl (windowN_spec W0 _ a' l.length c' at_ k hi (by omega))) ?_
  rintro _ B_ ⟨rfl, hB_⟩
  obtain rfl := hB_.symm
  refine s_val rfl (v_move rfl) (s_val rfl (v_extract rfl rfl) (s_val rfl (v_extract rfl rfl) (s_val rfl (v_assign rfl) (s_val rfl (v_assign rfl) (x_nil (n_then (x_seq (x_seq (x_region (s_val rfl (v_move rfl) (s_val rfl (v_not rfl) (x_nil (n_then ?_)))))))))))))
  refine x_if rfl ?_ ?_
  · intro c3
    refine x_seq (x_region (s_val rfl (v_assign rfl) (s_val rfl (v_assign rfl) (x_nil (n_then (x_ret (r_then (x_done (.inl rfl) (.cons (r_tmp rfl) (.cons (r_tmp rfl) .nil)) ?_))))))))
    exact ⟨_, ⟨rfl, rfl⟩, inferInstance⟩
  · intro c3
    exact absurd c3 (by simp)
theorem refPut_ok (W0 : World) (R : List HP) (g off c : Nat) (l : List Nat) (i0 k w : Nat) (hw : w < 4294967296) (hc : Cells (OwnP W0 R) g off (byV l)) (hi : inB l.length i0 k = true) (hn : l.length ≤ 1000000) :
    Spec Tryz.prog W0 362 [.slice (some ⟨g, off, none⟩) l.length c, .int .i64 i0, .int .i64 k, .int .u32 w] R (fun v B => ∃ a' c', v = putV a' l.length c' ∧ B = osl 5 1 (.slice a' l.length c') (byV (putB l i0 k w)) :: R) := by
  have hb := inB_iff.1 hi
  refine spec_body Tryz.func362 Tryz.ntmps362 rfl rfl ?_
  refine x_seq (x_region (s_val rfl (v_assign rfl) (s_val rfl (v_assign rfl) (x_nil (n_then (x_seq (x_seq (x_region (s_val rfl (v_move rfl) (s_val rfl (v_move rfl) (s_val rfl (v_move rfl) ?_)))))))))))
  refine s_do rfl (d_call Tryz.call389 rfl (refIn_spec W0 _ _ l.length c i0 k (by omega))) ?_
  rintro _ B_ ⟨rfl, hB_⟩
  obtain rfl := hB_.symm
  refine s_val rfl (v_not rfl) (x_nil (n_then ?_))
  refine x_if rfl ?_ ?_
  · intro c1
    exact absurd c1 (by simp [hi])
  · intro c1
    refine x_skip (n_then (x_seq (x_region (s_do rfl (d_slice0 Tryz.underlying174 Tryz.sizeOf5 rfl) ?_))))
    rintro _ _ ⟨b1, rfl, rfl⟩
    refine s_val rfl (v_move rfl) ?_
    refine s_do rfl (d_append (sz := 1) (by_ := 1) (info := Tryz.t5) Tryz.underlying174 (by kernel_rfl) rfl rfl rfl rfl (by decide) rfl rfl hc.weak ((byV_len l).trans (Nat.mul_one _).symm) (byV_one l) (by simp only [maxLen]; omega) (by omega)) ?_
    rintro _ B_ ⟨a', c', rfl, hB_⟩
    obtain rfl := hB_.symm
    simp only [Nat.zero_add, List.nil_append]
    refine s_val rfl (v_assign rfl) (x_nil (n_then (x_seq (x_seq ?_))))
    refine run_osl (fun h _ => by have := (Value.slice.inj h).2.1; omega) fun g' n' cap sp h1 h2 h3 h4 h5 => ?_
    cases h1
    refine x_region (s_val rfl (v_assign rfl) (x_nil (n_then (x_block ?_))))
    refine x_loop (fun i : Nat => i ≤ k) (fun i => [(1, .int .i64 i0), (2, .int .i64 k), (3, .int .u32 w), (10, .slice (some ⟨g', 0, none⟩) l.length c'), (11, .int .i64 i)]) (fun i => pt g' (cob (setR (byV l ++ sp) i0 (byV (leB i w))) 5) :: R) (fun i => k - i) 0 ?_ ?_ ?_ ?_
    · exact Nat.zero_le _
    · repeat (first | exact sub_nil | refine sub_cons rfl ?_)
    · rw [show setR (byV l ++ sp) i0 (byV (leB 0 w)) = byV l ++ sp from rfl]; exact inferInstance
    · intro i hik
      refine x_seq (x_seq (x_region (s_val rfl (v_move rfl) (s_val rfl (v_move rfl) (s_val rfl (v_lss rfl rfl) (x_nil (n_then ?_)))))))
      refine x_if rfl ?_ ?_
      · intro c5
        refine x_skip (n_then (x_seq (x_block (x_region (s_val rfl (v_move rfl) (s_val rfl (v_move rfl) (s_val rfl (v_move rfl) ?_)))))))
        refine s_val rfl (v_add rfl rfl (by rw [w64 (by omega)]; omega : IntKind.wrap .i64 ((i0 : Int) + (i : Int)) = ((i0 + i : Nat) : Int))) ?_
        refine s_val rfl (v_move rfl) (s_val rfl (v_move rfl) ?_)
        refine s_val rfl (v_mul rfl rfl (by rw [w64 (by omega)]; omega : IntKind.wrap .i64 (8 * (i : Int)) = ((8 * i : Nat) : Int))) ?_
        refine s_val rfl (v_shr rfl rfl (by omega) rfl) ?_
        refine s_val rfl (v_conv Tryz.underlying42 Tryz.underlying5 rfl (byte_of (by omega))) ?_
        refine s_val rfl (v_idx Tryz.underlying174 Tryz.sizeOf5 rfl rfl rfl (by omega) (by first | exact Nat.zero_add _ | rfl)) ?_
        refine s_do0 (d_store Tryz.sizeOf5 rfl rfl rfl (by rw [setR_length, List.length_append, byV_len]; omega) (by rw [leB_succ, byV_append, show byV [w / 256 ^ i % 256] = [bV (w / 256 ^ i % 256)] from rfl, setR_snoc, byV_len, leB_len, Nat.mul_one]; rfl : (setR (byV l ++ sp) i0 (byV (leB i w))).set ((i0 + i) * 1) _ = setR (byV l ++ sp) i0 (byV (leB (i + 1) w)))) ?_
        rintro _ _ rfl
        refine x_nil (n_block (n_then (x_region (s_val rfl (v_move rfl) ?_))))
        refine s_val rfl (v_add rfl rfl (by first | exact w64 (by omega) | rfl)) ?_
        refine s_val rfl (v_assign rfl) (x_nil (n_then ?_))
        refine inv_intro (i + 1) ?_ ?_ ?_ ?_
        · omega
        · omega
        · repeat (first | exact sub_nil | refine sub_cons rfl ?_)
        · exact inferInstance
      · intro c5
        refine x_exit (e_then (e_then (e_block (n_then (x_seq (x_region (s_val rfl (v_move rfl) (s_val rfl (v_assign rfl) (s_val rfl (v_assign rfl) (x_nil (n_then (x_ret (x_done (.inl rfl) (.cons (r_tmp rfl) (.cons (r_tmp rfl) .nil)) ?_)))))))))))))
        have : i = k := by omega
        subst this
        rw [put_cells (by omega)]
        exact ⟨_, ⟨_, c', rfl, rfl⟩, ent_osl h2 h3 (by rw [byV_len, putB_len (by omega), Nat.mul_one]) (by rw [← h5, List.length_append, List.length_append, byV_len, byV_len, putB_len (by omega)])⟩
theorem refPut_no (W0 : World) (R : List HP) (a : Option Addr) (n c : Nat) (at_ k : Int) (w : Nat) (hi : inB n at_ k = false) (hn : n ≤ 1000000) :
    Spec Tryz.prog W0 362 [.slice a n c, .int .i64 at_, .int .i64 k, .int .u32 w] R (fun v B => v = putNo ∧ B = R) := by
  refine spec_body Tryz.func362 Tryz.ntmps362 rfl rfl ?_
  refine x_seq (x_region (s_val rfl (v_assign rfl) (s_val rfl (v_assign rfl) (x_nil (n_then (x_seq (x_seq (x_region (s_val rfl (v_move rfl) (s_val rfl (v_move rfl) (s_val rfl (v_move rfl) ?_)))))))))))
  refine s_do rfl (d_call Tryz.call389 rfl (refIn_spec W0 _ _ n c at_ k (by omega))) ?_
  rintro _ B_ ⟨rfl, hB_⟩
  obtain rfl := hB_.symm
  refine s_val rfl (v_not rfl) (x_nil (n_then ?_))
  refine x_if rfl ?_ ?_
  · intro c1
    refine x_seq (x_region (s_val rfl (v_assign rfl) (s_val rfl (v_assign rfl) (x_nil (n_then (x_ret (r_then (x_done (.inl rfl) (.cons (r_tmp rfl) (.cons (r_tmp rfl) .nil)) ?_))))))))
    exact ⟨_, ⟨rfl, rfl⟩, inferInstance⟩
  · intro c1
    exact absurd c1 (by simp [hi])
end Go.Proofs.YtnidndllknffgaaGreat
namespace Go.Proofs.YtnidndllknffgaaGreat
open Go.RowKit
set_option linter.unusedSimpArgs false
set_option linter.unusedVariables false
set_option maxRecDepth 20000
abbrev Frm := List Nat
def frV (x : Frm) : List Value := (List.range 64).map (fun i => bV (x.getD i 0))
theorem frV_len (x : Frm) : (frV x).length = 64 := by simp [frV]
theorem frV_eq {x : Frm} (h : x.length = 64) : frV x = byV x := by
  apply List.ext_getElem
  · simp [frV, byV, h]
  · intro i h1 h2
    have : i < x.length := by simpa [byV] using h2
    simp [frV, byV, List.getD, this]
def Frs (fr : List Frm) : Prop := ∀ x ∈ fr, x.length = 64 ∧ By x
theorem Frs.get {fr : List Frm} (h : Frs fr) {f : Nat} (hf : f < fr.length) : (fr.getD f []).length = 64 ∧ By (fr.getD f []) := by
  have : fr.getD f [] = fr[f] := by simp [List.getD, hf]
  rw [this]; exact h _ (List.getElem_mem hf)
theorem Frs.set {fr : List Frm} (h : Frs fr) {f : Nat} {y : Frm} (hy : y.length = 64 ∧ By y) : Frs (fr.set f y) := fun x hx => by
  rcases List.mem_or_eq_of_mem_set hx with h' | rfl
  · exact h x h'
  · exact hy
theorem fr_row {fr : List Frm} (h : Frs fr) {f : Nat} (hf : f < fr.length) : ((fr.flatMap frV).drop (f * 64)).take 64 = byV (fr.getD f []) := by
  have := flat_row frV_len fr f [] hf
  rw [List.append_nil] at this
  rw [this, frV_eq (h _ (List.getElem_mem hf)).1]; simp [List.getD, hf]
theorem fr_set {fr : List Frm} {f : Nat} {y : Frm} (hf : f < fr.length) (hy : y.length = 64) : setR (fr.flatMap frV) (f * 64) (byV y) = (fr.set f y).flatMap frV := by
  have := flat_set frV_len fr f y [] hf
  rw [List.append_nil, List.append_nil, frV_eq hy] at this
  exact this
theorem fr_len (fr : List Frm) : (fr.flatMap frV).length = fr.length * 64 := flat_len frV_len fr
def zeros : Frm := List.replicate 64 0
theorem zeros_ok : zeros.length = 64 ∧ By zeros := ⟨by simp [zeros], fun b hb => by have := List.eq_of_mem_replicate hb; omega⟩
theorem Frs.new (n : Nat) : Frs (List.replicate n zeros) := fun x hx => by rw [List.eq_of_mem_replicate hx]; exact zeros_ok
theorem fr_new : ∀ n, (List.replicate n zeros).flatMap frV = List.replicate (n * 64) (bV 0)
  | 0 => rfl
  | n + 1 => by
    rw [List.replicate_succ, List.flatMap_cons, fr_new n, Nat.succ_mul, Nat.add_comm, ← List.replicate_append_replicate]
    congr 1
def stoH (ps : Nat) (fr : List Frm) : HP := chk (fun C => ∃ g, C = [pt ps (cob [.slice (some ⟨g, 0, none⟩) fr.length fr.length, .bool true] 181), pt g (cob (fr.flatMap frV) 178)])
section
variable {P : Program} {W0 : World} {N : FSz} {K : Act → World → Prop} {e : Env} {A B R R1 R2 : List HP} {ps g n : Nat} {fr : List Frm} {f : FuncId} {args : List Value} {Post : Value → List HP → Prop} {l : List Value}
theorem spec_sto (h : ∀ g, Spec P W0 f args (pt ps (cob [.slice (some ⟨g, 0, none⟩) fr.length fr.length, .bool true] 181) :: pt g (cob (fr.flatMap frV) 178) :: R) Post) : Spec P W0 f args (stoH ps fr :: R) Post :=
  spec_chk fun C hC => by obtain ⟨g, rfl⟩ := hC; exact h g
theorem ent_sto [h1 : Tk pt ps A (cob [.slice (some ⟨g, 0, none⟩) n n, .bool true] 181) R1] [h2 : Tk pt g R1 (cob l 178) R2] (hl : l = fr.flatMap frV) (hn : n = fr.length) [k : Ent R2 B] : Ent A (stoH ps fr :: B) := by
  subst hl; subst hn
  exact (Ent.ofPerm (h1.perm.trans (h2.perm.cons _))).trans ((Ent.cons (Ent.cons k)).trans (ent_chk (R := B) (C := [_, _]) ⟨g, rfl⟩))
theorem run_sto [hk : Tk stoH ps A fr R] (h : ∀ g, Run W0 N K e (pt ps (cob [.slice (some ⟨g, 0, none⟩) fr.length fr.length, .bool true] 181) :: pt g (cob (fr.flatMap frV) 178) :: R)) : Run W0 N K e A :=
  run_tk (r := stoH) (b := ps) (run_chk fun C hC => by obtain ⟨g, rfl⟩ := hC; exact h g)
end
theorem octPutN_ok {W0 : World} {R : List HP} {g off c n : Nat} {l : List Nat} {i k w : Nat} (hl : l.length = n) (hw : w < 4294967296) (hc : Cells (OwnP W0 R) g off (byV l)) (hi : inB n i k = true) (hn : n ≤ 1000000) :
    Spec Tryz.prog W0 73 [.slice (some ⟨g, off, none⟩) n c, .int .i64 i, .int .i64 k, .int .u32 w] R (fun v B => ∃ a' c', v = putV a' n c' ∧ B = osl 5 1 (.slice a' n c') (byV (putB l i k w)) :: R) := by
  subst hl; exact octPut_ok W0 R g off c l i k w hw hc hi hn
theorem octPutN_no {W0 : World} {R : List HP} {g off c n : Nat} {l : List Nat} {at_ k : Int} {w : Nat} (hl : l.length = n) (hc : Cells (OwnP W0 R) g off (byV l)) (hi : inB n at_ k = false) (hn : n ≤ 1000000) :
    Spec Tryz.prog W0 73 [.slice (some ⟨g, off, none⟩) n c, .int .i64 at_, .int .i64 k, .int .u32 w] R (fun v B => v = putNo ∧ B = R) := by
  subst hl; exact octPut_no W0 R g off c l at_ k w hc hi hn
theorem frNew_spec (W0 : World) (R : List HP) (n : Nat) (h : n ≤ 32) :
    Spec Tryz.prog W0 46 [.int .i64 n] R (fun v B => ∃ b, v = .tuple #[.pointer (some ⟨b, 0, none⟩), .int .i64 0] ∧ B = stoH b (List.replicate n zeros) :: R) := by
  refine spec_body Tryz.func46 Tryz.ntmps46 rfl rfl ?_
  refine x_seq (x_region (s_val rfl (v_assign rfl) (s_val rfl (v_assign rfl) (x_nil (n_then (x_seq (x_seq (x_region (s_val rfl (v_move rfl) (s_val rfl (v_lss rfl rfl) (s_val rfl (v_move rfl) ?_)))))))))))
  refine s_or rfl rfl rfl ?_ ?_
  · intro g1_3
    omega
  · intro g1_3
    refine s_val rfl (v_move rfl) (s_yes rfl rfl (s_val rfl (v_gtr rfl rfl) (s_val rfl (v_pick_f rfl rfl) (x_nil (n_then ?_)))))
    refine x_if rfl ?_ ?_
    · intro c1
      omega
    · intro c1
      refine x_skip (n_then (x_seq (x_region (s_val rfl (v_move rfl) ?_))))
      refine s_do rfl (d_make (sz := 64) (by_ := 64) (info := Tryz.t178) Tryz.underlying179 (by kernel_rfl) rfl rfl rfl rfl (by decide) rfl rfl rfl rfl (by omega) (by decide)) ?_
      rintro _ _ ⟨b1, rfl, rfl⟩
      refine s_val rfl (v_build Tryz.underlying181 Tryz.zeroValue181 (sized_cons Tryz.sizeOf179 (sized_cons Tryz.sizeOf4 sized_nil)) (fil_scal rfl Tryz.sizeOf179 rfl rfl (Nat.le_of_ble_eq_true rfl) SetL.eq (fil_scal rfl Tryz.sizeOf4 rfl rfl (Nat.le_of_ble_eq_true rfl) SetL.eq fil_nil))) ?_
      refine s_do rfl (d_boxA rfl) ?_
      rintro _ _ ⟨b2, rfl, rfl⟩
      refine s_val rfl (v_assign rfl) (s_val rfl (v_assign rfl) (x_nil (n_then (x_ret (x_done (.inl rfl) (.cons (r_tmp rfl) (.cons (r_tmp rfl) .nil)) ?_)))))
      exact ⟨_, ⟨b2, rfl, rfl⟩, ent_sto (fr_new n).symm (by simp)⟩
theorem frNone_spec (W0 : World) (R : List HP) (ps : Nat) (fr : List Frm) :
    Spec Tryz.prog W0 181 [.pointer (some ⟨ps, 0, none⟩)] (stoH ps fr :: R) (fun v B => v = .bool false ∧ B = stoH ps fr :: R) := by
  refine spec_sto fun g => ?_
  refine spec_body Tryz.func181 Tryz.ntmps181 rfl rfl ?_
  refine x_seq (x_region (s_val rfl (v_assign rfl) (x_nil (n_then (x_seq (x_region (s_val rfl (v_move rfl) (s_val rfl (v_eql_ptr_nil Tryz.underlying63 rfl rfl) (s_val rfl (v_move rfl) ?_)))))))))
  refine s_or rfl rfl rfl ?_ ?_
  · intro g1_3
    cases g1_3
  · intro g1_3
    refine s_val rfl (v_move rfl) (s_yes rfl rfl (s_val rfl (v_nilCheck rfl) (s_yes rfl rfl ?_)))
    refine s_val rfl (v_fieldAddr rfl Tryz.underlying181 rfl Tryz.sizeOf4 rfl (by first | exact Nat.zero_add _ | rfl)) ?_
    refine s_yes rfl rfl (s_val rfl (v_load Tryz.isAgg4 rfl (cell_own rfl)) ?_)
    refine s_yes rfl rfl (s_val rfl (v_not rfl) (s_val rfl (v_pick_f rfl rfl) (s_val rfl (v_assign rfl) (x_nil (n_then (x_ret (x_done (.inl rfl) (.cons (r_tmp rfl) .nil) ?_)))))))
    exact ⟨_, ⟨by simp [pack], rfl⟩, ent_sto rfl rfl⟩
theorem frLen_spec (W0 : World) (R : List HP) (ps : Nat) (fr : List Frm) :
    Spec Tryz.prog W0 86 [.pointer (some ⟨ps, 0, none⟩)] (stoH ps fr :: R) (fun v B => v = .int .i64 (fr.length : Nat) ∧ B = stoH ps fr :: R) := by
  refine spec_body Tryz.func86 Tryz.ntmps86 rfl rfl ?_
  refine x_seq (x_region (s_val rfl (v_assign rfl) (x_nil (n_then (x_seq (x_seq (x_region (s_val rfl (v_move rfl) (s_do rfl (d_call1 Tryz.call181 rfl (frNone_spec W0 _ ps fr)) ?_)))))))))
  rintro _ B_ ⟨rfl, hB_⟩
  obtain rfl := hB_.symm
  refine x_nil (n_then ?_)
  refine x_if rfl ?_ ?_
  · intro c1
    exact absurd c1 (by decide)
  · intro c1
    refine x_skip (n_then (x_seq ?_))
    refine run_sto (ps := ps) fun g => ?_
    refine x_region (s_val rfl (v_move rfl) (s_val rfl (v_nilCheck rfl) ?_))
    refine s_val rfl (v_fieldAddr rfl Tryz.underlying181 rfl Tryz.sizeOf179 rfl (by first | exact Nat.zero_add _ | rfl)) ?_
    refine s_val rfl (v_load Tryz.isAgg179 rfl (cell_own rfl)) ?_
    refine s_val rfl (v_len_slice Tryz.underlying179 rfl) (s_val rfl (v_assign rfl) (x_nil (n_then (x_ret (x_done (.inl rfl) (.cons (r_tmp rfl) .nil) ?_)))))
    exact ⟨_, ⟨rfl, rfl⟩, ent_sto rfl rfl⟩
def isF (n : Nat) (f : Int) : Bool := decide (0 ≤ f ∧ f < n)
theorem frMay_spec (W0 : World) (R : List HP) (ps : Nat) (fr : List Frm) (f : Int) :
    Spec Tryz.prog W0 72 [.pointer (some ⟨ps, 0, none⟩), .int .i64 f] (stoH ps fr :: R) (fun v B => v = .int .i64 (if isF fr.length f then 0 else 1) ∧ B = stoH ps fr :: R) := by
  refine spec_body Tryz.func72 Tryz.ntmps72 rfl rfl ?_
  refine x_seq (x_region (s_val rfl (v_assign rfl) (x_nil (n_then (x_seq (x_block (x_seq (x_region (s_val rfl (v_move rfl) (s_do rfl (d_call1 Tryz.call181 rfl (frNone_spec W0 _ ps fr)) ?_))))))))))
  rintro _ B_ ⟨rfl, hB_⟩
  obtain rfl := hB_.symm
  refine s_val rfl (v_assign rfl) (x_nil (n_then ?_))
  refine x_if rfl ?_ ?_
  · intro c1
    exact absurd c1 (by decide)
  · intro c1
    refine x_seq (x_seq (x_region (s_val rfl (v_move rfl) (s_val rfl (v_lss rfl rfl) (s_val rfl (v_assign rfl) (x_nil (n_then ?_)))))))
    refine x_if rfl ?_ ?_
    · intro c3
      refine x_skip (n_then (x_ift rfl (x_seq (x_region (s_val rfl (v_assign rfl) (x_nil (n_then (x_ret (r_block (r_then (x_done (.inl rfl) (.cons (r_tmp rfl) .nil) ?_)))))))))))
      have hf : isF fr.length f = false := by rw [← Bool.not_eq_true]; simp only [isF, decide_eq_true_eq]; omega
      first
        | exact ⟨_, ⟨by simp [pack, hf], rfl⟩, ent_sto rfl rfl⟩
        | exact ⟨_, ⟨by simp [pack, hf], rfl⟩, inferInstance⟩
    · intro c3
      refine run_sto (ps := ps) fun g => ?_
      refine x_region (s_val rfl (v_move rfl) (s_val rfl (v_move rfl) (s_val rfl (v_nilCheck rfl) ?_)))
      refine s_val rfl (v_fieldAddr rfl Tryz.underlying181 rfl Tryz.sizeOf179 rfl (by first | exact Nat.zero_add _ | rfl)) ?_
      refine s_val rfl (v_load Tryz.isAgg179 rfl (cell_own rfl)) ?_
      refine s_val rfl (v_len_slice Tryz.underlying179 rfl) (s_val rfl (v_geq rfl rfl) (s_val rfl (v_assign rfl) (x_nil (n_then ?_))))
      refine x_if rfl ?_ ?_
      · intro c4
        refine x_seq (x_region (s_val rfl (v_assign rfl) (x_nil (n_then (x_ret (r_block (r_then (x_done (.inl rfl) (.cons (r_tmp rfl) .nil) ?_))))))))
        have hf : isF fr.length f = false := by rw [← Bool.not_eq_true]; simp only [isF, decide_eq_true_eq]; omega
        first
          | exact ⟨_, ⟨by simp [pack, hf], rfl⟩, ent_sto rfl rfl⟩
          | exact ⟨_, ⟨by simp [pack, hf], rfl⟩, inferInstance⟩
      · intro c4
        refine x_skip (n_block (n_then (x_seq (x_region (s_val rfl (v_assign rfl) (x_nil (n_then (x_ret (x_done (.inl rfl) (.cons (r_tmp rfl) .nil) ?_)))))))))
        have hf : isF fr.length f = true := by simp only [isF, decide_eq_true_eq]; omega
        exact ⟨_, ⟨by simp [pack, hf], rfl⟩, ent_sto rfl rfl⟩
def ldN (fr : List Frm) (f off w : Int) : Nat := if isF fr.length f then getN (fr.getD f.toNat []) off w else 0
theorem isF_nat {n : Nat} {f : Int} (h : isF n f = true) : ∃ i : Nat, f = (i : Int) ∧ i < n := by
  simp only [isF, decide_eq_true_eq] at h
  exact ⟨f.toNat, by omega, by omega⟩
def svOk (fr : List Frm) (f off w : Int) : Bool := isF fr.length f && inB 64 off w
def svF (fr : List Frm) (f off w : Int) (v : Nat) : List Frm := if svOk fr f off w then fr.set f.toNat (putB (fr.getD f.toNat []) off.toNat w.toNat v) else fr
theorem svF_ok {fr : List Frm} {f off w : Int} {v : Nat} (h : Frs fr) : Frs (svF fr f off w v) := by
  unfold svF; split
  · rename_i hs
    simp only [svOk, Bool.and_eq_true] at hs
    obtain ⟨i, rfl, hi⟩ := isF_nat hs.1
    obtain ⟨o, k, rfl, rfl, hk, hok⟩ := inB_nat hs.2
    obtain ⟨hl, hb⟩ := h.get hi
    exact h.set ⟨by rw [putB_len (by simp only [Int.toNat_natCast]; omega)]; exact hl, putB_by hb⟩
  · exact h
theorem svF_len {fr : List Frm} {f off w : Int} {v : Nat} : (svF fr f off w v).length = fr.length := by unfold svF; split <;> simp
theorem frSave_spec (W0 : World) (R : List HP) (ps : Nat) (fr : List Frm) (f off w : Int) (x : Nat) (hx : x < 4294967296) (hF : Frs fr) :
    Spec Tryz.prog W0 29 [.pointer (some ⟨ps, 0, none⟩), .int .i64 f, .int .i64 off, .int .i64 w, .int .u32 x] (stoH ps fr :: R)
      (fun v B => v = .int .i64 (if svOk fr f off w then 0 else 1) ∧ B = stoH ps (svF fr f off w x) :: R) := by
  by_cases hf : isF fr.length f = true
  · obtain ⟨i, rfl, hi⟩ := isF_nat hf
    obtain ⟨hl, hb⟩ := hF.get hi
    by_cases hin : inB 64 off w = true
    · obtain ⟨o, k, rfl, rfl, hk, hok⟩ := inB_nat hin
      have hs : svOk fr i o k = true := by simp [svOk, hf, hin]
      have hpl : (putB (fr.getD i []) o k x).length = 64 := by rw [putB_len (by omega)]; exact hl
      refine spec_body Tryz.func29 Tryz.ntmps29 rfl rfl ?_
      refine x_seq (x_region (s_val rfl (v_assign rfl) (x_nil (n_then (x_seq (x_seq (x_region (s_val rfl (v_move rfl) (s_val rfl (v_move rfl) (s_do rfl (d_call1 Tryz.call72 rfl (frMay_spec W0 _ ps fr i)) ?_))))))))))
      rintro _ B_ ⟨rfl, hB_⟩
      obtain rfl := hB_.symm
      refine s_val rfl (v_assign rfl) (x_nil (n_then (x_seq (x_region (s_val rfl (v_move rfl) (s_val rfl (v_neq rfl rfl) (x_nil (n_then ?_))))))))
      refine x_if rfl ?_ ?_
      · intro c2
        exact absurd c2 (by simp [hf])
      · intro c2
        refine x_skip (n_then (x_seq ?_))
        refine run_sto (ps := ps) fun g => ?_
        refine x_region (s_val rfl (v_move rfl) (s_val rfl (v_nilCheck rfl) ?_))
        refine s_val rfl (v_fieldAddr rfl Tryz.underlying181 rfl Tryz.sizeOf179 rfl (by first | exact Nat.zero_add _ | rfl)) ?_
        refine s_val rfl (v_load Tryz.isAgg179 rfl (cell_own rfl)) ?_
        refine s_val rfl (v_move rfl) ?_
        refine s_val rfl (v_idx Tryz.underlying179 Tryz.sizeOf178 rfl rfl rfl hi (by first | exact Nat.zero_add _ | rfl)) ?_
        refine s_val rfl (v_sliceArr Tryz.underlying178 Tryz.sizeOf5 rfl) ?_
        refine s_val rfl (v_move rfl) (s_val rfl (v_move rfl) (s_val rfl (v_move rfl) ?_))
        refine s_do rfl (d_call Tryz.call73 rfl (octPutN_ok hl hx (cells_part (fr_row hF hi) (by rw [byV_len, hl])) hin (by decide))) ?_
        rintro _ B_ ⟨a', c', rfl, hB_⟩
        obtain rfl := hB_.symm
        refine s_val rfl (v_move rfl) (s_val rfl (v_extract rfl rfl) (s_val rfl (v_extract rfl rfl) (s_val rfl (v_assign rfl) (s_val rfl (v_assign rfl) (x_nil (n_then (x_seq (x_seq (x_region (s_val rfl (v_move rfl) (s_val rfl (v_neq rfl rfl) (x_nil (n_then ?_)))))))))))))
        refine x_if rfl ?_ ?_
        · intro c5
          exact absurd c5 (by simp)
        · intro c5
          refine x_skip (n_then (x_seq ?_))
          refine run_osl (fun h _ => by have := (Value.slice.inj h).2.1; omega) fun g' n' cap sp h1 h2 h3 h4 h5 => ?_
          cases h1
          refine x_region (s_val rfl (v_move rfl) (s_val rfl (v_nilCheck rfl) ?_))
          refine s_val rfl (v_fieldAddr rfl Tryz.underlying181 rfl Tryz.sizeOf179 rfl (by first | exact Nat.zero_add _ | rfl)) ?_
          refine s_val rfl (v_load Tryz.isAgg179 rfl (cell_own rfl)) ?_
          refine s_val rfl (v_move rfl) ?_
          refine s_val rfl (v_idx Tryz.underlying179 Tryz.sizeOf178 rfl rfl rfl hi (by first | exact Nat.zero_add _ | rfl)) ?_
          refine s_val rfl (v_sliceArr Tryz.underlying178 Tryz.sizeOf5 rfl) ?_
          refine s_val rfl (v_move rfl) ?_
          refine s_do rfl (d_copy Tryz.underlying174 Tryz.sizeOf5 rfl rfl (m := 64) (vs := byV (putB (fr.getD i []) o k x)) rfl (cells_part (n := 64) (by rw [List.drop_zero, List.take_left' (by rw [byV_len, hpl])]) (by rw [byV_len, hpl])) (by rw [byV_len, hpl]) (byV_one _) (by rw [fr_len]; omega) (fr_set hi hpl)) ?_
          rintro _ B_ ⟨rfl, hB_⟩
          obtain rfl := hB_.symm
          refine x_nil (n_then (x_seq (x_region (s_val rfl (v_assign rfl) (x_nil (n_then (x_ret (x_done (.inl rfl) (.cons (r_tmp rfl) .nil) ?_))))))))
          exact ⟨_, ⟨by simp [pack, hs], rfl⟩, ent_sto (by simp [svF, hs]) (by simp [svF, hs])⟩
    · have hin' : inB 64 off w = false := by simpa using hin
      have hs : svOk fr i off w = false := by simp [svOk, hin']
      refine spec_body Tryz.func29 Tryz.ntmps29 rfl rfl ?_
      refine x_seq (x_region (s_val rfl (v_assign rfl) (x_nil (n_then (x_seq (x_seq (x_region (s_val rfl (v_move rfl) (s_val rfl (v_move rfl) (s_do rfl (d_call1 Tryz.call72 rfl (frMay_spec W0 _ ps fr i)) ?_))))))))))
      rintro _ B_ ⟨rfl, hB_⟩
      obtain rfl := hB_.symm
      refine s_val rfl (v_assign rfl) (x_nil (n_then (x_seq (x_region (s_val rfl (v_move rfl) (s_val rfl (v_neq rfl rfl) (x_nil (n_then ?_))))))))
      refine x_if rfl ?_ ?_
      · intro c2
        exact absurd c2 (by simp [hf])
      · intro c2
        refine x_skip (n_then (x_seq ?_))
        refine run_sto (ps := ps) fun g => ?_
        refine x_region (s_val rfl (v_move rfl) (s_val rfl (v_nilCheck rfl) ?_))
        refine s_val rfl (v_fieldAddr rfl Tryz.underlying181 rfl Tryz.sizeOf179 rfl (by first | exact Nat.zero_add _ | rfl)) ?_
        refine s_val rfl (v_load Tryz.isAgg179 rfl (cell_own rfl)) ?_
        refine s_val rfl (v_move rfl) ?_
        refine s_val rfl (v_idx Tryz.underlying179 Tryz.sizeOf178 rfl rfl rfl hi (by first | exact Nat.zero_add _ | rfl)) ?_
        refine s_val rfl (v_sliceArr Tryz.underlying178 Tryz.sizeOf5 rfl) ?_
        refine s_val rfl (v_move rfl) (s_val rfl (v_move rfl) (s_val rfl (v_move rfl) ?_))
        refine s_do rfl (d_call Tryz.call73 rfl (octPutN_no hl (cells_part (fr_row hF hi) (by rw [byV_len, hl])) hin' (by decide))) ?_
        rintro _ B_ ⟨rfl, hB_⟩
        obtain rfl := hB_.symm
        refine s_val rfl (v_move rfl) (s_val rfl (v_extract rfl rfl) (s_val rfl (v_extract rfl rfl) (s_val rfl (v_assign rfl) (s_val rfl (v_assign rfl) (x_nil (n_then (x_seq (x_seq (x_region (s_val rfl (v_move rfl) (s_val rfl (v_neq rfl rfl) (x_nil (n_then ?_)))))))))))))
        refine x_if rfl ?_ ?_
        · intro c5
          refine x_seq (x_region (s_val rfl (v_move rfl) (s_val rfl (v_assign rfl) (x_nil (n_then (x_ret (r_then (x_done (.inl rfl) (.cons (r_tmp rfl) .nil) ?_))))))))
          exact ⟨_, ⟨by simp [pack, hs], rfl⟩, ent_sto (by simp [svF, hs]) (by simp [svF, hs])⟩
        · intro c5
          exact absurd c5 (by simp)
  · have hf' : isF fr.length f = false := by simpa using hf
    have hs : svOk fr f off w = false := by simp [svOk, hf']
    refine spec_body Tryz.func29 Tryz.ntmps29 rfl rfl ?_
    refine x_seq (x_region (s_val rfl (v_assign rfl) (x_nil (n_then (x_seq (x_seq (x_region (s_val rfl (v_move rfl) (s_val rfl (v_move rfl) (s_do rfl (d_call1 Tryz.call72 rfl (frMay_spec W0 _ ps fr f)) ?_))))))))))
    rintro _ B_ ⟨rfl, hB_⟩
    obtain rfl := hB_.symm
    refine s_val rfl (v_assign rfl) (x_nil (n_then (x_seq (x_region (s_val rfl (v_move rfl) (s_val rfl (v_neq rfl rfl) (x_nil (n_then ?_))))))))
    refine x_if rfl ?_ ?_
    · intro c2
      refine x_seq (x_region (s_val rfl (v_move rfl) (s_val rfl (v_assign rfl) (x_nil (n_then (x_ret (r_then (x_done (.inl rfl) (.cons (r_tmp rfl) .nil) ?_))))))))
      rw [show svF fr f off w x = fr by simp [svF, hs]]
      exact ⟨_, ⟨by simp [pack, hf', hs], rfl⟩, inferInstance⟩
    · intro c2
      exact absurd c2 (by simp [hf'])
end Go.Proofs.YtnidndllknffgaaGreat
namespace Go.Proofs.YtnidndllknffgaaGreat
open Go.RowKit
set_option linter.unusedSimpArgs false
set_option linter.unusedVariables false
set_option maxRecDepth 20000
abbrev Pl := Int × Int
@[reducible] def plV (p : Pl) : List Value := [.int .i64 p.1, .int .i64 p.2]
theorem plV_len (p : Pl) : (plV p).length = 2 := rfl
def plAt (pg : List Pl) (n : Nat) : Pl := pg.getD n (0, 0)
def okPl (p : Pl) : Bool := decide (0 ≤ p.1 ∧ p.1 < 32 ∧ 1 ≤ p.2 ∧ p.2 ≤ 3)
structure Pgs (pg : List Pl) : Prop where
  len : pg.length = 12
  ok : ∀ n, n < 12 → plAt pg n ≠ (0, 0) → okPl (plAt pg n) = true
def isP (n : Int) : Bool := decide (0 ≤ n ∧ n < 12)
theorem isP_nat {n : Int} (h : isP n = true) : ∃ i : Nat, n = (i : Int) ∧ i < 12 := by
  simp only [isP, decide_eq_true_eq] at h
  exact ⟨n.toNat, by omega, by omega⟩
abbrev gmO (pg : List Pl) : Obj := cob (pg.flatMap plV ++ [.bool true]) 361
theorem pg_row {pg : List Pl} {sp : List Value} {n : Nat} (hn : n < pg.length) : ((pg.flatMap plV ++ sp).drop (n * 2)).take 2 = plV (plAt pg n) := by
  rw [flat_row plV_len pg n sp hn]; simp [plAt, List.getD, hn]
theorem pg_set {pg : List Pl} {sp : List Value} {n : Nat} {p : Pl} (hn : n < pg.length) : setR (pg.flatMap plV ++ sp) (n * 2) (plV p) = (pg.set n p).flatMap plV ++ sp := flat_set plV_len pg n p sp hn
theorem pg_len (pg : List Pl) (sp : List Value) : (pg.flatMap plV ++ sp).length = pg.length * 2 + sp.length := by rw [List.length_append, flat_len plV_len]
theorem pg_made {pg : List Pl} (h : pg.length = 12) : (pg.flatMap plV ++ [.bool true])[24]? = some (Value.bool true) := by
  rw [List.getElem?_append_right (by rw [flat_len plV_len]; omega), flat_len plV_len, h]; rfl
theorem gmNew_spec (W0 : World) (R : List HP) : Spec Tryz.prog W0 85 [] R (fun v B => ∃ b, v = .pointer (some ⟨b, 0, none⟩) ∧ B = pt b (gmO (List.replicate 12 (0, 0))) :: R) := by
  refine spec_body Tryz.func85 Tryz.ntmps85 rfl rfl ?_
  refine x_seq (x_region (s_val rfl (v_assign rfl) (x_nil (n_then (x_seq (x_region (s_val rfl (v_build Tryz.underlying361 Tryz.zeroValue361 (sized_cons Tryz.sizeOf239 (sized_cons Tryz.sizeOf4 sized_nil)) (fil_scal rfl Tryz.sizeOf4 rfl rfl (Nat.le_of_ble_eq_true rfl) SetL.eq fil_nil)) ?_)))))))
  refine s_do rfl (d_boxA rfl) ?_
  rintro _ _ ⟨b1, rfl, rfl⟩
  refine s_val rfl (v_assign rfl) (x_nil (n_then (x_ret (x_done (.inl rfl) (.cons (r_tmp rfl) .nil) ?_))))
  exact ⟨_, ⟨b1, rfl, rfl⟩, ent_refl⟩
theorem gmNone_spec (W0 : World) (R : List HP) (b : Nat) (pg : List Pl) (h : Pgs pg) : Spec Tryz.prog W0 277 [.pointer (some ⟨b, 0, none⟩)] (pt b (gmO pg) :: R) (fun v B => v = .bool false ∧ B = pt b (gmO pg) :: R) := by
  refine spec_body Tryz.func277 Tryz.ntmps277 rfl rfl ?_
  refine x_seq (x_region (s_val rfl (v_assign rfl) (x_nil (n_then (x_seq (x_region (s_val rfl (v_move rfl) (s_val rfl (v_eql_ptr_nil Tryz.underlying207 rfl rfl) (s_val rfl (v_move rfl) ?_)))))))))
  refine s_or rfl rfl rfl ?_ ?_
  · intro g1_3
    cases g1_3
  · intro g1_3
    refine s_val rfl (v_move rfl) (s_yes rfl rfl (s_val rfl (v_nilCheck rfl) (s_yes rfl rfl ?_)))
    refine s_val rfl (v_fieldAddr rfl Tryz.underlying361 rfl Tryz.sizeOf4 rfl (by first | exact Nat.zero_add _ | rfl)) ?_
    refine s_yes rfl rfl (s_val rfl (v_load Tryz.isAgg4 rfl (cell_own (pg_made h.len))) ?_)
    refine s_yes rfl rfl (s_val rfl (v_not rfl) (s_val rfl (v_pick_f rfl rfl) (s_val rfl (v_assign rfl) (x_nil (n_then (x_ret (x_done (.inl rfl) (.cons (r_tmp rfl) .nil) ?_)))))))
    exact ⟨_, ⟨rfl, rfl⟩, inferInstance⟩
theorem gmPage_spec (W0 : World) (R : List HP) (n : Int) : Spec Tryz.prog W0 301 [.int .i64 n] R (fun v B => v = .bool (isP n) ∧ B = R) := by
  refine spec_body Tryz.func301 Tryz.ntmps301 rfl rfl ?_
  refine x_seq (x_region (s_val rfl (v_assign rfl) (x_nil (n_then (x_seq (x_region (s_val rfl (v_move rfl) (s_val rfl (v_geq rfl rfl) (s_val rfl (v_move rfl) ?_)))))))))
  refine s_and rfl rfl rfl ?_ ?_
  · intro g1_3
    refine s_val rfl (v_move rfl) (s_yes rfl rfl (s_val rfl (v_lss rfl rfl) (s_val rfl (v_pick_t rfl rfl) (s_val rfl (v_assign rfl) (x_nil (n_then (x_ret (x_done (.inl rfl) (.cons (r_tmp rfl) .nil) ?_))))))))
    refine ⟨_, ⟨?_, rfl⟩, inferInstance⟩
    refine congrArg Value.bool ?_
    rw [Bool.eq_iff_iff]; simp only [isP, decide_eq_true_eq, Bool.false_eq_true, false_iff]; omega
  · intro g1_3
    refine s_no rfl rfl rfl rfl (s_val rfl (v_pick_f rfl rfl) (s_val rfl (v_assign rfl) (x_nil (n_then (x_ret (x_done (.inl rfl) (.cons (r_tmp rfl) .nil) ?_))))))
    refine ⟨_, ⟨?_, rfl⟩, inferInstance⟩
    refine congrArg Value.bool ?_
    rw [Bool.eq_iff_iff]; simp only [isP, decide_eq_true_eq, Bool.false_eq_true, false_iff]; omega
theorem gmPlace_spec (W0 : World) (R : List HP) (p : Pl) : Spec Tryz.prog W0 302 [.agg (plV p).toArray] R (fun v B => v = .bool (okPl p) ∧ B = R) := by
  refine spec_body Tryz.func302 Tryz.ntmps302 rfl rfl ?_
  refine x_seq (x_region (s_do rfl (d_boxA rfl) ?_))
  rintro _ _ ⟨b1, rfl, rfl⟩
  refine s_val rfl (v_assign rfl) (x_nil (n_then (x_seq (x_region ?_))))
  refine s_val rfl (v_fieldAddr rfl Tryz.underlying238 rfl Tryz.sizeOf3 rfl (by first | exact Nat.zero_add _ | rfl)) ?_
  refine s_val rfl (v_load Tryz.isAgg3 rfl (cell_own rfl)) ?_
  refine s_val rfl (v_geq rfl rfl) (s_val rfl (v_move rfl) ?_)
  refine s_and rfl rfl rfl ?_ ?_
  · intro g1_4
    refine s_val rfl (v_fieldAddr rfl Tryz.underlying238 rfl Tryz.sizeOf3 rfl (by first | exact Nat.zero_add _ | rfl)) ?_
    refine s_yes rfl rfl (s_val rfl (v_load Tryz.isAgg3 rfl (cell_own rfl)) ?_)
    refine s_yes rfl rfl (s_val rfl (v_lss rfl rfl) (s_val rfl (v_pick_t rfl rfl) (s_val rfl (v_move rfl) ?_)))
    refine s_and rfl rfl rfl ?_ ?_
    · intro g1_9
      refine s_val rfl (v_fieldAddr rfl Tryz.underlying238 rfl Tryz.sizeOf3 rfl (by first | exact Nat.zero_add _ | rfl)) ?_
      refine s_yes rfl rfl (s_val rfl (v_load Tryz.isAgg3 rfl (cell_own rfl)) ?_)
      refine s_yes rfl rfl (s_val rfl (v_geq rfl rfl) (s_val rfl (v_pick_t rfl rfl) (s_val rfl (v_move rfl) ?_)))
      refine s_and rfl rfl rfl ?_ ?_
      · intro g1_14
        refine s_val rfl (v_fieldAddr rfl Tryz.underlying238 rfl Tryz.sizeOf3 rfl (by first | exact Nat.zero_add _ | rfl)) ?_
        refine s_yes rfl rfl (s_val rfl (v_load Tryz.isAgg3 rfl (cell_own rfl)) ?_)
        refine s_yes rfl rfl (s_val rfl (v_leq rfl rfl) (s_val rfl (v_pick_t rfl rfl) (s_val rfl (v_assign rfl) (x_nil (n_then (x_ret (x_done (.inl rfl) (.cons (r_tmp rfl) .nil) ?_)))))))
        refine ⟨_, ⟨?_, rfl⟩, inferInstance⟩
        refine congrArg Value.bool ?_
        rw [Bool.eq_iff_iff]; simp only [okPl, decide_eq_true_eq, Bool.false_eq_true, false_iff]; omega
      · intro g1_14
        refine s_no rfl rfl rfl rfl (s_no rfl rfl rfl rfl (s_val rfl (v_pick_f rfl rfl) (s_val rfl (v_assign rfl) (x_nil (n_then (x_ret (x_done (.inl rfl) (.cons (r_tmp rfl) .nil) ?_)))))))
        refine ⟨_, ⟨?_, rfl⟩, inferInstance⟩
        refine congrArg Value.bool ?_
        rw [Bool.eq_iff_iff]; simp only [okPl, decide_eq_true_eq, Bool.false_eq_true, false_iff]; omega
    · intro g1_9
      refine s_no rfl rfl rfl rfl (s_no rfl rfl rfl rfl (s_val rfl (v_pick_f rfl rfl) (s_val rfl (v_move rfl) (s_no rfl rfl rfl rfl (s_no rfl rfl rfl rfl (s_no rfl rfl rfl rfl (s_val rfl (v_pick_f rfl rfl) (s_val rfl (v_assign rfl) (x_nil (n_then (x_ret (x_done (.inl rfl) (.cons (r_tmp rfl) .nil) ?_))))))))))))
      refine ⟨_, ⟨?_, rfl⟩, inferInstance⟩
      refine congrArg Value.bool ?_
      rw [Bool.eq_iff_iff]; simp only [okPl, decide_eq_true_eq, Bool.false_eq_true, false_iff]; omega
  · intro g1_4
    refine s_no rfl rfl rfl rfl (s_no rfl rfl rfl rfl (s_val rfl (v_pick_f rfl rfl) (s_val rfl (v_move rfl) (s_no rfl rfl rfl rfl (s_no rfl rfl rfl rfl (s_no rfl rfl rfl rfl (s_val rfl (v_pick_f rfl rfl) (s_val rfl (v_move rfl) (s_no rfl rfl rfl rfl (s_no rfl rfl rfl rfl (s_no rfl rfl rfl rfl (s_val rfl (v_pick_f rfl rfl) (s_val rfl (v_assign rfl) (x_nil (n_then (x_ret (x_done (.inl rfl) (.cons (r_tmp rfl) .nil) ?_)))))))))))))))))
    refine ⟨_, ⟨?_, rfl⟩, inferInstance⟩
    refine congrArg Value.bool ?_
    rw [Bool.eq_iff_iff]; simp only [okPl, decide_eq_true_eq, Bool.false_eq_true, false_iff]; omega
def thereB (pg : List Pl) (n : Int) : Bool := isP n && decide (plAt pg n.toNat ≠ (0, 0))
theorem gmThere_spec (W0 : World) (R : List HP) (b : Nat) (pg : List Pl) (h : Pgs pg) (n : Int) : Spec Tryz.prog W0 278 [.pointer (some ⟨b, 0, none⟩), .int .i64 n] (pt b (gmO pg) :: R) (fun v B => v = .bool (thereB pg n) ∧ B = pt b (gmO pg) :: R) := by
  refine spec_body Tryz.func278 Tryz.ntmps278 rfl rfl ?_
  refine x_seq (x_region (s_val rfl (v_assign rfl) (x_nil (n_then (x_seq (x_region (s_val rfl (v_move rfl) (s_do rfl (d_call Tryz.call301 rfl (gmPage_spec W0 _ n)) ?_))))))))
  rintro _ B_ ⟨rfl, hB_⟩
  obtain rfl := hB_.symm
  refine s_val rfl (v_move rfl) ?_
  refine s_and rfl rfl rfl ?_ ?_
  · intro g1_3
    obtain ⟨i, rfl, hi⟩ := isP_nat g1_3
    have hl := h.len
    refine s_val rfl (v_move rfl) (s_yes rfl rfl (s_val rfl (v_move rfl) (s_yes rfl rfl (s_val rfl (v_nilCheck rfl) (s_yes rfl rfl ?_)))))
    refine s_val rfl (v_fieldAddr rfl Tryz.underlying361 rfl Tryz.sizeOf239 rfl (by first | exact Nat.zero_add _ | rfl)) ?_
    refine s_yes rfl rfl ?_
    refine s_val rfl (v_idxArr Tryz.underlying239 Tryz.sizeOf238 rfl rfl rfl (by omega) (by first | exact Nat.zero_add _ | rfl)) ?_
    refine s_yes rfl rfl ?_
    refine s_val rfl (v_loadAgg Tryz.isAgg238 Tryz.sizeOf238 rfl (cells_part (pg_row (by omega)) rfl) rfl) ?_
    refine s_yes rfl rfl (s_val rfl (v_build Tryz.underlying238 Tryz.zeroValue238 (sized_cons Tryz.sizeOf3 (sized_cons Tryz.sizeOf3 sized_nil)) fil_nil) ?_)
    refine s_yes rfl rfl (s_val rfl (v_neq_agg Tryz.eqGuardType238 rfl rfl (q_struct Tryz.underlying238 Tryz.stoodInHeld238 (qf_scal rfl Tryz.isAgg3 rfl rfl (q_int Tryz.underlying3) (qf_scal rfl Tryz.isAgg3 rfl rfl (q_int Tryz.underlying3) qf_nil)))) ?_)
    refine s_val rfl (v_pick_t rfl rfl) (s_val rfl (v_assign rfl) (x_nil (n_then (x_ret (x_done (.inl rfl) (.cons (r_tmp rfl) .nil) ?_)))))
    refine ⟨_, ⟨?_, rfl⟩, inferInstance⟩
    refine congrArg Value.bool ?_
    first
      | (rw [Bool.eq_iff_iff]; simp [thereB, g1_3, Prod.ext_iff])
      | simp [thereB, g1_3]
  · intro g1_3
    refine s_no rfl rfl rfl rfl (s_no rfl rfl rfl rfl (s_no rfl rfl rfl rfl (s_no rfl rfl rfl rfl (s_no rfl rfl rfl rfl (s_no rfl rfl rfl rfl (s_no rfl rfl rfl rfl (s_val rfl (v_pick_f rfl rfl) (s_val rfl (v_assign rfl) (x_nil (n_then (x_ret (x_done (.inl rfl) (.cons (r_tmp rfl) .nil) ?_))))))))))))
    refine ⟨_, ⟨?_, rfl⟩, inferInstance⟩
    refine congrArg Value.bool ?_
    first
      | (rw [Bool.eq_iff_iff]; simp [thereB, g1_3, Prod.ext_iff])
      | simp [thereB, g1_3]
def gGot (pg : List Pl) (n : Int) : Pl := if thereB pg n then plAt pg n.toNat else (0, 0)
theorem gmGet_spec (W0 : World) (R : List HP) (b : Nat) (pg : List Pl) (h : Pgs pg) (n : Int) : Spec Tryz.prog W0 144 [.pointer (some ⟨b, 0, none⟩), .int .i64 n] (pt b (gmO pg) :: R)
    (fun v B => v = .tuple #[.agg (plV (gGot pg n)).toArray, .bool (thereB pg n)] ∧ B = pt b (gmO pg) :: R) := by
  refine spec_body Tryz.func144 Tryz.ntmps144 rfl rfl ?_
  refine x_seq (x_region (s_do rfl (d_allocA Tryz.zeroValue238) ?_))
  rintro _ _ ⟨b1, rfl, rfl⟩
  refine s_val rfl (v_assign rfl) (x_nil (n_then (x_seq (x_seq (x_region (s_val rfl (v_move rfl) (s_do rfl (d_call1 Tryz.call277 rfl (gmNone_spec W0 _ b pg h)) ?_)))))))
  rintro _ B_ ⟨rfl, hB_⟩
  obtain rfl := hB_.symm
  refine s_val rfl (v_move rfl) ?_
  refine s_or rfl rfl rfl ?_ ?_
  · intro g1_3
    exact absurd g1_3 (by decide)
  · intro g1_3
    refine s_val rfl (v_move rfl) (s_yes rfl rfl (s_val rfl (v_move rfl) (s_yes rfl rfl (s_do rfl (d_call1 Tryz.call278 rfl (gmThere_spec W0 _ b pg h n)) ?_))))
    rintro _ B_ ⟨rfl, hB_⟩
    obtain rfl := hB_.symm
    refine s_yes rfl rfl (s_val rfl (v_not rfl) (s_val rfl (v_pick_f rfl rfl) (x_nil (n_then ?_))))
    refine x_if rfl ?_ ?_
    · intro c1
      refine x_seq (x_region (s_val rfl (v_build Tryz.underlying238 Tryz.zeroValue238 (sized_cons Tryz.sizeOf3 (sized_cons Tryz.sizeOf3 sized_nil)) fil_nil) ?_))
      refine s_do0 (d_storeAll Tryz.sizeOf238 rfl rfl rfl rfl rfl) ?_
      rintro _ _ rfl
      refine s_val rfl (v_assign rfl) (x_nil (n_then (x_ret (r_then (x_done (.inl rfl) (.cons (r_all Tryz.isAgg238 Tryz.sizeOf238 rfl rfl) (.cons (r_tmp rfl) .nil)) ?_)))))
      refine ⟨_, ⟨?_, rfl⟩, inferInstance⟩
      have ht : thereB pg n = false := by simpa using c1
      simp [pack, gGot, ht]
    · intro c1
      have ht : thereB pg n = true := by simpa using c1
      have hp : isP n = true := by simp only [thereB, Bool.and_eq_true] at ht; exact ht.1
      obtain ⟨i, rfl, hi⟩ := isP_nat hp
      have hl := h.len
      refine x_skip (n_then (x_seq (x_region (s_val rfl (v_move rfl) (s_val rfl (v_move rfl) (s_val rfl (v_nilCheck rfl) ?_))))))
      refine s_val rfl (v_fieldAddr rfl Tryz.underlying361 rfl Tryz.sizeOf239 rfl (by first | exact Nat.zero_add _ | rfl)) ?_
      refine s_val rfl (v_idxArr Tryz.underlying239 Tryz.sizeOf238 rfl rfl rfl (by omega) (by first | exact Nat.zero_add _ | rfl)) ?_
      refine s_val rfl (v_loadAgg Tryz.isAgg238 Tryz.sizeOf238 rfl (cells_part (pg_row (by omega)) rfl) rfl) ?_
      refine s_do0 (d_storeAll Tryz.sizeOf238 rfl rfl rfl rfl rfl) ?_
      rintro _ _ rfl
      refine s_val rfl (v_assign rfl) (x_nil (n_then (x_ret (x_done (.inl rfl) (.cons (r_all Tryz.isAgg238 Tryz.sizeOf238 rfl rfl) (.cons (r_tmp rfl) .nil)) ?_))))
      refine ⟨_, ⟨?_, rfl⟩, inferInstance⟩
      simp [pack, gGot, ht]
def setE (pg : List Pl) (n : Int) (p : Pl) : Int := if isP n ∧ okPl p then (if thereB pg n then 5 else 0) else 1
def setP (pg : List Pl) (n : Int) (p : Pl) : List Pl := if setE pg n p = 0 then pg.set n.toNat p else pg
theorem setP_ok {pg : List Pl} {n : Int} {p : Pl} (h : Pgs pg) : Pgs (setP pg n p) := by
  unfold setP; split
  · rename_i hs
    have hop : okPl p = true := by
      unfold setE at hs; split at hs
      · rename_i k; exact k.2
      · omega
    refine ⟨by simp [h.len], fun m hm hne => ?_⟩
    unfold plAt at hne ⊢
    by_cases e : n.toNat = m
    · subst e
      simp only [List.getD_eq_getElem?_getD, List.getElem?_set, if_true] at hne ⊢
      rw [if_pos (by rw [h.len]; exact hm)] at hne ⊢
      exact hop
    · simp only [List.getD_eq_getElem?_getD, List.getElem?_set_ne e] at hne ⊢
      have := h.ok m hm
      unfold plAt at this
      simp only [List.getD_eq_getElem?_getD] at this
      exact this hne
  · exact h
theorem gmSet_spec (W0 : World) (R : List HP) (b : Nat) (pg : List Pl) (h : Pgs pg) (n : Int) (p : Pl) : Spec Tryz.prog W0 204 [.pointer (some ⟨b, 0, none⟩), .int .i64 n, .agg (plV p).toArray] (pt b (gmO pg) :: R)
    (fun v B => v = .int .i64 (setE pg n p) ∧ B = pt b (gmO (setP pg n p)) :: R) := by
  have hl := h.len
  refine spec_body Tryz.func204 Tryz.ntmps204 rfl rfl ?_
  refine x_seq (x_region (s_do rfl (d_boxA rfl) ?_))
  rintro _ _ ⟨b1, rfl, rfl⟩
  refine s_val rfl (v_assign rfl) (x_nil (n_then (x_seq (x_block (x_seq (x_region (s_val rfl (v_move rfl) (s_do rfl (d_call1 Tryz.call277 rfl (gmNone_spec W0 _ b pg h)) ?_))))))))
  rintro _ B_ ⟨rfl, hB_⟩
  obtain rfl := hB_.symm
  refine s_val rfl (v_assign rfl) (x_nil (n_then ?_))
  refine x_if rfl ?_ ?_
  · intro c1
    exact absurd c1 (by decide)
  · intro c1
    refine x_seq (x_seq (x_region (s_val rfl (v_move rfl) (s_do rfl (d_call Tryz.call301 rfl (gmPage_spec W0 _ n)) ?_))))
    rintro _ B_ ⟨rfl, hB_⟩
    obtain rfl := hB_.symm
    refine s_val rfl (v_not rfl) (s_val rfl (v_assign rfl) (x_nil (n_then ?_)))
    refine x_if rfl ?_ ?_
    · intro c3
      refine x_skip (n_then (x_ift rfl (x_seq (x_region (s_val rfl (v_assign rfl) (x_nil (n_then (x_ret (r_block (r_then (x_done (.inl rfl) (.cons (r_tmp rfl) .nil) ?_)))))))))))
      have he : setE pg n p = 1 := by
        unfold setE; rw [if_neg]
        first
          | (intro hk; exact absurd hk.1 (by simpa using c3))
          | (intro hk; exact absurd hk.2 (by simpa using c4))
      exact ⟨_, ⟨by simp [pack, he], by rw [setP, he, if_neg (by decide)]⟩, inferInstance⟩
    · intro c3
      have hp : isP n = true := by simpa using c3
      refine x_region (s_val rfl (v_loadAll Tryz.isAgg238 Tryz.sizeOf238 rfl rfl) ?_)
      refine s_do rfl (d_call Tryz.call302 rfl (gmPlace_spec W0 _ p)) ?_
      rintro _ B_ ⟨rfl, hB_⟩
      obtain rfl := hB_.symm
      refine s_val rfl (v_not rfl) (s_val rfl (v_assign rfl) (x_nil (n_then ?_)))
      refine x_if rfl ?_ ?_
      · intro c4
        refine x_seq (x_region (s_val rfl (v_assign rfl) (x_nil (n_then (x_ret (r_block (r_then (x_done (.inl rfl) (.cons (r_tmp rfl) .nil) ?_))))))))
        have he : setE pg n p = 1 := by
          unfold setE; rw [if_neg]
          first
            | (intro hk; exact absurd hk.1 (by simpa using c3))
            | (intro hk; exact absurd hk.2 (by simpa using c4))
        exact ⟨_, ⟨by simp [pack, he], by rw [setP, he, if_neg (by decide)]⟩, inferInstance⟩
      · intro c4
        have ho : okPl p = true := by simpa using c4
        refine x_seq (x_region (s_val rfl (v_move rfl) (s_val rfl (v_move rfl) (s_do rfl (d_call1 Tryz.call278 rfl (gmThere_spec W0 _ b pg h n)) ?_))))
        rintro _ B_ ⟨rfl, hB_⟩
        obtain rfl := hB_.symm
        refine s_val rfl (v_assign rfl) (x_nil (n_then ?_))
        refine x_if rfl ?_ ?_
        · intro c6
          refine x_seq (x_region (s_val rfl (v_assign rfl) (x_nil (n_then (x_ret (r_block (r_then (x_done (.inl rfl) (.cons (r_tmp rfl) .nil) ?_))))))))
          have he : setE pg n p = 5 := by
            unfold setE; rw [if_pos ⟨hp, ho⟩, if_pos c6]
          exact ⟨_, ⟨by simp [pack, he], by rw [setP, he, if_neg (by decide)]⟩, inferInstance⟩
        · intro c6
          have ht : thereB pg n = false := by simpa using c6
          have he : setE pg n p = 0 := by simp [setE, hp, ho, ht]
          refine x_skip (n_block (n_then (x_seq ?_)))
          obtain ⟨i, rfl, hi⟩ := isP_nat hp
          refine x_draw [(b1, 0, _)] 7 mixed rfl (sc_own sc_end) (fun hS => ?_)
          refine d_take 0 rfl rfl (by kernel_rfl) (by kernel_rfl) (by kernel_rfl) rfl hS (v_move rfl) ?_
          refine d_take 1 rfl rfl (by kernel_rfl) (by kernel_rfl) (by kernel_rfl) rfl hS (v_move rfl) ?_
          refine d_take 2 rfl rfl (by kernel_rfl) (by kernel_rfl) (by kernel_rfl) rfl hS (v_loadAgg Tryz.isAgg238 Tryz.sizeOf238 rfl (cells_sc (k := 0) rfl) rfl) ?_
          refine d_take 3 rfl rfl (by kernel_rfl) (by kernel_rfl) (by kernel_rfl) rfl hS (v_nilCheck rfl) ?_
          refine d_take 4 rfl rfl (by kernel_rfl) (by kernel_rfl) (by kernel_rfl) rfl hS (v_fieldAddr rfl Tryz.underlying361 rfl Tryz.sizeOf239 rfl (by first | exact Nat.zero_add _ | rfl)) ?_
          refine d_take 5 rfl rfl (by kernel_rfl) (by kernel_rfl) (by kernel_rfl) rfl hS (v_idxArr Tryz.underlying239 Tryz.sizeOf238 rfl rfl rfl hi (by first | exact Nat.zero_add _ | rfl)) ?_
          refine d_one 6 (by kernel_rfl) rfl rfl (d_storeAgg Tryz.sizeOf238 rfl rfl rfl rfl (by rw [pg_len, hl]; omega) (pg_set (by omega))) rfl ?_; clear hS
          rintro _ _ rfl
          refine ⟨(sc_own sc_end), fun hS => ?_⟩
          refine d_done (by kernel_rfl) ?_; clear hS
          refine n_then (x_seq (x_region (s_val rfl (v_assign rfl) (x_nil (n_then (x_ret (x_done (.inl rfl) (.cons (r_tmp rfl) .nil) ?_)))))))
          rw [show setP pg i p = pg.set i p by simp [setP, he]]
          exact ⟨_, ⟨by simp [pack, he], rfl⟩, inferInstance⟩
theorem gmDrop_spec (W0 : World) (R : List HP) (b : Nat) (pg : List Pl) (h : Pgs pg) : Spec Tryz.prog W0 207 [.pointer (some ⟨b, 0, none⟩), .int .i64 12] (pt b (gmO pg) :: R)
    (fun v B => v = .int .i64 1 ∧ B = pt b (gmO pg) :: R) := by
  refine spec_body Tryz.func207 Tryz.ntmps207 rfl rfl ?_
  refine x_seq (x_region (s_val rfl (v_assign rfl) (x_nil (n_then (x_seq (x_block (x_seq (x_region (s_val rfl (v_move rfl) (s_do rfl (d_call1 Tryz.call277 rfl (gmNone_spec W0 _ b pg h)) ?_))))))))))
  rintro _ B_ ⟨rfl, hB_⟩
  obtain rfl := hB_.symm
  refine s_val rfl (v_assign rfl) (x_nil (n_then ?_))
  refine x_if rfl ?_ ?_
  · intro c1
    exact absurd c1 (by decide)
  · intro c1
    refine x_seq (x_region (s_val rfl (v_move rfl) (s_do rfl (d_call Tryz.call301 rfl (gmPage_spec W0 _ 12)) ?_)))
    rintro _ B_ ⟨rfl, hB_⟩
    obtain rfl := hB_.symm
    refine s_val rfl (v_not rfl) (s_val rfl (v_assign rfl) (x_nil (n_then ?_)))
    refine x_if rfl ?_ ?_
    · intro c3
      refine x_seq (x_region (s_val rfl (v_assign rfl) (x_nil (n_then (x_ret (r_block (r_then (x_done (.inl rfl) (.cons (r_tmp rfl) .nil) ?_))))))))
      exact ⟨_, ⟨rfl, rfl⟩, inferInstance⟩
    · intro c3
      exact absurd c3 (by decide)
theorem okPl_iff {p : Pl} : okPl p = true ↔ 0 ≤ p.1 ∧ p.1 < 32 ∧ 1 ≤ p.2 ∧ p.2 ≤ 3 := by simp [okPl]
end Go.Proofs.YtnidndllknffgaaGreat
namespace Go.Proofs.YtnidndllknffgaaGreat
set_option linter.unusedSimpArgs false
set_option linter.unusedVariables false
class Hk (α : Type) extends Inhabited α where
  ky : α → Int
namespace Hp
variable {α : Type} [Hk α]
def us (l : List α) (i : Nat) : Int := Hk.ky (l.getD i default)
theorem us_eq {l : List α} {i : Nat} (h : i < l.length) : us l i = Hk.ky l[i] := by simp [us, List.getD, h]
def swapL (l : List α) (i j : Nat) : List α := (l.set i (l.getD j default)).set j (l.getD i default)
theorem swapL_length (l : List α) (i j : Nat) : (swapL l i j).length = l.length := by simp [swapL]
theorem getD_swapL {l : List α} {i j : Nat} (hi : i < l.length) (hj : j < l.length) (x : Nat) : (swapL l i j).getD x default = if x = i then l.getD j default else if x = j then l.getD i default else l.getD x default := by
  simp only [swapL, List.getD_eq_getElem?_getD, List.getElem?_set, List.length_set]
  by_cases h1 : x = j
  · subst h1
    by_cases h2 : x = i
    · subst h2; simp [hj]
    · simp [hj, h2]
  · have h1' : ¬ j = x := fun h => h1 h.symm
    by_cases h2 : x = i
    · subst h2; simp [h1', hi]
    · have h2' : ¬ i = x := fun h => h2 h.symm
      simp [h1, h1', h2, h2']
theorem us_swapL {l : List α} {i j : Nat} (hi : i < l.length) (hj : j < l.length) (x : Nat) : us (swapL l i j) x = if x = i then us l j else if x = j then us l i else us l x := by
  unfold us; rw [getD_swapL hi hj]; split
  · rfl
  · split <;> rfl
theorem swap_perm {β : Type} : ∀ (l : List β) (i j : Nat) (hi : i < l.length) (hj : j < l.length), ((l.set i l[j]).set j l[i]).Perm l := by
  intro l i j hi hj
  have : ((l.set i l[j]).set j l[i]).Perm l := List.set_set_perm hi hj
  exact this
theorem swapL_perm {l : List α} {i j : Nat} (hi : i < l.length) (hj : j < l.length) : (swapL l i j).Perm l := by
  have := swap_perm l i j hi hj
  simpa [swapL, List.getD, hi, hj] using this
def Heap (l : List α) (n : Nat) : Prop := ∀ c, c < n → 0 < c → us l ((c - 1) / 2) ≤ us l c
def Hole (l : List α) (i n : Nat) : Prop := ∀ c, c < n → 0 < c → (c ≠ i → (c - 1) / 2 ≠ i → us l ((c - 1) / 2) ≤ us l c) ∧ ((c - 1) / 2 = i → 0 < i → us l ((i - 1) / 2) ≤ us l c)
def Up (l : List α) (j n : Nat) : Prop := ∀ c, c < n → 0 < c → (c ≠ j → us l ((c - 1) / 2) ≤ us l c) ∧ ((c - 1) / 2 = j → 0 < j → us l ((j - 1) / 2) ≤ us l c)
theorem hole_swap {l : List α} {i j n : Nat} (h : Hole l i n) (hn : n ≤ l.length) (hj : j < n) (hc : (j - 1) / 2 = i) (h0 : 0 < j) (hlt : us l j < us l i)
    (hmin : ∀ c, c < n → 0 < c → (c - 1) / 2 = i → us l j ≤ us l c) : Hole (swapL l i j) j n ∧ us (swapL l i j) ((j - 1) / 2) ≤ us (swapL l i j) j := by
  have hij : i < j := by omega
  have sw := us_swapL (l := l) (i := i) (j := j) (by omega) (by omega)
  refine ⟨fun c hcn hc0 => ⟨fun h1 h2 => ?_, fun h1 h2 => ?_⟩, ?_⟩
  · rw [sw, sw]
    by_cases e1 : c = i
    · subst e1
      have := (h j hj h0).2 hc (by omega)
      rw [if_neg (by omega), if_neg (by omega), if_pos rfl]; exact this
    · by_cases e2 : (c - 1) / 2 = i
      · rw [if_pos e2, if_neg e1, if_neg h1]; exact hmin c hcn hc0 e2
      · rw [if_neg e2, if_neg h2, if_neg e1, if_neg h1]; exact (h c hcn hc0).1 e1 e2
  · rw [hc, sw, sw, if_pos rfl, if_neg (by omega), if_neg (by omega)]
    rw [← h1]; exact (h c hcn hc0).1 (by omega) (by omega)
  · rw [hc, sw, sw, if_pos rfl, if_neg (by omega), if_pos rfl]; omega
theorem hole_heap {l : List α} {i n : Nat} (h : Hole l i n) (hmin : ∀ c, c < n → 0 < c → (c - 1) / 2 = i → us l i ≤ us l c) (hp : 0 < i → us l ((i - 1) / 2) ≤ us l i) : Heap l n := fun c hc h0 => by
  by_cases e1 : (c - 1) / 2 = i
  · rw [e1]; exact hmin c hc h0 e1
  · by_cases e2 : c = i
    · subst e2; exact hp h0
    · exact (h c hc h0).1 e2 e1
theorem up_swap {l : List α} {j n : Nat} (h : Up l j n) (hn : n ≤ l.length) (hj : j < n) (h0 : 0 < j) (hlt : us l j < us l ((j - 1) / 2)) : Up (swapL l ((j - 1) / 2) j) ((j - 1) / 2) n := by
  have sw := us_swapL (l := l) (i := (j - 1) / 2) (j := j) (by omega) (by omega)
  intro c hc hc0
  refine ⟨fun h1 => ?_, fun h1 h2 => ?_⟩
  · rw [sw, sw]
    by_cases e1 : c = j
    · subst e1; rw [if_pos rfl, if_neg (by omega), if_pos rfl]; omega
    · by_cases e2 : (c - 1) / 2 = (j - 1) / 2
      · rw [if_pos e2, if_neg (by omega), if_neg e1]
        have := (h c hc hc0).1 e1; rw [e2] at this; omega
      · by_cases e3 : (c - 1) / 2 = j
        · rw [if_neg e2, if_pos e3, if_neg h1, if_neg e1]; exact (h c hc hc0).2 e3 h0
        · rw [if_neg e2, if_neg e3, if_neg h1, if_neg e1]; exact (h c hc hc0).1 e1
  · rw [sw, sw, if_neg (by omega), if_neg (by omega)]
    have hp := (h ((j - 1) / 2) (by omega) h2).1 (by omega)
    by_cases e1 : c = j
    · subst e1; rw [if_neg (by omega), if_pos rfl]; exact hp
    · rw [if_neg (by omega), if_neg e1]
      have := (h c hc hc0).1 e1; rw [h1] at this; omega
theorem up_heap {l : List α} {j n : Nat} (h : Up l j n) (hp : 0 < j → us l ((j - 1) / 2) ≤ us l j) : Heap l n := fun c hc h0 => by
  by_cases e : c = j
  · subst e; exact hp h0
  · exact (h c hc h0).1 e
theorem heap_min {l : List α} {n : Nat} (h : Heap l n) : ∀ c, c < n → us l 0 ≤ us l c := by
  intro c
  induction c using Nat.strongRecOn with
  | _ c ih =>
    intro hc
    by_cases h0 : c = 0
    · subst h0; omega
    · have := h c hc (by omega)
      have := ih ((c - 1) / 2) (by omega) (by omega)
      omega
theorem us_congr {l l' : List α} {n : Nat} (h : ∀ i, i < n → l.getD i default = l'.getD i default) {i : Nat} (hi : i < n) : us l i = us l' i := by unfold us; rw [h i hi]
theorem heap_congr {l l' : List α} {n : Nat} (h : ∀ i, i < n → l.getD i default = l'.getD i default) (k : Heap l n) : Heap l' n := fun c hc h0 => by
  rw [← us_congr h hc, ← us_congr h (i := (c - 1) / 2) (by omega)]; exact k c hc h0
structure Down (its l : List α) (i0 n : Nat) (moved : Bool) : Prop where
  perm : l.Perm its
  tail : ∀ x, n ≤ x → l.getD x default = its.getD x default
  no : moved = false → l = its ∧ ∀ c, c < n → 0 < c → (c - 1) / 2 = i0 → us its i0 ≤ us its c
  yes : moved = true → Heap l n
theorem down_done {l its : List α} {i i0 n : Nat} (hp : l.Perm its) (hi : i0 ≤ i) (hH : Hole l i n) (ht : ∀ x, n ≤ x → l.getD x default = its.getD x default) (h0 : i = i0 → l = its)
    (hg : i0 < i → us l ((i - 1) / 2) ≤ us l i) (hmin : ∀ c, c < n → 0 < c → (c - 1) / 2 = i → us l i ≤ us l c) : Down its l i0 n (decide (i0 < i)) :=
  ⟨hp, ht, fun h => by
    have : i = i0 := by simp at h; omega
    subst this
    obtain rfl := h0 rfl
    exact ⟨rfl, hmin⟩, fun h => by
    have : i0 < i := by simpa using h
    exact hole_heap hH hmin fun _ => hg this⟩
theorem getD_swap_ge {l l0 : List α} {i j n : Nat} (hi : i < n) (hj : j < n) (hn : n ≤ l.length) (h : ∀ x, n ≤ x → l.getD x default = l0.getD x default) : ∀ x, n ≤ x → (swapL l i j).getD x default = l0.getD x default := fun x hx => by
  rw [getD_swapL (by omega) (by omega), if_neg (by omega), if_neg (by omega)]; exact h x hx
end Hp
end Go.Proofs.YtnidndllknffgaaGreat
namespace Go.Proofs.YtnidndllknffgaaGreat
set_option linter.unusedSimpArgs false
set_option linter.unusedVariables false
instance hkNat : Hk Nat := { ky := fun n => (n : Int) }
abbrev Po := List (Int × Bool)
def poA (po : Po) (f : Nat) : Int × Bool := po.getD f (-1, true)
def fre (po : Po) (w : Nat) : List Nat := (List.range po.length).filter fun f => poA po f == ((w : Int), false)
theorem poA_set {po : Po} {f : Nat} {x : Int × Bool} (hf : f < po.length) (g : Nat) : poA (po.set f x) g = if g = f then x else poA po g := by
  simp only [poA, List.getD_eq_getElem?_getD, List.getElem?_set]
  by_cases h : f = g
  · subst h; simp [hf]
  · simp [h, show ¬ g = f from fun e => h e.symm]
theorem mem_fre {po : Po} {w f : Nat} : f ∈ fre po w ↔ f < po.length ∧ poA po f = ((w : Int), false) := by
  rw [fre, List.mem_filter, List.mem_range, beq_iff_eq]
theorem fre_sort (po : Po) (w : Nat) : (fre po w).Pairwise (· < ·) := List.pairwise_lt_range.filter _
theorem fre_nodup (po : Po) (w : Nat) : (fre po w).Nodup := (fre_sort po w).imp (fun h e => by omega)
theorem fre_perm {po : Po} {w : Nat} {l : List Nat} (hn : l.Nodup) (h : ∀ f, f ∈ l ↔ f < po.length ∧ poA po f = ((w : Int), false)) : l.Perm (fre po w) :=
  (List.perm_ext_iff_of_nodup hn (fre_nodup po w)).2 fun f => by rw [h, mem_fre]
theorem fre_take {po : Po} {f : Nat} {u : Int} (hf : f < po.length) (w : Nat) : fre (po.set f (u, true)) w = (fre po w).filter (· != f) := by
  simp only [fre, List.length_set, List.filter_filter]
  apply List.filter_congr
  intro g _
  rw [poA_set hf]
  by_cases h : g = f
  · subst h; simp
  · simp [h]
theorem fre_own {po : Po} {f : Nat} {w : Nat} (hf : f < po.length) (h : poA po f ≠ ((w : Int), false)) : (fre po w ++ [f]).Perm (fre (po.set f ((w : Int), false)) w) := by
  refine fre_perm ?_ fun g => ?_
  · rw [List.nodup_append]
    refine ⟨fre_nodup po w, by simp, fun a ha b hb e => ?_⟩
    rw [List.mem_singleton] at hb; subst hb; subst e
    exact h (mem_fre.1 ha).2
  · rw [List.mem_append, List.mem_singleton, mem_fre, List.length_set, poA_set hf]
    by_cases e : g = f
    · subst e; simp [hf]
    · simp [e]
theorem fre_other {po : Po} {f : Nat} {x : Int × Bool} {w : Nat} (hf : f < po.length) (h1 : poA po f ≠ ((w : Int), false)) (h2 : x ≠ ((w : Int), false)) : fre (po.set f x) w = fre po w := by
  simp only [fre, List.length_set]
  apply List.filter_congr
  intro g _
  rw [poA_set hf]
  by_cases h : g = f
  · subst h; rw [if_pos rfl, Bool.eq_iff_iff, beq_iff_eq, beq_iff_eq]; exact ⟨fun e => absurd e h2, fun e => absurd e h1⟩
  · rw [if_neg h]
theorem fre_min {po : Po} {w x : Nat} {l : List Nat} (hp : (l ++ [x]).Perm (fre po w)) (hm : ∀ y ∈ fre po w, x ≤ y) : fre po w = x :: fre (po.set x ((w : Int), true)) w := by
  have hx : x ∈ fre po w := hp.mem_iff.1 (by simp)
  have hs := fre_sort po w
  rw [fre_take (mem_fre.1 hx).1]
  generalize fre po w = m at hx hm hs
  cases m with
  | nil => cases hx
  | cons y t =>
    rw [List.pairwise_cons] at hs
    have : x = y := by
      rcases List.mem_cons.1 hx with e | e
      · exact e
      · have := hs.1 x e
        have := hm y (by simp)
        omega
    subst this
    congr 1
    rw [List.filter_cons, if_neg (by simp)]
    refine (List.filter_eq_self.2 fun z hz => ?_).symm
    have := hs.1 z hz
    simp; omega
theorem fre_rest {po : Po} {w x : Nat} {l : List Nat} (hp : (l ++ [x]).Perm (fre po w)) (hm : ∀ y ∈ fre po w, x ≤ y) : l.Perm (fre (po.set x ((w : Int), true)) w) := by
  have h := fre_min hp hm
  rw [h] at hp
  exact ((List.perm_append_comm (l₁ := [x]) (l₂ := l)).trans hp).cons_inv
structure LsOk (po : Po) (Ls : List (List Nat)) : Prop where
  len : Ls.length = 16
  row : ∀ w, w < 16 → (Ls.getD w []).Perm (fre po w) ∧ Hp.Heap (Ls.getD w []) (Ls.getD w []).length
structure PoOk (po : Po) : Prop where
  len : po.length ≤ 32
  who : ∀ f, f < po.length → -1 ≤ (poA po f).1 ∧ (poA po f).1 < 16 ∧ ((poA po f).1 = -1 → (poA po f).2 = false)
theorem PoOk.set {po : Po} (h : PoOk po) {f : Nat} {x : Int × Bool} (hf : f < po.length) (h1 : 0 ≤ x.1) (h2 : x.1 < 16) : PoOk (po.set f x) := ⟨by rw [List.length_set]; exact h.len, fun g hg => by
  rw [List.length_set] at hg
  rw [poA_set hf]
  split
  · exact ⟨by omega, h2, fun e => by omega⟩
  · exact h.who g hg⟩
theorem fre_len {po : Po} (h : PoOk po) (w : Nat) : (fre po w).length ≤ 32 := by
  have := List.length_filter_le (fun f => poA po f == ((w : Int), false)) (List.range po.length)
  rw [List.length_range] at this
  have := h.len
  unfold fre; omega
theorem LsOk.rlen {po : Po} {Ls : List (List Nat)} (h : LsOk po Ls) (hp : PoOk po) {w : Nat} (hw : w < 16) : (Ls.getD w []).length ≤ 32 := by
  rw [(h.row w hw).1.length_eq]; exact fre_len hp w
theorem LsOk.set {po po' : Po} {Ls : List (List Nat)} (h : LsOk po Ls) {w : Nat} (hw : w < 16) {l : List Nat} (h1 : l.Perm (fre po' w)) (h2 : Hp.Heap l l.length) (h3 : ∀ u, u < 16 → u ≠ w → fre po' u = fre po u) : LsOk po' (Ls.set w l) := ⟨by rw [List.length_set]; exact h.len, fun u hu => by
  have e : (Ls.set w l).getD u [] = if u = w then l else Ls.getD u [] := by
    simp only [List.getD_eq_getElem?_getD, List.getElem?_set]
    by_cases k : w = u
    · subst k; simp [h.len, hw]
    · simp [k, show ¬ u = w from fun e => k e.symm]
  rw [e]
  split
  · rename_i k; subst k; exact ⟨h1, h2⟩
  · rename_i k; rw [h3 u hu k]; exact h.row u hu⟩
theorem LsOk.new (n : Nat) : LsOk (List.replicate n (-1, false)) (List.replicate 16 []) := ⟨by simp, fun w hw => by
  have e : fre (List.replicate n (-1, false)) w = [] := by
    rw [List.eq_nil_iff_forall_not_mem]
    intro f hf
    have := (mem_fre.1 hf)
    rw [List.length_replicate] at this
    have h2 := this.2
    simp [poA, List.getD, this.1] at h2
  rw [e, show (List.replicate 16 ([] : List Nat)).getD w [] = [] by rw [List.getD_eq_getElem?_getD, List.getElem?_replicate]; split <;> rfl]
  exact ⟨List.Perm.refl _, fun c hc _ => absurd hc (Nat.not_lt_zero _)⟩⟩
theorem PoOk.new {n : Nat} (h : n ≤ 32) : PoOk (List.replicate n (-1, false)) := ⟨by simpa using h, fun f hf => by
  rw [List.length_replicate] at hf
  simp [poA, List.getD, hf]⟩
end Go.Proofs.YtnidndllknffgaaGreat
namespace Go.Proofs.YtnidndllknffgaaGreat
set_option linter.unusedSimpArgs false
set_option linter.unusedVariables false
structure Im where
  fr : List Frm
  po : Po
  pg : List Pl
def wrW (f : Nat) : List Nat → Nat → List Frm → List Frm
  | [], _, fr => fr
  | x :: t, k, fr => wrW f t (k + 1) (svF fr f (4 * k : Nat) 4 x)
theorem wrW_snoc (f x : Nat) : ∀ (l : List Nat) (k : Nat) (fr : List Frm), wrW f (l ++ [x]) k fr = svF (wrW f l k fr) f (4 * (k + l.length) : Nat) 4 x
  | [], k, fr => by simp [wrW]
  | y :: t, k, fr => by
    rw [List.cons_append, wrW, wrW, wrW_snoc f x t (k + 1)]
    congr 3; simp only [List.length_cons]; omega
theorem wrW_ok {f : Nat} : ∀ {l : List Nat} {k : Nat} {fr : List Frm}, Frs fr → Frs (wrW f l k fr) ∧ (wrW f l k fr).length = fr.length
  | [], _, _, h => ⟨h, rfl⟩
  | x :: t, k, fr, h => by
    obtain ⟨h1, h2⟩ := wrW_ok (f := f) (l := t) (k := k + 1) (svF_ok (f := f) (off := (4 * k : Nat)) (w := 4) (v := x) h)
    exact ⟨h1, by rw [wrW, h2, svF_len]⟩
def pgW (words : List Nat) (i : Nat) : List Nat := (words.drop (16 * i)).take 16
def stepI (who : Nat) (words : List Nat) (x : Im) (i : Nat) : Im :=
  match fre x.po who with
  | f :: _ => ⟨wrW f (pgW words i) 0 x.fr, x.po.set f ((who : Int), true), setP x.pg i ((f : Int), 3)⟩
  | [] => x
def layI (who : Nat) (words : List Nat) : Nat → Im → Im
  | 0, x => x
  | n + 1, x => stepI who words (layI who words n x) n
structure ImOk (x : Im) : Prop where
  fr : Frs x.fr
  po : PoOk x.po
  pg : Pgs x.pg
  len : x.po.length = x.fr.length
theorem stepI_ok {who i : Nat} {words : List Nat} {x : Im} (h : ImOk x) (hw : who < 16) : ImOk (stepI who words x i) := by
  unfold stepI
  cases e : fre x.po who with
  | nil => exact h
  | cons f t =>
    have hf := mem_fre.1 (show f ∈ fre x.po who by rw [e]; simp)
    obtain ⟨k1, k2⟩ := wrW_ok (f := f) (l := pgW words i) (k := 0) h.fr
    exact ⟨k1, h.po.set hf.1 (by simp) (by simp; omega), setP_ok h.pg, by rw [List.length_set, k2]; exact h.len⟩
theorem layI_ok {who : Nat} {words : List Nat} (hw : who < 16) : ∀ {n : Nat} {x : Im}, ImOk x → ImOk (layI who words n x)
  | 0, _, h => h
  | n + 1, _, h => stepI_ok (layI_ok hw h) hw
theorem stepI_fre {who i : Nat} {words : List Nat} {x : Im} : (fre (stepI who words x i).po who).length = (fre x.po who).length - 1 := by
  unfold stepI
  cases e : fre x.po who with
  | nil => simp [e]
  | cons f t =>
    have hf := mem_fre.1 (show f ∈ fre x.po who by rw [e]; simp)
    dsimp only
    have hm : ∀ y ∈ fre x.po who, f ≤ y := fun y hy => by
      have := fre_sort x.po who
      rw [e] at hy this
      rw [List.pairwise_cons] at this
      rcases List.mem_cons.1 hy with rfl | k
      · exact Nat.le_refl _
      · exact Nat.le_of_lt (this.1 y k)
    have := fre_min (l := t) (by rw [e]; exact List.perm_append_comm (l₁ := t) (l₂ := [f])) hm
    rw [e] at this
    have := (List.cons.inj this).2
    rw [← this, List.length_cons]; omega
theorem layI_fre {who : Nat} {words : List Nat} {x : Im} : ∀ n : Nat, (fre (layI who words n x).po who).length = (fre x.po who).length - n
  | 0 => rfl
  | n + 1 => by rw [layI, stepI_fre, layI_fre n]; omega
theorem stepI_other {who i v : Nat} {words : List Nat} {x : Im} (h : v ≠ who) : fre (stepI who words x i).po v = fre x.po v := by
  unfold stepI
  cases e : fre x.po who with
  | nil => rfl
  | cons f t =>
    have hf := mem_fre.1 (show f ∈ fre x.po who by rw [e]; simp)
    dsimp only
    refine fre_other hf.1 ?_ ?_
    · rw [hf.2]; intro q; have := (Prod.mk.inj q).1; omega
    · intro q; have := (Prod.mk.inj q).2; cases this
theorem layI_other {who v : Nat} {words : List Nat} {x : Im} (h : v ≠ who) : ∀ n : Nat, fre (layI who words n x).po v = fre x.po v
  | 0 => rfl
  | n + 1 => by rw [layI, stepI_other h, layI_other h n]
def pgFree (pg : List Pl) (n m : Nat) : Prop := ∀ i, n ≤ i → i < m → thereB pg (i : Nat) = false
theorem layI_pg {who : Nat} {words : List Nat} {x : Im} (h : pgFree x.pg 0 8) (hl : x.pg.length = 12) : ∀ n : Nat, n ≤ 8 → pgFree (layI who words n x).pg n 8 ∧ (layI who words n x).pg.length = 12
  | 0, _ => ⟨h, hl⟩
  | n + 1, hn => by
    obtain ⟨k1, k2⟩ := layI_pg h hl n (by omega)
    rw [layI]
    generalize layI who words n x = y at k1 k2
    unfold stepI
    cases e : fre y.po who with
    | nil => exact ⟨fun i h1 h2 => k1 i (by omega) h2, k2⟩
    | cons f t =>
      dsimp only
      refine ⟨fun i h1 h2 => ?_, ?_⟩
      · have := k1 i (by omega) h2
        unfold setP
        split
        · simp only [thereB, plAt, Int.toNat_natCast, List.getD_eq_getElem?_getD] at this ⊢
          rw [List.getElem?_set_ne (by omega)]; exact this
        · exact this
      · unfold setP; split
        · rw [List.length_set]; exact k2
        · exact k2
end Go.Proofs.YtnidndllknffgaaGreat
namespace Go.Proofs.YtnidndllknffgaaGreat
open Go.RowKit
set_option linter.unusedSimpArgs false
set_option linter.unusedVariables false
section
variable {rd : Option Nat} {P : Program} {S : World → Prop} {W0 : World} {N : FSz} {Q : Exit → Act → World → Prop} {e : Env} {A B R R1 R2 R3 R4 R5 R6 : List HP} {ops : Array Oper} {rest : List Oper}
variable {op : Op} {ty t t' : TypeId} {pos : String} {af : Array Edge} {v u : Value} {d b off : Nat} {x y z : Operand} {l l' vs : List Value}
variable {K1 K2 K3 K4 K5 K6 X1 X2 X3 X4 X5 X6 : Type} {r1 : K1 → X1 → HP} {b1 : K1} {x1 : X1} {r2 : K2 → X2 → HP} {b2 : K2} {x2 : X2} {r3 : K3 → X3 → HP} {b3 : K3} {x3 : X3} {r4 : K4 → X4 → HP} {b4 : K4} {x4 : X4} {r5 : K5 → X5 → HP} {b5 : K5} {x5 : X5} {r6 : K6 → X6 → HP} {b6 : K6} {x6 : X6}
theorem perm3 [h1 : Tk r1 b1 A x1 R1] [h2 : Tk r2 b2 R1 x2 R2] [h3 : Tk r3 b3 R2 x3 R] : A.Perm (r1 b1 x1 :: r2 b2 x2 :: r3 b3 x3 :: R) := h1.perm.trans (perm2.cons _)
theorem perm4 [h1 : Tk r1 b1 A x1 R1] [h2 : Tk r2 b2 R1 x2 R2] [h3 : Tk r3 b3 R2 x3 R3] [h4 : Tk r4 b4 R3 x4 R] : A.Perm (r1 b1 x1 :: r2 b2 x2 :: r3 b3 x3 :: r4 b4 x4 :: R) := h1.perm.trans (perm3.cons _)
theorem perm5 [h1 : Tk r1 b1 A x1 R1] [h2 : Tk r2 b2 R1 x2 R2] [h3 : Tk r3 b3 R2 x3 R3] [h4 : Tk r4 b4 R3 x4 R4] [h5 : Tk r5 b5 R4 x5 R] : A.Perm (r1 b1 x1 :: r2 b2 x2 :: r3 b3 x3 :: r4 b4 x4 :: r5 b5 x5 :: R) := h1.perm.trans (perm4.cons _)
section
variable {f : FuncId} {xs : Array Operand} {ats : Array TypeId} {Post : Value → List HP → Prop}
theorem d_call4 (hc : ∀ args w, (callFunc f args).run P w = .ok (.enter f args) w) (hx : evs e xs.toList = some vs)
    (hs : Spec P W0 f vs (r1 b1 x1 :: r2 b2 x2 :: r3 b3 x3 :: r4 b4 x4 :: R) Post) [h1 : Tk r1 b1 A x1 R1] [h2 : Tk r2 b2 R1 x2 R2] [h3 : Tk r3 b3 R2 x3 R3] [h4 : Tk r4 b4 R3 x4 R] : Does P W0 N e A (.call { callee := .value (.func f), args := xs, argTypes := ats }) Post :=
  does_perm perm4 (d_call hc hx hs)
theorem d_call5 (hc : ∀ args w, (callFunc f args).run P w = .ok (.enter f args) w) (hx : evs e xs.toList = some vs)
    (hs : Spec P W0 f vs (r1 b1 x1 :: r2 b2 x2 :: r3 b3 x3 :: r4 b4 x4 :: r5 b5 x5 :: R) Post) [h1 : Tk r1 b1 A x1 R1] [h2 : Tk r2 b2 R1 x2 R2] [h3 : Tk r3 b3 R2 x3 R3] [h4 : Tk r4 b4 R3 x4 R4] [h5 : Tk r5 b5 R4 x5 R] : Does P W0 N e A (.call { callee := .value (.func f), args := xs, argTypes := ats }) Post :=
  does_perm perm5 (d_call hc hx hs)
variable {fx : Operand} {us cs : List Value}
end
def kH (_ : Nat) (x : HP) : HP := x
instance (priority := low) ent_app {R R' : List HP} : Ent (R ++ R') R := ⟨fun l hl => by
  obtain ⟨l1, l2, rfl, h1, h2⟩ := Sat.append.1 hl
  exact ⟨l1, l2, h1, List.Perm.refl _⟩⟩
theorem spec_kgrp {C : List HP} {f : FuncId} {args : List Value} {Post : Value → List HP → Prop} (h : Spec P W0 f args (C ++ R) Post) : Spec P W0 f args (kH 0 (grp C) :: R) Post := fun w hO => h w (hO.ent ent_open)
theorem ent_kgrp {C : List HP} [h : Ent A (C ++ R)] : Ent A (kH 0 (grp C) :: R) := h.trans ent_shut
theorem run_grp {C : List HP} {K : Act → World → Prop} (h : Run W0 N K e (C ++ R)) : Run W0 N K e (grp C :: R) := fun a w hF hO => h a w hF (hO.ent ent_open)
theorem rounds_perm {L : Nat} {Post : Value → List HP → Prop} (hp : A.Perm B) (h : Rounds P W0 L vs B Post) : Rounds P W0 L vs A Post := fun w hO => h w (hO.perm hp)
theorem spec_ent {f : FuncId} {args : List Value} {Post : Value → List HP → Prop} (he : Ent A B) (h : Spec P W0 f args B Post) : Spec P W0 f args A Post := fun w hO => h w (hO.ent he)
instance ent_kgrp_nil [h : Ent A R] : Ent A (kH 0 (grp []) :: R) := ent_kgrp (h := h)
instance ent_kgrp_cons {K X : Type} {r : K → X → HP} {b : K} {x : X} {C : List HP} [h : Tk r b A x R1] [k : Ent R1 (kH 0 (grp C) :: R)] : Ent A (kH 0 (grp (r b x :: C)) :: R) :=
  (Ent.ofPerm h.perm).trans ((Ent.cons (k.trans ent_open)).trans (ent_kgrp (C := r b x :: C) (h := ent_refl)))
instance ent_grp_nil [h : Ent A R] : Ent A (grp [] :: R) := h.trans (ent_shut (A := []))
instance ent_grp_cons {K X : Type} {r : K → X → HP} {b : K} {x : X} {C : List HP} [h : Tk r b A x R1] [k : Ent R1 (grp C :: R)] : Ent A (grp (r b x :: C) :: R) :=
  (Ent.ofPerm h.perm).trans ((Ent.cons (k.trans ent_open)).trans (ent_shut (A := r b x :: C)))
theorem run_pt {o o' : Obj} {K : Act → World → Prop} [h : Tk pt b A o R] (he : o = o') (k : Run W0 N K e (pt b o' :: R)) : Run W0 N K e A := by
  subst he; exact run_tk (r := pt) (b := b) k
theorem run_kgrp {C : List HP} {K : Act → World → Prop} [h : Tk kH 0 A (grp C) R] (k : Run W0 N K e (C ++ R)) : Run W0 N K e A := run_tk (r := kH) (b := 0) (run_grp k)
theorem v_build0 {E n sz : Nat} {ps : Array (Nat × Operand)} (hu : P.underlying t = some (.array n E)) (hs : ∀ w, (sizeOf E).run P w = .ok sz w) (hz : ∀ w, (zeroValue t).run P w = .ok (.agg l.toArray) w) (hp : ps = #[]) :
    Val P S N e (.build t ps) (.agg l.toArray) := fun a w _ _ _ _ _ hF _ => by
  subst hp
  have hb : Instr.build t ((#[] : Array (Nat × Operand)).map fun (i, x) => (i, a.eval x)) = (do
      let zero := (← zeroValue t).cells
      match ← underlying t with
      | .struct fields =>
        let places ← fields.mapM placeOf
        let some cells := Instr.fill (places[·]?) zero ((#[] : Array (Nat × Operand)).map fun (i, x) => (i, a.eval x)).toList | stuck "build: no such field, or a part of the wrong size"
        pure (.agg cells)
      | .array _ elem =>
        let size ← sizeOf elem
        let some cells := Instr.fill (fun i => some (i * size, size)) zero ((#[] : Array (Nat × Operand)).map fun (i, x) => (i, a.eval x)).toList | stuck "build: a part of the wrong size"
        pure (.agg cells)
      | _ => stuck "build: struct or array type expected") := rfl
  simp only [execOp, hb, Sem.run_bind, hz, run_und hu, hs, Result.andThen_ok, Value.cells, Sem.run_pure]
  simp [Instr.fill]
def SlA {α : Type} (S : World → Prop) (a : Option Addr) (sz : Nat) (f : α → List Value) (xs : List α) : Prop :=
  ∀ i x, xs[i]? = some x → ∃ b off, a = some ⟨b, off, none⟩ ∧ Cells S b (off + i * sz) (f x)
variable {α : Type} {sz : Nat} {f : α → List Value} {xs : List α} {a : Option Addr}
theorem sla_nil : SlA S a sz f [] := fun i x h => by simp at h
theorem SlA.weak (h : SlA (OwnP W0 B) a sz f xs) [k : Ent A B] : SlA (OwnP W0 A) a sz f xs := fun i x hi => by
  obtain ⟨b, off, rfl, hc⟩ := h i x hi
  exact ⟨b, off, rfl, hc.weak⟩
theorem SlA.at_ (h : SlA S a sz f xs) {i : Nat} (hi : i < xs.length) : ∃ b off, a = some ⟨b, off, none⟩ ∧ Cells S b (off + i * sz) (f xs[i]) := h i xs[i] (by simp [hi])
theorem sla_own {E n c : Nat} {ys : List Value} {w : World} [h : Tk (osl E sz) (.slice a n c) A ys R] (hf : ∀ x, (f x).length = sz) (hz : 0 < sz) (hy : ys = xs.flatMap f) (hO : Own W0 w A) : SlA (OwnP W0 A) a sz f xs := by
  rcases (hO.tk (r := osl E sz) (b := .slice a n c)).osl with ⟨k1, k2, _⟩ | ⟨g, n', cap, sp, k1, _, _, _, _, _⟩
  · have : xs = [] := by
      have hl := flat_len hf xs
      rw [← hy, k2] at hl
      rcases Nat.eq_zero_or_pos xs.length with q | q
      · exact List.eq_nil_of_length_eq_zero q
      · have := Nat.mul_pos q hz
        simp at hl; omega
    subst this; exact sla_nil
  · cases k1
    intro i x hi
    have hlt : i < xs.length := by
      rcases Nat.lt_or_ge i xs.length with k | k
      · exact k
      · rw [List.getElem?_eq_none k] at hi; cases hi
    have hx : x = xs[i] := by rw [List.getElem?_eq_getElem hlt] at hi; exact (Option.some.inj hi).symm
    subst hx
    refine ⟨g, 0, rfl, fun j v hj w' hO' => ?_⟩
    rcases (Own.tk (r := osl E sz) (b := .slice (some ⟨g, 0, none⟩) n c) hO').osl with ⟨q1, _, _⟩ | ⟨g', n'', cap', sp', q1, _, _, _, _, q6⟩
    · cases q1
    · cases q1
      have hb := q6.has.2
      have hjl : j < sz := by
        rcases Nat.lt_or_ge j (f xs[i]).length with q | q
        · rw [hf] at q; exact q
        · rw [List.getElem?_eq_none q] at hj; cases hj
      have hg := flat_get hf xs i j sp' hlt hjl
      subst hy
      rw [hj] at hg
      simp only [World.cell?, hb, Option.isSome_none, Bool.false_eq_true, if_false, List.getElem?_toArray, Nat.zero_add]
      exact hg
theorem sla_pt {l : List Value} [h : Tk pt b A (cob l ty) R] (hf : ∀ x, (f x).length = sz) (hl : l = xs.flatMap f) : SlA (OwnP W0 A) (some ⟨b, 0, none⟩) sz f xs := fun i x hi => by
  have hlt : i < xs.length := by
    rcases Nat.lt_or_ge i xs.length with k | k
    · exact k
    · rw [List.getElem?_eq_none k] at hi; cases hi
  have hx : x = xs[i] := by rw [List.getElem?_eq_getElem hlt] at hi; exact (Option.some.inj hi).symm
  subst hx
  refine ⟨b, 0, rfl, fun j v hj => cell_own (l := l) (ty := ty) (R := R) ?_⟩
  have hjl : j < sz := by
    rcases Nat.lt_or_ge j (f xs[i]).length with q | q
    · rw [hf] at q; exact q
    · rw [List.getElem?_eq_none q] at hj; cases hj
  have hg := flat_get hf xs i j [] hlt hjl
  rw [List.append_nil, hj] at hg
  subst hl
  rw [Nat.zero_add]; exact hg
theorem run_sla {E n c : Nat} {ys : List Value} {K : Act → World → Prop} [h : Tk (osl E sz) (.slice a n c) A ys R] (f : α → List Value) (xs : List α) (hf : ∀ x, (f x).length = sz) (hz : 0 < sz) (hy : ys = xs.flatMap f) (k : SlA (OwnP W0 A) a sz f xs → Run W0 N K e A) : Run W0 N K e A :=
  fun a w hF hO => k (sla_own (h := h) hf hz hy hO) a w hF hO
def obk : Option Addr → Nat
  | some ad => ad.block
  | none => 0
def Frm0 (a : Option Addr) (ys : List Value) : Prop := (a = none ∧ ys = []) ∨ ∃ g, a = some ⟨g, 0, none⟩
theorem run_form {E n c : Nat} {ys : List Value} {K : Act → World → Prop} [h : Tk (osl E sz) (.slice a n c) A ys R] (k : Frm0 a ys → Run W0 N K e A) : Run W0 N K e A := fun act w hF hO => by
  refine k ?_ act w hF hO
  rcases (hO.tk (r := osl E sz) (b := .slice a n c)).osl with ⟨k1, k2, _⟩ | ⟨g, n', cap, sp, k1, _, _, _, _, _⟩
  · cases k1; exact .inl ⟨rfl, k2⟩
  · cases k1; exact .inr ⟨g, rfl⟩
theorem cells_osl {E n c : Nat} {ys : List Value} [h : Tk (osl E sz) (.slice a n c) A ys R] : Cells (OwnP W0 A) (obk a) 0 ys := fun i v hi w hO => by
  rcases (Own.tk (r := osl E sz) (b := .slice a n c) hO).osl with ⟨k1, k2, _⟩ | ⟨g, n', cap, sp, k1, _, _, _, _, q⟩
  · rw [k2] at hi; simp at hi
  · cases k1
    have hb := q.has.2
    have hlt : i < ys.length := by
      rcases Nat.lt_or_ge i ys.length with k | k
      · exact k
      · rw [List.getElem?_eq_none k] at hi; cases hi
    simp only [obk, World.cell?, hb, Option.isSome_none, Bool.false_eq_true, if_false, List.getElem?_toArray, Nat.zero_add]
    rw [List.getElem?_append_left hlt]; exact hi
theorem sla_cells {ys : List Value} (hf : Frm0 a ys) (hc : Cells S (obk a) 0 ys) (hl : ∀ x, (f x).length = sz) (hy : ys = xs.flatMap f) (hz : 0 < sz) : SlA S a sz f xs := fun i x hi => by
  have hlt : i < xs.length := by
    rcases Nat.lt_or_ge i xs.length with k | k
    · exact k
    · rw [List.getElem?_eq_none k] at hi; cases hi
  have hx : x = xs[i] := by rw [List.getElem?_eq_getElem hlt] at hi; exact (Option.some.inj hi).symm
  subst hx
  rcases hf with ⟨_, h0⟩ | ⟨g, rfl⟩
  · have := flat_len hl xs
    rw [← hy, h0] at this
    have h2 := Nat.mul_pos (show 0 < xs.length by omega) hz
    simp at this; omega
  · refine ⟨g, 0, rfl, fun j v hj => ?_⟩
    have hjl : j < sz := by
      rcases Nat.lt_or_ge j (f xs[i]).length with q | q
      · rw [hl] at q; exact q
      · rw [List.getElem?_eq_none q] at hj; cases hj
    have hg := flat_get hl xs i j [] hlt hjl
    rw [List.append_nil, hj, ← hy] at hg
    have := hc _ v hg
    rw [Nat.zero_add] at this ⊢
    exact this
theorem SlA.all (h : SlA S a sz f xs) (hne : xs ≠ []) (hf : ∀ x, (f x).length = sz) : ∃ b off, a = some ⟨b, off, none⟩ ∧ Cells S b off (xs.flatMap f) := by
  obtain ⟨b, off, rfl, h0⟩ := h.at_ (i := 0) (List.length_pos_iff.2 hne)
  refine ⟨b, off, rfl, fun j v hj => ?_⟩
  have hl := flat_len hf xs
  have hjl : j < xs.length * sz := by
    rcases Nat.lt_or_ge j (xs.flatMap f).length with q | q
    · omega
    · rw [List.getElem?_eq_none q] at hj; cases hj
  have hz : 0 < sz := by
    rcases Nat.eq_zero_or_pos sz with q | q
    · subst q; simp at hjl
    · exact q
  have hi : j / sz < xs.length := (Nat.div_lt_iff_lt_mul hz).2 hjl
  obtain ⟨b', off', he, hc⟩ := h.at_ hi
  cases he
  have hm : j / sz * sz + j % sz = j := by rw [Nat.mul_comm]; exact Nat.div_add_mod j sz
  have hg := flat_get hf xs (j / sz) (j % sz) [] hi (Nat.mod_lt _ hz)
  rw [List.append_nil, hm, hj] at hg
  have := hc (j % sz) v hg.symm
  rwa [Nat.add_assoc, hm] at this
end
def inI (x : Int) : List Value := [.int .i64 x]
end Go.Proofs.YtnidndllknffgaaGreat
namespace Go.Proofs.YtnidndllknffgaaGreat
open Go.RowKit
set_option linter.unusedSimpArgs false
set_option linter.unusedVariables false
def rwH (T E : TypeId) (sz : Nat) {α : Type} (f : α → List Value) (o b : Nat) (x : List α × List Value) : HP := chk (fun C => o < x.2.length ∧ ∃ a c, C = [pt b (cob (x.2.set o (.slice a x.1.length c)) T), osl E sz (.slice a x.1.length c) (x.1.flatMap f)])
theorem set_at {l : List Value} {o : Nat} {v : Value} (h : o < l.length) : (l.set o v)[o]? = some v := by simp [h]
theorem set_set {l : List Value} {o : Nat} {v u : Value} : (l.set o v).set o u = l.set o u := List.set_set ..
section
variable {P : Program} {W0 : World} {N : FSz} {K : Act → World → Prop} {e : Env} {R A B R1 R2 : List HP} {T E : TypeId} {sz o b n : Nat} {α : Type} {f : α → List Value} {its : List α} {cs cs' : List Value} {fn : FuncId} {args : List Value} {Post : Value → List HP → Prop}
theorem spec_rw (h : ∀ a c, o < cs.length → Spec P W0 fn args (pt b (cob (cs.set o (.slice a its.length c)) T) :: osl E sz (.slice a its.length c) (its.flatMap f) :: R) Post) : Spec P W0 fn args (rwH T E sz f o b (its, cs) :: R) Post :=
  spec_chk fun C hC => by obtain ⟨ho, a, c, rfl⟩ := hC; exact h a c ho
theorem ent_rw {a : Option Addr} {c : Nat} {xs : List Value} [h1 : Tk pt b A (cob cs' T) R1] [h2 : Tk (osl E sz) (.slice a n c) R1 xs R2] (hx : xs = its.flatMap f) (hc : cs' = cs.set o (.slice a n c)) (ho : o < cs.length) (hn : n = its.length) [k : Ent R2 B] : Ent A (rwH T E sz f o b (its, cs) :: B) := by
  subst hn; subst hc; subst hx
  exact (Ent.ofPerm (h1.perm.trans (h2.perm.cons _))).trans ((Ent.cons (Ent.cons k)).trans (ent_chk (R := B) (C := [_, _]) ⟨ho, a, c, rfl⟩))
theorem spec_rwN (hf : ∀ x, (f x).length = sz) (h0 : its ≠ []) (hz : 0 < sz) (h : ∀ g c sp, o < cs.length → its.length ≤ c → c ≤ maxLen → (its.flatMap f ++ sp).length = c * sz → Spec P W0 fn args (pt b (cob (cs.set o (.slice (some ⟨g, 0, none⟩) its.length c)) T) :: pt g (cob (its.flatMap f ++ sp) E) :: R) Post) : Spec P W0 fn args (rwH T E sz f o b (its, cs) :: R) Post :=
  spec_rw fun a c ho => spec_perm (List.Perm.swap _ _ _) (spec_osl (fun h1 h2 => by
      have := flat_len hf its
      rw [h2] at this
      have h3 : its.length = 0 := by
        rcases Nat.mul_eq_zero.1 this.symm with k | k
        · exact k
        · omega
      exact absurd (List.eq_nil_of_length_eq_zero h3) h0)
    (fun g n cap sp h1 h2 h3 h4 h5 => by
      cases h1
      exact spec_perm (List.Perm.swap _ _ _) (h g _ sp ho h2 h3 h5)))
theorem ent_rwN {g c : Nat} {xs sp : List Value} [h1 : Tk pt b A (cob cs' T) R1] [h2 : Tk pt g R1 (cob (xs ++ sp) E) R2] (hf : ∀ x, (f x).length = sz) (hx : xs = its.flatMap f) (hcs : cs' = cs.set o (.slice (some ⟨g, 0, none⟩) n c)) (ho : o < cs.length) (hn : n = its.length) (hc : n ≤ c) (hm : c ≤ maxLen) (hl : (xs ++ sp).length = c * sz) [k : Ent R2 B] : Ent A (rwH T E sz f o b (its, cs) :: B) := by
  subst hn; subst hx; subst hcs
  have e : Ent R1 (osl E sz (.slice (some ⟨g, 0, none⟩) its.length c) (its.flatMap f) :: B) := ent_osl hc hm (flat_len hf its) hl
  exact (Ent.ofPerm h1.perm).trans ((Ent.cons e).trans (ent_chk (R := B) (C := [_, _]) ⟨ho, _, c, rfl⟩))
theorem cell_rw [hk : Tk (rwH T E sz f o) b A (its, cs) R] {i : Nat} {v : Value} (hi : i ≠ o) (h : cs[i]? = some v) : Cell (OwnP W0 A) b i v := fun w (hO : Own W0 w A) => by
  obtain ⟨C, ⟨ho, a, c, rfl⟩, hO'⟩ := (hO.tk (r := rwH T E sz f o) (b := b)).chk
  have h1 : Own W0 w (pt b (cob (cs.set o (.slice a its.length c)) T) :: (osl E sz (.slice a its.length c) (its.flatMap f) :: R)) := hO'
  have h2 : Cell (OwnP W0 (pt b (cob (cs.set o (.slice a its.length c)) T) :: (osl E sz (.slice a its.length c) (its.flatMap f) :: R))) b i v := cell_own (by rw [List.getElem?_set_ne (by omega)]; exact h)
  exact h2 w h1
theorem cells_rw1 [hk : Tk (rwH T E sz f o) b A (its, cs) R] {i : Nat} {v : Value} (hi : i ≠ o) (h : cs[i]? = some v) : Cells (OwnP W0 A) b i [v] := fun j u hj => by
  match j, hj with
  | 0, hj => rw [← Option.some.inj hj]; exact cell_rw (o := o) (f := f) (T := T) (E := E) (sz := sz) hi h
  | j + 1, hj => cases hj
end
theorem flat1_len {α : Type} (f : α → Value) (l : List α) : (l.flatMap fun x => [f x]) = l.map f := by
  induction l with
  | nil => rfl
  | cons x l ih => rw [List.flatMap_cons, ih]; rfl
theorem flat_bd {α : Type} {f : α → List Value} {k : Nat} (hf : ∀ x, (f x).length = k) (its : List α) (sp : List Value) (i : Nat) (hi : i < its.length) : i * k + k ≤ (its.flatMap f ++ sp).length := by
  have := Nat.mul_le_mul_right k (show i + 1 ≤ its.length by omega)
  rw [Nat.succ_mul] at this
  rw [List.length_append, flat_len hf]; omega
end Go.Proofs.YtnidndllknffgaaGreat
