/-
  A small separation logic over the model's calls: what is owned is a list of chunks (one block each, or a named group of blocks); all blocks that were there at the beginning stay as they were.
  Nothing of one program stands here.
-/
import Derived.WalkKit
import Derived.ProofKit
import Derived.RangeFuncRecord
namespace Go.Proofs.YteolepiendmhlaaGreatDoor
open Go.RowKit

/-! ### What is owned -/

abbrev HP := List (Nat × Obj) → Prop

/-- One block. -/
def pt (b : Nat) (o : Obj) : HP := fun l => l = [(b, o)]

/-- A row of cells that nobody froze. -/
abbrev cob (l : List Value) (t : TypeId) : Obj := .cells l.toArray t (0, 0)

def Sat : List HP → List (Nat × Obj) → Prop
  | [], l => l = []
  | a :: A, l => ∃ l1 l2, l = l1 ++ l2 ∧ a l1 ∧ Sat A l2

structure Own (W0 w : World) (A : List HP) : Prop where
  os : w.os = W0.os
  tape : w.tape = W0.tape
  output : w.output = W0.output
  size : W0.heap.size ≤ w.heap.size
  base : ∀ b, b < W0.heap.size → w.heap[b]? = W0.heap[b]?
  owns : ∃ ls : List (Nat × Obj), Sat A ls ∧ (ls.map (·.1)).Nodup ∧ ∀ p ∈ ls, W0.heap.size ≤ p.1 ∧ w.heap[p.1]? = some p.2

theorem Sat.perm {A B : List HP} (h : A.Perm B) : ∀ {l}, Sat A l → ∃ l', Sat B l' ∧ l.Perm l' := by
  induction h with
  | nil => exact fun h => ⟨_, h, List.Perm.refl _⟩
  | cons x h ih =>
    rintro l ⟨l1, l2, rfl, ha, hs⟩
    obtain ⟨l', hs', hp⟩ := ih hs
    exact ⟨l1 ++ l', ⟨l1, l', rfl, ha, hs'⟩, hp.append_left l1⟩
  | swap x y l =>
    rintro l ⟨l1, l2, rfl, ha, m1, m2, rfl, hb, hs⟩
    refine ⟨m1 ++ (l1 ++ m2), ⟨m1, l1 ++ m2, rfl, hb, l1, m2, rfl, ha, hs⟩, ?_⟩
    rw [← List.append_assoc, ← List.append_assoc]
    exact (List.perm_append_comm).append_right m2
  | trans h1 h2 ih1 ih2 =>
    intro l hl
    obtain ⟨l', hs, hp⟩ := ih1 hl
    obtain ⟨l'', hs', hp'⟩ := ih2 hs
    exact ⟨l'', hs', hp.trans hp'⟩

theorem Own.perm {W0 w : World} {A B : List HP} (h : Own W0 w A) (hp : A.Perm B) : Own W0 w B := by
  obtain ⟨ls, hs, hn, hb⟩ := h.owns
  obtain ⟨l', hs', hp'⟩ := hs.perm hp
  exact ⟨h.os, h.tape, h.output, h.size, h.base, l', hs', (hp'.map _).nodup hn, fun p hm => hb p (hp'.mem_iff.2 hm)⟩

theorem Own.drop {W0 w : World} {a : HP} {A : List HP} (h : Own W0 w (a :: A)) : Own W0 w A := by
  obtain ⟨ls, ⟨l1, l2, rfl, _, hs⟩, hn, hb⟩ := h.owns
  refine ⟨h.os, h.tape, h.output, h.size, h.base, l2, hs, ?_, fun p hm => hb p (List.mem_append_right _ hm)⟩
  rw [List.map_append] at hn
  exact (List.nodup_append.1 hn).2.1

theorem Own.refl (W : World) : Own W W [] := ⟨rfl, rfl, rfl, Nat.le_refl _, fun _ _ => rfl, [], rfl, List.nodup_nil, fun _ h => nomatch h⟩

theorem Own.below {W0 w : World} {A : List HP} (h : Own W0 w A) : Below W0.heap.size W0 w := ⟨h.os, h.tape, h.output, h.size, h.base⟩

theorem Own.drew {W0 w : World} {A : List HP} (h : Own W0 w A) (n : Nat) : Own W0 { w with drawn := n } A := ⟨h.os, h.tape, h.output, h.size, h.base, h.owns⟩

theorem Own.has {W0 w : World} {b : Nat} {o : Obj} {A : List HP} (h : Own W0 w (pt b o :: A)) : W0.heap.size ≤ b ∧ w.heap[b]? = some o := by
  obtain ⟨ls, ⟨l1, l2, rfl, h1, _⟩, _, hb⟩ := h.owns
  cases h1
  exact hb (b, o) (by simp)

/-- The block of one chunk is written. -/
theorem Own.set {W0 w w' : World} {b : Nat} {o o' : Obj} {A : List HP} (h : Own W0 w (pt b o :: A)) (hos : w'.os = w.os) (htape : w'.tape = w.tape)
    (hout : w'.output = w.output) (hsz : w'.heap.size = w.heap.size)
    (hb : w'.heap[b]? = some o') (hne : ∀ k, k ≠ b → w'.heap[k]? = w.heap[k]?) : Own W0 w' (pt b o' :: A) := by
  have hbase := h.has.1
  obtain ⟨ls, ⟨l1, l2, rfl, h1, hs⟩, hn, hm⟩ := h.owns
  cases h1
  refine ⟨hos.trans h.os, htape.trans h.tape, hout.trans h.output, by have := h.size; omega, fun k hk => ?_, (b, o') :: l2, ⟨[(b, o')], l2, rfl, rfl, hs⟩, ?_, ?_⟩
  · rw [hne k (by omega)]; exact h.base k hk
  · simpa using hn
  · rintro p hp
    rcases List.mem_cons.1 hp with rfl | hp
    · exact ⟨hbase, hb⟩
    · have hp' := hm p (List.mem_append_right _ hp)
      refine ⟨hp'.1, ?_⟩
      rw [hne]; · exact hp'.2
      intro e
      simp only [List.singleton_append, List.map_cons, List.nodup_cons, List.mem_map, not_exists, not_and] at hn
      exact hn.1 p hp e

/-- A new block. -/
theorem Own.new {W0 w : World} {A : List HP} (h : Own W0 w A) (o : Obj) : Own W0 { w with heap := w.heap.push o } (pt w.heap.size o :: A) := by
  obtain ⟨ls, hs, hn, hb⟩ := h.owns
  refine ⟨h.os, h.tape, h.output, ?_, fun k hk => ?_, (w.heap.size, o) :: ls, ⟨[_], ls, rfl, rfl, hs⟩, ?_, ?_⟩
  · have := h.size; simp; omega
  · have := h.size
    show (w.heap.push o)[k]? = _
    rw [Array.getElem?_push, if_neg (by omega)]; exact h.base k hk
  · simp only [List.map_cons, List.nodup_cons]
    refine ⟨?_, hn⟩
    intro hmem
    obtain ⟨p, hp, e⟩ := List.mem_map.1 hmem
    have := (hb p hp).2
    rw [e] at this
    simp at this
  · rintro p hp
    show _ ∧ (w.heap.push o)[p.1]? = _
    rcases List.mem_cons.1 hp with rfl | hp
    · exact ⟨h.size, by simp⟩
    · refine ⟨(hb p hp).1, ?_⟩
      have := (hb p hp).2
      have hlt : p.1 < w.heap.size := by
        rcases Nat.lt_or_ge p.1 w.heap.size with h | h
        · exact h
        · rw [Array.getElem?_eq_none h] at this; cases this
      rw [Array.getElem?_push, if_neg (by omega)]; exact this

/-- A chunk is found, by its head and its place. -/
class Tk {K X : Type} (r : K → X → HP) (b : K) (A : List HP) (x : outParam X) (R : outParam (List HP)) : Prop where
  perm : A.Perm (r b x :: R)

instance tk_here {K X : Type} {r : K → X → HP} {b : K} {x : X} {R : List HP} : Tk r b (r b x :: R) x R := ⟨List.Perm.refl _⟩
instance (priority := low) tk_there {K X : Type} {r : K → X → HP} {b : K} {c : HP} {A : List HP} {x : X} {R : List HP} [h : Tk r b A x R] : Tk r b (c :: A) x (c :: R) :=
  ⟨(h.perm.cons c).trans (List.Perm.swap _ _ _)⟩

/-- What is owned gives what is owned: chunks may be left. -/
class Ent (A B : List HP) : Prop where
  out : ∀ l, Sat A l → ∃ l' r, Sat B l' ∧ l.Perm (l' ++ r)

theorem Own.ent {W0 w : World} {A B : List HP} (h : Own W0 w A) (e : Ent A B) : Own W0 w B := by
  obtain ⟨ls, hs, hn, hb⟩ := h.owns
  obtain ⟨l', r, hs', hp⟩ := e.out _ hs
  refine ⟨h.os, h.tape, h.output, h.size, h.base, l', hs', ?_, fun p hm => hb p (hp.mem_iff.2 (List.mem_append_left _ hm))⟩
  have := (hp.map (·.1)).nodup hn
  rw [List.map_append] at this
  exact (List.nodup_append.1 this).1

instance (priority := high) ent_refl {A : List HP} : Ent A A := ⟨fun l h => ⟨l, [], h, by simp⟩⟩
theorem Ent.trans {A B C : List HP} (h : Ent A B) (k : Ent B C) : Ent A C := ⟨fun l hl => by
  obtain ⟨l1, r1, hs1, hp1⟩ := h.out l hl
  obtain ⟨l2, r2, hs2, hp2⟩ := k.out l1 hs1
  exact ⟨l2, r2 ++ r1, hs2, hp1.trans (by rw [← List.append_assoc]; exact hp2.append_right r1)⟩⟩
theorem Ent.ofPerm {A B : List HP} (h : A.Perm B) : Ent A B := ⟨fun l hl => by
  obtain ⟨l', hs, hp⟩ := hl |> Sat.perm h
  exact ⟨l', [], hs, by simpa using hp⟩⟩
theorem Ent.cons {a : HP} {A B : List HP} (h : Ent A B) : Ent (a :: A) (a :: B) := ⟨fun l hl => by
  obtain ⟨l1, l2, rfl, ha, hs⟩ := hl
  obtain ⟨l', r, hs', hp⟩ := h.out l2 hs
  exact ⟨l1 ++ l', r, ⟨l1, l', rfl, ha, hs'⟩, by rw [List.append_assoc]; exact hp.append_left l1⟩⟩
theorem Ent.drop {a : HP} {A : List HP} : Ent (a :: A) A := ⟨fun l hl => by
  obtain ⟨l1, l2, rfl, _, hs⟩ := hl
  exact ⟨l2, l1, hs, List.perm_append_comm⟩⟩

/-- Shown by looking: each chunk of the right hand side is found; the rest is left. -/
instance ent_take {K X : Type} {r : K → X → HP} {b : K} {x : X} {A R B : List HP} [h : Tk r b A x R] [k : Ent R B] : Ent A (r b x :: B) :=
  (Ent.ofPerm h.perm).trans k.cons
instance (priority := low) ent_drop {a : HP} {A B : List HP} [k : Ent A B] : Ent (a :: A) B := Ent.drop.trans k

/-- A group of chunks as one. -/
def grp (A : List HP) : HP := fun l => Sat A l
theorem Sat.append {A B : List HP} {l : List (Nat × Obj)} : Sat (A ++ B) l ↔ ∃ l1 l2, l = l1 ++ l2 ∧ Sat A l1 ∧ Sat B l2 := by
  induction A generalizing l with
  | nil => exact ⟨fun h => ⟨[], l, rfl, rfl, h⟩, by rintro ⟨l1, l2, rfl, rfl, h⟩; exact h⟩
  | cons a A ih =>
    constructor
    · rintro ⟨l1, l2, rfl, ha, hs⟩
      obtain ⟨m1, m2, rfl, h1, h2⟩ := ih.1 hs
      exact ⟨l1 ++ m1, m2, by simp, ⟨l1, m1, rfl, ha, h1⟩, h2⟩
    · rintro ⟨l1, l2, rfl, ⟨m1, m2, rfl, ha, hs⟩, h2⟩
      exact ⟨m1, m2 ++ l2, by simp, ha, ih.2 ⟨m2, l2, rfl, hs, h2⟩⟩
theorem ent_open {A R : List HP} : Ent (grp A :: R) (A ++ R) := ⟨fun l hl => by
  obtain ⟨l1, l2, rfl, ha, hs⟩ := hl
  exact ⟨l1 ++ l2, [], Sat.append.2 ⟨l1, l2, rfl, ha, hs⟩, by simp⟩⟩
theorem ent_shut {A R : List HP} : Ent (A ++ R) (grp A :: R) := ⟨fun l hl => by
  obtain ⟨l1, l2, rfl, ha, hs⟩ := Sat.append.1 hl
  exact ⟨l1 ++ l2, [], ⟨l1, l2, rfl, ha, hs⟩, by simp⟩⟩

/-! ### The frame, by what is known of it -/

abbrev Env := List (Nat × Value)
def get? : Env → Nat → Option Value
  | [], _ => none
  | (t, v) :: r, u => match Nat.beq t u with | true => some v | false => get? r u
def ev (e : Env) : Operand → Option Value
  | .tmp t => get? e t
  | .const v => some v
  | .global g => some (.pointer (some ⟨g, 0, none⟩))
  | .func f => some (.func (.func f) #[] #[])
def evs (e : Env) : List Operand → Option (List Value)
  | [] => some []
  | x :: xs => match ev e x with
    | some v => match evs e xs with
      | some vs => some (v :: vs)
      | none => none
    | none => none

/-- How many slots, and the deferred calls (marks of loops over functions). -/
structure FSz where
  n : Nat
  ds : List Deferred
structure Fr (a : Act) (N : FSz) (e : Env) : Prop where
  defers : a.defers = N.ds
  size : a.tmps.size = N.n
  at_ : ∀ t v, get? e t = some v → a.tmps[t]? = some v

theorem Fr.eval {a : Act} {N : FSz} {e : Env} (h : Fr a N e) {x : Operand} {v : Value} (hx : ev e x = some v) : a.eval x = v := by
  cases x with
  | tmp t => simp [Act.eval, Array.getD_eq_getD_getElem?, h.at_ t v hx]
  | const c => exact Option.some.inj hx
  | global g => exact Option.some.inj hx
  | func f => exact Option.some.inj hx

theorem Fr.evals {a : Act} {N : FSz} {e : Env} (h : Fr a N e) : ∀ {xs : List Operand} {vs : List Value}, evs e xs = some vs → xs.map a.eval = vs
  | [], vs, hx => by simp [evs] at hx; simp [hx]
  | x :: xs, vs, hx => by
    unfold evs at hx
    cases hv : ev e x with
    | none => rw [hv] at hx; cases hx
    | some v =>
      rw [hv] at hx
      cases hvs : evs e xs with
      | none => simp only [hvs] at hx; cases hx
      | some vs' =>
        simp only [hvs, Option.some.injEq] at hx
        subst hx
        simp [h.eval hv, h.evals hvs]

theorem get?_cons_self {e : Env} {t : Nat} {v : Value} : get? ((t, v) :: e) t = some v := by simp [get?]
theorem get?_cons_ne {e : Env} {t u : Nat} {v : Value} (h : t ≠ u) : get? ((t, v) :: e) u = get? e u := by
  have : Nat.beq t u = false := by
    cases hb : Nat.beq t u with
    | false => rfl
    | true => exact absurd (Nat.eq_of_beq_eq_true hb) h
  simp [get?, this]

theorem Fr.put {a : Act} {N : FSz} {e : Env} (h : Fr a N e) {d : Nat} (hd : d < N.n) (v : Value) : Fr (a.put (some d) v) N ((d, v) :: e) := by
  refine ⟨h.defers, by simp [Act.put, h.size], fun t u hu => ?_⟩
  show (a.tmps.setIfInBounds d v)[t]? = some u
  by_cases e' : d = t
  · subst e'
    rw [get?_cons_self] at hu
    have hd' : d < a.tmps.size := by rw [h.size]; exact hd
    simp [hd', Option.some.inj hu]
  · rw [get?_cons_ne e'] at hu
    rw [Array.getElem?_setIfInBounds, if_neg e']
    exact h.at_ t u hu

/-- A smaller frame is known where a greater one is. -/
def Sub (e e' : Env) : Prop := ∀ t v, get? e' t = some v → get? e t = some v
theorem Fr.sub {a : Act} {N : FSz} {e e' : Env} (h : Fr a N e) (s : Sub e e') : Fr a N e' := ⟨h.defers, h.size, fun t v hv => h.at_ t v (s t v hv)⟩
theorem sub_nil {e : Env} : Sub e [] := fun _ _ h => nomatch h
theorem sub_cons {e e' : Env} {t : Nat} {v : Value} (h : get? e t = some v) (k : Sub e e') : Sub e ((t, v) :: e') := fun u x hx => by
  by_cases c : t = u
  · subst c; rw [get?_cons_self] at hx; rw [h]; exact hx
  · rw [get?_cons_ne c] at hx; exact k u x hx
theorem sub_refl {e : Env} : Sub e e := fun _ _ h => h

/-! ### Running -/

/-- Whatever is known of the frame and of memory: K holds. -/
def Run (W0 : World) (N : FSz) (K : Act → World → Prop) (e : Env) (A : List HP) : Prop := ∀ a w, Fr a N e → Own W0 w A → K a w

/-- One way out. -/
def Ex (Q : Exit → Act → World → Prop) (x : Exit) : Act → World → Prop := fun a w => Q x a w

/-- What a call comes to. -/
def Spec (P : Program) (W0 : World) (f : FuncId) (args : List Value) (A : List HP) (Post : Value → List HP → Prop) : Prop :=
  ∀ w, Own W0 w A → Calls P f args.toArray w fun e w' => ∃ v B, e = .returned v ∧ Post v B ∧ Own W0 w' B

section
variable {W0 : World} {N : FSz} {K K' : Act → World → Prop} {e e' : Env} {A B : List HP}

theorem run_mono (h : ∀ a w, K a w → K' a w) (r : Run W0 N K e A) : Run W0 N K' e A := fun a w hF hO => h a w (r a w hF hO)
theorem run_ent (h : Ent A B) (r : Run W0 N K e B) : Run W0 N K e A := fun a w hF hO => r a w hF (hO.ent h)
theorem run_sub (h : Sub e e') (r : Run W0 N K e' A) : Run W0 N K e A := fun a w hF hO => r a w (hF.sub h) hO
theorem run_perm (h : A.Perm B) (r : Run W0 N K e B) : Run W0 N K e A := fun a w hF hO => r a w hF (hO.perm h)
end

/-! ### The fence of everything, in a round or in none -/
def FW (rd : Option Nat) : Fence := { Fence.wide with round := rd }
def _root_.Go.Code.wpR (c : Code) (rd : Option Nat) (P : Program) (Q : Exit → Act → World → Prop) (a : Act) (w : World) : Prop := c.wpIn (FW rd) 0 P Q a w
theorem wpR_wide {P : Program} {c : Code} {Q : Exit → Act → World → Prop} {a : Act} {w : World} : c.wpR none P Q a w ↔ c.wp P Q a w := wpIn_wide
theorem callsR {rd : Option Nat} {n : Nat} {P : Program} {f : FuncId} {args : Array Value} {w : World} {R : Ending → World → Prop} : CallsIn (FW rd) n P f args w R ↔ Calls P f args w R :=
  callsIn_wide (n := n)
theorem stepsR {rd : Option Nat} {P : Program} {m m' : Machine} : StepsIn (Machine.fenced P (FW rd)) P m m' ↔ Steps P m m' := stepsIn_wide

/-- What does as a plain operation does in a round too. -/
theorem upon_in {rd : Option Nat} {P : Program} {o : Oper} {a : Act} {K K' : Act → World → Prop} {Q : Exit → Act → World → Prop} (hk : ∀ a w, K a w → K' a w) :
    ∀ {r : Result Next}, o.upon P a K Q r → o.uponIn (FW rd) 0 P a K' Q r
  | .ok (.value v) w, h => hk _ _ h
  | .ok .skip w, h => hk _ _ h
  | .ok (.defer d) w, h => hk _ _ h
  | .ok (.enter f args) w, h => ⟨fun h => (by cases h), callsR.2 (Calls.mono (show Calls P f args w _ from h) (by
      intro e w' he
      cases e with
      | returned v => exact hk _ _ he
      | panicked c => exact he
      | outgrown => exact he))⟩
  | .ok (.row row args) w, h => ⟨fun h => (by cases h), fun c cs _ => by
      obtain ⟨v, w', h1, h2⟩ := (show Rows P row args w _ from h) c cs
      exact ⟨v, w', hk _ _ h1, stepsR.2 h2⟩⟩
  | .halt (.panic v) w, h => h
theorem uponIn_mono {rd : Option Nat} {P : Program} {o : Oper} {a : Act} {K K' : Act → World → Prop} {Q : Exit → Act → World → Prop} (hk : ∀ a w, K a w → K' a w) :
    ∀ {r : Result Next}, o.uponIn (FW rd) 0 P a K Q r → o.uponIn (FW rd) 0 P a K' Q r
  | .ok (.value v) w, h => hk _ _ h
  | .ok .skip w, h => hk _ _ h
  | .ok (.defer d) w, h => hk _ _ h
  | .ok (.enter f args) w, h => ⟨h.1, CallsIn.mono h.2 (by
      intro e w' he
      cases e with
      | returned v => exact hk _ _ he
      | panicked c => exact he
      | outgrown => exact he)⟩
  | .ok (.row row args) w, h => ⟨h.1, RowsIn.mono h.2 (fun v w' he => hk _ _ he)⟩
  | .ok (.round l f tmps assign body) w, h => ⟨h.1, RoundIn.mono h.2 (by
      intro e w' he
      cases e with
      | returned v => exact hk _ _ he
      | panicked c => exact he
      | outgrown => exact he)⟩
  | .halt (.panic v) w, h => h

/-- What a region's operations come to, in the text's order. -/
def wpL (rd : Option Nat) (P : Program) (ops : Array Oper) (Q : Exit → Act → World → Prop) : List Oper → Act → World → Prop
  | [], a, w => Q .normal a w
  | o :: rest, a, w =>
    if Region.wanted o (yielded ops a.tmps) then o.wp P a w (wpL rd P ops Q rest) Q ∨ o.wpIn (FW rd) 0 P a w (wpL rd P ops Q rest) Q
    else wpL rd P ops Q rest (a.put o.dst undef) w

def opPlain (o : Oper) : Bool := match o.op with | .defer _ => false | _ => true
theorem opPlain_spec {o : Oper} (h : opPlain o = true) : ∀ c, o.op ≠ .defer c := fun c hc => by simp [opPlain, hc] at h
/-- No deferred call in a round. -/
def plainR (rd : Option Nat) (ops : List Oper) : Bool := rd.isNone || ops.all opPlain

theorem wpOps_drop {rd : Option Nat} {P : Program} {ops : Array Oper} {Q : Exit → Act → World → Prop} (hp : plainR rd ops.toList = true) : ∀ (n i : Nat), i + n = ops.size → ∀ a w, wpL rd P ops Q (ops.toList.drop i) a w →
    wpOpsIn (FW rd) 0 P ops Q (List.range' i n) a w
  | 0, i, h, a, w, hw => by
    have : ops.toList.drop i = [] := by rw [List.drop_eq_nil_iff]; simp; omega
    rw [this] at hw; exact hw
  | n + 1, i, h, a, w, hw => by
    have hi : i < ops.size := by omega
    have e1 : ops.toList.drop i = ops[i] :: ops.toList.drop (i + 1) := by
      rw [List.drop_eq_getElem_cons (by simpa using hi)]; simp
    rw [e1] at hw
    rw [List.range'_succ]
    have ih := wpOps_drop (rd := rd) (P := P) (Q := Q) hp n (i + 1) (by omega)
    simp only [wpOpsIn, Array.getElem?_eq_getElem hi]
    simp only [wpL] at hw
    split at hw
    · rename_i hwant
      rw [if_pos hwant]
      rcases hw with hw | hw
      · have hsem : (ops[i]).semAt (FW rd).round a.eval = execOp a.eval ops[i] := by
          cases rd with
          | none => rfl
          | some l =>
            refine Oper.semAt_eq _ _ _ (opPlain_spec ?_)
            simp only [plainR, Option.isNone_some, Bool.false_or, List.all_eq_true] at hp
            exact hp _ (by simp)
        refine ⟨fun _ _ => trivial, ?_⟩
        rw [hsem]
        exact upon_in ih hw
      · exact ⟨hw.1, uponIn_mono ih hw.2⟩
    · rename_i hwant
      rw [if_neg hwant]
      exact ⟨fun _ _ => trivial, ih _ _ hw⟩

theorem wp_region_list {rd : Option Nat} {P : Program} {id : Nat} {ops : Array Oper} {Q : Exit → Act → World → Prop} {a : Act} {w : World} (hp : plainR rd ops.toList = true)
    (h : wpL rd P ops Q ops.toList a w) : (Code.region id ops false).wpR rd P Q a w := by
  refine wpIn_region ?_
  rw [List.range_eq_range']
  exact wpOps_drop hp ops.size 0 (by omega) a w (by simpa using h)

section control
variable {rd : Option Nat} {P : Program} {W0 : World} {N : FSz} {Q Q' : Exit → Act → World → Prop} {e e' : Env} {A B : List HP}

theorem x_region {id : Nat} {ops : Array Oper} (h : Run W0 N (wpL rd P ops Q ops.toList) e A) (hp : plainR rd ops.toList = true := by rfl) : Run W0 N ((Code.region id ops false).wpR rd P Q) e A :=
  fun a w hF hO => wp_region_list hp (h a w hF hO)
theorem x_seq {x y : Code} (h : Run W0 N (x.wpR rd P (Exit.then (y.wpR rd P Q) Q)) e A) : Run W0 N ((Code.seq x y).wpR rd P Q) e A := fun a w hF hO => wpIn_seq (h a w hF hO)
theorem x_skip (h : Run W0 N (Ex Q .normal) e A) : Run W0 N (Code.skip.wpR rd P Q) e A := fun a w hF hO => wpIn_skip (h a w hF hO)
theorem x_ret (h : Run W0 N (Ex Q .ret) e A) : Run W0 N (Code.ret.wpR rd P Q) e A := fun a w hF hO => wpIn_ret (h a w hF hO)
theorem x_exit {id : Nat} (h : Run W0 N (Ex Q (.exit id)) e A) : Run W0 N ((Code.exit id).wpR rd P Q) e A := fun a w hF hO => wpIn_exit (h a w hF hO)
theorem x_block {id : Nat} {c : Code} (h : Run W0 N (c.wpR rd P (Exit.inBlock id Q)) e A) : Run W0 N ((Code.block id c).wpR rd P Q) e A := fun a w hF hO => wpIn_block (h a w hF hO)
theorem x_label {l : Nat} (h : Run W0 N (Ex Q .normal) e A) : Run W0 N ((Code.label l).wpR rd P Q) e A := fun a w hF hO => wpIn_label (h a w hF hO)
theorem x_nil {ops : Array Oper} (h : Run W0 N (Ex Q .normal) e A) : Run W0 N (wpL rd P ops Q []) e A := fun a w hF hO => h a w hF hO
theorem x_cond {c : Operand} {x y : Code} {t : Nat} {b : Bool} (hc : c = .tmp t) (hv : get? e t = some (.bool b))
    (ht : b = true → Run W0 N (x.wpR rd P Q) ((t, .bool true) :: e) A) (hf : b = false → Run W0 N (y.wpR rd P Q) ((t, .bool false) :: e) A) : Run W0 N ((Code.cond c x y).wpR rd P Q) e A := by
  intro a w hF hO
  subst hc
  have hs : ∀ b', b = b' → Sub e ((t, .bool b') :: e) := fun b' hb => sub_cons (hb ▸ hv) sub_refl
  cases hb : b with
  | true => exact wpIn_cond_true (hF.eval (x := .tmp t) (hb ▸ hv)) (ht hb a w (hF.sub (hs _ hb)) hO)
  | false => exact wpIn_cond_false (hF.eval (x := .tmp t) (hb ▸ hv)) (hf hb a w (hF.sub (hs _ hb)) hO)

-- ways out
theorem n_then {n : Act → World → Prop} (h : Run W0 N n e A) : Run W0 N (Ex (Exit.then n Q) .normal) e A := h
theorem n_block {id : Nat} (h : Run W0 N (Ex Q .normal) e A) : Run W0 N (Ex (Exit.inBlock id Q) .normal) e A := h
theorem e_then {n : Act → World → Prop} {id : Nat} (h : Run W0 N (Ex Q (.exit id)) e A) : Run W0 N (Ex (Exit.then n Q) (.exit id)) e A := h
theorem e_block {id : Nat} (h : Run W0 N (Ex Q .normal) e A) : Run W0 N (Ex (Exit.inBlock id Q) (.exit id)) e A := fun a w hF hO => by
  simp only [Ex, Exit.inBlock, if_true]; exact h a w hF hO
theorem e_block_ne {id j : Nat} (hj : Nat.beq j id = false) (h : Run W0 N (Ex Q (.exit j)) e A) : Run W0 N (Ex (Exit.inBlock id Q) (.exit j)) e A := fun a w hF hO => by
  have : j ≠ id := Nat.ne_of_beq_eq_false hj
  simp only [Ex, Exit.inBlock, this, if_false]; exact h a w hF hO
theorem r_then {n : Act → World → Prop} (h : Run W0 N (Ex Q .ret) e A) : Run W0 N (Ex (Exit.then n Q) .ret) e A := h
theorem r_block {id : Nat} (h : Run W0 N (Ex Q .ret) e A) : Run W0 N (Ex (Exit.inBlock id Q) .ret) e A := h

/-- A loop's round gives the loop's own form again, at something less. -/
def Inv (W0 : World) (N : FSz) {X : Type} (I : X → Prop) (E : X → Env) (C : X → List HP) (μ : X → Nat) (x : X) : Act → World → Prop :=
  fun a w => ∃ y, I y ∧ μ y < μ x ∧ Fr a N (E y) ∧ Own W0 w (C y)
theorem x_loop {X : Type} (I : X → Prop) (E : X → Env) (C : X → List HP) (μ : X → Nat) (x : X) {c : Code} (hI : I x) (hs : Sub e (E x)) (he : Ent A (C x))
    (hr : ∀ x, I x → Run W0 N (c.wpR rd P (Exit.then (Inv W0 N I E C μ x) Q)) (E x) (C x)) : Run W0 N ((Code.loop c).wpR rd P Q) e A := by
  intro a w hF hO b k cs hro hb hr0
  have key : ∀ n x, μ x = n → I x → ∀ a w, Fr a N (E x) → Own W0 w (C x) →
      ∃ e a' w', Q e a' w' ∧ ArrivesIn (Machine.fenced P (FW rd)) P (lone (b.atR a (.code c :: .inLoop c :: k)) cs w) b k cs e a' w' := by
    intro n
    induction n using Nat.strongRecOn with
    | _ n ih =>
      intro x hn hIx a w hF hO
      obtain ⟨ex, a₁, w₁, hq, harr⟩ := hr x hIx a w hF hO b (.inLoop c :: k) cs hro hb hr0
      cases ex with
      | normal =>
        obtain ⟨y, hIy, hlt, hF₁, hO₁⟩ := hq
        obtain ⟨e₂, a₂, w₂, hq₂, harr₂⟩ := ih (μ y) (hn ▸ hlt) y rfl hIy a₁ w₁ hF₁ hO₁
        exact ⟨e₂, a₂, w₂, hq₂, .of_steps (StepsIn.trans harr (.one (fenced_calm hb hr0 rfl) stepR_inLoop)) harr₂⟩
      | exit id => exact ⟨_, a₁, w₁, hq, .pass (x := .inLoop c) rfl (fun _ _ => .inl (by simp)) harr⟩
      | goto l => exact ⟨_, a₁, w₁, hq, .pass (x := .inLoop c) rfl (fun _ _ => .inl (by simp)) harr⟩
      | ret => exact ⟨_, a₁, w₁, hq, .pass (x := .inLoop c) rfl (fun _ _ => .inl (by simp)) harr⟩
      | panic ch => exact ⟨_, a₁, w₁, hq, .pass (x := .inLoop c) rfl (fun _ _ => .inl (by simp)) harr⟩
      | outgrown => exact ⟨_, a₁, w₁, hq, .pass (x := .inLoop c) rfl (fun _ _ => .inl (by simp)) harr⟩
  obtain ⟨e, a', w', hq, harr⟩ := key _ x rfl hI a w (hF.sub hs) (hO.ent he)
  exact ⟨e, a', w', hq, .of_steps (.one (fenced_calm hb hr0 rfl) stepR_loop) harr⟩
theorem inv_intro {X : Type} {I : X → Prop} {E : X → Env} {C : X → List HP} {μ : X → Nat} {x : X} (y : X) (hI : I y) (hμ : μ y < μ x) (hs : Sub e (E y)) (he : Ent A (C y)) : Run W0 N (Inv W0 N I E C μ x) e A :=
  fun _ _ hF hO => ⟨y, hI, hμ, hF.sub hs, hO.ent he⟩

/-- Ways that meet again. -/
def Mid (W0 : World) (N : FSz) {X : Type} (I : X → Prop) (E : X → Env) (C : X → List HP) : Act → World → Prop := fun a w => ∃ y, I y ∧ Fr a N (E y) ∧ Own W0 w (C y)
theorem x_cut {X : Type} (I : X → Prop) (E : X → Env) (C : X → List HP) {x y : Code} (h1 : Run W0 N (x.wpR rd P (Exit.then (Mid W0 N I E C) Q)) e A)
    (h2 : ∀ z, I z → Run W0 N (y.wpR rd P Q) (E z) (C z)) : Run W0 N ((Code.seq x y).wpR rd P Q) e A := fun a w hF hO => by
  refine wpIn_seq (wpIn_mono (h1 a w hF hO) ?_)
  intro ex a' w' hq
  cases ex with
  | normal =>
    obtain ⟨z, hz, hF', hO'⟩ := hq
    exact h2 z hz a' w' hF' hO'
  | exit id => exact hq
  | goto l => exact hq
  | ret => exact hq
  | panic ch => exact hq
  | outgrown => exact hq
theorem mid_intro {X : Type} {I : X → Prop} {E : X → Env} {C : X → List HP} (y : X) (hI : I y) (hs : Sub e (E y)) (he : Ent A (C y)) : Run W0 N (Mid W0 N I E C) e A :=
  fun _ _ hF hO => ⟨y, hI, hF.sub hs, hO.ent he⟩
end control

end Go.Proofs.YteolepiendmhlaaGreatDoor
