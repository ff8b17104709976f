/-
  A range over a function: the loop's record as a chunk, its rounds, the statement. Nothing of one program stands here.
-/
import Derived.Test.YteolepiendmhlaaGreatDoorMore
namespace Go.Proofs.YteolepiendmhlaaGreatDoor
open Go.RowKit
set_option linter.unusedSimpArgs false
set_option linter.unusedVariables false

/-- What is known of a loop's record. -/
structure RecX where
  e : Env
  n : Nat
  ps : Array Tmp
  asg : Code
  body : Code
  st : LoopState
  pe : Option Code
  D : Nat
def RecX.loop (x : RecX) (fn : FuncId) (tmps : Array Value) : Loop := { state := x.st, pending := x.pe, fn := fn, tmps := tmps, params := x.ps, assign := x.asg, body := x.body, defers := x.D }
def recH (L : Nat) (x : RecX) : HP := chk (fun C => ∃ fn tmps, tmps.size = x.n ∧ (∀ t v, get? x.e t = some v → tmps[t]? = some v) ∧ C = [pt L (.loop (x.loop fn tmps))])

section
variable {rd : Option Nat} {P : Program} {W0 : World} {N : FSz} {Q : Exit → Act → World → Prop} {e : Env} {A B R : List HP} {ops : Array Oper} {rest : List Oper} {L : Nat} {x : RecX}

theorem Own.loopRec {w : World} (h : Own W0 w (recH L x :: R)) : ∃ fn tmps, tmps.size = x.n ∧ (∀ t v, get? x.e t = some v → tmps[t]? = some v) ∧ Own W0 w (pt L (.loop (x.loop fn tmps)) :: R) := by
  obtain ⟨C, ⟨fn, tmps, h1, h2, rfl⟩, hO⟩ := h.chk
  exact ⟨fn, tmps, h1, h2, hO⟩
theorem Own.toRec {w : World} {fn : FuncId} {tmps : Array Value} (h1 : tmps.size = x.n) (h2 : ∀ t v, get? x.e t = some v → tmps[t]? = some v) (h : Own W0 w (pt L (.loop (x.loop fn tmps)) :: R)) : Own W0 w (recH L x :: R) :=
  h.ent (ent_chk (C := [pt L (.loop (x.loop fn tmps))]) ⟨fn, tmps, h1, h2, rfl⟩)
theorem Own.turn {w : World} {b : Nat} {o : Obj} (h : Own W0 w (pt b o :: R)) (o' : Obj) : Own W0 (w.putObj b o') (pt b o' :: R) :=
  h.set rfl rfl rfl (by simp) (World.putObj_heap_same (by
    rcases Nat.lt_or_ge b w.heap.size with q | q
    · exact q
    · have := h.has.2; rw [Array.getElem?_eq_none q] at this; cases this)) (fun k hk => World.putObj_heap_other hk)

/-- What a call of yield does. -/
def Rounds (P : Program) (W0 : World) (L : Nat) (args : List Value) (A : List HP) (Post : Value → List HP → Prop) : Prop :=
  ∀ w, Own W0 w A → ∃ f tmps asg body, (Instr.yield L args.toArray).run P w = .ok (.round L f tmps asg body) w ∧ RoundIn (FW none) 0 P L f tmps asg body w (fun e w' => ∃ v B, e = .returned v ∧ Post v B ∧ Own W0 w' B)

theorem s_yield {fx : Operand} {xs : Array Operand} {ats : Array TypeId} {vs : List Value} {Post : Value → List HP → Prop} {dst : Option Tmp} {ty : TypeId} {pos : String} {af : Array Edge} (hf : ev e fx = some (.func (.yield L) #[] #[])) (hx : evs e xs.toList = some vs)
    (hd : (match dst with | some d => Nat.blt d N.n | none => true) = true)
    (hr : Rounds P W0 L vs A Post) (k : ∀ v B, Post v B → Run W0 N (wpL rd P ops Q rest) (match (generalizing := false) dst with | some d => (d, v) :: e | none => e) B) :
    Run W0 N (wpL rd P ops Q ({ dst := dst, op := .call { callee := .value fx, args := xs, argTypes := ats }, type := ty, pos := pos, after := af, guard := none } :: rest)) e A := by
  intro a w hF hO
  simp only [wpL, Region.wanted, if_true]
  refine .inr ⟨fun _ _ => trivial, ?_⟩
  have he : xs.map a.eval = vs.toArray := by
    have := hF.evals hx
    rw [← this]; apply Array.ext'; simp
  obtain ⟨f, tmps, asg, body, hy, hR⟩ := hr w hO
  have hrun : (execOp a.eval { dst := dst, op := .call { callee := .value fx, args := xs, argTypes := ats }, type := ty, pos := pos, after := af, guard := none }).run P w = .ok (.round L f tmps asg body) w := by
    simp only [execOp, resolve, Deferred.ofValue, Sem.run_bind, Sem.run_pure, Result.andThen_ok, invoke, he, hF.eval hf]
    have : (#[] ++ vs.toArray : Array Value) = vs.toArray := by simp
    simp only [this]; exact hy
  have hsem : Oper.semAt (FW rd).round a.eval { dst := dst, op := .call { callee := .value fx, args := xs, argTypes := ats }, type := ty, pos := pos, after := af, guard := none } = execOp a.eval { dst := dst, op := .call { callee := .value fx, args := xs, argTypes := ats }, type := ty, pos := pos, after := af, guard := none } :=
    Oper.semAt_eq _ _ _ (fun c h => by cases h)
  rw [hsem, hrun]
  refine ⟨fun h => (by cases h), RoundIn.mono hR ?_⟩
  rintro _ w' ⟨v, B, rfl, hp, hO'⟩
  have k := k v B hp
  cases dst with
  | none => exact k a w' hF hO'
  | some d => exact k _ w' (hF.put (Nat.lt_of_succ_le (Nat.le_of_ble_eq_true hd)) v) hO'

def putsE : List Nat → List Value → Env → Env
  | p :: ps, v :: vs, e => putsE ps vs ((p, v) :: e)
  | _, _, e => e
theorem fr_puts {n : Nat} {ds : List Deferred} : ∀ (ps : List Nat) (vs : List Value) (e : Env) (tmps : Array Value), (ps.all fun p => Nat.blt p n) = true → Fr { tmps := tmps, defers := ds } ⟨n, ds⟩ e →
    Fr { tmps := (ps.zip vs).foldl (fun t (p, v) => t.setIfInBounds p v) tmps, defers := ds } ⟨n, ds⟩ (putsE ps vs e)
  | [], _, e, tmps, _, h => by simpa [putsE] using h
  | p :: ps, [], e, tmps, _, h => by simpa [putsE] using h
  | p :: ps, v :: vs, e, tmps, hp, h => by
    simp only [List.all_cons, Bool.and_eq_true] at hp
    have := h.put (Nat.lt_of_succ_le (Nat.le_of_ble_eq_true hp.1)) v
    exact fr_puts ps vs _ _ hp.2 this

/-- The record turns busy, then the body. -/
def BeginK (P : Program) (L : Nat) (body : Code) (Q : Exit → Act → World → Prop) : Act → World → Prop := fun a w => ∃ w₂, (Instr.beginRound L).run P w = .ok () w₂ ∧ body.wpR (some L) P Q a w₂
theorem n_begin {body : Code} [h : Tk recH L A x R] (hs : x.st = .ready) (k : Run W0 N (body.wpR (some L) P Q) e (recH L { x with st := .busy } :: R)) : Run W0 N (Ex (Exit.then (BeginK P L body Q) (fun _ _ _ => False)) .normal) e A := by
  intro a w hF hO
  obtain ⟨fn, tmps, h1, h2, hO1⟩ := (hO.tk (r := recH) (b := L)).loopRec
  refine ⟨_, run_beginRound hO1.has.2 (by exact hs), k a _ hF ?_⟩
  exact Own.toRec (x := { x with st := .busy }) h1 h2 (hO1.turn _)
/-- How a round ends. -/
def RoundQ (P : Program) (W0 : World) (L : Nat) (Post : Value → List HP → Prop) : Exit → Act → World → Prop := roundPost P L (fun e w' => ∃ v B, e = .returned v ∧ Post v B ∧ Own W0 w' B)
theorem r_go {Post : Value → List HP → Prop} [h : Tk recH L A x R] (hp : ∃ B, Post (.bool true) B ∧ Ent (recH L { x with st := .ready, pe := none } :: R) B) : Run W0 N (Ex (RoundQ P W0 L Post) .normal) e A := by
  intro a w hF hO
  obtain ⟨fn, tmps, h1, h2, hO1⟩ := (hO.tk (r := recH) (b := L)).loopRec
  obtain ⟨B, hB, hE⟩ := hp
  exact ⟨_, _, run_endRound none hO1.has.2, _, B, rfl, hB, Own.ent (Own.toRec (x := { x with st := .ready, pe := none }) h1 h2 (hO1.turn _)) hE⟩
theorem r_stop {Post : Value → List HP → Prop} [h : Tk recH L A x R] (hp : ∃ B, Post (.bool false) B ∧ Ent (recH L { x with st := .done, pe := some .ret } :: R) B) : Run W0 N (Ex (RoundQ P W0 L Post) .ret) e A := by
  intro a w hF hO
  obtain ⟨fn, tmps, h1, h2, hO1⟩ := (hO.tk (r := recH) (b := L)).loopRec
  obtain ⟨B, hB, hE⟩ := hp
  exact ⟨_, _, run_endRound (some .ret) hO1.has.2, _, B, rfl, hB, Own.ent (Own.toRec (x := { x with st := .done, pe := some .ret }) h1 h2 (hO1.turn _)) hE⟩

/-- A round, by the walk of its body. -/
theorem rounds_intro {args : List Value} {Post : Value → List HP → Prop} [h : Tk recH L A x R] (hl : args.length = x.ps.size) (hps : (x.ps.toList.all fun p => Nat.blt p x.n) = true)
    (k : Run W0 ⟨x.n, []⟩ (x.asg.wpR (some L) P (Exit.then (BeginK P L x.body (RoundQ P W0 L Post)) (fun _ _ _ => False))) (putsE x.ps.toList args x.e) (recH L x :: R)) : Rounds P W0 L args A Post := by
  intro w hO
  obtain ⟨fn, tmps, h1, h2, hO1⟩ := (hO.tk (r := recH) (b := L)).loopRec
  refine ⟨_, _, _, _, run_yield hO1.has.2 (by simpa [RecX.loop] using hl), ?_⟩
  refine roundIn_of_wpIn (F := FW none) trivial ?_
  have hF := fr_puts (n := x.n) (ds := []) x.ps.toList args x.e tmps hps ⟨rfl, h1, h2⟩
  have e1 : ((x.loop fn tmps).params.zip args.toArray).foldl (fun t (p, v) => t.setIfInBounds p v) (x.loop fn tmps).tmps = (x.ps.toList.zip args).foldl (fun t (p, v) => t.setIfInBounds p v) tmps := by
    simp only [RecX.loop]
    rw [← Array.foldl_toList, Array.toList_zip]
  rw [e1]
  exact k _ w hF (Own.toRec h1 h2 hO1)

/-- **A range over a function**, outermost: the iterator's contract, then what goes on. -/
theorem x_rangeFunc {n gf : Nat} {g : Operand} {ps : Array Tmp} {asg body : Code} {lb : List Value} (Go Stop : List HP → Prop) (hg : ev e g = some (.func (.func gf) #[] lb.toArray))
    (hc : ∀ args w, (callFunc gf args).run P w = .ok (.enter gf args) w)
    (hs : ∀ L D, Spec P W0 gf (.func (.yield L) #[] #[] :: lb) (recH L ⟨e, n, ps, asg, body, .ready, none, D⟩ :: pt D (.deferred (some [])) :: A)
      (fun _ B => (∃ C, B = recH L ⟨e, n, ps, asg, body, .ready, none, D⟩ :: pt D (.deferred (some [])) :: C ∧ Go C) ∨ (∃ C, B = recH L ⟨e, n, ps, asg, body, .done, some .ret, D⟩ :: pt D (.deferred (some [])) :: C ∧ Stop C)))
    (hgo : ∀ D C, Go C → Run W0 ⟨n, [mark D]⟩ (Ex Q .normal) e (pt D (.deferred (some [])) :: C))
    (hstop : ∀ D C, Stop C → Run W0 ⟨n, [mark D]⟩ (Ex Q .ret) e (pt D (.deferred (some [])) :: C)) :
    Run W0 ⟨n, []⟩ ((Code.rangeFunc g ps asg body).wpR none P Q) e A := by
  intro a w hF hO
  refine wpIn_rangeFunc (F := FW none) (n := 0) ?_
  intro fn _
  have hO1 : Own W0 ((w.alloc (.deferred (some []))).alloc (.loop ((⟨e, n, ps, asg, body, .ready, none, w.heap.size⟩ : RecX).loop fn a.tmps))) (recH (w.heap.size + 1) ⟨e, n, ps, asg, body, .ready, none, w.heap.size⟩ :: pt w.heap.size (.deferred (some [])) :: A) := by
    refine Own.toRec (fn := fn) hF.size hF.at_ ?_
    have h1 := (hO.new (.deferred (some []))).new (.loop ((⟨e, n, ps, asg, body, .ready, none, w.heap.size⟩ : RecX).loop fn a.tmps))
    have e1 : (w.heap.push (.deferred (some []))).size = w.heap.size + 1 := by simp
    simp only [e1] at h1
    exact h1
  have hent := run_enterLoop_outer (P := P) (w := w) fn a.tmps ps asg body
  generalize hW1 : (w.alloc (.deferred (some []))).alloc (.loop ((⟨e, n, ps, asg, body, .ready, none, w.heap.size⟩ : RecX).loop fn a.tmps)) = W1 at hO1
  rw [show (w.alloc (.deferred (some []))).alloc (.loop { state := .ready, pending := none, fn, tmps := a.tmps, params := ps, assign := asg, body, defers := w.heap.size }) = W1 from hW1] at hent
  have hF' : ∀ D, Fr { a with defers := [mark D] ++ a.defers } ⟨n, [mark D]⟩ e := fun D => ⟨by simp [hF.defers], hF.size, hF.at_⟩
  refine ⟨w.heap.size + 1, [{ target := .collected w.heap.size, args := #[] }], W1, { target := .fn (.func gf) lb.toArray, args := #[.func (.yield (w.heap.size + 1)) #[] #[]] }, W1, gf,
    #[.func (.yield (w.heap.size + 1)) #[] #[]] ++ lb.toArray, W1, hent, ?_, fun _ _ => trivial, ?_, fun h => (by cases h), ?_⟩
  · have hgv := hF.eval hg
    simp only [resolve, hgv]
    simp [go_sem]
  · simp [invoke, go_sem, hc]
  · refine callsR.2 ?_
    have e2 : (#[.func (.yield (w.heap.size + 1)) #[] #[]] ++ lb.toArray : Array Value) = (.func (.yield (w.heap.size + 1)) #[] #[] :: lb).toArray := by simp
    rw [e2]
    refine Calls.mono (hs (w.heap.size + 1) w.heap.size _ hO1) ?_
    rintro _ w' ⟨v, B, rfl, hp, hO2⟩
    rcases hp with ⟨C, rfl, hC⟩ | ⟨C, rfl, hC⟩
    · obtain ⟨fn', tmps', h1, h2, hO3⟩ := hO2.loopRec
      refine ⟨none, _, run_endLoop hO3.has.2 (by simp [RecX.loop]), ?_⟩
      exact hgo _ C hC _ _ (hF' _) (hO3.turn _).drop
    · obtain ⟨fn', tmps', h1, h2, hO3⟩ := hO2.loopRec
      refine ⟨some .ret, _, run_endLoop hO3.has.2 (by simp [RecX.loop]), ?_⟩
      exact wpIn_ret (hstop _ C hC _ _ (hF' _) (hO3.turn _).drop)
end
end Go.Proofs.YteolepiendmhlaaGreatDoor
