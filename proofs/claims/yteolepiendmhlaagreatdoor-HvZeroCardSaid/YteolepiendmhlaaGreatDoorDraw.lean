/-
  A region whose order is drawn: what only reads is taken first, while the cells that it reads stay as they are. Nothing of one program stands here.
-/
import Derived.Test.YteolepiendmhlaaGreatDoorMem
import Derived.OrdersHeld
namespace Go.Proofs.YteolepiendmhlaaGreatDoor
open Go.RowKit
set_option linter.unusedVariables false

/-- A panic's end does not look at the slots. -/
class POk (Q : Exit → Act → World → Prop) : Prop where
  ok : ∀ c a d v w, Q (.panic c) (a.put d v) w → Q (.panic c) a w
instance pok_then {n : Act → World → Prop} {Q : Exit → Act → World → Prop} [h : POk Q] : POk (Exit.then n Q) := ⟨fun c a d v w k => h.ok c a d v w k⟩
instance pok_block {id : Nat} {Q : Exit → Act → World → Prop} [h : POk Q] : POk (Exit.inBlock id Q) := ⟨fun c a d v w k => h.ok c a d v w k⟩
instance pok_ret {P : Program} {W0 : World} {fn : Func} {Post : Value → List HP → Prop} : POk (RetQ P W0 fn Post) := ⟨fun c a d v w k => k.elim⟩

/-- These cells read so. -/
def SC (cs : List (Nat × Nat × List Value)) : World → Prop := fun w => ∀ c, c ∈ cs → ∀ i v, c.2.2[i]? = some v → w.cell? ⟨c.1, c.2.1 + i, none⟩ = some v

section
variable {rd : Option Nat} {P : Program} {S : World → Prop} {W0 : World} {N : FSz} {Q : Exit → Act → World → Prop} {e : Env} {A B R : List HP} {ops : Array Oper}
variable {op : Op} {ty t : TypeId} {pos : String} {af : Array Edge} {v : Value} {d b off : Nat} {l : List Value} {cs : List (Nat × Nat × List Value)} {g : Option (Nat × Bool)} {n i : Nat} {listed : Array Bool}

theorem sc_nil {w : World} : SC [] w := fun _ h => nomatch h
theorem sc_cons (h : Cells (OwnP W0 A) b off l) (k : ∀ w, Own W0 w A → SC cs w) : ∀ w, Own W0 w A → SC ((b, off, l) :: cs) w := fun w hO c hc => by
  rcases List.mem_cons.1 hc with rfl | hc
  · exact fun i v hi => h i v hi w hO
  · exact k w hO c hc
theorem sc_own [h : Tk pt b A (cob l t) R] (k : ∀ w, Own W0 w A → SC cs w) : ∀ w, Own W0 w A → SC ((b, 0, l) :: cs) w := sc_cons (cells_own (by simp)) k
theorem sc_end : ∀ w, Own W0 w A → SC [] w := fun _ _ => sc_nil
theorem cell_sc {j k o : Nat} (hk : cs[k]? = some (b, o, l)) (hj : l[j]? = some v) : Cell (SC cs) b (o + j) v := fun w hS => hS _ (List.mem_of_getElem? hk) j v hj
theorem cell_sc0 {j k : Nat} (hk : cs[k]? = some (b, 0, l)) (hj : l[j]? = some v) : Cell (SC cs) b j v := by
  have := cell_sc hk hj; rwa [Nat.zero_add] at this
theorem cells_sc {k : Nat} (hk : cs[k]? = some (b, off, l)) : Cells (SC cs) b off l := fun j v hj => cell_sc hk hj
theorem cell_sc1 {k : Nat} (hk : cs[k]? = some (b, off, [v])) : Cell (SC cs) b off v := cell_sc (j := 0) hk rfl

/-- What a guard says. -/
def gw (ops : Array Oper) (e : Env) : Option (Nat × Bool) → Option Bool
  | none => some true
  | some (j, want) => match gtmp ops j with
    | some t => match get? e t with
      | some (.bool b) => some (b == want)
      | some (.tuple _) => some false
      | _ => none
    | none => none
theorem gw_wanted {dst : Option Tmp} {a : Act} {r : Bool} (hF : Fr a N e) (h : gw ops e g = some r) : Region.wanted { dst := dst, op := op, type := ty, pos := pos, after := af, guard := g } (yielded ops a.tmps) = r := by
  match g, h with
  | none, h => simp [gw] at h; subst h; rfl
  | some (j, want), h =>
    unfold gw at h
    cases ht : gtmp ops j with
    | none => simp only [ht] at h; cases h
    | some t =>
      simp only [ht] at h
      cases hv : get? e t with
      | none => simp only [hv] at h; cases h
      | some u =>
        simp only [hv] at h
        have hy : yielded ops a.tmps j = match u with | .bool b => some b | _ => none := by
          have hv' := hF.at_ t _ hv
          unfold gtmp at ht
          simp only [yielded]
          cases hj : ops[j]? with
          | none => rw [hj] at ht; cases ht
          | some o =>
            rw [hj] at ht
            simp only [Option.bind_some] at ht
            simp only [Option.bind_some, ht, hv']
            cases u <;> rfl
        cases u <;> simp only [Option.some.injEq, reduceCtorEq] at h
        · rename_i c
          simp only [Region.wanted, hy]; subst h; cases c <;> cases want <;> rfl
        · simp only [Region.wanted, hy]; subst h; rfl

theorem x_split {K : Act → World → Prop} {p : Prop} {c : Bool} {t : Nat} (hv : get? e t = some (.bool c)) [h : BP c p] (ht : p → Run W0 N K ((t, .bool true) :: e) A) (hf : ¬ p → Run W0 N K ((t, .bool false) :: e) A) : Run W0 N K e A := by
  intro a w hF hO
  by_cases k : p
  · exact ht k a w (hF.sub (sub_cons (by rw [hv, h.iff.2 k]) sub_refl)) hO
  · have : c = false := by
      cases hc : c with
      | false => rfl
      | true => exact absurd (h.iff.1 hc) k
    exact hf k a w (hF.sub (sub_cons (by rw [hv, this]) sub_refl)) hO

/-- What is left of a region that draws. -/
def DR (P : Program) (ops : Array Oper) (Q : Exit → Act → World → Prop) (cs : List (Nat × Nat × List Value)) (n : Nat) (listed : Array Bool) : Act → World → Prop := wpAnyH P .any ops Q (SC cs) n listed

theorem x_draw {id : Nat} (cs : List (Nat × Nat × List Value)) (n : Nat) (hm : P.follows .mixedOrders = true) (hn : Nat.beq ops.size n = true) (hS : ∀ w, Own W0 w A → SC cs w) (k : (∀ w, Own W0 w A → SC cs w) → Run W0 N (DR P ops Q cs n (Array.replicate n false)) e A) : Run W0 N ((Code.region id ops true).wpR none P Q) e A := by
  intro a w hF hO
  have : ops.size = n := Nat.eq_of_beq_eq_true hn
  subst this
  exact wpR_wide.2 <| wp_region_held hm (k hS a _ hF (hO.drew _))

theorem d_take (i : Nat) (ho : ops[i]? = some ⟨some d, op, ty, pos, af, g⟩) (hg : gw ops e g = some true) (hs : Region.noSelect ops = true) (hf : Region.free .any ops listed i = true) (hr : (Region.ready .any ops listed).contains i = true)
    (hd : Nat.blt d N.n = true) [hq : POk Q] (hS : ∀ w, Own W0 w A → SC cs w) (hv : Val P (SC cs) N e op v) (k : Run W0 N (DR P ops Q cs n (listed.setIfInBounds i true)) ((d, v) :: e) A) : Run W0 N (DR P ops Q cs (n + 1) listed) e A := by
  intro a w hF hO
  refine wpAnyH_take (v := v) ho hs hf hr (fun c a w => hq.ok c a _ v w) (.inl ⟨gw_wanted hF hg, fun w hw => hv a w _ _ _ _ _ hF hw⟩) (hS w hO) ?_
  exact k _ _ (hF.put (Nat.lt_of_succ_le (Nat.le_of_ble_eq_true hd)) v) hO
theorem d_skip (i : Nat) (ho : ops[i]? = some ⟨some d, op, ty, pos, af, g⟩) (hg : gw ops e g = some false) (hs : Region.noSelect ops = true) (hf : Region.free .any ops listed i = true) (hr : (Region.ready .any ops listed).contains i = true)
    (hd : Nat.blt d N.n = true) [hq : POk Q] (hS : ∀ w, Own W0 w A → SC cs w) (k : Run W0 N (DR P ops Q cs n (listed.setIfInBounds i true)) ((d, undef) :: e) A) : Run W0 N (DR P ops Q cs (n + 1) listed) e A := by
  intro a w hF hO
  refine wpAnyH_take (v := undef) ho hs hf hr (fun c a w => hq.ok c a _ undef w) (.inr ⟨gw_wanted hF hg, rfl⟩) (hS w hO) ?_
  exact k _ _ (hF.put (Nat.lt_of_succ_le (Nat.le_of_ble_eq_true hd)) undef) hO
theorem d_one {dst : Option Tmp} {Post : Value → List HP → Prop} (i : Nat) (hr : Region.ready .any ops listed = [i]) (ho : ops[i]? = some ⟨dst, op, ty, pos, af, g⟩) (hg : gw ops e g = some true) (h : Does P W0 N e A op Post)
    (hd : (match dst with | some d => Nat.blt d N.n | none => true) = true)
    (k : ∀ v B, Post v B → (∀ w, Own W0 w B → SC cs w) ∧ ((∀ w, Own W0 w B → SC cs w) → Run W0 N (DR P ops Q cs n (listed.setIfInBounds i true)) (match (generalizing := false) dst with | some d => (d, v) :: e | none => e) B)) : Run W0 N (DR P ops Q cs (n + 1) listed) e A := by
  intro a w hF hO
  refine wpAnyH_all hr (by simp) fun j hj => ?_
  obtain rfl : j = i := by simpa using hj
  unfold wpOp
  simp only [ho, gw_wanted hF hg, if_true]
  refine .inl (h a w _ _ _ _ _ _ _ hF hO fun v w' B hp hO' => ?_)
  obtain ⟨k1, k2⟩ := k v B hp
  refine ⟨k1 w' hO', ?_⟩
  have k2 := k2 k1
  cases dst with
  | none => exact k2 a w' hF hO'
  | some d => exact k2 _ w' (hF.put (Nat.lt_of_succ_le (Nat.le_of_ble_eq_true hd)) v) hO'
/-- One act, then the rest. -/
def DX (P : Program) (ops : Array Oper) (Q : Exit → Act → World → Prop) (cs : List (Nat × Nat × List Value)) (n : Nat) (listed : Array Bool) (i : Nat) : Act → World → Prop :=
  wpOp P ops Q i (fun a' w' => SC cs w' ∧ DR P ops Q cs n (listed.setIfInBounds i true) a' w')
def AllRun (W0 : World) (N : FSz) (K : Nat → Act → World → Prop) (e : Env) (A : List HP) : List Nat → Prop
  | [] => True
  | i :: is => Run W0 N (K i) e A ∧ AllRun W0 N K e A is
theorem AllRun.at_ {K : Nat → Act → World → Prop} : ∀ {is : List Nat}, AllRun W0 N K e A is → ∀ i ∈ is, Run W0 N (K i) e A
  | _ :: _, h, i, hi => by
    rcases List.mem_cons.1 hi with rfl | hi
    · exact h.1
    · exact AllRun.at_ h.2 i hi
/-- Several acts are ready: each may come first. -/
theorem d_all {is : List Nat} (hr : Region.ready .any ops listed = is) (hne : is.isEmpty = false) (h : AllRun W0 N (DX P ops Q cs n listed) e A is) : Run W0 N (DR P ops Q cs (n + 1) listed) e A := by
  intro a w hF hO
  exact wpAnyH_all hr (by intro h0; subst h0; cases hne) fun i hi => h.at_ i hi a w hF hO
theorem dx_one {dst : Option Tmp} {Post : Value → List HP → Prop} {i : Nat} (ho : ops[i]? = some ⟨dst, op, ty, pos, af, g⟩) (hg : gw ops e g = some true) (h : Does P W0 N e A op Post)
    (hd : (match dst with | some d => Nat.blt d N.n | none => true) = true)
    (k : ∀ v B, Post v B → (∀ w, Own W0 w B → SC cs w) ∧ ((∀ w, Own W0 w B → SC cs w) → Run W0 N (DR P ops Q cs n (listed.setIfInBounds i true)) (match (generalizing := false) dst with | some d => (d, v) :: e | none => e) B)) : Run W0 N (DX P ops Q cs n listed i) e A := by
  intro a w hF hO
  unfold DX wpOp
  simp only [ho, gw_wanted hF hg, if_true]
  refine .inl (h a w _ _ _ _ _ _ _ hF hO fun v w' B hp hO' => ?_)
  obtain ⟨k1, k2⟩ := k v B hp
  refine ⟨k1 w' hO', ?_⟩
  have k2 := k2 k1
  cases dst with
  | none => exact k2 a w' hF hO'
  | some d => exact k2 _ w' (hF.put (Nat.lt_of_succ_le (Nat.le_of_ble_eq_true hd)) v) hO'
theorem d_done (hr : Region.ready .any ops listed = []) (k : Run W0 N (Ex Q .normal) e A) : Run W0 N (DR P ops Q cs n listed) e A := fun a w hF hO => wpAnyH_done hr (k a w hF hO) n
end
end Go.Proofs.YteolepiendmhlaaGreatDoor
