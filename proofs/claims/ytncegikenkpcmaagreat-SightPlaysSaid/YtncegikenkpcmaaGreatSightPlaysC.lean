/-
  Part 3 of the proof of SightPlays: rules, and walks of functions. Conditions: none.
-/
import Derived.Test.YtncegikenkpcmaaGreatSightPlaysB
namespace Go.Proofs.YtncegikenkpcmaaGreat
open Go.ChangeShapes Go.WideShapes Go.ChangeAt Go.RowKit
set_option linter.unusedSimpArgs false
set_option linter.unusedVariables false
def InT (P : Program) (w : World) : Nat → TypeId → List Value → Prop
  | 0, _, _ => False
  | fuel + 1, t, cs =>
    match P.underlying t with
    | some .bool => ∃ b, cs = [.bool b]
    | some (.int k) => ∃ n, cs = [.int k n] ∧ (Lit.int k n).wf = true
    | some .string => ∃ s, cs = [.string s] ∧ s.size ≤ maxLen
    | some (.slice e) => cs = [.slice none 0 0] ∨ ∃ a len cap, cs = [.slice (some a) len cap] ∧ len ≤ cap ∧ cap ≤ maxLen ∧
        ∀ i, i < len → ∃ cs', w.cells? 0 (a.add (i * P.cellsOf e)) (P.cellsOf e) = some cs' ∧ InT P w fuel e cs'
    | some (.struct fs) => cs.length = P.cellsOf t ∧ ∀ f : Field, f ∈ fs.toList → InT P w fuel f.type ((cs.drop f.offset).take (P.cellsOf f.type))
    | some (.array n e) => cs.length = P.cellsOf t ∧ ∀ i, i < n → InT P w fuel e ((cs.drop (i * P.cellsOf e)).take (P.cellsOf e))
    | _ => True
section
variable {H : Type} {enc : TypeId × Value → H} {P : Program} {w W : World}
theorem inT_of_trod {sp : Nat → Bool} : ∀ (fuel : Nat) (t : TypeId) (cs : List Value) (x : DataW H × List MemPlace), DataW.trod enc P w 0 sp true fuel t cs = some x → InT P w fuel t cs
  | 0, t, cs, x, h => by simp [DataW.trod] at h
  | fuel + 1, t, cs, x, h => by
    unfold InT
    cases hu : P.underlying t with
    | none => trivial
    | some d =>
      cases d with
      | bool =>
        simp only []
        unfold DataW.trod at h; simp only [hu] at h
        split at h <;> simp_all
      | int k =>
        simp only []
        obtain ⟨n, hc, _, hw⟩ := DataW.trod_int hu h
        exact ⟨n, hc, hw⟩
      | string =>
        simp only []
        unfold DataW.trod at h; simp only [hu] at h
        split at h <;> simp_all
      | slice e =>
        simp only []
        rcases DataW.trod_slice hu h with ⟨hc, _⟩ | ⟨a, len, cap, elems, rest, n, hf, hc, _, _, hl, hm, hle, hel, _⟩
        · exact .inl hc
        · refine .inr ⟨a, len, cap, hc, hl, hm, fun i hi => ?_⟩
          obtain rfl : fuel = n := by omega
          have h1 := hel i hi
          have h2 : elems[i]? = some elems[i] := by simp
          rw [h2] at h1
          cases hcs : w.cells? 0 (a.add (i * P.cellsOf e)) (P.cellsOf e) with
          | none => rw [hcs] at h1; cases h1
          | some cs' =>
            rw [hcs] at h1
            exact ⟨cs', rfl, inT_of_trod fuel e cs' _ h1⟩
      | struct fs =>
        simp only []
        obtain ⟨xs, n, hf, _, hlen, hxs, hel⟩ := DataW.trod_struct hu h
        obtain rfl : fuel = n := by omega
        refine ⟨hlen, fun f hm => ?_⟩
        obtain ⟨i, hi, hfi⟩ := List.getElem_of_mem hm
        have h1 := hel i f (by simp at hi; simp [← hfi, hi])
        have h2 : xs[i]? = some (xs[i]'(by simp at hi; omega)) := by simp at hi; simp [hxs, hi]
        rw [h2] at h1
        exact inT_of_trod fuel _ _ _ h1
      | array n e =>
        simp only []
        obtain ⟨xs, m, hf, _, hlen, hxs, hel⟩ := DataW.trod_array hu h
        obtain rfl : fuel = m := by omega
        refine ⟨hlen, fun i hi => ?_⟩
        have h1 := hel i hi
        have h2 : xs[i]? = some (xs[i]'(by omega)) := by simp [hxs, hi]
        rw [h2] at h1
        exact inT_of_trod fuel _ _ _ h1
      | _ => trivial
def Ty (P : Program) (W : World) (t : TypeId) (v : Value) : Prop := (∃ (r : Reach) (b : Nat), Value.okWide P W r b t v) ∧ ∃ fuel, InT P W fuel t v.cells.toList
theorem ty_mk {t : TypeId} {v : Value} {d : DataW H} {p : List MemPlace} {sp : Nat → Bool} {r : Reach} {b : Nat} (h : Value.okWide P W r b t v) (k : DataW.Trod enc P W 0 sp true t v d p) : Ty P W t v := by
  obtain ⟨fuel, hf⟩ := k
  exact ⟨⟨r, b, h⟩, fuel, inT_of_trod fuel t _ _ hf⟩
variable {t : TypeId} {v : Value}
theorem inT_int {k : IntKind} {fuel : Nat} {cs : List Value} (hu : P.underlying t = some (.int k)) (h : InT P W fuel t cs) : ∃ n, cs = [.int k n] ∧ (Lit.int k n).wf = true := by
  cases fuel with
  | zero => exact h.elim
  | succ f => unfold InT at h; simpa only [hu] using h
theorem inT_str {fuel : Nat} {cs : List Value} (hu : P.underlying t = some .string) (h : InT P W fuel t cs) : ∃ s, cs = [.string s] ∧ s.size ≤ maxLen := by
  cases fuel with
  | zero => exact h.elim
  | succ f => unfold InT at h; simpa only [hu] using h
theorem inT_struct {fs : Array Field} {fuel : Nat} {cs : List Value} (hu : P.underlying t = some (.struct fs)) (h : InT P W fuel t cs) : cs.length = P.cellsOf t ∧ ∃ f', ∀ f : Field, f ∈ fs.toList → InT P W f' f.type ((cs.drop f.offset).take (P.cellsOf f.type)) := by
  cases fuel with
  | zero => exact h.elim
  | succ f => unfold InT at h; simp only [hu] at h; exact ⟨h.1, f, h.2⟩
theorem inT_slice {e : TypeId} {fuel : Nat} {cs : List Value} (hu : P.underlying t = some (.slice e)) (h : InT P W fuel t cs) : cs = [.slice none 0 0] ∨ ∃ a len cap, cs = [.slice (some a) len cap] ∧ len ≤ cap ∧ cap ≤ maxLen ∧
        ∃ f', ∀ i, i < len → ∃ cs', W.cells? 0 (a.add (i * P.cellsOf e)) (P.cellsOf e) = some cs' ∧ InT P W f' e cs' := by
  cases fuel with
  | zero => exact h.elim
  | succ f =>
    unfold InT at h; simp only [hu] at h
    rcases h with h | ⟨a, l, c, h1, h2, h3, h4⟩
    · exact .inl h
    · exact .inr ⟨a, l, c, h1, h2, h3, f, h4⟩
theorem ty_int {k : IntKind} (hu : P.underlying t = some (.int k)) (h : Ty P W t v) : ∃ n, v = .int k n ∧ (Lit.int k n).wf = true := by
  obtain ⟨⟨r, b, h1⟩, fuel, h2⟩ := h
  obtain ⟨n, rfl⟩ := okWide_int hu h1
  obtain ⟨m, hm, hw⟩ := inT_int hu h2
  simp only [Value.cells, List.cons.injEq, Value.int.injEq, true_and, and_true] at hm
  subst hm; exact ⟨n, rfl, hw⟩
theorem ty_struct {fs : Array Field} (hu : P.underlying t = some (.struct fs)) (h : Ty P W t v) : ∃ l : List Value, v = .agg l.toArray ∧ ∃ fuel, InT P W fuel t l := by
  obtain ⟨⟨r, b, h1⟩, fuel, h2⟩ := h
  obtain ⟨cs, rfl, _⟩ := okWide_struct hu h1
  exact ⟨cs.toList, by simp, fuel, h2⟩
theorem choose_list {α : Type} {Q : Nat → α → Prop} : ∀ (n : Nat), (∀ i, i < n → ∃ x, Q i x) → ∃ l : List α, l.length = n ∧ ∀ i x, l[i]? = some x → Q i x
  | 0, _ => ⟨[], rfl, fun i x h => by simp at h⟩
  | n + 1, h => by
    obtain ⟨l, hl, hq⟩ := choose_list n (fun i hi => h i (by omega))
    obtain ⟨x, hx⟩ := h n (by omega)
    refine ⟨l ++ [x], by simp [hl], fun i y hy => ?_⟩
    by_cases hi : i < n
    · rw [List.getElem?_append_left (by omega)] at hy; exact hq i y hy
    · by_cases he : i = n
      · subst he; subst hl; simp at hy; subst hy; exact hx
      · rw [List.getElem?_eq_none (by simp; omega)] at hy; cases hy
theorem mapM_spec {α β : Type} {f : α → Option β} : ∀ {l : List α} {r : List β}, l.mapM f = some r → r.length = l.length ∧ ∀ (i : Nat) (x : α), l[i]? = some x → f x = r[i]?
  | [], r, h => by
    simp only [List.mapM_nil] at h
    obtain rfl : [] = r := Option.some.inj h
    exact ⟨rfl, fun i x hx => by simp at hx⟩
  | a :: l, r, h => by
    rw [List.mapM_cons] at h
    cases ha : f a with
    | none => simp [ha] at h
    | some y =>
      cases hl : l.mapM f with
      | none => simp [ha, hl] at h
      | some ys =>
        simp only [ha, hl, Option.bind_eq_bind, Option.bind_some, Option.pure_def, Option.some.injEq] at h
        subst h
        obtain ⟨h1, h2⟩ := mapM_spec hl
        refine ⟨by simp [h1], fun i x hx => ?_⟩
        cases i with
        | zero => simp only [List.getElem?_cons_zero, Option.some.injEq] at hx ⊢; subst hx; exact ha
        | succ i => simpa using h2 i x (by simpa using hx)
theorem cells?_spec {a : Addr} {n : Nat} {cs : List Value} (hn : 0 < n) (h : W.cells? 0 a n = some cs) : a.spot = none ∧ cs.length = n ∧ ∀ i v, cs[i]? = some v → W.cell? ⟨a.block, a.off + i, none⟩ = some v := by
  simp only [World.cells?, Nat.zero_le, if_true] at h
  obtain ⟨h1, h2⟩ := mapM_spec h
  simp only [List.length_range] at h1
  have hs : a.spot = none := by
    have h0 := h2 0 0 (by simp [hn])
    have : cs[0]? = some (cs[0]'(by omega)) := by simp [h1, hn]
    rw [this] at h0
    simp only [Addr.add, if_true] at h0
    unfold World.cell? at h0
    split at h0
    · split at h0
      · cases h0
      · rename_i hk; simpa using hk
    · cases h0
  refine ⟨hs, h1, fun i v hv => ?_⟩
  have hi : i < n := by
    rcases Nat.lt_or_ge i n with k | k
    · exact k
    · rw [List.getElem?_eq_none (by omega)] at hv; cases hv
  have h3 := h2 i i (by simp [hi])
  rw [hv] at h3
  obtain ⟨b, o, s⟩ := a
  simp only at hs
  subst hs
  rwa [add_none] at h3
def SlB {α : Type} (W : World) (a : Option Addr) (sz : Nat) (f : α → List Value) (xs : List α) : Prop :=
  ∀ i x, xs[i]? = some x → ∃ b off, a = some ⟨b, off, none⟩ ∧ ∀ A, Cells (OwnP W A) b (off + i * sz) (f x)
theorem rows_map {α : Type} {f : α → List Value} {Q : α → Prop} : ∀ {rows : List (List Value)}, (∀ r ∈ rows, ∃ x, r = f x ∧ Q x) → ∃ xs : List α, rows = xs.map f ∧ ∀ x ∈ xs, Q x
  | [], _ => ⟨[], rfl, fun _ h => by simp at h⟩
  | r :: rows, h => by
    obtain ⟨x, rfl, hq⟩ := h r (by simp)
    obtain ⟨xs, rfl, hqs⟩ := rows_map (rows := rows) fun r hr => h r (by simp [hr])
    exact ⟨x :: xs, rfl, fun y hy => by
      rcases List.mem_cons.1 hy with rfl | hy
      · exact hq
      · exact hqs y hy⟩
theorem list_cons {α : Type} {l : List α} {n : Nat} (h : n + 1 = l.length) : ∃ a l', l = a :: l' ∧ n = l'.length := by
  cases l with
  | nil => cases h
  | cons a l => exact ⟨a, l, rfl, by simpa using h⟩
theorem list_nil {α : Type} {l : List α} (h : 0 = l.length) : l = [] := List.length_eq_zero_iff.1 h.symm
theorem below_trodAll (hl : laidOutB P = true) {W' : World} (hb : Below W.heap.size W W') : ∀ (ts : List TypeId) (vs : List Value) (ds : List (DataW H)) (p : List MemPlace), (ts.all fun t => P.readableRec t && decide (t < P.types.size)) = true →
    DataW.TrodAll enc P W 0 (fun _ => true) true ts vs ds p → DataW.TrodAll enc P W' 0 (fun b => decide (b < W.heap.size)) true ts vs ds p
  | [], [], [], p, _, h => h
  | [], _ :: _, _, p, _, h => by cases h
  | [], [], _ :: _, p, _, h => by cases h
  | _ :: _, [], _, p, _, h => by cases h
  | _ :: _, _ :: _, [], p, _, h => by cases h
  | t :: ts, v :: vs, d :: ds, p, hr, h => by
    obtain ⟨q, q', h1, h2, rfl⟩ := h
    simp only [List.all_cons, Bool.and_eq_true, decide_eq_true_eq] at hr
    have lt : ∀ x ∈ q, x.block < W.heap.size := by obtain ⟨m, hm⟩ := h1; exact DataW.trod_lt m _ _ _ hm
    exact ⟨q, q', Below.trod hl hr.1.1 hr.1.2 h1 hb lt, below_trodAll hl hb ts vs ds q' hr.2 h2, rfl⟩
theorem ty_all {sp : Nat → Bool} {r : Reach} {b : Nat} : ∀ (ts : List TypeId) (vs : List Value) (ds : List (DataW H)) (p : List MemPlace), (∀ (j : Nat) t v, ts[j]? = some t → vs[j]? = some v → Value.okWide P W r b t v) →
    DataW.TrodAll enc P W 0 sp true ts vs ds p → ts.length = vs.length ∧ ts.length = ds.length ∧ ∀ (j : Nat) t v, ts[j]? = some t → vs[j]? = some v → Ty P W t v
  | [], [], [], p, _, h => ⟨rfl, rfl, fun j t v h => by simp at h⟩
  | [], _ :: _, _, p, _, h => by cases h
  | [], [], _ :: _, p, _, h => by cases h
  | _ :: _, [], _, p, _, h => by cases h
  | _ :: _, _ :: _, [], p, _, h => by cases h
  | t :: ts, v :: vs, d :: ds, p, hok, h => by
    obtain ⟨q, q', h1, h2, rfl⟩ := h
    obtain ⟨k1, k2, k3⟩ := ty_all ts vs ds q' (fun j t v ht hv => hok (j + 1) t v (by simpa using ht) (by simpa using hv)) h2
    refine ⟨by simp [k1], by simp [k2], fun j t' v' ht hv => ?_⟩
    cases j with
    | zero =>
      simp only [List.getElem?_cons_zero, Option.some.injEq] at ht hv
      subst ht; subst hv
      exact ty_mk (hok 0 t v rfl rfl) h1
    | succ j => exact k3 j t' v' (by simpa using ht) (by simpa using hv)
end
end Go.Proofs.YtncegikenkpcmaaGreat
namespace Go.Proofs.YtncegikenkpcmaaGreat
open Go.ChangeShapes Go.WideShapes Go.ChangeAt Go.RowKit
set_option linter.unusedSimpArgs false
set_option linter.unusedVariables false
variable {P : Program} {w W : World} {t : TypeId} {v : Value}
theorem inT_sliceF {α : Type} {f : α → List Value} {Q : α → Prop} {e : TypeId} {fuel : Nat} {cs : List Value} (sz : Nat) (hu : P.underlying t = some (.slice e)) (hsz : P.cellsOf e = sz) (hc : 0 < sz) (hdec : ∀ fuel r, InT P W fuel e r → ∃ x, r = f x ∧ Q x) (h : InT P W fuel t cs) :
    ∃ a c xs, cs = [.slice a (List.length (α := α) xs) c] ∧ xs.length ≤ c ∧ c ≤ maxLen ∧ SlB W a sz f xs ∧ ∀ x ∈ xs, Q x := by
  subst hsz
  rcases inT_slice hu h with rfl | ⟨a', n', c', rfl, hl, hm, f', hr⟩
  · exact ⟨none, 0, [], rfl, by simp, by omega, fun i x hx => by simp at hx, fun x hx => by simp at hx⟩
  · obtain ⟨rows, hlen, hq⟩ := choose_list n' hr
    obtain ⟨xs, rfl, hQ⟩ := rows_map (rows := rows) (f := f) (Q := Q) fun r hr => by
      obtain ⟨i, hi, rfl⟩ := List.getElem_of_mem hr
      exact hdec _ _ (hq i rows[i] (by simp)).2
    rw [List.length_map] at hlen
    subst hlen
    refine ⟨some a', c', xs, rfl, hl, hm, fun i x hx => ?_, hQ⟩
    obtain ⟨h4, _⟩ := hq i (f x) (by simp [hx])
    obtain ⟨hs, hlr, hcell⟩ := cells?_spec hc h4
    have hpos : 0 < xs.length := by
      rcases Nat.eq_zero_or_pos xs.length with q | q
      · have := List.eq_nil_of_length_eq_zero q; subst this; simp at hx
      · exact q
    obtain ⟨h5, _⟩ := hq 0 (f xs[0]) (by simp [hpos])
    obtain ⟨hs0, _⟩ := cells?_spec hc h5
    obtain ⟨b, o, s⟩ := a'
    simp only [Nat.zero_mul, Addr.add, if_true] at hs0
    subst hs0
    refine ⟨b, o, rfl, fun A j v hv => ?_⟩
    have := hcell j v hv
    rw [add_none] at this
    exact cell_base this
theorem sla_base {α : Type} {W : World} {A : List HP} {a : Option Addr} {sz : Nat} {f : α → List Value} {xs : List α} (h : SlB W a sz f xs) : SlA (OwnP W A) a sz f xs := fun i x hi => by
  obtain ⟨b, off, rfl, hc⟩ := h i x hi
  exact ⟨b, off, rfl, hc A⟩
end Go.Proofs.YtncegikenkpcmaaGreat
namespace Go.Proofs.YtncegikenkpcmaaGreat
open Go.RowKit
set_option linter.unusedSimpArgs false
set_option linter.unusedVariables false
set_option maxRecDepth 20000
end Go.Proofs.YtncegikenkpcmaaGreat
namespace Go.Proofs.YtncegikenkpcmaaGreat
open Go.RowKit
set_option linter.unusedSimpArgs false
set_option linter.unusedVariables false
set_option maxRecDepth 20000
end Go.Proofs.YtncegikenkpcmaaGreat
namespace Go.Proofs.YtncegikenkpcmaaGreat
open Go.RowKit
set_option linter.unusedSimpArgs false
set_option linter.unusedVariables false
set_option maxRecDepth 20000
end Go.Proofs.YtncegikenkpcmaaGreat
namespace Go.Proofs.YtncegikenkpcmaaGreat
open Go.RowKit
set_option linter.unusedSimpArgs false
set_option linter.unusedVariables false
set_option maxRecDepth 20000
structure QS where
  r : Rg3
  on : Bool
  br : Int
  last : Nat
  put : Nat
end Go.Proofs.YtncegikenkpcmaaGreat
namespace Go.Proofs.YtncegikenkpcmaaGreat
open Go.RowKit
set_option linter.unusedSimpArgs false
set_option linter.unusedVariables false
set_option maxRecDepth 20000
end Go.Proofs.YtncegikenkpcmaaGreat
namespace Go.Proofs.YtncegikenkpcmaaGreat
open Go.RowKit
set_option linter.unusedSimpArgs false
set_option linter.unusedVariables false
set_option maxRecDepth 20000
end Go.Proofs.YtncegikenkpcmaaGreat
namespace Go.Proofs.YtncegikenkpcmaaGreat
open Go.RowKit
set_option linter.unusedSimpArgs false
set_option linter.unusedVariables false
set_option maxRecDepth 20000
end Go.Proofs.YtncegikenkpcmaaGreat
namespace Go.Proofs.YtncegikenkpcmaaGreat
open Go.RowKit
set_option linter.unusedSimpArgs false
set_option linter.unusedVariables false
set_option maxRecDepth 20000
structure Prt where
  lab : Int
  gu : Int
  l : List ByteArray
instance : Inhabited Prt := ⟨⟨0, 0, []⟩⟩
section
variable {P : Program} {W0 : World} {N : FSz} {K : Act → World → Prop} {e : Env} {A B R R1 R2 R3 R4 : List HP} {p g n : Nat} {ps : List Prt} {f : FuncId} {args : List Value} {Post : Value → List HP → Prop}
end
end Go.Proofs.YtncegikenkpcmaaGreat
namespace Go.Proofs.YtncegikenkpcmaaGreat
open Go.RowKit
set_option linter.unusedSimpArgs false
set_option linter.unusedVariables false
set_option maxRecDepth 20000
def mostP (x : Prt) : Nat := if x.gu = -1 then 64 else 4
end Go.Proofs.YtncegikenkpcmaaGreat
namespace Go.Proofs.YtncegikenkpcmaaGreat
open Go.RowKit
set_option linter.unusedSimpArgs false
set_option linter.unusedVariables false
set_option maxRecDepth 20000
def PrOk (ps : List Prt) : Prop := ps.length ≤ 8 ∧ ∀ x ∈ ps, x.l.length ≤ mostP x
theorem PrOk.at_ {ps : List Prt} (h : PrOk ps) {i : Nat} (hi : i < ps.length) : (ps.getD i default).l.length ≤ mostP (ps.getD i default) := by
  rw [show ps.getD i default = ps[i] by simp [List.getD, hi]]; exact h.2 _ (List.getElem_mem hi)
theorem PrOk.set {ps : List Prt} (h : PrOk ps) {i : Nat} {x : Prt} (hx : x.l.length ≤ mostP x) : PrOk (ps.set i x) := ⟨by simpa using h.1, fun y hy => by
  rcases List.mem_or_eq_of_mem_set hy with q | q
  · exact h.2 y q
  · rw [q]; exact hx⟩
end Go.Proofs.YtncegikenkpcmaaGreat
namespace Go.Proofs.YtncegikenkpcmaaGreat
open Go.RowKit
set_option linter.unusedSimpArgs false
set_option linter.unusedVariables false
set_option maxRecDepth 20000
end Go.Proofs.YtncegikenkpcmaaGreat
namespace Go.Proofs.YtncegikenkpcmaaGreat
open Go.RowKit
set_option linter.unusedSimpArgs false
set_option linter.unusedVariables false
set_option maxRecDepth 20000
end Go.Proofs.YtncegikenkpcmaaGreat
namespace Go.Proofs.YtncegikenkpcmaaGreat
open Go.RowKit
set_option linter.unusedSimpArgs false
set_option linter.unusedVariables false
set_option maxRecDepth 20000
theorem byV_ne {X : List Nat} (h : 0 < X.length) : byV X ≠ [] := fun h0 => by
  have := congrArg List.length h0
  rw [byV_len, List.length_nil] at this; omega
end Go.Proofs.YtncegikenkpcmaaGreat
namespace Go.Proofs.YtncegikenkpcmaaGreat
open Go.RowKit
set_option linter.unusedSimpArgs false
set_option linter.unusedVariables false
set_option maxRecDepth 20000
end Go.Proofs.YtncegikenkpcmaaGreat
namespace Go.Proofs.YtncegikenkpcmaaGreat
open Go.RowKit
set_option linter.unusedSimpArgs false
set_option linter.unusedVariables false
set_option maxRecDepth 20000
end Go.Proofs.YtncegikenkpcmaaGreat
namespace Go.Proofs.YtncegikenkpcmaaGreat
open Go.RowKit
set_option linter.unusedSimpArgs false
set_option linter.unusedVariables false
set_option maxRecDepth 20000
end Go.Proofs.YtncegikenkpcmaaGreat
namespace Go.Proofs.YtncegikenkpcmaaGreat
open Go.RowKit
set_option linter.unusedSimpArgs false
set_option linter.unusedVariables false
set_option maxRecDepth 20000
end Go.Proofs.YtncegikenkpcmaaGreat
namespace Go.Proofs.YtncegikenkpcmaaGreat
open Go.RowKit
set_option linter.unusedSimpArgs false
set_option linter.unusedVariables false
set_option maxRecDepth 20000
section
variable {P : Program} {S : World → Prop} {W0 : World} {N : FSz} {e : Env} {A R : List HP} {t t' : TypeId} {x : Operand} {v : Value} {b : Nat} {vs : List Value}
end
theorem sla_byV {S : World → Prop} {b off : Nat} {bs : List Nat} (h : Cells S b off (byV bs)) : SlA S (some ⟨b, off, none⟩) 1 (fun x => [bV x]) bs := fun i x hi => ⟨b, off, rfl, fun j v hj => by
  have hj0 : j = 0 := by
    rcases Nat.eq_zero_or_pos j with q | q
    · exact q
    · rw [List.getElem?_eq_none (by simp; omega)] at hj; cases hj
  subst hj0
  have hx : (byV bs)[i]? = some v := by
    rw [byV, List.getElem?_map, hi]
    simpa [byV] using hj
  rw [Nat.mul_one, Nat.add_zero]
  exact h i v hx⟩
end Go.Proofs.YtncegikenkpcmaaGreat
namespace Go.Proofs.YtncegikenkpcmaaGreat
open Go.RowKit
set_option linter.unusedSimpArgs false
set_option linter.unusedVariables false
set_option maxRecDepth 20000
structure Dk where
  rs : List Rn
  lb : List Int
  ss : List (List Nat)
section
variable {W0 : World} {N : FSz} {K : Act → World → Prop} {e : Env} {A B R R1 R2 R3 R4 : List HP} {d : Nat} {x : Dk}
end
def ftB (s : ByteArray) (n : Nat) : List Nat := ((s.data.toList.take n).map fun b => b.toNat) ++ List.replicate (n - s.size) 0
theorem ftB_ok (s : ByteArray) (n : Nat) : (ftB s n).length = n ∧ By (ftB s n) := by
  have e : s.data.toList.length = s.size := by rw [Array.length_toList]; rfl
  refine ⟨by rw [ftB, List.length_append, List.length_map, List.length_take, List.length_replicate, e]; omega, fun x hx => ?_⟩
  rw [ftB] at hx
  rcases List.mem_append.1 hx with q | q
  · obtain ⟨b, _, rfl⟩ := List.mem_map.1 q; exact b.toNat_lt
  · have := List.eq_of_mem_replicate q; omega
theorem octFit_spec (W0 : World) (R : List HP) (s : ByteArray) (n : Nat) (hn : 1 ≤ n ∧ n ≤ 16384) :
    Spec Tryz.prog W0 84 [.string s, .int .i64 n] R (fun v B => ∃ b, v = .slice (some ⟨b, 0, none⟩) n n ∧ B = pt b (cob (byV (ftB s n)) 5) :: R) := by
  have e : s.data.toList.length = s.size := by rw [Array.length_toList]; rfl
  refine spec_body Tryz.func84 Tryz.ntmps84 rfl rfl ?_
  refine x_seq (x_region (s_val rfl (v_assign rfl) (x_nil (n_then (x_seq (x_region (s_val rfl (v_move rfl) ?_)))))))
  refine s_val rfl (v_min rfl rfl (r := (n : Int)) (by rw [if_neg (by omega)])) ?_
  refine s_val rfl (v_max rfl rfl (r := (n : Int)) (by rw [if_pos (by omega)])) ?_
  refine s_do rfl (d_make (sz := 1) (by_ := 1) (info := Tryz.t5) Tryz.underlying44 (by kernel_rfl) rfl rfl rfl rfl (by decide) rfl rfl (n := n) rfl rfl (by omega) (by decide)) ?_
  rintro _ _ ⟨bo, rfl, rfl⟩
  refine s_val rfl (v_assign rfl) (x_nil (n_then (x_seq (x_region (s_val rfl (v_move rfl) (s_val rfl (v_move rfl) ?_))))))
  refine s_do rfl (d_copyStr (b := bo) (m := min s.size n) Tryz.underlying44 Tryz.sizeOf5 rfl rfl rfl (by rw [List.length_replicate]; have := Nat.min_le_right s.size n; omega) (l' := byV (ftB s n)) (by
  rw [setR_eq _ _ _ (by rw [List.length_map, List.length_take, List.length_replicate]; have := Nat.min_le_right s.size n; omega), ftB, byV_append, List.take_zero, List.nil_append, List.drop_replicate, List.length_map, List.length_take, e, Nat.zero_add]
  congr 1
  · rw [byV, List.map_map]
    have : s.data.toList.take (min s.size n) = s.data.toList.take n := by
      rcases Nat.le_total s.size n with q | q
      · rw [Nat.min_eq_left q, List.take_of_length_le (by omega), List.take_of_length_le (by omega)]
      · rw [Nat.min_eq_right q]
    rw [this]; rfl
  · rw [byV, List.map_replicate]
    congr 1
    rcases Nat.le_total s.size n with q | q
    · rw [Nat.min_eq_left q]; omega
    · rw [Nat.min_eq_right q]; omega)) ?_
  rintro _ B_ ⟨rfl, hB_⟩
  obtain rfl := hB_.symm
  refine x_nil (n_then (x_seq (x_region (s_val rfl (v_move rfl) (s_val rfl (v_assign rfl) (x_nil (n_then (x_ret (x_done (.inl rfl) (.cons (r_tmp rfl) .nil) ?_)))))))))
  exact ⟨_, ⟨bo, rfl, rfl⟩, inferInstance⟩
end Go.Proofs.YtncegikenkpcmaaGreat
namespace Go.Proofs.YtncegikenkpcmaaGreat
open Go.RowKit
set_option linter.unusedSimpArgs false
set_option linter.unusedVariables false
set_option maxRecDepth 20000
end Go.Proofs.YtncegikenkpcmaaGreat
namespace Go.Proofs.YtncegikenkpcmaaGreat
open Go.RowKit
set_option linter.unusedSimpArgs false
set_option linter.unusedVariables false
set_option maxRecDepth 20000
def PrS (ps : List Prt) : Prop := PrOk ps ∧ ∀ x ∈ ps, ∀ s ∈ x.l, s.size ≤ 32
theorem PrS.at_ {ps : List Prt} (h : PrS ps) {i : Nat} (hi : i < ps.length) : ∀ s ∈ (ps.getD i default).l, s.size ≤ 32 := by
  rw [show ps.getD i default = ps[i] by simp [List.getD, hi]]; exact h.2 _ (List.getElem_mem hi)
theorem PrS.set {ps : List Prt} (h : PrS ps) {i : Nat} {x : Prt} (hx : x.l.length ≤ mostP x) (hs : ∀ s ∈ x.l, s.size ≤ 32) : PrS (ps.set i x) := ⟨h.1.set hx, fun y hy => by
  rcases List.mem_or_eq_of_mem_set hy with q | q
  · exact h.2 y q
  · rw [q]; exact hs⟩
end Go.Proofs.YtncegikenkpcmaaGreat
namespace Go.Proofs.YtncegikenkpcmaaGreat
open Go.RowKit
set_option linter.unusedSimpArgs false
set_option linter.unusedVariables false
set_option maxRecDepth 20000
structure SvS where
  fr : List Frm
  d : Nat
  s : QS
  ps : List Prt
  c : Nat
  n : Nat
  b : Nat
  w : Int
@[reducible] def SvS.v (x : SvS) : List Value := [.int .i64 x.c, .int .i64 x.n, .int .i64 x.b, .int .i64 x.w]
end Go.Proofs.YtncegikenkpcmaaGreat
namespace Go.Proofs.YtncegikenkpcmaaGreat
open Go.RowKit
set_option linter.unusedSimpArgs false
set_option linter.unusedVariables false
set_option maxRecDepth 20000
end Go.Proofs.YtncegikenkpcmaaGreat
namespace Go.Proofs.YtncegikenkpcmaaGreat
open Go.RowKit
set_option linter.unusedSimpArgs false
set_option linter.unusedVariables false
set_option maxRecDepth 20000
end Go.Proofs.YtncegikenkpcmaaGreat
namespace Go.Proofs.YtncegikenkpcmaaGreat
open Go.RowKit
set_option linter.unusedSimpArgs false
set_option linter.unusedVariables false
set_option maxRecDepth 20000
end Go.Proofs.YtncegikenkpcmaaGreat
namespace Go.Proofs.YtncegikenkpcmaaGreat
open Go.RowKit
set_option linter.unusedSimpArgs false
set_option linter.unusedVariables false
set_option maxRecDepth 20000
structure SbS where
  fr : List Frm
  d : Nat
  s : QS
  x : Dk
  c : Nat
  n : Nat
  b : Nat
  w : Int
@[reducible] def SbS.v (x : SbS) : List Value := [.int .i64 x.c, .int .i64 x.n, .int .i64 x.b, .int .i64 x.w]
end Go.Proofs.YtncegikenkpcmaaGreat
namespace Go.Proofs.YtncegikenkpcmaaGreat
open Go.RowKit
set_option linter.unusedSimpArgs false
set_option linter.unusedVariables false
set_option maxRecDepth 20000
section
variable {W0 : World} {N : FSz} {K : Act → World → Prop} {e : Env} {A B R R1 R2 R3 : List HP} {d : Nat} {x : Dk}
end
theorem ftB_get {s : ByteArray} {n i : Nat} (hi : i < n) : (ftB s n)[i]? = some (if h : i < s.size then (s[i]'h).toNat else 0) := by
  have e : s.data.toList.length = s.size := by rw [Array.length_toList]; rfl
  unfold ftB
  split
  · rename_i h
    rw [List.getElem?_append_left (by rw [List.length_map, List.length_take, e]; omega), List.getElem?_map, List.getElem?_take_of_lt hi, List.getElem?_eq_getElem (by rw [e]; exact h)]
    rfl
  · rename_i h
    rw [List.getElem?_append_right (by rw [List.length_map, List.length_take, e]; omega), List.length_map, List.length_take, e, List.getElem?_replicate, if_pos (by omega)]
theorem refFit_spec (W0 : World) (R : List HP) (s : ByteArray) (hs : s.size < 9223372036854775808) (n : Nat) (hn : n ≤ 16384) :
    Spec Tryz.prog W0 87 [.string s, .int .i64 n] R (fun v B => ∃ a c, v = .slice a n c ∧ B = osl 5 1 (.slice a n c) (byV (ftB s n)) :: R) := by
  have hfl := (ftB_ok s n).1
  refine spec_body Tryz.func87 Tryz.ntmps87 rfl rfl ?_
  refine x_seq (x_region (s_val rfl (v_assign rfl) (x_nil (n_then (x_seq (x_region (s_val rfl (v_assign rfl) (x_nil (n_then (x_seq (x_seq (x_region (s_val rfl (v_assign rfl) (x_nil (n_then (x_block ?_))))))))))))))))
  refine x_loop (fun X : Nat × Option Addr × Nat => X.1 ≤ n) (fun X => [(0, .string s), (1, .int .i64 n), (5, .slice X.2.1 X.1 X.2.2), (6, .int .i64 X.1)]) (fun X => osl 5 1 (.slice X.2.1 X.1 X.2.2) (byV ((ftB s n).take X.1)) :: R) (fun X => n - X.1) (0, none, 0) ?_ ?_ ?_ ?_
  · exact Nat.zero_le _
  · repeat (first | exact sub_nil | refine sub_cons rfl ?_)
  · show Ent _ (osl 5 1 (.slice none 0 0) [] :: R)
    exact ent_osl_nil
  · intro ⟨i, a, c⟩ hi
    dsimp only at hi ⊢
    refine x_seq (x_seq (x_region (s_val rfl (v_move rfl) (s_val rfl (v_move rfl) (s_val rfl (v_lss rfl rfl) (s_val rfl (v_move rfl) ?_))))))
    refine s_and rfl rfl rfl ?_ ?_
    · intro g3_4
      refine s_val rfl (v_move rfl) (s_yes rfl rfl (s_val rfl (v_lss rfl rfl) (s_val rfl (v_pick_t rfl rfl) (x_nil (n_then ?_)))))
      refine x_if rfl ?_ ?_
      · intro c3
        refine x_skip (n_then (x_seq (x_block (x_seq ?_))))
        have hi1 : i < n := by omega
        have hg := ftB_get (s := s) hi1
        refine x_region (s_val rfl (v_assign rfl) (x_nil (n_then ?_)))
        refine x_cut (fun m : Nat => (ftB s n)[i]? = some m) (fun m => [(0, .string s), (1, .int .i64 n), (5, .slice a i c), (6, .int .i64 i), (7, .int .u8 m)]) (fun _ => osl 5 1 (.slice a i c) (byV ((ftB s n).take i)) :: R) ?_ ?_
        · skip
          refine x_seq (x_region (s_val rfl (v_move rfl) (s_val rfl (v_move rfl) (s_val rfl (v_len_string Tryz.underlying9 rfl) (s_val rfl (v_lss rfl rfl) (x_nil (n_then ?_)))))))
          refine x_if rfl ?_ ?_
          · intro c6
            have hlt : i < s.size := by omega
            rw [dif_pos hlt] at hg
            refine x_region (s_val rfl (v_move rfl) (s_val rfl (v_move rfl) (s_val rfl (v_idxStr Tryz.underlying9 rfl rfl rfl hlt) ?_)))
            refine s_val rfl (v_assign rfl) (x_nil (n_then ?_))
            refine mid_intro ((s[i]'hlt).toNat) ?_ ?_ ?_
            · exact hg
            · repeat (first | exact sub_nil | refine sub_cons rfl ?_)
            · exact inferInstance
          · intro c6
            have hlt : ¬ i < s.size := by omega
            rw [dif_neg hlt] at hg
            refine x_skip (n_then ?_)
            refine mid_intro (0 : Nat) ?_ ?_ ?_
            · exact hg
            · repeat (first | exact sub_nil | refine sub_cons rfl ?_)
            · exact inferInstance
        · intro m hm
          have hst : byV ((ftB s n).take i) ++ [Value.int .u8 m] = byV ((ftB s n).take (i + 1)) := by
            have h1 : i < (ftB s n).length := by rw [hfl]; exact hi1
            rw [List.take_succ_eq_append_getElem h1, byV_append, show (ftB s n)[i] = m by simpa [h1] using hm]; rfl
          refine x_region (s_val rfl (v_move rfl) (s_val rfl (v_move rfl) ?_))
          refine s_do rfl (d_sliceLit Tryz.underlying44 Tryz.sizeOf5 Tryz.zeroValue5 rfl rfl rfl rfl rfl (by decide) (by decide)) ?_
          rintro _ _ ⟨b1, rfl, rfl⟩
          refine s_do rfl (d_append (sz := 1) (by_ := 1) (info := Tryz.t5) Tryz.underlying44 (by kernel_rfl) rfl rfl rfl rfl (by decide) rfl rfl cells_all rfl rfl (by simp only [maxLen]; omega) (by omega)) ?_
          rintro _ _ ⟨a3, c3, rfl, rfl⟩
          rw [hst]
          refine s_val rfl (v_assign rfl) (x_nil (n_block (n_then (x_region (s_val rfl (v_move rfl) ?_)))))
          refine s_val rfl (v_add rfl rfl (by first | exact w64 (by omega) | rfl)) ?_
          refine s_val rfl (v_assign rfl) (x_nil (n_then ?_))
          refine inv_intro (i + 1, a3, c3) ?_ ?_ ?_ ?_
          · omega
          · omega
          · repeat (first | exact sub_nil | refine sub_cons rfl ?_)
          · exact inferInstance
      · intro c3
        refine x_exit (e_then (e_then (e_block (n_then (x_seq (x_region (s_val rfl (v_move rfl) (s_val rfl (v_assign rfl) (x_nil (n_then (x_ret (x_done (.inl rfl) (.cons (r_tmp rfl) .nil) ?_))))))))))))
        obtain rfl : i = n := by omega
        rw [List.take_of_length_le (Nat.le_of_eq hfl)]
        exact ⟨_, ⟨a, c, rfl, rfl⟩, inferInstance⟩
    · intro g3_4
      refine s_no rfl rfl rfl rfl (s_val rfl (v_pick_f rfl rfl) (x_nil (n_then (x_iff rfl (x_exit (e_then (e_then (e_block (n_then (x_seq (x_region (s_val rfl (v_move rfl) (s_val rfl (v_assign rfl) (x_nil (n_then (x_ret (x_done (.inl rfl) (.cons (r_tmp rfl) .nil) ?_)))))))))))))))))
      obtain rfl : i = n := by omega
      rw [List.take_of_length_le (Nat.le_of_eq hfl)]
      exact ⟨_, ⟨a, c, rfl, rfl⟩, inferInstance⟩
end Go.Proofs.YtncegikenkpcmaaGreat
namespace Go.Proofs.YtncegikenkpcmaaGreat
open Go.RowKit
set_option linter.unusedSimpArgs false
set_option linter.unusedVariables false
set_option maxRecDepth 20000
structure Img where
  a : Option Addr
  c : Nat
  l : List Nat
@[reducible] def imgV (x : Img) : List Value := [.slice x.a x.l.length x.c]
structure Sec where
  at_ : Int
  d : ByteArray
instance : Inhabited Sec := ⟨⟨0, ByteArray.empty⟩⟩
@[reducible] def seV (x : Sec) : List Value := [.int .i64 x.at_, .string x.d]
structure Inp where
  at_ : Int
  g : Int
  k : Int
  code : Int
  d : ByteArray
instance : Inhabited Inp := ⟨⟨0, 0, 0, 0, ByteArray.empty⟩⟩
@[reducible] def inpV (x : Inp) : List Value := [.int .i64 x.at_, .int .i64 x.g, .int .i64 x.k, .int .i64 x.code, .string x.d]
theorem seV_one (x : Sec) : allOne (seV x) = true := rfl
theorem inpV_one (x : Inp) : allOne (inpV x) = true := rfl
theorem seV_len (x : Sec) : (seV x).length = 2 := rfl
theorem inpV_len (x : Inp) : (inpV x).length = 5 := rfl
structure Scr where
  ia : Option Addr
  ic : Nat
  il : List Img
  sa : Option Addr
  sc : Nat
  sl : List Sec
  na : Option Addr
  nc : Nat
  nl : List Inp
@[reducible] def scrV (s : Scr) : List Value := [.slice s.ia s.il.length s.ic, .slice s.sa s.sl.length s.sc, .slice s.na s.nl.length s.nc]
structure ScrOk (W0 : World) (s : Scr) : Prop where
  i : ∀ A, SlA (OwnP W0 A) s.ia 1 imgV s.il
  w : ∀ x ∈ s.il, ∀ A, SlA (OwnP W0 A) x.a 1 (fun x => [wV x]) x.l
  wl : ∀ x ∈ s.il, x.l.length ≤ x.c ∧ x.l.length < 9223372036854775808
  wb : ∀ x ∈ s.il, ∀ w ∈ x.l, w < 4294967296
  sx : ∀ A, SlA (OwnP W0 A) s.sa 2 seV s.sl
  sb : ∀ x ∈ s.sl, (-9223372036854775808 ≤ x.at_ ∧ x.at_ < 9223372036854775808) ∧ x.d.size < 9223372036854775808
  n : ∀ A, SlA (OwnP W0 A) s.na 5 inpV s.nl
  nb : ∀ x ∈ s.nl, x.d.size < 9223372036854775808
def ltB (s : Scr) : Bool := decide (s.il.length ≤ 20 ∧ s.sl.length ≤ 60 ∧ s.nl.length ≤ 300)
def smB (c : Cfg) : Bool := decide (c.gl.length ≤ 20 ∧ c.rl.length ≤ 40 ∧ c.pl.length ≤ 40 ∧ c.nl.length ≤ 40 ∧ c.sl.length ≤ 40)
structure PKl {α : Type} (f : α → List Value) (W0 : World) (fn : FuncId) (cs : List Value) (C : HP) (l : List α) (p : α → Bool) : Prop where
  call : ∀ args w, (callFunc fn args).run Tryz.prog w = .ok (.enter fn args) w
  spec : ∀ x ∈ l, ∀ R, Spec Tryz.prog W0 fn ([] ++ [.agg (f x).toArray] ++ cs) (kH 0 C :: R) (fun v B => v = .bool (p x) ∧ B = kH 0 C :: R)
theorem pkK_lt {α : Type} (p : α → Bool) (l : List α) : ∀ k, ∀ i ∈ pkK p l k, i < l.length
  | 0, i, hi => by simp [pkK] at hi
  | k + 1, i, hi => by
    have ih := pkK_lt p l k
    rw [pkK] at hi
    cases e : l[k]? with
    | none => rw [e] at hi; exact ih i hi
    | some x =>
      rw [e] at hi
      have hk : k < l.length := (List.getElem?_eq_some_iff.1 e).1
      simp only at hi
      split at hi
      · rcases List.mem_append.1 hi with q | q
        · exact ih i q
        · simp only [List.mem_singleton] at q; omega
      · exact ih i hi
theorem pkK_take {α : Type} (p : α → Bool) (l : List α) (d : α) : ∀ k, k ≤ l.length → (pkK p l k).map (fun i => l.getD i d) = (l.take k).filter p
  | 0, _ => by simp [pkK]
  | k + 1, hk => by
    have hk1 : k < l.length := by omega
    rw [pkK, List.getElem?_eq_getElem hk1, List.take_succ_eq_append_getElem hk1, List.filter_append, ← pkK_take p l d k (by omega)]
    simp only
    split
    · rename_i h
      rw [List.map_append, List.filter_cons_of_pos h]; simp [List.getD, hk1]
    · rename_i h
      rw [List.filter_cons_of_neg h]; simp
theorem pkK_filter {α : Type} [Inhabited α] (p : α → Bool) (l : List α) : (pkK p l l.length).map (fun i => l.getD i default) = l.filter p := by
  rw [pkK_take p l default l.length (Nat.le_refl _), List.take_of_length_le (Nat.le_refl _)]
theorem pkK_mem {α : Type} (p : α → Bool) (l : List α) : ∀ (k i : Nat), k ≤ l.length → (i ∈ pkK p l k ↔ i < k ∧ ∃ x, l[i]? = some x ∧ p x = true)
  | 0, i, _ => by simp [pkK]
  | k + 1, i, hk => by
    have hk1 : k < l.length := by omega
    have ih := pkK_mem p l k i (by omega)
    rw [pkK, List.getElem?_eq_getElem hk1]
    simp only
    split
    · rename_i h
      rw [List.mem_append, ih, List.mem_singleton]
      constructor
      · rintro (⟨a, b⟩ | rfl)
        · exact ⟨by omega, b⟩
        · exact ⟨by omega, l[i], by simp [hk1], h⟩
      · rintro ⟨a, b⟩
        rcases Nat.lt_or_ge i k with q | q
        · exact .inl ⟨q, b⟩
        · exact .inr (by omega)
    · rename_i h
      rw [ih]
      constructor
      · rintro ⟨a, b⟩; exact ⟨by omega, b⟩
      · rintro ⟨a, x, b1, b2⟩
        rcases Nat.lt_or_ge i k with q | q
        · exact ⟨q, x, b1, b2⟩
        · obtain rfl : i = k := by omega
          rw [List.getElem?_eq_getElem hk1] at b1; cases b1
          exact absurd b2 h
theorem Own.step {W0 w w' : World} {A C : List HP} (h : Own W0 w A) (k : Own w w' C) : Own W0 w' (C ++ A) := by
  obtain ⟨lA, sA, nA, mA⟩ := h.owns
  obtain ⟨lC, sC, nC, mC⟩ := k.owns
  have hlt : ∀ p ∈ lA, p.1 < w.heap.size := fun p hp => by
    have := (mA p hp).2
    rcases Nat.lt_or_ge p.1 w.heap.size with q | q
    · exact q
    · rw [Array.getElem?_eq_none q] at this; cases this
  refine ⟨k.os.trans h.os, k.tape.trans h.tape, k.output.trans h.output, Nat.le_trans h.size k.size, fun b hb => (k.base b (Nat.lt_of_lt_of_le hb h.size)).trans (h.base b hb), lC ++ lA, Sat.append.2 ⟨lC, lA, rfl, sC, sA⟩, ?_, fun p hp => ?_⟩
  · rw [List.map_append, List.nodup_append]
    refine ⟨nC, nA, fun x hx y hy e => ?_⟩
    obtain ⟨p, hp, rfl⟩ := List.mem_map.1 hx
    obtain ⟨q, hq, rfl⟩ := List.mem_map.1 hy
    have h1 := (mC p hp).1
    have h2 := hlt q hq
    omega
  · rcases List.mem_append.1 hp with q | q
    · exact ⟨Nat.le_trans h.size (mC p q).1, (mC p q).2⟩
    · exact ⟨(mA p q).1, (k.base p.1 (hlt p q)).trans (mA p q).2⟩
theorem spec_rebase {P : Program} {W0 : World} {f : FuncId} {args : List Value} {A : List HP} {Post : Value → List HP → Prop} (h : ∀ W, Own W0 W A → Spec P W f args [] Post) : Spec P W0 f args A (fun v B => ∃ C, Post v C ∧ B = C ++ A) := by
  intro w hO
  refine (h w hO w (Own.refl w)).mono ?_
  rintro e w' ⟨v, C, rfl, hp, hO'⟩
  exact ⟨v, C ++ A, rfl, ⟨C, hp, rfl⟩, hO.step hO'⟩
theorem cells_now {W0 W : World} {A : List HP} {b off : Nat} {vs : List Value} (hO : Own W0 W A) (h : Cells (OwnP W0 A) b off vs) : ∀ B, Cells (OwnP W B) b off vs := fun B i v hi => cell_base (h i v hi W hO)
theorem sla_now {α : Type} {W0 W : World} {A : List HP} {a : Option Addr} {sz : Nat} {f : α → List Value} {xs : List α} (hO : Own W0 W A) (h : SlA (OwnP W0 A) a sz f xs) : ∀ B, SlA (OwnP W B) a sz f xs := fun B i x hi => by
  obtain ⟨b, off, rfl, hc⟩ := h i x hi
  exact ⟨b, off, rfl, cells_now hO hc B⟩
end Go.Proofs.YtncegikenkpcmaaGreat
namespace Go.Proofs.YtncegikenkpcmaaGreat
open Go.RowKit
set_option linter.unusedSimpArgs false
set_option linter.unusedVariables false
set_option maxRecDepth 20000
theorem pckG_spec (W0 : World) (R : List HP) (a : Option Addr) (c : Nat) (l : List (Int × Int × Int)) (fn : FuncId) (cs : List Value) (C : HP) (p : (Int × Int × Int) → Bool) (hp : PKl gsV W0 fn cs C l p) (hs : ∀ A, SlA (OwnP W0 A) a 3 gsV l) (hl : l.length ≤ 1000) :
    Spec Tryz.prog W0 37 [.slice a l.length c, .func (.func fn) #[] cs.toArray] (kH 0 C :: R)
      (fun v B => ∃ a' c', v = .slice a' (pkK p l l.length).length c' ∧ B = osl 3 1 (.slice a' (pkK p l l.length).length c') ((pkK p l l.length).map ixV) :: kH 0 C :: R) := by
  refine spec_body Tryz.func37 Tryz.ntmps37 rfl rfl ?_
  refine x_seq (x_region (s_val rfl (v_assign rfl) (x_nil (n_then (x_seq (x_region (s_val rfl (v_assign rfl) (x_nil (n_then (x_seq (x_seq (x_region (s_val rfl (v_move rfl) (s_val rfl (v_len_slice Tryz.underlying22 rfl) (s_val rfl (v_move rfl) (x_nil (n_then (x_block ?_))))))))))))))))))
  refine x_loop (fun X : Nat × Option Addr × Nat => X.1 ≤ l.length) (fun X => [(1, .func (.func fn) #[] cs.toArray), (5, .slice X.2.1 (pkK p l X.1).length X.2.2), (8, .slice a l.length c), (9, .int .i64 (l.length : Nat)), (10, .int .i64 X.1)]) (fun X => osl 3 1 (.slice X.2.1 (pkK p l X.1).length X.2.2) ((pkK p l X.1).map ixV) :: kH 0 C :: R) (fun X => l.length - X.1) (0, none, 0) ?_ ?_ ?_ ?_
  · exact Nat.zero_le _
  · repeat (first | exact sub_nil | refine sub_cons rfl ?_)
  · exact ent_osl_nil
  · intro ⟨i, a0, c0⟩ hi
    dsimp only at hi ⊢
    have hpl := pkK_len p l i
    refine x_seq (x_region (s_val rfl (v_lss rfl rfl) (x_nil (n_then (x_seq ?_)))))
    refine x_if rfl ?_ ?_
    · intro c3
      refine x_skip (n_then ?_)
      refine x_cut (fun X : Option Addr × Nat => True) (fun X => [(1, .func (.func fn) #[] cs.toArray), (5, .slice X.1 (pkK p l (i + 1)).length X.2), (8, .slice a l.length c), (9, .int .i64 (l.length : Nat)), (10, .int .i64 i)]) (fun X => osl 3 1 (.slice X.1 (pkK p l (i + 1)).length X.2) ((pkK p l (i + 1)).map ixV) :: kH 0 C :: R) ?_ ?_
      · skip
        refine x_block (x_seq ?_)
        have hi1 : i < l.length := by omega
        obtain ⟨g, o, hga, hc⟩ := (hs []).at_ hi1
        have hmem := List.getElem_mem hi1
        obtain ⟨x, hx⟩ : ∃ x, l[i] = x := ⟨_, rfl⟩
        rw [hx] at hc hmem
        refine x_region (s_val rfl (v_move rfl) ?_)
        refine s_val rfl (v_idxA Tryz.underlying22 Tryz.sizeOf95 rfl hga rfl rfl hi1 (by first | exact Nat.zero_add _ | rfl)) ?_
        refine s_val rfl (v_loadAgg Tryz.isAgg95 Tryz.sizeOf95 rfl hc.weak rfl) ?_
        refine s_do rfl (d_allocA Tryz.zeroValue95) ?_
        rintro _ _ ⟨bx, rfl, rfl⟩
        refine s_val rfl (v_assign rfl) (s_do0 (d_storeAll Tryz.sizeOf95 rfl rfl rfl rfl rfl) ?_)
        rintro _ _ rfl
        refine x_nil (n_then (x_seq (x_region (s_val rfl (v_move rfl) (s_val rfl (v_loadAll Tryz.isAgg95 Tryz.sizeOf95 rfl rfl) ?_)))))
        refine s_do rfl (d_callv1 (us := []) (cs := cs) rfl hp.call rfl (hp.spec x hmem _)) ?_
        rintro _ B_ ⟨rfl, hB_⟩
        obtain rfl := hB_.symm
        refine x_nil (n_then ?_)
        refine x_if rfl ?_ ?_
        · intro c5
          have hst := pkK_yes (p := p) hi1 (by rw [hx]; exact c5)
          have hln : (pkK p l (i + 1)).length = (pkK p l i).length + 1 := by rw [hst]; simp
          have hmp : (pkK p l (i + 1)).map ixV = (pkK p l i).map ixV ++ [Value.int .i64 (i : Int)] := by rw [hst, List.map_append]; rfl
          refine x_region (s_val rfl (v_move rfl) (s_val rfl (v_move rfl) ?_))
          refine s_do rfl (d_sliceLit Tryz.underlying38 Tryz.sizeOf3 Tryz.zeroValue3 rfl rfl rfl rfl rfl (by decide) (by decide)) ?_
          rintro _ _ ⟨b2, rfl, rfl⟩
          refine s_do rfl (d_append (sz := 1) (by_ := 8) (info := Tryz.t3) Tryz.underlying38 (by kernel_rfl) rfl rfl rfl rfl (by decide) rfl rfl cells_all rfl rfl (by simp only [maxLen]; omega) (by omega)) ?_
          rintro _ _ ⟨a3, c3, rfl, rfl⟩
          rw [← hln, ← hmp]
          refine s_val rfl (v_assign rfl) (x_nil (n_block (n_then ?_)))
          refine mid_intro (a3, c3) ?_ ?_ ?_
          · trivial
          · repeat (first | exact sub_nil | refine sub_cons rfl ?_)
          · exact inferInstance
        · intro c5
          have hst := pkK_no (p := p) hi1 (by rw [hx]; exact c5)
          refine x_skip (n_block (n_then ?_))
          refine mid_intro (a0, c0) ?_ ?_ ?_
          · trivial
          · rw [hst]
            repeat (first | exact sub_nil | refine sub_cons rfl ?_)
          · rw [hst]
            exact inferInstance
      · intro ⟨a1, c1⟩ _
        refine x_region ?_
        refine s_val rfl (v_add rfl rfl (by first | exact w64 (by omega) | rfl)) ?_
        refine s_val rfl (v_move rfl) (x_nil (n_then ?_))
        refine inv_intro (i + 1, a1, c1) ?_ ?_ ?_ ?_
        · omega
        · omega
        · repeat (first | exact sub_nil | refine sub_cons rfl ?_)
        · exact inferInstance
    · intro c3
      refine x_exit (e_then (e_then (e_block (n_then (x_seq (x_region (s_val rfl (v_move rfl) (s_val rfl (v_assign rfl) (x_nil (n_then (x_ret (x_done (.inl rfl) (.cons (r_tmp rfl) .nil) ?_))))))))))))
      obtain rfl : i = l.length := by omega
      exact ⟨_, ⟨a0, c0, rfl, rfl⟩, inferInstance⟩
theorem pckP_spec (W0 : World) (R : List HP) (a : Option Addr) (c : Nat) (l : List (Int × Int)) (fn : FuncId) (cs : List Value) (C : HP) (p : (Int × Int) → Bool) (hp : PKl pairV W0 fn cs C l p) (hs : ∀ A, SlA (OwnP W0 A) a 2 pairV l) (hl : l.length ≤ 1000) :
    Spec Tryz.prog W0 42 [.slice a l.length c, .func (.func fn) #[] cs.toArray] (kH 0 C :: R)
      (fun v B => ∃ a' c', v = .slice a' (pkK p l l.length).length c' ∧ B = osl 3 1 (.slice a' (pkK p l l.length).length c') ((pkK p l l.length).map ixV) :: kH 0 C :: R) := by
  refine spec_body Tryz.func42 Tryz.ntmps42 rfl rfl ?_
  refine x_seq (x_region (s_val rfl (v_assign rfl) (x_nil (n_then (x_seq (x_region (s_val rfl (v_assign rfl) (x_nil (n_then (x_seq (x_seq (x_region (s_val rfl (v_move rfl) (s_val rfl (v_len_slice Tryz.underlying24 rfl) (s_val rfl (v_move rfl) (x_nil (n_then (x_block ?_))))))))))))))))))
  refine x_loop (fun X : Nat × Option Addr × Nat => X.1 ≤ l.length) (fun X => [(1, .func (.func fn) #[] cs.toArray), (5, .slice X.2.1 (pkK p l X.1).length X.2.2), (8, .slice a l.length c), (9, .int .i64 (l.length : Nat)), (10, .int .i64 X.1)]) (fun X => osl 3 1 (.slice X.2.1 (pkK p l X.1).length X.2.2) ((pkK p l X.1).map ixV) :: kH 0 C :: R) (fun X => l.length - X.1) (0, none, 0) ?_ ?_ ?_ ?_
  · exact Nat.zero_le _
  · repeat (first | exact sub_nil | refine sub_cons rfl ?_)
  · exact ent_osl_nil
  · intro ⟨i, a0, c0⟩ hi
    dsimp only at hi ⊢
    have hpl := pkK_len p l i
    refine x_seq (x_region (s_val rfl (v_lss rfl rfl) (x_nil (n_then (x_seq ?_)))))
    refine x_if rfl ?_ ?_
    · intro c3
      refine x_skip (n_then ?_)
      refine x_cut (fun X : Option Addr × Nat => True) (fun X => [(1, .func (.func fn) #[] cs.toArray), (5, .slice X.1 (pkK p l (i + 1)).length X.2), (8, .slice a l.length c), (9, .int .i64 (l.length : Nat)), (10, .int .i64 i)]) (fun X => osl 3 1 (.slice X.1 (pkK p l (i + 1)).length X.2) ((pkK p l (i + 1)).map ixV) :: kH 0 C :: R) ?_ ?_
      · skip
        refine x_block (x_seq ?_)
        have hi1 : i < l.length := by omega
        obtain ⟨g, o, hga, hc⟩ := (hs []).at_ hi1
        have hmem := List.getElem_mem hi1
        obtain ⟨x, hx⟩ : ∃ x, l[i] = x := ⟨_, rfl⟩
        rw [hx] at hc hmem
        refine x_region (s_val rfl (v_move rfl) ?_)
        refine s_val rfl (v_idxA Tryz.underlying24 Tryz.sizeOf100 rfl hga rfl rfl hi1 (by first | exact Nat.zero_add _ | rfl)) ?_
        refine s_val rfl (v_loadAgg Tryz.isAgg100 Tryz.sizeOf100 rfl hc.weak rfl) ?_
        refine s_do rfl (d_allocA Tryz.zeroValue100) ?_
        rintro _ _ ⟨bx, rfl, rfl⟩
        refine s_val rfl (v_assign rfl) (s_do0 (d_storeAll Tryz.sizeOf100 rfl rfl rfl rfl rfl) ?_)
        rintro _ _ rfl
        refine x_nil (n_then (x_seq (x_region (s_val rfl (v_move rfl) (s_val rfl (v_loadAll Tryz.isAgg100 Tryz.sizeOf100 rfl rfl) ?_)))))
        refine s_do rfl (d_callv1 (us := []) (cs := cs) rfl hp.call rfl (hp.spec x hmem _)) ?_
        rintro _ B_ ⟨rfl, hB_⟩
        obtain rfl := hB_.symm
        refine x_nil (n_then ?_)
        refine x_if rfl ?_ ?_
        · intro c5
          have hst := pkK_yes (p := p) hi1 (by rw [hx]; exact c5)
          have hln : (pkK p l (i + 1)).length = (pkK p l i).length + 1 := by rw [hst]; simp
          have hmp : (pkK p l (i + 1)).map ixV = (pkK p l i).map ixV ++ [Value.int .i64 (i : Int)] := by rw [hst, List.map_append]; rfl
          refine x_region (s_val rfl (v_move rfl) (s_val rfl (v_move rfl) ?_))
          refine s_do rfl (d_sliceLit Tryz.underlying38 Tryz.sizeOf3 Tryz.zeroValue3 rfl rfl rfl rfl rfl (by decide) (by decide)) ?_
          rintro _ _ ⟨b2, rfl, rfl⟩
          refine s_do rfl (d_append (sz := 1) (by_ := 8) (info := Tryz.t3) Tryz.underlying38 (by kernel_rfl) rfl rfl rfl rfl (by decide) rfl rfl cells_all rfl rfl (by simp only [maxLen]; omega) (by omega)) ?_
          rintro _ _ ⟨a3, c3, rfl, rfl⟩
          rw [← hln, ← hmp]
          refine s_val rfl (v_assign rfl) (x_nil (n_block (n_then ?_)))
          refine mid_intro (a3, c3) ?_ ?_ ?_
          · trivial
          · repeat (first | exact sub_nil | refine sub_cons rfl ?_)
          · exact inferInstance
        · intro c5
          have hst := pkK_no (p := p) hi1 (by rw [hx]; exact c5)
          refine x_skip (n_block (n_then ?_))
          refine mid_intro (a0, c0) ?_ ?_ ?_
          · trivial
          · rw [hst]
            repeat (first | exact sub_nil | refine sub_cons rfl ?_)
          · rw [hst]
            exact inferInstance
      · intro ⟨a1, c1⟩ _
        refine x_region ?_
        refine s_val rfl (v_add rfl rfl (by first | exact w64 (by omega) | rfl)) ?_
        refine s_val rfl (v_move rfl) (x_nil (n_then ?_))
        refine inv_intro (i + 1, a1, c1) ?_ ?_ ?_ ?_
        · omega
        · omega
        · repeat (first | exact sub_nil | refine sub_cons rfl ?_)
        · exact inferInstance
    · intro c3
      refine x_exit (e_then (e_then (e_block (n_then (x_seq (x_region (s_val rfl (v_move rfl) (s_val rfl (v_assign rfl) (x_nil (n_then (x_ret (x_done (.inl rfl) (.cons (r_tmp rfl) .nil) ?_))))))))))))
      obtain rfl : i = l.length := by omega
      exact ⟨_, ⟨a0, c0, rfl, rfl⟩, inferInstance⟩
theorem pckS_spec (W0 : World) (R : List HP) (a : Option Addr) (c : Nat) (l : List Sec) (fn : FuncId) (cs : List Value) (C : HP) (p : Sec → Bool) (hp : PKl seV W0 fn cs C l p) (hs : ∀ A, SlA (OwnP W0 A) a 2 seV l) (hl : l.length ≤ 1000) :
    Spec Tryz.prog W0 194 [.slice a l.length c, .func (.func fn) #[] cs.toArray] (kH 0 C :: R)
      (fun v B => ∃ a' c', v = .slice a' (pkK p l l.length).length c' ∧ B = osl 3 1 (.slice a' (pkK p l l.length).length c') ((pkK p l l.length).map ixV) :: kH 0 C :: R) := by
  refine spec_body Tryz.func194 Tryz.ntmps194 rfl rfl ?_
  refine x_seq (x_region (s_val rfl (v_assign rfl) (x_nil (n_then (x_seq (x_region (s_val rfl (v_assign rfl) (x_nil (n_then (x_seq (x_seq (x_region (s_val rfl (v_move rfl) (s_val rfl (v_len_slice Tryz.underlying30 rfl) (s_val rfl (v_move rfl) (x_nil (n_then (x_block ?_))))))))))))))))))
  refine x_loop (fun X : Nat × Option Addr × Nat => X.1 ≤ l.length) (fun X => [(1, .func (.func fn) #[] cs.toArray), (5, .slice X.2.1 (pkK p l X.1).length X.2.2), (8, .slice a l.length c), (9, .int .i64 (l.length : Nat)), (10, .int .i64 X.1)]) (fun X => osl 3 1 (.slice X.2.1 (pkK p l X.1).length X.2.2) ((pkK p l X.1).map ixV) :: kH 0 C :: R) (fun X => l.length - X.1) (0, none, 0) ?_ ?_ ?_ ?_
  · exact Nat.zero_le _
  · repeat (first | exact sub_nil | refine sub_cons rfl ?_)
  · exact ent_osl_nil
  · intro ⟨i, a0, c0⟩ hi
    dsimp only at hi ⊢
    have hpl := pkK_len p l i
    refine x_seq (x_region (s_val rfl (v_lss rfl rfl) (x_nil (n_then (x_seq ?_)))))
    refine x_if rfl ?_ ?_
    · intro c3
      refine x_skip (n_then ?_)
      refine x_cut (fun X : Option Addr × Nat => True) (fun X => [(1, .func (.func fn) #[] cs.toArray), (5, .slice X.1 (pkK p l (i + 1)).length X.2), (8, .slice a l.length c), (9, .int .i64 (l.length : Nat)), (10, .int .i64 i)]) (fun X => osl 3 1 (.slice X.1 (pkK p l (i + 1)).length X.2) ((pkK p l (i + 1)).map ixV) :: kH 0 C :: R) ?_ ?_
      · skip
        refine x_block (x_seq ?_)
        have hi1 : i < l.length := by omega
        obtain ⟨g, o, hga, hc⟩ := (hs []).at_ hi1
        have hmem := List.getElem_mem hi1
        obtain ⟨x, hx⟩ : ∃ x, l[i] = x := ⟨_, rfl⟩
        rw [hx] at hc hmem
        refine x_region (s_val rfl (v_move rfl) ?_)
        refine s_val rfl (v_idxA Tryz.underlying30 Tryz.sizeOf117 rfl hga rfl rfl hi1 (by first | exact Nat.zero_add _ | rfl)) ?_
        refine s_val rfl (v_loadAgg Tryz.isAgg117 Tryz.sizeOf117 rfl hc.weak rfl) ?_
        refine s_do rfl (d_allocA Tryz.zeroValue117) ?_
        rintro _ _ ⟨bx, rfl, rfl⟩
        refine s_val rfl (v_assign rfl) (s_do0 (d_storeAll Tryz.sizeOf117 rfl rfl rfl rfl rfl) ?_)
        rintro _ _ rfl
        refine x_nil (n_then (x_seq (x_region (s_val rfl (v_move rfl) (s_val rfl (v_loadAll Tryz.isAgg117 Tryz.sizeOf117 rfl rfl) ?_)))))
        refine s_do rfl (d_callv1 (us := []) (cs := cs) rfl hp.call rfl (hp.spec x hmem _)) ?_
        rintro _ B_ ⟨rfl, hB_⟩
        obtain rfl := hB_.symm
        refine x_nil (n_then ?_)
        refine x_if rfl ?_ ?_
        · intro c5
          have hst := pkK_yes (p := p) hi1 (by rw [hx]; exact c5)
          have hln : (pkK p l (i + 1)).length = (pkK p l i).length + 1 := by rw [hst]; simp
          have hmp : (pkK p l (i + 1)).map ixV = (pkK p l i).map ixV ++ [Value.int .i64 (i : Int)] := by rw [hst, List.map_append]; rfl
          refine x_region (s_val rfl (v_move rfl) (s_val rfl (v_move rfl) ?_))
          refine s_do rfl (d_sliceLit Tryz.underlying38 Tryz.sizeOf3 Tryz.zeroValue3 rfl rfl rfl rfl rfl (by decide) (by decide)) ?_
          rintro _ _ ⟨b2, rfl, rfl⟩
          refine s_do rfl (d_append (sz := 1) (by_ := 8) (info := Tryz.t3) Tryz.underlying38 (by kernel_rfl) rfl rfl rfl rfl (by decide) rfl rfl cells_all rfl rfl (by simp only [maxLen]; omega) (by omega)) ?_
          rintro _ _ ⟨a3, c3, rfl, rfl⟩
          rw [← hln, ← hmp]
          refine s_val rfl (v_assign rfl) (x_nil (n_block (n_then ?_)))
          refine mid_intro (a3, c3) ?_ ?_ ?_
          · trivial
          · repeat (first | exact sub_nil | refine sub_cons rfl ?_)
          · exact inferInstance
        · intro c5
          have hst := pkK_no (p := p) hi1 (by rw [hx]; exact c5)
          refine x_skip (n_block (n_then ?_))
          refine mid_intro (a0, c0) ?_ ?_ ?_
          · trivial
          · rw [hst]
            repeat (first | exact sub_nil | refine sub_cons rfl ?_)
          · rw [hst]
            exact inferInstance
      · intro ⟨a1, c1⟩ _
        refine x_region ?_
        refine s_val rfl (v_add rfl rfl (by first | exact w64 (by omega) | rfl)) ?_
        refine s_val rfl (v_move rfl) (x_nil (n_then ?_))
        refine inv_intro (i + 1, a1, c1) ?_ ?_ ?_ ?_
        · omega
        · omega
        · repeat (first | exact sub_nil | refine sub_cons rfl ?_)
        · exact inferInstance
    · intro c3
      refine x_exit (e_then (e_then (e_block (n_then (x_seq (x_region (s_val rfl (v_move rfl) (s_val rfl (v_assign rfl) (x_nil (n_then (x_ret (x_done (.inl rfl) (.cons (r_tmp rfl) .nil) ?_))))))))))))
      obtain rfl : i = l.length := by omega
      exact ⟨_, ⟨a0, c0, rfl, rfl⟩, inferInstance⟩
theorem pckI_spec (W0 : World) (R : List HP) (a : Option Addr) (c : Nat) (l : List Inp) (fn : FuncId) (cs : List Value) (C : HP) (p : Inp → Bool) (hp : PKl inpV W0 fn cs C l p) (hs : ∀ A, SlA (OwnP W0 A) a 5 inpV l) (hl : l.length ≤ 1000) :
    Spec Tryz.prog W0 193 [.slice a l.length c, .func (.func fn) #[] cs.toArray] (kH 0 C :: R)
      (fun v B => ∃ a' c', v = .slice a' (pkK p l l.length).length c' ∧ B = osl 3 1 (.slice a' (pkK p l l.length).length c') ((pkK p l l.length).map ixV) :: kH 0 C :: R) := by
  refine spec_body Tryz.func193 Tryz.ntmps193 rfl rfl ?_
  refine x_seq (x_region (s_val rfl (v_assign rfl) (x_nil (n_then (x_seq (x_region (s_val rfl (v_assign rfl) (x_nil (n_then (x_seq (x_seq (x_region (s_val rfl (v_move rfl) (s_val rfl (v_len_slice Tryz.underlying31 rfl) (s_val rfl (v_move rfl) (x_nil (n_then (x_block ?_))))))))))))))))))
  refine x_loop (fun X : Nat × Option Addr × Nat => X.1 ≤ l.length) (fun X => [(1, .func (.func fn) #[] cs.toArray), (5, .slice X.2.1 (pkK p l X.1).length X.2.2), (8, .slice a l.length c), (9, .int .i64 (l.length : Nat)), (10, .int .i64 X.1)]) (fun X => osl 3 1 (.slice X.2.1 (pkK p l X.1).length X.2.2) ((pkK p l X.1).map ixV) :: kH 0 C :: R) (fun X => l.length - X.1) (0, none, 0) ?_ ?_ ?_ ?_
  · exact Nat.zero_le _
  · repeat (first | exact sub_nil | refine sub_cons rfl ?_)
  · exact ent_osl_nil
  · intro ⟨i, a0, c0⟩ hi
    dsimp only at hi ⊢
    have hpl := pkK_len p l i
    refine x_seq (x_region (s_val rfl (v_lss rfl rfl) (x_nil (n_then (x_seq ?_)))))
    refine x_if rfl ?_ ?_
    · intro c3
      refine x_skip (n_then ?_)
      refine x_cut (fun X : Option Addr × Nat => True) (fun X => [(1, .func (.func fn) #[] cs.toArray), (5, .slice X.1 (pkK p l (i + 1)).length X.2), (8, .slice a l.length c), (9, .int .i64 (l.length : Nat)), (10, .int .i64 i)]) (fun X => osl 3 1 (.slice X.1 (pkK p l (i + 1)).length X.2) ((pkK p l (i + 1)).map ixV) :: kH 0 C :: R) ?_ ?_
      · skip
        refine x_block (x_seq ?_)
        have hi1 : i < l.length := by omega
        obtain ⟨g, o, hga, hc⟩ := (hs []).at_ hi1
        have hmem := List.getElem_mem hi1
        obtain ⟨x, hx⟩ : ∃ x, l[i] = x := ⟨_, rfl⟩
        rw [hx] at hc hmem
        refine x_region (s_val rfl (v_move rfl) ?_)
        refine s_val rfl (v_idxA Tryz.underlying31 Tryz.sizeOf109 rfl hga rfl rfl hi1 (by first | exact Nat.zero_add _ | rfl)) ?_
        refine s_val rfl (v_loadAgg Tryz.isAgg109 Tryz.sizeOf109 rfl hc.weak rfl) ?_
        refine s_do rfl (d_allocA Tryz.zeroValue109) ?_
        rintro _ _ ⟨bx, rfl, rfl⟩
        refine s_val rfl (v_assign rfl) (s_do0 (d_storeAll Tryz.sizeOf109 rfl rfl rfl rfl rfl) ?_)
        rintro _ _ rfl
        refine x_nil (n_then (x_seq (x_region (s_val rfl (v_move rfl) (s_val rfl (v_loadAll Tryz.isAgg109 Tryz.sizeOf109 rfl rfl) ?_)))))
        refine s_do rfl (d_callv1 (us := []) (cs := cs) rfl hp.call rfl (hp.spec x hmem _)) ?_
        rintro _ B_ ⟨rfl, hB_⟩
        obtain rfl := hB_.symm
        refine x_nil (n_then ?_)
        refine x_if rfl ?_ ?_
        · intro c5
          have hst := pkK_yes (p := p) hi1 (by rw [hx]; exact c5)
          have hln : (pkK p l (i + 1)).length = (pkK p l i).length + 1 := by rw [hst]; simp
          have hmp : (pkK p l (i + 1)).map ixV = (pkK p l i).map ixV ++ [Value.int .i64 (i : Int)] := by rw [hst, List.map_append]; rfl
          refine x_region (s_val rfl (v_move rfl) (s_val rfl (v_move rfl) ?_))
          refine s_do rfl (d_sliceLit Tryz.underlying38 Tryz.sizeOf3 Tryz.zeroValue3 rfl rfl rfl rfl rfl (by decide) (by decide)) ?_
          rintro _ _ ⟨b2, rfl, rfl⟩
          refine s_do rfl (d_append (sz := 1) (by_ := 8) (info := Tryz.t3) Tryz.underlying38 (by kernel_rfl) rfl rfl rfl rfl (by decide) rfl rfl cells_all rfl rfl (by simp only [maxLen]; omega) (by omega)) ?_
          rintro _ _ ⟨a3, c3, rfl, rfl⟩
          rw [← hln, ← hmp]
          refine s_val rfl (v_assign rfl) (x_nil (n_block (n_then ?_)))
          refine mid_intro (a3, c3) ?_ ?_ ?_
          · trivial
          · repeat (first | exact sub_nil | refine sub_cons rfl ?_)
          · exact inferInstance
        · intro c5
          have hst := pkK_no (p := p) hi1 (by rw [hx]; exact c5)
          refine x_skip (n_block (n_then ?_))
          refine mid_intro (a0, c0) ?_ ?_ ?_
          · trivial
          · rw [hst]
            repeat (first | exact sub_nil | refine sub_cons rfl ?_)
          · rw [hst]
            exact inferInstance
      · intro ⟨a1, c1⟩ _
        refine x_region ?_
        refine s_val rfl (v_add rfl rfl (by first | exact w64 (by omega) | rfl)) ?_
        refine s_val rfl (v_move rfl) (x_nil (n_then ?_))
        refine inv_intro (i + 1, a1, c1) ?_ ?_ ?_ ?_
        · omega
        · omega
        · repeat (first | exact sub_nil | refine sub_cons rfl ?_)
        · exact inferInstance
    · intro c3
      refine x_exit (e_then (e_then (e_block (n_then (x_seq (x_region (s_val rfl (v_move rfl) (s_val rfl (v_assign rfl) (x_nil (n_then (x_ret (x_done (.inl rfl) (.cons (r_tmp rfl) .nil) ?_))))))))))))
      obtain rfl : i = l.length := by omega
      exact ⟨_, ⟨a0, c0, rfl, rfl⟩, inferInstance⟩
theorem keptS_spec (W0 : World) (R : List HP) (a : Option Addr) (c : Nat) (l : List Sec) (fn : FuncId) (cs : List Value) (C : HP) (p : Sec → Bool) (hp : PKl seV W0 fn cs C l p) (hs : ∀ A, SlA (OwnP W0 A) a 2 seV l) (hl : l.length ≤ 1000) :
    Spec Tryz.prog W0 120 [.slice a l.length c, .func (.func fn) #[] cs.toArray] (kH 0 C :: R)
      (fun v B => ∃ a' c', v = .slice a' (l.filter p).length c' ∧ B = osl 117 2 (.slice a' (l.filter p).length c') ((l.filter p).flatMap seV) :: kH 0 C :: R) := by
  have hfl := pkK_filter p l
  obtain ⟨q, hq⟩ : ∃ q, pkK p l l.length = q := ⟨_, rfl⟩
  have hqn : q.length ≤ l.length := by rw [← hq]; exact pkK_len p l _
  have hql : ∀ i ∈ q, i < l.length := by rw [← hq]; exact pkK_lt p l l.length
  rw [hq] at hfl
  rw [← hfl]
  refine spec_body Tryz.func120 Tryz.ntmps120 rfl rfl ?_
  refine x_seq (x_region (s_val rfl (v_assign rfl) (x_nil (n_then (x_seq (x_region (s_val rfl (v_assign rfl) (x_nil (n_then (x_seq (x_seq (x_region (s_val rfl (v_move rfl) (s_val rfl (v_move rfl) (s_do rfl (d_call1 Tryz.call194 rfl (pckS_spec W0 _ a c l fn cs C p hp hs hl)) ?_)))))))))))))))
  rintro _ B_ ⟨a1, c1, rfl, hB_⟩
  obtain rfl := hB_.symm
  rw [hq]
  refine s_val rfl (v_len_slice Tryz.underlying38 rfl) (s_val rfl (v_move rfl) (x_nil (n_then (x_block ?_))))
  refine x_loop (fun X : Nat × Option Addr × Nat => X.1 ≤ q.length) (fun X => [(0, .slice a l.length c), (5, .slice X.2.1 ((q.take X.1).map fun i => l.getD i default).length X.2.2), (10, .slice a1 q.length c1), (11, .int .i64 (q.length : Nat)), (12, .int .i64 X.1)]) (fun X => osl 117 2 (.slice X.2.1 ((q.take X.1).map fun i => l.getD i default).length X.2.2) (((q.take X.1).map fun i => l.getD i default).flatMap seV) :: osl 3 1 (.slice a1 q.length c1) (q.map ixV) :: kH 0 C :: R) (fun X => q.length - X.1) (0, none, 0) ?_ ?_ ?_ ?_
  · exact Nat.zero_le _
  · repeat (first | exact sub_nil | refine sub_cons rfl ?_)
  · exact ent_osl_nil
  · intro ⟨i, a0, c0⟩ hi
    dsimp only at hi ⊢
    refine x_seq (x_region (s_val rfl (v_lss rfl rfl) (x_nil (n_then (x_seq ?_)))))
    refine x_if rfl ?_ ?_
    · intro c3
      refine x_skip (n_then (x_seq (x_block (x_seq ?_))))
      have hi1 : i < q.length := by omega
      have hqi := hql _ (List.getElem_mem hi1)
      obtain ⟨g, o, hga, hc⟩ := (hs []).at_ hqi
      obtain ⟨x, hx⟩ : ∃ x, l[q[i]] = x := ⟨_, rfl⟩
      have hgd : l.getD q[i] default = x := by simp [List.getD, hqi, hx]
      rw [hx] at hc
      have hqe : (q.map ixV)[i]? = some (.int .i64 ((q[i] : Nat) : Int)) := by simp [hi1, ixV]
      have hst : (q.take (i + 1)).map (fun i => l.getD i default) = (q.take i).map (fun i => l.getD i default) ++ [x] := by rw [List.take_succ_eq_append_getElem hi1, List.map_append, List.map_singleton, hgd]
      have hln : ((q.take i).map (fun i => l.getD i default)).length = i := by rw [List.length_map, List.length_take]; omega
      refine run_form (E := 3) (sz := 1) (a := a1) (c := c1) (n := q.length) (ys := q.map ixV) (fun hf => ?_)
      obtain ⟨g1, rfl⟩ := form_some hf (by rw [← List.length_pos_iff, List.length_map]; omega)
      refine x_region ?_
      refine s_val rfl (v_idx Tryz.underlying38 Tryz.sizeOf3 rfl rfl rfl hi1 (by first | exact Nat.zero_add _ | rfl)) ?_
      refine s_val rfl (v_load Tryz.isAgg3 rfl (cell_osl (sz := 1) (E := 3) (n := q.length) (c := c1) (by rw [Nat.mul_one]; exact hqe))) ?_
      refine s_val rfl (v_assign rfl) (x_nil (n_then (x_region (s_val rfl (v_move rfl) (s_val rfl (v_move rfl) (s_val rfl (v_move rfl) ?_))))))
      refine s_val rfl (v_idxA Tryz.underlying30 Tryz.sizeOf117 rfl hga rfl rfl hqi (by first | exact Nat.zero_add _ | rfl)) ?_
      refine s_val rfl (v_loadAgg Tryz.isAgg117 Tryz.sizeOf117 rfl hc.weak rfl) ?_
      refine s_do rfl (d_sliceAgg Tryz.underlying30 Tryz.sizeOf117 Tryz.zeroValue117 rfl (elsK_cons rfl rfl elsK_nil) rfl (by decide) (by decide) (by decide)) ?_
      rintro _ _ ⟨b1, rfl, rfl⟩
      rw [show ([seV x] : List (List Value)).flatten = seV x from List.append_nil _]
      refine s_do rfl (d_append (sz := 2) (by_ := 24) (info := Tryz.t117) Tryz.underlying30 (by kernel_rfl) rfl rfl rfl rfl (by decide) rfl rfl cells_all rfl (by first | exact seV_one x | rfl) (by simp only [maxLen]; omega) (by omega)) ?_
      rintro _ _ ⟨a3, c3, rfl, rfl⟩
      refine run_ent (B := osl 117 2 (.slice a3 ((q.take (i + 1)).map fun i => l.getD i default).length c3) (((q.take (i + 1)).map fun i => l.getD i default).flatMap seV) :: osl 3 1 (.slice (some ⟨g1, 0, none⟩) q.length c1) (q.map ixV) :: kH 0 C :: R) (by rw [hst, List.length_append, List.length_singleton, List.flatMap_append, List.flatMap_singleton]; exact inferInstance) ?_
      rw [show ((q.take i).map fun i => l.getD i default).length + 1 = ((q.take (i + 1)).map fun i => l.getD i default).length by rw [hst, List.length_append]; rfl]
      refine s_val rfl (v_assign rfl) (x_nil (n_block (n_then (x_region ?_))))
      refine s_val rfl (v_add rfl rfl (by first | exact w64 (by omega) | rfl)) ?_
      refine s_val rfl (v_move rfl) (x_nil (n_then ?_))
      refine inv_intro (i + 1, a3, c3) ?_ ?_ ?_ ?_
      · omega
      · omega
      · repeat (first | exact sub_nil | refine sub_cons rfl ?_)
      · exact inferInstance
    · intro c3
      refine x_exit (e_then (e_then (e_block (n_then (x_seq (x_region (s_val rfl (v_move rfl) (s_val rfl (v_assign rfl) (x_nil (n_then (x_ret (x_done (.inl rfl) (.cons (r_tmp rfl) .nil) ?_))))))))))))
      obtain rfl : i = q.length := by omega
      rw [List.take_of_length_le (Nat.le_refl _)]
      exact ⟨_, ⟨a0, c0, rfl, rfl⟩, inferInstance⟩
theorem keptI_spec (W0 : World) (R : List HP) (a : Option Addr) (c : Nat) (l : List Inp) (fn : FuncId) (cs : List Value) (C : HP) (p : Inp → Bool) (hp : PKl inpV W0 fn cs C l p) (hs : ∀ A, SlA (OwnP W0 A) a 5 inpV l) (hl : l.length ≤ 1000) :
    Spec Tryz.prog W0 114 [.slice a l.length c, .func (.func fn) #[] cs.toArray] (kH 0 C :: R)
      (fun v B => ∃ a' c', v = .slice a' (l.filter p).length c' ∧ B = osl 109 5 (.slice a' (l.filter p).length c') ((l.filter p).flatMap inpV) :: kH 0 C :: R) := by
  have hfl := pkK_filter p l
  obtain ⟨q, hq⟩ : ∃ q, pkK p l l.length = q := ⟨_, rfl⟩
  have hqn : q.length ≤ l.length := by rw [← hq]; exact pkK_len p l _
  have hql : ∀ i ∈ q, i < l.length := by rw [← hq]; exact pkK_lt p l l.length
  rw [hq] at hfl
  rw [← hfl]
  refine spec_body Tryz.func114 Tryz.ntmps114 rfl rfl ?_
  refine x_seq (x_region (s_val rfl (v_assign rfl) (x_nil (n_then (x_seq (x_region (s_val rfl (v_assign rfl) (x_nil (n_then (x_seq (x_seq (x_region (s_val rfl (v_move rfl) (s_val rfl (v_move rfl) (s_do rfl (d_call1 Tryz.call193 rfl (pckI_spec W0 _ a c l fn cs C p hp hs hl)) ?_)))))))))))))))
  rintro _ B_ ⟨a1, c1, rfl, hB_⟩
  obtain rfl := hB_.symm
  rw [hq]
  refine s_val rfl (v_len_slice Tryz.underlying38 rfl) (s_val rfl (v_move rfl) (x_nil (n_then (x_block ?_))))
  refine x_loop (fun X : Nat × Option Addr × Nat => X.1 ≤ q.length) (fun X => [(0, .slice a l.length c), (5, .slice X.2.1 ((q.take X.1).map fun i => l.getD i default).length X.2.2), (10, .slice a1 q.length c1), (11, .int .i64 (q.length : Nat)), (12, .int .i64 X.1)]) (fun X => osl 109 5 (.slice X.2.1 ((q.take X.1).map fun i => l.getD i default).length X.2.2) (((q.take X.1).map fun i => l.getD i default).flatMap inpV) :: osl 3 1 (.slice a1 q.length c1) (q.map ixV) :: kH 0 C :: R) (fun X => q.length - X.1) (0, none, 0) ?_ ?_ ?_ ?_
  · exact Nat.zero_le _
  · repeat (first | exact sub_nil | refine sub_cons rfl ?_)
  · exact ent_osl_nil
  · intro ⟨i, a0, c0⟩ hi
    dsimp only at hi ⊢
    refine x_seq (x_region (s_val rfl (v_lss rfl rfl) (x_nil (n_then (x_seq ?_)))))
    refine x_if rfl ?_ ?_
    · intro c3
      refine x_skip (n_then (x_seq (x_block (x_seq ?_))))
      have hi1 : i < q.length := by omega
      have hqi := hql _ (List.getElem_mem hi1)
      obtain ⟨g, o, hga, hc⟩ := (hs []).at_ hqi
      obtain ⟨x, hx⟩ : ∃ x, l[q[i]] = x := ⟨_, rfl⟩
      have hgd : l.getD q[i] default = x := by simp [List.getD, hqi, hx]
      rw [hx] at hc
      have hqe : (q.map ixV)[i]? = some (.int .i64 ((q[i] : Nat) : Int)) := by simp [hi1, ixV]
      have hst : (q.take (i + 1)).map (fun i => l.getD i default) = (q.take i).map (fun i => l.getD i default) ++ [x] := by rw [List.take_succ_eq_append_getElem hi1, List.map_append, List.map_singleton, hgd]
      have hln : ((q.take i).map (fun i => l.getD i default)).length = i := by rw [List.length_map, List.length_take]; omega
      refine run_form (E := 3) (sz := 1) (a := a1) (c := c1) (n := q.length) (ys := q.map ixV) (fun hf => ?_)
      obtain ⟨g1, rfl⟩ := form_some hf (by rw [← List.length_pos_iff, List.length_map]; omega)
      refine x_region ?_
      refine s_val rfl (v_idx Tryz.underlying38 Tryz.sizeOf3 rfl rfl rfl hi1 (by first | exact Nat.zero_add _ | rfl)) ?_
      refine s_val rfl (v_load Tryz.isAgg3 rfl (cell_osl (sz := 1) (E := 3) (n := q.length) (c := c1) (by rw [Nat.mul_one]; exact hqe))) ?_
      refine s_val rfl (v_assign rfl) (x_nil (n_then (x_region (s_val rfl (v_move rfl) (s_val rfl (v_move rfl) (s_val rfl (v_move rfl) ?_))))))
      refine s_val rfl (v_idxA Tryz.underlying31 Tryz.sizeOf109 rfl hga rfl rfl hqi (by first | exact Nat.zero_add _ | rfl)) ?_
      refine s_val rfl (v_loadAgg Tryz.isAgg109 Tryz.sizeOf109 rfl hc.weak rfl) ?_
      refine s_do rfl (d_sliceAgg Tryz.underlying31 Tryz.sizeOf109 Tryz.zeroValue109 rfl (elsK_cons rfl rfl elsK_nil) rfl (by decide) (by decide) (by decide)) ?_
      rintro _ _ ⟨b1, rfl, rfl⟩
      rw [show ([inpV x] : List (List Value)).flatten = inpV x from List.append_nil _]
      refine s_do rfl (d_append (sz := 5) (by_ := 48) (info := Tryz.t109) Tryz.underlying31 (by kernel_rfl) rfl rfl rfl rfl (by decide) rfl rfl cells_all rfl (by first | exact inpV_one x | rfl) (by simp only [maxLen]; omega) (by omega)) ?_
      rintro _ _ ⟨a3, c3, rfl, rfl⟩
      refine run_ent (B := osl 109 5 (.slice a3 ((q.take (i + 1)).map fun i => l.getD i default).length c3) (((q.take (i + 1)).map fun i => l.getD i default).flatMap inpV) :: osl 3 1 (.slice (some ⟨g1, 0, none⟩) q.length c1) (q.map ixV) :: kH 0 C :: R) (by rw [hst, List.length_append, List.length_singleton, List.flatMap_append, List.flatMap_singleton]; exact inferInstance) ?_
      rw [show ((q.take i).map fun i => l.getD i default).length + 1 = ((q.take (i + 1)).map fun i => l.getD i default).length by rw [hst, List.length_append]; rfl]
      refine s_val rfl (v_assign rfl) (x_nil (n_block (n_then (x_region ?_))))
      refine s_val rfl (v_add rfl rfl (by first | exact w64 (by omega) | rfl)) ?_
      refine s_val rfl (v_move rfl) (x_nil (n_then ?_))
      refine inv_intro (i + 1, a3, c3) ?_ ?_ ?_ ?_
      · omega
      · omega
      · repeat (first | exact sub_nil | refine sub_cons rfl ?_)
      · exact inferInstance
    · intro c3
      refine x_exit (e_then (e_then (e_block (n_then (x_seq (x_region (s_val rfl (v_move rfl) (s_val rfl (v_assign rfl) (x_nil (n_then (x_ret (x_done (.inl rfl) (.cons (r_tmp rfl) .nil) ?_))))))))))))
      obtain rfl : i = q.length := by omega
      rw [List.take_of_length_le (Nat.le_refl _)]
      exact ⟨_, ⟨a0, c0, rfl, rfl⟩, inferInstance⟩
end Go.Proofs.YtncegikenkpcmaaGreat
namespace Go.Proofs.YtncegikenkpcmaaGreat
open Go.RowKit
set_option linter.unusedSimpArgs false
set_option linter.unusedVariables false
set_option maxRecDepth 20000
section
variable {P : Program} {S : World → Prop} {W0 : World} {N : FSz} {e : Env} {A R : List HP} {ty t t' : TypeId} {x y : Operand} {b off : Nat} {l l' vs : List Value}
theorem d_copyS {E sz dn dc sn sc m : Nat} {ay : Option Addr} (hu : P.underlying t = some (.slice E)) (hs : ∀ w, (sizeOf E).run P w = .ok sz w) (hx : ev e x = some (.slice (some ⟨b, off, none⟩) dn dc)) (hy : ev e y = some (.slice ay sn sc))
    [h : Tk pt b A (cob l ty) R] (hm : Nat.min sn dn = m) (hsrc : m = 0 ∨ ∃ bx ox, ay = some ⟨bx, ox, none⟩ ∧ Cells (OwnP W0 A) bx ox vs) (hl : vs.length = m * sz) (h1 : allOne vs = true) (ho : off + m * sz ≤ l.length) (hr : setR l off vs = l') :
    Does P W0 N e A (.call { callee := .builtin .copy, args := #[x, y], argTypes := #[t, t'] }) (fun v B => v = .int .i64 m ∧ B = pt b (cob l' ty) :: R) := by
  rcases hsrc with rfl | ⟨bx, ox, rfl, hc⟩
  · have h0 : vs = [] := List.eq_nil_of_length_eq_zero (by simpa using hl)
    subst h0
    have hr' : l = l' := hr
    subst hr'
    intro a w dst ty' pos af g K Q hF hO k
    have hO' := hO.tk (r := pt) (b := b)
    have hexec : (execOp a.eval { dst := dst, op := .call { callee := .builtin .copy, args := #[x, y], argTypes := #[t, t'] }, type := ty', pos := pos, after := af, guard := g }).run P w = .ok (.value (.int .i64 0)) w := by
      have hs' : (sizeOf E).run P w = .ok sz w := hs w
      cases ay <;>
      simp only [execOp, resolve, invoke, builtin, Sem.run_bind, Sem.run_pure, Result.andThen_ok, List.map_toArray, List.map_cons, List.map_nil, hF.eval hx, hF.eval hy, Builtin.copy_, Builtin.lenOf, Builtin.firstCells, run_und hu, hm, Array.getElem?_eq_getElem, List.getElem?_toArray, List.getElem?_cons_zero, List.getElem?_cons_succ, hs', loadCells, loadCellsFrom, Nat.zero_mul, storeCells, goInt] <;> rfl
    unfold Oper.wp
    rw [hexec]
    exact k _ w _ ⟨rfl, rfl⟩ hO'
  · exact d_copy hu hs hx hy hm hc hl h1 ho hr
end
def imgZ : Img := ⟨none, 0, []⟩
def wrdI (s : Scr) (i : Nat) : Img := s.il.getD i imgZ
theorem siWords_spec (W0 : World) (R : List HP) (s : Scr) (h : ScrOk W0 s) (i : Nat) :
    Spec Tryz.prog W0 48 [.agg (scrV s).toArray, .int .i64 i] R (fun v B => v = .slice (wrdI s i).a (wrdI s i).l.length (wrdI s i).c ∧ B = R) := by
  refine spec_body Tryz.func48 Tryz.ntmps48 rfl rfl ?_
  refine x_seq (x_region (s_do rfl (d_boxA rfl) ?_))
  rintro _ _ ⟨b1, rfl, rfl⟩
  refine s_val rfl (v_assign rfl) (x_nil (n_then (x_seq (x_seq (x_region (s_val rfl (v_move rfl) ?_))))))
  refine s_val rfl (v_fieldAddr rfl Tryz.underlying33 rfl Tryz.sizeOf29 rfl (by first | exact Nat.zero_add _ | rfl)) ?_
  refine s_val rfl (v_load Tryz.isAgg29 rfl (cell_own rfl)) ?_
  refine s_val rfl (v_len_slice Tryz.underlying29 rfl) (s_val rfl (v_geq rfl rfl) (x_nil (n_then ?_)))
  refine x_if rfl ?_ ?_
  · intro c1
    refine x_seq (x_region (s_val rfl (v_assign rfl) (x_nil (n_then (x_ret (r_then (x_done (.inl rfl) (.cons (r_tmp rfl) .nil) ?_)))))))
    have he : wrdI s i = imgZ := by rw [wrdI, List.getD, List.getElem?_eq_none (by omega)]; rfl
    rw [he]
    exact ⟨_, ⟨rfl, rfl⟩, inferInstance⟩
  · intro c1
    refine x_skip (n_then (x_seq ?_))
    have hi : i < s.il.length := by omega
    obtain ⟨g, o, hia, hc⟩ := (h.i []).at_ hi
    have he : wrdI s i = s.il[i] := by simp [wrdI, List.getD, hi]
    rw [he]
    refine x_region ?_
    refine s_val rfl (v_fieldAddr rfl Tryz.underlying33 rfl Tryz.sizeOf29 rfl (by first | exact Nat.zero_add _ | rfl)) ?_
    refine s_val rfl (v_load Tryz.isAgg29 rfl (cell_own rfl)) ?_
    refine s_val rfl (v_move rfl) ?_
    refine s_val rfl (v_idxA Tryz.underlying29 Tryz.sizeOf45 rfl hia rfl rfl hi (by first | exact Nat.zero_add _ | rfl)) ?_
    refine s_val rfl (v_load Tryz.isAgg45 rfl (Cells.weak hc 0 _ rfl)) ?_
    refine s_val rfl (v_assign rfl) (x_nil (n_then (x_ret (x_done (.inl rfl) (.cons (r_tmp rfl) .nil) ?_))))
    exact ⟨_, ⟨rfl, rfl⟩, inferInstance⟩
theorem wrdI_ok {W0 : World} {s : Scr} (h : ScrOk W0 s) (i : Nat) : (∀ A, SlA (OwnP W0 A) (wrdI s i).a 1 (fun x => [wV x]) (wrdI s i).l) ∧ (wrdI s i).l.length ≤ (wrdI s i).c ∧ (∀ w ∈ (wrdI s i).l, w < 4294967296) ∧ (wrdI s i).l.length < 9223372036854775808 := by
  rcases Nat.lt_or_ge i s.il.length with q | q
  · have he : wrdI s i = s.il[i] := by simp [wrdI, List.getD, q]
    rw [he]
    have hm := List.getElem_mem q
    exact ⟨h.w _ hm, (h.wl _ hm).1, h.wb _ hm, (h.wl _ hm).2⟩
  · have he : wrdI s i = imgZ := by rw [wrdI, List.getD, List.getElem?_eq_none q]; rfl
    rw [he]
    exact ⟨fun A => sla_nil, Nat.le_refl _, fun w hw => by simp [imgZ] at hw, by decide⟩
theorem wV_fm (l : List Nat) : (l.flatMap fun x => [wV x]) = l.map wV := by
  induction l with
  | nil => rfl
  | cons x l ih => rw [List.flatMap_cons, ih]; rfl
theorem wV_one (l : List Nat) : allOne (l.map wV) = true := by
  simp only [allOne, List.all_map, List.all_eq_true]; intro x _; rfl
theorem imCut_spec (W0 : World) (R : List HP) (a : Option Addr) (c : Nat) (l : List Nat) (hs : ∀ A, SlA (OwnP W0 A) a 1 (fun x => [wV x]) l) (hl : l.length < 9223372036854775808) :
    Spec Tryz.prog W0 47 [.slice a l.length c, .int .i64 8] R (fun v B => ∃ b, v = .slice (some ⟨b, 0, none⟩) (l.take 128).length (l.take 128).length ∧ B = pt b (cob ((l.take 128).map wV) 47) :: R) := by
  have hlen : (l.take 128).length = min 128 l.length := List.length_take
  refine spec_body Tryz.func47 Tryz.ntmps47 rfl rfl ?_
  refine x_seq (x_region (s_val rfl (v_assign rfl) (x_nil (n_then (x_seq (x_region (s_val rfl (v_move rfl) (s_val rfl (v_min rfl rfl rfl) ?_))))))))
  refine s_val rfl (v_max rfl rfl rfl) ?_
  refine s_val rfl (v_mul rfl rfl (by first | exact w64 (by omega) | rfl)) ?_
  refine s_val rfl (v_assign rfl) (x_nil (n_then ?_))
  refine x_cut (fun n : Nat => n = (l.take 128).length) (fun n => [(0, .slice a l.length c), (5, .int .i64 n)]) (fun _ => R) ?_ ?_
  · skip
    refine x_seq (x_region (s_val rfl (v_move rfl) (s_val rfl (v_move rfl) (s_val rfl (v_len_slice Tryz.underlying45 rfl) (s_val rfl (v_geq rfl rfl) (x_nil (n_then ?_)))))))
    refine x_if rfl ?_ ?_
    · intro c2
      refine x_region (s_val rfl (v_move rfl) (s_val rfl (v_len_slice Tryz.underlying45 rfl) (s_val rfl (v_assign rfl) (x_nil (n_then ?_)))))
      refine mid_intro l.length ?_ ?_ ?_
      · rw [hlen]; omega
      · repeat (first | exact sub_nil | refine sub_cons rfl ?_)
      · exact inferInstance
    · intro c2
      refine x_skip (n_then ?_)
      refine mid_intro (128 : Nat) ?_ ?_ ?_
      · rw [hlen]; omega
      · repeat (first | exact sub_nil | refine sub_cons rfl ?_)
      · exact inferInstance
  · intro n hn
    refine x_seq (x_region (s_val rfl (v_move rfl) ?_))
    refine s_do rfl (d_make (sz := 1) (by_ := 4) (info := Tryz.t47) Tryz.underlying45 (by kernel_rfl) rfl rfl rfl rfl (by decide) rfl rfl (n := n) rfl rfl (by omega) (by decide)) ?_
    rintro _ _ ⟨b, rfl, rfl⟩
    refine s_val rfl (v_assign rfl) (x_nil (n_then (x_seq ?_)))
    subst hn
    refine x_region (s_val rfl (v_move rfl) (s_val rfl (v_move rfl) ?_))
    refine s_do rfl (d_copyS (m := (l.take 128).length) (vs := (l.take 128).map wV) (l' := (l.take 128).map wV) Tryz.underlying45 Tryz.sizeOf47 rfl rfl (Nat.min_eq_right (by rw [hlen]; omega)) (by
  rcases Nat.eq_zero_or_pos (l.take 128).length with q | q
  · exact .inl q
  · obtain ⟨bx, ox, ha, hc⟩ := ((hs _).take 128).all (by intro q2; rw [q2] at q; simp at q) (fun _ => rfl)
    rw [wV_fm] at hc
    exact .inr ⟨bx, ox, ha, hc⟩) (by rw [List.length_map, Nat.mul_one]) (wV_one _) (by rw [List.length_replicate]; omega) (by
  have := setR_all ((l.take 128).map wV) (List.replicate ((l.take 128).length * 1) (.int .u32 0)) [] (by rw [List.length_map, List.length_replicate, Nat.mul_one])
  simpa using this)) ?_
    rintro _ B_ ⟨rfl, hB_⟩
    obtain rfl := hB_.symm
    refine x_nil (n_then (x_seq (x_region (s_val rfl (v_move rfl) (s_val rfl (v_assign rfl) (x_nil (n_then (x_ret (x_done (.inl rfl) (.cons (r_tmp rfl) .nil) ?_)))))))))
    exact ⟨_, ⟨b, rfl, rfl⟩, inferInstance⟩
def begK (l : List Sec) (at_ : Int) : Nat → List Nat
  | 0 => ftB ⟨#[]⟩ 16
  | i + 1 => if (l.getD i default).at_ = at_ then ftB (l.getD i default).d 16 else begK l at_ i
def begS (s : Scr) (at_ : Int) : List Nat := begK s.sl at_ s.sl.length
theorem begK_ok (l : List Sec) (at_ : Int) : ∀ i, (begK l at_ i).length = 16 ∧ By (begK l at_ i)
  | 0 => ftB_ok _ _
  | i + 1 => by
    rw [begK]; split
    · exact ftB_ok _ _
    · exact begK_ok l at_ i
theorem siBegins_spec (W0 : World) (R : List HP) (s : Scr) (h : ScrOk W0 s) (at_ : Int) (hl : s.sl.length ≤ 1000) :
    Spec Tryz.prog W0 53 [.agg (scrV s).toArray, .int .i64 at_] R (fun v B => ∃ b, v = .slice (some ⟨b, 0, none⟩) 16 16 ∧ B = pt b (cob (byV (begS s at_)) 5) :: R) := by
  refine spec_body Tryz.func53 Tryz.ntmps53 rfl rfl ?_
  refine x_seq (x_region (s_do rfl (d_boxA rfl) ?_))
  rintro _ _ ⟨b1, rfl, rfl⟩
  refine s_val rfl (v_assign rfl) (x_nil (n_then (x_seq (x_region ?_))))
  refine s_do rfl (d_call Tryz.call84 rfl (octFit_spec W0 _ ⟨#[]⟩ 16 (by decide))) ?_
  rintro _ B_ ⟨bf, rfl, hB_⟩
  obtain rfl := hB_.symm
  refine s_val rfl (v_assign rfl) (x_nil (n_then (x_seq (x_seq (x_region ?_)))))
  refine s_val rfl (v_fieldAddr rfl Tryz.underlying33 rfl Tryz.sizeOf30 rfl (by first | exact Nat.zero_add _ | rfl)) ?_
  refine s_val rfl (v_load Tryz.isAgg30 rfl (cell_own rfl)) ?_
  refine s_val rfl (v_len_slice Tryz.underlying30 rfl) (s_val rfl (v_move rfl) (x_nil (n_then (x_block ?_))))
  refine x_loop (fun X : Nat × Nat => X.1 ≤ s.sl.length) (fun X => [(1, .int .i64 at_), (5, .slice (some ⟨X.2, 0, none⟩) 16 16), (10, .slice s.sa s.sl.length s.sc), (11, .int .i64 (s.sl.length : Nat)), (12, .int .i64 X.1)]) (fun X => pt X.2 (cob (byV (begK s.sl at_ X.1)) 5) :: R) (fun X => s.sl.length - X.1) (0, bf) ?_ ?_ ?_ ?_
  · exact Nat.zero_le _
  · repeat (first | exact sub_nil | refine sub_cons rfl ?_)
  · show Ent _ (pt bf (cob (byV (ftB ⟨#[]⟩ 16)) 5) :: R)
    exact inferInstance
  · intro ⟨i, b⟩ hi
    dsimp only at hi ⊢
    refine x_seq (x_region (s_val rfl (v_lss rfl rfl) (x_nil (n_then (x_seq ?_)))))
    refine x_if rfl ?_ ?_
    · intro c3
      refine x_skip (n_then ?_)
      refine x_cut (fun b2 : Nat => True) (fun b2 => [(1, .int .i64 at_), (5, .slice (some ⟨b2, 0, none⟩) 16 16), (10, .slice s.sa s.sl.length s.sc), (11, .int .i64 (s.sl.length : Nat)), (12, .int .i64 i)]) (fun b2 => pt b2 (cob (byV (begK s.sl at_ (i + 1))) 5) :: R) ?_ ?_
      · skip
        refine x_block (x_seq ?_)
        have hi1 : i < s.sl.length := by omega
        obtain ⟨g, o, hsa, hc⟩ := (h.sx []).at_ hi1
        obtain ⟨x, hx⟩ : ∃ x, s.sl[i] = x := ⟨_, rfl⟩
        have hgd : s.sl.getD i default = x := by simp [List.getD, hi1, hx]
        have hst : begK s.sl at_ (i + 1) = if x.at_ = at_ then ftB x.d 16 else begK s.sl at_ i := by rw [begK, hgd]
        rw [hx] at hc
        refine x_region ?_
        refine s_val rfl (v_idxA Tryz.underlying30 Tryz.sizeOf117 rfl hsa rfl rfl hi1 (by first | exact Nat.zero_add _ | rfl)) ?_
        refine s_val rfl (v_loadAgg Tryz.isAgg117 Tryz.sizeOf117 rfl hc.weak rfl) ?_
        refine s_do rfl (d_allocA Tryz.zeroValue117) ?_
        rintro _ _ ⟨bx, rfl, rfl⟩
        refine s_do0 (d_storeAll Tryz.sizeOf117 rfl rfl rfl rfl rfl) ?_
        rintro _ _ rfl
        refine x_nil (n_then (x_seq (x_region ?_)))
        refine s_val rfl (v_fieldAddr rfl Tryz.underlying117 rfl Tryz.sizeOf3 rfl (by first | exact Nat.zero_add _ | rfl)) ?_
        refine s_val rfl (v_load Tryz.isAgg3 rfl (cell_own rfl)) ?_
        refine s_val rfl (v_move rfl) (s_val rfl (v_eql rfl rfl) (x_nil (n_then ?_)))
        refine x_if rfl ?_ ?_
        · intro c5
          refine x_region ?_
          refine s_val rfl (v_fieldAddr rfl Tryz.underlying117 rfl Tryz.sizeOf9 rfl (by first | exact Nat.zero_add _ | rfl)) ?_
          refine s_val rfl (v_load Tryz.isAgg9 rfl (cell_own rfl)) ?_
          refine s_do rfl (d_call Tryz.call84 rfl (octFit_spec W0 _ x.d 16 (by decide))) ?_
          rintro _ B_ ⟨b2, rfl, hB_⟩
          obtain rfl := hB_.symm
          refine s_val rfl (v_assign rfl) (x_nil (n_block (n_then ?_)))
          refine mid_intro b2 ?_ ?_ ?_
          · trivial
          · repeat (first | exact sub_nil | refine sub_cons rfl ?_)
          · rw [hst, if_pos c5]; exact inferInstance
        · intro c5
          refine x_skip (n_block (n_then ?_))
          refine mid_intro b ?_ ?_ ?_
          · trivial
          · repeat (first | exact sub_nil | refine sub_cons rfl ?_)
          · rw [hst, if_neg c5]; exact inferInstance
      · intro b2 _
        refine x_region ?_
        refine s_val rfl (v_add rfl rfl (by first | exact w64 (by omega) | rfl)) ?_
        refine s_val rfl (v_move rfl) (x_nil (n_then ?_))
        refine inv_intro (i + 1, b2) ?_ ?_ ?_ ?_
        · omega
        · omega
        · repeat (first | exact sub_nil | refine sub_cons rfl ?_)
        · exact inferInstance
    · intro c3
      refine x_exit (e_then (e_then (e_block (n_then (x_seq (x_region (s_val rfl (v_move rfl) (s_val rfl (v_assign rfl) (x_nil (n_then (x_ret (x_done (.inl rfl) (.cons (r_tmp rfl) .nil) ?_))))))))))))
      obtain rfl : i = s.sl.length := by omega
      unfold begS
      exact ⟨_, ⟨b, rfl, rfl⟩, inferInstance⟩
def cntB (g : Int) (x : Inp) : Bool := decide (x.g = g ∧ 0 ≤ x.k ∧ x.k ≤ 2)
theorem coming1_pk (W0 : World) (bg : Nat) (g : Int) (l : List Inp) : PKl inpV W0 115 [.pointer (some ⟨bg, 0, none⟩)] (grp [pt bg (cob [.int .i64 g] 3)]) l (cntB g) := ⟨Tryz.call115, fun x _ R => by
  refine spec_kgrp ?_
  simp only [List.cons_append, List.nil_append]
  refine spec_body Tryz.func115 Tryz.ntmps115 rfl rfl ?_
  refine x_seq (x_region (s_do rfl (d_boxA rfl) ?_))
  rintro _ _ ⟨bx, rfl, rfl⟩
  refine s_val rfl (v_assign rfl) (x_nil (n_then (x_seq (x_region ?_))))
  refine s_val rfl (v_fieldAddr rfl Tryz.underlying109 rfl Tryz.sizeOf3 rfl (by first | exact Nat.zero_add _ | rfl)) ?_
  refine s_val rfl (v_load Tryz.isAgg3 rfl (cell_own rfl)) ?_
  refine s_val rfl (v_load Tryz.isAgg3 rfl (cell_own rfl)) ?_
  refine s_val rfl (v_eql rfl rfl) (s_val rfl (v_move rfl) ?_)
  refine s_and rfl rfl rfl ?_ ?_
  · intro g1_5
    refine s_val rfl (v_fieldAddr rfl Tryz.underlying109 rfl Tryz.sizeOf3 rfl (by first | exact Nat.zero_add _ | rfl)) ?_
    refine s_yes rfl rfl (s_val rfl (v_load Tryz.isAgg3 rfl (cell_own rfl)) ?_)
    refine s_yes rfl rfl (s_val rfl (v_geq rfl rfl) (s_val rfl (v_pick_t rfl rfl) (s_val rfl (v_move rfl) ?_)))
    refine s_and rfl rfl rfl ?_ ?_
    · intro g1_10
      refine s_val rfl (v_fieldAddr rfl Tryz.underlying109 rfl Tryz.sizeOf3 rfl (by first | exact Nat.zero_add _ | rfl)) ?_
      refine s_yes rfl rfl (s_val rfl (v_load Tryz.isAgg3 rfl (cell_own rfl)) ?_)
      refine s_yes rfl rfl (s_val rfl (v_leq rfl rfl) (s_val rfl (v_pick_t rfl rfl) (s_val rfl (v_assign rfl) (x_nil (n_then (x_ret (x_done (.inl rfl) (.cons (r_tmp rfl) .nil) ?_)))))))
      refine ⟨_, ⟨?_, rfl⟩, ?_⟩
      · refine congrArg Value.bool ?_
        rw [Bool.eq_iff_iff, cntB, decide_eq_true_iff]
        first
          | (rw [decide_eq_true_iff]; constructor <;> (intro q; omega))
          | (constructor
             · intro q; first | omega | (cases q)
             · intro q; omega)
      · exact inferInstance
    · intro g1_10
      refine s_no rfl rfl rfl rfl (s_no rfl rfl rfl rfl (s_val rfl (v_pick_f rfl rfl) (s_val rfl (v_assign rfl) (x_nil (n_then (x_ret (x_done (.inl rfl) (.cons (r_tmp rfl) .nil) ?_)))))))
      refine ⟨_, ⟨?_, rfl⟩, ?_⟩
      · refine congrArg Value.bool ?_
        rw [Bool.eq_iff_iff, cntB, decide_eq_true_iff]
        first
          | (rw [decide_eq_true_iff]; constructor <;> (intro q; omega))
          | (constructor
             · intro q; first | omega | (cases q)
             · intro q; omega)
      · exact inferInstance
  · intro g1_5
    refine s_no rfl rfl rfl rfl (s_no rfl rfl rfl rfl (s_val rfl (v_pick_f rfl rfl) (s_val rfl (v_move rfl) (s_no rfl rfl rfl rfl (s_no rfl rfl rfl rfl (s_no rfl rfl rfl rfl (s_val rfl (v_pick_f rfl rfl) (s_val rfl (v_assign rfl) (x_nil (n_then (x_ret (x_done (.inl rfl) (.cons (r_tmp rfl) .nil) ?_))))))))))))
    refine ⟨_, ⟨?_, rfl⟩, ?_⟩
    · refine congrArg Value.bool ?_
      rw [Bool.eq_iff_iff, cntB, decide_eq_true_iff]
      first
        | (rw [decide_eq_true_iff]; constructor <;> (intro q; omega))
        | (constructor
           · intro q; first | omega | (cases q)
           · intro q; omega)
    · exact inferInstance
  ⟩
def comS (s : Scr) (g : Int) : List Inp := s.nl.filter (cntB g)
theorem siComing_spec (W0 : World) (R : List HP) (s : Scr) (h : ScrOk W0 s) (g : Int) (hl : s.nl.length ≤ 1000) :
    Spec Tryz.prog W0 51 [.agg (scrV s).toArray, .int .i64 g] R (fun v B => ∃ a c, v = .slice a (comS s g).length c ∧ B = osl 109 5 (.slice a (comS s g).length c) ((comS s g).flatMap inpV) :: R) := by
  refine spec_body Tryz.func51 Tryz.ntmps51 rfl rfl ?_
  refine x_seq (x_region (s_do rfl (d_boxA rfl) ?_))
  rintro _ _ ⟨b1, rfl, rfl⟩
  refine s_do rfl (d_box rfl rfl) ?_
  rintro _ _ ⟨bg, rfl, rfl⟩
  refine s_val rfl (v_assign rfl) (x_nil (n_then (x_seq (x_region ?_))))
  refine s_val rfl (v_fieldAddr rfl Tryz.underlying33 rfl Tryz.sizeOf31 rfl (by first | exact Nat.zero_add _ | rfl)) ?_
  refine s_val rfl (v_load Tryz.isAgg31 rfl (cell_own rfl)) ?_
  refine s_val rfl (v_mkFunc rfl rfl) ?_
  refine s_do rfl (does_ent (B := kH 0 (grp [pt bg (cob [.int .i64 g] 3)]) :: R) inferInstance (d_call Tryz.call114 rfl (keptI_spec W0 R s.na s.nc s.nl 115 [.pointer (some ⟨bg, 0, none⟩)] _ (cntB g) (coming1_pk W0 bg g s.nl) h.n hl))) ?_
  rintro _ B_ ⟨a, c, rfl, hB_⟩
  obtain rfl := hB_.symm
  refine s_val rfl (v_assign rfl) (x_nil (n_then (x_ret (x_done (.inl rfl) (.cons (r_tmp rfl) .nil) ?_))))
  unfold comS
  exact ⟨_, ⟨a, c, rfl, rfl⟩, inferInstance⟩
def eqLs {α : Type} (q : α → α → Bool) : List α → List α → Bool
  | [], [] => true
  | x :: xs, y :: ys => q x y && eqLs q xs ys
  | _, _ => false
theorem eqLs_len {α : Type} {q : α → α → Bool} : ∀ {xs ys : List α}, xs.length ≠ ys.length → eqLs q xs ys = false
  | [], [], h => absurd rfl h
  | x :: xs, y :: ys, h => by rw [eqLs, eqLs_len (by simpa using h), Bool.and_false]
  | [], y :: ys, _ => rfl
  | x :: xs, [], _ => rfl
theorem eqLs_drop {α : Type} {q : α → α → Bool} : ∀ {xs ys : List α} (i : Nat) (h1 : i < xs.length) (h2 : i < ys.length), eqLs q (xs.drop i) (ys.drop i) = (q xs[i] ys[i] && eqLs q (xs.drop (i + 1)) (ys.drop (i + 1))) := by
  intro xs ys i h1 h2
  rw [List.drop_eq_getElem_cons h1, List.drop_eq_getElem_cons h2, eqLs]
def eqN (x y : Nat) : Bool := decide (x = y)
def eqI (x y : Inp) : Bool := x.at_ == y.at_ && (x.g == y.g && (x.k == y.k && (x.code == y.code && (x.d.toList == y.d.toList && true))))
theorem eqU_spec (W0 : World) (R : List HP) (b1 b2 n1 n2 k1 k2 : Nat) (l1 l2 : List Nat) (h1 : l1.length = n1) (h2 : l2.length = n2) (hl : n1 ≤ 1000) :
    Spec Tryz.prog W0 49 [.slice (some ⟨b1, 0, none⟩) n1 k1, .slice (some ⟨b2, 0, none⟩) n2 k2] (pt b1 (cob (l1.map wV) 47) :: pt b2 (cob (l2.map wV) 47) :: R) (fun v B => v = .bool (eqLs eqN l1 l2) ∧ B = pt b1 (cob (l1.map wV) 47) :: pt b2 (cob (l2.map wV) 47) :: R) := by
  subst h1; subst h2
  refine spec_body Tryz.func49 Tryz.ntmps49 rfl rfl ?_
  refine x_seq (x_region (s_val rfl (v_assign rfl) (x_nil (n_then (x_seq (x_seq (x_region (s_val rfl (v_move rfl) (s_val rfl (v_len_slice Tryz.underlying45 rfl) (s_val rfl (v_move rfl) (s_val rfl (v_len_slice Tryz.underlying45 rfl) (s_val rfl (v_neq rfl rfl) (x_nil (n_then ?_))))))))))))))
  refine x_if rfl ?_ ?_
  · intro c1
    refine x_seq (x_region (s_val rfl (v_assign rfl) (x_nil (n_then (x_ret (r_then (x_done (.inl rfl) (.cons (r_tmp rfl) .nil) ?_)))))))
    rw [eqLs_len (by omega)]
    exact ⟨_, ⟨rfl, rfl⟩, inferInstance⟩
  · intro c1
    refine x_skip (n_then (x_seq (x_seq (x_region (s_val rfl (v_move rfl) (s_val rfl (v_len_slice Tryz.underlying45 rfl) (s_val rfl (v_move rfl) (x_nil (n_then (x_block ?_))))))))))
    refine x_loop (fun i : Nat => i ≤ l1.length ∧ l1.length = l2.length ∧ eqLs eqN l1 l2 = eqLs eqN (l1.drop i) (l2.drop i)) (fun i => [(0, .slice (some ⟨b1, 0, none⟩) l1.length k1), (1, .slice (some ⟨b2, 0, none⟩) l2.length k2), (12, .int .i64 l1.length), (13, .int .i64 i)]) (fun _ => pt b1 (cob (l1.map wV) 47) :: pt b2 (cob (l2.map wV) 47) :: R) (fun i => l1.length - i) 0 ?_ ?_ ?_ ?_
    · exact ⟨Nat.zero_le _, by omega, rfl⟩
    · repeat (first | exact sub_nil | refine sub_cons rfl ?_)
    · exact inferInstance
    · intro i ⟨hi, hn, hI⟩
      refine x_seq (x_region (s_val rfl (v_lss rfl rfl) (x_nil (n_then (x_seq ?_)))))
      refine x_if rfl ?_ ?_
      · intro c4
        refine x_skip (n_then (x_seq (x_block (x_seq ?_))))
        have hi1 : i < l1.length := by omega
        have hi2 : i < l2.length := by omega
        have hst := eqLs_drop (q := eqN) i hi1 hi2
        refine x_region (s_val rfl (v_move rfl) (s_val rfl (v_assign rfl) (x_nil (n_then (x_seq ?_)))))
        refine x_draw [(b1, 0, _), (b2, 0, _)] 9 mixed rfl (sc_own (sc_own sc_end)) (fun hS => ?_)
        refine d_take 0 rfl rfl (by kernel_rfl) (by kernel_rfl) (by kernel_rfl) rfl hS (v_move rfl) ?_
        refine d_take 1 rfl rfl (by kernel_rfl) (by kernel_rfl) (by kernel_rfl) rfl hS (v_move rfl) ?_
        refine d_take 2 rfl rfl (by kernel_rfl) (by kernel_rfl) (by kernel_rfl) rfl hS (v_idx Tryz.underlying45 Tryz.sizeOf47 rfl rfl rfl hi1 (by first | exact Nat.zero_add _ | rfl)) ?_
        refine d_take 3 rfl rfl (by kernel_rfl) (by kernel_rfl) (by kernel_rfl) rfl hS (v_load Tryz.isAgg47 rfl (cell_sc0 (k := 0) rfl (show (l1.map wV)[i * 1]? = some (wV l1[i]) by rw [Nat.mul_one]; simp [hi1]))) ?_
        refine d_take 4 rfl rfl (by kernel_rfl) (by kernel_rfl) (by kernel_rfl) rfl hS (v_move rfl) ?_
        refine d_take 5 rfl rfl (by kernel_rfl) (by kernel_rfl) (by kernel_rfl) rfl hS (v_move rfl) ?_
        refine d_take 6 rfl rfl (by kernel_rfl) (by kernel_rfl) (by kernel_rfl) rfl hS (v_idx Tryz.underlying45 Tryz.sizeOf47 rfl rfl rfl hi2 (by first | exact Nat.zero_add _ | rfl)) ?_
        refine d_take 7 rfl rfl (by kernel_rfl) (by kernel_rfl) (by kernel_rfl) rfl hS (v_load Tryz.isAgg47 rfl (cell_sc0 (k := 1) rfl (show (l2.map wV)[i * 1]? = some (wV l2[i]) by rw [Nat.mul_one]; simp [hi2]))) ?_
        refine d_take 8 rfl rfl (by kernel_rfl) (by kernel_rfl) (by kernel_rfl) rfl hS (v_neq rfl rfl) ?_
        refine d_done (by kernel_rfl) ?_; clear hS
        refine n_then ?_
        refine x_if rfl ?_ ?_
        · intro c6
          refine x_seq (x_region (s_val rfl (v_assign rfl) (x_nil (n_then (x_ret (r_block (r_then (r_then (r_block (r_then (x_done (.inl rfl) (.cons (r_tmp rfl) .nil) ?_)))))))))))
          have hne : eqN l1[i] l2[i] = false := decide_eq_false (by omega)
          rw [hI, hst, hne, Bool.false_and]
          exact ⟨_, ⟨rfl, rfl⟩, inferInstance⟩
        · intro c6
          refine x_skip (n_block (n_then (x_region ?_)))
          refine s_val rfl (v_add rfl rfl (by first | exact w64 (by omega) | rfl)) ?_
          refine s_val rfl (v_move rfl) (x_nil (n_then ?_))
          refine inv_intro (i + 1) ?_ ?_ ?_ ?_
          · have hne : eqN l1[i] l2[i] = true := decide_eq_true (by omega)
            refine ⟨by omega, hn, ?_⟩
            rw [hI, hst, hne, Bool.true_and]
          · omega
          · repeat (first | exact sub_nil | refine sub_cons rfl ?_)
          · exact inferInstance
      · intro c4
        refine x_exit (e_then (e_then (e_block (n_then (x_seq (x_region (s_val rfl (v_assign rfl) (x_nil (n_then (x_ret (x_done (.inl rfl) (.cons (r_tmp rfl) .nil) ?_)))))))))))
        obtain rfl : i = l1.length := by omega
        rw [hI, List.drop_length, List.drop_of_length_le (by omega)]
        exact ⟨_, ⟨rfl, rfl⟩, inferInstance⟩
theorem eqInp_spec (W0 : World) (R : List HP) (a1 a2 : Option Addr) (n1 n2 k1 k2 : Nat) (l1 l2 : List Inp) (h1 : l1.length = n1) (h2 : l2.length = n2) (hl : n1 ≤ 1000) (hs1 : SlA (OwnP W0 R) a1 5 inpV l1) (hs2 : SlA (OwnP W0 R) a2 5 inpV l2) :
    Spec Tryz.prog W0 50 [.slice a1 n1 k1, .slice a2 n2 k2] R (fun v B => v = .bool (eqLs eqI l1 l2) ∧ B = R) := by
  subst h1; subst h2
  refine spec_body Tryz.func50 Tryz.ntmps50 rfl rfl ?_
  refine x_seq (x_region (s_val rfl (v_assign rfl) (x_nil (n_then (x_seq (x_seq (x_region (s_val rfl (v_move rfl) (s_val rfl (v_len_slice Tryz.underlying31 rfl) (s_val rfl (v_move rfl) (s_val rfl (v_len_slice Tryz.underlying31 rfl) (s_val rfl (v_neq rfl rfl) (x_nil (n_then ?_))))))))))))))
  refine x_if rfl ?_ ?_
  · intro c1
    refine x_seq (x_region (s_val rfl (v_assign rfl) (x_nil (n_then (x_ret (r_then (x_done (.inl rfl) (.cons (r_tmp rfl) .nil) ?_)))))))
    rw [eqLs_len (by omega)]
    exact ⟨_, ⟨rfl, rfl⟩, inferInstance⟩
  · intro c1
    refine x_skip (n_then (x_seq (x_seq (x_region (s_val rfl (v_move rfl) (s_val rfl (v_len_slice Tryz.underlying31 rfl) (s_val rfl (v_move rfl) (x_nil (n_then (x_block ?_))))))))))
    refine x_loop (fun i : Nat => i ≤ l1.length ∧ l1.length = l2.length ∧ eqLs eqI l1 l2 = eqLs eqI (l1.drop i) (l2.drop i)) (fun i => [(0, .slice a1 l1.length k1), (1, .slice a2 l2.length k2), (12, .int .i64 l1.length), (13, .int .i64 i)]) (fun _ => R) (fun i => l1.length - i) 0 ?_ ?_ ?_ ?_
    · exact ⟨Nat.zero_le _, by omega, rfl⟩
    · repeat (first | exact sub_nil | refine sub_cons rfl ?_)
    · exact inferInstance
    · intro i ⟨hi, hn, hI⟩
      refine x_seq (x_region (s_val rfl (v_lss rfl rfl) (x_nil (n_then (x_seq ?_)))))
      refine x_if rfl ?_ ?_
      · intro c4
        refine x_skip (n_then (x_seq (x_block (x_seq ?_))))
        have hi1 : i < l1.length := by omega
        have hi2 : i < l2.length := by omega
        have hst := eqLs_drop (q := eqI) i hi1 hi2
        obtain ⟨g1, o1, ha1, hc1⟩ := hs1.at_ hi1
        obtain ⟨g2, o2, ha2, hc2⟩ := hs2.at_ hi2
        obtain ⟨x, hx⟩ : ∃ x, l1[i] = x := ⟨_, rfl⟩
        obtain ⟨y, hy⟩ : ∃ y, l2[i] = y := ⟨_, rfl⟩
        rw [hx] at hc1 hst
        rw [hy] at hc2 hst
        refine x_region (s_val rfl (v_move rfl) (s_val rfl (v_assign rfl) (x_nil (n_then (x_seq ?_)))))
        refine x_draw [(g1, o1 + i * 5, inpV x), (g2, o2 + i * 5, inpV y)] 9 mixed rfl (sc_cons hc1.weak (sc_cons hc2.weak sc_end)) (fun hS => ?_)
        refine d_take 0 rfl rfl (by kernel_rfl) (by kernel_rfl) (by kernel_rfl) rfl hS (v_move rfl) ?_
        refine d_take 1 rfl rfl (by kernel_rfl) (by kernel_rfl) (by kernel_rfl) rfl hS (v_move rfl) ?_
        refine d_take 2 rfl rfl (by kernel_rfl) (by kernel_rfl) (by kernel_rfl) rfl hS (v_idxA Tryz.underlying31 Tryz.sizeOf109 rfl ha1 rfl rfl hi1 (by first | exact Nat.zero_add _ | rfl)) ?_
        refine d_take 3 rfl rfl (by kernel_rfl) (by kernel_rfl) (by kernel_rfl) rfl hS (v_loadAgg Tryz.isAgg109 Tryz.sizeOf109 rfl (cells_sc (k := 0) rfl) rfl) ?_
        refine d_take 4 rfl rfl (by kernel_rfl) (by kernel_rfl) (by kernel_rfl) rfl hS (v_move rfl) ?_
        refine d_take 5 rfl rfl (by kernel_rfl) (by kernel_rfl) (by kernel_rfl) rfl hS (v_move rfl) ?_
        refine d_take 6 rfl rfl (by kernel_rfl) (by kernel_rfl) (by kernel_rfl) rfl hS (v_idxA Tryz.underlying31 Tryz.sizeOf109 rfl ha2 rfl rfl hi2 (by first | exact Nat.zero_add _ | rfl)) ?_
        refine d_take 7 rfl rfl (by kernel_rfl) (by kernel_rfl) (by kernel_rfl) rfl hS (v_loadAgg Tryz.isAgg109 Tryz.sizeOf109 rfl (cells_sc (k := 1) rfl) rfl) ?_
        refine d_take 8 rfl rfl (by kernel_rfl) (by kernel_rfl) (by kernel_rfl) rfl hS (v_neq_agg Tryz.eqGuardType109 rfl rfl (q_struct Tryz.underlying109 Tryz.stoodInHeld109 (qf_scal rfl Tryz.isAgg3 rfl rfl (q_int Tryz.underlying3) (qf_scal rfl Tryz.isAgg3 rfl rfl (q_int Tryz.underlying3) (qf_scal rfl Tryz.isAgg3 rfl rfl (q_int Tryz.underlying3) (qf_scal rfl Tryz.isAgg3 rfl rfl (q_int Tryz.underlying3) (qf_scal rfl Tryz.isAgg9 rfl rfl (q_str Tryz.underlying9) qf_nil))))))) ?_
        refine d_done (by kernel_rfl) ?_; clear hS
        refine n_then ?_
        refine x_if rfl ?_ ?_
        · intro c6
          have hne : eqI x y = false := by first | exact c6 | simpa [eqI] using c6
          refine x_seq (x_region (s_val rfl (v_assign rfl) (x_nil (n_then (x_ret (r_block (r_then (r_then (r_block (r_then (x_done (.inl rfl) (.cons (r_tmp rfl) .nil) ?_)))))))))))
          rw [hI, hst, hne, Bool.false_and]
          exact ⟨_, ⟨rfl, rfl⟩, inferInstance⟩
        · intro c6
          have hne : eqI x y = true := by first | exact c6 | simpa [eqI] using c6
          refine x_skip (n_block (n_then (x_region ?_)))
          refine s_val rfl (v_add rfl rfl (by first | exact w64 (by omega) | rfl)) ?_
          refine s_val rfl (v_move rfl) (x_nil (n_then ?_))
          refine inv_intro (i + 1) ?_ ?_ ?_ ?_
          · refine ⟨by omega, hn, ?_⟩
            rw [hI, hst, hne, Bool.true_and]
          · omega
          · repeat (first | exact sub_nil | refine sub_cons rfl ?_)
          · exact inferInstance
      · intro c4
        refine x_exit (e_then (e_then (e_block (n_then (x_seq (x_region (s_val rfl (v_assign rfl) (x_nil (n_then (x_ret (x_done (.inl rfl) (.cons (r_tmp rfl) .nil) ?_)))))))))))
        obtain rfl : i = l1.length := by omega
        rw [hI, List.drop_length, List.drop_of_length_le (by omega)]
        exact ⟨_, ⟨rfl, rfl⟩, inferInstance⟩
def eqB (x y : List Nat) : Bool := (strB x).toList == (strB y).toList
theorem bytesEq_spec (W0 : World) (R : List HP) (b1 b2 k1 k2 : Nat) (l1 l2 : List Nat) (h1 : l1.length = 16) (h2 : l2.length = 16) :
    Spec Tryz.prog W0 116 [.slice (some ⟨b1, 0, none⟩) 16 k1, .slice (some ⟨b2, 0, none⟩) 16 k2] (pt b1 (cob (byV l1) 5) :: pt b2 (cob (byV l2) 5) :: R) (fun v B => v = .bool (eqB l1 l2) ∧ B = pt b1 (cob (byV l1) 5) :: pt b2 (cob (byV l2) 5) :: R) := by
  refine spec_body Tryz.func116 Tryz.ntmps116 rfl rfl ?_
  refine x_seq (x_region (s_val rfl (v_assign rfl) (x_nil (n_then (x_seq (x_region (s_val rfl (v_move rfl) (s_val rfl (v_bstrSN (bs := l1) Tryz.underlying44 Tryz.underlying5 Tryz.underlying9 rfl h1 (sla_byV (cells_all (b := b1)))) ?_))))))))
  refine s_val rfl (v_move rfl) (s_val rfl (v_bstrSN (bs := l2) Tryz.underlying44 Tryz.underlying5 Tryz.underlying9 rfl h2 (sla_byV (cells_all (b := b2)))) ?_)
  refine s_val rfl (v_eql_str rfl rfl) (s_val rfl (v_assign rfl) (x_nil (n_then (x_ret (x_done (.inl rfl) (.cons (r_tmp rfl) .nil) ?_)))))
  exact ⟨_, ⟨rfl, rfl⟩, inferInstance⟩
theorem octSame_spec (W0 : World) (R : List HP) (b1 b2 k1 k2 : Nat) (l1 l2 : List Nat) (h1 : l1.length = 16) (h2 : l2.length = 16) :
    Spec Tryz.prog W0 52 [.slice (some ⟨b1, 0, none⟩) 16 k1, .slice (some ⟨b2, 0, none⟩) 16 k2] (pt b1 (cob (byV l1) 5) :: pt b2 (cob (byV l2) 5) :: R) (fun v B => v = .bool (eqB l1 l2) ∧ B = pt b1 (cob (byV l1) 5) :: pt b2 (cob (byV l2) 5) :: R) := by
  refine spec_body Tryz.func52 Tryz.ntmps52 rfl rfl ?_
  refine x_seq (x_region (s_val rfl (v_assign rfl) (x_nil (n_then (x_seq (x_region (s_val rfl (v_move rfl) (s_val rfl (v_move rfl) (s_do rfl (d_call2 Tryz.call116 rfl (bytesEq_spec W0 _ b1 b2 k1 k2 l1 l2 h1 h2)) ?_)))))))))
  rintro _ B_ ⟨rfl, hB_⟩
  obtain rfl := hB_.symm
  refine s_val rfl (v_assign rfl) (x_nil (n_then (x_ret (x_done (.inl rfl) (.cons (r_tmp rfl) .nil) ?_))))
  exact ⟨_, ⟨rfl, rfl⟩, inferInstance⟩
end Go.Proofs.YtncegikenkpcmaaGreat
namespace Go.Proofs.YtncegikenkpcmaaGreat
open Go.RowKit
set_option linter.unusedSimpArgs false
set_option linter.unusedVariables false
set_option maxRecDepth 20000
theorem guests1_pk (W0 : World) (bl : Nat) (l : Int) (gl : List (Int × Int × Int)) : PKl gsV W0 38 [.pointer (some ⟨bl, 0, none⟩)] (grp [pt bl (cob [.int .i64 l] 3)]) gl (fun g => flB g.1 l) := ⟨Tryz.call38, fun x _ R => by
  refine spec_kgrp ?_
  simp only [List.cons_append, List.nil_append]
  refine spec_body Tryz.func38 Tryz.ntmps38 rfl rfl ?_
  refine x_seq (x_region (s_do rfl (d_boxA rfl) ?_))
  rintro _ _ ⟨bx, rfl, rfl⟩
  refine s_val rfl (v_assign rfl) (x_nil (n_then (x_seq (x_region ?_))))
  refine s_val rfl (v_fieldAddr rfl Tryz.underlying95 rfl Tryz.sizeOf3 rfl (by first | exact Nat.zero_add _ | rfl)) ?_
  refine s_val rfl (v_load Tryz.isAgg3 rfl (cell_own rfl)) ?_
  refine s_val rfl (v_load Tryz.isAgg3 rfl (cell_own rfl)) ?_
  refine s_do rfl (d_call Tryz.call39 rfl (lbFlows_spec W0 _ x.1 l)) ?_
  rintro _ B_ ⟨rfl, hB_⟩
  obtain rfl := hB_.symm
  refine s_val rfl (v_assign rfl) (x_nil (n_then (x_ret (x_done (.inl rfl) (.cons (r_tmp rfl) .nil) ?_))))
  exact ⟨_, ⟨rfl, rfl⟩, inferInstance⟩
  ⟩
theorem ports1_pk (W0 : World) (bl : Nat) (l : Int) (pl : List (Int × Int)) : PKl pairV W0 43 [.pointer (some ⟨bl, 0, none⟩)] (grp [pt bl (cob [.int .i64 l] 3)]) pl (fun p => decide (p.2 = -1) && flB p.1 l) := ⟨Tryz.call43, fun x _ R => by
  refine spec_kgrp ?_
  simp only [List.cons_append, List.nil_append]
  refine spec_body Tryz.func43 Tryz.ntmps43 rfl rfl ?_
  refine x_seq (x_region (s_do rfl (d_boxA rfl) ?_))
  rintro _ _ ⟨bx, rfl, rfl⟩
  refine s_val rfl (v_assign rfl) (x_nil (n_then (x_seq (x_region ?_))))
  refine s_val rfl (v_fieldAddr rfl Tryz.underlying100 rfl Tryz.sizeOf3 rfl (by first | exact Nat.zero_add _ | rfl)) ?_
  refine s_val rfl (v_load Tryz.isAgg3 rfl (cell_own rfl)) ?_
  refine s_val rfl (v_eql rfl rfl) (s_val rfl (v_move rfl) ?_)
  refine s_and rfl rfl rfl ?_ ?_
  · intro g1_4
    refine s_val rfl (v_fieldAddr rfl Tryz.underlying100 rfl Tryz.sizeOf3 rfl (by first | exact Nat.zero_add _ | rfl)) ?_
    refine s_yes rfl rfl (s_val rfl (v_load Tryz.isAgg3 rfl (cell_own rfl)) ?_)
    refine s_yes rfl rfl (s_val rfl (v_load Tryz.isAgg3 rfl (cell_own rfl)) ?_)
    refine s_yes rfl rfl (s_do rfl (d_call Tryz.call39 rfl (lbFlows_spec W0 _ x.1 l)) ?_)
    rintro _ B_ ⟨rfl, hB_⟩
    obtain rfl := hB_.symm
    refine s_val rfl (v_pick_t rfl rfl) (s_val rfl (v_assign rfl) (x_nil (n_then (x_ret (x_done (.inl rfl) (.cons (r_tmp rfl) .nil) ?_)))))
    refine ⟨_, ⟨?_, rfl⟩, inferInstance⟩
    refine congrArg Value.bool ?_
    first
      | rw [decide_eq_true (by assumption), Bool.true_and]
      | rw [decide_eq_false (by assumption), Bool.false_and]
  · intro g1_4
    refine s_no rfl rfl rfl rfl (s_no rfl rfl rfl rfl (s_no rfl rfl rfl rfl (s_val rfl (v_pick_f rfl rfl) (s_val rfl (v_assign rfl) (x_nil (n_then (x_ret (x_done (.inl rfl) (.cons (r_tmp rfl) .nil) ?_))))))))
    refine ⟨_, ⟨?_, rfl⟩, inferInstance⟩
    refine congrArg Value.bool ?_
    first
      | rw [decide_eq_true (by assumption), Bool.true_and]
      | rw [decide_eq_false (by assumption), Bool.false_and]
  ⟩
def gsO (c : Cfg) (l : Int) : List Nat := if rt c = true then pkK (fun g => flB g.1 l) c.gl c.gl.length else []
def poO (c : Cfg) (l : Int) : List Nat := if rt c = true then pkK (fun p => decide (p.2 = -1) && flB p.1 l) c.pl c.pl.length else []
theorem siGuests_spec (W0 : World) (R : List HP) (c : Cfg) (h : CfOk W0 c) (hl : c.gl.length ≤ 1000) (l : Int) :
    Spec Tryz.prog W0 9 [.agg (cfgV c).toArray, .int .i64 l] R (fun v B => ∃ a k, v = .slice a (gsO c l).length k ∧ B = osl 3 1 (.slice a (gsO c l).length k) ((gsO c l).map ixV) :: R) := by
  obtain ⟨w, hw⟩ : ∃ w, rt c = w := ⟨_, rfl⟩
  have hO : gsO c l = if w = true then pkK (fun g => flB g.1 l) c.gl c.gl.length else [] := by rw [gsO, hw]
  rw [hO]
  refine spec_body Tryz.func9 Tryz.ntmps9 rfl rfl ?_
  refine x_seq (x_region (s_do rfl (d_boxA rfl) ?_))
  rintro _ _ ⟨b2, rfl, rfl⟩
  refine s_do rfl (d_box rfl rfl) ?_
  rintro _ _ ⟨b3, rfl, rfl⟩
  refine s_val rfl (v_assign rfl) (x_nil (n_then (x_seq (x_seq (x_region (s_val rfl (v_loadAll Tryz.isAgg28 Tryz.sizeOf28 rfl rfl) ?_))))))
  refine s_do rfl (d_call Tryz.call36 rfl (siRight_spec W0 _ c h)) ?_
  rintro _ B_ ⟨rfl, hB_⟩
  obtain rfl := hB_.symm
  rw [hw]
  refine s_val rfl (v_not rfl) (x_nil (n_then ?_))
  refine x_if rfl ?_ ?_
  · intro c1
    refine x_seq (x_region (s_val rfl (v_assign rfl) (x_nil (n_then (x_ret (r_then (x_done (.inl rfl) (.cons (r_tmp rfl) .nil) ?_)))))))
    have hw0 : w = false := by simpa using c1
    rw [if_neg (by rw [hw0]; decide)]
    exact ⟨_, ⟨none, 0, rfl, rfl⟩, ent_osl_nil⟩
  · intro c1
    refine x_skip (n_then (x_seq ?_))
    have hw1 : w = true := by simpa using c1
    rw [if_pos hw1]
    refine x_region ?_
    refine s_val rfl (v_fieldAddr rfl Tryz.underlying28 rfl Tryz.sizeOf22 rfl (by first | exact Nat.zero_add _ | rfl)) ?_
    refine s_val rfl (v_load Tryz.isAgg22 rfl (cell_own rfl)) ?_
    refine s_val rfl (v_mkFunc rfl rfl) ?_
    refine s_do rfl (does_ent (B := kH 0 (grp [pt b3 (cob [.int .i64 l] 3)]) :: R) inferInstance (d_call Tryz.call37 rfl (pckG_spec W0 R c.ga c.gc c.gl 38 [.pointer (some ⟨b3, 0, none⟩)] _ (fun g => flB g.1 l) (guests1_pk W0 b3 l c.gl) h.g hl))) ?_
    rintro _ B_ ⟨a, k, rfl, hB_⟩
    obtain rfl := hB_.symm
    refine s_val rfl (v_assign rfl) (x_nil (n_then (x_ret (x_done (.inl rfl) (.cons (r_tmp rfl) .nil) ?_))))
    exact ⟨_, ⟨a, k, rfl, rfl⟩, inferInstance⟩
theorem siPorts_spec (W0 : World) (R : List HP) (c : Cfg) (h : CfOk W0 c) (hl : c.pl.length ≤ 1000) (l : Int) :
    Spec Tryz.prog W0 11 [.agg (cfgV c).toArray, .int .i64 l] R (fun v B => ∃ a k, v = .slice a (poO c l).length k ∧ B = osl 3 1 (.slice a (poO c l).length k) ((poO c l).map ixV) :: R) := by
  obtain ⟨w, hw⟩ : ∃ w, rt c = w := ⟨_, rfl⟩
  have hO : poO c l = if w = true then pkK (fun p => decide (p.2 = -1) && flB p.1 l) c.pl c.pl.length else [] := by rw [poO, hw]
  rw [hO]
  refine spec_body Tryz.func11 Tryz.ntmps11 rfl rfl ?_
  refine x_seq (x_region (s_do rfl (d_boxA rfl) ?_))
  rintro _ _ ⟨b2, rfl, rfl⟩
  refine s_do rfl (d_box rfl rfl) ?_
  rintro _ _ ⟨b3, rfl, rfl⟩
  refine s_val rfl (v_assign rfl) (x_nil (n_then (x_seq (x_seq (x_region (s_val rfl (v_loadAll Tryz.isAgg28 Tryz.sizeOf28 rfl rfl) ?_))))))
  refine s_do rfl (d_call Tryz.call36 rfl (siRight_spec W0 _ c h)) ?_
  rintro _ B_ ⟨rfl, hB_⟩
  obtain rfl := hB_.symm
  rw [hw]
  refine s_val rfl (v_not rfl) (x_nil (n_then ?_))
  refine x_if rfl ?_ ?_
  · intro c1
    refine x_seq (x_region (s_val rfl (v_assign rfl) (x_nil (n_then (x_ret (r_then (x_done (.inl rfl) (.cons (r_tmp rfl) .nil) ?_)))))))
    have hw0 : w = false := by simpa using c1
    rw [if_neg (by rw [hw0]; decide)]
    exact ⟨_, ⟨none, 0, rfl, rfl⟩, ent_osl_nil⟩
  · intro c1
    refine x_skip (n_then (x_seq ?_))
    have hw1 : w = true := by simpa using c1
    rw [if_pos hw1]
    refine x_region ?_
    refine s_val rfl (v_fieldAddr rfl Tryz.underlying28 rfl Tryz.sizeOf24 rfl (by first | exact Nat.zero_add _ | rfl)) ?_
    refine s_val rfl (v_load Tryz.isAgg24 rfl (cell_own rfl)) ?_
    refine s_val rfl (v_mkFunc rfl rfl) ?_
    refine s_do rfl (does_ent (B := kH 0 (grp [pt b3 (cob [.int .i64 l] 3)]) :: R) inferInstance (d_call Tryz.call42 rfl (pckP_spec W0 R c.pa c.pc c.pl 43 [.pointer (some ⟨b3, 0, none⟩)] _ (fun p => decide (p.2 = -1) && flB p.1 l) (ports1_pk W0 b3 l c.pl) h.p hl))) ?_
    rintro _ B_ ⟨a, k, rfl, hB_⟩
    obtain rfl := hB_.symm
    refine s_val rfl (v_assign rfl) (x_nil (n_then (x_ret (x_done (.inl rfl) (.cons (r_tmp rfl) .nil) ?_))))
    exact ⟨_, ⟨a, k, rfl, rfl⟩, inferInstance⟩
def rngO (c : Cfg) (l : Int) : Option Nat → Bool × Bool
  | none => (false, false)
  | some i => (true, flB (rlA c i).1 l)
def rngd (c : Cfg) (at_ l : Int) : Bool × Bool := rngO c l (rgOf c at_)
theorem rgOf_lt {c : Cfg} {at_ : Int} {i : Nat} (h : rgOf c at_ = some i) : i < c.rl.length := by
  unfold rgOf at h
  split at h
  · exact List.mem_range.1 (List.mem_of_find?_eq_some h)
  · cases h
theorem siRanged_spec (W0 : World) (R : List HP) (c : Cfg) (h : CfOk W0 c) (at_ l : Int) (ha : at_ < 9223372036854775808) :
    Spec Tryz.prog W0 44 [.agg (cfgV c).toArray, .int .i64 at_, .int .i64 l] R (fun v B => v = .tuple #[.bool (rngd c at_ l).1, .bool (rngd c at_ l).2] ∧ B = R) := by
  obtain ⟨o, ho⟩ : ∃ o, rgOf c at_ = o := ⟨_, rfl⟩
  have hr : rngd c at_ l = rngO c l o := by rw [rngd, ho]
  rw [hr]
  refine spec_body Tryz.func44 Tryz.ntmps44 rfl rfl ?_
  refine x_seq (x_region (s_do rfl (d_boxA rfl) ?_))
  rintro _ _ ⟨b3, rfl, rfl⟩
  refine s_val rfl (v_assign rfl) (s_val rfl (v_assign rfl) (x_nil (n_then (x_seq (x_region (s_val rfl (v_loadAll Tryz.isAgg28 Tryz.sizeOf28 rfl rfl) ?_))))))
  refine s_val rfl (v_move rfl) (s_do rfl (d_call Tryz.call112 rfl (cfRangeOf_spec W0 _ c h at_ ha)) ?_)
  rintro _ B_ ⟨rfl, hB_⟩
  obtain rfl := hB_.symm
  rw [ho]
  refine s_val rfl (v_assign rfl) (x_nil (n_then (x_seq (x_seq (x_region (s_val rfl (v_move rfl) (s_val rfl (v_lss rfl rfl) (x_nil (n_then ?_)))))))))
  refine x_if rfl ?_ ?_
  · intro c2
    refine x_seq (x_region (s_val rfl (v_assign rfl) (s_val rfl (v_assign rfl) (x_nil (n_then (x_ret (r_then (x_done (.inl rfl) (.cons (r_tmp rfl) (.cons (r_tmp rfl) .nil)) ?_))))))))
    cases o with
      | none => exact ⟨_, ⟨rfl, rfl⟩, inferInstance⟩
      | some i => exact absurd c2 (by simp [oIx])
  · intro c2
    refine x_skip (n_then (x_seq ?_))
    obtain ⟨i, rfl⟩ : ∃ i, o = some i := by
      cases o with
      | none => exact absurd (by decide) c2
      | some i => exact ⟨i, rfl⟩
    have hi := rgOf_lt ho
    obtain ⟨g, oo, hra, hc⟩ := (h.r []).at_ hi
    have hA : rlA c i = c.rl[i] := by simp [rlA, List.getD, hi]
    rw [← hA] at hc
    refine x_region ?_
    refine s_val rfl (v_fieldAddr rfl Tryz.underlying28 rfl Tryz.sizeOf23 rfl (by first | exact Nat.zero_add _ | rfl)) ?_
    refine s_val rfl (v_load Tryz.isAgg23 rfl (cell_own rfl)) ?_
    refine s_val rfl (v_move rfl) ?_
    refine s_val rfl (v_idxA Tryz.underlying23 Tryz.sizeOf151 rfl hra rfl rfl hi (by first | exact Nat.zero_add _ | rfl)) ?_
    refine s_val rfl (v_fieldAddr rfl Tryz.underlying151 rfl Tryz.sizeOf3 rfl (by first | exact Nat.zero_add _ | rfl)) ?_
    refine s_val rfl (v_load Tryz.isAgg3 rfl (Cells.weak hc 0 _ rfl)) ?_
    refine s_val rfl (v_move rfl) (s_do rfl (d_call Tryz.call39 rfl (lbFlows_spec W0 _ (rlA c i).1 l)) ?_)
    rintro _ B_ ⟨rfl, hB_⟩
    obtain rfl := hB_.symm
    refine s_val rfl (v_assign rfl) (s_val rfl (v_assign rfl) (x_nil (n_then (x_ret (x_done (.inl rfl) (.cons (r_tmp rfl) (.cons (r_tmp rfl) .nil)) ?_)))))
    exact ⟨_, ⟨rfl, rfl⟩, inferInstance⟩
def seK (c : Cfg) (l : Int) (k : Nat) : List Nat := (List.range k).filter fun (i : Nat) => (rngd c i l).2
theorem seK_succ (c : Cfg) (l : Int) (k : Nat) : seK c l (k + 1) = if (rngd c k l).2 = true then seK c l k ++ [k] else seK c l k := by
  rw [seK, List.range_succ, List.filter_append]
  split
  · rename_i h; simp [h, seK]
  · rename_i h; simp [h, seK]
theorem seK_len (c : Cfg) (l : Int) (k : Nat) : (seK c l k).length ≤ k := by
  have := List.length_filter_le (fun (i : Nat) => (rngd c i l).2) (List.range k)
  rwa [List.length_range] at this
theorem siSectors_spec (W0 : World) (R : List HP) (c : Cfg) (h : CfOk W0 c) (l : Int) :
    Spec Tryz.prog W0 13 [.agg (cfgV c).toArray, .int .i64 l] R (fun v B => ∃ a k, v = .slice a (seK c l 32).length k ∧ B = osl 3 1 (.slice a (seK c l 32).length k) ((seK c l 32).map ixV) :: R) := by
  refine spec_body Tryz.func13 Tryz.ntmps13 rfl rfl ?_
  refine x_seq (x_region (s_do rfl (d_boxA rfl) ?_))
  rintro _ _ ⟨b2, rfl, rfl⟩
  refine s_val rfl (v_assign rfl) (x_nil (n_then (x_seq (x_region (s_val rfl (v_assign rfl) (x_nil (n_then (x_seq (x_seq (x_region (s_val rfl (v_move rfl) (x_nil (n_then (x_block ?_))))))))))))))
  refine x_loop (fun X : Nat × Option Addr × Nat => X.1 ≤ 32) (fun X => [(1, .int .i64 l), (2, .pointer (some ⟨b2, 0, none⟩)), (5, .slice X.2.1 (seK c l X.1).length X.2.2), (9, .int .i64 X.1)]) (fun X => osl 3 1 (.slice X.2.1 (seK c l X.1).length X.2.2) ((seK c l X.1).map ixV) :: pt b2 (cfO c) :: R) (fun X => 32 - X.1) (0, none, 0) ?_ ?_ ?_ ?_
  · exact Nat.zero_le _
  · repeat (first | exact sub_nil | refine sub_cons rfl ?_)
  · exact ent_osl_nil
  · intro ⟨i, a0, c0⟩ hi
    dsimp only at hi ⊢
    have hst := seK_succ c l i
    have hln := seK_len c l i
    refine x_seq (x_region (s_val rfl (v_lss rfl rfl) (x_nil (n_then (x_seq ?_)))))
    refine x_if rfl ?_ ?_
    · intro c3
      refine x_skip (n_then ?_)
      refine x_cut (fun X : Option Addr × Nat => True) (fun X => [(1, .int .i64 l), (2, .pointer (some ⟨b2, 0, none⟩)), (5, .slice X.1 (seK c l (i + 1)).length X.2), (9, .int .i64 i)]) (fun X => osl 3 1 (.slice X.1 (seK c l (i + 1)).length X.2) ((seK c l (i + 1)).map ixV) :: pt b2 (cfO c) :: R) ?_ ?_
      · skip
        refine x_block (x_seq (x_region (s_val rfl (v_move rfl) (s_val rfl (v_assign rfl) (x_nil (n_then (x_seq (x_region (s_val rfl (v_loadAll Tryz.isAgg28 Tryz.sizeOf28 rfl rfl) ?_)))))))))
        refine s_val rfl (v_move rfl) (s_val rfl (v_move rfl) ?_)
        refine s_do rfl (d_call Tryz.call44 rfl (siRanged_spec W0 _ c h (i : Int) l (by omega))) ?_
        rintro _ B_ ⟨rfl, hB_⟩
        obtain rfl := hB_.symm
        refine s_val rfl (v_move rfl) (s_val rfl (v_extract rfl rfl) (s_val rfl (v_extract rfl rfl) (s_val rfl (v_assign rfl) (s_val rfl (v_assign rfl) (x_nil (n_then (x_seq (x_region (s_val rfl (v_move rfl) (x_nil (n_then ?_)))))))))))
        refine x_if rfl ?_ ?_
        · intro c6
          rw [if_pos c6] at hst
          have hl2 : (seK c l (i + 1)).length = (seK c l i).length + 1 := by rw [hst]; simp
          have hmp : (seK c l (i + 1)).map ixV = (seK c l i).map ixV ++ [Value.int .i64 (i : Int)] := by rw [hst, List.map_append]; rfl
          refine x_region (s_val rfl (v_move rfl) (s_val rfl (v_move rfl) ?_))
          refine s_do rfl (d_sliceLit Tryz.underlying38 Tryz.sizeOf3 Tryz.zeroValue3 rfl rfl rfl rfl rfl (by decide) (by decide)) ?_
          rintro _ _ ⟨b2, rfl, rfl⟩
          refine s_do rfl (d_append (sz := 1) (by_ := 8) (info := Tryz.t3) Tryz.underlying38 (by kernel_rfl) rfl rfl rfl rfl (by decide) rfl rfl cells_all rfl rfl (by simp only [maxLen]; omega) (by omega)) ?_
          rintro _ _ ⟨a3, c3, rfl, rfl⟩
          rw [← hl2, ← hmp]
          refine s_val rfl (v_assign rfl) (x_nil (n_block (n_then ?_)))
          refine mid_intro (a3, c3) ?_ ?_ ?_
          · trivial
          · repeat (first | exact sub_nil | refine sub_cons rfl ?_)
          · exact inferInstance
        · intro c6
          rw [if_neg c6] at hst
          refine x_skip (n_block (n_then ?_))
          refine mid_intro (a0, c0) ?_ ?_ ?_
          · trivial
          · rw [hst]
            repeat (first | exact sub_nil | refine sub_cons rfl ?_)
          · rw [hst]
            exact inferInstance
      · intro ⟨a1, c1⟩ _
        refine x_region ?_
        refine s_val rfl (v_add rfl rfl (by first | exact w64 (by omega) | rfl)) ?_
        refine s_val rfl (v_move rfl) (x_nil (n_then ?_))
        refine inv_intro (i + 1, a1, c1) ?_ ?_ ?_ ?_
        · omega
        · omega
        · repeat (first | exact sub_nil | refine sub_cons rfl ?_)
        · exact inferInstance
    · intro c3
      refine x_exit (e_then (e_then (e_block (n_then (x_seq (x_region (s_val rfl (v_move rfl) (s_val rfl (v_assign rfl) (x_nil (n_then (x_ret (x_done (.inl rfl) (.cons (r_tmp rfl) .nil) ?_))))))))))))
      obtain rfl : i = 32 := by omega
      exact ⟨_, ⟨a0, c0, rfl, rfl⟩, inferInstance⟩
def cutW (s : Scr) (i : Nat) : List Nat := (wrdI s i).l.take 128
theorem agree1_spec (W0 : World) (R : List HP) (s : Scr) (h : ScrOk W0 s) (i : Nat) :
    Spec Tryz.prog W0 46 [.agg (scrV s).toArray, .int .i64 i] R (fun v B => ∃ b, v = .slice (some ⟨b, 0, none⟩) (cutW s i).length (cutW s i).length ∧ B = pt b (cob ((cutW s i).map wV) 47) :: R) := by
  obtain ⟨h1, h2, h3, h4⟩ := wrdI_ok h i
  refine spec_body Tryz.func46 Tryz.ntmps46 rfl rfl ?_
  refine x_seq (x_region (s_do rfl (d_boxA rfl) ?_))
  rintro _ _ ⟨b2, rfl, rfl⟩
  refine s_val rfl (v_assign rfl) (x_nil (n_then (x_seq (x_region (s_val rfl (v_loadAll Tryz.isAgg33 Tryz.sizeOf33 rfl rfl) ?_)))))
  refine s_val rfl (v_move rfl) (s_do rfl (d_call Tryz.call48 rfl (siWords_spec W0 _ s h i)) ?_)
  rintro _ B_ ⟨rfl, hB_⟩
  obtain rfl := hB_.symm
  refine s_do rfl (d_call Tryz.call47 rfl (imCut_spec W0 _ (wrdI s i).a (wrdI s i).c (wrdI s i).l h1 h4)) ?_
  rintro _ B_ ⟨b, rfl, hB_⟩
  obtain rfl := hB_.symm
  refine s_val rfl (v_assign rfl) (x_nil (n_then (x_ret (x_done (.inl rfl) (.cons (r_tmp rfl) .nil) ?_))))
  unfold cutW
  exact ⟨_, ⟨b, rfl, rfl⟩, inferInstance⟩
def agG (a b : Scr) (i : Nat) : Bool := eqLs eqN (cutW a i) (cutW b i) && eqLs eqI (comS a i) (comS b i)
def agB (a b : Scr) (i : Nat) : Bool := eqB (begS a i) (begS b i)
def agS (c : Cfg) (a b : Scr) (l : Int) : Bool := rt c && ((gsO c l).all (agG a b) && (seK c l 32).all (agB a b))
theorem all_at {q : Nat → Bool} {l : List Nat} {i : Nat} (hi : i < l.length) (h : q l[i] = false) : l.all q = false := by
  rw [List.all_eq_false]
  exact ⟨l[i], List.getElem_mem hi, by rw [h]; decide⟩
theorem all_full {q : Nat → Bool} {l : List Nat} (h : ∀ j (hj : j < l.length), q l[j] = true) : l.all q = true := by
  rw [List.all_eq_true]
  intro x hx
  obtain ⟨j, hj, rfl⟩ := List.getElem_of_mem hx
  exact h j hj
theorem siAgree_spec (W0 : World) (R : List HP) (c : Cfg) (h : CfOk W0 c) (hgl : c.gl.length ≤ 1000) (a b : Scr) (ha : ScrOk W0 a) (hb : ScrOk W0 b) (la : a.sl.length ≤ 1000 ∧ a.nl.length ≤ 1000) (lb : b.sl.length ≤ 1000 ∧ b.nl.length ≤ 1000) (l : Int) :
    Spec Tryz.prog W0 15 [.agg (cfgV c).toArray, .agg (scrV a).toArray, .agg (scrV b).toArray, .int .i64 l] R (fun v B => v = .bool (agS c a b l) ∧ B = R) := by
  obtain ⟨w, hw⟩ : ∃ w, rt c = w := ⟨_, rfl⟩
  have hO : agS c a b l = (w && ((gsO c l).all (agG a b) && (seK c l 32).all (agB a b))) := by rw [agS, hw]
  rw [hO]
  obtain ⟨q, hq⟩ : ∃ q, gsO c l = q := ⟨_, rfl⟩
  have hql : q.length ≤ 1000 := by
    rw [← hq, gsO]; split
    · exact Nat.le_trans (pkK_len _ _ _) hgl
    · exact Nat.zero_le _
  obtain ⟨s, hs⟩ : ∃ s, seK c l 32 = s := ⟨_, rfl⟩
  have hsl : s.length ≤ 32 := by rw [← hs]; exact seK_len c l 32
  rw [hq, hs]
  refine spec_body Tryz.func15 Tryz.ntmps15 rfl rfl ?_
  refine x_seq (x_region (s_do rfl (d_boxA rfl) ?_))
  rintro _ _ ⟨b4, rfl, rfl⟩
  refine s_do rfl (d_boxA rfl) ?_
  rintro _ _ ⟨b5, rfl, rfl⟩
  refine s_do rfl (d_boxA rfl) ?_
  rintro _ _ ⟨b6, rfl, rfl⟩
  refine s_val rfl (v_assign rfl) (x_nil (n_then (x_seq (x_seq (x_region (s_val rfl (v_loadAll Tryz.isAgg28 Tryz.sizeOf28 rfl rfl) ?_))))))
  refine s_do rfl (d_call Tryz.call36 rfl (siRight_spec W0 _ c h)) ?_
  rintro _ B_ ⟨rfl, hB_⟩
  obtain rfl := hB_.symm
  rw [hw]
  refine s_val rfl (v_not rfl) (x_nil (n_then ?_))
  refine x_if rfl ?_ ?_
  · intro c1
    refine x_seq (x_region (s_val rfl (v_assign rfl) (x_nil (n_then (x_ret (r_then (x_done (.inl rfl) (.cons (r_tmp rfl) .nil) ?_)))))))
    have hw0 : w = false := by simpa using c1
    rw [hw0]
    exact ⟨_, ⟨rfl, rfl⟩, inferInstance⟩
  · intro c1
    refine x_skip (n_then (x_seq ?_))
    have hw1 : w = true := by simpa using c1
    rw [hw1, Bool.true_and]
    refine x_region (s_val rfl (v_assign rfl) (x_nil (n_then ?_)))
    refine x_cut (fun _ : Unit => (q.all (agG a b) = true)) (fun _ => [(3, .int .i64 l), (4, .pointer (some ⟨b4, 0, none⟩)), (5, .pointer (some ⟨b5, 0, none⟩)), (6, .pointer (some ⟨b6, 0, none⟩))]) (fun _ => pt b4 (cfO c) :: pt b5 (cob (scrV a) 33) :: pt b6 (cob (scrV b) 33) :: R) ?_ ?_
    · skip
      refine x_seq (x_region (s_val rfl (v_loadAll Tryz.isAgg28 Tryz.sizeOf28 rfl rfl) ?_))
      refine s_val rfl (v_move rfl) (s_do rfl (d_call Tryz.call9 rfl (siGuests_spec W0 _ c h hgl l)) ?_)
      rintro _ B_ ⟨aq, kq, rfl, hB_⟩
      obtain rfl := hB_.symm
      rw [hq]
      refine s_val rfl (v_len_slice Tryz.underlying38 rfl) (s_val rfl (v_move rfl) (x_nil (n_then (x_block ?_))))
      refine x_loop (fun i : Nat => i ≤ q.length ∧ ∀ j (hj : j < q.length), j < i → agG a b q[j] = true) (fun i => [(3, .int .i64 l), (4, .pointer (some ⟨b4, 0, none⟩)), (5, .pointer (some ⟨b5, 0, none⟩)), (6, .pointer (some ⟨b6, 0, none⟩)), (9, .func (.func 46) #[] #[]), (19, .slice aq q.length kq), (20, .int .i64 q.length), (21, .int .i64 i)]) (fun _ => osl 3 1 (.slice aq q.length kq) (q.map ixV) :: pt b4 (cfO c) :: pt b5 (cob (scrV a) 33) :: pt b6 (cob (scrV b) 33) :: R) (fun i => q.length - i) 0 ?_ ?_ ?_ ?_
      · exact ⟨Nat.zero_le _, fun j hj h0 => absurd h0 (Nat.not_lt_zero _)⟩
      · repeat (first | exact sub_nil | refine sub_cons rfl ?_)
      · exact inferInstance
      · intro i ⟨hi, hI⟩
        refine x_seq (x_region (s_val rfl (v_lss rfl rfl) (x_nil (n_then (x_seq ?_)))))
        refine x_if rfl ?_ ?_
        · intro c5
          refine x_skip (n_then (x_seq (x_block (x_seq ?_))))
          have hi1 : i < q.length := by omega
          have hqe : (q.map ixV)[i]? = some (.int .i64 ((q[i] : Nat) : Int)) := by simp [hi1, ixV]
          refine run_form (E := 3) (sz := 1) (a := aq) (c := kq) (n := q.length) (ys := q.map ixV) (fun hf => ?_)
          obtain ⟨g1, rfl⟩ := form_some hf (by rw [← List.length_pos_iff, List.length_map]; omega)
          have hag : agG a b q[i] = (eqLs eqN (cutW a q[i]) (cutW b q[i]) && eqLs eqI (comS a q[i]) (comS b q[i])) := rfl
          have hbad := all_at (q := agG a b) hi1
          have hgood : agG a b q[i] = true → ∀ j (hj : j < q.length), j < i + 1 → agG a b q[j] = true := fun h0 j hj hji => by
            rcases Nat.lt_or_ge j i with q2 | q2
            · exact hI j hj q2
            · obtain rfl : j = i := by omega
              exact h0
          generalize q[i] = u at hqe hag hbad hgood
          refine x_region ?_
          refine s_val rfl (v_idx Tryz.underlying38 Tryz.sizeOf3 rfl rfl rfl hi1 (by first | exact Nat.zero_add _ | rfl)) ?_
          refine s_val rfl (v_load Tryz.isAgg3 rfl (cell_osl (sz := 1) (E := 3) (n := q.length) (c := kq) (by rw [Nat.mul_one]; exact hqe))) ?_
          refine s_val rfl (v_assign rfl) (x_nil (n_then (x_seq ?_)))
          refine x_draw [(b5, 0, _), (b6, 0, _)] 20 mixed rfl (sc_own (sc_own sc_end)) (fun hS => ?_)
          refine d_take 0 rfl rfl (by kernel_rfl) (by kernel_rfl) (by kernel_rfl) rfl hS (v_move rfl) ?_
          refine d_take 1 rfl rfl (by kernel_rfl) (by kernel_rfl) (by kernel_rfl) rfl hS (v_loadAgg Tryz.isAgg33 Tryz.sizeOf33 rfl (by first | exact cells_sc (k := 0) rfl | exact cells_sc (k := 1) rfl) rfl) ?_
          refine d_take 2 rfl rfl (by kernel_rfl) (by kernel_rfl) (by kernel_rfl) rfl hS (v_move rfl) ?_
          refine d_take 4 rfl rfl (by kernel_rfl) (by kernel_rfl) (by kernel_rfl) rfl hS (v_move rfl) ?_
          refine d_take 5 rfl rfl (by kernel_rfl) (by kernel_rfl) (by kernel_rfl) rfl hS (v_loadAgg Tryz.isAgg33 Tryz.sizeOf33 rfl (by first | exact cells_sc (k := 0) rfl | exact cells_sc (k := 1) rfl) rfl) ?_
          refine d_take 6 rfl rfl (by kernel_rfl) (by kernel_rfl) (by kernel_rfl) rfl hS (v_move rfl) ?_
          refine d_one 3 (by kernel_rfl) rfl rfl (d_callv rfl Tryz.call46 rfl (agree1_spec W0 _ a ha u)) rfl ?_; clear hS
          rintro _ B_ ⟨bx, rfl, hB_⟩
          obtain rfl := hB_.symm
          refine ⟨(sc_own (sc_own sc_end)), fun hS => ?_⟩
          refine d_one 7 (by kernel_rfl) rfl rfl (d_callv rfl Tryz.call46 rfl (agree1_spec W0 _ b hb u)) rfl ?_; clear hS
          rintro _ B_ ⟨by_, rfl, hB_⟩
          obtain rfl := hB_.symm
          refine ⟨(sc_own (sc_own sc_end)), fun hS => ?_⟩
          refine d_one 8 (by kernel_rfl) rfl rfl (d_call2 Tryz.call49 rfl (eqU_spec W0 _ bx by_ _ _ _ _ (cutW a u) (cutW b u) rfl rfl (by rw [cutW, List.length_take]; omega))) rfl ?_; clear hS
          rintro _ B_ ⟨rfl, hB_⟩
          obtain rfl := hB_.symm
          refine ⟨(sc_own (sc_own sc_end)), fun hS => ?_⟩
          refine d_take 9 rfl rfl (by kernel_rfl) (by kernel_rfl) (by kernel_rfl) rfl hS (v_not rfl) ?_
          refine d_take 10 rfl rfl (by kernel_rfl) (by kernel_rfl) (by kernel_rfl) rfl hS (v_move rfl) ?_
          refine x_split (t := 35) rfl ?_ ?_
          · intro g7_11
            have e1 : eqLs eqN (cutW a u) (cutW b u) = false := by simpa using g7_11
            refine d_skip 11 rfl rfl (by kernel_rfl) (by kernel_rfl) (by kernel_rfl) rfl hS ?_
            refine d_skip 12 rfl rfl (by kernel_rfl) (by kernel_rfl) (by kernel_rfl) rfl hS ?_
            refine d_skip 13 rfl rfl (by kernel_rfl) (by kernel_rfl) (by kernel_rfl) rfl hS ?_
            refine d_skip 14 rfl rfl (by kernel_rfl) (by kernel_rfl) (by kernel_rfl) rfl hS ?_
            refine d_skip 15 rfl rfl (by kernel_rfl) (by kernel_rfl) (by kernel_rfl) rfl hS ?_
            refine d_skip 16 rfl rfl (by kernel_rfl) (by kernel_rfl) (by kernel_rfl) rfl hS ?_
            refine d_skip 17 rfl rfl (by kernel_rfl) (by kernel_rfl) (by kernel_rfl) rfl hS ?_
            refine d_skip 18 rfl rfl (by kernel_rfl) (by kernel_rfl) (by kernel_rfl) rfl hS ?_
            refine d_take 19 rfl rfl (by kernel_rfl) (by kernel_rfl) (by kernel_rfl) rfl hS (v_pick_t rfl rfl) ?_
            refine d_done (by kernel_rfl) ?_; clear hS
            refine n_then (x_ift rfl (x_seq ?_))
            have hb0 : agG a b u = false := by
              rw [hag, e1]
              first
                | rfl
                | (rw [Bool.true_and]; simpa using c7)
            rw [hbad hb0, Bool.false_and]
            refine x_region (s_val rfl (v_assign rfl) (x_nil (n_then (x_ret (r_block (r_then (r_then (r_block (r_then (x_done (.inl rfl) (.cons (r_tmp rfl) .nil) ?_))))))))))
            exact ⟨_, ⟨rfl, rfl⟩, inferInstance⟩
          · intro g7_11
            have e1 : eqLs eqN (cutW a u) (cutW b u) = true := by simpa using g7_11
            refine d_take 11 rfl rfl (by kernel_rfl) (by kernel_rfl) (by kernel_rfl) rfl hS (v_loadAgg Tryz.isAgg33 Tryz.sizeOf33 rfl (by first | exact cells_sc (k := 0) rfl | exact cells_sc (k := 1) rfl) rfl) ?_
            refine d_take 12 rfl rfl (by kernel_rfl) (by kernel_rfl) (by kernel_rfl) rfl hS (v_move rfl) ?_
            refine d_take 14 rfl rfl (by kernel_rfl) (by kernel_rfl) (by kernel_rfl) rfl hS (v_loadAgg Tryz.isAgg33 Tryz.sizeOf33 rfl (by first | exact cells_sc (k := 0) rfl | exact cells_sc (k := 1) rfl) rfl) ?_
            refine d_take 15 rfl rfl (by kernel_rfl) (by kernel_rfl) (by kernel_rfl) rfl hS (v_move rfl) ?_
            refine d_one 13 (by kernel_rfl) rfl rfl (d_call Tryz.call51 rfl (siComing_spec W0 _ a ha u (by omega))) rfl ?_; clear hS
            rintro _ B_ ⟨ac, kc, rfl, hB_⟩
            obtain rfl := hB_.symm
            refine ⟨(sc_own (sc_own sc_end)), fun hS => ?_⟩
            refine d_one 16 (by kernel_rfl) rfl rfl (d_call Tryz.call51 rfl (siComing_spec W0 _ b hb u (by omega))) rfl ?_; clear hS
            rintro _ B_ ⟨ad, kd, rfl, hB_⟩
            obtain rfl := hB_.symm
            refine ⟨(sc_own (sc_own sc_end)), fun hS => ?_⟩
            refine run_sla (E := 109) (sz := 5) (a := ac) (c := kc) (n := (comS a u).length) inpV (comS a u) inpV_len (by decide) rfl (fun hs1 => ?_)
            refine run_sla (E := 109) (sz := 5) (a := ad) (c := kd) (n := (comS b u).length) inpV (comS b u) inpV_len (by decide) rfl (fun hs2 => ?_)
            refine d_one 17 (by kernel_rfl) rfl rfl (d_call Tryz.call50 rfl (eqInp_spec W0 _ ac ad _ _ kc kd (comS a u) (comS b u) rfl rfl (Nat.le_trans (List.length_filter_le _ _) (by omega)) hs1 hs2)) rfl ?_; clear hS
            rintro _ B_ ⟨rfl, hB_⟩
            obtain rfl := hB_.symm
            refine ⟨(sc_own (sc_own sc_end)), fun hS => ?_⟩
            refine d_take 18 rfl rfl (by kernel_rfl) (by kernel_rfl) (by kernel_rfl) rfl hS (v_not rfl) ?_
            refine d_take 19 rfl rfl (by kernel_rfl) (by kernel_rfl) (by kernel_rfl) rfl hS (v_pick_f rfl rfl) ?_
            refine d_done (by kernel_rfl) ?_; clear hS
            refine n_then ?_
            refine x_if rfl ?_ ?_
            · intro c7
              refine x_seq ?_
              have hb0 : agG a b u = false := by
                rw [hag, e1]
                first
                  | rfl
                  | (rw [Bool.true_and]; simpa using c7)
              rw [hbad hb0, Bool.false_and]
              refine x_region (s_val rfl (v_assign rfl) (x_nil (n_then (x_ret (r_block (r_then (r_then (r_block (r_then (x_done (.inl rfl) (.cons (r_tmp rfl) .nil) ?_))))))))))
              exact ⟨_, ⟨rfl, rfl⟩, inferInstance⟩
            · intro c7
              refine x_skip (n_block (n_then (x_region ?_)))
              refine s_val rfl (v_add rfl rfl (by first | exact w64 (by omega) | rfl)) ?_
              refine s_val rfl (v_move rfl) (x_nil (n_then ?_))
              refine inv_intro (i + 1) ?_ ?_ ?_ ?_
              · refine ⟨by omega, hgood ?_⟩
                rw [hag, e1, Bool.true_and]; simpa using c7
              · omega
              · repeat (first | exact sub_nil | refine sub_cons rfl ?_)
              · exact inferInstance
        · intro c5
          refine x_exit (e_then (e_then (e_block (n_then ?_))))
          refine mid_intro () ?_ ?_ ?_
          · exact all_full fun j hj => hI j hj (by omega)
          · repeat (first | exact sub_nil | refine sub_cons rfl ?_)
          · exact inferInstance
    · intro _ hall
      rw [hall, Bool.true_and]
      refine x_seq (x_seq (x_region (s_val rfl (v_loadAll Tryz.isAgg28 Tryz.sizeOf28 rfl rfl) ?_)))
      refine s_val rfl (v_move rfl) (s_do rfl (d_call Tryz.call13 rfl (siSectors_spec W0 _ c h l)) ?_)
      rintro _ B_ ⟨as_, ks, rfl, hB_⟩
      obtain rfl := hB_.symm
      rw [hs]
      refine s_val rfl (v_len_slice Tryz.underlying38 rfl) (s_val rfl (v_move rfl) (x_nil (n_then (x_block ?_))))
      refine x_loop (fun i : Nat => i ≤ s.length ∧ ∀ j (hj : j < s.length), j < i → agB a b s[j] = true) (fun i => [(5, .pointer (some ⟨b5, 0, none⟩)), (6, .pointer (some ⟨b6, 0, none⟩)), (48, .slice as_ s.length ks), (49, .int .i64 s.length), (50, .int .i64 i)]) (fun _ => osl 3 1 (.slice as_ s.length ks) (s.map ixV) :: pt b5 (cob (scrV a) 33) :: pt b6 (cob (scrV b) 33) :: R) (fun i => s.length - i) 0 ?_ ?_ ?_ ?_
      · exact ⟨Nat.zero_le _, fun j hj h0 => absurd h0 (Nat.not_lt_zero _)⟩
      · repeat (first | exact sub_nil | refine sub_cons rfl ?_)
      · exact inferInstance
      · intro i ⟨hi, hI⟩
        refine x_seq (x_region (s_val rfl (v_lss rfl rfl) (x_nil (n_then (x_seq ?_)))))
        refine x_if rfl ?_ ?_
        · intro c11
          refine x_skip (n_then (x_seq (x_block (x_seq ?_))))
          have hi1 : i < s.length := by omega
          have hqe : (s.map ixV)[i]? = some (.int .i64 ((s[i] : Nat) : Int)) := by simp [hi1, ixV]
          refine run_form (E := 3) (sz := 1) (a := as_) (c := ks) (n := s.length) (ys := s.map ixV) (fun hf => ?_)
          obtain ⟨g1, rfl⟩ := form_some hf (by rw [← List.length_pos_iff, List.length_map]; omega)
          have hag : agB a b s[i] = eqB (begS a s[i]) (begS b s[i]) := rfl
          have hbad := all_at (q := agB a b) hi1
          have hgood : agB a b s[i] = true → ∀ j (hj : j < s.length), j < i + 1 → agB a b s[j] = true := fun h0 j hj hji => by
            rcases Nat.lt_or_ge j i with q2 | q2
            · exact hI j hj q2
            · obtain rfl : j = i := by omega
              exact h0
          generalize s[i] = u at hqe hag hbad hgood
          refine x_region ?_
          refine s_val rfl (v_idx Tryz.underlying38 Tryz.sizeOf3 rfl rfl rfl hi1 (by first | exact Nat.zero_add _ | rfl)) ?_
          refine s_val rfl (v_load Tryz.isAgg3 rfl (cell_osl (sz := 1) (E := 3) (n := s.length) (c := ks) (by rw [Nat.mul_one]; exact hqe))) ?_
          refine s_val rfl (v_assign rfl) (x_nil (n_then (x_seq ?_)))
          refine x_draw [(b5, 0, _), (b6, 0, _)] 8 mixed rfl (sc_own (sc_own sc_end)) (fun hS => ?_)
          refine d_take 0 rfl rfl (by kernel_rfl) (by kernel_rfl) (by kernel_rfl) rfl hS (v_loadAgg Tryz.isAgg33 Tryz.sizeOf33 rfl (by first | exact cells_sc (k := 0) rfl | exact cells_sc (k := 1) rfl) rfl) ?_
          refine d_take 1 rfl rfl (by kernel_rfl) (by kernel_rfl) (by kernel_rfl) rfl hS (v_move rfl) ?_
          refine d_take 3 rfl rfl (by kernel_rfl) (by kernel_rfl) (by kernel_rfl) rfl hS (v_loadAgg Tryz.isAgg33 Tryz.sizeOf33 rfl (by first | exact cells_sc (k := 0) rfl | exact cells_sc (k := 1) rfl) rfl) ?_
          refine d_take 4 rfl rfl (by kernel_rfl) (by kernel_rfl) (by kernel_rfl) rfl hS (v_move rfl) ?_
          refine d_one 2 (by kernel_rfl) rfl rfl (d_call Tryz.call53 rfl (siBegins_spec W0 _ a ha u (by omega))) rfl ?_; clear hS
          rintro _ B_ ⟨bx, rfl, hB_⟩
          obtain rfl := hB_.symm
          refine ⟨(sc_own (sc_own sc_end)), fun hS => ?_⟩
          refine d_one 5 (by kernel_rfl) rfl rfl (d_call Tryz.call53 rfl (siBegins_spec W0 _ b hb u (by omega))) rfl ?_; clear hS
          rintro _ B_ ⟨by_, rfl, hB_⟩
          obtain rfl := hB_.symm
          refine ⟨(sc_own (sc_own sc_end)), fun hS => ?_⟩
          refine d_one 6 (by kernel_rfl) rfl rfl (d_call2 Tryz.call52 rfl (octSame_spec W0 _ bx by_ 16 16 (begS a u) (begS b u) (begK_ok _ _ _).1 (begK_ok _ _ _).1)) rfl ?_; clear hS
          rintro _ B_ ⟨rfl, hB_⟩
          obtain rfl := hB_.symm
          refine ⟨(sc_own (sc_own sc_end)), fun hS => ?_⟩
          refine d_take 7 rfl rfl (by kernel_rfl) (by kernel_rfl) (by kernel_rfl) rfl hS (v_not rfl) ?_
          refine d_done (by kernel_rfl) ?_; clear hS
          refine n_then ?_
          refine x_if rfl ?_ ?_
          · intro c13
            refine x_seq (x_region (s_val rfl (v_assign rfl) (x_nil (n_then (x_ret (r_block (r_then (r_then (r_block (r_then (x_done (.inl rfl) (.cons (r_tmp rfl) .nil) ?_)))))))))))
            have hb0 : agB a b u = false := by rw [hag]; simpa using c13
            rw [hbad hb0]
            exact ⟨_, ⟨rfl, rfl⟩, inferInstance⟩
          · intro c13
            refine x_skip (n_block (n_then (x_region ?_)))
            refine s_val rfl (v_add rfl rfl (by first | exact w64 (by omega) | rfl)) ?_
            refine s_val rfl (v_move rfl) (x_nil (n_then ?_))
            refine inv_intro (i + 1) ?_ ?_ ?_ ?_
            · refine ⟨by omega, hgood ?_⟩
              rw [hag]; simpa using c13
            · omega
            · repeat (first | exact sub_nil | refine sub_cons rfl ?_)
            · exact inferInstance
        · intro c11
          refine x_exit (e_then (e_then (e_block (n_then (x_seq (x_region (s_val rfl (v_assign rfl) (x_nil (n_then (x_ret (x_done (.inl rfl) (.cons (r_tmp rfl) .nil) ?_)))))))))))
          rw [all_full fun j hj => hI j hj (by omega)]
          exact ⟨_, ⟨rfl, rfl⟩, inferInstance⟩
end Go.Proofs.YtncegikenkpcmaaGreat
namespace Go.Proofs.YtncegikenkpcmaaGreat
open Go.RowKit
set_option linter.unusedSimpArgs false
set_option linter.unusedVariables false
set_option maxRecDepth 20000
theorem rsGuests_spec (W0 : World) (R : List HP) (c : Cfg) (h : CfOk W0 c) (hl : c.gl.length ≤ 1000) (l : Int) :
    Spec Tryz.prog W0 10 [.agg (cfgV c).toArray, .int .i64 l] R (fun v B => ∃ a k, v = .slice a (gsO c l).length k ∧ B = osl 3 1 (.slice a (gsO c l).length k) ((gsO c l).map ixV) :: R) := by
  obtain ⟨w, hw⟩ : ∃ w, rt c = w := ⟨_, rfl⟩
  have hO : gsO c l = if w = true then pkK (fun g => flB g.1 l) c.gl c.gl.length else [] := by rw [gsO, hw]
  rw [hO]
  obtain ⟨p, hp⟩ : ∃ p : Int × Int × Int → Bool, (fun g : Int × Int × Int => flB g.1 l) = p := ⟨_, rfl⟩
  rw [hp]
  refine spec_body Tryz.func10 Tryz.ntmps10 rfl rfl ?_
  refine x_seq (x_region (s_do rfl (d_boxA rfl) ?_))
  rintro _ _ ⟨b2, rfl, rfl⟩
  refine s_val rfl (v_assign rfl) (x_nil (n_then (x_seq (x_region (s_val rfl (v_assign rfl) (x_nil (n_then (x_seq (x_seq (x_region (s_val rfl (v_loadAll Tryz.isAgg28 Tryz.sizeOf28 rfl rfl) ?_)))))))))))
  refine s_do rfl (d_call Tryz.call40 rfl (rcRight_spec W0 _ c h)) ?_
  rintro _ B_ ⟨rfl, hB_⟩
  obtain rfl := hB_.symm
  rw [hw]
  refine s_val rfl (v_not rfl) (x_nil (n_then ?_))
  refine x_if rfl ?_ ?_
  · intro c2
    refine x_seq (x_region (s_val rfl (v_move rfl) (s_val rfl (v_assign rfl) (x_nil (n_then (x_ret (r_then (x_done (.inl rfl) (.cons (r_tmp rfl) .nil) ?_))))))))
    have hw0 : w = false := by simpa using c2
    rw [if_neg (by rw [hw0]; decide)]
    exact ⟨_, ⟨none, 0, rfl, rfl⟩, ent_osl_nil⟩
  · intro c2
    refine x_skip (n_then (x_seq (x_seq ?_)))
    have hw1 : w = true := by simpa using c2
    rw [if_pos hw1]
    refine x_region (s_val rfl (v_assign rfl) (x_nil (n_then (x_block ?_))))
    refine x_loop (fun X : Nat × Option Addr × Nat => X.1 ≤ c.gl.length) (fun X => [(1, .int .i64 l), (2, .pointer (some ⟨b2, 0, none⟩)), (5, .slice X.2.1 (pkK p c.gl X.1).length X.2.2), (6, .int .i64 X.1)]) (fun X => osl 3 1 (.slice X.2.1 (pkK p c.gl X.1).length X.2.2) ((pkK p c.gl X.1).map ixV) :: pt b2 (cfO c) :: R) (fun X => c.gl.length - X.1) (0, none, 0) ?_ ?_ ?_ ?_
    · exact Nat.zero_le _
    · repeat (first | exact sub_nil | refine sub_cons rfl ?_)
    · exact ent_osl_nil
    · intro ⟨i, a0, c0⟩ hi
      dsimp only at hi ⊢
      have hpl := pkK_len p c.gl i
      refine x_seq (x_seq (x_region (s_val rfl (v_move rfl) ?_)))
      refine s_val rfl (v_fieldAddr rfl Tryz.underlying28 rfl Tryz.sizeOf22 rfl (by first | exact Nat.zero_add _ | rfl)) ?_
      refine s_val rfl (v_load Tryz.isAgg22 rfl (cell_own rfl)) ?_
      refine s_val rfl (v_len_slice Tryz.underlying22 rfl) (s_val rfl (v_lss rfl rfl) (x_nil (n_then ?_)))
      refine x_if rfl ?_ ?_
      · intro c5
        refine x_skip (n_then ?_)
        refine x_cut (fun X : Option Addr × Nat => True) (fun X => [(1, .int .i64 l), (2, .pointer (some ⟨b2, 0, none⟩)), (5, .slice X.1 (pkK p c.gl (i + 1)).length X.2), (6, .int .i64 i)]) (fun X => osl 3 1 (.slice X.1 (pkK p c.gl (i + 1)).length X.2) ((pkK p c.gl (i + 1)).map ixV) :: pt b2 (cfO c) :: R) ?_ ?_
        · skip
          refine x_block (x_seq ?_)
          have hi1 : i < c.gl.length := by omega
          obtain ⟨g, o, hga, hc⟩ := (h.g []).at_ hi1
          obtain ⟨x, hx⟩ : ∃ x, c.gl[i] = x := ⟨_, rfl⟩
          rw [hx] at hc
          have hpx : flB x.1 l = p x := by rw [← hp]
          refine x_region ?_
          refine s_val rfl (v_fieldAddr rfl Tryz.underlying28 rfl Tryz.sizeOf22 rfl (by first | exact Nat.zero_add _ | rfl)) ?_
          refine s_val rfl (v_load Tryz.isAgg22 rfl (cell_own rfl)) ?_
          refine s_val rfl (v_move rfl) ?_
          refine s_val rfl (v_idxA Tryz.underlying22 Tryz.sizeOf95 rfl hga rfl rfl hi1 (by first | exact Nat.zero_add _ | rfl)) ?_
          refine s_val rfl (v_fieldAddr rfl Tryz.underlying95 rfl Tryz.sizeOf3 rfl (by first | exact Nat.zero_add _ | rfl)) ?_
          refine s_val rfl (v_load Tryz.isAgg3 rfl (Cells.weak hc 0 _ rfl)) ?_
          refine s_val rfl (v_move rfl) (s_do rfl (d_call Tryz.call41 rfl (rlFlows_spec W0 _ x.1 l)) ?_)
          rintro _ B_ ⟨rfl, hB_⟩
          obtain rfl := hB_.symm
          rw [hpx]
          refine x_nil (n_then ?_)
          refine x_if rfl ?_ ?_
          · intro c7
            have hst := pkK_yes (p := p) hi1 (by rw [hx]; exact c7)
            have hln : (pkK p c.gl (i + 1)).length = (pkK p c.gl i).length + 1 := by rw [hst]; simp
            have hmp : (pkK p c.gl (i + 1)).map ixV = (pkK p c.gl i).map ixV ++ [Value.int .i64 (i : Int)] := by rw [hst, List.map_append]; rfl
            refine x_region (s_val rfl (v_move rfl) (s_val rfl (v_move rfl) ?_))
            refine s_do rfl (d_sliceLit Tryz.underlying38 Tryz.sizeOf3 Tryz.zeroValue3 rfl rfl rfl rfl rfl (by decide) (by decide)) ?_
            rintro _ _ ⟨b2, rfl, rfl⟩
            refine s_do rfl (d_append (sz := 1) (by_ := 8) (info := Tryz.t3) Tryz.underlying38 (by kernel_rfl) rfl rfl rfl rfl (by decide) rfl rfl cells_all rfl rfl (by simp only [maxLen]; omega) (by omega)) ?_
            rintro _ _ ⟨a3, c3, rfl, rfl⟩
            rw [← hln, ← hmp]
            refine s_val rfl (v_assign rfl) (x_nil (n_block (n_then ?_)))
            refine mid_intro (a3, c3) ?_ ?_ ?_
            · trivial
            · repeat (first | exact sub_nil | refine sub_cons rfl ?_)
            · exact inferInstance
          · intro c7
            have hst := pkK_no (p := p) hi1 (by rw [hx]; exact c7)
            refine x_skip (n_block (n_then ?_))
            refine mid_intro (a0, c0) ?_ ?_ ?_
            · trivial
            · rw [hst]
              repeat (first | exact sub_nil | refine sub_cons rfl ?_)
            · rw [hst]
              exact inferInstance
        · intro ⟨a1, c1⟩ _
          refine x_region (s_val rfl (v_move rfl) ?_)
          refine s_val rfl (v_add rfl rfl (by first | exact w64 (by omega) | rfl)) ?_
          refine s_val rfl (v_assign rfl) (x_nil (n_then ?_))
          refine inv_intro (i + 1, a1, c1) ?_ ?_ ?_ ?_
          · omega
          · omega
          · repeat (first | exact sub_nil | refine sub_cons rfl ?_)
          · exact inferInstance
      · intro c5
        refine x_exit (e_then (e_then (e_block (n_then (x_seq (x_region (s_val rfl (v_move rfl) (s_val rfl (v_assign rfl) (x_nil (n_then (x_ret (x_done (.inl rfl) (.cons (r_tmp rfl) .nil) ?_))))))))))))
        obtain rfl : i = c.gl.length := by omega
        exact ⟨_, ⟨a0, c0, rfl, rfl⟩, inferInstance⟩
theorem rsPorts_spec (W0 : World) (R : List HP) (c : Cfg) (h : CfOk W0 c) (hl : c.pl.length ≤ 1000) (l : Int) :
    Spec Tryz.prog W0 12 [.agg (cfgV c).toArray, .int .i64 l] R (fun v B => ∃ a k, v = .slice a (poO c l).length k ∧ B = osl 3 1 (.slice a (poO c l).length k) ((poO c l).map ixV) :: R) := by
  obtain ⟨w, hw⟩ : ∃ w, rt c = w := ⟨_, rfl⟩
  have hO : poO c l = if w = true then pkK (fun p => decide (p.2 = -1) && flB p.1 l) c.pl c.pl.length else [] := by rw [poO, hw]
  rw [hO]
  obtain ⟨p, hp⟩ : ∃ p : Int × Int → Bool, (fun p : Int × Int => decide (p.2 = -1) && flB p.1 l) = p := ⟨_, rfl⟩
  rw [hp]
  refine spec_body Tryz.func12 Tryz.ntmps12 rfl rfl ?_
  refine x_seq (x_region (s_do rfl (d_boxA rfl) ?_))
  rintro _ _ ⟨b2, rfl, rfl⟩
  refine s_val rfl (v_assign rfl) (x_nil (n_then (x_seq (x_region (s_val rfl (v_assign rfl) (x_nil (n_then (x_seq (x_seq (x_region (s_val rfl (v_loadAll Tryz.isAgg28 Tryz.sizeOf28 rfl rfl) ?_)))))))))))
  refine s_do rfl (d_call Tryz.call40 rfl (rcRight_spec W0 _ c h)) ?_
  rintro _ B_ ⟨rfl, hB_⟩
  obtain rfl := hB_.symm
  rw [hw]
  refine s_val rfl (v_not rfl) (x_nil (n_then ?_))
  refine x_if rfl ?_ ?_
  · intro c2
    refine x_seq (x_region (s_val rfl (v_move rfl) (s_val rfl (v_assign rfl) (x_nil (n_then (x_ret (r_then (x_done (.inl rfl) (.cons (r_tmp rfl) .nil) ?_))))))))
    have hw0 : w = false := by simpa using c2
    rw [if_neg (by rw [hw0]; decide)]
    exact ⟨_, ⟨none, 0, rfl, rfl⟩, ent_osl_nil⟩
  · intro c2
    refine x_skip (n_then (x_seq (x_seq ?_)))
    have hw1 : w = true := by simpa using c2
    rw [if_pos hw1]
    refine x_region (s_val rfl (v_assign rfl) (x_nil (n_then (x_block ?_))))
    refine x_loop (fun X : Nat × Option Addr × Nat => X.1 ≤ c.pl.length) (fun X => [(1, .int .i64 l), (2, .pointer (some ⟨b2, 0, none⟩)), (5, .slice X.2.1 (pkK p c.pl X.1).length X.2.2), (6, .int .i64 X.1)]) (fun X => osl 3 1 (.slice X.2.1 (pkK p c.pl X.1).length X.2.2) ((pkK p c.pl X.1).map ixV) :: pt b2 (cfO c) :: R) (fun X => c.pl.length - X.1) (0, none, 0) ?_ ?_ ?_ ?_
    · exact Nat.zero_le _
    · repeat (first | exact sub_nil | refine sub_cons rfl ?_)
    · exact ent_osl_nil
    · intro ⟨i, a0, c0⟩ hi
      dsimp only at hi ⊢
      have hpl := pkK_len p c.pl i
      refine x_seq (x_seq (x_region (s_val rfl (v_move rfl) ?_)))
      refine s_val rfl (v_fieldAddr rfl Tryz.underlying28 rfl Tryz.sizeOf24 rfl (by first | exact Nat.zero_add _ | rfl)) ?_
      refine s_val rfl (v_load Tryz.isAgg24 rfl (cell_own rfl)) ?_
      refine s_val rfl (v_len_slice Tryz.underlying24 rfl) (s_val rfl (v_lss rfl rfl) (x_nil (n_then ?_)))
      refine x_if rfl ?_ ?_
      · intro c5
        refine x_skip (n_then ?_)
        refine x_cut (fun X : Option Addr × Nat => True) (fun X => [(1, .int .i64 l), (2, .pointer (some ⟨b2, 0, none⟩)), (5, .slice X.1 (pkK p c.pl (i + 1)).length X.2), (6, .int .i64 i)]) (fun X => osl 3 1 (.slice X.1 (pkK p c.pl (i + 1)).length X.2) ((pkK p c.pl (i + 1)).map ixV) :: pt b2 (cfO c) :: R) ?_ ?_
        · skip
          refine x_block (x_seq ?_)
          have hi1 : i < c.pl.length := by omega
          obtain ⟨g, o, hga, hc⟩ := (h.p []).at_ hi1
          obtain ⟨x, hx⟩ : ∃ x, c.pl[i] = x := ⟨_, rfl⟩
          rw [hx] at hc
          obtain ⟨q, hq⟩ : ∃ q, flB x.1 l = q := ⟨_, rfl⟩
          have hpx : p x = (decide (x.2 = -1) && q) := by rw [← hp]; dsimp only; rw [hq]
          have hyes := fun (q : p x = true) => pkK_yes (p := p) hi1 (show p c.pl[i] = true by rw [hx]; exact q)
          have hno := fun (q : ¬ p x = true) => pkK_no (p := p) hi1 (show ¬ p c.pl[i] = true by rw [hx]; exact q)
          refine x_region ?_
          refine s_val rfl (v_fieldAddr rfl Tryz.underlying28 rfl Tryz.sizeOf24 rfl (by first | exact Nat.zero_add _ | rfl)) ?_
          refine s_val rfl (v_load Tryz.isAgg24 rfl (cell_own rfl)) ?_
          refine s_val rfl (v_move rfl) ?_
          refine s_val rfl (v_idxA Tryz.underlying24 Tryz.sizeOf100 rfl hga rfl rfl hi1 (by first | exact Nat.zero_add _ | rfl)) ?_
          refine s_val rfl (v_fieldAddr rfl Tryz.underlying100 rfl Tryz.sizeOf3 rfl (by first | exact Nat.zero_add _ | rfl)) ?_
          refine s_val rfl (v_load Tryz.isAgg3 rfl (Cells.weak hc 1 _ rfl)) ?_
          refine s_val rfl (v_eql rfl rfl) (s_val rfl (v_move rfl) ?_)
          refine s_and rfl rfl rfl ?_ ?_
          · intro g7_8
            refine s_val rfl (v_fieldAddr rfl Tryz.underlying28 rfl Tryz.sizeOf24 rfl (by first | exact Nat.zero_add _ | rfl)) ?_
            refine s_yes rfl rfl (s_val rfl (v_load Tryz.isAgg24 rfl (cell_own rfl)) ?_)
            refine s_yes rfl rfl (s_val rfl (v_move rfl) (s_yes rfl rfl ?_))
            refine s_val rfl (v_idxA Tryz.underlying24 Tryz.sizeOf100 rfl hga rfl rfl hi1 (by first | exact Nat.zero_add _ | rfl)) ?_
            refine s_yes rfl rfl ?_
            refine s_val rfl (v_fieldAddr rfl Tryz.underlying100 rfl Tryz.sizeOf3 rfl (by first | exact Nat.zero_add _ | rfl)) ?_
            refine s_yes rfl rfl (s_val rfl (v_load Tryz.isAgg3 rfl (Cells.weak hc 0 _ rfl)) ?_)
            refine s_yes rfl rfl (s_val rfl (v_move rfl) (s_yes rfl rfl (s_do rfl (d_call Tryz.call41 rfl (rlFlows_spec W0 _ x.1 l)) ?_)))
            rintro _ B_ ⟨rfl, hB_⟩
            obtain rfl := hB_.symm
            rw [hq]
            refine s_val rfl (v_pick_t rfl rfl) (x_nil (n_then ?_))
            refine x_if rfl ?_ ?_
            · intro c7
              have hst := hyes (by rw [hpx]; simp_all)
              have hln : (pkK p c.pl (i + 1)).length = (pkK p c.pl i).length + 1 := by rw [hst]; simp
              have hmp : (pkK p c.pl (i + 1)).map ixV = (pkK p c.pl i).map ixV ++ [Value.int .i64 (i : Int)] := by rw [hst, List.map_append]; rfl
              refine x_region (s_val rfl (v_move rfl) (s_val rfl (v_move rfl) ?_))
              refine s_do rfl (d_sliceLit Tryz.underlying38 Tryz.sizeOf3 Tryz.zeroValue3 rfl rfl rfl rfl rfl (by decide) (by decide)) ?_
              rintro _ _ ⟨b2, rfl, rfl⟩
              refine s_do rfl (d_append (sz := 1) (by_ := 8) (info := Tryz.t3) Tryz.underlying38 (by kernel_rfl) rfl rfl rfl rfl (by decide) rfl rfl cells_all rfl rfl (by simp only [maxLen]; omega) (by omega)) ?_
              rintro _ _ ⟨a3, c3, rfl, rfl⟩
              rw [← hln, ← hmp]
              refine s_val rfl (v_assign rfl) (x_nil (n_block (n_then ?_)))
              refine mid_intro (a3, c3) ?_ ?_ ?_
              · trivial
              · repeat (first | exact sub_nil | refine sub_cons rfl ?_)
              · exact inferInstance
            · intro c7
              refine x_skip (n_block (n_then ?_))
              refine mid_intro (a0, c0) ?_ ?_ ?_
              · trivial
              · rw [hno (by rw [hpx]; simp_all)]
                repeat (first | exact sub_nil | refine sub_cons rfl ?_)
              · rw [hno (by rw [hpx]; simp_all)]
                exact inferInstance
          · intro g7_8
            refine s_no rfl rfl rfl rfl (s_no rfl rfl rfl rfl (s_no rfl rfl rfl rfl (s_no rfl rfl rfl rfl (s_no rfl rfl rfl rfl (s_no rfl rfl rfl rfl (s_no rfl rfl rfl rfl (s_val rfl (v_pick_f rfl rfl) (x_nil (n_then (x_iff rfl (x_skip (n_block (n_then ?_)))))))))))))
            refine mid_intro (a0, c0) ?_ ?_ ?_
            · trivial
            · rw [hno (by rw [hpx]; simp_all)]
              repeat (first | exact sub_nil | refine sub_cons rfl ?_)
            · rw [hno (by rw [hpx]; simp_all)]
              exact inferInstance
        · intro ⟨a1, c1⟩ _
          refine x_region (s_val rfl (v_move rfl) ?_)
          refine s_val rfl (v_add rfl rfl (by first | exact w64 (by omega) | rfl)) ?_
          refine s_val rfl (v_assign rfl) (x_nil (n_then ?_))
          refine inv_intro (i + 1, a1, c1) ?_ ?_ ?_ ?_
          · omega
          · omega
          · repeat (first | exact sub_nil | refine sub_cons rfl ?_)
          · exact inferInstance
      · intro c5
        refine x_exit (e_then (e_then (e_block (n_then (x_seq (x_region (s_val rfl (v_move rfl) (s_val rfl (v_assign rfl) (x_nil (n_then (x_ret (x_done (.inl rfl) (.cons (r_tmp rfl) .nil) ?_))))))))))))
        obtain rfl : i = c.pl.length := by omega
        exact ⟨_, ⟨a0, c0, rfl, rfl⟩, inferInstance⟩
theorem rsSees_spec (W0 : World) (R : List HP) (c : Cfg) (h : CfOk W0 c) (at_ l : Int) (ha : at_ < 9223372036854775808) :
    Spec Tryz.prog W0 45 [.agg (cfgV c).toArray, .int .i64 at_, .int .i64 l] R (fun v B => v = .tuple #[.bool (rngd c at_ l).2, .bool (rngd c at_ l).1] ∧ B = R) := by
  obtain ⟨o, ho⟩ : ∃ o, rgOf c at_ = o := ⟨_, rfl⟩
  have hr : rngd c at_ l = rngO c l o := by rw [rngd, ho]
  rw [hr]
  refine spec_body Tryz.func45 Tryz.ntmps45 rfl rfl ?_
  refine x_seq (x_region (s_do rfl (d_boxA rfl) ?_))
  rintro _ _ ⟨b3, rfl, rfl⟩
  refine s_val rfl (v_assign rfl) (s_val rfl (v_assign rfl) (x_nil (n_then (x_seq (x_region (s_val rfl (v_loadAll Tryz.isAgg28 Tryz.sizeOf28 rfl rfl) ?_))))))
  refine s_val rfl (v_move rfl) (s_do rfl (d_call Tryz.call113 rfl (rcRangeOf_spec W0 _ c h at_ ha)) ?_)
  rintro _ B_ ⟨rfl, hB_⟩
  obtain rfl := hB_.symm
  rw [ho]
  refine s_val rfl (v_assign rfl) (x_nil (n_then (x_seq (x_seq (x_region (s_val rfl (v_move rfl) (s_val rfl (v_lss rfl rfl) (x_nil (n_then ?_)))))))))
  refine x_if rfl ?_ ?_
  · intro c2
    refine x_seq (x_region (s_val rfl (v_assign rfl) (s_val rfl (v_assign rfl) (x_nil (n_then (x_ret (r_then (x_done (.inl rfl) (.cons (r_tmp rfl) (.cons (r_tmp rfl) .nil)) ?_))))))))
    cases o with
      | none => exact ⟨_, ⟨rfl, rfl⟩, inferInstance⟩
      | some i => exact absurd c2 (by simp [oIx]; try omega)
  · intro c2
    refine x_skip (n_then (x_seq ?_))
    obtain ⟨i, rfl⟩ : ∃ i, o = some i := by
      cases o with
      | none => exact absurd (by decide) c2
      | some i => exact ⟨i, rfl⟩
    have hi := rgOf_lt ho
    obtain ⟨g, oo, hra, hc⟩ := (h.r []).at_ hi
    have hA : rlA c i = c.rl[i] := by simp [rlA, List.getD, hi]
    rw [← hA] at hc
    refine x_region ?_
    refine s_val rfl (v_fieldAddr rfl Tryz.underlying28 rfl Tryz.sizeOf23 rfl (by first | exact Nat.zero_add _ | rfl)) ?_
    refine s_val rfl (v_load Tryz.isAgg23 rfl (cell_own rfl)) ?_
    refine s_val rfl (v_move rfl) ?_
    refine s_val rfl (v_idxA Tryz.underlying23 Tryz.sizeOf151 rfl hra rfl rfl hi (by first | exact Nat.zero_add _ | rfl)) ?_
    refine s_val rfl (v_fieldAddr rfl Tryz.underlying151 rfl Tryz.sizeOf3 rfl (by first | exact Nat.zero_add _ | rfl)) ?_
    refine s_val rfl (v_load Tryz.isAgg3 rfl (Cells.weak hc 0 _ rfl)) ?_
    refine s_val rfl (v_move rfl) (s_do rfl (d_call Tryz.call41 rfl (rlFlows_spec W0 _ (rlA c i).1 l)) ?_)
    rintro _ B_ ⟨rfl, hB_⟩
    obtain rfl := hB_.symm
    refine s_val rfl (v_assign rfl) (s_val rfl (v_assign rfl) (x_nil (n_then (x_ret (x_done (.inl rfl) (.cons (r_tmp rfl) (.cons (r_tmp rfl) .nil)) ?_)))))
    exact ⟨_, ⟨rfl, rfl⟩, inferInstance⟩
theorem rsSectors_spec (W0 : World) (R : List HP) (c : Cfg) (h : CfOk W0 c) (l : Int) :
    Spec Tryz.prog W0 14 [.agg (cfgV c).toArray, .int .i64 l] R (fun v B => ∃ a k, v = .slice a (seK c l 32).length k ∧ B = osl 3 1 (.slice a (seK c l 32).length k) ((seK c l 32).map ixV) :: R) := by
  refine spec_body Tryz.func14 Tryz.ntmps14 rfl rfl ?_
  refine x_seq (x_region (s_do rfl (d_boxA rfl) ?_))
  rintro _ _ ⟨b2, rfl, rfl⟩
  refine s_val rfl (v_assign rfl) (x_nil (n_then (x_seq (x_region (s_val rfl (v_assign rfl) (x_nil (n_then (x_seq (x_seq (x_region (s_val rfl (v_assign rfl) (x_nil (n_then (x_block ?_))))))))))))))
  refine x_loop (fun X : Nat × Option Addr × Nat => X.1 ≤ 32) (fun X => [(1, .int .i64 l), (2, .pointer (some ⟨b2, 0, none⟩)), (5, .slice X.2.1 (seK c l X.1).length X.2.2), (6, .int .i64 X.1)]) (fun X => osl 3 1 (.slice X.2.1 (seK c l X.1).length X.2.2) ((seK c l X.1).map ixV) :: pt b2 (cfO c) :: R) (fun X => 32 - X.1) (0, none, 0) ?_ ?_ ?_ ?_
  · exact Nat.zero_le _
  · repeat (first | exact sub_nil | refine sub_cons rfl ?_)
  · exact ent_osl_nil
  · intro ⟨i, a0, c0⟩ hi
    dsimp only at hi ⊢
    have hst := seK_succ c l i
    have hln := seK_len c l i
    refine x_seq (x_seq (x_region (s_val rfl (v_move rfl) (s_val rfl (v_lss rfl rfl) (x_nil (n_then ?_))))))
    refine x_if rfl ?_ ?_
    · intro c3
      refine x_skip (n_then ?_)
      refine x_cut (fun X : Option Addr × Nat => True) (fun X => [(1, .int .i64 l), (2, .pointer (some ⟨b2, 0, none⟩)), (5, .slice X.1 (seK c l (i + 1)).length X.2), (6, .int .i64 i)]) (fun X => osl 3 1 (.slice X.1 (seK c l (i + 1)).length X.2) ((seK c l (i + 1)).map ixV) :: pt b2 (cfO c) :: R) ?_ ?_
      · skip
        refine x_block (x_seq (x_region (s_val rfl (v_loadAll Tryz.isAgg28 Tryz.sizeOf28 rfl rfl) ?_)))
        refine s_val rfl (v_move rfl) (s_val rfl (v_move rfl) ?_)
        refine s_do rfl (d_call Tryz.call45 rfl (rsSees_spec W0 _ c h (i : Int) l (by omega))) ?_
        rintro _ B_ ⟨rfl, hB_⟩
        obtain rfl := hB_.symm
        refine s_val rfl (v_move rfl) (s_val rfl (v_extract rfl rfl) (s_val rfl (v_extract rfl rfl) (s_val rfl (v_assign rfl) (s_val rfl (v_assign rfl) (x_nil (n_then (x_seq (x_region (s_val rfl (v_move rfl) (x_nil (n_then ?_)))))))))))
        refine x_if rfl ?_ ?_
        · intro c6
          rw [if_pos c6] at hst
          have hl2 : (seK c l (i + 1)).length = (seK c l i).length + 1 := by rw [hst]; simp
          have hmp : (seK c l (i + 1)).map ixV = (seK c l i).map ixV ++ [Value.int .i64 (i : Int)] := by rw [hst, List.map_append]; rfl
          refine x_region (s_val rfl (v_move rfl) (s_val rfl (v_move rfl) ?_))
          refine s_do rfl (d_sliceLit Tryz.underlying38 Tryz.sizeOf3 Tryz.zeroValue3 rfl rfl rfl rfl rfl (by decide) (by decide)) ?_
          rintro _ _ ⟨b2, rfl, rfl⟩
          refine s_do rfl (d_append (sz := 1) (by_ := 8) (info := Tryz.t3) Tryz.underlying38 (by kernel_rfl) rfl rfl rfl rfl (by decide) rfl rfl cells_all rfl rfl (by simp only [maxLen]; omega) (by omega)) ?_
          rintro _ _ ⟨a3, c3, rfl, rfl⟩
          rw [← hl2, ← hmp]
          refine s_val rfl (v_assign rfl) (x_nil (n_block (n_then ?_)))
          refine mid_intro (a3, c3) ?_ ?_ ?_
          · trivial
          · repeat (first | exact sub_nil | refine sub_cons rfl ?_)
          · exact inferInstance
        · intro c6
          rw [if_neg c6] at hst
          refine x_skip (n_block (n_then ?_))
          refine mid_intro (a0, c0) ?_ ?_ ?_
          · trivial
          · rw [hst]
            repeat (first | exact sub_nil | refine sub_cons rfl ?_)
          · rw [hst]
            exact inferInstance
      · intro ⟨a1, c1⟩ _
        refine x_region (s_val rfl (v_move rfl) ?_)
        refine s_val rfl (v_add rfl rfl (by first | exact w64 (by omega) | rfl)) ?_
        refine s_val rfl (v_assign rfl) (x_nil (n_then ?_))
        refine inv_intro (i + 1, a1, c1) ?_ ?_ ?_ ?_
        · omega
        · omega
        · repeat (first | exact sub_nil | refine sub_cons rfl ?_)
        · exact inferInstance
    · intro c3
      refine x_exit (e_then (e_then (e_block (n_then (x_seq (x_region (s_val rfl (v_move rfl) (s_val rfl (v_assign rfl) (x_nil (n_then (x_ret (x_done (.inl rfl) (.cons (r_tmp rfl) .nil) ?_))))))))))))
      obtain rfl : i = 32 := by omega
      exact ⟨_, ⟨a0, c0, rfl, rfl⟩, inferInstance⟩
theorem rsCut_spec (W0 : World) (R : List HP) (a : Option Addr) (c : Nat) (l : List Nat) (hl : l.length < 9223372036854775808) (hc : l.length ≤ c) :
    Spec Tryz.prog W0 117 [.slice a l.length c, .int .i64 8] R (fun v B => v = .slice a (l.take 128).length c ∧ B = R) := by
  have hlen : (l.take 128).length = min 128 l.length := List.length_take
  refine spec_body Tryz.func117 Tryz.ntmps117 rfl rfl ?_
  refine x_seq (x_region (s_val rfl (v_assign rfl) (x_nil (n_then (x_seq (x_seq (x_region (s_val rfl (v_move rfl) (s_val rfl (v_lss rfl rfl) (x_nil (n_then ?_)))))))))))
  refine x_if rfl ?_ ?_
  · intro c1
    exact absurd c1 (by decide)
  · intro c1
    refine x_skip (n_then (x_seq (x_region (s_val rfl (v_move rfl) (s_val rfl (v_min rfl rfl rfl) ?_)))))
    refine s_val rfl (v_mul rfl rfl (by first | exact w64 (by omega) | rfl)) ?_
    refine s_val rfl (v_assign rfl) (x_nil (n_then (x_seq (x_region (s_val rfl (v_move rfl) (s_val rfl (v_move rfl) (s_val rfl (v_move rfl) (s_val rfl (v_len_slice Tryz.underlying45 rfl) ?_))))))))
    refine s_val rfl (v_min rfl rfl (r := ((l.take 128).length : Int)) (by rw [hlen]; split <;> omega)) ?_
    refine s_val rfl (v_sliceH Tryz.underlying45 Tryz.sizeOf47 rfl rfl (h := (l.take 128).length) rfl (by omega)) ?_
    refine s_val rfl (v_assign rfl) (x_nil (n_then (x_ret (x_done (.inl rfl) (.cons (r_tmp rfl) .nil) ?_))))
    exact ⟨_, ⟨rfl, rfl⟩, inferInstance⟩
theorem rsWords_spec (W0 : World) (R : List HP) (s : Scr) (h : ScrOk W0 s) (i : Nat) :
    Spec Tryz.prog W0 54 [.agg (scrV s).toArray, .int .i64 i] R (fun v B => v = .slice (wrdI s i).a (cutW s i).length (wrdI s i).c ∧ B = R) := by
  obtain ⟨h1, h2, h3, h4⟩ := wrdI_ok h i
  refine spec_body Tryz.func54 Tryz.ntmps54 rfl rfl ?_
  refine x_seq (x_region (s_do rfl (d_boxA rfl) ?_))
  rintro _ _ ⟨b1, rfl, rfl⟩
  refine s_val rfl (v_assign rfl) (x_nil (n_then (x_seq (x_seq (x_region (s_val rfl (v_move rfl) ?_))))))
  refine s_val rfl (v_fieldAddr rfl Tryz.underlying33 rfl Tryz.sizeOf29 rfl (by first | exact Nat.zero_add _ | rfl)) ?_
  refine s_val rfl (v_load Tryz.isAgg29 rfl (cell_own rfl)) ?_
  refine s_val rfl (v_len_slice Tryz.underlying29 rfl) (s_val rfl (v_geq rfl rfl) (x_nil (n_then ?_)))
  refine x_if rfl ?_ ?_
  · intro c1
    refine x_seq (x_region (s_val rfl (v_assign rfl) (x_nil (n_then (x_ret (r_then (x_done (.inl rfl) (.cons (r_tmp rfl) .nil) ?_)))))))
    have he : wrdI s i = imgZ := by rw [wrdI, List.getD, List.getElem?_eq_none (by omega)]; rfl
    rw [cutW, he]
    exact ⟨_, ⟨rfl, rfl⟩, inferInstance⟩
  · intro c1
    refine x_skip (n_then (x_seq ?_))
    have hi : i < s.il.length := by omega
    obtain ⟨g, o, hia, hc⟩ := (h.i []).at_ hi
    have he : wrdI s i = s.il[i] := by simp [wrdI, List.getD, hi]
    rw [← he] at hc
    refine x_region ?_
    refine s_val rfl (v_fieldAddr rfl Tryz.underlying33 rfl Tryz.sizeOf29 rfl (by first | exact Nat.zero_add _ | rfl)) ?_
    refine s_val rfl (v_load Tryz.isAgg29 rfl (cell_own rfl)) ?_
    refine s_val rfl (v_move rfl) ?_
    refine s_val rfl (v_idxA Tryz.underlying29 Tryz.sizeOf45 rfl hia rfl rfl hi (by first | exact Nat.zero_add _ | rfl)) ?_
    refine s_val rfl (v_load Tryz.isAgg45 rfl (Cells.weak hc 0 _ rfl)) ?_
    refine s_do rfl (d_call Tryz.call117 rfl (rsCut_spec W0 _ (wrdI s i).a (wrdI s i).c (wrdI s i).l h4 h2)) ?_
    rintro _ B_ ⟨rfl, hB_⟩
    obtain rfl := hB_.symm
    refine s_val rfl (v_assign rfl) (x_nil (n_then (x_ret (x_done (.inl rfl) (.cons (r_tmp rfl) .nil) ?_))))
    exact ⟨_, ⟨rfl, rfl⟩, inferInstance⟩
theorem rsBegins_spec (W0 : World) (R : List HP) (s : Scr) (h : ScrOk W0 s) (at_ : Int) (hl : s.sl.length ≤ 1000) :
    Spec Tryz.prog W0 57 [.agg (scrV s).toArray, .int .i64 at_] R (fun v B => v = .string (strB (begS s at_)) ∧ B = R) := by
  refine spec_body Tryz.func57 Tryz.ntmps57 rfl rfl ?_
  refine x_seq (x_region (s_do rfl (d_boxA rfl) ?_))
  rintro _ _ ⟨b1, rfl, rfl⟩
  refine s_val rfl (v_assign rfl) (x_nil (n_then (x_seq (x_region ?_))))
  refine s_do rfl (d_call Tryz.call87 rfl (refFit_spec W0 _ ⟨#[]⟩ (by decide) 16 (by decide))) ?_
  rintro _ B_ ⟨af, kf, rfl, hB_⟩
  obtain rfl := hB_.symm
  refine s_val rfl (v_assign rfl) (x_nil (n_then (x_seq (x_seq (x_region (s_val rfl (v_assign rfl) (x_nil (n_then (x_block ?_)))))))))
  refine x_loop (fun X : Nat × Option Addr × Nat => X.1 ≤ s.sl.length) (fun X => [(1, .int .i64 at_), (2, .pointer (some ⟨b1, 0, none⟩)), (5, .slice X.2.1 16 X.2.2), (6, .int .i64 X.1)]) (fun X => osl 5 1 (.slice X.2.1 16 X.2.2) (byV (begK s.sl at_ X.1)) :: pt b1 (cob (scrV s) 33) :: R) (fun X => s.sl.length - X.1) (0, af, kf) ?_ ?_ ?_ ?_
  · exact Nat.zero_le _
  · repeat (first | exact sub_nil | refine sub_cons rfl ?_)
  · show Ent _ (osl 5 1 (.slice af 16 kf) (byV (ftB ⟨#[]⟩ 16)) :: pt b1 (cob (scrV s) 33) :: R)
    exact inferInstance
  · intro ⟨i, a, k⟩ hi
    dsimp only at hi ⊢
    refine x_seq (x_seq (x_region (s_val rfl (v_move rfl) ?_)))
    refine s_val rfl (v_fieldAddr rfl Tryz.underlying33 rfl Tryz.sizeOf30 rfl (by first | exact Nat.zero_add _ | rfl)) ?_
    refine s_val rfl (v_load Tryz.isAgg30 rfl (cell_own rfl)) ?_
    refine s_val rfl (v_len_slice Tryz.underlying30 rfl) (s_val rfl (v_lss rfl rfl) (x_nil (n_then ?_)))
    refine x_if rfl ?_ ?_
    · intro c3
      refine x_skip (n_then ?_)
      refine x_cut (fun X : Option Addr × Nat => True) (fun X => [(1, .int .i64 at_), (2, .pointer (some ⟨b1, 0, none⟩)), (5, .slice X.1 16 X.2), (6, .int .i64 i)]) (fun X => osl 5 1 (.slice X.1 16 X.2) (byV (begK s.sl at_ (i + 1))) :: pt b1 (cob (scrV s) 33) :: R) ?_ ?_
      · skip
        refine x_block (x_seq ?_)
        have hi1 : i < s.sl.length := by omega
        obtain ⟨g, o, hsa, hc⟩ := (h.sx []).at_ hi1
        obtain ⟨x, hx⟩ : ∃ x, s.sl[i] = x := ⟨_, rfl⟩
        have hgd : s.sl.getD i default = x := by simp [List.getD, hi1, hx]
        have hst : begK s.sl at_ (i + 1) = if x.at_ = at_ then ftB x.d 16 else begK s.sl at_ i := by rw [begK, hgd]
        have hsz := (h.sb x (by rw [← hx]; exact List.getElem_mem hi1)).2
        rw [hx] at hc
        refine x_region ?_
        refine s_val rfl (v_fieldAddr rfl Tryz.underlying33 rfl Tryz.sizeOf30 rfl (by first | exact Nat.zero_add _ | rfl)) ?_
        refine s_val rfl (v_load Tryz.isAgg30 rfl (cell_own rfl)) ?_
        refine s_val rfl (v_move rfl) ?_
        refine s_val rfl (v_idxA Tryz.underlying30 Tryz.sizeOf117 rfl hsa rfl rfl hi1 (by first | exact Nat.zero_add _ | rfl)) ?_
        refine s_val rfl (v_fieldAddr rfl Tryz.underlying117 rfl Tryz.sizeOf3 rfl (by first | exact Nat.zero_add _ | rfl)) ?_
        refine s_val rfl (v_load Tryz.isAgg3 rfl (Cells.weak hc 0 _ rfl)) ?_
        refine s_val rfl (v_move rfl) (s_val rfl (v_eql rfl rfl) (x_nil (n_then ?_)))
        refine x_if rfl ?_ ?_
        · intro c5
          refine x_region ?_
          refine s_val rfl (v_fieldAddr rfl Tryz.underlying33 rfl Tryz.sizeOf30 rfl (by first | exact Nat.zero_add _ | rfl)) ?_
          refine s_val rfl (v_load Tryz.isAgg30 rfl (cell_own rfl)) ?_
          refine s_val rfl (v_move rfl) ?_
          refine s_val rfl (v_idxA Tryz.underlying30 Tryz.sizeOf117 rfl hsa rfl rfl hi1 (by first | exact Nat.zero_add _ | rfl)) ?_
          refine s_val rfl (v_fieldAddr rfl Tryz.underlying117 rfl Tryz.sizeOf9 rfl (by first | exact Nat.zero_add _ | rfl)) ?_
          refine s_val rfl (v_load Tryz.isAgg9 rfl (Cells.weak hc 1 _ rfl)) ?_
          refine s_do rfl (d_call Tryz.call87 rfl (refFit_spec W0 _ x.d hsz 16 (by decide))) ?_
          rintro _ B_ ⟨a2, k2, rfl, hB_⟩
          obtain rfl := hB_.symm
          refine s_val rfl (v_assign rfl) (x_nil (n_block (n_then ?_)))
          refine mid_intro (a2, k2) ?_ ?_ ?_
          · trivial
          · repeat (first | exact sub_nil | refine sub_cons rfl ?_)
          · rw [hst, if_pos c5]; exact inferInstance
        · intro c5
          refine x_skip (n_block (n_then ?_))
          refine mid_intro (a, k) ?_ ?_ ?_
          · trivial
          · repeat (first | exact sub_nil | refine sub_cons rfl ?_)
          · rw [hst, if_neg c5]; exact inferInstance
      · intro ⟨a2, k2⟩ _
        refine x_region (s_val rfl (v_move rfl) ?_)
        refine s_val rfl (v_add rfl rfl (by first | exact w64 (by omega) | rfl)) ?_
        refine s_val rfl (v_assign rfl) (x_nil (n_then ?_))
        refine inv_intro (i + 1, a2, k2) ?_ ?_ ?_ ?_
        · omega
        · omega
        · repeat (first | exact sub_nil | refine sub_cons rfl ?_)
        · exact inferInstance
    · intro c3
      refine x_exit (e_then (e_then (e_block (n_then (x_seq ?_)))))
      obtain rfl : i = s.sl.length := by omega
      have h16 := (begK_ok s.sl at_ s.sl.length).1
      refine run_form (E := 5) (sz := 1) (a := a) (c := k) (n := 16) (ys := byV (begK s.sl at_ s.sl.length)) (fun hf => ?_)
      obtain ⟨gf, rfl⟩ := form_some hf (byV_ne (by omega))
      refine x_region (s_val rfl (v_move rfl) (s_val rfl (v_bstrSN (bs := begK s.sl at_ s.sl.length) Tryz.underlying44 Tryz.underlying5 Tryz.underlying9 rfl h16 (sla_byV (cells_osl (E := 5) (sz := 1) (a := some ⟨gf, 0, none⟩) (n := 16) (c := k)))) ?_))
      refine s_val rfl (v_assign rfl) (x_nil (n_then (x_ret (x_done (.inl rfl) (.cons (r_tmp rfl) .nil) ?_))))
      exact ⟨_, ⟨rfl, rfl⟩, inferInstance⟩
end Go.Proofs.YtncegikenkpcmaaGreat
namespace Go.Proofs.YtncegikenkpcmaaGreat
open Go.RowKit
set_option linter.unusedSimpArgs false
set_option linter.unusedVariables false
set_option maxRecDepth 20000
theorem cloneU_spec (W0 : World) (R : List HP) (l : List Nat) (a : Option Addr) (n c : Nat) (hl : l.length = n) (hN : n ≤ 35184372087808) (hs : SlA (OwnP W0 R) a 1 (fun x => [wV x]) l) :
    Spec Tryz.prog W0 119 [.slice a n c] R
      (fun v B => ∃ a' c', v = .slice a' n c' ∧ B = osl 47 1 (.slice a' n c') (l.map wV) :: R) := by
  subst hl
  refine spec_body Tryz.func119 Tryz.ntmps119 rfl rfl ?_
  refine x_seq (x_region (s_val rfl (v_assign rfl) (x_nil (n_then (x_seq (x_seq (x_region (s_val rfl (v_move rfl) (s_val rfl (v_eql_slice_nil Tryz.underlying45 rfl rfl) (x_nil (n_then ?_)))))))))))
  refine x_if rfl ?_ ?_
  · intro c1
    refine x_seq (x_region (s_val rfl (v_assign rfl) (x_nil (n_then (x_ret (r_then (x_done (.inl rfl) (.cons (r_tmp rfl) .nil) ?_)))))))
    have h0 : l = [] := by
      rcases l with _ | ⟨x, l⟩
      · rfl
      · obtain ⟨b, o, h, _⟩ := hs 0 x rfl
        rw [c1] at h; cases h
    subst h0
    exact ⟨_, ⟨none, 0, rfl, rfl⟩, ent_osl_nil⟩
  · intro c1
    have hsrc := hs.src (fun _ => rfl) (fun _ => trivial)
    refine x_skip (n_then (x_seq (x_region (s_do rfl (d_slice0 Tryz.underlying45 Tryz.sizeOf47 rfl) ?_))))
    rintro _ _ ⟨be, rfl, rfl⟩
    refine s_val rfl (v_move rfl) ?_
    refine s_do rfl (d_appendS (sz := 1) (by_ := 4) (info := Tryz.t47) Tryz.underlying45 (by kernel_rfl) rfl rfl rfl rfl (by decide) rfl rfl (news := l.map wV) (by
  rcases hsrc with h | ⟨bs, os, h1, h2⟩
  · left; rw [h]; rfl
  · right; rw [wV_fm] at h2; exact ⟨bs, os, h1, h2.weak⟩) (by rw [List.length_map, Nat.mul_one]) (wV_one l) (by simp only [maxLen]; omega) (by omega)) ?_
    rintro _ _ ⟨a1, c1, rfl, rfl⟩
    refine s_val rfl (v_assign rfl) (x_nil (n_then (x_ret (x_done (.inl rfl) (.cons (r_tmp rfl) .nil) ?_))))
    rw [Nat.zero_add, List.nil_append]
    exact ⟨_, ⟨a1, c1, rfl, rfl⟩, inferInstance⟩
def imgH (x : Img) : HP := osl 47 1 (.slice x.a x.l.length x.c) (x.l.map wV)
theorem ent_snoc {C R : List HP} {h : HP} : Ent (h :: kH 5 (grp C) :: R) (kH 5 (grp (C ++ [h])) :: R) := ⟨fun l hl => by
  obtain ⟨l1, l2, rfl, hh, m1, m2, rfl, hC, hR⟩ := hl
  refine ⟨(m1 ++ l1) ++ m2, [], ⟨m1 ++ l1, m2, rfl, Sat.append.2 ⟨m1, l1, rfl, hC, l1, [], by simp, hh, rfl⟩, hR⟩, ?_⟩
  rw [List.append_nil, List.append_assoc, ← List.append_assoc, ← List.append_assoc]
  exact List.perm_append_comm.append_right m2⟩
def pikS (c : Cfg) (a b : Scr) (l : Int) (i : Nat) : Scr := if flB (c.gl.getD i (0, 0, 0)).1 l = true then a else b
def imM (c : Cfg) (a b : Scr) (l : Int) (n : Nat) : List (List Nat) := (List.range n).map fun i => (wrdI (pikS c a b l i) i).l
theorem imM_succ (c : Cfg) (a b : Scr) (l : Int) (n : Nat) : imM c a b l (n + 1) = imM c a b l n ++ [(wrdI (pikS c a b l n) n).l] := by simp [imM, List.range_succ]
def ImgZ (s : Scr) : Prop := ∀ x ∈ s.il, x.l.length ≤ 35184372087808
theorem wrdI_z {s : Scr} (h : ImgZ s) (i : Nat) : (wrdI s i).l.length ≤ 35184372087808 := by
  unfold wrdI
  rcases Nat.lt_or_ge i s.il.length with q | q
  · rw [show s.il.getD i imgZ = s.il[i] by simp [List.getD, q]]; exact h _ (List.getElem_mem q)
  · rw [show s.il.getD i imgZ = imgZ by simp [List.getD, q]]; exact Nat.zero_le _
theorem siImages_spec (W0 : World) (R : List HP) (c : Cfg) (h : CfOk W0 c) (hgl : c.gl.length ≤ 1000) (a b : Scr) (ha : ScrOk W0 a) (hb : ScrOk W0 b) (za : ImgZ a) (zb : ImgZ b) (l : Int) :
    Spec Tryz.prog W0 58 [.agg (cfgV c).toArray, .agg (scrV a).toArray, .agg (scrV b).toArray, .int .i64 l] R
      (fun v B => ∃ aa k, ∃ im : List Img, v = .slice aa im.length k ∧ im.map (fun x => x.l) = imM c a b l c.gl.length ∧ B = osl 45 1 (.slice aa im.length k) (im.flatMap imgV) :: kH 5 (grp (im.map imgH)) :: R) := by
  refine spec_body Tryz.func58 Tryz.ntmps58 rfl rfl ?_
  refine x_seq (x_region (s_do rfl (d_boxA rfl) ?_))
  rintro _ _ ⟨b4, rfl, rfl⟩
  refine s_do rfl (d_boxA rfl) ?_
  rintro _ _ ⟨b5, rfl, rfl⟩
  refine s_do rfl (d_boxA rfl) ?_
  rintro _ _ ⟨b6, rfl, rfl⟩
  refine s_val rfl (v_assign rfl) (x_nil (n_then (x_seq (x_region (s_val rfl (v_assign rfl) (x_nil (n_then (x_seq (x_seq (x_region ?_))))))))))
  refine s_val rfl (v_fieldAddr rfl Tryz.underlying28 rfl Tryz.sizeOf22 rfl (by first | exact Nat.zero_add _ | rfl)) ?_
  refine s_val rfl (v_load Tryz.isAgg22 rfl (cell_own rfl)) ?_
  refine s_val rfl (v_len_slice Tryz.underlying22 rfl) (s_val rfl (v_move rfl) (x_nil (n_then (x_block ?_))))
  refine x_loop (fun X : Nat × Option Addr × Nat × List Img => X.1 ≤ c.gl.length ∧ X.2.2.2.length = X.1 ∧ X.2.2.2.map (fun x => x.l) = imM c a b l X.1) (fun X => [(3, .int .i64 l), (5, .pointer (some ⟨b5, 0, none⟩)), (6, .pointer (some ⟨b6, 0, none⟩)), (9, .slice X.2.1 X.1 X.2.2.1), (14, .slice c.ga c.gl.length c.gc), (15, .int .i64 (c.gl.length : Nat)), (16, .int .i64 X.1)]) (fun X => osl 45 1 (.slice X.2.1 X.1 X.2.2.1) (X.2.2.2.flatMap imgV) :: kH 5 (grp (X.2.2.2.map imgH)) :: pt b5 (cob (scrV a) 33) :: pt b6 (cob (scrV b) 33) :: R) (fun X => c.gl.length - X.1) (0, none, 0, []) ?_ ?_ ?_ ?_
  · exact ⟨Nat.zero_le _, rfl, rfl⟩
  · repeat (first | exact sub_nil | refine sub_cons rfl ?_)
  · show Ent _ (osl 45 1 (.slice none 0 0) [] :: kH 5 (grp []) :: pt b5 (cob (scrV a) 33) :: pt b6 (cob (scrV b) 33) :: R)
    refine ent_osl_nil (k := ?_)
    exact Ent.trans (inferInstance : Ent _ (pt b5 (cob (scrV a) 33) :: pt b6 (cob (scrV b) 33) :: R)) (ent_shut (A := []))
  · intro ⟨i, a0, c0, im⟩ ⟨hi, hin, hil⟩
    dsimp only at hi hin hil ⊢
    refine x_seq (x_region (s_val rfl (v_lss rfl rfl) (x_nil (n_then (x_seq ?_)))))
    refine x_if rfl ?_ ?_
    · intro c3
      refine x_skip (n_then (x_seq (x_block (x_seq ?_))))
      have hi1 : i < c.gl.length := by omega
      obtain ⟨g, o, hga, hc⟩ := (h.g []).at_ hi1
      have hgd : c.gl.getD i (0, 0, 0) = c.gl[i] := by simp [List.getD, hi1]
      obtain ⟨x, hx⟩ : ∃ x, c.gl[i] = x := ⟨_, rfl⟩
      rw [hx] at hc hgd
      have hpk : pikS c a b l i = if flB x.1 l = true then a else b := by rw [pikS, hgd]
      have hst := imM_succ c a b l i
      refine x_region (s_val rfl (v_move rfl) ?_)
      refine s_val rfl (v_idxA Tryz.underlying22 Tryz.sizeOf95 rfl hga rfl rfl hi1 (by first | exact Nat.zero_add _ | rfl)) ?_
      refine s_val rfl (v_loadAgg Tryz.isAgg95 Tryz.sizeOf95 rfl hc.weak rfl) ?_
      refine s_do rfl (d_allocA Tryz.zeroValue95) ?_
      rintro _ _ ⟨bg, rfl, rfl⟩
      refine s_val rfl (v_assign rfl) (s_do0 (d_storeAll Tryz.sizeOf95 rfl rfl rfl rfl rfl) ?_)
      rintro _ _ rfl
      refine x_nil (n_then (x_seq (x_region (s_val rfl (v_loadAll Tryz.isAgg33 Tryz.sizeOf33 rfl rfl) ?_))))
      refine s_do rfl (d_allocA Tryz.zeroValue33) ?_
      rintro _ _ ⟨bf, rfl, rfl⟩
      refine s_do0 (d_storeAll Tryz.sizeOf33 rfl rfl rfl rfl rfl) ?_
      rintro _ _ rfl
      refine x_nil (n_then ?_)
      refine x_cut (fun s : Scr => s = pikS c a b l i) (fun s => [(3, .int .i64 l), (5, .pointer (some ⟨b5, 0, none⟩)), (6, .pointer (some ⟨b6, 0, none⟩)), (9, .slice a0 i c0), (10, .int .i64 i), (12, .pointer (some ⟨bf, 0, none⟩)), (14, .slice c.ga c.gl.length c.gc), (15, .int .i64 (c.gl.length : Nat)), (16, .int .i64 i)]) (fun s => pt bf (cob (scrV s) 33) :: osl 45 1 (.slice a0 i c0) (im.flatMap imgV) :: kH 5 (grp (im.map imgH)) :: pt b5 (cob (scrV a) 33) :: pt b6 (cob (scrV b) 33) :: R) ?_ ?_
      · skip
        refine x_seq (x_region ?_)
        refine s_val rfl (v_fieldAddr rfl Tryz.underlying95 rfl Tryz.sizeOf3 rfl (by first | exact Nat.zero_add _ | rfl)) ?_
        refine s_val rfl (v_load Tryz.isAgg3 rfl (cell_own rfl)) ?_
        refine s_val rfl (v_move rfl) (s_do rfl (d_call Tryz.call39 rfl (lbFlows_spec W0 _ x.1 l)) ?_)
        rintro _ B_ ⟨rfl, hB_⟩
        obtain rfl := hB_.symm
        refine x_nil (n_then ?_)
        refine x_if rfl ?_ ?_
        · intro c6
          refine x_region (s_val rfl (v_loadAll Tryz.isAgg33 Tryz.sizeOf33 rfl rfl) ?_)
          refine s_do0 (d_storeAll Tryz.sizeOf33 rfl rfl rfl rfl rfl) ?_
          rintro _ _ rfl
          refine x_nil (n_then ?_)
          refine mid_intro a ?_ ?_ ?_
          · rw [hpk, if_pos c6]
          · repeat (first | exact sub_nil | refine sub_cons rfl ?_)
          · exact inferInstance
        · intro c6
          refine x_skip (n_then ?_)
          refine mid_intro b ?_ ?_ ?_
          · rw [hpk, if_neg c6]
          · repeat (first | exact sub_nil | refine sub_cons rfl ?_)
          · exact inferInstance
      · intro s hs
        have hsok : ScrOk W0 s := by
          rw [hs, pikS]; split
          · exact ha
          · exact hb
        have hsz : ImgZ s := by
          rw [hs, pikS]; split
          · exact za
          · exact zb
        obtain ⟨w1, w2, w3, w4⟩ := wrdI_ok hsok i
        have w5 := wrdI_z hsz i
        rw [← hs] at hst
        refine x_region (s_val rfl (v_move rfl) (s_val rfl (v_loadAll Tryz.isAgg33 Tryz.sizeOf33 rfl rfl) ?_))
        refine s_val rfl (v_move rfl) (s_do rfl (d_call Tryz.call48 rfl (siWords_spec W0 _ s hsok i)) ?_)
        rintro _ B_ ⟨rfl, hB_⟩
        obtain rfl := hB_.symm
        refine s_do rfl (d_call Tryz.call119 rfl (cloneU_spec W0 _ (wrdI s i).l (wrdI s i).a _ (wrdI s i).c rfl w5 (w1 _))) ?_
        rintro _ B_ ⟨an, cn, rfl, hB_⟩
        obtain rfl := hB_.symm
        refine s_do rfl (d_sliceLit Tryz.underlying29 Tryz.sizeOf45 Tryz.zeroValue45 rfl rfl rfl rfl rfl (by decide) (by decide)) ?_
        rintro _ _ ⟨bq, rfl, rfl⟩
        refine s_do rfl (d_append (sz := 1) (by_ := 24) (info := Tryz.t45) Tryz.underlying29 (by kernel_rfl) rfl rfl rfl rfl (by decide) rfl rfl cells_all rfl rfl (by simp only [maxLen]; omega) (by omega)) ?_
        rintro _ _ ⟨a3, c3, rfl, rfl⟩
        refine s_val rfl (v_assign rfl) (x_nil (n_block (n_then (x_region ?_))))
        refine s_val rfl (v_add rfl rfl (by first | exact w64 (by omega) | rfl)) ?_
        refine s_val rfl (v_move rfl) (x_nil (n_then ?_))
        refine inv_intro (i + 1, a3, c3, im ++ [⟨an, cn, (wrdI s i).l⟩]) ?_ ?_ ?_ ?_
        · exact ⟨by omega, by rw [List.length_append, hin]; rfl, by rw [List.map_append, hil, hst]; rfl⟩
        · omega
        · repeat (first | exact sub_nil | refine sub_cons rfl ?_)
        · dsimp only
          rw [List.flatMap_append, List.flatMap_singleton, List.map_append, List.map_singleton]
          refine Ent.trans (B := osl 45 1 (.slice a3 (i + 1) c3) (im.flatMap imgV ++ imgV ⟨an, cn, (wrdI s i).l⟩) :: imgH ⟨an, cn, (wrdI s i).l⟩ :: kH 5 (grp (im.map imgH)) :: pt b5 (cob (scrV a) 33) :: pt b6 (cob (scrV b) 33) :: R) ?_ (Ent.cons ent_snoc)
          unfold imgH
          exact inferInstance
    · intro c3
      refine x_exit (e_then (e_then (e_block (n_then (x_seq (x_region (s_val rfl (v_move rfl) (s_val rfl (v_assign rfl) (x_nil (n_then (x_ret (x_done (.inl rfl) (.cons (r_tmp rfl) .nil) ?_))))))))))))
      obtain rfl : i = c.gl.length := by omega
      refine ⟨_, ⟨a0, c0, im, ?_, hil, rfl⟩, ?_⟩
      · rw [hin]; rfl
      · rw [hin]; exact inferInstance
theorem sectors1_pk (W0 : World) (b4 b7 : Nat) (c : Cfg) (h : CfOk W0 c) (l : Int) (sl : List Sec) (hb : ∀ x ∈ sl, x.at_ < 9223372036854775808) :
    PKl seV W0 121 [.pointer (some ⟨b4, 0, none⟩), .pointer (some ⟨b7, 0, none⟩)] (grp [pt b4 (cfO c), pt b7 (cob [.int .i64 l] 3)]) sl (fun x => (rngd c x.at_ l).2) := ⟨Tryz.call121, fun x hx R => by
  refine spec_kgrp ?_
  simp only [List.cons_append, List.nil_append]
  refine spec_body Tryz.func121 Tryz.ntmps121 rfl rfl ?_
  refine x_seq (x_region (s_do rfl (d_boxA rfl) ?_))
  rintro _ _ ⟨bx, rfl, rfl⟩
  refine s_val rfl (v_assign rfl) (x_nil (n_then (x_seq (x_region (s_val rfl (v_loadAll Tryz.isAgg28 Tryz.sizeOf28 rfl rfl) ?_)))))
  refine s_val rfl (v_fieldAddr rfl Tryz.underlying117 rfl Tryz.sizeOf3 rfl (by first | exact Nat.zero_add _ | rfl)) ?_
  refine s_val rfl (v_load Tryz.isAgg3 rfl (cell_own rfl)) ?_
  refine s_val rfl (v_load Tryz.isAgg3 rfl (cell_own rfl)) ?_
  refine s_do rfl (d_call Tryz.call44 rfl (siRanged_spec W0 _ c h x.at_ l (hb x hx))) ?_
  rintro _ B_ ⟨rfl, hB_⟩
  obtain rfl := hB_.symm
  refine s_val rfl (v_move rfl) (s_val rfl (v_extract rfl rfl) (s_val rfl (v_extract rfl rfl) (s_val rfl (v_assign rfl) (s_val rfl (v_assign rfl) (x_nil (n_then (x_seq (x_region (s_val rfl (v_move rfl) (s_val rfl (v_assign rfl) (x_nil (n_then (x_ret (x_done (.inl rfl) (.cons (r_tmp rfl) .nil) ?_))))))))))))))
  exact ⟨_, ⟨rfl, rfl⟩, inferInstance⟩
  ⟩
theorem sectors2_pk (W0 : World) (b4 b7 : Nat) (c : Cfg) (h : CfOk W0 c) (l : Int) (sl : List Sec) (hb : ∀ x ∈ sl, x.at_ < 9223372036854775808) :
    PKl seV W0 122 [.pointer (some ⟨b4, 0, none⟩), .pointer (some ⟨b7, 0, none⟩)] (grp [pt b4 (cfO c), pt b7 (cob [.int .i64 l] 3)]) sl (fun x => (rngd c x.at_ l).1 && !(rngd c x.at_ l).2) := ⟨Tryz.call122, fun x hx R => by
  refine spec_kgrp ?_
  simp only [List.cons_append, List.nil_append]
  obtain ⟨r, hr⟩ : ∃ r, rngd c x.at_ l = r := ⟨_, rfl⟩
  rw [hr]
  refine spec_body Tryz.func122 Tryz.ntmps122 rfl rfl ?_
  refine x_seq (x_region (s_do rfl (d_boxA rfl) ?_))
  rintro _ _ ⟨bx, rfl, rfl⟩
  refine s_val rfl (v_assign rfl) (x_nil (n_then (x_seq (x_region (s_val rfl (v_loadAll Tryz.isAgg28 Tryz.sizeOf28 rfl rfl) ?_)))))
  refine s_val rfl (v_fieldAddr rfl Tryz.underlying117 rfl Tryz.sizeOf3 rfl (by first | exact Nat.zero_add _ | rfl)) ?_
  refine s_val rfl (v_load Tryz.isAgg3 rfl (cell_own rfl)) ?_
  refine s_val rfl (v_load Tryz.isAgg3 rfl (cell_own rfl)) ?_
  refine s_do rfl (d_call Tryz.call44 rfl (siRanged_spec W0 _ c h x.at_ l (hb x hx))) ?_
  rintro _ B_ ⟨rfl, hB_⟩
  obtain rfl := hB_.symm
  rw [hr]
  refine s_val rfl (v_move rfl) (s_val rfl (v_extract rfl rfl) (s_val rfl (v_extract rfl rfl) (s_val rfl (v_assign rfl) (s_val rfl (v_assign rfl) (x_nil (n_then (x_seq (x_region (s_val rfl (v_move rfl) (s_val rfl (v_move rfl) ?_))))))))))
  refine s_and rfl rfl rfl ?_ ?_
  · intro g2_2
    refine s_val rfl (v_move rfl) (s_yes rfl rfl (s_val rfl (v_not rfl) (s_val rfl (v_pick_t rfl rfl) (s_val rfl (v_assign rfl) (x_nil (n_then (x_ret (x_done (.inl rfl) (.cons (r_tmp rfl) .nil) ?_))))))))
    refine ⟨_, ⟨?_, rfl⟩, inferInstance⟩
    refine congrArg Value.bool ?_
    first
      | rw [show r.1 = true by assumption, Bool.true_and]
      | (rw [show r.1 = false by simpa using g2_2]; rfl)
  · intro g2_2
    refine s_no rfl rfl rfl rfl (s_val rfl (v_pick_f rfl rfl) (s_val rfl (v_assign rfl) (x_nil (n_then (x_ret (x_done (.inl rfl) (.cons (r_tmp rfl) .nil) ?_))))))
    refine ⟨_, ⟨?_, rfl⟩, inferInstance⟩
    refine congrArg Value.bool ?_
    first
      | rw [show r.1 = true by assumption, Bool.true_and]
      | (rw [show r.1 = false by simpa using g2_2]; rfl)
  ⟩
def seM (c : Cfg) (a b : Scr) (l : Int) : List Sec := a.sl.filter (fun x => (rngd c x.at_ l).2) ++ b.sl.filter (fun x => (rngd c x.at_ l).1 && !(rngd c x.at_ l).2)
theorem frm_src {W0 : World} {A : List HP} {E sz n c : Nat} {a : Option Addr} {ys : List Value} (hf : Frm0 a ys) (hl : ys.length = n * sz) (hz : 0 < sz) (hc : Cells (OwnP W0 A) (obk a) 0 ys) : n = 0 ∨ ∃ bx ox, a = some ⟨bx, ox, none⟩ ∧ Cells (OwnP W0 A) bx ox ys := by
  rcases hf with ⟨_, h0⟩ | ⟨g, rfl⟩
  · left
    rw [h0] at hl
    rcases Nat.eq_zero_or_pos n with q | q
    · exact q
    · have := Nat.mul_pos q hz; simp at hl; omega
  · exact .inr ⟨g, 0, rfl, hc⟩
theorem se_one (l : List Sec) : allOne (l.flatMap seV) = true := by
  induction l with
  | nil => rfl
  | cons x l ih => rw [List.flatMap_cons, allOne, List.all_append, Bool.and_eq_true]; exact ⟨rfl, ih⟩
theorem inp_one (l : List Inp) : allOne (l.flatMap inpV) = true := by
  induction l with
  | nil => rfl
  | cons x l ih => rw [List.flatMap_cons, allOne, List.all_append, Bool.and_eq_true]; exact ⟨rfl, ih⟩
theorem siSectorsM_spec (W0 : World) (R : List HP) (c : Cfg) (h : CfOk W0 c) (a b : Scr) (ha : ScrOk W0 a) (hb : ScrOk W0 b) (la : a.sl.length ≤ 1000) (lb : b.sl.length ≤ 1000) (l : Int) :
    Spec Tryz.prog W0 59 [.agg (cfgV c).toArray, .agg (scrV a).toArray, .agg (scrV b).toArray, .int .i64 l] R
      (fun v B => ∃ aa k, v = .slice aa (seM c a b l).length k ∧ B = osl 117 2 (.slice aa (seM c a b l).length k) ((seM c a b l).flatMap seV) :: R) := by
  obtain ⟨q1, hq1⟩ : ∃ q, a.sl.filter (fun x => (rngd c x.at_ l).2) = q := ⟨_, rfl⟩
  obtain ⟨q2, hq2⟩ : ∃ q, b.sl.filter (fun x => (rngd c x.at_ l).1 && !(rngd c x.at_ l).2) = q := ⟨_, rfl⟩
  have hl1 : q1.length ≤ 1000 := by rw [← hq1]; exact Nat.le_trans (List.length_filter_le _ _) la
  have hl2 : q2.length ≤ 1000 := by rw [← hq2]; exact Nat.le_trans (List.length_filter_le _ _) lb
  rw [show seM c a b l = q1 ++ q2 by rw [seM, hq1, hq2]]
  refine spec_body Tryz.func59 Tryz.ntmps59 rfl rfl ?_
  refine x_seq (x_region (s_do rfl (d_boxA rfl) ?_))
  rintro _ _ ⟨b4, rfl, rfl⟩
  refine s_do rfl (d_boxA rfl) ?_
  rintro _ _ ⟨b5, rfl, rfl⟩
  refine s_do rfl (d_boxA rfl) ?_
  rintro _ _ ⟨b6, rfl, rfl⟩
  refine s_do rfl (d_box rfl rfl) ?_
  rintro _ _ ⟨b7, rfl, rfl⟩
  refine s_val rfl (v_assign rfl) (x_nil (n_then (x_seq (x_region ?_))))
  refine s_val rfl (v_fieldAddr rfl Tryz.underlying33 rfl Tryz.sizeOf30 rfl (by first | exact Nat.zero_add _ | rfl)) ?_
  refine s_val rfl (v_load Tryz.isAgg30 rfl (cell_own rfl)) ?_
  refine s_val rfl (v_mkFunc rfl rfl) ?_
  refine s_do rfl (does_ent (B := kH 0 (grp [pt b4 (cfO c), pt b7 (cob [.int .i64 l] 3)]) :: pt b6 (cob (scrV b) 33) :: R) inferInstance (d_call Tryz.call120 rfl (keptS_spec W0 _ a.sa a.sc a.sl 121 [.pointer (some ⟨b4, 0, none⟩), .pointer (some ⟨b7, 0, none⟩)] _ (fun x => (rngd c x.at_ l).2) (sectors1_pk W0 b4 b7 c h l a.sl (fun x hx => (ha.sb x hx).1.2)) ha.sx la))) ?_
  rintro _ B_ ⟨a1, k1, rfl, hB_⟩
  obtain rfl := hB_.symm
  rw [hq1]
  refine run_kgrp ?_
  simp only [List.cons_append, List.nil_append]
  refine s_val rfl (v_assign rfl) (x_nil (n_then (x_seq (x_region (s_val rfl (v_move rfl) ?_)))))
  refine s_val rfl (v_fieldAddr rfl Tryz.underlying33 rfl Tryz.sizeOf30 rfl (by first | exact Nat.zero_add _ | rfl)) ?_
  refine s_val rfl (v_load Tryz.isAgg30 rfl (cell_own rfl)) ?_
  refine s_val rfl (v_mkFunc rfl rfl) ?_
  refine s_do rfl (does_ent (B := kH 0 (grp [pt b4 (cfO c), pt b7 (cob [.int .i64 l] 3)]) :: osl 117 2 (.slice a1 q1.length k1) (q1.flatMap seV) :: R) inferInstance (d_call Tryz.call120 rfl (keptS_spec W0 _ b.sa b.sc b.sl 122 [.pointer (some ⟨b4, 0, none⟩), .pointer (some ⟨b7, 0, none⟩)] _ (fun x => (rngd c x.at_ l).1 && !(rngd c x.at_ l).2) (sectors2_pk W0 b4 b7 c h l b.sl (fun x hx => (hb.sb x hx).1.2)) hb.sx lb))) ?_
  rintro _ B_ ⟨a2, k2, rfl, hB_⟩
  obtain rfl := hB_.symm
  rw [hq2]
  refine run_form (E := 117) (sz := 2) (a := a2) (c := k2) (n := q2.length) (ys := q2.flatMap seV) (fun hf2 => ?_)
  refine s_do rfl (d_appendS (sz := 2) (by_ := 24) (info := Tryz.t117) Tryz.underlying30 (by kernel_rfl) rfl rfl rfl rfl (by decide) rfl rfl (news := q2.flatMap seV) (frm_src (E := 117) (c := k2) hf2 (flat_len seV_len q2) (by decide) (cells_osl (E := 117) (sz := 2) (a := a2) (n := q2.length) (c := k2))) (flat_len seV_len q2) (se_one q2) (by simp only [maxLen]; omega) (by omega)) ?_
  rintro _ _ ⟨a3, k3, rfl, rfl⟩
  refine s_val rfl (v_assign rfl) (x_nil (n_then (x_ret (x_done (.inl rfl) (.cons (r_tmp rfl) .nil) ?_))))
  rw [List.length_append, List.flatMap_append]
  exact ⟨_, ⟨a3, k3, rfl, rfl⟩, inferInstance⟩
def inpB (c : Cfg) (l : Int) (want : Bool) (x : Inp) : Bool := decide (0 ≤ x.g ∧ x.g < c.gl.length) && (flB (c.gl.getD x.g.toNat (0, 0, 0)).1 l == want)
theorem inputs11_pk (W0 : World) (b4 b7 b3 : Nat) (c : Cfg) (h : CfOk W0 c) (l : Int) (want : Bool) (nl : List Inp) :
    PKl inpV W0 124 [.pointer (some ⟨b4, 0, none⟩), .pointer (some ⟨b7, 0, none⟩), .pointer (some ⟨b3, 0, none⟩)] (grp [pt b4 (cfO c), pt b7 (cob [.int .i64 l] 3), pt b3 (cob [.bool want] 4)]) nl (inpB c l want) := ⟨Tryz.call124, fun x _ R => by
  refine spec_kgrp ?_
  simp only [List.cons_append, List.nil_append]
  obtain ⟨xa, xg, xk, xc, xd⟩ := x
  dsimp only [inpV]
  by_cases hx : 0 ≤ xg ∧ xg < c.gl.length
  · obtain ⟨j, rfl⟩ : ∃ j : Nat, xg = (j : Int) := ⟨xg.toNat, by omega⟩
    have hj : j < c.gl.length := by omega
    obtain ⟨g, o, hga, hc⟩ := (h.g []).at_ hj
    have hgd : c.gl.getD ((j : Nat) : Int).toNat (0, 0, 0) = c.gl[j] := by rw [Int.toNat_natCast]; simp [List.getD, hj]
    have hB : inpB c l want ⟨xa, (j : Int), xk, xc, xd⟩ = (flB c.gl[j].1 l == want) := by
      rw [inpB, decide_eq_true hx, Bool.true_and]; dsimp only; rw [hgd]
    rw [hB]
    generalize c.gl[j] = u at hc
    refine spec_body Tryz.func124 Tryz.ntmps124 rfl rfl ?_
    refine x_seq (x_region (s_do rfl (d_boxA rfl) ?_))
    rintro _ _ ⟨bx, rfl, rfl⟩
    refine s_val rfl (v_assign rfl) (x_nil (n_then (x_seq ?_)))
    refine x_draw [(b4, 0, cfgV c), (b7, 0, _), (b3, 0, _), (bx, 0, _), (g, o + j * 3, gsV u)] 25 mixed rfl (sc_own (sc_own (sc_own (sc_own (sc_cons hc.weak sc_end))))) (fun hS => ?_)
    refine d_take 0 rfl rfl (by kernel_rfl) (by kernel_rfl) (by kernel_rfl) rfl hS (v_fieldAddr rfl Tryz.underlying109 rfl Tryz.sizeOf3 rfl (by first | exact Nat.zero_add _ | rfl)) ?_
    refine d_take 1 rfl rfl (by kernel_rfl) (by kernel_rfl) (by kernel_rfl) rfl hS (v_load Tryz.isAgg3 rfl (by first | exact cell_sc0 (k := 0) rfl rfl | exact cell_sc0 (k := 1) rfl rfl | exact cell_sc0 (k := 2) rfl rfl | exact cell_sc0 (k := 3) rfl rfl | exact cell_sc0 (k := 4) rfl rfl)) ?_
    refine d_take 2 rfl rfl (by kernel_rfl) (by kernel_rfl) (by kernel_rfl) rfl hS (v_geq rfl rfl) ?_
    refine d_take 3 rfl rfl (by kernel_rfl) (by kernel_rfl) (by kernel_rfl) rfl hS (v_move rfl) ?_
    refine x_split (t := 9) rfl ?_ ?_
    · intro g1_4
      refine d_take 4 rfl rfl (by kernel_rfl) (by kernel_rfl) (by kernel_rfl) rfl hS (v_fieldAddr rfl Tryz.underlying109 rfl Tryz.sizeOf3 rfl (by first | exact Nat.zero_add _ | rfl)) ?_
      refine d_take 5 rfl rfl (by kernel_rfl) (by kernel_rfl) (by kernel_rfl) rfl hS (v_load Tryz.isAgg3 rfl (by first | exact cell_sc0 (k := 0) rfl rfl | exact cell_sc0 (k := 1) rfl rfl | exact cell_sc0 (k := 2) rfl rfl | exact cell_sc0 (k := 3) rfl rfl | exact cell_sc0 (k := 4) rfl rfl)) ?_
      refine d_take 6 rfl rfl (by kernel_rfl) (by kernel_rfl) (by kernel_rfl) rfl hS (v_fieldAddr rfl Tryz.underlying28 rfl Tryz.sizeOf22 rfl (by first | exact Nat.zero_add _ | rfl)) ?_
      refine d_take 7 rfl rfl (by kernel_rfl) (by kernel_rfl) (by kernel_rfl) rfl hS (v_load Tryz.isAgg22 rfl (by first | exact cell_sc0 (k := 0) rfl rfl | exact cell_sc0 (k := 1) rfl rfl | exact cell_sc0 (k := 2) rfl rfl | exact cell_sc0 (k := 3) rfl rfl | exact cell_sc0 (k := 4) rfl rfl)) ?_
      refine d_take 8 rfl rfl (by kernel_rfl) (by kernel_rfl) (by kernel_rfl) rfl hS (v_len_slice Tryz.underlying22 rfl) ?_
      refine d_take 9 rfl rfl (by kernel_rfl) (by kernel_rfl) (by kernel_rfl) rfl hS (v_lss rfl rfl) ?_
      refine d_take 10 rfl rfl (by kernel_rfl) (by kernel_rfl) (by kernel_rfl) rfl hS (v_pick_t rfl rfl) ?_
      refine d_take 11 rfl rfl (by kernel_rfl) (by kernel_rfl) (by kernel_rfl) rfl hS (v_move rfl) ?_
      refine x_split (t := 17) rfl ?_ ?_
      · intro g1_12
        refine d_take 12 rfl rfl (by kernel_rfl) (by kernel_rfl) (by kernel_rfl) rfl hS (v_fieldAddr rfl Tryz.underlying28 rfl Tryz.sizeOf22 rfl (by first | exact Nat.zero_add _ | rfl)) ?_
        refine d_take 13 rfl rfl (by kernel_rfl) (by kernel_rfl) (by kernel_rfl) rfl hS (v_load Tryz.isAgg22 rfl (by first | exact cell_sc0 (k := 0) rfl rfl | exact cell_sc0 (k := 1) rfl rfl | exact cell_sc0 (k := 2) rfl rfl | exact cell_sc0 (k := 3) rfl rfl | exact cell_sc0 (k := 4) rfl rfl)) ?_
        refine d_take 14 rfl rfl (by kernel_rfl) (by kernel_rfl) (by kernel_rfl) rfl hS (v_fieldAddr rfl Tryz.underlying109 rfl Tryz.sizeOf3 rfl (by first | exact Nat.zero_add _ | rfl)) ?_
        refine d_take 15 rfl rfl (by kernel_rfl) (by kernel_rfl) (by kernel_rfl) rfl hS (v_load Tryz.isAgg3 rfl (by first | exact cell_sc0 (k := 0) rfl rfl | exact cell_sc0 (k := 1) rfl rfl | exact cell_sc0 (k := 2) rfl rfl | exact cell_sc0 (k := 3) rfl rfl | exact cell_sc0 (k := 4) rfl rfl)) ?_
        refine d_take 16 rfl rfl (by kernel_rfl) (by kernel_rfl) (by kernel_rfl) rfl hS (v_idxA Tryz.underlying22 Tryz.sizeOf95 rfl hga rfl rfl hj (by first | exact Nat.zero_add _ | rfl)) ?_
        refine d_take 17 rfl rfl (by kernel_rfl) (by kernel_rfl) (by kernel_rfl) rfl hS (v_fieldAddr rfl Tryz.underlying95 rfl Tryz.sizeOf3 rfl (by first | exact Nat.zero_add _ | rfl)) ?_
        refine d_take 18 rfl rfl (by kernel_rfl) (by kernel_rfl) (by kernel_rfl) rfl hS (v_load Tryz.isAgg3 rfl (cell_sc (k := 4) (j := 0) rfl rfl)) ?_
        refine d_take 19 rfl rfl (by kernel_rfl) (by kernel_rfl) (by kernel_rfl) rfl hS (v_load Tryz.isAgg3 rfl (by first | exact cell_sc0 (k := 0) rfl rfl | exact cell_sc0 (k := 1) rfl rfl | exact cell_sc0 (k := 2) rfl rfl | exact cell_sc0 (k := 3) rfl rfl | exact cell_sc0 (k := 4) rfl rfl)) ?_
        refine d_take 21 rfl rfl (by kernel_rfl) (by kernel_rfl) (by kernel_rfl) rfl hS (v_load Tryz.isAgg4 rfl (by first | exact cell_sc0 (k := 0) rfl rfl | exact cell_sc0 (k := 1) rfl rfl | exact cell_sc0 (k := 2) rfl rfl | exact cell_sc0 (k := 3) rfl rfl | exact cell_sc0 (k := 4) rfl rfl)) ?_
        refine d_one 20 (by kernel_rfl) rfl rfl (d_call Tryz.call39 rfl (lbFlows_spec W0 _ u.1 l)) rfl ?_; clear hS
        rintro _ B_ ⟨rfl, hB_⟩
        obtain rfl := hB_.symm
        refine ⟨(sc_own (sc_own (sc_own (sc_own (sc_cons hc.weak sc_end))))), fun hS => ?_⟩
        refine d_take 22 rfl rfl (by kernel_rfl) (by kernel_rfl) (by kernel_rfl) rfl hS (v_eql_bool Tryz.underlying4 rfl rfl) ?_
        refine d_take 23 rfl rfl (by kernel_rfl) (by kernel_rfl) (by kernel_rfl) rfl hS (v_pick_t rfl rfl) ?_
        refine d_take 24 rfl rfl (by kernel_rfl) (by kernel_rfl) (by kernel_rfl) rfl hS (v_assign rfl) ?_
        refine d_done (by kernel_rfl) ?_; clear hS
        refine n_then (x_ret (x_done (.inl rfl) (.cons (r_tmp rfl) .nil) ?_))
        exact ⟨_, ⟨rfl, rfl⟩, inferInstance⟩
      · intro g1_12
        exfalso; omega
    · intro g1_4
      exfalso; omega
  · have hB : inpB c l want ⟨xa, xg, xk, xc, xd⟩ = false := by
      rw [inpB, decide_eq_false hx, Bool.false_and]
    rw [hB]
    refine spec_body Tryz.func124 Tryz.ntmps124 rfl rfl ?_
    refine x_seq (x_region (s_do rfl (d_boxA rfl) ?_))
    rintro _ _ ⟨bx, rfl, rfl⟩
    refine s_val rfl (v_assign rfl) (x_nil (n_then (x_seq ?_)))
    refine x_draw [(b4, 0, cfgV c), (bx, 0, _)] 25 mixed rfl (sc_own (sc_own sc_end)) (fun hS => ?_)
    refine d_take 0 rfl rfl (by kernel_rfl) (by kernel_rfl) (by kernel_rfl) rfl hS (v_fieldAddr rfl Tryz.underlying109 rfl Tryz.sizeOf3 rfl (by first | exact Nat.zero_add _ | rfl)) ?_
    refine d_take 1 rfl rfl (by kernel_rfl) (by kernel_rfl) (by kernel_rfl) rfl hS (v_load Tryz.isAgg3 rfl (by first | exact cell_sc0 (k := 0) rfl rfl | exact cell_sc0 (k := 1) rfl rfl)) ?_
    refine d_take 2 rfl rfl (by kernel_rfl) (by kernel_rfl) (by kernel_rfl) rfl hS (v_geq rfl rfl) ?_
    refine d_take 3 rfl rfl (by kernel_rfl) (by kernel_rfl) (by kernel_rfl) rfl hS (v_move rfl) ?_
    refine x_split (t := 9) rfl ?_ ?_
    · intro g1_4
      refine d_take 4 rfl rfl (by kernel_rfl) (by kernel_rfl) (by kernel_rfl) rfl hS (v_fieldAddr rfl Tryz.underlying109 rfl Tryz.sizeOf3 rfl (by first | exact Nat.zero_add _ | rfl)) ?_
      refine d_take 5 rfl rfl (by kernel_rfl) (by kernel_rfl) (by kernel_rfl) rfl hS (v_load Tryz.isAgg3 rfl (by first | exact cell_sc0 (k := 0) rfl rfl | exact cell_sc0 (k := 1) rfl rfl)) ?_
      refine d_take 6 rfl rfl (by kernel_rfl) (by kernel_rfl) (by kernel_rfl) rfl hS (v_fieldAddr rfl Tryz.underlying28 rfl Tryz.sizeOf22 rfl (by first | exact Nat.zero_add _ | rfl)) ?_
      refine d_take 7 rfl rfl (by kernel_rfl) (by kernel_rfl) (by kernel_rfl) rfl hS (v_load Tryz.isAgg22 rfl (by first | exact cell_sc0 (k := 0) rfl rfl | exact cell_sc0 (k := 1) rfl rfl)) ?_
      refine d_take 8 rfl rfl (by kernel_rfl) (by kernel_rfl) (by kernel_rfl) rfl hS (v_len_slice Tryz.underlying22 rfl) ?_
      refine d_take 9 rfl rfl (by kernel_rfl) (by kernel_rfl) (by kernel_rfl) rfl hS (v_lss rfl rfl) ?_
      refine d_take 10 rfl rfl (by kernel_rfl) (by kernel_rfl) (by kernel_rfl) rfl hS (v_pick_t rfl rfl) ?_
      refine d_take 11 rfl rfl (by kernel_rfl) (by kernel_rfl) (by kernel_rfl) rfl hS (v_move rfl) ?_
      refine x_split (t := 17) rfl ?_ ?_
      · intro g1_12
        exact absurd ⟨by omega, by omega⟩ hx
      · intro g1_12
        refine d_skip 12 rfl rfl (by kernel_rfl) (by kernel_rfl) (by kernel_rfl) rfl hS ?_
        refine d_skip 13 rfl rfl (by kernel_rfl) (by kernel_rfl) (by kernel_rfl) rfl hS ?_
        refine d_skip 14 rfl rfl (by kernel_rfl) (by kernel_rfl) (by kernel_rfl) rfl hS ?_
        refine d_skip 15 rfl rfl (by kernel_rfl) (by kernel_rfl) (by kernel_rfl) rfl hS ?_
        refine d_skip 16 rfl rfl (by kernel_rfl) (by kernel_rfl) (by kernel_rfl) rfl hS ?_
        refine d_skip 17 rfl rfl (by kernel_rfl) (by kernel_rfl) (by kernel_rfl) rfl hS ?_
        refine d_skip 18 rfl rfl (by kernel_rfl) (by kernel_rfl) (by kernel_rfl) rfl hS ?_
        refine d_skip 19 rfl rfl (by kernel_rfl) (by kernel_rfl) (by kernel_rfl) rfl hS ?_
        refine d_skip 20 rfl rfl (by kernel_rfl) (by kernel_rfl) (by kernel_rfl) rfl hS ?_
        refine d_skip 21 rfl rfl (by kernel_rfl) (by kernel_rfl) (by kernel_rfl) rfl hS ?_
        refine d_skip 22 rfl rfl (by kernel_rfl) (by kernel_rfl) (by kernel_rfl) rfl hS ?_
        refine d_take 23 rfl rfl (by kernel_rfl) (by kernel_rfl) (by kernel_rfl) rfl hS (v_pick_f rfl rfl) ?_
        refine d_take 24 rfl rfl (by kernel_rfl) (by kernel_rfl) (by kernel_rfl) rfl hS (v_assign rfl) ?_
        refine d_done (by kernel_rfl) ?_; clear hS
        refine n_then (x_ret (x_done (.inl rfl) (.cons (r_tmp rfl) .nil) ?_))
        refine ⟨_, ⟨?_, rfl⟩, inferInstance⟩
        refine congrArg Value.bool ?_
        first
          | rfl
          | exact decide_eq_false (by omega)
          | exact Eq.symm (by simpa using hx)
          | (rw [← Bool.not_eq_true]; intro q; have := of_decide_eq_true q; omega)
    · intro g1_4
      refine d_skip 4 rfl rfl (by kernel_rfl) (by kernel_rfl) (by kernel_rfl) rfl hS ?_
      refine d_skip 5 rfl rfl (by kernel_rfl) (by kernel_rfl) (by kernel_rfl) rfl hS ?_
      refine d_skip 6 rfl rfl (by kernel_rfl) (by kernel_rfl) (by kernel_rfl) rfl hS ?_
      refine d_skip 7 rfl rfl (by kernel_rfl) (by kernel_rfl) (by kernel_rfl) rfl hS ?_
      refine d_skip 8 rfl rfl (by kernel_rfl) (by kernel_rfl) (by kernel_rfl) rfl hS ?_
      refine d_skip 9 rfl rfl (by kernel_rfl) (by kernel_rfl) (by kernel_rfl) rfl hS ?_
      refine d_take 10 rfl rfl (by kernel_rfl) (by kernel_rfl) (by kernel_rfl) rfl hS (v_pick_f rfl rfl) ?_
      refine d_take 11 rfl rfl (by kernel_rfl) (by kernel_rfl) (by kernel_rfl) rfl hS (v_move rfl) ?_
      refine d_skip 12 rfl rfl (by kernel_rfl) (by kernel_rfl) (by kernel_rfl) rfl hS ?_
      refine d_skip 13 rfl rfl (by kernel_rfl) (by kernel_rfl) (by kernel_rfl) rfl hS ?_
      refine d_skip 14 rfl rfl (by kernel_rfl) (by kernel_rfl) (by kernel_rfl) rfl hS ?_
      refine d_skip 15 rfl rfl (by kernel_rfl) (by kernel_rfl) (by kernel_rfl) rfl hS ?_
      refine d_skip 16 rfl rfl (by kernel_rfl) (by kernel_rfl) (by kernel_rfl) rfl hS ?_
      refine d_skip 17 rfl rfl (by kernel_rfl) (by kernel_rfl) (by kernel_rfl) rfl hS ?_
      refine d_skip 18 rfl rfl (by kernel_rfl) (by kernel_rfl) (by kernel_rfl) rfl hS ?_
      refine d_skip 19 rfl rfl (by kernel_rfl) (by kernel_rfl) (by kernel_rfl) rfl hS ?_
      refine d_skip 20 rfl rfl (by kernel_rfl) (by kernel_rfl) (by kernel_rfl) rfl hS ?_
      refine d_skip 21 rfl rfl (by kernel_rfl) (by kernel_rfl) (by kernel_rfl) rfl hS ?_
      refine d_skip 22 rfl rfl (by kernel_rfl) (by kernel_rfl) (by kernel_rfl) rfl hS ?_
      refine d_take 23 rfl rfl (by kernel_rfl) (by kernel_rfl) (by kernel_rfl) rfl hS (v_pick_f rfl rfl) ?_
      refine d_take 24 rfl rfl (by kernel_rfl) (by kernel_rfl) (by kernel_rfl) rfl hS (v_assign rfl) ?_
      refine d_done (by kernel_rfl) ?_; clear hS
      refine n_then (x_ret (x_done (.inl rfl) (.cons (r_tmp rfl) .nil) ?_))
      refine ⟨_, ⟨?_, rfl⟩, inferInstance⟩
      refine congrArg Value.bool ?_
      first
        | rfl
        | exact decide_eq_false (by omega)
        | exact Eq.symm (by simpa using hx)
        | (rw [← Bool.not_eq_true]; intro q; have := of_decide_eq_true q; omega)
  ⟩
theorem inputs1_spec (W0 : World) (R : List HP) (b4 b7 : Nat) (want : Bool) : Spec Tryz.prog W0 123 [.bool want, .pointer (some ⟨b4, 0, none⟩), .pointer (some ⟨b7, 0, none⟩)] R (fun v B => ∃ b3, v = .func (.func 124) #[] #[.pointer (some ⟨b4, 0, none⟩), .pointer (some ⟨b7, 0, none⟩), .pointer (some ⟨b3, 0, none⟩)] ∧ B = pt b3 (cob [.bool want] 4) :: R) := by
  refine spec_body Tryz.func123 Tryz.ntmps123 rfl rfl ?_
  refine x_seq (x_region (s_do rfl (d_box rfl rfl) ?_))
  rintro _ _ ⟨b3, rfl, rfl⟩
  refine s_val rfl (v_assign rfl) (x_nil (n_then (x_seq (x_region (s_val rfl (v_mkFunc rfl rfl) ?_)))))
  refine s_val rfl (v_assign rfl) (x_nil (n_then (x_ret (x_done (.inl rfl) (.cons (r_tmp rfl) .nil) ?_))))
  exact ⟨_, ⟨b3, rfl, rfl⟩, inferInstance⟩
def nlM (c : Cfg) (a b : Scr) (l : Int) : List Inp := a.nl.filter (inpB c l true) ++ b.nl.filter (inpB c l false)
theorem siInputs_spec (W0 : World) (R : List HP) (c : Cfg) (h : CfOk W0 c) (a b : Scr) (ha : ScrOk W0 a) (hb : ScrOk W0 b) (la : a.nl.length ≤ 1000) (lb : b.nl.length ≤ 1000) (l : Int) :
    Spec Tryz.prog W0 60 [.agg (cfgV c).toArray, .agg (scrV a).toArray, .agg (scrV b).toArray, .int .i64 l] R
      (fun v B => ∃ aa k, v = .slice aa ((nlM c a b l).take 256).length k ∧ (nlM c a b l).length ≤ k ∧ B = osl 109 5 (.slice aa (nlM c a b l).length k) ((nlM c a b l).flatMap inpV) :: R) := by
  obtain ⟨q1, hq1⟩ : ∃ q, a.nl.filter (inpB c l true) = q := ⟨_, rfl⟩
  obtain ⟨q2, hq2⟩ : ∃ q, b.nl.filter (inpB c l false) = q := ⟨_, rfl⟩
  have hl1 : q1.length ≤ 1000 := by rw [← hq1]; exact Nat.le_trans (List.length_filter_le _ _) la
  have hl2 : q2.length ≤ 1000 := by rw [← hq2]; exact Nat.le_trans (List.length_filter_le _ _) lb
  rw [show nlM c a b l = q1 ++ q2 by rw [nlM, hq1, hq2]]
  have htk : ((q1 ++ q2).take 256).length = min 256 (q1.length + q2.length) := by rw [List.length_take, List.length_append]
  refine spec_body Tryz.func60 Tryz.ntmps60 rfl rfl ?_
  refine x_seq (x_region (s_do rfl (d_boxA rfl) ?_))
  rintro _ _ ⟨b4, rfl, rfl⟩
  refine s_do rfl (d_boxA rfl) ?_
  rintro _ _ ⟨b5, rfl, rfl⟩
  refine s_do rfl (d_boxA rfl) ?_
  rintro _ _ ⟨b6, rfl, rfl⟩
  refine s_do rfl (d_box rfl rfl) ?_
  rintro _ _ ⟨b7, rfl, rfl⟩
  refine s_val rfl (v_assign rfl) (x_nil (n_then (x_seq (x_region (s_val rfl (v_mkFunc rfl rfl) ?_)))))
  refine s_val rfl (v_assign rfl) (x_nil (n_then (x_seq ?_)))
  refine x_draw [(b5, 0, _), (b6, 0, _)] 12 mixed rfl (sc_own (sc_own sc_end)) (fun hS => ?_)
  refine d_take 0 rfl rfl (by kernel_rfl) (by kernel_rfl) (by kernel_rfl) rfl hS (v_fieldAddr rfl Tryz.underlying33 rfl Tryz.sizeOf31 rfl (by first | exact Nat.zero_add _ | rfl)) ?_
  refine d_take 1 rfl rfl (by kernel_rfl) (by kernel_rfl) (by kernel_rfl) rfl hS (v_load Tryz.isAgg31 rfl (by first | exact cell_sc0 (k := 0) rfl rfl | exact cell_sc0 (k := 1) rfl rfl)) ?_
  refine d_take 2 rfl rfl (by kernel_rfl) (by kernel_rfl) (by kernel_rfl) rfl hS (v_move rfl) ?_
  refine d_take 5 rfl rfl (by kernel_rfl) (by kernel_rfl) (by kernel_rfl) rfl hS (v_fieldAddr rfl Tryz.underlying33 rfl Tryz.sizeOf31 rfl (by first | exact Nat.zero_add _ | rfl)) ?_
  refine d_take 6 rfl rfl (by kernel_rfl) (by kernel_rfl) (by kernel_rfl) rfl hS (v_load Tryz.isAgg31 rfl (by first | exact cell_sc0 (k := 0) rfl rfl | exact cell_sc0 (k := 1) rfl rfl)) ?_
  refine d_take 7 rfl rfl (by kernel_rfl) (by kernel_rfl) (by kernel_rfl) rfl hS (v_move rfl) ?_
  refine d_one 3 (by kernel_rfl) rfl rfl (d_callv rfl Tryz.call123 rfl (inputs1_spec W0 _ b4 b7 true)) rfl ?_; clear hS
  rintro _ B_ ⟨b8, rfl, hB_⟩
  obtain rfl := hB_.symm
  refine ⟨(sc_own (sc_own sc_end)), fun hS => ?_⟩
  refine d_one 4 (by kernel_rfl) rfl rfl (does_ent (B := kH 0 (grp [pt b4 (cfO c), pt b7 (cob [.int .i64 l] 3), pt b8 (cob [.bool true] 4)]) :: pt b5 (cob (scrV a) 33) :: pt b6 (cob (scrV b) 33) :: R) inferInstance (d_call Tryz.call114 rfl (keptI_spec W0 _ a.na a.nc a.nl 124 [.pointer (some ⟨b4, 0, none⟩), .pointer (some ⟨b7, 0, none⟩), .pointer (some ⟨b8, 0, none⟩)] _ (inpB c l true) (inputs11_pk W0 b4 b7 b8 c h l true a.nl) ha.n la))) rfl ?_; clear hS
  rintro _ B_ ⟨a1, k1, rfl, hB_⟩
  obtain rfl := hB_.symm
  rw [hq1]
  refine ⟨(sc_own (sc_own sc_end)), fun hS => ?_⟩
  refine run_kgrp ?_
  simp only [List.cons_append, List.nil_append]
  refine d_one 8 (by kernel_rfl) rfl rfl (d_callv rfl Tryz.call123 rfl (inputs1_spec W0 _ b4 b7 false)) rfl ?_; clear hS
  rintro _ B_ ⟨b9, rfl, hB_⟩
  obtain rfl := hB_.symm
  refine ⟨(sc_own (sc_own sc_end)), fun hS => ?_⟩
  refine d_one 9 (by kernel_rfl) rfl rfl (does_ent (B := kH 0 (grp [pt b4 (cfO c), pt b7 (cob [.int .i64 l] 3), pt b9 (cob [.bool false] 4)]) :: osl 109 5 (.slice a1 q1.length k1) (q1.flatMap inpV) :: pt b5 (cob (scrV a) 33) :: pt b6 (cob (scrV b) 33) :: R) inferInstance (d_call Tryz.call114 rfl (keptI_spec W0 _ b.na b.nc b.nl 124 [.pointer (some ⟨b4, 0, none⟩), .pointer (some ⟨b7, 0, none⟩), .pointer (some ⟨b9, 0, none⟩)] _ (inpB c l false) (inputs11_pk W0 b4 b7 b9 c h l false b.nl) hb.n lb))) rfl ?_; clear hS
  rintro _ B_ ⟨a2, k2, rfl, hB_⟩
  obtain rfl := hB_.symm
  rw [hq2]
  refine ⟨(sc_own (sc_own sc_end)), fun hS => ?_⟩
  refine run_form (E := 109) (sz := 5) (a := a2) (c := k2) (n := q2.length) (ys := q2.flatMap inpV) (fun hf2 => ?_)
  refine d_one 10 (by kernel_rfl) rfl rfl (d_appendS (sz := 5) (by_ := 48) (info := Tryz.t109) Tryz.underlying31 (by kernel_rfl) rfl rfl rfl rfl (by decide) rfl rfl (news := q2.flatMap inpV) (frm_src (E := 109) (c := k2) hf2 (flat_len inpV_len q2) (by decide) (cells_osl (E := 109) (sz := 5) (a := a2) (n := q2.length) (c := k2))) (flat_len inpV_len q2) (inp_one q2) (by simp only [maxLen]; omega) (by omega)) rfl ?_; clear hS
  rintro _ _ ⟨a3, k3, rfl, rfl⟩
  refine ⟨(sc_own (sc_own sc_end)), fun hS => ?_⟩
  refine d_take 11 rfl rfl (by kernel_rfl) (by kernel_rfl) (by kernel_rfl) rfl hS (v_assign rfl) ?_
  refine d_done (by kernel_rfl) ?_; clear hS
  refine n_then (x_seq ?_)
  refine run_cap (E := 109) (sz := 5) (a := a3) (c := k3) (n := q1.length + q2.length) (fun hcap => ?_)
  refine x_region (s_val rfl (v_move rfl) (s_val rfl (v_move rfl) (s_val rfl (v_len_slice Tryz.underlying31 rfl) ?_)))
  refine s_val rfl (v_min rfl rfl (r := (((q1 ++ q2).take 256).length : Int)) (by rw [htk]; split <;> omega)) ?_
  refine s_val rfl (v_sliceH Tryz.underlying31 Tryz.sizeOf109 rfl rfl (h := ((q1 ++ q2).take 256).length) rfl (by rw [htk]; omega)) ?_
  refine s_val rfl (v_assign rfl) (x_nil (n_then (x_ret (x_done (.inl rfl) (.cons (r_tmp rfl) .nil) ?_))))
  rw [List.flatMap_append]
  refine ⟨_, ⟨a3, k3, rfl, by rw [List.length_append]; exact hcap.1, rfl⟩, ?_⟩
  rw [List.length_append]
  exact inferInstance
end Go.Proofs.YtncegikenkpcmaaGreat
namespace Go.Proofs.YtncegikenkpcmaaGreat
open Go.RowKit
set_option linter.unusedSimpArgs false
set_option linter.unusedVariables false
set_option maxRecDepth 20000
theorem small41_spec (W0 : World) (R : List HP) (c : Cfg) : Spec Tryz.prog W0 5 [.agg (cfgV c).toArray] R (fun v B => v = .bool (smB c) ∧ B = R) := by
  refine spec_body Tryz.func5 Tryz.ntmps5 rfl rfl ?_
  refine x_seq (x_region (s_do rfl (d_boxA rfl) ?_))
  rintro _ _ ⟨b1, rfl, rfl⟩
  refine s_val rfl (v_assign rfl) (x_nil (n_then (x_seq (x_region ?_))))
  refine s_val rfl (v_fieldAddr rfl Tryz.underlying28 rfl Tryz.sizeOf22 rfl (by first | exact Nat.zero_add _ | rfl)) ?_
  refine s_val rfl (v_load Tryz.isAgg22 rfl (cell_own rfl)) ?_
  refine s_val rfl (v_len_slice Tryz.underlying22 rfl) (s_val rfl (v_leq rfl rfl) (s_val rfl (v_move rfl) ?_))
  refine s_and rfl rfl rfl ?_ ?_
  · intro g1_5
    refine s_val rfl (v_fieldAddr rfl Tryz.underlying28 rfl Tryz.sizeOf23 rfl (by first | exact Nat.zero_add _ | rfl)) ?_
    refine s_yes rfl rfl (s_val rfl (v_load Tryz.isAgg23 rfl (cell_own rfl)) ?_)
    refine s_yes rfl rfl (s_val rfl (v_len_slice Tryz.underlying23 rfl) (s_yes rfl rfl (s_val rfl (v_leq rfl rfl) (s_val rfl (v_pick_t rfl rfl) (s_val rfl (v_move rfl) ?_)))))
    refine s_and rfl rfl rfl ?_ ?_
    · intro g1_11
      refine s_val rfl (v_fieldAddr rfl Tryz.underlying28 rfl Tryz.sizeOf24 rfl (by first | exact Nat.zero_add _ | rfl)) ?_
      refine s_yes rfl rfl (s_val rfl (v_load Tryz.isAgg24 rfl (cell_own rfl)) ?_)
      refine s_yes rfl rfl (s_val rfl (v_len_slice Tryz.underlying24 rfl) (s_yes rfl rfl (s_val rfl (v_leq rfl rfl) (s_val rfl (v_pick_t rfl rfl) (s_val rfl (v_move rfl) ?_)))))
      refine s_and rfl rfl rfl ?_ ?_
      · intro g1_17
        refine s_val rfl (v_fieldAddr rfl Tryz.underlying28 rfl Tryz.sizeOf25 rfl (by first | exact Nat.zero_add _ | rfl)) ?_
        refine s_yes rfl rfl (s_val rfl (v_load Tryz.isAgg25 rfl (cell_own rfl)) ?_)
        refine s_yes rfl rfl (s_val rfl (v_len_slice Tryz.underlying25 rfl) (s_yes rfl rfl (s_val rfl (v_leq rfl rfl) (s_val rfl (v_pick_t rfl rfl) (s_val rfl (v_move rfl) ?_)))))
        refine s_and rfl rfl rfl ?_ ?_
        · intro g1_23
          refine s_val rfl (v_fieldAddr rfl Tryz.underlying28 rfl Tryz.sizeOf26 rfl (by first | exact Nat.zero_add _ | rfl)) ?_
          refine s_yes rfl rfl (s_val rfl (v_load Tryz.isAgg26 rfl (cell_own rfl)) ?_)
          refine s_yes rfl rfl (s_val rfl (v_len_slice Tryz.underlying26 rfl) (s_yes rfl rfl (s_val rfl (v_leq rfl rfl) (s_val rfl (v_pick_t rfl rfl) (s_val rfl (v_assign rfl) (x_nil (n_then (x_ret (x_done (.inl rfl) (.cons (r_tmp rfl) .nil) ?_)))))))))
          refine ⟨_, ⟨?_, rfl⟩, inferInstance⟩
          refine congrArg Value.bool ?_
          rw [Bool.eq_iff_iff, smB, decide_eq_true_iff]
          first
            | (rw [decide_eq_true_iff]; constructor
               · intro q; omega
               · intro q; omega)
            | (constructor
               · intro q; first | omega | (cases q)
               · intro q; omega)
        · intro g1_23
          refine s_no rfl rfl rfl rfl (s_no rfl rfl rfl rfl (s_no rfl rfl rfl rfl (s_val rfl (v_pick_f rfl rfl) (s_val rfl (v_assign rfl) (x_nil (n_then (x_ret (x_done (.inl rfl) (.cons (r_tmp rfl) .nil) ?_))))))))
          refine ⟨_, ⟨?_, rfl⟩, inferInstance⟩
          refine congrArg Value.bool ?_
          rw [Bool.eq_iff_iff, smB, decide_eq_true_iff]
          first
            | (rw [decide_eq_true_iff]; constructor
               · intro q; omega
               · intro q; omega)
            | (constructor
               · intro q; first | omega | (cases q)
               · intro q; omega)
      · intro g1_17
        refine s_no rfl rfl rfl rfl (s_no rfl rfl rfl rfl (s_no rfl rfl rfl rfl (s_val rfl (v_pick_f rfl rfl) (s_val rfl (v_move rfl) (s_no rfl rfl rfl rfl (s_no rfl rfl rfl rfl (s_no rfl rfl rfl rfl (s_no rfl rfl rfl rfl (s_val rfl (v_pick_f rfl rfl) (s_val rfl (v_assign rfl) (x_nil (n_then (x_ret (x_done (.inl rfl) (.cons (r_tmp rfl) .nil) ?_))))))))))))))
        refine ⟨_, ⟨?_, rfl⟩, inferInstance⟩
        refine congrArg Value.bool ?_
        rw [Bool.eq_iff_iff, smB, decide_eq_true_iff]
        first
          | (rw [decide_eq_true_iff]; constructor
             · intro q; omega
             · intro q; omega)
          | (constructor
             · intro q; first | omega | (cases q)
             · intro q; omega)
    · intro g1_11
      refine s_no rfl rfl rfl rfl (s_no rfl rfl rfl rfl (s_no rfl rfl rfl rfl (s_val rfl (v_pick_f rfl rfl) (s_val rfl (v_move rfl) (s_no rfl rfl rfl rfl (s_no rfl rfl rfl rfl (s_no rfl rfl rfl rfl (s_no rfl rfl rfl rfl (s_val rfl (v_pick_f rfl rfl) (s_val rfl (v_move rfl) (s_no rfl rfl rfl rfl (s_no rfl rfl rfl rfl (s_no rfl rfl rfl rfl (s_no rfl rfl rfl rfl (s_val rfl (v_pick_f rfl rfl) (s_val rfl (v_assign rfl) (x_nil (n_then (x_ret (x_done (.inl rfl) (.cons (r_tmp rfl) .nil) ?_))))))))))))))))))))
      refine ⟨_, ⟨?_, rfl⟩, inferInstance⟩
      refine congrArg Value.bool ?_
      rw [Bool.eq_iff_iff, smB, decide_eq_true_iff]
      first
        | (rw [decide_eq_true_iff]; constructor
           · intro q; omega
           · intro q; omega)
        | (constructor
           · intro q; first | omega | (cases q)
           · intro q; omega)
  · intro g1_5
    refine s_no rfl rfl rfl rfl (s_no rfl rfl rfl rfl (s_no rfl rfl rfl rfl (s_val rfl (v_pick_f rfl rfl) (s_val rfl (v_move rfl) (s_no rfl rfl rfl rfl (s_no rfl rfl rfl rfl (s_no rfl rfl rfl rfl (s_no rfl rfl rfl rfl (s_val rfl (v_pick_f rfl rfl) (s_val rfl (v_move rfl) (s_no rfl rfl rfl rfl (s_no rfl rfl rfl rfl (s_no rfl rfl rfl rfl (s_no rfl rfl rfl rfl (s_val rfl (v_pick_f rfl rfl) (s_val rfl (v_move rfl) (s_no rfl rfl rfl rfl (s_no rfl rfl rfl rfl (s_no rfl rfl rfl rfl (s_no rfl rfl rfl rfl (s_val rfl (v_pick_f rfl rfl) (s_val rfl (v_assign rfl) (x_nil ?_)))))))))))))))))))))))
    refine n_then (x_ret (x_done (.inl rfl) (.cons (r_tmp rfl) .nil) ?_))
    refine ⟨_, ⟨?_, rfl⟩, inferInstance⟩
    refine congrArg Value.bool ?_
    rw [Bool.eq_iff_iff, smB, decide_eq_true_iff]
    first
      | (rw [decide_eq_true_iff]; constructor
         · intro q; omega
         · intro q; omega)
      | (constructor
         · intro q; first | omega | (cases q)
         · intro q; omega)
theorem light41_spec (W0 : World) (R : List HP) (s : Scr) : Spec Tryz.prog W0 6 [.agg (scrV s).toArray] R (fun v B => v = .bool (ltB s) ∧ B = R) := by
  refine spec_body Tryz.func6 Tryz.ntmps6 rfl rfl ?_
  refine x_seq (x_region (s_do rfl (d_boxA rfl) ?_))
  rintro _ _ ⟨b1, rfl, rfl⟩
  refine s_val rfl (v_assign rfl) (x_nil (n_then (x_seq (x_region ?_))))
  refine s_val rfl (v_fieldAddr rfl Tryz.underlying33 rfl Tryz.sizeOf29 rfl (by first | exact Nat.zero_add _ | rfl)) ?_
  refine s_val rfl (v_load Tryz.isAgg29 rfl (cell_own rfl)) ?_
  refine s_val rfl (v_len_slice Tryz.underlying29 rfl) (s_val rfl (v_leq rfl rfl) (s_val rfl (v_move rfl) ?_))
  refine s_and rfl rfl rfl ?_ ?_
  · intro g1_5
    refine s_val rfl (v_fieldAddr rfl Tryz.underlying33 rfl Tryz.sizeOf30 rfl (by first | exact Nat.zero_add _ | rfl)) ?_
    refine s_yes rfl rfl (s_val rfl (v_load Tryz.isAgg30 rfl (cell_own rfl)) ?_)
    refine s_yes rfl rfl (s_val rfl (v_len_slice Tryz.underlying30 rfl) (s_yes rfl rfl (s_val rfl (v_leq rfl rfl) (s_val rfl (v_pick_t rfl rfl) (s_val rfl (v_move rfl) ?_)))))
    refine s_and rfl rfl rfl ?_ ?_
    · intro g1_11
      refine s_val rfl (v_fieldAddr rfl Tryz.underlying33 rfl Tryz.sizeOf31 rfl (by first | exact Nat.zero_add _ | rfl)) ?_
      refine s_yes rfl rfl (s_val rfl (v_load Tryz.isAgg31 rfl (cell_own rfl)) ?_)
      refine s_yes rfl rfl (s_val rfl (v_len_slice Tryz.underlying31 rfl) (s_yes rfl rfl (s_val rfl (v_leq rfl rfl) (s_val rfl (v_pick_t rfl rfl) (s_val rfl (v_assign rfl) (x_nil (n_then (x_ret (x_done (.inl rfl) (.cons (r_tmp rfl) .nil) ?_)))))))))
      refine ⟨_, ⟨?_, rfl⟩, inferInstance⟩
      refine congrArg Value.bool ?_
      rw [Bool.eq_iff_iff, ltB, decide_eq_true_iff]
      first
        | (rw [decide_eq_true_iff]; constructor
           · intro q; omega
           · intro q; omega)
        | (constructor
           · intro q; first | omega | (cases q)
           · intro q; omega)
    · intro g1_11
      refine s_no rfl rfl rfl rfl (s_no rfl rfl rfl rfl (s_no rfl rfl rfl rfl (s_val rfl (v_pick_f rfl rfl) (s_val rfl (v_assign rfl) (x_nil (n_then (x_ret (x_done (.inl rfl) (.cons (r_tmp rfl) .nil) ?_))))))))
      refine ⟨_, ⟨?_, rfl⟩, inferInstance⟩
      refine congrArg Value.bool ?_
      rw [Bool.eq_iff_iff, ltB, decide_eq_true_iff]
      first
        | (rw [decide_eq_true_iff]; constructor
           · intro q; omega
           · intro q; omega)
        | (constructor
           · intro q; first | omega | (cases q)
           · intro q; omega)
  · intro g1_5
    refine s_no rfl rfl rfl rfl (s_no rfl rfl rfl rfl (s_no rfl rfl rfl rfl (s_val rfl (v_pick_f rfl rfl) (s_val rfl (v_move rfl) (s_no rfl rfl rfl rfl (s_no rfl rfl rfl rfl (s_no rfl rfl rfl rfl (s_no rfl rfl rfl rfl (s_val rfl (v_pick_f rfl rfl) (s_val rfl (v_assign rfl) (x_nil (n_then (x_ret (x_done (.inl rfl) (.cons (r_tmp rfl) .nil) ?_))))))))))))))
    refine ⟨_, ⟨?_, rfl⟩, inferInstance⟩
    refine congrArg Value.bool ?_
    rw [Bool.eq_iff_iff, ltB, decide_eq_true_iff]
    first
      | (rw [decide_eq_true_iff]; constructor
         · intro q; omega
         · intro q; omega)
      | (constructor
         · intro q; first | omega | (cases q)
         · intro q; omega)
@[reducible] def cfg2 (b1 b2 : Nat) : Cfg := ⟨2, some ⟨b1, 0, none⟩, 2, [(1, 1, 0), (2, 1, 0)], none, 0, [], none, 0, [], none, 0, [], some ⟨b2, 0, none⟩, 2, [(0, 1), (1, 1)], -1, 0⟩
@[reducible] def h41 (b1 b2 : Nat) (R : List HP) : List HP := pt b2 (cob [.int .i64 0, .int .i64 1, .int .i64 1, .int .i64 1] 202) :: pt b1 (cob [.int .i64 1, .int .i64 1, .int .i64 0, .int .i64 2, .int .i64 1, .int .i64 0] 95) :: R
theorem two41_spec (W0 : World) (R : List HP) : Spec Tryz.prog W0 35 [] R (fun v B => ∃ b1 b2, v = .agg (cfgV (cfg2 b1 b2)).toArray ∧ B = h41 b1 b2 R) := by
  refine spec_body Tryz.func35 Tryz.ntmps35 rfl rfl ?_
  refine x_seq (x_region (s_do rfl (d_allocA Tryz.zeroValue28) ?_))
  rintro _ _ ⟨b0, rfl, rfl⟩
  refine x_nil (n_then (x_seq (x_region (s_val rfl (v_build Tryz.underlying95 Tryz.zeroValue95 (sized_cons Tryz.sizeOf3 (sized_cons Tryz.sizeOf3 (sized_cons Tryz.sizeOf3 sized_nil))) (fil_scal rfl Tryz.sizeOf3 rfl rfl (Nat.le_of_ble_eq_true rfl) SetL.eq (fil_scal rfl Tryz.sizeOf3 rfl rfl (Nat.le_of_ble_eq_true rfl) SetL.eq fil_nil))) ?_))))
  refine s_val rfl (v_build Tryz.underlying95 Tryz.zeroValue95 (sized_cons Tryz.sizeOf3 (sized_cons Tryz.sizeOf3 (sized_cons Tryz.sizeOf3 sized_nil))) (fil_scal rfl Tryz.sizeOf3 rfl rfl (Nat.le_of_ble_eq_true rfl) SetL.eq (fil_scal rfl Tryz.sizeOf3 rfl rfl (Nat.le_of_ble_eq_true rfl) SetL.eq fil_nil))) ?_
  refine s_do rfl (d_sliceAgg Tryz.underlying22 Tryz.sizeOf95 Tryz.zeroValue95 rfl (elsK_cons rfl rfl (elsK_cons rfl rfl elsK_nil)) rfl (by decide) (by decide) (by decide)) ?_
  rintro _ _ ⟨b1, rfl, rfl⟩
  refine s_val rfl (v_build Tryz.underlying202 Tryz.zeroValue202 (sized_cons Tryz.sizeOf3 (sized_cons Tryz.sizeOf3 sized_nil)) (fil_scal rfl Tryz.sizeOf3 rfl rfl (Nat.le_of_ble_eq_true rfl) SetL.eq fil_nil)) ?_
  refine s_val rfl (v_build Tryz.underlying202 Tryz.zeroValue202 (sized_cons Tryz.sizeOf3 (sized_cons Tryz.sizeOf3 sized_nil)) (fil_scal rfl Tryz.sizeOf3 rfl rfl (Nat.le_of_ble_eq_true rfl) SetL.eq (fil_scal rfl Tryz.sizeOf3 rfl rfl (Nat.le_of_ble_eq_true rfl) SetL.eq fil_nil))) ?_
  refine s_do rfl (d_sliceAgg Tryz.underlying26 Tryz.sizeOf202 Tryz.zeroValue202 rfl (elsK_cons rfl rfl (elsK_cons rfl rfl elsK_nil)) rfl (by decide) (by decide) (by decide)) ?_
  rintro _ _ ⟨b2, rfl, rfl⟩
  refine s_val rfl (v_build Tryz.underlying28 Tryz.zeroValue28 (sized_cons Tryz.sizeOf3 (sized_cons Tryz.sizeOf22 (sized_cons Tryz.sizeOf23 (sized_cons Tryz.sizeOf24 (sized_cons Tryz.sizeOf25 (sized_cons Tryz.sizeOf26 (sized_cons Tryz.sizeOf3 (sized_cons Tryz.sizeOf3 sized_nil)))))))) (fil_scal rfl Tryz.sizeOf3 rfl rfl (Nat.le_of_ble_eq_true rfl) SetL.eq (fil_scal rfl Tryz.sizeOf22 rfl rfl (Nat.le_of_ble_eq_true rfl) SetL.eq (fil_scal rfl Tryz.sizeOf26 rfl rfl (Nat.le_of_ble_eq_true rfl) SetL.eq (fil_scal rfl Tryz.sizeOf3 rfl rfl (Nat.le_of_ble_eq_true rfl) SetL.eq fil_nil))))) ?_
  refine s_do0 (d_storeAll Tryz.sizeOf28 rfl rfl rfl rfl rfl) ?_
  rintro _ _ rfl
  refine x_nil (n_then (x_ret (run_pt (b := b1) (o' := cob [.int .i64 1, .int .i64 1, .int .i64 0, .int .i64 2, .int .i64 1, .int .i64 0] 95) rfl ?_)))
  refine run_pt (b := b2) (o' := cob [.int .i64 0, .int .i64 1, .int .i64 1, .int .i64 1] 202) rfl ?_
  refine x_done (.inl rfl) (.cons (r_all Tryz.isAgg28 Tryz.sizeOf28 rfl rfl) .nil) ?_
  exact ⟨_, ⟨b1, b2, rfl, rfl⟩, inferInstance⟩
theorem cf2 {W0 W : World} {R : List HP} {b1 b2 : Nat} (hO : Own W0 W (h41 b1 b2 R)) : CfOk W (cfg2 b1 b2) :=
  ⟨sla_now hO (sla_pt (f := gsV) (sz := 3) (b := b1) (fun _ => rfl) rfl), fun A => sla_nil, fun A => sla_nil, fun A => sla_nil, sla_now hO (sla_pt (f := pairV) (sz := 2) (b := b2) (fun _ => rfl) rfl), Nat.le_refl _⟩
theorem gs21 (b1 b2 : Nat) : gsO (cfg2 b1 b2) 1 = [0] := by kernel_rfl
theorem gs23 (b1 b2 : Nat) : gsO (cfg2 b1 b2) 3 = [0, 1] := by kernel_rfl
theorem gs20 (b1 b2 : Nat) : gsO (cfg2 b1 b2) 0 = [] := by kernel_rfl
theorem guests2_spec (W0 : World) (R : List HP) (b1 b2 : Nat) (l : Int) (q : List Nat) (hq : gsO (cfg2 b1 b2) l = q) :
    Spec Tryz.prog W0 9 [.agg (cfgV (cfg2 b1 b2)).toArray, .int .i64 l] (h41 b1 b2 R) (fun v B => ∃ a k, v = .slice a q.length k ∧ B = osl 3 1 (.slice a q.length k) (q.map ixV) :: R) :=
  spec_post (spec_rebase fun W hO => siGuests_spec W [] (cfg2 b1 b2) (cf2 hO) (by simp) l) fun v B hB => by
    obtain ⟨C, ⟨a, k, rfl, rfl⟩, rfl⟩ := hB
    rw [hq]
    refine ⟨_, ⟨a, k, rfl, rfl⟩, ?_⟩
    simp only [List.cons_append, List.nil_append]
    exact inferInstance
theorem awake41_spec (W0 : World) (R : List HP) : Spec Tryz.prog W0 7 [] R (fun v B => v = .bool true ∧ B = R) := by
  refine spec_body Tryz.func7 Tryz.ntmps7 rfl rfl ?_
  refine x_seq (x_region (s_val rfl (v_assign rfl) (x_nil (n_then (x_seq (x_region (s_do rfl (d_call Tryz.call35 rfl (two41_spec W0 _)) ?_)))))))
  rintro _ B_ ⟨p1, p2, rfl, hB_⟩
  obtain rfl := hB_.symm
  refine s_do rfl (d_call Tryz.call9 rfl (guests2_spec W0 _ p1 p2 1 [0] (gs21 p1 p2))) ?_
  rintro _ B_ ⟨a, k, rfl, hB_⟩
  obtain rfl := hB_.symm
  refine run_form (E := 3) (sz := 1) (a := a) (c := k) (n := 1) (ys := [0].map ixV) (fun hf => ?_)
  obtain ⟨g, rfl⟩ := form_some hf (by simp)
  refine s_val rfl (v_assign rfl) (x_nil (n_then (x_seq (x_region (s_val rfl (v_move rfl) (s_val rfl (v_len_slice Tryz.underlying38 rfl) (s_val rfl (v_eql rfl rfl) (s_val rfl (v_move rfl) ?_))))))))
  refine s_and rfl rfl rfl ?_ ?_
  · intro g2_4
    refine s_val rfl (v_move rfl) (s_yes rfl rfl ?_)
    refine s_val rfl (v_idx Tryz.underlying38 Tryz.sizeOf3 rfl rfl (j := 0) rfl (by decide) (by first | exact Nat.zero_add _ | rfl)) ?_
    refine s_yes rfl rfl (s_val rfl (v_load Tryz.isAgg3 rfl (cell_osl (sz := 1) (E := 3) (n := 1) (c := k) rfl)) ?_)
    refine s_yes rfl rfl (s_val rfl (v_eql rfl rfl) (s_val rfl (v_pick_t rfl rfl) (s_val rfl (v_move rfl) ?_)))
    refine s_and rfl rfl rfl ?_ ?_
    · intro g2_10
      refine s_do rfl (d_call Tryz.call35 rfl (two41_spec W0 _)) ?_
      rintro _ B_ ⟨p1, p2, rfl, hB_⟩
      obtain rfl := hB_.symm
      refine s_yes rfl rfl (s_do rfl (d_call Tryz.call9 rfl (guests2_spec W0 _ p1 p2 3 [0, 1] (gs23 p1 p2))) ?_)
      rintro _ B_ ⟨a2, k2, rfl, hB_⟩
      obtain rfl := hB_.symm
      refine s_yes rfl rfl (s_val rfl (v_len_slice Tryz.underlying38 rfl) (s_yes rfl rfl (s_val rfl (v_eql rfl rfl) (s_val rfl (v_pick_t rfl rfl) (s_val rfl (v_move rfl) ?_)))))
      refine s_and rfl rfl rfl ?_ ?_
      · intro g2_16
        refine s_do rfl (d_call Tryz.call35 rfl (two41_spec W0 _)) ?_
        rintro _ B_ ⟨p1, p2, rfl, hB_⟩
        obtain rfl := hB_.symm
        refine s_yes rfl rfl (s_do rfl (d_call Tryz.call9 rfl (guests2_spec W0 _ p1 p2 0 [] (gs20 p1 p2))) ?_)
        rintro _ B_ ⟨a3, k3, rfl, hB_⟩
        obtain rfl := hB_.symm
        refine s_yes rfl rfl (s_val rfl (v_len_slice Tryz.underlying38 rfl) (s_yes rfl rfl (s_val rfl (v_eql rfl rfl) (s_val rfl (v_pick_t rfl rfl) (s_val rfl (v_assign rfl) (x_nil (n_then (x_ret (x_done (.inl rfl) (.cons (r_tmp rfl) .nil) ?_)))))))))
        exact ⟨_, ⟨rfl, rfl⟩, inferInstance⟩
      · intro g2_16
        exact absurd (by decide) g2_16
    · intro g2_10
      exact absurd (by decide) g2_10
  · intro g2_4
    exact absurd (by decide) g2_4
section
variable {c : Cfg} {x y : Int} (hxy : ∀ g, flB g x = true → flB g y = true)
include hxy
end
theorem gsO_lt {c : Cfg} {l : Int} : ∀ i ∈ gsO c l, i < c.gl.length := by
  unfold gsO; split
  · exact pkK_lt _ _ _
  · intro i hi; simp at hi
theorem gsO_len {c : Cfg} {l : Int} : (gsO c l).length ≤ c.gl.length := by
  unfold gsO; split
  · exact pkK_len _ _ _
  · exact Nat.zero_le _
end Go.Proofs.YtncegikenkpcmaaGreat
