/-
  Bytes as a text. Nothing of one program stands here.
-/
import Derived.Test.YtechkfopkpkigaaGreatKit
import Derived.Test.YtechkfopkpkigaaGreatBytes
import Derived.Laws.BytesString
namespace Go.Proofs.YtechkfopkpkigaaGreat
open Go.RowKit
set_option linter.unusedSimpArgs false
set_option linter.unusedVariables false

theorem byV_flat : ∀ bs : List Nat, bs.flatMap (fun x => [bV x]) = byV bs
  | [] => rfl
  | b :: l => by rw [List.flatMap_cons, byV_flat l]; rfl
theorem byV_map : ∀ bs : List Nat, (bs.map fun b : Nat => (b : Int)).map (Value.int .u8) = byV bs
  | [] => rfl
  | b :: l => by rw [List.map_cons, List.map_cons, byV_map l]; rfl
def strB (l : List Nat) : ByteArray := (l.map fun b : Nat => (b : Int)).foldl (fun r n => r.push (UInt8.ofNat n.toNat)) ByteArray.empty
theorem push_toList (s : ByteArray) (b : UInt8) : (s.push b).data.toList = s.data.toList ++ [b] := by simp [ByteArray.push]
theorem strB_list (l : List Nat) : (strB l).data.toList = l.map UInt8.ofNat := by
  suffices h : ∀ (l : List Nat) (s : ByteArray), ((l.map fun b : Nat => (b : Int)).foldl (fun r n => r.push (UInt8.ofNat n.toNat)) s).data.toList = s.data.toList ++ l.map UInt8.ofNat by
    simpa [strB] using h l ByteArray.empty
  intro l
  induction l with
  | nil => intro s; simp
  | cons b l ih => intro s; rw [List.map_cons, List.foldl_cons, ih, push_toList]; simp
theorem ofNat_inj {a b : Nat} (ha : a < 256) (hb : b < 256) (h : UInt8.ofNat a = UInt8.ofNat b) : a = b := by
  have := congrArg UInt8.toNat h
  simpa [UInt8.toNat_ofNat, Nat.mod_eq_of_lt ha, Nat.mod_eq_of_lt hb] using this
theorem strB_toList (l : List Nat) : (strB l).toList = l.map UInt8.ofNat := by
  rw [← strB_list]
  exact ByteArray.toList_eq (strB l)
theorem strB_inj {a b : List Nat} (ha : By a) (hb : By b) : (strB a).toList = (strB b).toList ↔ a = b := by
  constructor
  · rw [strB_toList, strB_toList]
    induction a generalizing b with
    | nil => intro h; cases b with
      | nil => rfl
      | cons y b => simp at h
    | cons x a ih => intro h; cases b with
      | nil => simp at h
      | cons y b =>
        simp only [List.map_cons, List.cons.injEq] at h
        rw [ofNat_inj (ha x (by simp)) (hb y (by simp)) h.1, ih (fun z hz => ha z (by simp [hz])) (fun z hz => hb z (by simp [hz])) h.2]
  · rintro rfl; rfl

section
variable {P : Program} {S : World → Prop} {W0 : World} {N : FSz} {e : Env} {A R : List HP} {t t' : TypeId} {x : Operand} {bs : List Nat} {a : Option Addr} {c n : Nat}
theorem v_bstrS {E : TypeId} (hs : P.underlying t = some (.slice E)) (he : P.underlying E = some (.int .u8)) (hd : P.underlying t' = some .string) (hx : ev e x = some (.slice a bs.length c)) (h : SlA S a 1 (fun x => [bV x]) bs) :
    Val P S N e (.convert t t' x) (.string (strB bs)) := fun act w _ _ _ _ _ hF hO => by
  have hr : (Conv.bytesToString (.slice a bs.length c)).run P w = .ok (.string (strB bs)) w := by
    cases a with
    | none =>
      have : bs = [] := by
        cases bs with
        | nil => rfl
        | cons b l => obtain ⟨_, _, h0, _⟩ := h 0 b rfl; cases h0
      subst this
      simp [Conv.bytesToString, strB]
    | some ad =>
      have hl : (loadCells ad bs.length).run P w = .ok ((bs.map fun b : Nat => (b : Int)).map (Value.int .u8)).toArray w := by
        by_cases hb : bs = []
        · subst hb; simp [loadCells, loadCellsFrom]
        · obtain ⟨b, off, hae, hc⟩ := h.all hb (fun _ => rfl)
          cases hae
          rw [byV_flat] at hc
          have := run_loadCells (P := P) (w := w) (vs := byV bs) (fun i v hi => hc i v hi w hO) bs.length 0 #[] (by simp [byV_len])
          simp only [loadCells, this, List.drop_zero, Array.empty_append, byV_map]
      exact run_bytesToString w ad bs.length c _ hl
  simp only [execOp, hF.eval hx, Sem.run_bind, run_convert_bytes_string w t t' E a bs.length c hs he hd, hr, Result.andThen_ok, Sem.run_pure]
theorem v_bstrSN {E : TypeId} (hs : P.underlying t = some (.slice E)) (he : P.underlying E = some (.int .u8)) (hd : P.underlying t' = some .string) (hx : ev e x = some (.slice a n c)) (hn : bs.length = n) (h : SlA S a 1 (fun x => [bV x]) bs) :
    Val P S N e (.convert t t' x) (.string (strB bs)) := by subst hn; exact v_bstrS hs he hd hx h
theorem v_bstr {E E' n : Nat} {ys : List Value} [k : Tk (osl E' 1) (.slice a n c) A ys R] (hs : P.underlying t = some (.slice E)) (he : P.underlying E = some (.int .u8)) (hd : P.underlying t' = some .string) (hx : ev e x = some (.slice a n c)) (hy : ys = byV bs) (hn : n = bs.length) :
    Val P (OwnP W0 A) N e (.convert t t' x) (.string (strB bs)) := fun act w d1 d2 d3 d4 d5 hF hO => by
  subst hn
  exact v_bstrS (S := OwnP W0 A) hs he hd hx (sla_own (h := k) (f := fun x => [bV x]) (xs := bs) (fun _ => rfl) (by decide) (by rw [hy, byV_flat]) hO) act w d1 d2 d3 d4 d5 hF hO
end
end Go.Proofs.YtechkfopkpkigaaGreat
