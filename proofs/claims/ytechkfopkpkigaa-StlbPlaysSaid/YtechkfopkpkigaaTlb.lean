/-
  Remembered translations as a list, the one that is used least lately first. Plain Lean, no program.
-/
import Derived.Test.YtechkfopkpkigaaHeap
namespace Go.Proofs.Ytechkfopkpkigaa
set_option linter.unusedSimpArgs false
set_option linter.unusedVariables false

abbrev Key := Int × Int
abbrev Ent3 := Int × Int × Int
def mkIt (k : Key) (e : Ent3) (u : Int) : It := ⟨k.1, k.2, e.1, e.2.1, e.2.2, u⟩
theorem mkIt_key (k : Key) (e : Ent3) (u : Int) : (mkIt k e u).key = k := rfl
theorem mkIt_ent (k : Key) (e : Ent3) (u : Int) : (mkIt k e u).ent = e := rfl

def without (k : Key) (l : List It) : List It := l.filter (fun x => decide (x.key ≠ k))
theorem mem_without {k : Key} {l : List It} {x : It} : x ∈ without k l ↔ x ∈ l ∧ x.key ≠ k := by simp [without]
theorem without_no {k : Key} {l : List It} (h : ∀ x ∈ l, x.key ≠ k) : without k l = l := List.filter_eq_self.2 fun x hx => by simpa using h x hx

structure Rep (its : List It) (now : Nat) (L : List It) : Prop where
  perm : its.Perm L
  heap : Heap its its.length
  sort : L.Pairwise (fun x y => x.u < y.u)
  le : ∀ x ∈ L, x.u ≤ (now : Int)
  keys : (L.map It.key).Nodup

theorem Rep.nil : Rep [] 0 [] := ⟨List.Perm.nil, fun c hc => by simp at hc, List.Pairwise.nil, fun _ h => by simp at h, List.nodup_nil⟩
theorem Rep.length {its L : List It} {now : Nat} (h : Rep its now L) : its.length = L.length := h.perm.length_eq
theorem Rep.keysI {its L : List It} {now : Nat} (h : Rep its now L) : (its.map It.key).Nodup := (h.perm.map It.key).symm.nodup h.keys

/-- What is put last. -/
def putBack (k : Key) (x : It) (L : List It) : List It := without k L ++ [x]
theorem sort_putBack {L : List It} {k : Key} {x : It} {now : Nat} (hs : L.Pairwise (fun x y => x.u < y.u)) (hl : ∀ x ∈ L, x.u ≤ (now : Int)) (hx : x.u = (now : Int) + 1) : (putBack k x L).Pairwise (fun x y => x.u < y.u) := by
  refine List.pairwise_append.2 ⟨hs.filter _, List.pairwise_singleton _ _, fun y hy z hz => ?_⟩
  obtain rfl : z = x := by simpa using hz
  have := hl y (mem_without.1 hy).1; omega
theorem keys_putBack {L : List It} {k : Key} {x : It} (h : (L.map It.key).Nodup) (hx : x.key = k) : ((putBack k x L).map It.key).Nodup := by
  unfold putBack
  rw [List.map_append]
  refine List.nodup_append.2 ⟨?_, by simp, fun a ha b hb => ?_⟩
  · exact List.Sublist.nodup (List.Sublist.map _ List.filter_sublist) h
  · obtain rfl : b = x.key := by simpa using hb
    obtain ⟨y, hy, rfl⟩ := List.mem_map.1 ha
    rw [hx]; exact (mem_without.1 hy).2
theorem le_putBack {L : List It} {k : Key} {x : It} {now : Nat} (hl : ∀ x ∈ L, x.u ≤ (now : Int)) (hx : x.u = (now : Int) + 1) : ∀ y ∈ putBack k x L, y.u ≤ ((now + 1 : Nat) : Int) := fun y hy => by
  rcases List.mem_append.1 hy with h | h
  · have := hl y (mem_without.1 h).1; omega
  · obtain rfl : y = x := by simpa using h
    omega
theorem set_perm {its : List It} {k : Key} {i : Nat} {x : It} (hk : (its.map It.key).Nodup) (hi : i < its.length) (he : (its.getD i default).key = k) : (its.set i x).Perm (putBack k x its) := by
  have hg : its.getD i default = its[i] := by simp [List.getD, hi]
  rw [hg] at he
  have e : its = its.take i ++ its[i] :: its.drop (i + 1) := by rw [← List.drop_eq_getElem_cons hi, List.take_append_drop]
  have hs : its.set i x = its.take i ++ x :: its.drop (i + 1) := by rw [List.set_eq_take_append_cons_drop, if_pos hi]
  have hw : without k its = its.take i ++ its.drop (i + 1) := by
    have hn := hk
    rw [e, List.map_append, List.map_cons] at hn
    have hnn := List.nodup_append.1 hn
    have h2 := List.nodup_cons.1 hnn.2.1
    conv => lhs; rw [e]
    unfold without
    rw [List.filter_append, List.filter_cons_of_neg (by simp [he])]
    have h3 := without_no (k := k) (l := its.take i) (fun y hy h => hnn.2.2 y.key (List.mem_map_of_mem hy) its[i].key (by simp) (by rw [h, he]))
    have h4 := without_no (k := k) (l := its.drop (i + 1)) (fun y hy h => h2.1 (by rw [he, ← h]; exact List.mem_map_of_mem hy))
    unfold without at h3 h4
    rw [h3, h4]
  rw [hs, putBack, hw]
  exact List.perm_middle.trans (List.perm_append_singleton x _).symm
theorem Rep.setI {its its' L : List It} {now i : Nat} {k : Key} {x : It} (h : Rep its now L) (hi : i < its.length) (he : (its.getD i default).key = k) (hx : x.key = k) (hu : x.u = (now : Int) + 1)
    (hp : its'.Perm (its.set i x)) (hh : Heap its' its'.length) : Rep its' (now + 1) (putBack k x L) :=
  ⟨hp.trans ((set_perm h.keysI hi he).trans ((h.perm.filter _).append_right _)), hh, sort_putBack h.sort h.le hu, le_putBack h.le hu, keys_putBack h.keys hx⟩

def findK (k : Key) (L : List It) : Option It := L.find? (fun x => decide (x.key = k))
theorem Rep.noneI {its L : List It} {now : Nat} {k : Key} (h : Rep its now L) (hn : ∀ x ∈ its, x.key ≠ k) : findK k L = none ∧ without k L = L :=
  ⟨List.find?_eq_none.2 fun x hx => by simpa using hn x (h.perm.mem_iff.2 hx), without_no fun x hx => hn x (h.perm.mem_iff.2 hx)⟩
theorem find_mem {L : List It} {k : Key} {y : It} (h : findK k L = some y) : y ∈ L ∧ y.key = k := ⟨List.mem_of_find?_eq_some h, by simpa using List.find?_some h⟩
theorem find_uniq {L : List It} {k : Key} {y : It} (hk : (L.map It.key).Nodup) (hy : y ∈ L) (he : y.key = k) : findK k L = some y := by
  cases hf : findK k L with
  | none => exact absurd he (by simpa using List.find?_eq_none.1 hf y hy)
  | some z =>
    obtain ⟨hz, hz'⟩ := find_mem hf
    have : z = y := by
      clear hf
      induction L with
      | nil => simp at hy
      | cons a L ih =>
        simp only [List.map_cons, List.nodup_cons] at hk
        rcases List.mem_cons.1 hy with e1 | hy1
        · rcases List.mem_cons.1 hz with e2 | hz1
          · rw [e1, e2]
          · subst e1; exact absurd (List.mem_map_of_mem (f := It.key) hz1) (by rw [hz', ← he]; exact hk.1)
        · rcases List.mem_cons.1 hz with e2 | hz1
          · subst e2; exact absurd (List.mem_map_of_mem (f := It.key) hy1) (by rw [he, ← hz']; exact hk.1)
          · exact ih hk.2 hy1 hz1
    rw [this]
theorem Rep.someI {its L : List It} {now i : Nat} {k : Key} (h : Rep its now L) (hi : i < its.length) (he : (its.getD i default).key = k) : findK k L = some (its.getD i default) := by
  have hg : its.getD i default = its[i] := by simp [List.getD, hi]
  refine find_uniq h.keys (h.perm.mem_iff.1 ?_) he
  rw [hg]; exact List.getElem_mem hi
theorem Rep.dropI {its its' L : List It} {now : Nat} {k : Key} {y : It} (h : Rep its now L) (he : y.key = k) (hp : (its' ++ [y]).Perm its) (hh : Heap its' its'.length) : Rep its' now (without k L) := by
  have hn : ((its' ++ [y]).map It.key).Nodup := (hp.map _).symm.nodup h.keysI
  rw [List.map_append] at hn
  have h1 := List.nodup_append.1 hn
  have e : without k (its' ++ [y]) = its' := by
    unfold without
    rw [List.filter_append, List.filter_cons_of_neg (by simp [he])]
    have := without_no (k := k) (l := its') (fun x hx h => h1.2.2 x.key (List.mem_map_of_mem hx) y.key (by simp) (by rw [h, he]))
    unfold without at this
    rw [this]; simp
  refine ⟨?_, hh, h.sort.filter _, fun x hx => h.le x (mem_without.1 hx).1, List.Sublist.nodup (List.Sublist.map _ List.filter_sublist) h.keys⟩
  have := (hp.trans h.perm).filter (fun x => decide (x.key ≠ k))
  rw [← e]; exact this
theorem Rep.pushI {its its' L : List It} {now : Nat} {k : Key} {x : It} (h : Rep its now L) (hn : ∀ y ∈ its, y.key ≠ k) (hx : x.key = k) (hu : x.u = (now : Int) + 1) (hp : its'.Perm (its ++ [x])) (hh : Heap its' its'.length) : Rep its' (now + 1) (putBack k x L) :=
  ⟨by unfold putBack; rw [(h.noneI hn).2]; exact hp.trans (h.perm.append_right _), hh, sort_putBack h.sort h.le hu, le_putBack h.le hu, keys_putBack h.keys hx⟩
theorem Rep.popI {its its' L : List It} {now : Nat} {y : It} (h : Rep its now L) (hp : (its' ++ [y]).Perm its) (hh : Heap its' its'.length) (hmin : ∀ z ∈ its, y.u ≤ z.u) : Rep its' now L.tail := by
  have hyL : y ∈ L := (hp.trans h.perm).mem_iff.1 (by simp)
  cases L with
  | nil => simp at hyL
  | cons z T =>
    have hs := List.pairwise_cons.1 h.sort
    have hyz : y = z := by
      rcases List.mem_cons.1 hyL with e | hy
      · exact e
      · have h1 := hs.1 y hy
        have h2 := hmin z (h.perm.mem_iff.2 (by simp))
        omega
    subst hyz
    have hpT : (y :: its').Perm (y :: T) := (List.perm_append_singleton y its').symm.trans (hp.trans h.perm)
    exact ⟨List.Perm.cons_inv hpT, hh, hs.2, fun x hx => h.le x (List.mem_cons_of_mem _ hx), (List.nodup_cons.1 (by simpa using h.keys)).2⟩

def putL (room now : Nat) (k : Key) (e : Ent3) (L : List It) : List It :=
  if room < (putBack k (mkIt k e (now + 1 : Nat)) L).length then (putBack k (mkIt k e (now + 1 : Nat)) L).tail else putBack k (mkIt k e (now + 1 : Nat)) L
def getL (now : Nat) (k : Key) (L : List It) : List It := match findK k L with | none => L | some y => putBack k (mkIt k y.ent (now + 1 : Nat)) L
theorem without_le (k : Key) (L : List It) : (without k L).length ≤ L.length := List.length_filter_le _ _
theorem putBack_len (k : Key) (x : It) (L : List It) : (putBack k x L).length = (without k L).length + 1 := by simp [putBack]
theorem without_lt {k : Key} {L : List It} {y : It} (h : findK k L = some y) : (without k L).length < L.length := by
  obtain ⟨h1, h2⟩ := find_mem h
  exact List.length_filter_lt_length_iff_exists.2 ⟨y, h1, by simpa using h2⟩
theorem putL_len {room now : Nat} {k : Key} {e : Ent3} {L : List It} (h : L.length ≤ room) : (putL room now k e L).length ≤ room := by
  have h1 := without_le k L
  unfold putL; split
  · rw [List.length_tail, putBack_len]; omega
  · rename_i h2; omega
theorem getL_len {now : Nat} {k : Key} {L : List It} : (getL now k L).length ≤ L.length := by
  unfold getL; split
  · exact Nat.le_refl _
  · rename_i y hy; rw [putBack_len]; exact without_lt hy
theorem getL_some {now : Nat} {k : Key} {L : List It} {y : It} (h : findK k L = some y) : getL now k L = putBack k (mkIt k y.ent (now + 1 : Nat)) L := by
  unfold getL; rw [h]
theorem find_putBack {k : Key} {x : It} {L : List It} (hx : x.key = k) : findK k (putBack k x L) = some x := by
  unfold findK putBack
  rw [List.find?_append, List.find?_eq_none.2 (fun y hy => by simpa using (mem_without.1 hy).2)]
  simp [hx]
/-- The one that was used last stays. -/
theorem used_stays {room now : Nat} {k kk : Key} {e : Ent3} {z : It} {A : List It} (hr : 2 ≤ room) (hz : z.key = k) (hk : kk ≠ k) (hn : ((putL room now kk e (putBack k z A)).map It.key).Nodup) : findK k (putL room now kk e (putBack k z A)) = some z := by
  refine find_uniq hn ?_ hz
  have h1 : without kk (putBack k z A) = without kk (without k A) ++ [z] := by
    show without kk (without k A ++ [z]) = _
    unfold without
    rw [List.filter_append, List.filter_cons_of_pos (by simp [hz, hk.symm])]; simp
  have h2 : putBack kk (mkIt kk e (now + 1 : Nat)) (putBack k z A) = without kk (without k A) ++ [z, mkIt kk e (now + 1 : Nat)] := by
    show without kk (putBack k z A) ++ [mkIt kk e (now + 1 : Nat)] = _
    rw [h1]; simp
  unfold putL
  rw [h2]
  split
  · rename_i h
    cases hw : without kk (without k A) with
    | nil => rw [hw] at h; simp at h; omega
    | cons a as => simp
  · simp
theorem findK_nil {k : Key} : findK k [] = none := rfl
theorem find_without {k : Key} {L : List It} : findK k (without k L) = none := List.find?_eq_none.2 fun y hy => by simpa using (mem_without.1 hy).2
theorem put_find {room now : Nat} {k : Key} {e : Ent3} {L : List It} (hr : 0 < room) (hn : ((putL room now k e L).map It.key).Nodup) : findK k (putL room now k e L) = some (mkIt k e (now + 1 : Nat)) := by
  refine find_uniq hn ?_ rfl
  unfold putL
  split
  · rename_i h
    unfold putBack at h ⊢
    cases hw : without k L with
    | nil => rw [hw] at h; simp at h; omega
    | cons a as => simp
  · simp [putBack]
theorem put_zero {now : Nat} {k : Key} {e : Ent3} {L : List It} (h : L.length ≤ 0) : putL 0 now k e L = [] := by
  have : L = [] := List.eq_nil_of_length_eq_zero (by omega)
  subst this
  simp [putL, putBack, without]
end Go.Proofs.Ytechkfopkpkigaa
