/-
  Part 2 of the proof of NicPlays: rules, and walks of functions. Conditions: none.
-/
import Derived.Test.YtlnmofhehcilhaaGreatNicPlaysA
namespace Go.Proofs.YtlnmofhehcilhaaGreat
open Go.RowKit
set_option linter.unusedSimpArgs false
set_option linter.unusedVariables false
set_option maxRecDepth 20000
def inL (p : Value × List ByteArray) : HP := osl 9 1 p.1 (strs p.2)
def ssH (v : Value) (ls : List (List ByteArray)) : HP := chk (fun C => ∃ vs : List Value, vs.length = ls.length ∧ C = [osl 50 1 v vs, kH 2 (grp ((vs.zip ls).map inL))])
section
variable {W0 : World} {N : FSz} {K : Act → World → Prop} {e : Env} {A B R R1 R2 R3 : List HP} {g n c : Nat} {a : Option Addr} {v : Value} {ls : List (List ByteArray)}
theorem run_ss [hk : Tk ssH v A ls R] (h : ∀ vs : List Value, vs.length = ls.length → Run W0 N K e (osl 50 1 v vs :: kH 2 (grp ((vs.zip ls).map inL)) :: R)) : Run W0 N K e A :=
  run_tk (r := ssH) (b := v) (run_chk fun C hC => by obtain ⟨vs, h1, rfl⟩ := hC; exact h vs h1)
theorem ent_ss {vs : List Value} [h1 : Tk (osl 50 1) v A vs R1] [h2 : Tk kH 2 R1 (grp ((vs.zip ls).map inL)) R2] (hv : vs.length = ls.length) [k : Ent R2 B] : Ent A (ssH v ls :: B) := by
  have e1 : A.Perm ([osl 50 1 v vs, kH 2 (grp ((vs.zip ls).map inL))] ++ R2) := h1.perm.trans (h2.perm.cons _)
  exact (Ent.ofPerm e1).trans ((ent_chk (R := R2) ⟨vs, hv, rfl⟩).trans (Ent.cons k))
theorem ent_ss_nil [k : Ent A B] : Ent A (ssH (.slice none 0 0) [] :: B) := by
  refine k.trans ?_
  have e1 : Ent B (kH 2 (grp ((List.zip ([] : List Value) ([] : List (List ByteArray))).map inL)) :: B) := ent_shut (A := [])
  have e2 : Ent (kH 2 (grp ((List.zip ([] : List Value) ([] : List (List ByteArray))).map inL)) :: B) (osl 50 1 (.slice none 0 0) [] :: kH 2 (grp ((List.zip ([] : List Value) ([] : List (List ByteArray))).map inL)) :: B) := ent_osl_nil
  exact e1.trans (e2.trans (ent_chk (C := [osl 50 1 (.slice none 0 0) [], kH 2 (grp ((List.zip ([] : List Value) ([] : List (List ByteArray))).map inL))]) (R := B) ⟨[], rfl, rfl⟩))
theorem ent_ss_snoc {vs : List Value} {x : Value} [h1 : Tk (osl 50 1) v A (vs ++ [x]) R1] [h2 : Tk kH 2 R1 (grp ((vs.zip ls).map inL)) R2] (hx : x = .slice none 0 0) (hv : vs.length = ls.length) [k : Ent R2 B] : Ent A (ssH v (ls ++ [[]]) :: B) := by
  subst hx
  have e1 : A.Perm (osl 50 1 v (vs ++ [Value.slice none 0 0]) :: kH 2 (grp ((vs.zip ls).map inL)) :: R2) := h1.perm.trans (h2.perm.cons _)
  have e3 : ((vs ++ [Value.slice none 0 0]).zip (ls ++ [[]])).map inL = (vs.zip ls).map inL ++ [osl 9 1 (.slice none 0 0) []] := by
    rw [List.zip_append hv, List.map_append]; rfl
  have e4 : Ent (kH 2 (grp ((vs.zip ls).map inL)) :: R2) (kH 2 (grp (((vs ++ [Value.slice none 0 0]).zip (ls ++ [[]])).map inL)) :: R2) := by
    rw [e3]
    refine (ent_open (A := (vs.zip ls).map inL) (R := R2)).trans ?_
    refine (ent_osl_nil (E := 9) (sz := 1) (B := (vs.zip ls).map inL ++ R2)).trans ?_
    refine (Ent.ofPerm (B := ((vs.zip ls).map inL ++ [osl 9 1 (.slice none 0 0) []]) ++ R2) ?_).trans ent_shut
    rw [List.append_assoc]; exact List.perm_middle.symm
  exact (Ent.ofPerm e1).trans ((Ent.cons e4).trans (ent_ss (ls := ls ++ [[]]) (vs := vs ++ [.slice none 0 0]) (B := B) (by simp [hv]) (k := k)))
theorem run_ssS {vs : List Value} {x : Value} [h1 : Tk (osl 50 1) v A (vs ++ [x]) R1] [h2 : Tk kH 2 R1 (grp ((vs.zip ls).map inL)) R2] (hx : x = .slice none 0 0) (hv : vs.length = ls.length) (k : Run W0 N K e (ssH v (ls ++ [[]]) :: R2)) : Run W0 N K e A :=
  run_ent (ent_ss_snoc (v := v) (ls := ls) (vs := vs) (x := x) (B := R2) hx hv (k := ent_refl)) k
theorem ent_pickL {L : List HP} {i : Nat} (h : i < L.length) : Ent (kH 2 (grp L) :: R) (L[i] :: kH 3 (grp (L.eraseIdx i)) :: R) := ent_pick h
theorem run_ssN [hk : Tk ssH (.slice a n c) A ls R] {i : Nat} (hi : i < ls.length) (h : ∀ g (sp vs : List Value) (ai : Option Addr) (ci : Nat), a = some ⟨g, 0, none⟩ → n = ls.length → vs.length = ls.length → vs[i]? = some (.slice ai (ls.getD i []).length ci) → n ≤ c → c ≤ maxLen → (vs ++ sp).length = c * 1 →
      Run W0 N K e (pt g (cob (vs ++ sp) 50) :: osl 9 1 (.slice ai (ls.getD i []).length ci) (strs (ls.getD i [])) :: kH 3 (grp (((vs.zip ls).map inL).eraseIdx i)) :: R)) : Run W0 N K e A := by
  refine run_ss (v := .slice a n c) fun vs hv => ?_
  have hlen : ((vs.zip ls).map inL).length = ls.length := by simp [hv]
  have hiv : i < vs.length := by omega
  have hg : ((vs.zip ls).map inL)[i]'(by omega) = osl 9 1 vs[i] (strs (ls.getD i [])) := by simp [inL, List.getD, hi]
  refine run_tk (r := osl 50 1) (b := .slice a n c) (run_osl (fun h1 h2 => by rw [h2] at hiv; exact absurd hiv (Nat.not_lt_zero _)) fun g n' cap sp h1 h2 h3 h4 h5 => ?_)
  cases h1
  have e2 := ent_pickL (L := (vs.zip ls).map inL) (R := R) (i := i) (by omega)
  rw [hg] at e2
  refine run_ent (Ent.cons e2) ?_
  refine run_vs (E := 9) (vi := vs[i]) (xs := strs (ls.getD i [])) fun ai ci hvi => ?_
  rw [strs_len] at hvi
  rw [hvi]
  exact h g sp vs ai ci rfl (by omega) hv (by rw [← hvi]; simp [hiv]) h2 h3 h5
theorem ent_ssN {i : Nat} {vs ys zs sp : List Value} {vi : Value} {l : List ByteArray} [h1 : Tk pt g A (cob zs 50) R1] [h2 : Tk (osl 9 1) vi R1 ys R2] [h3 : Tk kH 3 R2 (grp (((vs.zip ls).map inL).eraseIdx i)) R3]
    (hz : zs = vs.set i vi ++ sp) (hy : ys = strs l) (hv : vs.length = ls.length) (hn : n = ls.length) (hi : i < ls.length) (a1 : n ≤ c) (a2 : c ≤ maxLen) (a3 : zs.length = c * 1) [k : Ent R3 B] : Ent A (ssH (.slice (some ⟨g, 0, none⟩) n c) (ls.set i l) :: B) := by
  subst hz; subst hy
  have hlen : ((vs.zip ls).map inL).length = ls.length := by simp [hv]
  have e1 : A.Perm (pt g (cob (vs.set i vi ++ sp) 50) :: inL (vi, l) :: kH 3 (grp (((vs.zip ls).map inL).eraseIdx i)) :: R3) := h1.perm.trans ((h2.perm.trans (h3.perm.cons _)).cons _)
  have hs : ((vs.set i vi).zip (ls.set i l)).map inL = ((vs.zip ls).map inL).set i (inL (vi, l)) := by
    apply List.ext_getElem
    · simp
    · intro j h1 h2
      by_cases e : j = i
      · subst e; simp
      · have e' : ¬ i = j := fun h => e h.symm
        simp [List.getElem_set, e']
  have e2 : Ent (inL (vi, l) :: kH 3 (grp (((vs.zip ls).map inL).eraseIdx i)) :: R3) (kH 2 (grp (((vs.set i vi).zip (ls.set i l)).map inL)) :: R3) := by
    rw [hs]; exact ent_unpick (by omega)
  have e3 : Ent (pt g (cob (vs.set i vi ++ sp) 50) :: kH 2 (grp (((vs.set i vi).zip (ls.set i l)).map inL)) :: R3) (osl 50 1 (.slice (some ⟨g, 0, none⟩) n c) (vs.set i vi) :: kH 2 (grp (((vs.set i vi).zip (ls.set i l)).map inL)) :: R3) :=
    ent_osl a1 a2 (by simp [hv, hn]) a3
  exact (Ent.ofPerm e1).trans ((Ent.cons e2).trans (e3.trans (ent_ss (vs := vs.set i vi) (ls := ls.set i l) (B := B) (by simp [hv]) (k := k))))
theorem ss_self {i : Nat} (hi : i < ls.length) : ls.set i (ls.getD i []) = ls := by
  rw [show ls.getD i [] = ls[i] by simp [List.getD, hi]]; exact List.set_getElem_self _
theorem ent_ssS {i : Nat} {vs sp : List Value} {vi : Value} [h1 : Tk pt g A (cob (vs ++ sp) 50) R1] [h2 : Tk (osl 9 1) vi R1 (strs (ls.getD i [])) R2] [h3 : Tk kH 3 R2 (grp (((vs.zip ls).map inL).eraseIdx i)) R3]
    (hv : vs.length = ls.length) (hvi : vs[i]? = some vi) (hn : n = ls.length) (hi : i < ls.length) (a1 : n ≤ c) (a2 : c ≤ maxLen) (a3 : (vs ++ sp).length = c * 1) [k : Ent R3 B] : Ent A (ssH (.slice (some ⟨g, 0, none⟩) n c) ls :: B) := by
  have := ent_ssN (A := A) (B := B) (g := g) (n := n) (c := c) (ls := ls) (i := i) (l := ls.getD i []) (vs := vs) (sp := sp) (vi := vi) (h1 := h1) (h2 := h2) (h3 := h3) (by rw [vs_self hvi]) rfl hv hn hi a1 a2 a3
  rwa [ss_self hi] at this
theorem ss_cell {vs sp : List Value} {i : Nat} {vi : Value} (h : vs[i]? = some vi) : (vs ++ sp)[i * 1]? = some vi := by
  have hi : i < vs.length := by
    rcases Nat.lt_or_ge i vs.length with k | k
    · exact k
    · rw [List.getElem?_eq_none k] at h; cases h
  rw [Nat.mul_one, List.getElem?_append_left hi]; exact h
theorem ss_put {vs sp : List Value} {i : Nat} {vi : Value} (hi : i < vs.length) : (vs ++ sp).set (i * 1) vi = vs.set i vi ++ sp := by
  rw [Nat.mul_one, List.set_append_left _ _ hi]
end
end Go.Proofs.YtlnmofhehcilhaaGreat
namespace Go.Proofs.YtlnmofhehcilhaaGreat
open Go.RowKit
set_option linter.unusedSimpArgs false
set_option linter.unusedVariables false
set_option maxRecDepth 20000
def ptW (x : Prt) : List Value := [.int .i64 x.lab, .int .i64 x.gu]
def inQ (x : Prt) : List ByteArray := if x.gu = -1 then [] else x.l
def ouQ (x : Prt) : List ByteArray := if x.gu = -1 then x.l else []
@[reducible] def rpO (ps : List Prt) (aP aI aO : Option Addr) (cP cI cO : Nat) : Obj := cob [.slice aP ps.length cP, .slice aI ps.length cI, .slice aO ps.length cO] 174
def rpH (p : Nat) (ps : List Prt) : HP := chk (fun C => ∃ aP cP aI cI aO cO, C = [pt p (rpO ps aP aI aO cP cI cO), osl 125 2 (.slice aP ps.length cP) (ps.flatMap ptW), ssH (.slice aI ps.length cI) (ps.map inQ), ssH (.slice aO ps.length cO) (ps.map ouQ)])
section
variable {W0 : World} {N : FSz} {K : Act → World → Prop} {e : Env} {A B R R1 R2 R3 R4 R5 R6 : List HP} {p n : Nat} {ps : List Prt}
theorem run_rp [hk : Tk rpH p A ps R] (h : ∀ aP cP aI cI aO cO, Run W0 N K e (pt p (rpO ps aP aI aO cP cI cO) :: osl 125 2 (.slice aP ps.length cP) (ps.flatMap ptW) :: ssH (.slice aI ps.length cI) (ps.map inQ) :: ssH (.slice aO ps.length cO) (ps.map ouQ) :: R)) : Run W0 N K e A :=
  run_tk (r := rpH) (b := p) (run_chk fun C hC => by obtain ⟨aP, cP, aI, cI, aO, cO, rfl⟩ := hC; exact h aP cP aI cI aO cO)
theorem ent_rp {n1 n2 n3 : Nat} {xs : List Value} {li lo : List (List ByteArray)} {aP aI aO : Option Addr} {cP cI cO : Nat} [h1 : Tk pt p A (cob [.slice aP n1 cP, .slice aI n2 cI, .slice aO n3 cO] 174) R1] [h2 : Tk (osl 125 2) (.slice aP n1 cP) R1 xs R2] [h3 : Tk ssH (.slice aI n2 cI) R2 li R3] [h4 : Tk ssH (.slice aO n3 cO) R3 lo R4]
    (e1 : xs = ps.flatMap ptW) (e2 : li = ps.map inQ) (e3 : lo = ps.map ouQ) (e4 : n1 = ps.length) (e5 : n2 = ps.length) (e6 : n3 = ps.length) [k : Ent R4 B] : Ent A (rpH p ps :: B) := by
  subst e1; subst e2; subst e3; subst e4; subst e5; subst e6
  have e : A.Perm ([pt p (rpO ps aP aI aO cP cI cO), osl 125 2 (.slice aP ps.length cP) (ps.flatMap ptW), ssH (.slice aI ps.length cI) (ps.map inQ), ssH (.slice aO ps.length cO) (ps.map ouQ)] ++ R4) := h1.perm.trans ((h2.perm.trans ((h3.perm.trans (h4.perm.cons _)).cons _)).cons _)
  exact (Ent.ofPerm e).trans ((ent_chk (R := R4) ⟨aP, cP, aI, cI, aO, cO, rfl⟩).trans (Ent.cons k))
theorem ent_rpO {g i n1 n2 n3 : Nat} {xs zs ys vs sp : List Value} {vi : Value} {l : List ByteArray} {li lo : List (List ByteArray)} {aP aI : Option Addr} {cP cI cO : Nat} [h1 : Tk pt p A (cob [.slice aP n1 cP, .slice aI n2 cI, .slice (some ⟨g, 0, none⟩) n3 cO] 174) R1] [h2 : Tk (osl 125 2) (.slice aP n1 cP) R1 xs R2] [h3 : Tk ssH (.slice aI n2 cI) R2 li R3] [h4 : Tk pt g R3 (cob zs 50) R4] [h5 : Tk (osl 9 1) vi R4 ys R5] [h6 : Tk kH 3 R5 (grp (((vs.zip lo).map inL).eraseIdx i)) R6]
    (hz : zs = vs.set i vi ++ sp) (hy : ys = strs l) (hv : vs.length = lo.length) (hi : i < lo.length) (a0 : n3 = lo.length) (a1 : n3 ≤ cO) (a2 : cO ≤ maxLen) (a3 : zs.length = cO * 1) (e1 : xs = ps.flatMap ptW) (e2 : li = ps.map inQ) (e3 : lo.set i l = ps.map ouQ) (e4 : n1 = ps.length) (e5 : n2 = ps.length) (e6 : n3 = ps.length) [k : Ent R6 B] : Ent A (rpH p ps :: B) := by
  have e : A.Perm (pt p (cob [.slice aP n1 cP, .slice aI n2 cI, .slice (some ⟨g, 0, none⟩) n3 cO] 174) :: osl 125 2 (.slice aP n1 cP) xs :: ssH (.slice aI n2 cI) li :: pt g (cob zs 50) :: osl 9 1 vi ys :: kH 3 (grp (((vs.zip lo).map inL).eraseIdx i)) :: R6) :=
    h1.perm.trans ((h2.perm.trans ((h3.perm.trans ((h4.perm.trans ((h5.perm.trans (h6.perm.cons _)).cons _)).cons _)).cons _)).cons _)
  have e7 : Ent (pt g (cob zs 50) :: osl 9 1 vi ys :: kH 3 (grp (((vs.zip lo).map inL).eraseIdx i)) :: R6) (ssH (.slice (some ⟨g, 0, none⟩) n3 cO) (lo.set i l) :: B) := ent_ssN hz hy hv a0 hi a1 a2 a3
  exact (Ent.ofPerm e).trans ((Ent.cons (Ent.cons (Ent.cons e7))).trans (ent_rp e1 e2 e3 e4 e5 e6))
theorem ent_rpI {g i n1 n2 n3 : Nat} {xs zs ys vs sp : List Value} {vi : Value} {l : List ByteArray} {li lo : List (List ByteArray)} {aP aO : Option Addr} {cP cI cO : Nat} [h1 : Tk pt p A (cob [.slice aP n1 cP, .slice (some ⟨g, 0, none⟩) n2 cI, .slice aO n3 cO] 174) R1] [h2 : Tk (osl 125 2) (.slice aP n1 cP) R1 xs R2] [h3 : Tk ssH (.slice aO n3 cO) R2 lo R3] [h4 : Tk pt g R3 (cob zs 50) R4] [h5 : Tk (osl 9 1) vi R4 ys R5] [h6 : Tk kH 3 R5 (grp (((vs.zip li).map inL).eraseIdx i)) R6]
    (hz : zs = vs.set i vi ++ sp) (hy : ys = strs l) (hv : vs.length = li.length) (hi : i < li.length) (a0 : n2 = li.length) (a1 : n2 ≤ cI) (a2 : cI ≤ maxLen) (a3 : zs.length = cI * 1) (e1 : xs = ps.flatMap ptW) (e2 : li.set i l = ps.map inQ) (e3 : lo = ps.map ouQ) (e4 : n1 = ps.length) (e5 : n2 = ps.length) (e6 : n3 = ps.length) [k : Ent R6 B] : Ent A (rpH p ps :: B) := by
  have e : A.Perm (pt p (cob [.slice aP n1 cP, .slice (some ⟨g, 0, none⟩) n2 cI, .slice aO n3 cO] 174) :: osl 125 2 (.slice aP n1 cP) xs :: ssH (.slice aO n3 cO) lo :: pt g (cob zs 50) :: osl 9 1 vi ys :: kH 3 (grp (((vs.zip li).map inL).eraseIdx i)) :: R6) :=
    h1.perm.trans ((h2.perm.trans ((h3.perm.trans ((h4.perm.trans ((h5.perm.trans (h6.perm.cons _)).cons _)).cons _)).cons _)).cons _)
  have e7 : Ent (pt g (cob zs 50) :: osl 9 1 vi ys :: kH 3 (grp (((vs.zip li).map inL).eraseIdx i)) :: R6) (ssH (.slice (some ⟨g, 0, none⟩) n2 cI) (li.set i l) :: B) := ent_ssN hz hy hv a0 hi a1 a2 a3
  exact (Ent.ofPerm e).trans ((Ent.cons (Ent.cons (Ent.cons e7))).trans (ent_rp e1 e2 e3 e4 e5 e6))
theorem cells_row {α : Type} {E sz g c i : Nat} {f : α → List Value} {xs : List α} {x : α} {ys : List Value} [h : Tk (osl E sz) (.slice (some ⟨g, 0, none⟩) n c) A ys R] (hy : ys = xs.flatMap f) (hf : ∀ x, (f x).length = sz) (hz : 0 < sz) (hx : xs[i]? = some x) : Cells (OwnP W0 A) g (i * sz) (f x) := by
  obtain ⟨b, off, e1, hc⟩ := sla_cells (S := OwnP W0 A) (a := some ⟨g, 0, none⟩) (.inr ⟨g, rfl⟩) (cells_osl (E := E) (sz := sz) (n := n) (c := c) (ys := ys)) hf hy hz i x hx
  cases e1
  rw [Nat.zero_add] at hc; exact hc
end
theorem ps_get {ps : List Prt} {i : Nat} (hi : i < ps.length) : ps[i]? = some (ps.getD i default) := by simp [List.getD, hi]
theorem pt_rows {ps : List Prt} {i : Nat} {l : List ByteArray} : (ps.set i { ps.getD i default with l := l }).flatMap ptW = ps.flatMap ptW := by
  rcases Nat.lt_or_ge i ps.length with hi | hi
  · have : (ps.set i { ps.getD i default with l := l }).map ptW = ps.map ptW := by
      rw [List.map_set]
      have e : ptW { ps.getD i default with l := l } = ptW (ps.getD i default) := rfl
      rw [e, show ps.getD i default = ps[i] by simp [List.getD, hi], ← List.map_set, List.set_getElem_self]
    rw [List.flatMap_def, List.flatMap_def, this]
  · rw [List.set_eq_of_length_le hi]
theorem map_same {α : Type} {f : Prt → α} {ps : List Prt} {i : Nat} {x : Prt} (h : f x = f (ps.getD i default)) : (ps.set i x).map f = ps.map f := by
  rcases Nat.lt_or_ge i ps.length with hi | hi
  · rw [List.map_set, h, show ps.getD i default = ps[i] by simp [List.getD, hi], ← List.map_set, List.set_getElem_self]
  · rw [List.set_eq_of_length_le hi]
theorem in_get {ps : List Prt} {i : Nat} (hi : i < ps.length) (hg : (ps.getD i default).gu ≠ -1) : (ps.map inQ).getD i [] = (ps.getD i default).l := by
  rw [show ps.getD i default = ps[i] by simp [List.getD, hi]] at hg ⊢
  simp [List.getD, hi, inQ, hg]
theorem ou_get {ps : List Prt} {i : Nat} (hi : i < ps.length) (hg : (ps.getD i default).gu = -1) : (ps.map ouQ).getD i [] = (ps.getD i default).l := by
  rw [show ps.getD i default = ps[i] by simp [List.getD, hi]] at hg ⊢
  simp [List.getD, hi, ouQ, hg]
theorem in_put {ps : List Prt} {i : Nat} {l : List ByteArray} (hg : (ps.getD i default).gu ≠ -1) : (ps.set i { ps.getD i default with l := l }).map inQ = (ps.map inQ).set i l ∧ (ps.set i { ps.getD i default with l := l }).map ouQ = ps.map ouQ := by
  refine ⟨?_, map_same ?_⟩
  · rw [List.map_set]; congr 1; exact if_neg hg
  · show (if (ps.getD i default).gu = -1 then l else []) = (if (ps.getD i default).gu = -1 then (ps.getD i default).l else [])
    rw [if_neg hg, if_neg hg]
theorem ou_put {ps : List Prt} {i : Nat} {l : List ByteArray} (hg : (ps.getD i default).gu = -1) : (ps.set i { ps.getD i default with l := l }).map ouQ = (ps.map ouQ).set i l ∧ (ps.set i { ps.getD i default with l := l }).map inQ = ps.map inQ := by
  refine ⟨?_, map_same ?_⟩
  · rw [List.map_set]; congr 1; exact if_pos hg
  · show (if (ps.getD i default).gu = -1 then [] else l) = (if (ps.getD i default).gu = -1 then [] else (ps.getD i default).l)
    rw [if_pos hg, if_pos hg]
theorem rpIs_spec (W0 : World) (R : List HP) (p n c : Nat) (a : Option Addr) (v1 v2 : Value) (i : Int) : Spec Tryz.prog W0 102 [.pointer (some ⟨p, 0, none⟩), .int .i64 i] (pt p (cob [.slice a n c, v1, v2] 174) :: R)
    (fun v B => v = .bool (decide (0 ≤ i ∧ i < n)) ∧ B = pt p (cob [.slice a n c, v1, v2] 174) :: R) := by
  refine spec_body Tryz.func102 Tryz.ntmps102 rfl rfl ?_
  refine x_seq (x_region (s_val rfl (v_assign rfl) (x_nil (n_then (x_seq (x_region (s_val rfl (v_move rfl) (s_val rfl (v_geq rfl rfl) (s_val rfl (v_move rfl) ?_)))))))))
  refine s_and rfl rfl rfl ?_ ?_
  · intro g1_3
    refine s_val rfl (v_move rfl) (s_yes rfl rfl (s_val rfl (v_move rfl) (s_yes rfl rfl (s_val rfl (v_nilCheck rfl) (s_yes rfl rfl ?_)))))
    refine s_val rfl (v_fieldAddr rfl Tryz.underlying174 rfl Tryz.sizeOf24 rfl (by first | exact Nat.zero_add _ | rfl)) ?_
    refine s_yes rfl rfl (s_val rfl (v_load Tryz.isAgg24 rfl (cell_own rfl)) ?_)
    refine s_yes rfl rfl (s_val rfl (v_len_slice Tryz.underlying24 rfl) (s_yes rfl rfl (s_val rfl (v_lss rfl rfl) (s_val rfl (v_pick_t rfl rfl) (s_val rfl (v_assign rfl) (x_nil (n_then (x_ret (x_done (.inl rfl) (.cons (r_tmp rfl) .nil) ?_)))))))))
    refine ⟨_, ⟨?_, rfl⟩, inferInstance⟩
    refine congrArg Value.bool ?_
    rw [Bool.eq_iff_iff, decide_eq_true_iff]
    first
      | (rw [decide_eq_true_iff]; constructor
         · intro q; omega
         · intro q; omega)
      | (constructor
         · intro q; first | omega | (cases q)
         · intro q; omega)
  · intro g1_3
    refine s_no rfl rfl rfl rfl (s_no rfl rfl rfl rfl (s_no rfl rfl rfl rfl (s_no rfl rfl rfl rfl (s_no rfl rfl rfl rfl (s_no rfl rfl rfl rfl (s_val rfl (v_pick_f rfl rfl) (s_val rfl (v_assign rfl) (x_nil (n_then (x_ret (x_done (.inl rfl) (.cons (r_tmp rfl) .nil) ?_)))))))))))
    refine ⟨_, ⟨?_, rfl⟩, inferInstance⟩
    refine congrArg Value.bool ?_
    rw [Bool.eq_iff_iff, decide_eq_true_iff]
    first
      | (rw [decide_eq_true_iff]; constructor
         · intro q; omega
         · intro q; omega)
      | (constructor
         · intro q; first | omega | (cases q)
         · intro q; omega)
theorem rpSend_spec (W0 : World) (R : List HP) (p : Nat) (ps : List Prt) (hok : PrOk ps) (f t : Int) (s : ByteArray) (hsz : s.size < 9223372036854775808) :
    Spec Tryz.prog W0 111 [.pointer (some ⟨p, 0, none⟩), .int .i64 f, .int .i64 t, sV s] (rpH p ps :: R) (fun v B => v = .tuple #[] ∧ B = rpH p (sndP ps f t s) :: R) := by
  by_cases h : inR ps f = true ∧ inR ps t = true
  · obtain ⟨hf, ht⟩ := h
    obtain ⟨i, rfl, hi⟩ : ∃ i : Nat, f = (i : Int) ∧ i < ps.length := ⟨f.toNat, by have := inR_iff.1 hf; omega, by have := inR_iff.1 hf; omega⟩
    obtain ⟨j, rfl, hj⟩ : ∃ j : Nat, t = (j : Int) ∧ j < ps.length := ⟨t.toNat, by have := inR_iff.1 ht; omega, by have := inR_iff.1 ht; omega⟩
    have hlj := hok.at_ hj
    have hmj := mostP_le (ps.getD j default)
    have hX1 : ¬ s.size ≤ 32 → sndP ps i j s = ps := fun q => by rw [sndP, sndB, decide_eq_false q]; simp
    have hX2 : ¬ flB (ps.getD i default).lab (ps.getD j default).lab = true → sndP ps i j s = ps := fun q => by
      have : sndB ps i j s = false := by
        rw [← Bool.not_eq_true]; intro k
        simp only [sndB, Bool.and_eq_true] at k
        exact q k.2
      rw [sndP, this, if_neg (by decide)]
    have hX3 : s.size ≤ 32 → flB (ps.getD i default).lab (ps.getD j default).lab = true → sndP ps i j s = ps.set j (putPr (ps.getD j default) s) := fun q1 q2 => by
      have : sndB ps i j s = true := by
        simp only [sndB, Bool.and_eq_true, decide_eq_true_iff]
        exact ⟨⟨⟨hf, ht⟩, q1⟩, q2⟩
      rw [sndP, if_pos this]; rfl
    have hfull : mostP (ps.getD j default) ≤ (ps.getD j default).l.length → putPr (ps.getD j default) s = ps.getD j default := fun q => by rw [putPr, if_pos (by rw [fullP, decide_eq_true q])]
    have hroom : ¬ mostP (ps.getD j default) ≤ (ps.getD j default).l.length → putPr (ps.getD j default) s = { ps.getD j default with l := (ps.getD j default).l ++ [s] } := fun q => by rw [putPr, if_neg (by rw [fullP, decide_eq_false q]; decide)]
    have hml : mostP (ps.getD j default) = if (ps.getD j default).gu = -1 then 64 else 4 := rfl
    refine spec_body Tryz.func111 Tryz.ntmps111 rfl rfl ?_
    refine x_seq (x_seq ?_)
    refine run_rp (p := p) fun aP cP aI cI aO cO => ?_
    refine run_form (E := 125) (sz := 2) (a := aP) (c := cP) (n := ps.length) (ys := ps.flatMap ptW) (fun hfP => ?_)
    obtain ⟨gP, rfl⟩ := form_some hfP (by rw [← List.length_pos_iff, flat_len (f := ptW) (k := 2) (fun _ => rfl)]; omega)
    refine x_draw [(p, 0, _), (gP, i * 2, ptW (ps.getD i default)), (gP, j * 2, ptW (ps.getD j default))] 35 mixed rfl (sc_own (sc_cons (cells_row (f := ptW) (E := 125) (sz := 2) (n := ps.length) (c := cP) rfl (fun _ => rfl) (by decide) (ps_get hi)) (sc_cons (cells_row (f := ptW) (E := 125) (sz := 2) (n := ps.length) (c := cP) rfl (fun _ => rfl) (by decide) (ps_get hj)) sc_end))) (fun hS => ?_)
    refine d_take 0 rfl rfl (by kernel_rfl) (by kernel_rfl) (by kernel_rfl) rfl hS (v_move rfl) ?_
    refine d_take 1 rfl rfl (by kernel_rfl) (by kernel_rfl) (by kernel_rfl) rfl hS (v_move rfl) ?_
    refine d_one 2 (by kernel_rfl) rfl rfl (d_call1 Tryz.call102 rfl (rpIs_spec W0 _ p ps.length cP (some ⟨gP, 0, none⟩) _ _ (i : Int))) rfl ?_; clear hS
    rintro _ B_ ⟨rfl, hB_⟩
    obtain rfl := hB_.symm
    rw [decide_eq_true (show 0 ≤ (i : Int) ∧ (i : Int) < ps.length by omega)]
    refine ⟨(sc_own (sc_cons (cells_row (f := ptW) (E := 125) (sz := 2) (n := ps.length) (c := cP) rfl (fun _ => rfl) (by decide) (ps_get hi)) (sc_cons (cells_row (f := ptW) (E := 125) (sz := 2) (n := ps.length) (c := cP) rfl (fun _ => rfl) (by decide) (ps_get hj)) sc_end))), fun hS => ?_⟩
    refine d_take 3 rfl rfl (by kernel_rfl) (by kernel_rfl) (by kernel_rfl) rfl hS (v_not rfl) ?_
    refine d_take 4 rfl rfl (by kernel_rfl) (by kernel_rfl) (by kernel_rfl) rfl hS (v_move rfl) ?_
    refine x_split (t := 12) rfl ?_ ?_
    · intro g0_5
      exact absurd rfl g0_5
    · intro g0_5
      refine d_take 5 rfl rfl (by kernel_rfl) (by kernel_rfl) (by kernel_rfl) rfl hS (v_move rfl) ?_
      refine d_take 6 rfl rfl (by kernel_rfl) (by kernel_rfl) (by kernel_rfl) rfl hS (v_move rfl) ?_
      refine d_one 7 (by kernel_rfl) rfl rfl (d_call1 Tryz.call102 rfl (rpIs_spec W0 _ p ps.length cP (some ⟨gP, 0, none⟩) _ _ (j : Int))) rfl ?_; clear hS
      rintro _ B_ ⟨rfl, hB_⟩
      obtain rfl := hB_.symm
      rw [decide_eq_true (show 0 ≤ (j : Int) ∧ (j : Int) < ps.length by omega)]
      refine ⟨(sc_own (sc_cons (cells_row (f := ptW) (E := 125) (sz := 2) (n := ps.length) (c := cP) rfl (fun _ => rfl) (by decide) (ps_get hi)) (sc_cons (cells_row (f := ptW) (E := 125) (sz := 2) (n := ps.length) (c := cP) rfl (fun _ => rfl) (by decide) (ps_get hj)) sc_end))), fun hS => ?_⟩
      refine d_take 8 rfl rfl (by kernel_rfl) (by kernel_rfl) (by kernel_rfl) rfl hS (v_not rfl) ?_
      refine d_take 9 rfl rfl (by kernel_rfl) (by kernel_rfl) (by kernel_rfl) rfl hS (v_pick_f rfl rfl) ?_
      refine d_take 10 rfl rfl (by kernel_rfl) (by kernel_rfl) (by kernel_rfl) rfl hS (v_move rfl) ?_
      refine x_split (t := 18) rfl ?_ ?_
      · intro g0_11
        exact absurd rfl g0_11
      · intro g0_11
        refine d_take 11 rfl rfl (by kernel_rfl) (by kernel_rfl) (by kernel_rfl) rfl hS (v_move rfl) ?_
        refine d_take 12 rfl rfl (by kernel_rfl) (by kernel_rfl) (by kernel_rfl) rfl hS (v_len_string Tryz.underlying9 rfl) ?_
        refine d_take 13 rfl rfl (by kernel_rfl) (by kernel_rfl) (by kernel_rfl) rfl hS (v_gtr rfl rfl) ?_
        refine d_take 14 rfl rfl (by kernel_rfl) (by kernel_rfl) (by kernel_rfl) rfl hS (v_pick_f rfl rfl) ?_
        refine d_take 15 rfl rfl (by kernel_rfl) (by kernel_rfl) (by kernel_rfl) rfl hS (v_move rfl) ?_
        refine x_split (t := 23) rfl ?_ ?_
        · intro g0_16
          refine d_skip 16 rfl rfl (by kernel_rfl) (by kernel_rfl) (by kernel_rfl) rfl hS ?_
          refine d_skip 17 rfl rfl (by kernel_rfl) (by kernel_rfl) (by kernel_rfl) rfl hS ?_
          refine d_skip 18 rfl rfl (by kernel_rfl) (by kernel_rfl) (by kernel_rfl) rfl hS ?_
          refine d_skip 19 rfl rfl (by kernel_rfl) (by kernel_rfl) (by kernel_rfl) rfl hS ?_
          refine d_skip 20 rfl rfl (by kernel_rfl) (by kernel_rfl) (by kernel_rfl) rfl hS ?_
          refine d_skip 21 rfl rfl (by kernel_rfl) (by kernel_rfl) (by kernel_rfl) rfl hS ?_
          refine d_skip 22 rfl rfl (by kernel_rfl) (by kernel_rfl) (by kernel_rfl) rfl hS ?_
          refine d_skip 23 rfl rfl (by kernel_rfl) (by kernel_rfl) (by kernel_rfl) rfl hS ?_
          refine d_skip 24 rfl rfl (by kernel_rfl) (by kernel_rfl) (by kernel_rfl) rfl hS ?_
          refine d_skip 25 rfl rfl (by kernel_rfl) (by kernel_rfl) (by kernel_rfl) rfl hS ?_
          refine d_skip 26 rfl rfl (by kernel_rfl) (by kernel_rfl) (by kernel_rfl) rfl hS ?_
          refine d_skip 27 rfl rfl (by kernel_rfl) (by kernel_rfl) (by kernel_rfl) rfl hS ?_
          refine d_skip 28 rfl rfl (by kernel_rfl) (by kernel_rfl) (by kernel_rfl) rfl hS ?_
          refine d_skip 29 rfl rfl (by kernel_rfl) (by kernel_rfl) (by kernel_rfl) rfl hS ?_
          refine d_skip 30 rfl rfl (by kernel_rfl) (by kernel_rfl) (by kernel_rfl) rfl hS ?_
          refine d_skip 31 rfl rfl (by kernel_rfl) (by kernel_rfl) (by kernel_rfl) rfl hS ?_
          refine d_skip 32 rfl rfl (by kernel_rfl) (by kernel_rfl) (by kernel_rfl) rfl hS ?_
          refine d_skip 33 rfl rfl (by kernel_rfl) (by kernel_rfl) (by kernel_rfl) rfl hS ?_
          refine d_take 34 rfl rfl (by kernel_rfl) (by kernel_rfl) (by kernel_rfl) rfl hS (v_pick_t rfl rfl) ?_
          refine d_done (by kernel_rfl) ?_; clear hS
          refine n_then (x_ift rfl (x_ret (r_then (x_done (.inl rfl) .nil ?_))))
          first
            | (rw [hX2 (by simpa using c0)]; exact ⟨_, ⟨rfl, rfl⟩, ent_rp rfl rfl rfl rfl rfl rfl⟩)
            | (rw [hX1 (by omega)]; exact ⟨_, ⟨rfl, rfl⟩, ent_rp rfl rfl rfl rfl rfl rfl⟩)
        · intro g0_16
          refine d_take 16 rfl rfl (by kernel_rfl) (by kernel_rfl) (by kernel_rfl) rfl hS (v_move rfl) ?_
          refine d_take 17 rfl rfl (by kernel_rfl) (by kernel_rfl) (by kernel_rfl) rfl hS (v_nilCheck rfl) ?_
          refine d_take 18 rfl rfl (by kernel_rfl) (by kernel_rfl) (by kernel_rfl) rfl hS (v_fieldAddr rfl Tryz.underlying174 rfl Tryz.sizeOf24 rfl (by first | exact Nat.zero_add _ | rfl)) ?_
          refine d_take 19 rfl rfl (by kernel_rfl) (by kernel_rfl) (by kernel_rfl) rfl hS (v_load Tryz.isAgg24 rfl (by first | exact cell_sc0 (k := 0) rfl rfl | exact cell_sc0 (k := 1) rfl rfl | exact cell_sc0 (k := 2) rfl rfl | exact cell_sc0 (k := 3) rfl rfl | exact cell_sc0 (k := 4) rfl rfl)) ?_
          refine d_take 20 rfl rfl (by kernel_rfl) (by kernel_rfl) (by kernel_rfl) rfl hS (v_move rfl) ?_
          refine d_take 21 rfl rfl (by kernel_rfl) (by kernel_rfl) (by kernel_rfl) rfl hS (v_idx Tryz.underlying24 Tryz.sizeOf125 rfl rfl rfl hi (by first | exact Nat.zero_add _ | rfl)) ?_
          refine d_take 22 rfl rfl (by kernel_rfl) (by kernel_rfl) (by kernel_rfl) rfl hS (v_fieldAddr rfl Tryz.underlying125 rfl Tryz.sizeOf3 rfl (by first | exact Nat.zero_add _ | rfl)) ?_
          refine d_take 23 rfl rfl (by kernel_rfl) (by kernel_rfl) (by kernel_rfl) rfl hS (v_load Tryz.isAgg3 rfl (cell_sc (k := 1) (j := 0) rfl rfl)) ?_
          refine d_take 24 rfl rfl (by kernel_rfl) (by kernel_rfl) (by kernel_rfl) rfl hS (v_move rfl) ?_
          refine d_take 25 rfl rfl (by kernel_rfl) (by kernel_rfl) (by kernel_rfl) rfl hS (v_nilCheck rfl) ?_
          refine d_take 26 rfl rfl (by kernel_rfl) (by kernel_rfl) (by kernel_rfl) rfl hS (v_fieldAddr rfl Tryz.underlying174 rfl Tryz.sizeOf24 rfl (by first | exact Nat.zero_add _ | rfl)) ?_
          refine d_take 27 rfl rfl (by kernel_rfl) (by kernel_rfl) (by kernel_rfl) rfl hS (v_load Tryz.isAgg24 rfl (by first | exact cell_sc0 (k := 0) rfl rfl | exact cell_sc0 (k := 1) rfl rfl | exact cell_sc0 (k := 2) rfl rfl | exact cell_sc0 (k := 3) rfl rfl | exact cell_sc0 (k := 4) rfl rfl)) ?_
          refine d_take 28 rfl rfl (by kernel_rfl) (by kernel_rfl) (by kernel_rfl) rfl hS (v_move rfl) ?_
          refine d_take 29 rfl rfl (by kernel_rfl) (by kernel_rfl) (by kernel_rfl) rfl hS (v_idx Tryz.underlying24 Tryz.sizeOf125 rfl rfl rfl hj (by first | exact Nat.zero_add _ | rfl)) ?_
          refine d_take 30 rfl rfl (by kernel_rfl) (by kernel_rfl) (by kernel_rfl) rfl hS (v_fieldAddr rfl Tryz.underlying125 rfl Tryz.sizeOf3 rfl (by first | exact Nat.zero_add _ | rfl)) ?_
          refine d_take 31 rfl rfl (by kernel_rfl) (by kernel_rfl) (by kernel_rfl) rfl hS (v_load Tryz.isAgg3 rfl (cell_sc (k := 2) (j := 0) rfl rfl)) ?_
          refine d_one 32 (by kernel_rfl) rfl rfl (d_call Tryz.call62 rfl (rlFlows_spec W0 _ (ps.getD i default).lab (ps.getD j default).lab)) rfl ?_; clear hS
          rintro _ B_ ⟨rfl, hB_⟩
          obtain rfl := hB_.symm
          refine ⟨(sc_own (sc_cons (cells_row (f := ptW) (E := 125) (sz := 2) (n := ps.length) (c := cP) rfl (fun _ => rfl) (by decide) (ps_get hi)) (sc_cons (cells_row (f := ptW) (E := 125) (sz := 2) (n := ps.length) (c := cP) rfl (fun _ => rfl) (by decide) (ps_get hj)) sc_end))), fun hS => ?_⟩
          refine d_take 33 rfl rfl (by kernel_rfl) (by kernel_rfl) (by kernel_rfl) rfl hS (v_not rfl) ?_
          refine d_take 34 rfl rfl (by kernel_rfl) (by kernel_rfl) (by kernel_rfl) rfl hS (v_pick_f rfl rfl) ?_
          refine d_done (by kernel_rfl) ?_; clear hS
          refine n_then ?_
          refine x_if rfl ?_ ?_
          · intro c0
            refine x_ret (r_then (x_done (.inl rfl) .nil ?_))
            first
              | (rw [hX2 (by simpa using c0)]; exact ⟨_, ⟨rfl, rfl⟩, ent_rp rfl rfl rfl rfl rfl rfl⟩)
              | (rw [hX1 (by omega)]; exact ⟨_, ⟨rfl, rfl⟩, ent_rp rfl rfl rfl rfl rfl rfl⟩)
          · intro c0
            have hs32 : s.size ≤ 32 := by omega
            have hfl : flB (ps.getD i default).lab (ps.getD j default).lab = true := by simpa using c0
            refine x_skip (n_then (x_seq (x_seq (x_region (s_val rfl (v_move rfl) (s_val rfl (v_nilCheck rfl) ?_))))))
            refine s_val rfl (v_fieldAddr rfl Tryz.underlying174 rfl Tryz.sizeOf24 rfl (by first | exact Nat.zero_add _ | rfl)) ?_
            refine s_val rfl (v_load Tryz.isAgg24 rfl (cell_own rfl)) ?_
            refine s_val rfl (v_move rfl) ?_
            refine s_val rfl (v_idx Tryz.underlying24 Tryz.sizeOf125 rfl rfl rfl hj (by first | exact Nat.zero_add _ | rfl)) ?_
            refine s_val rfl (v_fieldAddr rfl Tryz.underlying125 rfl Tryz.sizeOf3 rfl (by first | exact Nat.zero_add _ | rfl)) ?_
            refine s_val rfl (v_load Tryz.isAgg3 rfl (cells_row (f := ptW) (E := 125) (sz := 2) (n := ps.length) (c := cP) rfl (fun _ => rfl) (by decide) (ps_get hj) 1 _ rfl)) ?_
            refine s_val rfl (v_eql rfl rfl) (x_nil (n_then ?_))
            refine x_if rfl ?_ ?_
            · intro c1
              have hgO := ou_get hj c1
              refine x_seq (x_seq ?_)
              refine run_ssN (a := aO) (n := ps.length) (c := cO) (ls := ps.map ouQ) (i := j) (by simpa using hj) (fun gO sp vs ai ci hag hn hv hvi h1 h2 h3 => ?_)
              subst hag
              rw [hgO] at hvi ⊢
              have hvl : vs.length = ps.length := by simpa using hv
              refine x_region (s_val rfl (v_move rfl) (s_val rfl (v_nilCheck rfl) ?_))
              refine s_val rfl (v_fieldAddr rfl Tryz.underlying174 rfl Tryz.sizeOf172 rfl (by first | exact Nat.zero_add _ | rfl)) ?_
              refine s_val rfl (v_load Tryz.isAgg172 rfl (cell_own rfl)) ?_
              refine s_val rfl (v_move rfl) ?_
              refine s_val rfl (v_idx Tryz.underlying172 Tryz.sizeOf50 rfl rfl rfl hj (by first | exact Nat.zero_add _ | rfl)) ?_
              refine s_val rfl (v_load Tryz.isAgg50 rfl (cell_own (ss_cell hvi))) ?_
              refine s_val rfl (v_len_slice Tryz.underlying50 rfl) (s_val rfl (v_lss rfl rfl) (x_nil (n_then ?_)))
              refine x_if rfl ?_ ?_
              · intro c2
                refine x_draw [(p, 0, _)] 17 mixed rfl (sc_own sc_end) (fun hS => ?_)
                refine d_take 0 rfl rfl (by kernel_rfl) (by kernel_rfl) (by kernel_rfl) rfl hS (v_move rfl) ?_
                refine d_take 1 rfl rfl (by kernel_rfl) (by kernel_rfl) (by kernel_rfl) rfl hS (v_nilCheck rfl) ?_
                refine d_take 2 rfl rfl (by kernel_rfl) (by kernel_rfl) (by kernel_rfl) rfl hS (v_fieldAddr rfl Tryz.underlying174 rfl Tryz.sizeOf172 rfl (by first | exact Nat.zero_add _ | rfl)) ?_
                refine d_take 3 rfl rfl (by kernel_rfl) (by kernel_rfl) (by kernel_rfl) rfl hS (v_load Tryz.isAgg172 rfl (cell_sc0 (k := 0) rfl rfl)) ?_
                refine d_take 4 rfl rfl (by kernel_rfl) (by kernel_rfl) (by kernel_rfl) rfl hS (v_move rfl) ?_
                refine d_take 5 rfl rfl (by kernel_rfl) (by kernel_rfl) (by kernel_rfl) rfl hS (v_move rfl) ?_
                refine d_take 6 rfl rfl (by kernel_rfl) (by kernel_rfl) (by kernel_rfl) rfl hS (v_nilCheck rfl) ?_
                refine d_take 7 rfl rfl (by kernel_rfl) (by kernel_rfl) (by kernel_rfl) rfl hS (v_fieldAddr rfl Tryz.underlying174 rfl Tryz.sizeOf172 rfl (by first | exact Nat.zero_add _ | rfl)) ?_
                refine d_take 8 rfl rfl (by kernel_rfl) (by kernel_rfl) (by kernel_rfl) rfl hS (v_load Tryz.isAgg172 rfl (cell_sc0 (k := 0) rfl rfl)) ?_
                refine d_take 9 rfl rfl (by kernel_rfl) (by kernel_rfl) (by kernel_rfl) rfl hS (v_move rfl) ?_
                refine d_take 10 rfl rfl (by kernel_rfl) (by kernel_rfl) (by kernel_rfl) rfl hS (v_idx Tryz.underlying172 Tryz.sizeOf50 rfl rfl rfl hj (by first | exact Nat.zero_add _ | rfl)) ?_
                refine d_take 12 rfl rfl (by kernel_rfl) (by kernel_rfl) (by kernel_rfl) rfl hS (v_move rfl) ?_
                refine d_all (is := [11, 13]) (by kernel_rfl) rfl ⟨?_, ?_, trivial⟩
                · skip
                  refine dx_one rfl rfl (d_val (v_load Tryz.isAgg50 rfl (cell_own (ss_cell hvi)))) rfl ?_; clear hS
                  rintro _ _ ⟨rfl, rfl⟩
                  refine ⟨(sc_own sc_end), fun hS => ?_⟩
                  refine d_one 13 (by kernel_rfl) rfl rfl (d_sliceLit Tryz.underlying50 Tryz.sizeOf9 Tryz.zeroValue9 rfl rfl rfl rfl rfl (by decide) (by decide)) rfl ?_; clear hS
                  rintro _ _ ⟨bq, rfl, rfl⟩
                  refine ⟨(sc_own sc_end), fun hS => ?_⟩
                  refine d_one 14 (by kernel_rfl) rfl rfl (d_append (sz := 1) (by_ := 16) (info := Tryz.t9) Tryz.underlying50 (by kernel_rfl) rfl rfl rfl rfl (by decide) rfl rfl cells_all rfl rfl (by simp only [maxLen]; omega) (by omega)) rfl ?_; clear hS
                  rintro _ _ ⟨a9, k9, rfl, rfl⟩
                  refine ⟨(sc_own sc_end), fun hS => ?_⟩
                  refine d_take 15 rfl rfl (by kernel_rfl) (by kernel_rfl) (by kernel_rfl) rfl hS (v_idx Tryz.underlying172 Tryz.sizeOf50 rfl rfl rfl hj (by first | exact Nat.zero_add _ | rfl)) ?_
                  refine d_one 16 (by kernel_rfl) rfl rfl (d_store Tryz.sizeOf50 rfl rfl rfl (by rw [h3]; omega) rfl) rfl ?_; clear hS
                  rintro _ _ rfl
                  refine ⟨(sc_own sc_end), fun hS => ?_⟩
                  refine d_done (by kernel_rfl) ?_; clear hS
                  refine n_then (x_ret (r_then (x_done (.inl rfl) .nil ?_)))
                  rw [hX3 hs32 hfl, hroom (by rw [hml, if_pos c1]; omega)]
                  exact ⟨_, ⟨rfl, rfl⟩, ent_rpO (i := j) (vs := vs) (sp := sp) (vi := .slice a9 ((ps.getD j default).l.length + 1) k9) (l := (ps.getD j default).l ++ [s]) (lo := ps.map ouQ) (ss_put (by omega)) (by rw [strs_append]; rfl) hv (by simpa using hj) hn h1 h2 (by rw [List.length_set]; exact h3) pt_rows.symm (ou_put c1).2.symm (ou_put c1).1.symm (by simp) (by simp) (by simp)⟩
                · skip
                  refine dx_one rfl rfl (d_sliceLit Tryz.underlying50 Tryz.sizeOf9 Tryz.zeroValue9 rfl rfl rfl rfl rfl (by decide) (by decide)) rfl ?_; clear hS
                  rintro _ _ ⟨bq, rfl, rfl⟩
                  refine ⟨(sc_own sc_end), fun hS => ?_⟩
                  refine d_one 11 (by kernel_rfl) rfl rfl (d_val (v_load Tryz.isAgg50 rfl (cell_own (ss_cell hvi)))) rfl ?_; clear hS
                  rintro _ _ ⟨rfl, rfl⟩
                  refine ⟨(sc_own sc_end), fun hS => ?_⟩
                  refine d_one 14 (by kernel_rfl) rfl rfl (d_append (sz := 1) (by_ := 16) (info := Tryz.t9) Tryz.underlying50 (by kernel_rfl) rfl rfl rfl rfl (by decide) rfl rfl cells_all rfl rfl (by simp only [maxLen]; omega) (by omega)) rfl ?_; clear hS
                  rintro _ _ ⟨a9, k9, rfl, rfl⟩
                  refine ⟨(sc_own sc_end), fun hS => ?_⟩
                  refine d_take 15 rfl rfl (by kernel_rfl) (by kernel_rfl) (by kernel_rfl) rfl hS (v_idx Tryz.underlying172 Tryz.sizeOf50 rfl rfl rfl hj (by first | exact Nat.zero_add _ | rfl)) ?_
                  refine d_one 16 (by kernel_rfl) rfl rfl (d_store Tryz.sizeOf50 rfl rfl rfl (by rw [h3]; omega) rfl) rfl ?_; clear hS
                  rintro _ _ rfl
                  refine ⟨(sc_own sc_end), fun hS => ?_⟩
                  refine d_done (by kernel_rfl) ?_; clear hS
                  refine n_then (x_ret (r_then (x_done (.inl rfl) .nil ?_)))
                  rw [hX3 hs32 hfl, hroom (by rw [hml, if_pos c1]; omega)]
                  exact ⟨_, ⟨rfl, rfl⟩, ent_rpO (i := j) (vs := vs) (sp := sp) (vi := .slice a9 ((ps.getD j default).l.length + 1) k9) (l := (ps.getD j default).l ++ [s]) (lo := ps.map ouQ) (ss_put (by omega)) (by rw [strs_append]; rfl) hv (by simpa using hj) hn h1 h2 (by rw [List.length_set]; exact h3) pt_rows.symm (ou_put c1).2.symm (ou_put c1).1.symm (by simp) (by simp) (by simp)⟩
              · intro c2
                refine x_skip (n_then (x_ret (r_then (x_done (.inl rfl) .nil ?_))))
                rw [hX3 hs32 hfl, hfull (by rw [hml, if_pos c1]; omega), ps_self hj]
                exact ⟨_, ⟨rfl, rfl⟩, ent_rpO (ps := ps) (i := j) (vs := vs) (sp := sp) (vi := .slice ai (ps.getD j default).l.length ci) (l := (ps.getD j default).l) (lo := ps.map ouQ) (by rw [vs_self hvi]) rfl hv (by simpa using hj) hn h1 h2 h3 rfl rfl (by rw [← hgO]; exact ss_self (by simpa using hj)) rfl rfl rfl⟩
            · intro c1
              have hgI := in_get hj c1
              refine x_skip (n_then (x_seq ?_))
              refine run_ssN (a := aI) (n := ps.length) (c := cI) (ls := ps.map inQ) (i := j) (by simpa using hj) (fun gO sp vs ai ci hag hn hv hvi h1 h2 h3 => ?_)
              subst hag
              rw [hgI] at hvi ⊢
              have hvl : vs.length = ps.length := by simpa using hv
              refine x_region (s_val rfl (v_move rfl) (s_val rfl (v_nilCheck rfl) ?_))
              refine s_val rfl (v_fieldAddr rfl Tryz.underlying174 rfl Tryz.sizeOf172 rfl (by first | exact Nat.zero_add _ | rfl)) ?_
              refine s_val rfl (v_load Tryz.isAgg172 rfl (cell_own rfl)) ?_
              refine s_val rfl (v_move rfl) ?_
              refine s_val rfl (v_idx Tryz.underlying172 Tryz.sizeOf50 rfl rfl rfl hj (by first | exact Nat.zero_add _ | rfl)) ?_
              refine s_val rfl (v_load Tryz.isAgg50 rfl (cell_own (ss_cell hvi))) ?_
              refine s_val rfl (v_len_slice Tryz.underlying50 rfl) (s_val rfl (v_lss rfl rfl) (x_nil (n_then ?_)))
              refine x_if rfl ?_ ?_
              · intro c4
                refine x_draw [(p, 0, _)] 17 mixed rfl (sc_own sc_end) (fun hS => ?_)
                refine d_take 0 rfl rfl (by kernel_rfl) (by kernel_rfl) (by kernel_rfl) rfl hS (v_move rfl) ?_
                refine d_take 1 rfl rfl (by kernel_rfl) (by kernel_rfl) (by kernel_rfl) rfl hS (v_nilCheck rfl) ?_
                refine d_take 2 rfl rfl (by kernel_rfl) (by kernel_rfl) (by kernel_rfl) rfl hS (v_fieldAddr rfl Tryz.underlying174 rfl Tryz.sizeOf172 rfl (by first | exact Nat.zero_add _ | rfl)) ?_
                refine d_take 3 rfl rfl (by kernel_rfl) (by kernel_rfl) (by kernel_rfl) rfl hS (v_load Tryz.isAgg172 rfl (cell_sc0 (k := 0) rfl rfl)) ?_
                refine d_take 4 rfl rfl (by kernel_rfl) (by kernel_rfl) (by kernel_rfl) rfl hS (v_move rfl) ?_
                refine d_take 5 rfl rfl (by kernel_rfl) (by kernel_rfl) (by kernel_rfl) rfl hS (v_move rfl) ?_
                refine d_take 6 rfl rfl (by kernel_rfl) (by kernel_rfl) (by kernel_rfl) rfl hS (v_nilCheck rfl) ?_
                refine d_take 7 rfl rfl (by kernel_rfl) (by kernel_rfl) (by kernel_rfl) rfl hS (v_fieldAddr rfl Tryz.underlying174 rfl Tryz.sizeOf172 rfl (by first | exact Nat.zero_add _ | rfl)) ?_
                refine d_take 8 rfl rfl (by kernel_rfl) (by kernel_rfl) (by kernel_rfl) rfl hS (v_load Tryz.isAgg172 rfl (cell_sc0 (k := 0) rfl rfl)) ?_
                refine d_take 9 rfl rfl (by kernel_rfl) (by kernel_rfl) (by kernel_rfl) rfl hS (v_move rfl) ?_
                refine d_take 10 rfl rfl (by kernel_rfl) (by kernel_rfl) (by kernel_rfl) rfl hS (v_idx Tryz.underlying172 Tryz.sizeOf50 rfl rfl rfl hj (by first | exact Nat.zero_add _ | rfl)) ?_
                refine d_take 12 rfl rfl (by kernel_rfl) (by kernel_rfl) (by kernel_rfl) rfl hS (v_move rfl) ?_
                refine d_all (is := [11, 13]) (by kernel_rfl) rfl ⟨?_, ?_, trivial⟩
                · skip
                  refine dx_one rfl rfl (d_val (v_load Tryz.isAgg50 rfl (cell_own (ss_cell hvi)))) rfl ?_; clear hS
                  rintro _ _ ⟨rfl, rfl⟩
                  refine ⟨(sc_own sc_end), fun hS => ?_⟩
                  refine d_one 13 (by kernel_rfl) rfl rfl (d_sliceLit Tryz.underlying50 Tryz.sizeOf9 Tryz.zeroValue9 rfl rfl rfl rfl rfl (by decide) (by decide)) rfl ?_; clear hS
                  rintro _ _ ⟨bq, rfl, rfl⟩
                  refine ⟨(sc_own sc_end), fun hS => ?_⟩
                  refine d_one 14 (by kernel_rfl) rfl rfl (d_append (sz := 1) (by_ := 16) (info := Tryz.t9) Tryz.underlying50 (by kernel_rfl) rfl rfl rfl rfl (by decide) rfl rfl cells_all rfl rfl (by simp only [maxLen]; omega) (by omega)) rfl ?_; clear hS
                  rintro _ _ ⟨a9, k9, rfl, rfl⟩
                  refine ⟨(sc_own sc_end), fun hS => ?_⟩
                  refine d_take 15 rfl rfl (by kernel_rfl) (by kernel_rfl) (by kernel_rfl) rfl hS (v_idx Tryz.underlying172 Tryz.sizeOf50 rfl rfl rfl hj (by first | exact Nat.zero_add _ | rfl)) ?_
                  refine d_one 16 (by kernel_rfl) rfl rfl (d_store Tryz.sizeOf50 rfl rfl rfl (by rw [h3]; omega) rfl) rfl ?_; clear hS
                  rintro _ _ rfl
                  refine ⟨(sc_own sc_end), fun hS => ?_⟩
                  refine d_done (by kernel_rfl) ?_; clear hS
                  refine x_done (.inr rfl) .nil ?_
                  rw [hX3 hs32 hfl, hroom (by rw [hml, if_neg c1]; omega)]
                  exact ⟨_, ⟨rfl, rfl⟩, ent_rpI (i := j) (vs := vs) (sp := sp) (vi := .slice a9 ((ps.getD j default).l.length + 1) k9) (l := (ps.getD j default).l ++ [s]) (li := ps.map inQ) (ss_put (by omega)) (by rw [strs_append]; rfl) hv (by simpa using hj) hn h1 h2 (by rw [List.length_set]; exact h3) pt_rows.symm (in_put c1).1.symm (in_put c1).2.symm (by simp) (by simp) (by simp)⟩
                · skip
                  refine dx_one rfl rfl (d_sliceLit Tryz.underlying50 Tryz.sizeOf9 Tryz.zeroValue9 rfl rfl rfl rfl rfl (by decide) (by decide)) rfl ?_; clear hS
                  rintro _ _ ⟨bq, rfl, rfl⟩
                  refine ⟨(sc_own sc_end), fun hS => ?_⟩
                  refine d_one 11 (by kernel_rfl) rfl rfl (d_val (v_load Tryz.isAgg50 rfl (cell_own (ss_cell hvi)))) rfl ?_; clear hS
                  rintro _ _ ⟨rfl, rfl⟩
                  refine ⟨(sc_own sc_end), fun hS => ?_⟩
                  refine d_one 14 (by kernel_rfl) rfl rfl (d_append (sz := 1) (by_ := 16) (info := Tryz.t9) Tryz.underlying50 (by kernel_rfl) rfl rfl rfl rfl (by decide) rfl rfl cells_all rfl rfl (by simp only [maxLen]; omega) (by omega)) rfl ?_; clear hS
                  rintro _ _ ⟨a9, k9, rfl, rfl⟩
                  refine ⟨(sc_own sc_end), fun hS => ?_⟩
                  refine d_take 15 rfl rfl (by kernel_rfl) (by kernel_rfl) (by kernel_rfl) rfl hS (v_idx Tryz.underlying172 Tryz.sizeOf50 rfl rfl rfl hj (by first | exact Nat.zero_add _ | rfl)) ?_
                  refine d_one 16 (by kernel_rfl) rfl rfl (d_store Tryz.sizeOf50 rfl rfl rfl (by rw [h3]; omega) rfl) rfl ?_; clear hS
                  rintro _ _ rfl
                  refine ⟨(sc_own sc_end), fun hS => ?_⟩
                  refine d_done (by kernel_rfl) ?_; clear hS
                  refine x_done (.inr rfl) .nil ?_
                  rw [hX3 hs32 hfl, hroom (by rw [hml, if_neg c1]; omega)]
                  exact ⟨_, ⟨rfl, rfl⟩, ent_rpI (i := j) (vs := vs) (sp := sp) (vi := .slice a9 ((ps.getD j default).l.length + 1) k9) (l := (ps.getD j default).l ++ [s]) (li := ps.map inQ) (ss_put (by omega)) (by rw [strs_append]; rfl) hv (by simpa using hj) hn h1 h2 (by rw [List.length_set]; exact h3) pt_rows.symm (in_put c1).1.symm (in_put c1).2.symm (by simp) (by simp) (by simp)⟩
              · intro c4
                refine x_skip (x_done (.inr rfl) .nil ?_)
                rw [hX3 hs32 hfl, hfull (by rw [hml, if_neg c1]; omega), ps_self hj]
                exact ⟨_, ⟨rfl, rfl⟩, ent_rpI (ps := ps) (i := j) (vs := vs) (sp := sp) (vi := .slice ai (ps.getD j default).l.length ci) (l := (ps.getD j default).l) (li := ps.map inQ) (by rw [vs_self hvi]) rfl hv (by simpa using hj) hn h1 h2 h3 rfl (by rw [← hgI]; exact ss_self (by simpa using hj)) rfl rfl rfl rfl⟩
  · have hX : sndP ps f t s = ps := by
      have : sndB ps f t s = false := by
        rw [← Bool.not_eq_true]; intro k
        simp only [sndB, Bool.and_eq_true] at k
        exact h ⟨k.1.1.1, k.1.1.2⟩
      rw [sndP, this, if_neg (by decide)]
    rw [hX]
    have h' : ¬ (0 ≤ f ∧ f < ps.length) ∨ ¬ (0 ≤ t ∧ t < ps.length) := by
      rw [inR_iff, inR_iff] at h; omega
    refine spec_body Tryz.func111 Tryz.ntmps111 rfl rfl ?_
    refine x_seq (x_seq ?_)
    refine run_rp (p := p) fun aP cP aI cI aO cO => ?_
    refine x_draw [] 35 mixed rfl sc_end (fun hS => ?_)
    refine d_take 0 rfl rfl (by kernel_rfl) (by kernel_rfl) (by kernel_rfl) rfl hS (v_move rfl) ?_
    refine d_take 1 rfl rfl (by kernel_rfl) (by kernel_rfl) (by kernel_rfl) rfl hS (v_move rfl) ?_
    refine d_one 2 (by kernel_rfl) rfl rfl (d_call1 Tryz.call102 rfl (rpIs_spec W0 _ p ps.length cP aP _ _ f)) rfl ?_; clear hS
    rintro _ B_ ⟨rfl, hB_⟩
    obtain rfl := hB_.symm
    refine ⟨sc_end, fun hS => ?_⟩
    refine d_take 3 rfl rfl (by kernel_rfl) (by kernel_rfl) (by kernel_rfl) rfl hS (v_not rfl) ?_
    refine d_take 4 rfl rfl (by kernel_rfl) (by kernel_rfl) (by kernel_rfl) rfl hS (v_move rfl) ?_
    refine x_split (t := 12) rfl ?_ ?_
    · intro g0_5
      refine d_skip 5 rfl rfl (by kernel_rfl) (by kernel_rfl) (by kernel_rfl) rfl hS ?_
      refine d_skip 6 rfl rfl (by kernel_rfl) (by kernel_rfl) (by kernel_rfl) rfl hS ?_
      refine d_skip 7 rfl rfl (by kernel_rfl) (by kernel_rfl) (by kernel_rfl) rfl hS ?_
      refine d_skip 8 rfl rfl (by kernel_rfl) (by kernel_rfl) (by kernel_rfl) rfl hS ?_
      refine d_take 9 rfl rfl (by kernel_rfl) (by kernel_rfl) (by kernel_rfl) rfl hS (v_pick_t rfl rfl) ?_
      refine d_take 10 rfl rfl (by kernel_rfl) (by kernel_rfl) (by kernel_rfl) rfl hS (v_move rfl) ?_
      refine d_skip 11 rfl rfl (by kernel_rfl) (by kernel_rfl) (by kernel_rfl) rfl hS ?_
      refine d_skip 12 rfl rfl (by kernel_rfl) (by kernel_rfl) (by kernel_rfl) rfl hS ?_
      refine d_skip 13 rfl rfl (by kernel_rfl) (by kernel_rfl) (by kernel_rfl) rfl hS ?_
      refine d_take 14 rfl rfl (by kernel_rfl) (by kernel_rfl) (by kernel_rfl) rfl hS (v_pick_t rfl rfl) ?_
      refine d_take 15 rfl rfl (by kernel_rfl) (by kernel_rfl) (by kernel_rfl) rfl hS (v_move rfl) ?_
      refine d_skip 16 rfl rfl (by kernel_rfl) (by kernel_rfl) (by kernel_rfl) rfl hS ?_
      refine d_skip 17 rfl rfl (by kernel_rfl) (by kernel_rfl) (by kernel_rfl) rfl hS ?_
      refine d_skip 18 rfl rfl (by kernel_rfl) (by kernel_rfl) (by kernel_rfl) rfl hS ?_
      refine d_skip 19 rfl rfl (by kernel_rfl) (by kernel_rfl) (by kernel_rfl) rfl hS ?_
      refine d_skip 20 rfl rfl (by kernel_rfl) (by kernel_rfl) (by kernel_rfl) rfl hS ?_
      refine d_skip 21 rfl rfl (by kernel_rfl) (by kernel_rfl) (by kernel_rfl) rfl hS ?_
      refine d_skip 22 rfl rfl (by kernel_rfl) (by kernel_rfl) (by kernel_rfl) rfl hS ?_
      refine d_skip 23 rfl rfl (by kernel_rfl) (by kernel_rfl) (by kernel_rfl) rfl hS ?_
      refine d_skip 24 rfl rfl (by kernel_rfl) (by kernel_rfl) (by kernel_rfl) rfl hS ?_
      refine d_skip 25 rfl rfl (by kernel_rfl) (by kernel_rfl) (by kernel_rfl) rfl hS ?_
      refine d_skip 26 rfl rfl (by kernel_rfl) (by kernel_rfl) (by kernel_rfl) rfl hS ?_
      refine d_skip 27 rfl rfl (by kernel_rfl) (by kernel_rfl) (by kernel_rfl) rfl hS ?_
      refine d_skip 28 rfl rfl (by kernel_rfl) (by kernel_rfl) (by kernel_rfl) rfl hS ?_
      refine d_skip 29 rfl rfl (by kernel_rfl) (by kernel_rfl) (by kernel_rfl) rfl hS ?_
      refine d_skip 30 rfl rfl (by kernel_rfl) (by kernel_rfl) (by kernel_rfl) rfl hS ?_
      refine d_skip 31 rfl rfl (by kernel_rfl) (by kernel_rfl) (by kernel_rfl) rfl hS ?_
      refine d_skip 32 rfl rfl (by kernel_rfl) (by kernel_rfl) (by kernel_rfl) rfl hS ?_
      refine d_skip 33 rfl rfl (by kernel_rfl) (by kernel_rfl) (by kernel_rfl) rfl hS ?_
      refine d_take 34 rfl rfl (by kernel_rfl) (by kernel_rfl) (by kernel_rfl) rfl hS (v_pick_t rfl rfl) ?_
      refine d_done (by kernel_rfl) ?_; clear hS
      refine n_then (x_ift rfl (x_ret (r_then (x_done (.inl rfl) .nil ?_))))
      exact ⟨_, ⟨rfl, rfl⟩, ent_rp rfl rfl rfl rfl rfl rfl⟩
    · intro g0_5
      refine d_take 5 rfl rfl (by kernel_rfl) (by kernel_rfl) (by kernel_rfl) rfl hS (v_move rfl) ?_
      refine d_take 6 rfl rfl (by kernel_rfl) (by kernel_rfl) (by kernel_rfl) rfl hS (v_move rfl) ?_
      refine d_one 7 (by kernel_rfl) rfl rfl (d_call1 Tryz.call102 rfl (rpIs_spec W0 _ p ps.length cP aP _ _ t)) rfl ?_; clear hS
      rintro _ B_ ⟨rfl, hB_⟩
      obtain rfl := hB_.symm
      refine ⟨sc_end, fun hS => ?_⟩
      refine d_take 8 rfl rfl (by kernel_rfl) (by kernel_rfl) (by kernel_rfl) rfl hS (v_not rfl) ?_
      refine d_take 9 rfl rfl (by kernel_rfl) (by kernel_rfl) (by kernel_rfl) rfl hS (v_pick_f rfl rfl) ?_
      refine d_take 10 rfl rfl (by kernel_rfl) (by kernel_rfl) (by kernel_rfl) rfl hS (v_move rfl) ?_
      refine x_split (t := 18) rfl ?_ ?_
      · intro g0_11
        refine d_skip 11 rfl rfl (by kernel_rfl) (by kernel_rfl) (by kernel_rfl) rfl hS ?_
        refine d_skip 12 rfl rfl (by kernel_rfl) (by kernel_rfl) (by kernel_rfl) rfl hS ?_
        refine d_skip 13 rfl rfl (by kernel_rfl) (by kernel_rfl) (by kernel_rfl) rfl hS ?_
        refine d_take 14 rfl rfl (by kernel_rfl) (by kernel_rfl) (by kernel_rfl) rfl hS (v_pick_t rfl rfl) ?_
        refine d_take 15 rfl rfl (by kernel_rfl) (by kernel_rfl) (by kernel_rfl) rfl hS (v_move rfl) ?_
        refine d_skip 16 rfl rfl (by kernel_rfl) (by kernel_rfl) (by kernel_rfl) rfl hS ?_
        refine d_skip 17 rfl rfl (by kernel_rfl) (by kernel_rfl) (by kernel_rfl) rfl hS ?_
        refine d_skip 18 rfl rfl (by kernel_rfl) (by kernel_rfl) (by kernel_rfl) rfl hS ?_
        refine d_skip 19 rfl rfl (by kernel_rfl) (by kernel_rfl) (by kernel_rfl) rfl hS ?_
        refine d_skip 20 rfl rfl (by kernel_rfl) (by kernel_rfl) (by kernel_rfl) rfl hS ?_
        refine d_skip 21 rfl rfl (by kernel_rfl) (by kernel_rfl) (by kernel_rfl) rfl hS ?_
        refine d_skip 22 rfl rfl (by kernel_rfl) (by kernel_rfl) (by kernel_rfl) rfl hS ?_
        refine d_skip 23 rfl rfl (by kernel_rfl) (by kernel_rfl) (by kernel_rfl) rfl hS ?_
        refine d_skip 24 rfl rfl (by kernel_rfl) (by kernel_rfl) (by kernel_rfl) rfl hS ?_
        refine d_skip 25 rfl rfl (by kernel_rfl) (by kernel_rfl) (by kernel_rfl) rfl hS ?_
        refine d_skip 26 rfl rfl (by kernel_rfl) (by kernel_rfl) (by kernel_rfl) rfl hS ?_
        refine d_skip 27 rfl rfl (by kernel_rfl) (by kernel_rfl) (by kernel_rfl) rfl hS ?_
        refine d_skip 28 rfl rfl (by kernel_rfl) (by kernel_rfl) (by kernel_rfl) rfl hS ?_
        refine d_skip 29 rfl rfl (by kernel_rfl) (by kernel_rfl) (by kernel_rfl) rfl hS ?_
        refine d_skip 30 rfl rfl (by kernel_rfl) (by kernel_rfl) (by kernel_rfl) rfl hS ?_
        refine d_skip 31 rfl rfl (by kernel_rfl) (by kernel_rfl) (by kernel_rfl) rfl hS ?_
        refine d_skip 32 rfl rfl (by kernel_rfl) (by kernel_rfl) (by kernel_rfl) rfl hS ?_
        refine d_skip 33 rfl rfl (by kernel_rfl) (by kernel_rfl) (by kernel_rfl) rfl hS ?_
        refine d_take 34 rfl rfl (by kernel_rfl) (by kernel_rfl) (by kernel_rfl) rfl hS (v_pick_t rfl rfl) ?_
        refine d_done (by kernel_rfl) ?_; clear hS
        refine n_then (x_ift rfl (x_ret (r_then (x_done (.inl rfl) .nil ?_))))
        exact ⟨_, ⟨rfl, rfl⟩, ent_rp rfl rfl rfl rfl rfl rfl⟩
      · intro g0_11
        exact h'.elim (fun q => absurd (by simpa using g0_5) q) (fun q => absurd (by simpa using g0_11) q)
end Go.Proofs.YtlnmofhehcilhaaGreat
namespace Go.Proofs.YtlnmofhehcilhaaGreat
open Go.RowKit
set_option linter.unusedSimpArgs false
set_option linter.unusedVariables false
set_option maxRecDepth 20000
theorem in_len {ps : List Prt} {i : Nat} (hi : i < ps.length) : ((ps.map inQ).getD i []).length = if (ps.getD i default).gu = -1 then 0 else (ps.getD i default).l.length := by
  rw [show ps.getD i default = ps[i] by simp [List.getD, hi]]
  simp only [List.getD, List.getElem?_map, List.getElem?_eq_getElem hi, Option.map_some, Option.getD_some, inQ]
  split <;> rfl
theorem rpWaitsO_spec (W0 : World) (R : List HP) (p : Nat) (ps : List Prt) (aP aI aO : Option Addr) (cP cI cO : Nat) (i : Int) :
    Spec Tryz.prog W0 40 [.pointer (some ⟨p, 0, none⟩), .int .i64 i] (pt p (rpO ps aP aI aO cP cI cO) :: ssH (.slice aI ps.length cI) (ps.map inQ) :: R) (fun v B => v = .int .i64 (wtP ps i : Nat) ∧ B = pt p (rpO ps aP aI aO cP cI cO) :: ssH (.slice aI ps.length cI) (ps.map inQ) :: R) := by
  by_cases hb : 0 ≤ i ∧ i < ps.length
  · obtain ⟨k, rfl, hk⟩ : ∃ k : Nat, i = (k : Int) ∧ k < ps.length := ⟨i.toNat, by omega, by omega⟩
    have hw : wtP ps k = ((ps.map inQ).getD k []).length := by
      rw [in_len hk, wtP, isIn, inR, decide_eq_true hb, Bool.true_and, show pAt ps k = ps.getD k default from rfl]
      by_cases hg : (ps.getD k default).gu = -1
      · rw [if_pos hg, if_neg (by rw [decide_eq_false (fun r => r hg)]; decide)]
      · rw [if_neg hg, if_pos (by simpa using hg)]
    rw [hw]
    refine spec_body Tryz.func40 Tryz.ntmps40 rfl rfl ?_
    refine x_seq (x_region (s_val rfl (v_assign rfl) (x_nil (n_then (x_seq (x_seq (x_region (s_val rfl (v_move rfl) (s_val rfl (v_move rfl) (s_do rfl (d_call1 Tryz.call102 rfl (rpIs_spec W0 _ p ps.length cP aP _ _ (k : Int))) ?_))))))))))
    rintro _ B_ ⟨rfl, hB_⟩
    obtain rfl := hB_.symm
    refine s_val rfl (v_not rfl) (x_nil (n_then ?_))
    refine x_if rfl ?_ ?_
    · intro c1
      exact absurd hb (by simpa using c1)
    · intro c1
      refine x_skip (n_then (x_seq ?_))
      refine run_ssN (a := aI) (n := ps.length) (c := cI) (ls := ps.map inQ) (i := k) (by simpa using hk) (fun gO sp vs ai ci hag hn hv hvi h1 h2 h3 => ?_)
      subst hag
      have hvl : vs.length = ps.length := by simpa using hv
      refine x_region (s_val rfl (v_move rfl) (s_val rfl (v_nilCheck rfl) ?_))
      refine s_val rfl (v_fieldAddr rfl Tryz.underlying174 rfl Tryz.sizeOf172 rfl (by first | exact Nat.zero_add _ | rfl)) ?_
      refine s_val rfl (v_load Tryz.isAgg172 rfl (cell_own rfl)) ?_
      refine s_val rfl (v_move rfl) ?_
      refine s_val rfl (v_idx Tryz.underlying172 Tryz.sizeOf50 rfl rfl rfl hk (by first | exact Nat.zero_add _ | rfl)) ?_
      refine s_val rfl (v_load Tryz.isAgg50 rfl (cell_own (ss_cell hvi))) ?_
      refine s_val rfl (v_len_slice Tryz.underlying50 rfl) (s_val rfl (v_assign rfl) (x_nil (n_then (x_ret (x_done (.inl rfl) (.cons (r_tmp rfl) .nil) ?_)))))
      exact ⟨_, ⟨rfl, rfl⟩, ent_take (r := pt) (b := p) (k := ent_ssS (i := k) (vs := vs) (sp := sp) (vi := .slice ai ((ps.map inQ).getD k []).length ci) (B := R) hv hvi hn (by simpa using hk) h1 h2 h3)⟩
  · have hw : wtP ps i = 0 := by rw [wtP, isIn, inR, decide_eq_false hb, Bool.false_and, if_neg (by decide)]
    rw [hw]
    refine spec_body Tryz.func40 Tryz.ntmps40 rfl rfl ?_
    refine x_seq (x_region (s_val rfl (v_assign rfl) (x_nil (n_then (x_seq (x_seq (x_region (s_val rfl (v_move rfl) (s_val rfl (v_move rfl) (s_do rfl (d_call1 Tryz.call102 rfl (rpIs_spec W0 _ p ps.length cP aP _ _ i)) ?_))))))))))
    rintro _ B_ ⟨rfl, hB_⟩
    obtain rfl := hB_.symm
    refine s_val rfl (v_not rfl) (x_nil (n_then ?_))
    refine x_if rfl ?_ ?_
    · intro c1
      refine x_seq (x_region (s_val rfl (v_assign rfl) (x_nil (n_then (x_ret (r_then (x_done (.inl rfl) (.cons (r_tmp rfl) .nil) ?_)))))))
      exact ⟨_, ⟨rfl, rfl⟩, inferInstance⟩
    · intro c1
      exact absurd (by simpa using c1) hb
theorem ent_rp_open {R : List HP} {p : Nat} {ps : List Prt} {aP aI aO : Option Addr} {cP cI cO : Nat} : Ent (pt p (rpO ps aP aI aO cP cI cO) :: osl 125 2 (.slice aP ps.length cP) (ps.flatMap ptW) :: ssH (.slice aI ps.length cI) (ps.map inQ) :: ssH (.slice aO ps.length cO) (ps.map ouQ) :: R) (rpH p ps :: R) := ent_rp rfl rfl rfl rfl rfl rfl
theorem rpWaits_spec (W0 : World) (R : List HP) (p : Nat) (ps : List Prt) (i : Int) :
    Spec Tryz.prog W0 40 [.pointer (some ⟨p, 0, none⟩), .int .i64 i] (rpH p ps :: R) (fun v B => v = .int .i64 (wtP ps i : Nat) ∧ B = rpH p ps :: R) :=
  spec_chk fun C hC => by
    obtain ⟨aP, cP, aI, cI, aO, cO, rfl⟩ := hC
    refine spec_ent (B := pt p (rpO ps aP aI aO cP cI cO) :: ssH (.slice aI ps.length cI) (ps.map inQ) :: osl 125 2 (.slice aP ps.length cP) (ps.flatMap ptW) :: ssH (.slice aO ps.length cO) (ps.map ouQ) :: R) (Ent.ofPerm ((List.Perm.swap _ _ _).cons _)) ?_
    refine spec_post (rpWaitsO_spec W0 _ p ps aP aI aO cP cI cO i) fun v B hB => ?_
    obtain ⟨rfl, rfl⟩ := hB
    exact ⟨_, ⟨rfl, rfl⟩, (Ent.ofPerm ((List.Perm.swap _ _ _).cons _)).trans ent_rp_open⟩
def ouP (ps : List Prt) (i : Int) : List ByteArray := if inR ps i then ouQ (pAt ps i) else []
theorem rpTold_spec (W0 : World) (R : List HP) (p : Nat) (ps : List Prt) (i : Int) :
    Spec Tryz.prog W0 38 [.pointer (some ⟨p, 0, none⟩), .int .i64 i] (rpH p ps :: R)
      (fun v B => ∃ a c C, v = .slice a (ouP ps i).length c ∧ B = osl 9 1 (.slice a (ouP ps i).length c) (strs (ouP ps i)) :: kH 4 C :: R ∧ (∀ R', Ent (osl 9 1 (.slice a (ouP ps i).length c) (strs (ouP ps i)) :: kH 4 C :: R') (rpH p ps :: R')) ∧
        ∀ j R', Spec Tryz.prog W0 40 [.pointer (some ⟨p, 0, none⟩), .int .i64 j] (kH 4 C :: R') (fun v B => v = .int .i64 (wtP ps j : Nat) ∧ B = kH 4 C :: R')) := by
  by_cases hb : 0 ≤ i ∧ i < ps.length
  · obtain ⟨k, rfl, hk⟩ : ∃ k : Nat, i = (k : Int) ∧ k < ps.length := ⟨i.toNat, by omega, by omega⟩
    have hw : ouP ps k = (ps.map ouQ).getD k [] := by
      rw [ouP, inR, decide_eq_true hb, if_pos rfl, pAt, Int.toNat_natCast]
      simp [List.getD, hk]
    rw [hw]
    refine spec_body Tryz.func38 Tryz.ntmps38 rfl rfl ?_
    refine x_seq (x_region (s_val rfl (v_assign rfl) (x_nil (n_then (x_seq (x_seq ?_))))))
    refine run_rp (p := p) fun aP cP aI cI aO cO => ?_
    refine x_region (s_val rfl (v_move rfl) (s_val rfl (v_move rfl) (s_do rfl (d_call1 Tryz.call102 rfl (rpIs_spec W0 _ p ps.length cP aP _ _ (k : Int))) ?_)))
    rintro _ B_ ⟨rfl, hB_⟩
    obtain rfl := hB_.symm
    refine s_val rfl (v_not rfl) (x_nil (n_then ?_))
    refine x_if rfl ?_ ?_
    · intro c1
      exact absurd hb (by simpa using c1)
    · intro c1
      refine x_skip (n_then (x_seq ?_))
      refine run_ssN (a := aO) (n := ps.length) (c := cO) (ls := ps.map ouQ) (i := k) (by simpa using hk) (fun gO sp vs ai ci hag hn hv hvi h1 h2 h3 => ?_)
      subst hag
      have hvl : vs.length = ps.length := by simpa using hv
      refine x_region (s_val rfl (v_move rfl) (s_val rfl (v_nilCheck rfl) ?_))
      refine s_val rfl (v_fieldAddr rfl Tryz.underlying174 rfl Tryz.sizeOf172 rfl (by first | exact Nat.zero_add _ | rfl)) ?_
      refine s_val rfl (v_load Tryz.isAgg172 rfl (cell_own rfl)) ?_
      refine s_val rfl (v_move rfl) ?_
      refine s_val rfl (v_idx Tryz.underlying172 Tryz.sizeOf50 rfl rfl rfl hk (by first | exact Nat.zero_add _ | rfl)) ?_
      refine s_val rfl (v_load Tryz.isAgg50 rfl (cell_own (ss_cell hvi))) ?_
      refine s_val rfl (v_assign rfl) (x_nil (n_then (x_ret (x_done (.inl rfl) (.cons (r_tmp rfl) .nil) ?_))))
      refine ⟨_, ⟨ai, ci, grp [pt p (rpO ps aP aI (some ⟨gO, 0, none⟩) cP cI cO), osl 125 2 (.slice aP ps.length cP) (ps.flatMap ptW), ssH (.slice aI ps.length cI) (ps.map inQ), pt gO (cob (vs ++ sp) 50), kH 3 (grp (((vs.zip (ps.map ouQ)).map inL).eraseIdx k))], rfl, rfl, fun R' => ?_, fun j R' => ?_⟩, ?_⟩
      · refine (Ent.cons (ent_open (A := [pt p (rpO ps aP aI (some ⟨gO, 0, none⟩) cP cI cO), osl 125 2 (.slice aP ps.length cP) (ps.flatMap ptW), ssH (.slice aI ps.length cI) (ps.map inQ), pt gO (cob (vs ++ sp) 50), kH 3 (grp (((vs.zip (ps.map ouQ)).map inL).eraseIdx k))] ) (R := R'))).trans ?_
        simp only [List.cons_append, List.nil_append]
        exact ent_rpO (ps := ps) (i := k) (vs := vs) (sp := sp) (vi := .slice ai ((ps.map ouQ).getD k []).length ci) (l := (ps.map ouQ).getD k []) (lo := ps.map ouQ) (by rw [vs_self hvi]) rfl hv (by simpa using hk) hn h1 h2 h3 rfl rfl (ss_self (by simpa using hk)) rfl rfl rfl
      · have e1 : ∀ R'', ([pt p (rpO ps aP aI (some ⟨gO, 0, none⟩) cP cI cO), osl 125 2 (.slice aP ps.length cP) (ps.flatMap ptW), ssH (.slice aI ps.length cI) (ps.map inQ), pt gO (cob (vs ++ sp) 50), kH 3 (grp (((vs.zip (ps.map ouQ)).map inL).eraseIdx k))] ++ R'').Perm (pt p (rpO ps aP aI (some ⟨gO, 0, none⟩) cP cI cO) :: ssH (.slice aI ps.length cI) (ps.map inQ) :: osl 125 2 (.slice aP ps.length cP) (ps.flatMap ptW) :: pt gO (cob (vs ++ sp) 50) :: kH 3 (grp (((vs.zip (ps.map ouQ)).map inL).eraseIdx k)) :: R'') := fun R'' => (List.Perm.swap _ _ _).cons _
        refine spec_ent (B := pt p (rpO ps aP aI (some ⟨gO, 0, none⟩) cP cI cO) :: ssH (.slice aI ps.length cI) (ps.map inQ) :: osl 125 2 (.slice aP ps.length cP) (ps.flatMap ptW) :: pt gO (cob (vs ++ sp) 50) :: kH 3 (grp (((vs.zip (ps.map ouQ)).map inL).eraseIdx k)) :: R') (ent_open.trans (Ent.ofPerm (e1 R'))) ?_
        refine spec_post (rpWaitsO_spec W0 _ p ps aP aI (some ⟨gO, 0, none⟩) cP cI cO j) fun v B hB => ?_
        obtain ⟨rfl, rfl⟩ := hB
        exact ⟨_, ⟨rfl, rfl⟩, (Ent.ofPerm (e1 R').symm).trans ent_shut⟩
      · refine (Ent.ofPerm (perm6 (r1 := osl 9 1) (b1 := .slice ai ((ps.map ouQ).getD k []).length ci) (r2 := pt) (b2 := p) (r3 := osl 125 2) (b3 := .slice aP ps.length cP) (r4 := ssH) (b4 := .slice aI ps.length cI) (r5 := pt) (b5 := gO) (r6 := kH) (b6 := 3))).trans ?_
        exact Ent.cons (ent_shut (A := [_, _, _, _, _]))
  · have hw : ouP ps i = [] := by rw [ouP, inR, decide_eq_false hb, if_neg (by decide)]
    rw [hw]
    refine spec_body Tryz.func38 Tryz.ntmps38 rfl rfl ?_
    refine x_seq (x_region (s_val rfl (v_assign rfl) (x_nil (n_then (x_seq (x_seq ?_))))))
    refine run_rp (p := p) fun aP cP aI cI aO cO => ?_
    refine x_region (s_val rfl (v_move rfl) (s_val rfl (v_move rfl) (s_do rfl (d_call1 Tryz.call102 rfl (rpIs_spec W0 _ p ps.length cP aP _ _ i)) ?_)))
    rintro _ B_ ⟨rfl, hB_⟩
    obtain rfl := hB_.symm
    refine s_val rfl (v_not rfl) (x_nil (n_then ?_))
    refine x_if rfl ?_ ?_
    · intro c1
      refine x_seq (x_region (s_val rfl (v_assign rfl) (x_nil (n_then (x_ret (r_then (x_done (.inl rfl) (.cons (r_tmp rfl) .nil) ?_)))))))
      refine ⟨_, ⟨none, 0, rpH p ps, rfl, rfl, fun R' => ?_, fun j R' => ?_⟩, ?_⟩
      · exact Ent.drop
      · exact rpWaits_spec W0 R' p ps j
      · exact (ent_rp (p := p) (ps := ps) (B := R) rfl rfl rfl rfl rfl rfl).trans (ent_osl_nil (k := (ent_refl : Ent (rpH p ps :: R) (rpH p ps :: R))))
    · intro c1
      exact absurd (by simpa using c1) hb
theorem rpArrive_spec (W0 : World) (R : List HP) (p : Nat) (ps : List Prt) (hok : PrOk ps) (i : Int) (s : ByteArray) (hsz : s.size < 9223372036854775808) :
    Spec Tryz.prog W0 29 [.pointer (some ⟨p, 0, none⟩), .int .i64 i, sV s] (rpH p ps :: R) (fun v B => v = .int .i64 (arE ps i s) ∧ B = rpH p (arP ps i s) :: R) := by
  by_cases hb : 0 ≤ i ∧ i < ps.length
  · obtain ⟨k, rfl, hk⟩ : ∃ k : Nat, i = (k : Int) ∧ k < ps.length := ⟨i.toNat, by omega, by omega⟩
    have hlk := hok.at_ hk
    have hmk := mostP_le (ps.getD k default)
    have hin : isIn ps k = decide ((ps.getD k default).gu ≠ -1) := by rw [isIn, inR, decide_eq_true hb, Bool.true_and]; rfl
    have hE1 : (ps.getD k default).gu = -1 → arE ps k s = 3 := fun q => by rw [arE, hin, if_neg (by rw [decide_eq_false (fun r => r q)]; decide)]
    have hE2 : (ps.getD k default).gu ≠ -1 → arE ps k s = if 32 < s.size then 10 else if fullP (ps.getD k default) then 2 else 0 := fun q => by rw [arE, hin, if_pos (by simpa using q)]; rfl
    have hml : mostP (ps.getD k default) = if (ps.getD k default).gu = -1 then 64 else 4 := rfl
    refine spec_body Tryz.func29 Tryz.ntmps29 rfl rfl ?_
    refine x_seq (x_region (s_val rfl (v_assign rfl) (x_nil (n_then (x_seq (x_seq ?_))))))
    refine run_rp (p := p) fun aP cP aI cI aO cO => ?_
    refine run_form (E := 125) (sz := 2) (a := aP) (c := cP) (n := ps.length) (ys := ps.flatMap ptW) (fun hfP => ?_)
    obtain ⟨gP, rfl⟩ := form_some hfP (by rw [← List.length_pos_iff, flat_len (f := ptW) (k := 2) (fun _ => rfl)]; omega)
    refine x_region (s_val rfl (v_move rfl) (s_val rfl (v_move rfl) (s_do rfl (d_call1 Tryz.call102 rfl (rpIs_spec W0 _ p ps.length cP (some ⟨gP, 0, none⟩) _ _ (k : Int))) ?_)))
    rintro _ B_ ⟨rfl, hB_⟩
    obtain rfl := hB_.symm
    refine s_val rfl (v_not rfl) (s_val rfl (v_move rfl) ?_)
    refine s_or rfl rfl rfl ?_ ?_
    · intro g1_5
      exact absurd hb (by simpa using g1_5)
    · intro g1_5
      refine s_val rfl (v_move rfl) (s_yes rfl rfl (s_val rfl (v_nilCheck rfl) (s_yes rfl rfl ?_)))
      refine s_val rfl (v_fieldAddr rfl Tryz.underlying174 rfl Tryz.sizeOf24 rfl (by first | exact Nat.zero_add _ | rfl)) ?_
      refine s_yes rfl rfl (s_val rfl (v_load Tryz.isAgg24 rfl (cell_own rfl)) ?_)
      refine s_yes rfl rfl (s_val rfl (v_move rfl) (s_yes rfl rfl ?_))
      refine s_val rfl (v_idx Tryz.underlying24 Tryz.sizeOf125 rfl rfl rfl hk (by first | exact Nat.zero_add _ | rfl)) ?_
      refine s_yes rfl rfl ?_
      refine s_val rfl (v_fieldAddr rfl Tryz.underlying125 rfl Tryz.sizeOf3 rfl (by first | exact Nat.zero_add _ | rfl)) ?_
      refine s_yes rfl rfl ?_
      refine s_val rfl (v_load Tryz.isAgg3 rfl (cells_row (f := ptW) (E := 125) (sz := 2) (n := ps.length) (c := cP) rfl (fun _ => rfl) (by decide) (ps_get hk) 1 _ rfl)) ?_
      refine s_yes rfl rfl (s_val rfl (v_eql rfl rfl) (s_val rfl (v_pick_f rfl rfl) (x_nil (n_then ?_))))
      refine x_if rfl ?_ ?_
      · intro c1
        refine x_seq (x_region (s_val rfl (v_assign rfl) (x_nil (n_then (x_ret (r_then (x_done (.inl rfl) (.cons (r_tmp rfl) .nil) ?_)))))))
        rw [arP, hE1 c1, if_neg (by decide)]
        exact ⟨_, ⟨rfl, rfl⟩, ent_rp rfl rfl rfl rfl rfl rfl⟩
      · intro c1
        have hgI := in_get hk c1
        have hE := hE2 c1
        refine x_skip (n_then (x_seq (x_seq (x_region (s_val rfl (v_move rfl) (s_val rfl (v_len_string Tryz.underlying9 rfl) (s_val rfl (v_gtr rfl rfl) (x_nil (n_then ?_)))))))))
        refine x_if rfl ?_ ?_
        · intro c3
          refine x_seq (x_region (s_val rfl (v_assign rfl) (x_nil (n_then (x_ret (r_then (x_done (.inl rfl) (.cons (r_tmp rfl) .nil) ?_)))))))
          rw [arP, hE, if_pos (by omega), if_neg (by decide)]
          exact ⟨_, ⟨rfl, rfl⟩, ent_rp rfl rfl rfl rfl rfl rfl⟩
        · intro c3
          refine x_skip (n_then (x_seq (x_seq ?_)))
          refine run_ssN (a := aI) (n := ps.length) (c := cI) (ls := ps.map inQ) (i := k) (by simpa using hk) (fun gO sp vs ai ci hag hn hv hvi h1 h2 h3 => ?_)
          subst hag
          rw [hgI] at hvi ⊢
          have hvl : vs.length = ps.length := by simpa using hv
          refine x_region (s_val rfl (v_move rfl) (s_val rfl (v_nilCheck rfl) ?_))
          refine s_val rfl (v_fieldAddr rfl Tryz.underlying174 rfl Tryz.sizeOf172 rfl (by first | exact Nat.zero_add _ | rfl)) ?_
          refine s_val rfl (v_load Tryz.isAgg172 rfl (cell_own rfl)) ?_
          refine s_val rfl (v_move rfl) ?_
          refine s_val rfl (v_idx Tryz.underlying172 Tryz.sizeOf50 rfl rfl rfl hk (by first | exact Nat.zero_add _ | rfl)) ?_
          refine s_val rfl (v_load Tryz.isAgg50 rfl (cell_own (ss_cell hvi))) ?_
          refine s_val rfl (v_len_slice Tryz.underlying50 rfl) (s_val rfl (v_geq rfl rfl) (x_nil (n_then ?_)))
          refine x_if rfl ?_ ?_
          · intro c5
            refine x_seq (x_region (s_val rfl (v_assign rfl) (x_nil (n_then (x_ret (r_then (x_done (.inl rfl) (.cons (r_tmp rfl) .nil) ?_)))))))
            have hf : fullP (ps.getD k default) = true := by rw [fullP, hml, if_neg c1, decide_eq_true (by omega)]
            rw [arP, hE, if_neg (by omega), if_pos hf, if_neg (by decide)]
            exact ⟨_, ⟨rfl, rfl⟩, ent_rpI (ps := ps) (i := k) (vs := vs) (sp := sp) (vi := .slice ai (ps.getD k default).l.length ci) (l := (ps.getD k default).l) (li := ps.map inQ) (by rw [vs_self hvi]) rfl hv (by simpa using hk) hn h1 h2 h3 rfl (by rw [← hgI]; exact ss_self (by simpa using hk)) rfl rfl rfl rfl⟩
          · intro c5
            refine x_skip (n_then (x_seq ?_))
            refine x_draw [(p, 0, _)] 17 mixed rfl (sc_own sc_end) (fun hS => ?_)
            refine d_take 0 rfl rfl (by kernel_rfl) (by kernel_rfl) (by kernel_rfl) rfl hS (v_move rfl) ?_
            refine d_take 1 rfl rfl (by kernel_rfl) (by kernel_rfl) (by kernel_rfl) rfl hS (v_nilCheck rfl) ?_
            refine d_take 2 rfl rfl (by kernel_rfl) (by kernel_rfl) (by kernel_rfl) rfl hS (v_fieldAddr rfl Tryz.underlying174 rfl Tryz.sizeOf172 rfl (by first | exact Nat.zero_add _ | rfl)) ?_
            refine d_take 3 rfl rfl (by kernel_rfl) (by kernel_rfl) (by kernel_rfl) rfl hS (v_load Tryz.isAgg172 rfl (cell_sc0 (k := 0) rfl rfl)) ?_
            refine d_take 4 rfl rfl (by kernel_rfl) (by kernel_rfl) (by kernel_rfl) rfl hS (v_move rfl) ?_
            refine d_take 5 rfl rfl (by kernel_rfl) (by kernel_rfl) (by kernel_rfl) rfl hS (v_move rfl) ?_
            refine d_take 6 rfl rfl (by kernel_rfl) (by kernel_rfl) (by kernel_rfl) rfl hS (v_nilCheck rfl) ?_
            refine d_take 7 rfl rfl (by kernel_rfl) (by kernel_rfl) (by kernel_rfl) rfl hS (v_fieldAddr rfl Tryz.underlying174 rfl Tryz.sizeOf172 rfl (by first | exact Nat.zero_add _ | rfl)) ?_
            refine d_take 8 rfl rfl (by kernel_rfl) (by kernel_rfl) (by kernel_rfl) rfl hS (v_load Tryz.isAgg172 rfl (cell_sc0 (k := 0) rfl rfl)) ?_
            refine d_take 9 rfl rfl (by kernel_rfl) (by kernel_rfl) (by kernel_rfl) rfl hS (v_move rfl) ?_
            refine d_take 10 rfl rfl (by kernel_rfl) (by kernel_rfl) (by kernel_rfl) rfl hS (v_idx Tryz.underlying172 Tryz.sizeOf50 rfl rfl rfl hk (by first | exact Nat.zero_add _ | rfl)) ?_
            refine d_take 12 rfl rfl (by kernel_rfl) (by kernel_rfl) (by kernel_rfl) rfl hS (v_move rfl) ?_
            refine d_all (is := [11, 13]) (by kernel_rfl) rfl ⟨?_, ?_, trivial⟩
            · skip
              refine dx_one rfl rfl (d_val (v_load Tryz.isAgg50 rfl (cell_own (ss_cell hvi)))) rfl ?_; clear hS
              rintro _ _ ⟨rfl, rfl⟩
              refine ⟨(sc_own sc_end), fun hS => ?_⟩
              refine d_one 13 (by kernel_rfl) rfl rfl (d_sliceLit Tryz.underlying50 Tryz.sizeOf9 Tryz.zeroValue9 rfl rfl rfl rfl rfl (by decide) (by decide)) rfl ?_; clear hS
              rintro _ _ ⟨bq, rfl, rfl⟩
              refine ⟨(sc_own sc_end), fun hS => ?_⟩
              refine d_one 14 (by kernel_rfl) rfl rfl (d_append (sz := 1) (by_ := 16) (info := Tryz.t9) Tryz.underlying50 (by kernel_rfl) rfl rfl rfl rfl (by decide) rfl rfl cells_all rfl rfl (by simp only [maxLen]; omega) (by omega)) rfl ?_; clear hS
              rintro _ _ ⟨a9, k9, rfl, rfl⟩
              refine ⟨(sc_own sc_end), fun hS => ?_⟩
              refine d_take 15 rfl rfl (by kernel_rfl) (by kernel_rfl) (by kernel_rfl) rfl hS (v_idx Tryz.underlying172 Tryz.sizeOf50 rfl rfl rfl hk (by first | exact Nat.zero_add _ | rfl)) ?_
              refine d_one 16 (by kernel_rfl) rfl rfl (d_store Tryz.sizeOf50 rfl rfl rfl (by rw [h3]; omega) rfl) rfl ?_; clear hS
              rintro _ _ rfl
              refine ⟨(sc_own sc_end), fun hS => ?_⟩
              refine d_done (by kernel_rfl) ?_; clear hS
              refine n_then (x_seq (x_region (s_val rfl (v_assign rfl) (x_nil (n_then (x_ret (x_done (.inl rfl) (.cons (r_tmp rfl) .nil) ?_)))))))
              have hf : fullP (ps.getD k default) = false := by rw [fullP, hml, if_neg c1, decide_eq_false (by omega)]
              have hf' : ¬ fullP (ps.getD k default) = true := by rw [hf]; decide
              rw [arP, hE, if_neg (by omega), if_neg hf', if_pos rfl, show ps.set (k : Int).toNat (putPr (pAt ps k) s) = ps.set k { ps.getD k default with l := (ps.getD k default).l ++ [s] } by rw [putPr, show pAt ps k = ps.getD k default from rfl, if_neg hf']; rfl]
              exact ⟨_, ⟨rfl, rfl⟩, ent_rpI (i := k) (vs := vs) (sp := sp) (vi := .slice a9 ((ps.getD k default).l.length + 1) k9) (l := (ps.getD k default).l ++ [s]) (li := ps.map inQ) (ss_put (by omega)) (by rw [strs_append]; rfl) hv (by simpa using hk) hn h1 h2 (by rw [List.length_set]; exact h3) pt_rows.symm (in_put c1).1.symm (in_put c1).2.symm (by simp) (by simp) (by simp)⟩
            · skip
              refine dx_one rfl rfl (d_sliceLit Tryz.underlying50 Tryz.sizeOf9 Tryz.zeroValue9 rfl rfl rfl rfl rfl (by decide) (by decide)) rfl ?_; clear hS
              rintro _ _ ⟨bq, rfl, rfl⟩
              refine ⟨(sc_own sc_end), fun hS => ?_⟩
              refine d_one 11 (by kernel_rfl) rfl rfl (d_val (v_load Tryz.isAgg50 rfl (cell_own (ss_cell hvi)))) rfl ?_; clear hS
              rintro _ _ ⟨rfl, rfl⟩
              refine ⟨(sc_own sc_end), fun hS => ?_⟩
              refine d_one 14 (by kernel_rfl) rfl rfl (d_append (sz := 1) (by_ := 16) (info := Tryz.t9) Tryz.underlying50 (by kernel_rfl) rfl rfl rfl rfl (by decide) rfl rfl cells_all rfl rfl (by simp only [maxLen]; omega) (by omega)) rfl ?_; clear hS
              rintro _ _ ⟨a9, k9, rfl, rfl⟩
              refine ⟨(sc_own sc_end), fun hS => ?_⟩
              refine d_take 15 rfl rfl (by kernel_rfl) (by kernel_rfl) (by kernel_rfl) rfl hS (v_idx Tryz.underlying172 Tryz.sizeOf50 rfl rfl rfl hk (by first | exact Nat.zero_add _ | rfl)) ?_
              refine d_one 16 (by kernel_rfl) rfl rfl (d_store Tryz.sizeOf50 rfl rfl rfl (by rw [h3]; omega) rfl) rfl ?_; clear hS
              rintro _ _ rfl
              refine ⟨(sc_own sc_end), fun hS => ?_⟩
              refine d_done (by kernel_rfl) ?_; clear hS
              refine n_then (x_seq (x_region (s_val rfl (v_assign rfl) (x_nil (n_then (x_ret (x_done (.inl rfl) (.cons (r_tmp rfl) .nil) ?_)))))))
              have hf : fullP (ps.getD k default) = false := by rw [fullP, hml, if_neg c1, decide_eq_false (by omega)]
              have hf' : ¬ fullP (ps.getD k default) = true := by rw [hf]; decide
              rw [arP, hE, if_neg (by omega), if_neg hf', if_pos rfl, show ps.set (k : Int).toNat (putPr (pAt ps k) s) = ps.set k { ps.getD k default with l := (ps.getD k default).l ++ [s] } by rw [putPr, show pAt ps k = ps.getD k default from rfl, if_neg hf']; rfl]
              exact ⟨_, ⟨rfl, rfl⟩, ent_rpI (i := k) (vs := vs) (sp := sp) (vi := .slice a9 ((ps.getD k default).l.length + 1) k9) (l := (ps.getD k default).l ++ [s]) (li := ps.map inQ) (ss_put (by omega)) (by rw [strs_append]; rfl) hv (by simpa using hk) hn h1 h2 (by rw [List.length_set]; exact h3) pt_rows.symm (in_put c1).1.symm (in_put c1).2.symm (by simp) (by simp) (by simp)⟩
  · have he : arE ps i s = 3 := by rw [arE, isIn, inR, decide_eq_false hb, Bool.false_and, if_neg (by decide)]
    rw [arP, he, if_neg (by decide)]
    refine spec_body Tryz.func29 Tryz.ntmps29 rfl rfl ?_
    refine x_seq (x_region (s_val rfl (v_assign rfl) (x_nil (n_then (x_seq (x_seq ?_))))))
    refine run_rp (p := p) fun aP cP aI cI aO cO => ?_
    refine x_region (s_val rfl (v_move rfl) (s_val rfl (v_move rfl) (s_do rfl (d_call1 Tryz.call102 rfl (rpIs_spec W0 _ p ps.length cP aP _ _ i)) ?_)))
    rintro _ B_ ⟨rfl, hB_⟩
    obtain rfl := hB_.symm
    refine s_val rfl (v_not rfl) (s_val rfl (v_move rfl) ?_)
    refine s_or rfl rfl rfl ?_ ?_
    · intro g1_5
      refine s_no rfl rfl rfl rfl (s_no rfl rfl rfl rfl (s_no rfl rfl rfl rfl (s_no rfl rfl rfl rfl (s_no rfl rfl rfl rfl (s_no rfl rfl rfl rfl (s_no rfl rfl rfl rfl (s_no rfl rfl rfl rfl (s_val rfl (v_pick_t rfl rfl) (x_nil (n_then (x_ift rfl (x_seq (x_region (s_val rfl (v_assign rfl) (x_nil (n_then (x_ret (r_then (x_done (.inl rfl) (.cons (r_tmp rfl) .nil) ?_)))))))))))))))))))
      exact ⟨_, ⟨rfl, rfl⟩, ent_rp rfl rfl rfl rfl rfl rfl⟩
    · intro g1_5
      exact absurd (by simpa using g1_5) hb
theorem rpTake_spec (W0 : World) (R : List HP) (p : Nat) (ps : List Prt) (hok : PrOk ps) (i : Int) :
    Spec Tryz.prog W0 116 [.pointer (some ⟨p, 0, none⟩), .int .i64 i] (rpH p ps :: R) (fun v B => v = .tuple #[sV (tkV ps i), .bool (tkB ps i)] ∧ B = rpH p (tkP ps i) :: R) := by
  by_cases hb : 0 ≤ i ∧ i < ps.length
  · obtain ⟨k, rfl, hk⟩ : ∃ k : Nat, i = (k : Int) ∧ k < ps.length := ⟨i.toNat, by omega, by omega⟩
    have hlk := hok.at_ hk
    have hmk := mostP_le (ps.getD k default)
    have hil := in_len hk
    obtain ⟨li, hli⟩ : ∃ li, (ps.map inQ).getD k [] = li := ⟨_, rfl⟩
    have hin : tkB ps k = (decide ((ps.getD k default).gu ≠ -1) && decide ((ps.getD k default).l ≠ [])) := by rw [tkB, isIn, inR, decide_eq_true hb, Bool.true_and]; rfl
    rw [hli] at hil
    have hB0 : li.length = 0 → tkB ps k = false := fun q => by
      rw [hin]
      by_cases hg : (ps.getD k default).gu = -1
      · rw [decide_eq_false (fun r => r hg), Bool.false_and]
      · rw [if_neg hg] at hil
        have h0 : (ps.getD k default).l = [] := List.eq_nil_of_length_eq_zero (by omega)
        rw [h0]; simp
    have hB1 : li.length ≠ 0 → (ps.getD k default).gu ≠ -1 ∧ li = (ps.getD k default).l ∧ tkB ps k = true := fun q => by
      have hg : (ps.getD k default).gu ≠ -1 := fun r => by rw [if_pos r] at hil; exact q hil
      have e := in_get hk hg
      rw [hli] at e
      refine ⟨hg, e, ?_⟩
      rw [hin, decide_eq_true hg, decide_eq_true (show (ps.getD k default).l ≠ [] from fun r => q (by rw [e, r]; rfl))]; rfl
    have hl64 : li.length ≤ 64 := by rw [hil]; split <;> omega
    refine spec_body Tryz.func116 Tryz.ntmps116 rfl rfl ?_
    refine x_seq (x_region (s_val rfl (v_assign rfl) (s_val rfl (v_assign rfl) (x_nil (n_then (x_seq (x_seq ?_)))))))
    refine run_rp (p := p) fun aP cP aI cI aO cO => ?_
    refine run_ssN (a := aI) (n := ps.length) (c := cI) (ls := ps.map inQ) (i := k) (by simpa using hk) (fun gO sp vs ai ci hag hn hv hvi h1 h2 h3 => ?_)
    subst hag
    rw [hli] at hvi ⊢
    have hvl : vs.length = ps.length := by simpa using hv
    refine run_sla (E := 9) (sz := 1) (a := ai) (n := li.length) (c := ci) (fun s => [sV s]) li (fun _ => rfl) (by decide) (strs_flat _) (fun hs => ?_)
    refine run_cap (E := 9) (sz := 1) (a := ai) (c := ci) (n := li.length) (fun hcap => ?_)
    refine x_region (s_val rfl (v_move rfl) (s_val rfl (v_move rfl) (s_do rfl (d_call1 Tryz.call102 rfl (rpIs_spec W0 _ p ps.length cP aP _ _ (k : Int))) ?_)))
    rintro _ B_ ⟨rfl, hB_⟩
    obtain rfl := hB_.symm
    refine s_val rfl (v_not rfl) (s_val rfl (v_move rfl) ?_)
    refine s_or rfl rfl rfl ?_ ?_
    · intro g1_5
      exact absurd hb (by simpa using g1_5)
    · intro g1_5
      refine s_val rfl (v_move rfl) (s_yes rfl rfl (s_val rfl (v_nilCheck rfl) (s_yes rfl rfl ?_)))
      refine s_val rfl (v_fieldAddr rfl Tryz.underlying174 rfl Tryz.sizeOf172 rfl (by first | exact Nat.zero_add _ | rfl)) ?_
      refine s_yes rfl rfl (s_val rfl (v_load Tryz.isAgg172 rfl (cell_own rfl)) ?_)
      refine s_yes rfl rfl (s_val rfl (v_move rfl) (s_yes rfl rfl ?_))
      refine s_val rfl (v_idx Tryz.underlying172 Tryz.sizeOf50 rfl rfl rfl hk (by first | exact Nat.zero_add _ | rfl)) ?_
      refine s_yes rfl rfl (s_val rfl (v_load Tryz.isAgg50 rfl (cell_own (ss_cell hvi))) ?_)
      refine s_yes rfl rfl (s_val rfl (v_len_slice Tryz.underlying50 rfl) (s_yes rfl rfl (s_val rfl (v_eql rfl rfl) (s_val rfl (v_pick_f rfl rfl) (x_nil (n_then ?_))))))
      refine x_if rfl ?_ ?_
      · intro c1
        refine x_seq (x_region (s_val rfl (v_assign rfl) (s_val rfl (v_assign rfl) (x_nil (n_then (x_ret (r_then (x_done (.inl rfl) (.cons (r_tmp rfl) (.cons (r_tmp rfl) .nil)) ?_))))))))
        have hb0 := hB0 (by omega)
        rw [tkV, tkP, hb0, if_neg (by decide), if_neg (by decide)]
        exact ⟨_, ⟨rfl, rfl⟩, ent_rpI (ps := ps) (i := k) (vs := vs) (sp := sp) (vi := .slice ai li.length ci) (l := li) (li := ps.map inQ) (by rw [vs_self hvi]) rfl hv (by simpa using hk) hn h1 h2 h3 rfl (by rw [← hli]; exact ss_self (by simpa using hk)) rfl rfl rfl rfl⟩
      · intro c1
        obtain ⟨hg, hll, hb1⟩ := hB1 (by omega)
        obtain ⟨s, l', hsl⟩ : ∃ s l', li = s :: l' := by
          cases hq : li with
          | nil => rw [hq] at c1; exact absurd rfl c1
          | cons s l' => exact ⟨s, l', rfl⟩
        have hlen : li.length = l'.length + 1 := by rw [hsl]; rfl
        obtain ⟨gb, ob, rfl, hcb⟩ := hs.at_ (i := 0) (by omega)
        rw [show li[0]'(by omega) = s by simp only [hsl]; rfl] at hcb
        have hsub := hs.sub (c := ci) (i := 1) (k := l'.length) (by omega) (by omega)
        rw [show (li.drop 1).take l'.length = l' by rw [hsl]; simp] at hsub
        have hsrc := hsub.src (fun _ => rfl) (fun _ => trivial)
        rw [← strs_flat] at hsrc
        refine x_skip (n_then (x_seq (x_region (s_val rfl (v_move rfl) (s_val rfl (v_nilCheck rfl) ?_)))))
        refine s_val rfl (v_fieldAddr rfl Tryz.underlying174 rfl Tryz.sizeOf172 rfl (by first | exact Nat.zero_add _ | rfl)) ?_
        refine s_val rfl (v_load Tryz.isAgg172 rfl (cell_own rfl)) ?_
        refine s_val rfl (v_move rfl) ?_
        refine s_val rfl (v_idx Tryz.underlying172 Tryz.sizeOf50 rfl rfl rfl hk (by first | exact Nat.zero_add _ | rfl)) ?_
        refine s_val rfl (v_load Tryz.isAgg50 rfl (cell_own (ss_cell hvi))) ?_
        refine s_val rfl (v_idx Tryz.underlying50 Tryz.sizeOf9 rfl rfl (j := 0) rfl (by omega) (by first | exact Nat.zero_add _ | rfl)) ?_
        refine s_val rfl (v_load Tryz.isAgg9 rfl (Cells.weak hcb 0 _ rfl)) ?_
        refine s_val rfl (v_assign rfl) (x_nil (n_then (x_seq ?_)))
        refine x_draw [(p, 0, _)] 17 mixed rfl (sc_own sc_end) (fun hS => ?_)
        refine d_take 0 rfl rfl (by kernel_rfl) (by kernel_rfl) (by kernel_rfl) rfl hS (v_move rfl) ?_
        refine d_take 1 rfl rfl (by kernel_rfl) (by kernel_rfl) (by kernel_rfl) rfl hS (v_nilCheck rfl) ?_
        refine d_take 2 rfl rfl (by kernel_rfl) (by kernel_rfl) (by kernel_rfl) rfl hS (v_fieldAddr rfl Tryz.underlying174 rfl Tryz.sizeOf172 rfl (by first | exact Nat.zero_add _ | rfl)) ?_
        refine d_take 3 rfl rfl (by kernel_rfl) (by kernel_rfl) (by kernel_rfl) rfl hS (v_load Tryz.isAgg172 rfl (cell_sc0 (k := 0) rfl rfl)) ?_
        refine d_take 4 rfl rfl (by kernel_rfl) (by kernel_rfl) (by kernel_rfl) rfl hS (v_move rfl) ?_
        refine d_take 6 rfl rfl (by kernel_rfl) (by kernel_rfl) (by kernel_rfl) rfl hS (v_move rfl) ?_
        refine d_take 7 rfl rfl (by kernel_rfl) (by kernel_rfl) (by kernel_rfl) rfl hS (v_nilCheck rfl) ?_
        refine d_take 8 rfl rfl (by kernel_rfl) (by kernel_rfl) (by kernel_rfl) rfl hS (v_fieldAddr rfl Tryz.underlying174 rfl Tryz.sizeOf172 rfl (by first | exact Nat.zero_add _ | rfl)) ?_
        refine d_take 9 rfl rfl (by kernel_rfl) (by kernel_rfl) (by kernel_rfl) rfl hS (v_load Tryz.isAgg172 rfl (cell_sc0 (k := 0) rfl rfl)) ?_
        refine d_take 10 rfl rfl (by kernel_rfl) (by kernel_rfl) (by kernel_rfl) rfl hS (v_move rfl) ?_
        refine d_take 11 rfl rfl (by kernel_rfl) (by kernel_rfl) (by kernel_rfl) rfl hS (v_idx Tryz.underlying172 Tryz.sizeOf50 rfl rfl rfl hk (by first | exact Nat.zero_add _ | rfl)) ?_
        refine d_all (is := [5, 12]) (by kernel_rfl) rfl ⟨?_, ?_, trivial⟩
        · skip
          refine dx_one rfl rfl (d_slice0 Tryz.underlying50 Tryz.sizeOf9 rfl) rfl ?_; clear hS
          rintro _ _ ⟨bq, rfl, rfl⟩
          refine ⟨(sc_own sc_end), fun hS => ?_⟩
          refine d_one 12 (by kernel_rfl) rfl rfl (d_val (v_load Tryz.isAgg50 rfl (cell_own (ss_cell hvi)))) rfl ?_; clear hS
          rintro _ _ ⟨rfl, rfl⟩
          refine ⟨(sc_own sc_end), fun hS => ?_⟩
          refine d_take 13 rfl rfl (by kernel_rfl) (by kernel_rfl) (by kernel_rfl) rfl hS (v_sliceLg Tryz.underlying50 Tryz.sizeOf9 rfl (i := 1) rfl rfl (by omega) rfl) ?_
          refine d_one 14 (by kernel_rfl) rfl rfl (d_appendS (sz := 1) (by_ := 16) (info := Tryz.t9) Tryz.underlying50 (by kernel_rfl) rfl rfl rfl rfl (by decide) rfl rfl (news := strs l') (by
  rcases hsrc with h | ⟨bs, os, h1, h2⟩
  · left; rw [hlen, h]; rfl
  · right; exact ⟨bs, os, h1, h2.weak⟩) (by rw [strs_len, hlen]; omega) (strs_one l') (by simp only [maxLen]; omega) (by omega)) rfl ?_; clear hS
          rintro _ _ ⟨a9, k9, rfl, rfl⟩
          refine ⟨(sc_own sc_end), fun hS => ?_⟩
          refine d_take 15 rfl rfl (by kernel_rfl) (by kernel_rfl) (by kernel_rfl) rfl hS (v_idx Tryz.underlying172 Tryz.sizeOf50 rfl rfl rfl hk (by first | exact Nat.zero_add _ | rfl)) ?_
          refine d_one 16 (by kernel_rfl) rfl rfl (d_store Tryz.sizeOf50 rfl rfl rfl (by rw [h3]; omega) rfl) rfl ?_; clear hS
          rintro _ _ rfl
          refine ⟨(sc_own sc_end), fun hS => ?_⟩
          refine d_done (by kernel_rfl) ?_; clear hS
          refine n_then (x_seq (x_region (s_val rfl (v_move rfl) (s_val rfl (v_assign rfl) (s_val rfl (v_assign rfl) (x_nil (n_then (x_ret (x_done (.inl rfl) (.cons (r_tmp rfl) (.cons (r_tmp rfl) .nil)) ?_)))))))))
          have e1 : ps.set (k : Int).toNat { pAt ps k with l := (pAt ps k).l.tail } = ps.set k { ps.getD k default with l := l' } := by
            rw [show pAt ps k = ps.getD k default from rfl, ← hll, hsl]; rfl
          have e2 : (pAt ps k).l.headD ByteArray.empty = s := by rw [show pAt ps k = ps.getD k default from rfl, ← hll, hsl]; rfl
          rw [tkV, tkP, hb1, if_pos rfl, if_pos rfl, e1, e2]
          refine ⟨_, ⟨rfl, rfl⟩, ?_⟩
          rw [List.nil_append]
          exact ent_rpI (i := k) (vs := vs) (sp := sp) (vi := .slice a9 (0 + (li.length - 1)) k9) (l := l') (li := ps.map inQ) (ss_put (by omega)) rfl hv (by simpa using hk) hn h1 h2 (by rw [List.length_set]; exact h3) pt_rows.symm (in_put hg).1.symm (in_put hg).2.symm (by simp) (by simp) (by simp)
        · skip
          refine dx_one rfl rfl (d_val (v_load Tryz.isAgg50 rfl (cell_own (ss_cell hvi)))) rfl ?_; clear hS
          rintro _ _ ⟨rfl, rfl⟩
          refine ⟨(sc_own sc_end), fun hS => ?_⟩
          refine d_take 13 rfl rfl (by kernel_rfl) (by kernel_rfl) (by kernel_rfl) rfl hS (v_sliceLg Tryz.underlying50 Tryz.sizeOf9 rfl (i := 1) rfl rfl (by omega) rfl) ?_
          refine d_one 5 (by kernel_rfl) rfl rfl (d_slice0 Tryz.underlying50 Tryz.sizeOf9 rfl) rfl ?_; clear hS
          rintro _ _ ⟨bq, rfl, rfl⟩
          refine ⟨(sc_own sc_end), fun hS => ?_⟩
          refine d_one 14 (by kernel_rfl) rfl rfl (d_appendS (sz := 1) (by_ := 16) (info := Tryz.t9) Tryz.underlying50 (by kernel_rfl) rfl rfl rfl rfl (by decide) rfl rfl (news := strs l') (by
  rcases hsrc with h | ⟨bs, os, h1, h2⟩
  · left; rw [hlen, h]; rfl
  · right; exact ⟨bs, os, h1, h2.weak⟩) (by rw [strs_len, hlen]; omega) (strs_one l') (by simp only [maxLen]; omega) (by omega)) rfl ?_; clear hS
          rintro _ _ ⟨a9, k9, rfl, rfl⟩
          refine ⟨(sc_own sc_end), fun hS => ?_⟩
          refine d_take 15 rfl rfl (by kernel_rfl) (by kernel_rfl) (by kernel_rfl) rfl hS (v_idx Tryz.underlying172 Tryz.sizeOf50 rfl rfl rfl hk (by first | exact Nat.zero_add _ | rfl)) ?_
          refine d_one 16 (by kernel_rfl) rfl rfl (d_store Tryz.sizeOf50 rfl rfl rfl (by rw [h3]; omega) rfl) rfl ?_; clear hS
          rintro _ _ rfl
          refine ⟨(sc_own sc_end), fun hS => ?_⟩
          refine d_done (by kernel_rfl) ?_; clear hS
          refine n_then (x_seq (x_region (s_val rfl (v_move rfl) (s_val rfl (v_assign rfl) (s_val rfl (v_assign rfl) (x_nil (n_then (x_ret (x_done (.inl rfl) (.cons (r_tmp rfl) (.cons (r_tmp rfl) .nil)) ?_)))))))))
          have e1 : ps.set (k : Int).toNat { pAt ps k with l := (pAt ps k).l.tail } = ps.set k { ps.getD k default with l := l' } := by
            rw [show pAt ps k = ps.getD k default from rfl, ← hll, hsl]; rfl
          have e2 : (pAt ps k).l.headD ByteArray.empty = s := by rw [show pAt ps k = ps.getD k default from rfl, ← hll, hsl]; rfl
          rw [tkV, tkP, hb1, if_pos rfl, if_pos rfl, e1, e2]
          refine ⟨_, ⟨rfl, rfl⟩, ?_⟩
          rw [List.nil_append]
          exact ent_rpI (i := k) (vs := vs) (sp := sp) (vi := .slice a9 (0 + (li.length - 1)) k9) (l := l') (li := ps.map inQ) (ss_put (by omega)) rfl hv (by simpa using hk) hn h1 h2 (by rw [List.length_set]; exact h3) pt_rows.symm (in_put hg).1.symm (in_put hg).2.symm (by simp) (by simp) (by simp)
  · have hb0 : tkB ps i = false := by rw [tkB, isIn, inR, decide_eq_false hb, Bool.false_and, Bool.false_and]
    rw [tkV, tkP, hb0, if_neg (by decide), if_neg (by decide)]
    refine spec_body Tryz.func116 Tryz.ntmps116 rfl rfl ?_
    refine x_seq (x_region (s_val rfl (v_assign rfl) (s_val rfl (v_assign rfl) (x_nil (n_then (x_seq (x_seq ?_)))))))
    refine run_rp (p := p) fun aP cP aI cI aO cO => ?_
    refine x_region (s_val rfl (v_move rfl) (s_val rfl (v_move rfl) (s_do rfl (d_call1 Tryz.call102 rfl (rpIs_spec W0 _ p ps.length cP aP _ _ i)) ?_)))
    rintro _ B_ ⟨rfl, hB_⟩
    obtain rfl := hB_.symm
    refine s_val rfl (v_not rfl) (s_val rfl (v_move rfl) ?_)
    refine s_or rfl rfl rfl ?_ ?_
    · intro g1_5
      refine s_no rfl rfl rfl rfl (s_no rfl rfl rfl rfl (s_no rfl rfl rfl rfl (s_no rfl rfl rfl rfl (s_no rfl rfl rfl rfl (s_no rfl rfl rfl rfl (s_no rfl rfl rfl rfl (s_no rfl rfl rfl rfl (s_val rfl (v_pick_t rfl rfl) (x_nil (n_then (x_ift rfl (x_seq (x_region (s_val rfl (v_assign rfl) (s_val rfl (v_assign rfl) (x_nil (n_then (x_ret (r_then (x_done (.inl rfl) (.cons (r_tmp rfl) (.cons (r_tmp rfl) .nil)) ?_))))))))))))))))))))
      exact ⟨_, ⟨rfl, rfl⟩, ent_rp rfl rfl rfl rfl rfl rfl⟩
    · intro g1_5
      exact absurd (by simpa using g1_5) hb
end Go.Proofs.YtlnmofhehcilhaaGreat
namespace Go.Proofs.YtlnmofhehcilhaaGreat
open Go.RowKit
set_option linter.unusedSimpArgs false
set_option linter.unusedVariables false
set_option maxRecDepth 20000
def nwB (l : List Pt2) : Bool := decide (l.length ≤ 8) && l.all fun x => isL x.1
theorem nwB_yes {l : List Pt2} (h : nwB l = true) : l.length ≤ 8 ∧ ∀ x ∈ l, isL x.1 = true := by
  rw [nwB, Bool.and_eq_true, decide_eq_true_iff, List.all_eq_true] at h; exact h
theorem nwB_all {l : List Pt2} (h1 : l.length ≤ 8) (h2 : ∀ i (hi : i < l.length), isL l[i].1 = true) : nwB l = true := by
  rw [nwB, Bool.and_eq_true, decide_eq_true_iff, List.all_eq_true]
  refine ⟨h1, fun x hx => ?_⟩
  obtain ⟨i, hi, rfl⟩ := List.getElem_of_mem hx
  exact h2 i hi
theorem nwB_no {l : List Pt2} {i : Nat} (hi : i < l.length) (h : ¬ isL l[i].1 = true) : nwB l = false := by
  rw [← Bool.not_eq_true]; intro q
  exact h ((nwB_yes q).2 _ (List.getElem_mem hi))
theorem prNewF_spec (W0 : World) (R : List HP) (l : List Pt2) (a : Option Addr) (n c : Nat) (hln : l.length = n) (hs : SlA (OwnP W0 R) a 2 ptV2 l) (hno : ¬ nwB l = true) :
    Spec Tryz.prog W0 25 [.slice a n c] R (fun v B => v = .tuple #[.pointer none, .int .i64 15] ∧ B = R) := by
  subst hln
  refine spec_body Tryz.func25 Tryz.ntmps25 rfl rfl ?_
  refine x_seq (x_region (s_val rfl (v_assign rfl) (s_val rfl (v_assign rfl) (x_nil (n_then (x_seq (x_seq (x_region (s_val rfl (v_move rfl) (s_val rfl (v_len_slice Tryz.underlying24 rfl) (s_val rfl (v_gtr rfl rfl) (x_nil (n_then ?_)))))))))))))
  refine x_if rfl ?_ ?_
  · intro c1
    refine x_seq (x_region (s_val rfl (v_assign rfl) (s_val rfl (v_assign rfl) (x_nil (n_then (x_ret (r_then (x_done (.inl rfl) (.cons (r_tmp rfl) (.cons (r_tmp rfl) .nil)) ?_))))))))
    exact ⟨_, ⟨rfl, rfl⟩, inferInstance⟩
  · intro c1
    have hn : l.length ≤ 8 := by omega
    refine x_skip (n_then (x_seq (x_region (s_val rfl (v_build Tryz.underlying169 Tryz.zeroValue169 (sized_cons Tryz.sizeOf167 (sized_cons Tryz.sizeOf4 sized_nil)) (fil_scal rfl Tryz.sizeOf4 rfl rfl (Nat.le_of_ble_eq_true rfl) SetL.eq fil_nil)) ?_))))
    refine s_do rfl (d_boxA rfl) ?_
    rintro _ _ ⟨p, rfl, rfl⟩
    refine s_val rfl (v_assign rfl) (x_nil (n_then (x_seq (x_seq (x_region (s_val rfl (v_move rfl) (s_val rfl (v_len_slice Tryz.underlying24 rfl) (s_val rfl (v_move rfl) (x_nil (n_then (x_block ?_)))))))))))
    refine x_loop (fun X : Nat × Option Addr × Nat => X.1 ≤ l.length ∧ ∀ j (hj : j < l.length), j < X.1 → isL l[j].1 = true) (fun X => [(4, .pointer (some ⟨p, 0, none⟩)), (12, .slice a l.length c), (13, .int .i64 (l.length : Nat)), (14, .int .i64 X.1)]) (fun X => pt p (cob [.slice X.2.1 X.1 X.2.2, .bool true] 169) :: osl 171 3 (.slice X.2.1 X.1 X.2.2) ((l.take X.1).flatMap fun x => [.int .i64 x.1, .int .i64 x.2, nilS]) :: R) (fun X => l.length - X.1) (0, none, 0) ?_ ?_ ?_ ?_
    · exact ⟨Nat.zero_le _, fun j _ hj => absurd hj (Nat.not_lt_zero _)⟩
    · repeat (first | exact sub_nil | refine sub_cons rfl ?_)
    · exact (Ent.cons (ent_osl_nil (E := 171) (sz := 3)))
    · intro ⟨i, a2, c2⟩ ⟨hi, hjs⟩
      dsimp only at hi hjs ⊢
      refine x_seq (x_region (s_val rfl (v_lss rfl rfl) (x_nil (n_then (x_seq ?_)))))
      refine x_if rfl ?_ ?_
      · intro c5
        have hi1 : i < l.length := by omega
        obtain ⟨g, o, rfl, hc⟩ := hs.at_ hi1
        have htk : l.take (i + 1) = l.take i ++ [l[i]] := List.take_succ_eq_append_getElem hi1
        refine x_skip (n_then (x_seq (x_block (x_seq (x_region ?_)))))
        refine s_val rfl (v_idx Tryz.underlying24 Tryz.sizeOf125 rfl rfl rfl hi1 (by first | exact Nat.zero_add _ | rfl)) ?_
        refine s_val rfl (v_loadAgg Tryz.isAgg125 Tryz.sizeOf125 rfl hc.weak rfl) ?_
        refine s_do rfl (d_allocA Tryz.zeroValue125) ?_
        rintro _ _ ⟨bx, rfl, rfl⟩
        refine s_do0 (d_storeAll Tryz.sizeOf125 rfl rfl rfl rfl rfl) ?_
        rintro _ _ rfl
        refine x_nil (n_then (x_seq (x_seq (x_region ?_))))
        refine s_val rfl (v_fieldAddr rfl Tryz.underlying125 rfl Tryz.sizeOf3 rfl (by first | exact Nat.zero_add _ | rfl)) ?_
        refine s_val rfl (v_load Tryz.isAgg3 rfl (cell_own rfl)) ?_
        refine s_do rfl (d_call Tryz.call95 rfl (lbCount_spec W0 _ l[i].1)) ?_
        rintro _ B_ ⟨m, rfl, hm, hB_⟩
        obtain rfl := hB_.symm
        refine s_val rfl (v_lss rfl rfl) (x_nil (n_then ?_))
        refine x_if rfl ?_ ?_
        · intro c7
          refine x_seq (x_region (s_val rfl (v_assign rfl) (s_val rfl (v_assign rfl) (x_nil (n_then (x_ret (r_then (r_block (r_then (r_then (r_block (r_then (x_done (.inl rfl) (.cons (r_tmp rfl) (.cons (r_tmp rfl) .nil)) ?_)))))))))))))
          exact ⟨_, ⟨rfl, rfl⟩, inferInstance⟩
        · intro c7
          have hlb : isL l[i].1 = true := by
            rw [← Bool.not_eq_false]; intro q
            rw [q] at hm; exact c7 (by simpa using hm)
          refine x_skip (n_then ?_)
          refine x_draw [(bx, 0, _)] 12 mixed rfl (sc_own sc_end) (fun hS => ?_)
          refine d_take 0 rfl rfl (by kernel_rfl) (by kernel_rfl) (by kernel_rfl) rfl hS (v_move rfl) ?_
          refine d_take 1 rfl rfl (by kernel_rfl) (by kernel_rfl) (by kernel_rfl) rfl hS (v_move rfl) ?_
          refine d_take 2 rfl rfl (by kernel_rfl) (by kernel_rfl) (by kernel_rfl) rfl hS (v_nilCheck rfl) ?_
          refine d_take 3 rfl rfl (by kernel_rfl) (by kernel_rfl) (by kernel_rfl) rfl hS (v_fieldAddr rfl Tryz.underlying169 rfl Tryz.sizeOf167 rfl (by first | exact Nat.zero_add _ | rfl)) ?_
          refine d_take 5 rfl rfl (by kernel_rfl) (by kernel_rfl) (by kernel_rfl) rfl hS (v_loadAgg Tryz.isAgg125 Tryz.sizeOf125 rfl (cells_sc (k := 0) rfl) rfl) ?_
          refine d_take 6 rfl rfl (by kernel_rfl) (by kernel_rfl) (by kernel_rfl) rfl hS (v_build Tryz.underlying171 Tryz.zeroValue171 (sized_cons Tryz.sizeOf125 (sized_cons Tryz.sizeOf50 sized_nil)) (fil_agg rfl Tryz.sizeOf125 rfl rfl (Nat.le_of_ble_eq_true rfl) SetRL.eq fil_nil)) ?_
          refine d_all (is := [4, 7]) (by kernel_rfl) rfl ⟨?_, ?_, trivial⟩
          · skip
            refine dx_one rfl rfl (d_val (v_load Tryz.isAgg167 rfl (cell_own rfl))) rfl ?_; clear hS
            rintro _ _ ⟨rfl, rfl⟩
            refine ⟨(sc_own sc_end), fun hS => ?_⟩
            refine d_one 7 (by kernel_rfl) rfl rfl (d_sliceAgg Tryz.underlying167 Tryz.sizeOf171 Tryz.zeroValue171 rfl (elsK_cons rfl rfl elsK_nil) rfl (by decide) (by decide) (by decide)) rfl ?_; clear hS
            rintro _ _ ⟨b3, rfl, rfl⟩
            refine ⟨(sc_own sc_end), fun hS => ?_⟩
            refine d_one 8 (by kernel_rfl) rfl rfl (d_append (sz := 3) (by_ := 40) (info := Tryz.t171) Tryz.underlying167 (by kernel_rfl) rfl rfl rfl rfl (by decide) rfl rfl cells_all rfl rfl (by simp only [maxLen]; omega) (by omega)) rfl ?_; clear hS
            rintro _ _ ⟨a3, c3, rfl, rfl⟩
            refine ⟨(sc_own sc_end), fun hS => ?_⟩
            refine d_take 9 rfl rfl (by kernel_rfl) (by kernel_rfl) (by kernel_rfl) rfl hS (v_nilCheck rfl) ?_
            refine d_take 10 rfl rfl (by kernel_rfl) (by kernel_rfl) (by kernel_rfl) rfl hS (v_fieldAddr rfl Tryz.underlying169 rfl Tryz.sizeOf167 rfl (by first | exact Nat.zero_add _ | rfl)) ?_
            refine d_one 11 (by kernel_rfl) rfl rfl (d_store Tryz.sizeOf167 rfl rfl rfl (Nat.le_of_ble_eq_true rfl) SetL.eq) rfl ?_; clear hS
            rintro _ _ rfl
            refine ⟨(sc_own sc_end), fun hS => ?_⟩
            refine d_done (by kernel_rfl) ?_; clear hS
            refine n_block (n_then (x_region ?_))
            refine s_val rfl (v_add rfl rfl (by first | exact w64 (by omega) | rfl)) ?_
            refine s_val rfl (v_move rfl) (x_nil (n_then ?_))
            refine inv_intro (i + 1, a3, c3) ?_ ?_ ?_ ?_
            · refine ⟨by omega, fun j hj h => ?_⟩
              rcases Nat.lt_or_ge j i with q | q
              · exact hjs j hj q
              · obtain rfl : j = i := by omega
                exact hlb
            · omega
            · repeat (first | exact sub_nil | refine sub_cons rfl ?_)
            · dsimp only
              rw [htk, List.flatMap_append]
              show Ent _ (pt p (cob [.slice a3 (i + 1) c3, .bool true] 169) :: osl 171 3 (.slice a3 (i + 1) c3) (((l.take i).flatMap fun x => [.int .i64 x.1, .int .i64 x.2, nilS]) ++ [[.int .i64 l[i].1, .int .i64 l[i].2, .slice none 0 0]].flatten) :: R)
              exact inferInstance
          · skip
            refine dx_one rfl rfl (d_sliceAgg Tryz.underlying167 Tryz.sizeOf171 Tryz.zeroValue171 rfl (elsK_cons rfl rfl elsK_nil) rfl (by decide) (by decide) (by decide)) rfl ?_; clear hS
            rintro _ _ ⟨b3, rfl, rfl⟩
            refine ⟨(sc_own sc_end), fun hS => ?_⟩
            refine d_one 4 (by kernel_rfl) rfl rfl (d_val (v_load Tryz.isAgg167 rfl (cell_own rfl))) rfl ?_; clear hS
            rintro _ _ ⟨rfl, rfl⟩
            refine ⟨(sc_own sc_end), fun hS => ?_⟩
            refine d_one 8 (by kernel_rfl) rfl rfl (d_append (sz := 3) (by_ := 40) (info := Tryz.t171) Tryz.underlying167 (by kernel_rfl) rfl rfl rfl rfl (by decide) rfl rfl cells_all rfl rfl (by simp only [maxLen]; omega) (by omega)) rfl ?_; clear hS
            rintro _ _ ⟨a3, c3, rfl, rfl⟩
            refine ⟨(sc_own sc_end), fun hS => ?_⟩
            refine d_take 9 rfl rfl (by kernel_rfl) (by kernel_rfl) (by kernel_rfl) rfl hS (v_nilCheck rfl) ?_
            refine d_take 10 rfl rfl (by kernel_rfl) (by kernel_rfl) (by kernel_rfl) rfl hS (v_fieldAddr rfl Tryz.underlying169 rfl Tryz.sizeOf167 rfl (by first | exact Nat.zero_add _ | rfl)) ?_
            refine d_one 11 (by kernel_rfl) rfl rfl (d_store Tryz.sizeOf167 rfl rfl rfl (Nat.le_of_ble_eq_true rfl) SetL.eq) rfl ?_; clear hS
            rintro _ _ rfl
            refine ⟨(sc_own sc_end), fun hS => ?_⟩
            refine d_done (by kernel_rfl) ?_; clear hS
            refine n_block (n_then (x_region ?_))
            refine s_val rfl (v_add rfl rfl (by first | exact w64 (by omega) | rfl)) ?_
            refine s_val rfl (v_move rfl) (x_nil (n_then ?_))
            refine inv_intro (i + 1, a3, c3) ?_ ?_ ?_ ?_
            · refine ⟨by omega, fun j hj h => ?_⟩
              rcases Nat.lt_or_ge j i with q | q
              · exact hjs j hj q
              · obtain rfl : j = i := by omega
                exact hlb
            · omega
            · repeat (first | exact sub_nil | refine sub_cons rfl ?_)
            · dsimp only
              rw [htk, List.flatMap_append]
              show Ent _ (pt p (cob [.slice a3 (i + 1) c3, .bool true] 169) :: osl 171 3 (.slice a3 (i + 1) c3) (((l.take i).flatMap fun x => [.int .i64 x.1, .int .i64 x.2, nilS]) ++ [[.int .i64 l[i].1, .int .i64 l[i].2, .slice none 0 0]].flatten) :: R)
              exact inferInstance
      · intro c5
        refine x_exit (e_then (e_then (e_block (n_then (x_seq (x_region (s_val rfl (v_move rfl) (s_val rfl (v_assign rfl) (s_val rfl (v_assign rfl) (x_nil (n_then (x_ret (x_done (.inl rfl) (.cons (r_tmp rfl) (.cons (r_tmp rfl) .nil)) ?_)))))))))))))
        obtain rfl : i = l.length := by omega
        exact absurd (nwB_all hn fun j hj => hjs j hj hj) hno
theorem prOut_spec (W0 : World) (R : List HP) (p : Nat) (ps : List Prt) (hok : PrOk ps) (i : Int) :
    Spec Tryz.prog W0 37 [.pointer (some ⟨p, 0, none⟩), .int .i64 i] (portsH p ps :: R)
      (fun v B => ∃ a c, v = .slice a (ouP ps i).length c ∧ B = osl 9 1 (.slice a (ouP ps i).length c) (strs (ouP ps i)) :: portsH p ps :: R) := by
  by_cases hb : 0 ≤ i ∧ i < ps.length
  · obtain ⟨k, rfl, hk⟩ : ∃ k : Nat, i = (k : Int) ∧ k < ps.length := ⟨i.toNat, by omega, by omega⟩
    have hlk := hok.at_ hk
    have hmk := mostP_le (ps.getD k default)
    have hw : ouP ps k = if (ps.getD k default).gu = -1 then (ps.getD k default).l else [] := by
      rw [ouP, inR, decide_eq_true hb, if_pos rfl]; rfl
    refine spec_body Tryz.func37 Tryz.ntmps37 rfl rfl ?_
    refine x_seq (x_region (s_val rfl (v_assign rfl) (x_nil (n_then (x_seq ?_)))))
    refine run_portN (p := p) hk fun g c sp vs ai ci hv hvi h1 h2 h3 => ?_
    have hrk := pr_row (sp := sp) hv hk hvi
    have hck : Cells (OwnP W0 (pt p (cob [.slice (some ⟨g, 0, none⟩) ps.length c, .bool true] 169) :: pt g (cob ((vs.zip ps).flatMap prV ++ sp) 171) :: osl 9 1 (.slice ai (ps.getD k default).l.length ci) (strs (ps.getD k default).l) :: kH 3 (grp (((vs.zip ps).map inS).eraseIdx k)) :: R)) g (k * 3) [.int .i64 (ps.getD k default).lab, .int .i64 (ps.getD k default).gu, .slice ai (ps.getD k default).l.length ci] := cells_part hrk rfl
    refine x_region (s_val rfl (v_move rfl) (s_val rfl (v_move rfl) (s_do rfl (d_call1 Tryz.call121 rfl (prAt_ok W0 _ p g ps.length c k hk)) ?_)))
    rintro _ B_ ⟨rfl, hB_⟩
    obtain rfl := hB_.symm
    refine s_val rfl (v_assign rfl) (x_nil (n_then (x_seq (x_seq (x_region (s_val rfl (v_move rfl) (s_val rfl (v_eql_ptr_nil Tryz.underlying179 rfl rfl) (s_val rfl (v_move rfl) ?_))))))))
    refine s_or rfl rfl rfl ?_ ?_
    · intro g2_3
      cases g2_3
    · intro g2_3
      refine s_val rfl (v_move rfl) (s_yes rfl rfl (s_val rfl (v_nilCheck rfl) (s_yes rfl rfl ?_)))
      refine s_val rfl (v_fieldAddr rfl Tryz.underlying171 rfl Tryz.sizeOf125 rfl (by first | exact Nat.zero_add _ | rfl)) ?_
      refine s_yes rfl rfl ?_
      refine s_val rfl (v_fieldAddr rfl Tryz.underlying125 rfl Tryz.sizeOf3 rfl (by first | exact Nat.zero_add _ | rfl)) ?_
      refine s_yes rfl rfl (s_val rfl (v_load Tryz.isAgg3 rfl (Cells.weak hck 1 _ rfl)) ?_)
      refine s_yes rfl rfl (s_val rfl (v_neq rfl rfl) (s_val rfl (v_pick_f rfl rfl) (x_nil (n_then ?_))))
      refine x_if rfl ?_ ?_
      · intro c2
        refine x_seq (x_region (s_val rfl (v_assign rfl) (x_nil (n_then (x_ret (r_then (x_done (.inl rfl) (.cons (r_tmp rfl) .nil) ?_)))))))
        rw [hw, if_neg c2]
        exact ⟨_, ⟨none, 0, rfl, rfl⟩, (ent_portS (p := p) (B := R) hv hvi rfl hk h1 h2 h3).trans ent_osl_nil⟩
      · intro c2
        have hg : (ps.getD k default).gu = -1 := Decidable.not_not.1 c2
        refine x_skip (n_then (x_seq ?_))
        refine run_sla (E := 9) (sz := 1) (a := ai) (n := (ps.getD k default).l.length) (c := ci) (fun s => [sV s]) (ps.getD k default).l (fun _ => rfl) (by decide) (strs_flat _) (fun hs => ?_)
        refine x_region (s_val rfl (v_move rfl) (s_val rfl (v_nilCheck rfl) ?_))
        refine s_val rfl (v_fieldAddr rfl Tryz.underlying171 rfl Tryz.sizeOf50 rfl (by first | exact Nat.zero_add _ | rfl)) ?_
        refine s_val rfl (v_load Tryz.isAgg50 rfl (Cells.weak hck 2 _ rfl)) ?_
        refine s_do rfl (d_call Tryz.call122 rfl (cloneStr_spec W0 _ (ps.getD k default).l ai (ps.getD k default).l.length ci rfl (by omega) hs)) ?_
        rintro _ B_ ⟨a2, cc, rfl, hB_⟩
        obtain rfl := hB_.symm
        refine s_val rfl (v_assign rfl) (x_nil (n_then (x_ret (x_done (.inl rfl) (.cons (r_tmp rfl) .nil) ?_))))
        rw [hw, if_pos hg]
        exact ⟨_, ⟨a2, cc, rfl, rfl⟩, Ent.cons (ent_portS (p := p) (ps := ps) hv hvi rfl hk h1 h2 h3)⟩
  · have hw : ouP ps i = [] := by rw [ouP, inR, decide_eq_false hb, if_neg (by decide)]
    rw [hw]
    refine spec_body Tryz.func37 Tryz.ntmps37 rfl rfl ?_
    refine x_seq (x_region (s_val rfl (v_assign rfl) (x_nil (n_then (x_seq ?_)))))
    refine run_ports (p := p) fun a c vs hv => ?_
    refine x_region (s_val rfl (v_move rfl) (s_val rfl (v_move rfl) (s_do rfl (d_call1 Tryz.call121 rfl (prAt_no W0 _ p ps.length c a i hb)) ?_)))
    rintro _ B_ ⟨rfl, hB_⟩
    obtain rfl := hB_.symm
    refine s_val rfl (v_assign rfl) (x_nil (n_then (x_seq (x_seq (x_region (s_val rfl (v_move rfl) (s_val rfl (v_eql_ptr_nil Tryz.underlying179 rfl rfl) (s_val rfl (v_move rfl) ?_))))))))
    refine s_or rfl rfl rfl ?_ ?_
    · intro g2_3
      refine s_no rfl rfl rfl rfl (s_no rfl rfl rfl rfl (s_no rfl rfl rfl rfl (s_no rfl rfl rfl rfl (s_no rfl rfl rfl rfl (s_val rfl (v_pick_t rfl rfl) (x_nil (n_then (x_ift rfl (x_seq (x_region (s_val rfl (v_assign rfl) (x_nil (n_then (x_ret (r_then (x_done (.inl rfl) (.cons (r_tmp rfl) .nil) ?_))))))))))))))))
      exact ⟨_, ⟨none, 0, rfl, rfl⟩, (ent_ports (p := p) (ps := ps) (B := R) hv rfl).trans ent_osl_nil⟩
    · intro g2_3
      exact absurd rfl g2_3
theorem newP_snoc {l : List Pt2} {i : Nat} (hi : i < l.length) : newP (l.take (i + 1)) = newP (l.take i) ++ [⟨l[i].1, l[i].2, []⟩] := by
  rw [newP, newP, List.take_succ_eq_append_getElem hi, List.map_append]; rfl
theorem inQ_nil (x y : Int) : inQ ⟨x, y, []⟩ = [] := by unfold inQ; split <;> rfl
theorem ouQ_nil (x y : Int) : ouQ ⟨x, y, []⟩ = [] := by unfold ouQ; split <;> rfl
theorem rpNew_spec (W0 : World) (R : List HP) (l : List Pt2) (a : Option Addr) (n c : Nat) (hln : l.length = n) (hs : SlA (OwnP W0 R) a 2 ptV2 l) :
    Spec Tryz.prog W0 26 [.slice a n c] R (fun v B => (nwB l = true ∧ ∃ p, v = .tuple #[.pointer (some ⟨p, 0, none⟩), .int .i64 0] ∧ B = rpH p (newP l) :: R) ∨ (nwB l = false ∧ v = .tuple #[.pointer none, .int .i64 15] ∧ B = R)) := by
  subst hln
  refine spec_body Tryz.func26 Tryz.ntmps26 rfl rfl ?_
  refine x_seq (x_region (s_val rfl (v_assign rfl) (s_val rfl (v_assign rfl) (x_nil (n_then (x_seq (x_seq (x_region (s_val rfl (v_move rfl) (s_val rfl (v_len_slice Tryz.underlying24 rfl) (s_val rfl (v_gtr rfl rfl) (x_nil (n_then ?_)))))))))))))
  refine x_if rfl ?_ ?_
  · intro c1
    refine x_seq (x_region (s_val rfl (v_assign rfl) (s_val rfl (v_assign rfl) (x_nil (n_then (x_ret (r_then (x_done (.inl rfl) (.cons (r_tmp rfl) (.cons (r_tmp rfl) .nil)) ?_))))))))
    have h0 : nwB l = false := by rw [nwB, decide_eq_false (by omega), Bool.false_and]
    exact ⟨_, .inr ⟨h0, rfl, rfl⟩, inferInstance⟩
  · intro c1
    have hn : l.length ≤ 8 := by omega
    refine x_skip (n_then (x_seq (x_region (s_val rfl (v_build Tryz.underlying174 Tryz.zeroValue174 (sized_cons Tryz.sizeOf24 (sized_cons Tryz.sizeOf172 (sized_cons Tryz.sizeOf172 sized_nil))) fil_nil) ?_))))
    refine s_do rfl (d_boxA rfl) ?_
    rintro _ _ ⟨p, rfl, rfl⟩
    refine s_val rfl (v_assign rfl) (x_nil (n_then (x_seq (x_seq (x_region (s_val rfl (v_assign rfl) (x_nil (n_then (x_block ?_)))))))))
    refine x_loop (fun i : Nat => i ≤ l.length ∧ ∀ j (hj : j < l.length), j < i → isL l[j].1 = true) (fun i => [(0, .slice a l.length c), (4, .pointer (some ⟨p, 0, none⟩)), (5, .int .i64 i)]) (fun i => rpH p (newP (l.take i)) :: R) (fun i => l.length - i) 0 ?_ ?_ ?_ ?_
    · exact ⟨Nat.zero_le _, fun j _ hj => absurd hj (Nat.not_lt_zero _)⟩
    · repeat (first | exact sub_nil | refine sub_cons rfl ?_)
    · have e1 : Ent (pt p (cob [.slice none 0 0, .slice none 0 0, .slice none 0 0] 174) :: R) (ssH (.slice none 0 0) [] :: pt p (cob [.slice none 0 0, .slice none 0 0, .slice none 0 0] 174) :: R) := ent_ss_nil
      have e2 : Ent (ssH (.slice none 0 0) [] :: pt p (cob [.slice none 0 0, .slice none 0 0, .slice none 0 0] 174) :: R) (ssH (.slice none 0 0) [] :: ssH (.slice none 0 0) [] :: pt p (cob [.slice none 0 0, .slice none 0 0, .slice none 0 0] 174) :: R) := ent_ss_nil
      have e3 : Ent (ssH (.slice none 0 0) [] :: ssH (.slice none 0 0) [] :: pt p (cob [.slice none 0 0, .slice none 0 0, .slice none 0 0] 174) :: R) (osl 125 2 (.slice none 0 0) [] :: ssH (.slice none 0 0) [] :: ssH (.slice none 0 0) [] :: pt p (cob [.slice none 0 0, .slice none 0 0, .slice none 0 0] 174) :: R) := ent_osl_nil
      have e4 : Ent (osl 125 2 (.slice none 0 0) [] :: ssH (.slice none 0 0) [] :: ssH (.slice none 0 0) [] :: pt p (cob [.slice none 0 0, .slice none 0 0, .slice none 0 0] 174) :: R) (rpH p [] :: R) := ent_rp rfl rfl rfl rfl rfl rfl
      exact e1.trans (e2.trans (e3.trans e4))
    · intro i ⟨hi, hjs⟩
      refine x_seq (x_seq (x_region (s_val rfl (v_move rfl) (s_val rfl (v_move rfl) (s_val rfl (v_len_slice Tryz.underlying24 rfl) (s_val rfl (v_lss rfl rfl) (x_nil (n_then ?_))))))))
      refine x_if rfl ?_ ?_
      · intro c5
        have hi1 : i < l.length := by omega
        obtain ⟨g, o, rfl, hc⟩ := hs.at_ hi1
        have hln : (newP (l.take i)).length = i := by rw [newP_len, List.length_take]; omega
        refine x_skip (n_then (x_seq (x_block (x_seq (x_seq (x_region (s_val rfl (v_move rfl) (s_val rfl (v_move rfl) ?_))))))))
        refine s_val rfl (v_idx Tryz.underlying24 Tryz.sizeOf125 rfl rfl rfl hi1 (by first | exact Nat.zero_add _ | rfl)) ?_
        refine s_val rfl (v_fieldAddr rfl Tryz.underlying125 rfl Tryz.sizeOf3 rfl (by first | exact Nat.zero_add _ | rfl)) ?_
        refine s_val rfl (v_load Tryz.isAgg3 rfl (Cells.weak hc 0 _ rfl)) ?_
        refine s_do rfl (d_call Tryz.call96 rfl (rlIs_spec W0 _ l[i].1)) ?_
        rintro _ B_ ⟨rfl, hB_⟩
        obtain rfl := hB_.symm
        refine s_val rfl (v_not rfl) (x_nil (n_then ?_))
        refine x_if rfl ?_ ?_
        · intro c7
          refine x_seq (x_region (s_val rfl (v_assign rfl) (s_val rfl (v_assign rfl) (x_nil (n_then (x_ret (r_then (r_block (r_then (r_then (r_block (r_then (x_done (.inl rfl) (.cons (r_tmp rfl) (.cons (r_tmp rfl) .nil)) ?_)))))))))))))
          exact ⟨_, .inr ⟨nwB_no hi1 (by simpa using c7), rfl, rfl⟩, inferInstance⟩
        · intro c7
          have hlb : isL l[i].1 = true := by simpa using c7
          refine x_skip (n_then (x_seq ?_))
          refine run_rp (p := p) fun aP cP aI cI aO cO => ?_
          simp only [rpO, hln]
          refine x_draw [(g, o + i * 2, ptV2 l[i])] 14 mixed rfl (sc_cons hc.weak sc_end) (fun hS => ?_)
          refine d_take 0 rfl rfl (by kernel_rfl) (by kernel_rfl) (by kernel_rfl) rfl hS (v_move rfl) ?_
          refine d_take 1 rfl rfl (by kernel_rfl) (by kernel_rfl) (by kernel_rfl) rfl hS (v_move rfl) ?_
          refine d_take 2 rfl rfl (by kernel_rfl) (by kernel_rfl) (by kernel_rfl) rfl hS (v_nilCheck rfl) ?_
          refine d_take 3 rfl rfl (by kernel_rfl) (by kernel_rfl) (by kernel_rfl) rfl hS (v_fieldAddr rfl Tryz.underlying174 rfl Tryz.sizeOf24 rfl (by first | exact Nat.zero_add _ | rfl)) ?_
          refine d_take 5 rfl rfl (by kernel_rfl) (by kernel_rfl) (by kernel_rfl) rfl hS (v_move rfl) ?_
          refine d_take 6 rfl rfl (by kernel_rfl) (by kernel_rfl) (by kernel_rfl) rfl hS (v_move rfl) ?_
          refine d_take 7 rfl rfl (by kernel_rfl) (by kernel_rfl) (by kernel_rfl) rfl hS (v_idx Tryz.underlying24 Tryz.sizeOf125 rfl rfl rfl hi1 (by first | exact Nat.zero_add _ | rfl)) ?_
          refine d_take 8 rfl rfl (by kernel_rfl) (by kernel_rfl) (by kernel_rfl) rfl hS (v_loadAgg Tryz.isAgg125 Tryz.sizeOf125 rfl (cells_sc (k := 0) rfl) rfl) ?_
          refine d_all (is := [4, 9]) (by kernel_rfl) rfl ⟨?_, ?_, trivial⟩
          · skip
            refine dx_one rfl rfl (d_val (v_load Tryz.isAgg24 rfl (cell_own rfl))) rfl ?_; clear hS
            rintro _ _ ⟨rfl, rfl⟩
            refine ⟨(sc_cons hc.weak sc_end), fun hS => ?_⟩
            refine d_one 9 (by kernel_rfl) rfl rfl (d_sliceAgg Tryz.underlying24 Tryz.sizeOf125 Tryz.zeroValue125 rfl (elsK_cons rfl rfl elsK_nil) rfl (by decide) (by decide) (by decide)) rfl ?_; clear hS
            rintro _ _ ⟨b2, rfl, rfl⟩
            refine ⟨(sc_cons hc.weak sc_end), fun hS => ?_⟩
            refine d_one 10 (by kernel_rfl) rfl rfl (d_append (sz := 2) (by_ := 16) (info := Tryz.t125) Tryz.underlying24 (by kernel_rfl) rfl rfl rfl rfl (by decide) rfl rfl cells_all rfl rfl (by simp only [maxLen]; omega) (by omega)) rfl ?_; clear hS
            rintro _ _ ⟨a6, k6, rfl, rfl⟩
            refine ⟨(sc_cons hc.weak sc_end), fun hS => ?_⟩
            refine d_take 11 rfl rfl (by kernel_rfl) (by kernel_rfl) (by kernel_rfl) rfl hS (v_nilCheck rfl) ?_
            refine d_take 12 rfl rfl (by kernel_rfl) (by kernel_rfl) (by kernel_rfl) rfl hS (v_fieldAddr rfl Tryz.underlying174 rfl Tryz.sizeOf24 rfl (by first | exact Nat.zero_add _ | rfl)) ?_
            refine d_one 13 (by kernel_rfl) rfl rfl (d_store Tryz.sizeOf24 rfl rfl rfl (Nat.le_of_ble_eq_true rfl) SetL.eq) rfl ?_; clear hS
            rintro _ _ rfl
            refine ⟨(sc_cons hc.weak sc_end), fun hS => ?_⟩
            refine d_done (by kernel_rfl) ?_; clear hS
            refine n_then (x_seq ?_)
            refine run_ss (v := .slice aI i cI) fun vI hvI => ?_
            refine x_region (s_val rfl (v_move rfl) (s_val rfl (v_move rfl) (s_val rfl (v_nilCheck rfl) ?_)))
            refine s_val rfl (v_fieldAddr rfl Tryz.underlying174 rfl Tryz.sizeOf172 rfl (by first | exact Nat.zero_add _ | rfl)) ?_
            refine s_val rfl (v_load Tryz.isAgg172 rfl (cell_own rfl)) ?_
            refine s_do rfl (d_sliceLit Tryz.underlying172 Tryz.sizeOf50 Tryz.zeroValue50 rfl rfl rfl rfl rfl (by decide) (by decide)) ?_
            rintro _ _ ⟨b3, rfl, rfl⟩
            refine s_do rfl (d_append (sz := 1) (by_ := 24) (info := Tryz.t50) Tryz.underlying172 (by kernel_rfl) rfl rfl rfl rfl (by decide) rfl rfl cells_all rfl rfl (by simp only [maxLen]; omega) (by omega)) ?_
            rintro _ _ ⟨a7, k7, rfl, rfl⟩
            refine s_val rfl (v_nilCheck rfl) ?_
            refine s_val rfl (v_fieldAddr rfl Tryz.underlying174 rfl Tryz.sizeOf172 rfl (by first | exact Nat.zero_add _ | rfl)) ?_
            refine s_do0 (d_store Tryz.sizeOf172 rfl rfl rfl (Nat.le_of_ble_eq_true rfl) SetL.eq) ?_
            rintro _ _ rfl
            refine x_nil (n_then (run_ssS (v := .slice a7 (i + 1) k7) (vs := vI) rfl hvI ?_))
            refine run_ss (v := .slice aO i cO) fun vO hvO => ?_
            refine x_region (s_val rfl (v_move rfl) (s_val rfl (v_move rfl) (s_val rfl (v_nilCheck rfl) ?_)))
            refine s_val rfl (v_fieldAddr rfl Tryz.underlying174 rfl Tryz.sizeOf172 rfl (by first | exact Nat.zero_add _ | rfl)) ?_
            refine s_val rfl (v_load Tryz.isAgg172 rfl (cell_own rfl)) ?_
            refine s_do rfl (d_sliceLit Tryz.underlying172 Tryz.sizeOf50 Tryz.zeroValue50 rfl rfl rfl rfl rfl (by decide) (by decide)) ?_
            rintro _ _ ⟨b4, rfl, rfl⟩
            refine s_do rfl (d_append (sz := 1) (by_ := 24) (info := Tryz.t50) Tryz.underlying172 (by kernel_rfl) rfl rfl rfl rfl (by decide) rfl rfl cells_all rfl rfl (by simp only [maxLen]; omega) (by omega)) ?_
            rintro _ _ ⟨a8, k8, rfl, rfl⟩
            refine s_val rfl (v_nilCheck rfl) ?_
            refine s_val rfl (v_fieldAddr rfl Tryz.underlying174 rfl Tryz.sizeOf172 rfl (by first | exact Nat.zero_add _ | rfl)) ?_
            refine s_do0 (d_store Tryz.sizeOf172 rfl rfl rfl (Nat.le_of_ble_eq_true rfl) SetL.eq) ?_
            rintro _ _ rfl
            refine x_nil (n_block (n_then (run_ssS (v := .slice a8 (i + 1) k8) (vs := vO) rfl hvO ?_)))
            refine x_region (s_val rfl (v_move rfl) ?_)
            refine s_val rfl (v_add rfl rfl (by first | exact w64 (by omega) | rfl)) ?_
            refine s_val rfl (v_assign rfl) (x_nil (n_then ?_))
            refine inv_intro (i + 1) ?_ ?_ ?_ ?_
            · refine ⟨by omega, fun j hj h => ?_⟩
              rcases Nat.lt_or_ge j i with q | q
              · exact hjs j hj q
              · obtain rfl : j = i := by omega
                exact hlb
            · omega
            · repeat (first | exact sub_nil | refine sub_cons rfl ?_)
            · rw [newP_snoc hi1]
              exact ent_rp (by rw [List.flatMap_append]; rfl) (by rw [List.map_append, List.map_cons, List.map_nil, inQ_nil]) (by rw [List.map_append, List.map_cons, List.map_nil, ouQ_nil]) (by rw [List.length_append, hln]; rfl) (by rw [List.length_append, hln]; rfl) (by rw [List.length_append, hln]; rfl)
          · skip
            refine dx_one rfl rfl (d_sliceAgg Tryz.underlying24 Tryz.sizeOf125 Tryz.zeroValue125 rfl (elsK_cons rfl rfl elsK_nil) rfl (by decide) (by decide) (by decide)) rfl ?_; clear hS
            rintro _ _ ⟨b2, rfl, rfl⟩
            refine ⟨(sc_cons hc.weak sc_end), fun hS => ?_⟩
            refine d_one 4 (by kernel_rfl) rfl rfl (d_val (v_load Tryz.isAgg24 rfl (cell_own rfl))) rfl ?_; clear hS
            rintro _ _ ⟨rfl, rfl⟩
            refine ⟨(sc_cons hc.weak sc_end), fun hS => ?_⟩
            refine d_one 10 (by kernel_rfl) rfl rfl (d_append (sz := 2) (by_ := 16) (info := Tryz.t125) Tryz.underlying24 (by kernel_rfl) rfl rfl rfl rfl (by decide) rfl rfl cells_all rfl rfl (by simp only [maxLen]; omega) (by omega)) rfl ?_; clear hS
            rintro _ _ ⟨a6, k6, rfl, rfl⟩
            refine ⟨(sc_cons hc.weak sc_end), fun hS => ?_⟩
            refine d_take 11 rfl rfl (by kernel_rfl) (by kernel_rfl) (by kernel_rfl) rfl hS (v_nilCheck rfl) ?_
            refine d_take 12 rfl rfl (by kernel_rfl) (by kernel_rfl) (by kernel_rfl) rfl hS (v_fieldAddr rfl Tryz.underlying174 rfl Tryz.sizeOf24 rfl (by first | exact Nat.zero_add _ | rfl)) ?_
            refine d_one 13 (by kernel_rfl) rfl rfl (d_store Tryz.sizeOf24 rfl rfl rfl (Nat.le_of_ble_eq_true rfl) SetL.eq) rfl ?_; clear hS
            rintro _ _ rfl
            refine ⟨(sc_cons hc.weak sc_end), fun hS => ?_⟩
            refine d_done (by kernel_rfl) ?_; clear hS
            refine n_then (x_seq ?_)
            refine run_ss (v := .slice aI i cI) fun vI hvI => ?_
            refine x_region (s_val rfl (v_move rfl) (s_val rfl (v_move rfl) (s_val rfl (v_nilCheck rfl) ?_)))
            refine s_val rfl (v_fieldAddr rfl Tryz.underlying174 rfl Tryz.sizeOf172 rfl (by first | exact Nat.zero_add _ | rfl)) ?_
            refine s_val rfl (v_load Tryz.isAgg172 rfl (cell_own rfl)) ?_
            refine s_do rfl (d_sliceLit Tryz.underlying172 Tryz.sizeOf50 Tryz.zeroValue50 rfl rfl rfl rfl rfl (by decide) (by decide)) ?_
            rintro _ _ ⟨b3, rfl, rfl⟩
            refine s_do rfl (d_append (sz := 1) (by_ := 24) (info := Tryz.t50) Tryz.underlying172 (by kernel_rfl) rfl rfl rfl rfl (by decide) rfl rfl cells_all rfl rfl (by simp only [maxLen]; omega) (by omega)) ?_
            rintro _ _ ⟨a7, k7, rfl, rfl⟩
            refine s_val rfl (v_nilCheck rfl) ?_
            refine s_val rfl (v_fieldAddr rfl Tryz.underlying174 rfl Tryz.sizeOf172 rfl (by first | exact Nat.zero_add _ | rfl)) ?_
            refine s_do0 (d_store Tryz.sizeOf172 rfl rfl rfl (Nat.le_of_ble_eq_true rfl) SetL.eq) ?_
            rintro _ _ rfl
            refine x_nil (n_then (run_ssS (v := .slice a7 (i + 1) k7) (vs := vI) rfl hvI ?_))
            refine run_ss (v := .slice aO i cO) fun vO hvO => ?_
            refine x_region (s_val rfl (v_move rfl) (s_val rfl (v_move rfl) (s_val rfl (v_nilCheck rfl) ?_)))
            refine s_val rfl (v_fieldAddr rfl Tryz.underlying174 rfl Tryz.sizeOf172 rfl (by first | exact Nat.zero_add _ | rfl)) ?_
            refine s_val rfl (v_load Tryz.isAgg172 rfl (cell_own rfl)) ?_
            refine s_do rfl (d_sliceLit Tryz.underlying172 Tryz.sizeOf50 Tryz.zeroValue50 rfl rfl rfl rfl rfl (by decide) (by decide)) ?_
            rintro _ _ ⟨b4, rfl, rfl⟩
            refine s_do rfl (d_append (sz := 1) (by_ := 24) (info := Tryz.t50) Tryz.underlying172 (by kernel_rfl) rfl rfl rfl rfl (by decide) rfl rfl cells_all rfl rfl (by simp only [maxLen]; omega) (by omega)) ?_
            rintro _ _ ⟨a8, k8, rfl, rfl⟩
            refine s_val rfl (v_nilCheck rfl) ?_
            refine s_val rfl (v_fieldAddr rfl Tryz.underlying174 rfl Tryz.sizeOf172 rfl (by first | exact Nat.zero_add _ | rfl)) ?_
            refine s_do0 (d_store Tryz.sizeOf172 rfl rfl rfl (Nat.le_of_ble_eq_true rfl) SetL.eq) ?_
            rintro _ _ rfl
            refine x_nil (n_block (n_then (run_ssS (v := .slice a8 (i + 1) k8) (vs := vO) rfl hvO ?_)))
            refine x_region (s_val rfl (v_move rfl) ?_)
            refine s_val rfl (v_add rfl rfl (by first | exact w64 (by omega) | rfl)) ?_
            refine s_val rfl (v_assign rfl) (x_nil (n_then ?_))
            refine inv_intro (i + 1) ?_ ?_ ?_ ?_
            · refine ⟨by omega, fun j hj h => ?_⟩
              rcases Nat.lt_or_ge j i with q | q
              · exact hjs j hj q
              · obtain rfl : j = i := by omega
                exact hlb
            · omega
            · repeat (first | exact sub_nil | refine sub_cons rfl ?_)
            · rw [newP_snoc hi1]
              exact ent_rp (by rw [List.flatMap_append]; rfl) (by rw [List.map_append, List.map_cons, List.map_nil, inQ_nil]) (by rw [List.map_append, List.map_cons, List.map_nil, ouQ_nil]) (by rw [List.length_append, hln]; rfl) (by rw [List.length_append, hln]; rfl) (by rw [List.length_append, hln]; rfl)
      · intro c5
        refine x_exit (e_then (e_then (e_block (n_then (x_seq (x_region (s_val rfl (v_move rfl) (s_val rfl (v_assign rfl) (s_val rfl (v_assign rfl) (x_nil (n_then (x_ret (x_done (.inl rfl) (.cons (r_tmp rfl) (.cons (r_tmp rfl) .nil)) ?_)))))))))))))
        obtain rfl : i = l.length := by omega
        rw [List.take_of_length_le (Nat.le_refl _)]
        exact ⟨_, .inl ⟨nwB_all hn fun j hj => hjs j hj hj, p, rfl, rfl⟩, inferInstance⟩
end Go.Proofs.YtlnmofhehcilhaaGreat
namespace Go.Proofs.YtlnmofhehcilhaaGreat
set_option linter.unusedSimpArgs false
set_option linter.unusedVariables false
def bV (b : Nat) : Value := .int .u8 (b : Int)
def byV (l : List Nat) : List Value := l.map bV
theorem byV_len (l : List Nat) : (byV l).length = l.length := by simp [byV]
theorem byV_get (l : List Nat) (i : Nat) (h : i < l.length) : (byV l)[i]? = some (bV l[i]) := by simp [byV, h]
theorem byV_append (a b : List Nat) : byV (a ++ b) = byV a ++ byV b := by simp [byV]
theorem byV_one (l : List Nat) : allOne (byV l) = true := by simp [allOne, byV, bV, Value.oneCell']
def By (l : List Nat) : Prop := ∀ b ∈ l, b < 256
theorem By.get {l : List Nat} (h : By l) {i : Nat} (hi : i < l.length) : l[i] < 256 := h _ (List.getElem_mem hi)
def leN : List Nat → Nat
  | [] => 0
  | b :: bs => b + 256 * leN bs
theorem leN_lt : ∀ {l : List Nat}, By l → leN l < 256 ^ l.length
  | [], _ => by simp [leN]
  | b :: bs, h => by
    have h1 := h b (by simp)
    have h2 := leN_lt (l := bs) fun x hx => h x (by simp [hx])
    simp only [leN, List.length_cons, Nat.pow_succ]; omega
theorem leN_snoc : ∀ (l : List Nat) (b : Nat), leN (l ++ [b]) = leN l + 256 ^ l.length * b
  | [], b => by simp [leN]
  | x :: l, b => by
    simp only [List.cons_append, leN, leN_snoc l b, List.length_cons, Nat.pow_succ]
    rw [Nat.mul_add, Nat.add_assoc, ← Nat.mul_assoc, Nat.mul_comm 256 (256 ^ l.length)]
theorem leN_take {l : List Nat} {i : Nat} (h : i < l.length) : leN (l.take (i + 1)) = leN (l.take i) + 256 ^ i * l[i] := by
  rw [List.take_succ_eq_append_getElem h, leN_snoc, List.length_take, Nat.min_eq_left (by omega)]
theorem By.take {l : List Nat} (h : By l) (i : Nat) : By (l.take i) := fun b hb => h b (List.mem_of_mem_take hb)
theorem By.drop {l : List Nat} (h : By l) (i : Nat) : By (l.drop i) := fun b hb => h b (List.mem_of_mem_drop hb)
theorem By.append {a b : List Nat} (h : By a) (k : By b) : By (a ++ b) := fun x hx => by
  rcases List.mem_append.1 hx with h' | h'
  · exact h x h'
  · exact k x h'
theorem pow256 (i : Nat) : 256 ^ i = 2 ^ (8 * i) := by rw [Nat.pow_mul]
theorem pow_le3 {i : Nat} (h : i ≤ 3) : 256 ^ i ≤ 16777216 := by
  match i, h with
  | 0, _ | 1, _ | 2, _ | 3, _ => decide
theorem shl_byte {b i : Nat} (hb : b < 256) (hi : i ≤ 3) : bShl .u32 (b : Int) ((8 * i : Nat) : Int) = ((256 ^ i * b : Nat) : Int) := by
  unfold bShl
  have h1 : min ((8 * i : Nat) : Int).toNat IntKind.u32.bits = 8 * i := by simp [IntKind.bits]; omega
  rw [h1]
  have h2 : (b : Int) * 2 ^ (8 * i) = ((256 ^ i * b : Nat) : Int) := by rw [pow256]; push_cast; exact Int.mul_comm _ _
  rw [h2]
  have := pow_le3 hi
  have h3 : 256 ^ i * b ≤ 16777216 * 255 := Nat.mul_le_mul this (by omega)
  exact w32u (by omega)
theorem or_byte {a b i : Nat} (ha : a < 256 ^ i) (hb : b < 256) (hi : i ≤ 3) : bOr .u32 (a : Int) ((256 ^ i * b : Nat) : Int) = ((a + 256 ^ i * b : Nat) : Int) := by
  have := pow_le3 hi
  have h3 : 256 ^ i * b ≤ 16777216 * 255 := Nat.mul_le_mul this (by omega)
  rw [bOr_u32 (by omega) (by omega)]
  congr 1
  rw [pow256] at ha ⊢
  have := Nat.two_pow_add_eq_or_of_lt (i := 8 * i) (b := a) ha b
  rw [Nat.or_comm, ← this, Nat.add_comm]
theorem add_byte {a b i : Nat} (ha : a < 256 ^ i) (hb : b < 256) (hi : i ≤ 3) : IntKind.wrap .u32 ((a : Int) + ((256 ^ i * b : Nat) : Int)) = ((a + 256 ^ i * b : Nat) : Int) := by
  have := pow_le3 hi
  have h3 : 256 ^ i * b ≤ 256 ^ i * 255 := Nat.mul_le_mul_left _ (by omega)
  have h4 : 256 ^ i * 256 ≤ 16777216 * 256 := Nat.mul_le_mul_right _ this
  rw [w32u (by omega)]; omega
def leB (n w : Nat) : List Nat := (List.range n).map fun i => w / 256 ^ i % 256
theorem leB_len (n w : Nat) : (leB n w).length = n := by simp [leB]
theorem leB_by (n w : Nat) : By (leB n w) := fun b hb => by
  obtain ⟨i, _, rfl⟩ := List.mem_map.1 hb
  exact Nat.mod_lt _ (by decide)
theorem leB_succ (n w : Nat) : leB (n + 1) w = leB n w ++ [w / 256 ^ n % 256] := by simp [leB, List.range_succ]
theorem byte_of {w i : Nat} (hi : 8 * i ≤ 32) : IntKind.wrap .u8 (bShr .u32 (w : Int) ((8 * i : Nat) : Int)) = ((w / 256 ^ i % 256 : Nat) : Int) := by
  rw [bShr_nat (by simpa [IntKind.bits] using hi), ← pow256]
  simp only [IntKind.wrap, IntKind.bits, IntKind.signed]
  simp
def putB (l : List Nat) (at_ n w : Nat) : List Nat := l.take at_ ++ leB n w ++ l.drop (at_ + n)
theorem putB_len {l : List Nat} {at_ n w : Nat} (h : at_ + n ≤ l.length) : (putB l at_ n w).length = l.length := by simp [putB, leB_len]; omega
theorem putB_by {l : List Nat} {at_ n w : Nat} (h : By l) : By (putB l at_ n w) := ((h.take _).append (leB_by _ _)).append (h.drop _)
theorem setR_snoc : ∀ (vs l : List Value) (off : Nat) (v : Value), setR l off (vs ++ [v]) = (setR l off vs).set (off + vs.length) v
  | [], l, off, v => by simp [setR]
  | u :: vs, l, off, v => by
    rw [List.cons_append, setR, setR, setR_snoc vs]
    congr 1; simp; omega
theorem setR_byV {l : List Nat} {at_ n w : Nat} (h : at_ + n ≤ l.length) : setR (byV l) at_ (byV (leB n w)) = byV (putB l at_ n w) := by
  rw [setR_eq _ _ _ (by rw [byV_len, byV_len, leB_len]; exact h), byV_len, leB_len]
  simp [putB, byV, List.map_take, List.map_drop]
theorem setR_front : ∀ (vs a b : List Value) (off : Nat), off + vs.length ≤ a.length → setR (a ++ b) off vs = setR a off vs ++ b
  | [], a, b, off, _ => rfl
  | v :: vs, a, b, off, h => by
    simp only [List.length_cons] at h
    rw [setR, setR, List.set_append_left _ _ (by omega), setR_front vs _ b (off + 1) (by simp; omega)]
def inB (n : Nat) (at_ w : Int) : Bool := decide ((w = 1 ∨ w = 2 ∨ w = 4) ∧ 0 ≤ at_ ∧ at_ ≤ n ∧ w ≤ n - at_)
theorem inB_iff {n : Nat} {at_ w : Int} : inB n at_ w = true ↔ (w = 1 ∨ w = 2 ∨ w = 4) ∧ 0 ≤ at_ ∧ at_ ≤ n ∧ w ≤ n - at_ := by simp [inB]
theorem inB_nat {n : Nat} {at_ w : Int} (h : inB n at_ w = true) : ∃ i k : Nat, at_ = (i : Int) ∧ w = (k : Int) ∧ (k = 1 ∨ k = 2 ∨ k = 4) ∧ i + k ≤ n := by
  have := inB_iff.1 h
  exact ⟨at_.toNat, w.toNat, by omega, by omega, by omega, by omega⟩
end Go.Proofs.YtlnmofhehcilhaaGreat
namespace Go.Proofs.YtlnmofhehcilhaaGreat
open Go.RowKit
set_option linter.unusedSimpArgs false
set_option linter.unusedVariables false
set_option maxRecDepth 20000
def winV (g off n : Nat) (at_ w : Int) : Value := if inB n at_ w then .tuple #[.slice (some ⟨g, off + at_.toNat, none⟩) w.toNat w.toNat, .bool true] else .tuple #[.slice none 0 0, .bool false]
theorem window_spec (W0 : World) (R : List HP) (g off n c : Nat) (at_ w : Int) (hn : n ≤ c) (h63 : c < 9223372036854775808) :
    Spec Tryz.prog W0 250 [.slice (some ⟨g, off, none⟩) n c, .int .i64 at_, .int .i64 w] R (fun v B => v = winV g off n at_ w ∧ B = R) := by
  refine spec_body Tryz.func250 Tryz.ntmps250 rfl rfl ?_
  refine x_seq (x_region (s_val rfl (v_assign rfl) (s_val rfl (v_assign rfl) (x_nil (n_then (x_seq (x_block (x_seq (x_region (s_val rfl (v_move rfl) (s_val rfl (v_neq rfl rfl) (s_val rfl (v_move rfl) ?_))))))))))))
  refine s_and rfl rfl rfl ?_ ?_
  · intro g1_3
    refine s_val rfl (v_move rfl) (s_yes rfl rfl (s_val rfl (v_neq rfl rfl) (s_val rfl (v_pick_t rfl rfl) (s_val rfl (v_move rfl) ?_))))
    refine s_and rfl rfl rfl ?_ ?_
    · intro g1_7
      refine s_val rfl (v_move rfl) (s_yes rfl rfl (s_val rfl (v_neq rfl rfl) (s_val rfl (v_pick_t rfl rfl) (s_val rfl (v_assign rfl) (x_nil (n_then ?_))))))
      refine x_if rfl ?_ ?_
      · intro c1
        refine x_seq (x_region (s_val rfl (v_assign rfl) (s_val rfl (v_assign rfl) (x_nil (n_then (x_ret (r_block (r_then (x_done (.inl rfl) (.cons (r_tmp rfl) (.cons (r_tmp rfl) .nil)) ?_)))))))))
        refine ⟨_, ⟨?_, rfl⟩, inferInstance⟩
        have hi : inB n at_ w = false := by
          rw [← Bool.not_eq_true, inB_iff]; omega
        simp [pack, winV, hi]
      · intro c1
        refine x_seq (x_seq (x_region (s_val rfl (v_move rfl) (s_val rfl (v_lss rfl rfl) (s_val rfl (v_assign rfl) (x_nil (n_then ?_)))))))
        refine x_if rfl ?_ ?_
        · intro c3
          refine x_skip (n_then (x_ift rfl (x_seq (x_region (s_val rfl (v_assign rfl) (s_val rfl (v_assign rfl) (x_nil (n_then (x_ret (r_block (r_then (x_done (.inl rfl) (.cons (r_tmp rfl) (.cons (r_tmp rfl) .nil)) ?_))))))))))))
          refine ⟨_, ⟨?_, rfl⟩, inferInstance⟩
          have hi : inB n at_ w = false := by
            rw [← Bool.not_eq_true, inB_iff]; omega
          simp [pack, winV, hi]
        · intro c3
          refine x_seq (x_region (s_val rfl (v_move rfl) (s_val rfl (v_move rfl) (s_val rfl (v_len_slice Tryz.underlying44 rfl) (s_val rfl (v_gtr rfl rfl) (s_val rfl (v_assign rfl) (x_nil (n_then ?_))))))))
          refine x_if rfl ?_ ?_
          · intro c4
            refine x_skip (n_then (x_ift rfl (x_seq (x_region (s_val rfl (v_assign rfl) (s_val rfl (v_assign rfl) (x_nil (n_then (x_ret (r_block (r_then (x_done (.inl rfl) (.cons (r_tmp rfl) (.cons (r_tmp rfl) .nil)) ?_))))))))))))
            refine ⟨_, ⟨?_, rfl⟩, inferInstance⟩
            have hi : inB n at_ w = false := by
              rw [← Bool.not_eq_true, inB_iff]; omega
            simp [pack, winV, hi]
          · intro c4
            refine x_region (s_val rfl (v_move rfl) (s_val rfl (v_move rfl) (s_val rfl (v_len_slice Tryz.underlying44 rfl) (s_val rfl (v_move rfl) ?_))))
            refine s_val rfl (v_sub rfl rfl (by first | exact w64 (by omega) | rfl)) ?_
            refine s_val rfl (v_gtr rfl rfl) (s_val rfl (v_assign rfl) (x_nil (n_then ?_)))
            refine x_if rfl ?_ ?_
            · intro c5
              refine x_seq (x_region (s_val rfl (v_assign rfl) (s_val rfl (v_assign rfl) (x_nil (n_then (x_ret (r_block (r_then (x_done (.inl rfl) (.cons (r_tmp rfl) (.cons (r_tmp rfl) .nil)) ?_)))))))))
              refine ⟨_, ⟨?_, rfl⟩, inferInstance⟩
              have hi : inB n at_ w = false := by
                rw [← Bool.not_eq_true, inB_iff]; omega
              simp [pack, winV, hi]
            · intro c5
              refine x_skip (n_block (n_then (x_seq ?_)))
              have hi : inB n at_ w = true := inB_iff.2 ⟨by omega, by omega, by omega, by omega⟩
              obtain ⟨i, k, rfl, rfl, hk, hik⟩ := inB_nat hi
              refine x_region (s_val rfl (v_move rfl) (s_val rfl (v_move rfl) (s_val rfl (v_move rfl) (s_val rfl (v_move rfl) ?_))))
              refine s_val rfl (v_add rfl rfl (by rw [w64 (by omega)]; exact (Int.natCast_add i k).symm : IntKind.wrap .i64 ((i : Int) + (k : Int)) = ((i + k : Nat) : Int))) ?_
              refine s_val rfl (v_move rfl) (s_val rfl (v_move rfl) ?_)
              refine s_val rfl (v_add rfl rfl (by rw [w64 (by omega)]; exact (Int.natCast_add i k).symm : IntKind.wrap .i64 ((i : Int) + (k : Int)) = ((i + k : Nat) : Int))) ?_
              refine s_val rfl (v_slice3 Tryz.underlying44 Tryz.sizeOf5 rfl rfl rfl rfl rfl rfl rfl (by omega) (by omega) (by omega) (by omega) (by first | exact Nat.zero_add _ | rfl)) ?_
              refine s_val rfl (v_assign rfl) (s_val rfl (v_assign rfl) (x_nil (n_then (x_ret (x_done (.inl rfl) (.cons (r_tmp rfl) (.cons (r_tmp rfl) .nil)) ?_)))))
              refine ⟨_, ⟨?_, rfl⟩, inferInstance⟩
              simp [pack, winV, hi]
    · intro g1_7
      refine s_no rfl rfl rfl rfl (s_val rfl (v_pick_f rfl rfl) (s_val rfl (v_assign rfl) (x_nil (n_then (x_iff rfl (x_seq (x_seq (x_region (s_val rfl (v_move rfl) (s_val rfl (v_lss rfl rfl) (s_val rfl (v_assign rfl) (x_nil (n_then ?_)))))))))))))
      refine x_if rfl ?_ ?_
      · intro c3
        refine x_skip (n_then (x_ift rfl (x_seq (x_region (s_val rfl (v_assign rfl) (s_val rfl (v_assign rfl) (x_nil (n_then (x_ret (r_block (r_then (x_done (.inl rfl) (.cons (r_tmp rfl) (.cons (r_tmp rfl) .nil)) ?_))))))))))))
        refine ⟨_, ⟨?_, rfl⟩, inferInstance⟩
        have hi : inB n at_ w = false := by
          rw [← Bool.not_eq_true, inB_iff]; omega
        simp [pack, winV, hi]
      · intro c3
        refine x_seq (x_region (s_val rfl (v_move rfl) (s_val rfl (v_move rfl) (s_val rfl (v_len_slice Tryz.underlying44 rfl) (s_val rfl (v_gtr rfl rfl) (s_val rfl (v_assign rfl) (x_nil (n_then ?_))))))))
        refine x_if rfl ?_ ?_
        · intro c4
          refine x_skip (n_then (x_ift rfl (x_seq (x_region (s_val rfl (v_assign rfl) (s_val rfl (v_assign rfl) (x_nil (n_then (x_ret (r_block (r_then (x_done (.inl rfl) (.cons (r_tmp rfl) (.cons (r_tmp rfl) .nil)) ?_))))))))))))
          refine ⟨_, ⟨?_, rfl⟩, inferInstance⟩
          have hi : inB n at_ w = false := by
            rw [← Bool.not_eq_true, inB_iff]; omega
          simp [pack, winV, hi]
        · intro c4
          refine x_region (s_val rfl (v_move rfl) (s_val rfl (v_move rfl) (s_val rfl (v_len_slice Tryz.underlying44 rfl) (s_val rfl (v_move rfl) ?_))))
          refine s_val rfl (v_sub rfl rfl (by first | exact w64 (by omega) | rfl)) ?_
          refine s_val rfl (v_gtr rfl rfl) (s_val rfl (v_assign rfl) (x_nil (n_then ?_)))
          refine x_if rfl ?_ ?_
          · intro c5
            refine x_seq (x_region (s_val rfl (v_assign rfl) (s_val rfl (v_assign rfl) (x_nil (n_then (x_ret (r_block (r_then (x_done (.inl rfl) (.cons (r_tmp rfl) (.cons (r_tmp rfl) .nil)) ?_)))))))))
            refine ⟨_, ⟨?_, rfl⟩, inferInstance⟩
            have hi : inB n at_ w = false := by
              rw [← Bool.not_eq_true, inB_iff]; omega
            simp [pack, winV, hi]
          · intro c5
            refine x_skip (n_block (n_then (x_seq ?_)))
            have hi : inB n at_ w = true := inB_iff.2 ⟨by omega, by omega, by omega, by omega⟩
            obtain ⟨i, k, rfl, rfl, hk, hik⟩ := inB_nat hi
            refine x_region (s_val rfl (v_move rfl) (s_val rfl (v_move rfl) (s_val rfl (v_move rfl) (s_val rfl (v_move rfl) ?_))))
            refine s_val rfl (v_add rfl rfl (by rw [w64 (by omega)]; exact (Int.natCast_add i k).symm : IntKind.wrap .i64 ((i : Int) + (k : Int)) = ((i + k : Nat) : Int))) ?_
            refine s_val rfl (v_move rfl) (s_val rfl (v_move rfl) ?_)
            refine s_val rfl (v_add rfl rfl (by rw [w64 (by omega)]; exact (Int.natCast_add i k).symm : IntKind.wrap .i64 ((i : Int) + (k : Int)) = ((i + k : Nat) : Int))) ?_
            refine s_val rfl (v_slice3 Tryz.underlying44 Tryz.sizeOf5 rfl rfl rfl rfl rfl rfl rfl (by omega) (by omega) (by omega) (by omega) (by first | exact Nat.zero_add _ | rfl)) ?_
            refine s_val rfl (v_assign rfl) (s_val rfl (v_assign rfl) (x_nil (n_then (x_ret (x_done (.inl rfl) (.cons (r_tmp rfl) (.cons (r_tmp rfl) .nil)) ?_)))))
            refine ⟨_, ⟨?_, rfl⟩, inferInstance⟩
            simp [pack, winV, hi]
  · intro g1_3
    refine s_no rfl rfl rfl rfl (s_val rfl (v_pick_f rfl rfl) (s_val rfl (v_move rfl) (s_no rfl rfl rfl rfl (s_no rfl rfl rfl rfl (s_val rfl (v_pick_f rfl rfl) (s_val rfl (v_assign rfl) (x_nil (n_then (x_iff rfl (x_seq (x_seq (x_region (s_val rfl (v_move rfl) (s_val rfl (v_lss rfl rfl) (s_val rfl (v_assign rfl) (x_nil (n_then ?_)))))))))))))))))
    refine x_if rfl ?_ ?_
    · intro c3
      refine x_skip (n_then (x_ift rfl (x_seq (x_region (s_val rfl (v_assign rfl) (s_val rfl (v_assign rfl) (x_nil (n_then (x_ret (r_block (r_then (x_done (.inl rfl) (.cons (r_tmp rfl) (.cons (r_tmp rfl) .nil)) ?_))))))))))))
      refine ⟨_, ⟨?_, rfl⟩, inferInstance⟩
      have hi : inB n at_ w = false := by
        rw [← Bool.not_eq_true, inB_iff]; omega
      simp [pack, winV, hi]
    · intro c3
      refine x_seq (x_region (s_val rfl (v_move rfl) (s_val rfl (v_move rfl) (s_val rfl (v_len_slice Tryz.underlying44 rfl) (s_val rfl (v_gtr rfl rfl) (s_val rfl (v_assign rfl) (x_nil (n_then ?_))))))))
      refine x_if rfl ?_ ?_
      · intro c4
        refine x_skip (n_then (x_ift rfl (x_seq (x_region (s_val rfl (v_assign rfl) (s_val rfl (v_assign rfl) (x_nil (n_then (x_ret (r_block (r_then (x_done (.inl rfl) (.cons (r_tmp rfl) (.cons (r_tmp rfl) .nil)) ?_))))))))))))
        refine ⟨_, ⟨?_, rfl⟩, inferInstance⟩
        have hi : inB n at_ w = false := by
          rw [← Bool.not_eq_true, inB_iff]; omega
        simp [pack, winV, hi]
      · intro c4
        refine x_region (s_val rfl (v_move rfl) (s_val rfl (v_move rfl) (s_val rfl (v_len_slice Tryz.underlying44 rfl) (s_val rfl (v_move rfl) ?_))))
        refine s_val rfl (v_sub rfl rfl (by first | exact w64 (by omega) | rfl)) ?_
        refine s_val rfl (v_gtr rfl rfl) (s_val rfl (v_assign rfl) (x_nil (n_then ?_)))
        refine x_if rfl ?_ ?_
        · intro c5
          refine x_seq (x_region (s_val rfl (v_assign rfl) (s_val rfl (v_assign rfl) (x_nil (n_then (x_ret (r_block (r_then (x_done (.inl rfl) (.cons (r_tmp rfl) (.cons (r_tmp rfl) .nil)) ?_)))))))))
          refine ⟨_, ⟨?_, rfl⟩, inferInstance⟩
          have hi : inB n at_ w = false := by
            rw [← Bool.not_eq_true, inB_iff]; omega
          simp [pack, winV, hi]
        · intro c5
          refine x_skip (n_block (n_then (x_seq ?_)))
          have hi : inB n at_ w = true := inB_iff.2 ⟨by omega, by omega, by omega, by omega⟩
          obtain ⟨i, k, rfl, rfl, hk, hik⟩ := inB_nat hi
          refine x_region (s_val rfl (v_move rfl) (s_val rfl (v_move rfl) (s_val rfl (v_move rfl) (s_val rfl (v_move rfl) ?_))))
          refine s_val rfl (v_add rfl rfl (by rw [w64 (by omega)]; exact (Int.natCast_add i k).symm : IntKind.wrap .i64 ((i : Int) + (k : Int)) = ((i + k : Nat) : Int))) ?_
          refine s_val rfl (v_move rfl) (s_val rfl (v_move rfl) ?_)
          refine s_val rfl (v_add rfl rfl (by rw [w64 (by omega)]; exact (Int.natCast_add i k).symm : IntKind.wrap .i64 ((i : Int) + (k : Int)) = ((i + k : Nat) : Int))) ?_
          refine s_val rfl (v_slice3 Tryz.underlying44 Tryz.sizeOf5 rfl rfl rfl rfl rfl rfl rfl (by omega) (by omega) (by omega) (by omega) (by first | exact Nat.zero_add _ | rfl)) ?_
          refine s_val rfl (v_assign rfl) (s_val rfl (v_assign rfl) (x_nil (n_then (x_ret (x_done (.inl rfl) (.cons (r_tmp rfl) (.cons (r_tmp rfl) .nil)) ?_)))))
          refine ⟨_, ⟨?_, rfl⟩, inferInstance⟩
          simp [pack, winV, hi]
theorem windowN_spec (W0 : World) (R : List HP) (a : Option Addr) (n c : Nat) (at_ w : Int) (hi : inB n at_ w = false) (hn : n < 9223372036854775808) :
    Spec Tryz.prog W0 250 [.slice a n c, .int .i64 at_, .int .i64 w] R (fun v B => v = .tuple #[.slice none 0 0, .bool false] ∧ B = R) := by
  have hq : ¬ ((w = 1 ∨ w = 2 ∨ w = 4) ∧ 0 ≤ at_ ∧ at_ ≤ n ∧ w ≤ n - at_) := fun h => by rw [inB_iff.2 h] at hi; cases hi
  refine spec_body Tryz.func250 Tryz.ntmps250 rfl rfl ?_
  refine x_seq (x_region (s_val rfl (v_assign rfl) (s_val rfl (v_assign rfl) (x_nil (n_then (x_seq (x_block (x_seq (x_region (s_val rfl (v_move rfl) (s_val rfl (v_neq rfl rfl) (s_val rfl (v_move rfl) ?_))))))))))))
  refine s_and rfl rfl rfl ?_ ?_
  · intro g1_3
    refine s_val rfl (v_move rfl) (s_yes rfl rfl (s_val rfl (v_neq rfl rfl) (s_val rfl (v_pick_t rfl rfl) (s_val rfl (v_move rfl) ?_))))
    refine s_and rfl rfl rfl ?_ ?_
    · intro g1_7
      refine s_val rfl (v_move rfl) (s_yes rfl rfl (s_val rfl (v_neq rfl rfl) (s_val rfl (v_pick_t rfl rfl) (s_val rfl (v_assign rfl) (x_nil (n_then ?_))))))
      refine x_if rfl ?_ ?_
      · intro c1
        refine x_seq (x_region (s_val rfl (v_assign rfl) (s_val rfl (v_assign rfl) (x_nil (n_then (x_ret (r_block (r_then (x_done (.inl rfl) (.cons (r_tmp rfl) (.cons (r_tmp rfl) .nil)) ?_)))))))))
        exact ⟨_, ⟨rfl, rfl⟩, inferInstance⟩
      · intro c1
        refine x_seq (x_seq (x_region (s_val rfl (v_move rfl) (s_val rfl (v_lss rfl rfl) (s_val rfl (v_assign rfl) (x_nil (n_then ?_)))))))
        refine x_if rfl ?_ ?_
        · intro c3
          refine x_skip (n_then (x_ift rfl (x_seq (x_region (s_val rfl (v_assign rfl) (s_val rfl (v_assign rfl) (x_nil (n_then (x_ret (r_block (r_then (x_done (.inl rfl) (.cons (r_tmp rfl) (.cons (r_tmp rfl) .nil)) ?_))))))))))))
          exact ⟨_, ⟨rfl, rfl⟩, inferInstance⟩
        · intro c3
          refine x_seq (x_region (s_val rfl (v_move rfl) (s_val rfl (v_move rfl) (s_val rfl (v_len_slice Tryz.underlying44 rfl) (s_val rfl (v_gtr rfl rfl) (s_val rfl (v_assign rfl) (x_nil (n_then ?_))))))))
          refine x_if rfl ?_ ?_
          · intro c4
            refine x_skip (n_then (x_ift rfl (x_seq (x_region (s_val rfl (v_assign rfl) (s_val rfl (v_assign rfl) (x_nil (n_then (x_ret (r_block (r_then (x_done (.inl rfl) (.cons (r_tmp rfl) (.cons (r_tmp rfl) .nil)) ?_))))))))))))
            exact ⟨_, ⟨rfl, rfl⟩, inferInstance⟩
          · intro c4
            refine x_region (s_val rfl (v_move rfl) (s_val rfl (v_move rfl) (s_val rfl (v_len_slice Tryz.underlying44 rfl) (s_val rfl (v_move rfl) ?_))))
            refine s_val rfl (v_sub rfl rfl (by first | exact w64 (by omega) | rfl)) ?_
            refine s_val rfl (v_gtr rfl rfl) (s_val rfl (v_assign rfl) (x_nil (n_then ?_)))
            refine x_if rfl ?_ ?_
            · intro c5
              refine x_seq (x_region (s_val rfl (v_assign rfl) (s_val rfl (v_assign rfl) (x_nil (n_then (x_ret (r_block (r_then (x_done (.inl rfl) (.cons (r_tmp rfl) (.cons (r_tmp rfl) .nil)) ?_)))))))))
              exact ⟨_, ⟨rfl, rfl⟩, inferInstance⟩
            · intro c5
              exfalso; omega
    · intro g1_7
      refine s_no rfl rfl rfl rfl (s_val rfl (v_pick_f rfl rfl) (s_val rfl (v_assign rfl) (x_nil (n_then (x_iff rfl (x_seq (x_seq (x_region (s_val rfl (v_move rfl) (s_val rfl (v_lss rfl rfl) (s_val rfl (v_assign rfl) (x_nil (n_then ?_)))))))))))))
      refine x_if rfl ?_ ?_
      · intro c3
        refine x_skip (n_then (x_ift rfl (x_seq (x_region (s_val rfl (v_assign rfl) (s_val rfl (v_assign rfl) (x_nil (n_then (x_ret (r_block (r_then (x_done (.inl rfl) (.cons (r_tmp rfl) (.cons (r_tmp rfl) .nil)) ?_))))))))))))
        exact ⟨_, ⟨rfl, rfl⟩, inferInstance⟩
      · intro c3
        refine x_seq (x_region (s_val rfl (v_move rfl) (s_val rfl (v_move rfl) (s_val rfl (v_len_slice Tryz.underlying44 rfl) (s_val rfl (v_gtr rfl rfl) (s_val rfl (v_assign rfl) (x_nil (n_then ?_))))))))
        refine x_if rfl ?_ ?_
        · intro c4
          refine x_skip (n_then (x_ift rfl (x_seq (x_region (s_val rfl (v_assign rfl) (s_val rfl (v_assign rfl) (x_nil (n_then (x_ret (r_block (r_then (x_done (.inl rfl) (.cons (r_tmp rfl) (.cons (r_tmp rfl) .nil)) ?_))))))))))))
          exact ⟨_, ⟨rfl, rfl⟩, inferInstance⟩
        · intro c4
          refine x_region (s_val rfl (v_move rfl) (s_val rfl (v_move rfl) (s_val rfl (v_len_slice Tryz.underlying44 rfl) (s_val rfl (v_move rfl) ?_))))
          refine s_val rfl (v_sub rfl rfl (by first | exact w64 (by omega) | rfl)) ?_
          refine s_val rfl (v_gtr rfl rfl) (s_val rfl (v_assign rfl) (x_nil (n_then ?_)))
          refine x_if rfl ?_ ?_
          · intro c5
            refine x_seq (x_region (s_val rfl (v_assign rfl) (s_val rfl (v_assign rfl) (x_nil (n_then (x_ret (r_block (r_then (x_done (.inl rfl) (.cons (r_tmp rfl) (.cons (r_tmp rfl) .nil)) ?_)))))))))
            exact ⟨_, ⟨rfl, rfl⟩, inferInstance⟩
          · intro c5
            exfalso; omega
  · intro g1_3
    refine s_no rfl rfl rfl rfl (s_val rfl (v_pick_f rfl rfl) (s_val rfl (v_move rfl) (s_no rfl rfl rfl rfl (s_no rfl rfl rfl rfl (s_val rfl (v_pick_f rfl rfl) (s_val rfl (v_assign rfl) (x_nil (n_then (x_iff rfl (x_seq (x_seq (x_region (s_val rfl (v_move rfl) (s_val rfl (v_lss rfl rfl) (s_val rfl (v_assign rfl) (x_nil (n_then ?_)))))))))))))))))
    refine x_if rfl ?_ ?_
    · intro c3
      refine x_skip (n_then (x_ift rfl (x_seq (x_region (s_val rfl (v_assign rfl) (s_val rfl (v_assign rfl) (x_nil (n_then (x_ret (r_block (r_then (x_done (.inl rfl) (.cons (r_tmp rfl) (.cons (r_tmp rfl) .nil)) ?_))))))))))))
      exact ⟨_, ⟨rfl, rfl⟩, inferInstance⟩
    · intro c3
      refine x_seq (x_region (s_val rfl (v_move rfl) (s_val rfl (v_move rfl) (s_val rfl (v_len_slice Tryz.underlying44 rfl) (s_val rfl (v_gtr rfl rfl) (s_val rfl (v_assign rfl) (x_nil (n_then ?_))))))))
      refine x_if rfl ?_ ?_
      · intro c4
        refine x_skip (n_then (x_ift rfl (x_seq (x_region (s_val rfl (v_assign rfl) (s_val rfl (v_assign rfl) (x_nil (n_then (x_ret (r_block (r_then (x_done (.inl rfl) (.cons (r_tmp rfl) (.cons (r_tmp rfl) .nil)) ?_))))))))))))
        exact ⟨_, ⟨rfl, rfl⟩, inferInstance⟩
      · intro c4
        refine x_region (s_val rfl (v_move rfl) (s_val rfl (v_move rfl) (s_val rfl (v_len_slice Tryz.underlying44 rfl) (s_val rfl (v_move rfl) ?_))))
        refine s_val rfl (v_sub rfl rfl (by first | exact w64 (by omega) | rfl)) ?_
        refine s_val rfl (v_gtr rfl rfl) (s_val rfl (v_assign rfl) (x_nil (n_then ?_)))
        refine x_if rfl ?_ ?_
        · intro c5
          refine x_seq (x_region (s_val rfl (v_assign rfl) (s_val rfl (v_assign rfl) (x_nil (n_then (x_ret (r_block (r_then (x_done (.inl rfl) (.cons (r_tmp rfl) (.cons (r_tmp rfl) .nil)) ?_)))))))))
          exact ⟨_, ⟨rfl, rfl⟩, inferInstance⟩
        · intro c5
          exfalso; omega
theorem gather_spec (W0 : World) (R : List HP) (g off c : Nat) (l : List Nat) (hc : Cells (OwnP W0 R) g off (byV l)) (hl : l.length ≤ 4) (hb : By l) :
    Spec Tryz.prog W0 251 [.slice (some ⟨g, off, none⟩) l.length c] R (fun v B => v = .int .u32 (leN l : Nat) ∧ B = R) := by
  refine spec_body Tryz.func251 Tryz.ntmps251 rfl rfl ?_
  refine x_seq (x_region (s_val rfl (v_assign rfl) (x_nil (n_then (x_seq (x_region (s_val rfl (v_assign rfl) (x_nil (n_then (x_seq (x_seq (x_region (s_val rfl (v_move rfl) (s_val rfl (v_len_slice Tryz.underlying44 rfl) (s_val rfl (v_move rfl) (x_nil (n_then (x_block ?_))))))))))))))))))
  refine x_loop (fun i : Nat => i ≤ l.length) (fun i => [(0, .slice (some ⟨g, off, none⟩) l.length c), (3, .int .u32 (leN (l.take i) : Nat)), (6, .int .i64 (l.length : Nat)), (7, .int .i64 i)]) (fun _ => R) (fun i => l.length - i) 0 ?_ ?_ ?_ ?_
  · exact Nat.zero_le _
  · repeat (first | exact sub_nil | refine sub_cons rfl ?_)
  · exact inferInstance
  · intro i hi
    refine x_seq (x_region (s_val rfl (v_lss rfl rfl) (x_nil (n_then (x_seq ?_)))))
    refine x_if rfl ?_ ?_
    · intro c3
      refine x_skip (n_then (x_seq (x_block (x_seq (x_region (s_val rfl (v_move rfl) (s_val rfl (v_assign rfl) (x_nil (n_then ?_)))))))))
      have hil : i < l.length := by omega
      have hbi := hb.get hil
      have hlt := leN_lt (hb.take i)
      rw [List.length_take, Nat.min_eq_left (by omega)] at hlt
      refine x_region (s_val rfl (v_move rfl) (s_val rfl (v_move rfl) (s_val rfl (v_move rfl) ?_)))
      refine s_val rfl (v_idx Tryz.underlying44 Tryz.sizeOf5 rfl rfl rfl hil (by first | exact Nat.zero_add _ | rfl)) ?_
      refine s_val rfl (v_load Tryz.isAgg5 rfl (by have := hc i (bV l[i]) (byV_get l i hil); rwa [Nat.mul_one])) ?_
      refine s_val rfl (v_conv Tryz.underlying5 Tryz.underlying47 rfl (w32u (by omega))) ?_
      refine s_val rfl (v_move rfl) ?_
      refine s_val rfl (v_mul rfl rfl (by rw [w64 (by omega)]; omega : IntKind.wrap .i64 (8 * (i : Int)) = ((8 * i : Nat) : Int))) ?_
      refine s_val rfl (v_shl rfl rfl (by omega) (shl_byte hbi (by omega))) ?_
      refine s_val rfl (v_or rfl rfl ((or_byte hlt hbi (by omega)).trans (congrArg _ (leN_take hil).symm))) ?_
      refine s_val rfl (v_assign rfl) (x_nil (n_block (n_then (x_region ?_))))
      refine s_val rfl (v_add rfl rfl (by first | exact w64 (by omega) | rfl)) ?_
      refine s_val rfl (v_move rfl) (x_nil (n_then ?_))
      refine inv_intro (i + 1) ?_ ?_ ?_ ?_
      · omega
      · omega
      · repeat (first | exact sub_nil | refine sub_cons rfl ?_)
      · exact inferInstance
    · intro c3
      refine x_exit (e_then (e_then (e_block (n_then (x_seq (x_region (s_val rfl (v_move rfl) (s_val rfl (v_assign rfl) (x_nil (n_then (x_ret (x_done (.inl rfl) (.cons (r_tmp rfl) .nil) ?_))))))))))))
      refine ⟨_, ⟨?_, rfl⟩, inferInstance⟩
      have : i = l.length := by omega
      subst this; simp [pack]
theorem Cells.part {S : World → Prop} {b off : Nat} {l : List Nat} (h : Cells S b off (byV l)) (i k : Nat) (hik : i + k ≤ l.length) : Cells S b (off + i) (byV ((l.drop i).take k)) := fun j v hv => by
  have hj : j < k := by
    rcases Nat.lt_or_ge j k with q | q
    · exact q
    · rw [List.getElem?_eq_none (by rw [byV_len, List.length_take]; omega)] at hv; cases hv
  have := h (i + j) v (by
    rw [byV, List.getElem?_map, List.getElem?_take_of_lt hj, List.getElem?_drop] at hv
    rw [byV, List.getElem?_map]; exact hv)
  rwa [← Nat.add_assoc] at this
def getN (l : List Nat) (at_ w : Int) : Nat := if inB l.length at_ w then leN ((l.drop at_.toNat).take w.toNat) else 0
def getE (l : List Nat) (at_ w : Int) : Int := if inB l.length at_ w then 0 else 1
theorem getN_lt {l : List Nat} {at_ w : Int} (hb : By l) : getN l at_ w < 4294967296 := by
  unfold getN; split
  · rename_i h
    obtain ⟨i, k, rfl, rfl, hk, hik⟩ := inB_nat h
    have := leN_lt ((hb.drop i).take k)
    simp only [List.length_take, List.length_drop, Int.toNat_natCast] at this ⊢
    have e : min k (l.length - i) = k := by omega
    rw [e] at this
    rcases hk with rfl | rfl | rfl <;> omega
  · omega
theorem octGet_spec (W0 : World) (R : List HP) (g off c : Nat) (l : List Nat) (at_ w : Int) (hc : Cells (OwnP W0 R) g off (byV l)) (hb : By l) (hn : l.length ≤ c) (h63 : c < 9223372036854775808) :
    Spec Tryz.prog W0 188 [.slice (some ⟨g, off, none⟩) l.length c, .int .i64 at_, .int .i64 w] R (fun v B => v = .tuple #[.int .u32 (getN l at_ w : Nat), .int .i64 (getE l at_ w)] ∧ B = R) := by
  by_cases hi : inB l.length at_ w = true
  · obtain ⟨i, k, rfl, rfl, hk, hik⟩ := inB_nat hi
    have hw : winV g off l.length i k = .tuple #[.slice (some ⟨g, off + i, none⟩) ((l.drop i).take k).length k, .bool true] := by
      have : min k (l.length - i) = k := by omega
      simp [winV, hi, this]
    refine spec_body Tryz.func188 Tryz.ntmps188 rfl rfl ?_
    refine x_seq (x_region (s_val rfl (v_assign rfl) (s_val rfl (v_assign rfl) (x_nil (n_then (x_seq (x_region (s_val rfl (v_move rfl) (s_val rfl (v_move rfl) (s_val rfl (v_move rfl) (s_do rfl (d_call Tryz.call250 rfl (window_spec W0 _ g off l.length c i k hn h63)) ?_)))))))))))
    rintro _ B_ ⟨rfl, hB_⟩
    obtain rfl := hB_.symm
    rw [hw]
    refine s_val rfl (v_move rfl) (s_val rfl (v_extract rfl rfl) (s_val rfl (v_extract rfl rfl) (s_val rfl (v_assign rfl) (s_val rfl (v_assign rfl) (x_nil (n_then (x_seq (x_seq (x_region (s_val rfl (v_move rfl) (s_val rfl (v_not rfl) (x_nil (n_then ?_)))))))))))))
    refine x_if rfl ?_ ?_
    · intro c2
      exact absurd c2 (by simp)
    · intro c2
      refine x_skip (n_then (x_seq (x_region (s_val rfl (v_move rfl) ?_))))
      refine s_do rfl (d_call Tryz.call251 rfl (gather_spec W0 _ g (off + i) k ((l.drop i).take k) (hc.part i k hik) (by rw [List.length_take]; omega) ((hb.drop i).take k))) ?_
      rintro _ B_ ⟨rfl, hB_⟩
      obtain rfl := hB_.symm
      refine s_val rfl (v_assign rfl) (s_val rfl (v_assign rfl) (x_nil (n_then (x_ret (x_done (.inl rfl) (.cons (r_tmp rfl) (.cons (r_tmp rfl) .nil)) ?_)))))
      refine ⟨_, ⟨?_, rfl⟩, inferInstance⟩
      simp [pack, getN, getE, hi]
  · have hi' : inB l.length at_ w = false := by simpa using hi
    have hw : winV g off l.length at_ w = .tuple #[.slice none 0 0, .bool false] := by simp [winV, hi']
    refine spec_body Tryz.func188 Tryz.ntmps188 rfl rfl ?_
    refine x_seq (x_region (s_val rfl (v_assign rfl) (s_val rfl (v_assign rfl) (x_nil (n_then (x_seq (x_region (s_val rfl (v_move rfl) (s_val rfl (v_move rfl) (s_val rfl (v_move rfl) (s_do rfl (d_call Tryz.call250 rfl (window_spec W0 _ g off l.length c at_ w hn h63)) ?_)))))))))))
    rintro _ B_ ⟨rfl, hB_⟩
    obtain rfl := hB_.symm
    rw [hw]
    refine s_val rfl (v_move rfl) (s_val rfl (v_extract rfl rfl) (s_val rfl (v_extract rfl rfl) (s_val rfl (v_assign rfl) (s_val rfl (v_assign rfl) (x_nil (n_then (x_seq (x_seq (x_region (s_val rfl (v_move rfl) (s_val rfl (v_not rfl) (x_nil (n_then ?_)))))))))))))
    refine x_if rfl ?_ ?_
    · intro c2
      refine x_seq (x_region (s_val rfl (v_assign rfl) (s_val rfl (v_assign rfl) (x_nil (n_then (x_ret (r_then (x_done (.inl rfl) (.cons (r_tmp rfl) (.cons (r_tmp rfl) .nil)) ?_))))))))
      refine ⟨_, ⟨?_, rfl⟩, inferInstance⟩
      simp [pack, getN, getE, hi']
    · intro c2
      exact absurd c2 (by simp)
theorem spread_spec (W0 : World) (R : List HP) (g off n c ty : Nat) (L : List Value) (w : Nat) (hw : w < 4294967296) (hn : n ≤ 4) (hL : off + n ≤ L.length) :
    Spec Tryz.prog W0 243 [.slice (some ⟨g, off, none⟩) n c, .int .u32 w] (pt g (cob L ty) :: R) (fun v B => v = .tuple #[] ∧ B = pt g (cob (setR L off (byV (leB n w))) ty) :: R) := by
  refine spec_body Tryz.func243 Tryz.ntmps243 rfl rfl ?_
  refine x_seq (x_region (s_val rfl (v_move rfl) (s_val rfl (v_len_slice Tryz.underlying44 rfl) (s_val rfl (v_move rfl) (x_nil (n_then (x_block ?_)))))))
  refine x_loop (fun i : Nat => i ≤ n) (fun i => [(0, .slice (some ⟨g, off, none⟩) n c), (1, .int .u32 w), (6, .int .i64 n), (7, .int .i64 i)]) (fun i => pt g (cob (setR L off (byV (leB i w))) ty) :: R) (fun i => n - i) 0 ?_ ?_ ?_ ?_
  · exact Nat.zero_le _
  · repeat (first | exact sub_nil | refine sub_cons rfl ?_)
  · rw [show setR L off (byV (leB 0 w)) = L from rfl]; exact inferInstance
  · intro i hi
    refine x_seq (x_region (s_val rfl (v_lss rfl rfl) (x_nil (n_then (x_seq ?_)))))
    refine x_if rfl ?_ ?_
    · intro c1
      refine x_skip (n_then (x_seq (x_block (x_seq (x_region (s_val rfl (v_move rfl) (s_val rfl (v_assign rfl) (x_nil (n_then (x_region (s_val rfl (v_move rfl) (s_val rfl (v_move rfl) (s_val rfl (v_move rfl) (s_val rfl (v_move rfl) ?_))))))))))))))
      refine s_val rfl (v_mul rfl rfl (by rw [w64 (by omega)]; omega : IntKind.wrap .i64 (8 * (i : Int)) = ((8 * i : Nat) : Int))) ?_
      refine s_val rfl (v_shr rfl rfl (by omega) rfl) ?_
      refine s_val rfl (v_conv Tryz.underlying47 Tryz.underlying5 rfl (byte_of (by omega))) ?_
      refine s_val rfl (v_idx Tryz.underlying44 Tryz.sizeOf5 rfl rfl rfl (by omega) (by first | exact Nat.zero_add _ | rfl)) ?_
      refine s_do0 (d_store Tryz.sizeOf5 rfl rfl rfl (by rw [setR_length]; omega) (by rw [leB_succ, byV_append, show byV [w / 256 ^ i % 256] = [bV (w / 256 ^ i % 256)] from rfl, setR_snoc, byV_len, leB_len, Nat.mul_one]; rfl : (setR L off (byV (leB i w))).set (off + i * 1) _ = setR L off (byV (leB (i + 1) w)))) ?_
      rintro _ _ rfl
      refine x_nil (n_block (n_then (x_region ?_)))
      refine s_val rfl (v_add rfl rfl (by first | exact w64 (by omega) | rfl)) ?_
      refine s_val rfl (v_move rfl) (x_nil (n_then ?_))
      refine inv_intro (i + 1) ?_ ?_ ?_ ?_
      · omega
      · omega
      · repeat (first | exact sub_nil | refine sub_cons rfl ?_)
      · exact inferInstance
    · intro c1
      refine x_exit (e_then (e_then (e_block (x_done (.inr rfl) .nil ?_))))
      have : i = n := by omega
      subst this
      exact ⟨_, ⟨rfl, rfl⟩, inferInstance⟩
theorem clone_spec (W0 : World) (R : List HP) (g off c : Nat) (l : List Nat) (hc : Cells (OwnP W0 R) g off (byV l)) (hn : l.length ≤ 1000000) :
    Spec Tryz.prog W0 258 [.slice (some ⟨g, off, none⟩) l.length c] R (fun v B => ∃ a' c', v = .slice a' l.length c' ∧ B = osl 5 1 (.slice a' l.length c') (byV l) :: R) := by
  refine spec_body Tryz.func258 Tryz.ntmps258 rfl rfl ?_
  refine x_seq (x_region (s_val rfl (v_assign rfl) (x_nil (n_then (x_seq (x_seq (x_region (s_val rfl (v_move rfl) (s_val rfl (v_eql_slice_nil Tryz.underlying44 rfl rfl) (x_nil (n_then ?_)))))))))))
  refine x_if rfl ?_ ?_
  · intro c1
    cases c1
  · intro c1
    refine x_skip (n_then (x_seq (x_region (s_do rfl (d_slice0 Tryz.underlying44 Tryz.sizeOf5 rfl) ?_))))
    rintro _ _ ⟨b1, rfl, rfl⟩
    refine s_val rfl (v_move rfl) ?_
    refine s_do rfl (d_append (sz := 1) (by_ := 1) (info := Tryz.t5) Tryz.underlying44 (by kernel_rfl) rfl rfl rfl rfl (by decide) rfl rfl hc.weak ((byV_len l).trans (Nat.mul_one _).symm) (byV_one l) (by simp only [maxLen]; omega) (by omega)) ?_
    rintro _ _ ⟨a1, c1, rfl, rfl⟩
    refine s_val rfl (v_assign rfl) (x_nil (n_then (x_ret (x_done (.inl rfl) (.cons (r_tmp rfl) .nil) ?_))))
    exact ⟨_, ⟨a1, c1, by simp [pack], rfl⟩, by simpa using (ent_refl : Ent _ _)⟩
theorem refIn_spec (W0 : World) (R : List HP) (a : Option Addr) (n c : Nat) (at_ w : Int) (hn : n < 9223372036854775808) :
    Spec Tryz.prog W0 193 [.slice a n c, .int .i64 at_, .int .i64 w] R (fun v B => v = .bool (inB n at_ w) ∧ B = R) := by
  refine spec_body Tryz.func193 Tryz.ntmps193 rfl rfl ?_
  refine x_seq (x_region (s_val rfl (v_assign rfl) (x_nil (n_then (x_seq (x_seq (x_region (s_val rfl (v_move rfl) (s_val rfl (v_neq rfl rfl) (s_val rfl (v_move rfl) ?_))))))))))
  refine s_and rfl rfl rfl ?_ ?_
  · intro g1_3
    refine s_val rfl (v_move rfl) (s_yes rfl rfl (s_val rfl (v_neq rfl rfl) (s_val rfl (v_pick_t rfl rfl) (s_val rfl (v_move rfl) ?_))))
    refine s_and rfl rfl rfl ?_ ?_
    · intro g1_7
      refine s_val rfl (v_move rfl) (s_yes rfl rfl (s_val rfl (v_neq rfl rfl) (s_val rfl (v_pick_t rfl rfl) (x_nil (n_then ?_)))))
      refine x_if rfl ?_ ?_
      · intro c1
        refine x_seq (x_region (s_val rfl (v_assign rfl) (x_nil (n_then (x_ret (r_then (x_done (.inl rfl) (.cons (r_tmp rfl) .nil) ?_)))))))
        refine ⟨_, ⟨?_, rfl⟩, inferInstance⟩
        have hi : inB n at_ w = false := by
          rw [← Bool.not_eq_true, inB_iff]; omega
        simp [pack, hi]
      · intro c1
        refine x_skip (n_then (x_seq (x_region (s_val rfl (v_move rfl) (s_val rfl (v_geq rfl rfl) (s_val rfl (v_move rfl) ?_))))))
        refine s_and rfl rfl rfl ?_ ?_
        · intro g3_3
          refine s_val rfl (v_move rfl) (s_yes rfl rfl (s_val rfl (v_move rfl) (s_yes rfl rfl (s_val rfl (v_len_slice Tryz.underlying44 rfl) (s_yes rfl rfl (s_val rfl (v_leq rfl rfl) (s_val rfl (v_pick_t rfl rfl) (s_val rfl (v_move rfl) ?_))))))))
          refine s_and rfl rfl rfl ?_ ?_
          · intro g3_9
            refine s_val rfl (v_move rfl) (s_yes rfl rfl (s_val rfl (v_len_slice Tryz.underlying44 rfl) (s_yes rfl rfl (s_val rfl (v_move rfl) (s_yes rfl rfl ?_)))))
            refine s_val rfl (v_sub rfl rfl (w64 (by omega))) ?_
            refine s_yes rfl rfl (s_val rfl (v_move rfl) (s_yes rfl rfl (s_val rfl (v_geq rfl rfl) (s_val rfl (v_pick_t rfl rfl) (s_val rfl (v_assign rfl) (x_nil (n_then (x_ret (x_done (.inl rfl) (.cons (r_tmp rfl) .nil) ?_)))))))))
            refine ⟨_, ⟨?_, rfl⟩, inferInstance⟩
            refine congrArg Value.bool ?_
            rw [Bool.eq_iff_iff, inB_iff]; simp only [Bool.false_eq_true, false_iff, decide_eq_true_eq]; omega
          · intro g3_9
            refine s_no rfl rfl rfl rfl (s_no rfl rfl rfl rfl (s_no rfl rfl rfl rfl (s_no rfl rfl rfl rfl (s_no rfl rfl rfl rfl (s_val rfl (v_pick_f rfl rfl) (s_val rfl (v_assign rfl) (x_nil (n_then (x_ret (x_done (.inl rfl) (.cons (r_tmp rfl) .nil) ?_))))))))))
            refine ⟨_, ⟨?_, rfl⟩, inferInstance⟩
            refine congrArg Value.bool ?_
            rw [Bool.eq_iff_iff, inB_iff]; simp only [Bool.false_eq_true, false_iff, decide_eq_true_eq]; omega
        · intro g3_3
          refine s_no rfl rfl rfl rfl (s_no rfl rfl rfl rfl (s_no rfl rfl rfl rfl (s_val rfl (v_pick_f rfl rfl) (s_val rfl (v_move rfl) (s_no rfl rfl rfl rfl (s_no rfl rfl rfl rfl (s_no rfl rfl rfl rfl (s_no rfl rfl rfl rfl (s_no rfl rfl rfl rfl (s_no rfl rfl rfl rfl (s_val rfl (v_pick_f rfl rfl) (s_val rfl (v_assign rfl) (x_nil (n_then (x_ret (x_done (.inl rfl) (.cons (r_tmp rfl) .nil) ?_))))))))))))))))
          refine ⟨_, ⟨?_, rfl⟩, inferInstance⟩
          refine congrArg Value.bool ?_
          rw [Bool.eq_iff_iff, inB_iff]; simp only [Bool.false_eq_true, false_iff, decide_eq_true_eq]; omega
    · intro g1_7
      refine s_no rfl rfl rfl rfl (s_val rfl (v_pick_f rfl rfl) (x_nil (n_then (x_iff rfl (x_skip (n_then (x_seq (x_region (s_val rfl (v_move rfl) (s_val rfl (v_geq rfl rfl) (s_val rfl (v_move rfl) ?_)))))))))))
      refine s_and rfl rfl rfl ?_ ?_
      · intro g3_3
        refine s_val rfl (v_move rfl) (s_yes rfl rfl (s_val rfl (v_move rfl) (s_yes rfl rfl (s_val rfl (v_len_slice Tryz.underlying44 rfl) (s_yes rfl rfl (s_val rfl (v_leq rfl rfl) (s_val rfl (v_pick_t rfl rfl) (s_val rfl (v_move rfl) ?_))))))))
        refine s_and rfl rfl rfl ?_ ?_
        · intro g3_9
          refine s_val rfl (v_move rfl) (s_yes rfl rfl (s_val rfl (v_len_slice Tryz.underlying44 rfl) (s_yes rfl rfl (s_val rfl (v_move rfl) (s_yes rfl rfl ?_)))))
          refine s_val rfl (v_sub rfl rfl (w64 (by omega))) ?_
          refine s_yes rfl rfl (s_val rfl (v_move rfl) (s_yes rfl rfl (s_val rfl (v_geq rfl rfl) (s_val rfl (v_pick_t rfl rfl) (s_val rfl (v_assign rfl) (x_nil (n_then (x_ret (x_done (.inl rfl) (.cons (r_tmp rfl) .nil) ?_)))))))))
          refine ⟨_, ⟨?_, rfl⟩, inferInstance⟩
          refine congrArg Value.bool ?_
          rw [Bool.eq_iff_iff, inB_iff]; simp only [Bool.false_eq_true, false_iff, decide_eq_true_eq]; omega
        · intro g3_9
          refine s_no rfl rfl rfl rfl (s_no rfl rfl rfl rfl (s_no rfl rfl rfl rfl (s_no rfl rfl rfl rfl (s_no rfl rfl rfl rfl (s_val rfl (v_pick_f rfl rfl) (s_val rfl (v_assign rfl) (x_nil (n_then (x_ret (x_done (.inl rfl) (.cons (r_tmp rfl) .nil) ?_))))))))))
          refine ⟨_, ⟨?_, rfl⟩, inferInstance⟩
          refine congrArg Value.bool ?_
          rw [Bool.eq_iff_iff, inB_iff]; simp only [Bool.false_eq_true, false_iff, decide_eq_true_eq]; omega
      · intro g3_3
        refine s_no rfl rfl rfl rfl (s_no rfl rfl rfl rfl (s_no rfl rfl rfl rfl (s_val rfl (v_pick_f rfl rfl) (s_val rfl (v_move rfl) (s_no rfl rfl rfl rfl (s_no rfl rfl rfl rfl (s_no rfl rfl rfl rfl (s_no rfl rfl rfl rfl (s_no rfl rfl rfl rfl (s_no rfl rfl rfl rfl (s_val rfl (v_pick_f rfl rfl) (s_val rfl (v_assign rfl) (x_nil (n_then (x_ret (x_done (.inl rfl) (.cons (r_tmp rfl) .nil) ?_))))))))))))))))
        refine ⟨_, ⟨?_, rfl⟩, inferInstance⟩
        refine congrArg Value.bool ?_
        rw [Bool.eq_iff_iff, inB_iff]; simp only [Bool.false_eq_true, false_iff, decide_eq_true_eq]; omega
  · intro g1_3
    refine s_no rfl rfl rfl rfl (s_val rfl (v_pick_f rfl rfl) (s_val rfl (v_move rfl) (s_no rfl rfl rfl rfl (s_no rfl rfl rfl rfl (s_val rfl (v_pick_f rfl rfl) (x_nil (n_then (x_iff rfl (x_skip (n_then (x_seq (x_region (s_val rfl (v_move rfl) (s_val rfl (v_geq rfl rfl) (s_val rfl (v_move rfl) ?_)))))))))))))))
    refine s_and rfl rfl rfl ?_ ?_
    · intro g3_3
      refine s_val rfl (v_move rfl) (s_yes rfl rfl (s_val rfl (v_move rfl) (s_yes rfl rfl (s_val rfl (v_len_slice Tryz.underlying44 rfl) (s_yes rfl rfl (s_val rfl (v_leq rfl rfl) (s_val rfl (v_pick_t rfl rfl) (s_val rfl (v_move rfl) ?_))))))))
      refine s_and rfl rfl rfl ?_ ?_
      · intro g3_9
        refine s_val rfl (v_move rfl) (s_yes rfl rfl (s_val rfl (v_len_slice Tryz.underlying44 rfl) (s_yes rfl rfl (s_val rfl (v_move rfl) (s_yes rfl rfl ?_)))))
        refine s_val rfl (v_sub rfl rfl (w64 (by omega))) ?_
        refine s_yes rfl rfl (s_val rfl (v_move rfl) (s_yes rfl rfl (s_val rfl (v_geq rfl rfl) (s_val rfl (v_pick_t rfl rfl) (s_val rfl (v_assign rfl) (x_nil (n_then (x_ret (x_done (.inl rfl) (.cons (r_tmp rfl) .nil) ?_)))))))))
        refine ⟨_, ⟨?_, rfl⟩, inferInstance⟩
        refine congrArg Value.bool ?_
        rw [Bool.eq_iff_iff, inB_iff]; simp only [Bool.false_eq_true, false_iff, decide_eq_true_eq]; omega
      · intro g3_9
        refine s_no rfl rfl rfl rfl (s_no rfl rfl rfl rfl (s_no rfl rfl rfl rfl (s_no rfl rfl rfl rfl (s_no rfl rfl rfl rfl (s_val rfl (v_pick_f rfl rfl) (s_val rfl (v_assign rfl) (x_nil (n_then (x_ret (x_done (.inl rfl) (.cons (r_tmp rfl) .nil) ?_))))))))))
        refine ⟨_, ⟨?_, rfl⟩, inferInstance⟩
        refine congrArg Value.bool ?_
        rw [Bool.eq_iff_iff, inB_iff]; simp only [Bool.false_eq_true, false_iff, decide_eq_true_eq]; omega
    · intro g3_3
      refine s_no rfl rfl rfl rfl (s_no rfl rfl rfl rfl (s_no rfl rfl rfl rfl (s_val rfl (v_pick_f rfl rfl) (s_val rfl (v_move rfl) (s_no rfl rfl rfl rfl (s_no rfl rfl rfl rfl (s_no rfl rfl rfl rfl (s_no rfl rfl rfl rfl (s_no rfl rfl rfl rfl (s_no rfl rfl rfl rfl (s_val rfl (v_pick_f rfl rfl) (s_val rfl (v_assign rfl) (x_nil (n_then (x_ret (x_done (.inl rfl) (.cons (r_tmp rfl) .nil) ?_))))))))))))))))
      refine ⟨_, ⟨?_, rfl⟩, inferInstance⟩
      refine congrArg Value.bool ?_
      rw [Bool.eq_iff_iff, inB_iff]; simp only [Bool.false_eq_true, false_iff, decide_eq_true_eq]; omega
theorem refGet02_spec (W0 : World) (R : List HP) (g off c : Nat) (l : List Nat) (at_ w : Int) (hc : Cells (OwnP W0 R) g off (byV l)) (hb : By l) (hn : l.length ≤ c) (h63 : c < 9223372036854775808) :
    Spec Tryz.prog W0 110 [.slice (some ⟨g, off, none⟩) l.length c, .int .i64 at_, .int .i64 w] R (fun v B => v = .tuple #[.int .u32 (getN l at_ w : Nat), .int .i64 (getE l at_ w)] ∧ B = R) := by
  by_cases hi : inB l.length at_ w = true
  · obtain ⟨i0, k, rfl, rfl, hk, hik⟩ := inB_nat hi
    have hlen : ((l.drop i0).take k).length = k := by simp; omega
    have hb' := (hb.drop i0).take k
    have hc' := hc.part i0 k hik
    have hget : getN l i0 k = leN ((l.drop i0).take k) := by simp [getN, hi]
    generalize (l.drop i0).take k = m at hlen hb' hc' hget
    refine spec_body Tryz.func110 Tryz.ntmps110 rfl rfl ?_
    refine x_seq (x_region (s_val rfl (v_assign rfl) (s_val rfl (v_assign rfl) (x_nil (n_then (x_seq (x_seq (x_region (s_val rfl (v_move rfl) (s_val rfl (v_move rfl) (s_val rfl (v_move rfl) ?_)))))))))))
    refine s_do rfl (d_call Tryz.call193 rfl (refIn_spec W0 _ _ l.length c i0 k (by omega))) ?_
    rintro _ B_ ⟨rfl, hB_⟩
    obtain rfl := hB_.symm
    refine s_val rfl (v_not rfl) (x_nil (n_then ?_))
    refine x_if rfl ?_ ?_
    · intro c1
      exact absurd c1 (by simp [hi])
    · intro c1
      refine x_skip (n_then (x_seq (x_region (s_val rfl (v_assign rfl) (x_nil (n_then (x_seq (x_seq (x_region (s_val rfl (v_assign rfl) (x_nil (n_then (x_block ?_)))))))))))))
      refine x_loop (fun i : Nat => i ≤ k) (fun i => [(0, .slice (some ⟨g, off, none⟩) l.length c), (1, .int .i64 i0), (2, .int .i64 k), (8, .int .u32 (leN (m.take i) : Nat)), (9, .int .i64 i)]) (fun _ => R) (fun i => k - i) 0 ?_ ?_ ?_ ?_
      · exact Nat.zero_le _
      · repeat (first | exact sub_nil | refine sub_cons rfl ?_)
      · exact inferInstance
      · intro i hik2
        refine x_seq (x_seq (x_region (s_val rfl (v_move rfl) (s_val rfl (v_move rfl) (s_val rfl (v_lss rfl rfl) (x_nil (n_then ?_)))))))
        refine x_if rfl ?_ ?_
        · intro c5
          refine x_skip (n_then (x_seq (x_block ?_)))
          have hil : i < m.length := by omega
          have hbi := hb'.get hil
          have hlt := leN_lt (hb'.take i)
          rw [List.length_take, Nat.min_eq_left (by omega)] at hlt
          refine x_region (s_val rfl (v_move rfl) (s_val rfl (v_move rfl) (s_val rfl (v_move rfl) (s_val rfl (v_move rfl) ?_))))
          refine s_val rfl (v_add rfl rfl (by rw [w64 (by omega)]; omega : IntKind.wrap .i64 ((i0 : Int) + (i : Int)) = ((i0 + i : Nat) : Int))) ?_
          refine s_val rfl (v_idx Tryz.underlying44 Tryz.sizeOf5 rfl rfl rfl (by omega) (by first | exact Nat.zero_add _ | rfl)) ?_
          refine s_val rfl (v_load Tryz.isAgg5 rfl (by have := hc' i (bV m[i]) (byV_get m i hil); rwa [Nat.mul_one, ← Nat.add_assoc])) ?_
          refine s_val rfl (v_conv Tryz.underlying5 Tryz.underlying47 rfl (w32u (by omega))) ?_
          refine s_val rfl (v_move rfl) ?_
          refine s_val rfl (v_mul rfl rfl (by rw [w64 (by omega)]; omega : IntKind.wrap .i64 (8 * (i : Int)) = ((8 * i : Nat) : Int))) ?_
          refine s_val rfl (v_shl rfl rfl (by omega) (shl_byte hbi (by omega))) ?_
          refine s_val rfl (v_add rfl rfl ((add_byte hlt hbi (by omega)).trans (congrArg _ (leN_take hil).symm))) ?_
          refine s_val rfl (v_assign rfl) (x_nil (n_block (n_then (x_region (s_val rfl (v_move rfl) ?_)))))
          refine s_val rfl (v_add rfl rfl (by first | exact w64 (by omega) | rfl)) ?_
          refine s_val rfl (v_assign rfl) (x_nil (n_then ?_))
          refine inv_intro (i + 1) ?_ ?_ ?_ ?_
          · omega
          · omega
          · repeat (first | exact sub_nil | refine sub_cons rfl ?_)
          · exact inferInstance
        · intro c5
          refine x_exit (e_then (e_then (e_block (n_then (x_seq (x_region (s_val rfl (v_move rfl) (s_val rfl (v_assign rfl) (s_val rfl (v_assign rfl) (x_nil (n_then (x_ret (x_done (.inl rfl) (.cons (r_tmp rfl) (.cons (r_tmp rfl) .nil)) ?_)))))))))))))
          refine ⟨_, ⟨?_, rfl⟩, inferInstance⟩
          have : i = m.length := by omega
          subst this; simp [pack, hget, getE, hi]
  · have hi' : inB l.length at_ w = false := by simpa using hi
    refine spec_body Tryz.func110 Tryz.ntmps110 rfl rfl ?_
    refine x_seq (x_region (s_val rfl (v_assign rfl) (s_val rfl (v_assign rfl) (x_nil (n_then (x_seq (x_seq (x_region (s_val rfl (v_move rfl) (s_val rfl (v_move rfl) (s_val rfl (v_move rfl) ?_)))))))))))
    refine s_do rfl (d_call Tryz.call193 rfl (refIn_spec W0 _ _ l.length c at_ w (by omega))) ?_
    rintro _ B_ ⟨rfl, hB_⟩
    obtain rfl := hB_.symm
    refine s_val rfl (v_not rfl) (x_nil (n_then ?_))
    refine x_if rfl ?_ ?_
    · intro c1
      refine x_seq (x_region (s_val rfl (v_assign rfl) (s_val rfl (v_assign rfl) (x_nil (n_then (x_ret (r_then (x_done (.inl rfl) (.cons (r_tmp rfl) (.cons (r_tmp rfl) .nil)) ?_))))))))
      refine ⟨_, ⟨?_, rfl⟩, inferInstance⟩
      simp [pack, getN, getE, hi']
    · intro c1
      exact absurd c1 (by simp [hi'])
end Go.Proofs.YtlnmofhehcilhaaGreat
namespace Go.Proofs.YtlnmofhehcilhaaGreat
open Go.RowKit
set_option linter.unusedSimpArgs false
set_option linter.unusedVariables false
set_option maxRecDepth 20000
theorem maxLen_lt {c : Nat} (h : c ≤ maxLen) : c < 9223372036854775808 := by simp only [maxLen] at h; omega
theorem put_cells {l : List Nat} {sp : List Value} {i k w : Nat} (h : i + k ≤ l.length) : setR (byV l ++ sp) i (byV (leB k w)) = byV (putB l i k w) ++ sp := by
  rw [setR_front _ _ _ _ (by rw [byV_len, byV_len, leB_len]; exact h), setR_byV h]
def putV (a : Option Addr) (n c : Nat) : Value := .tuple #[.slice a n c, .int .i64 0]
def putNo : Value := .tuple #[.slice none 0 0, .int .i64 1]
theorem octPut_ok (W0 : World) (R : List HP) (g off c : Nat) (l : List Nat) (i k w : Nat) (hw : w < 4294967296) (hc : Cells (OwnP W0 R) g off (byV l)) (hi : inB l.length i k = true) (hn : l.length ≤ 1000000) :
    Spec Tryz.prog W0 200 [.slice (some ⟨g, off, none⟩) l.length c, .int .i64 i, .int .i64 k, .int .u32 w] R (fun v B => ∃ a' c', v = putV a' l.length c' ∧ B = osl 5 1 (.slice a' l.length c') (byV (putB l i k w)) :: R) := by
  have hb := inB_iff.1 hi
  refine spec_body Tryz.func200 Tryz.ntmps200 rfl rfl ?_
  refine x_seq (x_region (s_val rfl (v_assign rfl) (s_val rfl (v_assign rfl) (x_nil (n_then (x_seq (x_region (s_val rfl (v_move rfl) (s_do rfl (d_call Tryz.call258 rfl (clone_spec W0 _ g off c l hc hn)) ?_)))))))))
  rintro _ B_ ⟨a', c', rfl, hB_⟩
  obtain rfl := hB_.symm
  refine s_val rfl (v_assign rfl) (x_nil (n_then (x_seq ?_)))
  refine run_osl (fun h _ => by have := (Value.slice.inj h).2.1; omega) fun g' n' cap sp h1 h2 h3 h4 h5 => ?_
  cases h1
  have hwv : winV g' 0 l.length i k = .tuple #[.slice (some ⟨g', i, none⟩) k k, .bool true] := by simp [winV, hi]
  refine x_region (s_val rfl (v_move rfl) (s_val rfl (v_move rfl) (s_val rfl (v_move rfl) (s_do rfl (d_call Tryz.call250 rfl (window_spec W0 _ g' 0 l.length c' i k h2 (maxLen_lt h3))) ?_))))
  rintro _ B_ ⟨rfl, hB_⟩
  obtain rfl := hB_.symm
  rw [hwv]
  refine s_val rfl (v_move rfl) (s_val rfl (v_extract rfl rfl) (s_val rfl (v_extract rfl rfl) (s_val rfl (v_assign rfl) (s_val rfl (v_assign rfl) (x_nil (n_then (x_seq (x_seq (x_region (s_val rfl (v_move rfl) (s_val rfl (v_not rfl) (x_nil (n_then ?_)))))))))))))
  refine x_if rfl ?_ ?_
  · intro c3
    exact absurd c3 (by simp)
  · intro c3
    refine x_skip (n_then (x_seq (x_region (s_val rfl (v_move rfl) (s_val rfl (v_move rfl) ?_)))))
    refine s_do rfl (d_call1 Tryz.call243 rfl (spread_spec W0 _ g' i k k 5 (byV l ++ sp) w hw (by omega) (by rw [List.length_append, byV_len]; omega))) ?_
    rintro _ B_ ⟨rfl, hB_⟩
    obtain rfl := hB_.symm
    rw [put_cells (by omega)]
    refine x_nil (n_then (x_seq (x_region (s_val rfl (v_move rfl) (s_val rfl (v_assign rfl) (s_val rfl (v_assign rfl) (x_nil (n_then (x_ret (x_done (.inl rfl) (.cons (r_tmp rfl) (.cons (r_tmp rfl) .nil)) ?_))))))))))
    exact ⟨_, ⟨_, c', rfl, rfl⟩, ent_osl h2 h3 (by rw [byV_len, putB_len (by omega), Nat.mul_one]) (by rw [← h5, List.length_append, List.length_append, byV_len, byV_len, putB_len (by omega)])⟩
theorem octPut_no (W0 : World) (R : List HP) (g off c : Nat) (l : List Nat) (at_ k : Int) (w : Nat) (hc : Cells (OwnP W0 R) g off (byV l)) (hi : inB l.length at_ k = false) (hn : l.length ≤ 1000000) :
    Spec Tryz.prog W0 200 [.slice (some ⟨g, off, none⟩) l.length c, .int .i64 at_, .int .i64 k, .int .u32 w] R (fun v B => v = putNo ∧ B = R) := by
  refine spec_body Tryz.func200 Tryz.ntmps200 rfl rfl ?_
  refine x_seq (x_region (s_val rfl (v_assign rfl) (s_val rfl (v_assign rfl) (x_nil (n_then (x_seq (x_region (s_val rfl (v_move rfl) (s_do rfl (d_call Tryz.call258 rfl (clone_spec W0 _ g off c l hc hn)) ?_)))))))))
  rintro _ B_ ⟨a', c', rfl, hB_⟩
  obtain rfl := hB_.symm
  refine s_val rfl (v_assign rfl) (x_nil (n_then (x_seq ?_)))
  obtain ⟨R', hR'⟩ : ∃ R', R' = osl 5 1 (.slice a' l.length c') (byV l) :: R := ⟨_, rfl⟩
  refine x_region (s_val rfl (v_move rfl) (s_val rfl (v_move rfl) (s_val rfl (v_move rfl) ?_)))
  refine s_do rfl (d_call Tryz.call250 rfl (windowN_spec W0 _ a' l.length c' at_ k hi (by omega))) ?_
  rintro _ B_ ⟨rfl, hB_⟩
  obtain rfl := hB_.symm
  refine s_val rfl (v_move rfl) (s_val rfl (v_extract rfl rfl) (s_val rfl (v_extract rfl rfl) (s_val rfl (v_assign rfl) (s_val rfl (v_assign rfl) (x_nil (n_then (x_seq (x_seq (x_region (s_val rfl (v_move rfl) (s_val rfl (v_not rfl) (x_nil (n_then ?_)))))))))))))
  refine x_if rfl ?_ ?_
  · intro c3
    refine x_seq (x_region (s_val rfl (v_assign rfl) (s_val rfl (v_assign rfl) (x_nil (n_then (x_ret (r_then (x_done (.inl rfl) (.cons (r_tmp rfl) (.cons (r_tmp rfl) .nil)) ?_))))))))
    exact ⟨_, ⟨rfl, rfl⟩, inferInstance⟩
  · intro c3
    exact absurd c3 (by simp)
theorem refPut_ok (W0 : World) (R : List HP) (g off c : Nat) (l : List Nat) (i0 k w : Nat) (hw : w < 4294967296) (hc : Cells (OwnP W0 R) g off (byV l)) (hi : inB l.length i0 k = true) (hn : l.length ≤ 1000000) :
    Spec Tryz.prog W0 204 [.slice (some ⟨g, off, none⟩) l.length c, .int .i64 i0, .int .i64 k, .int .u32 w] R (fun v B => ∃ a' c', v = putV a' l.length c' ∧ B = osl 5 1 (.slice a' l.length c') (byV (putB l i0 k w)) :: R) := by
  have hb := inB_iff.1 hi
  refine spec_body Tryz.func204 Tryz.ntmps204 rfl rfl ?_
  refine x_seq (x_region (s_val rfl (v_assign rfl) (s_val rfl (v_assign rfl) (x_nil (n_then (x_seq (x_seq (x_region (s_val rfl (v_move rfl) (s_val rfl (v_move rfl) (s_val rfl (v_move rfl) ?_)))))))))))
  refine s_do rfl (d_call Tryz.call193 rfl (refIn_spec W0 _ _ l.length c i0 k (by omega))) ?_
  rintro _ B_ ⟨rfl, hB_⟩
  obtain rfl := hB_.symm
  refine s_val rfl (v_not rfl) (x_nil (n_then ?_))
  refine x_if rfl ?_ ?_
  · intro c1
    exact absurd c1 (by simp [hi])
  · intro c1
    refine x_skip (n_then (x_seq (x_region (s_do rfl (d_slice0 Tryz.underlying44 Tryz.sizeOf5 rfl) ?_))))
    rintro _ _ ⟨b1, rfl, rfl⟩
    refine s_val rfl (v_move rfl) ?_
    refine s_do rfl (d_append (sz := 1) (by_ := 1) (info := Tryz.t5) Tryz.underlying44 (by kernel_rfl) rfl rfl rfl rfl (by decide) rfl rfl hc.weak ((byV_len l).trans (Nat.mul_one _).symm) (byV_one l) (by simp only [maxLen]; omega) (by omega)) ?_
    rintro _ B_ ⟨a', c', rfl, hB_⟩
    obtain rfl := hB_.symm
    simp only [Nat.zero_add, List.nil_append]
    refine s_val rfl (v_assign rfl) (x_nil (n_then (x_seq (x_seq ?_))))
    refine run_osl (fun h _ => by have := (Value.slice.inj h).2.1; omega) fun g' n' cap sp h1 h2 h3 h4 h5 => ?_
    cases h1
    refine x_region (s_val rfl (v_assign rfl) (x_nil (n_then (x_block ?_))))
    refine x_loop (fun i : Nat => i ≤ k) (fun i => [(1, .int .i64 i0), (2, .int .i64 k), (3, .int .u32 w), (10, .slice (some ⟨g', 0, none⟩) l.length c'), (11, .int .i64 i)]) (fun i => pt g' (cob (setR (byV l ++ sp) i0 (byV (leB i w))) 5) :: R) (fun i => k - i) 0 ?_ ?_ ?_ ?_
    · exact Nat.zero_le _
    · repeat (first | exact sub_nil | refine sub_cons rfl ?_)
    · rw [show setR (byV l ++ sp) i0 (byV (leB 0 w)) = byV l ++ sp from rfl]; exact inferInstance
    · intro i hik
      refine x_seq (x_seq (x_region (s_val rfl (v_move rfl) (s_val rfl (v_move rfl) (s_val rfl (v_lss rfl rfl) (x_nil (n_then ?_)))))))
      refine x_if rfl ?_ ?_
      · intro c5
        refine x_skip (n_then (x_seq (x_block (x_region (s_val rfl (v_move rfl) (s_val rfl (v_move rfl) (s_val rfl (v_move rfl) ?_)))))))
        refine s_val rfl (v_add rfl rfl (by rw [w64 (by omega)]; omega : IntKind.wrap .i64 ((i0 : Int) + (i : Int)) = ((i0 + i : Nat) : Int))) ?_
        refine s_val rfl (v_move rfl) (s_val rfl (v_move rfl) ?_)
        refine s_val rfl (v_mul rfl rfl (by rw [w64 (by omega)]; omega : IntKind.wrap .i64 (8 * (i : Int)) = ((8 * i : Nat) : Int))) ?_
        refine s_val rfl (v_shr rfl rfl (by omega) rfl) ?_
        refine s_val rfl (v_conv Tryz.underlying47 Tryz.underlying5 rfl (byte_of (by omega))) ?_
        refine s_val rfl (v_idx Tryz.underlying44 Tryz.sizeOf5 rfl rfl rfl (by omega) (by first | exact Nat.zero_add _ | rfl)) ?_
        refine s_do0 (d_store Tryz.sizeOf5 rfl rfl rfl (by rw [setR_length, List.length_append, byV_len]; omega) (by rw [leB_succ, byV_append, show byV [w / 256 ^ i % 256] = [bV (w / 256 ^ i % 256)] from rfl, setR_snoc, byV_len, leB_len, Nat.mul_one]; rfl : (setR (byV l ++ sp) i0 (byV (leB i w))).set ((i0 + i) * 1) _ = setR (byV l ++ sp) i0 (byV (leB (i + 1) w)))) ?_
        rintro _ _ rfl
        refine x_nil (n_block (n_then (x_region (s_val rfl (v_move rfl) ?_))))
        refine s_val rfl (v_add rfl rfl (by first | exact w64 (by omega) | rfl)) ?_
        refine s_val rfl (v_assign rfl) (x_nil (n_then ?_))
        refine inv_intro (i + 1) ?_ ?_ ?_ ?_
        · omega
        · omega
        · repeat (first | exact sub_nil | refine sub_cons rfl ?_)
        · exact inferInstance
      · intro c5
        refine x_exit (e_then (e_then (e_block (n_then (x_seq (x_region (s_val rfl (v_move rfl) (s_val rfl (v_assign rfl) (s_val rfl (v_assign rfl) (x_nil (n_then (x_ret (x_done (.inl rfl) (.cons (r_tmp rfl) (.cons (r_tmp rfl) .nil)) ?_)))))))))))))
        have : i = k := by omega
        subst this
        rw [put_cells (by omega)]
        exact ⟨_, ⟨_, c', rfl, rfl⟩, ent_osl h2 h3 (by rw [byV_len, putB_len (by omega), Nat.mul_one]) (by rw [← h5, List.length_append, List.length_append, byV_len, byV_len, putB_len (by omega)])⟩
theorem refPut_no (W0 : World) (R : List HP) (a : Option Addr) (n c : Nat) (at_ k : Int) (w : Nat) (hi : inB n at_ k = false) (hn : n ≤ 1000000) :
    Spec Tryz.prog W0 204 [.slice a n c, .int .i64 at_, .int .i64 k, .int .u32 w] R (fun v B => v = putNo ∧ B = R) := by
  refine spec_body Tryz.func204 Tryz.ntmps204 rfl rfl ?_
  refine x_seq (x_region (s_val rfl (v_assign rfl) (s_val rfl (v_assign rfl) (x_nil (n_then (x_seq (x_seq (x_region (s_val rfl (v_move rfl) (s_val rfl (v_move rfl) (s_val rfl (v_move rfl) ?_)))))))))))
  refine s_do rfl (d_call Tryz.call193 rfl (refIn_spec W0 _ _ n c at_ k (by omega))) ?_
  rintro _ B_ ⟨rfl, hB_⟩
  obtain rfl := hB_.symm
  refine s_val rfl (v_not rfl) (x_nil (n_then ?_))
  refine x_if rfl ?_ ?_
  · intro c1
    refine x_seq (x_region (s_val rfl (v_assign rfl) (s_val rfl (v_assign rfl) (x_nil (n_then (x_ret (r_then (x_done (.inl rfl) (.cons (r_tmp rfl) (.cons (r_tmp rfl) .nil)) ?_))))))))
    exact ⟨_, ⟨rfl, rfl⟩, inferInstance⟩
  · intro c1
    exact absurd c1 (by simp [hi])
end Go.Proofs.YtlnmofhehcilhaaGreat
namespace Go.Proofs.YtlnmofhehcilhaaGreat
open Go.RowKit
set_option linter.unusedSimpArgs false
set_option linter.unusedVariables false
set_option maxRecDepth 20000
abbrev Frm := List Nat
def frV (x : Frm) : List Value := (List.range 64).map (fun i => bV (x.getD i 0))
theorem frV_len (x : Frm) : (frV x).length = 64 := by simp [frV]
theorem frV_eq {x : Frm} (h : x.length = 64) : frV x = byV x := by
  apply List.ext_getElem
  · simp [frV, byV, h]
  · intro i h1 h2
    have : i < x.length := by simpa [byV] using h2
    simp [frV, byV, List.getD, this]
def Frs (fr : List Frm) : Prop := ∀ x ∈ fr, x.length = 64 ∧ By x
theorem Frs.get {fr : List Frm} (h : Frs fr) {f : Nat} (hf : f < fr.length) : (fr.getD f []).length = 64 ∧ By (fr.getD f []) := by
  have : fr.getD f [] = fr[f] := by simp [List.getD, hf]
  rw [this]; exact h _ (List.getElem_mem hf)
theorem Frs.set {fr : List Frm} (h : Frs fr) {f : Nat} {y : Frm} (hy : y.length = 64 ∧ By y) : Frs (fr.set f y) := fun x hx => by
  rcases List.mem_or_eq_of_mem_set hx with h' | rfl
  · exact h x h'
  · exact hy
theorem fr_row {fr : List Frm} (h : Frs fr) {f : Nat} (hf : f < fr.length) : ((fr.flatMap frV).drop (f * 64)).take 64 = byV (fr.getD f []) := by
  have := flat_row frV_len fr f [] hf
  rw [List.append_nil] at this
  rw [this, frV_eq (h _ (List.getElem_mem hf)).1]; simp [List.getD, hf]
theorem fr_set {fr : List Frm} {f : Nat} {y : Frm} (hf : f < fr.length) (hy : y.length = 64) : setR (fr.flatMap frV) (f * 64) (byV y) = (fr.set f y).flatMap frV := by
  have := flat_set frV_len fr f y [] hf
  rw [List.append_nil, List.append_nil, frV_eq hy] at this
  exact this
theorem fr_len (fr : List Frm) : (fr.flatMap frV).length = fr.length * 64 := flat_len frV_len fr
def zeros : Frm := List.replicate 64 0
theorem zeros_ok : zeros.length = 64 ∧ By zeros := ⟨by simp [zeros], fun b hb => by have := List.eq_of_mem_replicate hb; omega⟩
theorem Frs.new (n : Nat) : Frs (List.replicate n zeros) := fun x hx => by rw [List.eq_of_mem_replicate hx]; exact zeros_ok
theorem fr_new : ∀ n, (List.replicate n zeros).flatMap frV = List.replicate (n * 64) (bV 0)
  | 0 => rfl
  | n + 1 => by
    rw [List.replicate_succ, List.flatMap_cons, fr_new n, Nat.succ_mul, Nat.add_comm, ← List.replicate_append_replicate]
    congr 1
def stoH (ps : Nat) (fr : List Frm) : HP := chk (fun C => ∃ g, C = [pt ps (cob [.slice (some ⟨g, 0, none⟩) fr.length fr.length, .bool true] 204), pt g (cob (fr.flatMap frV) 201)])
section
variable {P : Program} {W0 : World} {N : FSz} {K : Act → World → Prop} {e : Env} {A B R R1 R2 : List HP} {ps g n : Nat} {fr : List Frm} {f : FuncId} {args : List Value} {Post : Value → List HP → Prop} {l : List Value}
theorem spec_sto (h : ∀ g, Spec P W0 f args (pt ps (cob [.slice (some ⟨g, 0, none⟩) fr.length fr.length, .bool true] 204) :: pt g (cob (fr.flatMap frV) 201) :: R) Post) : Spec P W0 f args (stoH ps fr :: R) Post :=
  spec_chk fun C hC => by obtain ⟨g, rfl⟩ := hC; exact h g
theorem ent_sto [h1 : Tk pt ps A (cob [.slice (some ⟨g, 0, none⟩) n n, .bool true] 204) R1] [h2 : Tk pt g R1 (cob l 201) R2] (hl : l = fr.flatMap frV) (hn : n = fr.length) [k : Ent R2 B] : Ent A (stoH ps fr :: B) := by
  subst hl; subst hn
  exact (Ent.ofPerm (h1.perm.trans (h2.perm.cons _))).trans ((Ent.cons (Ent.cons k)).trans (ent_chk (R := B) (C := [_, _]) ⟨g, rfl⟩))
theorem run_sto [hk : Tk stoH ps A fr R] (h : ∀ g, Run W0 N K e (pt ps (cob [.slice (some ⟨g, 0, none⟩) fr.length fr.length, .bool true] 204) :: pt g (cob (fr.flatMap frV) 201) :: R)) : Run W0 N K e A :=
  run_tk (r := stoH) (b := ps) (run_chk fun C hC => by obtain ⟨g, rfl⟩ := hC; exact h g)
end
theorem octGetN {W0 : World} {R : List HP} {g off c n : Nat} {l : List Nat} {at_ w : Int} (hl : l.length = n) (hc : Cells (OwnP W0 R) g off (byV l)) (hb : By l) (hn : n ≤ c) (h63 : c < 9223372036854775808) :
    Spec Tryz.prog W0 188 [.slice (some ⟨g, off, none⟩) n c, .int .i64 at_, .int .i64 w] R (fun v B => v = .tuple #[.int .u32 (getN l at_ w : Nat), .int .i64 (getE l at_ w)] ∧ B = R) := by
  subst hl; exact octGet_spec W0 R g off c l at_ w hc hb hn h63
theorem octPutN_ok {W0 : World} {R : List HP} {g off c n : Nat} {l : List Nat} {i k w : Nat} (hl : l.length = n) (hw : w < 4294967296) (hc : Cells (OwnP W0 R) g off (byV l)) (hi : inB n i k = true) (hn : n ≤ 1000000) :
    Spec Tryz.prog W0 200 [.slice (some ⟨g, off, none⟩) n c, .int .i64 i, .int .i64 k, .int .u32 w] R (fun v B => ∃ a' c', v = putV a' n c' ∧ B = osl 5 1 (.slice a' n c') (byV (putB l i k w)) :: R) := by
  subst hl; exact octPut_ok W0 R g off c l i k w hw hc hi hn
theorem octPutN_no {W0 : World} {R : List HP} {g off c n : Nat} {l : List Nat} {at_ k : Int} {w : Nat} (hl : l.length = n) (hc : Cells (OwnP W0 R) g off (byV l)) (hi : inB n at_ k = false) (hn : n ≤ 1000000) :
    Spec Tryz.prog W0 200 [.slice (some ⟨g, off, none⟩) n c, .int .i64 at_, .int .i64 k, .int .u32 w] R (fun v B => v = putNo ∧ B = R) := by
  subst hl; exact octPut_no W0 R g off c l at_ k w hc hi hn
theorem frNew_spec (W0 : World) (R : List HP) (n : Nat) (h : n ≤ 32) :
    Spec Tryz.prog W0 82 [.int .i64 n] R (fun v B => ∃ b, v = .tuple #[.pointer (some ⟨b, 0, none⟩), .int .i64 0] ∧ B = stoH b (List.replicate n zeros) :: R) := by
  refine spec_body Tryz.func82 Tryz.ntmps82 rfl rfl ?_
  refine x_seq (x_region (s_val rfl (v_assign rfl) (s_val rfl (v_assign rfl) (x_nil (n_then (x_seq (x_seq (x_region (s_val rfl (v_move rfl) (s_val rfl (v_lss rfl rfl) (s_val rfl (v_move rfl) ?_)))))))))))
  refine s_or rfl rfl rfl ?_ ?_
  · intro g1_3
    omega
  · intro g1_3
    refine s_val rfl (v_move rfl) (s_yes rfl rfl (s_val rfl (v_gtr rfl rfl) (s_val rfl (v_pick_f rfl rfl) (x_nil (n_then ?_)))))
    refine x_if rfl ?_ ?_
    · intro c1
      omega
    · intro c1
      refine x_skip (n_then (x_seq (x_region (s_val rfl (v_move rfl) ?_))))
      refine s_do rfl (d_make (sz := 64) (by_ := 64) (info := Tryz.t201) Tryz.underlying202 (by kernel_rfl) rfl rfl rfl rfl (by decide) rfl rfl rfl rfl (by omega) (by decide)) ?_
      rintro _ _ ⟨b1, rfl, rfl⟩
      refine s_val rfl (v_build Tryz.underlying204 Tryz.zeroValue204 (sized_cons Tryz.sizeOf202 (sized_cons Tryz.sizeOf4 sized_nil)) (fil_scal rfl Tryz.sizeOf202 rfl rfl (Nat.le_of_ble_eq_true rfl) SetL.eq (fil_scal rfl Tryz.sizeOf4 rfl rfl (Nat.le_of_ble_eq_true rfl) SetL.eq fil_nil))) ?_
      refine s_do rfl (d_boxA rfl) ?_
      rintro _ _ ⟨b2, rfl, rfl⟩
      refine s_val rfl (v_assign rfl) (s_val rfl (v_assign rfl) (x_nil (n_then (x_ret (x_done (.inl rfl) (.cons (r_tmp rfl) (.cons (r_tmp rfl) .nil)) ?_)))))
      exact ⟨_, ⟨b2, rfl, rfl⟩, ent_sto (fr_new n).symm (by simp)⟩
theorem frNone_spec (W0 : World) (R : List HP) (ps : Nat) (fr : List Frm) :
    Spec Tryz.prog W0 196 [.pointer (some ⟨ps, 0, none⟩)] (stoH ps fr :: R) (fun v B => v = .bool false ∧ B = stoH ps fr :: R) := by
  refine spec_sto fun g => ?_
  refine spec_body Tryz.func196 Tryz.ntmps196 rfl rfl ?_
  refine x_seq (x_region (s_val rfl (v_assign rfl) (x_nil (n_then (x_seq (x_region (s_val rfl (v_move rfl) (s_val rfl (v_eql_ptr_nil Tryz.underlying78 rfl rfl) (s_val rfl (v_move rfl) ?_)))))))))
  refine s_or rfl rfl rfl ?_ ?_
  · intro g1_3
    cases g1_3
  · intro g1_3
    refine s_val rfl (v_move rfl) (s_yes rfl rfl (s_val rfl (v_nilCheck rfl) (s_yes rfl rfl ?_)))
    refine s_val rfl (v_fieldAddr rfl Tryz.underlying204 rfl Tryz.sizeOf4 rfl (by first | exact Nat.zero_add _ | rfl)) ?_
    refine s_yes rfl rfl (s_val rfl (v_load Tryz.isAgg4 rfl (cell_own rfl)) ?_)
    refine s_yes rfl rfl (s_val rfl (v_not rfl) (s_val rfl (v_pick_f rfl rfl) (s_val rfl (v_assign rfl) (x_nil (n_then (x_ret (x_done (.inl rfl) (.cons (r_tmp rfl) .nil) ?_)))))))
    exact ⟨_, ⟨by simp [pack], rfl⟩, ent_sto rfl rfl⟩
theorem frLen_spec (W0 : World) (R : List HP) (ps : Nat) (fr : List Frm) :
    Spec Tryz.prog W0 174 [.pointer (some ⟨ps, 0, none⟩)] (stoH ps fr :: R) (fun v B => v = .int .i64 (fr.length : Nat) ∧ B = stoH ps fr :: R) := by
  refine spec_body Tryz.func174 Tryz.ntmps174 rfl rfl ?_
  refine x_seq (x_region (s_val rfl (v_assign rfl) (x_nil (n_then (x_seq (x_seq (x_region (s_val rfl (v_move rfl) (s_do rfl (d_call1 Tryz.call196 rfl (frNone_spec W0 _ ps fr)) ?_)))))))))
  rintro _ B_ ⟨rfl, hB_⟩
  obtain rfl := hB_.symm
  refine x_nil (n_then ?_)
  refine x_if rfl ?_ ?_
  · intro c1
    exact absurd c1 (by decide)
  · intro c1
    refine x_skip (n_then (x_seq ?_))
    refine run_sto (ps := ps) fun g => ?_
    refine x_region (s_val rfl (v_move rfl) (s_val rfl (v_nilCheck rfl) ?_))
    refine s_val rfl (v_fieldAddr rfl Tryz.underlying204 rfl Tryz.sizeOf202 rfl (by first | exact Nat.zero_add _ | rfl)) ?_
    refine s_val rfl (v_load Tryz.isAgg202 rfl (cell_own rfl)) ?_
    refine s_val rfl (v_len_slice Tryz.underlying202 rfl) (s_val rfl (v_assign rfl) (x_nil (n_then (x_ret (x_done (.inl rfl) (.cons (r_tmp rfl) .nil) ?_)))))
    exact ⟨_, ⟨rfl, rfl⟩, ent_sto rfl rfl⟩
def isF (n : Nat) (f : Int) : Bool := decide (0 ≤ f ∧ f < n)
theorem frMay_spec (W0 : World) (R : List HP) (ps : Nat) (fr : List Frm) (f : Int) :
    Spec Tryz.prog W0 120 [.pointer (some ⟨ps, 0, none⟩), .int .i64 f] (stoH ps fr :: R) (fun v B => v = .int .i64 (if isF fr.length f then 0 else 1) ∧ B = stoH ps fr :: R) := by
  refine spec_body Tryz.func120 Tryz.ntmps120 rfl rfl ?_
  refine x_seq (x_region (s_val rfl (v_assign rfl) (x_nil (n_then (x_seq (x_block (x_seq (x_region (s_val rfl (v_move rfl) (s_do rfl (d_call1 Tryz.call196 rfl (frNone_spec W0 _ ps fr)) ?_))))))))))
  rintro _ B_ ⟨rfl, hB_⟩
  obtain rfl := hB_.symm
  refine s_val rfl (v_assign rfl) (x_nil (n_then ?_))
  refine x_if rfl ?_ ?_
  · intro c1
    exact absurd c1 (by decide)
  · intro c1
    refine x_seq (x_seq (x_region (s_val rfl (v_move rfl) (s_val rfl (v_lss rfl rfl) (s_val rfl (v_assign rfl) (x_nil (n_then ?_)))))))
    refine x_if rfl ?_ ?_
    · intro c3
      refine x_skip (n_then (x_ift rfl (x_seq (x_region (s_val rfl (v_assign rfl) (x_nil (n_then (x_ret (r_block (r_then (x_done (.inl rfl) (.cons (r_tmp rfl) .nil) ?_)))))))))))
      have hf : isF fr.length f = false := by rw [← Bool.not_eq_true]; simp only [isF, decide_eq_true_eq]; omega
      first
        | exact ⟨_, ⟨by simp [pack, hf], rfl⟩, ent_sto rfl rfl⟩
        | exact ⟨_, ⟨by simp [pack, hf], rfl⟩, inferInstance⟩
    · intro c3
      refine run_sto (ps := ps) fun g => ?_
      refine x_region (s_val rfl (v_move rfl) (s_val rfl (v_move rfl) (s_val rfl (v_nilCheck rfl) ?_)))
      refine s_val rfl (v_fieldAddr rfl Tryz.underlying204 rfl Tryz.sizeOf202 rfl (by first | exact Nat.zero_add _ | rfl)) ?_
      refine s_val rfl (v_load Tryz.isAgg202 rfl (cell_own rfl)) ?_
      refine s_val rfl (v_len_slice Tryz.underlying202 rfl) (s_val rfl (v_geq rfl rfl) (s_val rfl (v_assign rfl) (x_nil (n_then ?_))))
      refine x_if rfl ?_ ?_
      · intro c4
        refine x_seq (x_region (s_val rfl (v_assign rfl) (x_nil (n_then (x_ret (r_block (r_then (x_done (.inl rfl) (.cons (r_tmp rfl) .nil) ?_))))))))
        have hf : isF fr.length f = false := by rw [← Bool.not_eq_true]; simp only [isF, decide_eq_true_eq]; omega
        first
          | exact ⟨_, ⟨by simp [pack, hf], rfl⟩, ent_sto rfl rfl⟩
          | exact ⟨_, ⟨by simp [pack, hf], rfl⟩, inferInstance⟩
      · intro c4
        refine x_skip (n_block (n_then (x_seq (x_region (s_val rfl (v_assign rfl) (x_nil (n_then (x_ret (x_done (.inl rfl) (.cons (r_tmp rfl) .nil) ?_)))))))))
        have hf : isF fr.length f = true := by simp only [isF, decide_eq_true_eq]; omega
        exact ⟨_, ⟨by simp [pack, hf], rfl⟩, ent_sto rfl rfl⟩
def ldN (fr : List Frm) (f off w : Int) : Nat := if isF fr.length f then getN (fr.getD f.toNat []) off w else 0
def ldE (fr : List Frm) (f off w : Int) : Int := if isF fr.length f then getE (fr.getD f.toNat []) off w else 1
theorem isF_nat {n : Nat} {f : Int} (h : isF n f = true) : ∃ i : Nat, f = (i : Int) ∧ i < n := by
  simp only [isF, decide_eq_true_eq] at h
  exact ⟨f.toNat, by omega, by omega⟩
theorem frLoad_spec (W0 : World) (R : List HP) (ps : Nat) (fr : List Frm) (f off w : Int) (hF : Frs fr) :
    Spec Tryz.prog W0 135 [.pointer (some ⟨ps, 0, none⟩), .int .i64 f, .int .i64 off, .int .i64 w] (stoH ps fr :: R)
      (fun v B => v = .tuple #[.int .u32 (ldN fr f off w : Nat), .int .i64 (ldE fr f off w)] ∧ B = stoH ps fr :: R) := by
  by_cases hf : isF fr.length f = true
  · obtain ⟨i, rfl, hi⟩ := isF_nat hf
    obtain ⟨hl, hb⟩ := hF.get hi
    refine spec_body Tryz.func135 Tryz.ntmps135 rfl rfl ?_
    refine x_seq (x_region (s_val rfl (v_assign rfl) (s_val rfl (v_assign rfl) (x_nil (n_then (x_seq (x_seq (x_region (s_val rfl (v_move rfl) (s_val rfl (v_move rfl) (s_do rfl (d_call1 Tryz.call120 rfl (frMay_spec W0 _ ps fr i)) ?_)))))))))))
    rintro _ B_ ⟨rfl, hB_⟩
    obtain rfl := hB_.symm
    refine s_val rfl (v_assign rfl) (x_nil (n_then (x_seq (x_region (s_val rfl (v_move rfl) (s_val rfl (v_neq rfl rfl) (x_nil (n_then ?_))))))))
    refine x_if rfl ?_ ?_
    · intro c2
      exact absurd c2 (by simp [hf])
    · intro c2
      refine x_skip (n_then (x_seq ?_))
      refine run_sto (ps := ps) fun g => ?_
      refine x_region (s_val rfl (v_move rfl) (s_val rfl (v_nilCheck rfl) ?_))
      refine s_val rfl (v_fieldAddr rfl Tryz.underlying204 rfl Tryz.sizeOf202 rfl (by first | exact Nat.zero_add _ | rfl)) ?_
      refine s_val rfl (v_load Tryz.isAgg202 rfl (cell_own rfl)) ?_
      refine s_val rfl (v_move rfl) ?_
      refine s_val rfl (v_idx Tryz.underlying202 Tryz.sizeOf201 rfl rfl rfl hi (by first | exact Nat.zero_add _ | rfl)) ?_
      refine s_val rfl (v_sliceArr Tryz.underlying201 Tryz.sizeOf5 rfl) ?_
      refine s_val rfl (v_move rfl) (s_val rfl (v_move rfl) ?_)
      refine s_do rfl (d_call Tryz.call188 rfl (octGetN hl (cells_part (fr_row hF hi) (by rw [byV_len, hl])) hb (by decide) (by decide))) ?_
      rintro _ B_ ⟨rfl, hB_⟩
      obtain rfl := hB_.symm
      refine s_val rfl (v_extract rfl rfl) (s_val rfl (v_extract rfl rfl) (s_val rfl (v_assign rfl) (s_val rfl (v_assign rfl) (x_nil (n_then (x_ret (x_done (.inl rfl) (.cons (r_tmp rfl) (.cons (r_tmp rfl) .nil)) ?_)))))))
      exact ⟨_, ⟨by simp [pack, ldN, ldE, hf], rfl⟩, ent_sto rfl rfl⟩
  · have hf' : isF fr.length f = false := by simpa using hf
    refine spec_body Tryz.func135 Tryz.ntmps135 rfl rfl ?_
    refine x_seq (x_region (s_val rfl (v_assign rfl) (s_val rfl (v_assign rfl) (x_nil (n_then (x_seq (x_seq (x_region (s_val rfl (v_move rfl) (s_val rfl (v_move rfl) (s_do rfl (d_call1 Tryz.call120 rfl (frMay_spec W0 _ ps fr f)) ?_)))))))))))
    rintro _ B_ ⟨rfl, hB_⟩
    obtain rfl := hB_.symm
    refine s_val rfl (v_assign rfl) (x_nil (n_then (x_seq (x_region (s_val rfl (v_move rfl) (s_val rfl (v_neq rfl rfl) (x_nil (n_then ?_))))))))
    refine x_if rfl ?_ ?_
    · intro c2
      refine x_seq (x_region (s_val rfl (v_move rfl) (s_val rfl (v_assign rfl) (s_val rfl (v_assign rfl) (x_nil (n_then (x_ret (r_then (x_done (.inl rfl) (.cons (r_tmp rfl) (.cons (r_tmp rfl) .nil)) ?_)))))))))
      exact ⟨_, ⟨by simp [pack, ldN, ldE, hf'], rfl⟩, inferInstance⟩
    · intro c2
      exact absurd c2 (by simp [hf'])
def svOk (fr : List Frm) (f off w : Int) : Bool := isF fr.length f && inB 64 off w
def svF (fr : List Frm) (f off w : Int) (v : Nat) : List Frm := if svOk fr f off w then fr.set f.toNat (putB (fr.getD f.toNat []) off.toNat w.toNat v) else fr
theorem svF_ok {fr : List Frm} {f off w : Int} {v : Nat} (h : Frs fr) : Frs (svF fr f off w v) := by
  unfold svF; split
  · rename_i hs
    simp only [svOk, Bool.and_eq_true] at hs
    obtain ⟨i, rfl, hi⟩ := isF_nat hs.1
    obtain ⟨o, k, rfl, rfl, hk, hok⟩ := inB_nat hs.2
    obtain ⟨hl, hb⟩ := h.get hi
    exact h.set ⟨by rw [putB_len (by simp only [Int.toNat_natCast]; omega)]; exact hl, putB_by hb⟩
  · exact h
theorem svF_len {fr : List Frm} {f off w : Int} {v : Nat} : (svF fr f off w v).length = fr.length := by unfold svF; split <;> simp
theorem frSave_spec (W0 : World) (R : List HP) (ps : Nat) (fr : List Frm) (f off w : Int) (x : Nat) (hx : x < 4294967296) (hF : Frs fr) :
    Spec Tryz.prog W0 124 [.pointer (some ⟨ps, 0, none⟩), .int .i64 f, .int .i64 off, .int .i64 w, .int .u32 x] (stoH ps fr :: R)
      (fun v B => v = .int .i64 (if svOk fr f off w then 0 else 1) ∧ B = stoH ps (svF fr f off w x) :: R) := by
  by_cases hf : isF fr.length f = true
  · obtain ⟨i, rfl, hi⟩ := isF_nat hf
    obtain ⟨hl, hb⟩ := hF.get hi
    by_cases hin : inB 64 off w = true
    · obtain ⟨o, k, rfl, rfl, hk, hok⟩ := inB_nat hin
      have hs : svOk fr i o k = true := by simp [svOk, hf, hin]
      have hpl : (putB (fr.getD i []) o k x).length = 64 := by rw [putB_len (by omega)]; exact hl
      refine spec_body Tryz.func124 Tryz.ntmps124 rfl rfl ?_
      refine x_seq (x_region (s_val rfl (v_assign rfl) (x_nil (n_then (x_seq (x_seq (x_region (s_val rfl (v_move rfl) (s_val rfl (v_move rfl) (s_do rfl (d_call1 Tryz.call120 rfl (frMay_spec W0 _ ps fr i)) ?_))))))))))
      rintro _ B_ ⟨rfl, hB_⟩
      obtain rfl := hB_.symm
      refine s_val rfl (v_assign rfl) (x_nil (n_then (x_seq (x_region (s_val rfl (v_move rfl) (s_val rfl (v_neq rfl rfl) (x_nil (n_then ?_))))))))
      refine x_if rfl ?_ ?_
      · intro c2
        exact absurd c2 (by simp [hf])
      · intro c2
        refine x_skip (n_then (x_seq ?_))
        refine run_sto (ps := ps) fun g => ?_
        refine x_region (s_val rfl (v_move rfl) (s_val rfl (v_nilCheck rfl) ?_))
        refine s_val rfl (v_fieldAddr rfl Tryz.underlying204 rfl Tryz.sizeOf202 rfl (by first | exact Nat.zero_add _ | rfl)) ?_
        refine s_val rfl (v_load Tryz.isAgg202 rfl (cell_own rfl)) ?_
        refine s_val rfl (v_move rfl) ?_
        refine s_val rfl (v_idx Tryz.underlying202 Tryz.sizeOf201 rfl rfl rfl hi (by first | exact Nat.zero_add _ | rfl)) ?_
        refine s_val rfl (v_sliceArr Tryz.underlying201 Tryz.sizeOf5 rfl) ?_
        refine s_val rfl (v_move rfl) (s_val rfl (v_move rfl) (s_val rfl (v_move rfl) ?_))
        refine s_do rfl (d_call Tryz.call200 rfl (octPutN_ok hl hx (cells_part (fr_row hF hi) (by rw [byV_len, hl])) hin (by decide))) ?_
        rintro _ B_ ⟨a', c', rfl, hB_⟩
        obtain rfl := hB_.symm
        refine s_val rfl (v_move rfl) (s_val rfl (v_extract rfl rfl) (s_val rfl (v_extract rfl rfl) (s_val rfl (v_assign rfl) (s_val rfl (v_assign rfl) (x_nil (n_then (x_seq (x_seq (x_region (s_val rfl (v_move rfl) (s_val rfl (v_neq rfl rfl) (x_nil (n_then ?_)))))))))))))
        refine x_if rfl ?_ ?_
        · intro c5
          exact absurd c5 (by simp)
        · intro c5
          refine x_skip (n_then (x_seq ?_))
          refine run_osl (fun h _ => by have := (Value.slice.inj h).2.1; omega) fun g' n' cap sp h1 h2 h3 h4 h5 => ?_
          cases h1
          refine x_region (s_val rfl (v_move rfl) (s_val rfl (v_nilCheck rfl) ?_))
          refine s_val rfl (v_fieldAddr rfl Tryz.underlying204 rfl Tryz.sizeOf202 rfl (by first | exact Nat.zero_add _ | rfl)) ?_
          refine s_val rfl (v_load Tryz.isAgg202 rfl (cell_own rfl)) ?_
          refine s_val rfl (v_move rfl) ?_
          refine s_val rfl (v_idx Tryz.underlying202 Tryz.sizeOf201 rfl rfl rfl hi (by first | exact Nat.zero_add _ | rfl)) ?_
          refine s_val rfl (v_sliceArr Tryz.underlying201 Tryz.sizeOf5 rfl) ?_
          refine s_val rfl (v_move rfl) ?_
          refine s_do rfl (d_copy Tryz.underlying44 Tryz.sizeOf5 rfl rfl (m := 64) (vs := byV (putB (fr.getD i []) o k x)) rfl (cells_part (n := 64) (by rw [List.drop_zero, List.take_left' (by rw [byV_len, hpl])]) (by rw [byV_len, hpl])) (by rw [byV_len, hpl]) (byV_one _) (by rw [fr_len]; omega) (fr_set hi hpl)) ?_
          rintro _ B_ ⟨rfl, hB_⟩
          obtain rfl := hB_.symm
          refine x_nil (n_then (x_seq (x_region (s_val rfl (v_assign rfl) (x_nil (n_then (x_ret (x_done (.inl rfl) (.cons (r_tmp rfl) .nil) ?_))))))))
          exact ⟨_, ⟨by simp [pack, hs], rfl⟩, ent_sto (by simp [svF, hs]) (by simp [svF, hs])⟩
    · have hin' : inB 64 off w = false := by simpa using hin
      have hs : svOk fr i off w = false := by simp [svOk, hin']
      refine spec_body Tryz.func124 Tryz.ntmps124 rfl rfl ?_
      refine x_seq (x_region (s_val rfl (v_assign rfl) (x_nil (n_then (x_seq (x_seq (x_region (s_val rfl (v_move rfl) (s_val rfl (v_move rfl) (s_do rfl (d_call1 Tryz.call120 rfl (frMay_spec W0 _ ps fr i)) ?_))))))))))
      rintro _ B_ ⟨rfl, hB_⟩
      obtain rfl := hB_.symm
      refine s_val rfl (v_assign rfl) (x_nil (n_then (x_seq (x_region (s_val rfl (v_move rfl) (s_val rfl (v_neq rfl rfl) (x_nil (n_then ?_))))))))
      refine x_if rfl ?_ ?_
      · intro c2
        exact absurd c2 (by simp [hf])
      · intro c2
        refine x_skip (n_then (x_seq ?_))
        refine run_sto (ps := ps) fun g => ?_
        refine x_region (s_val rfl (v_move rfl) (s_val rfl (v_nilCheck rfl) ?_))
        refine s_val rfl (v_fieldAddr rfl Tryz.underlying204 rfl Tryz.sizeOf202 rfl (by first | exact Nat.zero_add _ | rfl)) ?_
        refine s_val rfl (v_load Tryz.isAgg202 rfl (cell_own rfl)) ?_
        refine s_val rfl (v_move rfl) ?_
        refine s_val rfl (v_idx Tryz.underlying202 Tryz.sizeOf201 rfl rfl rfl hi (by first | exact Nat.zero_add _ | rfl)) ?_
        refine s_val rfl (v_sliceArr Tryz.underlying201 Tryz.sizeOf5 rfl) ?_
        refine s_val rfl (v_move rfl) (s_val rfl (v_move rfl) (s_val rfl (v_move rfl) ?_))
        refine s_do rfl (d_call Tryz.call200 rfl (octPutN_no hl (cells_part (fr_row hF hi) (by rw [byV_len, hl])) hin' (by decide))) ?_
        rintro _ B_ ⟨rfl, hB_⟩
        obtain rfl := hB_.symm
        refine s_val rfl (v_move rfl) (s_val rfl (v_extract rfl rfl) (s_val rfl (v_extract rfl rfl) (s_val rfl (v_assign rfl) (s_val rfl (v_assign rfl) (x_nil (n_then (x_seq (x_seq (x_region (s_val rfl (v_move rfl) (s_val rfl (v_neq rfl rfl) (x_nil (n_then ?_)))))))))))))
        refine x_if rfl ?_ ?_
        · intro c5
          refine x_seq (x_region (s_val rfl (v_move rfl) (s_val rfl (v_assign rfl) (x_nil (n_then (x_ret (r_then (x_done (.inl rfl) (.cons (r_tmp rfl) .nil) ?_))))))))
          exact ⟨_, ⟨by simp [pack, hs], rfl⟩, ent_sto (by simp [svF, hs]) (by simp [svF, hs])⟩
        · intro c5
          exact absurd c5 (by simp)
  · have hf' : isF fr.length f = false := by simpa using hf
    have hs : svOk fr f off w = false := by simp [svOk, hf']
    refine spec_body Tryz.func124 Tryz.ntmps124 rfl rfl ?_
    refine x_seq (x_region (s_val rfl (v_assign rfl) (x_nil (n_then (x_seq (x_seq (x_region (s_val rfl (v_move rfl) (s_val rfl (v_move rfl) (s_do rfl (d_call1 Tryz.call120 rfl (frMay_spec W0 _ ps fr f)) ?_))))))))))
    rintro _ B_ ⟨rfl, hB_⟩
    obtain rfl := hB_.symm
    refine s_val rfl (v_assign rfl) (x_nil (n_then (x_seq (x_region (s_val rfl (v_move rfl) (s_val rfl (v_neq rfl rfl) (x_nil (n_then ?_))))))))
    refine x_if rfl ?_ ?_
    · intro c2
      refine x_seq (x_region (s_val rfl (v_move rfl) (s_val rfl (v_assign rfl) (x_nil (n_then (x_ret (r_then (x_done (.inl rfl) (.cons (r_tmp rfl) .nil) ?_))))))))
      rw [show svF fr f off w x = fr by simp [svF, hs]]
      exact ⟨_, ⟨by simp [pack, hf', hs], rfl⟩, inferInstance⟩
    · intro c2
      exact absurd c2 (by simp [hf'])
end Go.Proofs.YtlnmofhehcilhaaGreat
namespace Go.Proofs.YtlnmofhehcilhaaGreat
open Go.RowKit
set_option linter.unusedSimpArgs false
set_option linter.unusedVariables false
set_option maxRecDepth 20000
abbrev Pl := Int × Int
@[reducible] def plV (p : Pl) : List Value := [.int .i64 p.1, .int .i64 p.2]
theorem plV_len (p : Pl) : (plV p).length = 2 := rfl
def plAt (pg : List Pl) (n : Nat) : Pl := pg.getD n (0, 0)
def okPl (p : Pl) : Bool := decide (0 ≤ p.1 ∧ p.1 < 32 ∧ 1 ≤ p.2 ∧ p.2 ≤ 3)
structure Pgs (pg : List Pl) : Prop where
  len : pg.length = 12
  ok : ∀ n, n < 12 → plAt pg n ≠ (0, 0) → okPl (plAt pg n) = true
def isP (n : Int) : Bool := decide (0 ≤ n ∧ n < 12)
theorem isP_nat {n : Int} (h : isP n = true) : ∃ i : Nat, n = (i : Int) ∧ i < 12 := by
  simp only [isP, decide_eq_true_eq] at h
  exact ⟨n.toNat, by omega, by omega⟩
abbrev gmO (pg : List Pl) : Obj := cob (pg.flatMap plV ++ [.bool true]) 258
theorem pg_row {pg : List Pl} {sp : List Value} {n : Nat} (hn : n < pg.length) : ((pg.flatMap plV ++ sp).drop (n * 2)).take 2 = plV (plAt pg n) := by
  rw [flat_row plV_len pg n sp hn]; simp [plAt, List.getD, hn]
theorem pg_set {pg : List Pl} {sp : List Value} {n : Nat} {p : Pl} (hn : n < pg.length) : setR (pg.flatMap plV ++ sp) (n * 2) (plV p) = (pg.set n p).flatMap plV ++ sp := flat_set plV_len pg n p sp hn
theorem pg_len (pg : List Pl) (sp : List Value) : (pg.flatMap plV ++ sp).length = pg.length * 2 + sp.length := by rw [List.length_append, flat_len plV_len]
theorem pg_made {pg : List Pl} (h : pg.length = 12) : (pg.flatMap plV ++ [.bool true])[24]? = some (Value.bool true) := by
  rw [List.getElem?_append_right (by rw [flat_len plV_len]; omega), flat_len plV_len, h]; rfl
theorem gmNew_spec (W0 : World) (R : List HP) : Spec Tryz.prog W0 83 [] R (fun v B => ∃ b, v = .pointer (some ⟨b, 0, none⟩) ∧ B = pt b (gmO (List.replicate 12 (0, 0))) :: R) := by
  refine spec_body Tryz.func83 Tryz.ntmps83 rfl rfl ?_
  refine x_seq (x_region (s_val rfl (v_assign rfl) (x_nil (n_then (x_seq (x_region (s_val rfl (v_build Tryz.underlying258 Tryz.zeroValue258 (sized_cons Tryz.sizeOf154 (sized_cons Tryz.sizeOf4 sized_nil)) (fil_scal rfl Tryz.sizeOf4 rfl rfl (Nat.le_of_ble_eq_true rfl) SetL.eq fil_nil)) ?_)))))))
  refine s_do rfl (d_boxA rfl) ?_
  rintro _ _ ⟨b1, rfl, rfl⟩
  refine s_val rfl (v_assign rfl) (x_nil (n_then (x_ret (x_done (.inl rfl) (.cons (r_tmp rfl) .nil) ?_))))
  exact ⟨_, ⟨b1, rfl, rfl⟩, ent_refl⟩
theorem gmNone_spec (W0 : World) (R : List HP) (b : Nat) (pg : List Pl) (h : Pgs pg) : Spec Tryz.prog W0 169 [.pointer (some ⟨b, 0, none⟩)] (pt b (gmO pg) :: R) (fun v B => v = .bool false ∧ B = pt b (gmO pg) :: R) := by
  refine spec_body Tryz.func169 Tryz.ntmps169 rfl rfl ?_
  refine x_seq (x_region (s_val rfl (v_assign rfl) (x_nil (n_then (x_seq (x_region (s_val rfl (v_move rfl) (s_val rfl (v_eql_ptr_nil Tryz.underlying148 rfl rfl) (s_val rfl (v_move rfl) ?_)))))))))
  refine s_or rfl rfl rfl ?_ ?_
  · intro g1_3
    cases g1_3
  · intro g1_3
    refine s_val rfl (v_move rfl) (s_yes rfl rfl (s_val rfl (v_nilCheck rfl) (s_yes rfl rfl ?_)))
    refine s_val rfl (v_fieldAddr rfl Tryz.underlying258 rfl Tryz.sizeOf4 rfl (by first | exact Nat.zero_add _ | rfl)) ?_
    refine s_yes rfl rfl (s_val rfl (v_load Tryz.isAgg4 rfl (cell_own (pg_made h.len))) ?_)
    refine s_yes rfl rfl (s_val rfl (v_not rfl) (s_val rfl (v_pick_f rfl rfl) (s_val rfl (v_assign rfl) (x_nil (n_then (x_ret (x_done (.inl rfl) (.cons (r_tmp rfl) .nil) ?_)))))))
    exact ⟨_, ⟨rfl, rfl⟩, inferInstance⟩
theorem gmPage_spec (W0 : World) (R : List HP) (n : Int) : Spec Tryz.prog W0 170 [.int .i64 n] R (fun v B => v = .bool (isP n) ∧ B = R) := by
  refine spec_body Tryz.func170 Tryz.ntmps170 rfl rfl ?_
  refine x_seq (x_region (s_val rfl (v_assign rfl) (x_nil (n_then (x_seq (x_region (s_val rfl (v_move rfl) (s_val rfl (v_geq rfl rfl) (s_val rfl (v_move rfl) ?_)))))))))
  refine s_and rfl rfl rfl ?_ ?_
  · intro g1_3
    refine s_val rfl (v_move rfl) (s_yes rfl rfl (s_val rfl (v_lss rfl rfl) (s_val rfl (v_pick_t rfl rfl) (s_val rfl (v_assign rfl) (x_nil (n_then (x_ret (x_done (.inl rfl) (.cons (r_tmp rfl) .nil) ?_))))))))
    refine ⟨_, ⟨?_, rfl⟩, inferInstance⟩
    refine congrArg Value.bool ?_
    rw [Bool.eq_iff_iff]; simp only [isP, decide_eq_true_eq, Bool.false_eq_true, false_iff]; omega
  · intro g1_3
    refine s_no rfl rfl rfl rfl (s_val rfl (v_pick_f rfl rfl) (s_val rfl (v_assign rfl) (x_nil (n_then (x_ret (x_done (.inl rfl) (.cons (r_tmp rfl) .nil) ?_))))))
    refine ⟨_, ⟨?_, rfl⟩, inferInstance⟩
    refine congrArg Value.bool ?_
    rw [Bool.eq_iff_iff]; simp only [isP, decide_eq_true_eq, Bool.false_eq_true, false_iff]; omega
theorem gmPlace_spec (W0 : World) (R : List HP) (p : Pl) : Spec Tryz.prog W0 171 [.agg (plV p).toArray] R (fun v B => v = .bool (okPl p) ∧ B = R) := by
  refine spec_body Tryz.func171 Tryz.ntmps171 rfl rfl ?_
  refine x_seq (x_region (s_do rfl (d_boxA rfl) ?_))
  rintro _ _ ⟨b1, rfl, rfl⟩
  refine s_val rfl (v_assign rfl) (x_nil (n_then (x_seq (x_region ?_))))
  refine s_val rfl (v_fieldAddr rfl Tryz.underlying153 rfl Tryz.sizeOf3 rfl (by first | exact Nat.zero_add _ | rfl)) ?_
  refine s_val rfl (v_load Tryz.isAgg3 rfl (cell_own rfl)) ?_
  refine s_val rfl (v_geq rfl rfl) (s_val rfl (v_move rfl) ?_)
  refine s_and rfl rfl rfl ?_ ?_
  · intro g1_4
    refine s_val rfl (v_fieldAddr rfl Tryz.underlying153 rfl Tryz.sizeOf3 rfl (by first | exact Nat.zero_add _ | rfl)) ?_
    refine s_yes rfl rfl (s_val rfl (v_load Tryz.isAgg3 rfl (cell_own rfl)) ?_)
    refine s_yes rfl rfl (s_val rfl (v_lss rfl rfl) (s_val rfl (v_pick_t rfl rfl) (s_val rfl (v_move rfl) ?_)))
    refine s_and rfl rfl rfl ?_ ?_
    · intro g1_9
      refine s_val rfl (v_fieldAddr rfl Tryz.underlying153 rfl Tryz.sizeOf3 rfl (by first | exact Nat.zero_add _ | rfl)) ?_
      refine s_yes rfl rfl (s_val rfl (v_load Tryz.isAgg3 rfl (cell_own rfl)) ?_)
      refine s_yes rfl rfl (s_val rfl (v_geq rfl rfl) (s_val rfl (v_pick_t rfl rfl) (s_val rfl (v_move rfl) ?_)))
      refine s_and rfl rfl rfl ?_ ?_
      · intro g1_14
        refine s_val rfl (v_fieldAddr rfl Tryz.underlying153 rfl Tryz.sizeOf3 rfl (by first | exact Nat.zero_add _ | rfl)) ?_
        refine s_yes rfl rfl (s_val rfl (v_load Tryz.isAgg3 rfl (cell_own rfl)) ?_)
        refine s_yes rfl rfl (s_val rfl (v_leq rfl rfl) (s_val rfl (v_pick_t rfl rfl) (s_val rfl (v_assign rfl) (x_nil (n_then (x_ret (x_done (.inl rfl) (.cons (r_tmp rfl) .nil) ?_)))))))
        refine ⟨_, ⟨?_, rfl⟩, inferInstance⟩
        refine congrArg Value.bool ?_
        rw [Bool.eq_iff_iff]; simp only [okPl, decide_eq_true_eq, Bool.false_eq_true, false_iff]; omega
      · intro g1_14
        refine s_no rfl rfl rfl rfl (s_no rfl rfl rfl rfl (s_val rfl (v_pick_f rfl rfl) (s_val rfl (v_assign rfl) (x_nil (n_then (x_ret (x_done (.inl rfl) (.cons (r_tmp rfl) .nil) ?_)))))))
        refine ⟨_, ⟨?_, rfl⟩, inferInstance⟩
        refine congrArg Value.bool ?_
        rw [Bool.eq_iff_iff]; simp only [okPl, decide_eq_true_eq, Bool.false_eq_true, false_iff]; omega
    · intro g1_9
      refine s_no rfl rfl rfl rfl (s_no rfl rfl rfl rfl (s_val rfl (v_pick_f rfl rfl) (s_val rfl (v_move rfl) (s_no rfl rfl rfl rfl (s_no rfl rfl rfl rfl (s_no rfl rfl rfl rfl (s_val rfl (v_pick_f rfl rfl) (s_val rfl (v_assign rfl) (x_nil (n_then (x_ret (x_done (.inl rfl) (.cons (r_tmp rfl) .nil) ?_))))))))))))
      refine ⟨_, ⟨?_, rfl⟩, inferInstance⟩
      refine congrArg Value.bool ?_
      rw [Bool.eq_iff_iff]; simp only [okPl, decide_eq_true_eq, Bool.false_eq_true, false_iff]; omega
  · intro g1_4
    refine s_no rfl rfl rfl rfl (s_no rfl rfl rfl rfl (s_val rfl (v_pick_f rfl rfl) (s_val rfl (v_move rfl) (s_no rfl rfl rfl rfl (s_no rfl rfl rfl rfl (s_no rfl rfl rfl rfl (s_val rfl (v_pick_f rfl rfl) (s_val rfl (v_move rfl) (s_no rfl rfl rfl rfl (s_no rfl rfl rfl rfl (s_no rfl rfl rfl rfl (s_val rfl (v_pick_f rfl rfl) (s_val rfl (v_assign rfl) (x_nil (n_then (x_ret (x_done (.inl rfl) (.cons (r_tmp rfl) .nil) ?_)))))))))))))))))
    refine ⟨_, ⟨?_, rfl⟩, inferInstance⟩
    refine congrArg Value.bool ?_
    rw [Bool.eq_iff_iff]; simp only [okPl, decide_eq_true_eq, Bool.false_eq_true, false_iff]; omega
def thereB (pg : List Pl) (n : Int) : Bool := isP n && decide (plAt pg n.toNat ≠ (0, 0))
theorem gmThere_spec (W0 : World) (R : List HP) (b : Nat) (pg : List Pl) (h : Pgs pg) (n : Int) : Spec Tryz.prog W0 172 [.pointer (some ⟨b, 0, none⟩), .int .i64 n] (pt b (gmO pg) :: R) (fun v B => v = .bool (thereB pg n) ∧ B = pt b (gmO pg) :: R) := by
  refine spec_body Tryz.func172 Tryz.ntmps172 rfl rfl ?_
  refine x_seq (x_region (s_val rfl (v_assign rfl) (x_nil (n_then (x_seq (x_region (s_val rfl (v_move rfl) (s_do rfl (d_call Tryz.call170 rfl (gmPage_spec W0 _ n)) ?_))))))))
  rintro _ B_ ⟨rfl, hB_⟩
  obtain rfl := hB_.symm
  refine s_val rfl (v_move rfl) ?_
  refine s_and rfl rfl rfl ?_ ?_
  · intro g1_3
    obtain ⟨i, rfl, hi⟩ := isP_nat g1_3
    have hl := h.len
    refine s_val rfl (v_move rfl) (s_yes rfl rfl (s_val rfl (v_move rfl) (s_yes rfl rfl (s_val rfl (v_nilCheck rfl) (s_yes rfl rfl ?_)))))
    refine s_val rfl (v_fieldAddr rfl Tryz.underlying258 rfl Tryz.sizeOf154 rfl (by first | exact Nat.zero_add _ | rfl)) ?_
    refine s_yes rfl rfl ?_
    refine s_val rfl (v_idxArr Tryz.underlying154 Tryz.sizeOf153 rfl rfl rfl (by omega) (by first | exact Nat.zero_add _ | rfl)) ?_
    refine s_yes rfl rfl ?_
    refine s_val rfl (v_loadAgg Tryz.isAgg153 Tryz.sizeOf153 rfl (cells_part (pg_row (by omega)) rfl) rfl) ?_
    refine s_yes rfl rfl (s_val rfl (v_build Tryz.underlying153 Tryz.zeroValue153 (sized_cons Tryz.sizeOf3 (sized_cons Tryz.sizeOf3 sized_nil)) fil_nil) ?_)
    refine s_yes rfl rfl (s_val rfl (v_neq_agg Tryz.eqGuardType153 rfl rfl (q_struct Tryz.underlying153 Tryz.stoodInHeld153 (qf_scal rfl Tryz.isAgg3 rfl rfl (q_int Tryz.underlying3) (qf_scal rfl Tryz.isAgg3 rfl rfl (q_int Tryz.underlying3) qf_nil)))) ?_)
    refine s_val rfl (v_pick_t rfl rfl) (s_val rfl (v_assign rfl) (x_nil (n_then (x_ret (x_done (.inl rfl) (.cons (r_tmp rfl) .nil) ?_)))))
    refine ⟨_, ⟨?_, rfl⟩, inferInstance⟩
    refine congrArg Value.bool ?_
    first
      | (rw [Bool.eq_iff_iff]; simp [thereB, g1_3, Prod.ext_iff])
      | simp [thereB, g1_3]
  · intro g1_3
    refine s_no rfl rfl rfl rfl (s_no rfl rfl rfl rfl (s_no rfl rfl rfl rfl (s_no rfl rfl rfl rfl (s_no rfl rfl rfl rfl (s_no rfl rfl rfl rfl (s_no rfl rfl rfl rfl (s_val rfl (v_pick_f rfl rfl) (s_val rfl (v_assign rfl) (x_nil (n_then (x_ret (x_done (.inl rfl) (.cons (r_tmp rfl) .nil) ?_))))))))))))
    refine ⟨_, ⟨?_, rfl⟩, inferInstance⟩
    refine congrArg Value.bool ?_
    first
      | (rw [Bool.eq_iff_iff]; simp [thereB, g1_3, Prod.ext_iff])
      | simp [thereB, g1_3]
def gGot (pg : List Pl) (n : Int) : Pl := if thereB pg n then plAt pg n.toNat else (0, 0)
theorem gmGet_spec (W0 : World) (R : List HP) (b : Nat) (pg : List Pl) (h : Pgs pg) (n : Int) : Spec Tryz.prog W0 199 [.pointer (some ⟨b, 0, none⟩), .int .i64 n] (pt b (gmO pg) :: R)
    (fun v B => v = .tuple #[.agg (plV (gGot pg n)).toArray, .bool (thereB pg n)] ∧ B = pt b (gmO pg) :: R) := by
  refine spec_body Tryz.func199 Tryz.ntmps199 rfl rfl ?_
  refine x_seq (x_region (s_do rfl (d_allocA Tryz.zeroValue153) ?_))
  rintro _ _ ⟨b1, rfl, rfl⟩
  refine s_val rfl (v_assign rfl) (x_nil (n_then (x_seq (x_seq (x_region (s_val rfl (v_move rfl) (s_do rfl (d_call1 Tryz.call169 rfl (gmNone_spec W0 _ b pg h)) ?_)))))))
  rintro _ B_ ⟨rfl, hB_⟩
  obtain rfl := hB_.symm
  refine s_val rfl (v_move rfl) ?_
  refine s_or rfl rfl rfl ?_ ?_
  · intro g1_3
    exact absurd g1_3 (by decide)
  · intro g1_3
    refine s_val rfl (v_move rfl) (s_yes rfl rfl (s_val rfl (v_move rfl) (s_yes rfl rfl (s_do rfl (d_call1 Tryz.call172 rfl (gmThere_spec W0 _ b pg h n)) ?_))))
    rintro _ B_ ⟨rfl, hB_⟩
    obtain rfl := hB_.symm
    refine s_yes rfl rfl (s_val rfl (v_not rfl) (s_val rfl (v_pick_f rfl rfl) (x_nil (n_then ?_))))
    refine x_if rfl ?_ ?_
    · intro c1
      refine x_seq (x_region (s_val rfl (v_build Tryz.underlying153 Tryz.zeroValue153 (sized_cons Tryz.sizeOf3 (sized_cons Tryz.sizeOf3 sized_nil)) fil_nil) ?_))
      refine s_do0 (d_storeAll Tryz.sizeOf153 rfl rfl rfl rfl rfl) ?_
      rintro _ _ rfl
      refine s_val rfl (v_assign rfl) (x_nil (n_then (x_ret (r_then (x_done (.inl rfl) (.cons (r_all Tryz.isAgg153 Tryz.sizeOf153 rfl rfl) (.cons (r_tmp rfl) .nil)) ?_)))))
      refine ⟨_, ⟨?_, rfl⟩, inferInstance⟩
      have ht : thereB pg n = false := by simpa using c1
      simp [pack, gGot, ht]
    · intro c1
      have ht : thereB pg n = true := by simpa using c1
      have hp : isP n = true := by simp only [thereB, Bool.and_eq_true] at ht; exact ht.1
      obtain ⟨i, rfl, hi⟩ := isP_nat hp
      have hl := h.len
      refine x_skip (n_then (x_seq (x_region (s_val rfl (v_move rfl) (s_val rfl (v_move rfl) (s_val rfl (v_nilCheck rfl) ?_))))))
      refine s_val rfl (v_fieldAddr rfl Tryz.underlying258 rfl Tryz.sizeOf154 rfl (by first | exact Nat.zero_add _ | rfl)) ?_
      refine s_val rfl (v_idxArr Tryz.underlying154 Tryz.sizeOf153 rfl rfl rfl (by omega) (by first | exact Nat.zero_add _ | rfl)) ?_
      refine s_val rfl (v_loadAgg Tryz.isAgg153 Tryz.sizeOf153 rfl (cells_part (pg_row (by omega)) rfl) rfl) ?_
      refine s_do0 (d_storeAll Tryz.sizeOf153 rfl rfl rfl rfl rfl) ?_
      rintro _ _ rfl
      refine s_val rfl (v_assign rfl) (x_nil (n_then (x_ret (x_done (.inl rfl) (.cons (r_all Tryz.isAgg153 Tryz.sizeOf153 rfl rfl) (.cons (r_tmp rfl) .nil)) ?_))))
      refine ⟨_, ⟨?_, rfl⟩, inferInstance⟩
      simp [pack, gGot, ht]
def setE (pg : List Pl) (n : Int) (p : Pl) : Int := if isP n ∧ okPl p then (if thereB pg n then 5 else 0) else 1
def setP (pg : List Pl) (n : Int) (p : Pl) : List Pl := if setE pg n p = 0 then pg.set n.toNat p else pg
theorem setP_ok {pg : List Pl} {n : Int} {p : Pl} (h : Pgs pg) : Pgs (setP pg n p) := by
  unfold setP; split
  · rename_i hs
    have hop : okPl p = true := by
      unfold setE at hs; split at hs
      · rename_i k; exact k.2
      · omega
    refine ⟨by simp [h.len], fun m hm hne => ?_⟩
    unfold plAt at hne ⊢
    by_cases e : n.toNat = m
    · subst e
      simp only [List.getD_eq_getElem?_getD, List.getElem?_set, if_true] at hne ⊢
      rw [if_pos (by rw [h.len]; exact hm)] at hne ⊢
      exact hop
    · simp only [List.getD_eq_getElem?_getD, List.getElem?_set_ne e] at hne ⊢
      have := h.ok m hm
      unfold plAt at this
      simp only [List.getD_eq_getElem?_getD] at this
      exact this hne
  · exact h
theorem gmSet_spec (W0 : World) (R : List HP) (b : Nat) (pg : List Pl) (h : Pgs pg) (n : Int) (p : Pl) : Spec Tryz.prog W0 85 [.pointer (some ⟨b, 0, none⟩), .int .i64 n, .agg (plV p).toArray] (pt b (gmO pg) :: R)
    (fun v B => v = .int .i64 (setE pg n p) ∧ B = pt b (gmO (setP pg n p)) :: R) := by
  have hl := h.len
  refine spec_body Tryz.func85 Tryz.ntmps85 rfl rfl ?_
  refine x_seq (x_region (s_do rfl (d_boxA rfl) ?_))
  rintro _ _ ⟨b1, rfl, rfl⟩
  refine s_val rfl (v_assign rfl) (x_nil (n_then (x_seq (x_block (x_seq (x_region (s_val rfl (v_move rfl) (s_do rfl (d_call1 Tryz.call169 rfl (gmNone_spec W0 _ b pg h)) ?_))))))))
  rintro _ B_ ⟨rfl, hB_⟩
  obtain rfl := hB_.symm
  refine s_val rfl (v_assign rfl) (x_nil (n_then ?_))
  refine x_if rfl ?_ ?_
  · intro c1
    exact absurd c1 (by decide)
  · intro c1
    refine x_seq (x_seq (x_region (s_val rfl (v_move rfl) (s_do rfl (d_call Tryz.call170 rfl (gmPage_spec W0 _ n)) ?_))))
    rintro _ B_ ⟨rfl, hB_⟩
    obtain rfl := hB_.symm
    refine s_val rfl (v_not rfl) (s_val rfl (v_assign rfl) (x_nil (n_then ?_)))
    refine x_if rfl ?_ ?_
    · intro c3
      refine x_skip (n_then (x_ift rfl (x_seq (x_region (s_val rfl (v_assign rfl) (x_nil (n_then (x_ret (r_block (r_then (x_done (.inl rfl) (.cons (r_tmp rfl) .nil) ?_)))))))))))
      have he : setE pg n p = 1 := by
        unfold setE; rw [if_neg]
        first
          | (intro hk; exact absurd hk.1 (by simpa using c3))
          | (intro hk; exact absurd hk.2 (by simpa using c4))
      exact ⟨_, ⟨by simp [pack, he], by rw [setP, he, if_neg (by decide)]⟩, inferInstance⟩
    · intro c3
      have hp : isP n = true := by simpa using c3
      refine x_region (s_val rfl (v_loadAll Tryz.isAgg153 Tryz.sizeOf153 rfl rfl) ?_)
      refine s_do rfl (d_call Tryz.call171 rfl (gmPlace_spec W0 _ p)) ?_
      rintro _ B_ ⟨rfl, hB_⟩
      obtain rfl := hB_.symm
      refine s_val rfl (v_not rfl) (s_val rfl (v_assign rfl) (x_nil (n_then ?_)))
      refine x_if rfl ?_ ?_
      · intro c4
        refine x_seq (x_region (s_val rfl (v_assign rfl) (x_nil (n_then (x_ret (r_block (r_then (x_done (.inl rfl) (.cons (r_tmp rfl) .nil) ?_))))))))
        have he : setE pg n p = 1 := by
          unfold setE; rw [if_neg]
          first
            | (intro hk; exact absurd hk.1 (by simpa using c3))
            | (intro hk; exact absurd hk.2 (by simpa using c4))
        exact ⟨_, ⟨by simp [pack, he], by rw [setP, he, if_neg (by decide)]⟩, inferInstance⟩
      · intro c4
        have ho : okPl p = true := by simpa using c4
        refine x_seq (x_region (s_val rfl (v_move rfl) (s_val rfl (v_move rfl) (s_do rfl (d_call1 Tryz.call172 rfl (gmThere_spec W0 _ b pg h n)) ?_))))
        rintro _ B_ ⟨rfl, hB_⟩
        obtain rfl := hB_.symm
        refine s_val rfl (v_assign rfl) (x_nil (n_then ?_))
        refine x_if rfl ?_ ?_
        · intro c6
          refine x_seq (x_region (s_val rfl (v_assign rfl) (x_nil (n_then (x_ret (r_block (r_then (x_done (.inl rfl) (.cons (r_tmp rfl) .nil) ?_))))))))
          have he : setE pg n p = 5 := by
            unfold setE; rw [if_pos ⟨hp, ho⟩, if_pos c6]
          exact ⟨_, ⟨by simp [pack, he], by rw [setP, he, if_neg (by decide)]⟩, inferInstance⟩
        · intro c6
          have ht : thereB pg n = false := by simpa using c6
          have he : setE pg n p = 0 := by simp [setE, hp, ho, ht]
          refine x_skip (n_block (n_then (x_seq ?_)))
          obtain ⟨i, rfl, hi⟩ := isP_nat hp
          refine x_draw [(b1, 0, _)] 7 mixed rfl (sc_own sc_end) (fun hS => ?_)
          refine d_take 0 rfl rfl (by kernel_rfl) (by kernel_rfl) (by kernel_rfl) rfl hS (v_move rfl) ?_
          refine d_take 1 rfl rfl (by kernel_rfl) (by kernel_rfl) (by kernel_rfl) rfl hS (v_move rfl) ?_
          refine d_take 2 rfl rfl (by kernel_rfl) (by kernel_rfl) (by kernel_rfl) rfl hS (v_loadAgg Tryz.isAgg153 Tryz.sizeOf153 rfl (cells_sc (k := 0) rfl) rfl) ?_
          refine d_take 3 rfl rfl (by kernel_rfl) (by kernel_rfl) (by kernel_rfl) rfl hS (v_nilCheck rfl) ?_
          refine d_take 4 rfl rfl (by kernel_rfl) (by kernel_rfl) (by kernel_rfl) rfl hS (v_fieldAddr rfl Tryz.underlying258 rfl Tryz.sizeOf154 rfl (by first | exact Nat.zero_add _ | rfl)) ?_
          refine d_take 5 rfl rfl (by kernel_rfl) (by kernel_rfl) (by kernel_rfl) rfl hS (v_idxArr Tryz.underlying154 Tryz.sizeOf153 rfl rfl rfl hi (by first | exact Nat.zero_add _ | rfl)) ?_
          refine d_one 6 (by kernel_rfl) rfl rfl (d_storeAgg Tryz.sizeOf153 rfl rfl rfl rfl (by rw [pg_len, hl]; omega) (pg_set (by omega))) rfl ?_; clear hS
          rintro _ _ rfl
          refine ⟨(sc_own sc_end), fun hS => ?_⟩
          refine d_done (by kernel_rfl) ?_; clear hS
          refine n_then (x_seq (x_region (s_val rfl (v_assign rfl) (x_nil (n_then (x_ret (x_done (.inl rfl) (.cons (r_tmp rfl) .nil) ?_)))))))
          rw [show setP pg i p = pg.set i p by simp [setP, he]]
          exact ⟨_, ⟨by simp [pack, he], rfl⟩, inferInstance⟩
theorem gmDrop_spec (W0 : World) (R : List HP) (b : Nat) (pg : List Pl) (h : Pgs pg) : Spec Tryz.prog W0 175 [.pointer (some ⟨b, 0, none⟩), .int .i64 12] (pt b (gmO pg) :: R)
    (fun v B => v = .int .i64 1 ∧ B = pt b (gmO pg) :: R) := by
  refine spec_body Tryz.func175 Tryz.ntmps175 rfl rfl ?_
  refine x_seq (x_region (s_val rfl (v_assign rfl) (x_nil (n_then (x_seq (x_block (x_seq (x_region (s_val rfl (v_move rfl) (s_do rfl (d_call1 Tryz.call169 rfl (gmNone_spec W0 _ b pg h)) ?_))))))))))
  rintro _ B_ ⟨rfl, hB_⟩
  obtain rfl := hB_.symm
  refine s_val rfl (v_assign rfl) (x_nil (n_then ?_))
  refine x_if rfl ?_ ?_
  · intro c1
    exact absurd c1 (by decide)
  · intro c1
    refine x_seq (x_region (s_val rfl (v_move rfl) (s_do rfl (d_call Tryz.call170 rfl (gmPage_spec W0 _ 12)) ?_)))
    rintro _ B_ ⟨rfl, hB_⟩
    obtain rfl := hB_.symm
    refine s_val rfl (v_not rfl) (s_val rfl (v_assign rfl) (x_nil (n_then ?_)))
    refine x_if rfl ?_ ?_
    · intro c3
      refine x_seq (x_region (s_val rfl (v_assign rfl) (x_nil (n_then (x_ret (r_block (r_then (x_done (.inl rfl) (.cons (r_tmp rfl) .nil) ?_))))))))
      exact ⟨_, ⟨rfl, rfl⟩, inferInstance⟩
    · intro c3
      exact absurd c3 (by decide)
def mayB (n : Int) (p : Pl) (kind : Int) : Bool := decide (kind = 0 ∧ n < 8 ∨ kind = 1 ∧ p.2 % 2 = 1 ∨ kind = 2 ∧ 2 ≤ p.2)
theorem okPl_iff {p : Pl} : okPl p = true ↔ 0 ≤ p.1 ∧ p.1 < 32 ∧ 1 ≤ p.2 ∧ p.2 ≤ 3 := by simp [okPl]
theorem and13 {r : Int} (h : 1 ≤ r ∧ r ≤ 3) : bAnd .i64 r 1 = r % 2 := by
  have : r = 1 ∨ r = 2 ∨ r = 3 := by omega
  rcases this with rfl | rfl | rfl <;> decide
theorem and23 {r : Int} (h : 1 ≤ r ∧ r ≤ 3) : bAnd .i64 r 2 = r / 2 * 2 := by
  have : r = 1 ∨ r = 2 ∨ r = 3 := by omega
  rcases this with rfl | rfl | rfl <;> decide
theorem gmMay_spec (W0 : World) (R : List HP) (n : Int) (p : Pl) (hp : okPl p = true) (kind : Int) : Spec Tryz.prog W0 257 [.int .i64 n, .agg (plV p).toArray, .int .i64 kind] R (fun v B => v = .bool (mayB n p kind) ∧ B = R) := by
  have ho := okPl_iff.1 hp
  refine spec_body Tryz.func257 Tryz.ntmps257 rfl rfl ?_
  refine x_seq (x_region (s_do rfl (d_boxA rfl) ?_))
  rintro _ _ ⟨b1, rfl, rfl⟩
  refine s_val rfl (v_assign rfl) (x_nil (n_then (x_seq (x_seq (x_region (s_val rfl (v_move rfl) (x_nil (n_then (x_block (x_seq (x_region (s_val rfl (v_eql rfl rfl) (s_val rfl (v_assign rfl) (x_nil (n_then ?_)))))))))))))))
  refine x_if rfl ?_ ?_
  · intro c2
    refine x_seq (x_region (s_val rfl (v_move rfl) (s_val rfl (v_lss rfl rfl) (s_val rfl (v_assign rfl) (x_nil (n_then (x_ret (r_block (r_then (x_done (.inl rfl) (.cons (r_tmp rfl) .nil) ?_))))))))))
    refine ⟨_, ⟨?_, rfl⟩, inferInstance⟩
    refine congrArg Value.bool ?_
    rw [Bool.eq_iff_iff]; simp only [mayB, decide_eq_true_eq, Bool.false_eq_true, false_iff, bne_iff_ne]; omega
  · intro c2
    refine x_seq (x_region (s_val rfl (v_eql rfl rfl) (s_val rfl (v_assign rfl) (x_nil (n_then ?_)))))
    refine x_if rfl ?_ ?_
    · intro c4
      refine x_seq (x_region ?_)
      refine s_val rfl (v_fieldAddr rfl Tryz.underlying153 rfl Tryz.sizeOf3 rfl (by first | exact Nat.zero_add _ | rfl)) ?_
      refine s_val rfl (v_load Tryz.isAgg3 rfl (cell_own rfl)) ?_
      refine s_val rfl (v_and rfl rfl (and13 ⟨ho.2.2.1, ho.2.2.2⟩)) ?_
      refine s_val rfl (v_neq rfl rfl) (s_val rfl (v_assign rfl) (x_nil (n_then (x_ret (r_block (r_then (x_done (.inl rfl) (.cons (r_tmp rfl) .nil) ?_)))))))
      refine ⟨_, ⟨?_, rfl⟩, inferInstance⟩
      refine congrArg Value.bool ?_
      rw [Bool.eq_iff_iff]; simp only [mayB, decide_eq_true_eq, Bool.false_eq_true, false_iff, bne_iff_ne]; omega
    · intro c4
      refine x_seq (x_region (s_val rfl (v_eql rfl rfl) (s_val rfl (v_assign rfl) (x_nil (n_then ?_)))))
      refine x_if rfl ?_ ?_
      · intro c6
        refine x_seq (x_region ?_)
        refine s_val rfl (v_fieldAddr rfl Tryz.underlying153 rfl Tryz.sizeOf3 rfl (by first | exact Nat.zero_add _ | rfl)) ?_
        refine s_val rfl (v_load Tryz.isAgg3 rfl (cell_own rfl)) ?_
        refine s_val rfl (v_and rfl rfl (and23 ⟨ho.2.2.1, ho.2.2.2⟩)) ?_
        refine s_val rfl (v_neq rfl rfl) (s_val rfl (v_assign rfl) (x_nil (n_then (x_ret (r_block (r_then (x_done (.inl rfl) (.cons (r_tmp rfl) .nil) ?_)))))))
        refine ⟨_, ⟨?_, rfl⟩, inferInstance⟩
        refine congrArg Value.bool ?_
        rw [Bool.eq_iff_iff]; simp only [mayB, decide_eq_true_eq, Bool.false_eq_true, false_iff, bne_iff_ne]; omega
      · intro c6
        refine x_skip (n_block (n_then (x_seq (x_region (s_val rfl (v_assign rfl) (x_nil (n_then (x_ret (x_done (.inl rfl) (.cons (r_tmp rfl) .nil) ?_)))))))))
        refine ⟨_, ⟨?_, rfl⟩, inferInstance⟩
        refine congrArg Value.bool ?_
        rw [Bool.eq_iff_iff]; simp only [mayB, decide_eq_true_eq, Bool.false_eq_true, false_iff, bne_iff_ne]; omega
def alwE (pg : List Pl) (n kind : Int) : Int := if thereB pg n then (if mayB n (plAt pg n.toNat) kind then 0 else 6) else 7
theorem gGot_ok {pg : List Pl} {n : Int} (h : Pgs pg) (ht : thereB pg n = true) : okPl (gGot pg n) = true := by
  simp only [gGot, ht, if_true]
  simp only [thereB, Bool.and_eq_true, decide_eq_true_eq] at ht
  obtain ⟨i, rfl, hi⟩ := isP_nat ht.1
  exact h.ok _ (by simpa using hi) ht.2
theorem gmAllows_spec (W0 : World) (R : List HP) (b : Nat) (pg : List Pl) (h : Pgs pg) (n kind : Int) : Spec Tryz.prog W0 198 [.pointer (some ⟨b, 0, none⟩), .int .i64 n, .int .i64 kind] (pt b (gmO pg) :: R)
    (fun v B => v = .int .i64 (alwE pg n kind) ∧ B = pt b (gmO pg) :: R) := by
  refine spec_body Tryz.func198 Tryz.ntmps198 rfl rfl ?_
  refine x_seq (x_region (s_val rfl (v_assign rfl) (x_nil (n_then (x_seq (x_region (s_val rfl (v_move rfl) (s_val rfl (v_move rfl) (s_do rfl (d_call1 Tryz.call199 rfl (gmGet_spec W0 _ b pg h n)) ?_)))))))))
  rintro _ B_ ⟨rfl, hB_⟩
  obtain rfl := hB_.symm
  refine s_val rfl (v_move rfl) (s_val rfl (v_extract rfl rfl) (s_val rfl (v_extract rfl rfl) (s_do rfl (d_allocA Tryz.zeroValue153) ?_)))
  rintro _ _ ⟨b1, rfl, rfl⟩
  refine s_do0 (d_storeAll Tryz.sizeOf153 rfl rfl rfl rfl rfl) ?_
  rintro _ _ rfl
  refine s_val rfl (v_assign rfl) (x_nil (n_then (x_seq (x_block (x_seq (x_region (s_val rfl (v_move rfl) (s_val rfl (v_not rfl) (s_val rfl (v_assign rfl) (x_nil (n_then ?_)))))))))))
  refine x_if rfl ?_ ?_
  · intro c2
    refine x_seq (x_region (s_val rfl (v_assign rfl) (x_nil (n_then (x_ret (r_block (r_then (x_done (.inl rfl) (.cons (r_tmp rfl) .nil) ?_))))))))
    refine ⟨_, ⟨?_, rfl⟩, inferInstance⟩
    have ht : thereB pg n = false := by simpa using c2
    simp [pack, alwE, ht]
  · intro c2
    have ht : thereB pg n = true := by simpa using c2
    refine x_seq (x_region (s_val rfl (v_move rfl) (s_val rfl (v_loadAll Tryz.isAgg153 Tryz.sizeOf153 rfl rfl) ?_)))
    refine s_val rfl (v_move rfl) (s_do rfl (d_call Tryz.call257 rfl (gmMay_spec W0 _ n (gGot pg n) (gGot_ok h ht) kind)) ?_)
    rintro _ B_ ⟨rfl, hB_⟩
    obtain rfl := hB_.symm
    refine s_val rfl (v_not rfl) (s_val rfl (v_assign rfl) (x_nil (n_then ?_)))
    refine x_if rfl ?_ ?_
    · intro c4
      refine x_seq (x_region (s_val rfl (v_assign rfl) (x_nil (n_then (x_ret (r_block (r_then (x_done (.inl rfl) (.cons (r_tmp rfl) .nil) ?_))))))))
      refine ⟨_, ⟨?_, rfl⟩, inferInstance⟩
      have hm : mayB n (plAt pg n.toNat) kind = false := by simpa [gGot, ht] using c4
      simp [pack, alwE, ht, hm]
    · intro c4
      refine x_skip (n_block (n_then (x_seq (x_region (s_val rfl (v_assign rfl) (x_nil (n_then (x_ret (x_done (.inl rfl) (.cons (r_tmp rfl) .nil) ?_)))))))))
      refine ⟨_, ⟨?_, rfl⟩, inferInstance⟩
      have hm : mayB n (plAt pg n.toNat) kind = true := by simpa [gGot, ht] using c4
      simp [pack, alwE, ht, hm]
end Go.Proofs.YtlnmofhehcilhaaGreat
namespace Go.Proofs.YtlnmofhehcilhaaGreat
open Go.RowKit
set_option linter.unusedSimpArgs false
set_option linter.unusedVariables false
set_option maxRecDepth 20000
abbrev viO (ps pm d : Nat) : Obj := cob [.pointer (some ⟨ps, 0, none⟩), .pointer (some ⟨pm, 0, none⟩), .int .u32 (d : Nat)] 198
theorem viNone_spec (W0 : World) (R : List HP) (pv ps pm d : Nat) : Spec Tryz.prog W0 119 [.pointer (some ⟨pv, 0, none⟩)] (pt pv (viO ps pm d) :: R) (fun v B => v = .bool false ∧ B = pt pv (viO ps pm d) :: R) := by
  refine spec_body Tryz.func119 Tryz.ntmps119 rfl rfl ?_
  refine x_seq (x_region (s_val rfl (v_assign rfl) (x_nil (n_then (x_seq (x_region (s_val rfl (v_move rfl) (s_val rfl (v_eql_ptr_nil Tryz.underlying51 rfl rfl) (s_val rfl (v_move rfl) ?_)))))))))
  refine s_or rfl rfl rfl ?_ ?_
  · intro g1_3
    cases g1_3
  · intro g1_3
    refine s_val rfl (v_move rfl) (s_yes rfl rfl (s_val rfl (v_nilCheck rfl) (s_yes rfl rfl ?_)))
    refine s_val rfl (v_fieldAddr rfl Tryz.underlying198 rfl Tryz.sizeOf78 rfl (by first | exact Nat.zero_add _ | rfl)) ?_
    refine s_yes rfl rfl (s_val rfl (v_load Tryz.isAgg78 rfl (cell_own rfl)) ?_)
    refine s_yes rfl rfl (s_val rfl (v_eql_ptr_nil Tryz.underlying78 rfl rfl) (s_val rfl (v_pick_f rfl rfl) (s_val rfl (v_assign rfl) (x_nil (n_then (x_ret (x_done (.inl rfl) (.cons (r_tmp rfl) .nil) ?_)))))))
    exact ⟨_, ⟨rfl, rfl⟩, inferInstance⟩
def alB (pa : Nat) (w : Int) : Bool := decide ((w = 1 ∨ w = 2 ∨ w = 4) ∧ (pa : Int) % w = 0)
theorem viAligned_spec (W0 : World) (R : List HP) (pa : Nat) (hpa : pa < 4294967296) (w : Int) : Spec Tryz.prog W0 197 [.int .u32 pa, .int .i64 w] R (fun v B => v = .bool (alB pa w) ∧ B = R) := by
  refine spec_body Tryz.func197 Tryz.ntmps197 rfl rfl ?_
  refine x_seq (x_region (s_val rfl (v_assign rfl) (x_nil (n_then (x_seq (x_seq (x_region (s_val rfl (v_move rfl) (x_nil (n_then (x_block (x_seq (x_seq (x_region (s_val rfl (v_eql rfl rfl) (s_val rfl (v_assign rfl) (x_nil (n_then ?_))))))))))))))))))
  refine x_if rfl ?_ ?_
  · intro c2
    refine x_skip (n_then (x_ift rfl (x_seq (x_region (s_val rfl (v_move rfl) (s_val rfl (v_move rfl) ?_))))))
    refine s_val rfl (v_conv Tryz.underlying3 Tryz.underlying47 rfl (w32u (by omega))) ?_
    refine s_val rfl (v_rem rfl rfl (by omega) (Int.tmod_eq_emod_of_nonneg (by omega))) ?_
    refine s_val rfl (v_eql rfl rfl) (s_val rfl (v_assign rfl) (x_nil (n_then (x_ret (r_block (r_then (x_done (.inl rfl) (.cons (r_tmp rfl) .nil) ?_)))))))
    refine ⟨_, ⟨?_, rfl⟩, inferInstance⟩
    refine congrArg Value.bool ?_
    rw [Bool.eq_iff_iff]; simp only [alB, decide_eq_true_eq, beq_iff_eq]
    first
      | (subst c2; simp)
      | (subst c3; simp)
      | (subst c4; simp)
  · intro c2
    refine x_seq (x_region (s_val rfl (v_eql rfl rfl) (s_val rfl (v_assign rfl) (x_nil (n_then ?_)))))
    refine x_if rfl ?_ ?_
    · intro c3
      refine x_skip (n_then (x_ift rfl (x_seq (x_region (s_val rfl (v_move rfl) (s_val rfl (v_move rfl) ?_))))))
      refine s_val rfl (v_conv Tryz.underlying3 Tryz.underlying47 rfl (w32u (by omega))) ?_
      refine s_val rfl (v_rem rfl rfl (by omega) (Int.tmod_eq_emod_of_nonneg (by omega))) ?_
      refine s_val rfl (v_eql rfl rfl) (s_val rfl (v_assign rfl) (x_nil (n_then (x_ret (r_block (r_then (x_done (.inl rfl) (.cons (r_tmp rfl) .nil) ?_)))))))
      refine ⟨_, ⟨?_, rfl⟩, inferInstance⟩
      refine congrArg Value.bool ?_
      rw [Bool.eq_iff_iff]; simp only [alB, decide_eq_true_eq, beq_iff_eq]
      first
        | (subst c2; simp)
        | (subst c3; simp)
        | (subst c4; simp)
    · intro c3
      refine x_region (s_val rfl (v_eql rfl rfl) (s_val rfl (v_assign rfl) (x_nil (n_then ?_))))
      refine x_if rfl ?_ ?_
      · intro c4
        refine x_seq (x_region (s_val rfl (v_move rfl) (s_val rfl (v_move rfl) ?_)))
        refine s_val rfl (v_conv Tryz.underlying3 Tryz.underlying47 rfl (w32u (by omega))) ?_
        refine s_val rfl (v_rem rfl rfl (by omega) (Int.tmod_eq_emod_of_nonneg (by omega))) ?_
        refine s_val rfl (v_eql rfl rfl) (s_val rfl (v_assign rfl) (x_nil (n_then (x_ret (r_block (r_then (x_done (.inl rfl) (.cons (r_tmp rfl) .nil) ?_)))))))
        refine ⟨_, ⟨?_, rfl⟩, inferInstance⟩
        refine congrArg Value.bool ?_
        rw [Bool.eq_iff_iff]; simp only [alB, decide_eq_true_eq, beq_iff_eq]
        first
          | (subst c2; simp)
          | (subst c3; simp)
          | (subst c4; simp)
      · intro c4
        refine x_skip (n_block (n_then (x_seq (x_region (s_val rfl (v_assign rfl) (x_nil (n_then (x_ret (x_done (.inl rfl) (.cons (r_tmp rfl) .nil) ?_)))))))))
        refine ⟨_, ⟨?_, rfl⟩, inferInstance⟩
        refine congrArg Value.bool ?_
        rw [Bool.eq_iff_iff]; simp only [alB, decide_eq_true_eq, Bool.false_eq_true, false_iff]; omega
def fndE (n : Nat) (pg : List Pl) (pa : Nat) (w kind : Int) : Int :=
  if alB pa w then (if pa < 768 then (if alwE pg ((pa / 64 : Nat) : Int) kind = 0 then (if (gGot pg ((pa / 64 : Nat) : Int)).1 < n then 0 else 7) else alwE pg ((pa / 64 : Nat) : Int) kind) else 2) else 1
def fndV (n : Nat) (pg : List Pl) (pa : Nat) (w kind : Int) : List Value :=
  if fndE n pg pa w kind = 0 then [.int .i64 (pa / 64 : Nat), .int .i64 (gGot pg ((pa / 64 : Nat) : Int)).1, .int .i64 (pa % 64 : Nat), .bool false] else [.int .i64 0, .int .i64 0, .int .i64 0, .bool false]
theorem viFind_spec (W0 : World) (R : List HP) (pv ps pm d : Nat) (fr : List Frm) (pg : List Pl) (h : Pgs pg) (pa : Nat) (hpa : pa < 4294967296) (w kind : Int) :
    Spec Tryz.prog W0 123 [.pointer (some ⟨pv, 0, none⟩), .int .u32 pa, .int .i64 w, .int .i64 kind] (pt pv (viO ps pm d) :: stoH ps fr :: pt pm (gmO pg) :: R)
      (fun v B => v = .tuple #[.agg (fndV fr.length pg pa w kind).toArray, .int .i64 (fndE fr.length pg pa w kind)] ∧ B = pt pv (viO ps pm d) :: stoH ps fr :: pt pm (gmO pg) :: R) := by
  refine spec_body Tryz.func123 Tryz.ntmps123 rfl rfl ?_
  refine x_seq (x_region (s_do rfl (d_allocA Tryz.zeroValue207) ?_))
  rintro _ _ ⟨b1, rfl, rfl⟩
  refine s_val rfl (v_assign rfl) (x_nil (n_then (x_seq (x_block (x_seq (x_region (s_val rfl (v_move rfl) (s_do rfl (d_call1 Tryz.call119 rfl (viNone_spec W0 _ pv ps pm d)) ?_))))))))
  rintro _ B_ ⟨rfl, hB_⟩
  obtain rfl := hB_.symm
  refine s_val rfl (v_assign rfl) (x_nil (n_then ?_))
  refine x_if rfl ?_ ?_
  · intro c1
    exact absurd c1 (by decide)
  · intro c1
    refine x_seq (x_region (s_val rfl (v_move rfl) (s_val rfl (v_move rfl) (s_do rfl (d_call Tryz.call197 rfl (viAligned_spec W0 _ pa hpa w)) ?_))))
    rintro _ B_ ⟨rfl, hB_⟩
    obtain rfl := hB_.symm
    refine s_val rfl (v_not rfl) (s_val rfl (v_assign rfl) (x_nil (n_then ?_)))
    refine x_if rfl ?_ ?_
    · intro c3
      refine x_seq (x_region (s_val rfl (v_build Tryz.underlying207 Tryz.zeroValue207 (sized_cons Tryz.sizeOf3 (sized_cons Tryz.sizeOf3 (sized_cons Tryz.sizeOf3 (sized_cons Tryz.sizeOf4 sized_nil)))) fil_nil) ?_))
      refine s_do0 (d_storeAll Tryz.sizeOf207 rfl rfl rfl rfl rfl) ?_
      rintro _ _ rfl
      refine s_val rfl (v_assign rfl) (x_nil (n_then (x_ret (r_block (r_then (x_done (.inl rfl) (.cons (r_all Tryz.isAgg207 Tryz.sizeOf207 rfl rfl) (.cons (r_tmp rfl) .nil)) ?_))))))
      refine ⟨_, ⟨?_, rfl⟩, inferInstance⟩
      have ha : alB pa w = false := by simpa using c3
      have he : fndE fr.length pg pa w kind = 1 := by simp [fndE, ha]
      simp [pack, fndV, he]
    · intro c3
      have ha : alB pa w = true := by simpa using c3
      refine x_seq (x_region (s_val rfl (v_move rfl) (s_val rfl (v_geq rfl rfl) (s_val rfl (v_assign rfl) (x_nil (n_then ?_))))))
      refine x_if rfl ?_ ?_
      · intro c5
        refine x_seq (x_region (s_val rfl (v_build Tryz.underlying207 Tryz.zeroValue207 (sized_cons Tryz.sizeOf3 (sized_cons Tryz.sizeOf3 (sized_cons Tryz.sizeOf3 (sized_cons Tryz.sizeOf4 sized_nil)))) fil_nil) ?_))
        refine s_do0 (d_storeAll Tryz.sizeOf207 rfl rfl rfl rfl rfl) ?_
        rintro _ _ rfl
        refine s_val rfl (v_assign rfl) (x_nil (n_then (x_ret (r_block (r_then (x_done (.inl rfl) (.cons (r_all Tryz.isAgg207 Tryz.sizeOf207 rfl rfl) (.cons (r_tmp rfl) .nil)) ?_))))))
        refine ⟨_, ⟨?_, rfl⟩, inferInstance⟩
        have he : fndE fr.length pg pa w kind = 2 := by unfold fndE; rw [if_pos ha, if_neg (by omega)]
        simp [pack, fndV, he]
      · intro c5
        refine x_skip (n_block (n_then (x_seq (x_region (s_val rfl (v_move rfl) ?_)))))
        refine s_val rfl (v_quo rfl rfl (by decide) ((congrArg (IntKind.wrap .u32) (tdivN pa 64)).trans (w32u (by omega)))) ?_
        refine s_val rfl (v_conv Tryz.underlying47 Tryz.underlying3 rfl (w64 (by omega))) ?_
        refine s_val rfl (v_assign rfl) (x_nil (n_then (x_seq (x_seq (x_region (s_val rfl (v_move rfl) (s_val rfl (v_nilCheck rfl) ?_)))))))
        refine s_val rfl (v_fieldAddr rfl Tryz.underlying198 rfl Tryz.sizeOf148 rfl (by first | exact Nat.zero_add _ | rfl)) ?_
        refine s_val rfl (v_load Tryz.isAgg148 rfl (cell_own rfl)) ?_
        refine s_val rfl (v_move rfl) (s_val rfl (v_move rfl) (s_do rfl (d_call1 Tryz.call198 rfl (gmAllows_spec W0 _ pm pg h ((pa / 64 : Nat) : Int) kind)) ?_))
        rintro _ B_ ⟨rfl, hB_⟩
        obtain rfl := hB_.symm
        refine s_val rfl (v_assign rfl) (x_nil (n_then (x_seq (x_region (s_val rfl (v_move rfl) (s_val rfl (v_neq rfl rfl) (x_nil (n_then ?_))))))))
        refine x_if rfl ?_ ?_
        · intro c9
          refine x_seq (x_region (s_val rfl (v_build Tryz.underlying207 Tryz.zeroValue207 (sized_cons Tryz.sizeOf3 (sized_cons Tryz.sizeOf3 (sized_cons Tryz.sizeOf3 (sized_cons Tryz.sizeOf4 sized_nil)))) fil_nil) ?_))
          refine s_val rfl (v_move rfl) (s_do0 (d_storeAll Tryz.sizeOf207 rfl rfl rfl rfl rfl) ?_)
          rintro _ _ rfl
          refine s_val rfl (v_assign rfl) (x_nil (n_then (x_ret (r_then (x_done (.inl rfl) (.cons (r_all Tryz.isAgg207 Tryz.sizeOf207 rfl rfl) (.cons (r_tmp rfl) .nil)) ?_)))))
          refine ⟨_, ⟨?_, rfl⟩, inferInstance⟩
          have he : fndE fr.length pg pa w kind = alwE pg ((pa / 64 : Nat) : Int) kind := by unfold fndE; rw [if_pos ha, if_pos (by omega), if_neg c9]
          rw [fndV, if_neg (by rw [he]; exact c9), he]; rfl
        · intro c9
          have hz : alwE pg ((pa / 64 : Nat) : Int) kind = 0 := by simpa using c9
          refine x_skip (n_then (x_seq (x_region (s_val rfl (v_move rfl) (s_val rfl (v_nilCheck rfl) ?_)))))
          refine s_val rfl (v_fieldAddr rfl Tryz.underlying198 rfl Tryz.sizeOf148 rfl (by first | exact Nat.zero_add _ | rfl)) ?_
          refine s_val rfl (v_load Tryz.isAgg148 rfl (cell_own rfl)) ?_
          refine s_val rfl (v_move rfl) (s_do rfl (d_call1 Tryz.call199 rfl (gmGet_spec W0 _ pm pg h ((pa / 64 : Nat) : Int))) ?_)
          rintro _ B_ ⟨rfl, hB_⟩
          obtain rfl := hB_.symm
          refine s_val rfl (v_move rfl) (s_val rfl (v_extract rfl rfl) (s_val rfl (v_extract rfl rfl) (s_do rfl (d_allocA Tryz.zeroValue153) ?_)))
          rintro _ _ ⟨b2, rfl, rfl⟩
          refine s_do0 (d_storeAll Tryz.sizeOf153 rfl rfl rfl rfl rfl) ?_
          rintro _ _ rfl
          refine s_val rfl (v_assign rfl) (x_nil (n_then (x_seq (x_seq ?_))))
          refine x_draw [(b2, 0, _), (pv, 0, _)] 8 mixed rfl (sc_own (sc_own sc_end)) (fun hS => ?_)
          refine d_take 0 rfl rfl (by kernel_rfl) (by kernel_rfl) (by kernel_rfl) rfl hS (v_fieldAddr rfl Tryz.underlying153 rfl Tryz.sizeOf3 rfl (by first | exact Nat.zero_add _ | rfl)) ?_
          refine d_take 1 rfl rfl (by kernel_rfl) (by kernel_rfl) (by kernel_rfl) rfl hS (v_load Tryz.isAgg3 rfl (by first | exact cell_sc0 (k := 0) rfl rfl | exact cell_sc0 (k := 1) rfl rfl)) ?_
          refine d_take 2 rfl rfl (by kernel_rfl) (by kernel_rfl) (by kernel_rfl) rfl hS (v_move rfl) ?_
          refine d_take 3 rfl rfl (by kernel_rfl) (by kernel_rfl) (by kernel_rfl) rfl hS (v_nilCheck rfl) ?_
          refine d_take 4 rfl rfl (by kernel_rfl) (by kernel_rfl) (by kernel_rfl) rfl hS (v_fieldAddr rfl Tryz.underlying198 rfl Tryz.sizeOf78 rfl (by first | exact Nat.zero_add _ | rfl)) ?_
          refine d_take 5 rfl rfl (by kernel_rfl) (by kernel_rfl) (by kernel_rfl) rfl hS (v_load Tryz.isAgg78 rfl (by first | exact cell_sc0 (k := 0) rfl rfl | exact cell_sc0 (k := 1) rfl rfl)) ?_
          refine d_one 6 (by kernel_rfl) rfl rfl (d_call1 Tryz.call174 rfl (frLen_spec W0 _ ps fr)) rfl ?_; clear hS
          rintro _ B_ ⟨rfl, hB_⟩
          obtain rfl := hB_.symm
          refine ⟨(sc_own (sc_own sc_end)), fun hS => ?_⟩
          refine d_take 7 rfl rfl (by kernel_rfl) (by kernel_rfl) (by kernel_rfl) rfl hS (v_geq rfl rfl) ?_
          refine d_done (by kernel_rfl) ?_; clear hS
          refine n_then ?_
          refine x_if rfl ?_ ?_
          · intro c12
            refine x_seq (x_region (s_val rfl (v_build Tryz.underlying207 Tryz.zeroValue207 (sized_cons Tryz.sizeOf3 (sized_cons Tryz.sizeOf3 (sized_cons Tryz.sizeOf3 (sized_cons Tryz.sizeOf4 sized_nil)))) fil_nil) ?_))
            refine s_do0 (d_storeAll Tryz.sizeOf207 rfl rfl rfl rfl rfl) ?_
            rintro _ _ rfl
            refine s_val rfl (v_assign rfl) (x_nil (n_then (x_ret (r_then (x_done (.inl rfl) (.cons (r_all Tryz.isAgg207 Tryz.sizeOf207 rfl rfl) (.cons (r_tmp rfl) .nil)) ?_)))))
            refine ⟨_, ⟨?_, rfl⟩, inferInstance⟩
            have he : fndE fr.length pg pa w kind = 7 := by unfold fndE; rw [if_pos ha, if_pos (by omega), if_pos hz, if_neg (by omega)]
            simp [pack, fndV, he]
          · intro c12
            refine x_skip (n_then (x_seq (x_region (s_val rfl (v_move rfl) ?_))))
            refine s_val rfl (v_fieldAddr rfl Tryz.underlying153 rfl Tryz.sizeOf3 rfl (by first | exact Nat.zero_add _ | rfl)) ?_
            refine s_val rfl (v_load Tryz.isAgg3 rfl (cell_own rfl)) ?_
            refine s_val rfl (v_move rfl) ?_
            refine s_val rfl (v_rem rfl rfl (by decide) (tmodN pa 64)) ?_
            refine s_val rfl (v_conv Tryz.underlying47 Tryz.underlying3 rfl (w64 (by omega))) ?_
            refine s_val rfl (v_build Tryz.underlying207 Tryz.zeroValue207 (sized_cons Tryz.sizeOf3 (sized_cons Tryz.sizeOf3 (sized_cons Tryz.sizeOf3 (sized_cons Tryz.sizeOf4 sized_nil)))) (fil_scal rfl Tryz.sizeOf3 rfl rfl (Nat.le_of_ble_eq_true rfl) SetL.eq (fil_scal rfl Tryz.sizeOf3 rfl rfl (Nat.le_of_ble_eq_true rfl) SetL.eq (fil_scal rfl Tryz.sizeOf3 rfl rfl (Nat.le_of_ble_eq_true rfl) SetL.eq fil_nil)))) ?_
            refine s_do0 (d_storeAll Tryz.sizeOf207 rfl rfl rfl rfl rfl) ?_
            rintro _ _ rfl
            refine s_val rfl (v_assign rfl) (x_nil (n_then (x_ret (x_done (.inl rfl) (.cons (r_all Tryz.isAgg207 Tryz.sizeOf207 rfl rfl) (.cons (r_tmp rfl) .nil)) ?_))))
            refine ⟨_, ⟨?_, rfl⟩, inferInstance⟩
            have he : fndE fr.length pg pa w kind = 0 := by unfold fndE; rw [if_pos ha, if_pos (by omega), if_pos hz, if_pos (by omega)]
            simp [pack, fndV, he]
end Go.Proofs.YtlnmofhehcilhaaGreat
namespace Go.Proofs.YtlnmofhehcilhaaGreat
open Go.RowKit
set_option linter.unusedSimpArgs false
set_option linter.unusedVariables false
set_option maxRecDepth 20000
theorem fnd_ok {n : Nat} {pg : List Pl} {pa : Nat} {w kind : Int} (h : fndE n pg pa w kind = 0) : pa < 768 ∧ (gGot pg ((pa / 64 : Nat) : Int)).1 < n ∧ fndV n pg pa w kind = [.int .i64 (pa / 64 : Nat), .int .i64 (gGot pg ((pa / 64 : Nat) : Int)).1, .int .i64 (pa % 64 : Nat), .bool false] := by
  refine ⟨?_, ?_, by rw [fndV, if_pos h]⟩
  · unfold fndE at h; split at h
    · split at h
      · assumption
      · omega
    · omega
  · unfold fndE at h; split at h
    · split at h
      · split at h
        · split at h
          · assumption
          · omega
        · contradiction
      · omega
    · omega
def vsvF (fr : List Frm) (pg : List Pl) (pa : Nat) (w : Int) (x : Nat) : List Frm := if fndE fr.length pg pa w 2 = 0 then svF fr (gGot pg ((pa / 64 : Nat) : Int)).1 ((pa % 64 : Nat) : Int) w x else fr
def vsvD (fr : List Frm) (pg : List Pl) (pa : Nat) (w : Int) (d : Nat) : Nat := if fndE fr.length pg pa w 2 = 0 then d ||| 2 ^ (pa / 64) else d
theorem shl_page {n : Nat} (h : n < 12) : bShl .u32 1 (n : Int) = ((2 ^ n : Nat) : Int) := by
  have : ∀ n : Nat, n < 12 → bShl .u32 1 (n : Int) = ((2 ^ n : Nat) : Int) := by decide
  exact this n h
theorem page_lt {n : Nat} (h : n < 12) : 2 ^ n < 4096 := by
  have : ∀ n : Nat, n < 12 → 2 ^ n < 4096 := by decide
  exact this n h
theorem viSave_spec (W0 : World) (R : List HP) (pv ps pm d : Nat) (fr : List Frm) (pg : List Pl) (h : Pgs pg) (hF : Frs fr) (hd : d < 4096) (pa : Nat) (hpa : pa < 4294967296) (w : Int) (x : Nat) (hx : x < 4294967296) :
    Spec Tryz.prog W0 41 [.pointer (some ⟨pv, 0, none⟩), .int .u32 pa, .int .i64 w, .int .u32 x] (pt pv (viO ps pm d) :: stoH ps fr :: pt pm (gmO pg) :: R)
      (fun v B => v = .int .i64 (fndE fr.length pg pa w 2) ∧ B = pt pv (viO ps pm (vsvD fr pg pa w d)) :: stoH ps (vsvF fr pg pa w x) :: pt pm (gmO pg) :: R) := by
  by_cases hz : fndE fr.length pg pa w 2 = 0
  · obtain ⟨h1, h2, hv⟩ := fnd_ok hz
    have hp := page_lt (n := pa / 64) (by omega)
    rw [vsvD, if_pos hz, vsvF, if_pos hz]
    refine spec_body Tryz.func41 Tryz.ntmps41 rfl rfl ?_
    refine x_seq (x_region (s_val rfl (v_assign rfl) (x_nil (n_then (x_seq (x_region (s_val rfl (v_move rfl) (s_val rfl (v_move rfl) (s_val rfl (v_move rfl) (s_do rfl (d_call3 Tryz.call123 rfl (viFind_spec W0 _ pv ps pm d fr pg h pa hpa w 2)) ?_))))))))))
    rintro _ B_ ⟨rfl, hB_⟩
    obtain rfl := hB_.symm
    rw [hv, hz]
    refine s_val rfl (v_move rfl) (s_val rfl (v_extract rfl rfl) (s_val rfl (v_extract rfl rfl) (s_do rfl (d_allocA Tryz.zeroValue207) ?_)))
    rintro _ _ ⟨b1, rfl, rfl⟩
    refine s_do0 (d_storeAll Tryz.sizeOf207 rfl rfl rfl rfl rfl) ?_
    rintro _ _ rfl
    refine s_val rfl (v_assign rfl) (x_nil (n_then (x_seq (x_seq (x_region (s_val rfl (v_move rfl) (s_val rfl (v_neq rfl rfl) (x_nil (n_then ?_)))))))))
    refine x_if rfl ?_ ?_
    · intro c2
      exact absurd rfl c2
    · intro c2
      refine x_skip (n_then (x_seq ?_))
      refine x_draw [(pv, 0, _), (b1, 0, _)] 11 mixed rfl (sc_own (sc_own sc_end)) (fun hS => ?_)
      refine d_take 0 rfl rfl (by kernel_rfl) (by kernel_rfl) (by kernel_rfl) rfl hS (v_move rfl) ?_
      refine d_take 1 rfl rfl (by kernel_rfl) (by kernel_rfl) (by kernel_rfl) rfl hS (v_nilCheck rfl) ?_
      refine d_take 2 rfl rfl (by kernel_rfl) (by kernel_rfl) (by kernel_rfl) rfl hS (v_fieldAddr rfl Tryz.underlying198 rfl Tryz.sizeOf78 rfl (by first | exact Nat.zero_add _ | rfl)) ?_
      refine d_take 3 rfl rfl (by kernel_rfl) (by kernel_rfl) (by kernel_rfl) rfl hS (v_load Tryz.isAgg78 rfl (by first | exact cell_sc0 (k := 0) rfl rfl | exact cell_sc0 (k := 1) rfl rfl)) ?_
      refine d_take 4 rfl rfl (by kernel_rfl) (by kernel_rfl) (by kernel_rfl) rfl hS (v_fieldAddr rfl Tryz.underlying207 rfl Tryz.sizeOf3 rfl (by first | exact Nat.zero_add _ | rfl)) ?_
      refine d_take 5 rfl rfl (by kernel_rfl) (by kernel_rfl) (by kernel_rfl) rfl hS (v_load Tryz.isAgg3 rfl (by first | exact cell_sc0 (k := 0) rfl rfl | exact cell_sc0 (k := 1) rfl rfl)) ?_
      refine d_take 6 rfl rfl (by kernel_rfl) (by kernel_rfl) (by kernel_rfl) rfl hS (v_fieldAddr rfl Tryz.underlying207 rfl Tryz.sizeOf3 rfl (by first | exact Nat.zero_add _ | rfl)) ?_
      refine d_take 7 rfl rfl (by kernel_rfl) (by kernel_rfl) (by kernel_rfl) rfl hS (v_load Tryz.isAgg3 rfl (by first | exact cell_sc0 (k := 0) rfl rfl | exact cell_sc0 (k := 1) rfl rfl)) ?_
      refine d_take 8 rfl rfl (by kernel_rfl) (by kernel_rfl) (by kernel_rfl) rfl hS (v_move rfl) ?_
      refine d_take 9 rfl rfl (by kernel_rfl) (by kernel_rfl) (by kernel_rfl) rfl hS (v_move rfl) ?_
      refine d_one 10 (by kernel_rfl) rfl rfl (d_call1 Tryz.call124 rfl (frSave_spec W0 _ ps fr _ _ w x hx hF)) rfl ?_; clear hS
      rintro _ B_ ⟨rfl, hB_⟩
      obtain rfl := hB_.symm
      refine ⟨(sc_own (sc_own sc_end)), fun hS => ?_⟩
      refine d_done (by kernel_rfl) ?_; clear hS
      refine n_then (x_seq ?_)
      refine x_draw [(b1, 0, _)] 11 mixed rfl (sc_own sc_end) (fun hS => ?_)
      refine d_take 0 rfl rfl (by kernel_rfl) (by kernel_rfl) (by kernel_rfl) rfl hS (v_move rfl) ?_
      refine d_take 1 rfl rfl (by kernel_rfl) (by kernel_rfl) (by kernel_rfl) rfl hS (v_nilCheck rfl) ?_
      refine d_take 2 rfl rfl (by kernel_rfl) (by kernel_rfl) (by kernel_rfl) rfl hS (v_fieldAddr rfl Tryz.underlying198 rfl Tryz.sizeOf47 rfl (by first | exact Nat.zero_add _ | rfl)) ?_
      refine d_take 4 rfl rfl (by kernel_rfl) (by kernel_rfl) (by kernel_rfl) rfl hS (v_fieldAddr rfl Tryz.underlying207 rfl Tryz.sizeOf3 rfl (by first | exact Nat.zero_add _ | rfl)) ?_
      refine d_take 5 rfl rfl (by kernel_rfl) (by kernel_rfl) (by kernel_rfl) rfl hS (v_load Tryz.isAgg3 rfl (cell_sc0 (k := 0) rfl rfl)) ?_
      refine d_take 6 rfl rfl (by kernel_rfl) (by kernel_rfl) (by kernel_rfl) rfl hS (v_shl rfl rfl (by omega) (shl_page (by omega))) ?_
      refine d_one 3 (by kernel_rfl) rfl rfl (d_val (v_load Tryz.isAgg47 rfl (cell_own rfl))) rfl ?_; clear hS
      rintro _ _ ⟨rfl, rfl⟩
      refine ⟨(sc_own sc_end), fun hS => ?_⟩
      refine d_take 7 rfl rfl (by kernel_rfl) (by kernel_rfl) (by kernel_rfl) rfl hS (v_or rfl rfl (bOr_u32 (by omega) (by omega))) ?_
      refine d_take 8 rfl rfl (by kernel_rfl) (by kernel_rfl) (by kernel_rfl) rfl hS (v_nilCheck rfl) ?_
      refine d_take 9 rfl rfl (by kernel_rfl) (by kernel_rfl) (by kernel_rfl) rfl hS (v_fieldAddr rfl Tryz.underlying198 rfl Tryz.sizeOf47 rfl (by first | exact Nat.zero_add _ | rfl)) ?_
      refine d_one 10 (by kernel_rfl) rfl rfl (d_store Tryz.sizeOf47 rfl rfl rfl (Nat.le_of_ble_eq_true rfl) SetL.eq) rfl ?_; clear hS
      rintro _ _ rfl
      refine ⟨(sc_own sc_end), fun hS => ?_⟩
      refine d_done (by kernel_rfl) ?_; clear hS
      refine n_then (x_seq (x_region (s_val rfl (v_assign rfl) (x_nil (n_then (x_ret (x_done (.inl rfl) (.cons (r_tmp rfl) .nil) ?_)))))))
      exact ⟨_, ⟨rfl, rfl⟩, inferInstance⟩
  · rw [vsvD, if_neg hz, vsvF, if_neg hz]
    refine spec_body Tryz.func41 Tryz.ntmps41 rfl rfl ?_
    refine x_seq (x_region (s_val rfl (v_assign rfl) (x_nil (n_then (x_seq (x_region (s_val rfl (v_move rfl) (s_val rfl (v_move rfl) (s_val rfl (v_move rfl) (s_do rfl (d_call3 Tryz.call123 rfl (viFind_spec W0 _ pv ps pm d fr pg h pa hpa w 2)) ?_))))))))))
    rintro _ B_ ⟨rfl, hB_⟩
    obtain rfl := hB_.symm
    rw [fndV, if_neg hz]
    refine s_val rfl (v_move rfl) (s_val rfl (v_extract rfl rfl) (s_val rfl (v_extract rfl rfl) (s_do rfl (d_allocA Tryz.zeroValue207) ?_)))
    rintro _ _ ⟨b1, rfl, rfl⟩
    refine s_do0 (d_storeAll Tryz.sizeOf207 rfl rfl rfl rfl rfl) ?_
    rintro _ _ rfl
    refine s_val rfl (v_assign rfl) (x_nil (n_then (x_seq (x_seq (x_region (s_val rfl (v_move rfl) (s_val rfl (v_neq rfl rfl) (x_nil (n_then ?_)))))))))
    refine x_if rfl ?_ ?_
    · intro c2
      refine x_seq (x_region (s_val rfl (v_move rfl) (s_val rfl (v_assign rfl) (x_nil (n_then (x_ret (r_then (x_done (.inl rfl) (.cons (r_tmp rfl) .nil) ?_))))))))
      exact ⟨_, ⟨rfl, rfl⟩, inferInstance⟩
    · intro c2
      exact absurd hz c2
end Go.Proofs.YtlnmofhehcilhaaGreat
