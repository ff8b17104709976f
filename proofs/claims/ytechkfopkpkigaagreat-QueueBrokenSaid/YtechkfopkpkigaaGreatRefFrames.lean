/-
  The reference of layer 6: a slice of slices.
-/
import Derived.Test.YtechkfopkpkigaaGreatFrames
namespace Go.Proofs.YtechkfopkpkigaaGreat
open Go.RowKit
set_option linter.unusedSimpArgs false
set_option linter.unusedVariables false
set_option maxRecDepth 20000

def inH (p : Value × Frm) : HP := osl 5 1 p.1 (byV p.2)
def rstoH (qs : Nat) (fr : List Frm) : HP := chk (fun C => ∃ a c, ∃ vs : List Value, vs.length = fr.length ∧ C = pt qs (cob [.slice a fr.length c] 114) :: osl 76 1 (.slice a fr.length c) vs :: (vs.zip fr).map inH)
section
variable {P : Program} {W0 : World} {N : FSz} {K : Act → World → Prop} {e : Env} {A B R R1 R2 : List HP} {qs g n : Nat} {fr : List Frm} {f : FuncId} {args : List Value} {Post : Value → List HP → Prop} {l : List Value}
theorem run_rsto [hk : Tk rstoH qs A fr R] (h : ∀ a c vs, vs.length = fr.length → Run W0 N K e (pt qs (cob [.slice a fr.length c] 114) :: osl 76 1 (.slice a fr.length c) vs :: ((vs.zip fr).map inH ++ R))) : Run W0 N K e A :=
  run_tk (r := rstoH) (b := qs) (run_chk fun C hC => by obtain ⟨a, c, vs, h1, rfl⟩ := hC; exact h a c vs h1)
theorem ent_rsto {a : Option Addr} {c : Nat} {vs : List Value} [h1 : Tk pt qs A (cob [.slice a n c] 114) R1] [h2 : Tk (osl 76 1) (.slice a n c) R1 vs ((vs.zip fr).map inH ++ R2)] (hv : vs.length = fr.length) (hn : n = fr.length) [k : Ent R2 B] : Ent A (rstoH qs fr :: B) := by
  subst hn
  have e1 : A.Perm ((pt qs (cob [.slice a fr.length c] 114) :: osl 76 1 (.slice a fr.length c) vs :: (vs.zip fr).map inH) ++ R2) := h1.perm.trans (h2.perm.cons _)
  have e2 : Ent ((pt qs (cob [.slice a fr.length c] 114) :: osl 76 1 (.slice a fr.length c) vs :: (vs.zip fr).map inH) ++ R2) (rstoH qs fr :: R2) := ent_chk ⟨a, c, vs, hv, rfl⟩
  exact (Ent.ofPerm e1).trans (e2.trans (Ent.cons k))
theorem perm_erase {α : Type} : ∀ (l : List α) (i : Nat) (h : i < l.length), l.Perm (l[i] :: l.eraseIdx i)
  | x :: l, 0, h => by simp
  | x :: l, i + 1, h => by
    simp only [List.getElem_cons_succ, List.eraseIdx_cons_succ]
    exact ((perm_erase l i (by simpa using h)).cons x).trans (List.Perm.swap _ _ _)
theorem perm_set {α : Type} : ∀ (l : List α) (i : Nat) (x : α) (h : i < l.length), (x :: l.eraseIdx i).Perm (l.set i x)
  | y :: l, 0, x, h => by simp
  | y :: l, i + 1, x, h => by
    simp only [List.set_cons_succ, List.eraseIdx_cons_succ]
    exact (List.Perm.swap _ _ _).trans ((perm_set l i x (by simpa using h)).cons y)
theorem run_oslT {E sz : Nat} {v : Value} {xs : List Value} [hk : Tk (osl E sz) v A xs R] (h0 : v = .slice none 0 0 → xs = [] → Run W0 N K e R)
    (h1 : ∀ g n cap sp, v = .slice (some ⟨g, 0, none⟩) n cap → n ≤ cap → cap ≤ maxLen → xs.length = n * sz → (xs ++ sp).length = cap * sz → Run W0 N K e (pt g (cob (xs ++ sp) E) :: R)) : Run W0 N K e A :=
  run_tk (r := osl E sz) (b := v) (run_osl h0 h1)
/-- One frame apart. -/
theorem run_rstoN [hk : Tk rstoH qs A fr R] {i : Nat} (hi : i < fr.length) (h : ∀ a c vs vi, vs.length = fr.length → vs[i]? = some vi →
      Run W0 N K e (pt qs (cob [.slice a fr.length c] 114) :: osl 76 1 (.slice a fr.length c) vs :: osl 5 1 vi (byV (fr.getD i [])) :: (((vs.zip fr).map inH).eraseIdx i ++ R))) : Run W0 N K e A := by
  refine run_rsto (qs := qs) fun a c vs hv => ?_
  have hlen : ((vs.zip fr).map inH).length = fr.length := by simp [hv]
  have hiv : i < vs.length := by omega
  have hg : ((vs.zip fr).map inH)[i]'(by omega) = osl 5 1 vs[i] (byV (fr.getD i [])) := by simp [inH, List.getD, hi]
  have hp := perm_erase ((vs.zip fr).map inH) i (by omega)
  rw [hg] at hp
  exact run_perm (((hp.append_right R).cons _).cons _) (h a c vs vs[i] hv (by simp [hiv]))
theorem ent_rstoN {a : Option Addr} {c i : Nat} {vs : List Value} {vi : Value} {y : Frm} {ys : List Value} {R3 : List HP} [h1 : Tk pt qs A (cob [.slice a n c] 114) R1] [h2 : Tk (osl 76 1) (.slice a n c) R1 (vs.set i vi) R2] [h3 : Tk (osl 5 1) vi R2 ys (((vs.zip fr).map inH).eraseIdx i ++ R3)]
    (hy : ys = byV y) (hv : vs.length = fr.length) (hn : n = fr.length) (hi : i < fr.length) [k : Ent R3 B] : Ent A (rstoH qs (fr.set i y) :: B) := by
  subst hy
  have e1 : A.Perm (pt qs (cob [.slice a n c] 114) :: osl 76 1 (.slice a n c) (vs.set i vi) :: ((((vs.set i vi).zip (fr.set i y)).map inH) ++ R3)) := by
    refine h1.perm.trans ((h2.perm.trans ((h3.perm.trans ?_).cons _)).cons _)
    have hs : ((vs.set i vi).zip (fr.set i y)).map inH = ((vs.zip fr).map inH).set i (inH (vi, y)) := by
      apply List.ext_getElem
      · simp
      · intro j h1 h2
        by_cases e : j = i
        · subst e; simp
        · have e' : ¬ i = j := fun h => e h.symm
          simp [List.getElem_set, e']
    rw [hs]
    have := perm_set ((vs.zip fr).map inH) i (inH (vi, y)) (by simp [hv]; exact hi)
    exact this.append_right R3
  exact (Ent.ofPerm e1).trans (ent_rsto (vs := vs.set i vi) (by simp [hv]) (by simp [hn]))
theorem shut_rsto {c i g2 n2 c2 : Nat} {vs vs' sp sp2 ys : List Value} {y : Frm} {vi : Value} {R3 : List HP} [h1 : Tk pt qs A (cob [.slice (some ⟨g, 0, none⟩) n c] 114) R1] [h2 : Tk pt g R1 (cob (vs' ++ sp) 76) R2] [h3 : Tk pt g2 R2 (cob (ys ++ sp2) 5) R3]
    (hvs : vs' = vs.set i vi) (hvi : vi = .slice (some ⟨g2, 0, none⟩) n2 c2) (hy : ys = byV y) (hv : vs.length = fr.length) (hn : n = fr.length) (hi : i < fr.length) (a1 : n ≤ c) (a2 : c ≤ maxLen) (a3 : (vs' ++ sp).length = c * 1) (b1 : n2 ≤ c2) (b2 : c2 ≤ maxLen) (b3 : ys.length = n2 * 1) (b4 : (ys ++ sp2).length = c2 * 1) [k : Ent R3 (((vs.zip fr).map inH).eraseIdx i ++ B)] : Ent A (rstoH qs (fr.set i y) :: B) := by
  subst hvs
  subst hvi
  have e1 : A.Perm (pt qs (cob [.slice (some ⟨g, 0, none⟩) n c] 114) :: pt g (cob (vs.set i (.slice (some ⟨g2, 0, none⟩) n2 c2) ++ sp) 76) :: pt g2 (cob (ys ++ sp2) 5) :: R3) := h1.perm.trans ((h2.perm.trans (h3.perm.cons _)).cons _)
  have e2 : Ent (pt g2 (cob (ys ++ sp2) 5) :: R3) (osl 5 1 (.slice (some ⟨g2, 0, none⟩) n2 c2) ys :: (((vs.zip fr).map inH).eraseIdx i ++ B)) := ent_osl b1 b2 b3 b4
  have e3 : Ent (pt g (cob (vs.set i (.slice (some ⟨g2, 0, none⟩) n2 c2) ++ sp) 76) :: osl 5 1 (.slice (some ⟨g2, 0, none⟩) n2 c2) ys :: (((vs.zip fr).map inH).eraseIdx i ++ B)) (osl 76 1 (.slice (some ⟨g, 0, none⟩) n c) (vs.set i (.slice (some ⟨g2, 0, none⟩) n2 c2)) :: osl 5 1 (.slice (some ⟨g2, 0, none⟩) n2 c2) ys :: (((vs.zip fr).map inH).eraseIdx i ++ B)) := ent_osl a1 a2 (by simp [hv, hn]) a3
  exact (Ent.ofPerm e1).trans ((Ent.cons ((Ent.cons e2).trans e3)).trans (ent_rstoN (vi := .slice (some ⟨g2, 0, none⟩) n2 c2) hy hv hn hi))
end
theorem set_self {fr : List Frm} {i : Nat} (hi : i < fr.length) : fr.set i (fr.getD i []) = fr := by
  rw [show fr.getD i [] = fr[i] by simp [List.getD, hi]]; exact List.set_getElem_self _
theorem set_selfV {vs : List Value} {i : Nat} {v : Value} (h : vs[i]? = some v) : vs.set i v = vs := by
  have hi : i < vs.length := by
    rcases Nat.lt_or_ge i vs.length with k | k
    · exact k
    · rw [List.getElem?_eq_none k] at h; cases h
  have : vs[i] = v := by simpa [hi] using h
  rw [← this]; exact List.set_getElem_self _
theorem rfIs_spec (W0 : World) (R : List HP) (qs : Nat) (fr : List Frm) (f : Int) :
    Spec Tryz.prog W0 202 [.pointer (some ⟨qs, 0, none⟩), .int .i64 f] (rstoH qs fr :: R) (fun v B => v = .bool (isF fr.length f) ∧ B = rstoH qs fr :: R) := by
  refine spec_body Tryz.func202 Tryz.ntmps202 rfl rfl ?_
  refine x_seq ?_
  refine x_region ?_
  refine s_val rfl (v_assign rfl) ?_
  refine x_nil ?_
  refine n_then ?_
  refine x_seq ?_
  refine run_rsto (qs := qs) fun a c vs hv => ?_
  refine x_region ?_
  refine s_val rfl (v_move rfl) ?_
  refine s_val rfl (v_geq rfl rfl) ?_
  refine s_val rfl (v_move rfl) ?_
  refine s_and rfl rfl rfl ?_ ?_
  · intro g1_3
    refine s_val rfl (v_move rfl) ?_
    refine s_yes rfl rfl ?_
    refine s_val rfl (v_move rfl) ?_
    refine s_yes rfl rfl ?_
    refine s_val rfl (v_nilCheck rfl) ?_
    refine s_yes rfl rfl ?_
    refine s_val rfl (v_fieldAddr rfl Tryz.underlying114 rfl Tryz.sizeOf85 rfl (by first | exact Nat.zero_add _ | rfl)) ?_
    refine s_yes rfl rfl ?_
    refine s_val rfl (v_load Tryz.isAgg85 rfl (cell_own rfl)) ?_
    refine s_yes rfl rfl ?_
    refine s_val rfl (v_len_slice Tryz.underlying85 rfl) ?_
    refine s_yes rfl rfl ?_
    refine s_val rfl (v_lss rfl rfl) ?_
    refine s_val rfl (v_pick_t rfl rfl) ?_
    refine s_val rfl (v_assign rfl) ?_
    refine x_nil ?_
    refine n_then ?_
    refine x_ret ?_
    refine x_done (.inl rfl) (.cons (r_tmp rfl) .nil) ?_
    refine ⟨_, ⟨congrArg Value.bool ?_, rfl⟩, ent_rsto hv rfl⟩
    rw [Bool.eq_iff_iff]; simp only [isF, decide_eq_true_eq, Bool.false_eq_true, false_iff]; omega
  · intro g1_3
    refine s_no rfl rfl rfl rfl ?_
    refine s_no rfl rfl rfl rfl ?_
    refine s_no rfl rfl rfl rfl ?_
    refine s_no rfl rfl rfl rfl ?_
    refine s_no rfl rfl rfl rfl ?_
    refine s_no rfl rfl rfl rfl ?_
    refine s_val rfl (v_pick_f rfl rfl) ?_
    refine s_val rfl (v_assign rfl) ?_
    refine x_nil ?_
    refine n_then ?_
    refine x_ret ?_
    refine x_done (.inl rfl) (.cons (r_tmp rfl) .nil) ?_
    refine ⟨_, ⟨congrArg Value.bool ?_, rfl⟩, ent_rsto hv rfl⟩
    rw [Bool.eq_iff_iff]; simp only [isF, decide_eq_true_eq, Bool.false_eq_true, false_iff]; omega
theorem refGetN {W0 : World} {R : List HP} {g off c n : Nat} {l : List Nat} {at_ w : Int} (hl : l.length = n) (hc : Cells (OwnP W0 R) g off (byV l)) (hb : By l) (hn : n ≤ c) (h63 : c < 9223372036854775808) :
    Spec Tryz.prog W0 135 [.slice (some ⟨g, off, none⟩) n c, .int .i64 at_, .int .i64 w] R (fun v B => v = .tuple #[.int .u32 (getN l at_ w : Nat), .int .i64 (getE l at_ w)] ∧ B = R) := by
  subst hl; exact refGet02_spec W0 R g off c l at_ w hc hb hn h63
theorem refPutN_ok {W0 : World} {R : List HP} {g off c n : Nat} {l : List Nat} {i k w : Nat} (hl : l.length = n) (hw : w < 4294967296) (hc : Cells (OwnP W0 R) g off (byV l)) (hi : inB n i k = true) (hn : n ≤ 1000000) :
    Spec Tryz.prog W0 203 [.slice (some ⟨g, off, none⟩) n c, .int .i64 i, .int .i64 k, .int .u32 w] R (fun v B => ∃ a' c', v = putV a' n c' ∧ B = osl 5 1 (.slice a' n c') (byV (putB l i k w)) :: R) := by
  subst hl; exact refPut_ok W0 R g off c l i k w hw hc hi hn
theorem byV_front {x : Frm} {sp : List Value} (h : x.length = 64) : ((byV x ++ sp).drop 0).take 64 = byV x := by
  rw [List.drop_zero, List.take_left' (by rw [byV_len, h])]
theorem rfLoad_spec (W0 : World) (R : List HP) (qs : Nat) (fr : List Frm) (f off w : Int) (hF : Frs fr) :
    Spec Tryz.prog W0 237 [.pointer (some ⟨qs, 0, none⟩), .int .i64 f, .int .i64 off, .int .i64 w] (rstoH qs fr :: R)
      (fun v B => v = .tuple #[.int .u32 (ldN fr f off w : Nat), .int .i64 (ldE fr f off w)] ∧ B = rstoH qs fr :: R) := by
  by_cases hf : isF fr.length f = true
  · obtain ⟨i, rfl, hi⟩ := isF_nat hf
    obtain ⟨hl, hb⟩ := hF.get hi
    refine spec_body Tryz.func237 Tryz.ntmps237 rfl rfl ?_
    refine x_seq ?_
    refine x_region ?_
    refine s_val rfl (v_assign rfl) ?_
    refine s_val rfl (v_assign rfl) ?_
    refine x_nil ?_
    refine n_then ?_
    refine x_seq ?_
    refine x_seq ?_
    refine x_region ?_
    refine s_val rfl (v_move rfl) ?_
    refine s_val rfl (v_move rfl) ?_
    refine s_do rfl (d_call1 Tryz.call202 rfl (rfIs_spec W0 _ qs fr i)) ?_
    rintro _ B_ ⟨rfl, hB_⟩
    obtain rfl := hB_.symm
    refine s_val rfl (v_not rfl) ?_
    refine x_nil ?_
    refine n_then ?_
    refine x_if rfl ?_ ?_
    · intro c1
      exact absurd c1 (by simp [hf])
    · intro c1
      refine x_skip ?_
      refine n_then ?_
      refine x_seq ?_
      refine run_rstoN (qs := qs) hi fun a c vs vi hv hvi => ?_
      refine run_oslT (E := 5) (sz := 1) (v := vi) (fun h1 h2 => by have := congrArg List.length h2; rw [byV_len, hl] at this; cases this) fun g2 n2 c2 sp2 k1 k2 k3 k4 k5 => ?_
      obtain rfl : n2 = 64 := by rw [byV_len, hl] at k4; omega
      subst k1
      refine run_oslT (E := 76) (sz := 1) (v := .slice a fr.length c) (fun h1 h2 => by have := (Value.slice.inj h1).2.1; omega) fun g n c' sp h1 h2 h3 h4 h5 => ?_
      cases h1
      refine x_region ?_
      refine s_val rfl (v_move rfl) ?_
      refine s_val rfl (v_nilCheck rfl) ?_
      refine s_val rfl (v_fieldAddr rfl Tryz.underlying114 rfl Tryz.sizeOf85 rfl (by first | exact Nat.zero_add _ | rfl)) ?_
      refine s_val rfl (v_load Tryz.isAgg85 rfl (cell_own rfl)) ?_
      refine s_val rfl (v_move rfl) ?_
      refine s_val rfl (v_idx Tryz.underlying85 Tryz.sizeOf76 rfl rfl rfl hi (by first | exact Nat.zero_add _ | rfl)) ?_
      refine s_val rfl (v_load Tryz.isAgg76 rfl (cell_own (by rw [Nat.mul_one, List.getElem?_append_left (by omega)]; exact hvi))) ?_
      refine s_val rfl (v_move rfl) ?_
      refine s_val rfl (v_move rfl) ?_
      refine s_do rfl (d_call Tryz.call135 rfl (refGetN hl (cells_part (byV_front hl) (by rw [byV_len, hl])) hb k2 (maxLen_lt k3))) ?_
      rintro _ B_ ⟨rfl, hB_⟩
      obtain rfl := hB_.symm
      refine s_val rfl (v_extract rfl rfl) ?_
      refine s_val rfl (v_extract rfl rfl) ?_
      refine s_val rfl (v_assign rfl) ?_
      refine s_val rfl (v_assign rfl) ?_
      refine x_nil ?_
      refine n_then ?_
      refine x_ret ?_
      refine x_done (.inl rfl) (.cons (r_tmp rfl) (.cons (r_tmp rfl) .nil)) ?_
      refine ⟨_, ⟨by simp [pack, ldN, ldE, hf], rfl⟩, ?_⟩
      have e := set_self hi
      conv => rhs; rw [← e]
      exact shut_rsto (vs := vs) (set_selfV hvi).symm rfl rfl hv rfl hi h2 h3 h5 k2 k3 k4 k5
  · have hf' : isF fr.length f = false := by simpa using hf
    refine spec_body Tryz.func237 Tryz.ntmps237 rfl rfl ?_
    refine x_seq ?_
    refine x_region ?_
    refine s_val rfl (v_assign rfl) ?_
    refine s_val rfl (v_assign rfl) ?_
    refine x_nil ?_
    refine n_then ?_
    refine x_seq ?_
    refine x_seq ?_
    refine x_region ?_
    refine s_val rfl (v_move rfl) ?_
    refine s_val rfl (v_move rfl) ?_
    refine s_do rfl (d_call1 Tryz.call202 rfl (rfIs_spec W0 _ qs fr f)) ?_
    rintro _ B_ ⟨rfl, hB_⟩
    obtain rfl := hB_.symm
    refine s_val rfl (v_not rfl) ?_
    refine x_nil ?_
    refine n_then ?_
    refine x_if rfl ?_ ?_
    · intro c1
      refine x_seq ?_
      refine x_region ?_
      refine s_val rfl (v_assign rfl) ?_
      refine s_val rfl (v_assign rfl) ?_
      refine x_nil ?_
      refine n_then ?_
      refine x_ret ?_
      refine r_then ?_
      refine x_done (.inl rfl) (.cons (r_tmp rfl) (.cons (r_tmp rfl) .nil)) ?_
      exact ⟨_, ⟨by simp [pack, ldN, ldE, hf'], rfl⟩, inferInstance⟩
    · intro c1
      exact absurd c1 (by simp [hf'])

theorem rfSave_spec (W0 : World) (R : List HP) (qs : Nat) (fr : List Frm) (f off w : Int) (x : Nat) (hx : x < 4294967296) (hF : Frs fr) :
    Spec Tryz.prog W0 144 [.pointer (some ⟨qs, 0, none⟩), .int .i64 f, .int .i64 off, .int .i64 w, .int .u32 x] (rstoH qs fr :: R)
      (fun v B => v = .int .i64 (if svOk fr f off w then 0 else 1) ∧ B = rstoH qs (svF fr f off w x) :: R) := by
  by_cases hf : isF fr.length f = true
  · obtain ⟨i, rfl, hi⟩ := isF_nat hf
    obtain ⟨hl, hb⟩ := hF.get hi
    by_cases hin : inB 64 off w = true
    · obtain ⟨o, k, rfl, rfl, hk, hok⟩ := inB_nat hin
      have hs : svOk fr i o k = true := by simp [svOk, hf, hin]
      have hpl : (putB (fr.getD i []) o k x).length = 64 := by rw [putB_len (by omega)]; exact hl
      refine spec_body Tryz.func144 Tryz.ntmps144 rfl rfl ?_
      refine x_seq ?_
      refine x_region ?_
      refine s_val rfl (v_assign rfl) ?_
      refine x_nil ?_
      refine n_then ?_
      refine x_seq ?_
      refine x_seq ?_
      refine x_region ?_
      refine s_val rfl (v_move rfl) ?_
      refine s_val rfl (v_move rfl) ?_
      refine s_do rfl (d_call1 Tryz.call202 rfl (rfIs_spec W0 _ qs fr i)) ?_
      rintro _ B_ ⟨rfl, hB_⟩
      obtain rfl := hB_.symm
      refine s_val rfl (v_not rfl) ?_
      refine x_nil ?_
      refine n_then ?_
      refine x_if rfl ?_ ?_
      · intro c1
        exact absurd c1 (by simp [hf])
      · intro c1
        refine x_skip ?_
        refine n_then ?_
        refine x_seq ?_
        refine run_rstoN (qs := qs) hi fun a c vs vi hv hvi => ?_
        refine run_oslT (E := 5) (sz := 1) (v := vi) (fun h1 h2 => by have := congrArg List.length h2; rw [byV_len, hl] at this; cases this) fun g2 n2 c2 sp2 k1 k2 k3 k4 k5 => ?_
        obtain rfl : n2 = 64 := by rw [byV_len, hl] at k4; omega
        subst k1
        refine run_oslT (E := 76) (sz := 1) (v := .slice a fr.length c) (fun h1 h2 => by have := (Value.slice.inj h1).2.1; omega) fun g n c' sp h1 h2 h3 h4 h5 => ?_
        cases h1
        refine x_region ?_
        refine s_val rfl (v_move rfl) ?_
        refine s_val rfl (v_nilCheck rfl) ?_
        refine s_val rfl (v_fieldAddr rfl Tryz.underlying114 rfl Tryz.sizeOf85 rfl (by first | exact Nat.zero_add _ | rfl)) ?_
        refine s_val rfl (v_load Tryz.isAgg85 rfl (cell_own rfl)) ?_
        refine s_val rfl (v_move rfl) ?_
        refine s_val rfl (v_idx Tryz.underlying85 Tryz.sizeOf76 rfl rfl rfl hi (by first | exact Nat.zero_add _ | rfl)) ?_
        refine s_val rfl (v_load Tryz.isAgg76 rfl (cell_own (by rw [Nat.mul_one, List.getElem?_append_left (by omega)]; exact hvi))) ?_
        refine s_val rfl (v_move rfl) ?_
        refine s_val rfl (v_move rfl) ?_
        refine s_val rfl (v_move rfl) ?_
        refine s_do rfl (d_call Tryz.call203 rfl (refPutN_ok hl hx (cells_part (byV_front hl) (by rw [byV_len, hl])) hin (by decide))) ?_
        rintro _ B_ ⟨a', c', rfl, hB_⟩
        obtain rfl := hB_.symm
        refine run_oslT (E := 5) (sz := 1) (v := .slice a' 64 c') (fun h1 h2 => by have := (Value.slice.inj h1).2.1; omega) fun g3 n3 c3 sp3 q1 q2 q3 q4 q5 => ?_
        cases q1
        refine s_val rfl (v_move rfl) ?_
        refine s_val rfl (v_extract rfl rfl) ?_
        refine s_val rfl (v_extract rfl rfl) ?_
        refine s_val rfl (v_assign rfl) ?_
        refine s_val rfl (v_assign rfl) ?_
        refine x_nil ?_
        refine n_then ?_
        refine x_seq ?_
        refine x_seq ?_
        refine x_region ?_
        refine s_val rfl (v_move rfl) ?_
        refine s_val rfl (v_eql rfl rfl) ?_
        refine x_nil ?_
        refine n_then ?_
        refine x_if rfl ?_ ?_
        · intro c4
          refine x_region ?_
          refine s_val rfl (v_move rfl) ?_
          refine s_val rfl (v_nilCheck rfl) ?_
          refine s_val rfl (v_fieldAddr rfl Tryz.underlying114 rfl Tryz.sizeOf85 rfl (by first | exact Nat.zero_add _ | rfl)) ?_
          refine s_val rfl (v_load Tryz.isAgg85 rfl (cell_own rfl)) ?_
          refine s_val rfl (v_move rfl) ?_
          refine s_val rfl (v_move rfl) ?_
          refine s_val rfl (v_idx Tryz.underlying85 Tryz.sizeOf76 rfl rfl rfl hi (by first | exact Nat.zero_add _ | rfl)) ?_
          refine s_do0 (d_store Tryz.sizeOf76 rfl rfl rfl (by rw [List.length_append]; omega) (by rw [Nat.mul_one, List.set_append_left _ _ (by omega)])) ?_
          rintro _ _ rfl
          refine x_nil ?_
          refine n_then ?_
          refine x_seq ?_
          refine x_region ?_
          refine s_val rfl (v_move rfl) ?_
          refine s_val rfl (v_assign rfl) ?_
          refine x_nil ?_
          refine n_then ?_
          refine x_ret ?_
          refine x_done (.inl rfl) (.cons (r_tmp rfl) .nil) ?_
          rw [show svF fr i o k x = fr.set i (putB (fr.getD i []) o k x) by simp [svF, hs]]
          exact ⟨_, ⟨by simp [pack, hs], rfl⟩, shut_rsto (vs := vs) (vi := .slice (some ⟨g3, 0, none⟩) 64 c') rfl rfl rfl hv rfl hi h2 h3 (by rw [← h5]; simp) q2 q3 q4 q5⟩
        · intro c4
          exact absurd rfl c4
    · have hin' : inB 64 off w = false := by simpa using hin
      have hs : svOk fr i off w = false := by simp [svOk, hin']
      refine spec_body Tryz.func144 Tryz.ntmps144 rfl rfl ?_
      refine x_seq ?_
      refine x_region ?_
      refine s_val rfl (v_assign rfl) ?_
      refine x_nil ?_
      refine n_then ?_
      refine x_seq ?_
      refine x_seq ?_
      refine x_region ?_
      refine s_val rfl (v_move rfl) ?_
      refine s_val rfl (v_move rfl) ?_
      refine s_do rfl (d_call1 Tryz.call202 rfl (rfIs_spec W0 _ qs fr i)) ?_
      rintro _ B_ ⟨rfl, hB_⟩
      obtain rfl := hB_.symm
      refine s_val rfl (v_not rfl) ?_
      refine x_nil ?_
      refine n_then ?_
      refine x_if rfl ?_ ?_
      · intro c1
        exact absurd c1 (by simp [hf])
      · intro c1
        refine x_skip ?_
        refine n_then ?_
        refine x_seq ?_
        refine run_rstoN (qs := qs) hi fun a c vs vi hv hvi => ?_
        refine run_oslT (E := 5) (sz := 1) (v := vi) (fun h1 h2 => by have := congrArg List.length h2; rw [byV_len, hl] at this; cases this) fun g2 n2 c2 sp2 k1 k2 k3 k4 k5 => ?_
        obtain rfl : n2 = 64 := by rw [byV_len, hl] at k4; omega
        subst k1
        refine run_oslT (E := 76) (sz := 1) (v := .slice a fr.length c) (fun h1 h2 => by have := (Value.slice.inj h1).2.1; omega) fun g n c' sp h1 h2 h3 h4 h5 => ?_
        cases h1
        refine x_region ?_
        refine s_val rfl (v_move rfl) ?_
        refine s_val rfl (v_nilCheck rfl) ?_
        refine s_val rfl (v_fieldAddr rfl Tryz.underlying114 rfl Tryz.sizeOf85 rfl (by first | exact Nat.zero_add _ | rfl)) ?_
        refine s_val rfl (v_load Tryz.isAgg85 rfl (cell_own rfl)) ?_
        refine s_val rfl (v_move rfl) ?_
        refine s_val rfl (v_idx Tryz.underlying85 Tryz.sizeOf76 rfl rfl rfl hi (by first | exact Nat.zero_add _ | rfl)) ?_
        refine s_val rfl (v_load Tryz.isAgg76 rfl (cell_own (by rw [Nat.mul_one, List.getElem?_append_left (by omega)]; exact hvi))) ?_
        refine s_val rfl (v_move rfl) ?_
        refine s_val rfl (v_move rfl) ?_
        refine s_val rfl (v_move rfl) ?_
        refine s_do rfl (d_call Tryz.call203 rfl (refPut_no W0 _ _ 64 c2 off w x hin' (by decide))) ?_
        rintro _ B_ ⟨rfl, hB_⟩
        obtain rfl := hB_.symm
        refine s_val rfl (v_move rfl) ?_
        refine s_val rfl (v_extract rfl rfl) ?_
        refine s_val rfl (v_extract rfl rfl) ?_
        refine s_val rfl (v_assign rfl) ?_
        refine s_val rfl (v_assign rfl) ?_
        refine x_nil ?_
        refine n_then ?_
        refine x_seq ?_
        refine x_seq ?_
        refine x_region ?_
        refine s_val rfl (v_move rfl) ?_
        refine s_val rfl (v_eql rfl rfl) ?_
        refine x_nil ?_
        refine n_then ?_
        refine x_if rfl ?_ ?_
        · intro c4
          exact absurd c4 (by decide)
        · intro c4
          refine x_skip ?_
          refine n_then ?_
          refine x_seq ?_
          refine x_region ?_
          refine s_val rfl (v_move rfl) ?_
          refine s_val rfl (v_assign rfl) ?_
          refine x_nil ?_
          refine n_then ?_
          refine x_ret ?_
          refine x_done (.inl rfl) (.cons (r_tmp rfl) .nil) ?_
          rw [show svF fr i off w x = fr by simp [svF, hs]]
          refine ⟨_, ⟨by simp [pack, hs], rfl⟩, ?_⟩
          have e := set_self hi
          conv => rhs; rw [← e]
          exact shut_rsto (vs := vs) (set_selfV hvi).symm rfl rfl hv rfl hi h2 h3 h5 k2 k3 k4 k5
  · have hf' : isF fr.length f = false := by simpa using hf
    have hs : svOk fr f off w = false := by simp [svOk, hf']
    refine spec_body Tryz.func144 Tryz.ntmps144 rfl rfl ?_
    refine x_seq ?_
    refine x_region ?_
    refine s_val rfl (v_assign rfl) ?_
    refine x_nil ?_
    refine n_then ?_
    refine x_seq ?_
    refine x_seq ?_
    refine x_region ?_
    refine s_val rfl (v_move rfl) ?_
    refine s_val rfl (v_move rfl) ?_
    refine s_do rfl (d_call1 Tryz.call202 rfl (rfIs_spec W0 _ qs fr f)) ?_
    rintro _ B_ ⟨rfl, hB_⟩
    obtain rfl := hB_.symm
    refine s_val rfl (v_not rfl) ?_
    refine x_nil ?_
    refine n_then ?_
    refine x_if rfl ?_ ?_
    · intro c1
      refine x_seq ?_
      refine x_region ?_
      refine s_val rfl (v_assign rfl) ?_
      refine x_nil ?_
      refine n_then ?_
      refine x_ret ?_
      refine r_then ?_
      refine x_done (.inl rfl) (.cons (r_tmp rfl) .nil) ?_
      rw [show svF fr f off w x = fr by simp [svF, hs]]
      exact ⟨_, ⟨by simp [pack, hs], rfl⟩, inferInstance⟩
    · intro c1
      exact absurd c1 (by simp [hf'])
end Go.Proofs.YtechkfopkpkigaaGreat
