/-
  A frame's bytes, in both texts.
-/
import Derived.Test.YtpmacnfjafpdcabRefFramesB
import Derived.Test.YtpmacnfjafpdcabMove
namespace Go.Proofs.Ytpmacnfjafpdcab
open Go.RowKit
set_option linter.unusedSimpArgs false
set_option linter.unusedVariables false
set_option maxRecDepth 20000

theorem frBytes_spec (W0 : World) (R : List HP) (ps : Nat) (fr : List Frm) (hF : Frs fr) (f : Nat) (hf : f < fr.length) :
    Spec Try.prog W0 21 [.pointer (some ⟨ps, 0, none⟩), .int .i64 f] (stoH ps fr :: R)
      (fun v B => ∃ a c, v = .tuple #[.slice a 64 c, .int .i64 0] ∧ B = osl 5 1 (.slice a 64 c) (byV (fr.getD f [])) :: stoH ps fr :: R) := by
  have hif : isF fr.length (f : Int) = true := by simp only [isF, decide_eq_true_iff]; omega
  obtain ⟨hl, hb⟩ := hF.get hf
  refine spec_body Try.func21 Try.ntmps21 rfl rfl ?_
  refine x_seq ?_
  refine x_region ?_
  refine s_val rfl (v_assign rfl) ?_
  refine s_val rfl (v_assign rfl) ?_
  refine x_nil ?_
  refine n_then ?_
  refine x_seq ?_
  refine x_seq ?_
  refine x_region ?_
  refine s_val rfl (v_move rfl) ?_
  refine s_val rfl (v_move rfl) ?_
  refine s_do rfl (d_call1 Try.call57 rfl (frMay_spec W0 _ ps fr f)) ?_
  rintro _ B_ ⟨rfl, hB_⟩
  obtain rfl := hB_.symm
  refine s_val rfl (v_assign rfl) ?_
  refine x_nil ?_
  refine n_then ?_
  refine x_seq ?_
  refine x_region ?_
  refine s_val rfl (v_move rfl) ?_
  refine s_val rfl (v_neq rfl rfl) ?_
  refine x_nil ?_
  refine n_then ?_
  refine x_if rfl ?_ ?_
  · intro c2
    exact absurd c2 (by simp [hif])
  · intro c2
    refine x_skip ?_
    refine n_then ?_
    refine x_seq ?_
    refine x_region ?_
    refine s_do rfl (d_make (sz := 1) (by_ := 1) (info := Try.t5) Try.underlying22 (by kernel_rfl) rfl rfl rfl rfl (by decide) rfl rfl rfl rfl (by decide) (by decide)) ?_
    rintro _ _ ⟨b1, rfl, rfl⟩
    refine s_val rfl (v_assign rfl) ?_
    refine x_nil ?_
    refine n_then ?_
    refine x_seq ?_
    refine run_sto (ps := ps) fun g => ?_
    refine x_region ?_
    refine s_val rfl (v_move rfl) ?_
    refine s_val rfl (v_move rfl) ?_
    refine s_val rfl (v_nilCheck rfl) ?_
    refine s_val rfl (v_fieldAddr rfl Try.underlying127 rfl Try.sizeOf125 rfl (by first | exact Nat.zero_add _ | rfl)) ?_
    refine s_val rfl (v_load Try.isAgg125 rfl (cell_own rfl)) ?_
    refine s_val rfl (v_move rfl) ?_
    refine s_val rfl (v_idx Try.underlying125 Try.sizeOf124 rfl rfl rfl hf (by first | exact Nat.zero_add _ | rfl)) ?_
    refine s_val rfl (v_sliceArr Try.underlying124 Try.sizeOf5 rfl) ?_
    refine s_do rfl (d_copy Try.underlying22 Try.sizeOf5 rfl rfl (m := 64) (vs := byV (fr.getD f [])) rfl (cells_part (fr_row hF hf) (by rw [byV_len, hl])) (by rw [byV_len, hl]) (byV_one _) (by decide) (by
  have := setR_all (byV (fr.getD f [])) (List.replicate (64 * 1) (.int .u8 0)) [] (by rw [byV_len, hl]; simp)
  simpa using this)) ?_
    rintro _ B_ ⟨rfl, hB_⟩
    obtain rfl := hB_.symm
    refine x_nil ?_
    refine n_then ?_
    refine x_seq ?_
    refine x_region ?_
    refine s_val rfl (v_move rfl) ?_
    refine s_val rfl (v_assign rfl) ?_
    refine s_val rfl (v_assign rfl) ?_
    refine x_nil ?_
    refine n_then ?_
    refine x_ret ?_
    refine x_done (.inl rfl) (.cons (r_tmp rfl) (.cons (r_tmp rfl) .nil)) ?_
    exact ⟨_, ⟨some ⟨b1, 0, none⟩, 64, rfl, rfl⟩, (ent_osl0 (k := ent_sto rfl rfl) (by simp only [maxLen]; omega) (by rw [byV_len, hl]))⟩
section
variable {P : Program} {W0 : World} {N : FSz} {K : Act → World → Prop} {e : Env} {A B R R1 R2 R3 : List HP} {qs n : Nat} {fr : List Frm}
/-- One frame apart, the others in a group. -/
theorem run_rstoG [hk : Tk rstoH qs A fr R] {i : Nat} (hi : i < fr.length) (h : ∀ a c vs vi, vs.length = fr.length → vs[i]? = some vi →
      Run W0 N K e (pt qs (cob [.slice a fr.length c] 65) :: osl 22 1 (.slice a fr.length c) vs :: osl 5 1 vi (byV (fr.getD i [])) :: kH 2 (grp (((vs.zip fr).map inH).eraseIdx i)) :: R)) : Run W0 N K e A :=
  run_rstoN (qs := qs) hi fun a c vs vi h1 h2 => run_ent (Ent.cons (Ent.cons (Ent.cons ent_shut))) (h a c vs vi h1 h2)
theorem run_rstoU {i c : Nat} {a : Option Addr} {vs : List Value} {vi : Value} {ys : List Value} [h1 : Tk pt qs A (cob [.slice a n c] 65) R1] [h2 : Tk (osl 22 1) (.slice a n c) R1 vs R2] [h3 : Tk (osl 5 1) vi R2 ys R3]
    [h4 : Tk kH 2 R3 (grp (((vs.zip fr).map inH).eraseIdx i)) R] (hvi : vs[i]? = some vi) (hy : ys = byV (fr.getD i [])) (hv : vs.length = fr.length) (hn : n = fr.length) (hi : i < fr.length) (k : Run W0 N K e (rstoH qs fr :: R)) : Run W0 N K e A := by
  have hset : vs.set i vi = vs := by
    apply List.ext_getElem?
    intro j
    by_cases e : i = j
    · subst e; rw [List.getElem?_set_self (by omega), hvi]
    · rw [List.getElem?_set_ne e]
  have hfs : fr.set i (fr.getD i []) = fr := by
    apply List.ext_getElem?
    intro j
    by_cases e : i = j
    · subst e; rw [List.getElem?_set_self hi]; simp [List.getD, hi]
    · rw [List.getElem?_set_ne e]
  refine run_perm (h1.perm.trans ((h2.perm.trans ((h3.perm.trans (h4.perm.cons _)).cons _)).cons _)) ?_
  have e1 : Ent (pt qs (cob [.slice a n c] 65) :: osl 22 1 (.slice a n c) vs :: osl 5 1 vi ys :: kH 2 (grp (((vs.zip fr).map inH).eraseIdx i)) :: R) (rstoH qs fr :: R) := by
    refine (Ent.cons (Ent.cons (Ent.cons ent_open))).trans ?_
    have := @ent_rstoN (pt qs (cob [.slice a n c] 65) :: osl 22 1 (.slice a n c) vs :: osl 5 1 vi ys :: (((vs.zip fr).map inH).eraseIdx i ++ R)) R _ _ qs n fr a c i vs vi (fr.getD i []) ys R tk_here (by rw [hset]; exact tk_here) tk_here hy hv hn hi ent_refl
    rwa [hfs] at this
  exact run_ent e1 k
/-- A slice that is not empty lies somewhere. -/
theorem run_some {E sz : Nat} {vi : Value} {ys : List Value} [h : Tk (osl E sz) vi A ys R] (hne : ys ≠ []) (k : ∀ g n c, vi = .slice (some ⟨g, 0, none⟩) n c → ys.length = n * sz → Run W0 N K e A) : Run W0 N K e A := fun act w hF hO => by
  rcases (hO.tk (r := osl E sz) (b := vi)).osl with ⟨_, k2, _⟩ | ⟨g, n', cap, sp, k1, _, _, k4, _, _⟩
  · exact absurd k2 hne
  · exact k g n' cap k1 k4 act w hF hO
end
end Go.Proofs.Ytpmacnfjafpdcab
