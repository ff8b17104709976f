/-
  Layer 23 (queue): the walk of QueueJump.
-/
import Derived.Test.YtechkfopkpkigaaGreatQueueC
namespace Go.Proofs.YtechkfopkpkigaaGreat
open Go.RowKit
set_option linter.unusedSimpArgs false
set_option linter.unusedVariables false
set_option maxRecDepth 20000

theorem v_fieldV {P : Program} {S : World → Prop} {N : FSz} {e : Env} {x : Operand} {v : Value} {l : List Value} {T : TypeId} {fs : Array Field} {nm : String} {i ft fo : Nat} {em : Bool} {tg pk : String} {bo : Nat} (hx : ev e x = some (.agg l.toArray)) (hu : P.underlying T = some (.struct fs)) (hf : fs.toList[i]? = some ⟨nm, ft, fo, em, tg, pk, bo⟩)
    (ha : ∀ w, (isAgg ft).run P w = .ok false w) (hl : l[fo]? = some v) : Val P S N e (.field T x i) v := fun a w _ _ _ _ _ hF _ => by
  have hf' : fs[i]? = some ⟨nm, ft, fo, em, tg, pk, bo⟩ := by simpa using hf
  simp only [execOp, Instr.field, hF.eval hx, Sem.run_bind, run_und hu, hf', Result.andThen_ok, asAgg, Sem.run_pure]
  rw [part_scal ha hl]; rfl
def fZ : List Frm := List.replicate 8 zeros
/-- All zeros but for the word that tells how many wait. -/
def fJ (x : Nat) : List Frm := fZ.set 2 (putB zeros 0 4 x)
theorem fZ_ok : Frs fZ := Frs.new 8
theorem sv_fZ : svOk fZ 2 0 4 = true := by decide +kernel
theorem fJ_sv (x : Nat) : fJ x = svF fZ 2 0 4 x := by
  rw [svF, if_pos sv_fZ]; rfl
theorem fJ_ok (x : Nat) : Frs (fJ x) := by rw [fJ_sv]; exact svF_ok fZ_ok
theorem fJ_len (x : Nat) : (fJ x).length = 8 := by rw [fJ_sv, svF_len]; rfl
theorem fJ_get (x : Nat) : (fJ x).getD 2 [] = putB zeros 0 4 x := by rw [fJ, getD_set (by decide), if_pos rfl]
theorem pgJ : fndE 8 (pg23 8) 128 4 2 = 0 ∧ gGot (pg23 8) 2 = (2, 3) := by decide +kernel
theorem whJ : ∀ a, 128 ≤ a → a < 192 → whr (pg23 8) a = 2 := by
  intro a h1 h2
  rw [whr, show pgI a = 2 by unfold pgI; omega, pgJ.2]
theorem vsv_J {fr : List Frm} (hl : fr.length = 8) (x : Nat) : vsvF fr (pg23 8) 128 4 x = svF fr 2 0 4 x := by
  rw [vsvF, hl, if_pos pgJ.1]
  show svF fr (gGot (pg23 8) 2).1 0 4 x = _
  rw [pgJ.2]
theorem fJ_save0 (x : Nat) : vsvF fZ (pg23 8) 128 4 x = fJ x := by rw [vsv_J rfl, fJ_sv]
theorem fJ_save (x y : Nat) : vsvF (fJ y) (pg23 8) 128 4 x = fJ x := by
  have hs : svOk (fJ y) 2 0 4 = true := by
    have := sv_fZ
    simp only [svOk, fJ_len] at this ⊢
    exact this
  rw [vsv_J (fJ_len y), svF, if_pos hs]
  show (fJ y).set 2 (putB ((fJ y).getD 2 []) 0 4 x) = fJ x
  rw [fJ_get, fJ, fJ, List.set_set]
  congr 1
theorem rdv_J (x : Nat) {a : Nat} (h1 : 128 ≤ a) (h2 : a < 192) : rdv (fJ x) (pg23 8) a = (putB zeros 0 4 x).getD (a - 128) 0 := by
  rw [rdv, whJ a h1 h2]
  have e3 := (ldN_nat (k := 1) (i := 2) (o := a % 64) (fJ_ok x) (by rw [fJ_len]; decide) (by omega) (by omega)).1
  refine e3.trans ?_
  rw [fJ_get, take_one (by rw [putB_len (by decide)]; show a % 64 < 64; omega), show a % 64 = a - 128 by omega]
theorem own_J : ∀ k, k < 5 → ownB 8 (pg23 8) (128 + 4 * k) 4 = true := by decide +kernel
theorem wJ_avail {x : Nat} (hx : x < 4294967296) : wrdW (fJ x) (pg23 8) 128 = x := by
  rw [wrdW, fJ_len, if_pos (own_J 0 (by decide))]
  have : rdL (fJ x) (pg23 8) 128 4 = leB 4 x := by
    apply List.ext_getElem
    · rw [rdL_len, leB_len]
    · intro i h1 h2
      rw [leB_len] at h2
      simp only [rdL, List.getElem_map, List.getElem_range]
      rw [rdv_J x (by omega) (by omega), show 128 + i - 128 = i by omega, putB, List.take_zero, List.nil_append, List.getD_eq_getElem?_getD, List.getElem?_append_left (by rw [leB_len]; exact h2), List.getElem?_eq_getElem (by rw [leB_len]; exact h2)]
      rfl
  rw [this, leN_leB]; exact Nat.mod_eq_of_lt (by simpa using hx)
theorem wJ_head (x : Nat) {k : Nat} (hk : k < 4) : wrdW (fJ x) (pg23 8) (132 + 4 * k) = 0 := by
  rw [wrdW, fJ_len, if_pos (by rw [show 132 + 4 * k = 128 + 4 * (k + 1) by omega]; exact own_J (k + 1) (by omega))]
  have : rdL (fJ x) (pg23 8) (132 + 4 * k) 4 = [0, 0, 0, 0] := by
    apply List.ext_getElem
    · rw [rdL_len]; rfl
    · intro i h1 h2
      have hi : i < 4 := h2
      simp only [rdL, List.getElem_map, List.getElem_range]
      have e : (putB zeros 0 4 x).getD (132 + 4 * k + i - 128) 0 = 0 := by
        rw [putB, List.take_zero, List.nil_append, List.getD_eq_getElem?_getD, List.getElem?_append_right (by rw [leB_len]; omega), leB_len]
        have hz : ∀ j, (List.drop (0 + 4) zeros)[j]?.getD 0 = 0 := fun j => by
          rw [List.getElem?_drop, zeros, List.getElem?_replicate]; split <;> rfl
        exact hz _
      rw [rdv_J x (by omega) (by omega), e]
      have h3 : i = 0 ∨ i = 1 ∨ i = 2 ∨ i = 3 := by omega
      rcases h3 with rfl | rfl | rfl | rfl <;> rfl
  rw [this]; rfl
theorem hdJ {x last : Nat} (hx : x < 4294967296) : hdR (fJ x) (pg23 8) 128 last 4 = if 4 < wtN last x then (0, false, 7) else if wtN last x = 0 then (0, false, 0) else (0, true, 0) := by
  have hA : hdA 128 last 4 = 132 + 4 * (last % 4) := by unfold hdA; omega
  have ho : ownB (fJ x).length (pg23 8) (132 + 4 * (last % 4)) 4 = true := by rw [fJ_len, show 132 + 4 * (last % 4) = 128 + 4 * (last % 4 + 1) by omega]; exact own_J _ (by omega)
  rw [hdR, if_pos (by rw [fJ_len]; exact own_J 0 (by decide)), wJ_avail hx, hA, if_pos ho, wJ_head x (by omega), if_neg (show ¬ 4 ≤ 0 by decide)]
@[reducible] def lq (last : Nat) : QS := ⟨⟨0, 128, 192, 4⟩, true, 0, last, 0⟩
theorem lq_ok {last : Nat} (h : last < 65536) : QOk (lq last) := ⟨fun _ => .inr (.inl rfl), fun _ => (by show (128 : Nat) ≤ 1000; decide), fun _ => (by show (192 : Nat) ≤ 1000; decide), h, (by show (0 : Nat) < 65536; decide)⟩
theorem nx_lq {fr : List Frm} {pg : List Pl} {last : Nat} {r : Nat × Bool × Int} (h : hdR fr pg 128 last 4 = r) :
    nxR fr pg (lq last) = (if r.2.2 ≠ 0 then (0, false, r.2.2) else r) ∧ nxS fr pg (lq last) = (if r.2.2 ≠ 0 then ⟨⟨0, 128, 192, 4⟩, true, r.2.2, last, 0⟩ else if r.2.1 then lq ((last + 1) % 65536) else lq last) := by
  subst h; exact ⟨rfl, rfl⟩
theorem step_J {i : Nat} (hi : i < 30) : nxR (fJ (i + 1)) (pg23 8) (lq i) = (0, true, 0) ∧ nxS (fJ (i + 1)) (pg23 8) (lq i) = lq (i + 1) := by
  have hw : wtN i (i + 1) = 1 := by unfold wtN; omega
  have h := hdJ (x := i + 1) (last := i) (by omega)
  rw [hw] at h
  obtain ⟨h1, h2⟩ := nx_lq h
  refine ⟨h1, h2.trans ?_⟩
  show lq ((i + 1) % 65536) = lq (i + 1)
  rw [Nat.mod_eq_of_lt (by omega)]
theorem jump_J {n x : Nat} (hx : x < 4294967296) (k : 4 < wtN n x) : nxR (fJ x) (pg23 8) (lq n) = (0, false, 7) ∧ nxS (fJ x) (pg23 8) (lq n) = ⟨⟨0, 128, 192, 4⟩, true, 7, n, 0⟩ := by
  have h := hdJ (last := n) hx
  rw [if_pos k] at h
  exact nx_lq h
theorem stay_J {n x : Nat} (hx : x < 4294967296) (k : ¬ 4 < wtN n x) : nxR (fJ x) (pg23 8) (lq n) = (0, decide (0 < wtN n x), 0) := by
  have h := hdJ (last := n) hx
  rw [if_neg k] at h
  by_cases z : wtN n x = 0
  · rw [if_pos z] at h; rw [(nx_lq h).1, z]; rfl
  · rw [if_neg z] at h; rw [(nx_lq h).1, decide_eq_true (by omega : 0 < wtN n x)]; rfl
def fq : Nat → List Frm
  | 0 => fZ
  | i + 1 => fJ (i + 1)
theorem fq_ok : ∀ i, Frs (fq i)
  | 0 => fZ_ok
  | i + 1 => fJ_ok _
theorem fq_save (x : Nat) : ∀ i, vsvF (fq i) (pg23 8) 128 4 x = fJ x
  | 0 => fJ_save0 x
  | i + 1 => fJ_save x _
def awQ : List Dsc := [⟨256, 4, 0, 0⟩]
theorem awQ_ok : ∀ d ∈ awQ, d.ok := fun d hd => by
  simp only [awQ, List.mem_cons, List.not_mem_nil, or_false] at hd
  subst hd; exact ⟨by decide, by decide, by decide, by decide⟩
theorem aw23 : fitB (mk23 awQ).1.length (pg23 8) ⟨0, 128, 192, 4⟩ = true ∧ fitB (vsvF (mk23 awQ).1 (pg23 8) 128 4 1).length (pg23 8) ⟨0, 128, 192, 4⟩ = true ∧ hdR (vsvF (mk23 awQ).1 (pg23 8) 128 4 1) (pg23 8) 128 0 4 = (0, true, 0) ∧ hdR (vsvF (mk23 awQ).1 (pg23 8) 128 4 1) (pg23 8) 128 1 4 = (0, false, 0) := by decide +kernel
theorem awake23_spec (W0 : World) (R : List HP) : Spec Tryz.prog W0 30 [] R (fun v B => v = .bool true ∧ B = R) := by
  have hP := pg23_ok 8
  obtain ⟨hF, _, hd⟩ := mk23_ok awQ
  obtain ⟨_, e1, e2, e3⟩ := aw23
  obtain ⟨a1, a2⟩ := nx_lq e2
  obtain ⟨a3, _⟩ := nx_lq e3
  refine spec_body Tryz.func30 Tryz.ntmps30 rfl rfl ?_
  refine x_seq ?_
  refine x_region ?_
  refine s_val rfl (v_assign rfl) ?_
  refine x_nil ?_
  refine n_then ?_
  refine x_seq ?_
  refine x_region ?_
  refine s_val rfl (v_build Tryz.underlying99 Tryz.zeroValue99 (sized_cons Tryz.sizeOf53 (sized_cons Tryz.sizeOf53 (sized_cons Tryz.sizeOf53 (sized_cons Tryz.sizeOf53 sized_nil)))) (fil_scal rfl Tryz.sizeOf53 rfl rfl (Nat.le_of_ble_eq_true rfl) SetL.eq (fil_scal rfl Tryz.sizeOf53 rfl rfl (Nat.le_of_ble_eq_true rfl) SetL.eq fil_nil))) ?_
  refine s_do rfl (d_sliceAgg Tryz.underlying43 Tryz.sizeOf99 Tryz.zeroValue99 rfl (elsK_cons rfl rfl elsK_nil) rfl (by decide) (by decide) (by decide)) ?_
  rintro _ _ ⟨b1, rfl, rfl⟩
  refine s_do rfl (d_call Tryz.call24 rfl (made23_spec W0 _ _ _ awQ (sla_pt (fun _ => rfl) rfl) awQ_ok (by decide))) ?_
  rintro _ B_ ⟨pv, ps, pm, qv, qs, qm, rfl, hB_⟩
  obtain rfl := hB_.symm
  generalize (mk23 awQ).1 = fr at hF e1 a1 a2 a3
  generalize (mk23 awQ).2 = dd at hd
  generalize pg23 8 = pg at hP e1 a1 a2 a3
  refine s_val rfl (v_move rfl) ?_
  refine s_val rfl (v_extract rfl rfl) ?_
  refine s_val rfl (v_extract rfl rfl) ?_
  refine s_val rfl (v_assign rfl) ?_
  refine s_val rfl (v_assign rfl) ?_
  refine x_nil ?_
  refine n_then ?_
  refine x_seq ?_
  refine x_seq ?_
  refine x_region ?_
  refine s_val rfl (v_move rfl) ?_
  refine s_val rfl (v_eql_ptr_nil Tryz.underlying45 rfl rfl) ?_
  refine x_nil ?_
  refine n_then ?_
  refine x_if rfl ?_ ?_
  · intro c2
    cases c2
  · intro c2
    refine x_skip ?_
    refine n_then ?_
    refine x_seq ?_
    refine x_region ?_
    refine s_do rfl (d_call Tryz.call25 rfl (qNew_spec W0 _)) ?_
    rintro _ B_ ⟨bq, rfl, hB_⟩
    obtain rfl := hB_.symm
    refine s_val rfl (v_assign rfl) ?_
    refine x_nil ?_
    refine n_then ?_
    refine x_seq ?_
    refine x_region ?_
    refine s_val rfl (v_move rfl) ?_
    refine s_do rfl (d_call3 Tryz.call48 rfl (viSave_spec W0 _ pv ps pm dd fr pg hP hF hd 128 (by decide) 4 1 (by decide))) ?_
    rintro _ B_ ⟨rfl, hB_⟩
    obtain rfl := hB_.symm
    have hF2 := (vsvF_ok (pg := pg) (pa := 128) (w := 4) (x := 1) hF).1
    generalize vsvF fr pg 128 4 1 = f1 at hF2 e1 a1 a2 a3
    generalize vsvD fr pg 128 4 dd = d1
    refine x_nil ?_
    refine n_then ?_
    refine x_seq ?_
    refine x_seq ?_
    refine x_region ?_
    refine s_val rfl (v_move rfl) ?_
    refine s_val rfl (v_move rfl) ?_
    refine s_do rfl (d_call Tryz.call27 rfl (lies_spec W0 _)) ?_
    rintro _ B_ ⟨rfl, hB_⟩
    obtain rfl := hB_.symm
    refine s_do rfl (d_call4 Tryz.call26 rfl (qLay_spec W0 _ bq pv ps pm d1 f1 pg hP qs0 ⟨0, 128, 192, 4⟩ ⟨by decide, by decide, by decide⟩ e1)) ?_
    rintro _ B_ ⟨rfl, hB_⟩
    obtain rfl := hB_.symm
    refine s_val rfl (v_neq rfl rfl) ?_
    refine x_nil ?_
    refine n_then ?_
    refine x_if rfl ?_ ?_
    · intro c6
      exact absurd rfl c6
    · intro c6
      refine x_skip ?_
      refine n_then ?_
      refine x_seq ?_
      refine x_region ?_
      refine s_val rfl (v_move rfl) ?_
      refine s_val rfl (v_move rfl) ?_
      refine s_do rfl (d_call4 Tryz.call34 rfl (qNext_spec W0 _ bq pv ps pm d1 f1 pg hP hF2 (lq 0) (lq_ok (by decide)))) ?_
      rintro _ B_ ⟨rfl, hB_⟩
      obtain rfl := hB_.symm
      rw [a1, a2]
      refine s_val rfl (v_move rfl) ?_
      refine s_val rfl (v_extract rfl rfl) ?_
      refine s_val rfl (v_extract rfl rfl) ?_
      refine s_val rfl (v_extract rfl rfl) ?_
      refine s_val rfl (v_assign rfl) ?_
      refine s_val rfl (v_assign rfl) ?_
      refine s_val rfl (v_assign rfl) ?_
      refine x_nil ?_
      refine n_then ?_
      refine x_seq ?_
      refine x_region ?_
      refine s_val rfl (v_move rfl) ?_
      refine s_val rfl (v_move rfl) ?_
      refine s_do rfl (d_call4 Tryz.call34 rfl (qNext_spec W0 _ bq pv ps pm d1 f1 pg hP hF2 (lq 1) (lq_ok (by decide)))) ?_
      rintro _ B_ ⟨rfl, hB_⟩
      obtain rfl := hB_.symm
      rw [a3]
      refine s_val rfl (v_move rfl) ?_
      refine s_val rfl (v_extract rfl rfl) ?_
      refine s_val rfl (v_extract rfl rfl) ?_
      refine s_val rfl (v_extract rfl rfl) ?_
      refine s_val rfl (v_assign rfl) ?_
      refine s_val rfl (v_assign rfl) ?_
      refine s_val rfl (v_assign rfl) ?_
      refine x_nil ?_
      refine n_then ?_
      refine x_seq ?_
      refine x_region ?_
      refine s_val rfl (v_move rfl) ?_
      refine s_val rfl (v_eql rfl rfl) ?_
      refine s_val rfl (v_move rfl) ?_
      refine s_and rfl rfl rfl ?_ ?_
      · intro g10_3
        refine s_val rfl (v_move rfl) ?_
        refine s_val rfl (v_pick_t rfl rfl) ?_
        refine s_val rfl (v_move rfl) ?_
        refine s_and rfl rfl rfl ?_ ?_
        · intro g10_6
          refine s_val rfl (v_move rfl) ?_
          refine s_yes rfl rfl ?_
          refine s_val rfl (v_eql rfl rfl) ?_
          refine s_val rfl (v_pick_t rfl rfl) ?_
          refine s_val rfl (v_move rfl) ?_
          refine s_and rfl rfl rfl ?_ ?_
          · intro g10_10
            refine s_val rfl (v_move rfl) ?_
            refine s_yes rfl rfl ?_
            refine s_val rfl (v_not rfl) ?_
            refine s_val rfl (v_pick_t rfl rfl) ?_
            refine s_val rfl (v_move rfl) ?_
            refine s_and rfl rfl rfl ?_ ?_
            · intro g10_14
              refine s_val rfl (v_move rfl) ?_
              refine s_yes rfl rfl ?_
              refine s_val rfl (v_eql rfl rfl) ?_
              refine s_val rfl (v_pick_t rfl rfl) ?_
              refine s_val rfl (v_assign rfl) ?_
              refine x_nil ?_
              refine n_then ?_
              refine x_ret ?_
              refine x_done (.inl rfl) (.cons (r_tmp rfl) .nil) ?_
              exact ⟨_, ⟨rfl, rfl⟩, inferInstance⟩
            · intro g10_14
              first | exact absurd rfl g10_14 | exact absurd (by simp) g10_14
          · intro g10_10
            exact absurd rfl g10_10
        · intro g10_6
          exact absurd rfl g10_6
      · intro g10_3
        exact absurd rfl g10_3
end Go.Proofs.YtechkfopkpkigaaGreat
