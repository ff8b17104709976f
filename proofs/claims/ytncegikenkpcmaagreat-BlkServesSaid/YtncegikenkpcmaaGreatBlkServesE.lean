/-
  Part 5 of the proof of BlkServes: rules, and walks of functions. Conditions: none.
-/
import Derived.Test.YtncegikenkpcmaaGreatBlkServesD
namespace Go.Proofs.YtncegikenkpcmaaGreat
open Go.RowKit
set_option linter.unusedSimpArgs false
set_option linter.unusedVariables false
set_option maxRecDepth 20000
def bkG (fr : List Frm) (pg : List Pl) (l : List Dsc) : List Nat := gthK fr pg l 512 l.length
def bkB_ (fr : List Frm) (pg : List Pl) (l : List Dsc) : Bool := decide (8 ≤ (bkG fr pg l).length ∧ 1 ≤ lenW l true)
@[reducible] def bkY (rq pv dd c cb : Nat) (a ab : Option Addr) (who : Int) (l : List Dsc) (G : List Nat) : List HP := [pt rq (blqO pv dd a l.length c who (wdAt (G.take 8) 0) (wdAt (G.take 8) 1) (sliA ab cb 8 1) (G.length - 8) (cb - 8) (lenW l true)), osl 5 1 (.slice ab G.length cb) (byV G)]
theorem bkAsked_spec (W0 : World) (R : List HP) (pv dd ps pm d c : Nat) (a : Option Addr) (fr : List Frm) (pg : List Pl) (h : Pgs pg) (hF : Frs fr) (l : List Dsc) (hl : ∀ y ∈ l, y.ok) (hn : l.length ≤ 9) (who : Int) (G : List Nat) (hG : bkG fr pg l = G) :
    Spec Tryz.prog W0 152 [.pointer (some ⟨pv, 0, none⟩), .pointer (some ⟨dd, 0, none⟩), .slice a l.length c, .int .i64 who] (osl 139 4 (.slice a l.length c) (l.flatMap dsV) :: vwW pv ps pm d fr pg R)
      (fun v B => ∃ p Y, v = .tuple #[.pointer p, .bool (bkB_ fr pg l)] ∧ B = Y ++ (osl 139 4 (.slice a l.length c) (l.flatMap dsV) :: vwW pv ps pm d fr pg R) ∧ (bkB_ fr pg l = false → Y = []) ∧
        (bkB_ fr pg l = true → ∃ rq ab cb, p = some ⟨rq, 0, none⟩ ∧ Frm0 ab (byV G) ∧ G.length ≤ cb ∧ cb ≤ maxLen ∧ Y = bkY rq pv dd c cb a ab who l G)) := by
  have hGb : By G := by rw [← hG]; exact gthK_by hF pg l 512 l.length
  have hGl : G.length ≤ 512 := by
    have := (gthK_len fr pg l 512 l.length).2
    rw [← hG, bkG]; omega
  have hlw : lenW l true ≤ 38654705664 := by
    have := lenW_le hl true
    omega
  have hX : bkB_ fr pg l = decide (8 ≤ G.length ∧ 1 ≤ lenW l true) := by rw [bkB_, hG]
  refine spec_body Tryz.func152 Tryz.ntmps152 rfl rfl ?_
  refine x_seq (x_region (s_val rfl (v_assign rfl) (s_val rfl (v_assign rfl) (x_nil (n_then (x_seq ?_))))))
  refine run_form (E := 139) (sz := 4) (a := a) (c := c) (n := l.length) (ys := l.flatMap dsV) (fun hf1 => ?_)
  refine x_region (s_val rfl (v_move rfl) (s_val rfl (v_move rfl) ?_))
  refine s_do rfl (d_call3 Tryz.call210 rfl (chGather_spec W0 _ pv ps pm d c a fr pg h hF l (sla_cells hf1 (cells_osl (E := 139) (sz := 4) (a := a) (n := l.length) (c := c)) (fun _ => rfl) rfl (by decide)) hl (by omega) 512 (by decide))) ?_
  rintro _ B_ ⟨ab, cb, rfl, hB_⟩
  obtain rfl := hB_.symm
  rw [show gthK fr pg l 512 l.length = G from hG]
  refine s_val rfl (v_assign rfl) (x_nil (n_then (x_seq (x_region (s_val rfl (v_move rfl) ?_)))))
  refine s_do rfl (d_call1 Tryz.call211 rfl (chLen_spec W0 _ a c l true hl (by omega))) ?_
  rintro _ B_ ⟨rfl, hB_⟩
  obtain rfl := hB_.symm
  refine s_val rfl (v_assign rfl) (x_nil (n_then (x_seq (x_seq (x_region (s_val rfl (v_move rfl) (s_val rfl (v_len_slice Tryz.underlying44 rfl) (s_val rfl (v_lss rfl rfl) (s_val rfl (v_move rfl) ?_)))))))))
  refine s_or rfl rfl rfl ?_ ?_
  · intro g3_4
    refine s_no rfl rfl rfl rfl (s_val rfl (v_pick_t rfl rfl) (x_nil (n_then (x_ift rfl (x_seq (x_region (s_val rfl (v_assign rfl) (s_val rfl (v_assign rfl) (x_nil (n_then (x_ret (r_then (x_done (.inl rfl) (.cons (r_tmp rfl) (.cons (r_tmp rfl) .nil)) ?_)))))))))))))
    have hb : bkB_ fr pg l = false := by rw [hX]; exact decide_eq_false (by omega)
    rw [hb]
    refine ⟨_, ⟨none, [], rfl, rfl, (fun _ => rfl), (fun q => by cases q)⟩, ?_⟩
    simp only [List.nil_append]
    exact inferInstance
  · intro g3_4
    refine s_val rfl (v_move rfl) (s_yes rfl rfl (s_val rfl (v_lss rfl rfl) (s_val rfl (v_pick_f rfl rfl) (x_nil (n_then ?_)))))
    refine x_if rfl ?_ ?_
    · intro c3
      refine x_seq (x_region (s_val rfl (v_assign rfl) (s_val rfl (v_assign rfl) (x_nil (n_then (x_ret (r_then (x_done (.inl rfl) (.cons (r_tmp rfl) (.cons (r_tmp rfl) .nil)) ?_))))))))
      have hb : bkB_ fr pg l = false := by rw [hX]; exact decide_eq_false (by omega)
      rw [hb]
      refine ⟨_, ⟨none, [], rfl, rfl, (fun _ => rfl), (fun q => by cases q)⟩, ?_⟩
      simp only [List.nil_append]
      exact inferInstance
    · intro c3
      refine x_skip (n_then (x_seq ?_))
      have hb : bkB_ fr pg l = true := by rw [hX]; exact decide_eq_true (by omega)
      have h8 : 8 ≤ G.length := by omega
      have e8 : (G.take 8).length = 8 := by rw [List.length_take]; omega
      have hw1 := wdAt_lt (hGb.take 8) 1
      refine run_form (E := 5) (sz := 1) (a := ab) (c := cb) (n := G.length) (ys := byV G) (fun hf2 => ?_)
      refine run_cap (E := 5) (sz := 1) (a := ab) (c := cb) (n := G.length) (fun hcap => ?_)
      refine x_region (s_val rfl (v_move rfl) ?_)
      refine s_val rfl (v_sliceH Tryz.underlying44 Tryz.sizeOf5 rfl rfl (h := 8) rfl (by omega)) ?_
      refine s_do rfl (d_call Tryz.call212 rfl (e8 ▸ octWords_spec W0 _ ab cb (G.take 8) ((sla_cells (xs := G) (f := fun x => [bV x]) hf2 (cells_osl (E := 5) (sz := 1) (a := ab) (n := G.length) (c := cb)) (fun _ => rfl) (byV_fm G).symm (by decide)).take 8) (hGb.take 8) (by omega) (by omega))) ?_
      rintro _ B_ ⟨aw, cw, rfl, hB_⟩
      obtain rfl := hB_.symm
      rw [show 8 / 4 = 2 from rfl]
      refine run_form (E := 47) (sz := 1) (a := aw) (c := cw) (n := 2) (fun hf3 => ?_)
      obtain ⟨gw, rfl⟩ := form_some hf3 (by simp [wordsV])
      refine s_val rfl (v_assign rfl) (x_nil (n_then (x_seq ?_)))
      refine x_draw [(gw, 0, [.int .u32 (wdAt (G.take 8) 0 : Nat), .int .u32 (wdAt (G.take 8) 1 : Nat)])] 18 mixed rfl (sc_cons (cells_osl (E := 47) (sz := 1) (a := some ⟨gw, 0, none⟩) (n := 2) (c := cw)) sc_end) (fun hS => ?_)
      refine d_take 0 rfl rfl (by kernel_rfl) (by kernel_rfl) (by kernel_rfl) rfl hS (v_move rfl) ?_
      refine d_take 1 rfl rfl (by kernel_rfl) (by kernel_rfl) (by kernel_rfl) rfl hS (v_move rfl) ?_
      refine d_take 2 rfl rfl (by kernel_rfl) (by kernel_rfl) (by kernel_rfl) rfl hS (v_move rfl) ?_
      refine d_take 3 rfl rfl (by kernel_rfl) (by kernel_rfl) (by kernel_rfl) rfl hS (v_move rfl) ?_
      refine d_take 4 rfl rfl (by kernel_rfl) (by kernel_rfl) (by kernel_rfl) rfl hS (v_move rfl) ?_
      refine d_take 5 rfl rfl (by kernel_rfl) (by kernel_rfl) (by kernel_rfl) rfl hS (v_idx Tryz.underlying45 Tryz.sizeOf47 rfl rfl (i := 0) rfl (by decide) (by first | exact Nat.zero_add _ | rfl)) ?_
      refine d_take 6 rfl rfl (by kernel_rfl) (by kernel_rfl) (by kernel_rfl) rfl hS (v_load Tryz.isAgg47 rfl (by first | exact cell_sc0 (k := 0) rfl rfl | exact cell_sc0 (k := 1) rfl rfl | exact cell_sc0 (k := 2) rfl rfl | exact cell_sc0 (k := 3) rfl rfl | exact cell_sc0 (k := 4) rfl rfl)) ?_
      refine d_take 7 rfl rfl (by kernel_rfl) (by kernel_rfl) (by kernel_rfl) rfl hS (v_move rfl) ?_
      refine d_take 8 rfl rfl (by kernel_rfl) (by kernel_rfl) (by kernel_rfl) rfl hS (v_idx Tryz.underlying45 Tryz.sizeOf47 rfl rfl (i := 1) rfl (by decide) (by first | exact Nat.zero_add _ | rfl)) ?_
      refine d_take 9 rfl rfl (by kernel_rfl) (by kernel_rfl) (by kernel_rfl) rfl hS (v_load Tryz.isAgg47 rfl (by first | exact cell_sc0 (k := 0) rfl rfl | exact cell_sc0 (k := 1) rfl rfl | exact cell_sc0 (k := 2) rfl rfl | exact cell_sc0 (k := 3) rfl rfl | exact cell_sc0 (k := 4) rfl rfl)) ?_
      refine d_take 10 rfl rfl (by kernel_rfl) (by kernel_rfl) (by kernel_rfl) rfl hS (v_conv Tryz.underlying47 Tryz.underlying3 rfl (w64 (by omega))) ?_
      refine d_take 11 rfl rfl (by kernel_rfl) (by kernel_rfl) (by kernel_rfl) rfl hS (v_move rfl) ?_
      refine d_take 12 rfl rfl (by kernel_rfl) (by kernel_rfl) (by kernel_rfl) rfl hS (v_sliceLg Tryz.underlying44 Tryz.sizeOf5 rfl (i := 8) rfl rfl (by omega) rfl) ?_
      refine d_take 13 rfl rfl (by kernel_rfl) (by kernel_rfl) (by kernel_rfl) rfl hS (v_move rfl) ?_
      refine d_take 14 rfl rfl (by kernel_rfl) (by kernel_rfl) (by kernel_rfl) rfl hS (v_build Tryz.underlying305 Tryz.zeroValue305 (sized_cons Tryz.sizeOf51 (sized_cons Tryz.sizeOf57 (sized_cons Tryz.sizeOf43 (sized_cons Tryz.sizeOf3 (sized_cons Tryz.sizeOf47 (sized_cons Tryz.sizeOf3 (sized_cons Tryz.sizeOf44 (sized_cons Tryz.sizeOf3 sized_nil)))))))) (fil_scal rfl Tryz.sizeOf51 rfl rfl (Nat.le_of_ble_eq_true rfl) SetL.eq (fil_scal rfl Tryz.sizeOf57 rfl rfl (Nat.le_of_ble_eq_true rfl) SetL.eq (fil_scal rfl Tryz.sizeOf43 rfl rfl (Nat.le_of_ble_eq_true rfl) SetL.eq (fil_scal rfl Tryz.sizeOf3 rfl rfl (Nat.le_of_ble_eq_true rfl) SetL.eq (fil_scal rfl Tryz.sizeOf47 rfl rfl (Nat.le_of_ble_eq_true rfl) SetL.eq (fil_scal rfl Tryz.sizeOf3 rfl rfl (Nat.le_of_ble_eq_true rfl) SetL.eq (fil_scal rfl Tryz.sizeOf44 rfl rfl (Nat.le_of_ble_eq_true rfl) SetL.eq (fil_scal rfl Tryz.sizeOf3 rfl rfl (Nat.le_of_ble_eq_true rfl) SetL.eq fil_nil))))))))) ?_
      refine d_one 15 (by kernel_rfl) rfl rfl (d_boxA rfl) rfl ?_; clear hS
      rintro _ _ ⟨rq, rfl, rfl⟩
      refine ⟨(sc_cons (cells_osl (E := 47) (sz := 1) (a := some ⟨gw, 0, none⟩) (n := 2) (c := cw)) sc_end), fun hS => ?_⟩
      refine d_take 16 rfl rfl (by kernel_rfl) (by kernel_rfl) (by kernel_rfl) rfl hS (v_assign rfl) ?_
      refine d_take 17 rfl rfl (by kernel_rfl) (by kernel_rfl) (by kernel_rfl) rfl hS (v_assign rfl) ?_
      refine d_done (by kernel_rfl) ?_; clear hS
      refine n_then (x_ret (x_done (.inl rfl) (.cons (r_tmp rfl) (.cons (r_tmp rfl) .nil)) ?_))
      rw [hb]
      refine ⟨_, ⟨_, bkY rq pv dd c cb a ab who l G, rfl, rfl, (fun q => by cases q), (fun _ => ⟨rq, ab, cb, rfl, hf2, hcap.1, hcap.2, rfl⟩)⟩, ?_⟩
      simp only [bkY, List.cons_append, List.nil_append]
      exact inferInstance
structure BoR where
  m : Nat
  w : Int
  fr : List Frm
  d : Nat
  s : QS
  x : Dk
@[reducible] def bkO1 (pg : List Pl) (who : Int) (l : List Dsc) (x : Dk) (fr : List Frm) (d : Nat) : BlR := bkDo pg who (wdAt ((bkG fr pg l).take 8) 1 : Nat) (wdAt ((bkG fr pg l).take 8) 0) (lenW l true) l ((bkG fr pg l).drop 8) x fr d
@[reducible] def bkO2 (pg : List Pl) (l : List Dsc) (r : BlR) : ScS := scK r.fr pg r.d l ((lenW l true - 1 : Nat) : Int) [r.how] l.length
@[reducible] def bkO3 (pg : List Pl) (h : Nat) (l : List Dsc) (r : BlR) (s : QS) : DnR := dnX (bkO2 pg l r).2.2.1 pg (bkO2 pg l r).2.2.2 s (u32N (h : Nat)) (u32N ((r.t + 1 : Nat) : Int))
def bkOne (pg : List Pl) (who : Int) (h : Nat) (l : List Dsc) (s : QS) (x : Dk) (fr : List Frm) (d : Nat) : BoR :=
  if bkB_ fr pg l then ⟨(bkO1 pg who l x fr d).m, (bkO3 pg h l (bkO1 pg who l x fr d) s).c, (bkO3 pg h l (bkO1 pg who l x fr d) s).fr, (bkO3 pg h l (bkO1 pg who l x fr d) s).d, (bkO3 pg h l (bkO1 pg who l x fr d) s).s, (bkO1 pg who l x fr d).x⟩
  else ⟨0, 4, fr, d, bkS s 4, x⟩
theorem bkG_by {fr : List Frm} (hF : Frs fr) (pg : List Pl) (l : List Dsc) : By (bkG fr pg l) := gthK_by hF pg l 512 l.length
theorem bkG_len (fr : List Frm) (pg : List Pl) (l : List Dsc) : (bkG fr pg l).length ≤ 512 := by
  have := (gthK_len fr pg l 512 l.length).2
  unfold bkG; omega
structure BoOk (fr : List Frm) (s : QS) (o : BoR) : Prop where
  frs : Frs o.fr
  len : o.fr.length = fr.length
  d : o.d < 4096
  qs : QOk o.s
  r : o.s.r = s.r
  x : DkOk o.x
  m : o.m ≤ 512
theorem bkOne_ok {pg : List Pl} {who : Int} {h : Nat} {l : List Dsc} {s : QS} {x : Dk} {fr : List Frm} {d : Nat} (hs : QOk s) (hx : DkOk x) (hF : Frs fr) (hd : d < 4096) : BoOk fr s (bkOne pg who h l s x fr d) := by
  unfold bkOne; split
  · have g := bkG_len fr pg l
    have b := bkDo_ok (pg := pg) (who := who) (at_ := (wdAt ((bkG fr pg l).take 8) 1 : Nat)) (what := wdAt ((bkG fr pg l).take 8) 0) (room := lenW l true) (l := l) (D := (bkG fr pg l).drop 8) hx hF hd ((bkG_by hF pg l).drop 8) (by rw [List.length_drop]; omega)
    have e := scK_ok (pg := pg) (l := l) (from_ := ((lenW l true - 1 : Nat) : Int)) (bs := [(bkO1 pg who l x fr d).how]) b.frs b.d l.length
    have z := dnX_ok (pg := pg) (s := s) (h := u32N (h : Nat)) (n := u32N (((bkO1 pg who l x fr d).t + 1 : Nat) : Int)) e.frs e.d hs
    have zr := dnX_r (bkO2 pg l (bkO1 pg who l x fr d)).2.2.1 pg (bkO2 pg l (bkO1 pg who l x fr d)).2.2.2 s (u32N (h : Nat)) (u32N (((bkO1 pg who l x fr d).t + 1 : Nat) : Int))
    exact ⟨z.1, z.2.1.trans (e.len.trans b.len), z.2.2.1, z.2.2.2, zr, b.x, b.m⟩
  · exact ⟨hF, rfl, hd, bkS_ok hs 4, by unfold bkS; split <;> (try split) <;> rfl, hx, Nat.zero_le _⟩
theorem bkOne_spec (W0 : World) (R : List HP) (bq pv dd ps pm d c hd_ : Nat) (a : Option Addr) (fr : List Frm) (pg : List Pl) (h : Pgs pg) (hF : Frs fr) (hd : d < 4096) (l : List Dsc) (hl : ∀ y ∈ l, y.ok) (hn : l.length ≤ 9) (s : QS) (hs : QOk s) (x : Dk) (hx : DkOk x) (who : Int) (o : BoR) (ho : bkOne pg who hd_ l s x fr d = o) :
    Spec Tryz.prog W0 89 [.pointer (some ⟨pv, 0, none⟩), .pointer (some ⟨bq, 0, none⟩), .pointer (some ⟨dd, 0, none⟩), .int .i64 who, .int .i64 hd_, .slice a l.length c]
      (osl 139 4 (.slice a l.length c) (l.flatMap dsV) :: pt bq (qO true s) :: dkH dd x :: vwW pv ps pm d fr pg R)
      (fun v B => v = .tuple #[.int .i64 o.m, .int .i64 o.w] ∧ B = pt bq (qO true o.s) :: dkH dd o.x :: vwW pv ps pm o.d o.fr pg R) := by
  obtain ⟨G, hG⟩ : ∃ G, bkG fr pg l = G := ⟨_, rfl⟩
  have hGb : By G := by rw [← hG]; exact bkG_by hF pg l
  have hGl : G.length ≤ 512 := by rw [← hG]; exact bkG_len fr pg l
  have hX : bkB_ fr pg l = decide (8 ≤ G.length ∧ 1 ≤ lenW l true) := by rw [bkB_, hG]
  have hlw : lenW l true ≤ 38654705664 := by
    have := lenW_le hl true
    omega
  refine spec_body Tryz.func89 Tryz.ntmps89 rfl rfl ?_
  refine x_seq (x_region (s_val rfl (v_assign rfl) (s_val rfl (v_assign rfl) (x_nil (n_then (x_seq (x_region (s_val rfl (v_move rfl) (s_val rfl (v_move rfl) (s_val rfl (v_move rfl) (s_val rfl (v_move rfl) (s_do rfl (d_call4 Tryz.call152 rfl (bkAsked_spec W0 _ pv dd ps pm d c a fr pg h hF l hl hn who G hG)) ?_))))))))))))
  rintro _ B_ ⟨p, Y, rfl, hB_, hno, hye⟩
  obtain rfl := hB_.symm
  refine s_val rfl (v_move rfl) (s_val rfl (v_extract rfl rfl) (s_val rfl (v_extract rfl rfl) (s_val rfl (v_assign rfl) (s_val rfl (v_assign rfl) (x_nil (n_then (x_seq (x_seq (x_region (s_val rfl (v_move rfl) (s_val rfl (v_not rfl) (x_nil (n_then ?_)))))))))))))
  refine x_if rfl ?_ ?_
  · intro c2
    have hb : bkB_ fr pg l = false := by simpa using c2
    obtain rfl := hno hb
    simp only [List.nil_append]
    have hO : o = ⟨0, 4, fr, d, bkS s 4, x⟩ := by rw [← ho, bkOne, hb]; rfl
    subst hO
    refine x_seq (x_region (s_val rfl (v_move rfl) (s_do rfl (d_call1 Tryz.call153 rfl (qBreak_spec W0 _ bq s 4)) ?_)))
    rintro _ B_ ⟨rfl, hB_⟩
    obtain rfl := hB_.symm
    refine x_nil (n_then (x_seq (x_region (s_val rfl (v_assign rfl) (s_val rfl (v_assign rfl) (x_nil (n_then (x_ret (r_then (x_done (.inl rfl) (.cons (r_tmp rfl) (.cons (r_tmp rfl) .nil)) ?_))))))))))
    exact ⟨_, ⟨rfl, rfl⟩, inferInstance⟩
  · intro c2
    have hb : bkB_ fr pg l = true := by simpa using c2
    obtain ⟨rq, ab, cb, rfl, hf, hc1, hc2, rfl⟩ := hye hb
    simp only [List.cons_append, List.nil_append]
    have hbb : 8 ≤ G.length ∧ 1 ≤ lenW l true := by rw [hX] at hb; exact of_decide_eq_true hb
    have hw1 := wdAt_lt (hGb.take 8) 1
    obtain ⟨r, hr⟩ : ∃ r, bkDo pg who (wdAt (G.take 8) 1 : Nat) (wdAt (G.take 8) 0) (lenW l true) l (G.drop 8) x fr d = r := ⟨_, rfl⟩
    have hrk : BlOk fr r := by rw [← hr]; exact bkDo_ok hx hF hd (hGb.drop 8) (by rw [List.length_drop]; omega)
    have hO : o = ⟨r.m, (bkO3 pg hd_ l r s).c, (bkO3 pg hd_ l r s).fr, (bkO3 pg hd_ l r s).d, (bkO3 pg hd_ l r s).s, r.x⟩ := by
      rw [← ho, bkOne, if_pos hb]; unfold bkO1; rw [hG, hr]
    subst hO
    have hrm := hrk.m
    have hrt := hrk.t
    have hsc := scK_ok (pg := pg) (l := l) (from_ := ((lenW l true - 1 : Nat) : Int)) (bs := [r.how]) hrk.frs hrk.d l.length
    refine x_skip (n_then (x_seq (x_region (s_val rfl (v_move rfl) (s_do rfl (d_call1 Tryz.call154 rfl (bkDoing_spec W0 _ rq pv dd l.length c (G.length - 8) (cb - 8) (lenW l true) (wdAt (G.take 8) 0) a (sliA ab cb 8 1) who (wdAt (G.take 8) 1))) ?_)))))
    rintro _ B_ ⟨rfl, hB_⟩
    obtain rfl := hB_.symm
    refine s_val rfl (v_assign rfl) (x_nil (n_then (x_seq (x_region (s_val rfl (v_move rfl) (s_do rfl (d_callv7 (us := [.pointer (some ⟨rq, 0, none⟩)]) (cs := []) rfl (doF_call _) rfl (bkDo_spec W0 _ rq pv dd ps pm d c cb (lenW l true) (wdAt (G.take 8) 0) a ab fr pg h hF hd l hl hn x hx who (wdAt (G.take 8) 1) hw1 ⟨hbb.2, hlw⟩ G hGb ⟨hbb.1, hGl⟩ ⟨hc1, hc2⟩ hf r hr)) ?_))))))
    rintro _ B_ ⟨rfl, hB_⟩
    obtain rfl := hB_.symm
    refine s_do rfl (d_allocA Tryz.zeroValue255) ?_
    rintro _ _ ⟨bt, rfl, rfl⟩
    refine s_do0 (d_storeAll Tryz.sizeOf255 rfl rfl rfl rfl rfl) ?_
    rintro _ _ rfl
    refine x_nil (n_then (x_seq (x_region (s_val rfl (v_move rfl) (s_val rfl (v_loadAll Tryz.isAgg255 Tryz.sizeOf255 rfl rfl) ?_)))))
    refine s_do rfl (d_call5 Tryz.call155 rfl (bkEnd_spec W0 _ rq pv dd ps pm r.d c (cb - 8) (G.length - 8) (lenW l true) (wdAt (G.take 8) 0) a (sliA ab cb 8 1) r.fr pg h hrk.frs hrk.d l hl hn who (wdAt (G.take 8) 1) ⟨hbb.2, hlw⟩ r.how r.m r.t hrk.how)) ?_
    rintro _ B_ ⟨rfl, hB_⟩
    obtain rfl := hB_.symm
    refine x_nil (n_then (x_seq ?_))
    refine x_draw [(bt, 0, _)] 11 mixed rfl (sc_own sc_end) (fun hS => ?_)
    refine d_take 0 rfl rfl (by kernel_rfl) (by kernel_rfl) (by kernel_rfl) rfl hS (v_fieldAddr rfl Tryz.underlying255 rfl Tryz.sizeOf3 rfl (by first | exact Nat.zero_add _ | rfl)) ?_
    refine d_take 1 rfl rfl (by kernel_rfl) (by kernel_rfl) (by kernel_rfl) rfl hS (v_load Tryz.isAgg3 rfl (cell_sc0 (k := 0) rfl rfl)) ?_
    refine d_take 2 rfl rfl (by kernel_rfl) (by kernel_rfl) (by kernel_rfl) rfl hS (v_move rfl) ?_
    refine d_take 3 rfl rfl (by kernel_rfl) (by kernel_rfl) (by kernel_rfl) rfl hS (v_move rfl) ?_
    refine d_take 4 rfl rfl (by kernel_rfl) (by kernel_rfl) (by kernel_rfl) rfl hS (v_move rfl) ?_
    refine d_take 5 rfl rfl (by kernel_rfl) (by kernel_rfl) (by kernel_rfl) rfl hS (v_fieldAddr rfl Tryz.underlying255 rfl Tryz.sizeOf3 rfl (by first | exact Nat.zero_add _ | rfl)) ?_
    refine d_take 6 rfl rfl (by kernel_rfl) (by kernel_rfl) (by kernel_rfl) rfl hS (v_load Tryz.isAgg3 rfl (cell_sc0 (k := 0) rfl rfl)) ?_
    refine d_take 7 rfl rfl (by kernel_rfl) (by kernel_rfl) (by kernel_rfl) rfl hS (v_add rfl rfl (by rw [w64 (by omega)]; omega : IntKind.wrap .i64 ((r.t : Int) + 1) = ((r.t + 1 : Nat) : Int))) ?_
    refine d_one 8 (by kernel_rfl) rfl rfl (d_call4 Tryz.call156 rfl (qDone_spec W0 _ bq pv ps pm (bkO2 pg l r).2.2.2 (bkO2 pg l r).2.2.1 pg h hsc.frs hsc.d s hs (hd_ : Nat) ((r.t + 1 : Nat) : Int))) rfl ?_; clear hS
    rintro _ B_ ⟨rfl, hB_⟩
    obtain rfl := hB_.symm
    refine ⟨(sc_own sc_end), fun hS => ?_⟩
    refine d_take 9 rfl rfl (by kernel_rfl) (by kernel_rfl) (by kernel_rfl) rfl hS (v_assign rfl) ?_
    refine d_take 10 rfl rfl (by kernel_rfl) (by kernel_rfl) (by kernel_rfl) rfl hS (v_assign rfl) ?_
    refine d_done (by kernel_rfl) ?_; clear hS
    refine n_then (x_ret (x_done (.inl rfl) (.cons (r_tmp rfl) (.cons (r_tmp rfl) .nil)) ?_))
    exact ⟨_, ⟨rfl, rfl⟩, inferInstance⟩
end Go.Proofs.YtncegikenkpcmaaGreat
namespace Go.Proofs.YtncegikenkpcmaaGreat
open Go.RowKit
set_option linter.unusedSimpArgs false
set_option linter.unusedVariables false
set_option maxRecDepth 20000
structure SbS where
  fr : List Frm
  d : Nat
  s : QS
  x : Dk
  c : Nat
  n : Nat
  b : Nat
  w : Int
@[reducible] def SbS.v (x : SbS) : List Value := [.int .i64 x.c, .int .i64 x.n, .int .i64 x.b, .int .i64 x.w]
@[reducible] def sbO (pg : List Pl) (who : Int) (X : SbS) : BoR := bkOne pg who (tkR X.fr pg X.s).1 (tkR X.fr pg X.s).2.1 (tkS X.fr pg X.s) X.x X.fr X.d
def sbSt (pg : List Pl) (who : Int) (X : SbS) : Bool × SbS :=
  if (tkR X.fr pg X.s).2.2.1 then (zB (sbO pg who X).w, ⟨(sbO pg who X).fr, (sbO pg who X).d, (sbO pg who X).s, (sbO pg who X).x, X.c + 1, X.n + (tkR X.fr pg X.s).2.1.length, X.b + (sbO pg who X).m, (sbO pg who X).w⟩)
  else (false, { X with s := tkS X.fr pg X.s, w := (tkR X.fr pg X.s).2.2.2 })
theorem sbSt_eq (pg : List Pl) (who : Int) (X : SbS) : sbSt pg who X = if (tkR X.fr pg X.s).2.2.1 then (zB (sbO pg who X).w, ⟨(sbO pg who X).fr, (sbO pg who X).d, (sbO pg who X).s, (sbO pg who X).x, X.c + 1, X.n + (tkR X.fr pg X.s).2.1.length, X.b + (sbO pg who X).m, (sbO pg who X).w⟩)
  else (false, { X with s := tkS X.fr pg X.s, w := (tkR X.fr pg X.s).2.2.2 }) := rfl
def sbGo (pg : List Pl) (who : Int) : Nat → SbS → SbS
  | 0, x => x
  | k + 1, x => if (sbSt pg who x).1 then sbGo pg who k (sbSt pg who x).2 else (sbSt pg who x).2
theorem sbGo_stop {pg : List Pl} {who : Int} {k : Nat} {x : SbS} (hk : 0 < k) (h : (sbSt pg who x).1 = false) : sbGo pg who k x = (sbSt pg who x).2 := by
  obtain ⟨j, rfl⟩ : ∃ j, k = j + 1 := ⟨k - 1, by omega⟩
  rw [sbGo, h]; rfl
theorem sbGo_go {pg : List Pl} {who : Int} {k : Nat} {x : SbS} (hk : 0 < k) (h : (sbSt pg who x).1 = true) : sbGo pg who k x = sbGo pg who (k - 1) (sbSt pg who x).2 := by
  obtain ⟨j, rfl⟩ : ∃ j, k = j + 1 := ⟨k - 1, by omega⟩
  rw [sbGo, h]; rfl
structure SbOk (len : Nat) (r : Rg3) (X : SbS) : Prop where
  frs : Frs X.fr
  len : X.fr.length = len
  d : X.d < 4096
  qs : QOk X.s
  r : X.s.r = r
  x : DkOk X.x
theorem sbSt_ok {pg : List Pl} {who : Int} {len : Nat} {r : Rg3} {X : SbS} (h : SbOk len r X) : SbOk len r (sbSt pg who X).2 ∧ (sbSt pg who X).2.c ≤ X.c + 1 ∧ (sbSt pg who X).2.n ≤ X.n + 9 ∧ (sbSt pg who X).2.b ≤ X.b + 512 := by
  have ht := tkR_ok h.frs pg X.s
  have hy := bkOne_ok (pg := pg) (who := who) (h := (tkR X.fr pg X.s).1) (l := (tkR X.fr pg X.s).2.1) (tkS_ok (fr := X.fr) (pg := pg) h.qs) h.x h.frs h.d
  have hr := tkS_r X.fr pg X.s
  unfold sbSt; split
  · exact ⟨⟨hy.frs, hy.len.trans h.len, hy.d, hy.qs, hy.r.trans (hr.trans h.r), hy.x⟩, Nat.le_refl _, Nat.add_le_add_left ht.2 _, Nat.add_le_add_left hy.m _⟩
  · exact ⟨⟨h.frs, h.len, h.d, tkS_ok h.qs, hr.trans h.r, h.x⟩, Nat.le_succ _, Nat.le_add_right _ _, Nat.le_add_right _ _⟩
theorem bkServe_spec (W0 : World) (R : List HP) (bq pv dd ps_ pm : Nat) (pg : List Pl) (h : Pgs pg) (who : Int)
    (fr : List Frm) (d : Nat) (sd sa su n last put : Nat) (on : Bool) (br : Int) (x : Dk) (hn : n ≤ 8) (hr : Rg3.ok ⟨sd, sa, su, n⟩) (len : Nat) (hx : SbOk len ⟨sd, sa, su, n⟩ ⟨fr, d, ⟨⟨sd, sa, su, n⟩, on, br, last, put⟩, x, 0, 0, 0, 0⟩) :
    Spec Tryz.prog W0 26 [.pointer (some ⟨pv, 0, none⟩), .pointer (some ⟨bq, 0, none⟩), .pointer (some ⟨dd, 0, none⟩), .int .i64 who]
      (pt bq (qO true ⟨⟨sd, sa, su, n⟩, on, br, last, put⟩) :: dkH dd x :: vwW pv ps_ pm d fr pg R)
      (fun v B => ∃ y, y = sbGo pg who n ⟨fr, d, ⟨⟨sd, sa, su, n⟩, on, br, last, put⟩, x, 0, 0, 0, 0⟩ ∧ v = .agg (SbS.v y).toArray ∧ B = pt bq (qO true y.s) :: dkH dd y.x :: vwW pv ps_ pm y.d y.fr pg R) := by
  obtain ⟨x0, hx0⟩ : ∃ x0 : SbS, x0 = ⟨fr, d, ⟨⟨sd, sa, su, n⟩, on, br, last, put⟩, x, 0, 0, 0, 0⟩ := ⟨_, rfl⟩
  rw [← hx0] at hx ⊢
  refine spec_body Tryz.func26 Tryz.ntmps26 rfl rfl ?_
  refine x_seq (x_region (s_do rfl (d_allocA Tryz.zeroValue67) ?_))
  rintro _ _ ⟨b8, rfl, rfl⟩
  refine x_nil (n_then (x_seq (x_region (s_do rfl (d_allocA Tryz.zeroValue67) ?_))))
  rintro _ _ ⟨b9, rfl, rfl⟩
  refine x_nil (n_then (x_seq (x_seq (x_region (s_val rfl (v_move rfl) (s_do rfl (d_call1 Tryz.call28 rfl (qState_spec W0 _ bq ⟨⟨sd, sa, su, n⟩, on, br, last, put⟩)) ?_))))))
  rintro _ B_ ⟨rfl, hB_⟩
  obtain rfl := hB_.symm
  refine s_val rfl (v_fieldA rfl Tryz.underlying73 rfl Tryz.isAgg71 Tryz.sizeOf71 TakeL.eq) ?_
  refine s_val rfl (v_fieldV rfl Tryz.underlying71 rfl Tryz.isAgg3 rfl) ?_
  refine s_val rfl (v_move rfl) (x_nil (n_then (x_block ?_)))
  refine x_loop (fun X : Nat × SbS => X.1 ≤ n ∧ sbGo pg who (n - X.1) X.2 = sbGo pg who n x0 ∧ SbOk len ⟨sd, sa, su, n⟩ X.2 ∧ X.2.c ≤ X.1 ∧ X.2.n ≤ 9 * X.1 ∧ X.2.b ≤ 512 * X.1 ∧ X.2.w = 0) (fun X => [(0, .pointer (some ⟨pv, 0, none⟩)), (1, .pointer (some ⟨bq, 0, none⟩)), (2, .pointer (some ⟨dd, 0, none⟩)), (3, .int .i64 who), (8, .pointer (some ⟨b8, 0, none⟩)), (9, .pointer (some ⟨b9, 0, none⟩)), (18, .int .i64 n), (19, .int .i64 X.1)]) (fun X => pt b8 (cob [.int .i64 0, .int .i64 0, .int .i64 0, .int .i64 0] 67) :: pt b9 (cob X.2.v 67) :: pt bq (qO true X.2.s) :: dkH dd X.2.x :: vwW pv ps_ pm X.2.d X.2.fr pg R) (fun X => n - X.1) (0, x0) ?_ ?_ ?_ ?_
  · exact ⟨Nat.zero_le _, rfl, hx, by subst hx0; exact Nat.le_refl _, by subst hx0; exact Nat.le_refl _, by subst hx0; exact Nat.le_refl _, by subst hx0; rfl⟩
  · repeat (first | exact sub_nil | refine sub_cons rfl ?_)
  · subst hx0; exact inferInstance
  · intro ⟨i, X⟩ ⟨hi, hgo, hok, hc, hnn, hb, hwx⟩
    dsimp only at hi hgo hok hc hnn hb hwx ⊢
    obtain ⟨fx, dx, sx, px, cx, nx, bx, wx⟩ := X
    obtain ⟨hF, hlen, hd, hs, hsr, hps⟩ := hok
    dsimp only at hF hlen hd hs hsr hps hc hnn hb hwx ⊢
    subst hwx
    refine x_seq (x_region (s_val rfl (v_lss rfl rfl) (x_nil (n_then (x_seq ?_)))))
    refine x_if rfl ?_ ?_
    · intro c3
      refine x_skip (n_then (x_seq (x_block (x_seq ?_))))
      obtain ⟨hl9, hl8⟩ := tkR_ok hF pg sx
      have hst1 := sbSt_eq pg who ⟨fx, dx, sx, px, cx, nx, bx, 0⟩
      have hokn := sbSt_ok (pg := pg) (who := who) (X := ⟨fx, dx, sx, px, cx, nx, bx, 0⟩) (len := len) (r := ⟨sd, sa, su, n⟩) ⟨hF, hlen, hd, hs, hsr, hps⟩
      dsimp only [sbO] at hst1
      refine x_region (s_val rfl (v_move rfl) (s_val rfl (v_move rfl) ?_))
      refine s_do rfl (d_call4 Tryz.call88 rfl (qTake_spec W0 _ bq pv ps_ pm dx fx pg h hF sx hs (by rw [hsr]; exact hr))) ?_
      rintro _ B_ ⟨a, c, rfl, hB_⟩
      obtain rfl := hB_.symm
      obtain ⟨r, hr⟩ : ∃ r, tkR fx pg sx = r := ⟨_, rfl⟩
      rw [hr] at hl9 hl8 hst1 ⊢
      refine s_val rfl (v_move rfl) (s_val rfl (v_extract rfl rfl) (s_val rfl (v_extract rfl rfl) (s_val rfl (v_extract rfl rfl) (s_val rfl (v_extract rfl rfl) (s_val rfl (v_assign rfl) (s_val rfl (v_assign rfl) (s_val rfl (v_assign rfl) (s_val rfl (v_assign rfl) (x_nil (n_then (x_seq (x_seq (x_region (s_val rfl (v_move rfl) (s_val rfl (v_not rfl) (x_nil (n_then ?_)))))))))))))))))
      refine x_if rfl ?_ ?_
      · intro c5
        have ht : ¬ r.2.2.1 = true := by simpa using c5
        rw [if_neg ht] at hst1
        rw [sbGo_stop (by omega) (by rw [hst1]), hst1] at hgo
        refine x_seq (x_region (s_val rfl (v_move rfl) ?_))
        refine s_val rfl (v_fieldAddr rfl Tryz.underlying67 rfl Tryz.sizeOf3 rfl (by first | exact Nat.zero_add _ | rfl)) ?_
        refine s_do0 (d_store Tryz.sizeOf3 rfl rfl rfl (Nat.le_of_ble_eq_true rfl) SetL.eq) ?_
        rintro _ _ rfl
        refine x_nil (n_then (x_seq (x_region (s_val rfl (v_loadAll Tryz.isAgg67 Tryz.sizeOf67 rfl rfl) ?_))))
        refine s_do0 (d_storeAll Tryz.sizeOf67 rfl rfl rfl rfl rfl) ?_
        rintro _ _ rfl
        refine x_nil (n_then (x_ret (r_then (r_block (r_then (r_then (r_block (r_then (x_done (.inl rfl) (.cons (r_all Tryz.isAgg67 Tryz.sizeOf67 rfl rfl) .nil) ?_)))))))))
        exact ⟨_, ⟨_, hgo, rfl, rfl⟩, inferInstance⟩
      · intro c5
        have ht : r.2.2.1 = true := by simpa using c5
        rw [if_pos ht] at hst1
        obtain ⟨o, ho⟩ : ∃ o, bkOne pg who r.1 r.2.1 (tkS fx pg sx) px fx dx = o := ⟨_, rfl⟩
        have hdo := bkOne_ok (pg := pg) (who := who) (h := r.1) (l := r.2.1) (tkS_ok (fr := fx) (pg := pg) hs) hps hF hd
        rw [ho] at hst1 hdo
        have hom := hdo.m
        refine x_skip (n_then (x_seq (x_region ?_)))
        refine s_val rfl (v_fieldAddr rfl Tryz.underlying67 rfl Tryz.sizeOf3 rfl (by first | exact Nat.zero_add _ | rfl)) ?_
        refine s_val rfl (v_load Tryz.isAgg3 rfl (cell_own rfl)) ?_
        refine s_val rfl (v_add rfl rfl (by rw [w64 (by omega)]; omega : IntKind.wrap .i64 ((cx : Int) + 1) = ((cx + 1 : Nat) : Int))) ?_
        refine s_val rfl (v_fieldAddr rfl Tryz.underlying67 rfl Tryz.sizeOf3 rfl (by first | exact Nat.zero_add _ | rfl)) ?_
        refine s_do0 (d_store Tryz.sizeOf3 rfl rfl rfl (Nat.le_of_ble_eq_true rfl) SetL.eq) ?_
        rintro _ _ rfl
        refine x_nil (n_then (x_seq (x_region ?_)))
        refine s_val rfl (v_fieldAddr rfl Tryz.underlying67 rfl Tryz.sizeOf3 rfl (by first | exact Nat.zero_add _ | rfl)) ?_
        refine s_val rfl (v_load Tryz.isAgg3 rfl (cell_own rfl)) ?_
        refine s_val rfl (v_move rfl) (s_val rfl (v_len_slice Tryz.underlying43 rfl) ?_)
        refine s_val rfl (v_add rfl rfl (by rw [w64 (by omega)]; omega : IntKind.wrap .i64 ((nx : Int) + (r.2.1.length : Int)) = ((nx + r.2.1.length : Nat) : Int))) ?_
        refine s_val rfl (v_fieldAddr rfl Tryz.underlying67 rfl Tryz.sizeOf3 rfl (by first | exact Nat.zero_add _ | rfl)) ?_
        refine s_do0 (d_store Tryz.sizeOf3 rfl rfl rfl (Nat.le_of_ble_eq_true rfl) SetL.eq) ?_
        rintro _ _ rfl
        refine x_nil (n_then (x_seq (x_region (s_val rfl (v_move rfl) (s_val rfl (v_move rfl) (s_val rfl (v_move rfl) (s_val rfl (v_move rfl) (s_val rfl (v_move rfl) (s_val rfl (v_move rfl) (s_do rfl (d_call6 Tryz.call89 rfl (bkOne_spec W0 _ bq pv dd ps_ pm dx c r.1 a fx pg h hF hd r.2.1 hl9 hl8 (tkS fx pg sx) (tkS_ok hs) px hps who o ho)) ?_))))))))))
        rintro _ B_ ⟨rfl, hB_⟩
        obtain rfl := hB_.symm
        refine s_val rfl (v_move rfl) (s_val rfl (v_extract rfl rfl) (s_val rfl (v_extract rfl rfl) (s_val rfl (v_assign rfl) (s_val rfl (v_assign rfl) (x_nil (n_then (x_seq (x_region ?_))))))))
        refine s_val rfl (v_fieldAddr rfl Tryz.underlying67 rfl Tryz.sizeOf3 rfl (by first | exact Nat.zero_add _ | rfl)) ?_
        refine s_val rfl (v_load Tryz.isAgg3 rfl (cell_own rfl)) ?_
        refine s_val rfl (v_move rfl) ?_
        refine s_val rfl (v_add rfl rfl (by rw [w64 (by omega)]; omega : IntKind.wrap .i64 ((bx : Int) + (o.m : Int)) = ((bx + o.m : Nat) : Int))) ?_
        refine s_val rfl (v_fieldAddr rfl Tryz.underlying67 rfl Tryz.sizeOf3 rfl (by first | exact Nat.zero_add _ | rfl)) ?_
        refine s_do0 (d_store Tryz.sizeOf3 rfl rfl rfl (Nat.le_of_ble_eq_true rfl) SetL.eq) ?_
        rintro _ _ rfl
        refine x_nil (n_then (x_seq (x_region (s_val rfl (v_move rfl) (s_val rfl (v_neq rfl rfl) (x_nil (n_then ?_)))))))
        refine x_if rfl ?_ ?_
        · intro c12
          have hzc : zB o.w = false := decide_eq_false c12
          rw [hzc] at hst1
          rw [sbGo_stop (by omega) (by rw [hst1]), hst1] at hgo
          refine x_seq (x_region (s_val rfl (v_move rfl) ?_))
          refine s_val rfl (v_fieldAddr rfl Tryz.underlying67 rfl Tryz.sizeOf3 rfl (by first | exact Nat.zero_add _ | rfl)) ?_
          refine s_do0 (d_store Tryz.sizeOf3 rfl rfl rfl (Nat.le_of_ble_eq_true rfl) SetL.eq) ?_
          rintro _ _ rfl
          refine x_nil (n_then (x_seq (x_region (s_val rfl (v_loadAll Tryz.isAgg67 Tryz.sizeOf67 rfl rfl) ?_))))
          refine s_do0 (d_storeAll Tryz.sizeOf67 rfl rfl rfl rfl rfl) ?_
          rintro _ _ rfl
          refine x_nil (n_then (x_ret (r_block (r_then (r_then (r_block (r_then (x_done (.inl rfl) (.cons (r_all Tryz.isAgg67 Tryz.sizeOf67 rfl rfl) .nil) ?_))))))))
          exact ⟨_, ⟨_, hgo, rfl, rfl⟩, inferInstance⟩
        · intro c12
          have hzc : zB o.w = true := decide_eq_true (Decidable.not_not.1 c12)
          have hw0 : o.w = 0 := Decidable.not_not.1 c12
          rw [hzc, hw0] at hst1
          rw [sbGo_go (by omega) (by rw [hst1]), hst1] at hgo
          rw [hst1] at hokn
          refine x_skip (n_block (n_then (x_region ?_)))
          refine s_val rfl (v_add rfl rfl (by first | exact w64 (by omega) | rfl)) ?_
          refine s_val rfl (v_move rfl) (x_nil (n_then ?_))
          refine inv_intro (i + 1, ⟨o.fr, o.d, o.s, o.x, cx + 1, nx + r.2.1.length, bx + o.m, 0⟩) ?_ ?_ ?_ ?_
          · refine ⟨by omega, ?_, hokn.1, by show cx + 1 ≤ i + 1; omega, by show nx + r.2.1.length ≤ 9 * (i + 1); omega, by show bx + o.m ≤ 512 * (i + 1); omega, rfl⟩
            rw [show n - (i + 1) = n - i - 1 by omega]; exact hgo
          · omega
          · repeat (first | exact sub_nil | refine sub_cons rfl ?_)
          · exact inferInstance
    · intro c3
      refine x_exit (e_then (e_then (e_block (n_then (x_seq (x_region (s_val rfl (v_loadAll Tryz.isAgg67 Tryz.sizeOf67 rfl rfl) ?_)))))))
      refine s_do0 (d_storeAll Tryz.sizeOf67 rfl rfl rfl rfl rfl) ?_
      rintro _ _ rfl
      refine x_nil (n_then (x_ret (x_done (.inl rfl) (.cons (r_all Tryz.isAgg67 Tryz.sizeOf67 rfl rfl) .nil) ?_)))
      have h0 : n - i = 0 := by omega
      rw [h0] at hgo
      have hgo0 : (⟨fx, dx, sx, px, cx, nx, bx, 0⟩ : SbS) = sbGo pg who n x0 := hgo
      exact ⟨_, ⟨_, hgo0, rfl, rfl⟩, inferInstance⟩
def rgnV (x : Rn) : List Value := [.int .i64 x.1, .int .i64 x.2.1, .int .i64 x.2.2]
def dnK (rs : List Rn) : Nat → Option (List Rn × List Int)
  | 0 => some ([], [])
  | k + 1 => (dnK rs k).bind fun y => if isL (rs.getD k (0, 0, 0)).1 = true ∧ gvE y.1 32 (rs.getD k (0, 0, 0)).2.1 (rs.getD k (0, 0, 0)).2.2 k = 0 then some (gvR y.1 32 (rs.getD k (0, 0, 0)).2.1 (rs.getD k (0, 0, 0)).2.2 k, y.2 ++ [(rs.getD k (0, 0, 0)).1]) else none
def dkNew (rs : List Rn) : Option Dk := if 8 < rs.length then none else (dnK rs rs.length).map fun y => ⟨y.1, y.2, List.replicate 32 z16⟩
theorem dnK_stop {rs : List Rn} {i : Nat} (h : dnK rs i = none) : ∀ {k : Nat}, i ≤ k → dnK rs k = none := by
  intro k hk
  induction k with
  | zero => rwa [show i = 0 by omega] at h
  | succ k ih =>
    rcases Nat.lt_or_ge i (k + 1) with q | q
    · rw [dnK, ih (by omega)]; rfl
    · rwa [show i = k + 1 by omega] at h
theorem gvR_who {rs : List Rn} {n f k w m : Int} (h : ∀ x ∈ rs, 0 ≤ x.2.2 ∧ x.2.2 < m) (hm : 0 ≤ w ∧ w ≤ m) : ∀ x ∈ gvR rs n f k w, 0 ≤ x.2.2 ∧ x.2.2 < m + 1 := by
  unfold gvR; split
  · intro x hx
    rw [rnIns] at hx
    rcases List.mem_append.1 hx with q | q
    · have := h x (List.mem_of_mem_take q); omega
    · rcases List.mem_cons.1 q with rfl | q
      · show 0 ≤ w ∧ w < m + 1; omega
      · have := h x (List.mem_of_mem_drop q); omega
  · intro x hx
    have := h x hx; omega
structure DnOk (k : Nat) (y : List Rn × List Int) : Prop where
  tb : TbOk y.1
  rl : y.1.length ≤ k
  ll : y.2.length = k
  wh : ∀ x ∈ y.1, 0 ≤ x.2.2 ∧ x.2.2 < (k : Int)
theorem dnK_ok (rs : List Rn) : ∀ {k : Nat} {y : List Rn × List Int}, dnK rs k = some y → DnOk k y
  | 0, y, h => by cases h; exact ⟨fun x hx => by simp at hx, Nat.le_refl _, rfl, fun x hx => by simp at hx⟩
  | k + 1, y, h => by
    rw [dnK] at h
    cases e : dnK rs k with
    | none => rw [e] at h; cases h
    | some z =>
      rw [e] at h
      obtain ⟨h1, h2, h3, h4⟩ := dnK_ok rs e
      have h' : (if isL (rs.getD k (0, 0, 0)).1 = true ∧ gvE z.1 32 (rs.getD k (0, 0, 0)).2.1 (rs.getD k (0, 0, 0)).2.2 k = 0 then some (gvR z.1 32 (rs.getD k (0, 0, 0)).2.1 (rs.getD k (0, 0, 0)).2.2 k, z.2 ++ [(rs.getD k (0, 0, 0)).1]) else none) = some y := h
      split at h'
      · cases h'
        refine ⟨gvR_ok h1 (by decide), Nat.le_trans gvR_len (by omega), by rw [List.length_append, h3]; rfl, fun x hx => ?_⟩
        have := gvR_who h4 (by omega) x hx
        omega
      · cases h'
theorem whF_mem {rs : List Rn} {i w : Int} (h : whF rs i = some w) : ∃ x ∈ rs, x.2.2 = w := by
  induction rs with
  | nil => cases h
  | cons y l ih =>
    rw [whF] at h
    split at h
    · cases h; exact ⟨y, by simp, rfl⟩
    · obtain ⟨x, hx, e⟩ := ih h
      exact ⟨x, by simp [hx], e⟩
theorem dkNew_ok {rs : List Rn} {x : Dk} (h : dkNew rs = some x) : DkOk x := by
  unfold dkNew at h
  split at h
  · cases h
  · rename_i hl
    cases e : dnK rs rs.length with
    | none => rw [e] at h; cases h
    | some y =>
      rw [e] at h; cases h
      obtain ⟨h1, h2, h3, h4⟩ := dnK_ok rs e
      refine ⟨h1, by show y.1.length ≤ 8; omega, by show y.2.length ≤ 8; omega, fun i w hw => ?_, rfl, fun b hb => ?_⟩
      · obtain ⟨z, hz, rfl⟩ := whF_mem hw
        have := h4 z hz
        show 0 ≤ z.2.2 ∧ z.2.2 < y.2.length
        rw [h3]; exact this
      · rw [List.eq_of_mem_replicate hb]; exact z16_ok
theorem dkF_zero : dkF (List.replicate 32 z16) = fun _ => none := by
  funext k
  unfold dkF secD
  have e : (List.replicate 32 z16).getD k.toNat z16 = z16 := by
    simp only [List.getD, List.getElem?_replicate]
    split <;> rfl
  rw [e, if_pos rfl]; simp
theorem dkNew_spec (W0 : World) (R : List HP) (a : Option Addr) (c : Nat) (rs : List Rn) (hs : SlA (OwnP W0 R) a 3 rgnV rs) (hl : rs.length < 9223372036854775808) :
    Spec Tryz.prog W0 21 [.slice a rs.length c] R
      (fun v B => ∃ p Y, v = .tuple #[.pointer p, .int .i64 (if (dkNew rs).isSome then 0 else 14)] ∧ B = Y ++ R ∧ (dkNew rs = none → p = none ∧ Y = []) ∧ (∀ x, dkNew rs = some x → ∃ d, p = some ⟨d, 0, none⟩ ∧ Y = [dkH d x])) := by
  have hno : ∀ {p : Option Addr} {Y : List HP} (h : dkNew rs = none), p = none → Y = [] → (dkNew rs = none → p = none ∧ Y = []) ∧ (∀ x, dkNew rs = some x → ∃ d, p = some ⟨d, 0, none⟩ ∧ Y = [dkH d x]) := fun h h1 h2 => ⟨fun _ => ⟨h1, h2⟩, fun x hx => by rw [h] at hx; cases hx⟩
  refine spec_body Tryz.func21 Tryz.ntmps21 rfl rfl ?_
  refine x_seq (x_region (s_val rfl (v_assign rfl) (s_val rfl (v_assign rfl) (x_nil (n_then (x_seq (x_seq (x_region (s_val rfl (v_move rfl) (s_val rfl (v_len_slice Tryz.underlying23 rfl) (s_val rfl (v_gtr rfl rfl) (x_nil (n_then ?_)))))))))))))
  refine x_if rfl ?_ ?_
  · intro c1
    refine x_seq (x_region (s_val rfl (v_assign rfl) (s_val rfl (v_assign rfl) (x_nil (n_then (x_ret (r_then (x_done (.inl rfl) (.cons (r_tmp rfl) (.cons (r_tmp rfl) .nil)) ?_))))))))
    have hN : dkNew rs = none := by rw [dkNew, if_pos (by omega)]
    rw [hN]
    refine ⟨_, ⟨none, [], rfl, rfl, hno hN rfl rfl |>.1 |> fun q => (fun _ => ⟨rfl, rfl⟩), (fun x hx => by cases hx)⟩, ?_⟩
    simp only [List.nil_append]
    exact inferInstance
  · intro c1
    refine x_skip (n_then (x_seq ?_))
    have h8 : rs.length ≤ 8 := by omega
    have hD : dkNew rs = (dnK rs rs.length).map fun y => ⟨y.1, y.2, List.replicate 32 z16⟩ := by rw [dkNew, if_neg (by omega)]
    refine x_region ?_
    refine s_do rfl (d_call Tryz.call74 rfl (paNew_spec W0 _ 32 (by decide))) ?_
    rintro _ B_ ⟨bt, rfl, hB_⟩
    obtain rfl := hB_.symm
    refine s_val rfl (v_move rfl) (s_val rfl (v_extract rfl rfl) (s_val rfl (v_extract rfl rfl) (s_val rfl (v_assign rfl) (s_val rfl (v_assign rfl) (x_nil (n_then (x_seq (x_region (s_val rfl (v_move rfl) (s_do rfl (d_makeMap) ?_))))))))))
    rintro _ _ ⟨bm, rfl, rfl⟩
    refine s_val rfl (v_build Tryz.underlying149 Tryz.zeroValue149 (sized_cons Tryz.sizeOf144 (sized_cons Tryz.sizeOf38 (sized_cons Tryz.sizeOf147 sized_nil))) (fil_scal rfl Tryz.sizeOf144 rfl rfl (Nat.le_of_ble_eq_true rfl) SetL.eq (fil_scal rfl Tryz.sizeOf147 rfl rfl (Nat.le_of_ble_eq_true rfl) SetL.eq fil_nil))) ?_
    refine s_do rfl (d_boxA rfl) ?_
    rintro _ _ ⟨d, rfl, rfl⟩
    refine s_val rfl (v_assign rfl) (x_nil (n_then (x_seq (x_seq (x_region (s_val rfl (v_move rfl) (s_val rfl (v_len_slice Tryz.underlying23 rfl) (s_val rfl (v_move rfl) (x_nil (n_then (x_block ?_)))))))))))
    refine x_loop (fun X : Nat × List Rn × List Int × Option Addr × Nat => X.1 ≤ rs.length ∧ dnK rs X.1 = some (X.2.1, X.2.2.1)) (fun X => [(4, .pointer (some ⟨bt, 0, none⟩)), (6, .pointer (some ⟨d, 0, none⟩)), (20, .slice a rs.length c), (21, .int .i64 rs.length), (22, .int .i64 X.1)]) (fun X => pt d (dkO bt bm X.2.2.2.1 X.2.2.1.length X.2.2.2.2) :: tabH bt (X.2.1, 32) :: osl 3 1 (.slice X.2.2.2.1 X.2.2.1.length X.2.2.2.2) (X.2.2.1.flatMap inI) :: mapH bm (fun _ => none) :: R) (fun X => rs.length - X.1) (0, [], [], none, 0) ?_ ?_ ?_ ?_
    · exact ⟨Nat.zero_le _, rfl⟩
    · repeat (first | exact sub_nil | refine sub_cons rfl ?_)
    · show Ent _ (pt d (dkO bt bm none 0 0) :: tabH bt ([], 32) :: osl 3 1 (.slice none 0 0) [] :: mapH bm (fun _ => none) :: R)
      exact (ent_osl_nil (E := 3) (sz := 1) (k := ent_refl)).trans inferInstance
    · intro ⟨k, t, lb, aL, cL⟩ ⟨hk, hdn⟩
      dsimp only at hk hdn ⊢
      obtain ⟨h1, h2, h3, h4⟩ := dnK_ok rs hdn
      dsimp only at h1 h2 h3 h4
      refine x_seq (x_region (s_val rfl (v_lss rfl rfl) (x_nil (n_then (x_seq ?_)))))
      refine x_if rfl ?_ ?_
      · intro c6
        refine x_skip (n_then (x_seq (x_block (x_seq ?_))))
        have hk1 : k < rs.length := by omega
        obtain ⟨g, o, rfl, hc⟩ := hs.at_ hk1
        have hgk : rs.getD k (0, 0, 0) = rs[k] := by simp [List.getD, hk1]
        obtain ⟨x, hx⟩ : ∃ x, rs[k] = x := ⟨_, rfl⟩
        rw [hx] at hc hgk
        have hst : dnK rs (k + 1) = if isL x.1 = true ∧ gvE t 32 x.2.1 x.2.2 k = 0 then some (gvR t 32 x.2.1 x.2.2 k, lb ++ [x.1]) else none := by
          rw [dnK, hdn, hgk]; rfl
        refine x_region (s_val rfl (v_move rfl) ?_)
        refine s_val rfl (v_idx Tryz.underlying23 Tryz.sizeOf151 rfl rfl rfl hk1 (by first | exact Nat.zero_add _ | rfl)) ?_
        refine s_val rfl (v_loadAgg Tryz.isAgg151 Tryz.sizeOf151 rfl hc.weak rfl) ?_
        refine s_do rfl (d_allocA Tryz.zeroValue151) ?_
        rintro _ _ ⟨br, rfl, rfl⟩
        refine s_val rfl (v_assign rfl) (s_do0 (d_storeAll Tryz.sizeOf151 rfl rfl rfl rfl rfl) ?_)
        rintro _ _ rfl
        refine x_nil (n_then (x_seq (x_seq (x_region ?_))))
        refine s_val rfl (v_fieldAddr rfl Tryz.underlying151 rfl Tryz.sizeOf3 rfl (by first | exact Nat.zero_add _ | rfl)) ?_
        refine s_val rfl (v_load Tryz.isAgg3 rfl (cell_own rfl)) ?_
        refine s_do rfl (d_call Tryz.call75 rfl (lbCount_spec W0 _ x.1)) ?_
        rintro _ B_ ⟨m, rfl, hm, hB_⟩
        obtain rfl := hB_.symm
        refine s_val rfl (v_lss rfl rfl) (s_val rfl (v_move rfl) ?_)
        refine s_or rfl rfl rfl ?_ ?_
        · intro g8_5
          refine s_no rfl rfl rfl rfl (s_no rfl rfl rfl rfl (s_no rfl rfl rfl rfl (s_no rfl rfl rfl rfl (s_no rfl rfl rfl rfl (s_no rfl rfl rfl rfl (s_no rfl rfl rfl rfl (s_val rfl (v_pick_t rfl rfl) (x_nil (n_then (x_ift rfl (x_seq (x_region (s_val rfl (v_assign rfl) (s_val rfl (v_assign rfl) (x_nil (n_then (x_ret (r_then (r_block (r_then (r_then (r_block (r_then ?_)))))))))))))))))))))))
          refine x_done (.inl rfl) (.cons (r_tmp rfl) (.cons (r_tmp rfl) .nil)) ?_
          have hS : dnK rs (k + 1) = none := by
            rw [hst, if_neg]
            rintro ⟨q1, q2⟩
            first
              | exact absurd q2 c8
              | (rw [q1] at hm; simp at hm; omega)
          have hN : dkNew rs = none := by rw [hD, dnK_stop hS hk1]; rfl
          rw [hN]
          refine ⟨_, ⟨none, [], rfl, rfl, (fun _ => ⟨rfl, rfl⟩), (fun x hx => by cases hx)⟩, ?_⟩
          simp only [List.nil_append]
          exact inferInstance
        · intro g8_5
          refine s_val rfl (v_move rfl) (s_yes rfl rfl ?_)
          refine s_val rfl (v_fieldAddr rfl Tryz.underlying151 rfl Tryz.sizeOf3 rfl (by first | exact Nat.zero_add _ | rfl)) ?_
          refine s_yes rfl rfl (s_val rfl (v_load Tryz.isAgg3 rfl (cell_own rfl)) ?_)
          refine s_yes rfl rfl ?_
          refine s_val rfl (v_fieldAddr rfl Tryz.underlying151 rfl Tryz.sizeOf3 rfl (by first | exact Nat.zero_add _ | rfl)) ?_
          refine s_yes rfl rfl (s_val rfl (v_load Tryz.isAgg3 rfl (cell_own rfl)) ?_)
          refine s_yes rfl rfl (s_val rfl (v_move rfl) (s_yes rfl rfl ?_))
          refine s_do rfl (d_call1 Tryz.call76 rfl (paGive_spec W0 _ bt t 32 (by decide) h1 (by omega) x.2.1 x.2.2 k)) ?_
          rintro _ B_ ⟨rfl, hB_⟩
          obtain rfl := hB_.symm
          refine s_yes rfl rfl (s_val rfl (v_neq rfl rfl) (s_val rfl (v_pick_f rfl rfl) (x_nil (n_then ?_))))
          refine x_if rfl ?_ ?_
          · intro c8
            refine x_seq (x_region (s_val rfl (v_assign rfl) (s_val rfl (v_assign rfl) (x_nil (n_then (x_ret (r_then (r_block (r_then (r_then (r_block (r_then (x_done (.inl rfl) (.cons (r_tmp rfl) (.cons (r_tmp rfl) .nil)) ?_)))))))))))))
            have hS : dnK rs (k + 1) = none := by
              rw [hst, if_neg]
              rintro ⟨q1, q2⟩
              first
                | exact absurd q2 c8
                | (rw [q1] at hm; simp at hm; omega)
            have hN : dkNew rs = none := by rw [hD, dnK_stop hS hk1]; rfl
            rw [hN]
            refine ⟨_, ⟨none, [], rfl, rfl, (fun _ => ⟨rfl, rfl⟩), (fun x hx => by cases hx)⟩, ?_⟩
            simp only [List.nil_append]
            exact inferInstance
          · intro c8
            refine x_skip (n_then ?_)
            have hgo : isL x.1 = true ∧ gvE t 32 x.2.1 x.2.2 k = 0 := by
              refine ⟨?_, by first | exact Decidable.not_not.1 c8 | simpa using c8⟩
              rw [← Bool.not_eq_false]; intro q
              rw [q] at hm; simp at hm; omega
            rw [if_pos hgo] at hst
            refine x_draw [(br, 0, _)] 12 mixed rfl (sc_own sc_end) (fun hS => ?_)
            refine d_take 0 rfl rfl (by kernel_rfl) (by kernel_rfl) (by kernel_rfl) rfl hS (v_move rfl) ?_
            refine d_take 1 rfl rfl (by kernel_rfl) (by kernel_rfl) (by kernel_rfl) rfl hS (v_move rfl) ?_
            refine d_take 2 rfl rfl (by kernel_rfl) (by kernel_rfl) (by kernel_rfl) rfl hS (v_nilCheck rfl) ?_
            refine d_take 3 rfl rfl (by kernel_rfl) (by kernel_rfl) (by kernel_rfl) rfl hS (v_fieldAddr rfl Tryz.underlying149 rfl Tryz.sizeOf38 rfl (by first | exact Nat.zero_add _ | rfl)) ?_
            refine d_take 5 rfl rfl (by kernel_rfl) (by kernel_rfl) (by kernel_rfl) rfl hS (v_fieldAddr rfl Tryz.underlying151 rfl Tryz.sizeOf3 rfl (by first | exact Nat.zero_add _ | rfl)) ?_
            refine d_take 6 rfl rfl (by kernel_rfl) (by kernel_rfl) (by kernel_rfl) rfl hS (v_load Tryz.isAgg3 rfl (cell_sc0 (k := 0) rfl rfl)) ?_
            refine d_all (is := [4, 7]) (by kernel_rfl) rfl ⟨?_, ?_, trivial⟩
            · skip
              refine dx_one rfl rfl (d_val (v_load Tryz.isAgg38 rfl (cell_own rfl))) rfl ?_; clear hS
              rintro _ _ ⟨rfl, rfl⟩
              refine ⟨(sc_own sc_end), fun hS => ?_⟩
              refine d_one 7 (by kernel_rfl) rfl rfl (d_sliceLit Tryz.underlying38 Tryz.sizeOf3 Tryz.zeroValue3 rfl rfl rfl rfl rfl (by decide) (by decide)) rfl ?_; clear hS
              rintro _ _ ⟨b4, rfl, rfl⟩
              refine ⟨(sc_own sc_end), fun hS => ?_⟩
              refine d_one 8 (by kernel_rfl) rfl rfl (d_append (sz := 1) (by_ := 8) (info := Tryz.t3) Tryz.underlying38 (by kernel_rfl) rfl rfl rfl rfl (by decide) rfl rfl cells_all rfl rfl (by simp only [maxLen]; omega) (by omega)) rfl ?_; clear hS
              rintro _ _ ⟨aN, cN, rfl, rfl⟩
              refine ⟨(sc_own sc_end), fun hS => ?_⟩
              refine d_take 9 rfl rfl (by kernel_rfl) (by kernel_rfl) (by kernel_rfl) rfl hS (v_nilCheck rfl) ?_
              refine d_take 10 rfl rfl (by kernel_rfl) (by kernel_rfl) (by kernel_rfl) rfl hS (v_fieldAddr rfl Tryz.underlying149 rfl Tryz.sizeOf38 rfl (by first | exact Nat.zero_add _ | rfl)) ?_
              refine d_one 11 (by kernel_rfl) rfl rfl (d_store Tryz.sizeOf38 rfl rfl rfl (Nat.le_of_ble_eq_true rfl) SetL.eq) rfl ?_; clear hS
              rintro _ _ rfl
              refine ⟨(sc_own sc_end), fun hS => ?_⟩
              refine d_done (by kernel_rfl) ?_; clear hS
              refine n_block (n_then (x_region ?_))
              refine s_val rfl (v_add rfl rfl (by first | exact w64 (by omega) | rfl)) ?_
              refine s_val rfl (v_move rfl) (x_nil (n_then ?_))
              refine inv_intro (k + 1, gvR t 32 x.2.1 x.2.2 k, lb ++ [x.1], aN, cN) ?_ ?_ ?_ ?_
              · exact ⟨by omega, hst⟩
              · omega
              · repeat (first | exact sub_nil | refine sub_cons rfl ?_)
              · dsimp only
                rw [show (lb ++ [x.1]).length = lb.length + 1 from List.length_append .., show (lb ++ [x.1]).flatMap inI = lb.flatMap inI ++ [Value.int .i64 x.1] by rw [List.flatMap_append]; rfl]
                exact inferInstance
            · skip
              refine dx_one rfl rfl (d_sliceLit Tryz.underlying38 Tryz.sizeOf3 Tryz.zeroValue3 rfl rfl rfl rfl rfl (by decide) (by decide)) rfl ?_; clear hS
              rintro _ _ ⟨b4, rfl, rfl⟩
              refine ⟨(sc_own sc_end), fun hS => ?_⟩
              refine d_one 4 (by kernel_rfl) rfl rfl (d_val (v_load Tryz.isAgg38 rfl (cell_own rfl))) rfl ?_; clear hS
              rintro _ _ ⟨rfl, rfl⟩
              refine ⟨(sc_own sc_end), fun hS => ?_⟩
              refine d_one 8 (by kernel_rfl) rfl rfl (d_append (sz := 1) (by_ := 8) (info := Tryz.t3) Tryz.underlying38 (by kernel_rfl) rfl rfl rfl rfl (by decide) rfl rfl cells_all rfl rfl (by simp only [maxLen]; omega) (by omega)) rfl ?_; clear hS
              rintro _ _ ⟨aN, cN, rfl, rfl⟩
              refine ⟨(sc_own sc_end), fun hS => ?_⟩
              refine d_take 9 rfl rfl (by kernel_rfl) (by kernel_rfl) (by kernel_rfl) rfl hS (v_nilCheck rfl) ?_
              refine d_take 10 rfl rfl (by kernel_rfl) (by kernel_rfl) (by kernel_rfl) rfl hS (v_fieldAddr rfl Tryz.underlying149 rfl Tryz.sizeOf38 rfl (by first | exact Nat.zero_add _ | rfl)) ?_
              refine d_one 11 (by kernel_rfl) rfl rfl (d_store Tryz.sizeOf38 rfl rfl rfl (Nat.le_of_ble_eq_true rfl) SetL.eq) rfl ?_; clear hS
              rintro _ _ rfl
              refine ⟨(sc_own sc_end), fun hS => ?_⟩
              refine d_done (by kernel_rfl) ?_; clear hS
              refine n_block (n_then (x_region ?_))
              refine s_val rfl (v_add rfl rfl (by first | exact w64 (by omega) | rfl)) ?_
              refine s_val rfl (v_move rfl) (x_nil (n_then ?_))
              refine inv_intro (k + 1, gvR t 32 x.2.1 x.2.2 k, lb ++ [x.1], aN, cN) ?_ ?_ ?_ ?_
              · exact ⟨by omega, hst⟩
              · omega
              · repeat (first | exact sub_nil | refine sub_cons rfl ?_)
              · dsimp only
                rw [show (lb ++ [x.1]).length = lb.length + 1 from List.length_append .., show (lb ++ [x.1]).flatMap inI = lb.flatMap inI ++ [Value.int .i64 x.1] by rw [List.flatMap_append]; rfl]
                exact inferInstance
      · intro c6
        refine x_exit (e_then (e_then (e_block (n_then (x_seq (x_region (s_val rfl (v_move rfl) (s_val rfl (v_assign rfl) (s_val rfl (v_assign rfl) (x_nil (n_then (x_ret (x_done (.inl rfl) (.cons (r_tmp rfl) (.cons (r_tmp rfl) .nil)) ?_)))))))))))))
        obtain rfl : k = rs.length := by omega
        have hN : dkNew rs = some ⟨t, lb, List.replicate 32 z16⟩ := by rw [hD, hdn]; rfl
        rw [hN]
        refine ⟨_, ⟨_, [dkH d ⟨t, lb, List.replicate 32 z16⟩], rfl, rfl, (fun q => by cases q), (fun x hx => by cases hx; exact ⟨d, rfl, rfl⟩)⟩, ?_⟩
        simp only [List.cons_append, List.nil_append]
        exact ent_dk (x := ⟨t, lb, List.replicate 32 z16⟩) rfl rfl dkF_zero.symm rfl
end Go.Proofs.YtncegikenkpcmaaGreat
namespace Go.Proofs.YtncegikenkpcmaaGreat
open Go.RowKit
set_option linter.unusedSimpArgs false
set_option linter.unusedVariables false
set_option maxRecDepth 20000
def f16 (b : List Nat) : List Value := (List.range 16).map fun i => bV (b.getD i 0)
theorem f16_len (b : List Nat) : (f16 b).length = 16 := by simp [f16]
theorem f16_eq {b : List Nat} (h : b.length = 16) : f16 b = byV b := by
  apply List.ext_getElem
  · rw [f16_len, byV_len, h]
  · intro i h1 h2
    rw [byV_len] at h2
    simp [f16, byV, List.getD, h2]
theorem setR_snocD (v : Value) : ∀ (vs l : List Value) (i : Nat), setR l i (vs ++ [v]) = (setR l i vs).set (i + vs.length) v
  | [], l, i => rfl
  | u :: vs, l, i => by
    rw [List.cons_append, setR, setR, setR_snocD v vs, List.length_cons]
    congr 1; omega
@[reducible] def rdkO (bt : Nat) (aR : Option Addr) (n cR : Nat) (ys : List Value) : Obj := cob (.slice aR n cR :: .pointer (some ⟨bt, 0, none⟩) :: ys) 162
def rdkH (d : Nat) (x : Dk) : HP := chk (fun C => ∃ bt aR cR, ∃ (L : List Int) (rl : List Rn), (RT x.rs L ∧ L.length = 32 ∧ rl.map (fun r => r.1) = x.lb) ∧ C = [pt d (rdkO bt aR rl.length cR (x.ss.flatMap f16)), rtbH bt L, osl 151 3 (.slice aR rl.length cR) (rl.flatMap rgnV)])
section
variable {W0 : World} {N : FSz} {K : Act → World → Prop} {e : Env} {A B R R1 R2 R3 : List HP} {d : Nat} {x : Dk}
theorem run_rdk [hk : Tk rdkH d A x R] (h : ∀ bt aR cR (L : List Int) (rl : List Rn), RT x.rs L → L.length = 32 → rl.map (fun r => r.1) = x.lb → Run W0 N K e (pt d (rdkO bt aR rl.length cR (x.ss.flatMap f16)) :: rtbH bt L :: osl 151 3 (.slice aR rl.length cR) (rl.flatMap rgnV) :: R)) : Run W0 N K e A :=
  run_tk (r := rdkH) (b := d) (run_chk fun C hC => by obtain ⟨bt, aR, cR, L, rl, ⟨h1, h2, h3⟩, rfl⟩ := hC; exact h bt aR cR L rl h1 h2 h3)
theorem ent_rdk {bt n cR : Nat} {aR : Option Addr} {L : List Int} {rl : List Rn} {ys zs : List Value} [h1 : Tk pt d A (rdkO bt aR n cR zs) R1] [h2 : Tk rtbH bt R1 L R2] [h3 : Tk (osl 151 3) (.slice aR n cR) R2 ys R3]
    (q1 : RT x.rs L) (q2 : L.length = 32) (q3 : rl.map (fun r => r.1) = x.lb) (e1 : zs = x.ss.flatMap f16) (e2 : ys = rl.flatMap rgnV) (e3 : n = rl.length) [k : Ent R3 B] : Ent A (rdkH d x :: B) := by
  subst e1; subst e2; subst e3
  have e : A.Perm ([pt d (rdkO bt aR rl.length cR (x.ss.flatMap f16)), rtbH bt L, osl 151 3 (.slice aR rl.length cR) (rl.flatMap rgnV)] ++ R3) := h1.perm.trans ((h2.perm.trans (h3.perm.cons _)).cons _)
  exact (Ent.ofPerm e).trans ((ent_chk (R := R3) ⟨bt, aR, cR, L, rl, ⟨q1, q2, q3⟩, rfl⟩).trans (Ent.cons k))
end
theorem rgnV_len (x : Rn) : (rgnV x).length = 3 := rfl
theorem rgns_one (l : List Rn) : allOne (l.flatMap rgnV) = true := by
  induction l with
  | nil => rfl
  | cons x l ih => rw [List.flatMap_cons, allOne, List.all_append, Bool.and_eq_true]; exact ⟨rfl, ih⟩
theorem zDisk24 : ∀ w, (zeroValue 162).run Tryz.prog w = .ok (.agg (.slice none 0 0 :: .pointer none :: List.replicate 512 (.int .u8 0)).toArray) w := fun w => (Tryz.zeroValue162 w).trans (by kernel_rfl)
theorem dnK_lb (rs : List Rn) : ∀ {k : Nat} {y : List Rn × List Int}, k ≤ rs.length → dnK rs k = some y → y.2 = (rs.take k).map (fun r => r.1)
  | 0, y, _, h => by cases h; rfl
  | k + 1, y, hk, h => by
    rw [dnK] at h
    cases e : dnK rs k with
    | none => rw [e] at h; cases h
    | some z =>
      rw [e] at h
      have ih := dnK_lb rs (by omega) e
      have h' : (if isL (rs.getD k (0, 0, 0)).1 = true ∧ gvE z.1 32 (rs.getD k (0, 0, 0)).2.1 (rs.getD k (0, 0, 0)).2.2 k = 0 then some (gvR z.1 32 (rs.getD k (0, 0, 0)).2.1 (rs.getD k (0, 0, 0)).2.2 k, z.2 ++ [(rs.getD k (0, 0, 0)).1]) else none) = some y := h
      split at h'
      · cases h'
        rw [List.take_succ_eq_append_getElem (by omega), List.map_append, ← ih, show rs.getD k (0, 0, 0) = rs[k]'(by omega) by simp [List.getD, show k < rs.length by omega]]; rfl
      · cases h'
theorem rdNew_spec (W0 : World) (R : List HP) (a : Option Addr) (c : Nat) (rs : List Rn) (hs : SlA (OwnP W0 R) a 3 rgnV rs) (hl : rs.length < 9223372036854775808) (hb : ∀ x ∈ rs, -9223372036854775808 ≤ x.2.1 ∧ x.2.1 < 9223372036854775808) :
    Spec Tryz.prog W0 22 [.slice a rs.length c] R
      (fun v B => ∃ p Y, v = .tuple #[.pointer p, .int .i64 (if (dkNew rs).isSome then 0 else 14)] ∧ B = Y ++ R ∧ (dkNew rs = none → p = none ∧ Y = []) ∧ (∀ x, dkNew rs = some x → ∃ d, p = some ⟨d, 0, none⟩ ∧ Y = [rdkH d x])) := by
  refine spec_body Tryz.func22 Tryz.ntmps22 rfl rfl ?_
  refine x_seq (x_region (s_val rfl (v_assign rfl) (s_val rfl (v_assign rfl) (x_nil (n_then (x_seq (x_seq (x_region (s_val rfl (v_move rfl) (s_val rfl (v_len_slice Tryz.underlying23 rfl) (s_val rfl (v_gtr rfl rfl) (x_nil (n_then ?_)))))))))))))
  refine x_if rfl ?_ ?_
  · intro c1
    refine x_seq (x_region (s_val rfl (v_assign rfl) (s_val rfl (v_assign rfl) (x_nil (n_then (x_ret (r_then (x_done (.inl rfl) (.cons (r_tmp rfl) (.cons (r_tmp rfl) .nil)) ?_))))))))
    have hN : dkNew rs = none := by rw [dkNew, if_pos (by omega)]
    rw [hN]
    refine ⟨_, ⟨none, [], rfl, rfl, (fun _ => ⟨rfl, rfl⟩), (fun x hx => by cases hx)⟩, ?_⟩
    simp only [List.nil_append]
    exact inferInstance
  · intro c1
    refine x_skip (n_then (x_seq ?_))
    have h8 : rs.length ≤ 8 := by omega
    have hD : dkNew rs = (dnK rs rs.length).map fun y => ⟨y.1, y.2, List.replicate 32 z16⟩ := by rw [dkNew, if_neg (by omega)]
    refine x_region ?_
    refine s_do rfl (d_call Tryz.call77 rfl (rpNew_spec03 W0 _ 32 (by decide))) ?_
    rintro _ B_ ⟨bt, rfl, hB_⟩
    obtain rfl := hB_.symm
    refine s_val rfl (v_move rfl) (s_val rfl (v_extract rfl rfl) (s_val rfl (v_extract rfl rfl) (s_val rfl (v_assign rfl) (s_val rfl (v_assign rfl) (x_nil (n_then (x_seq (x_seq (x_region (s_val rfl (v_assign rfl) (x_nil (n_then (x_block ?_)))))))))))))
    refine x_loop (fun X : Nat × List Int => X.1 ≤ rs.length ∧ X.2.length = 32 ∧ ∃ y, dnK rs X.1 = some y ∧ RT y.1 X.2) (fun X => [(0, .slice a rs.length c), (4, .pointer (some ⟨bt, 0, none⟩)), (6, .int .i64 X.1)]) (fun X => rtbH bt X.2 :: R) (fun X => rs.length - X.1) (0, List.replicate 32 (-1)) ?_ ?_ ?_ ?_
    · exact ⟨Nat.zero_le _, rfl, _, rfl, rt_nil 32⟩
    · repeat (first | exact sub_nil | refine sub_cons rfl ?_)
    · exact inferInstance
    · intro ⟨k, L⟩ ⟨hk, hL, y, hdn, hRT⟩
      dsimp only at hk hL hdn hRT ⊢
      refine x_seq (x_seq (x_region (s_val rfl (v_move rfl) (s_val rfl (v_move rfl) (s_val rfl (v_len_slice Tryz.underlying23 rfl) (s_val rfl (v_lss rfl rfl) (x_nil (n_then ?_))))))))
      refine x_if rfl ?_ ?_
      · intro c5
        refine x_skip (n_then (x_seq (x_block (x_seq ?_))))
        have hk1 : k < rs.length := by omega
        obtain ⟨g, o, rfl, hc⟩ := hs.at_ hk1
        have hgk : rs.getD k (0, 0, 0) = rs[k] := by simp [List.getD, hk1]
        have hbk := hb _ (List.getElem_mem hk1)
        obtain ⟨x, hx⟩ : ∃ x, rs[k] = x := ⟨_, rfl⟩
        rw [hx] at hc hgk hbk
        have hst : dnK rs (k + 1) = if isL x.1 = true ∧ gvE y.1 32 x.2.1 x.2.2 k = 0 then some (gvR y.1 32 x.2.1 x.2.2 k, y.2 ++ [x.1]) else none := by
          rw [dnK, hdn, hgk]; rfl
        have hE := rt_e hRT (n := 32) (by rw [hL]; rfl) x.2.1 x.2.2 k
        refine x_draw [(g, o + k * 3, rgnV x)] 23 mixed rfl (sc_cons hc.weak sc_end) (fun hS => ?_)
        refine d_take 0 rfl rfl (by kernel_rfl) (by kernel_rfl) (by kernel_rfl) rfl hS (v_move rfl) ?_
        refine d_take 1 rfl rfl (by kernel_rfl) (by kernel_rfl) (by kernel_rfl) rfl hS (v_move rfl) ?_
        refine d_take 2 rfl rfl (by kernel_rfl) (by kernel_rfl) (by kernel_rfl) rfl hS (v_idx Tryz.underlying23 Tryz.sizeOf151 rfl rfl rfl hk1 (by first | exact Nat.zero_add _ | rfl)) ?_
        refine d_take 3 rfl rfl (by kernel_rfl) (by kernel_rfl) (by kernel_rfl) rfl hS (v_fieldAddr rfl Tryz.underlying151 rfl Tryz.sizeOf3 rfl (by first | exact Nat.zero_add _ | rfl)) ?_
        refine d_take 4 rfl rfl (by kernel_rfl) (by kernel_rfl) (by kernel_rfl) rfl hS (v_load Tryz.isAgg3 rfl (cell_sc (k := 0) (j := 0) rfl rfl)) ?_
        refine d_one 5 (by kernel_rfl) rfl rfl (d_call Tryz.call78 rfl (rlIs_spec W0 _ x.1)) rfl ?_; clear hS
        rintro _ B_ ⟨rfl, hB_⟩
        obtain rfl := hB_.symm
        refine ⟨(sc_cons hc.weak sc_end), fun hS => ?_⟩
        refine d_take 6 rfl rfl (by kernel_rfl) (by kernel_rfl) (by kernel_rfl) rfl hS (v_not rfl) ?_
        refine d_take 7 rfl rfl (by kernel_rfl) (by kernel_rfl) (by kernel_rfl) rfl hS (v_move rfl) ?_
        refine x_split (t := 27) rfl ?_ ?_
        · intro g7_8
          refine d_skip 8 rfl rfl (by kernel_rfl) (by kernel_rfl) (by kernel_rfl) rfl hS ?_
          refine d_skip 9 rfl rfl (by kernel_rfl) (by kernel_rfl) (by kernel_rfl) rfl hS ?_
          refine d_skip 10 rfl rfl (by kernel_rfl) (by kernel_rfl) (by kernel_rfl) rfl hS ?_
          refine d_skip 11 rfl rfl (by kernel_rfl) (by kernel_rfl) (by kernel_rfl) rfl hS ?_
          refine d_skip 12 rfl rfl (by kernel_rfl) (by kernel_rfl) (by kernel_rfl) rfl hS ?_
          refine d_skip 13 rfl rfl (by kernel_rfl) (by kernel_rfl) (by kernel_rfl) rfl hS ?_
          refine d_skip 14 rfl rfl (by kernel_rfl) (by kernel_rfl) (by kernel_rfl) rfl hS ?_
          refine d_skip 15 rfl rfl (by kernel_rfl) (by kernel_rfl) (by kernel_rfl) rfl hS ?_
          refine d_skip 16 rfl rfl (by kernel_rfl) (by kernel_rfl) (by kernel_rfl) rfl hS ?_
          refine d_skip 17 rfl rfl (by kernel_rfl) (by kernel_rfl) (by kernel_rfl) rfl hS ?_
          refine d_skip 18 rfl rfl (by kernel_rfl) (by kernel_rfl) (by kernel_rfl) rfl hS ?_
          refine d_skip 19 rfl rfl (by kernel_rfl) (by kernel_rfl) (by kernel_rfl) rfl hS ?_
          refine d_skip 20 rfl rfl (by kernel_rfl) (by kernel_rfl) (by kernel_rfl) rfl hS ?_
          refine d_skip 21 rfl rfl (by kernel_rfl) (by kernel_rfl) (by kernel_rfl) rfl hS ?_
          refine d_take 22 rfl rfl (by kernel_rfl) (by kernel_rfl) (by kernel_rfl) rfl hS (v_pick_t rfl rfl) ?_
          refine d_done (by kernel_rfl) ?_; clear hS
          refine n_then (x_ift rfl (x_seq (x_region (s_val rfl (v_assign rfl) (s_val rfl (v_assign rfl) (x_nil (n_then (x_ret (r_block (r_then (r_then (r_block (r_then (x_done (.inl rfl) (.cons (r_tmp rfl) (.cons (r_tmp rfl) .nil)) ?_))))))))))))))
          have hS : dnK rs (k + 1) = none := by
            rw [hst, if_neg]
            rintro ⟨q1, q2⟩
            rw [← hE] at q2
            simp_all
          have hN : dkNew rs = none := by rw [hD, dnK_stop hS hk1]; rfl
          rw [hN]
          refine ⟨_, ⟨none, [], rfl, rfl, (fun _ => ⟨rfl, rfl⟩), (fun x hx => by cases hx)⟩, ?_⟩
          simp only [List.nil_append]
          exact inferInstance
        · intro g7_8
          refine d_take 8 rfl rfl (by kernel_rfl) (by kernel_rfl) (by kernel_rfl) rfl hS (v_move rfl) ?_
          refine d_take 9 rfl rfl (by kernel_rfl) (by kernel_rfl) (by kernel_rfl) rfl hS (v_move rfl) ?_
          refine d_take 10 rfl rfl (by kernel_rfl) (by kernel_rfl) (by kernel_rfl) rfl hS (v_move rfl) ?_
          refine d_take 11 rfl rfl (by kernel_rfl) (by kernel_rfl) (by kernel_rfl) rfl hS (v_idx Tryz.underlying23 Tryz.sizeOf151 rfl rfl rfl hk1 (by first | exact Nat.zero_add _ | rfl)) ?_
          refine d_take 12 rfl rfl (by kernel_rfl) (by kernel_rfl) (by kernel_rfl) rfl hS (v_fieldAddr rfl Tryz.underlying151 rfl Tryz.sizeOf3 rfl (by first | exact Nat.zero_add _ | rfl)) ?_
          refine d_take 13 rfl rfl (by kernel_rfl) (by kernel_rfl) (by kernel_rfl) rfl hS (v_load Tryz.isAgg3 rfl (cell_sc (k := 0) (j := 1) rfl rfl)) ?_
          refine d_take 14 rfl rfl (by kernel_rfl) (by kernel_rfl) (by kernel_rfl) rfl hS (v_move rfl) ?_
          refine d_take 15 rfl rfl (by kernel_rfl) (by kernel_rfl) (by kernel_rfl) rfl hS (v_move rfl) ?_
          refine d_take 16 rfl rfl (by kernel_rfl) (by kernel_rfl) (by kernel_rfl) rfl hS (v_idx Tryz.underlying23 Tryz.sizeOf151 rfl rfl rfl hk1 (by first | exact Nat.zero_add _ | rfl)) ?_
          refine d_take 17 rfl rfl (by kernel_rfl) (by kernel_rfl) (by kernel_rfl) rfl hS (v_fieldAddr rfl Tryz.underlying151 rfl Tryz.sizeOf3 rfl (by first | exact Nat.zero_add _ | rfl)) ?_
          refine d_take 18 rfl rfl (by kernel_rfl) (by kernel_rfl) (by kernel_rfl) rfl hS (v_load Tryz.isAgg3 rfl (cell_sc (k := 0) (j := 2) rfl rfl)) ?_
          refine d_take 19 rfl rfl (by kernel_rfl) (by kernel_rfl) (by kernel_rfl) rfl hS (v_move rfl) ?_
          refine d_one 20 (by kernel_rfl) rfl rfl (d_call1 Tryz.call79 rfl (rpGive_spec W0 _ bt L (by omega) x.2.1 x.2.2 k hbk)) rfl ?_; clear hS
          rintro _ B_ ⟨rfl, hB_⟩
          obtain rfl := hB_.symm
          refine ⟨(sc_cons hc.weak sc_end), fun hS => ?_⟩
          refine d_take 21 rfl rfl (by kernel_rfl) (by kernel_rfl) (by kernel_rfl) rfl hS (v_neq rfl rfl) ?_
          refine d_take 22 rfl rfl (by kernel_rfl) (by kernel_rfl) (by kernel_rfl) rfl hS (v_pick_f rfl rfl) ?_
          refine d_done (by kernel_rfl) ?_; clear hS
          refine n_then ?_
          refine x_if rfl ?_ ?_
          · intro c7
            refine x_seq (x_region (s_val rfl (v_assign rfl) (s_val rfl (v_assign rfl) (x_nil (n_then (x_ret (r_block (r_then (r_then (r_block (r_then (x_done (.inl rfl) (.cons (r_tmp rfl) (.cons (r_tmp rfl) .nil)) ?_))))))))))))
            have hS : dnK rs (k + 1) = none := by
              rw [hst, if_neg]
              rintro ⟨q1, q2⟩
              rw [← hE] at q2
              simp_all
            have hN : dkNew rs = none := by rw [hD, dnK_stop hS hk1]; rfl
            rw [hN]
            refine ⟨_, ⟨none, [], rfl, rfl, (fun _ => ⟨rfl, rfl⟩), (fun x hx => by cases hx)⟩, ?_⟩
            simp only [List.nil_append]
            exact inferInstance
          · intro c7
            refine x_skip (n_block (n_then ?_))
            have hgo : isL x.1 = true ∧ gvE y.1 32 x.2.1 x.2.2 k = 0 := by
              rw [← hE]; simp_all
            rw [if_pos hgo] at hst
            refine x_region (s_val rfl (v_move rfl) ?_)
            refine s_val rfl (v_add rfl rfl (by first | exact w64 (by omega) | rfl)) ?_
            refine s_val rfl (v_assign rfl) (x_nil (n_then ?_))
            refine inv_intro (k + 1, rpS L x.2.1 x.2.2 k) ?_ ?_ ?_ ?_
            · exact ⟨by omega, rpS_len.trans hL, _, hst, rt_s hRT (by rw [hL]; rfl) (by decide) _ _ _⟩
            · omega
            · repeat (first | exact sub_nil | refine sub_cons rfl ?_)
            · exact inferInstance
      · intro c5
        refine x_exit (e_then (e_then (e_block (n_then (x_seq ?_)))))
        obtain rfl : k = rs.length := by omega
        refine x_region (s_do rfl (d_slice0 Tryz.underlying23 Tryz.sizeOf151 rfl) ?_)
        rintro _ _ ⟨be, rfl, rfl⟩
        refine s_val rfl (v_move rfl) ?_
        refine s_do rfl (d_appendS (sz := 3) (by_ := 24) (info := Tryz.t151) Tryz.underlying23 (by kernel_rfl) rfl rfl rfl rfl (by decide) rfl rfl ((hs.weak.src rgnV_len (fun _ => trivial)).imp (fun h => by rw [h]; rfl) (fun h => h)) (flat_len rgnV_len rs) (rgns_one rs) (by simp only [maxLen]; omega) (by omega)) ?_
        rintro _ _ ⟨aN, cN, rfl, rfl⟩
        rw [List.nil_append, Nat.zero_add]
        refine s_val rfl (v_move rfl) ?_
        refine s_val rfl (v_build (l' := .slice aN rs.length cN :: .pointer (some ⟨bt, 0, none⟩) :: List.replicate 512 (.int .u8 0)) Tryz.underlying162 zDisk24 (sized_cons Tryz.sizeOf23 (sized_cons Tryz.sizeOf154 (sized_cons Tryz.sizeOf160 sized_nil))) (fil_scal rfl Tryz.sizeOf23 rfl rfl (by simp) rfl (fil_scal rfl Tryz.sizeOf154 rfl rfl (by simp) rfl fil_nil))) ?_
        refine s_do rfl (d_boxA rfl) ?_
        rintro _ _ ⟨d, rfl, rfl⟩
        refine s_val rfl (v_assign rfl) (s_val rfl (v_assign rfl) (x_nil (n_then (x_ret (x_done (.inl rfl) (.cons (r_tmp rfl) (.cons (r_tmp rfl) .nil)) ?_)))))
        have hN : dkNew rs = some ⟨y.1, y.2, List.replicate 32 z16⟩ := by rw [hD, hdn]; rfl
        rw [hN]
        refine ⟨_, ⟨_, [rdkH d ⟨y.1, y.2, List.replicate 32 z16⟩], rfl, rfl, (fun q => by cases q), (fun x hx => by cases hx; exact ⟨d, rfl, rfl⟩)⟩, ?_⟩
        simp only [List.cons_append, List.nil_append]
        exact ent_rdk (x := ⟨y.1, y.2, List.replicate 32 z16⟩) (rl := rs) hRT hL (by rw [dnK_lb rs (Nat.le_refl _) hdn, List.take_of_length_le (Nat.le_refl _)]) (by kernel_rfl) rfl rfl
theorem rdSet_spec (W0 : World) (R : List HP) (d bt n cR : Nat) (aR : Option Addr) (ss : List (List Nat)) (k : Nat) (hk : k < 32) (hl : ss.length = 32) (bb off m c : Nat) (bs : List Nat) (hb : bs.length = 16) (hm : m = 16) (hc : Cells (OwnP W0 R) bb off (byV bs)) :
    Spec Tryz.prog W0 86 [.pointer (some ⟨d, 0, none⟩), .int .i64 k, .slice (some ⟨bb, off, none⟩) m c] (pt d (rdkO bt aR n cR (ss.flatMap f16)) :: R) (fun v B => v = .tuple #[] ∧ B = pt d (rdkO bt aR n cR ((ss.set k bs).flatMap f16)) :: R) := by
  have hsl : (ss.flatMap f16).length = 512 := by rw [flat_len f16_len, hl]
  refine spec_body Tryz.func86 Tryz.ntmps86 rfl rfl ?_
  refine x_seq (x_region (s_val rfl (v_assign rfl) (x_nil (n_then (x_block ?_)))))
  refine x_loop (fun i : Nat => i ≤ 16) (fun i => [(0, .pointer (some ⟨d, 0, none⟩)), (1, .int .i64 k), (2, .slice (some ⟨bb, off, none⟩) m c), (6, .int .i64 i)]) (fun i => pt d (rdkO bt aR n cR (setR (ss.flatMap f16) (k * 16) ((byV bs).take i))) :: R) (fun i => 16 - i) 0 ?_ ?_ ?_ ?_
  · exact Nat.zero_le _
  · repeat (first | exact sub_nil | refine sub_cons rfl ?_)
  · show Ent _ (pt d (rdkO bt aR n cR (ss.flatMap f16)) :: R)
    exact inferInstance
  · intro i hi
    refine x_seq (x_seq (x_region (s_val rfl (v_move rfl) (s_val rfl (v_lss rfl rfl) (x_nil (n_then ?_))))))
    refine x_if rfl ?_ ?_
    · intro c1
      refine x_skip (n_then (x_seq (x_block ?_)))
      have hi1 : i < 16 := by omega
      have hbi : (byV bs)[i]? = some (bV (bs.getD i 0)) := by simp [byV, List.getD, hb, hi1]
      have hst : (setR (ss.flatMap f16) (k * 16) ((byV bs).take i)).set (k * 16 + i) (bV (bs.getD i 0)) = setR (ss.flatMap f16) (k * 16) ((byV bs).take (i + 1)) := by
        have h1 : i < (byV bs).length := by rw [byV_len, hb]; exact hi1
        rw [List.take_succ_eq_append_getElem h1, setR_snocD, List.length_take, byV_len, hb, Nat.min_eq_left hi, show (byV bs)[i] = bV (bs.getD i 0) by simpa [h1] using hbi]
      refine x_draw [(bb, off, byV bs)] 12 mixed rfl (sc_cons hc.weak sc_end) (fun hS => ?_)
      refine d_take 0 rfl rfl (by kernel_rfl) (by kernel_rfl) (by kernel_rfl) rfl hS (v_move rfl) ?_
      refine d_take 1 rfl rfl (by kernel_rfl) (by kernel_rfl) (by kernel_rfl) rfl hS (v_move rfl) ?_
      refine d_take 2 rfl rfl (by kernel_rfl) (by kernel_rfl) (by kernel_rfl) rfl hS (v_move rfl) ?_
      refine d_take 3 rfl rfl (by kernel_rfl) (by kernel_rfl) (by kernel_rfl) rfl hS (v_move rfl) ?_
      refine d_take 4 rfl rfl (by kernel_rfl) (by kernel_rfl) (by kernel_rfl) rfl hS (v_move rfl) ?_
      refine d_take 5 rfl rfl (by kernel_rfl) (by kernel_rfl) (by kernel_rfl) rfl hS (v_idx Tryz.underlying44 Tryz.sizeOf5 rfl rfl rfl (by omega) (by first | exact Nat.zero_add _ | rfl)) ?_
      refine d_take 6 rfl rfl (by kernel_rfl) (by kernel_rfl) (by kernel_rfl) rfl hS (v_load Tryz.isAgg5 rfl (cell_sc (k := 0) (j := i * 1) rfl (by rw [Nat.mul_one]; exact hbi))) ?_
      refine d_take 7 rfl rfl (by kernel_rfl) (by kernel_rfl) (by kernel_rfl) rfl hS (v_nilCheck rfl) ?_
      refine d_take 8 rfl rfl (by kernel_rfl) (by kernel_rfl) (by kernel_rfl) rfl hS (v_fieldAddr rfl Tryz.underlying162 rfl Tryz.sizeOf160 rfl (by first | exact Nat.zero_add _ | rfl)) ?_
      refine d_take 9 rfl rfl (by kernel_rfl) (by kernel_rfl) (by kernel_rfl) rfl hS (v_idxArr Tryz.underlying160 Tryz.sizeOf159 rfl rfl rfl hk (by first | exact Nat.zero_add _ | rfl)) ?_
      refine d_take 10 rfl rfl (by kernel_rfl) (by kernel_rfl) (by kernel_rfl) rfl hS (v_idxArr Tryz.underlying159 Tryz.sizeOf5 rfl rfl rfl hi1 (by first | exact Nat.zero_add _ | rfl)) ?_
      refine d_one 11 (by kernel_rfl) rfl rfl (d_store (l' := .slice aR n cR :: .pointer (some ⟨bt, 0, none⟩) :: setR (ss.flatMap f16) (k * 16) ((byV bs).take (i + 1))) Tryz.sizeOf5 rfl rfl rfl (by simp only [List.length_cons, setR_length, hsl]; omega) (by rw [show 2 + k * 16 + i * 1 = (k * 16 + i) + 1 + 1 by omega, List.set_cons_succ, List.set_cons_succ, hst])) rfl ?_; clear hS
      rintro _ _ rfl
      refine ⟨(sc_cons hc.weak sc_end), fun hS => ?_⟩
      refine d_done (by kernel_rfl) ?_; clear hS
      refine n_block (n_then (x_region (s_val rfl (v_move rfl) ?_)))
      refine s_val rfl (v_add rfl rfl (by first | exact w64 (by omega) | rfl)) ?_
      refine s_val rfl (v_assign rfl) (x_nil (n_then ?_))
      refine inv_intro (i + 1) ?_ ?_ ?_ ?_
      · omega
      · omega
      · repeat (first | exact sub_nil | refine sub_cons rfl ?_)
      · exact inferInstance
    · intro c1
      refine x_exit (e_then (e_then (e_block (x_done (.inr rfl) .nil ?_))))
      obtain rfl : i = 16 := by omega
      have hfin : setR (ss.flatMap f16) (k * 16) ((byV bs).take 16) = (ss.set k bs).flatMap f16 := by
        rw [List.take_of_length_le (by rw [byV_len, hb]; exact Nat.le_refl _), ← f16_eq hb]
        have := flat_set f16_len ss k bs [] (by omega)
        simpa using this
      rw [hfin]
      exact ⟨_, ⟨rfl, rfl⟩, inferInstance⟩
theorem ftB_get {s : ByteArray} {n i : Nat} (hi : i < n) : (ftB s n)[i]? = some (if h : i < s.size then (s[i]'h).toNat else 0) := by
  have e : s.data.toList.length = s.size := by rw [Array.length_toList]; rfl
  unfold ftB
  split
  · rename_i h
    rw [List.getElem?_append_left (by rw [List.length_map, List.length_take, e]; omega), List.getElem?_map, List.getElem?_take_of_lt hi, List.getElem?_eq_getElem (by rw [e]; exact h)]
    rfl
  · rename_i h
    rw [List.getElem?_append_right (by rw [List.length_map, List.length_take, e]; omega), List.length_map, List.length_take, e, List.getElem?_replicate, if_pos (by omega)]
theorem refFit_spec (W0 : World) (R : List HP) (s : ByteArray) (hs : s.size < 9223372036854775808) (n : Nat) (hn : n ≤ 16384) :
    Spec Tryz.prog W0 87 [.string s, .int .i64 n] R (fun v B => ∃ a c, v = .slice a n c ∧ B = osl 5 1 (.slice a n c) (byV (ftB s n)) :: R) := by
  have hfl := (ftB_ok s n).1
  refine spec_body Tryz.func87 Tryz.ntmps87 rfl rfl ?_
  refine x_seq (x_region (s_val rfl (v_assign rfl) (x_nil (n_then (x_seq (x_region (s_val rfl (v_assign rfl) (x_nil (n_then (x_seq (x_seq (x_region (s_val rfl (v_assign rfl) (x_nil (n_then (x_block ?_))))))))))))))))
  refine x_loop (fun X : Nat × Option Addr × Nat => X.1 ≤ n) (fun X => [(0, .string s), (1, .int .i64 n), (5, .slice X.2.1 X.1 X.2.2), (6, .int .i64 X.1)]) (fun X => osl 5 1 (.slice X.2.1 X.1 X.2.2) (byV ((ftB s n).take X.1)) :: R) (fun X => n - X.1) (0, none, 0) ?_ ?_ ?_ ?_
  · exact Nat.zero_le _
  · repeat (first | exact sub_nil | refine sub_cons rfl ?_)
  · show Ent _ (osl 5 1 (.slice none 0 0) [] :: R)
    exact ent_osl_nil
  · intro ⟨i, a, c⟩ hi
    dsimp only at hi ⊢
    refine x_seq (x_seq (x_region (s_val rfl (v_move rfl) (s_val rfl (v_move rfl) (s_val rfl (v_lss rfl rfl) (s_val rfl (v_move rfl) ?_))))))
    refine s_and rfl rfl rfl ?_ ?_
    · intro g3_4
      refine s_val rfl (v_move rfl) (s_yes rfl rfl (s_val rfl (v_lss rfl rfl) (s_val rfl (v_pick_t rfl rfl) (x_nil (n_then ?_)))))
      refine x_if rfl ?_ ?_
      · intro c3
        refine x_skip (n_then (x_seq (x_block (x_seq ?_))))
        have hi1 : i < n := by omega
        have hg := ftB_get (s := s) hi1
        refine x_region (s_val rfl (v_assign rfl) (x_nil (n_then ?_)))
        refine x_cut (fun m : Nat => (ftB s n)[i]? = some m) (fun m => [(0, .string s), (1, .int .i64 n), (5, .slice a i c), (6, .int .i64 i), (7, .int .u8 m)]) (fun _ => osl 5 1 (.slice a i c) (byV ((ftB s n).take i)) :: R) ?_ ?_
        · skip
          refine x_seq (x_region (s_val rfl (v_move rfl) (s_val rfl (v_move rfl) (s_val rfl (v_len_string Tryz.underlying9 rfl) (s_val rfl (v_lss rfl rfl) (x_nil (n_then ?_)))))))
          refine x_if rfl ?_ ?_
          · intro c6
            have hlt : i < s.size := by omega
            rw [dif_pos hlt] at hg
            refine x_region (s_val rfl (v_move rfl) (s_val rfl (v_move rfl) (s_val rfl (v_idxStr Tryz.underlying9 rfl rfl rfl hlt) ?_)))
            refine s_val rfl (v_assign rfl) (x_nil (n_then ?_))
            refine mid_intro ((s[i]'hlt).toNat) ?_ ?_ ?_
            · exact hg
            · repeat (first | exact sub_nil | refine sub_cons rfl ?_)
            · exact inferInstance
          · intro c6
            have hlt : ¬ i < s.size := by omega
            rw [dif_neg hlt] at hg
            refine x_skip (n_then ?_)
            refine mid_intro (0 : Nat) ?_ ?_ ?_
            · exact hg
            · repeat (first | exact sub_nil | refine sub_cons rfl ?_)
            · exact inferInstance
        · intro m hm
          have hst : byV ((ftB s n).take i) ++ [Value.int .u8 m] = byV ((ftB s n).take (i + 1)) := by
            have h1 : i < (ftB s n).length := by rw [hfl]; exact hi1
            rw [List.take_succ_eq_append_getElem h1, byV_append, show (ftB s n)[i] = m by simpa [h1] using hm]; rfl
          refine x_region (s_val rfl (v_move rfl) (s_val rfl (v_move rfl) ?_))
          refine s_do rfl (d_sliceLit Tryz.underlying44 Tryz.sizeOf5 Tryz.zeroValue5 rfl rfl rfl rfl rfl (by decide) (by decide)) ?_
          rintro _ _ ⟨b1, rfl, rfl⟩
          refine s_do rfl (d_append (sz := 1) (by_ := 1) (info := Tryz.t5) Tryz.underlying44 (by kernel_rfl) rfl rfl rfl rfl (by decide) rfl rfl cells_all rfl rfl (by simp only [maxLen]; omega) (by omega)) ?_
          rintro _ _ ⟨a3, c3, rfl, rfl⟩
          rw [hst]
          refine s_val rfl (v_assign rfl) (x_nil (n_block (n_then (x_region (s_val rfl (v_move rfl) ?_)))))
          refine s_val rfl (v_add rfl rfl (by first | exact w64 (by omega) | rfl)) ?_
          refine s_val rfl (v_assign rfl) (x_nil (n_then ?_))
          refine inv_intro (i + 1, a3, c3) ?_ ?_ ?_ ?_
          · omega
          · omega
          · repeat (first | exact sub_nil | refine sub_cons rfl ?_)
          · exact inferInstance
      · intro c3
        refine x_exit (e_then (e_then (e_block (n_then (x_seq (x_region (s_val rfl (v_move rfl) (s_val rfl (v_assign rfl) (x_nil (n_then (x_ret (x_done (.inl rfl) (.cons (r_tmp rfl) .nil) ?_))))))))))))
        obtain rfl : i = n := by omega
        rw [List.take_of_length_le (Nat.le_of_eq hfl)]
        exact ⟨_, ⟨a, c, rfl, rfl⟩, inferInstance⟩
    · intro g3_4
      refine s_no rfl rfl rfl rfl (s_val rfl (v_pick_f rfl rfl) (x_nil (n_then (x_iff rfl (x_exit (e_then (e_then (e_block (n_then (x_seq (x_region (s_val rfl (v_move rfl) (s_val rfl (v_assign rfl) (x_nil (n_then (x_ret (x_done (.inl rfl) (.cons (r_tmp rfl) .nil) ?_)))))))))))))))))
      obtain rfl : i = n := by omega
      rw [List.take_of_length_le (Nat.le_of_eq hfl)]
      exact ⟨_, ⟨a, c, rfl, rfl⟩, inferInstance⟩
theorem lbW_ref {x : Dk} {L : List Int} (h : RT x.rs L) (hL : L.length = 32) (at_ : Int) : rpW L at_ = whR x.rs 32 at_ := rt_w h (by rw [hL]; rfl) at_
theorem rdFill_spec (W0 : World) (R : List HP) (d : Nat) (x : Dk) (hx : DkOk x) (at_ : Int) (s : ByteArray) (hs : s.size < 9223372036854775808) :
    Spec Tryz.prog W0 25 [.pointer (some ⟨d, 0, none⟩), .int .i64 at_, .string s] (rdkH d x :: R) (fun v B => v = .int .i64 (if (lbW x at_).isSome then 0 else 3) ∧ B = rdkH d (flD x at_ s) :: R) := by
  obtain ⟨o, ho⟩ : ∃ o, whR x.rs 32 at_ = o := ⟨_, rfl⟩
  have hlb : (lbW x at_).isSome = o.isSome := by rw [lbW, ho, Option.isSome_map]
  refine spec_body Tryz.func25 Tryz.ntmps25 rfl rfl ?_
  refine x_seq (x_region (s_val rfl (v_assign rfl) (x_nil (n_then (x_seq ?_)))))
  refine run_rdk (d := d) fun bt aR cR L rl hRT hL hrl => ?_
  refine x_region (s_val rfl (v_move rfl) (s_val rfl (v_nilCheck rfl) ?_))
  refine s_val rfl (v_fieldAddr rfl Tryz.underlying162 rfl Tryz.sizeOf154 rfl (by first | exact Nat.zero_add _ | rfl)) ?_
  refine s_val rfl (v_load Tryz.isAgg154 rfl (cell_own rfl)) ?_
  refine s_val rfl (v_move rfl) ?_
  refine s_do rfl (d_call1 Tryz.call85 rfl (rpWho_spec W0 _ bt L (by omega) at_)) ?_
  rintro _ B_ ⟨rfl, hB_⟩
  obtain rfl := hB_.symm
  rw [lbW_ref hRT hL, ho]
  refine s_val rfl (v_move rfl) (s_val rfl (v_extract rfl rfl) (s_val rfl (v_extract rfl rfl) (s_val rfl (v_assign rfl) (s_val rfl (v_assign rfl) (x_nil (n_then (x_seq (x_seq (x_region (s_val rfl (v_move rfl) (s_val rfl (v_not rfl) (x_nil (n_then ?_)))))))))))))
  refine x_if rfl ?_ ?_
  · intro c2
    refine x_seq (x_region (s_val rfl (v_assign rfl) (x_nil (n_then (x_ret (r_then (x_done (.inl rfl) (.cons (r_tmp rfl) .nil) ?_)))))))
    have hn : o.isSome = false := by simpa using c2
    rw [flD, hlb, hn, if_neg (by decide), if_neg (by decide)]
    exact ⟨_, ⟨rfl, rfl⟩, ent_rdk hRT hL hrl rfl rfl rfl⟩
  · intro c2
    refine x_skip (n_then (x_seq ?_))
    have hy : o.isSome = true := by cases o <;> simp_all
    obtain ⟨l, hl⟩ : ∃ l, lbW x at_ = some l := by
      cases e : lbW x at_ with
      | none => rw [e, hy] at hlb; cases hlb
      | some l => exact ⟨l, rfl⟩
    obtain ⟨k, rfl, hk⟩ := lbW_lt hl
    obtain ⟨h16, h16b⟩ := ftB_ok s 16
    refine x_region (s_val rfl (v_move rfl) (s_val rfl (v_move rfl) (s_val rfl (v_move rfl) ?_)))
    refine s_do rfl (d_call Tryz.call87 rfl (refFit_spec W0 _ s hs 16 (by decide))) ?_
    rintro _ B_ ⟨af, cf, rfl, hB_⟩
    obtain rfl := hB_.symm
    refine run_form (E := 5) (sz := 1) (a := af) (c := cf) (n := 16) (ys := byV (ftB s 16)) (fun hf => ?_)
    obtain ⟨gf, rfl⟩ := form_some hf (byV_ne (by omega))
    refine s_do rfl (d_call1 Tryz.call86 rfl (rdSet_spec W0 _ d bt rl.length cR aR x.ss k hk hx.sl gf 0 16 cf (ftB s 16) h16 rfl (cells_osl (E := 5) (sz := 1) (a := some ⟨gf, 0, none⟩) (n := 16) (c := cf)))) ?_
    rintro _ B_ ⟨rfl, hB_⟩
    obtain rfl := hB_.symm
    refine x_nil (n_then (x_seq (x_region (s_val rfl (v_assign rfl) (x_nil (n_then (x_ret (x_done (.inl rfl) (.cons (r_tmp rfl) .nil) ?_))))))))
    rw [flD, hlb, hy, if_pos rfl, if_pos rfl, Int.toNat_natCast]
    exact ⟨_, ⟨rfl, rfl⟩, ent_rdk (x := dkSet x k (ftB s 16)) hRT hL hrl rfl rfl rfl⟩
theorem rdBytes_spec (W0 : World) (R : List HP) (d : Nat) (x : Dk) (hx : DkOk x) (k : Nat) (hk : k < 32) :
    Spec Tryz.prog W0 30 [.pointer (some ⟨d, 0, none⟩), .int .i64 k] (rdkH d x :: R) (fun v B => ∃ a c, v = .tuple #[.slice a 16 c, .bool true] ∧ B = osl 5 1 (.slice a 16 c) (byV (secD x.ss k)) :: rdkH d x :: R) := by
  obtain ⟨h16, h16b⟩ := hx.sec k
  have hsl : (x.ss.flatMap f16).length = 512 := by rw [flat_len f16_len, hx.sl]
  refine spec_body Tryz.func30 Tryz.ntmps30 rfl rfl ?_
  refine x_seq (x_region (s_val rfl (v_assign rfl) (s_val rfl (v_assign rfl) (x_nil (n_then (x_seq (x_seq (x_region (s_val rfl (v_move rfl) (s_val rfl (v_lss rfl rfl) (s_val rfl (v_move rfl) ?_)))))))))))
  refine s_or rfl rfl rfl ?_ ?_
  · intro g1_3
    omega
  · intro g1_3
    refine s_val rfl (v_move rfl) (s_yes rfl rfl (s_val rfl (v_geq rfl rfl) (s_val rfl (v_pick_f rfl rfl) (x_nil (n_then ?_)))))
    refine x_if rfl ?_ ?_
    · intro c1
      omega
    · intro c1
      refine x_skip (n_then (x_seq ?_))
      refine run_rdk (d := d) fun bt aR cR L rl hRT hL hrl => ?_
      refine x_region (s_val rfl (v_assign rfl) (x_nil (n_then (x_seq (x_seq (x_region (s_val rfl (v_assign rfl) (x_nil (n_then (x_block ?_))))))))))
      refine x_loop (fun X : Nat × Option Addr × Nat => X.1 ≤ 16) (fun X => [(0, .pointer (some ⟨d, 0, none⟩)), (1, .int .i64 k), (6, .slice X.2.1 X.1 X.2.2), (7, .int .i64 X.1)]) (fun X => osl 5 1 (.slice X.2.1 X.1 X.2.2) (byV ((secD x.ss k).take X.1)) :: pt d (rdkO bt aR rl.length cR (x.ss.flatMap f16)) :: rtbH bt L :: osl 151 3 (.slice aR rl.length cR) (rl.flatMap rgnV) :: R) (fun X => 16 - X.1) (0, none, 0) ?_ ?_ ?_ ?_
      · exact Nat.zero_le _
      · repeat (first | exact sub_nil | refine sub_cons rfl ?_)
      · show Ent _ (osl 5 1 (.slice none 0 0) [] :: _)
        exact ent_osl_nil
      · intro ⟨i, a, c⟩ hi
        dsimp only at hi ⊢
        refine x_seq (x_seq (x_region (s_val rfl (v_move rfl) (s_val rfl (v_lss rfl rfl) (x_nil (n_then ?_))))))
        refine x_if rfl ?_ ?_
        · intro c5
          refine x_skip (n_then (x_seq (x_block ?_)))
          have hi1 : i < 16 := by omega
          have hkl : k < x.ss.length := by rw [hx.sl]; exact hk
          have hsd : secD x.ss k = x.ss[k] := by simp [secD, List.getD, hkl]
          have hcell : (Value.slice aR rl.length cR :: Value.pointer (some ⟨bt, 0, none⟩) :: x.ss.flatMap f16)[2 + k * 16 + i * 1]? = some (bV ((secD x.ss k).getD i 0)) := by
            have := flat_get f16_len x.ss k i [] hkl hi1
            rw [List.append_nil] at this
            rw [show 2 + k * 16 + i * 1 = (k * 16 + i) + 1 + 1 by omega, List.getElem?_cons_succ, List.getElem?_cons_succ, this, hsd]
            simp [f16, hi1]
          have hst : byV ((secD x.ss k).take i) ++ [bV ((secD x.ss k).getD i 0)] = byV ((secD x.ss k).take (i + 1)) := by
            have h1 : i < (secD x.ss k).length := by rw [h16]; exact hi1
            rw [List.take_succ_eq_append_getElem h1, byV_append, show (secD x.ss k).getD i 0 = (secD x.ss k)[i] by simp [List.getD, h1]]; rfl
          refine x_region (s_val rfl (v_move rfl) (s_val rfl (v_move rfl) (s_val rfl (v_move rfl) (s_val rfl (v_move rfl) (s_val rfl (v_nilCheck rfl) ?_)))))
          refine s_val rfl (v_fieldAddr rfl Tryz.underlying162 rfl Tryz.sizeOf160 rfl (by first | exact Nat.zero_add _ | rfl)) ?_
          refine s_val rfl (v_idxArr Tryz.underlying160 Tryz.sizeOf159 rfl rfl rfl hk (by first | exact Nat.zero_add _ | rfl)) ?_
          refine s_val rfl (v_idxArr Tryz.underlying159 Tryz.sizeOf5 rfl rfl rfl hi1 (by first | exact Nat.zero_add _ | rfl)) ?_
          refine s_val rfl (v_load Tryz.isAgg5 rfl (cell_own hcell)) ?_
          refine s_do rfl (d_sliceLit Tryz.underlying44 Tryz.sizeOf5 Tryz.zeroValue5 rfl rfl rfl rfl rfl (by decide) (by decide)) ?_
          rintro _ _ ⟨b1, rfl, rfl⟩
          refine s_do rfl (d_append (sz := 1) (by_ := 1) (info := Tryz.t5) Tryz.underlying44 (by kernel_rfl) rfl rfl rfl rfl (by decide) rfl rfl cells_all rfl rfl (by simp only [maxLen]; omega) (by omega)) ?_
          rintro _ _ ⟨a3, c3, rfl, rfl⟩
          rw [hst]
          refine s_val rfl (v_assign rfl) (x_nil (n_block (n_then (x_region (s_val rfl (v_move rfl) ?_)))))
          refine s_val rfl (v_add rfl rfl (by first | exact w64 (by omega) | rfl)) ?_
          refine s_val rfl (v_assign rfl) (x_nil (n_then ?_))
          refine inv_intro (i + 1, a3, c3) ?_ ?_ ?_ ?_
          · omega
          · omega
          · repeat (first | exact sub_nil | refine sub_cons rfl ?_)
          · exact inferInstance
        · intro c5
          refine x_exit (e_then (e_then (e_block (n_then (x_seq (x_region (s_val rfl (v_move rfl) (s_val rfl (v_assign rfl) (s_val rfl (v_assign rfl) (x_nil (n_then (x_ret (x_done (.inl rfl) (.cons (r_tmp rfl) (.cons (r_tmp rfl) .nil)) ?_)))))))))))))
          obtain rfl : i = 16 := by omega
          rw [List.take_of_length_le (Nat.le_of_eq h16)]
          exact ⟨_, ⟨a, c, rfl, rfl⟩, Ent.cons (ent_rdk hRT hL hrl rfl rfl rfl)⟩
theorem rdRead_spec (W0 : World) (R : List HP) (d : Nat) (x : Dk) (hx : DkOk x) (who at_ : Int) :
    Spec Tryz.prog W0 162 [.pointer (some ⟨d, 0, none⟩), .int .i64 who, .int .i64 at_] (rdkH d x :: R) (fun v B => ∃ a n c, v = .tuple #[.slice a n c, .int .i64 (rdE x who at_)] ∧ n = (if rdE x who at_ = 0 then secD x.ss at_.toNat else []).length ∧ B = osl 5 1 (.slice a n c) (byV (if rdE x who at_ = 0 then secD x.ss at_.toNat else [])) :: rdkH d x :: R) := by
  obtain ⟨o, ho⟩ : ∃ o, whR x.rs 32 at_ = o := ⟨_, rfl⟩
  have hlb : lbW x at_ = o.map fun r => x.lb.getD r.toNat 0 := by rw [lbW, ho]
  refine spec_body Tryz.func162 Tryz.ntmps162 rfl rfl ?_
  refine x_seq (x_region (s_val rfl (v_assign rfl) (s_val rfl (v_assign rfl) (x_nil (n_then (x_seq ?_))))))
  refine run_rdk (d := d) fun bt aR cR L rl hRT hL hrl => ?_
  refine x_region (s_val rfl (v_move rfl) (s_val rfl (v_nilCheck rfl) ?_))
  refine s_val rfl (v_fieldAddr rfl Tryz.underlying162 rfl Tryz.sizeOf154 rfl (by first | exact Nat.zero_add _ | rfl)) ?_
  refine s_val rfl (v_load Tryz.isAgg154 rfl (cell_own rfl)) ?_
  refine s_val rfl (v_move rfl) ?_
  refine s_do rfl (d_call1 Tryz.call85 rfl (rpWho_spec W0 _ bt L (by omega) at_)) ?_
  rintro _ B_ ⟨rfl, hB_⟩
  obtain rfl := hB_.symm
  rw [lbW_ref hRT hL, ho]
  refine s_val rfl (v_move rfl) (s_val rfl (v_extract rfl rfl) (s_val rfl (v_extract rfl rfl) (s_val rfl (v_assign rfl) (s_val rfl (v_assign rfl) (x_nil (n_then (x_seq (x_seq (x_region (s_val rfl (v_move rfl) (s_val rfl (v_not rfl) (x_nil (n_then ?_)))))))))))))
  refine x_if rfl ?_ ?_
  · intro c2
    refine x_seq (x_region (s_val rfl (v_assign rfl) (s_val rfl (v_assign rfl) (x_nil (n_then (x_ret (r_then (x_done (.inl rfl) (.cons (r_tmp rfl) (.cons (r_tmp rfl) .nil)) ?_))))))))
    have hn : o = none := by
      cases o with
      | none => rfl
      | some l => exact absurd c2 (by simp)
    have he : rdE x who at_ = 3 := by rw [rdE, hlb, hn]; rfl
    rw [he]
    exact ⟨_, ⟨none, 0, 0, rfl, rfl, rfl⟩, ent_osl_nil (k := ent_rdk hRT hL hrl rfl rfl rfl)⟩
  · intro c2
    refine x_skip (n_then (x_seq (x_seq ?_)))
    obtain ⟨r, rfl⟩ : ∃ l, o = some l := by
      cases o with
      | none => exact absurd (by simp) c2
      | some l => exact ⟨l, rfl⟩
    have hwf : whF x.rs at_ = some r := by
      unfold whR at ho
      split at ho
      · cases ho
      · exact ho
    obtain ⟨hr0, hr1⟩ := hx.wh at_ r hwf
    obtain ⟨j, rfl⟩ : ∃ j : Nat, r = (j : Int) := ⟨r.toNat, by omega⟩
    have hjl : j < rl.length := by have := congrArg List.length hrl; rw [List.length_map] at this; omega
    have hlab : x.lb.getD ((j : Nat) : Int).toNat 0 = rl[j].1 := by rw [Int.toNat_natCast, ← hrl]; simp [List.getD, hjl]
    rw [Option.map_some, hlab] at hlb
    obtain ⟨k, rfl, hk⟩ := lbW_lt hlb
    refine run_form (E := 151) (sz := 3) (a := aR) (c := cR) (n := rl.length) (ys := rl.flatMap rgnV) (fun hf => ?_)
    obtain ⟨g, rfl⟩ := form_some hf (by rw [← List.length_pos_iff, flat_len rgnV_len]; omega)
    refine x_region (s_val rfl (v_move rfl) (s_val rfl (v_nilCheck rfl) ?_))
    refine s_val rfl (v_fieldAddr rfl Tryz.underlying162 rfl Tryz.sizeOf23 rfl (by first | exact Nat.zero_add _ | rfl)) ?_
    refine s_val rfl (v_load Tryz.isAgg23 rfl (cell_own rfl)) ?_
    refine s_val rfl (v_move rfl) ?_
    refine s_val rfl (v_idx Tryz.underlying23 Tryz.sizeOf151 rfl rfl rfl hjl (by first | exact Nat.zero_add _ | rfl)) ?_
    refine s_val rfl (v_fieldAddr rfl Tryz.underlying151 rfl Tryz.sizeOf3 rfl (by first | exact Nat.zero_add _ | rfl)) ?_
    refine s_val rfl (v_load Tryz.isAgg3 rfl (cells_rw (f := rgnV) (E := 151) (sz := 3) (n := rl.length) (c := cR) rfl rgnV_len (by decide) (show rl[j]? = some rl[j] by simp [hjl]) 0 _ rfl)) ?_
    refine s_val rfl (v_move rfl) (s_do rfl (d_call Tryz.call41 rfl (rlFlows_spec W0 _ rl[j].1 who)) ?_)
    rintro _ B_ ⟨rfl, hB_⟩
    obtain rfl := hB_.symm
    refine s_val rfl (v_not rfl) (x_nil (n_then ?_))
    refine x_if rfl ?_ ?_
    · intro c4
      refine x_seq (x_region (s_val rfl (v_assign rfl) (s_val rfl (v_assign rfl) (x_nil (n_then (x_ret (r_then (x_done (.inl rfl) (.cons (r_tmp rfl) (.cons (r_tmp rfl) .nil)) ?_))))))))
      have he : rdE x who k = 8 := by rw [rdE, hlb]; exact if_neg (by simpa using c4)
      rw [he]
      exact ⟨_, ⟨none, 0, 0, rfl, rfl, rfl⟩, ent_osl_nil (k := ent_rdk hRT hL hrl rfl rfl rfl)⟩
    · intro c4
      refine x_skip (n_then (x_seq ?_))
      have he : rdE x who k = 0 := by rw [rdE, hlb]; exact if_pos (by simpa using c4)
      refine run_ent (B := rdkH d x :: R) (ent_rdk hRT hL hrl rfl rfl rfl) ?_
      refine x_region (s_val rfl (v_move rfl) (s_val rfl (v_move rfl) (s_do rfl (d_call1 Tryz.call30 rfl (rdBytes_spec W0 _ d x hx k hk)) ?_)))
      rintro _ B_ ⟨ao, co, rfl, hB_⟩
      obtain rfl := hB_.symm
      refine s_val rfl (v_move rfl) (s_val rfl (v_extract rfl rfl) (s_val rfl (v_extract rfl rfl) (s_val rfl (v_assign rfl) (s_val rfl (v_assign rfl) (x_nil (n_then (x_seq (x_region (s_val rfl (v_move rfl) (s_val rfl (v_assign rfl) (s_val rfl (v_assign rfl) (x_nil (n_then (x_ret (x_done (.inl rfl) (.cons (r_tmp rfl) (.cons (r_tmp rfl) .nil)) ?_)))))))))))))))
      rw [he, if_pos rfl, Int.toNat_natCast]
      exact ⟨_, ⟨ao, 16, co, rfl, (hx.sec k).1.symm, rfl⟩, inferInstance⟩
theorem rdWrite_spec (W0 : World) (R : List HP) (d : Nat) (x : Dk) (hx : DkOk x) (who at_ : Int) (a : Option Addr) (n c : Nat) (bs : List Nat) (hnl : bs.length = n) (hb : By bs) (hn : bs.length < 9223372036854775808) (hs : SlA (OwnP W0 R) a 1 (fun x => [bV x]) bs) :
    Spec Tryz.prog W0 163 [.pointer (some ⟨d, 0, none⟩), .int .i64 who, .int .i64 at_, .slice a n c] (rdkH d x :: R) (fun v B => v = .int .i64 (wrDE x who at_ bs.length) ∧ B = rdkH d (wrDk x who at_ bs) :: R) := by
  subst hnl
  obtain ⟨o, ho⟩ : ∃ o, whR x.rs 32 at_ = o := ⟨_, rfl⟩
  have hlb : lbW x at_ = o.map fun r => x.lb.getD r.toNat 0 := by rw [lbW, ho]
  refine spec_body Tryz.func163 Tryz.ntmps163 rfl rfl ?_
  refine x_seq (x_region (s_val rfl (v_assign rfl) (x_nil (n_then (x_seq ?_)))))
  refine run_rdk (d := d) fun bt aR cR L rl hRT hL hrl => ?_
  refine x_region (s_val rfl (v_move rfl) (s_val rfl (v_nilCheck rfl) ?_))
  refine s_val rfl (v_fieldAddr rfl Tryz.underlying162 rfl Tryz.sizeOf154 rfl (by first | exact Nat.zero_add _ | rfl)) ?_
  refine s_val rfl (v_load Tryz.isAgg154 rfl (cell_own rfl)) ?_
  refine s_val rfl (v_move rfl) ?_
  refine s_do rfl (d_call1 Tryz.call85 rfl (rpWho_spec W0 _ bt L (by omega) at_)) ?_
  rintro _ B_ ⟨rfl, hB_⟩
  obtain rfl := hB_.symm
  rw [lbW_ref hRT hL, ho]
  refine s_val rfl (v_move rfl) (s_val rfl (v_extract rfl rfl) (s_val rfl (v_extract rfl rfl) (s_val rfl (v_assign rfl) (s_val rfl (v_assign rfl) (x_nil (n_then (x_seq (x_seq (x_region (s_val rfl (v_move rfl) (s_val rfl (v_not rfl) (x_nil (n_then ?_)))))))))))))
  refine x_if rfl ?_ ?_
  · intro c2
    refine x_seq (x_region (s_val rfl (v_assign rfl) (x_nil (n_then (x_ret (r_then (x_done (.inl rfl) (.cons (r_tmp rfl) .nil) ?_)))))))
    have hn : o = none := by
      cases o with
      | none => rfl
      | some l => exact absurd c2 (by simp)
    have he : wrDE x who at_ bs.length = 3 := by rw [wrDE, hlb, hn]; rfl
    rw [wrDk, he, if_neg (show ¬ (3 : Int) = 0 by decide)]
    exact ⟨_, ⟨rfl, rfl⟩, ent_rdk hRT hL hrl rfl rfl rfl⟩
  · intro c2
    refine x_skip (n_then (x_seq (x_seq ?_)))
    obtain ⟨r, rfl⟩ : ∃ l, o = some l := by
      cases o with
      | none => exact absurd (by simp) c2
      | some l => exact ⟨l, rfl⟩
    have hwf : whF x.rs at_ = some r := by
      unfold whR at ho
      split at ho
      · cases ho
      · exact ho
    obtain ⟨hr0, hr1⟩ := hx.wh at_ r hwf
    obtain ⟨j, rfl⟩ : ∃ j : Nat, r = (j : Int) := ⟨r.toNat, by omega⟩
    have hjl : j < rl.length := by have := congrArg List.length hrl; rw [List.length_map] at this; omega
    have hlab : x.lb.getD ((j : Nat) : Int).toNat 0 = rl[j].1 := by rw [Int.toNat_natCast, ← hrl]; simp [List.getD, hjl]
    rw [Option.map_some, hlab] at hlb
    obtain ⟨k, rfl, hk⟩ := lbW_lt hlb
    refine run_form (E := 151) (sz := 3) (a := aR) (c := cR) (n := rl.length) (ys := rl.flatMap rgnV) (fun hf => ?_)
    obtain ⟨g, rfl⟩ := form_some hf (by rw [← List.length_pos_iff, flat_len rgnV_len]; omega)
    refine x_region (s_val rfl (v_move rfl) (s_val rfl (v_move rfl) (s_val rfl (v_nilCheck rfl) ?_)))
    refine s_val rfl (v_fieldAddr rfl Tryz.underlying162 rfl Tryz.sizeOf23 rfl (by first | exact Nat.zero_add _ | rfl)) ?_
    refine s_val rfl (v_load Tryz.isAgg23 rfl (cell_own rfl)) ?_
    refine s_val rfl (v_move rfl) ?_
    refine s_val rfl (v_idx Tryz.underlying23 Tryz.sizeOf151 rfl rfl rfl hjl (by first | exact Nat.zero_add _ | rfl)) ?_
    refine s_val rfl (v_fieldAddr rfl Tryz.underlying151 rfl Tryz.sizeOf3 rfl (by first | exact Nat.zero_add _ | rfl)) ?_
    refine s_val rfl (v_load Tryz.isAgg3 rfl (cells_rw (f := rgnV) (E := 151) (sz := 3) (n := rl.length) (c := cR) rfl rgnV_len (by decide) (show rl[j]? = some rl[j] by simp [hjl]) 0 _ rfl)) ?_
    refine s_do rfl (d_call Tryz.call41 rfl (rlFlows_spec W0 _ who rl[j].1)) ?_
    rintro _ B_ ⟨rfl, hB_⟩
    obtain rfl := hB_.symm
    refine s_val rfl (v_not rfl) (x_nil (n_then ?_))
    refine x_if rfl ?_ ?_
    · intro c4
      refine x_seq (x_region (s_val rfl (v_assign rfl) (x_nil (n_then (x_ret (r_then (x_done (.inl rfl) (.cons (r_tmp rfl) .nil) ?_)))))))
      have he : wrDE x who k bs.length = 8 := by rw [wrDE, hlb]; exact if_neg (by simpa using c4)
      rw [wrDk, he, if_neg (show ¬ (8 : Int) = 0 by decide)]
      exact ⟨_, ⟨rfl, rfl⟩, ent_rdk hRT hL hrl rfl rfl rfl⟩
    · intro c4
      refine x_skip (n_then (x_seq (x_seq (x_region (s_val rfl (v_move rfl) (s_val rfl (v_len_slice Tryz.underlying44 rfl) (s_val rfl (v_neq rfl rfl) (x_nil (n_then ?_)))))))))
      refine x_if rfl ?_ ?_
      · intro c6
        refine x_seq (x_region (s_val rfl (v_assign rfl) (x_nil (n_then (x_ret (r_then (x_done (.inl rfl) (.cons (r_tmp rfl) .nil) ?_)))))))
        have h16 : ¬ bs.length = 16 := by omega
        have he : wrDE x who k bs.length = 1 := by rw [wrDE, hlb]; exact (if_pos (by simpa using c4)).trans (if_neg h16)
        rw [wrDk, he, if_neg (show ¬ (1 : Int) = 0 by decide)]
        exact ⟨_, ⟨rfl, rfl⟩, ent_rdk hRT hL hrl rfl rfl rfl⟩
      · intro c6
        refine x_skip (n_then (x_seq ?_))
        have h16 : bs.length = 16 := by omega
        have he : wrDE x who k bs.length = 0 := by rw [wrDE, hlb]; exact (if_pos (by simpa using c4)).trans (if_pos h16)
        obtain ⟨bb, off, rfl, hc⟩ := sla_whole hs (by omega)
        refine x_region (s_val rfl (v_move rfl) (s_val rfl (v_move rfl) (s_val rfl (v_move rfl) (s_do rfl (d_call1 Tryz.call86 rfl (rdSet_spec W0 _ d bt rl.length cR (some ⟨g, 0, none⟩) x.ss k hk hx.sl bb off bs.length c bs h16 h16 hc.weak)) ?_))))
        rintro _ B_ ⟨rfl, hB_⟩
        obtain rfl := hB_.symm
        refine x_nil (n_then (x_seq (x_region (s_val rfl (v_assign rfl) (x_nil (n_then (x_ret (x_done (.inl rfl) (.cons (r_tmp rfl) .nil) ?_))))))))
        rw [wrDk, he, if_pos rfl, Int.toNat_natCast]
        exact ⟨_, ⟨rfl, rfl⟩, ent_rdk (x := dkSet x k bs) hRT hL hrl rfl rfl rfl⟩
end Go.Proofs.YtncegikenkpcmaaGreat
namespace Go.Proofs.YtncegikenkpcmaaGreat
open Go.RowKit
set_option linter.unusedSimpArgs false
set_option linter.unusedVariables false
set_option maxRecDepth 20000
theorem bytesL_take {ws : List Nat} {i : Nat} (h : i < ws.length) : bytesL (ws.take (i + 1)) = bytesL (ws.take i) ++ leB 4 ws[i] := by
  rw [List.take_succ_eq_append_getElem h, bytesL, List.flatMap_append]; simp [bytesL]
theorem rfBytes_spec (W0 : World) (R : List HP) (a : Option Addr) (c : Nat) (ws : List Nat) (hs : SlA (OwnP W0 R) a 1 (fun x => [wV x]) ws) (hw : ∀ w ∈ ws, w < 4294967296) (hl : ws.length ≤ 10000) :
    Spec Tryz.prog W0 223 [.slice a ws.length c] R (fun v B => ∃ a' c', v = .slice a' (4 * ws.length : Nat) c' ∧ B = osl 5 1 (.slice a' (4 * ws.length : Nat) c') (byV (bytesL ws)) :: R) := by
  refine spec_body Tryz.func223 Tryz.ntmps223 rfl rfl ?_
  refine x_seq (x_region (s_val rfl (v_assign rfl) (x_nil (n_then (x_seq (x_region (s_val rfl (v_assign rfl) (x_nil (n_then (x_seq (x_seq (x_region (s_val rfl (v_assign rfl) (x_nil (n_then (x_block ?_))))))))))))))))
  refine x_loop (fun X : Nat × Option Addr × Nat => X.1 ≤ ws.length) (fun X => [(0, .slice a ws.length c), (3, .slice X.2.1 (4 * X.1 : Nat) X.2.2), (4, .int .i64 X.1)]) (fun X => osl 5 1 (.slice X.2.1 (4 * X.1 : Nat) X.2.2) (byV (bytesL (ws.take X.1))) :: R) (fun X => ws.length - X.1) (0, none, 0) ?_ ?_ ?_ ?_
  · exact Nat.zero_le _
  · repeat (first | exact sub_nil | refine sub_cons rfl ?_)
  · exact ent_osl_nil
  · intro ⟨i, a1, c1⟩ hi
    dsimp only at hi ⊢
    refine x_seq (x_seq (x_region (s_val rfl (v_move rfl) (s_val rfl (v_move rfl) (s_val rfl (v_len_slice Tryz.underlying45 rfl) (s_val rfl (v_lss rfl rfl) (x_nil (n_then ?_))))))))
    refine x_if rfl ?_ ?_
    · intro c3
      refine x_skip (n_then (x_seq (x_block (x_seq ?_))))
      have hi1 : i < ws.length := by omega
      obtain ⟨g, o, rfl, hc⟩ := hs.at_ hi1
      have hwi := hw _ (List.getElem_mem hi1)
      have htl : (bytesL (ws.take i)).length = 4 * i := by rw [bytesL_len, List.length_take]; omega
      refine x_region (s_val rfl (v_assign rfl) (x_nil (n_then (x_block ?_))))
      refine x_loop (fun X : Nat × Option Addr × Nat => X.1 ≤ 4) (fun X => [(0, .slice (some ⟨g, o, none⟩) ws.length c), (3, .slice X.2.1 (4 * i + X.1 : Nat) X.2.2), (4, .int .i64 i), (5, .int .i64 X.1)]) (fun X => osl 5 1 (.slice X.2.1 (4 * i + X.1 : Nat) X.2.2) (byV (bytesL (ws.take i) ++ leB X.1 ws[i])) :: R) (fun X => 4 - X.1) (0, a1, c1) ?_ ?_ ?_ ?_
      · exact Nat.zero_le _
      · repeat (first | exact sub_nil | refine sub_cons rfl ?_)
      · show Ent _ (osl 5 1 (.slice a1 (4 * i + 0 : Nat) c1) (byV (bytesL (ws.take i) ++ [])) :: R)
        rw [List.append_nil]; exact inferInstance
      · intro ⟨k, a2, c2⟩ hk
        dsimp only at hk ⊢
        refine x_seq (x_seq (x_region (s_val rfl (v_move rfl) (s_val rfl (v_lss rfl rfl) (x_nil (n_then ?_))))))
        refine x_if rfl ?_ ?_
        · intro c6
          refine x_skip (n_then (x_seq (x_block (x_region (s_val rfl (v_move rfl) (s_val rfl (v_move rfl) (s_val rfl (v_move rfl) ?_)))))))
          refine s_val rfl (v_idx Tryz.underlying45 Tryz.sizeOf47 rfl rfl rfl hi1 (by first | exact Nat.zero_add _ | rfl)) ?_
          refine s_val rfl (v_load Tryz.isAgg47 rfl (Cells.weak hc 0 _ rfl)) ?_
          refine s_val rfl (v_move rfl) ?_
          refine s_val rfl (v_mul rfl rfl (by rw [w64 (by omega)]; omega : IntKind.wrap .i64 (8 * (k : Int)) = ((8 * k : Nat) : Int))) ?_
          refine s_val rfl (v_shr rfl rfl (by omega) rfl) ?_
          refine s_val rfl (v_conv Tryz.underlying47 Tryz.underlying5 rfl (byte_of (by omega))) ?_
          refine s_do rfl (d_sliceLit Tryz.underlying44 Tryz.sizeOf5 Tryz.zeroValue5 rfl rfl rfl rfl rfl (by decide) (by decide)) ?_
          rintro _ _ ⟨b1, rfl, rfl⟩
          refine s_do rfl (d_append (sz := 1) (by_ := 1) (info := Tryz.t5) Tryz.underlying44 (by kernel_rfl) rfl rfl rfl rfl (by decide) rfl rfl cells_all rfl rfl (by simp only [maxLen]; omega) (by omega)) ?_
          rintro _ _ ⟨a3, c3, rfl, rfl⟩
          refine s_val rfl (v_assign rfl) (x_nil (n_block (n_then (x_region (s_val rfl (v_move rfl) ?_)))))
          refine s_val rfl (v_add rfl rfl (by first | exact w64 (by omega) | rfl)) ?_
          refine s_val rfl (v_assign rfl) (x_nil (n_then ?_))
          refine inv_intro (k + 1, a3, c3) ?_ ?_ ?_ ?_
          · omega
          · omega
          · repeat (first | exact sub_nil | refine sub_cons rfl ?_)
          · show Ent _ (osl 5 1 (.slice a3 (4 * i + k + 1 : Nat) c3) (byV (bytesL (ws.take i) ++ leB (k + 1) ws[i])) :: R)
            rw [leB_succ, show byV (bytesL (ws.take i) ++ (leB k ws[i] ++ [ws[i] / 256 ^ k % 256])) = byV (bytesL (ws.take i) ++ leB k ws[i]) ++ [.int .u8 ((ws[i] / 256 ^ k % 256 : Nat) : Int)] by rw [← List.append_assoc, byV_append]; rfl]
            exact inferInstance
        · intro c6
          refine x_exit (e_then (e_then (e_block (n_block (n_then ?_)))))
          obtain rfl : k = 4 := by omega
          refine x_region (s_val rfl (v_move rfl) ?_)
          refine s_val rfl (v_add rfl rfl (by first | exact w64 (by omega) | rfl)) ?_
          refine s_val rfl (v_assign rfl) (x_nil (n_then ?_))
          refine inv_intro (i + 1, a2, c2) ?_ ?_ ?_ ?_
          · omega
          · omega
          · repeat (first | exact sub_nil | refine sub_cons rfl ?_)
          · show Ent _ (osl 5 1 (.slice a2 (4 * i + 4 : Nat) c2) (byV (bytesL (ws.take (i + 1)))) :: R)
            rw [bytesL_take hi1]; exact inferInstance
    · intro c3
      refine x_exit (e_then (e_then (e_block (n_then (x_seq (x_region (s_val rfl (v_move rfl) (s_val rfl (v_assign rfl) (x_nil (n_then (x_ret (x_done (.inl rfl) (.cons (r_tmp rfl) .nil) ?_))))))))))))
      obtain rfl : i = ws.length := by omega
      rw [List.take_of_length_le (Nat.le_refl _)]
      exact ⟨_, ⟨a1, c1, rfl, rfl⟩, inferInstance⟩
theorem rfBytes1_spec (W0 : World) (R : List HP) (a : Option Addr) (c w : Nat) (hs : SlA (OwnP W0 R) a 1 (fun x => [wV x]) [w]) (hw : w < 4294967296) :
    Spec Tryz.prog W0 223 [.slice a 1 c] R (fun v B => ∃ a' c', v = .slice a' 4 c' ∧ B = osl 5 1 (.slice a' 4 c') (byV (bytesL [w])) :: R) :=
  rfBytes_spec W0 R a c [w] hs (fun x hx => by simp at hx; omega) (by simp)
theorem rvPut_spec (W0 : World) (R : List HP) (qv qs qm d : Nat) (fr : List Frm) (pg : List Pl) (h : Pgs pg) (hF : Frs fr) (pa : Nat) (hpa : pa < 4294967296) (w : Nat) (hw : w < 4294967296) :
    Spec Tryz.prog W0 164 [.pointer (some ⟨qv, 0, none⟩), .int .u32 pa, .int .u32 w] (rvwW qv qs qm d fr pg R)
      (fun v B => v = .bool (ownB fr.length pg pa 4) ∧ B = rvwW qv qs qm (wrE fr pg pa d 4) (wrF fr pg pa (bytesL [w])) pg R) := by
  refine spec_body Tryz.func164 Tryz.ntmps164 rfl rfl ?_
  refine x_seq (x_region (s_val rfl (v_assign rfl) (x_nil (n_then (x_seq (x_region (s_val rfl (v_move rfl) (s_val rfl (v_move rfl) (s_val rfl (v_move rfl) ?_)))))))))
  refine s_do rfl (d_sliceLit Tryz.underlying45 Tryz.sizeOf47 Tryz.zeroValue47 rfl rfl rfl rfl rfl (by decide) (by decide)) ?_
  rintro _ _ ⟨b1, rfl, rfl⟩
  refine s_do rfl (d_call Tryz.call223 rfl (rfBytes1_spec W0 _ (some ⟨b1, 0, none⟩) _ w (sla_pt (fun _ => rfl) rfl) hw)) ?_
  rintro _ B_ ⟨a', c', rfl, hB_⟩
  obtain rfl := hB_.symm
  refine run_form (E := 5) (sz := 1) (a := a') (c := c') (n := 4) (fun hf => ?_)
  refine s_do rfl (d_call3 Tryz.call68 rfl (rvWriteN_spec W0 _ qv qs qm d c' 4 a' fr pg h hF pa hpa (bytesL [w]) (by rw [bytesL_len]; rfl) (bytesL_by _) (sla_cells hf (cells_osl (E := 5) (sz := 1) (a := a') (c := c') (n := 4)) (fun _ => rfl) (byV_fm _).symm (by decide)) (by decide))) ?_
  rintro _ B_ ⟨rfl, hB_⟩
  obtain rfl := hB_.symm
  refine s_val rfl (v_assign rfl) (x_nil (n_then (x_ret (x_done (.inl rfl) (.cons (r_tmp rfl) .nil) ?_))))
  exact ⟨_, ⟨rfl, rfl⟩, inferInstance⟩
theorem rdSize_spec (W0 : World) (R : List HP) (p : Nat) (n : Int) : Spec Tryz.prog W0 141 [.int .i64 p, .int .i64 n] R (fun v B => v = .int .i64 (qSz p n) ∧ B = R) := by
  refine spec_body Tryz.func141 Tryz.ntmps141 rfl rfl ?_
  refine x_seq (x_region (s_val rfl (v_assign rfl) (x_nil (n_then (x_seq (x_seq (x_region (s_val rfl (v_move rfl) (s_do rfl (d_call Tryz.call200 rfl (rdSized_spec W0 _ n)) ?_)))))))))
  rintro _ B_ ⟨rfl, hB_⟩
  obtain rfl := hB_.symm
  refine s_val rfl (v_not rfl) (x_nil (n_then ?_))
  refine x_if rfl ?_ ?_
  · intro c1
    refine x_seq (x_region (s_val rfl (v_assign rfl) (x_nil (n_then (x_ret (r_then (x_done (.inl rfl) (.cons (r_tmp rfl) .nil) ?_)))))))
    refine ⟨_, ⟨?_, rfl⟩, inferInstance⟩
    have hz : ¬ szd n = true := c1
    refine congrArg (Value.int .i64) (Eq.symm ?_)
    rw [qSz, if_neg hz]
  · intro c1
    have hz : szd n = true := Decidable.not_not.1 c1
    have hn := szd_iff.1 hz
    refine x_skip (n_then (x_seq (x_seq (x_region (s_val rfl (v_move rfl) (x_nil (n_then (x_block (x_seq (x_region (s_val rfl (v_eql rfl rfl) (s_val rfl (v_assign rfl) (x_nil (n_then ?_))))))))))))))
    refine x_if rfl ?_ ?_
    · intro c4
      refine x_seq (x_region (s_val rfl (v_move rfl) ?_))
      refine s_val rfl (v_mul rfl rfl (w64 (by omega))) ?_
      refine s_val rfl (v_assign rfl) (x_nil (n_then (x_ret (r_block (r_then (x_done (.inl rfl) (.cons (r_tmp rfl) .nil) ?_))))))
      refine ⟨_, ⟨?_, rfl⟩, inferInstance⟩
      refine congrArg (Value.int .i64) (Eq.symm ?_)
      rw [qSz, if_pos hz]
      (repeat' split) <;> first | rfl | omega
    · intro c4
      refine x_seq (x_region (s_val rfl (v_eql rfl rfl) (s_val rfl (v_assign rfl) (x_nil (n_then ?_)))))
      refine x_if rfl ?_ ?_
      · intro c6
        refine x_seq (x_region (s_val rfl (v_move rfl) ?_))
        refine s_val rfl (v_mul rfl rfl (w64 (by omega))) ?_
        refine s_val rfl (v_add rfl rfl (w64 (by omega))) ?_
        refine s_val rfl (v_assign rfl) (x_nil (n_then (x_ret (r_block (r_then (x_done (.inl rfl) (.cons (r_tmp rfl) .nil) ?_))))))
        refine ⟨_, ⟨?_, rfl⟩, inferInstance⟩
        refine congrArg (Value.int .i64) (Eq.symm ?_)
        rw [qSz, if_pos hz]
        (repeat' split) <;> first | rfl | omega
      · intro c6
        refine x_seq (x_region (s_val rfl (v_eql rfl rfl) (s_val rfl (v_assign rfl) (x_nil (n_then ?_)))))
        refine x_if rfl ?_ ?_
        · intro c8
          refine x_seq (x_region (s_val rfl (v_move rfl) ?_))
          refine s_val rfl (v_mul rfl rfl (w64 (by omega))) ?_
          refine s_val rfl (v_add rfl rfl (w64 (by omega))) ?_
          refine s_val rfl (v_assign rfl) (x_nil (n_then (x_ret (r_block (r_then (x_done (.inl rfl) (.cons (r_tmp rfl) .nil) ?_))))))
          refine ⟨_, ⟨?_, rfl⟩, inferInstance⟩
          refine congrArg (Value.int .i64) (Eq.symm ?_)
          rw [qSz, if_pos hz]
          (repeat' split) <;> first | rfl | omega
        · intro c8
          refine x_skip (n_block (n_then (x_seq (x_region (s_val rfl (v_assign rfl) (x_nil (n_then (x_ret (x_done (.inl rfl) (.cons (r_tmp rfl) .nil) ?_)))))))))
          refine ⟨_, ⟨?_, rfl⟩, inferInstance⟩
          refine congrArg (Value.int .i64) (Eq.symm ?_)
          rw [qSz, if_pos hz]
          (repeat' split) <;> first | rfl | omega
abbrev rqO (s : QS) : Obj := cob (qsV s) 76
theorem fit_rgt {len : Nat} {pg : List Pl} {r : Rg3} (h : fitB len pg r = true) : rgtB r = true ∧ ownB len pg r.desc (qSz 0 r.n) = true ∧ ownB len pg r.avail (qSz 1 r.n) = true ∧ ownB len pg r.used (qSz 2 r.n) = true := by
  simp only [fitB, Bool.and_eq_true] at h
  exact ⟨h.2, h.1.1.1, h.1.1.2, h.1.2⟩
theorem rqLay_spec (W0 : World) (R : List HP) (b qv qs qm d : Nat) (fr : List Frm) (pg : List Pl) (h : Pgs pg) (s : QS) (r : Rg3) (hr : r.ok) (hf : fitB fr.length pg r = true) :
    Spec Tryz.prog W0 73 [.pointer (some ⟨b, 0, none⟩), .pointer (some ⟨qv, 0, none⟩), .agg (rgV r).toArray] (pt b (rqO s) :: rvwW qv qs qm d fr pg R)
      (fun v B => v = .int .i64 0 ∧ B = pt b (rqO ⟨r, true, 0, 0, 0⟩) :: rvwW qv qs qm d fr pg R) := by
  obtain ⟨f1, f2, f3, f4⟩ := fit_rgt hf
  refine spec_body Tryz.func73 Tryz.ntmps73 rfl rfl ?_
  refine x_seq (x_region (s_do rfl (d_boxA rfl) ?_))
  rintro _ _ ⟨b1, rfl, rfl⟩
  refine s_val rfl (v_assign rfl) (x_nil (n_then (x_seq (x_seq ?_))))
  refine x_draw [(b1, 0, _)] 33 mixed rfl (sc_own sc_end) (fun hS => ?_)
  refine d_take 0 rfl rfl (by kernel_rfl) (by kernel_rfl) (by kernel_rfl) rfl hS (v_loadAgg Tryz.isAgg71 Tryz.sizeOf71 rfl (cells_sc (k := 0) rfl) rfl) ?_
  refine d_one 1 (by kernel_rfl) rfl rfl (d_call Tryz.call140 rfl (rdRight_spec W0 _ r)) rfl ?_; clear hS
  rintro _ B_ ⟨rfl, hB_⟩
  obtain rfl := hB_.symm
  refine ⟨(sc_own sc_end), fun hS => ?_⟩
  refine d_take 2 rfl rfl (by kernel_rfl) (by kernel_rfl) (by kernel_rfl) rfl hS (v_not rfl) ?_
  refine d_take 3 rfl rfl (by kernel_rfl) (by kernel_rfl) (by kernel_rfl) rfl hS (v_move rfl) ?_
  refine x_split (t := 10) rfl ?_ ?_
  · intro g1_4
    exact absurd f1 g1_4
  · intro g1_4
    refine d_take 4 rfl rfl (by kernel_rfl) (by kernel_rfl) (by kernel_rfl) rfl hS (v_move rfl) ?_
    refine d_take 5 rfl rfl (by kernel_rfl) (by kernel_rfl) (by kernel_rfl) rfl hS (v_fieldAddr rfl Tryz.underlying71 rfl Tryz.sizeOf47 rfl (by first | exact Nat.zero_add _ | rfl)) ?_
    refine d_take 6 rfl rfl (by kernel_rfl) (by kernel_rfl) (by kernel_rfl) rfl hS (v_load Tryz.isAgg47 rfl (cell_sc0 (k := 0) rfl rfl)) ?_
    refine d_take 7 rfl rfl (by kernel_rfl) (by kernel_rfl) (by kernel_rfl) rfl hS (v_fieldAddr rfl Tryz.underlying71 rfl Tryz.sizeOf3 rfl (by first | exact Nat.zero_add _ | rfl)) ?_
    refine d_take 8 rfl rfl (by kernel_rfl) (by kernel_rfl) (by kernel_rfl) rfl hS (v_load Tryz.isAgg3 rfl (cell_sc0 (k := 0) rfl rfl)) ?_
    refine d_one 9 (by kernel_rfl) rfl rfl (d_call Tryz.call141 rfl (rdSize_spec W0 _ 0 r.n)) rfl ?_; clear hS
    rintro _ B_ ⟨rfl, hB_⟩
    obtain rfl := hB_.symm
    refine ⟨(sc_own sc_end), fun hS => ?_⟩
    refine d_one 10 (by kernel_rfl) rfl rfl (d_call3 Tryz.call135 rfl (rvOwn_spec W0 _ qv qs qm d fr pg h r.desc hr.desc (qSz 0 r.n))) rfl ?_; clear hS
    rintro _ B_ ⟨rfl, hB_⟩
    obtain rfl := hB_.symm
    refine ⟨(sc_own sc_end), fun hS => ?_⟩
    refine d_take 11 rfl rfl (by kernel_rfl) (by kernel_rfl) (by kernel_rfl) rfl hS (v_not rfl) ?_
    refine d_take 12 rfl rfl (by kernel_rfl) (by kernel_rfl) (by kernel_rfl) rfl hS (v_pick_f rfl rfl) ?_
    refine d_take 13 rfl rfl (by kernel_rfl) (by kernel_rfl) (by kernel_rfl) rfl hS (v_move rfl) ?_
    refine x_split (t := 20) rfl ?_ ?_
    · intro g1_14
      exact absurd f2 g1_14
    · intro g1_14
      refine d_take 14 rfl rfl (by kernel_rfl) (by kernel_rfl) (by kernel_rfl) rfl hS (v_move rfl) ?_
      refine d_take 15 rfl rfl (by kernel_rfl) (by kernel_rfl) (by kernel_rfl) rfl hS (v_fieldAddr rfl Tryz.underlying71 rfl Tryz.sizeOf47 rfl (by first | exact Nat.zero_add _ | rfl)) ?_
      refine d_take 16 rfl rfl (by kernel_rfl) (by kernel_rfl) (by kernel_rfl) rfl hS (v_load Tryz.isAgg47 rfl (cell_sc0 (k := 0) rfl rfl)) ?_
      refine d_take 17 rfl rfl (by kernel_rfl) (by kernel_rfl) (by kernel_rfl) rfl hS (v_fieldAddr rfl Tryz.underlying71 rfl Tryz.sizeOf3 rfl (by first | exact Nat.zero_add _ | rfl)) ?_
      refine d_take 18 rfl rfl (by kernel_rfl) (by kernel_rfl) (by kernel_rfl) rfl hS (v_load Tryz.isAgg3 rfl (cell_sc0 (k := 0) rfl rfl)) ?_
      refine d_one 19 (by kernel_rfl) rfl rfl (d_call Tryz.call141 rfl (rdSize_spec W0 _ 1 r.n)) rfl ?_; clear hS
      rintro _ B_ ⟨rfl, hB_⟩
      obtain rfl := hB_.symm
      refine ⟨(sc_own sc_end), fun hS => ?_⟩
      refine d_one 20 (by kernel_rfl) rfl rfl (d_call3 Tryz.call135 rfl (rvOwn_spec W0 _ qv qs qm d fr pg h r.avail hr.avail (qSz 1 r.n))) rfl ?_; clear hS
      rintro _ B_ ⟨rfl, hB_⟩
      obtain rfl := hB_.symm
      refine ⟨(sc_own sc_end), fun hS => ?_⟩
      refine d_take 21 rfl rfl (by kernel_rfl) (by kernel_rfl) (by kernel_rfl) rfl hS (v_not rfl) ?_
      refine d_take 22 rfl rfl (by kernel_rfl) (by kernel_rfl) (by kernel_rfl) rfl hS (v_pick_f rfl rfl) ?_
      refine d_take 23 rfl rfl (by kernel_rfl) (by kernel_rfl) (by kernel_rfl) rfl hS (v_move rfl) ?_
      refine x_split (t := 30) rfl ?_ ?_
      · intro g1_24
        exact absurd f3 g1_24
      · intro g1_24
        refine d_take 24 rfl rfl (by kernel_rfl) (by kernel_rfl) (by kernel_rfl) rfl hS (v_move rfl) ?_
        refine d_take 25 rfl rfl (by kernel_rfl) (by kernel_rfl) (by kernel_rfl) rfl hS (v_fieldAddr rfl Tryz.underlying71 rfl Tryz.sizeOf47 rfl (by first | exact Nat.zero_add _ | rfl)) ?_
        refine d_take 26 rfl rfl (by kernel_rfl) (by kernel_rfl) (by kernel_rfl) rfl hS (v_load Tryz.isAgg47 rfl (cell_sc0 (k := 0) rfl rfl)) ?_
        refine d_take 27 rfl rfl (by kernel_rfl) (by kernel_rfl) (by kernel_rfl) rfl hS (v_fieldAddr rfl Tryz.underlying71 rfl Tryz.sizeOf3 rfl (by first | exact Nat.zero_add _ | rfl)) ?_
        refine d_take 28 rfl rfl (by kernel_rfl) (by kernel_rfl) (by kernel_rfl) rfl hS (v_load Tryz.isAgg3 rfl (cell_sc0 (k := 0) rfl rfl)) ?_
        refine d_one 29 (by kernel_rfl) rfl rfl (d_call Tryz.call141 rfl (rdSize_spec W0 _ 2 r.n)) rfl ?_; clear hS
        rintro _ B_ ⟨rfl, hB_⟩
        obtain rfl := hB_.symm
        refine ⟨(sc_own sc_end), fun hS => ?_⟩
        refine d_one 30 (by kernel_rfl) rfl rfl (d_call3 Tryz.call135 rfl (rvOwn_spec W0 _ qv qs qm d fr pg h r.used hr.used (qSz 2 r.n))) rfl ?_; clear hS
        rintro _ B_ ⟨rfl, hB_⟩
        obtain rfl := hB_.symm
        refine ⟨(sc_own sc_end), fun hS => ?_⟩
        refine d_take 31 rfl rfl (by kernel_rfl) (by kernel_rfl) (by kernel_rfl) rfl hS (v_not rfl) ?_
        refine d_take 32 rfl rfl (by kernel_rfl) (by kernel_rfl) (by kernel_rfl) rfl hS (v_pick_f rfl rfl) ?_
        refine d_done (by kernel_rfl) ?_; clear hS
        refine n_then ?_
        refine x_if rfl ?_ ?_
        · intro c1
          exact absurd f4 c1
        · intro c1
          refine x_skip (n_then (x_seq (x_region (s_val rfl (v_move rfl) (s_val rfl (v_loadAll Tryz.isAgg71 Tryz.sizeOf71 rfl rfl) ?_)))))
          refine s_val rfl (v_build Tryz.underlying73 Tryz.zeroValue73 (sized_cons Tryz.sizeOf71 (sized_cons Tryz.sizeOf4 (sized_cons Tryz.sizeOf3 (sized_cons Tryz.sizeOf3 (sized_cons Tryz.sizeOf3 sized_nil))))) (fil_agg rfl Tryz.sizeOf71 rfl rfl (Nat.le_of_ble_eq_true rfl) SetRL.eq (fil_scal rfl Tryz.sizeOf4 rfl rfl (Nat.le_of_ble_eq_true rfl) SetL.eq fil_nil))) ?_
          refine s_val rfl (v_nilCheck rfl) ?_
          refine s_val rfl (v_fieldAddr rfl Tryz.underlying76 rfl Tryz.sizeOf73 rfl (by first | exact Nat.zero_add _ | rfl)) ?_
          refine s_do0 (d_storeAgg Tryz.sizeOf73 rfl rfl rfl rfl (Nat.le_of_ble_eq_true rfl) SetRL.eq) ?_
          rintro _ _ rfl
          refine x_nil (n_then (x_seq (x_region (s_val rfl (v_assign rfl) (x_nil (n_then (x_ret (x_done (.inl rfl) (.cons (r_tmp rfl) .nil) ?_))))))))
          exact ⟨_, ⟨rfl, rfl⟩, inferInstance⟩
theorem rqBreaks_spec (W0 : World) (R : List HP) (b : Nat) (s : QS) (w : Int) : Spec Tryz.prog W0 219 [.pointer (some ⟨b, 0, none⟩), .int .i64 w] (pt b (rqO s) :: R)
    (fun v B => v = .tuple #[.int .i64 0, .bool false, .int .i64 w] ∧ B = pt b (rqO { s with br := w }) :: R) := by
  refine spec_body Tryz.func219 Tryz.ntmps219 rfl rfl ?_
  refine x_seq (x_region (s_val rfl (v_assign rfl) (s_val rfl (v_assign rfl) (s_val rfl (v_assign rfl) (x_nil (n_then (x_seq (x_region (s_val rfl (v_move rfl) (s_val rfl (v_move rfl) (s_val rfl (v_nilCheck rfl) ?_)))))))))))
  refine s_val rfl (v_fieldAddr rfl Tryz.underlying76 rfl Tryz.sizeOf73 rfl (by first | exact Nat.zero_add _ | rfl)) ?_
  refine s_val rfl (v_fieldAddr rfl Tryz.underlying73 rfl Tryz.sizeOf3 rfl (by first | exact Nat.zero_add _ | rfl)) ?_
  refine s_do0 (d_store Tryz.sizeOf3 rfl rfl rfl (Nat.le_of_ble_eq_true rfl) SetL.eq) ?_
  rintro _ _ rfl
  refine x_nil (n_then (x_seq (x_region (s_val rfl (v_move rfl) (s_val rfl (v_assign rfl) (s_val rfl (v_assign rfl) (s_val rfl (v_assign rfl) (x_nil (n_then (x_ret (x_done (.inl rfl) (.cons (r_tmp rfl) (.cons (r_tmp rfl) (.cons (r_tmp rfl) .nil))) ?_)))))))))))
  exact ⟨_, ⟨rfl, rfl⟩, inferInstance⟩
theorem rqNext_spec (W0 : World) (R : List HP) (b qv qs qm d : Nat) (fr : List Frm) (pg : List Pl) (h : Pgs pg) (hF : Frs fr) (s : QS) (hs : QOk s) :
    Spec Tryz.prog W0 157 [.pointer (some ⟨b, 0, none⟩), .pointer (some ⟨qv, 0, none⟩)] (pt b (rqO s) :: rvwW qv qs qm d fr pg R)
      (fun v B => v = .tuple #[.int .i64 ((nxR fr pg s).1 : Nat), .bool (nxR fr pg s).2.1, .int .i64 (nxR fr pg s).2.2] ∧ B = pt b (rqO (nxS fr pg s)) :: rvwW qv qs qm d fr pg R) := by
  obtain ⟨⟨sd, sa, su, sn⟩, on, br, last, put⟩ := s
  by_cases hu : (on && decide (br = 0)) = true
  · have hu' : on = true ∧ br = 0 := by simpa using hu
    obtain ⟨rfl, rfl⟩ := hu'
    have hN := hs.n rfl
    obtain ⟨n, rfl⟩ : ∃ n : Nat, sn = (n : Int) := ⟨sn.toNat, by dsimp only at hN; omega⟩
    have hn : n = 2 ∨ n = 4 ∨ n = 8 := by dsimp only at hN; omega
    have ha : sa ≤ 1000 := hs.av rfl
    have hl : last < 65536 := hs.last
    have hm := Nat.mod_lt last (show 0 < n by omega)
    have hA : hdA sa last n = sa + 4 + 4 * (last % n) := rfl
    have hw1 := wrdW_lt hF pg sa
    have hw2 := wrdW_lt hF pg (hdA sa last n)
    obtain ⟨r, hr⟩ : ∃ r, hdR fr pg sa last n = r := ⟨_, rfl⟩
    have hv := hr
    unfold hdR at hv
    have hwt : wtN last (wrdW fr pg sa) = (wrdW fr pg sa % 65536 + 65536 - last) % 65536 := rfl
    obtain ⟨e1, e2⟩ : nxR fr pg ⟨⟨sd, sa, su, n⟩, true, 0, last, put⟩ = (if r.2.2 ≠ 0 then (0, false, r.2.2) else r) ∧ nxS fr pg ⟨⟨sd, sa, su, n⟩, true, 0, last, put⟩ = (if r.2.2 ≠ 0 then ⟨⟨sd, sa, su, n⟩, true, r.2.2, last, put⟩ else if r.2.1 then ⟨⟨sd, sa, su, n⟩, true, 0, (last + 1) % 65536, put⟩ else ⟨⟨sd, sa, su, n⟩, true, 0, last, put⟩) := by
      subst hr; exact ⟨rfl, rfl⟩
    refine spec_body Tryz.func157 Tryz.ntmps157 rfl rfl ?_
    refine x_seq (x_region (s_val rfl (v_assign rfl) (s_val rfl (v_assign rfl) (s_val rfl (v_assign rfl) (x_nil (n_then (x_seq (x_seq (x_region (s_val rfl (v_move rfl) (s_val rfl (v_nilCheck rfl) ?_)))))))))))
    refine s_val rfl (v_fieldAddr rfl Tryz.underlying76 rfl Tryz.sizeOf73 rfl (by first | exact Nat.zero_add _ | rfl)) ?_
    refine s_val rfl (v_fieldAddr rfl Tryz.underlying73 rfl Tryz.sizeOf4 rfl (by first | exact Nat.zero_add _ | rfl)) ?_
    refine s_val rfl (v_load Tryz.isAgg4 rfl (cell_own rfl)) ?_
    refine s_val rfl (v_not rfl) (s_val rfl (v_move rfl) ?_)
    refine s_or rfl rfl rfl ?_ ?_
    · intro g1_7
      exact absurd rfl g1_7
    · intro g1_7
      refine s_val rfl (v_move rfl) (s_yes rfl rfl (s_val rfl (v_nilCheck rfl) (s_yes rfl rfl ?_)))
      refine s_val rfl (v_fieldAddr rfl Tryz.underlying76 rfl Tryz.sizeOf73 rfl (by first | exact Nat.zero_add _ | rfl)) ?_
      refine s_yes rfl rfl ?_
      refine s_val rfl (v_fieldAddr rfl Tryz.underlying73 rfl Tryz.sizeOf3 rfl (by first | exact Nat.zero_add _ | rfl)) ?_
      refine s_yes rfl rfl (s_val rfl (v_load Tryz.isAgg3 rfl (cell_own rfl)) ?_)
      refine s_yes rfl rfl (s_val rfl (v_neq rfl rfl) (s_val rfl (v_pick_f rfl rfl) (x_nil (n_then ?_))))
      refine x_if rfl ?_ ?_
      · intro c1
        exact absurd rfl c1
      · intro c1
        refine x_skip (n_then (x_seq (x_region (s_val rfl (v_move rfl) (s_val rfl (v_nilCheck rfl) ?_)))))
        refine s_val rfl (v_fieldAddr rfl Tryz.underlying76 rfl Tryz.sizeOf73 rfl (by first | exact Nat.zero_add _ | rfl)) ?_
        refine s_val rfl (v_fieldAddr rfl Tryz.underlying73 rfl Tryz.sizeOf71 rfl (by first | exact Nat.zero_add _ | rfl)) ?_
        refine s_val rfl (v_fieldAddr rfl Tryz.underlying71 rfl Tryz.sizeOf3 rfl (by first | exact Nat.zero_add _ | rfl)) ?_
        refine s_val rfl (v_load Tryz.isAgg3 rfl (cell_own rfl)) ?_
        refine s_val rfl (v_assign rfl) (x_nil (n_then (x_seq (x_region (s_val rfl (v_move rfl) (s_val rfl (v_move rfl) (s_val rfl (v_nilCheck rfl) ?_)))))))
        refine s_val rfl (v_fieldAddr rfl Tryz.underlying76 rfl Tryz.sizeOf73 rfl (by first | exact Nat.zero_add _ | rfl)) ?_
        refine s_val rfl (v_fieldAddr rfl Tryz.underlying73 rfl Tryz.sizeOf71 rfl (by first | exact Nat.zero_add _ | rfl)) ?_
        refine s_val rfl (v_fieldAddr rfl Tryz.underlying71 rfl Tryz.sizeOf47 rfl (by first | exact Nat.zero_add _ | rfl)) ?_
        refine s_val rfl (v_load Tryz.isAgg47 rfl (cell_own rfl)) ?_
        refine s_do rfl (d_call3 Tryz.call218 rfl (rvWord_spec W0 _ qv qs qm d fr pg h hF sa (by omega))) ?_
        rintro _ B_ ⟨rfl, hB_⟩
        obtain rfl := hB_.symm
        rw [show (if ownB fr.length pg sa 4 then leN (rdL fr pg sa 4) else 0 : Nat) = wrdW fr pg sa from rfl]
        refine s_val rfl (v_move rfl) (s_val rfl (v_extract rfl rfl) (s_val rfl (v_extract rfl rfl) (s_val rfl (v_assign rfl) (s_val rfl (v_assign rfl) (x_nil (n_then (x_seq (x_seq (x_region (s_val rfl (v_move rfl) (s_val rfl (v_not rfl) (x_nil (n_then ?_)))))))))))))
        refine x_if rfl ?_ ?_
        · intro c5
          rw [if_neg c5] at hv
          refine x_seq (x_region (s_val rfl (v_move rfl) (s_do rfl (d_call1 Tryz.call219 rfl (rqBreaks_spec W0 _ b ⟨⟨sd, sa, su, n⟩, true, 0, last, put⟩ 5)) ?_)))
          rintro _ B_ ⟨rfl, hB_⟩
          obtain rfl := hB_.symm
          refine s_val rfl (v_extract rfl rfl) (s_val rfl (v_extract rfl rfl) (s_val rfl (v_extract rfl rfl) (s_val rfl (v_assign rfl) (s_val rfl (v_assign rfl) (s_val rfl (v_assign rfl) (x_nil (n_then (x_ret (r_then (x_done (.inl rfl) (.cons (r_tmp rfl) (.cons (r_tmp rfl) (.cons (r_tmp rfl) .nil))) ?_))))))))))
          subst hv
          rw [show nxR fr pg ⟨⟨sd, sa, su, n⟩, true, 0, last, put⟩ = (0, false, 5) from e1, show nxS fr pg ⟨⟨sd, sa, su, n⟩, true, 0, last, put⟩ = ⟨⟨sd, sa, su, n⟩, true, 5, last, put⟩ from e2]
          exact ⟨_, ⟨rfl, rfl⟩, inferInstance⟩
        · intro c5
          have o1 := Decidable.not_not.1 c5
          rw [if_pos o1] at hv
          refine x_skip (n_then (x_seq (x_region (s_val rfl (v_move rfl) ?_))))
          refine s_val rfl (v_rem rfl rfl (by decide) (tmodN (wrdW fr pg sa) 65536)) ?_
          refine s_val rfl (v_conv Tryz.underlying47 Tryz.underlying3 rfl (w64 (by omega))) ?_
          refine s_val rfl (v_add rfl rfl (w64 (by omega))) ?_
          refine s_val rfl (v_move rfl) (s_val rfl (v_nilCheck rfl) ?_)
          refine s_val rfl (v_fieldAddr rfl Tryz.underlying76 rfl Tryz.sizeOf73 rfl (by first | exact Nat.zero_add _ | rfl)) ?_
          refine s_val rfl (v_fieldAddr rfl Tryz.underlying73 rfl Tryz.sizeOf3 rfl (by first | exact Nat.zero_add _ | rfl)) ?_
          refine s_val rfl (v_load Tryz.isAgg3 rfl (cell_own rfl)) ?_
          refine s_val rfl (v_sub rfl rfl (by rw [w64 (by omega)]; omega : IntKind.wrap .i64 (((wrdW fr pg sa % 65536 : Nat) : Int) + 65536 - (last : Int)) = ((wrdW fr pg sa % 65536 + 65536 - last : Nat) : Int))) ?_
          refine s_val rfl (v_rem rfl rfl (by decide) (tmodN (wrdW fr pg sa % 65536 + 65536 - last) 65536)) ?_
          refine s_val rfl (v_assign rfl) (x_nil (n_then (x_seq (x_seq ?_))))
          rw [← hwt]
          generalize wtN last (wrdW fr pg sa) = wt at hv ⊢
          refine x_region (s_val rfl (v_move rfl) (s_val rfl (v_move rfl) (s_val rfl (v_gtr rfl rfl) (x_nil (n_then ?_)))))
          refine x_if rfl ?_ ?_
          · intro c8
            try dsimp only at c8
            rw [if_pos (by omega)] at hv
            refine x_seq (x_region (s_val rfl (v_move rfl) (s_do rfl (d_call1 Tryz.call219 rfl (rqBreaks_spec W0 _ b ⟨⟨sd, sa, su, n⟩, true, 0, last, put⟩ 7)) ?_)))
            rintro _ B_ ⟨rfl, hB_⟩
            obtain rfl := hB_.symm
            refine s_val rfl (v_extract rfl rfl) (s_val rfl (v_extract rfl rfl) (s_val rfl (v_extract rfl rfl) (s_val rfl (v_assign rfl) (s_val rfl (v_assign rfl) (s_val rfl (v_assign rfl) (x_nil (n_then (x_ret (r_then (x_done (.inl rfl) (.cons (r_tmp rfl) (.cons (r_tmp rfl) (.cons (r_tmp rfl) .nil))) ?_))))))))))
            subst hv
            rw [show nxR fr pg ⟨⟨sd, sa, su, n⟩, true, 0, last, put⟩ = (0, false, 7) from e1, show nxS fr pg ⟨⟨sd, sa, su, n⟩, true, 0, last, put⟩ = ⟨⟨sd, sa, su, n⟩, true, 7, last, put⟩ from e2]
            exact ⟨_, ⟨rfl, rfl⟩, inferInstance⟩
          · intro c8
            try dsimp only at c8
            rw [if_neg (by omega)] at hv
            refine x_skip (n_then (x_seq (x_seq (x_region (s_val rfl (v_move rfl) (s_val rfl (v_eql rfl rfl) (x_nil (n_then ?_))))))))
            refine x_if rfl ?_ ?_
            · intro c10
              try dsimp only at c10
              rw [if_pos (by omega)] at hv
              refine x_seq (x_region (s_val rfl (v_assign rfl) (s_val rfl (v_assign rfl) (s_val rfl (v_assign rfl) (x_nil (n_then (x_ret (r_then (x_done (.inl rfl) (.cons (r_tmp rfl) (.cons (r_tmp rfl) (.cons (r_tmp rfl) .nil))) ?_)))))))))
              subst hv
              rw [show nxR fr pg ⟨⟨sd, sa, su, n⟩, true, 0, last, put⟩ = (0, false, 0) from e1, show nxS fr pg ⟨⟨sd, sa, su, n⟩, true, 0, last, put⟩ = ⟨⟨sd, sa, su, n⟩, true, 0, last, put⟩ from e2]
              exact ⟨_, ⟨rfl, rfl⟩, inferInstance⟩
            · intro c10
              try dsimp only at c10
              rw [if_neg (by omega)] at hv
              refine x_skip (n_then (x_seq ?_))
              refine x_draw [(b, 0, _)] 24 mixed rfl (sc_own sc_end) (fun hS => ?_)
              refine d_take 0 rfl rfl (by kernel_rfl) (by kernel_rfl) (by kernel_rfl) rfl hS (v_move rfl) ?_
              refine d_take 1 rfl rfl (by kernel_rfl) (by kernel_rfl) (by kernel_rfl) rfl hS (v_move rfl) ?_
              refine d_take 2 rfl rfl (by kernel_rfl) (by kernel_rfl) (by kernel_rfl) rfl hS (v_nilCheck rfl) ?_
              refine d_take 3 rfl rfl (by kernel_rfl) (by kernel_rfl) (by kernel_rfl) rfl hS (v_fieldAddr rfl Tryz.underlying76 rfl Tryz.sizeOf73 rfl (by first | exact Nat.zero_add _ | rfl)) ?_
              refine d_take 4 rfl rfl (by kernel_rfl) (by kernel_rfl) (by kernel_rfl) rfl hS (v_fieldAddr rfl Tryz.underlying73 rfl Tryz.sizeOf71 rfl (by first | exact Nat.zero_add _ | rfl)) ?_
              refine d_take 5 rfl rfl (by kernel_rfl) (by kernel_rfl) (by kernel_rfl) rfl hS (v_fieldAddr rfl Tryz.underlying71 rfl Tryz.sizeOf47 rfl (by first | exact Nat.zero_add _ | rfl)) ?_
              refine d_take 6 rfl rfl (by kernel_rfl) (by kernel_rfl) (by kernel_rfl) rfl hS (v_load Tryz.isAgg47 rfl (cell_sc0 (k := 0) rfl rfl)) ?_
              refine d_take 7 rfl rfl (by kernel_rfl) (by kernel_rfl) (by kernel_rfl) rfl hS (v_add rfl rfl (by rw [w32u (by omega)]; omega : IntKind.wrap .u32 ((sa : Int) + 4) = ((sa + 4 : Nat) : Int))) ?_
              refine d_take 8 rfl rfl (by kernel_rfl) (by kernel_rfl) (by kernel_rfl) rfl hS (v_move rfl) ?_
              refine d_take 9 rfl rfl (by kernel_rfl) (by kernel_rfl) (by kernel_rfl) rfl hS (v_nilCheck rfl) ?_
              refine d_take 10 rfl rfl (by kernel_rfl) (by kernel_rfl) (by kernel_rfl) rfl hS (v_fieldAddr rfl Tryz.underlying76 rfl Tryz.sizeOf73 rfl (by first | exact Nat.zero_add _ | rfl)) ?_
              refine d_take 11 rfl rfl (by kernel_rfl) (by kernel_rfl) (by kernel_rfl) rfl hS (v_fieldAddr rfl Tryz.underlying73 rfl Tryz.sizeOf3 rfl (by first | exact Nat.zero_add _ | rfl)) ?_
              refine d_take 12 rfl rfl (by kernel_rfl) (by kernel_rfl) (by kernel_rfl) rfl hS (v_load Tryz.isAgg3 rfl (cell_sc0 (k := 0) rfl rfl)) ?_
              refine d_take 13 rfl rfl (by kernel_rfl) (by kernel_rfl) (by kernel_rfl) rfl hS (v_move rfl) ?_
              refine d_take 14 rfl rfl (by kernel_rfl) (by kernel_rfl) (by kernel_rfl) rfl hS (v_rem rfl rfl (show ((n : Nat) : Int) ≠ 0 by omega) (tmodN last n)) ?_
              refine d_take 15 rfl rfl (by kernel_rfl) (by kernel_rfl) (by kernel_rfl) rfl hS (v_conv Tryz.underlying3 Tryz.underlying47 rfl (w32u (by omega))) ?_
              refine d_take 16 rfl rfl (by kernel_rfl) (by kernel_rfl) (by kernel_rfl) rfl hS (v_mul rfl rfl (by rw [w32u (by omega)]; omega : IntKind.wrap .u32 (4 * ((last % n : Nat) : Int)) = ((4 * (last % n) : Nat) : Int))) ?_
              refine d_take 17 rfl rfl (by kernel_rfl) (by kernel_rfl) (by kernel_rfl) rfl hS (v_add rfl rfl (by rw [w32u (by omega), hA]; omega : IntKind.wrap .u32 (((sa + 4 : Nat) : Int) + ((4 * (last % n) : Nat) : Int)) = ((hdA sa last n : Nat) : Int))) ?_
              refine d_one 18 (by kernel_rfl) rfl rfl (d_call3 Tryz.call218 rfl (rvWord_spec W0 _ qv qs qm d fr pg h hF (hdA sa last n) (by omega))) rfl ?_; clear hS
              rintro _ B_ ⟨rfl, hB_⟩
              obtain rfl := hB_.symm
              rw [show (if ownB fr.length pg (hdA sa last n) 4 then leN (rdL fr pg (hdA sa last n) 4) else 0 : Nat) = wrdW fr pg (hdA sa last n) from rfl]
              refine ⟨(sc_own sc_end), fun hS => ?_⟩
              refine d_take 19 rfl rfl (by kernel_rfl) (by kernel_rfl) (by kernel_rfl) rfl hS (v_move rfl) ?_
              refine d_take 20 rfl rfl (by kernel_rfl) (by kernel_rfl) (by kernel_rfl) rfl hS (v_extract rfl rfl) ?_
              refine d_take 21 rfl rfl (by kernel_rfl) (by kernel_rfl) (by kernel_rfl) rfl hS (v_extract rfl rfl) ?_
              refine d_take 22 rfl rfl (by kernel_rfl) (by kernel_rfl) (by kernel_rfl) rfl hS (v_assign rfl) ?_
              refine d_take 23 rfl rfl (by kernel_rfl) (by kernel_rfl) (by kernel_rfl) rfl hS (v_assign rfl) ?_
              refine d_done (by kernel_rfl) ?_; clear hS
              refine n_then (x_seq (x_seq (x_region (s_val rfl (v_move rfl) (s_val rfl (v_not rfl) (x_nil (n_then ?_)))))))
              refine x_if rfl ?_ ?_
              · intro c13
                rw [if_neg c13] at hv
                refine x_seq (x_region (s_val rfl (v_move rfl) (s_do rfl (d_call1 Tryz.call219 rfl (rqBreaks_spec W0 _ b ⟨⟨sd, sa, su, n⟩, true, 0, last, put⟩ 5)) ?_)))
                rintro _ B_ ⟨rfl, hB_⟩
                obtain rfl := hB_.symm
                refine s_val rfl (v_extract rfl rfl) (s_val rfl (v_extract rfl rfl) (s_val rfl (v_extract rfl rfl) (s_val rfl (v_assign rfl) (s_val rfl (v_assign rfl) (s_val rfl (v_assign rfl) (x_nil (n_then (x_ret (r_then (x_done (.inl rfl) (.cons (r_tmp rfl) (.cons (r_tmp rfl) (.cons (r_tmp rfl) .nil))) ?_))))))))))
                subst hv
                rw [show nxR fr pg ⟨⟨sd, sa, su, n⟩, true, 0, last, put⟩ = (0, false, 5) from e1, show nxS fr pg ⟨⟨sd, sa, su, n⟩, true, 0, last, put⟩ = ⟨⟨sd, sa, su, n⟩, true, 5, last, put⟩ from e2]
                exact ⟨_, ⟨rfl, rfl⟩, inferInstance⟩
              · intro c13
                have o2 := Decidable.not_not.1 c13
                rw [if_pos o2] at hv
                refine x_skip (n_then (x_seq (x_seq (x_region (s_val rfl (v_move rfl) (s_val rfl (v_move rfl) ?_))))))
                refine s_val rfl (v_conv Tryz.underlying3 Tryz.underlying47 rfl (show IntKind.wrap .u32 (n : Int) = (n : Int) from w32u (by omega))) ?_
                refine s_val rfl (v_geq rfl rfl) (x_nil (n_then ?_))
                refine x_if rfl ?_ ?_
                · intro c15
                  try dsimp only at c15
                  rw [if_pos (by omega)] at hv
                  refine x_seq (x_region (s_val rfl (v_move rfl) (s_do rfl (d_call1 Tryz.call219 rfl (rqBreaks_spec W0 _ b ⟨⟨sd, sa, su, n⟩, true, 0, last, put⟩ 1)) ?_)))
                  rintro _ B_ ⟨rfl, hB_⟩
                  obtain rfl := hB_.symm
                  refine s_val rfl (v_extract rfl rfl) (s_val rfl (v_extract rfl rfl) (s_val rfl (v_extract rfl rfl) (s_val rfl (v_assign rfl) (s_val rfl (v_assign rfl) (s_val rfl (v_assign rfl) (x_nil (n_then (x_ret (r_then (x_done (.inl rfl) (.cons (r_tmp rfl) (.cons (r_tmp rfl) (.cons (r_tmp rfl) .nil))) ?_))))))))))
                  subst hv
                  rw [show nxR fr pg ⟨⟨sd, sa, su, n⟩, true, 0, last, put⟩ = (0, false, 1) from e1, show nxS fr pg ⟨⟨sd, sa, su, n⟩, true, 0, last, put⟩ = ⟨⟨sd, sa, su, n⟩, true, 1, last, put⟩ from e2]
                  exact ⟨_, ⟨rfl, rfl⟩, inferInstance⟩
                · intro c15
                  try dsimp only at c15
                  rw [if_neg (by omega)] at hv
                  refine x_skip (n_then (x_seq (x_region (s_val rfl (v_move rfl) (s_val rfl (v_move rfl) (s_val rfl (v_nilCheck rfl) ?_))))))
                  refine s_val rfl (v_fieldAddr rfl Tryz.underlying76 rfl Tryz.sizeOf73 rfl (by first | exact Nat.zero_add _ | rfl)) ?_
                  refine s_val rfl (v_fieldAddr rfl Tryz.underlying73 rfl Tryz.sizeOf3 rfl (by first | exact Nat.zero_add _ | rfl)) ?_
                  refine s_val rfl (v_load Tryz.isAgg3 rfl (cell_own rfl)) ?_
                  refine s_val rfl (v_add rfl rfl (by rw [w64 (by omega)]; omega : IntKind.wrap .i64 ((last : Int) + 1) = ((last + 1 : Nat) : Int))) ?_
                  refine s_val rfl (v_rem rfl rfl (by decide) (tmodN (last + 1) 65536)) ?_
                  refine s_val rfl (v_nilCheck rfl) ?_
                  refine s_val rfl (v_fieldAddr rfl Tryz.underlying76 rfl Tryz.sizeOf73 rfl (by first | exact Nat.zero_add _ | rfl)) ?_
                  refine s_val rfl (v_fieldAddr rfl Tryz.underlying73 rfl Tryz.sizeOf3 rfl (by first | exact Nat.zero_add _ | rfl)) ?_
                  refine s_do0 (d_store Tryz.sizeOf3 rfl rfl rfl (Nat.le_of_ble_eq_true rfl) SetL.eq) ?_
                  rintro _ _ rfl
                  refine x_nil (n_then (x_seq (x_region (s_val rfl (v_move rfl) ?_))))
                  refine s_val rfl (v_conv Tryz.underlying47 Tryz.underlying3 rfl (w64 (by omega))) ?_
                  refine s_val rfl (v_assign rfl) (s_val rfl (v_assign rfl) (s_val rfl (v_assign rfl) (x_nil (n_then (x_ret (x_done (.inl rfl) (.cons (r_tmp rfl) (.cons (r_tmp rfl) (.cons (r_tmp rfl) .nil))) ?_))))))
                  subst hv
                  rw [show nxR fr pg ⟨⟨sd, sa, su, n⟩, true, 0, last, put⟩ = (wrdW fr pg (hdA sa last n), true, 0) from e1, show nxS fr pg ⟨⟨sd, sa, su, n⟩, true, 0, last, put⟩ = ⟨⟨sd, sa, su, n⟩, true, 0, (last + 1) % 65536, put⟩ from e2]
                  exact ⟨_, ⟨rfl, rfl⟩, inferInstance⟩
  · have hu' : ¬ (on = true ∧ br = 0) := by simpa using hu
    simp only [nxR, nxS, if_neg hu]
    refine spec_body Tryz.func157 Tryz.ntmps157 rfl rfl ?_
    refine x_seq (x_region (s_val rfl (v_assign rfl) (s_val rfl (v_assign rfl) (s_val rfl (v_assign rfl) (x_nil (n_then (x_seq (x_seq (x_region (s_val rfl (v_move rfl) (s_val rfl (v_nilCheck rfl) ?_)))))))))))
    refine s_val rfl (v_fieldAddr rfl Tryz.underlying76 rfl Tryz.sizeOf73 rfl (by first | exact Nat.zero_add _ | rfl)) ?_
    refine s_val rfl (v_fieldAddr rfl Tryz.underlying73 rfl Tryz.sizeOf4 rfl (by first | exact Nat.zero_add _ | rfl)) ?_
    refine s_val rfl (v_load Tryz.isAgg4 rfl (cell_own rfl)) ?_
    refine s_val rfl (v_not rfl) (s_val rfl (v_move rfl) ?_)
    refine s_or rfl rfl rfl ?_ ?_
    · intro g1_7
      refine s_no rfl rfl rfl rfl (s_no rfl rfl rfl rfl (s_no rfl rfl rfl rfl (s_no rfl rfl rfl rfl (s_no rfl rfl rfl rfl (s_val rfl (v_pick_t rfl rfl) (x_nil (n_then (x_ift rfl (x_seq ?_)))))))))
      refine x_draw [(b, 0, _)] 8 mixed rfl (sc_own sc_end) (fun hS => ?_)
      refine d_take 0 rfl rfl (by kernel_rfl) (by kernel_rfl) (by kernel_rfl) rfl hS (v_move rfl) ?_
      refine d_take 1 rfl rfl (by kernel_rfl) (by kernel_rfl) (by kernel_rfl) rfl hS (v_nilCheck rfl) ?_
      refine d_take 2 rfl rfl (by kernel_rfl) (by kernel_rfl) (by kernel_rfl) rfl hS (v_fieldAddr rfl Tryz.underlying76 rfl Tryz.sizeOf73 rfl (by first | exact Nat.zero_add _ | rfl)) ?_
      refine d_take 3 rfl rfl (by kernel_rfl) (by kernel_rfl) (by kernel_rfl) rfl hS (v_fieldAddr rfl Tryz.underlying73 rfl Tryz.sizeOf3 rfl (by first | exact Nat.zero_add _ | rfl)) ?_
      refine d_take 4 rfl rfl (by kernel_rfl) (by kernel_rfl) (by kernel_rfl) rfl hS (v_load Tryz.isAgg3 rfl (cell_sc0 (k := 0) rfl rfl)) ?_
      refine d_take 5 rfl rfl (by kernel_rfl) (by kernel_rfl) (by kernel_rfl) rfl hS (v_assign rfl) ?_
      refine d_take 6 rfl rfl (by kernel_rfl) (by kernel_rfl) (by kernel_rfl) rfl hS (v_assign rfl) ?_
      refine d_take 7 rfl rfl (by kernel_rfl) (by kernel_rfl) (by kernel_rfl) rfl hS (v_assign rfl) ?_
      refine d_done (by kernel_rfl) ?_; clear hS
      refine n_then (x_ret (r_then (x_done (.inl rfl) (.cons (r_tmp rfl) (.cons (r_tmp rfl) (.cons (r_tmp rfl) .nil))) ?_)))
      exact ⟨_, ⟨rfl, rfl⟩, inferInstance⟩
    · intro g1_7
      refine s_val rfl (v_move rfl) (s_yes rfl rfl (s_val rfl (v_nilCheck rfl) (s_yes rfl rfl ?_)))
      refine s_val rfl (v_fieldAddr rfl Tryz.underlying76 rfl Tryz.sizeOf73 rfl (by first | exact Nat.zero_add _ | rfl)) ?_
      refine s_yes rfl rfl ?_
      refine s_val rfl (v_fieldAddr rfl Tryz.underlying73 rfl Tryz.sizeOf3 rfl (by first | exact Nat.zero_add _ | rfl)) ?_
      refine s_yes rfl rfl (s_val rfl (v_load Tryz.isAgg3 rfl (cell_own rfl)) ?_)
      refine s_yes rfl rfl (s_val rfl (v_neq rfl rfl) (s_val rfl (v_pick_f rfl rfl) (x_nil (n_then ?_))))
      refine x_if rfl ?_ ?_
      · intro c1
        refine x_seq ?_
        refine x_draw [(b, 0, _)] 8 mixed rfl (sc_own sc_end) (fun hS => ?_)
        refine d_take 0 rfl rfl (by kernel_rfl) (by kernel_rfl) (by kernel_rfl) rfl hS (v_move rfl) ?_
        refine d_take 1 rfl rfl (by kernel_rfl) (by kernel_rfl) (by kernel_rfl) rfl hS (v_nilCheck rfl) ?_
        refine d_take 2 rfl rfl (by kernel_rfl) (by kernel_rfl) (by kernel_rfl) rfl hS (v_fieldAddr rfl Tryz.underlying76 rfl Tryz.sizeOf73 rfl (by first | exact Nat.zero_add _ | rfl)) ?_
        refine d_take 3 rfl rfl (by kernel_rfl) (by kernel_rfl) (by kernel_rfl) rfl hS (v_fieldAddr rfl Tryz.underlying73 rfl Tryz.sizeOf3 rfl (by first | exact Nat.zero_add _ | rfl)) ?_
        refine d_take 4 rfl rfl (by kernel_rfl) (by kernel_rfl) (by kernel_rfl) rfl hS (v_load Tryz.isAgg3 rfl (cell_sc0 (k := 0) rfl rfl)) ?_
        refine d_take 5 rfl rfl (by kernel_rfl) (by kernel_rfl) (by kernel_rfl) rfl hS (v_assign rfl) ?_
        refine d_take 6 rfl rfl (by kernel_rfl) (by kernel_rfl) (by kernel_rfl) rfl hS (v_assign rfl) ?_
        refine d_take 7 rfl rfl (by kernel_rfl) (by kernel_rfl) (by kernel_rfl) rfl hS (v_assign rfl) ?_
        refine d_done (by kernel_rfl) ?_; clear hS
        refine n_then (x_ret (r_then (x_done (.inl rfl) (.cons (r_tmp rfl) (.cons (r_tmp rfl) (.cons (r_tmp rfl) .nil))) ?_)))
        exact ⟨_, ⟨rfl, rfl⟩, inferInstance⟩
      · intro c1
        simp_all
theorem rqTake_spec (W0 : World) (R : List HP) (b qv qs qm d : Nat) (fr : List Frm) (pg : List Pl) (h : Pgs pg) (hF : Frs fr) (s : QS) (hs : QOk s) (hr : s.r.ok) :
    Spec Tryz.prog W0 90 [.pointer (some ⟨b, 0, none⟩), .pointer (some ⟨qv, 0, none⟩)] (pt b (rqO s) :: rvwW qv qs qm d fr pg R)
      (fun v B => ∃ a c, v = .tuple #[.int .i64 ((tkR fr pg s).1 : Nat), .slice a (tkR fr pg s).2.1.length c, .bool (tkR fr pg s).2.2.1, .int .i64 (tkR fr pg s).2.2.2] ∧
        B = osl 139 4 (.slice a (tkR fr pg s).2.1.length c) ((tkR fr pg s).2.1.flatMap dsV) :: pt b (rqO (tkS fr pg s)) :: rvwW qv qs qm d fr pg R) := by
  obtain ⟨x, hx⟩ : ∃ x, nxR fr pg s = x := ⟨_, rfl⟩
  obtain ⟨y, hy⟩ : ∃ y, wkAll fr pg s.r x.1 = y := ⟨_, rfl⟩
  have hq : tkL fr pg s = y := by rw [tkL, hx, hy]
  have hsr := nxS_r fr pg s
  obtain ⟨z, hz⟩ : ∃ z, nxS fr pg s = z := ⟨_, rfl⟩
  rw [hz] at hsr
  simp only [tkR, tkS, hx, hq, hz]
  refine spec_body Tryz.func90 Tryz.ntmps90 rfl rfl ?_
  refine x_seq (x_region (s_val rfl (v_assign rfl) (s_val rfl (v_assign rfl) (s_val rfl (v_assign rfl) (s_val rfl (v_assign rfl) (x_nil (n_then (x_seq (x_region (s_val rfl (v_move rfl) (s_val rfl (v_move rfl) (s_do rfl (d_call4 Tryz.call157 rfl (rqNext_spec W0 _ b qv qs qm d fr pg h hF s hs)) ?_))))))))))))
  rintro _ B_ ⟨rfl, hB_⟩
  obtain rfl := hB_.symm
  rw [hx, hz]
  refine s_val rfl (v_move rfl) (s_val rfl (v_extract rfl rfl) (s_val rfl (v_extract rfl rfl) (s_val rfl (v_extract rfl rfl) (s_val rfl (v_assign rfl) (s_val rfl (v_assign rfl) (s_val rfl (v_assign rfl) (x_nil (n_then (x_seq (x_seq (x_region (s_val rfl (v_move rfl) (s_val rfl (v_not rfl) (x_nil (n_then ?_)))))))))))))))
  refine x_if rfl ?_ ?_
  · intro c2
    refine x_seq (x_region (s_val rfl (v_move rfl) (s_val rfl (v_assign rfl) (s_val rfl (v_assign rfl) (s_val rfl (v_assign rfl) (s_val rfl (v_assign rfl) (x_nil (n_then (x_ret (r_then (x_done (.inl rfl) (.cons (r_tmp rfl) (.cons (r_tmp rfl) (.cons (r_tmp rfl) (.cons (r_tmp rfl) .nil)))) ?_)))))))))))
    rw [if_neg c2, if_neg c2]
    exact ⟨_, ⟨none, 0, rfl, rfl⟩, ent_osl_nil⟩
  · intro c2
    have c2' : x.2.1 = true := Decidable.not_not.1 c2
    rw [if_pos c2', if_pos c2']
    refine x_skip (n_then (x_seq (x_region (s_val rfl (v_move rfl) (s_val rfl (v_move rfl) (s_val rfl (v_nilCheck rfl) ?_))))))
    refine s_val rfl (v_fieldAddr rfl Tryz.underlying76 rfl Tryz.sizeOf73 rfl (by first | exact Nat.zero_add _ | rfl)) ?_
    refine s_val rfl (v_fieldAddr rfl Tryz.underlying73 rfl Tryz.sizeOf71 rfl (by first | exact Nat.zero_add _ | rfl)) ?_
    refine s_val rfl (v_loadPart Tryz.isAgg71 Tryz.sizeOf71 rfl TakeL.eq rfl) ?_
    refine s_val rfl (v_move rfl) ?_
    refine s_do rfl (d_call3 Tryz.call158 rfl (rcWalk_spec W0 _ qv qs qm d fr pg h hF z.r (by rw [hsr]; exact hr) x.1)) ?_
    rintro _ B_ ⟨a, c, rfl, hB_⟩
    obtain rfl := hB_.symm
    rw [show wkAll fr pg z.r x.1 = y by rw [hsr, hy]]
    refine s_val rfl (v_move rfl) (s_val rfl (v_extract rfl rfl) (s_val rfl (v_extract rfl rfl) (s_val rfl (v_assign rfl) (s_val rfl (v_assign rfl) (x_nil (n_then (x_seq (x_seq (x_region (s_val rfl (v_move rfl) (s_val rfl (v_neq rfl rfl) (x_nil (n_then ?_)))))))))))))
    refine x_if rfl ?_ ?_
    · intro c5
      rw [if_pos c5, if_pos c5]
      refine x_seq (x_region (s_val rfl (v_move rfl) (s_val rfl (v_move rfl) (s_val rfl (v_nilCheck rfl) ?_))))
      refine s_val rfl (v_fieldAddr rfl Tryz.underlying76 rfl Tryz.sizeOf73 rfl (by first | exact Nat.zero_add _ | rfl)) ?_
      refine s_val rfl (v_fieldAddr rfl Tryz.underlying73 rfl Tryz.sizeOf3 rfl (by first | exact Nat.zero_add _ | rfl)) ?_
      refine s_do0 (d_store Tryz.sizeOf3 rfl rfl rfl (Nat.le_of_ble_eq_true rfl) SetL.eq) ?_
      rintro _ _ rfl
      refine x_nil (n_then (x_seq (x_region (s_val rfl (v_move rfl) (s_val rfl (v_assign rfl) (s_val rfl (v_assign rfl) (s_val rfl (v_assign rfl) (s_val rfl (v_assign rfl) (x_nil (n_then (x_ret (r_then (x_done (.inl rfl) (.cons (r_tmp rfl) (.cons (r_tmp rfl) (.cons (r_tmp rfl) (.cons (r_tmp rfl) .nil)))) ?_)))))))))))))
      exact ⟨_, ⟨none, 0, rfl, rfl⟩, ent_osl_nil⟩
    · intro c5
      rw [if_neg c5, if_neg c5]
      refine x_skip (n_then (x_seq (x_region (s_val rfl (v_move rfl) (s_val rfl (v_move rfl) (s_val rfl (v_assign rfl) (s_val rfl (v_assign rfl) (s_val rfl (v_assign rfl) (s_val rfl (v_assign rfl) (x_nil (n_then (x_ret (x_done (.inl rfl) (.cons (r_tmp rfl) (.cons (r_tmp rfl) (.cons (r_tmp rfl) (.cons (r_tmp rfl) .nil)))) ?_)))))))))))))
      exact ⟨_, ⟨a, c, rfl, rfl⟩, inferInstance⟩
theorem rqDone_spec (W0 : World) (R : List HP) (b qv qs qm d : Nat) (fr : List Frm) (pg : List Pl) (h : Pgs pg) (hF : Frs fr) (hd : d < 4096) (s : QS) (hs : QOk s) (x y : Int) :
    Spec Tryz.prog W0 98 [.pointer (some ⟨b, 0, none⟩), .pointer (some ⟨qv, 0, none⟩), .int .i64 x, .int .i64 y] (pt b (rqO s) :: rvwW qv qs qm d fr pg R)
      (fun v B => v = .int .i64 (dnX fr pg d s (u32N x) (u32N y)).c ∧ B = pt b (rqO (dnX fr pg d s (u32N x) (u32N y)).s) :: rvwW qv qs qm (dnX fr pg d s (u32N x) (u32N y)).d (dnX fr pg d s (u32N x) (u32N y)).fr pg R) := by
  obtain ⟨⟨sd, sa, su, sn⟩, on, br, last, put⟩ := s
  by_cases hu : (on && decide (br = 0)) = true
  · have hu' : on = true ∧ br = 0 := by simpa using hu
    obtain ⟨rfl, rfl⟩ := hu'
    have hN := hs.n rfl
    obtain ⟨n, rfl⟩ : ∃ n : Nat, sn = (n : Int) := ⟨sn.toNat, by dsimp only at hN; omega⟩
    have hn : n = 2 ∨ n = 4 ∨ n = 8 := by dsimp only at hN; omega
    have ha : su ≤ 1000 := hs.us rfl
    have hp : put < 65536 := hs.put
    have hm := Nat.mod_lt put (show 0 < n by omega)
    have hx := u32N_lt x
    have hy := u32N_lt y
    have hA : dnA ⟨⟨sd, sa, su, n⟩, true, 0, last, put⟩ = su + 4 + 8 * (put % n) := rfl
    obtain ⟨hX1, hX2, hX3⟩ := dnX_cases fr pg d sd sa su n last put (u32N x) (u32N y)
    obtain ⟨d1, d2, d3⟩ := dnD_lt (fr := fr) (pg := pg) (s := ⟨⟨sd, sa, su, n⟩, true, 0, last, put⟩) (h := u32N x) (n := u32N y) hd
    obtain ⟨f1, l1⟩ := dnF1_ok hF pg ⟨⟨sd, sa, su, n⟩, true, 0, last, put⟩ (u32N x)
    obtain ⟨f2, l2⟩ := dnF2_ok hF pg ⟨⟨sd, sa, su, n⟩, true, 0, last, put⟩ (u32N x) (u32N y)
    refine spec_body Tryz.func98 Tryz.ntmps98 rfl rfl ?_
    refine x_seq (x_region (s_val rfl (v_assign rfl) (x_nil (n_then (x_seq (x_seq (x_region (s_val rfl (v_move rfl) (s_val rfl (v_nilCheck rfl) ?_)))))))))
    refine s_val rfl (v_fieldAddr rfl Tryz.underlying76 rfl Tryz.sizeOf73 rfl (by first | exact Nat.zero_add _ | rfl)) ?_
    refine s_val rfl (v_fieldAddr rfl Tryz.underlying73 rfl Tryz.sizeOf4 rfl (by first | exact Nat.zero_add _ | rfl)) ?_
    refine s_val rfl (v_load Tryz.isAgg4 rfl (cell_own rfl)) ?_
    refine s_val rfl (v_not rfl) (s_val rfl (v_move rfl) ?_)
    refine s_or rfl rfl rfl ?_ ?_
    · intro g1_7
      exact absurd rfl g1_7
    · intro g1_7
      refine s_val rfl (v_move rfl) (s_yes rfl rfl (s_val rfl (v_nilCheck rfl) (s_yes rfl rfl ?_)))
      refine s_val rfl (v_fieldAddr rfl Tryz.underlying76 rfl Tryz.sizeOf73 rfl (by first | exact Nat.zero_add _ | rfl)) ?_
      refine s_yes rfl rfl ?_
      refine s_val rfl (v_fieldAddr rfl Tryz.underlying73 rfl Tryz.sizeOf3 rfl (by first | exact Nat.zero_add _ | rfl)) ?_
      refine s_yes rfl rfl (s_val rfl (v_load Tryz.isAgg3 rfl (cell_own rfl)) ?_)
      refine s_yes rfl rfl (s_val rfl (v_neq rfl rfl) (s_val rfl (v_pick_f rfl rfl) (x_nil (n_then ?_))))
      refine x_if rfl ?_ ?_
      · intro c1
        exact absurd rfl c1
      · intro c1
        refine x_skip (n_then (x_seq ?_))
        refine x_draw [(b, 0, _)] 23 mixed rfl (sc_own sc_end) (fun hS => ?_)
        refine d_take 0 rfl rfl (by kernel_rfl) (by kernel_rfl) (by kernel_rfl) rfl hS (v_move rfl) ?_
        refine d_take 1 rfl rfl (by kernel_rfl) (by kernel_rfl) (by kernel_rfl) rfl hS (v_nilCheck rfl) ?_
        refine d_take 2 rfl rfl (by kernel_rfl) (by kernel_rfl) (by kernel_rfl) rfl hS (v_fieldAddr rfl Tryz.underlying76 rfl Tryz.sizeOf73 rfl (by first | exact Nat.zero_add _ | rfl)) ?_
        refine d_take 3 rfl rfl (by kernel_rfl) (by kernel_rfl) (by kernel_rfl) rfl hS (v_fieldAddr rfl Tryz.underlying73 rfl Tryz.sizeOf71 rfl (by first | exact Nat.zero_add _ | rfl)) ?_
        refine d_take 4 rfl rfl (by kernel_rfl) (by kernel_rfl) (by kernel_rfl) rfl hS (v_fieldAddr rfl Tryz.underlying71 rfl Tryz.sizeOf47 rfl (by first | exact Nat.zero_add _ | rfl)) ?_
        refine d_take 5 rfl rfl (by kernel_rfl) (by kernel_rfl) (by kernel_rfl) rfl hS (v_load Tryz.isAgg47 rfl (cell_sc0 (k := 0) rfl rfl)) ?_
        refine d_take 6 rfl rfl (by kernel_rfl) (by kernel_rfl) (by kernel_rfl) rfl hS (v_add rfl rfl (by rw [w32u (by omega)]; omega : IntKind.wrap .u32 ((su : Int) + 4) = ((su + 4 : Nat) : Int))) ?_
        refine d_take 7 rfl rfl (by kernel_rfl) (by kernel_rfl) (by kernel_rfl) rfl hS (v_move rfl) ?_
        refine d_take 8 rfl rfl (by kernel_rfl) (by kernel_rfl) (by kernel_rfl) rfl hS (v_nilCheck rfl) ?_
        refine d_take 9 rfl rfl (by kernel_rfl) (by kernel_rfl) (by kernel_rfl) rfl hS (v_fieldAddr rfl Tryz.underlying76 rfl Tryz.sizeOf73 rfl (by first | exact Nat.zero_add _ | rfl)) ?_
        refine d_take 10 rfl rfl (by kernel_rfl) (by kernel_rfl) (by kernel_rfl) rfl hS (v_fieldAddr rfl Tryz.underlying73 rfl Tryz.sizeOf3 rfl (by first | exact Nat.zero_add _ | rfl)) ?_
        refine d_take 11 rfl rfl (by kernel_rfl) (by kernel_rfl) (by kernel_rfl) rfl hS (v_load Tryz.isAgg3 rfl (cell_sc0 (k := 0) rfl rfl)) ?_
        refine d_take 12 rfl rfl (by kernel_rfl) (by kernel_rfl) (by kernel_rfl) rfl hS (v_move rfl) ?_
        refine d_take 13 rfl rfl (by kernel_rfl) (by kernel_rfl) (by kernel_rfl) rfl hS (v_nilCheck rfl) ?_
        refine d_take 14 rfl rfl (by kernel_rfl) (by kernel_rfl) (by kernel_rfl) rfl hS (v_fieldAddr rfl Tryz.underlying76 rfl Tryz.sizeOf73 rfl (by first | exact Nat.zero_add _ | rfl)) ?_
        refine d_take 15 rfl rfl (by kernel_rfl) (by kernel_rfl) (by kernel_rfl) rfl hS (v_fieldAddr rfl Tryz.underlying73 rfl Tryz.sizeOf71 rfl (by first | exact Nat.zero_add _ | rfl)) ?_
        refine d_take 16 rfl rfl (by kernel_rfl) (by kernel_rfl) (by kernel_rfl) rfl hS (v_fieldAddr rfl Tryz.underlying71 rfl Tryz.sizeOf3 rfl (by first | exact Nat.zero_add _ | rfl)) ?_
        refine d_take 17 rfl rfl (by kernel_rfl) (by kernel_rfl) (by kernel_rfl) rfl hS (v_load Tryz.isAgg3 rfl (cell_sc0 (k := 0) rfl rfl)) ?_
        refine d_take 18 rfl rfl (by kernel_rfl) (by kernel_rfl) (by kernel_rfl) rfl hS (v_rem rfl rfl (show ((n : Nat) : Int) ≠ 0 by omega) (tmodN put n)) ?_
        refine d_take 19 rfl rfl (by kernel_rfl) (by kernel_rfl) (by kernel_rfl) rfl hS (v_conv Tryz.underlying3 Tryz.underlying47 rfl (w32u (by omega))) ?_
        refine d_take 20 rfl rfl (by kernel_rfl) (by kernel_rfl) (by kernel_rfl) rfl hS (v_mul rfl rfl (by rw [w32u (by omega)]; omega : IntKind.wrap .u32 (8 * ((put % n : Nat) : Int)) = ((8 * (put % n) : Nat) : Int))) ?_
        refine d_take 21 rfl rfl (by kernel_rfl) (by kernel_rfl) (by kernel_rfl) rfl hS (v_add rfl rfl (by rw [w32u (by omega), hA]; omega : IntKind.wrap .u32 (((su + 4 : Nat) : Int) + ((8 * (put % n) : Nat) : Int)) = ((dnA ⟨⟨sd, sa, su, n⟩, true, 0, last, put⟩ : Nat) : Int))) ?_
        refine d_take 22 rfl rfl (by kernel_rfl) (by kernel_rfl) (by kernel_rfl) rfl hS (v_assign rfl) ?_
        refine d_done (by kernel_rfl) ?_; clear hS
        refine n_then (x_seq (x_region (s_val rfl (v_move rfl) (s_val rfl (v_nilCheck rfl) ?_))))
        refine s_val rfl (v_fieldAddr rfl Tryz.underlying76 rfl Tryz.sizeOf73 rfl (by first | exact Nat.zero_add _ | rfl)) ?_
        refine s_val rfl (v_fieldAddr rfl Tryz.underlying73 rfl Tryz.sizeOf3 rfl (by first | exact Nat.zero_add _ | rfl)) ?_
        refine s_val rfl (v_load Tryz.isAgg3 rfl (cell_own rfl)) ?_
        refine s_val rfl (v_add rfl rfl (by rw [w64 (by omega)]; omega : IntKind.wrap .i64 ((put : Int) + 1) = ((put + 1 : Nat) : Int))) ?_
        refine s_val rfl (v_rem rfl rfl (by decide) (tmodN (put + 1) 65536)) ?_
        refine s_val rfl (v_assign rfl) (x_nil (n_then (x_seq (x_seq (x_region (s_val rfl (v_move rfl) (s_val rfl (v_move rfl) (s_val rfl (v_move rfl) (s_val rfl (v_conv Tryz.underlying3 Tryz.underlying47 rfl (wrap_u32N x)) ?_)))))))))
        refine s_do rfl (d_call3 Tryz.call164 rfl (rvPut_spec W0 _ qv qs qm d fr pg h hF (dnA ⟨⟨sd, sa, su, n⟩, true, 0, last, put⟩) (by omega) (u32N x) hx)) ?_
        rintro _ B_ ⟨rfl, hB_⟩
        obtain rfl := hB_.symm
        refine s_val rfl (v_not rfl) (s_val rfl (v_move rfl) ?_)
        refine s_or rfl rfl rfl ?_ ?_
        · intro g5_7
          refine s_no rfl rfl rfl rfl (s_no rfl rfl rfl rfl (s_no rfl rfl rfl rfl (s_no rfl rfl rfl rfl (s_no rfl rfl rfl rfl (s_no rfl rfl rfl rfl (s_val rfl (v_pick_t rfl rfl) (x_nil (n_then (x_ift rfl (x_seq (x_region (s_val rfl (v_move rfl) (s_val rfl (v_nilCheck rfl) ?_)))))))))))))
          refine s_val rfl (v_fieldAddr rfl Tryz.underlying76 rfl Tryz.sizeOf73 rfl (by first | exact Nat.zero_add _ | rfl)) ?_
          refine s_val rfl (v_fieldAddr rfl Tryz.underlying73 rfl Tryz.sizeOf3 rfl (by first | exact Nat.zero_add _ | rfl)) ?_
          refine s_do0 (d_store Tryz.sizeOf3 rfl rfl rfl (Nat.le_of_ble_eq_true rfl) SetL.eq) ?_
          rintro _ _ rfl
          refine x_nil (n_then (x_seq (x_region (s_val rfl (v_assign rfl) (x_nil (n_then (x_ret (r_then (x_done (.inl rfl) (.cons (r_tmp rfl) .nil) ?_)))))))))
          first
            | (rw [hX1 (by simp_all)]; exact ⟨_, ⟨rfl, rfl⟩, inferInstance⟩)
            | (rw [hX2 (by simp_all) (by simp_all)]; exact ⟨_, ⟨rfl, rfl⟩, inferInstance⟩)
        · intro g5_7
          refine s_val rfl (v_move rfl) (s_yes rfl rfl (s_val rfl (v_move rfl) (s_yes rfl rfl ?_)))
          refine s_val rfl (v_add rfl rfl (by rw [w32u (by omega)]; omega : IntKind.wrap .u32 (((dnA ⟨⟨sd, sa, su, n⟩, true, 0, last, put⟩ : Nat) : Int) + 4) = ((dnA ⟨⟨sd, sa, su, n⟩, true, 0, last, put⟩ + 4 : Nat) : Int))) ?_
          refine s_yes rfl rfl (s_val rfl (v_move rfl) (s_yes rfl rfl (s_val rfl (v_conv Tryz.underlying3 Tryz.underlying47 rfl (wrap_u32N y)) ?_)))
          refine s_yes rfl rfl ?_
          refine s_do rfl (d_call3 Tryz.call164 rfl (rvPut_spec W0 _ qv qs qm (dnD1 fr pg d ⟨⟨sd, sa, su, n⟩, true, 0, last, put⟩) (dnF1 fr pg ⟨⟨sd, sa, su, n⟩, true, 0, last, put⟩ (u32N x)) pg h f1 (dnA ⟨⟨sd, sa, su, n⟩, true, 0, last, put⟩ + 4) (by omega) (u32N y) hy)) ?_
          rintro _ B_ ⟨rfl, hB_⟩
          obtain rfl := hB_.symm
          rw [l1]
          refine s_yes rfl rfl (s_val rfl (v_not rfl) (s_val rfl (v_pick_f rfl rfl) (x_nil (n_then ?_))))
          refine x_if rfl ?_ ?_
          · intro c5
            refine x_seq (x_region (s_val rfl (v_move rfl) (s_val rfl (v_nilCheck rfl) ?_)))
            refine s_val rfl (v_fieldAddr rfl Tryz.underlying76 rfl Tryz.sizeOf73 rfl (by first | exact Nat.zero_add _ | rfl)) ?_
            refine s_val rfl (v_fieldAddr rfl Tryz.underlying73 rfl Tryz.sizeOf3 rfl (by first | exact Nat.zero_add _ | rfl)) ?_
            refine s_do0 (d_store Tryz.sizeOf3 rfl rfl rfl (Nat.le_of_ble_eq_true rfl) SetL.eq) ?_
            rintro _ _ rfl
            refine x_nil (n_then (x_seq (x_region (s_val rfl (v_assign rfl) (x_nil (n_then (x_ret (r_then (x_done (.inl rfl) (.cons (r_tmp rfl) .nil) ?_)))))))))
            first
              | (rw [hX1 (by simp_all)]; exact ⟨_, ⟨rfl, rfl⟩, inferInstance⟩)
              | (rw [hX2 (by simp_all) (by simp_all)]; exact ⟨_, ⟨rfl, rfl⟩, inferInstance⟩)
          · intro c5
            refine x_skip (n_then (x_seq (x_region (s_val rfl (v_move rfl) (s_val rfl (v_move rfl) (s_val rfl (v_nilCheck rfl) ?_))))))
            refine s_val rfl (v_fieldAddr rfl Tryz.underlying76 rfl Tryz.sizeOf73 rfl (by first | exact Nat.zero_add _ | rfl)) ?_
            refine s_val rfl (v_fieldAddr rfl Tryz.underlying73 rfl Tryz.sizeOf3 rfl (by first | exact Nat.zero_add _ | rfl)) ?_
            refine s_do0 (d_store Tryz.sizeOf3 rfl rfl rfl (Nat.le_of_ble_eq_true rfl) SetL.eq) ?_
            rintro _ _ rfl
            refine x_nil (n_then (x_seq (x_seq (x_region (s_val rfl (v_move rfl) (s_val rfl (v_move rfl) (s_val rfl (v_nilCheck rfl) ?_)))))))
            refine s_val rfl (v_fieldAddr rfl Tryz.underlying76 rfl Tryz.sizeOf73 rfl (by first | exact Nat.zero_add _ | rfl)) ?_
            refine s_val rfl (v_fieldAddr rfl Tryz.underlying73 rfl Tryz.sizeOf71 rfl (by first | exact Nat.zero_add _ | rfl)) ?_
            refine s_val rfl (v_fieldAddr rfl Tryz.underlying71 rfl Tryz.sizeOf47 rfl (by first | exact Nat.zero_add _ | rfl)) ?_
            refine s_val rfl (v_load Tryz.isAgg47 rfl (cell_own rfl)) ?_
            refine s_val rfl (v_move rfl) ?_
            refine s_val rfl (v_conv Tryz.underlying3 Tryz.underlying47 rfl (w32u (by omega))) ?_
            refine s_do rfl (d_call3 Tryz.call164 rfl (rvPut_spec W0 _ qv qs qm (dnD2 fr pg d ⟨⟨sd, sa, su, n⟩, true, 0, last, put⟩ (u32N x)) (dnF2 fr pg ⟨⟨sd, sa, su, n⟩, true, 0, last, put⟩ (u32N x) (u32N y)) pg h f2 su (by omega) ((put + 1) % 65536) (by omega))) ?_
            rintro _ B_ ⟨rfl, hB_⟩
            obtain rfl := hB_.symm
            rw [l2]
            refine s_val rfl (v_not rfl) (x_nil (n_then ?_))
            refine x_if rfl ?_ ?_
            · intro c9
              refine x_seq (x_region (s_val rfl (v_move rfl) (s_val rfl (v_nilCheck rfl) ?_)))
              refine s_val rfl (v_fieldAddr rfl Tryz.underlying76 rfl Tryz.sizeOf73 rfl (by first | exact Nat.zero_add _ | rfl)) ?_
              refine s_val rfl (v_fieldAddr rfl Tryz.underlying73 rfl Tryz.sizeOf3 rfl (by first | exact Nat.zero_add _ | rfl)) ?_
              refine s_do0 (d_store Tryz.sizeOf3 rfl rfl rfl (Nat.le_of_ble_eq_true rfl) SetL.eq) ?_
              rintro _ _ rfl
              refine x_nil (n_then (x_seq (x_region (s_val rfl (v_assign rfl) (x_nil (n_then (x_ret (r_then (x_done (.inl rfl) (.cons (r_tmp rfl) .nil) ?_)))))))))
              rw [hX3 (by simp_all) (by simp_all) 5 (by simp_all)]; exact ⟨_, ⟨rfl, rfl⟩, inferInstance⟩
            · intro c9
              refine x_skip (n_then (x_seq (x_region (s_val rfl (v_assign rfl) (x_nil (n_then (x_ret (x_done (.inl rfl) (.cons (r_tmp rfl) .nil) ?_))))))))
              rw [hX3 (by simp_all) (by simp_all) 0 (by simp_all)]; exact ⟨_, ⟨rfl, rfl⟩, inferInstance⟩
  · have hu' : ¬ (on = true ∧ br = 0) := by simpa using hu
    have hX : dnX fr pg d ⟨⟨sd, sa, su, sn⟩, on, br, last, put⟩ (u32N x) (u32N y) = ⟨br, ⟨⟨sd, sa, su, sn⟩, on, br, last, put⟩, fr, d⟩ := by rw [dnX, if_neg hu]
    rw [hX]
    refine spec_body Tryz.func98 Tryz.ntmps98 rfl rfl ?_
    refine x_seq (x_region (s_val rfl (v_assign rfl) (x_nil (n_then (x_seq (x_seq (x_region (s_val rfl (v_move rfl) (s_val rfl (v_nilCheck rfl) ?_)))))))))
    refine s_val rfl (v_fieldAddr rfl Tryz.underlying76 rfl Tryz.sizeOf73 rfl (by first | exact Nat.zero_add _ | rfl)) ?_
    refine s_val rfl (v_fieldAddr rfl Tryz.underlying73 rfl Tryz.sizeOf4 rfl (by first | exact Nat.zero_add _ | rfl)) ?_
    refine s_val rfl (v_load Tryz.isAgg4 rfl (cell_own rfl)) ?_
    refine s_val rfl (v_not rfl) (s_val rfl (v_move rfl) ?_)
    refine s_or rfl rfl rfl ?_ ?_
    · intro g1_7
      refine s_no rfl rfl rfl rfl (s_no rfl rfl rfl rfl (s_no rfl rfl rfl rfl (s_no rfl rfl rfl rfl (s_no rfl rfl rfl rfl (s_val rfl (v_pick_t rfl rfl) (x_nil (n_then (x_ift rfl (x_seq (x_region (s_val rfl (v_move rfl) (s_val rfl (v_nilCheck rfl) ?_))))))))))))
      refine s_val rfl (v_fieldAddr rfl Tryz.underlying76 rfl Tryz.sizeOf73 rfl (by first | exact Nat.zero_add _ | rfl)) ?_
      refine s_val rfl (v_fieldAddr rfl Tryz.underlying73 rfl Tryz.sizeOf3 rfl (by first | exact Nat.zero_add _ | rfl)) ?_
      refine s_val rfl (v_load Tryz.isAgg3 rfl (cell_own rfl)) ?_
      refine s_val rfl (v_assign rfl) (x_nil (n_then (x_ret (r_then (x_done (.inl rfl) (.cons (r_tmp rfl) .nil) ?_)))))
      exact ⟨_, ⟨rfl, rfl⟩, inferInstance⟩
    · intro g1_7
      refine s_val rfl (v_move rfl) (s_yes rfl rfl (s_val rfl (v_nilCheck rfl) (s_yes rfl rfl ?_)))
      refine s_val rfl (v_fieldAddr rfl Tryz.underlying76 rfl Tryz.sizeOf73 rfl (by first | exact Nat.zero_add _ | rfl)) ?_
      refine s_yes rfl rfl ?_
      refine s_val rfl (v_fieldAddr rfl Tryz.underlying73 rfl Tryz.sizeOf3 rfl (by first | exact Nat.zero_add _ | rfl)) ?_
      refine s_yes rfl rfl (s_val rfl (v_load Tryz.isAgg3 rfl (cell_own rfl)) ?_)
      refine s_yes rfl rfl (s_val rfl (v_neq rfl rfl) (s_val rfl (v_pick_f rfl rfl) (x_nil (n_then ?_))))
      refine x_if rfl ?_ ?_
      · intro c1
        refine x_seq (x_region (s_val rfl (v_move rfl) (s_val rfl (v_nilCheck rfl) ?_)))
        refine s_val rfl (v_fieldAddr rfl Tryz.underlying76 rfl Tryz.sizeOf73 rfl (by first | exact Nat.zero_add _ | rfl)) ?_
        refine s_val rfl (v_fieldAddr rfl Tryz.underlying73 rfl Tryz.sizeOf3 rfl (by first | exact Nat.zero_add _ | rfl)) ?_
        refine s_val rfl (v_load Tryz.isAgg3 rfl (cell_own rfl)) ?_
        refine s_val rfl (v_assign rfl) (x_nil (n_then (x_ret (r_then (x_done (.inl rfl) (.cons (r_tmp rfl) .nil) ?_)))))
        exact ⟨_, ⟨rfl, rfl⟩, inferInstance⟩
      · intro c1
        simp_all
theorem rqBreak_spec (W0 : World) (R : List HP) (b : Nat) (s : QS) (w : Int) : Spec Tryz.prog W0 93 [.pointer (some ⟨b, 0, none⟩), .int .i64 w] (pt b (rqO s) :: R)
    (fun v B => v = .int .i64 (if bkB s w then 0 else 1) ∧ B = pt b (rqO (bkS s w)) :: R) := by
  obtain ⟨⟨sd, sa, su, sn⟩, on, br, last, put⟩ := s
  have hB := bkB_iff (s := ⟨⟨sd, sa, su, sn⟩, on, br, last, put⟩) (w := w)
  dsimp only at hB
  have hno : ¬ ((1 ≤ w ∧ w ≤ 7) ∧ on = true) → bkB ⟨⟨sd, sa, su, sn⟩, on, br, last, put⟩ w = false := fun q => by
    rw [← Bool.not_eq_true, hB]; exact q
  have hn := fun q => show bkS ⟨⟨sd, sa, su, sn⟩, on, br, last, put⟩ w = _ by rw [bkS, hno q, if_neg (by decide)]
  refine spec_body Tryz.func93 Tryz.ntmps93 rfl rfl ?_
  refine x_seq (x_region (s_val rfl (v_assign rfl) (x_nil (n_then (x_seq (x_seq (x_region (s_val rfl (v_move rfl) (s_val rfl (v_lss rfl rfl) (s_val rfl (v_move rfl) ?_))))))))))
  refine s_or rfl rfl rfl ?_ ?_
  · intro g1_3
    refine s_no rfl rfl rfl rfl (s_val rfl (v_pick_t rfl rfl) (s_val rfl (v_move rfl) (s_no rfl rfl rfl rfl (s_no rfl rfl rfl rfl (s_no rfl rfl rfl rfl (s_no rfl rfl rfl rfl (s_no rfl rfl rfl rfl (s_no rfl rfl rfl rfl (s_val rfl (v_pick_t rfl rfl) (x_nil (n_then (x_ift rfl (x_seq (x_region (s_val rfl (v_assign rfl) (x_nil (n_then (x_ret (r_then (x_done (.inl rfl) (.cons (r_tmp rfl) .nil) ?_))))))))))))))))))))
    first
      | (rw [hn (by omega), hno (by omega)]; exact ⟨_, ⟨rfl, rfl⟩, inferInstance⟩)
      | (rw [hn (by simp_all), hno (by simp_all)]; exact ⟨_, ⟨rfl, rfl⟩, inferInstance⟩)
  · intro g1_3
    refine s_val rfl (v_move rfl) (s_yes rfl rfl (s_val rfl (v_gtr rfl rfl) (s_val rfl (v_pick_f rfl rfl) (s_val rfl (v_move rfl) ?_))))
    refine s_or rfl rfl rfl ?_ ?_
    · intro g1_7
      refine s_no rfl rfl rfl rfl (s_no rfl rfl rfl rfl (s_no rfl rfl rfl rfl (s_no rfl rfl rfl rfl (s_no rfl rfl rfl rfl (s_val rfl (v_pick_t rfl rfl) (x_nil (n_then (x_ift rfl (x_seq (x_region (s_val rfl (v_assign rfl) (x_nil (n_then (x_ret (r_then (x_done (.inl rfl) (.cons (r_tmp rfl) .nil) ?_))))))))))))))))
      first
        | (rw [hn (by omega), hno (by omega)]; exact ⟨_, ⟨rfl, rfl⟩, inferInstance⟩)
        | (rw [hn (by simp_all), hno (by simp_all)]; exact ⟨_, ⟨rfl, rfl⟩, inferInstance⟩)
    · intro g1_7
      refine s_val rfl (v_move rfl) (s_yes rfl rfl (s_val rfl (v_nilCheck rfl) (s_yes rfl rfl ?_)))
      refine s_val rfl (v_fieldAddr rfl Tryz.underlying76 rfl Tryz.sizeOf73 rfl (by first | exact Nat.zero_add _ | rfl)) ?_
      refine s_yes rfl rfl ?_
      refine s_val rfl (v_fieldAddr rfl Tryz.underlying73 rfl Tryz.sizeOf4 rfl (by first | exact Nat.zero_add _ | rfl)) ?_
      refine s_yes rfl rfl (s_val rfl (v_load Tryz.isAgg4 rfl (cell_own rfl)) ?_)
      refine s_yes rfl rfl (s_val rfl (v_not rfl) (s_val rfl (v_pick_f rfl rfl) (x_nil (n_then ?_))))
      refine x_if rfl ?_ ?_
      · intro c1
        refine x_seq (x_region (s_val rfl (v_assign rfl) (x_nil (n_then (x_ret (r_then (x_done (.inl rfl) (.cons (r_tmp rfl) .nil) ?_)))))))
        first
          | (rw [hn (by omega), hno (by omega)]; exact ⟨_, ⟨rfl, rfl⟩, inferInstance⟩)
          | (rw [hn (by simp_all), hno (by simp_all)]; exact ⟨_, ⟨rfl, rfl⟩, inferInstance⟩)
      · intro c1
        refine x_skip (n_then (x_seq (x_seq (x_region (s_val rfl (v_move rfl) (s_val rfl (v_nilCheck rfl) ?_))))))
        refine s_val rfl (v_fieldAddr rfl Tryz.underlying76 rfl Tryz.sizeOf73 rfl (by first | exact Nat.zero_add _ | rfl)) ?_
        refine s_val rfl (v_fieldAddr rfl Tryz.underlying73 rfl Tryz.sizeOf3 rfl (by first | exact Nat.zero_add _ | rfl)) ?_
        refine s_val rfl (v_load Tryz.isAgg3 rfl (cell_own rfl)) ?_
        refine s_val rfl (v_eql rfl rfl) (x_nil (n_then ?_))
        refine x_if rfl ?_ ?_
        · intro c3
          refine x_region (s_val rfl (v_move rfl) (s_val rfl (v_move rfl) (s_val rfl (v_nilCheck rfl) ?_)))
          refine s_val rfl (v_fieldAddr rfl Tryz.underlying76 rfl Tryz.sizeOf73 rfl (by first | exact Nat.zero_add _ | rfl)) ?_
          refine s_val rfl (v_fieldAddr rfl Tryz.underlying73 rfl Tryz.sizeOf3 rfl (by first | exact Nat.zero_add _ | rfl)) ?_
          refine s_do0 (d_store Tryz.sizeOf3 rfl rfl rfl (Nat.le_of_ble_eq_true rfl) SetL.eq) ?_
          rintro _ _ rfl
          refine x_nil (n_then (x_seq (x_region (s_val rfl (v_assign rfl) (x_nil (n_then (x_ret (x_done (.inl rfl) (.cons (r_tmp rfl) .nil) ?_))))))))
          have hb : bkB ⟨⟨sd, sa, su, sn⟩, on, br, last, put⟩ w = true := hB.2 ⟨by omega, by simp_all⟩
          have hs : bkS ⟨⟨sd, sa, su, sn⟩, on, br, last, put⟩ w = if br = 0 then ⟨⟨sd, sa, su, sn⟩, on, w, last, put⟩ else ⟨⟨sd, sa, su, sn⟩, on, br, last, put⟩ := by rw [bkS, if_pos hb]
          rw [hs, hb]
          first
            | (rw [if_pos c3]; exact ⟨_, ⟨rfl, rfl⟩, inferInstance⟩)
            | (rw [if_neg c3]; exact ⟨_, ⟨rfl, rfl⟩, inferInstance⟩)
        · intro c3
          refine x_skip (n_then (x_seq (x_region (s_val rfl (v_assign rfl) (x_nil (n_then (x_ret (x_done (.inl rfl) (.cons (r_tmp rfl) .nil) ?_))))))))
          have hb : bkB ⟨⟨sd, sa, su, sn⟩, on, br, last, put⟩ w = true := hB.2 ⟨by omega, by simp_all⟩
          have hs : bkS ⟨⟨sd, sa, su, sn⟩, on, br, last, put⟩ w = if br = 0 then ⟨⟨sd, sa, su, sn⟩, on, w, last, put⟩ else ⟨⟨sd, sa, su, sn⟩, on, br, last, put⟩ := by rw [bkS, if_pos hb]
          rw [hs, hb]
          first
            | (rw [if_pos c3]; exact ⟨_, ⟨rfl, rfl⟩, inferInstance⟩)
            | (rw [if_neg c3]; exact ⟨_, ⟨rfl, rfl⟩, inferInstance⟩)
end Go.Proofs.YtncegikenkpcmaaGreat
namespace Go.Proofs.YtncegikenkpcmaaGreat
open Go.RowKit
set_option linter.unusedSimpArgs false
set_option linter.unusedVariables false
set_option maxRecDepth 20000
abbrev Bts := Option Addr × Nat × List Nat
@[reducible] def btV (y : Bts) : List Value := [.slice y.1 y.2.2.length y.2.1]
structure Gst where
  al : Option Addr
  cl : Nat
  L : List Dsc
  ah : Option Addr
  ch : Nat
  H : List Nat
  aa : Option Addr
  ca : Nat
  A : List Nat
  ab : Option Addr
  cb : Nat
  B : List Bts
  p : Nat
@[reducible] def gstV (g : Gst) : List Value := [.slice g.al g.L.length g.cl, .slice g.ah g.H.length g.ch, .slice g.aa g.A.length g.ca, .slice g.ab g.B.length g.cb, .int .u32 g.p]
structure GOk (S : World → Prop) (g : Gst) : Prop where
  l : SlA S g.al 4 dsV g.L
  lo : ∀ d ∈ g.L, d.ok
  h : SlA S g.ah 1 (fun x => [bV x]) g.H
  ho : By g.H
  a : SlA S g.aa 1 (fun x => [wV x]) g.A
  ao : ∀ x ∈ g.A, x < 4294967296
  b : SlA S g.ab 1 btV g.B
  bo : ∀ y ∈ g.B, SlA S y.1 1 (fun x => [bV x]) y.2.2 ∧ By y.2.2 ∧ y.2.2.length < 9223372036854775808
  p : g.p < 4294967296
  n : g.L.length < 9223372036854775808 ∧ g.H.length < 9223372036854775808 ∧ g.A.length < 9223372036854775808 ∧ g.B.length < 9223372036854775808
def mgA (pg : List Pl) (g : Gst) : Nat → List Frm × Nat
  | 0 => (List.replicate 8 zeros, 0)
  | i + 1 => (wrF (mgA pg g i).1 pg (g.A.getD i 0) (g.B.getD i (none, 0, [])).2.2, wrE (mgA pg g i).1 pg (g.A.getD i 0) (mgA pg g i).2 (g.B.getD i (none, 0, [])).2.2.length)
def mgN (g : Gst) : Nat := min (min g.B.length g.A.length) 20
def mgD (pg : List Pl) (g : Gst) : Nat → List Frm × Nat
  | 0 => mgA pg g (mgN g)
  | i + 1 => (wrF (mgD pg g i).1 pg (16 * i) (putD (g.L.getD i zD)), wrE (mgD pg g i).1 pg (16 * i) (mgD pg g i).2 16)
def mgH (pg : List Pl) (g : Gst) : Nat → List Frm × Nat
  | 0 => mgD pg g (min g.L.length 8)
  | i + 1 => (vsvF (mgH pg g i).1 pg (132 + 4 * i) 4 (g.H.getD i 0), vsvD (mgH pg g i).1 pg (132 + 4 * i) 4 (mgH pg g i).2)
def mgP (pg : List Pl) (g : Gst) : List Frm × Nat := (vsvF (mgH pg g (min g.H.length 4)).1 pg 128 4 g.p, vsvD (mgH pg g (min g.H.length 4)).1 pg 128 4 (mgH pg g (min g.H.length 4)).2)
def mk27 (g : Gst) : List Frm × Nat := mgP (pg23 8) g
def Mem8 (x : List Frm × Nat) : Prop := Frs x.1 ∧ x.1.length = 8 ∧ x.2 < 4096
theorem mgA_ok (pg : List Pl) (g : Gst) : ∀ i, Mem8 (mgA pg g i)
  | 0 => ⟨Frs.new 8, by simp [mgA], by simp [mgA]⟩
  | i + 1 => by
    obtain ⟨h1, h2, h3⟩ := mgA_ok pg g i
    exact ⟨(wrF_ok h1).1, (wrF_ok h1).2.trans h2, wrE_lt h3⟩
theorem mgD_ok (pg : List Pl) (g : Gst) : ∀ i, Mem8 (mgD pg g i)
  | 0 => mgA_ok pg g _
  | i + 1 => by
    obtain ⟨h1, h2, h3⟩ := mgD_ok pg g i
    exact ⟨(wrF_ok h1).1, (wrF_ok h1).2.trans h2, wrE_lt h3⟩
theorem mgH_ok (pg : List Pl) (g : Gst) : ∀ i, Mem8 (mgH pg g i)
  | 0 => mgD_ok pg g _
  | i + 1 => by
    obtain ⟨h1, h2, h3⟩ := mgH_ok pg g i
    exact ⟨(vsvF_ok h1).1, (vsvF_ok h1).2.trans h2, vsvD_lt h3⟩
theorem mgP_ok (pg : List Pl) (g : Gst) : Mem8 (mgP pg g) := by
  obtain ⟨h1, h2, h3⟩ := mgH_ok pg g (min g.H.length 4)
  exact ⟨(vsvF_ok h1).1, (vsvF_ok h1).2.trans h2, vsvD_lt h3⟩
theorem mk27_ok (g : Gst) : Mem8 (mk27 g) := mgP_ok _ _
@[reducible] def r27 : Rg3 := ⟨0, 128, 192, ((4 : Nat) : Int)⟩
@[reducible] def q27 : QS := ⟨⟨0, 128, 192, ((4 : Nat) : Int)⟩, true, 0, 0, 0⟩
end Go.Proofs.YtncegikenkpcmaaGreat
namespace Go.Proofs.YtncegikenkpcmaaGreat
open Go.RowKit
set_option linter.unusedSimpArgs false
set_option linter.unusedVariables false
set_option maxRecDepth 20000
theorem lies25_spec (W0 : World) (R : List HP) : Spec Tryz.prog W0 72 [] R (fun v B => v = .agg (rgV ⟨0, 128, 192, ((4 : Nat) : Int)⟩).toArray ∧ B = R) := by
  refine spec_body Tryz.func72 Tryz.ntmps72 rfl rfl ?_
  refine x_seq (x_region (s_do rfl (d_allocA Tryz.zeroValue71) ?_))
  rintro _ _ ⟨b1, rfl, rfl⟩
  refine x_nil (n_then (x_seq (x_region (s_val rfl (v_build Tryz.underlying71 Tryz.zeroValue71 (sized_cons Tryz.sizeOf47 (sized_cons Tryz.sizeOf47 (sized_cons Tryz.sizeOf47 (sized_cons Tryz.sizeOf3 sized_nil)))) (fil_scal rfl Tryz.sizeOf47 rfl rfl (Nat.le_of_ble_eq_true rfl) SetL.eq (fil_scal rfl Tryz.sizeOf47 rfl rfl (Nat.le_of_ble_eq_true rfl) SetL.eq (fil_scal rfl Tryz.sizeOf47 rfl rfl (Nat.le_of_ble_eq_true rfl) SetL.eq (fil_scal rfl Tryz.sizeOf3 rfl rfl (Nat.le_of_ble_eq_true rfl) SetL.eq fil_nil))))) ?_))))
  refine s_do0 (d_storeAll Tryz.sizeOf71 rfl rfl rfl rfl rfl) ?_
  rintro _ _ rfl
  refine x_nil (n_then (x_ret (x_done (.inl rfl) (.cons (r_all Tryz.isAgg71 Tryz.sizeOf71 rfl rfl) .nil) ?_)))
  exact ⟨_, ⟨rfl, rfl⟩, inferInstance⟩
theorem made25_spec (W0 : World) (R : List HP) (g : Gst) (hg : GOk (OwnP W0 R) g) (hfit : fitB 8 (pg23 8) ⟨0, 128, 192, ((4 : Nat) : Int)⟩ = true) :
    Spec Tryz.prog W0 20 [.agg (gstV g).toArray] R
      (fun v B => ∃ pv ps pm qv qs qm bq br, v = .tuple #[.pointer (some ⟨pv, 0, none⟩), .pointer (some ⟨bq, 0, none⟩), .pointer (some ⟨qv, 0, none⟩), .pointer (some ⟨br, 0, none⟩)] ∧
        B = pt bq (qO true q27) :: pt br (rqO q27) :: prH pv ps pm qv qs qm (mk27 g).2 (mk27 g).1 (pg23 8) R) := by
  obtain ⟨al, cl, L, ah, ch, H, aa, ca, A, ab, cb, B, p⟩ := g
  obtain ⟨hgl, hglo, hgh, hgho, hga, hgao, hgb, hgbo, hgp, hgn1, hgn2, hgn3, hgn4⟩ := hg
  dsimp only at hgl hglo hgh hgho hga hgao hgb hgbo hgp hgn1 hgn2 hgn3 hgn4
  obtain ⟨g, hg0⟩ : ∃ g, g = (⟨al, cl, L, ah, ch, H, aa, ca, A, ab, cb, B, p⟩ : Gst) := ⟨_, rfl⟩
  dsimp only [gstV]
  rw [← hg0]
  have hgA : g.A = A := by rw [hg0]
  have hgB : g.B = B := by rw [hg0]
  have hgL : g.L = L := by rw [hg0]
  have hgH : g.H = H := by rw [hg0]
  have hgP : g.p = p := by rw [hg0]
  refine spec_body Tryz.func20 Tryz.ntmps20 rfl rfl ?_
  refine x_seq (x_region (s_do rfl (d_boxA rfl) ?_))
  rintro _ _ ⟨b1, rfl, rfl⟩
  refine s_val rfl (v_assign rfl) (s_val rfl (v_assign rfl) (s_val rfl (v_assign rfl) (s_val rfl (v_assign rfl) (x_nil (n_then (x_seq (x_region ?_)))))))
  refine s_do rfl (d_call Tryz.call61 rfl (frNew_spec W0 _ 8 (by decide))) ?_
  rintro _ B_ ⟨ps, rfl, hB_⟩
  obtain rfl := hB_.symm
  refine s_val rfl (v_move rfl) (s_val rfl (v_extract rfl rfl) (s_val rfl (v_extract rfl rfl) (s_val rfl (v_assign rfl) (s_val rfl (v_assign rfl) (x_nil (n_then (x_seq (x_region (s_do rfl (d_call Tryz.call62 rfl (gmNew_spec W0 _)) ?_)))))))))
  rintro _ B_ ⟨pm, rfl, hB_⟩
  obtain rfl := hB_.symm
  refine s_val rfl (v_assign rfl) (x_nil (n_then (x_seq (x_region ?_))))
  refine s_do rfl (d_call Tryz.call63 rfl (rfNew_spec W0 _ 8 (by decide))) ?_
  rintro _ B_ ⟨qs, rfl, hB_⟩
  obtain rfl := hB_.symm
  refine s_val rfl (v_move rfl) (s_val rfl (v_extract rfl rfl) (s_val rfl (v_extract rfl rfl) (s_val rfl (v_assign rfl) (s_val rfl (v_assign rfl) (x_nil (n_then (x_seq (x_region (s_val rfl (v_build Tryz.underlying131 Tryz.zeroValue131 (sized_cons Tryz.sizeOf87 (sized_cons Tryz.sizeOf129 sized_nil)) fil_nil) ?_)))))))))
  refine s_do rfl (d_boxA rfl) ?_
  rintro _ _ ⟨qm, rfl, rfl⟩
  refine s_val rfl (v_assign rfl) (x_nil (n_then (x_seq (x_seq (run_pt (b := qm) (o' := rgO (List.replicate 12 (0, 0))) rfl ?_)))))
  refine x_region (s_val rfl (v_assign rfl) (x_nil (n_then (x_block ?_))))
  refine x_loop (fun i : Nat => i ≤ 8) (fun i => [(1, .pointer (some ⟨b1, 0, none⟩)), (6, .pointer (some ⟨ps, 0, none⟩)), (8, .pointer (some ⟨pm, 0, none⟩)), (9, .pointer (some ⟨qs, 0, none⟩)), (11, .pointer (some ⟨qm, 0, none⟩)), (12, .int .i64 i)]) (fun i => pt b1 (cob [.slice al L.length cl, .slice ah H.length ch, .slice aa A.length ca, .slice ab B.length cb, .int .u32 p] 49) :: pt qm (rgO (pg23 i)) :: rstoH qs (List.replicate 8 zeros) :: pt pm (gmO (pg23 i)) :: stoH ps (List.replicate 8 zeros) :: R) (fun i => 8 - i) 0 ?_ ?_ ?_ ?_
  · exact Nat.zero_le _
  · repeat (first | exact sub_nil | refine sub_cons rfl ?_)
  · simp only [pg23]; exact inferInstance
  · intro i hi
    have hP := pg23_ok i
    refine x_seq (x_seq (x_region (s_val rfl (v_move rfl) (s_val rfl (v_lss rfl rfl) (x_nil (n_then ?_))))))
    refine x_if rfl ?_ ?_
    · intro c6
      refine x_skip (n_then (x_seq (x_block (x_seq (x_region (s_val rfl (v_move rfl) (s_val rfl (v_move rfl) (s_val rfl (v_move rfl) (s_val rfl (v_build Tryz.underlying128 Tryz.zeroValue128 (sized_cons Tryz.sizeOf3 (sized_cons Tryz.sizeOf3 sized_nil)) (fil_scal rfl Tryz.sizeOf3 rfl rfl (Nat.le_of_ble_eq_true rfl) SetL.eq (fil_scal rfl Tryz.sizeOf3 rfl rfl (Nat.le_of_ble_eq_true rfl) SetL.eq fil_nil))) ?_)))))))))
      refine s_do rfl (d_call1 Tryz.call64 rfl (gmSet_spec W0 _ pm _ hP i ((i : Int), 3))) ?_
      rintro _ B_ ⟨rfl, hB_⟩
      obtain rfl := hB_.symm
      refine x_nil (n_then (x_region (s_val rfl (v_move rfl) (s_val rfl (v_move rfl) (s_val rfl (v_move rfl) (s_val rfl (v_build Tryz.underlying128 Tryz.zeroValue128 (sized_cons Tryz.sizeOf3 (sized_cons Tryz.sizeOf3 sized_nil)) (fil_scal rfl Tryz.sizeOf3 rfl rfl (Nat.le_of_ble_eq_true rfl) SetL.eq (fil_scal rfl Tryz.sizeOf3 rfl rfl (Nat.le_of_ble_eq_true rfl) SetL.eq fil_nil))) ?_))))))
      refine s_do rfl (d_call1 Tryz.call65 rfl (rgSet_spec W0 _ qm _ hP i ((i : Int), 3))) ?_
      rintro _ B_ ⟨rfl, hB_⟩
      obtain rfl := hB_.symm
      refine x_nil (n_block (n_then (x_region (s_val rfl (v_move rfl) ?_))))
      refine s_val rfl (v_add rfl rfl (by first | exact w64 (by omega) | rfl)) ?_
      refine s_val rfl (v_assign rfl) (x_nil (n_then ?_))
      refine inv_intro (i + 1) ?_ ?_ ?_ ?_
      · omega
      · omega
      · repeat (first | exact sub_nil | refine sub_cons rfl ?_)
      · simp only [pg23]; exact inferInstance
    · intro c6
      refine x_exit (e_then (e_then (e_block (n_then (x_seq ?_)))))
      obtain rfl : i = 8 := by omega
      have hP := pg23_ok 8
      rw [show mk27 g = mgP (pg23 8) g from rfl]
      obtain ⟨pg, hpg⟩ : ∃ x, pg23 8 = x := ⟨_, rfl⟩
      rw [hpg] at hP hfit ⊢
      refine x_region (s_val rfl (v_move rfl) (s_val rfl (v_move rfl) ?_))
      refine s_do rfl (d_call2 Tryz.call66 rfl (viNew_spec W0 _ ps pm _ _ hP (by decide))) ?_
      rintro _ B_ ⟨pv, rfl, hB_⟩
      obtain rfl := hB_.symm
      refine s_val rfl (v_move rfl) (s_val rfl (v_extract rfl rfl) (s_val rfl (v_extract rfl rfl) (s_val rfl (v_assign rfl) (s_val rfl (v_assign rfl) (x_nil (n_then (x_seq (x_seq (x_region (s_val rfl (v_move rfl) (s_val rfl (v_neq rfl rfl) (x_nil (n_then ?_)))))))))))))
      refine x_if rfl ?_ ?_
      · intro c11
        exact absurd rfl c11
      · intro c11
        refine x_skip (n_then (x_seq (x_region (s_val rfl (v_move rfl) (s_val rfl (v_move rfl) (s_val rfl (v_build Tryz.underlying89 Tryz.zeroValue89 (sized_cons Tryz.sizeOf85 (sized_cons Tryz.sizeOf86 (sized_cons Tryz.sizeOf87 sized_nil))) (fil_scal rfl Tryz.sizeOf85 rfl rfl (Nat.le_of_ble_eq_true rfl) SetL.eq (fil_scal rfl Tryz.sizeOf86 rfl rfl (Nat.le_of_ble_eq_true rfl) SetL.eq fil_nil))) ?_))))))
        refine s_do rfl (d_boxA rfl) ?_
        rintro _ _ ⟨qv, rfl, rfl⟩
        refine s_val rfl (v_assign rfl) (x_nil (n_then ?_))
        refine x_cut (fun _ : Unit => True) (fun _ => [(1, .pointer (some ⟨b1, 0, none⟩)), (13, .pointer (some ⟨pv, 0, none⟩)), (15, .pointer (some ⟨qv, 0, none⟩))]) (fun _ => pt b1 (cob [.slice al L.length cl, .slice ah H.length ch, .slice aa A.length ca, .slice ab B.length cb, .int .u32 p] 49) :: prH pv ps pm qv qs qm (mgD pg g 0).2 (mgD pg g 0).1 pg R) ?_ ?_
        · skip
          refine x_seq (run_pt (b := qv) (o' := rvO qs qm 0) rfl ?_)
          refine x_region (s_val rfl (v_assign rfl) (x_nil (n_then (x_block ?_))))
          refine x_loop (fun i : Nat => i ≤ mgN g) (fun i => [(1, .pointer (some ⟨b1, 0, none⟩)), (13, .pointer (some ⟨pv, 0, none⟩)), (15, .pointer (some ⟨qv, 0, none⟩)), (16, .int .i64 i)]) (fun i => pt b1 (cob [.slice al L.length cl, .slice ah H.length ch, .slice aa A.length ca, .slice ab B.length cb, .int .u32 p] 49) :: prH pv ps pm qv qs qm (mgA pg g i).2 (mgA pg g i).1 pg R) (fun i => 20 - i) 0 ?_ ?_ ?_ ?_
          · exact Nat.zero_le _
          · repeat (first | exact sub_nil | refine sub_cons rfl ?_)
          · simp only [mgA]; exact inferInstance
          · intro i hi
            obtain ⟨hF, hFl, hFd⟩ := mgA_ok pg g i
            rw [mgN, hgA, hgB] at hi
            refine x_seq (x_seq (x_region (s_val rfl (v_move rfl) ?_)))
            refine s_val rfl (v_fieldAddr rfl Tryz.underlying49 rfl Tryz.sizeOf46 rfl (by first | exact Nat.zero_add _ | rfl)) ?_
            refine s_val rfl (v_load Tryz.isAgg46 rfl (cell_own rfl)) ?_
            refine s_val rfl (v_len_slice Tryz.underlying46 rfl) (s_val rfl (v_lss rfl rfl) (s_val rfl (v_move rfl) ?_))
            refine s_and rfl rfl rfl ?_ ?_
            · intro g15_6
              refine s_val rfl (v_move rfl) (s_yes rfl rfl ?_)
              refine s_val rfl (v_fieldAddr rfl Tryz.underlying49 rfl Tryz.sizeOf45 rfl (by first | exact Nat.zero_add _ | rfl)) ?_
              refine s_yes rfl rfl (s_val rfl (v_load Tryz.isAgg45 rfl (cell_own rfl)) ?_)
              refine s_yes rfl rfl (s_val rfl (v_len_slice Tryz.underlying45 rfl) (s_yes rfl rfl (s_val rfl (v_lss rfl rfl) (s_val rfl (v_pick_t rfl rfl) (s_val rfl (v_move rfl) ?_)))))
              refine s_and rfl rfl rfl ?_ ?_
              · intro g15_13
                refine s_val rfl (v_move rfl) (s_yes rfl rfl (s_val rfl (v_lss rfl rfl) (s_val rfl (v_pick_t rfl rfl) (x_nil (n_then ?_)))))
                refine x_if rfl ?_ ?_
                · intro c15
                  refine x_skip (n_then (x_seq (x_block (x_seq ?_))))
                  have hia : i < A.length := by omega
                  have hib : i < B.length := by omega
                  obtain ⟨ga, oa, rfl, hca⟩ := hga.at_ hia
                  obtain ⟨gb, ob, rfl, hcb⟩ := hgb.at_ hib
                  have hai := hgao _ (List.getElem_mem hia)
                  obtain ⟨hb1, hb2, hb3⟩ := hgbo _ (List.getElem_mem hib)
                  have hsA : mgA pg g (i + 1) = (wrF (mgA pg g i).1 pg A[i] B[i].2.2, wrE (mgA pg g i).1 pg A[i] (mgA pg g i).2 B[i].2.2.length) := by rw [mgA, hgA, hgB]; simp [List.getD, hia, hib]
                  refine x_draw [(b1, 0, _), (ga, oa + i * 1, [wV A[i]]), (gb, ob + i * 1, btV B[i])] 12 mixed rfl (sc_own (sc_cons hca.weak (sc_cons hcb.weak sc_end))) (fun hS => ?_)
                  refine d_take 0 rfl rfl (by kernel_rfl) (by kernel_rfl) (by kernel_rfl) rfl hS (v_move rfl) ?_
                  refine d_take 1 rfl rfl (by kernel_rfl) (by kernel_rfl) (by kernel_rfl) rfl hS (v_fieldAddr rfl Tryz.underlying49 rfl Tryz.sizeOf45 rfl (by first | exact Nat.zero_add _ | rfl)) ?_
                  refine d_take 2 rfl rfl (by kernel_rfl) (by kernel_rfl) (by kernel_rfl) rfl hS (v_load Tryz.isAgg45 rfl (by first | exact cell_sc0 (k := 0) rfl rfl | exact cell_sc0 (k := 1) rfl rfl | exact cell_sc0 (k := 2) rfl rfl)) ?_
                  refine d_take 3 rfl rfl (by kernel_rfl) (by kernel_rfl) (by kernel_rfl) rfl hS (v_move rfl) ?_
                  refine d_take 4 rfl rfl (by kernel_rfl) (by kernel_rfl) (by kernel_rfl) rfl hS (v_idx Tryz.underlying45 Tryz.sizeOf47 rfl rfl rfl hia (by first | exact Nat.zero_add _ | rfl)) ?_
                  refine d_take 5 rfl rfl (by kernel_rfl) (by kernel_rfl) (by kernel_rfl) rfl hS (v_load Tryz.isAgg47 rfl (cell_sc1 (k := 1) rfl)) ?_
                  refine d_take 6 rfl rfl (by kernel_rfl) (by kernel_rfl) (by kernel_rfl) rfl hS (v_fieldAddr rfl Tryz.underlying49 rfl Tryz.sizeOf46 rfl (by first | exact Nat.zero_add _ | rfl)) ?_
                  refine d_take 7 rfl rfl (by kernel_rfl) (by kernel_rfl) (by kernel_rfl) rfl hS (v_load Tryz.isAgg46 rfl (by first | exact cell_sc0 (k := 0) rfl rfl | exact cell_sc0 (k := 1) rfl rfl | exact cell_sc0 (k := 2) rfl rfl)) ?_
                  refine d_take 8 rfl rfl (by kernel_rfl) (by kernel_rfl) (by kernel_rfl) rfl hS (v_move rfl) ?_
                  refine d_take 9 rfl rfl (by kernel_rfl) (by kernel_rfl) (by kernel_rfl) rfl hS (v_idx Tryz.underlying46 Tryz.sizeOf44 rfl rfl rfl hib (by first | exact Nat.zero_add _ | rfl)) ?_
                  refine d_take 10 rfl rfl (by kernel_rfl) (by kernel_rfl) (by kernel_rfl) rfl hS (v_load Tryz.isAgg44 rfl (cell_sc1 (k := 2) rfl)) ?_
                  refine d_one 11 (by kernel_rfl) rfl rfl (d_call3 Tryz.call67 rfl (viWrite_spec W0 _ pv ps pm _ _ _ _ pg hP hF hFd A[i] hai B[i].2.2 hb2 hb1.weak hb3)) rfl ?_; clear hS
                  rintro _ B_ ⟨rfl, hB_⟩
                  obtain rfl := hB_.symm
                  refine ⟨(sc_own (sc_cons hca.weak (sc_cons hcb.weak sc_end))), fun hS => ?_⟩
                  refine d_done (by kernel_rfl) ?_; clear hS
                  refine n_then ?_
                  refine x_draw [(b1, 0, _), (ga, oa + i * 1, [wV A[i]]), (gb, ob + i * 1, btV B[i])] 12 mixed rfl (sc_own (sc_cons hca.weak (sc_cons hcb.weak sc_end))) (fun hS => ?_)
                  refine d_take 0 rfl rfl (by kernel_rfl) (by kernel_rfl) (by kernel_rfl) rfl hS (v_move rfl) ?_
                  refine d_take 1 rfl rfl (by kernel_rfl) (by kernel_rfl) (by kernel_rfl) rfl hS (v_fieldAddr rfl Tryz.underlying49 rfl Tryz.sizeOf45 rfl (by first | exact Nat.zero_add _ | rfl)) ?_
                  refine d_take 2 rfl rfl (by kernel_rfl) (by kernel_rfl) (by kernel_rfl) rfl hS (v_load Tryz.isAgg45 rfl (by first | exact cell_sc0 (k := 0) rfl rfl | exact cell_sc0 (k := 1) rfl rfl | exact cell_sc0 (k := 2) rfl rfl)) ?_
                  refine d_take 3 rfl rfl (by kernel_rfl) (by kernel_rfl) (by kernel_rfl) rfl hS (v_move rfl) ?_
                  refine d_take 4 rfl rfl (by kernel_rfl) (by kernel_rfl) (by kernel_rfl) rfl hS (v_idx Tryz.underlying45 Tryz.sizeOf47 rfl rfl rfl hia (by first | exact Nat.zero_add _ | rfl)) ?_
                  refine d_take 5 rfl rfl (by kernel_rfl) (by kernel_rfl) (by kernel_rfl) rfl hS (v_load Tryz.isAgg47 rfl (cell_sc1 (k := 1) rfl)) ?_
                  refine d_take 6 rfl rfl (by kernel_rfl) (by kernel_rfl) (by kernel_rfl) rfl hS (v_fieldAddr rfl Tryz.underlying49 rfl Tryz.sizeOf46 rfl (by first | exact Nat.zero_add _ | rfl)) ?_
                  refine d_take 7 rfl rfl (by kernel_rfl) (by kernel_rfl) (by kernel_rfl) rfl hS (v_load Tryz.isAgg46 rfl (by first | exact cell_sc0 (k := 0) rfl rfl | exact cell_sc0 (k := 1) rfl rfl | exact cell_sc0 (k := 2) rfl rfl)) ?_
                  refine d_take 8 rfl rfl (by kernel_rfl) (by kernel_rfl) (by kernel_rfl) rfl hS (v_move rfl) ?_
                  refine d_take 9 rfl rfl (by kernel_rfl) (by kernel_rfl) (by kernel_rfl) rfl hS (v_idx Tryz.underlying46 Tryz.sizeOf44 rfl rfl rfl hib (by first | exact Nat.zero_add _ | rfl)) ?_
                  refine d_take 10 rfl rfl (by kernel_rfl) (by kernel_rfl) (by kernel_rfl) rfl hS (v_load Tryz.isAgg44 rfl (cell_sc1 (k := 2) rfl)) ?_
                  refine d_one 11 (by kernel_rfl) rfl rfl (d_call3 Tryz.call68 rfl (rvWrite_spec W0 _ qv qs qm _ _ _ _ pg hP hF A[i] hai B[i].2.2 hb2 hb1.weak hb3)) rfl ?_; clear hS
                  rintro _ B_ ⟨rfl, hB_⟩
                  obtain rfl := hB_.symm
                  refine ⟨(sc_own (sc_cons hca.weak (sc_cons hcb.weak sc_end))), fun hS => ?_⟩
                  refine d_done (by kernel_rfl) ?_; clear hS
                  refine n_block (n_then (x_region (s_val rfl (v_move rfl) ?_)))
                  refine s_val rfl (v_add rfl rfl (by first | exact w64 (by omega) | rfl)) ?_
                  refine s_val rfl (v_assign rfl) (x_nil (n_then ?_))
                  refine inv_intro (i + 1) ?_ ?_ ?_ ?_
                  · show i + 1 ≤ mgN g
                    rw [mgN, hgA, hgB]; omega
                  · omega
                  · repeat (first | exact sub_nil | refine sub_cons rfl ?_)
                  · simp only [hsA]; exact inferInstance
                · intro c15
                  refine x_exit (e_then (e_then (e_block (n_then ?_))))
                  refine mid_intro () ?_ ?_ ?_
                  · trivial
                  · repeat (first | exact sub_nil | refine sub_cons rfl ?_)
                  · obtain rfl : i = mgN g := by rw [mgN, hgA, hgB]; omega
                    simp only [mgD]; exact inferInstance
              · intro g15_13
                refine s_no rfl rfl rfl rfl (s_val rfl (v_pick_f rfl rfl) (x_nil (n_then (x_iff rfl (x_exit (e_then (e_then (e_block (n_then ?_)))))))))
                refine mid_intro () ?_ ?_ ?_
                · trivial
                · repeat (first | exact sub_nil | refine sub_cons rfl ?_)
                · obtain rfl : i = mgN g := by rw [mgN, hgA, hgB]; omega
                  simp only [mgD]; exact inferInstance
            · intro g15_6
              refine s_no rfl rfl rfl rfl (s_no rfl rfl rfl rfl (s_no rfl rfl rfl rfl (s_no rfl rfl rfl rfl (s_val rfl (v_pick_f rfl rfl) (s_val rfl (v_move rfl) (s_no rfl rfl rfl rfl (s_no rfl rfl rfl rfl (s_val rfl (v_pick_f rfl rfl) (x_nil (n_then (x_iff rfl (x_exit (e_then (e_then (e_block (n_then ?_))))))))))))))))
              refine mid_intro () ?_ ?_ ?_
              · trivial
              · repeat (first | exact sub_nil | refine sub_cons rfl ?_)
              · obtain rfl : i = mgN g := by rw [mgN, hgA, hgB]; omega
                simp only [mgD]; exact inferInstance
        · intro _ _
          refine x_cut (fun _ : Unit => True) (fun _ => [(1, .pointer (some ⟨b1, 0, none⟩)), (13, .pointer (some ⟨pv, 0, none⟩)), (15, .pointer (some ⟨qv, 0, none⟩))]) (fun _ => pt b1 (cob [.slice al L.length cl, .slice ah H.length ch, .slice aa A.length ca, .slice ab B.length cb, .int .u32 p] 49) :: prH pv ps pm qv qs qm (mgH pg g 0).2 (mgH pg g 0).1 pg R) ?_ ?_
          · skip
            refine x_seq (x_region (s_val rfl (v_assign rfl) (x_nil (n_then (x_block ?_)))))
            refine x_loop (fun i : Nat => i ≤ min L.length 8) (fun i => [(1, .pointer (some ⟨b1, 0, none⟩)), (13, .pointer (some ⟨pv, 0, none⟩)), (15, .pointer (some ⟨qv, 0, none⟩)), (17, .int .i64 i)]) (fun i => pt b1 (cob [.slice al L.length cl, .slice ah H.length ch, .slice aa A.length ca, .slice ab B.length cb, .int .u32 p] 49) :: prH pv ps pm qv qs qm (mgD pg g i).2 (mgD pg g i).1 pg R) (fun i => 8 - i) 0 ?_ ?_ ?_ ?_
            · exact Nat.zero_le _
            · repeat (first | exact sub_nil | refine sub_cons rfl ?_)
            · exact inferInstance
            · intro i hi
              obtain ⟨hF, hFl, hFd⟩ := mgD_ok pg g i
              refine x_seq (x_seq (x_region (s_val rfl (v_move rfl) ?_)))
              refine s_val rfl (v_fieldAddr rfl Tryz.underlying49 rfl Tryz.sizeOf43 rfl (by first | exact Nat.zero_add _ | rfl)) ?_
              refine s_val rfl (v_load Tryz.isAgg43 rfl (cell_own rfl)) ?_
              refine s_val rfl (v_len_slice Tryz.underlying43 rfl) (s_val rfl (v_lss rfl rfl) (s_val rfl (v_move rfl) ?_))
              refine s_and rfl rfl rfl ?_ ?_
              · intro g20_6
                refine s_val rfl (v_move rfl) (s_yes rfl rfl (s_val rfl (v_lss rfl rfl) (s_val rfl (v_pick_t rfl rfl) (x_nil (n_then ?_)))))
                refine x_if rfl ?_ ?_
                · intro c20
                  refine x_skip (n_then (x_seq (x_block (x_seq ?_))))
                  have hi1 : i < L.length := by omega
                  obtain ⟨gl, ol, rfl, hcl⟩ := hgl.at_ hi1
                  have hdi := hglo _ (List.getElem_mem hi1)
                  have hsD : mgD pg g (i + 1) = (wrF (mgD pg g i).1 pg (16 * i) (putD L[i]), wrE (mgD pg g i).1 pg (16 * i) (mgD pg g i).2 16) := by rw [mgD, hgL]; simp [List.getD, hi1]
                  refine x_region ?_
                  refine s_val rfl (v_fieldAddr rfl Tryz.underlying49 rfl Tryz.sizeOf43 rfl (by first | exact Nat.zero_add _ | rfl)) ?_
                  refine s_val rfl (v_load Tryz.isAgg43 rfl (cell_own rfl)) ?_
                  refine s_val rfl (v_move rfl) ?_
                  refine s_val rfl (v_idx Tryz.underlying43 Tryz.sizeOf139 rfl rfl rfl hi1 (by first | exact Nat.zero_add _ | rfl)) ?_
                  refine s_val rfl (v_loadAgg Tryz.isAgg139 Tryz.sizeOf139 rfl hcl.weak rfl) ?_
                  refine s_do rfl (d_call Tryz.call69 rfl (dsPut_spec W0 _ L[i] hdi)) ?_
                  rintro _ B_ ⟨a', c', rfl, hB_⟩
                  obtain rfl := hB_.symm
                  refine run_form (E := 5) (sz := 1) (a := a') (c := c') (n := 16) (fun hf => ?_)
                  refine s_val rfl (v_assign rfl) (x_nil (n_then (x_seq (x_region (s_val rfl (v_move rfl) (s_val rfl (v_move rfl) ?_))))))
                  refine s_val rfl (v_mul rfl rfl (by rw [w64 (by omega)]; omega : IntKind.wrap .i64 (16 * (i : Int)) = ((16 * i : Nat) : Int))) ?_
                  refine s_val rfl (v_conv Tryz.underlying3 Tryz.underlying47 rfl (w32u (by omega))) ?_
                  refine s_val rfl (v_move rfl) ?_
                  refine s_do rfl (d_call3 Tryz.call67 rfl (viWriteN_spec W0 _ pv ps pm _ c' 16 a' _ pg hP hF hFd (16 * i) (by omega) (putD L[i]) (putD_len _) (bytesL_by _) (sla_cells hf (cells_osl (E := 5) (sz := 1) (a := a') (c := c') (n := 16)) (fun _ => rfl) (byV_fm _).symm (by decide)) (by decide))) ?_
                  rintro _ B_ ⟨rfl, hB_⟩
                  obtain rfl := hB_.symm
                  refine x_nil (n_then (x_region (s_val rfl (v_move rfl) (s_val rfl (v_move rfl) ?_))))
                  refine s_val rfl (v_mul rfl rfl (by rw [w64 (by omega)]; omega : IntKind.wrap .i64 (16 * (i : Int)) = ((16 * i : Nat) : Int))) ?_
                  refine s_val rfl (v_conv Tryz.underlying3 Tryz.underlying47 rfl (w32u (by omega))) ?_
                  refine s_val rfl (v_move rfl) ?_
                  refine s_do rfl (d_call3 Tryz.call68 rfl (rvWriteN_spec W0 _ qv qs qm _ c' 16 a' _ pg hP hF (16 * i) (by omega) (putD L[i]) (putD_len _) (bytesL_by _) (sla_cells hf (cells_osl (E := 5) (sz := 1) (a := a') (c := c') (n := 16)) (fun _ => rfl) (byV_fm _).symm (by decide)) (by decide))) ?_
                  rintro _ B_ ⟨rfl, hB_⟩
                  obtain rfl := hB_.symm
                  refine x_nil (n_block (n_then (x_region (s_val rfl (v_move rfl) ?_))))
                  refine s_val rfl (v_add rfl rfl (by first | exact w64 (by omega) | rfl)) ?_
                  refine s_val rfl (v_assign rfl) (x_nil (n_then ?_))
                  refine inv_intro (i + 1) ?_ ?_ ?_ ?_
                  · omega
                  · omega
                  · repeat (first | exact sub_nil | refine sub_cons rfl ?_)
                  · simp only [hsD]; exact inferInstance
                · intro c20
                  refine x_exit (e_then (e_then (e_block (n_then ?_))))
                  refine mid_intro () ?_ ?_ ?_
                  · trivial
                  · repeat (first | exact sub_nil | refine sub_cons rfl ?_)
                  · obtain rfl : i = min L.length 8 := by omega
                    simp only [mgH, hgL]; exact inferInstance
              · intro g20_6
                refine s_no rfl rfl rfl rfl (s_val rfl (v_pick_f rfl rfl) (x_nil (n_then (x_iff rfl (x_exit (e_then (e_then (e_block (n_then ?_)))))))))
                refine mid_intro () ?_ ?_ ?_
                · trivial
                · repeat (first | exact sub_nil | refine sub_cons rfl ?_)
                · obtain rfl : i = min L.length 8 := by omega
                  simp only [mgH, hgL]; exact inferInstance
          · intro _ _
            refine x_cut (fun _ : Unit => True) (fun _ => [(1, .pointer (some ⟨b1, 0, none⟩)), (13, .pointer (some ⟨pv, 0, none⟩)), (15, .pointer (some ⟨qv, 0, none⟩))]) (fun _ => pt b1 (cob [.slice al L.length cl, .slice ah H.length ch, .slice aa A.length ca, .slice ab B.length cb, .int .u32 p] 49) :: prH pv ps pm qv qs qm (mgH pg g (min H.length 4)).2 (mgH pg g (min H.length 4)).1 pg R) ?_ ?_
            · skip
              refine x_seq (x_region (s_val rfl (v_assign rfl) (x_nil (n_then (x_block ?_)))))
              refine x_loop (fun i : Nat => i ≤ min H.length 4) (fun i => [(1, .pointer (some ⟨b1, 0, none⟩)), (13, .pointer (some ⟨pv, 0, none⟩)), (15, .pointer (some ⟨qv, 0, none⟩)), (19, .int .i64 i)]) (fun i => pt b1 (cob [.slice al L.length cl, .slice ah H.length ch, .slice aa A.length ca, .slice ab B.length cb, .int .u32 p] 49) :: prH pv ps pm qv qs qm (mgH pg g i).2 (mgH pg g i).1 pg R) (fun i => 4 - i) 0 ?_ ?_ ?_ ?_
              · exact Nat.zero_le _
              · repeat (first | exact sub_nil | refine sub_cons rfl ?_)
              · exact inferInstance
              · intro i hi
                obtain ⟨hF, hFl, hFd⟩ := mgH_ok pg g i
                refine x_seq (x_seq (x_region (s_val rfl (v_move rfl) ?_)))
                refine s_val rfl (v_fieldAddr rfl Tryz.underlying49 rfl Tryz.sizeOf44 rfl (by first | exact Nat.zero_add _ | rfl)) ?_
                refine s_val rfl (v_load Tryz.isAgg44 rfl (cell_own rfl)) ?_
                refine s_val rfl (v_len_slice Tryz.underlying44 rfl) (s_val rfl (v_lss rfl rfl) (s_val rfl (v_move rfl) ?_))
                refine s_and rfl rfl rfl ?_ ?_
                · intro g26_6
                  refine s_val rfl (v_move rfl) (s_yes rfl rfl (s_val rfl (v_lss rfl rfl) (s_val rfl (v_pick_t rfl rfl) (x_nil (n_then ?_)))))
                  refine x_if rfl ?_ ?_
                  · intro c26
                    refine x_skip (n_then (x_seq (x_block (x_seq ?_))))
                    have hi1 : i < H.length := by omega
                    obtain ⟨gh, oh, rfl, hch⟩ := hgh.at_ hi1
                    have hhi : H[i] < 256 := hgho.get hi1
                    have hsH : mgH pg g (i + 1) = (vsvF (mgH pg g i).1 pg (132 + 4 * i) 4 H[i], vsvD (mgH pg g i).1 pg (132 + 4 * i) 4 (mgH pg g i).2) := by rw [mgH, hgH]; simp [List.getD, hi1]
                    refine x_region (s_val rfl (v_move rfl) (s_val rfl (v_move rfl) ?_))
                    refine s_val rfl (v_mul rfl rfl (by rw [w64 (by omega)]; omega : IntKind.wrap .i64 (4 * (i : Int)) = ((4 * i : Nat) : Int))) ?_
                    refine s_val rfl (v_add rfl rfl (by rw [w64 (by omega)]; omega : IntKind.wrap .i64 (132 + ((4 * i : Nat) : Int)) = ((132 + 4 * i : Nat) : Int))) ?_
                    refine s_val rfl (v_conv Tryz.underlying3 Tryz.underlying47 rfl (w32u (by omega))) ?_
                    refine s_val rfl (v_fieldAddr rfl Tryz.underlying49 rfl Tryz.sizeOf44 rfl (by first | exact Nat.zero_add _ | rfl)) ?_
                    refine s_val rfl (v_load Tryz.isAgg44 rfl (cell_own rfl)) ?_
                    refine s_val rfl (v_move rfl) ?_
                    refine s_val rfl (v_idx Tryz.underlying44 Tryz.sizeOf5 rfl rfl rfl hi1 (by first | exact Nat.zero_add _ | rfl)) ?_
                    refine s_val rfl (v_load Tryz.isAgg5 rfl (Cells.weak hch 0 _ rfl)) ?_
                    refine s_val rfl (v_conv Tryz.underlying5 Tryz.underlying47 rfl (w32u (by omega))) ?_
                    refine s_do rfl (d_call3 Tryz.call33 rfl (viSave_spec W0 _ pv ps pm _ _ pg hP hF hFd (132 + 4 * i) (by omega) 4 H[i] (by omega))) ?_
                    rintro _ B_ ⟨rfl, hB_⟩
                    obtain rfl := hB_.symm
                    refine x_nil (n_then (x_region (s_val rfl (v_move rfl) (s_val rfl (v_move rfl) ?_))))
                    refine s_val rfl (v_mul rfl rfl (by rw [w64 (by omega)]; omega : IntKind.wrap .i64 (4 * (i : Int)) = ((4 * i : Nat) : Int))) ?_
                    refine s_val rfl (v_add rfl rfl (by rw [w64 (by omega)]; omega : IntKind.wrap .i64 (132 + ((4 * i : Nat) : Int)) = ((132 + 4 * i : Nat) : Int))) ?_
                    refine s_val rfl (v_conv Tryz.underlying3 Tryz.underlying47 rfl (w32u (by omega))) ?_
                    refine s_val rfl (v_fieldAddr rfl Tryz.underlying49 rfl Tryz.sizeOf44 rfl (by first | exact Nat.zero_add _ | rfl)) ?_
                    refine s_val rfl (v_load Tryz.isAgg44 rfl (cell_own rfl)) ?_
                    refine s_val rfl (v_move rfl) ?_
                    refine s_val rfl (v_idx Tryz.underlying44 Tryz.sizeOf5 rfl rfl rfl hi1 (by first | exact Nat.zero_add _ | rfl)) ?_
                    refine s_val rfl (v_load Tryz.isAgg5 rfl (Cells.weak hch 0 _ rfl)) ?_
                    refine s_val rfl (v_conv Tryz.underlying5 Tryz.underlying47 rfl (w32u (by omega))) ?_
                    refine s_do rfl (d_call3 Tryz.call34 rfl (rvSave_spec W0 _ qv qs qm _ _ pg hP hF (132 + 4 * i) (by omega) 4 H[i] (by omega))) ?_
                    rintro _ B_ ⟨rfl, hB_⟩
                    obtain rfl := hB_.symm
                    refine x_nil (n_block (n_then (x_region (s_val rfl (v_move rfl) ?_))))
                    refine s_val rfl (v_add rfl rfl (by first | exact w64 (by omega) | rfl)) ?_
                    refine s_val rfl (v_assign rfl) (x_nil (n_then ?_))
                    refine inv_intro (i + 1) ?_ ?_ ?_ ?_
                    · omega
                    · omega
                    · repeat (first | exact sub_nil | refine sub_cons rfl ?_)
                    · simp only [hsH]; exact inferInstance
                  · intro c26
                    refine x_exit (e_then (e_then (e_block (n_then ?_))))
                    refine mid_intro () ?_ ?_ ?_
                    · trivial
                    · repeat (first | exact sub_nil | refine sub_cons rfl ?_)
                    · obtain rfl : i = min H.length 4 := by omega
                      exact inferInstance
                · intro g26_6
                  refine s_no rfl rfl rfl rfl (s_val rfl (v_pick_f rfl rfl) (x_nil (n_then (x_iff rfl (x_exit (e_then (e_then (e_block (n_then ?_)))))))))
                  refine mid_intro () ?_ ?_ ?_
                  · trivial
                  · repeat (first | exact sub_nil | refine sub_cons rfl ?_)
                  · obtain rfl : i = min H.length 4 := by omega
                    exact inferInstance
            · intro _ _
              refine x_seq ?_
              obtain ⟨hF, hFl, hFd⟩ := mgH_ok pg g (min H.length 4)
              have hmg : mgP pg g = (vsvF (mgH pg g (min H.length 4)).1 pg 128 4 p, vsvD (mgH pg g (min H.length 4)).1 pg 128 4 (mgH pg g (min H.length 4)).2) := by rw [mgP, hgH, hgP]
              rw [hmg]
              generalize (mgH pg g (min H.length 4)).1 = f0 at hF hFl ⊢
              generalize (mgH pg g (min H.length 4)).2 = d0 at hFd ⊢
              refine x_region (s_val rfl (v_move rfl) ?_)
              refine s_val rfl (v_fieldAddr rfl Tryz.underlying49 rfl Tryz.sizeOf47 rfl (by first | exact Nat.zero_add _ | rfl)) ?_
              refine s_val rfl (v_load Tryz.isAgg47 rfl (cell_own rfl)) ?_
              refine s_do rfl (d_call3 Tryz.call33 rfl (viSave_spec W0 _ pv ps pm d0 f0 pg hP hF hFd 128 (by decide) 4 p hgp)) ?_
              rintro _ B_ ⟨rfl, hB_⟩
              obtain rfl := hB_.symm
              refine x_nil (n_then (x_seq (x_region (s_val rfl (v_move rfl) ?_))))
              refine s_val rfl (v_fieldAddr rfl Tryz.underlying49 rfl Tryz.sizeOf47 rfl (by first | exact Nat.zero_add _ | rfl)) ?_
              refine s_val rfl (v_load Tryz.isAgg47 rfl (cell_own rfl)) ?_
              refine s_do rfl (d_call3 Tryz.call34 rfl (rvSave_spec W0 _ qv qs qm d0 f0 pg hP hF 128 (by decide) 4 p hgp)) ?_
              rintro _ B_ ⟨rfl, hB_⟩
              obtain rfl := hB_.symm
              refine x_nil (n_then (x_seq (x_region (s_do rfl (d_call Tryz.call70 rfl (qNew_spec W0 _)) ?_))))
              rintro _ B_ ⟨bq, rfl, hB_⟩
              obtain rfl := hB_.symm
              refine s_val rfl (v_assign rfl) (x_nil (n_then (x_seq (x_region (s_val rfl (v_build Tryz.underlying76 Tryz.zeroValue76 (sized_cons Tryz.sizeOf73 sized_nil) fil_nil) ?_)))))
              refine s_do rfl (d_boxA rfl) ?_
              rintro _ _ ⟨br, rfl, rfl⟩
              refine s_val rfl (v_assign rfl) (x_nil (n_then (x_seq (x_seq (run_pt (b := br) (o' := rqO qs0) rfl ?_)))))
              obtain ⟨hvF, hvL⟩ := vsvF_ok (pg := pg) (pa := 128) (w := 4) (x := p) hF
              rw [hFl] at hvL
              generalize vsvF f0 pg 128 4 p = f1 at hvF hvL ⊢
              generalize vsvD f0 pg 128 4 d0 = d1
              rw [← hvL] at hfit
              refine x_region (s_val rfl (v_move rfl) (s_val rfl (v_move rfl) (s_do rfl (d_call Tryz.call72 rfl (lies25_spec W0 _)) ?_)))
              rintro _ B_ ⟨rfl, hB_⟩
              obtain rfl := hB_.symm
              refine s_do rfl (d_call4 Tryz.call71 rfl (qLay_spec W0 _ bq pv ps pm d1 f1 pg hP qs0 ⟨0, 128, 192, ((4 : Nat) : Int)⟩ ⟨by decide, by decide, by decide⟩ hfit)) ?_
              rintro _ B_ ⟨rfl, hB_⟩
              obtain rfl := hB_.symm
              refine s_val rfl (v_neq rfl rfl) (s_val rfl (v_move rfl) ?_)
              refine s_or rfl rfl rfl ?_ ?_
              · intro g34_6
                exact absurd rfl g34_6
              · intro g34_6
                refine s_val rfl (v_move rfl) (s_yes rfl rfl (s_val rfl (v_move rfl) (s_yes rfl rfl (s_do rfl (d_call Tryz.call72 rfl (lies25_spec W0 _)) ?_))))
                rintro _ B_ ⟨rfl, hB_⟩
                obtain rfl := hB_.symm
                refine s_yes rfl rfl ?_
                refine s_do rfl (d_call4 Tryz.call73 rfl (rqLay_spec W0 _ br qv qs qm d1 f1 pg hP qs0 ⟨0, 128, 192, ((4 : Nat) : Int)⟩ ⟨by decide, by decide, by decide⟩ hfit)) ?_
                rintro _ B_ ⟨rfl, hB_⟩
                obtain rfl := hB_.symm
                refine s_yes rfl rfl (s_val rfl (v_neq rfl rfl) (s_val rfl (v_pick_f rfl rfl) (x_nil (n_then ?_))))
                refine x_if rfl ?_ ?_
                · intro c34
                  exact absurd rfl c34
                · intro c34
                  refine x_skip (n_then (x_seq (x_region (s_val rfl (v_move rfl) (s_val rfl (v_move rfl) (s_val rfl (v_move rfl) (s_val rfl (v_move rfl) (s_val rfl (v_assign rfl) (s_val rfl (v_assign rfl) (s_val rfl (v_assign rfl) (s_val rfl (v_assign rfl) (x_nil (n_then (x_ret (x_done (.inl rfl) (.cons (r_tmp rfl) (.cons (r_tmp rfl) (.cons (r_tmp rfl) (.cons (r_tmp rfl) .nil)))) ?_)))))))))))))))
                  exact ⟨_, ⟨pv, ps, pm, qv, qs, qm, bq, br, rfl, rfl⟩, inferInstance⟩
end Go.Proofs.YtncegikenkpcmaaGreat
namespace Go.Proofs.YtncegikenkpcmaaGreat
open Go.RowKit
set_option linter.unusedSimpArgs false
set_option linter.unusedVariables false
set_option maxRecDepth 20000
theorem tk_len {fr : List Frm} {pg : List Pl} {s : QS} (h : (tkR fr pg s).2.2.1 = true) : 0 < (tkR fr pg s).2.1.length ∧ ((tkR fr pg s).2.1.length : Int) ≤ max s.r.n 0 := by
  have hW := wkAll_facts fr pg s.r (nxR fr pg s).1
  unfold tkR at h ⊢
  split
  · rename_i h1
    rw [if_pos h1] at h
    split
    · rename_i h2
      rw [if_pos h2] at h; cases h
    · rename_i h2
      have h0 : (wkAll fr pg s.r (nxR fr pg s).1).2 = 0 := Decidable.not_not.1 h2
      exact ⟨hW.zero.1 h0, hW.len⟩
  · rename_i h1
    rw [if_neg h1] at h; cases h
theorem fit27 : fitB 8 (pg23 8) ⟨0, 128, 192, ((4 : Nat) : Int)⟩ = true := by decide +kernel
theorem r27_ok : Rg3.ok ⟨0, 128, 192, ((4 : Nat) : Int)⟩ := ⟨by decide, by decide, by decide⟩
theorem q27_ok : QOk q27 := ⟨fun _ => by show ((4 : Nat) : Int) = 2 ∨ ((4 : Nat) : Int) = 4 ∨ ((4 : Nat) : Int) = 8; decide, fun _ => by show (128 : Nat) ≤ 1000; decide, fun _ => by show (192 : Nat) ≤ 1000; decide, by decide, by decide⟩
end Go.Proofs.YtncegikenkpcmaaGreat
namespace Go.Proofs.YtncegikenkpcmaaGreat
open Go.RowKit
set_option linter.unusedSimpArgs false
set_option linter.unusedVariables false
set_option maxRecDepth 20000
theorem tk_on {fr : List Frm} {pg : List Pl} {s : QS} (h : (tkR fr pg s).2.2.1 = true) : (tkS fr pg s).on = true ∧ (tkS fr pg s).br = 0 ∧ WkOk fr pg s.r (tkR fr pg s).2.1 0 := by
  have hW := wkAll_facts fr pg s.r (nxR fr pg s).1
  unfold tkR at h ⊢
  unfold tkS
  split at h
  · rename_i h1
    split at h
    · cases h
    · rename_i h2
      have h0 : (tkL fr pg s).2 = 0 := Decidable.not_not.1 h2
      rw [if_pos h1, if_neg h2, if_pos h1, if_neg h2]
      have hW' : WkOk fr pg s.r (tkL fr pg s).1 0 := by rw [← h0]; exact hW
      refine ⟨?_, ?_, hW'⟩
      all_goals
        unfold nxR at h1
        unfold nxS
        split at h1
        · rename_i h3
          simp only [Bool.and_eq_true, decide_eq_true_iff] at h3
          split at h1
          · cases h1
          · rename_i h4
            rw [if_pos (by simp [h3]), if_neg h4]
            split
            · first | exact h3.1 | exact h3.2
            · first | exact h3.1 | exact h3.2
        · cases h1
  · cases h
theorem sbGo_ok {pg : List Pl} {who : Int} {len : Nat} {r : Rg3} : ∀ (k : Nat) {x : SbS}, SbOk len r x → SbOk len r (sbGo pg who k x)
  | 0, x, h => h
  | k + 1, x, h => by
    have ho := (sbSt_ok (pg := pg) (who := who) h).1
    rw [sbGo]; split
    · exact sbGo_ok k ho
    · exact ho
end Go.Proofs.YtncegikenkpcmaaGreat
namespace Go.Proofs.YtncegikenkpcmaaGreat
open Go.RowKit
set_option linter.unusedSimpArgs false
set_option linter.unusedVariables false
set_option maxRecDepth 20000
section
variable {W0 : World} {N : FSz} {K : Act → World → Prop} {e : Env} {A B R R1 R2 R3 : List HP} {g n c : Nat} {a : Option Addr} {v : Value} {ls : List (List ByteArray)}
end
end Go.Proofs.YtncegikenkpcmaaGreat
namespace Go.Proofs.YtncegikenkpcmaaGreat
open Go.RowKit
set_option linter.unusedSimpArgs false
set_option linter.unusedVariables false
set_option maxRecDepth 20000
section
variable {W0 : World} {N : FSz} {K : Act → World → Prop} {e : Env} {A B R R1 R2 R3 R4 R5 R6 : List HP} {p n : Nat} {ps : List Prt}
end
end Go.Proofs.YtncegikenkpcmaaGreat
namespace Go.Proofs.YtncegikenkpcmaaGreat
open Go.RowKit
set_option linter.unusedSimpArgs false
set_option linter.unusedVariables false
set_option maxRecDepth 20000
end Go.Proofs.YtncegikenkpcmaaGreat
namespace Go.Proofs.YtncegikenkpcmaaGreat
open Go.RowKit
set_option linter.unusedSimpArgs false
set_option linter.unusedVariables false
set_option maxRecDepth 20000
end Go.Proofs.YtncegikenkpcmaaGreat
namespace Go.Proofs.YtncegikenkpcmaaGreat
open Go.RowKit
set_option linter.unusedSimpArgs false
set_option linter.unusedVariables false
set_option maxRecDepth 20000
theorem mgA_cong {pg : List Pl} {g g' : Gst} (h1 : g.A = g'.A) (h2 : g.B.map (fun y => y.2.2) = g'.B.map (fun y => y.2.2)) : ∀ i, mgA pg g i = mgA pg g' i
  | 0 => rfl
  | i + 1 => by
    have e : ∀ l : List Bts, (l.getD i (none, 0, [])).2.2 = (l.map (fun y => y.2.2)).getD i [] := fun l => by
      simp only [List.getD, List.getElem?_map]
      cases l[i]? <;> rfl
    rw [mgA, mgA, mgA_cong h1 h2 i, h1, e, e, h2]
theorem mgD_cong {pg : List Pl} {g g' : Gst} (h1 : g.A = g'.A) (h2 : g.B.map (fun y => y.2.2) = g'.B.map (fun y => y.2.2)) (h3 : g.L = g'.L) : ∀ i, mgD pg g i = mgD pg g' i
  | 0 => by
    have hn : mgN g = mgN g' := by
      have := congrArg List.length h2
      rw [List.length_map, List.length_map] at this
      rw [mgN, mgN, this, h1]
    rw [mgD, mgD, hn]; exact mgA_cong h1 h2 _
  | i + 1 => by rw [mgD, mgD, mgD_cong h1 h2 h3 i, h3]
theorem mgH_cong {pg : List Pl} {g g' : Gst} (h1 : g.A = g'.A) (h2 : g.B.map (fun y => y.2.2) = g'.B.map (fun y => y.2.2)) (h3 : g.L = g'.L) (h4 : g.H = g'.H) : ∀ i, mgH pg g i = mgH pg g' i
  | 0 => by rw [mgH, mgH, h3]; exact mgD_cong h1 h2 h3 _
  | i + 1 => by rw [mgH, mgH, mgH_cong h1 h2 h3 h4 i, h4]
theorem mk27_cong {g g' : Gst} (h1 : g.A = g'.A) (h2 : g.B.map (fun y => y.2.2) = g'.B.map (fun y => y.2.2)) (h3 : g.L = g'.L) (h4 : g.H = g'.H) (h5 : g.p = g'.p) : mk27 g = mk27 g' := by
  rw [mk27, mk27, mgP, mgP, mgH_cong h1 h2 h3 h4, h4, h5]
end Go.Proofs.YtncegikenkpcmaaGreat
namespace Go.Proofs.YtncegikenkpcmaaGreat
open Go.RowKit
set_option linter.unusedSimpArgs false
set_option linter.unusedVariables false
set_option maxRecDepth 20000
theorem wr_one {fr : List Frm} {pg : List Pl} {pa : Nat} {bs : List Nat} {j : Nat} (hj : j < bs.length) (ho : ownB fr.length pg pa bs.length = true) : wrF (wrK fr pg pa bs j) pg (pa + j) [bs[j]] = wrK fr pg pa bs (j + 1) := by
  obtain ⟨h1, h2⟩ := ownB_nat.1 ho
  have hl : (wrK fr pg pa bs j).length = fr.length := by
    clear hj
    induction j with
    | zero => rfl
    | succ j ih => rw [wrK, svF_len, ih]
  have hg : bs.getD j 0 = bs[j] := by simp [List.getD, hj]
  have h3 : ownB (wrK fr pg pa bs j).length pg (pa + j) ([bs[j]].length : Nat) = true := by
    rw [hl, ownB_nat]
    exact ⟨by simp; omega, fun i hi => by rw [show pa + j + i = pa + j by simp at hi; omega]; exact h2 j hj⟩
  rw [wrF, if_pos h3]
  simp only [List.length_cons, List.length_nil, Nat.zero_add, wrK, Nat.add_zero, hg, List.getD_cons_zero]
theorem wr_oneD {fr : List Frm} {pg : List Pl} {pa d n j : Nat} {bs : List Nat} (hj : j < n) (ho : ownB fr.length pg pa n = true) : wrE (wrK fr pg pa bs j) pg (pa + j) (wrD d pa j) 1 = wrD d pa (j + 1) := by
  obtain ⟨h1, h2⟩ := ownB_nat.1 ho
  have hl : (wrK fr pg pa bs j).length = fr.length := by
    clear hj
    induction j with
    | zero => rfl
    | succ j ih => rw [wrK, svF_len, ih]
  have h3 : ownB (wrK fr pg pa bs j).length pg (pa + j) (1 : Nat) = true := by
    rw [hl, ownB_nat]
    exact ⟨by omega, fun i hi => by rw [show pa + j + i = pa + j by omega]; exact h2 j hj⟩
  rw [wrE, if_pos h3]
  simp only [wrD, Nat.add_zero]
theorem own_sub {len : Nat} {pg : List Pl} {pa n i k : Nat} (ho : ownB len pg pa n = true) (hk : i + k ≤ n) : ownB len pg (pa + i) k = true := by
  obtain ⟨h1, h2⟩ := ownB_nat.1 ho
  rw [ownB_nat]
  exact ⟨by omega, fun j hj => by rw [show pa + i + j = pa + (i + j) by omega]; exact h2 (i + j) (by omega)⟩
theorem drop_get {bs : List Nat} {dn k j : Nat} (h : j < ((bs.drop dn).take k).length) : ((bs.drop dn).take k)[j] = bs[dn + j]'(by rw [List.length_take, List.length_drop] at h; omega) := by
  simp [List.getElem_take, List.getElem_drop]
def skV (from_ : Int) (sk : Nat) : Int := if from_ < 0 then from_ else sk
theorem rcScatter_spec (W0 : World) (R : List HP) (qv qs qm d c cb : Nat) (a ab : Option Addr) (fr : List Frm) (pg : List Pl) (h : Pgs pg) (hF : Frs fr) (hd : d < 4096) (l : List Dsc) (hs : SlA (OwnP W0 R) a 4 dsV l) (hl : ∀ x ∈ l, x.ok) (hn : l.length ≤ 1000) (from_ : Int) (hf : -9223372036854775808 ≤ from_ ∧ from_ < 9223372036854775808)
    (bs : List Nat) (hb : By bs) (hsb : SlA (OwnP W0 R) ab 1 (fun x => [bV x]) bs) (hbl : bs.length < 9223372036854775808) :
    Spec Tryz.prog W0 96 [.pointer (some ⟨qv, 0, none⟩), .slice a l.length c, .int .i64 from_, .slice ab bs.length cb] (pt qv (rvO qs qm d) :: rstoH qs fr :: pt qm (rgO pg) :: R)
      (fun v B => v = .int .i64 ((scK fr pg d l from_ bs l.length).2.1 : Nat) ∧ B = pt qv (rvO qs qm (scK fr pg d l from_ bs l.length).2.2.2) :: rstoH qs (scK fr pg d l from_ bs l.length).2.2.1 :: pt qm (rgO pg) :: R) := by
  refine spec_body Tryz.func96 Tryz.ntmps96 rfl rfl ?_
  refine x_seq (x_region (s_val rfl (v_assign rfl) (x_nil (n_then (x_seq (x_region (s_val rfl (v_move rfl) (s_val rfl (v_assign rfl) (x_nil (n_then (x_seq (x_region (s_val rfl (v_assign rfl) (x_nil (n_then (x_seq (x_seq (x_region (s_val rfl (v_assign rfl) (x_nil (n_then (x_block ?_))))))))))))))))))))))
  refine x_loop (fun X : Nat × Int => X.1 ≤ l.length ∧ ((scK fr pg d l from_ bs X.1).2.1 = bs.length ∨ X.2 = skV from_ (scK fr pg d l from_ bs X.1).1)) (fun X => [(0, .pointer (some ⟨qv, 0, none⟩)), (1, .slice a l.length c), (3, .slice ab bs.length cb), (9, .int .i64 X.2), (10, .int .i64 ((scK fr pg d l from_ bs X.1).2.1 : Nat)), (11, .int .i64 X.1)]) (fun X => pt qv (rvO qs qm (scK fr pg d l from_ bs X.1).2.2.2) :: rstoH qs (scK fr pg d l from_ bs X.1).2.2.1 :: pt qm (rgO pg) :: R) (fun X => l.length - X.1) (0, from_) ?_ ?_ ?_ ?_
  · refine ⟨Nat.zero_le _, .inr ?_⟩
    simp only [skV, scK]; split <;> omega
  · repeat (first | exact sub_nil | refine sub_cons rfl ?_)
  · simp only [scK]; exact inferInstance
  · intro ⟨i, rs⟩ ⟨hi, hrs⟩
    have hok := scK_ok (pg := pg) (l := l) (from_ := from_) (bs := bs) hF hd i
    have hSS : scK fr pg d l from_ bs (i + 1) = scStep pg bs (l.getD i zD) (scK fr pg d l from_ bs i) := rfl
    have hend : ∀ hle : i = l.length, scK fr pg d l from_ bs l.length = scK fr pg d l from_ bs i := fun q => by rw [q]
    dsimp only at hi hrs ⊢
    generalize scK fr pg d l from_ bs i = s at hok hSS hend hrs ⊢
    obtain ⟨sk, dn, fi, di⟩ := s
    obtain ⟨hFi, hli, hdi, hdn, hsk⟩ := hok
    dsimp only at hFi hli hdi hdn hsk hrs ⊢
    refine x_seq (x_seq (x_region (s_val rfl (v_move rfl) (s_val rfl (v_move rfl) (s_val rfl (v_len_slice Tryz.underlying43 rfl) (s_val rfl (v_lss rfl rfl) (x_nil (n_then ?_))))))))
    refine x_if rfl ?_ ?_
    · intro c4
      refine x_skip (n_then (x_seq (x_block (x_seq (x_seq ?_)))))
      have hi1 : i < l.length := by omega
      obtain ⟨g, o, rfl, hc⟩ := hs.at_ hi1
      have hx := hl _ (List.getElem_mem hi1)
      have hgd : l.getD i zD = l[i] := by simp [List.getD, hi1]
      rw [hgd] at hSS
      generalize l[i] = x at hc hx hSS
      have ha := hx.addr
      have hle := hx.len
      refine x_draw [(g, o + i * 4, dsV x)] 22 mixed rfl (sc_cons hc.weak sc_end) (fun hS => ?_)
      refine d_take 0 rfl rfl (by kernel_rfl) (by kernel_rfl) (by kernel_rfl) rfl hS (v_move rfl) ?_
      refine d_take 1 rfl rfl (by kernel_rfl) (by kernel_rfl) (by kernel_rfl) rfl hS (v_move rfl) ?_
      refine d_take 2 rfl rfl (by kernel_rfl) (by kernel_rfl) (by kernel_rfl) rfl hS (v_idx Tryz.underlying43 Tryz.sizeOf139 rfl rfl rfl hi1 (by first | exact Nat.zero_add _ | rfl)) ?_
      refine d_take 3 rfl rfl (by kernel_rfl) (by kernel_rfl) (by kernel_rfl) rfl hS (v_loadAgg Tryz.isAgg139 Tryz.sizeOf139 rfl (cells_sc (k := 0) rfl) rfl) ?_
      refine d_one 4 (by kernel_rfl) rfl rfl (d_call Tryz.call159 rfl (rcWrites_spec W0 _ x hx)) rfl ?_; clear hS
      rintro _ B_ ⟨rfl, hB_⟩
      obtain rfl := hB_.symm
      refine ⟨(sc_cons hc.weak sc_end), fun hS => ?_⟩
      refine d_take 5 rfl rfl (by kernel_rfl) (by kernel_rfl) (by kernel_rfl) rfl hS (v_not rfl) ?_
      refine d_take 6 rfl rfl (by kernel_rfl) (by kernel_rfl) (by kernel_rfl) rfl hS (v_move rfl) ?_
      refine x_split (t := 26) rfl ?_ ?_
      · intro g6_7
        have hst : scK fr pg d l from_ bs (i + 1) = (sk, dn, fi, di) := by rw [hSS, scStep, if_neg (fun q => g6_7 q.1)]
        obtain ⟨rs', hrs'⟩ : ∃ y, y = rs := ⟨rs, rfl⟩
        have hI' : dn = bs.length ∨ rs' = skV from_ sk := by rw [hrs']; exact hrs
        refine d_skip 7 rfl rfl (by kernel_rfl) (by kernel_rfl) (by kernel_rfl) rfl hS ?_
        refine d_skip 8 rfl rfl (by kernel_rfl) (by kernel_rfl) (by kernel_rfl) rfl hS ?_
        refine d_skip 9 rfl rfl (by kernel_rfl) (by kernel_rfl) (by kernel_rfl) rfl hS ?_
        refine d_skip 10 rfl rfl (by kernel_rfl) (by kernel_rfl) (by kernel_rfl) rfl hS ?_
        refine d_skip 11 rfl rfl (by kernel_rfl) (by kernel_rfl) (by kernel_rfl) rfl hS ?_
        refine d_skip 12 rfl rfl (by kernel_rfl) (by kernel_rfl) (by kernel_rfl) rfl hS ?_
        refine d_skip 13 rfl rfl (by kernel_rfl) (by kernel_rfl) (by kernel_rfl) rfl hS ?_
        refine d_skip 14 rfl rfl (by kernel_rfl) (by kernel_rfl) (by kernel_rfl) rfl hS ?_
        refine d_skip 15 rfl rfl (by kernel_rfl) (by kernel_rfl) (by kernel_rfl) rfl hS ?_
        refine d_skip 16 rfl rfl (by kernel_rfl) (by kernel_rfl) (by kernel_rfl) rfl hS ?_
        refine d_skip 17 rfl rfl (by kernel_rfl) (by kernel_rfl) (by kernel_rfl) rfl hS ?_
        refine d_skip 18 rfl rfl (by kernel_rfl) (by kernel_rfl) (by kernel_rfl) rfl hS ?_
        refine d_skip 19 rfl rfl (by kernel_rfl) (by kernel_rfl) (by kernel_rfl) rfl hS ?_
        refine d_skip 20 rfl rfl (by kernel_rfl) (by kernel_rfl) (by kernel_rfl) rfl hS ?_
        refine d_take 21 rfl rfl (by kernel_rfl) (by kernel_rfl) (by kernel_rfl) rfl hS (v_pick_t rfl rfl) ?_
        refine d_done (by kernel_rfl) ?_; clear hS
        refine n_then (x_ift rfl (x_exit (e_then (e_block (n_then (x_region (s_val rfl (v_move rfl) ?_)))))))
        refine s_val rfl (v_add rfl rfl (by first | exact w64 (by omega) | rfl)) ?_
        refine s_val rfl (v_assign rfl) (x_nil (n_then ?_))
        refine inv_intro (i + 1, rs') ?_ ?_ ?_ ?_
        · rw [hst]; exact ⟨by omega, hI'⟩
        · omega
        · dsimp only
          rw [hst, hrs']; repeat (first | exact sub_nil | refine sub_cons rfl ?_)
        · dsimp only
          rw [hst]; exact inferInstance
      · intro g6_7
        refine d_take 7 rfl rfl (by kernel_rfl) (by kernel_rfl) (by kernel_rfl) rfl hS (v_move rfl) ?_
        refine d_take 8 rfl rfl (by kernel_rfl) (by kernel_rfl) (by kernel_rfl) rfl hS (v_move rfl) ?_
        refine d_take 9 rfl rfl (by kernel_rfl) (by kernel_rfl) (by kernel_rfl) rfl hS (v_move rfl) ?_
        refine d_take 10 rfl rfl (by kernel_rfl) (by kernel_rfl) (by kernel_rfl) rfl hS (v_idx Tryz.underlying43 Tryz.sizeOf139 rfl rfl rfl hi1 (by first | exact Nat.zero_add _ | rfl)) ?_
        refine d_take 11 rfl rfl (by kernel_rfl) (by kernel_rfl) (by kernel_rfl) rfl hS (v_fieldAddr rfl Tryz.underlying139 rfl Tryz.sizeOf47 rfl (by first | exact Nat.zero_add _ | rfl)) ?_
        refine d_take 12 rfl rfl (by kernel_rfl) (by kernel_rfl) (by kernel_rfl) rfl hS (v_load Tryz.isAgg47 rfl (cell_sc (k := 0) (j := 0) rfl rfl)) ?_
        refine d_take 13 rfl rfl (by kernel_rfl) (by kernel_rfl) (by kernel_rfl) rfl hS (v_move rfl) ?_
        refine d_take 14 rfl rfl (by kernel_rfl) (by kernel_rfl) (by kernel_rfl) rfl hS (v_move rfl) ?_
        refine d_take 15 rfl rfl (by kernel_rfl) (by kernel_rfl) (by kernel_rfl) rfl hS (v_idx Tryz.underlying43 Tryz.sizeOf139 rfl rfl rfl hi1 (by first | exact Nat.zero_add _ | rfl)) ?_
        refine d_take 16 rfl rfl (by kernel_rfl) (by kernel_rfl) (by kernel_rfl) rfl hS (v_fieldAddr rfl Tryz.underlying139 rfl Tryz.sizeOf47 rfl (by first | exact Nat.zero_add _ | rfl)) ?_
        refine d_take 17 rfl rfl (by kernel_rfl) (by kernel_rfl) (by kernel_rfl) rfl hS (v_load Tryz.isAgg47 rfl (cell_sc (k := 0) (j := 1) rfl rfl)) ?_
        refine d_take 18 rfl rfl (by kernel_rfl) (by kernel_rfl) (by kernel_rfl) rfl hS (v_conv Tryz.underlying47 Tryz.underlying3 rfl (w64 (by omega))) ?_
        refine d_one 19 (by kernel_rfl) rfl rfl (d_call3 Tryz.call135 rfl (rvOwn_spec W0 _ qv qs qm di fi pg h x.addr ha x.len)) rfl ?_; clear hS
        rintro _ B_ ⟨rfl, hB_⟩
        obtain rfl := hB_.symm
        refine ⟨(sc_cons hc.weak sc_end), fun hS => ?_⟩
        refine d_take 20 rfl rfl (by kernel_rfl) (by kernel_rfl) (by kernel_rfl) rfl hS (v_not rfl) ?_
        refine d_take 21 rfl rfl (by kernel_rfl) (by kernel_rfl) (by kernel_rfl) rfl hS (v_pick_f rfl rfl) ?_
        refine d_done (by kernel_rfl) ?_; clear hS
        refine n_then ?_
        refine x_if rfl ?_ ?_
        · intro c6
          have hst : scK fr pg d l from_ bs (i + 1) = (sk, dn, fi, di) := by rw [hSS, scStep, if_neg (fun q => c6 q.2)]
          obtain ⟨rs', hrs'⟩ : ∃ y, y = rs := ⟨rs, rfl⟩
          have hI' : dn = bs.length ∨ rs' = skV from_ sk := by rw [hrs']; exact hrs
          refine x_exit (e_then (e_block (n_then (x_region (s_val rfl (v_move rfl) ?_)))))
          refine s_val rfl (v_add rfl rfl (by first | exact w64 (by omega) | rfl)) ?_
          refine s_val rfl (v_assign rfl) (x_nil (n_then ?_))
          refine inv_intro (i + 1, rs') ?_ ?_ ?_ ?_
          · rw [hst]; exact ⟨by omega, hI'⟩
          · omega
          · dsimp only
            rw [hst, hrs']; repeat (first | exact sub_nil | refine sub_cons rfl ?_)
          · dsimp only
            rw [hst]; exact inferInstance
        · intro c6
          have hw : wrB x = true := by simpa using g6_7
          have ho : ownB fi.length pg x.addr x.len = true := by simpa using c6
          have hst : scK fr pg d l from_ bs (i + 1) = (sk - min sk x.len, dn + min (x.len - min sk x.len) (bs.length - dn), wrF fi pg (x.addr + min sk x.len) ((bs.drop dn).take (min (x.len - min sk x.len) (bs.length - dn))), wrE fi pg (x.addr + min sk x.len) di (min (x.len - min sk x.len) (bs.length - dn))) := by rw [hSS, scStep, if_pos ⟨hw, ho⟩]
          have h512 := (ownB_nat.1 ho).1
          obtain ⟨ah, hah⟩ : ∃ y, min sk x.len = y := ⟨_, rfl⟩
          rw [hah] at hst
          obtain ⟨kk, hkk⟩ : ∃ y, min (x.len - ah) (bs.length - dn) = y := ⟨_, rfl⟩
          rw [hkk] at hst
          have hosub : ownB fi.length pg (x.addr + ah) kk = true := own_sub ho (by omega)
          obtain ⟨bk, hbk⟩ : ∃ y, (bs.drop dn).take kk = y := ⟨_, rfl⟩
          have hbkl : bk.length = kk := by rw [← hbk, List.length_take, List.length_drop]; omega
          rw [hbk, wrF, hbkl, if_pos hosub, wrE, if_pos hosub] at hst
          refine x_skip (n_then (x_seq (x_region (s_val rfl (v_assign rfl) (x_nil (n_then (x_block ?_)))))))
          refine x_loop (fun Y : Nat × Int × Nat => Y.1 ≤ x.len ∧ Y.2.2 ≤ kk ∧ (dn = bs.length ∨ (Y.2.2 = Y.1 - ah ∧ Y.2.1 = skV from_ (sk - Y.1)))) (fun Y => [(0, .pointer (some ⟨qv, 0, none⟩)), (1, .slice (some ⟨g, o, none⟩) l.length c), (3, .slice ab bs.length cb), (9, .int .i64 Y.2.1), (10, .int .i64 (dn + Y.2.2 : Nat)), (11, .int .i64 i), (12, .int .i64 Y.1)]) (fun Y => pt qv (rvO qs qm (wrD di (x.addr + ah) Y.2.2)) :: rstoH qs (wrK fi pg (x.addr + ah) bk Y.2.2) :: pt qm (rgO pg) :: R) (fun Y => x.len - Y.1) (0, rs, 0) ?_ ?_ ?_ ?_
          · refine ⟨Nat.zero_le _, Nat.zero_le _, ?_⟩
            rcases hrs with q | q
            · exact .inl q
            · exact .inr ⟨by simp, by simpa using q⟩
          · repeat (first | exact sub_nil | refine sub_cons rfl ?_)
          · simp only [wrD, wrK]; exact inferInstance
          · intro ⟨k, rk, j⟩ ⟨hk1, hj1, hkI⟩
            dsimp only at hk1 hj1 hkI ⊢
            refine x_seq (x_seq (x_region (s_val rfl (v_move rfl) (s_val rfl (v_move rfl) (s_val rfl (v_move rfl) ?_)))))
            refine s_val rfl (v_idx Tryz.underlying43 Tryz.sizeOf139 rfl rfl rfl hi1 (by first | exact Nat.zero_add _ | rfl)) ?_
            refine s_val rfl (v_fieldAddr rfl Tryz.underlying139 rfl Tryz.sizeOf47 rfl (by first | exact Nat.zero_add _ | rfl)) ?_
            refine s_val rfl (v_load Tryz.isAgg47 rfl (Cells.weak hc 1 _ rfl)) ?_
            refine s_val rfl (v_conv Tryz.underlying47 Tryz.underlying3 rfl (w64 (by omega))) ?_
            refine s_val rfl (v_lss rfl rfl) (s_val rfl (v_move rfl) ?_)
            refine s_and rfl rfl rfl ?_ ?_
            · intro g8_9
              refine s_val rfl (v_move rfl) (s_yes rfl rfl (s_val rfl (v_move rfl) (s_yes rfl rfl (s_val rfl (v_len_slice Tryz.underlying44 rfl) (s_yes rfl rfl (s_val rfl (v_lss rfl rfl) (s_val rfl (v_pick_t rfl rfl) (x_nil (n_then ?_)))))))))
              refine x_if rfl ?_ ?_
              · intro c8
                refine x_skip (n_then (x_seq (x_block (x_seq ?_))))
                have hklt : k < x.len := by omega
                have hdlt : dn + j < bs.length := by omega
                obtain ⟨hq2, hq3⟩ : j = k - ah ∧ rk = skV from_ (sk - k) := by
                  rcases hkI with q | q
                  · omega
                  · exact q
                have hskb : skV from_ (sk - k) ≤ max from_ 0 ∧ min from_ 0 ≤ skV from_ (sk - k) := by unfold skV; split <;> omega
                refine x_region (s_val rfl (v_move rfl) (s_val rfl (v_gtr rfl rfl) (x_nil (n_then ?_))))
                refine x_if rfl ?_ ?_
                · intro c10
                  have hska : 0 ≤ from_ ∧ k < sk := by rw [hq3] at c10; unfold skV at c10; split at c10 <;> omega
                  have hnx : rk - 1 = skV from_ (sk - (k + 1)) := by rw [hq3]; unfold skV; rw [if_neg (by omega), if_neg (by omega)]; omega
                  obtain ⟨j', hj'⟩ : ∃ y, y = j := ⟨j, rfl⟩
                  obtain ⟨rk', hrk'⟩ : ∃ y, y = rk - 1 := ⟨_, rfl⟩
                  have hI1 : j' ≤ kk ∧ j' = (k + 1) - ah ∧ rk' = skV from_ (sk - (k + 1)) := ⟨by omega, by omega, by rw [hrk']; exact hnx⟩
                  refine x_region (s_val rfl (v_move rfl) ?_)
                  refine s_val rfl (v_sub rfl rfl (w64 (by omega))) ?_
                  refine s_val rfl (v_assign rfl) (x_nil (n_block (n_then (x_region (s_val rfl (v_move rfl) ?_)))))
                  refine s_val rfl (v_add rfl rfl (by first | exact w64 (by omega) | rfl)) ?_
                  refine s_val rfl (v_assign rfl) (x_nil (n_then ?_))
                  refine inv_intro (k + 1, rk', j') ?_ ?_ ?_ ?_
                  · exact ⟨by omega, hI1.1, .inr ⟨hI1.2.1, hI1.2.2⟩⟩
                  · omega
                  · dsimp only
                    rw [hj', hrk']; repeat (first | exact sub_nil | refine sub_cons rfl ?_)
                  · dsimp only
                    rw [hj']; exact inferInstance
                · intro c10
                  have hska : from_ < 0 ∨ sk ≤ k := by rw [hq3] at c10; unfold skV at c10; split at c10 <;> omega
                  have hsz : from_ < 0 → sk = 0 := fun q => by omega
                  have hjk : j < kk := by omega
                  have hax : x.addr + k = x.addr + ah + j := by omega
                  have hnx : rk = skV from_ (sk - (k + 1)) := by rw [hq3]; unfold skV; split <;> omega
                  obtain ⟨gb, ob, rfl, hcb⟩ := hsb.at_ hdlt
                  have hb8 : bs[dn + j] < 256 := hb.get hdlt
                  have hFk := (wrK_ok (pg := pg) (pa := x.addr + ah) (bs := bk) hFi j).1
                  have hbj : bk[j]'(by omega) = bs[dn + j] := by
                    have : ∀ y (hy : (bs.drop dn).take kk = y) (hj : j < y.length), y[j] = bs[dn + j] := by
                      intro y hy hj; subst hy; exact drop_get hj
                    exact this bk hbk (by omega)
                  have hw1 := wr_one (fr := fi) (pg := pg) (pa := x.addr + ah) (bs := bk) (j := j) (by omega) (by rw [hbkl]; exact hosub)
                  have hw2 := wr_oneD (fr := fi) (pg := pg) (pa := x.addr + ah) (d := di) (n := kk) (j := j) (bs := bk) hjk hosub
                  rw [hbj] at hw1
                  obtain ⟨j', hj'⟩ : ∃ y, y = j + 1 := ⟨_, rfl⟩
                  obtain ⟨rk', hrk'⟩ : ∃ y, y = rk := ⟨_, rfl⟩
                  have hI1 : j' ≤ kk ∧ j' = (k + 1) - ah ∧ rk' = skV from_ (sk - (k + 1)) := ⟨by omega, by omega, by rw [hrk']; exact hnx⟩
                  refine x_seq ?_
                  refine x_draw [(g, o + i * 4, dsV x), (gb, ob + (dn + j) * 1, [bV bs[dn + j]])] 15 mixed rfl (sc_cons hc.weak (sc_cons hcb.weak sc_end)) (fun hS => ?_)
                  refine d_take 0 rfl rfl (by kernel_rfl) (by kernel_rfl) (by kernel_rfl) rfl hS (v_move rfl) ?_
                  refine d_take 1 rfl rfl (by kernel_rfl) (by kernel_rfl) (by kernel_rfl) rfl hS (v_move rfl) ?_
                  refine d_take 2 rfl rfl (by kernel_rfl) (by kernel_rfl) (by kernel_rfl) rfl hS (v_move rfl) ?_
                  refine d_take 3 rfl rfl (by kernel_rfl) (by kernel_rfl) (by kernel_rfl) rfl hS (v_idx Tryz.underlying43 Tryz.sizeOf139 rfl rfl rfl hi1 (by first | exact Nat.zero_add _ | rfl)) ?_
                  refine d_take 4 rfl rfl (by kernel_rfl) (by kernel_rfl) (by kernel_rfl) rfl hS (v_fieldAddr rfl Tryz.underlying139 rfl Tryz.sizeOf47 rfl (by first | exact Nat.zero_add _ | rfl)) ?_
                  refine d_take 5 rfl rfl (by kernel_rfl) (by kernel_rfl) (by kernel_rfl) rfl hS (v_load Tryz.isAgg47 rfl (cell_sc (k := 0) (j := 0) rfl rfl)) ?_
                  refine d_take 6 rfl rfl (by kernel_rfl) (by kernel_rfl) (by kernel_rfl) rfl hS (v_move rfl) ?_
                  refine d_take 7 rfl rfl (by kernel_rfl) (by kernel_rfl) (by kernel_rfl) rfl hS (v_conv Tryz.underlying3 Tryz.underlying47 rfl (w32u (by omega))) ?_
                  refine d_take 8 rfl rfl (by kernel_rfl) (by kernel_rfl) (by kernel_rfl) rfl hS (v_add rfl rfl (by rw [w32u (by omega)]; omega : IntKind.wrap .u32 ((x.addr : Int) + (k : Int)) = ((x.addr + ah + j : Nat) : Int))) ?_
                  refine d_take 9 rfl rfl (by kernel_rfl) (by kernel_rfl) (by kernel_rfl) rfl hS (v_move rfl) ?_
                  refine d_take 10 rfl rfl (by kernel_rfl) (by kernel_rfl) (by kernel_rfl) rfl hS (v_move rfl) ?_
                  refine d_take 11 rfl rfl (by kernel_rfl) (by kernel_rfl) (by kernel_rfl) rfl hS (v_idx Tryz.underlying44 Tryz.sizeOf5 rfl rfl rfl hdlt (by first | exact Nat.zero_add _ | rfl)) ?_
                  refine d_take 12 rfl rfl (by kernel_rfl) (by kernel_rfl) (by kernel_rfl) rfl hS (v_load Tryz.isAgg5 rfl (cell_sc1 (k := 1) rfl)) ?_
                  refine d_one 13 (by kernel_rfl) rfl rfl (d_sliceLit Tryz.underlying44 Tryz.sizeOf5 Tryz.zeroValue5 rfl rfl rfl rfl rfl (by decide) (by decide)) rfl ?_; clear hS
                  rintro _ _ ⟨b1, rfl, rfl⟩
                  refine ⟨(sc_cons hc.weak (sc_cons hcb.weak sc_end)), fun hS => ?_⟩
                  refine d_one 14 (by kernel_rfl) rfl rfl (d_call3 Tryz.call68 rfl (rvWriteN_spec W0 _ qv qs qm _ _ 1 _ _ pg h hFk (x.addr + ah + j) (by omega) [bs[dn + j]] rfl (fun b hb => by have := List.mem_singleton.1 hb; omega) (sla_pt (fun _ => rfl) rfl) (by decide))) rfl ?_; clear hS
                  rintro _ B_ ⟨rfl, hB_⟩
                  obtain rfl := hB_.symm
                  rw [hw1, hw2]
                  refine ⟨(sc_cons hc.weak (sc_cons hcb.weak sc_end)), fun hS => ?_⟩
                  refine d_done (by kernel_rfl) ?_; clear hS
                  refine n_then (x_region (s_val rfl (v_move rfl) ?_))
                  refine s_val rfl (v_add rfl rfl (by rw [w64 (by omega)]; omega : IntKind.wrap .i64 (((dn + j : Nat) : Int) + 1) = ((dn + (j + 1) : Nat) : Int))) ?_
                  refine s_val rfl (v_assign rfl) (x_nil (n_block (n_then (x_region (s_val rfl (v_move rfl) ?_)))))
                  refine s_val rfl (v_add rfl rfl (by first | exact w64 (by omega) | rfl)) ?_
                  refine s_val rfl (v_assign rfl) (x_nil (n_then ?_))
                  refine inv_intro (k + 1, rk', j') ?_ ?_ ?_ ?_
                  · exact ⟨by omega, hI1.1, .inr ⟨hI1.2.1, hI1.2.2⟩⟩
                  · omega
                  · dsimp only
                    rw [hj', hrk']; repeat (first | exact sub_nil | refine sub_cons rfl ?_)
                  · dsimp only
                    rw [hj']; exact inferInstance
              · intro c8
                have hjkk : j = kk := by rcases hkI with q | q <;> omega
                rw [← hjkk] at hst
                obtain ⟨rs', hrs'⟩ : ∃ y, y = rk := ⟨_, rfl⟩
                have hI' : dn + j = bs.length ∨ rs' = skV from_ (sk - ah) := by
                  rw [hrs']
                  left; omega
                refine x_exit (e_then (e_then (e_block (n_block (n_then (x_region (s_val rfl (v_move rfl) ?_)))))))
                refine s_val rfl (v_add rfl rfl (by first | exact w64 (by omega) | rfl)) ?_
                refine s_val rfl (v_assign rfl) (x_nil (n_then ?_))
                refine inv_intro (i + 1, rs') ?_ ?_ ?_ ?_
                · rw [hst]; exact ⟨by omega, hI'⟩
                · omega
                · dsimp only
                  rw [hst, hrs']; repeat (first | exact sub_nil | refine sub_cons rfl ?_)
                · dsimp only
                  rw [hst]; exact inferInstance
            · intro g8_9
              have hjkk : j = kk := by rcases hkI with q | q <;> omega
              rw [← hjkk] at hst
              obtain ⟨rs', hrs'⟩ : ∃ y, y = rk := ⟨_, rfl⟩
              have hI' : dn + j = bs.length ∨ rs' = skV from_ (sk - ah) := by
                rw [hrs']
                rcases hkI with q | q
                · left; omega
                · right; rw [q.2]; congr 1; omega
              refine s_no rfl rfl rfl rfl (s_no rfl rfl rfl rfl (s_no rfl rfl rfl rfl (s_val rfl (v_pick_f rfl rfl) (x_nil (n_then (x_iff rfl (x_exit (e_then (e_then (e_block (n_block (n_then (x_region (s_val rfl (v_move rfl) ?_))))))))))))))
              refine s_val rfl (v_add rfl rfl (by first | exact w64 (by omega) | rfl)) ?_
              refine s_val rfl (v_assign rfl) (x_nil (n_then ?_))
              refine inv_intro (i + 1, rs') ?_ ?_ ?_ ?_
              · rw [hst]; exact ⟨by omega, hI'⟩
              · omega
              · dsimp only
                rw [hst, hrs']; repeat (first | exact sub_nil | refine sub_cons rfl ?_)
              · dsimp only
                rw [hst]; exact inferInstance
    · intro c4
      refine x_exit (e_then (e_then (e_block (n_then (x_seq (x_region (s_val rfl (v_move rfl) (s_val rfl (v_assign rfl) (x_nil (n_then (x_ret (x_done (.inl rfl) (.cons (r_tmp rfl) .nil) ?_))))))))))))
      have e1 := hend (by omega)
      rw [e1]
      exact ⟨_, ⟨rfl, rfl⟩, inferInstance⟩
end Go.Proofs.YtncegikenkpcmaaGreat
namespace Go.Proofs.YtncegikenkpcmaaGreat
open Go.RowKit
set_option linter.unusedSimpArgs false
set_option linter.unusedVariables false
set_option maxRecDepth 20000
def OwD (fr : List Frm) (pg : List Pl) (d : Dsc) : Prop := ownB fr.length pg d.addr d.len = true
theorem lk_own {fr : List Frm} {pg : List Pl} {r : Rg3} {at_ : Int} {n : Nat} {wr : Bool} (h : (lk fr pg r at_ n wr).2 = 0) : OwD fr pg (lk fr pg r at_ n wr).1 := by
  unfold lk at h ⊢
  by_cases q1 : at_ < 0 ∨ r.n ≤ at_
  · rw [if_pos q1] at h; exact absurd h (by decide)
  rw [if_neg q1] at h ⊢
  by_cases q2 : r.n ≤ (n : Int)
  · rw [if_pos q2] at h; exact absurd h (by decide)
  rw [if_neg q2] at h ⊢
  by_cases q3 : ownB fr.length pg (dsPa r at_.toNat) 16 = false
  · rw [if_pos q3] at h; exact absurd h (by decide)
  rw [if_neg q3] at h ⊢
  by_cases q4 : chkC (dsAt fr pg r at_.toNat) r.n.toNat ≠ 0
  · rw [if_pos q4] at h; exact absurd h q4
  rw [if_neg q4] at h ⊢
  by_cases q5 : ownB fr.length pg (dsAt fr pg r at_.toNat).addr (dsAt fr pg r at_.toNat).len = false
  · rw [if_pos q5] at h; exact absurd h (by decide)
  rw [if_neg q5] at h ⊢
  by_cases q6 : wr = true ∧ wrB (dsAt fr pg r at_.toNat) = false
  · rw [if_pos q6] at h; exact absurd h (by decide)
  rw [if_neg q6]
  exact (by simpa using q5 : ownB fr.length pg (dsAt fr pg r at_.toNat).addr (dsAt fr pg r at_.toNat).len = true)
theorem wkSt_own {fr : List Frm} {pg : List Pl} {r : Rg3} {head : Int} : ∀ n, (∀ m, m < n → (lkN fr pg r head m).2 = 0) → ∀ d ∈ (wkSt fr pg r head n).2.2, OwD fr pg d
  | 0, _, d, hd => by simp [wkSt] at hd
  | n + 1, h, d, hd => by
    rw [wkSt] at hd
    rcases List.mem_append.1 hd with q | q
    · exact wkSt_own n (fun m hm => h m (by omega)) d q
    · simp only [List.mem_singleton] at q
      rw [q]; exact lk_own (h n (by omega))
theorem wkGo_own {fr : List Frm} {pg : List Pl} {r : Rg3} {head : Int} : ∀ f n, (∀ m, m < n → (lkN fr pg r head m).2 = 0) → ∀ d ∈ (wkGo fr pg r head f n).1, OwD fr pg d
  | 0, n, _, d, hd => by simp [wkGo] at hd
  | f + 1, n, h, d, hd => by
    rw [wkGo] at hd
    by_cases q1 : (lkN fr pg r head n).2 ≠ 0
    · rw [if_pos q1] at hd; simp at hd
    · rw [if_neg q1] at hd
      have h' : ∀ m, m < n + 1 → (lkN fr pg r head m).2 = 0 := fun m hm => by
        rcases Nat.lt_or_ge m n with q | q
        · exact h m q
        · rw [show m = n by omega]; exact Decidable.not_not.1 q1
      by_cases q2 : goB (lkN fr pg r head n).1 = true
      · rw [if_pos q2] at hd; exact wkGo_own f (n + 1) h' d hd
      · rw [if_neg q2] at hd; exact wkSt_own (n + 1) h' d hd
theorem tk_own {fr : List Frm} {pg : List Pl} {s : QS} : ∀ d ∈ (tkR fr pg s).2.1, OwD fr pg d := by
  intro d hd
  unfold tkR tkL wkAll at hd
  repeat' split at hd
  all_goals first | (simp at hd; done) | exact wkGo_own 9 0 (fun m hm => absurd hm (Nat.not_lt_zero m)) d hd
def totK (l : List Dsc) : Nat → Nat
  | 0 => 0
  | k + 1 => totK l k + (if wrB (l.getD k zD) then 0 else (l.getD k zD).len)
theorem totK_lenW (l : List Dsc) : ∀ k, k ≤ l.length → totK l k = lenW (l.take k) false
  | 0, _ => by simp [totK, lenW]
  | k + 1, h => by
    rw [totK, totK_lenW l k (by omega), List.take_succ_eq_append_getElem (show k < l.length by omega), lenW, lenW, List.map_append, List.sum_append, show l.getD k zD = l[k] by simp [List.getD, show k < l.length by omega]]
    cases q : wrB l[k] <;> simp [q]
theorem totK_all (l : List Dsc) : totK l l.length = lenW l false := by rw [totK_lenW l l.length (Nat.le_refl _), List.take_of_length_le (Nat.le_refl _)]
theorem gth_all {fr : List Frm} {pg : List Pl} {l : List Dsc} (h : ∀ d ∈ l, OwD fr pg d) (m M : Nat) : ∀ k, k ≤ l.length → totK l k ≤ m → totK l k ≤ M → (gthK fr pg l m k).length = totK l k ∧ gthK fr pg l m k = gthK fr pg l M k
  | 0, _, _, _ => ⟨rfl, rfl⟩
  | k + 1, hk, h1, h2 => by
    rw [totK] at h1 h2
    obtain ⟨e1, e2⟩ := gth_all h m M k (by omega) (by omega) (by omega)
    have ho := h _ (List.getElem_mem (show k < l.length by omega))
    rw [show l[k]'(by omega) = l.getD k zD by simp [List.getD, show k < l.length by omega]] at ho
    rw [gthK, gthK, totK]
    by_cases q : wrB (l.getD k zD) = true
    · simp only [if_pos q]; exact ⟨by rw [e1]; rfl, e2⟩
    · rw [if_neg q] at h1 h2 ⊢
      simp only [if_neg q]
      have hr : (rdO fr pg (l.getD k zD).addr (l.getD k zD).len).length = (l.getD k zD).len := by
        rw [rdO, if_pos (show ownB fr.length pg (l.getD k zD).addr (l.getD k zD).len = true from ho), rdL_len]; rfl
      have t1 : (rdO fr pg (l.getD k zD).addr (l.getD k zD).len).take (roomN m (gthK fr pg l m k).length) = rdO fr pg (l.getD k zD).addr (l.getD k zD).len := List.take_of_length_le (by rw [hr, roomN, e1]; omega)
      have t2 : (rdO fr pg (l.getD k zD).addr (l.getD k zD).len).take (roomN M (gthK fr pg l M k).length) = rdO fr pg (l.getD k zD).addr (l.getD k zD).len := List.take_of_length_le (by rw [hr, roomN, ← e2, e1]; omega)
      rw [t1, t2, e2]
      exact ⟨by rw [List.length_append, ← e2, e1, hr], rfl⟩
end Go.Proofs.YtncegikenkpcmaaGreat
