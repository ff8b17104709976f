/-
  Part 4 of the proof of SightPlays: rules, and walks of functions. Conditions: none.
-/
import Derived.Test.YtncegikenkpcmaaGreatSightPlaysC
namespace Go.Proofs.YtncegikenkpcmaaGreat
open Go.RowKit
set_option linter.unusedSimpArgs false
set_option linter.unusedVariables false
set_option maxRecDepth 20000
structure MxIs (c : Cfg) (a b : Scr) (l : Int) (m : Scr) : Prop where
  il : m.il.map (fun x => x.l) = if rt c = true then imM c a b l c.gl.length else []
  sl : m.sl = if rt c = true then seM c a b l else []
  nl : m.nl = if rt c = true then (nlM c a b l).take 256 else []
theorem imM_mem {c : Cfg} {a b : Scr} {l : Int} {n : Nat} {w : List Nat} (h : w ∈ imM c a b l n) : ∃ i s, (s = a ∨ s = b) ∧ w = (wrdI s i).l := by
  unfold imM at h
  obtain ⟨i, _, rfl⟩ := List.mem_map.1 h
  refine ⟨i, pikS c a b l i, ?_, rfl⟩
  unfold pikS; split
  · exact .inl rfl
  · exact .inr rfl
@[reducible] def mixC (aa as_ an : Option Addr) (k1 k2 k3 : Nat) (im : List Img) (se : List Sec) (nl : List Inp) : List HP :=
  [osl 45 1 (.slice aa im.length k1) (im.flatMap imgV), kH 5 (grp (im.map imgH)), osl 117 2 (.slice as_ se.length k2) (se.flatMap seV), osl 109 5 (.slice an nl.length k3) (nl.flatMap inpV)]
theorem own_img {W0 W : World} {im : List Img} {A : List HP} (hO : Own W0 W (kH 5 (grp (im.map imgH)) :: A)) {x : Img} (hx : x ∈ im) : ∃ R, Own W0 W (imgH x :: R) := by
  have h1 : Own W0 W (im.map imgH ++ A) := hO.ent ent_open
  obtain ⟨i, hi, rfl⟩ := List.getElem_of_mem hx
  have hp := perm_erase (im.map imgH) i (by simpa using hi)
  rw [List.getElem_map] at hp
  exact ⟨_, h1.perm (hp.append_right A)⟩
theorem mix_ok {W0 W : World} {A : List HP} {c : Cfg} {a b : Scr} {l : Int} (ha : ScrOk W0 a) (hb : ScrOk W0 b) (za : ImgZ a) (zb : ImgZ b) {aa as_ an : Option Addr} {k1 k2 k3 : Nat} {im : List Img}
    (him : im.map (fun x => x.l) = imM c a b l c.gl.length) (hO : Own W0 W (mixC aa as_ an k1 k2 k3 im (seM c a b l) (nlM c a b l) ++ A)) :
    ScrOk W ⟨aa, k1, im, as_, k2, seM c a b l, an, k3, (nlM c a b l).take 256⟩ ∧ ImgZ ⟨aa, k1, im, as_, k2, seM c a b l, an, k3, (nlM c a b l).take 256⟩ := by
  simp only [mixC, List.cons_append, List.nil_append] at hO
  have hw : ∀ x ∈ im, ∃ i s, (s = a ∨ s = b) ∧ x.l = (wrdI s i).l := fun x hx => imM_mem (by rw [← him]; exact List.mem_map.2 ⟨x, hx, rfl⟩)
  have hz : ∀ x ∈ im, x.l.length ≤ 35184372087808 := fun x hx => by
    obtain ⟨i, s, hs, e⟩ := hw x hx
    rw [e]
    rcases hs with rfl | rfl
    · exact wrdI_z za i
    · exact wrdI_z zb i
  have hk := hO.tk (r := kH) (b := 5)
  refine ⟨⟨?_, fun x hx => ?_, fun x hx => ?_, fun x hx w hw' => ?_, ?_, fun x hx => ?_, ?_, fun x hx => ?_⟩, hz⟩
  · exact sla_now hO (sla_own (E := 45) (a := aa) (n := im.length) (c := k1) (xs := im) (f := imgV) (fun _ => rfl) (by decide) rfl hO)
  · obtain ⟨R, hR⟩ := own_img hk hx
    unfold imgH at hR
    exact sla_now hR (sla_own (E := 47) (a := x.a) (n := x.l.length) (c := x.c) (xs := x.l) (f := fun x => [wV x]) (sz := 1) (fun _ => rfl) (by decide) (wV_fm x.l).symm hR)
  · obtain ⟨R, hR⟩ := own_img hk hx
    unfold imgH at hR
    have h2 := hz x hx
    refine ⟨?_, by omega⟩
    rcases hR.osl with ⟨k1, _, _⟩ | ⟨_, _, _, _, k1, q2, _⟩
    · have := (Value.slice.inj k1).2; omega
    · have := (Value.slice.inj k1).2; omega
  · obtain ⟨i, s, hs, e⟩ := hw x hx
    have hw' : w ∈ x.l := hw'
    rw [e] at hw'
    rcases hs with rfl | rfl
    · exact (wrdI_ok ha i).2.2.1 w hw'
    · exact (wrdI_ok hb i).2.2.1 w hw'
  · exact sla_now hO (sla_own (E := 117) (a := as_) (n := (seM c a b l).length) (c := k2) (xs := seM c a b l) (f := seV) seV_len (by decide) rfl hO)
  · have hx : x ∈ seM c a b l := hx
    unfold seM at hx
    rcases List.mem_append.1 hx with q | q
    · exact ha.sb x (List.mem_filter.1 q).1
    · exact hb.sb x (List.mem_filter.1 q).1
  · intro B
    exact (sla_now hO (sla_own (E := 109) (a := an) (n := (nlM c a b l).length) (c := k3) (xs := nlM c a b l) (f := inpV) inpV_len (by decide) rfl hO) B).take 256
  · have hx : x ∈ (nlM c a b l).take 256 := hx
    have hx := List.mem_of_mem_take hx
    unfold nlM at hx
    rcases List.mem_append.1 hx with q | q
    · exact ha.nb x (List.mem_filter.1 q).1
    · exact hb.nb x (List.mem_filter.1 q).1
theorem zero_ok (W : World) : ScrOk W ⟨none, 0, [], none, 0, [], none, 0, []⟩ ∧ ImgZ ⟨none, 0, [], none, 0, [], none, 0, []⟩ :=
  ⟨⟨fun A => sla_nil, fun x hx => by simp at hx, fun x hx => by simp at hx, fun x hx => by simp at hx, fun A => sla_nil, fun x hx => by simp at hx, fun A => sla_nil, fun x hx => by simp at hx⟩, fun x hx => by simp at hx⟩
theorem siMix_spec (W0 : World) (R : List HP) (c : Cfg) (h : CfOk W0 c) (hgl : c.gl.length ≤ 1000) (a b : Scr) (ha : ScrOk W0 a) (hb : ScrOk W0 b) (za : ImgZ a) (zb : ImgZ b) (la : a.sl.length ≤ 1000 ∧ a.nl.length ≤ 1000) (lb : b.sl.length ≤ 1000 ∧ b.nl.length ≤ 1000) (l : Int) :
    Spec Tryz.prog W0 18 [.agg (cfgV c).toArray, .agg (scrV a).toArray, .agg (scrV b).toArray, .int .i64 l] R
      (fun v B => ∃ (m : Scr) (C : List HP), v = .agg (scrV m).toArray ∧ MxIs c a b l m ∧ B = kH 6 (grp C) :: R ∧ (∀ W A, Own W0 W (kH 6 (grp C) :: A) → ScrOk W m ∧ ImgZ m)) := by
  obtain ⟨w, hw⟩ : ∃ w, rt c = w := ⟨_, rfl⟩
  refine spec_body Tryz.func18 Tryz.ntmps18 rfl rfl ?_
  refine x_seq (x_region (s_do rfl (d_boxA rfl) ?_))
  rintro _ _ ⟨b4, rfl, rfl⟩
  refine s_do rfl (d_boxA rfl) ?_
  rintro _ _ ⟨b5, rfl, rfl⟩
  refine s_do rfl (d_boxA rfl) ?_
  rintro _ _ ⟨b6, rfl, rfl⟩
  refine s_do rfl (d_allocA Tryz.zeroValue33) ?_
  rintro _ _ ⟨b8, rfl, rfl⟩
  refine x_nil (n_then (x_seq (x_seq (x_region (s_val rfl (v_loadAll Tryz.isAgg28 Tryz.sizeOf28 rfl rfl) ?_)))))
  refine s_do rfl (d_call Tryz.call36 rfl (siRight_spec W0 _ c h)) ?_
  rintro _ B_ ⟨rfl, hB_⟩
  obtain rfl := hB_.symm
  rw [hw]
  refine s_val rfl (v_not rfl) (x_nil (n_then ?_))
  refine x_if rfl ?_ ?_
  · intro c1
    refine x_seq (x_region (s_val rfl (v_build Tryz.underlying33 Tryz.zeroValue33 (sized_cons Tryz.sizeOf29 (sized_cons Tryz.sizeOf30 (sized_cons Tryz.sizeOf31 sized_nil))) fil_nil) ?_))
    refine s_do0 (d_storeAll Tryz.sizeOf33 rfl rfl rfl rfl rfl) ?_
    rintro _ _ rfl
    refine x_nil (n_then (x_ret (r_then (x_done (.inl rfl) (.cons (r_all Tryz.isAgg33 Tryz.sizeOf33 rfl rfl) .nil) ?_))))
    have hw0 : rt c = false := by rw [hw]; simpa using c1
    refine ⟨_, ⟨⟨none, 0, [], none, 0, [], none, 0, []⟩, [], rfl, ⟨by rw [hw0]; rfl, by rw [hw0]; rfl, by rw [hw0]; rfl⟩, rfl, fun W A _ => zero_ok W⟩, ?_⟩
    exact Ent.trans (inferInstance : Ent _ R) (ent_shut (A := []))
  · intro c1
    refine x_skip (n_then (x_seq ?_))
    refine x_draw [(b4, 0, _), (b5, 0, _), (b6, 0, _)] 17 mixed rfl (sc_own (sc_own (sc_own sc_end))) (fun hS => ?_)
    refine d_take 0 rfl rfl (by kernel_rfl) (by kernel_rfl) (by kernel_rfl) rfl hS (v_loadAgg Tryz.isAgg28 Tryz.sizeOf28 rfl (by first | exact cells_sc (k := 0) rfl | exact cells_sc (k := 1) rfl | exact cells_sc (k := 2) rfl) rfl) ?_
    refine d_take 1 rfl rfl (by kernel_rfl) (by kernel_rfl) (by kernel_rfl) rfl hS (v_loadAgg Tryz.isAgg33 Tryz.sizeOf33 rfl (by first | exact cells_sc (k := 0) rfl | exact cells_sc (k := 1) rfl | exact cells_sc (k := 2) rfl) rfl) ?_
    refine d_take 2 rfl rfl (by kernel_rfl) (by kernel_rfl) (by kernel_rfl) rfl hS (v_loadAgg Tryz.isAgg33 Tryz.sizeOf33 rfl (by first | exact cells_sc (k := 0) rfl | exact cells_sc (k := 1) rfl | exact cells_sc (k := 2) rfl) rfl) ?_
    refine d_take 3 rfl rfl (by kernel_rfl) (by kernel_rfl) (by kernel_rfl) rfl hS (v_move rfl) ?_
    refine d_take 5 rfl rfl (by kernel_rfl) (by kernel_rfl) (by kernel_rfl) rfl hS (v_loadAgg Tryz.isAgg28 Tryz.sizeOf28 rfl (by first | exact cells_sc (k := 0) rfl | exact cells_sc (k := 1) rfl | exact cells_sc (k := 2) rfl) rfl) ?_
    refine d_take 6 rfl rfl (by kernel_rfl) (by kernel_rfl) (by kernel_rfl) rfl hS (v_loadAgg Tryz.isAgg33 Tryz.sizeOf33 rfl (by first | exact cells_sc (k := 0) rfl | exact cells_sc (k := 1) rfl | exact cells_sc (k := 2) rfl) rfl) ?_
    refine d_take 7 rfl rfl (by kernel_rfl) (by kernel_rfl) (by kernel_rfl) rfl hS (v_loadAgg Tryz.isAgg33 Tryz.sizeOf33 rfl (by first | exact cells_sc (k := 0) rfl | exact cells_sc (k := 1) rfl | exact cells_sc (k := 2) rfl) rfl) ?_
    refine d_take 8 rfl rfl (by kernel_rfl) (by kernel_rfl) (by kernel_rfl) rfl hS (v_move rfl) ?_
    refine d_take 10 rfl rfl (by kernel_rfl) (by kernel_rfl) (by kernel_rfl) rfl hS (v_loadAgg Tryz.isAgg28 Tryz.sizeOf28 rfl (by first | exact cells_sc (k := 0) rfl | exact cells_sc (k := 1) rfl | exact cells_sc (k := 2) rfl) rfl) ?_
    refine d_take 11 rfl rfl (by kernel_rfl) (by kernel_rfl) (by kernel_rfl) rfl hS (v_loadAgg Tryz.isAgg33 Tryz.sizeOf33 rfl (by first | exact cells_sc (k := 0) rfl | exact cells_sc (k := 1) rfl | exact cells_sc (k := 2) rfl) rfl) ?_
    refine d_take 12 rfl rfl (by kernel_rfl) (by kernel_rfl) (by kernel_rfl) rfl hS (v_loadAgg Tryz.isAgg33 Tryz.sizeOf33 rfl (by first | exact cells_sc (k := 0) rfl | exact cells_sc (k := 1) rfl | exact cells_sc (k := 2) rfl) rfl) ?_
    refine d_take 13 rfl rfl (by kernel_rfl) (by kernel_rfl) (by kernel_rfl) rfl hS (v_move rfl) ?_
    refine d_one 4 (by kernel_rfl) rfl rfl (d_call Tryz.call58 rfl (siImages_spec W0 _ c h hgl a b ha hb za zb l)) rfl ?_; clear hS
    rintro _ B_ ⟨aa, k1, im, rfl, him, hB_⟩
    obtain rfl := hB_.symm
    refine ⟨(sc_own (sc_own (sc_own sc_end))), fun hS => ?_⟩
    refine d_one 9 (by kernel_rfl) rfl rfl (d_call Tryz.call59 rfl (siSectorsM_spec W0 _ c h a b ha hb la.1 lb.1 l)) rfl ?_; clear hS
    rintro _ B_ ⟨as_, k2, rfl, hB_⟩
    obtain rfl := hB_.symm
    refine ⟨(sc_own (sc_own (sc_own sc_end))), fun hS => ?_⟩
    refine d_one 14 (by kernel_rfl) rfl rfl (d_call Tryz.call60 rfl (siInputs_spec W0 _ c h a b ha hb la.2 lb.2 l)) rfl ?_; clear hS
    rintro _ B_ ⟨an, k3, rfl, hk3, hB_⟩
    obtain rfl := hB_.symm
    refine ⟨(sc_own (sc_own (sc_own sc_end))), fun hS => ?_⟩
    refine d_take 15 rfl rfl (by kernel_rfl) (by kernel_rfl) (by kernel_rfl) rfl hS (v_build Tryz.underlying33 Tryz.zeroValue33 (sized_cons Tryz.sizeOf29 (sized_cons Tryz.sizeOf30 (sized_cons Tryz.sizeOf31 sized_nil))) (fil_scal rfl Tryz.sizeOf29 rfl rfl (Nat.le_of_ble_eq_true rfl) SetL.eq (fil_scal rfl Tryz.sizeOf30 rfl rfl (Nat.le_of_ble_eq_true rfl) SetL.eq (fil_scal rfl Tryz.sizeOf31 rfl rfl (Nat.le_of_ble_eq_true rfl) SetL.eq fil_nil)))) ?_
    refine d_one 16 (by kernel_rfl) rfl rfl (d_storeAll Tryz.sizeOf33 rfl rfl rfl rfl rfl) rfl ?_; clear hS
    rintro _ _ rfl
    refine ⟨(sc_own (sc_own (sc_own sc_end))), fun hS => ?_⟩
    refine d_done (by kernel_rfl) ?_; clear hS
    refine n_then (x_ret (x_done (.inl rfl) (.cons (r_all Tryz.isAgg33 Tryz.sizeOf33 rfl rfl) .nil) ?_))
    have hw1 : rt c = true := by rw [hw]; simpa using c1
    refine ⟨_, ⟨⟨aa, k1, im, as_, k2, seM c a b l, an, k3, (nlM c a b l).take 256⟩, mixC aa as_ an k1 k2 k3 im (seM c a b l) (nlM c a b l), rfl, ⟨by rw [hw1]; exact him, by rw [hw1]; rfl, by rw [hw1]; rfl⟩, rfl, fun W A hO => mix_ok ha hb za zb him (hO.ent ent_open)⟩, ?_⟩
    refine Ent.trans (B := mixC aa as_ an k1 k2 k3 im (seM c a b l) (nlM c a b l) ++ R) ?_ ent_shut
    simp only [mixC, List.cons_append, List.nil_append]
    exact inferInstance
theorem len_il {a b : Scr} (h : a.il.map (fun x => x.l) = b.il.map (fun x => x.l)) : a.il.length = b.il.length := by
  have := congrArg List.length h
  simpa using this
theorem il_at {a b : Scr} (h : a.il.map (fun x => x.l) = b.il.map (fun x => x.l)) {i : Nat} (h1 : i < a.il.length) (h2 : i < b.il.length) : a.il[i].l = b.il[i].l := by
  have e1 : (a.il.map (fun x => x.l))[i]? = some a.il[i].l := by simp [h1]
  have e2 : (b.il.map (fun x => x.l))[i]? = some b.il[i].l := by simp [h2]
  rw [h, e2] at e1
  exact (Option.some.inj e1).symm
theorem same41_spec (W0 : World) (R : List HP) (a b : Scr) (ha : ScrOk W0 a) (hb : ScrOk W0 b) (ei : a.il.map (fun x => x.l) = b.il.map (fun x => x.l)) (es : a.sl = b.sl) (en : a.nl = b.nl) (ls : a.sl.length ≤ 1000) (ln : a.nl.length ≤ 1000) (li : a.il.length ≤ 1000) (za : ImgZ a) :
    Spec Tryz.prog W0 17 [.agg (scrV a).toArray, .agg (scrV b).toArray] R (fun v B => v = .bool true ∧ B = R) := by
  have hil := len_il ei
  have hat := fun i h1 h2 => il_at ei (i := i) h1 h2
  have hsl : a.sl.length = b.sl.length := by rw [es]
  have hnl : a.nl.length = b.nl.length := by rw [en]
  refine spec_body Tryz.func17 Tryz.ntmps17 rfl rfl ?_
  refine x_seq (x_region (s_do rfl (d_boxA rfl) ?_))
  rintro _ _ ⟨b2, rfl, rfl⟩
  refine s_do rfl (d_boxA rfl) ?_
  rintro _ _ ⟨b3, rfl, rfl⟩
  refine s_val rfl (v_assign rfl) (x_nil (n_then (x_seq (x_seq (x_region ?_)))))
  refine s_val rfl (v_fieldAddr rfl Tryz.underlying33 rfl Tryz.sizeOf29 rfl (by first | exact Nat.zero_add _ | rfl)) ?_
  refine s_val rfl (v_load Tryz.isAgg29 rfl (cell_own rfl)) ?_
  refine s_val rfl (v_len_slice Tryz.underlying29 rfl) ?_
  refine s_val rfl (v_fieldAddr rfl Tryz.underlying33 rfl Tryz.sizeOf29 rfl (by first | exact Nat.zero_add _ | rfl)) ?_
  refine s_val rfl (v_load Tryz.isAgg29 rfl (cell_own rfl)) ?_
  refine s_val rfl (v_len_slice Tryz.underlying29 rfl) (s_val rfl (v_neq rfl rfl) (s_val rfl (v_move rfl) ?_))
  refine s_or rfl rfl rfl ?_ ?_
  · intro g1_8
    omega
  · intro g1_8
    refine s_val rfl (v_fieldAddr rfl Tryz.underlying33 rfl Tryz.sizeOf30 rfl (by first | exact Nat.zero_add _ | rfl)) ?_
    refine s_yes rfl rfl (s_val rfl (v_load Tryz.isAgg30 rfl (cell_own rfl)) ?_)
    refine s_yes rfl rfl (s_val rfl (v_len_slice Tryz.underlying30 rfl) (s_yes rfl rfl ?_))
    refine s_val rfl (v_fieldAddr rfl Tryz.underlying33 rfl Tryz.sizeOf30 rfl (by first | exact Nat.zero_add _ | rfl)) ?_
    refine s_yes rfl rfl (s_val rfl (v_load Tryz.isAgg30 rfl (cell_own rfl)) ?_)
    refine s_yes rfl rfl (s_val rfl (v_len_slice Tryz.underlying30 rfl) (s_yes rfl rfl (s_val rfl (v_neq rfl rfl) (s_val rfl (v_pick_f rfl rfl) (s_val rfl (v_move rfl) ?_)))))
    refine s_or rfl rfl rfl ?_ ?_
    · intro g1_17
      omega
    · intro g1_17
      refine s_val rfl (v_fieldAddr rfl Tryz.underlying33 rfl Tryz.sizeOf31 rfl (by first | exact Nat.zero_add _ | rfl)) ?_
      refine s_yes rfl rfl (s_val rfl (v_load Tryz.isAgg31 rfl (cell_own rfl)) ?_)
      refine s_yes rfl rfl (s_val rfl (v_len_slice Tryz.underlying31 rfl) (s_yes rfl rfl ?_))
      refine s_val rfl (v_fieldAddr rfl Tryz.underlying33 rfl Tryz.sizeOf31 rfl (by first | exact Nat.zero_add _ | rfl)) ?_
      refine s_yes rfl rfl (s_val rfl (v_load Tryz.isAgg31 rfl (cell_own rfl)) ?_)
      refine s_yes rfl rfl (s_val rfl (v_len_slice Tryz.underlying31 rfl) (s_yes rfl rfl (s_val rfl (v_neq rfl rfl) (s_val rfl (v_pick_f rfl rfl) (x_nil (n_then ?_))))))
      refine x_if rfl ?_ ?_
      · intro c1
        omega
      · intro c1
        refine x_skip (n_then (x_seq (x_seq (x_region (s_val rfl (v_assign rfl) (x_nil (n_then (x_block ?_))))))))
        refine x_loop (fun i : Nat => i ≤ a.il.length) (fun i => [(2, .pointer (some ⟨b2, 0, none⟩)), (3, .pointer (some ⟨b3, 0, none⟩)), (5, .int .i64 i)]) (fun i => pt b2 (cob (scrV a) 33) :: pt b3 (cob (scrV b) 33) :: R) (fun i => a.il.length - i) 0 ?_ ?_ ?_ ?_
        · exact Nat.zero_le _
        · repeat (first | exact sub_nil | refine sub_cons rfl ?_)
        · exact inferInstance
        · intro i hi
          refine x_seq (x_seq (x_region (s_val rfl (v_move rfl) ?_)))
          refine s_val rfl (v_fieldAddr rfl Tryz.underlying33 rfl Tryz.sizeOf29 rfl (by first | exact Nat.zero_add _ | rfl)) ?_
          refine s_val rfl (v_load Tryz.isAgg29 rfl (cell_own rfl)) ?_
          refine s_val rfl (v_len_slice Tryz.underlying29 rfl) (s_val rfl (v_lss rfl rfl) (s_val rfl (v_move rfl) ?_))
          refine s_and rfl rfl rfl ?_ ?_
          · intro g4_6
            refine s_val rfl (v_move rfl) (s_yes rfl rfl ?_)
            refine s_val rfl (v_fieldAddr rfl Tryz.underlying33 rfl Tryz.sizeOf29 rfl (by first | exact Nat.zero_add _ | rfl)) ?_
            refine s_yes rfl rfl (s_val rfl (v_load Tryz.isAgg29 rfl (cell_own rfl)) ?_)
            refine s_yes rfl rfl (s_val rfl (v_len_slice Tryz.underlying29 rfl) (s_yes rfl rfl (s_val rfl (v_lss rfl rfl) (s_val rfl (v_pick_t rfl rfl) (x_nil (n_then ?_))))))
            refine x_if rfl ?_ ?_
            · intro c4
              refine x_skip (n_then (x_seq (x_block (x_seq (x_seq ?_)))))
              have h1 : i < a.il.length := by omega
              have h2 : i < b.il.length := by omega
              have he := hat i h1 h2
              obtain ⟨g1, o1, ia1, hc1⟩ := (ha.i []).at_ h1
              obtain ⟨g2, o2, ia2, hc2⟩ := (hb.i []).at_ h2
              have hw1 := ha.w _ (List.getElem_mem h1)
              have hw2 := hb.w _ (List.getElem_mem h2)
              have hzz := za _ (List.getElem_mem h1)
              obtain ⟨⟨xa, xc, xl⟩, hx⟩ : ∃ x, a.il[i] = x := ⟨_, rfl⟩
              obtain ⟨⟨ya, yc, yl⟩, hy⟩ : ∃ x, b.il[i] = x := ⟨_, rfl⟩
              rw [hx] at hc1 hw1 he hzz
              rw [hy] at hc2 hw2 he
              dsimp only at he hw1 hw2 hzz
              subst he
              dsimp only [imgV] at hc1 hc2
              refine x_draw [(b2, 0, scrV a), (b3, 0, scrV b), (g1, o1 + i * 1, [.slice xa xl.length xc]), (g2, o2 + i * 1, [.slice ya xl.length yc])] 13 mixed rfl (sc_own (sc_own (sc_cons hc1.weak (sc_cons hc2.weak sc_end)))) (fun hS => ?_)
              refine d_take 0 rfl rfl (by kernel_rfl) (by kernel_rfl) (by kernel_rfl) rfl hS (v_fieldAddr rfl Tryz.underlying33 rfl Tryz.sizeOf29 rfl (by first | exact Nat.zero_add _ | rfl)) ?_
              refine d_take 1 rfl rfl (by kernel_rfl) (by kernel_rfl) (by kernel_rfl) rfl hS (v_load Tryz.isAgg29 rfl (by first | exact cell_sc0 (k := 0) rfl rfl | exact cell_sc0 (k := 1) rfl rfl | exact cell_sc0 (k := 2) rfl rfl | exact cell_sc0 (k := 3) rfl rfl)) ?_
              refine d_take 2 rfl rfl (by kernel_rfl) (by kernel_rfl) (by kernel_rfl) rfl hS (v_move rfl) ?_
              refine d_take 3 rfl rfl (by kernel_rfl) (by kernel_rfl) (by kernel_rfl) rfl hS (v_idxA Tryz.underlying29 Tryz.sizeOf45 rfl ia1 rfl rfl h1 (by first | exact Nat.zero_add _ | rfl)) ?_
              refine d_take 4 rfl rfl (by kernel_rfl) (by kernel_rfl) (by kernel_rfl) rfl hS (v_load Tryz.isAgg45 rfl (cell_sc1 (k := 2) rfl)) ?_
              refine d_take 5 rfl rfl (by kernel_rfl) (by kernel_rfl) (by kernel_rfl) rfl hS (v_len_slice Tryz.underlying45 rfl) ?_
              refine d_take 6 rfl rfl (by kernel_rfl) (by kernel_rfl) (by kernel_rfl) rfl hS (v_fieldAddr rfl Tryz.underlying33 rfl Tryz.sizeOf29 rfl (by first | exact Nat.zero_add _ | rfl)) ?_
              refine d_take 7 rfl rfl (by kernel_rfl) (by kernel_rfl) (by kernel_rfl) rfl hS (v_load Tryz.isAgg29 rfl (by first | exact cell_sc0 (k := 0) rfl rfl | exact cell_sc0 (k := 1) rfl rfl | exact cell_sc0 (k := 2) rfl rfl | exact cell_sc0 (k := 3) rfl rfl)) ?_
              refine d_take 8 rfl rfl (by kernel_rfl) (by kernel_rfl) (by kernel_rfl) rfl hS (v_move rfl) ?_
              refine d_take 9 rfl rfl (by kernel_rfl) (by kernel_rfl) (by kernel_rfl) rfl hS (v_idxA Tryz.underlying29 Tryz.sizeOf45 rfl ia2 rfl rfl h2 (by first | exact Nat.zero_add _ | rfl)) ?_
              refine d_take 10 rfl rfl (by kernel_rfl) (by kernel_rfl) (by kernel_rfl) rfl hS (v_load Tryz.isAgg45 rfl (cell_sc1 (k := 3) rfl)) ?_
              refine d_take 11 rfl rfl (by kernel_rfl) (by kernel_rfl) (by kernel_rfl) rfl hS (v_len_slice Tryz.underlying45 rfl) ?_
              refine d_take 12 rfl rfl (by kernel_rfl) (by kernel_rfl) (by kernel_rfl) rfl hS (v_neq rfl rfl) ?_
              refine d_done (by kernel_rfl) ?_; clear hS
              refine n_then ?_
              refine x_if rfl ?_ ?_
              · intro c6
                omega
              · intro c6
                refine x_skip (n_then (x_seq (x_region (s_val rfl (v_assign rfl) (x_nil (n_then (x_block ?_)))))))
                refine x_loop (fun k : Nat => k ≤ xl.length) (fun k => [(2, .pointer (some ⟨b2, 0, none⟩)), (3, .pointer (some ⟨b3, 0, none⟩)), (5, .int .i64 i), (6, .int .i64 k)]) (fun k => pt b2 (cob (scrV a) 33) :: pt b3 (cob (scrV b) 33) :: R) (fun k => xl.length - k) 0 ?_ ?_ ?_ ?_
                · exact Nat.zero_le _
                · repeat (first | exact sub_nil | refine sub_cons rfl ?_)
                · exact inferInstance
                · intro k hk
                  refine x_seq (x_seq (x_region (s_val rfl (v_move rfl) ?_)))
                  refine s_val rfl (v_fieldAddr rfl Tryz.underlying33 rfl Tryz.sizeOf29 rfl (by first | exact Nat.zero_add _ | rfl)) ?_
                  refine s_val rfl (v_load Tryz.isAgg29 rfl (cell_own rfl)) ?_
                  refine s_val rfl (v_move rfl) ?_
                  refine s_val rfl (v_idxA Tryz.underlying29 Tryz.sizeOf45 rfl ia1 rfl rfl h1 (by first | exact Nat.zero_add _ | rfl)) ?_
                  refine s_val rfl (v_load Tryz.isAgg45 rfl (Cells.weak hc1 0 _ rfl)) ?_
                  refine s_val rfl (v_len_slice Tryz.underlying45 rfl) (s_val rfl (v_lss rfl rfl) (s_val rfl (v_move rfl) ?_))
                  refine s_and rfl rfl rfl ?_ ?_
                  · intro g9_9
                    refine s_val rfl (v_move rfl) (s_yes rfl rfl ?_)
                    refine s_val rfl (v_fieldAddr rfl Tryz.underlying33 rfl Tryz.sizeOf29 rfl (by first | exact Nat.zero_add _ | rfl)) ?_
                    refine s_yes rfl rfl (s_val rfl (v_load Tryz.isAgg29 rfl (cell_own rfl)) ?_)
                    refine s_yes rfl rfl (s_val rfl (v_move rfl) (s_yes rfl rfl ?_))
                    refine s_val rfl (v_idxA Tryz.underlying29 Tryz.sizeOf45 rfl ia2 rfl rfl h2 (by first | exact Nat.zero_add _ | rfl)) ?_
                    refine s_yes rfl rfl (s_val rfl (v_load Tryz.isAgg45 rfl (Cells.weak hc2 0 _ rfl)) ?_)
                    refine s_yes rfl rfl (s_val rfl (v_len_slice Tryz.underlying45 rfl) (s_yes rfl rfl (s_val rfl (v_lss rfl rfl) (s_val rfl (v_pick_t rfl rfl) (x_nil (n_then ?_))))))
                    refine x_if rfl ?_ ?_
                    · intro c9
                      refine x_skip (n_then (x_seq (x_block (x_seq ?_))))
                      have hk1 : k < xl.length := by omega
                      obtain ⟨g3, o3, ia3, hc3⟩ := (hw1 []).at_ hk1
                      obtain ⟨g4, o4, ia4, hc4⟩ := (hw2 []).at_ hk1
                      generalize xl[k] = u at hc3 hc4
                      refine x_draw [(b2, 0, scrV a), (b3, 0, scrV b), (g1, o1 + i * 1, [.slice xa xl.length xc]), (g2, o2 + i * 1, [.slice ya xl.length yc]), (g3, o3 + k * 1, [wV u]), (g4, o4 + k * 1, [wV u])] 17 mixed rfl (sc_own (sc_own (sc_cons hc1.weak (sc_cons hc2.weak (sc_cons hc3.weak (sc_cons hc4.weak sc_end)))))) (fun hS => ?_)
                      refine d_take 0 rfl rfl (by kernel_rfl) (by kernel_rfl) (by kernel_rfl) rfl hS (v_fieldAddr rfl Tryz.underlying33 rfl Tryz.sizeOf29 rfl (by first | exact Nat.zero_add _ | rfl)) ?_
                      refine d_take 1 rfl rfl (by kernel_rfl) (by kernel_rfl) (by kernel_rfl) rfl hS (v_load Tryz.isAgg29 rfl (by first | exact cell_sc0 (k := 0) rfl rfl | exact cell_sc0 (k := 1) rfl rfl | exact cell_sc0 (k := 2) rfl rfl | exact cell_sc0 (k := 3) rfl rfl | exact cell_sc0 (k := 4) rfl rfl | exact cell_sc0 (k := 5) rfl rfl)) ?_
                      refine d_take 2 rfl rfl (by kernel_rfl) (by kernel_rfl) (by kernel_rfl) rfl hS (v_move rfl) ?_
                      refine d_take 3 rfl rfl (by kernel_rfl) (by kernel_rfl) (by kernel_rfl) rfl hS (v_idxA Tryz.underlying29 Tryz.sizeOf45 rfl ia1 rfl rfl h1 (by first | exact Nat.zero_add _ | rfl)) ?_
                      refine d_take 4 rfl rfl (by kernel_rfl) (by kernel_rfl) (by kernel_rfl) rfl hS (v_load Tryz.isAgg45 rfl (cell_sc1 (k := 2) rfl)) ?_
                      refine d_take 5 rfl rfl (by kernel_rfl) (by kernel_rfl) (by kernel_rfl) rfl hS (v_move rfl) ?_
                      refine d_take 6 rfl rfl (by kernel_rfl) (by kernel_rfl) (by kernel_rfl) rfl hS (v_idxA Tryz.underlying45 Tryz.sizeOf47 rfl ia3 rfl rfl hk1 (by first | exact Nat.zero_add _ | rfl)) ?_
                      refine d_take 7 rfl rfl (by kernel_rfl) (by kernel_rfl) (by kernel_rfl) rfl hS (v_load Tryz.isAgg47 rfl (cell_sc1 (k := 4) rfl)) ?_
                      refine d_take 8 rfl rfl (by kernel_rfl) (by kernel_rfl) (by kernel_rfl) rfl hS (v_fieldAddr rfl Tryz.underlying33 rfl Tryz.sizeOf29 rfl (by first | exact Nat.zero_add _ | rfl)) ?_
                      refine d_take 9 rfl rfl (by kernel_rfl) (by kernel_rfl) (by kernel_rfl) rfl hS (v_load Tryz.isAgg29 rfl (by first | exact cell_sc0 (k := 0) rfl rfl | exact cell_sc0 (k := 1) rfl rfl | exact cell_sc0 (k := 2) rfl rfl | exact cell_sc0 (k := 3) rfl rfl | exact cell_sc0 (k := 4) rfl rfl | exact cell_sc0 (k := 5) rfl rfl)) ?_
                      refine d_take 10 rfl rfl (by kernel_rfl) (by kernel_rfl) (by kernel_rfl) rfl hS (v_move rfl) ?_
                      refine d_take 11 rfl rfl (by kernel_rfl) (by kernel_rfl) (by kernel_rfl) rfl hS (v_idxA Tryz.underlying29 Tryz.sizeOf45 rfl ia2 rfl rfl h2 (by first | exact Nat.zero_add _ | rfl)) ?_
                      refine d_take 12 rfl rfl (by kernel_rfl) (by kernel_rfl) (by kernel_rfl) rfl hS (v_load Tryz.isAgg45 rfl (cell_sc1 (k := 3) rfl)) ?_
                      refine d_take 13 rfl rfl (by kernel_rfl) (by kernel_rfl) (by kernel_rfl) rfl hS (v_move rfl) ?_
                      refine d_take 14 rfl rfl (by kernel_rfl) (by kernel_rfl) (by kernel_rfl) rfl hS (v_idxA Tryz.underlying45 Tryz.sizeOf47 rfl ia4 rfl rfl hk1 (by first | exact Nat.zero_add _ | rfl)) ?_
                      refine d_take 15 rfl rfl (by kernel_rfl) (by kernel_rfl) (by kernel_rfl) rfl hS (v_load Tryz.isAgg47 rfl (cell_sc1 (k := 5) rfl)) ?_
                      refine d_take 16 rfl rfl (by kernel_rfl) (by kernel_rfl) (by kernel_rfl) rfl hS (v_neq rfl rfl) ?_
                      refine d_done (by kernel_rfl) ?_; clear hS
                      refine n_then ?_
                      refine x_if rfl ?_ ?_
                      · intro c11
                        omega
                      · intro c11
                        refine x_skip (n_block (n_then (x_region (s_val rfl (v_move rfl) ?_))))
                        refine s_val rfl (v_add rfl rfl (by first | exact w64 (by omega) | rfl)) ?_
                        refine s_val rfl (v_assign rfl) (x_nil (n_then ?_))
                        refine inv_intro (k + 1) ?_ ?_ ?_ ?_
                        · omega
                        · omega
                        · repeat (first | exact sub_nil | refine sub_cons rfl ?_)
                        · exact inferInstance
                    · intro c9
                      refine x_exit (e_then (e_then (e_block (n_block (n_then (x_region (s_val rfl (v_move rfl) ?_)))))))
                      refine s_val rfl (v_add rfl rfl (by first | exact w64 (by omega) | rfl)) ?_
                      refine s_val rfl (v_assign rfl) (x_nil (n_then ?_))
                      refine inv_intro (i + 1) ?_ ?_ ?_ ?_
                      · omega
                      · omega
                      · repeat (first | exact sub_nil | refine sub_cons rfl ?_)
                      · exact inferInstance
                  · intro g9_9
                    refine s_no rfl rfl rfl rfl (s_no rfl rfl rfl rfl (s_no rfl rfl rfl rfl (s_no rfl rfl rfl rfl (s_no rfl rfl rfl rfl (s_no rfl rfl rfl rfl (s_no rfl rfl rfl rfl (s_val rfl (v_pick_f rfl rfl) (x_nil (n_then (x_iff rfl (x_exit (e_then (e_then (e_block (n_block (n_then (x_region (s_val rfl (v_move rfl) ?_))))))))))))))))))
                    refine s_val rfl (v_add rfl rfl (by first | exact w64 (by omega) | rfl)) ?_
                    refine s_val rfl (v_assign rfl) (x_nil (n_then ?_))
                    refine inv_intro (i + 1) ?_ ?_ ?_ ?_
                    · omega
                    · omega
                    · repeat (first | exact sub_nil | refine sub_cons rfl ?_)
                    · exact inferInstance
            · intro c4
              refine x_exit (e_then (e_then (e_block (n_then (x_seq (x_seq (x_region (s_val rfl (v_assign rfl) (x_nil (n_then (x_block ?_)))))))))))
              refine x_loop (fun i : Nat => i ≤ a.sl.length) (fun i => [(2, .pointer (some ⟨b2, 0, none⟩)), (3, .pointer (some ⟨b3, 0, none⟩)), (7, .int .i64 i)]) (fun i => pt b2 (cob (scrV a) 33) :: pt b3 (cob (scrV b) 33) :: R) (fun i => a.sl.length - i) 0 ?_ ?_ ?_ ?_
              · exact Nat.zero_le _
              · repeat (first | exact sub_nil | refine sub_cons rfl ?_)
              · exact inferInstance
              · intro i hi
                refine x_seq (x_seq (x_region (s_val rfl (v_move rfl) ?_)))
                refine s_val rfl (v_fieldAddr rfl Tryz.underlying33 rfl Tryz.sizeOf30 rfl (by first | exact Nat.zero_add _ | rfl)) ?_
                refine s_val rfl (v_load Tryz.isAgg30 rfl (cell_own rfl)) ?_
                refine s_val rfl (v_len_slice Tryz.underlying30 rfl) (s_val rfl (v_lss rfl rfl) (s_val rfl (v_move rfl) ?_))
                refine s_and rfl rfl rfl ?_ ?_
                · intro g14_6
                  refine s_val rfl (v_move rfl) (s_yes rfl rfl ?_)
                  refine s_val rfl (v_fieldAddr rfl Tryz.underlying33 rfl Tryz.sizeOf30 rfl (by first | exact Nat.zero_add _ | rfl)) ?_
                  refine s_yes rfl rfl (s_val rfl (v_load Tryz.isAgg30 rfl (cell_own rfl)) ?_)
                  refine s_yes rfl rfl (s_val rfl (v_len_slice Tryz.underlying30 rfl) (s_yes rfl rfl (s_val rfl (v_lss rfl rfl) (s_val rfl (v_pick_t rfl rfl) (x_nil (n_then ?_))))))
                  refine x_if rfl ?_ ?_
                  · intro c14
                    refine x_skip (n_then (x_seq (x_block (x_seq ?_))))
                    have h1 : i < a.sl.length := by omega
                    have h2 : i < b.sl.length := by omega
                    obtain ⟨g1, o1, ia1, hc1⟩ := (ha.sx []).at_ h1
                    obtain ⟨g2, o2, ia2, hc2⟩ := (hb.sx []).at_ h2
                    have he : b.sl[i] = a.sl[i] := by simp only [es]
                    rw [he] at hc2
                    generalize a.sl[i] = u at hc1 hc2
                    refine x_draw [(b2, 0, scrV a), (b3, 0, scrV b), (g1, o1 + i * 2, seV u), (g2, o2 + i * 2, seV u)] 11 mixed rfl (sc_own (sc_own (sc_cons hc1.weak (sc_cons hc2.weak sc_end)))) (fun hS => ?_)
                    refine d_take 0 rfl rfl (by kernel_rfl) (by kernel_rfl) (by kernel_rfl) rfl hS (v_fieldAddr rfl Tryz.underlying33 rfl Tryz.sizeOf30 rfl (by first | exact Nat.zero_add _ | rfl)) ?_
                    refine d_take 1 rfl rfl (by kernel_rfl) (by kernel_rfl) (by kernel_rfl) rfl hS (v_load Tryz.isAgg30 rfl (by first | exact cell_sc0 (k := 0) rfl rfl | exact cell_sc0 (k := 1) rfl rfl | exact cell_sc0 (k := 2) rfl rfl | exact cell_sc0 (k := 3) rfl rfl)) ?_
                    refine d_take 2 rfl rfl (by kernel_rfl) (by kernel_rfl) (by kernel_rfl) rfl hS (v_move rfl) ?_
                    refine d_take 3 rfl rfl (by kernel_rfl) (by kernel_rfl) (by kernel_rfl) rfl hS (v_idxA Tryz.underlying30 Tryz.sizeOf117 rfl ia1 rfl rfl h1 (by first | exact Nat.zero_add _ | rfl)) ?_
                    refine d_take 4 rfl rfl (by kernel_rfl) (by kernel_rfl) (by kernel_rfl) rfl hS (v_loadAgg Tryz.isAgg117 Tryz.sizeOf117 rfl (cells_sc (k := 2) rfl) rfl) ?_
                    refine d_take 5 rfl rfl (by kernel_rfl) (by kernel_rfl) (by kernel_rfl) rfl hS (v_fieldAddr rfl Tryz.underlying33 rfl Tryz.sizeOf30 rfl (by first | exact Nat.zero_add _ | rfl)) ?_
                    refine d_take 6 rfl rfl (by kernel_rfl) (by kernel_rfl) (by kernel_rfl) rfl hS (v_load Tryz.isAgg30 rfl (by first | exact cell_sc0 (k := 0) rfl rfl | exact cell_sc0 (k := 1) rfl rfl | exact cell_sc0 (k := 2) rfl rfl | exact cell_sc0 (k := 3) rfl rfl)) ?_
                    refine d_take 7 rfl rfl (by kernel_rfl) (by kernel_rfl) (by kernel_rfl) rfl hS (v_move rfl) ?_
                    refine d_take 8 rfl rfl (by kernel_rfl) (by kernel_rfl) (by kernel_rfl) rfl hS (v_idxA Tryz.underlying30 Tryz.sizeOf117 rfl ia2 rfl rfl h2 (by first | exact Nat.zero_add _ | rfl)) ?_
                    refine d_take 9 rfl rfl (by kernel_rfl) (by kernel_rfl) (by kernel_rfl) rfl hS (v_loadAgg Tryz.isAgg117 Tryz.sizeOf117 rfl (cells_sc (k := 3) rfl) rfl) ?_
                    refine d_take 10 rfl rfl (by kernel_rfl) (by kernel_rfl) (by kernel_rfl) rfl hS (v_neq_agg Tryz.eqGuardType117 rfl rfl (q_struct Tryz.underlying117 Tryz.stoodInHeld117 (qf_scal rfl Tryz.isAgg3 rfl rfl (q_int Tryz.underlying3) (qf_scal rfl Tryz.isAgg9 rfl rfl (q_str Tryz.underlying9) qf_nil)))) ?_
                    refine d_done (by kernel_rfl) ?_; clear hS
                    refine n_then ?_
                    refine x_if rfl ?_ ?_
                    · intro c16
                      exact absurd (by simp) c16
                    · intro c16
                      refine x_skip (n_block (n_then (x_region (s_val rfl (v_move rfl) ?_))))
                      refine s_val rfl (v_add rfl rfl (by first | exact w64 (by omega) | rfl)) ?_
                      refine s_val rfl (v_assign rfl) (x_nil (n_then ?_))
                      refine inv_intro (i + 1) ?_ ?_ ?_ ?_
                      · omega
                      · omega
                      · repeat (first | exact sub_nil | refine sub_cons rfl ?_)
                      · exact inferInstance
                  · intro c14
                    refine x_exit (e_then (e_then (e_block (n_then (x_seq (x_seq (x_region (s_val rfl (v_assign rfl) (x_nil (n_then (x_block ?_)))))))))))
                    refine x_loop (fun i : Nat => i ≤ a.nl.length) (fun i => [(2, .pointer (some ⟨b2, 0, none⟩)), (3, .pointer (some ⟨b3, 0, none⟩)), (8, .int .i64 i)]) (fun i => pt b2 (cob (scrV a) 33) :: pt b3 (cob (scrV b) 33) :: R) (fun i => a.nl.length - i) 0 ?_ ?_ ?_ ?_
                    · exact Nat.zero_le _
                    · repeat (first | exact sub_nil | refine sub_cons rfl ?_)
                    · exact inferInstance
                    · intro i hi
                      refine x_seq (x_seq (x_region (s_val rfl (v_move rfl) ?_)))
                      refine s_val rfl (v_fieldAddr rfl Tryz.underlying33 rfl Tryz.sizeOf31 rfl (by first | exact Nat.zero_add _ | rfl)) ?_
                      refine s_val rfl (v_load Tryz.isAgg31 rfl (cell_own rfl)) ?_
                      refine s_val rfl (v_len_slice Tryz.underlying31 rfl) (s_val rfl (v_lss rfl rfl) (s_val rfl (v_move rfl) ?_))
                      refine s_and rfl rfl rfl ?_ ?_
                      · intro g19_6
                        refine s_val rfl (v_move rfl) (s_yes rfl rfl ?_)
                        refine s_val rfl (v_fieldAddr rfl Tryz.underlying33 rfl Tryz.sizeOf31 rfl (by first | exact Nat.zero_add _ | rfl)) ?_
                        refine s_yes rfl rfl (s_val rfl (v_load Tryz.isAgg31 rfl (cell_own rfl)) ?_)
                        refine s_yes rfl rfl (s_val rfl (v_len_slice Tryz.underlying31 rfl) (s_yes rfl rfl (s_val rfl (v_lss rfl rfl) (s_val rfl (v_pick_t rfl rfl) (x_nil (n_then ?_))))))
                        refine x_if rfl ?_ ?_
                        · intro c19
                          refine x_skip (n_then (x_seq (x_block (x_seq ?_))))
                          have h1 : i < a.nl.length := by omega
                          have h2 : i < b.nl.length := by omega
                          obtain ⟨g1, o1, ia1, hc1⟩ := (ha.n []).at_ h1
                          obtain ⟨g2, o2, ia2, hc2⟩ := (hb.n []).at_ h2
                          have he : b.nl[i] = a.nl[i] := by simp only [en]
                          rw [he] at hc2
                          generalize a.nl[i] = u at hc1 hc2
                          refine x_draw [(b2, 0, scrV a), (b3, 0, scrV b), (g1, o1 + i * 5, inpV u), (g2, o2 + i * 5, inpV u)] 11 mixed rfl (sc_own (sc_own (sc_cons hc1.weak (sc_cons hc2.weak sc_end)))) (fun hS => ?_)
                          refine d_take 0 rfl rfl (by kernel_rfl) (by kernel_rfl) (by kernel_rfl) rfl hS (v_fieldAddr rfl Tryz.underlying33 rfl Tryz.sizeOf31 rfl (by first | exact Nat.zero_add _ | rfl)) ?_
                          refine d_take 1 rfl rfl (by kernel_rfl) (by kernel_rfl) (by kernel_rfl) rfl hS (v_load Tryz.isAgg31 rfl (by first | exact cell_sc0 (k := 0) rfl rfl | exact cell_sc0 (k := 1) rfl rfl | exact cell_sc0 (k := 2) rfl rfl | exact cell_sc0 (k := 3) rfl rfl)) ?_
                          refine d_take 2 rfl rfl (by kernel_rfl) (by kernel_rfl) (by kernel_rfl) rfl hS (v_move rfl) ?_
                          refine d_take 3 rfl rfl (by kernel_rfl) (by kernel_rfl) (by kernel_rfl) rfl hS (v_idxA Tryz.underlying31 Tryz.sizeOf109 rfl ia1 rfl rfl h1 (by first | exact Nat.zero_add _ | rfl)) ?_
                          refine d_take 4 rfl rfl (by kernel_rfl) (by kernel_rfl) (by kernel_rfl) rfl hS (v_loadAgg Tryz.isAgg109 Tryz.sizeOf109 rfl (cells_sc (k := 2) rfl) rfl) ?_
                          refine d_take 5 rfl rfl (by kernel_rfl) (by kernel_rfl) (by kernel_rfl) rfl hS (v_fieldAddr rfl Tryz.underlying33 rfl Tryz.sizeOf31 rfl (by first | exact Nat.zero_add _ | rfl)) ?_
                          refine d_take 6 rfl rfl (by kernel_rfl) (by kernel_rfl) (by kernel_rfl) rfl hS (v_load Tryz.isAgg31 rfl (by first | exact cell_sc0 (k := 0) rfl rfl | exact cell_sc0 (k := 1) rfl rfl | exact cell_sc0 (k := 2) rfl rfl | exact cell_sc0 (k := 3) rfl rfl)) ?_
                          refine d_take 7 rfl rfl (by kernel_rfl) (by kernel_rfl) (by kernel_rfl) rfl hS (v_move rfl) ?_
                          refine d_take 8 rfl rfl (by kernel_rfl) (by kernel_rfl) (by kernel_rfl) rfl hS (v_idxA Tryz.underlying31 Tryz.sizeOf109 rfl ia2 rfl rfl h2 (by first | exact Nat.zero_add _ | rfl)) ?_
                          refine d_take 9 rfl rfl (by kernel_rfl) (by kernel_rfl) (by kernel_rfl) rfl hS (v_loadAgg Tryz.isAgg109 Tryz.sizeOf109 rfl (cells_sc (k := 3) rfl) rfl) ?_
                          refine d_take 10 rfl rfl (by kernel_rfl) (by kernel_rfl) (by kernel_rfl) rfl hS (v_neq_agg Tryz.eqGuardType109 rfl rfl (q_struct Tryz.underlying109 Tryz.stoodInHeld109 (qf_scal rfl Tryz.isAgg3 rfl rfl (q_int Tryz.underlying3) (qf_scal rfl Tryz.isAgg3 rfl rfl (q_int Tryz.underlying3) (qf_scal rfl Tryz.isAgg3 rfl rfl (q_int Tryz.underlying3) (qf_scal rfl Tryz.isAgg3 rfl rfl (q_int Tryz.underlying3) (qf_scal rfl Tryz.isAgg9 rfl rfl (q_str Tryz.underlying9) qf_nil))))))) ?_
                          refine d_done (by kernel_rfl) ?_; clear hS
                          refine n_then ?_
                          refine x_if rfl ?_ ?_
                          · intro c21
                            exact absurd (by simp) c21
                          · intro c21
                            refine x_skip (n_block (n_then (x_region (s_val rfl (v_move rfl) ?_))))
                            refine s_val rfl (v_add rfl rfl (by first | exact w64 (by omega) | rfl)) ?_
                            refine s_val rfl (v_assign rfl) (x_nil (n_then ?_))
                            refine inv_intro (i + 1) ?_ ?_ ?_ ?_
                            · omega
                            · omega
                            · repeat (first | exact sub_nil | refine sub_cons rfl ?_)
                            · exact inferInstance
                        · intro c19
                          refine x_exit (e_then (e_then (e_block (n_then (x_seq (x_region (s_val rfl (v_assign rfl) (x_nil (n_then (x_ret (x_done (.inl rfl) (.cons (r_tmp rfl) .nil) ?_)))))))))))
                          exact ⟨_, ⟨rfl, rfl⟩, inferInstance⟩
                      · intro g19_6
                        refine s_no rfl rfl rfl rfl (s_no rfl rfl rfl rfl (s_no rfl rfl rfl rfl (s_no rfl rfl rfl rfl (s_val rfl (v_pick_f rfl rfl) (x_nil (n_then (x_iff rfl (x_exit (e_then (e_then (e_block (n_then (x_seq (x_region (s_val rfl (v_assign rfl) (x_nil (n_then (x_ret (x_done (.inl rfl) (.cons (r_tmp rfl) .nil) ?_)))))))))))))))))))
                        exact ⟨_, ⟨rfl, rfl⟩, inferInstance⟩
                · intro g14_6
                  refine s_no rfl rfl rfl rfl (s_no rfl rfl rfl rfl (s_no rfl rfl rfl rfl (s_no rfl rfl rfl rfl (s_val rfl (v_pick_f rfl rfl) (x_nil (n_then (x_iff rfl (x_exit (e_then (e_then (e_block (n_then (x_seq (x_seq (x_region (s_val rfl (v_assign rfl) (x_nil (n_then (x_block ?_)))))))))))))))))))
                  refine x_loop (fun i : Nat => i ≤ a.nl.length) (fun i => [(2, .pointer (some ⟨b2, 0, none⟩)), (3, .pointer (some ⟨b3, 0, none⟩)), (8, .int .i64 i)]) (fun i => pt b2 (cob (scrV a) 33) :: pt b3 (cob (scrV b) 33) :: R) (fun i => a.nl.length - i) 0 ?_ ?_ ?_ ?_
                  · exact Nat.zero_le _
                  · repeat (first | exact sub_nil | refine sub_cons rfl ?_)
                  · exact inferInstance
                  · intro i hi
                    refine x_seq (x_seq (x_region (s_val rfl (v_move rfl) ?_)))
                    refine s_val rfl (v_fieldAddr rfl Tryz.underlying33 rfl Tryz.sizeOf31 rfl (by first | exact Nat.zero_add _ | rfl)) ?_
                    refine s_val rfl (v_load Tryz.isAgg31 rfl (cell_own rfl)) ?_
                    refine s_val rfl (v_len_slice Tryz.underlying31 rfl) (s_val rfl (v_lss rfl rfl) (s_val rfl (v_move rfl) ?_))
                    refine s_and rfl rfl rfl ?_ ?_
                    · intro g19_6
                      refine s_val rfl (v_move rfl) (s_yes rfl rfl ?_)
                      refine s_val rfl (v_fieldAddr rfl Tryz.underlying33 rfl Tryz.sizeOf31 rfl (by first | exact Nat.zero_add _ | rfl)) ?_
                      refine s_yes rfl rfl (s_val rfl (v_load Tryz.isAgg31 rfl (cell_own rfl)) ?_)
                      refine s_yes rfl rfl (s_val rfl (v_len_slice Tryz.underlying31 rfl) (s_yes rfl rfl (s_val rfl (v_lss rfl rfl) (s_val rfl (v_pick_t rfl rfl) (x_nil (n_then ?_))))))
                      refine x_if rfl ?_ ?_
                      · intro c19
                        refine x_skip (n_then (x_seq (x_block (x_seq ?_))))
                        have h1 : i < a.nl.length := by omega
                        have h2 : i < b.nl.length := by omega
                        obtain ⟨g1, o1, ia1, hc1⟩ := (ha.n []).at_ h1
                        obtain ⟨g2, o2, ia2, hc2⟩ := (hb.n []).at_ h2
                        have he : b.nl[i] = a.nl[i] := by simp only [en]
                        rw [he] at hc2
                        generalize a.nl[i] = u at hc1 hc2
                        refine x_draw [(b2, 0, scrV a), (b3, 0, scrV b), (g1, o1 + i * 5, inpV u), (g2, o2 + i * 5, inpV u)] 11 mixed rfl (sc_own (sc_own (sc_cons hc1.weak (sc_cons hc2.weak sc_end)))) (fun hS => ?_)
                        refine d_take 0 rfl rfl (by kernel_rfl) (by kernel_rfl) (by kernel_rfl) rfl hS (v_fieldAddr rfl Tryz.underlying33 rfl Tryz.sizeOf31 rfl (by first | exact Nat.zero_add _ | rfl)) ?_
                        refine d_take 1 rfl rfl (by kernel_rfl) (by kernel_rfl) (by kernel_rfl) rfl hS (v_load Tryz.isAgg31 rfl (by first | exact cell_sc0 (k := 0) rfl rfl | exact cell_sc0 (k := 1) rfl rfl | exact cell_sc0 (k := 2) rfl rfl | exact cell_sc0 (k := 3) rfl rfl)) ?_
                        refine d_take 2 rfl rfl (by kernel_rfl) (by kernel_rfl) (by kernel_rfl) rfl hS (v_move rfl) ?_
                        refine d_take 3 rfl rfl (by kernel_rfl) (by kernel_rfl) (by kernel_rfl) rfl hS (v_idxA Tryz.underlying31 Tryz.sizeOf109 rfl ia1 rfl rfl h1 (by first | exact Nat.zero_add _ | rfl)) ?_
                        refine d_take 4 rfl rfl (by kernel_rfl) (by kernel_rfl) (by kernel_rfl) rfl hS (v_loadAgg Tryz.isAgg109 Tryz.sizeOf109 rfl (cells_sc (k := 2) rfl) rfl) ?_
                        refine d_take 5 rfl rfl (by kernel_rfl) (by kernel_rfl) (by kernel_rfl) rfl hS (v_fieldAddr rfl Tryz.underlying33 rfl Tryz.sizeOf31 rfl (by first | exact Nat.zero_add _ | rfl)) ?_
                        refine d_take 6 rfl rfl (by kernel_rfl) (by kernel_rfl) (by kernel_rfl) rfl hS (v_load Tryz.isAgg31 rfl (by first | exact cell_sc0 (k := 0) rfl rfl | exact cell_sc0 (k := 1) rfl rfl | exact cell_sc0 (k := 2) rfl rfl | exact cell_sc0 (k := 3) rfl rfl)) ?_
                        refine d_take 7 rfl rfl (by kernel_rfl) (by kernel_rfl) (by kernel_rfl) rfl hS (v_move rfl) ?_
                        refine d_take 8 rfl rfl (by kernel_rfl) (by kernel_rfl) (by kernel_rfl) rfl hS (v_idxA Tryz.underlying31 Tryz.sizeOf109 rfl ia2 rfl rfl h2 (by first | exact Nat.zero_add _ | rfl)) ?_
                        refine d_take 9 rfl rfl (by kernel_rfl) (by kernel_rfl) (by kernel_rfl) rfl hS (v_loadAgg Tryz.isAgg109 Tryz.sizeOf109 rfl (cells_sc (k := 3) rfl) rfl) ?_
                        refine d_take 10 rfl rfl (by kernel_rfl) (by kernel_rfl) (by kernel_rfl) rfl hS (v_neq_agg Tryz.eqGuardType109 rfl rfl (q_struct Tryz.underlying109 Tryz.stoodInHeld109 (qf_scal rfl Tryz.isAgg3 rfl rfl (q_int Tryz.underlying3) (qf_scal rfl Tryz.isAgg3 rfl rfl (q_int Tryz.underlying3) (qf_scal rfl Tryz.isAgg3 rfl rfl (q_int Tryz.underlying3) (qf_scal rfl Tryz.isAgg3 rfl rfl (q_int Tryz.underlying3) (qf_scal rfl Tryz.isAgg9 rfl rfl (q_str Tryz.underlying9) qf_nil))))))) ?_
                        refine d_done (by kernel_rfl) ?_; clear hS
                        refine n_then ?_
                        refine x_if rfl ?_ ?_
                        · intro c21
                          exact absurd (by simp) c21
                        · intro c21
                          refine x_skip (n_block (n_then (x_region (s_val rfl (v_move rfl) ?_))))
                          refine s_val rfl (v_add rfl rfl (by first | exact w64 (by omega) | rfl)) ?_
                          refine s_val rfl (v_assign rfl) (x_nil (n_then ?_))
                          refine inv_intro (i + 1) ?_ ?_ ?_ ?_
                          · omega
                          · omega
                          · repeat (first | exact sub_nil | refine sub_cons rfl ?_)
                          · exact inferInstance
                      · intro c19
                        refine x_exit (e_then (e_then (e_block (n_then (x_seq (x_region (s_val rfl (v_assign rfl) (x_nil (n_then (x_ret (x_done (.inl rfl) (.cons (r_tmp rfl) .nil) ?_)))))))))))
                        exact ⟨_, ⟨rfl, rfl⟩, inferInstance⟩
                    · intro g19_6
                      refine s_no rfl rfl rfl rfl (s_no rfl rfl rfl rfl (s_no rfl rfl rfl rfl (s_no rfl rfl rfl rfl (s_val rfl (v_pick_f rfl rfl) (x_nil (n_then (x_iff rfl (x_exit (e_then (e_then (e_block (n_then (x_seq (x_region (s_val rfl (v_assign rfl) (x_nil (n_then (x_ret (x_done (.inl rfl) (.cons (r_tmp rfl) .nil) ?_)))))))))))))))))))
                      exact ⟨_, ⟨rfl, rfl⟩, inferInstance⟩
          · intro g4_6
            refine s_no rfl rfl rfl rfl (s_no rfl rfl rfl rfl (s_no rfl rfl rfl rfl (s_no rfl rfl rfl rfl (s_val rfl (v_pick_f rfl rfl) (x_nil (n_then (x_iff rfl (x_exit (e_then (e_then (e_block (n_then (x_seq (x_seq (x_region (s_val rfl (v_assign rfl) (x_nil (n_then (x_block ?_)))))))))))))))))))
            refine x_loop (fun i : Nat => i ≤ a.sl.length) (fun i => [(2, .pointer (some ⟨b2, 0, none⟩)), (3, .pointer (some ⟨b3, 0, none⟩)), (7, .int .i64 i)]) (fun i => pt b2 (cob (scrV a) 33) :: pt b3 (cob (scrV b) 33) :: R) (fun i => a.sl.length - i) 0 ?_ ?_ ?_ ?_
            · exact Nat.zero_le _
            · repeat (first | exact sub_nil | refine sub_cons rfl ?_)
            · exact inferInstance
            · intro i hi
              refine x_seq (x_seq (x_region (s_val rfl (v_move rfl) ?_)))
              refine s_val rfl (v_fieldAddr rfl Tryz.underlying33 rfl Tryz.sizeOf30 rfl (by first | exact Nat.zero_add _ | rfl)) ?_
              refine s_val rfl (v_load Tryz.isAgg30 rfl (cell_own rfl)) ?_
              refine s_val rfl (v_len_slice Tryz.underlying30 rfl) (s_val rfl (v_lss rfl rfl) (s_val rfl (v_move rfl) ?_))
              refine s_and rfl rfl rfl ?_ ?_
              · intro g14_6
                refine s_val rfl (v_move rfl) (s_yes rfl rfl ?_)
                refine s_val rfl (v_fieldAddr rfl Tryz.underlying33 rfl Tryz.sizeOf30 rfl (by first | exact Nat.zero_add _ | rfl)) ?_
                refine s_yes rfl rfl (s_val rfl (v_load Tryz.isAgg30 rfl (cell_own rfl)) ?_)
                refine s_yes rfl rfl (s_val rfl (v_len_slice Tryz.underlying30 rfl) (s_yes rfl rfl (s_val rfl (v_lss rfl rfl) (s_val rfl (v_pick_t rfl rfl) (x_nil (n_then ?_))))))
                refine x_if rfl ?_ ?_
                · intro c14
                  refine x_skip (n_then (x_seq (x_block (x_seq ?_))))
                  have h1 : i < a.sl.length := by omega
                  have h2 : i < b.sl.length := by omega
                  obtain ⟨g1, o1, ia1, hc1⟩ := (ha.sx []).at_ h1
                  obtain ⟨g2, o2, ia2, hc2⟩ := (hb.sx []).at_ h2
                  have he : b.sl[i] = a.sl[i] := by simp only [es]
                  rw [he] at hc2
                  generalize a.sl[i] = u at hc1 hc2
                  refine x_draw [(b2, 0, scrV a), (b3, 0, scrV b), (g1, o1 + i * 2, seV u), (g2, o2 + i * 2, seV u)] 11 mixed rfl (sc_own (sc_own (sc_cons hc1.weak (sc_cons hc2.weak sc_end)))) (fun hS => ?_)
                  refine d_take 0 rfl rfl (by kernel_rfl) (by kernel_rfl) (by kernel_rfl) rfl hS (v_fieldAddr rfl Tryz.underlying33 rfl Tryz.sizeOf30 rfl (by first | exact Nat.zero_add _ | rfl)) ?_
                  refine d_take 1 rfl rfl (by kernel_rfl) (by kernel_rfl) (by kernel_rfl) rfl hS (v_load Tryz.isAgg30 rfl (by first | exact cell_sc0 (k := 0) rfl rfl | exact cell_sc0 (k := 1) rfl rfl | exact cell_sc0 (k := 2) rfl rfl | exact cell_sc0 (k := 3) rfl rfl)) ?_
                  refine d_take 2 rfl rfl (by kernel_rfl) (by kernel_rfl) (by kernel_rfl) rfl hS (v_move rfl) ?_
                  refine d_take 3 rfl rfl (by kernel_rfl) (by kernel_rfl) (by kernel_rfl) rfl hS (v_idxA Tryz.underlying30 Tryz.sizeOf117 rfl ia1 rfl rfl h1 (by first | exact Nat.zero_add _ | rfl)) ?_
                  refine d_take 4 rfl rfl (by kernel_rfl) (by kernel_rfl) (by kernel_rfl) rfl hS (v_loadAgg Tryz.isAgg117 Tryz.sizeOf117 rfl (cells_sc (k := 2) rfl) rfl) ?_
                  refine d_take 5 rfl rfl (by kernel_rfl) (by kernel_rfl) (by kernel_rfl) rfl hS (v_fieldAddr rfl Tryz.underlying33 rfl Tryz.sizeOf30 rfl (by first | exact Nat.zero_add _ | rfl)) ?_
                  refine d_take 6 rfl rfl (by kernel_rfl) (by kernel_rfl) (by kernel_rfl) rfl hS (v_load Tryz.isAgg30 rfl (by first | exact cell_sc0 (k := 0) rfl rfl | exact cell_sc0 (k := 1) rfl rfl | exact cell_sc0 (k := 2) rfl rfl | exact cell_sc0 (k := 3) rfl rfl)) ?_
                  refine d_take 7 rfl rfl (by kernel_rfl) (by kernel_rfl) (by kernel_rfl) rfl hS (v_move rfl) ?_
                  refine d_take 8 rfl rfl (by kernel_rfl) (by kernel_rfl) (by kernel_rfl) rfl hS (v_idxA Tryz.underlying30 Tryz.sizeOf117 rfl ia2 rfl rfl h2 (by first | exact Nat.zero_add _ | rfl)) ?_
                  refine d_take 9 rfl rfl (by kernel_rfl) (by kernel_rfl) (by kernel_rfl) rfl hS (v_loadAgg Tryz.isAgg117 Tryz.sizeOf117 rfl (cells_sc (k := 3) rfl) rfl) ?_
                  refine d_take 10 rfl rfl (by kernel_rfl) (by kernel_rfl) (by kernel_rfl) rfl hS (v_neq_agg Tryz.eqGuardType117 rfl rfl (q_struct Tryz.underlying117 Tryz.stoodInHeld117 (qf_scal rfl Tryz.isAgg3 rfl rfl (q_int Tryz.underlying3) (qf_scal rfl Tryz.isAgg9 rfl rfl (q_str Tryz.underlying9) qf_nil)))) ?_
                  refine d_done (by kernel_rfl) ?_; clear hS
                  refine n_then ?_
                  refine x_if rfl ?_ ?_
                  · intro c16
                    exact absurd (by simp) c16
                  · intro c16
                    refine x_skip (n_block (n_then (x_region (s_val rfl (v_move rfl) ?_))))
                    refine s_val rfl (v_add rfl rfl (by first | exact w64 (by omega) | rfl)) ?_
                    refine s_val rfl (v_assign rfl) (x_nil (n_then ?_))
                    refine inv_intro (i + 1) ?_ ?_ ?_ ?_
                    · omega
                    · omega
                    · repeat (first | exact sub_nil | refine sub_cons rfl ?_)
                    · exact inferInstance
                · intro c14
                  refine x_exit (e_then (e_then (e_block (n_then (x_seq (x_seq (x_region (s_val rfl (v_assign rfl) (x_nil (n_then (x_block ?_)))))))))))
                  refine x_loop (fun i : Nat => i ≤ a.nl.length) (fun i => [(2, .pointer (some ⟨b2, 0, none⟩)), (3, .pointer (some ⟨b3, 0, none⟩)), (8, .int .i64 i)]) (fun i => pt b2 (cob (scrV a) 33) :: pt b3 (cob (scrV b) 33) :: R) (fun i => a.nl.length - i) 0 ?_ ?_ ?_ ?_
                  · exact Nat.zero_le _
                  · repeat (first | exact sub_nil | refine sub_cons rfl ?_)
                  · exact inferInstance
                  · intro i hi
                    refine x_seq (x_seq (x_region (s_val rfl (v_move rfl) ?_)))
                    refine s_val rfl (v_fieldAddr rfl Tryz.underlying33 rfl Tryz.sizeOf31 rfl (by first | exact Nat.zero_add _ | rfl)) ?_
                    refine s_val rfl (v_load Tryz.isAgg31 rfl (cell_own rfl)) ?_
                    refine s_val rfl (v_len_slice Tryz.underlying31 rfl) (s_val rfl (v_lss rfl rfl) (s_val rfl (v_move rfl) ?_))
                    refine s_and rfl rfl rfl ?_ ?_
                    · intro g19_6
                      refine s_val rfl (v_move rfl) (s_yes rfl rfl ?_)
                      refine s_val rfl (v_fieldAddr rfl Tryz.underlying33 rfl Tryz.sizeOf31 rfl (by first | exact Nat.zero_add _ | rfl)) ?_
                      refine s_yes rfl rfl (s_val rfl (v_load Tryz.isAgg31 rfl (cell_own rfl)) ?_)
                      refine s_yes rfl rfl (s_val rfl (v_len_slice Tryz.underlying31 rfl) (s_yes rfl rfl (s_val rfl (v_lss rfl rfl) (s_val rfl (v_pick_t rfl rfl) (x_nil (n_then ?_))))))
                      refine x_if rfl ?_ ?_
                      · intro c19
                        refine x_skip (n_then (x_seq (x_block (x_seq ?_))))
                        have h1 : i < a.nl.length := by omega
                        have h2 : i < b.nl.length := by omega
                        obtain ⟨g1, o1, ia1, hc1⟩ := (ha.n []).at_ h1
                        obtain ⟨g2, o2, ia2, hc2⟩ := (hb.n []).at_ h2
                        have he : b.nl[i] = a.nl[i] := by simp only [en]
                        rw [he] at hc2
                        generalize a.nl[i] = u at hc1 hc2
                        refine x_draw [(b2, 0, scrV a), (b3, 0, scrV b), (g1, o1 + i * 5, inpV u), (g2, o2 + i * 5, inpV u)] 11 mixed rfl (sc_own (sc_own (sc_cons hc1.weak (sc_cons hc2.weak sc_end)))) (fun hS => ?_)
                        refine d_take 0 rfl rfl (by kernel_rfl) (by kernel_rfl) (by kernel_rfl) rfl hS (v_fieldAddr rfl Tryz.underlying33 rfl Tryz.sizeOf31 rfl (by first | exact Nat.zero_add _ | rfl)) ?_
                        refine d_take 1 rfl rfl (by kernel_rfl) (by kernel_rfl) (by kernel_rfl) rfl hS (v_load Tryz.isAgg31 rfl (by first | exact cell_sc0 (k := 0) rfl rfl | exact cell_sc0 (k := 1) rfl rfl | exact cell_sc0 (k := 2) rfl rfl | exact cell_sc0 (k := 3) rfl rfl)) ?_
                        refine d_take 2 rfl rfl (by kernel_rfl) (by kernel_rfl) (by kernel_rfl) rfl hS (v_move rfl) ?_
                        refine d_take 3 rfl rfl (by kernel_rfl) (by kernel_rfl) (by kernel_rfl) rfl hS (v_idxA Tryz.underlying31 Tryz.sizeOf109 rfl ia1 rfl rfl h1 (by first | exact Nat.zero_add _ | rfl)) ?_
                        refine d_take 4 rfl rfl (by kernel_rfl) (by kernel_rfl) (by kernel_rfl) rfl hS (v_loadAgg Tryz.isAgg109 Tryz.sizeOf109 rfl (cells_sc (k := 2) rfl) rfl) ?_
                        refine d_take 5 rfl rfl (by kernel_rfl) (by kernel_rfl) (by kernel_rfl) rfl hS (v_fieldAddr rfl Tryz.underlying33 rfl Tryz.sizeOf31 rfl (by first | exact Nat.zero_add _ | rfl)) ?_
                        refine d_take 6 rfl rfl (by kernel_rfl) (by kernel_rfl) (by kernel_rfl) rfl hS (v_load Tryz.isAgg31 rfl (by first | exact cell_sc0 (k := 0) rfl rfl | exact cell_sc0 (k := 1) rfl rfl | exact cell_sc0 (k := 2) rfl rfl | exact cell_sc0 (k := 3) rfl rfl)) ?_
                        refine d_take 7 rfl rfl (by kernel_rfl) (by kernel_rfl) (by kernel_rfl) rfl hS (v_move rfl) ?_
                        refine d_take 8 rfl rfl (by kernel_rfl) (by kernel_rfl) (by kernel_rfl) rfl hS (v_idxA Tryz.underlying31 Tryz.sizeOf109 rfl ia2 rfl rfl h2 (by first | exact Nat.zero_add _ | rfl)) ?_
                        refine d_take 9 rfl rfl (by kernel_rfl) (by kernel_rfl) (by kernel_rfl) rfl hS (v_loadAgg Tryz.isAgg109 Tryz.sizeOf109 rfl (cells_sc (k := 3) rfl) rfl) ?_
                        refine d_take 10 rfl rfl (by kernel_rfl) (by kernel_rfl) (by kernel_rfl) rfl hS (v_neq_agg Tryz.eqGuardType109 rfl rfl (q_struct Tryz.underlying109 Tryz.stoodInHeld109 (qf_scal rfl Tryz.isAgg3 rfl rfl (q_int Tryz.underlying3) (qf_scal rfl Tryz.isAgg3 rfl rfl (q_int Tryz.underlying3) (qf_scal rfl Tryz.isAgg3 rfl rfl (q_int Tryz.underlying3) (qf_scal rfl Tryz.isAgg3 rfl rfl (q_int Tryz.underlying3) (qf_scal rfl Tryz.isAgg9 rfl rfl (q_str Tryz.underlying9) qf_nil))))))) ?_
                        refine d_done (by kernel_rfl) ?_; clear hS
                        refine n_then ?_
                        refine x_if rfl ?_ ?_
                        · intro c21
                          exact absurd (by simp) c21
                        · intro c21
                          refine x_skip (n_block (n_then (x_region (s_val rfl (v_move rfl) ?_))))
                          refine s_val rfl (v_add rfl rfl (by first | exact w64 (by omega) | rfl)) ?_
                          refine s_val rfl (v_assign rfl) (x_nil (n_then ?_))
                          refine inv_intro (i + 1) ?_ ?_ ?_ ?_
                          · omega
                          · omega
                          · repeat (first | exact sub_nil | refine sub_cons rfl ?_)
                          · exact inferInstance
                      · intro c19
                        refine x_exit (e_then (e_then (e_block (n_then (x_seq (x_region (s_val rfl (v_assign rfl) (x_nil (n_then (x_ret (x_done (.inl rfl) (.cons (r_tmp rfl) .nil) ?_)))))))))))
                        exact ⟨_, ⟨rfl, rfl⟩, inferInstance⟩
                    · intro g19_6
                      refine s_no rfl rfl rfl rfl (s_no rfl rfl rfl rfl (s_no rfl rfl rfl rfl (s_no rfl rfl rfl rfl (s_val rfl (v_pick_f rfl rfl) (x_nil (n_then (x_iff rfl (x_exit (e_then (e_then (e_block (n_then (x_seq (x_region (s_val rfl (v_assign rfl) (x_nil (n_then (x_ret (x_done (.inl rfl) (.cons (r_tmp rfl) .nil) ?_)))))))))))))))))))
                      exact ⟨_, ⟨rfl, rfl⟩, inferInstance⟩
              · intro g14_6
                refine s_no rfl rfl rfl rfl (s_no rfl rfl rfl rfl (s_no rfl rfl rfl rfl (s_no rfl rfl rfl rfl (s_val rfl (v_pick_f rfl rfl) (x_nil (n_then (x_iff rfl (x_exit (e_then (e_then (e_block (n_then (x_seq (x_seq (x_region (s_val rfl (v_assign rfl) (x_nil (n_then (x_block ?_)))))))))))))))))))
                refine x_loop (fun i : Nat => i ≤ a.nl.length) (fun i => [(2, .pointer (some ⟨b2, 0, none⟩)), (3, .pointer (some ⟨b3, 0, none⟩)), (8, .int .i64 i)]) (fun i => pt b2 (cob (scrV a) 33) :: pt b3 (cob (scrV b) 33) :: R) (fun i => a.nl.length - i) 0 ?_ ?_ ?_ ?_
                · exact Nat.zero_le _
                · repeat (first | exact sub_nil | refine sub_cons rfl ?_)
                · exact inferInstance
                · intro i hi
                  refine x_seq (x_seq (x_region (s_val rfl (v_move rfl) ?_)))
                  refine s_val rfl (v_fieldAddr rfl Tryz.underlying33 rfl Tryz.sizeOf31 rfl (by first | exact Nat.zero_add _ | rfl)) ?_
                  refine s_val rfl (v_load Tryz.isAgg31 rfl (cell_own rfl)) ?_
                  refine s_val rfl (v_len_slice Tryz.underlying31 rfl) (s_val rfl (v_lss rfl rfl) (s_val rfl (v_move rfl) ?_))
                  refine s_and rfl rfl rfl ?_ ?_
                  · intro g19_6
                    refine s_val rfl (v_move rfl) (s_yes rfl rfl ?_)
                    refine s_val rfl (v_fieldAddr rfl Tryz.underlying33 rfl Tryz.sizeOf31 rfl (by first | exact Nat.zero_add _ | rfl)) ?_
                    refine s_yes rfl rfl (s_val rfl (v_load Tryz.isAgg31 rfl (cell_own rfl)) ?_)
                    refine s_yes rfl rfl (s_val rfl (v_len_slice Tryz.underlying31 rfl) (s_yes rfl rfl (s_val rfl (v_lss rfl rfl) (s_val rfl (v_pick_t rfl rfl) (x_nil (n_then ?_))))))
                    refine x_if rfl ?_ ?_
                    · intro c19
                      refine x_skip (n_then (x_seq (x_block (x_seq ?_))))
                      have h1 : i < a.nl.length := by omega
                      have h2 : i < b.nl.length := by omega
                      obtain ⟨g1, o1, ia1, hc1⟩ := (ha.n []).at_ h1
                      obtain ⟨g2, o2, ia2, hc2⟩ := (hb.n []).at_ h2
                      have he : b.nl[i] = a.nl[i] := by simp only [en]
                      rw [he] at hc2
                      generalize a.nl[i] = u at hc1 hc2
                      refine x_draw [(b2, 0, scrV a), (b3, 0, scrV b), (g1, o1 + i * 5, inpV u), (g2, o2 + i * 5, inpV u)] 11 mixed rfl (sc_own (sc_own (sc_cons hc1.weak (sc_cons hc2.weak sc_end)))) (fun hS => ?_)
                      refine d_take 0 rfl rfl (by kernel_rfl) (by kernel_rfl) (by kernel_rfl) rfl hS (v_fieldAddr rfl Tryz.underlying33 rfl Tryz.sizeOf31 rfl (by first | exact Nat.zero_add _ | rfl)) ?_
                      refine d_take 1 rfl rfl (by kernel_rfl) (by kernel_rfl) (by kernel_rfl) rfl hS (v_load Tryz.isAgg31 rfl (by first | exact cell_sc0 (k := 0) rfl rfl | exact cell_sc0 (k := 1) rfl rfl | exact cell_sc0 (k := 2) rfl rfl | exact cell_sc0 (k := 3) rfl rfl)) ?_
                      refine d_take 2 rfl rfl (by kernel_rfl) (by kernel_rfl) (by kernel_rfl) rfl hS (v_move rfl) ?_
                      refine d_take 3 rfl rfl (by kernel_rfl) (by kernel_rfl) (by kernel_rfl) rfl hS (v_idxA Tryz.underlying31 Tryz.sizeOf109 rfl ia1 rfl rfl h1 (by first | exact Nat.zero_add _ | rfl)) ?_
                      refine d_take 4 rfl rfl (by kernel_rfl) (by kernel_rfl) (by kernel_rfl) rfl hS (v_loadAgg Tryz.isAgg109 Tryz.sizeOf109 rfl (cells_sc (k := 2) rfl) rfl) ?_
                      refine d_take 5 rfl rfl (by kernel_rfl) (by kernel_rfl) (by kernel_rfl) rfl hS (v_fieldAddr rfl Tryz.underlying33 rfl Tryz.sizeOf31 rfl (by first | exact Nat.zero_add _ | rfl)) ?_
                      refine d_take 6 rfl rfl (by kernel_rfl) (by kernel_rfl) (by kernel_rfl) rfl hS (v_load Tryz.isAgg31 rfl (by first | exact cell_sc0 (k := 0) rfl rfl | exact cell_sc0 (k := 1) rfl rfl | exact cell_sc0 (k := 2) rfl rfl | exact cell_sc0 (k := 3) rfl rfl)) ?_
                      refine d_take 7 rfl rfl (by kernel_rfl) (by kernel_rfl) (by kernel_rfl) rfl hS (v_move rfl) ?_
                      refine d_take 8 rfl rfl (by kernel_rfl) (by kernel_rfl) (by kernel_rfl) rfl hS (v_idxA Tryz.underlying31 Tryz.sizeOf109 rfl ia2 rfl rfl h2 (by first | exact Nat.zero_add _ | rfl)) ?_
                      refine d_take 9 rfl rfl (by kernel_rfl) (by kernel_rfl) (by kernel_rfl) rfl hS (v_loadAgg Tryz.isAgg109 Tryz.sizeOf109 rfl (cells_sc (k := 3) rfl) rfl) ?_
                      refine d_take 10 rfl rfl (by kernel_rfl) (by kernel_rfl) (by kernel_rfl) rfl hS (v_neq_agg Tryz.eqGuardType109 rfl rfl (q_struct Tryz.underlying109 Tryz.stoodInHeld109 (qf_scal rfl Tryz.isAgg3 rfl rfl (q_int Tryz.underlying3) (qf_scal rfl Tryz.isAgg3 rfl rfl (q_int Tryz.underlying3) (qf_scal rfl Tryz.isAgg3 rfl rfl (q_int Tryz.underlying3) (qf_scal rfl Tryz.isAgg3 rfl rfl (q_int Tryz.underlying3) (qf_scal rfl Tryz.isAgg9 rfl rfl (q_str Tryz.underlying9) qf_nil))))))) ?_
                      refine d_done (by kernel_rfl) ?_; clear hS
                      refine n_then ?_
                      refine x_if rfl ?_ ?_
                      · intro c21
                        exact absurd (by simp) c21
                      · intro c21
                        refine x_skip (n_block (n_then (x_region (s_val rfl (v_move rfl) ?_))))
                        refine s_val rfl (v_add rfl rfl (by first | exact w64 (by omega) | rfl)) ?_
                        refine s_val rfl (v_assign rfl) (x_nil (n_then ?_))
                        refine inv_intro (i + 1) ?_ ?_ ?_ ?_
                        · omega
                        · omega
                        · repeat (first | exact sub_nil | refine sub_cons rfl ?_)
                        · exact inferInstance
                    · intro c19
                      refine x_exit (e_then (e_then (e_block (n_then (x_seq (x_region (s_val rfl (v_assign rfl) (x_nil (n_then (x_ret (x_done (.inl rfl) (.cons (r_tmp rfl) .nil) ?_)))))))))))
                      exact ⟨_, ⟨rfl, rfl⟩, inferInstance⟩
                  · intro g19_6
                    refine s_no rfl rfl rfl rfl (s_no rfl rfl rfl rfl (s_no rfl rfl rfl rfl (s_no rfl rfl rfl rfl (s_val rfl (v_pick_f rfl rfl) (x_nil (n_then (x_iff rfl (x_exit (e_then (e_then (e_block (n_then (x_seq (x_region (s_val rfl (v_assign rfl) (x_nil (n_then (x_ret (x_done (.inl rfl) (.cons (r_tmp rfl) .nil) ?_)))))))))))))))))))
                    exact ⟨_, ⟨rfl, rfl⟩, inferInstance⟩
theorem sameM_spec (W0 : World) (A : List HP) (a b : Scr) (ei : a.il.map (fun x => x.l) = b.il.map (fun x => x.l)) (es : a.sl = b.sl) (en : a.nl = b.nl) (ls : a.sl.length ≤ 1000) (ln : a.nl.length ≤ 1000) (li : a.il.length ≤ 1000) (za : ImgZ a) (h : ∀ W, Own W0 W A → ScrOk W a ∧ ScrOk W b) :
    Spec Tryz.prog W0 17 [.agg (scrV a).toArray, .agg (scrV b).toArray] A (fun v B => v = .bool true ∧ B = A) :=
  spec_post (spec_rebase fun W hO => same41_spec W [] a b (h W hO).1 (h W hO).2 ei es en ls ln li za) fun v B hB => by
    obtain ⟨C, ⟨rfl, rfl⟩, rfl⟩ := hB
    exact ⟨_, ⟨rfl, rfl⟩, ent_refl⟩
end Go.Proofs.YtncegikenkpcmaaGreat
namespace Go.Proofs.YtncegikenkpcmaaGreat
open Go.RowKit
set_option linter.unusedSimpArgs false
set_option linter.unusedVariables false
set_option maxRecDepth 20000
theorem ints_spec (W0 : World) (R : List HP) (a1 a2 : Option Addr) (k1 k2 : Nat) (L : List Nat) (hs1 : SlA (OwnP W0 R) a1 1 (fun x => [ixV x]) L) (hs2 : SlA (OwnP W0 R) a2 1 (fun x => [ixV x]) L) (hl : L.length ≤ 1000) :
    Spec Tryz.prog W0 8 [.slice a1 L.length k1, .slice a2 L.length k2] R (fun v B => v = .bool true ∧ B = R) := by
  refine spec_body Tryz.func8 Tryz.ntmps8 rfl rfl ?_
  refine x_seq (x_region (s_val rfl (v_assign rfl) (x_nil (n_then (x_seq (x_seq (x_region (s_val rfl (v_move rfl) (s_val rfl (v_len_slice Tryz.underlying38 rfl) (s_val rfl (v_move rfl) (s_val rfl (v_len_slice Tryz.underlying38 rfl) (s_val rfl (v_neq rfl rfl) (x_nil (n_then ?_))))))))))))))
  refine x_if rfl ?_ ?_
  · intro c1
    omega
  · intro c1
    refine x_skip (n_then (x_seq (x_seq (x_region (s_val rfl (v_assign rfl) (x_nil (n_then (x_block ?_))))))))
    refine x_loop (fun i : Nat => i ≤ L.length) (fun i => [(0, .slice a1 L.length k1), (1, .slice a2 L.length k2), (5, .int .i64 i)]) (fun _ => R) (fun i => L.length - i) 0 ?_ ?_ ?_ ?_
    · exact Nat.zero_le _
    · repeat (first | exact sub_nil | refine sub_cons rfl ?_)
    · exact inferInstance
    · intro i hi
      refine x_seq (x_seq (x_region (s_val rfl (v_move rfl) (s_val rfl (v_move rfl) (s_val rfl (v_len_slice Tryz.underlying38 rfl) (s_val rfl (v_lss rfl rfl) (s_val rfl (v_move rfl) ?_)))))))
      refine s_and rfl rfl rfl ?_ ?_
      · intro g4_5
        refine s_val rfl (v_move rfl) (s_yes rfl rfl (s_val rfl (v_move rfl) (s_yes rfl rfl (s_val rfl (v_len_slice Tryz.underlying38 rfl) (s_yes rfl rfl (s_val rfl (v_lss rfl rfl) (s_val rfl (v_pick_t rfl rfl) (x_nil (n_then ?_)))))))))
        refine x_if rfl ?_ ?_
        · intro c4
          refine x_skip (n_then (x_seq (x_block (x_seq ?_))))
          have hi1 : i < L.length := by omega
          obtain ⟨g1, o1, ha1, hc1⟩ := hs1.at_ hi1
          obtain ⟨g2, o2, ha2, hc2⟩ := hs2.at_ hi1
          generalize L[i] = u at hc1 hc2
          refine x_draw [(g1, o1 + i * 1, [ixV u]), (g2, o2 + i * 1, [ixV u])] 9 mixed rfl (sc_cons hc1.weak (sc_cons hc2.weak sc_end)) (fun hS => ?_)
          refine d_take 0 rfl rfl (by kernel_rfl) (by kernel_rfl) (by kernel_rfl) rfl hS (v_move rfl) ?_
          refine d_take 1 rfl rfl (by kernel_rfl) (by kernel_rfl) (by kernel_rfl) rfl hS (v_move rfl) ?_
          refine d_take 2 rfl rfl (by kernel_rfl) (by kernel_rfl) (by kernel_rfl) rfl hS (v_idxA Tryz.underlying38 Tryz.sizeOf3 rfl ha1 rfl rfl hi1 (by first | exact Nat.zero_add _ | rfl)) ?_
          refine d_take 3 rfl rfl (by kernel_rfl) (by kernel_rfl) (by kernel_rfl) rfl hS (v_load Tryz.isAgg3 rfl (cell_sc1 (k := 0) rfl)) ?_
          refine d_take 4 rfl rfl (by kernel_rfl) (by kernel_rfl) (by kernel_rfl) rfl hS (v_move rfl) ?_
          refine d_take 5 rfl rfl (by kernel_rfl) (by kernel_rfl) (by kernel_rfl) rfl hS (v_move rfl) ?_
          refine d_take 6 rfl rfl (by kernel_rfl) (by kernel_rfl) (by kernel_rfl) rfl hS (v_idxA Tryz.underlying38 Tryz.sizeOf3 rfl ha2 rfl rfl hi1 (by first | exact Nat.zero_add _ | rfl)) ?_
          refine d_take 7 rfl rfl (by kernel_rfl) (by kernel_rfl) (by kernel_rfl) rfl hS (v_load Tryz.isAgg3 rfl (cell_sc1 (k := 1) rfl)) ?_
          refine d_take 8 rfl rfl (by kernel_rfl) (by kernel_rfl) (by kernel_rfl) rfl hS (v_neq rfl rfl) ?_
          refine d_done (by kernel_rfl) ?_; clear hS
          refine n_then ?_
          refine x_if rfl ?_ ?_
          · intro c6
            exact absurd rfl c6
          · intro c6
            refine x_skip (n_block (n_then (x_region (s_val rfl (v_move rfl) ?_))))
            refine s_val rfl (v_add rfl rfl (by first | exact w64 (by omega) | rfl)) ?_
            refine s_val rfl (v_assign rfl) (x_nil (n_then ?_))
            refine inv_intro (i + 1) ?_ ?_ ?_ ?_
            · omega
            · omega
            · repeat (first | exact sub_nil | refine sub_cons rfl ?_)
            · exact inferInstance
        · intro c4
          refine x_exit (e_then (e_then (e_block (n_then (x_seq (x_region (s_val rfl (v_assign rfl) (x_nil (n_then (x_ret (x_done (.inl rfl) (.cons (r_tmp rfl) .nil) ?_)))))))))))
          exact ⟨_, ⟨rfl, rfl⟩, inferInstance⟩
      · intro g4_5
        refine s_no rfl rfl rfl rfl (s_no rfl rfl rfl rfl (s_no rfl rfl rfl rfl (s_val rfl (v_pick_f rfl rfl) (x_nil (n_then (x_iff rfl (x_exit (e_then (e_then (e_block (n_then (x_seq (x_region (s_val rfl (v_assign rfl) (x_nil (n_then (x_ret (x_done (.inl rfl) (.cons (r_tmp rfl) .nil) ?_))))))))))))))))))
        exact ⟨_, ⟨rfl, rfl⟩, inferInstance⟩
theorem ixV_fm (l : List Nat) : l.map ixV = l.flatMap fun x => [ixV x] := by
  induction l with
  | nil => rfl
  | cons x l ih => rw [List.flatMap_cons, List.map_cons, ih]; rfl
def cnB (c : Cfg) (x : Inp) : Bool := decide (0 ≤ x.g ∧ x.g < c.gl.length ∧ 0 ≤ x.k ∧ x.k ≤ 2)
theorem rsCounts_spec (W0 : World) (R : List HP) (c : Cfg) (x : Inp) : Spec Tryz.prog W0 118 [.agg (cfgV c).toArray, .agg (inpV x).toArray] R (fun v B => v = .bool (cnB c x) ∧ B = R) := by
  refine spec_body Tryz.func118 Tryz.ntmps118 rfl rfl ?_
  refine x_seq (x_region (s_do rfl (d_boxA rfl) ?_))
  rintro _ _ ⟨b2, rfl, rfl⟩
  refine s_do rfl (d_boxA rfl) ?_
  rintro _ _ ⟨b3, rfl, rfl⟩
  refine s_val rfl (v_assign rfl) (x_nil (n_then (x_seq (x_region ?_))))
  refine s_val rfl (v_fieldAddr rfl Tryz.underlying109 rfl Tryz.sizeOf3 rfl (by first | exact Nat.zero_add _ | rfl)) ?_
  refine s_val rfl (v_load Tryz.isAgg3 rfl (cell_own rfl)) ?_
  refine s_val rfl (v_geq rfl rfl) (s_val rfl (v_move rfl) ?_)
  refine s_and rfl rfl rfl ?_ ?_
  · intro g1_4
    refine s_val rfl (v_fieldAddr rfl Tryz.underlying109 rfl Tryz.sizeOf3 rfl (by first | exact Nat.zero_add _ | rfl)) ?_
    refine s_yes rfl rfl (s_val rfl (v_load Tryz.isAgg3 rfl (cell_own rfl)) ?_)
    refine s_yes rfl rfl ?_
    refine s_val rfl (v_fieldAddr rfl Tryz.underlying28 rfl Tryz.sizeOf22 rfl (by first | exact Nat.zero_add _ | rfl)) ?_
    refine s_yes rfl rfl (s_val rfl (v_load Tryz.isAgg22 rfl (cell_own rfl)) ?_)
    refine s_yes rfl rfl (s_val rfl (v_len_slice Tryz.underlying22 rfl) (s_yes rfl rfl (s_val rfl (v_lss rfl rfl) (s_val rfl (v_pick_t rfl rfl) (s_val rfl (v_move rfl) ?_)))))
    refine s_and rfl rfl rfl ?_ ?_
    · intro g1_12
      refine s_val rfl (v_fieldAddr rfl Tryz.underlying109 rfl Tryz.sizeOf3 rfl (by first | exact Nat.zero_add _ | rfl)) ?_
      refine s_yes rfl rfl (s_val rfl (v_load Tryz.isAgg3 rfl (cell_own rfl)) ?_)
      refine s_yes rfl rfl (s_val rfl (v_geq rfl rfl) (s_val rfl (v_pick_t rfl rfl) (s_val rfl (v_move rfl) ?_)))
      refine s_and rfl rfl rfl ?_ ?_
      · intro g1_17
        refine s_val rfl (v_fieldAddr rfl Tryz.underlying109 rfl Tryz.sizeOf3 rfl (by first | exact Nat.zero_add _ | rfl)) ?_
        refine s_yes rfl rfl (s_val rfl (v_load Tryz.isAgg3 rfl (cell_own rfl)) ?_)
        refine s_yes rfl rfl (s_val rfl (v_leq rfl rfl) (s_val rfl (v_pick_t rfl rfl) (s_val rfl (v_assign rfl) (x_nil (n_then (x_ret (x_done (.inl rfl) (.cons (r_tmp rfl) .nil) ?_)))))))
        refine ⟨_, ⟨?_, rfl⟩, inferInstance⟩
        refine congrArg Value.bool ?_
        rw [Bool.eq_iff_iff, cnB, decide_eq_true_iff]
        first
          | (rw [decide_eq_true_iff]; constructor <;> (intro q; omega))
          | (constructor
             · intro q; first | omega | (cases q)
             · intro q; omega)
      · intro g1_17
        refine s_no rfl rfl rfl rfl (s_no rfl rfl rfl rfl (s_val rfl (v_pick_f rfl rfl) (s_val rfl (v_assign rfl) (x_nil (n_then (x_ret (x_done (.inl rfl) (.cons (r_tmp rfl) .nil) ?_)))))))
        refine ⟨_, ⟨?_, rfl⟩, inferInstance⟩
        refine congrArg Value.bool ?_
        rw [Bool.eq_iff_iff, cnB, decide_eq_true_iff]
        first
          | (rw [decide_eq_true_iff]; constructor <;> (intro q; omega))
          | (constructor
             · intro q; first | omega | (cases q)
             · intro q; omega)
    · intro g1_12
      refine s_no rfl rfl rfl rfl (s_no rfl rfl rfl rfl (s_val rfl (v_pick_f rfl rfl) (s_val rfl (v_move rfl) (s_no rfl rfl rfl rfl (s_no rfl rfl rfl rfl (s_no rfl rfl rfl rfl (s_val rfl (v_pick_f rfl rfl) (s_val rfl (v_assign rfl) (x_nil (n_then (x_ret (x_done (.inl rfl) (.cons (r_tmp rfl) .nil) ?_))))))))))))
      refine ⟨_, ⟨?_, rfl⟩, inferInstance⟩
      refine congrArg Value.bool ?_
      rw [Bool.eq_iff_iff, cnB, decide_eq_true_iff]
      first
        | (rw [decide_eq_true_iff]; constructor <;> (intro q; omega))
        | (constructor
           · intro q; first | omega | (cases q)
           · intro q; omega)
  · intro g1_4
    refine s_no rfl rfl rfl rfl (s_no rfl rfl rfl rfl (s_no rfl rfl rfl rfl (s_no rfl rfl rfl rfl (s_no rfl rfl rfl rfl (s_val rfl (v_pick_f rfl rfl) (s_val rfl (v_move rfl) (s_no rfl rfl rfl rfl (s_no rfl rfl rfl rfl (s_no rfl rfl rfl rfl (s_val rfl (v_pick_f rfl rfl) (s_val rfl (v_move rfl) (s_no rfl rfl rfl rfl (s_no rfl rfl rfl rfl (s_no rfl rfl rfl rfl (s_val rfl (v_pick_f rfl rfl) (s_val rfl (v_assign rfl) (x_nil (n_then (x_ret (x_done (.inl rfl) (.cons (r_tmp rfl) .nil) ?_))))))))))))))))))))
    refine ⟨_, ⟨?_, rfl⟩, inferInstance⟩
    refine congrArg Value.bool ?_
    rw [Bool.eq_iff_iff, cnB, decide_eq_true_iff]
    first
      | (rw [decide_eq_true_iff]; constructor <;> (intro q; omega))
      | (constructor
         · intro q; first | omega | (cases q)
         · intro q; omega)
def seB (c : Cfg) (l : Int) (x : Inp) : Bool := cnB c x && flB (labG c x.g) l
theorem fl_yes {α : Type} {p : α → Bool} {l : List α} {i : Nat} {x : α} (hi : i < l.length) (hx : l[i] = x) (h : p x = true) : (l.take (i + 1)).filter p = (l.take i).filter p ++ [x] := by
  rw [List.take_succ_eq_append_getElem hi, List.filter_append, hx, List.filter_cons_of_pos h]; rfl
theorem fl_no {α : Type} {p : α → Bool} {l : List α} {i : Nat} {x : α} (hi : i < l.length) (hx : l[i] = x) (h : ¬ p x = true) : (l.take (i + 1)).filter p = (l.take i).filter p := by
  rw [List.take_succ_eq_append_getElem hi, List.filter_append, hx, List.filter_cons_of_neg h]; simp
theorem fl_len {α : Type} {p : α → Bool} {l : List α} {i : Nat} : ((l.take i).filter p).length ≤ i :=
  Nat.le_trans (List.length_filter_le _ _) (by rw [List.length_take]; omega)
theorem rsSeen_spec (W0 : World) (R : List HP) (c : Cfg) (h : CfOk W0 c) (s : Scr) (hs : ScrOk W0 s) (hl : s.nl.length ≤ 1000) (l : Int) :
    Spec Tryz.prog W0 56 [.agg (cfgV c).toArray, .agg (scrV s).toArray, .int .i64 l] R (fun v B => ∃ a k, v = .slice a (s.nl.filter (seB c l)).length k ∧ B = osl 109 5 (.slice a (s.nl.filter (seB c l)).length k) ((s.nl.filter (seB c l)).flatMap inpV) :: R) := by
  obtain ⟨p, hp⟩ : ∃ p, seB c l = p := ⟨_, rfl⟩
  rw [hp]
  refine spec_body Tryz.func56 Tryz.ntmps56 rfl rfl ?_
  refine x_seq (x_region (s_do rfl (d_boxA rfl) ?_))
  rintro _ _ ⟨b3, rfl, rfl⟩
  refine s_do rfl (d_boxA rfl) ?_
  rintro _ _ ⟨b4, rfl, rfl⟩
  refine s_val rfl (v_assign rfl) (x_nil (n_then (x_seq (x_region (s_val rfl (v_assign rfl) (x_nil (n_then (x_seq (x_seq (x_region (s_val rfl (v_assign rfl) (x_nil (n_then (x_block ?_))))))))))))))
  refine x_loop (fun X : Nat × Option Addr × Nat => X.1 ≤ s.nl.length) (fun X => [(2, .int .i64 l), (3, .pointer (some ⟨b3, 0, none⟩)), (4, .pointer (some ⟨b4, 0, none⟩)), (7, .slice X.2.1 ((s.nl.take X.1).filter p).length X.2.2), (8, .int .i64 X.1)]) (fun X => osl 109 5 (.slice X.2.1 ((s.nl.take X.1).filter p).length X.2.2) (((s.nl.take X.1).filter p).flatMap inpV) :: pt b3 (cfO c) :: pt b4 (cob (scrV s) 33) :: R) (fun X => s.nl.length - X.1) (0, none, 0) ?_ ?_ ?_ ?_
  · exact Nat.zero_le _
  · repeat (first | exact sub_nil | refine sub_cons rfl ?_)
  · exact ent_osl_nil
  · intro ⟨i, a0, c0⟩ hi
    dsimp only at hi ⊢
    have hpl := fl_len (p := p) (l := s.nl) (i := i)
    refine x_seq (x_seq (x_region (s_val rfl (v_move rfl) ?_)))
    refine s_val rfl (v_fieldAddr rfl Tryz.underlying33 rfl Tryz.sizeOf31 rfl (by first | exact Nat.zero_add _ | rfl)) ?_
    refine s_val rfl (v_load Tryz.isAgg31 rfl (cell_own rfl)) ?_
    refine s_val rfl (v_len_slice Tryz.underlying31 rfl) (s_val rfl (v_lss rfl rfl) (x_nil (n_then ?_)))
    refine x_if rfl ?_ ?_
    · intro c3
      refine x_skip (n_then ?_)
      refine x_cut (fun X : Option Addr × Nat => True) (fun X => [(2, .int .i64 l), (3, .pointer (some ⟨b3, 0, none⟩)), (4, .pointer (some ⟨b4, 0, none⟩)), (7, .slice X.1 ((s.nl.take (i + 1)).filter p).length X.2), (8, .int .i64 i)]) (fun X => osl 109 5 (.slice X.1 ((s.nl.take (i + 1)).filter p).length X.2) (((s.nl.take (i + 1)).filter p).flatMap inpV) :: pt b3 (cfO c) :: pt b4 (cob (scrV s) 33) :: R) ?_ ?_
      · skip
        refine x_block (x_seq ?_)
        have hi1 : i < s.nl.length := by omega
        obtain ⟨g, o, hga, hc⟩ := (hs.n []).at_ hi1
        obtain ⟨x, hx⟩ : ∃ x, s.nl[i] = x := ⟨_, rfl⟩
        rw [hx] at hc
        obtain ⟨g1, o1, j1, vs1, hcv1, hr1⟩ := gst_row h x.g
        obtain ⟨w, hw⟩ : ∃ w, cnB c x = w := ⟨_, rfl⟩
        have hw2 : w = true → isG c x.g = true := fun e => by
          have := of_decide_eq_true (hw.trans e)
          exact decide_eq_true ⟨this.1, this.2.1⟩
        obtain ⟨q, hq⟩ : ∃ q, flB (labG c x.g) l = q := ⟨_, rfl⟩
        have hpx : p x = (w && q) := by rw [← hp, seB, hw, hq]
        have hyes := fun (e : p x = true) => fl_yes hi1 hx e
        have hno := fun (e : ¬ p x = true) => fl_no hi1 hx e
        refine x_region ?_
        refine s_val rfl (v_fieldAddr rfl Tryz.underlying33 rfl Tryz.sizeOf31 rfl (by first | exact Nat.zero_add _ | rfl)) ?_
        refine s_val rfl (v_load Tryz.isAgg31 rfl (cell_own rfl)) ?_
        refine s_val rfl (v_move rfl) ?_
        refine s_val rfl (v_idxA Tryz.underlying31 Tryz.sizeOf109 rfl hga rfl rfl hi1 (by first | exact Nat.zero_add _ | rfl)) ?_
        refine s_val rfl (v_loadAgg Tryz.isAgg109 Tryz.sizeOf109 rfl hc.weak rfl) ?_
        refine s_do rfl (d_allocA Tryz.zeroValue109) ?_
        rintro _ _ ⟨bx, rfl, rfl⟩
        refine s_do0 (d_storeAll Tryz.sizeOf109 rfl rfl rfl rfl rfl) ?_
        rintro _ _ rfl
        refine x_nil (n_then (x_seq (x_region (s_val rfl (v_loadAll Tryz.isAgg28 Tryz.sizeOf28 rfl rfl) ?_))))
        refine s_val rfl (v_loadAll Tryz.isAgg109 Tryz.sizeOf109 rfl rfl) ?_
        refine s_do rfl (d_call Tryz.call118 rfl (rsCounts_spec W0 _ c x)) ?_
        rintro _ B_ ⟨rfl, hB_⟩
        obtain rfl := hB_.symm
        rw [hw]
        refine s_val rfl (v_move rfl) ?_
        refine s_and rfl rfl rfl ?_ ?_
        · intro g6_4
          have hwt : w = true := by simp_all
          obtain ⟨ha1, hq1, hj1, u1, rfl, hl1⟩ := hr1 (hw2 hwt)
          rw [hl1] at hq
          refine s_val rfl (v_fieldAddr rfl Tryz.underlying28 rfl Tryz.sizeOf22 rfl (by first | exact Nat.zero_add _ | rfl)) ?_
          refine s_yes rfl rfl (s_val rfl (v_load Tryz.isAgg22 rfl (cell_own rfl)) ?_)
          refine s_yes rfl rfl ?_
          refine s_val rfl (v_fieldAddr rfl Tryz.underlying109 rfl Tryz.sizeOf3 rfl (by first | exact Nat.zero_add _ | rfl)) ?_
          refine s_yes rfl rfl (s_val rfl (v_load Tryz.isAgg3 rfl (cell_own rfl)) ?_)
          refine s_yes rfl rfl ?_
          refine s_val rfl (v_idxA Tryz.underlying22 Tryz.sizeOf95 rfl ha1 rfl hq1 hj1 (by first | exact Nat.zero_add _ | rfl)) ?_
          refine s_yes rfl rfl ?_
          refine s_val rfl (v_fieldAddr rfl Tryz.underlying95 rfl Tryz.sizeOf3 rfl (by first | exact Nat.zero_add _ | rfl)) ?_
          refine s_yes rfl rfl (s_val rfl (v_load Tryz.isAgg3 rfl (Cells.weak (hcv1 []) 0 _ rfl)) ?_)
          refine s_yes rfl rfl (s_val rfl (v_move rfl) (s_yes rfl rfl (s_do rfl (d_call Tryz.call41 rfl (rlFlows_spec W0 _ u1.1 l)) ?_)))
          rintro _ B_ ⟨rfl, hB_⟩
          obtain rfl := hB_.symm
          rw [hq]
          refine s_val rfl (v_pick_t rfl rfl) (x_nil (n_then ?_))
          refine x_if rfl ?_ ?_
          · intro c6
            have hst := hyes (by rw [hpx]; simp_all)
            refine x_region (s_val rfl (v_move rfl) (s_val rfl (v_loadAll Tryz.isAgg109 Tryz.sizeOf109 rfl rfl) ?_))
            refine s_do rfl (d_sliceAgg Tryz.underlying31 Tryz.sizeOf109 Tryz.zeroValue109 rfl (elsK_cons rfl rfl elsK_nil) rfl (by decide) (by decide) (by decide)) ?_
            rintro _ _ ⟨bb, rfl, rfl⟩
            rw [show ([inpV x] : List (List Value)).flatten = inpV x from List.append_nil _]
            refine s_do rfl (d_append (sz := 5) (by_ := 48) (info := Tryz.t109) Tryz.underlying31 (by kernel_rfl) rfl rfl rfl rfl (by decide) rfl rfl cells_all rfl (by first | exact inpV_one x | rfl) (by simp only [maxLen]; omega) (by omega)) ?_
            rintro _ _ ⟨a3, c3, rfl, rfl⟩
            refine run_ent (B := osl 109 5 (.slice a3 ((s.nl.take (i + 1)).filter p).length c3) (((s.nl.take (i + 1)).filter p).flatMap inpV) :: pt b3 (cfO c) :: pt b4 (cob (scrV s) 33) :: R) (by rw [hst, List.length_append, List.length_singleton, List.flatMap_append, List.flatMap_singleton]; exact inferInstance) ?_
            rw [show ((s.nl.take i).filter p).length + 1 = ((s.nl.take (i + 1)).filter p).length by rw [hst, List.length_append]; rfl]
            refine s_val rfl (v_assign rfl) (x_nil (n_block (n_then ?_)))
            refine mid_intro (a3, c3) ?_ ?_ ?_
            · trivial
            · repeat (first | exact sub_nil | refine sub_cons rfl ?_)
            · exact inferInstance
          · intro c6
            refine x_skip (n_block (n_then ?_))
            refine mid_intro (a0, c0) ?_ ?_ ?_
            · trivial
            · rw [hno (by rw [hpx]; simp_all)]
              repeat (first | exact sub_nil | refine sub_cons rfl ?_)
            · rw [hno (by rw [hpx]; simp_all)]
              exact inferInstance
        · intro g6_4
          refine s_no rfl rfl rfl rfl (s_no rfl rfl rfl rfl (s_no rfl rfl rfl rfl (s_no rfl rfl rfl rfl (s_no rfl rfl rfl rfl (s_no rfl rfl rfl rfl (s_no rfl rfl rfl rfl (s_no rfl rfl rfl rfl (s_val rfl (v_pick_f rfl rfl) (x_nil (n_then (x_iff rfl (x_skip (n_block (n_then ?_))))))))))))))
          refine mid_intro (a0, c0) ?_ ?_ ?_
          · trivial
          · rw [hno (by rw [hpx]; simp_all)]
            repeat (first | exact sub_nil | refine sub_cons rfl ?_)
          · rw [hno (by rw [hpx]; simp_all)]
            exact inferInstance
      · intro ⟨a1, c1⟩ _
        refine x_region (s_val rfl (v_move rfl) ?_)
        refine s_val rfl (v_add rfl rfl (by first | exact w64 (by omega) | rfl)) ?_
        refine s_val rfl (v_assign rfl) (x_nil (n_then ?_))
        refine inv_intro (i + 1, a1, c1) ?_ ?_ ?_ ?_
        · omega
        · omega
        · repeat (first | exact sub_nil | refine sub_cons rfl ?_)
        · exact inferInstance
    · intro c3
      refine x_exit (e_then (e_then (e_block (n_then (x_seq (x_region (s_val rfl (v_move rfl) (s_val rfl (v_assign rfl) (x_nil (n_then (x_ret (x_done (.inl rfl) (.cons (r_tmp rfl) .nil) ?_))))))))))))
      obtain rfl : i = s.nl.length := by omega
      rw [List.take_length]
      exact ⟨_, ⟨a0, c0, rfl, rfl⟩, inferInstance⟩
theorem rsOf_spec (W0 : World) (R : List HP) (a : Option Addr) (k : Nat) (L : List Inp) (hs : SlA (OwnP W0 R) a 5 inpV L) (hl : L.length ≤ 1000) (gi : Int) :
    Spec Tryz.prog W0 55 [.slice a L.length k, .int .i64 gi] R (fun v B => ∃ a' k', v = .slice a' (L.filter fun x => decide (x.g = gi)).length k' ∧ B = osl 109 5 (.slice a' (L.filter fun x => decide (x.g = gi)).length k') ((L.filter fun x => decide (x.g = gi)).flatMap inpV) :: R) := by
  obtain ⟨p, hp⟩ : ∃ p : Inp → Bool, (fun x : Inp => decide (x.g = gi)) = p := ⟨_, rfl⟩
  rw [hp]
  refine spec_body Tryz.func55 Tryz.ntmps55 rfl rfl ?_
  refine x_seq (x_region (s_val rfl (v_assign rfl) (x_nil (n_then (x_seq (x_region (s_val rfl (v_assign rfl) (x_nil (n_then (x_seq (x_seq (x_region (s_val rfl (v_assign rfl) (x_nil (n_then (x_block ?_))))))))))))))))
  refine x_loop (fun X : Nat × Option Addr × Nat => X.1 ≤ L.length) (fun X => [(0, .slice a L.length k), (1, .int .i64 gi), (5, .slice X.2.1 ((L.take X.1).filter p).length X.2.2), (6, .int .i64 X.1)]) (fun X => osl 109 5 (.slice X.2.1 ((L.take X.1).filter p).length X.2.2) (((L.take X.1).filter p).flatMap inpV) :: R) (fun X => L.length - X.1) (0, none, 0) ?_ ?_ ?_ ?_
  · exact Nat.zero_le _
  · repeat (first | exact sub_nil | refine sub_cons rfl ?_)
  · exact ent_osl_nil
  · intro ⟨i, a0, c0⟩ hi
    dsimp only at hi ⊢
    have hpl := fl_len (p := p) (l := L) (i := i)
    refine x_seq (x_seq (x_region (s_val rfl (v_move rfl) (s_val rfl (v_move rfl) (s_val rfl (v_len_slice Tryz.underlying31 rfl) (s_val rfl (v_lss rfl rfl) (x_nil (n_then ?_))))))))
    refine x_if rfl ?_ ?_
    · intro c3
      refine x_skip (n_then ?_)
      refine x_cut (fun X : Option Addr × Nat => True) (fun X => [(0, .slice a L.length k), (1, .int .i64 gi), (5, .slice X.1 ((L.take (i + 1)).filter p).length X.2), (6, .int .i64 i)]) (fun X => osl 109 5 (.slice X.1 ((L.take (i + 1)).filter p).length X.2) (((L.take (i + 1)).filter p).flatMap inpV) :: R) ?_ ?_
      · skip
        refine x_block (x_seq ?_)
        have hi1 : i < L.length := by omega
        obtain ⟨g, o, hga, hc⟩ := hs.at_ hi1
        obtain ⟨x, hx⟩ : ∃ x, L[i] = x := ⟨_, rfl⟩
        rw [hx] at hc
        have hpx : p x = decide (x.g = gi) := by rw [← hp]
        have hyes := fun (e : p x = true) => fl_yes hi1 hx e
        have hno := fun (e : ¬ p x = true) => fl_no hi1 hx e
        refine x_region (s_val rfl (v_move rfl) (s_val rfl (v_move rfl) ?_))
        refine s_val rfl (v_idxA Tryz.underlying31 Tryz.sizeOf109 rfl hga rfl rfl hi1 (by first | exact Nat.zero_add _ | rfl)) ?_
        refine s_val rfl (v_fieldAddr rfl Tryz.underlying109 rfl Tryz.sizeOf3 rfl (by first | exact Nat.zero_add _ | rfl)) ?_
        refine s_val rfl (v_load Tryz.isAgg3 rfl (Cells.weak hc 1 _ rfl)) ?_
        refine s_val rfl (v_move rfl) (s_val rfl (v_eql rfl rfl) (x_nil (n_then ?_)))
        refine x_if rfl ?_ ?_
        · intro c5
          have hst := hyes (by rw [hpx]; exact decide_eq_true c5)
          refine x_region (s_val rfl (v_move rfl) (s_val rfl (v_move rfl) (s_val rfl (v_move rfl) ?_)))
          refine s_val rfl (v_idxA Tryz.underlying31 Tryz.sizeOf109 rfl hga rfl rfl hi1 (by first | exact Nat.zero_add _ | rfl)) ?_
          refine s_val rfl (v_loadAgg Tryz.isAgg109 Tryz.sizeOf109 rfl hc.weak rfl) ?_
          refine s_do rfl (d_sliceAgg Tryz.underlying31 Tryz.sizeOf109 Tryz.zeroValue109 rfl (elsK_cons rfl rfl elsK_nil) rfl (by decide) (by decide) (by decide)) ?_
          rintro _ _ ⟨bb, rfl, rfl⟩
          rw [show ([inpV x] : List (List Value)).flatten = inpV x from List.append_nil _]
          refine s_do rfl (d_append (sz := 5) (by_ := 48) (info := Tryz.t109) Tryz.underlying31 (by kernel_rfl) rfl rfl rfl rfl (by decide) rfl rfl cells_all rfl (by first | exact inpV_one x | rfl) (by simp only [maxLen]; omega) (by omega)) ?_
          rintro _ _ ⟨a3, c3, rfl, rfl⟩
          refine run_ent (B := osl 109 5 (.slice a3 ((L.take (i + 1)).filter p).length c3) (((L.take (i + 1)).filter p).flatMap inpV) :: R) (by rw [hst, List.length_append, List.length_singleton, List.flatMap_append, List.flatMap_singleton]; exact inferInstance) ?_
          rw [show ((L.take i).filter p).length + 1 = ((L.take (i + 1)).filter p).length by rw [hst, List.length_append]; rfl]
          refine s_val rfl (v_assign rfl) (x_nil (n_block (n_then ?_)))
          refine mid_intro (a3, c3) ?_ ?_ ?_
          · trivial
          · repeat (first | exact sub_nil | refine sub_cons rfl ?_)
          · exact inferInstance
        · intro c5
          refine x_skip (n_block (n_then ?_))
          refine mid_intro (a0, c0) ?_ ?_ ?_
          · trivial
          · rw [hno (by rw [hpx]; simp_all)]
            repeat (first | exact sub_nil | refine sub_cons rfl ?_)
          · rw [hno (by rw [hpx]; simp_all)]
            exact inferInstance
      · intro ⟨a1, c1⟩ _
        refine x_region (s_val rfl (v_move rfl) ?_)
        refine s_val rfl (v_add rfl rfl (by first | exact w64 (by omega) | rfl)) ?_
        refine s_val rfl (v_assign rfl) (x_nil (n_then ?_))
        refine inv_intro (i + 1, a1, c1) ?_ ?_ ?_ ?_
        · omega
        · omega
        · repeat (first | exact sub_nil | refine sub_cons rfl ?_)
        · exact inferInstance
    · intro c3
      refine x_exit (e_then (e_then (e_block (n_then (x_seq (x_region (s_val rfl (v_move rfl) (s_val rfl (v_assign rfl) (x_nil (n_then (x_ret (x_done (.inl rfl) (.cons (r_tmp rfl) .nil) ?_))))))))))))
      obtain rfl : i = L.length := by omega
      rw [List.take_length]
      exact ⟨_, ⟨a0, c0, rfl, rfl⟩, inferInstance⟩
theorem of_seen {c : Cfg} {l : Int} {g : Nat} (hg : g ∈ gsO c l) (s : Scr) : ((s.nl.filter (seB c l)).filter fun x => decide (x.g = (g : Int))) = comS s g := by
  have hlt := gsO_lt g hg
  have hfl : flB (labG c (g : Int)) l = true := by
    unfold gsO at hg
    split at hg
    · obtain ⟨_, x, h2, h3⟩ := (pkK_mem _ _ _ _ (Nat.le_refl _)).1 hg
      rw [labG, Int.toNat_natCast, show c.gl.getD g (0, 0, 0) = x by simp [List.getD, h2]]; exact h3
    · cases hg
  rw [comS, List.filter_filter]
  apply List.filter_congr
  intro x _
  rw [Bool.eq_iff_iff, Bool.and_eq_true, decide_eq_true_iff, seB, Bool.and_eq_true, cnB, cntB, decide_eq_true_iff, decide_eq_true_iff]
  constructor
  · rintro ⟨e, ⟨_, _, h3, h4⟩, _⟩; exact ⟨e, h3, h4⟩
  · rintro ⟨e, h3, h4⟩
    refine ⟨e, ⟨by omega, by omega, h3, h4⟩, ?_⟩
    rw [e]; exact hfl
end Go.Proofs.YtncegikenkpcmaaGreat
namespace Go.Proofs.YtncegikenkpcmaaGreat
open Go.RowKit
set_option linter.unusedSimpArgs false
set_option linter.unusedVariables false
set_option maxRecDepth 20000
theorem cutW_sl {W0 : World} {s : Scr} (h : ScrOk W0 s) (i : Nat) : ∀ A, SlA (OwnP W0 A) (wrdI s i).a 1 (fun x => [wV x]) (cutW s i) := fun A => ((wrdI_ok h i).1 A).take 128
theorem cutW_le (s : Scr) (i : Nat) : (cutW s i).length ≤ 128 := by rw [cutW, List.length_take]; omega
theorem rsAgree_spec (W0 : World) (R : List HP) (c : Cfg) (h : CfOk W0 c) (hgl : c.gl.length ≤ 1000) (a b : Scr) (ha : ScrOk W0 a) (hb : ScrOk W0 b) (la : a.sl.length ≤ 1000 ∧ a.nl.length ≤ 1000) (lb : b.sl.length ≤ 1000 ∧ b.nl.length ≤ 1000) (l : Int) :
    Spec Tryz.prog W0 16 [.agg (cfgV c).toArray, .agg (scrV a).toArray, .agg (scrV b).toArray, .int .i64 l] R (fun v B => v = .bool (agS c a b l) ∧ B = R) := by
  obtain ⟨w, hw⟩ : ∃ w, rt c = w := ⟨_, rfl⟩
  have hO : agS c a b l = (w && ((gsO c l).all (agG a b) && (seK c l 32).all (agB a b))) := by rw [agS, hw]
  rw [hO]
  have hsee := fun (g : Nat) (hg : g ∈ gsO c l) (s : Scr) => of_seen hg s
  obtain ⟨q, hq⟩ : ∃ q, gsO c l = q := ⟨_, rfl⟩
  have hql : q.length ≤ 1000 := by
    rw [← hq, gsO]; split
    · exact Nat.le_trans (pkK_len _ _ _) hgl
    · exact Nat.zero_le _
  obtain ⟨s, hs⟩ : ∃ s, seK c l 32 = s := ⟨_, rfl⟩
  have hsl : s.length ≤ 32 := by rw [← hs]; exact seK_len c l 32
  rw [hq, hs]
  rw [hq] at hsee
  have hna := List.length_filter_le (seB c l) a.nl
  have hnb := List.length_filter_le (seB c l) b.nl
  refine spec_body Tryz.func16 Tryz.ntmps16 rfl rfl ?_
  refine x_seq (x_region (s_do rfl (d_boxA rfl) ?_))
  rintro _ _ ⟨b4, rfl, rfl⟩
  refine s_do rfl (d_boxA rfl) ?_
  rintro _ _ ⟨b5, rfl, rfl⟩
  refine s_do rfl (d_boxA rfl) ?_
  rintro _ _ ⟨b6, rfl, rfl⟩
  refine s_val rfl (v_assign rfl) (x_nil (n_then (x_seq (x_seq (x_region (s_val rfl (v_loadAll Tryz.isAgg28 Tryz.sizeOf28 rfl rfl) ?_))))))
  refine s_do rfl (d_call Tryz.call40 rfl (rcRight_spec W0 _ c h)) ?_
  rintro _ B_ ⟨rfl, hB_⟩
  obtain rfl := hB_.symm
  rw [hw]
  refine s_val rfl (v_not rfl) (x_nil (n_then ?_))
  refine x_if rfl ?_ ?_
  · intro c1
    refine x_seq (x_region (s_val rfl (v_assign rfl) (x_nil (n_then (x_ret (r_then (x_done (.inl rfl) (.cons (r_tmp rfl) .nil) ?_)))))))
    have hw0 : w = false := by simpa using c1
    rw [hw0]
    exact ⟨_, ⟨rfl, rfl⟩, inferInstance⟩
  · intro c1
    refine x_skip (n_then (x_seq ?_))
    have hw1 : w = true := by simpa using c1
    rw [hw1, Bool.true_and]
    refine x_region (s_val rfl (v_loadAll Tryz.isAgg28 Tryz.sizeOf28 rfl rfl) ?_)
    refine s_val rfl (v_move rfl) (s_do rfl (d_call Tryz.call10 rfl (rsGuests_spec W0 _ c h hgl l)) ?_)
    rintro _ B_ ⟨aq, kq, rfl, hB_⟩
    obtain rfl := hB_.symm
    rw [hq]
    refine s_val rfl (v_assign rfl) (x_nil (n_then (x_seq (x_seq (x_region (s_val rfl (v_assign rfl) (x_nil (n_then (x_block ?_)))))))))
    refine x_loop (fun i : Nat => i ≤ q.length ∧ ∀ j (hj : j < q.length), j < i → agG a b q[j] = true) (fun i => [(3, .int .i64 l), (4, .pointer (some ⟨b4, 0, none⟩)), (5, .pointer (some ⟨b5, 0, none⟩)), (6, .pointer (some ⟨b6, 0, none⟩)), (9, .slice aq q.length kq), (10, .int .i64 i)]) (fun _ => osl 3 1 (.slice aq q.length kq) (q.map ixV) :: pt b4 (cfO c) :: pt b5 (cob (scrV a) 33) :: pt b6 (cob (scrV b) 33) :: R) (fun i => q.length - i) 0 ?_ ?_ ?_ ?_
    · exact ⟨Nat.zero_le _, fun j hj h0 => absurd h0 (Nat.not_lt_zero _)⟩
    · repeat (first | exact sub_nil | refine sub_cons rfl ?_)
    · exact inferInstance
    · intro i ⟨hi, hI⟩
      refine x_seq (x_seq (x_region (s_val rfl (v_move rfl) (s_val rfl (v_move rfl) (s_val rfl (v_len_slice Tryz.underlying38 rfl) (s_val rfl (v_lss rfl rfl) (x_nil (n_then ?_))))))))
      refine x_if rfl ?_ ?_
      · intro c5
        refine x_skip (n_then (x_seq (x_block (x_seq ?_))))
        have hi1 : i < q.length := by omega
        have hqe : (q.map ixV)[i]? = some (.int .i64 ((q[i] : Nat) : Int)) := by simp [hi1, ixV]
        have hsa := hsee q[i] (List.getElem_mem hi1)
        refine run_form (E := 3) (sz := 1) (a := aq) (c := kq) (n := q.length) (ys := q.map ixV) (fun hf => ?_)
        obtain ⟨g1, rfl⟩ := form_some hf (by rw [← List.length_pos_iff, List.length_map]; omega)
        have hag : agG a b q[i] = (eqLs eqN (cutW a q[i]) (cutW b q[i]) && eqLs eqI (comS a q[i]) (comS b q[i])) := rfl
        have hbad := all_at (q := agG a b) hi1
        have hgood : agG a b q[i] = true → ∀ j (hj : j < q.length), j < i + 1 → agG a b q[j] = true := fun h0 j hj hji => by
          rcases Nat.lt_or_ge j i with q2 | q2
          · exact hI j hj q2
          · obtain rfl : j = i := by omega
            exact h0
        generalize q[i] = u at hqe hag hbad hgood hsa
        have hca := cutW_sl ha u
        have hcb := cutW_sl hb u
        have hla := cutW_le a u
        have hlb := cutW_le b u
        obtain ⟨xa, hxa⟩ : ∃ x, cutW a u = x := ⟨_, rfl⟩
        obtain ⟨xb, hxb⟩ : ∃ x, cutW b u = x := ⟨_, rfl⟩
        obtain ⟨ya, hya⟩ : ∃ x, comS a u = x := ⟨_, rfl⟩
        obtain ⟨yb, hyb⟩ : ∃ x, comS b u = x := ⟨_, rfl⟩
        have hyla : ya.length ≤ 1000 := by rw [← hya]; exact Nat.le_trans (List.length_filter_le _ _) la.2
        have hylb : yb.length ≤ 1000 := by rw [← hyb]; exact Nat.le_trans (List.length_filter_le _ _) lb.2
        have hsb := hsa b
        have hsa := hsa a
        rw [hya] at hsa
        rw [hyb] at hsb
        rw [hxa] at hca hla
        rw [hxb] at hcb hlb
        rw [hxa, hxb, hya, hyb] at hag
        refine x_draw [(b5, 0, _), (g1, 0, q.map ixV)] 7 mixed rfl (sc_own (sc_cons (cells_osl (E := 3) (sz := 1) (a := some ⟨g1, 0, none⟩) (n := q.length) (c := kq)) sc_end)) (fun hS => ?_)
        refine d_take 0 rfl rfl (by kernel_rfl) (by kernel_rfl) (by kernel_rfl) rfl hS (v_loadAgg Tryz.isAgg33 Tryz.sizeOf33 rfl (by first | exact cells_sc (k := 0) rfl | exact cells_sc (k := 1) rfl) rfl) ?_
        refine d_take 1 rfl rfl (by kernel_rfl) (by kernel_rfl) (by kernel_rfl) rfl hS (v_move rfl) ?_
        refine d_take 2 rfl rfl (by kernel_rfl) (by kernel_rfl) (by kernel_rfl) rfl hS (v_move rfl) ?_
        refine d_take 3 rfl rfl (by kernel_rfl) (by kernel_rfl) (by kernel_rfl) rfl hS (v_idx Tryz.underlying38 Tryz.sizeOf3 rfl rfl rfl hi1 (by first | exact Nat.zero_add _ | rfl)) ?_
        refine d_take 4 rfl rfl (by kernel_rfl) (by kernel_rfl) (by kernel_rfl) rfl hS (v_load Tryz.isAgg3 rfl (cell_sc0 (k := 1) rfl (by rw [Nat.mul_one]; exact hqe))) ?_
        refine d_one 5 (by kernel_rfl) rfl rfl (d_call Tryz.call54 rfl (rsWords_spec W0 _ a ha u)) rfl ?_; clear hS
        rintro _ B_ ⟨rfl, hB_⟩
        obtain rfl := hB_.symm
        rw [hxa]
        refine ⟨(sc_own (sc_cons (cells_osl (E := 3) (sz := 1) (a := some ⟨g1, 0, none⟩) (n := q.length) (c := kq)) sc_end)), fun hS => ?_⟩
        refine d_take 6 rfl rfl (by kernel_rfl) (by kernel_rfl) (by kernel_rfl) rfl hS (v_assign rfl) ?_
        refine d_done (by kernel_rfl) ?_; clear hS
        refine n_then (x_seq ?_)
        refine x_draw [(b6, 0, _), (g1, 0, q.map ixV)] 7 mixed rfl (sc_own (sc_cons (cells_osl (E := 3) (sz := 1) (a := some ⟨g1, 0, none⟩) (n := q.length) (c := kq)) sc_end)) (fun hS => ?_)
        refine d_take 0 rfl rfl (by kernel_rfl) (by kernel_rfl) (by kernel_rfl) rfl hS (v_loadAgg Tryz.isAgg33 Tryz.sizeOf33 rfl (by first | exact cells_sc (k := 0) rfl | exact cells_sc (k := 1) rfl) rfl) ?_
        refine d_take 1 rfl rfl (by kernel_rfl) (by kernel_rfl) (by kernel_rfl) rfl hS (v_move rfl) ?_
        refine d_take 2 rfl rfl (by kernel_rfl) (by kernel_rfl) (by kernel_rfl) rfl hS (v_move rfl) ?_
        refine d_take 3 rfl rfl (by kernel_rfl) (by kernel_rfl) (by kernel_rfl) rfl hS (v_idx Tryz.underlying38 Tryz.sizeOf3 rfl rfl rfl hi1 (by first | exact Nat.zero_add _ | rfl)) ?_
        refine d_take 4 rfl rfl (by kernel_rfl) (by kernel_rfl) (by kernel_rfl) rfl hS (v_load Tryz.isAgg3 rfl (cell_sc0 (k := 1) rfl (by rw [Nat.mul_one]; exact hqe))) ?_
        refine d_one 5 (by kernel_rfl) rfl rfl (d_call Tryz.call54 rfl (rsWords_spec W0 _ b hb u)) rfl ?_; clear hS
        rintro _ B_ ⟨rfl, hB_⟩
        obtain rfl := hB_.symm
        rw [hxb]
        refine ⟨(sc_own (sc_cons (cells_osl (E := 3) (sz := 1) (a := some ⟨g1, 0, none⟩) (n := q.length) (c := kq)) sc_end)), fun hS => ?_⟩
        refine d_take 6 rfl rfl (by kernel_rfl) (by kernel_rfl) (by kernel_rfl) rfl hS (v_assign rfl) ?_
        refine d_done (by kernel_rfl) ?_; clear hS
        refine n_then (x_seq (x_seq (x_region (s_val rfl (v_move rfl) (s_val rfl (v_len_slice Tryz.underlying45 rfl) (s_val rfl (v_move rfl) (s_val rfl (v_len_slice Tryz.underlying45 rfl) (s_val rfl (v_neq rfl rfl) (x_nil (n_then ?_))))))))))
        refine x_if rfl ?_ ?_
        · intro c9
          refine x_seq (x_region (s_val rfl (v_assign rfl) (x_nil (n_then (x_ret (r_then (r_block (r_then (r_then (r_block (r_then (x_done (.inl rfl) (.cons (r_tmp rfl) .nil) ?_))))))))))))
          rw [hbad (by rw [hag, eqLs_len (by omega), Bool.false_and]), Bool.false_and]
          exact ⟨_, ⟨rfl, rfl⟩, inferInstance⟩
        · intro c9
          refine x_skip (n_then (x_seq (x_seq (x_region (s_val rfl (v_assign rfl) (x_nil (n_then (x_block ?_))))))))
          refine x_loop (fun k : Nat => k ≤ xa.length ∧ xa.length = xb.length ∧ eqLs eqN xa xb = eqLs eqN (xa.drop k) (xb.drop k)) (fun k => [(3, .int .i64 l), (4, .pointer (some ⟨b4, 0, none⟩)), (5, .pointer (some ⟨b5, 0, none⟩)), (6, .pointer (some ⟨b6, 0, none⟩)), (9, .slice (some ⟨g1, 0, none⟩) q.length kq), (10, .int .i64 i), (11, .slice (wrdI a u).a xa.length (wrdI a u).c), (12, .slice (wrdI b u).a xb.length (wrdI b u).c), (13, .int .i64 k)]) (fun _ => osl 3 1 (.slice (some ⟨g1, 0, none⟩) q.length kq) (q.map ixV) :: pt b4 (cfO c) :: pt b5 (cob (scrV a) 33) :: pt b6 (cob (scrV b) 33) :: R) (fun k => xa.length - k) 0 ?_ ?_ ?_ ?_
          · exact ⟨Nat.zero_le _, by omega, rfl⟩
          · repeat (first | exact sub_nil | refine sub_cons rfl ?_)
          · exact inferInstance
          · intro k ⟨hk, hn, hK⟩
            refine x_seq (x_seq (x_region (s_val rfl (v_move rfl) (s_val rfl (v_move rfl) (s_val rfl (v_len_slice Tryz.underlying45 rfl) (s_val rfl (v_lss rfl rfl) (s_val rfl (v_move rfl) ?_)))))))
            refine s_and rfl rfl rfl ?_ ?_
            · intro g12_5
              refine s_val rfl (v_move rfl) (s_yes rfl rfl (s_val rfl (v_move rfl) (s_yes rfl rfl (s_val rfl (v_len_slice Tryz.underlying45 rfl) (s_yes rfl rfl (s_val rfl (v_lss rfl rfl) (s_val rfl (v_pick_t rfl rfl) (x_nil (n_then ?_)))))))))
              refine x_if rfl ?_ ?_
              · intro c12
                refine x_skip (n_then (x_seq (x_block (x_seq ?_))))
                have hk1 : k < xa.length := by omega
                have hk2 : k < xb.length := by omega
                have hst := eqLs_drop (q := eqN) k hk1 hk2
                obtain ⟨g2, o2, ha2, hc2⟩ := (hca []).at_ hk1
                obtain ⟨g3, o3, ha3, hc3⟩ := (hcb []).at_ hk2
                generalize xa[k] = p1 at hst hc2
                generalize xb[k] = p2 at hst hc3
                refine x_draw [(g2, o2 + k * 1, [wV p1]), (g3, o3 + k * 1, [wV p2])] 9 mixed rfl (sc_cons hc2.weak (sc_cons hc3.weak sc_end)) (fun hS => ?_)
                refine d_take 0 rfl rfl (by kernel_rfl) (by kernel_rfl) (by kernel_rfl) rfl hS (v_move rfl) ?_
                refine d_take 1 rfl rfl (by kernel_rfl) (by kernel_rfl) (by kernel_rfl) rfl hS (v_move rfl) ?_
                refine d_take 2 rfl rfl (by kernel_rfl) (by kernel_rfl) (by kernel_rfl) rfl hS (v_idxA Tryz.underlying45 Tryz.sizeOf47 rfl ha2 rfl rfl hk1 (by first | exact Nat.zero_add _ | rfl)) ?_
                refine d_take 3 rfl rfl (by kernel_rfl) (by kernel_rfl) (by kernel_rfl) rfl hS (v_load Tryz.isAgg47 rfl (cell_sc1 (k := 0) rfl)) ?_
                refine d_take 4 rfl rfl (by kernel_rfl) (by kernel_rfl) (by kernel_rfl) rfl hS (v_move rfl) ?_
                refine d_take 5 rfl rfl (by kernel_rfl) (by kernel_rfl) (by kernel_rfl) rfl hS (v_move rfl) ?_
                refine d_take 6 rfl rfl (by kernel_rfl) (by kernel_rfl) (by kernel_rfl) rfl hS (v_idxA Tryz.underlying45 Tryz.sizeOf47 rfl ha3 rfl rfl hk2 (by first | exact Nat.zero_add _ | rfl)) ?_
                refine d_take 7 rfl rfl (by kernel_rfl) (by kernel_rfl) (by kernel_rfl) rfl hS (v_load Tryz.isAgg47 rfl (cell_sc1 (k := 1) rfl)) ?_
                refine d_take 8 rfl rfl (by kernel_rfl) (by kernel_rfl) (by kernel_rfl) rfl hS (v_neq rfl rfl) ?_
                refine d_done (by kernel_rfl) ?_; clear hS
                refine n_then ?_
                refine x_if rfl ?_ ?_
                · intro c14
                  refine x_seq (x_region (s_val rfl (v_assign rfl) (x_nil (n_then (x_ret (r_block (r_then (r_then (r_block (r_then (r_block (r_then (r_then (r_block (r_then (x_done (.inl rfl) (.cons (r_tmp rfl) .nil) ?_))))))))))))))))
                  have hne : eqN p1 p2 = false := decide_eq_false (by omega)
                  rw [hbad (by rw [hag, hK, hst, hne, Bool.false_and, Bool.false_and]), Bool.false_and]
                  exact ⟨_, ⟨rfl, rfl⟩, inferInstance⟩
                · intro c14
                  refine x_skip (n_block (n_then (x_region (s_val rfl (v_move rfl) ?_))))
                  refine s_val rfl (v_add rfl rfl (by first | exact w64 (by omega) | rfl)) ?_
                  refine s_val rfl (v_assign rfl) (x_nil (n_then ?_))
                  refine inv_intro (k + 1) ?_ ?_ ?_ ?_
                  · have hne : eqN p1 p2 = true := decide_eq_true (by omega)
                    refine ⟨by omega, hn, ?_⟩
                    rw [hK, hst, hne, Bool.true_and]
                  · omega
                  · repeat (first | exact sub_nil | refine sub_cons rfl ?_)
                  · exact inferInstance
              · intro c12
                refine x_exit (e_then (e_then (e_block (n_then (x_seq ?_)))))
                have hwd : eqLs eqN xa xb = true := by
                  rw [hK, List.drop_of_length_le (by omega), List.drop_of_length_le (by omega)]; rfl
                rw [hwd, Bool.true_and] at hag
                refine x_draw [(b4, 0, _), (b5, 0, _), (g1, 0, q.map ixV)] 10 mixed rfl (sc_own (sc_own (sc_cons (cells_osl (E := 3) (sz := 1) (a := some ⟨g1, 0, none⟩) (n := q.length) (c := kq)) sc_end))) (fun hS => ?_)
                refine d_take 0 rfl rfl (by kernel_rfl) (by kernel_rfl) (by kernel_rfl) rfl hS (v_loadAgg Tryz.isAgg28 Tryz.sizeOf28 rfl (by first | exact cells_sc (k := 0) rfl | exact cells_sc (k := 1) rfl | exact cells_sc (k := 2) rfl) rfl) ?_
                refine d_take 1 rfl rfl (by kernel_rfl) (by kernel_rfl) (by kernel_rfl) rfl hS (v_loadAgg Tryz.isAgg33 Tryz.sizeOf33 rfl (by first | exact cells_sc (k := 0) rfl | exact cells_sc (k := 1) rfl | exact cells_sc (k := 2) rfl) rfl) ?_
                refine d_take 2 rfl rfl (by kernel_rfl) (by kernel_rfl) (by kernel_rfl) rfl hS (v_move rfl) ?_
                refine d_take 4 rfl rfl (by kernel_rfl) (by kernel_rfl) (by kernel_rfl) rfl hS (v_move rfl) ?_
                refine d_take 5 rfl rfl (by kernel_rfl) (by kernel_rfl) (by kernel_rfl) rfl hS (v_move rfl) ?_
                refine d_take 6 rfl rfl (by kernel_rfl) (by kernel_rfl) (by kernel_rfl) rfl hS (v_idx Tryz.underlying38 Tryz.sizeOf3 rfl rfl rfl hi1 (by first | exact Nat.zero_add _ | rfl)) ?_
                refine d_take 7 rfl rfl (by kernel_rfl) (by kernel_rfl) (by kernel_rfl) rfl hS (v_load Tryz.isAgg3 rfl (cell_sc0 (k := 2) rfl (by rw [Nat.mul_one]; exact hqe))) ?_
                refine d_one 3 (by kernel_rfl) rfl rfl (d_call Tryz.call56 rfl (rsSeen_spec W0 _ c h a ha la.2 l)) rfl ?_; clear hS
                rintro _ B_ ⟨as1, ks1, rfl, hB_⟩
                obtain rfl := hB_.symm
                refine ⟨(sc_own (sc_own (sc_cons (cells_osl (E := 3) (sz := 1) (a := some ⟨g1, 0, none⟩) (n := q.length) (c := kq)) sc_end))), fun hS => ?_⟩
                refine run_sla (E := 109) (sz := 5) (a := as1) (c := ks1) (n := (a.nl.filter (seB c l)).length) inpV (a.nl.filter (seB c l)) inpV_len (by decide) rfl (fun hs1 => ?_)
                refine d_one 8 (by kernel_rfl) rfl rfl (d_call Tryz.call55 rfl (rsOf_spec W0 _ as1 ks1 (a.nl.filter (seB c l)) hs1 (by omega) u)) rfl ?_; clear hS
                rintro _ B_ ⟨ax, kx, rfl, hB_⟩
                obtain rfl := hB_.symm
                rw [hsa]
                refine ⟨(sc_own (sc_own (sc_cons (cells_osl (E := 3) (sz := 1) (a := some ⟨g1, 0, none⟩) (n := q.length) (c := kq)) sc_end))), fun hS => ?_⟩
                refine d_take 9 rfl rfl (by kernel_rfl) (by kernel_rfl) (by kernel_rfl) rfl hS (v_assign rfl) ?_
                refine d_done (by kernel_rfl) ?_; clear hS
                refine n_then (x_seq ?_)
                refine x_draw [(b4, 0, _), (b6, 0, _), (g1, 0, q.map ixV)] 10 mixed rfl (sc_own (sc_own (sc_cons (cells_osl (E := 3) (sz := 1) (a := some ⟨g1, 0, none⟩) (n := q.length) (c := kq)) sc_end))) (fun hS => ?_)
                refine d_take 0 rfl rfl (by kernel_rfl) (by kernel_rfl) (by kernel_rfl) rfl hS (v_loadAgg Tryz.isAgg28 Tryz.sizeOf28 rfl (by first | exact cells_sc (k := 0) rfl | exact cells_sc (k := 1) rfl | exact cells_sc (k := 2) rfl) rfl) ?_
                refine d_take 1 rfl rfl (by kernel_rfl) (by kernel_rfl) (by kernel_rfl) rfl hS (v_loadAgg Tryz.isAgg33 Tryz.sizeOf33 rfl (by first | exact cells_sc (k := 0) rfl | exact cells_sc (k := 1) rfl | exact cells_sc (k := 2) rfl) rfl) ?_
                refine d_take 2 rfl rfl (by kernel_rfl) (by kernel_rfl) (by kernel_rfl) rfl hS (v_move rfl) ?_
                refine d_take 4 rfl rfl (by kernel_rfl) (by kernel_rfl) (by kernel_rfl) rfl hS (v_move rfl) ?_
                refine d_take 5 rfl rfl (by kernel_rfl) (by kernel_rfl) (by kernel_rfl) rfl hS (v_move rfl) ?_
                refine d_take 6 rfl rfl (by kernel_rfl) (by kernel_rfl) (by kernel_rfl) rfl hS (v_idx Tryz.underlying38 Tryz.sizeOf3 rfl rfl rfl hi1 (by first | exact Nat.zero_add _ | rfl)) ?_
                refine d_take 7 rfl rfl (by kernel_rfl) (by kernel_rfl) (by kernel_rfl) rfl hS (v_load Tryz.isAgg3 rfl (cell_sc0 (k := 2) rfl (by rw [Nat.mul_one]; exact hqe))) ?_
                refine d_one 3 (by kernel_rfl) rfl rfl (d_call Tryz.call56 rfl (rsSeen_spec W0 _ c h b hb lb.2 l)) rfl ?_; clear hS
                rintro _ B_ ⟨as2, ks2, rfl, hB_⟩
                obtain rfl := hB_.symm
                refine ⟨(sc_own (sc_own (sc_cons (cells_osl (E := 3) (sz := 1) (a := some ⟨g1, 0, none⟩) (n := q.length) (c := kq)) sc_end))), fun hS => ?_⟩
                refine run_sla (E := 109) (sz := 5) (a := as2) (c := ks2) (n := (b.nl.filter (seB c l)).length) inpV (b.nl.filter (seB c l)) inpV_len (by decide) rfl (fun hs2 => ?_)
                refine d_one 8 (by kernel_rfl) rfl rfl (d_call Tryz.call55 rfl (rsOf_spec W0 _ as2 ks2 (b.nl.filter (seB c l)) hs2 (by omega) u)) rfl ?_; clear hS
                rintro _ B_ ⟨ay, ky, rfl, hB_⟩
                obtain rfl := hB_.symm
                rw [hsb]
                refine ⟨(sc_own (sc_own (sc_cons (cells_osl (E := 3) (sz := 1) (a := some ⟨g1, 0, none⟩) (n := q.length) (c := kq)) sc_end))), fun hS => ?_⟩
                refine d_take 9 rfl rfl (by kernel_rfl) (by kernel_rfl) (by kernel_rfl) rfl hS (v_assign rfl) ?_
                refine d_done (by kernel_rfl) ?_; clear hS
                refine n_then (x_seq (x_seq (x_region (s_val rfl (v_move rfl) (s_val rfl (v_len_slice Tryz.underlying31 rfl) (s_val rfl (v_move rfl) (s_val rfl (v_len_slice Tryz.underlying31 rfl) (s_val rfl (v_neq rfl rfl) (x_nil (n_then ?_))))))))))
                refine x_if rfl ?_ ?_
                · intro c18
                  refine x_seq (x_region (s_val rfl (v_assign rfl) (x_nil (n_then (x_ret (r_then (r_block (r_then (r_then (r_block (r_then (x_done (.inl rfl) (.cons (r_tmp rfl) .nil) ?_))))))))))))
                  rw [hbad (by rw [hag, eqLs_len (by omega)]), Bool.false_and]
                  exact ⟨_, ⟨rfl, rfl⟩, inferInstance⟩
                · intro c18
                  refine x_skip (n_then (x_seq (x_region (s_val rfl (v_assign rfl) (x_nil (n_then (x_block ?_)))))))
                  refine x_loop (fun k : Nat => k ≤ ya.length ∧ ya.length = yb.length ∧ eqLs eqI ya yb = eqLs eqI (ya.drop k) (yb.drop k)) (fun k => [(3, .int .i64 l), (4, .pointer (some ⟨b4, 0, none⟩)), (5, .pointer (some ⟨b5, 0, none⟩)), (6, .pointer (some ⟨b6, 0, none⟩)), (9, .slice (some ⟨g1, 0, none⟩) q.length kq), (10, .int .i64 i), (14, .slice ax ya.length kx), (15, .slice ay yb.length ky), (16, .int .i64 k)]) (fun _ => osl 109 5 (.slice ax ya.length kx) (ya.flatMap inpV) :: osl 109 5 (.slice ay yb.length ky) (yb.flatMap inpV) :: osl 3 1 (.slice (some ⟨g1, 0, none⟩) q.length kq) (q.map ixV) :: pt b4 (cfO c) :: pt b5 (cob (scrV a) 33) :: pt b6 (cob (scrV b) 33) :: R) (fun k => ya.length - k) 0 ?_ ?_ ?_ ?_
                  · exact ⟨Nat.zero_le _, by omega, rfl⟩
                  · repeat (first | exact sub_nil | refine sub_cons rfl ?_)
                  · exact inferInstance
                  · intro k ⟨hk, hn, hK⟩
                    refine x_seq (x_seq (x_region (s_val rfl (v_move rfl) (s_val rfl (v_move rfl) (s_val rfl (v_len_slice Tryz.underlying31 rfl) (s_val rfl (v_lss rfl rfl) (s_val rfl (v_move rfl) ?_)))))))
                    refine s_and rfl rfl rfl ?_ ?_
                    · intro g21_5
                      refine s_val rfl (v_move rfl) (s_yes rfl rfl (s_val rfl (v_move rfl) (s_yes rfl rfl (s_val rfl (v_len_slice Tryz.underlying31 rfl) (s_yes rfl rfl (s_val rfl (v_lss rfl rfl) (s_val rfl (v_pick_t rfl rfl) (x_nil (n_then ?_)))))))))
                      refine x_if rfl ?_ ?_
                      · intro c21
                        refine x_skip (n_then (x_seq (x_block (x_seq ?_))))
                        have hk1 : k < ya.length := by omega
                        have hk2 : k < yb.length := by omega
                        have hst := eqLs_drop (q := eqI) k hk1 hk2
                        refine run_sla (E := 109) (sz := 5) (a := ax) (c := kx) (n := ya.length) inpV ya inpV_len (by decide) rfl (fun hs1 => ?_)
                        refine run_sla (E := 109) (sz := 5) (a := ay) (c := ky) (n := yb.length) inpV yb inpV_len (by decide) rfl (fun hs2 => ?_)
                        obtain ⟨g2, o2, ha2, hc2⟩ := hs1.at_ hk1
                        obtain ⟨g3, o3, ha3, hc3⟩ := hs2.at_ hk2
                        obtain ⟨x, hx⟩ : ∃ x, ya[k] = x := ⟨_, rfl⟩
                        obtain ⟨y, hy⟩ : ∃ y, yb[k] = y := ⟨_, rfl⟩
                        rw [hx] at hc2 hst
                        rw [hy] at hc3 hst
                        refine x_draw [(g2, o2 + k * 5, inpV x), (g3, o3 + k * 5, inpV y)] 9 mixed rfl (sc_cons hc2.weak (sc_cons hc3.weak sc_end)) (fun hS => ?_)
                        refine d_take 0 rfl rfl (by kernel_rfl) (by kernel_rfl) (by kernel_rfl) rfl hS (v_move rfl) ?_
                        refine d_take 1 rfl rfl (by kernel_rfl) (by kernel_rfl) (by kernel_rfl) rfl hS (v_move rfl) ?_
                        refine d_take 2 rfl rfl (by kernel_rfl) (by kernel_rfl) (by kernel_rfl) rfl hS (v_idxA Tryz.underlying31 Tryz.sizeOf109 rfl ha2 rfl rfl hk1 (by first | exact Nat.zero_add _ | rfl)) ?_
                        refine d_take 3 rfl rfl (by kernel_rfl) (by kernel_rfl) (by kernel_rfl) rfl hS (v_loadAgg Tryz.isAgg109 Tryz.sizeOf109 rfl (cells_sc (k := 0) rfl) rfl) ?_
                        refine d_take 4 rfl rfl (by kernel_rfl) (by kernel_rfl) (by kernel_rfl) rfl hS (v_move rfl) ?_
                        refine d_take 5 rfl rfl (by kernel_rfl) (by kernel_rfl) (by kernel_rfl) rfl hS (v_move rfl) ?_
                        refine d_take 6 rfl rfl (by kernel_rfl) (by kernel_rfl) (by kernel_rfl) rfl hS (v_idxA Tryz.underlying31 Tryz.sizeOf109 rfl ha3 rfl rfl hk2 (by first | exact Nat.zero_add _ | rfl)) ?_
                        refine d_take 7 rfl rfl (by kernel_rfl) (by kernel_rfl) (by kernel_rfl) rfl hS (v_loadAgg Tryz.isAgg109 Tryz.sizeOf109 rfl (cells_sc (k := 1) rfl) rfl) ?_
                        refine d_take 8 rfl rfl (by kernel_rfl) (by kernel_rfl) (by kernel_rfl) rfl hS (v_neq_agg Tryz.eqGuardType109 rfl rfl (q_struct Tryz.underlying109 Tryz.stoodInHeld109 (qf_scal rfl Tryz.isAgg3 rfl rfl (q_int Tryz.underlying3) (qf_scal rfl Tryz.isAgg3 rfl rfl (q_int Tryz.underlying3) (qf_scal rfl Tryz.isAgg3 rfl rfl (q_int Tryz.underlying3) (qf_scal rfl Tryz.isAgg3 rfl rfl (q_int Tryz.underlying3) (qf_scal rfl Tryz.isAgg9 rfl rfl (q_str Tryz.underlying9) qf_nil))))))) ?_
                        refine d_done (by kernel_rfl) ?_; clear hS
                        refine n_then ?_
                        refine x_if rfl ?_ ?_
                        · intro c23
                          have hne : eqI x y = false := by first | exact c23 | simpa [eqI] using c23
                          refine x_seq (x_region (s_val rfl (v_assign rfl) (x_nil (n_then (x_ret (r_block (r_then (r_then (r_block (r_block (r_then (r_then (r_block (r_then (x_done (.inl rfl) (.cons (r_tmp rfl) .nil) ?_)))))))))))))))
                          rw [hbad (by rw [hag, hK, hst, hne, Bool.false_and]), Bool.false_and]
                          exact ⟨_, ⟨rfl, rfl⟩, inferInstance⟩
                        · intro c23
                          have hne : eqI x y = true := by first | exact c23 | simpa [eqI] using c23
                          refine x_skip (n_block (n_then (x_region (s_val rfl (v_move rfl) ?_))))
                          refine s_val rfl (v_add rfl rfl (by first | exact w64 (by omega) | rfl)) ?_
                          refine s_val rfl (v_assign rfl) (x_nil (n_then ?_))
                          refine inv_intro (k + 1) ?_ ?_ ?_ ?_
                          · refine ⟨by omega, hn, ?_⟩
                            rw [hK, hst, hne, Bool.true_and]
                          · omega
                          · repeat (first | exact sub_nil | refine sub_cons rfl ?_)
                          · exact inferInstance
                      · intro c21
                        refine x_exit (e_then (e_then (e_block (n_block (n_then (x_region (s_val rfl (v_move rfl) ?_)))))))
                        refine s_val rfl (v_add rfl rfl (by first | exact w64 (by omega) | rfl)) ?_
                        refine s_val rfl (v_assign rfl) (x_nil (n_then ?_))
                        refine inv_intro (i + 1) ?_ ?_ ?_ ?_
                        · refine ⟨by omega, hgood ?_⟩
                          rw [hag, hK, List.drop_of_length_le (by omega), List.drop_of_length_le (by omega)]; rfl
                        · omega
                        · repeat (first | exact sub_nil | refine sub_cons rfl ?_)
                        · exact inferInstance
                    · intro g21_5
                      refine s_no rfl rfl rfl rfl (s_no rfl rfl rfl rfl (s_no rfl rfl rfl rfl (s_val rfl (v_pick_f rfl rfl) (x_nil (n_then (x_iff rfl (x_exit (e_then (e_then (e_block (n_block (n_then (x_region (s_val rfl (v_move rfl) ?_))))))))))))))
                      refine s_val rfl (v_add rfl rfl (by first | exact w64 (by omega) | rfl)) ?_
                      refine s_val rfl (v_assign rfl) (x_nil (n_then ?_))
                      refine inv_intro (i + 1) ?_ ?_ ?_ ?_
                      · refine ⟨by omega, hgood ?_⟩
                        rw [hag, hK, List.drop_of_length_le (by omega), List.drop_of_length_le (by omega)]; rfl
                      · omega
                      · repeat (first | exact sub_nil | refine sub_cons rfl ?_)
                      · exact inferInstance
            · intro g12_5
              refine s_no rfl rfl rfl rfl (s_no rfl rfl rfl rfl (s_no rfl rfl rfl rfl (s_val rfl (v_pick_f rfl rfl) (x_nil (n_then (x_iff rfl (x_exit (e_then (e_then (e_block (n_then (x_seq ?_))))))))))))
              have hwd : eqLs eqN xa xb = true := by
                rw [hK, List.drop_of_length_le (by omega), List.drop_of_length_le (by omega)]; rfl
              rw [hwd, Bool.true_and] at hag
              refine x_draw [(b4, 0, _), (b5, 0, _), (g1, 0, q.map ixV)] 10 mixed rfl (sc_own (sc_own (sc_cons (cells_osl (E := 3) (sz := 1) (a := some ⟨g1, 0, none⟩) (n := q.length) (c := kq)) sc_end))) (fun hS => ?_)
              refine d_take 0 rfl rfl (by kernel_rfl) (by kernel_rfl) (by kernel_rfl) rfl hS (v_loadAgg Tryz.isAgg28 Tryz.sizeOf28 rfl (by first | exact cells_sc (k := 0) rfl | exact cells_sc (k := 1) rfl | exact cells_sc (k := 2) rfl) rfl) ?_
              refine d_take 1 rfl rfl (by kernel_rfl) (by kernel_rfl) (by kernel_rfl) rfl hS (v_loadAgg Tryz.isAgg33 Tryz.sizeOf33 rfl (by first | exact cells_sc (k := 0) rfl | exact cells_sc (k := 1) rfl | exact cells_sc (k := 2) rfl) rfl) ?_
              refine d_take 2 rfl rfl (by kernel_rfl) (by kernel_rfl) (by kernel_rfl) rfl hS (v_move rfl) ?_
              refine d_take 4 rfl rfl (by kernel_rfl) (by kernel_rfl) (by kernel_rfl) rfl hS (v_move rfl) ?_
              refine d_take 5 rfl rfl (by kernel_rfl) (by kernel_rfl) (by kernel_rfl) rfl hS (v_move rfl) ?_
              refine d_take 6 rfl rfl (by kernel_rfl) (by kernel_rfl) (by kernel_rfl) rfl hS (v_idx Tryz.underlying38 Tryz.sizeOf3 rfl rfl rfl hi1 (by first | exact Nat.zero_add _ | rfl)) ?_
              refine d_take 7 rfl rfl (by kernel_rfl) (by kernel_rfl) (by kernel_rfl) rfl hS (v_load Tryz.isAgg3 rfl (cell_sc0 (k := 2) rfl (by rw [Nat.mul_one]; exact hqe))) ?_
              refine d_one 3 (by kernel_rfl) rfl rfl (d_call Tryz.call56 rfl (rsSeen_spec W0 _ c h a ha la.2 l)) rfl ?_; clear hS
              rintro _ B_ ⟨as1, ks1, rfl, hB_⟩
              obtain rfl := hB_.symm
              refine ⟨(sc_own (sc_own (sc_cons (cells_osl (E := 3) (sz := 1) (a := some ⟨g1, 0, none⟩) (n := q.length) (c := kq)) sc_end))), fun hS => ?_⟩
              refine run_sla (E := 109) (sz := 5) (a := as1) (c := ks1) (n := (a.nl.filter (seB c l)).length) inpV (a.nl.filter (seB c l)) inpV_len (by decide) rfl (fun hs1 => ?_)
              refine d_one 8 (by kernel_rfl) rfl rfl (d_call Tryz.call55 rfl (rsOf_spec W0 _ as1 ks1 (a.nl.filter (seB c l)) hs1 (by omega) u)) rfl ?_; clear hS
              rintro _ B_ ⟨ax, kx, rfl, hB_⟩
              obtain rfl := hB_.symm
              rw [hsa]
              refine ⟨(sc_own (sc_own (sc_cons (cells_osl (E := 3) (sz := 1) (a := some ⟨g1, 0, none⟩) (n := q.length) (c := kq)) sc_end))), fun hS => ?_⟩
              refine d_take 9 rfl rfl (by kernel_rfl) (by kernel_rfl) (by kernel_rfl) rfl hS (v_assign rfl) ?_
              refine d_done (by kernel_rfl) ?_; clear hS
              refine n_then (x_seq ?_)
              refine x_draw [(b4, 0, _), (b6, 0, _), (g1, 0, q.map ixV)] 10 mixed rfl (sc_own (sc_own (sc_cons (cells_osl (E := 3) (sz := 1) (a := some ⟨g1, 0, none⟩) (n := q.length) (c := kq)) sc_end))) (fun hS => ?_)
              refine d_take 0 rfl rfl (by kernel_rfl) (by kernel_rfl) (by kernel_rfl) rfl hS (v_loadAgg Tryz.isAgg28 Tryz.sizeOf28 rfl (by first | exact cells_sc (k := 0) rfl | exact cells_sc (k := 1) rfl | exact cells_sc (k := 2) rfl) rfl) ?_
              refine d_take 1 rfl rfl (by kernel_rfl) (by kernel_rfl) (by kernel_rfl) rfl hS (v_loadAgg Tryz.isAgg33 Tryz.sizeOf33 rfl (by first | exact cells_sc (k := 0) rfl | exact cells_sc (k := 1) rfl | exact cells_sc (k := 2) rfl) rfl) ?_
              refine d_take 2 rfl rfl (by kernel_rfl) (by kernel_rfl) (by kernel_rfl) rfl hS (v_move rfl) ?_
              refine d_take 4 rfl rfl (by kernel_rfl) (by kernel_rfl) (by kernel_rfl) rfl hS (v_move rfl) ?_
              refine d_take 5 rfl rfl (by kernel_rfl) (by kernel_rfl) (by kernel_rfl) rfl hS (v_move rfl) ?_
              refine d_take 6 rfl rfl (by kernel_rfl) (by kernel_rfl) (by kernel_rfl) rfl hS (v_idx Tryz.underlying38 Tryz.sizeOf3 rfl rfl rfl hi1 (by first | exact Nat.zero_add _ | rfl)) ?_
              refine d_take 7 rfl rfl (by kernel_rfl) (by kernel_rfl) (by kernel_rfl) rfl hS (v_load Tryz.isAgg3 rfl (cell_sc0 (k := 2) rfl (by rw [Nat.mul_one]; exact hqe))) ?_
              refine d_one 3 (by kernel_rfl) rfl rfl (d_call Tryz.call56 rfl (rsSeen_spec W0 _ c h b hb lb.2 l)) rfl ?_; clear hS
              rintro _ B_ ⟨as2, ks2, rfl, hB_⟩
              obtain rfl := hB_.symm
              refine ⟨(sc_own (sc_own (sc_cons (cells_osl (E := 3) (sz := 1) (a := some ⟨g1, 0, none⟩) (n := q.length) (c := kq)) sc_end))), fun hS => ?_⟩
              refine run_sla (E := 109) (sz := 5) (a := as2) (c := ks2) (n := (b.nl.filter (seB c l)).length) inpV (b.nl.filter (seB c l)) inpV_len (by decide) rfl (fun hs2 => ?_)
              refine d_one 8 (by kernel_rfl) rfl rfl (d_call Tryz.call55 rfl (rsOf_spec W0 _ as2 ks2 (b.nl.filter (seB c l)) hs2 (by omega) u)) rfl ?_; clear hS
              rintro _ B_ ⟨ay, ky, rfl, hB_⟩
              obtain rfl := hB_.symm
              rw [hsb]
              refine ⟨(sc_own (sc_own (sc_cons (cells_osl (E := 3) (sz := 1) (a := some ⟨g1, 0, none⟩) (n := q.length) (c := kq)) sc_end))), fun hS => ?_⟩
              refine d_take 9 rfl rfl (by kernel_rfl) (by kernel_rfl) (by kernel_rfl) rfl hS (v_assign rfl) ?_
              refine d_done (by kernel_rfl) ?_; clear hS
              refine n_then (x_seq (x_seq (x_region (s_val rfl (v_move rfl) (s_val rfl (v_len_slice Tryz.underlying31 rfl) (s_val rfl (v_move rfl) (s_val rfl (v_len_slice Tryz.underlying31 rfl) (s_val rfl (v_neq rfl rfl) (x_nil (n_then ?_))))))))))
              refine x_if rfl ?_ ?_
              · intro c18
                refine x_seq (x_region (s_val rfl (v_assign rfl) (x_nil (n_then (x_ret (r_then (r_block (r_then (r_then (r_block (r_then (x_done (.inl rfl) (.cons (r_tmp rfl) .nil) ?_))))))))))))
                rw [hbad (by rw [hag, eqLs_len (by omega)]), Bool.false_and]
                exact ⟨_, ⟨rfl, rfl⟩, inferInstance⟩
              · intro c18
                refine x_skip (n_then (x_seq (x_region (s_val rfl (v_assign rfl) (x_nil (n_then (x_block ?_)))))))
                refine x_loop (fun k : Nat => k ≤ ya.length ∧ ya.length = yb.length ∧ eqLs eqI ya yb = eqLs eqI (ya.drop k) (yb.drop k)) (fun k => [(3, .int .i64 l), (4, .pointer (some ⟨b4, 0, none⟩)), (5, .pointer (some ⟨b5, 0, none⟩)), (6, .pointer (some ⟨b6, 0, none⟩)), (9, .slice (some ⟨g1, 0, none⟩) q.length kq), (10, .int .i64 i), (14, .slice ax ya.length kx), (15, .slice ay yb.length ky), (16, .int .i64 k)]) (fun _ => osl 109 5 (.slice ax ya.length kx) (ya.flatMap inpV) :: osl 109 5 (.slice ay yb.length ky) (yb.flatMap inpV) :: osl 3 1 (.slice (some ⟨g1, 0, none⟩) q.length kq) (q.map ixV) :: pt b4 (cfO c) :: pt b5 (cob (scrV a) 33) :: pt b6 (cob (scrV b) 33) :: R) (fun k => ya.length - k) 0 ?_ ?_ ?_ ?_
                · exact ⟨Nat.zero_le _, by omega, rfl⟩
                · repeat (first | exact sub_nil | refine sub_cons rfl ?_)
                · exact inferInstance
                · intro k ⟨hk, hn, hK⟩
                  refine x_seq (x_seq (x_region (s_val rfl (v_move rfl) (s_val rfl (v_move rfl) (s_val rfl (v_len_slice Tryz.underlying31 rfl) (s_val rfl (v_lss rfl rfl) (s_val rfl (v_move rfl) ?_)))))))
                  refine s_and rfl rfl rfl ?_ ?_
                  · intro g21_5
                    refine s_val rfl (v_move rfl) (s_yes rfl rfl (s_val rfl (v_move rfl) (s_yes rfl rfl (s_val rfl (v_len_slice Tryz.underlying31 rfl) (s_yes rfl rfl (s_val rfl (v_lss rfl rfl) (s_val rfl (v_pick_t rfl rfl) (x_nil (n_then ?_)))))))))
                    refine x_if rfl ?_ ?_
                    · intro c21
                      refine x_skip (n_then (x_seq (x_block (x_seq ?_))))
                      have hk1 : k < ya.length := by omega
                      have hk2 : k < yb.length := by omega
                      have hst := eqLs_drop (q := eqI) k hk1 hk2
                      refine run_sla (E := 109) (sz := 5) (a := ax) (c := kx) (n := ya.length) inpV ya inpV_len (by decide) rfl (fun hs1 => ?_)
                      refine run_sla (E := 109) (sz := 5) (a := ay) (c := ky) (n := yb.length) inpV yb inpV_len (by decide) rfl (fun hs2 => ?_)
                      obtain ⟨g2, o2, ha2, hc2⟩ := hs1.at_ hk1
                      obtain ⟨g3, o3, ha3, hc3⟩ := hs2.at_ hk2
                      obtain ⟨x, hx⟩ : ∃ x, ya[k] = x := ⟨_, rfl⟩
                      obtain ⟨y, hy⟩ : ∃ y, yb[k] = y := ⟨_, rfl⟩
                      rw [hx] at hc2 hst
                      rw [hy] at hc3 hst
                      refine x_draw [(g2, o2 + k * 5, inpV x), (g3, o3 + k * 5, inpV y)] 9 mixed rfl (sc_cons hc2.weak (sc_cons hc3.weak sc_end)) (fun hS => ?_)
                      refine d_take 0 rfl rfl (by kernel_rfl) (by kernel_rfl) (by kernel_rfl) rfl hS (v_move rfl) ?_
                      refine d_take 1 rfl rfl (by kernel_rfl) (by kernel_rfl) (by kernel_rfl) rfl hS (v_move rfl) ?_
                      refine d_take 2 rfl rfl (by kernel_rfl) (by kernel_rfl) (by kernel_rfl) rfl hS (v_idxA Tryz.underlying31 Tryz.sizeOf109 rfl ha2 rfl rfl hk1 (by first | exact Nat.zero_add _ | rfl)) ?_
                      refine d_take 3 rfl rfl (by kernel_rfl) (by kernel_rfl) (by kernel_rfl) rfl hS (v_loadAgg Tryz.isAgg109 Tryz.sizeOf109 rfl (cells_sc (k := 0) rfl) rfl) ?_
                      refine d_take 4 rfl rfl (by kernel_rfl) (by kernel_rfl) (by kernel_rfl) rfl hS (v_move rfl) ?_
                      refine d_take 5 rfl rfl (by kernel_rfl) (by kernel_rfl) (by kernel_rfl) rfl hS (v_move rfl) ?_
                      refine d_take 6 rfl rfl (by kernel_rfl) (by kernel_rfl) (by kernel_rfl) rfl hS (v_idxA Tryz.underlying31 Tryz.sizeOf109 rfl ha3 rfl rfl hk2 (by first | exact Nat.zero_add _ | rfl)) ?_
                      refine d_take 7 rfl rfl (by kernel_rfl) (by kernel_rfl) (by kernel_rfl) rfl hS (v_loadAgg Tryz.isAgg109 Tryz.sizeOf109 rfl (cells_sc (k := 1) rfl) rfl) ?_
                      refine d_take 8 rfl rfl (by kernel_rfl) (by kernel_rfl) (by kernel_rfl) rfl hS (v_neq_agg Tryz.eqGuardType109 rfl rfl (q_struct Tryz.underlying109 Tryz.stoodInHeld109 (qf_scal rfl Tryz.isAgg3 rfl rfl (q_int Tryz.underlying3) (qf_scal rfl Tryz.isAgg3 rfl rfl (q_int Tryz.underlying3) (qf_scal rfl Tryz.isAgg3 rfl rfl (q_int Tryz.underlying3) (qf_scal rfl Tryz.isAgg3 rfl rfl (q_int Tryz.underlying3) (qf_scal rfl Tryz.isAgg9 rfl rfl (q_str Tryz.underlying9) qf_nil))))))) ?_
                      refine d_done (by kernel_rfl) ?_; clear hS
                      refine n_then ?_
                      refine x_if rfl ?_ ?_
                      · intro c23
                        have hne : eqI x y = false := by first | exact c23 | simpa [eqI] using c23
                        refine x_seq (x_region (s_val rfl (v_assign rfl) (x_nil (n_then (x_ret (r_block (r_then (r_then (r_block (r_block (r_then (r_then (r_block (r_then (x_done (.inl rfl) (.cons (r_tmp rfl) .nil) ?_)))))))))))))))
                        rw [hbad (by rw [hag, hK, hst, hne, Bool.false_and]), Bool.false_and]
                        exact ⟨_, ⟨rfl, rfl⟩, inferInstance⟩
                      · intro c23
                        have hne : eqI x y = true := by first | exact c23 | simpa [eqI] using c23
                        refine x_skip (n_block (n_then (x_region (s_val rfl (v_move rfl) ?_))))
                        refine s_val rfl (v_add rfl rfl (by first | exact w64 (by omega) | rfl)) ?_
                        refine s_val rfl (v_assign rfl) (x_nil (n_then ?_))
                        refine inv_intro (k + 1) ?_ ?_ ?_ ?_
                        · refine ⟨by omega, hn, ?_⟩
                          rw [hK, hst, hne, Bool.true_and]
                        · omega
                        · repeat (first | exact sub_nil | refine sub_cons rfl ?_)
                        · exact inferInstance
                    · intro c21
                      refine x_exit (e_then (e_then (e_block (n_block (n_then (x_region (s_val rfl (v_move rfl) ?_)))))))
                      refine s_val rfl (v_add rfl rfl (by first | exact w64 (by omega) | rfl)) ?_
                      refine s_val rfl (v_assign rfl) (x_nil (n_then ?_))
                      refine inv_intro (i + 1) ?_ ?_ ?_ ?_
                      · refine ⟨by omega, hgood ?_⟩
                        rw [hag, hK, List.drop_of_length_le (by omega), List.drop_of_length_le (by omega)]; rfl
                      · omega
                      · repeat (first | exact sub_nil | refine sub_cons rfl ?_)
                      · exact inferInstance
                  · intro g21_5
                    refine s_no rfl rfl rfl rfl (s_no rfl rfl rfl rfl (s_no rfl rfl rfl rfl (s_val rfl (v_pick_f rfl rfl) (x_nil (n_then (x_iff rfl (x_exit (e_then (e_then (e_block (n_block (n_then (x_region (s_val rfl (v_move rfl) ?_))))))))))))))
                    refine s_val rfl (v_add rfl rfl (by first | exact w64 (by omega) | rfl)) ?_
                    refine s_val rfl (v_assign rfl) (x_nil (n_then ?_))
                    refine inv_intro (i + 1) ?_ ?_ ?_ ?_
                    · refine ⟨by omega, hgood ?_⟩
                      rw [hag, hK, List.drop_of_length_le (by omega), List.drop_of_length_le (by omega)]; rfl
                    · omega
                    · repeat (first | exact sub_nil | refine sub_cons rfl ?_)
                    · exact inferInstance
      · intro c5
        refine x_exit (e_then (e_then (e_block (n_then (x_seq ?_)))))
        have hall : q.all (agG a b) = true := all_full fun j hj => hI j hj (by omega)
        rw [hall, Bool.true_and]
        refine x_region (s_val rfl (v_loadAll Tryz.isAgg28 Tryz.sizeOf28 rfl rfl) ?_)
        refine s_val rfl (v_move rfl) (s_do rfl (d_call Tryz.call14 rfl (rsSectors_spec W0 _ c h l)) ?_)
        rintro _ B_ ⟨as_, ks, rfl, hB_⟩
        obtain rfl := hB_.symm
        rw [hs]
        refine s_val rfl (v_assign rfl) (x_nil (n_then (x_seq (x_seq (x_region (s_val rfl (v_assign rfl) (x_nil (n_then (x_block ?_)))))))))
        refine x_loop (fun i : Nat => i ≤ s.length ∧ ∀ j (hj : j < s.length), j < i → agB a b s[j] = true) (fun i => [(3, .int .i64 l), (4, .pointer (some ⟨b4, 0, none⟩)), (5, .pointer (some ⟨b5, 0, none⟩)), (6, .pointer (some ⟨b6, 0, none⟩)), (17, .slice as_ s.length ks), (18, .int .i64 i)]) (fun _ => osl 3 1 (.slice as_ s.length ks) (s.map ixV) :: pt b4 (cfO c) :: pt b5 (cob (scrV a) 33) :: pt b6 (cob (scrV b) 33) :: R) (fun i => s.length - i) 0 ?_ ?_ ?_ ?_
        · exact ⟨Nat.zero_le _, fun j hj h0 => absurd h0 (Nat.not_lt_zero _)⟩
        · repeat (first | exact sub_nil | refine sub_cons rfl ?_)
        · exact inferInstance
        · intro i ⟨hi, hI⟩
          refine x_seq (x_seq (x_region (s_val rfl (v_move rfl) (s_val rfl (v_move rfl) (s_val rfl (v_len_slice Tryz.underlying38 rfl) (s_val rfl (v_lss rfl rfl) (x_nil (n_then ?_))))))))
          refine x_if rfl ?_ ?_
          · intro c27
            refine x_skip (n_then (x_seq (x_block (x_seq ?_))))
            have hi1 : i < s.length := by omega
            have hqe : (s.map ixV)[i]? = some (.int .i64 ((s[i] : Nat) : Int)) := by simp [hi1, ixV]
            refine run_form (E := 3) (sz := 1) (a := as_) (c := ks) (n := s.length) (ys := s.map ixV) (fun hf => ?_)
            obtain ⟨g1, rfl⟩ := form_some hf (by rw [← List.length_pos_iff, List.length_map]; omega)
            have hag : agB a b s[i] = eqB (begS a s[i]) (begS b s[i]) := rfl
            have hbad := all_at (q := agB a b) hi1
            have hgood : agB a b s[i] = true → ∀ j (hj : j < s.length), j < i + 1 → agB a b s[j] = true := fun h0 j hj hji => by
              rcases Nat.lt_or_ge j i with q2 | q2
              · exact hI j hj q2
              · obtain rfl : j = i := by omega
                exact h0
            generalize s[i] = u at hqe hag hbad hgood
            refine x_draw [(b5, 0, _), (b6, 0, _), (g1, 0, s.map ixV)] 13 mixed rfl (sc_own (sc_own (sc_cons (cells_osl (E := 3) (sz := 1) (a := some ⟨g1, 0, none⟩) (n := s.length) (c := ks)) sc_end))) (fun hS => ?_)
            refine d_take 0 rfl rfl (by kernel_rfl) (by kernel_rfl) (by kernel_rfl) rfl hS (v_loadAgg Tryz.isAgg33 Tryz.sizeOf33 rfl (by first | exact cells_sc (k := 0) rfl | exact cells_sc (k := 1) rfl | exact cells_sc (k := 2) rfl) rfl) ?_
            refine d_take 1 rfl rfl (by kernel_rfl) (by kernel_rfl) (by kernel_rfl) rfl hS (v_move rfl) ?_
            refine d_take 2 rfl rfl (by kernel_rfl) (by kernel_rfl) (by kernel_rfl) rfl hS (v_move rfl) ?_
            refine d_take 3 rfl rfl (by kernel_rfl) (by kernel_rfl) (by kernel_rfl) rfl hS (v_idx Tryz.underlying38 Tryz.sizeOf3 rfl rfl rfl hi1 (by first | exact Nat.zero_add _ | rfl)) ?_
            refine d_take 4 rfl rfl (by kernel_rfl) (by kernel_rfl) (by kernel_rfl) rfl hS (v_load Tryz.isAgg3 rfl (cell_sc0 (k := 2) rfl (by rw [Nat.mul_one]; exact hqe))) ?_
            refine d_take 6 rfl rfl (by kernel_rfl) (by kernel_rfl) (by kernel_rfl) rfl hS (v_loadAgg Tryz.isAgg33 Tryz.sizeOf33 rfl (by first | exact cells_sc (k := 0) rfl | exact cells_sc (k := 1) rfl | exact cells_sc (k := 2) rfl) rfl) ?_
            refine d_take 7 rfl rfl (by kernel_rfl) (by kernel_rfl) (by kernel_rfl) rfl hS (v_move rfl) ?_
            refine d_take 8 rfl rfl (by kernel_rfl) (by kernel_rfl) (by kernel_rfl) rfl hS (v_move rfl) ?_
            refine d_take 9 rfl rfl (by kernel_rfl) (by kernel_rfl) (by kernel_rfl) rfl hS (v_idx Tryz.underlying38 Tryz.sizeOf3 rfl rfl rfl hi1 (by first | exact Nat.zero_add _ | rfl)) ?_
            refine d_take 10 rfl rfl (by kernel_rfl) (by kernel_rfl) (by kernel_rfl) rfl hS (v_load Tryz.isAgg3 rfl (cell_sc0 (k := 2) rfl (by rw [Nat.mul_one]; exact hqe))) ?_
            refine d_one 5 (by kernel_rfl) rfl rfl (d_call Tryz.call57 rfl (rsBegins_spec W0 _ a ha u (by omega))) rfl ?_; clear hS
            rintro _ B_ ⟨rfl, hB_⟩
            obtain rfl := hB_.symm
            refine ⟨(sc_own (sc_own (sc_cons (cells_osl (E := 3) (sz := 1) (a := some ⟨g1, 0, none⟩) (n := s.length) (c := ks)) sc_end))), fun hS => ?_⟩
            refine d_one 11 (by kernel_rfl) rfl rfl (d_call Tryz.call57 rfl (rsBegins_spec W0 _ b hb u (by omega))) rfl ?_; clear hS
            rintro _ B_ ⟨rfl, hB_⟩
            obtain rfl := hB_.symm
            refine ⟨(sc_own (sc_own (sc_cons (cells_osl (E := 3) (sz := 1) (a := some ⟨g1, 0, none⟩) (n := s.length) (c := ks)) sc_end))), fun hS => ?_⟩
            refine d_take 12 rfl rfl (by kernel_rfl) (by kernel_rfl) (by kernel_rfl) rfl hS (v_neq_str rfl rfl) ?_
            refine d_done (by kernel_rfl) ?_; clear hS
            refine n_then ?_
            refine x_if rfl ?_ ?_
            · intro c29
              refine x_seq (x_region (s_val rfl (v_assign rfl) (x_nil (n_then (x_ret (r_block (r_then (r_then (r_block (r_then (x_done (.inl rfl) (.cons (r_tmp rfl) .nil) ?_)))))))))))
              have hb0 : agB a b u = false := by rw [hag, eqB]; simpa using c29
              rw [hbad hb0]
              exact ⟨_, ⟨rfl, rfl⟩, inferInstance⟩
            · intro c29
              refine x_skip (n_block (n_then (x_region (s_val rfl (v_move rfl) ?_))))
              refine s_val rfl (v_add rfl rfl (by first | exact w64 (by omega) | rfl)) ?_
              refine s_val rfl (v_assign rfl) (x_nil (n_then ?_))
              refine inv_intro (i + 1) ?_ ?_ ?_ ?_
              · refine ⟨by omega, hgood ?_⟩
                rw [hag, eqB]; simpa using c29
              · omega
              · repeat (first | exact sub_nil | refine sub_cons rfl ?_)
              · exact inferInstance
          · intro c27
            refine x_exit (e_then (e_then (e_block (n_then (x_seq (x_region (s_val rfl (v_assign rfl) (x_nil (n_then (x_ret (x_done (.inl rfl) (.cons (r_tmp rfl) .nil) ?_)))))))))))
            rw [all_full fun j hj => hI j hj (by omega)]
            exact ⟨_, ⟨rfl, rfl⟩, inferInstance⟩
end Go.Proofs.YtncegikenkpcmaaGreat
namespace Go.Proofs.YtncegikenkpcmaaGreat
open Go.RowKit
set_option linter.unusedSimpArgs false
set_option linter.unusedVariables false
set_option maxRecDepth 20000
def imX (c : Cfg) (a b : Scr) (l : Int) (n : Nat) : List Img := (List.range n).map fun i => wrdI (pikS c a b l i) i
theorem imX_succ (c : Cfg) (a b : Scr) (l : Int) (n : Nat) : imX c a b l (n + 1) = imX c a b l n ++ [wrdI (pikS c a b l n) n] := by simp [imX, List.range_succ]
theorem imX_len (c : Cfg) (a b : Scr) (l : Int) (n : Nat) : (imX c a b l n).length = n := by simp [imX]
theorem imX_M (c : Cfg) (a b : Scr) (l : Int) (n : Nat) : (imX c a b l n).map (fun x => x.l) = imM c a b l n := by simp [imX, imM]
theorem imX_mem {c : Cfg} {a b : Scr} {l : Int} {n : Nat} {x : Img} (h : x ∈ imX c a b l n) : ∃ i s, (s = a ∨ s = b) ∧ x = wrdI s i := by
  unfold imX at h
  obtain ⟨i, _, rfl⟩ := List.mem_map.1 h
  refine ⟨i, pikS c a b l i, ?_, rfl⟩
  unfold pikS; split
  · exact .inl rfl
  · exact .inr rfl
@[reducible] def mx2C (aa as_ an : Option Addr) (k1 k2 k3 : Nat) (im : List Img) (se : List Sec) (nl : List Inp) : List HP :=
  [osl 45 1 (.slice aa im.length k1) (im.flatMap imgV), osl 117 2 (.slice as_ se.length k2) (se.flatMap seV), osl 109 5 (.slice an nl.length k3) (nl.flatMap inpV)]
theorem mx2_ok {W0 W : World} {A : List HP} {c : Cfg} {a b : Scr} {l : Int} (ha : ScrOk W0 a) (hb : ScrOk W0 b) (za : ImgZ a) (zb : ImgZ b) {aa as_ an : Option Addr} {k1 k2 k3 n : Nat} {nl : List Inp}
    (hn : nl = (nlM c a b l).take 256) (hO : Own W0 W (mx2C aa as_ an k1 k2 k3 (imX c a b l n) (seM c a b l) nl ++ A)) :
    ScrOk W ⟨aa, k1, imX c a b l n, as_, k2, seM c a b l, an, k3, nl⟩ ∧ ImgZ ⟨aa, k1, imX c a b l n, as_, k2, seM c a b l, an, k3, nl⟩ := by
  simp only [mx2C, List.cons_append, List.nil_append] at hO
  have hw : ∀ x ∈ imX c a b l n, (∀ A, SlA (OwnP W A) x.a 1 (fun x => [wV x]) x.l) ∧ x.l.length ≤ x.c ∧ (∀ w ∈ x.l, w < 4294967296) ∧ x.l.length < 9223372036854775808 := fun x hx => by
    obtain ⟨i, s, hs, rfl⟩ := imX_mem hx
    rcases hs with rfl | rfl
    · obtain ⟨q1, q2, q3, q4⟩ := wrdI_ok ha i
      exact ⟨sla_now hO (q1 _), q2, q3, q4⟩
    · obtain ⟨q1, q2, q3, q4⟩ := wrdI_ok hb i
      exact ⟨sla_now hO (q1 _), q2, q3, q4⟩
  refine ⟨⟨?_, fun x hx => (hw x hx).1, fun x hx => ⟨(hw x hx).2.1, (hw x hx).2.2.2⟩, fun x hx => (hw x hx).2.2.1, ?_, fun x hx => ?_, ?_, fun x hx => ?_⟩, fun x hx => ?_⟩
  · exact sla_now hO (sla_own (E := 45) (a := aa) (n := (imX c a b l n).length) (c := k1) (xs := imX c a b l n) (f := imgV) (fun _ => rfl) (by decide) rfl hO)
  · exact sla_now hO (sla_own (E := 117) (a := as_) (n := (seM c a b l).length) (c := k2) (xs := seM c a b l) (f := seV) seV_len (by decide) rfl hO)
  · have hx : x ∈ seM c a b l := hx
    unfold seM at hx
    rcases List.mem_append.1 hx with q | q
    · exact ha.sb x (List.mem_filter.1 q).1
    · exact hb.sb x (List.mem_filter.1 q).1
  · exact sla_now hO (sla_own (E := 109) (a := an) (n := nl.length) (c := k3) (xs := nl) (f := inpV) inpV_len (by decide) rfl hO)
  · have hx : x ∈ nl := hx
    rw [hn] at hx
    have hx := List.mem_of_mem_take hx
    unfold nlM at hx
    rcases List.mem_append.1 hx with q | q
    · exact ha.nb x (List.mem_filter.1 q).1
    · exact hb.nb x (List.mem_filter.1 q).1
  · obtain ⟨i, s, hs, rfl⟩ := imX_mem hx
    rcases hs with rfl | rfl
    · exact wrdI_z za i
    · exact wrdI_z zb i
theorem tk_fin {N rA P Q : List Inp} (h : rA = [] ∨ N.length = 256) (h2 : N.length + P.length ≤ 256) (hP : P = [] ∨ rA = []) (hQ : Q = [] ∨ N.length + P.length = 256) : N ++ P = ((N ++ rA) ++ (P ++ Q)).take 256 := by
  rcases h with rfl | h
  · rw [List.append_nil, ← List.append_assoc]
    rcases hQ with rfl | hQ
    · rw [List.append_nil, List.take_of_length_le (by rw [List.length_append]; exact h2)]
    · rw [List.take_append_of_le_length (by rw [List.length_append]; omega), List.take_of_length_le (by rw [List.length_append]; omega)]
  · have hP0 : P = [] := by
      rcases P with _ | ⟨x, P⟩
      · rfl
      · rw [List.length_cons] at h2; omega
    subst hP0
    rw [List.append_nil, List.append_assoc, List.take_append_of_le_length (by omega), List.take_of_length_le (by omega)]
theorem fl_split {α : Type} (p : α → Bool) (l : List α) (i : Nat) : l.filter p = (l.take i).filter p ++ (l.drop i).filter p := by
  rw [← List.filter_append, List.take_append_drop]
theorem inpB_eq {c : Cfg} {l : Int} {want : Bool} {x : Inp} : inpB c l want x = (isG c x.g && (flB (labG c x.g) l == want)) := rfl
theorem rsMix_spec (W0 : World) (R : List HP) (c : Cfg) (h : CfOk W0 c) (hgl : c.gl.length ≤ 1000) (a b : Scr) (ha : ScrOk W0 a) (hb : ScrOk W0 b) (za : ImgZ a) (zb : ImgZ b) (la : a.sl.length ≤ 1000 ∧ a.nl.length ≤ 1000) (lb : b.sl.length ≤ 1000 ∧ b.nl.length ≤ 1000) (l : Int) :
    Spec Tryz.prog W0 19 [.agg (cfgV c).toArray, .agg (scrV a).toArray, .agg (scrV b).toArray, .int .i64 l] R
      (fun v B => ∃ (m : Scr) (C : List HP), v = .agg (scrV m).toArray ∧ MxIs c a b l m ∧ B = kH 7 (grp C) :: R ∧ (∀ W A, Own W0 W (kH 7 (grp C) :: A) → ScrOk W m ∧ ImgZ m)) := by
  obtain ⟨w, hw⟩ : ∃ w, rt c = w := ⟨_, rfl⟩
  obtain ⟨pA, hpA⟩ : ∃ p : Sec → Bool, (fun x : Sec => (rngd c x.at_ l).2) = p := ⟨_, rfl⟩
  obtain ⟨pB, hpB⟩ : ∃ p : Sec → Bool, (fun x : Sec => (rngd c x.at_ l).1 && !(rngd c x.at_ l).2) = p := ⟨_, rfl⟩
  have hse : seM c a b l = a.sl.filter pA ++ b.sl.filter pB := by rw [seM, hpA, hpB]
  obtain ⟨qA, hqA⟩ : ∃ q : Inp → Bool, inpB c l true = q := ⟨_, rfl⟩
  obtain ⟨qB, hqB⟩ : ∃ q : Inp → Bool, inpB c l false = q := ⟨_, rfl⟩
  have hnM : nlM c a b l = a.nl.filter qA ++ b.nl.filter qB := by rw [nlM, hqA, hqB]
  obtain ⟨se, hseq⟩ : ∃ s, seM c a b l = s := ⟨_, rfl⟩
  refine spec_body Tryz.func19 Tryz.ntmps19 rfl rfl ?_
  refine x_seq (x_region (s_do rfl (d_boxA rfl) ?_))
  rintro _ _ ⟨b4, rfl, rfl⟩
  refine s_do rfl (d_boxA rfl) ?_
  rintro _ _ ⟨b5, rfl, rfl⟩
  refine s_do rfl (d_boxA rfl) ?_
  rintro _ _ ⟨b6, rfl, rfl⟩
  refine s_do rfl (d_allocA Tryz.zeroValue33) ?_
  rintro _ _ ⟨b8, rfl, rfl⟩
  refine x_nil (n_then (x_seq (x_region (s_do rfl (d_allocA Tryz.zeroValue33) ?_))))
  rintro _ _ ⟨b9, rfl, rfl⟩
  refine x_nil (n_then (x_seq (x_seq (x_region (s_val rfl (v_loadAll Tryz.isAgg28 Tryz.sizeOf28 rfl rfl) ?_)))))
  refine s_do rfl (d_call Tryz.call40 rfl (rcRight_spec W0 _ c h)) ?_
  rintro _ B_ ⟨rfl, hB_⟩
  obtain rfl := hB_.symm
  rw [hw]
  refine s_val rfl (v_not rfl) (x_nil (n_then ?_))
  refine x_if rfl ?_ ?_
  · intro c2
    refine x_seq (x_region (s_val rfl (v_loadAll Tryz.isAgg33 Tryz.sizeOf33 rfl rfl) ?_))
    refine s_do0 (d_storeAll Tryz.sizeOf33 rfl rfl rfl rfl rfl) ?_
    rintro _ _ rfl
    refine x_nil (n_then (x_ret (r_then (x_done (.inl rfl) (.cons (r_all Tryz.isAgg33 Tryz.sizeOf33 rfl rfl) .nil) ?_))))
    have hw0 : rt c = false := by rw [hw]; simpa using c2
    refine ⟨_, ⟨⟨none, 0, [], none, 0, [], none, 0, []⟩, [], rfl, ⟨by rw [hw0]; rfl, by rw [hw0]; rfl, by rw [hw0]; rfl⟩, rfl, fun W A _ => zero_ok W⟩, ?_⟩
    exact Ent.trans (inferInstance : Ent _ R) (ent_shut (A := []))
  · intro c2
    refine x_skip (n_then (x_seq (x_seq ?_)))
    have hrt : rt c = true := by rw [hw]; simpa using c2
    refine x_region (s_val rfl (v_assign rfl) (x_nil (n_then (x_block ?_))))
    refine x_loop (fun X : Nat × Option Addr × Nat => X.1 ≤ c.gl.length) (fun X => [(3, .int .i64 l), (4, .pointer (some ⟨b4, 0, none⟩)), (5, .pointer (some ⟨b5, 0, none⟩)), (6, .pointer (some ⟨b6, 0, none⟩)), (8, .pointer (some ⟨b8, 0, none⟩)), (9, .pointer (some ⟨b9, 0, none⟩)), (10, .int .i64 X.1)]) (fun X => pt b9 (cob [.slice X.2.1 X.1 X.2.2, .slice none 0 0, .slice none 0 0] 33) :: osl 45 1 (.slice X.2.1 X.1 X.2.2) ((imX c a b l X.1).flatMap imgV) :: pt b4 (cfO c) :: pt b5 (cob (scrV a) 33) :: pt b6 (cob (scrV b) 33) :: pt b8 (cob [.slice none 0 0, .slice none 0 0, .slice none 0 0] 33) :: R) (fun X => c.gl.length - X.1) (0, none, 0) ?_ ?_ ?_ ?_
    · exact Nat.zero_le _
    · repeat (first | exact sub_nil | refine sub_cons rfl ?_)
    · show Ent _ (pt b9 (cob [.slice none 0 0, .slice none 0 0, .slice none 0 0] 33) :: osl 45 1 (.slice none 0 0) [] :: pt b4 (cfO c) :: pt b5 (cob (scrV a) 33) :: pt b6 (cob (scrV b) 33) :: pt b8 (cob [.slice none 0 0, .slice none 0 0, .slice none 0 0] 33) :: R)
      exact Ent.trans (B := pt b9 (cob [.slice none 0 0, .slice none 0 0, .slice none 0 0] 33) :: pt b4 (cfO c) :: pt b5 (cob (scrV a) 33) :: pt b6 (cob (scrV b) 33) :: pt b8 (cob [.slice none 0 0, .slice none 0 0, .slice none 0 0] 33) :: R) inferInstance (Ent.cons ent_osl_nil)
    · intro ⟨i, a0, c0⟩ hi
      dsimp only at hi ⊢
      refine x_seq (x_seq (x_region (s_val rfl (v_move rfl) ?_)))
      refine s_val rfl (v_fieldAddr rfl Tryz.underlying28 rfl Tryz.sizeOf22 rfl (by first | exact Nat.zero_add _ | rfl)) ?_
      refine s_val rfl (v_load Tryz.isAgg22 rfl (cell_own rfl)) ?_
      refine s_val rfl (v_len_slice Tryz.underlying22 rfl) (s_val rfl (v_lss rfl rfl) (x_nil (n_then ?_)))
      refine x_if rfl ?_ ?_
      · intro c5
        refine x_skip (n_then (x_seq (x_block (x_seq ?_))))
        have hi1 : i < c.gl.length := by omega
        obtain ⟨g, o, hga, hc⟩ := (h.g []).at_ hi1
        have hgd : c.gl.getD i (0, 0, 0) = c.gl[i] := by simp [List.getD, hi1]
        obtain ⟨x, hx⟩ : ∃ x, c.gl[i] = x := ⟨_, rfl⟩
        rw [hx] at hc hgd
        have hpk : pikS c a b l i = if flB x.1 l = true then a else b := by rw [pikS, hgd]
        have hst := imX_succ c a b l i
        have hil := imX_len c a b l i
        refine x_region (s_val rfl (v_loadAll Tryz.isAgg33 Tryz.sizeOf33 rfl rfl) ?_)
        refine s_do rfl (d_allocA Tryz.zeroValue33) ?_
        rintro _ _ ⟨b11, rfl, rfl⟩
        refine s_do0 (d_storeAll Tryz.sizeOf33 rfl rfl rfl rfl rfl) ?_
        rintro _ _ rfl
        refine x_nil (n_then ?_)
        refine x_cut (fun s : Scr => s = pikS c a b l i) (fun s => [(3, .int .i64 l), (4, .pointer (some ⟨b4, 0, none⟩)), (5, .pointer (some ⟨b5, 0, none⟩)), (6, .pointer (some ⟨b6, 0, none⟩)), (8, .pointer (some ⟨b8, 0, none⟩)), (9, .pointer (some ⟨b9, 0, none⟩)), (10, .int .i64 i), (11, .pointer (some ⟨b11, 0, none⟩))]) (fun s => pt b11 (cob (scrV s) 33) :: pt b9 (cob [.slice a0 i c0, .slice none 0 0, .slice none 0 0] 33) :: osl 45 1 (.slice a0 i c0) ((imX c a b l i).flatMap imgV) :: pt b4 (cfO c) :: pt b5 (cob (scrV a) 33) :: pt b6 (cob (scrV b) 33) :: pt b8 (cob [.slice none 0 0, .slice none 0 0, .slice none 0 0] 33) :: R) ?_ ?_
        · skip
          refine x_seq (x_region ?_)
          refine s_val rfl (v_fieldAddr rfl Tryz.underlying28 rfl Tryz.sizeOf22 rfl (by first | exact Nat.zero_add _ | rfl)) ?_
          refine s_val rfl (v_load Tryz.isAgg22 rfl (cell_own rfl)) ?_
          refine s_val rfl (v_move rfl) ?_
          refine s_val rfl (v_idxA Tryz.underlying22 Tryz.sizeOf95 rfl hga rfl rfl hi1 (by first | exact Nat.zero_add _ | rfl)) ?_
          refine s_val rfl (v_fieldAddr rfl Tryz.underlying95 rfl Tryz.sizeOf3 rfl (by first | exact Nat.zero_add _ | rfl)) ?_
          refine s_val rfl (v_load Tryz.isAgg3 rfl (Cells.weak hc 0 _ rfl)) ?_
          refine s_val rfl (v_move rfl) (s_do rfl (d_call Tryz.call41 rfl (rlFlows_spec W0 _ x.1 l)) ?_)
          rintro _ B_ ⟨rfl, hB_⟩
          obtain rfl := hB_.symm
          refine x_nil (n_then ?_)
          refine x_if rfl ?_ ?_
          · intro c8
            refine x_region (s_val rfl (v_loadAll Tryz.isAgg33 Tryz.sizeOf33 rfl rfl) ?_)
            refine s_do0 (d_storeAll Tryz.sizeOf33 rfl rfl rfl rfl rfl) ?_
            rintro _ _ rfl
            refine x_nil (n_then ?_)
            refine mid_intro a ?_ ?_ ?_
            · rw [hpk, if_pos c8]
            · repeat (first | exact sub_nil | refine sub_cons rfl ?_)
            · exact inferInstance
          · intro c8
            refine x_skip (n_then ?_)
            refine mid_intro b ?_ ?_ ?_
            · rw [hpk, if_neg c8]
            · repeat (first | exact sub_nil | refine sub_cons rfl ?_)
            · exact inferInstance
        · intro s hs
          have hsok : ScrOk W0 s := by
            rw [hs, pikS]; split
            · exact ha
            · exact hb
          rw [← hs] at hst
          obtain ⟨y, hy⟩ : ∃ y, wrdI s i = y := ⟨_, rfl⟩
          rw [hy] at hst
          refine x_seq (x_region (s_val rfl (v_assign rfl) (x_nil (n_then ?_))))
          refine x_cut (fun _ : Unit => True) (fun _ => [(3, .int .i64 l), (4, .pointer (some ⟨b4, 0, none⟩)), (5, .pointer (some ⟨b5, 0, none⟩)), (6, .pointer (some ⟨b6, 0, none⟩)), (8, .pointer (some ⟨b8, 0, none⟩)), (9, .pointer (some ⟨b9, 0, none⟩)), (10, .int .i64 i), (12, .slice y.a y.l.length y.c)]) (fun _ => pt b9 (cob [.slice a0 i c0, .slice none 0 0, .slice none 0 0] 33) :: osl 45 1 (.slice a0 i c0) ((imX c a b l i).flatMap imgV) :: pt b4 (cfO c) :: pt b5 (cob (scrV a) 33) :: pt b6 (cob (scrV b) 33) :: pt b8 (cob [.slice none 0 0, .slice none 0 0, .slice none 0 0] 33) :: R) ?_ ?_
          · skip
            refine x_seq (x_region (s_val rfl (v_move rfl) ?_))
            refine s_val rfl (v_fieldAddr rfl Tryz.underlying33 rfl Tryz.sizeOf29 rfl (by first | exact Nat.zero_add _ | rfl)) ?_
            refine s_val rfl (v_load Tryz.isAgg29 rfl (cell_own rfl)) ?_
            refine s_val rfl (v_len_slice Tryz.underlying29 rfl) (s_val rfl (v_lss rfl rfl) (x_nil (n_then ?_)))
            refine x_if rfl ?_ ?_
            · intro c11
              have hi2 : i < s.il.length := by omega
              obtain ⟨g2, o2, hia, hc2⟩ := (hsok.i []).at_ hi2
              have he : y = s.il[i] := by rw [← hy]; simp [wrdI, List.getD, hi2]
              rw [← he] at hc2
              refine x_region ?_
              refine s_val rfl (v_fieldAddr rfl Tryz.underlying33 rfl Tryz.sizeOf29 rfl (by first | exact Nat.zero_add _ | rfl)) ?_
              refine s_val rfl (v_load Tryz.isAgg29 rfl (cell_own rfl)) ?_
              refine s_val rfl (v_move rfl) ?_
              refine s_val rfl (v_idxA Tryz.underlying29 Tryz.sizeOf45 rfl hia rfl rfl hi2 (by first | exact Nat.zero_add _ | rfl)) ?_
              refine s_val rfl (v_load Tryz.isAgg45 rfl (Cells.weak hc2 0 _ rfl)) ?_
              refine s_val rfl (v_assign rfl) (x_nil (n_then ?_))
              refine mid_intro () ?_ ?_ ?_
              · trivial
              · repeat (first | exact sub_nil | refine sub_cons rfl ?_)
              · exact inferInstance
            · intro c11
              refine x_skip (n_then ?_)
              refine mid_intro () ?_ ?_ ?_
              · trivial
              · have he : y = imgZ := by rw [← hy, wrdI, List.getD, List.getElem?_eq_none (by omega)]; rfl
                rw [he]
                repeat (first | exact sub_nil | refine sub_cons rfl ?_)
              · exact inferInstance
          · intro _ _
            refine x_region ?_
            refine s_val rfl (v_fieldAddr rfl Tryz.underlying33 rfl Tryz.sizeOf29 rfl (by first | exact Nat.zero_add _ | rfl)) ?_
            refine s_val rfl (v_load Tryz.isAgg29 rfl (cell_own rfl)) ?_
            refine s_val rfl (v_move rfl) ?_
            refine s_do rfl (d_sliceLit Tryz.underlying29 Tryz.sizeOf45 Tryz.zeroValue45 rfl rfl rfl rfl rfl (by decide) (by decide)) ?_
            rintro _ _ ⟨bq, rfl, rfl⟩
            refine s_do rfl (d_append (sz := 1) (by_ := 24) (info := Tryz.t45) Tryz.underlying29 (by kernel_rfl) rfl rfl rfl rfl (by decide) rfl rfl cells_all rfl rfl (by simp only [maxLen]; omega) (by omega)) ?_
            rintro _ _ ⟨a3, c3, rfl, rfl⟩
            refine s_val rfl (v_fieldAddr rfl Tryz.underlying33 rfl Tryz.sizeOf29 rfl (by first | exact Nat.zero_add _ | rfl)) ?_
            refine s_do0 (d_store Tryz.sizeOf29 rfl rfl rfl (Nat.le_of_ble_eq_true rfl) SetL.eq) ?_
            rintro _ _ rfl
            refine x_nil (n_block (n_then (x_region (s_val rfl (v_move rfl) ?_))))
            refine s_val rfl (v_add rfl rfl (by first | exact w64 (by omega) | rfl)) ?_
            refine s_val rfl (v_assign rfl) (x_nil (n_then ?_))
            refine inv_intro (i + 1, a3, c3) ?_ ?_ ?_ ?_
            · omega
            · omega
            · repeat (first | exact sub_nil | refine sub_cons rfl ?_)
            · dsimp only
              rw [hst, List.flatMap_append, List.flatMap_singleton]
              exact inferInstance
      · intro c5
        refine x_exit (e_then (e_then (e_block (n_then (x_seq (x_seq ?_))))))
        obtain rfl : i = c.gl.length := by omega
        obtain ⟨kn, hkn⟩ : ∃ n, c.gl.length = n := ⟨_, rfl⟩
        have hil := imX_len c a b l c.gl.length
        refine x_region (s_val rfl (v_assign rfl) (x_nil (n_then (x_block ?_))))
        refine x_loop (fun X : Nat × Option Addr × Nat => X.1 ≤ a.sl.length) (fun X => [(3, .int .i64 l), (4, .pointer (some ⟨b4, 0, none⟩)), (5, .pointer (some ⟨b5, 0, none⟩)), (6, .pointer (some ⟨b6, 0, none⟩)), (8, .pointer (some ⟨b8, 0, none⟩)), (9, .pointer (some ⟨b9, 0, none⟩)), (13, .int .i64 X.1)]) (fun X => pt b9 (cob [.slice a0 c.gl.length c0, .slice X.2.1 ((a.sl.take X.1).filter pA).length X.2.2, .slice none 0 0] 33) :: osl 117 2 (.slice X.2.1 ((a.sl.take X.1).filter pA).length X.2.2) (((a.sl.take X.1).filter pA).flatMap seV) :: osl 45 1 (.slice a0 c.gl.length c0) ((imX c a b l c.gl.length).flatMap imgV) :: pt b4 (cfO c) :: pt b5 (cob (scrV a) 33) :: pt b6 (cob (scrV b) 33) :: pt b8 (cob [.slice none 0 0, .slice none 0 0, .slice none 0 0] 33) :: R) (fun X => a.sl.length - X.1) (0, none, 0) ?_ ?_ ?_ ?_
        · exact Nat.zero_le _
        · repeat (first | exact sub_nil | refine sub_cons rfl ?_)
        · show Ent _ (pt b9 (cob [.slice a0 c.gl.length c0, .slice none 0 0, .slice none 0 0] 33) :: osl 117 2 (.slice none 0 0) [] :: osl 45 1 (.slice a0 c.gl.length c0) ((imX c a b l c.gl.length).flatMap imgV) :: pt b4 (cfO c) :: pt b5 (cob (scrV a) 33) :: pt b6 (cob (scrV b) 33) :: pt b8 (cob [.slice none 0 0, .slice none 0 0, .slice none 0 0] 33) :: R)
          exact Ent.trans (B := pt b9 (cob [.slice a0 c.gl.length c0, .slice none 0 0, .slice none 0 0] 33) :: osl 45 1 (.slice a0 c.gl.length c0) ((imX c a b l c.gl.length).flatMap imgV) :: pt b4 (cfO c) :: pt b5 (cob (scrV a) 33) :: pt b6 (cob (scrV b) 33) :: pt b8 (cob [.slice none 0 0, .slice none 0 0, .slice none 0 0] 33) :: R) inferInstance (Ent.cons ent_osl_nil)
        · intro ⟨i, a1, c1⟩ hi
          dsimp only at hi ⊢
          refine x_seq (x_seq (x_region (s_val rfl (v_move rfl) ?_)))
          refine s_val rfl (v_fieldAddr rfl Tryz.underlying33 rfl Tryz.sizeOf30 rfl (by first | exact Nat.zero_add _ | rfl)) ?_
          refine s_val rfl (v_load Tryz.isAgg30 rfl (cell_own rfl)) ?_
          refine s_val rfl (v_len_slice Tryz.underlying30 rfl) (s_val rfl (v_lss rfl rfl) (x_nil (n_then ?_)))
          refine x_if rfl ?_ ?_
          · intro c15
            refine x_skip (n_then ?_)
            refine x_cut (fun X : Option Addr × Nat => True) (fun X => [(3, .int .i64 l), (4, .pointer (some ⟨b4, 0, none⟩)), (5, .pointer (some ⟨b5, 0, none⟩)), (6, .pointer (some ⟨b6, 0, none⟩)), (8, .pointer (some ⟨b8, 0, none⟩)), (9, .pointer (some ⟨b9, 0, none⟩)), (13, .int .i64 i)]) (fun X => pt b9 (cob [.slice a0 c.gl.length c0, .slice X.1 ((a.sl.take (i + 1)).filter pA).length X.2, .slice none 0 0] 33) :: osl 117 2 (.slice X.1 ((a.sl.take (i + 1)).filter pA).length X.2) (((a.sl.take (i + 1)).filter pA).flatMap seV) :: osl 45 1 (.slice a0 c.gl.length c0) ((imX c a b l c.gl.length).flatMap imgV) :: pt b4 (cfO c) :: pt b5 (cob (scrV a) 33) :: pt b6 (cob (scrV b) 33) :: pt b8 (cob [.slice none 0 0, .slice none 0 0, .slice none 0 0] 33) :: R) ?_ ?_
            · skip
              refine x_block (x_seq ?_)
              have hi1 : i < a.sl.length := by omega
              obtain ⟨g, o, hga, hc⟩ := (ha.sx []).at_ hi1
              obtain ⟨x, hx⟩ : ∃ x, a.sl[i] = x := ⟨_, rfl⟩
              have hsb := (ha.sb x (by rw [← hx]; exact List.getElem_mem hi1)).1.2
              rw [hx] at hc
              obtain ⟨⟨r1, r2⟩, hr⟩ : ∃ r, rngd c x.at_ l = r := ⟨_, rfl⟩
              have hpx : pA x = r2 := by rw [← hpA]; dsimp only; rw [hr]
              have hyes := fun (z : pA x = true) => fl_yes hi1 hx z
              have hno := fun (z : ¬ pA x = true) => fl_no hi1 hx z
              have hln := fl_len (p := pA) (l := a.sl) (i := i)
              have hla := la.1
              refine x_draw [(b4, 0, _), (b5, 0, _), (g, o + i * 2, seV x)] 14 mixed rfl (sc_own (sc_own (sc_cons hc.weak sc_end))) (fun hS => ?_)
              refine d_take 0 rfl rfl (by kernel_rfl) (by kernel_rfl) (by kernel_rfl) rfl hS (v_loadAgg Tryz.isAgg28 Tryz.sizeOf28 rfl (by first | exact cells_sc (k := 0) rfl | exact cells_sc (k := 1) rfl | exact cells_sc (k := 2) rfl) rfl) ?_
              refine d_take 1 rfl rfl (by kernel_rfl) (by kernel_rfl) (by kernel_rfl) rfl hS (v_fieldAddr rfl Tryz.underlying33 rfl Tryz.sizeOf30 rfl (by first | exact Nat.zero_add _ | rfl)) ?_
              refine d_take 2 rfl rfl (by kernel_rfl) (by kernel_rfl) (by kernel_rfl) rfl hS (v_load Tryz.isAgg30 rfl (by first | exact cell_sc0 (k := 0) rfl rfl | exact cell_sc0 (k := 1) rfl rfl | exact cell_sc0 (k := 2) rfl rfl)) ?_
              refine d_take 3 rfl rfl (by kernel_rfl) (by kernel_rfl) (by kernel_rfl) rfl hS (v_move rfl) ?_
              refine d_take 4 rfl rfl (by kernel_rfl) (by kernel_rfl) (by kernel_rfl) rfl hS (v_idxA Tryz.underlying30 Tryz.sizeOf117 rfl hga rfl rfl hi1 (by first | exact Nat.zero_add _ | rfl)) ?_
              refine d_take 5 rfl rfl (by kernel_rfl) (by kernel_rfl) (by kernel_rfl) rfl hS (v_fieldAddr rfl Tryz.underlying117 rfl Tryz.sizeOf3 rfl (by first | exact Nat.zero_add _ | rfl)) ?_
              refine d_take 6 rfl rfl (by kernel_rfl) (by kernel_rfl) (by kernel_rfl) rfl hS (v_load Tryz.isAgg3 rfl (cell_sc (k := 2) (j := 0) rfl rfl)) ?_
              refine d_take 7 rfl rfl (by kernel_rfl) (by kernel_rfl) (by kernel_rfl) rfl hS (v_move rfl) ?_
              refine d_one 8 (by kernel_rfl) rfl rfl (d_call Tryz.call45 rfl (rsSees_spec W0 _ c h x.at_ l hsb)) rfl ?_; clear hS
              rintro _ B_ ⟨rfl, hB_⟩
              obtain rfl := hB_.symm
              rw [hr]
              refine ⟨(sc_own (sc_own (sc_cons hc.weak sc_end))), fun hS => ?_⟩
              refine d_take 9 rfl rfl (by kernel_rfl) (by kernel_rfl) (by kernel_rfl) rfl hS (v_move rfl) ?_
              refine d_take 10 rfl rfl (by kernel_rfl) (by kernel_rfl) (by kernel_rfl) rfl hS (v_extract rfl rfl) ?_
              refine d_take 11 rfl rfl (by kernel_rfl) (by kernel_rfl) (by kernel_rfl) rfl hS (v_extract rfl rfl) ?_
              refine d_take 12 rfl rfl (by kernel_rfl) (by kernel_rfl) (by kernel_rfl) rfl hS (v_assign rfl) ?_
              refine d_take 13 rfl rfl (by kernel_rfl) (by kernel_rfl) (by kernel_rfl) rfl hS (v_assign rfl) ?_
              refine d_done (by kernel_rfl) ?_; clear hS
              refine n_then (x_seq (x_region (s_val rfl (v_move rfl) (x_nil (n_then ?_)))))
              refine x_if rfl ?_ ?_
              · intro c18
                have hst := hyes (by rw [hpx]; simp_all)
                refine x_draw [(b5, 0, _), (g, o + i * 2, seV x)] 11 mixed rfl (sc_own (sc_cons hc.weak sc_end)) (fun hS => ?_)
                refine d_take 0 rfl rfl (by kernel_rfl) (by kernel_rfl) (by kernel_rfl) rfl hS (v_fieldAddr rfl Tryz.underlying33 rfl Tryz.sizeOf30 rfl (by first | exact Nat.zero_add _ | rfl)) ?_
                refine d_take 2 rfl rfl (by kernel_rfl) (by kernel_rfl) (by kernel_rfl) rfl hS (v_fieldAddr rfl Tryz.underlying33 rfl Tryz.sizeOf30 rfl (by first | exact Nat.zero_add _ | rfl)) ?_
                refine d_take 3 rfl rfl (by kernel_rfl) (by kernel_rfl) (by kernel_rfl) rfl hS (v_load Tryz.isAgg30 rfl (by first | exact cell_sc0 (k := 0) rfl rfl | exact cell_sc0 (k := 1) rfl rfl)) ?_
                refine d_take 4 rfl rfl (by kernel_rfl) (by kernel_rfl) (by kernel_rfl) rfl hS (v_move rfl) ?_
                refine d_take 5 rfl rfl (by kernel_rfl) (by kernel_rfl) (by kernel_rfl) rfl hS (v_idxA Tryz.underlying30 Tryz.sizeOf117 rfl hga rfl rfl hi1 (by first | exact Nat.zero_add _ | rfl)) ?_
                refine d_take 6 rfl rfl (by kernel_rfl) (by kernel_rfl) (by kernel_rfl) rfl hS (v_loadAgg Tryz.isAgg117 Tryz.sizeOf117 rfl (cells_sc (k := 1) rfl) rfl) ?_
                refine d_all (is := [1, 7]) (by kernel_rfl) rfl ⟨?_, ?_, trivial⟩
                · skip
                  refine dx_one rfl rfl (d_val (v_load Tryz.isAgg30 rfl (cell_own rfl))) rfl ?_; clear hS
                  rintro _ _ ⟨rfl, rfl⟩
                  refine ⟨(sc_own (sc_cons hc.weak sc_end)), fun hS => ?_⟩
                  refine d_one 7 (by kernel_rfl) rfl rfl (d_sliceAgg Tryz.underlying30 Tryz.sizeOf117 Tryz.zeroValue117 rfl (elsK_cons rfl rfl elsK_nil) rfl (by decide) (by decide) (by decide)) rfl ?_; clear hS
                  rintro _ _ ⟨bb, rfl, rfl⟩
                  rw [show ([seV x] : List (List Value)).flatten = seV x from List.append_nil _]
                  refine ⟨(sc_own (sc_cons hc.weak sc_end)), fun hS => ?_⟩
                  refine d_one 8 (by kernel_rfl) rfl rfl (d_append (sz := 2) (by_ := 24) (info := Tryz.t117) Tryz.underlying30 (by kernel_rfl) rfl rfl rfl rfl (by decide) rfl rfl cells_all rfl (by first | exact seV_one x | rfl) (by simp only [maxLen]; omega) (by omega)) rfl ?_; clear hS
                  rintro _ _ ⟨a3, c3, rfl, rfl⟩
                  refine ⟨(sc_own (sc_cons hc.weak sc_end)), fun hS => ?_⟩
                  refine d_take 9 rfl rfl (by kernel_rfl) (by kernel_rfl) (by kernel_rfl) rfl hS (v_fieldAddr rfl Tryz.underlying33 rfl Tryz.sizeOf30 rfl (by first | exact Nat.zero_add _ | rfl)) ?_
                  refine d_one 10 (by kernel_rfl) rfl rfl (d_store Tryz.sizeOf30 rfl rfl rfl (Nat.le_of_ble_eq_true rfl) SetL.eq) rfl ?_; clear hS
                  rintro _ _ rfl
                  refine ⟨(sc_own (sc_cons hc.weak sc_end)), fun hS => ?_⟩
                  refine d_done (by kernel_rfl) ?_; clear hS
                  refine n_block (n_then ?_)
                  refine mid_intro (a3, c3) ?_ ?_ ?_
                  · trivial
                  · repeat (first | exact sub_nil | refine sub_cons rfl ?_)
                  · dsimp only
                    rw [hst]
                    simp only [← List.append_assoc, List.length_append, List.length_singleton, List.flatMap_append, List.flatMap_singleton]
                    exact inferInstance
                · skip
                  refine dx_one rfl rfl (d_sliceAgg Tryz.underlying30 Tryz.sizeOf117 Tryz.zeroValue117 rfl (elsK_cons rfl rfl elsK_nil) rfl (by decide) (by decide) (by decide)) rfl ?_; clear hS
                  rintro _ _ ⟨bb, rfl, rfl⟩
                  rw [show ([seV x] : List (List Value)).flatten = seV x from List.append_nil _]
                  refine ⟨(sc_own (sc_cons hc.weak sc_end)), fun hS => ?_⟩
                  refine d_one 1 (by kernel_rfl) rfl rfl (d_val (v_load Tryz.isAgg30 rfl (cell_own rfl))) rfl ?_; clear hS
                  rintro _ _ ⟨rfl, rfl⟩
                  refine ⟨(sc_own (sc_cons hc.weak sc_end)), fun hS => ?_⟩
                  refine d_one 8 (by kernel_rfl) rfl rfl (d_append (sz := 2) (by_ := 24) (info := Tryz.t117) Tryz.underlying30 (by kernel_rfl) rfl rfl rfl rfl (by decide) rfl rfl cells_all rfl (by first | exact seV_one x | rfl) (by simp only [maxLen]; omega) (by omega)) rfl ?_; clear hS
                  rintro _ _ ⟨a3, c3, rfl, rfl⟩
                  refine ⟨(sc_own (sc_cons hc.weak sc_end)), fun hS => ?_⟩
                  refine d_take 9 rfl rfl (by kernel_rfl) (by kernel_rfl) (by kernel_rfl) rfl hS (v_fieldAddr rfl Tryz.underlying33 rfl Tryz.sizeOf30 rfl (by first | exact Nat.zero_add _ | rfl)) ?_
                  refine d_one 10 (by kernel_rfl) rfl rfl (d_store Tryz.sizeOf30 rfl rfl rfl (Nat.le_of_ble_eq_true rfl) SetL.eq) rfl ?_; clear hS
                  rintro _ _ rfl
                  refine ⟨(sc_own (sc_cons hc.weak sc_end)), fun hS => ?_⟩
                  refine d_done (by kernel_rfl) ?_; clear hS
                  refine n_block (n_then ?_)
                  refine mid_intro (a3, c3) ?_ ?_ ?_
                  · trivial
                  · repeat (first | exact sub_nil | refine sub_cons rfl ?_)
                  · dsimp only
                    rw [hst]
                    simp only [← List.append_assoc, List.length_append, List.length_singleton, List.flatMap_append, List.flatMap_singleton]
                    exact inferInstance
              · intro c18
                refine x_skip (n_block (n_then ?_))
                refine mid_intro (a1, c1) ?_ ?_ ?_
                · trivial
                · repeat (first | exact sub_nil | refine sub_cons rfl ?_)
                · dsimp only
                  rw [hno (by rw [hpx]; simp_all)]
                  exact inferInstance
            · intro ⟨a2, c2⟩ _
              refine x_region (s_val rfl (v_move rfl) ?_)
              refine s_val rfl (v_add rfl rfl (by first | exact w64 (by omega) | rfl)) ?_
              refine s_val rfl (v_assign rfl) (x_nil (n_then ?_))
              refine inv_intro (i + 1, a2, c2) ?_ ?_ ?_ ?_
              · omega
              · omega
              · repeat (first | exact sub_nil | refine sub_cons rfl ?_)
              · exact inferInstance
          · intro c15
            refine x_exit (e_then (e_then (e_block (n_then (x_seq (x_seq ?_))))))
            obtain rfl : i = a.sl.length := by omega
            rw [List.take_length]
            have hlA := Nat.le_trans (List.length_filter_le pA a.sl) la.1
            refine x_region (s_val rfl (v_assign rfl) (x_nil (n_then (x_block ?_))))
            refine x_loop (fun X : Nat × Option Addr × Nat => X.1 ≤ b.sl.length) (fun X => [(3, .int .i64 l), (4, .pointer (some ⟨b4, 0, none⟩)), (5, .pointer (some ⟨b5, 0, none⟩)), (6, .pointer (some ⟨b6, 0, none⟩)), (8, .pointer (some ⟨b8, 0, none⟩)), (9, .pointer (some ⟨b9, 0, none⟩)), (16, .int .i64 X.1)]) (fun X => pt b9 (cob [.slice a0 c.gl.length c0, .slice X.2.1 (a.sl.filter pA ++ (b.sl.take X.1).filter pB).length X.2.2, .slice none 0 0] 33) :: osl 117 2 (.slice X.2.1 (a.sl.filter pA ++ (b.sl.take X.1).filter pB).length X.2.2) ((a.sl.filter pA ++ (b.sl.take X.1).filter pB).flatMap seV) :: osl 45 1 (.slice a0 c.gl.length c0) ((imX c a b l c.gl.length).flatMap imgV) :: pt b4 (cfO c) :: pt b5 (cob (scrV a) 33) :: pt b6 (cob (scrV b) 33) :: pt b8 (cob [.slice none 0 0, .slice none 0 0, .slice none 0 0] 33) :: R) (fun X => b.sl.length - X.1) (0, a1, c1) ?_ ?_ ?_ ?_
            · exact Nat.zero_le _
            · repeat (first | exact sub_nil | refine sub_cons rfl ?_)
            · dsimp only
              rw [List.take_zero, List.filter_nil, List.append_nil]
              exact inferInstance
            · intro ⟨i, a1, c1⟩ hi
              dsimp only at hi ⊢
              refine x_seq (x_seq (x_region (s_val rfl (v_move rfl) ?_)))
              refine s_val rfl (v_fieldAddr rfl Tryz.underlying33 rfl Tryz.sizeOf30 rfl (by first | exact Nat.zero_add _ | rfl)) ?_
              refine s_val rfl (v_load Tryz.isAgg30 rfl (cell_own rfl)) ?_
              refine s_val rfl (v_len_slice Tryz.underlying30 rfl) (s_val rfl (v_lss rfl rfl) (x_nil (n_then ?_)))
              refine x_if rfl ?_ ?_
              · intro c21
                refine x_skip (n_then ?_)
                refine x_cut (fun X : Option Addr × Nat => True) (fun X => [(3, .int .i64 l), (4, .pointer (some ⟨b4, 0, none⟩)), (5, .pointer (some ⟨b5, 0, none⟩)), (6, .pointer (some ⟨b6, 0, none⟩)), (8, .pointer (some ⟨b8, 0, none⟩)), (9, .pointer (some ⟨b9, 0, none⟩)), (16, .int .i64 i)]) (fun X => pt b9 (cob [.slice a0 c.gl.length c0, .slice X.1 (a.sl.filter pA ++ (b.sl.take (i + 1)).filter pB).length X.2, .slice none 0 0] 33) :: osl 117 2 (.slice X.1 (a.sl.filter pA ++ (b.sl.take (i + 1)).filter pB).length X.2) ((a.sl.filter pA ++ (b.sl.take (i + 1)).filter pB).flatMap seV) :: osl 45 1 (.slice a0 c.gl.length c0) ((imX c a b l c.gl.length).flatMap imgV) :: pt b4 (cfO c) :: pt b5 (cob (scrV a) 33) :: pt b6 (cob (scrV b) 33) :: pt b8 (cob [.slice none 0 0, .slice none 0 0, .slice none 0 0] 33) :: R) ?_ ?_
                · skip
                  refine x_block (x_seq ?_)
                  have hi1 : i < b.sl.length := by omega
                  obtain ⟨g, o, hga, hc⟩ := (hb.sx []).at_ hi1
                  obtain ⟨x, hx⟩ : ∃ x, b.sl[i] = x := ⟨_, rfl⟩
                  have hsb := (hb.sb x (by rw [← hx]; exact List.getElem_mem hi1)).1.2
                  rw [hx] at hc
                  obtain ⟨⟨r1, r2⟩, hr⟩ : ∃ r, rngd c x.at_ l = r := ⟨_, rfl⟩
                  have hpx : pB x = (r1 && !r2) := by rw [← hpB]; dsimp only; rw [hr]
                  have hyes := fun (z : pB x = true) => fl_yes hi1 hx z
                  have hno := fun (z : ¬ pB x = true) => fl_no hi1 hx z
                  have hln := fl_len (p := pB) (l := b.sl) (i := i)
                  have hap : (a.sl.filter pA ++ (b.sl.take i).filter pB).length ≤ 2000 := by rw [List.length_append]; omega
                  refine x_draw [(b4, 0, _), (b6, 0, _), (g, o + i * 2, seV x)] 14 mixed rfl (sc_own (sc_own (sc_cons hc.weak sc_end))) (fun hS => ?_)
                  refine d_take 0 rfl rfl (by kernel_rfl) (by kernel_rfl) (by kernel_rfl) rfl hS (v_loadAgg Tryz.isAgg28 Tryz.sizeOf28 rfl (by first | exact cells_sc (k := 0) rfl | exact cells_sc (k := 1) rfl | exact cells_sc (k := 2) rfl) rfl) ?_
                  refine d_take 1 rfl rfl (by kernel_rfl) (by kernel_rfl) (by kernel_rfl) rfl hS (v_fieldAddr rfl Tryz.underlying33 rfl Tryz.sizeOf30 rfl (by first | exact Nat.zero_add _ | rfl)) ?_
                  refine d_take 2 rfl rfl (by kernel_rfl) (by kernel_rfl) (by kernel_rfl) rfl hS (v_load Tryz.isAgg30 rfl (by first | exact cell_sc0 (k := 0) rfl rfl | exact cell_sc0 (k := 1) rfl rfl | exact cell_sc0 (k := 2) rfl rfl)) ?_
                  refine d_take 3 rfl rfl (by kernel_rfl) (by kernel_rfl) (by kernel_rfl) rfl hS (v_move rfl) ?_
                  refine d_take 4 rfl rfl (by kernel_rfl) (by kernel_rfl) (by kernel_rfl) rfl hS (v_idxA Tryz.underlying30 Tryz.sizeOf117 rfl hga rfl rfl hi1 (by first | exact Nat.zero_add _ | rfl)) ?_
                  refine d_take 5 rfl rfl (by kernel_rfl) (by kernel_rfl) (by kernel_rfl) rfl hS (v_fieldAddr rfl Tryz.underlying117 rfl Tryz.sizeOf3 rfl (by first | exact Nat.zero_add _ | rfl)) ?_
                  refine d_take 6 rfl rfl (by kernel_rfl) (by kernel_rfl) (by kernel_rfl) rfl hS (v_load Tryz.isAgg3 rfl (cell_sc (k := 2) (j := 0) rfl rfl)) ?_
                  refine d_take 7 rfl rfl (by kernel_rfl) (by kernel_rfl) (by kernel_rfl) rfl hS (v_move rfl) ?_
                  refine d_one 8 (by kernel_rfl) rfl rfl (d_call Tryz.call45 rfl (rsSees_spec W0 _ c h x.at_ l hsb)) rfl ?_; clear hS
                  rintro _ B_ ⟨rfl, hB_⟩
                  obtain rfl := hB_.symm
                  rw [hr]
                  refine ⟨(sc_own (sc_own (sc_cons hc.weak sc_end))), fun hS => ?_⟩
                  refine d_take 9 rfl rfl (by kernel_rfl) (by kernel_rfl) (by kernel_rfl) rfl hS (v_move rfl) ?_
                  refine d_take 10 rfl rfl (by kernel_rfl) (by kernel_rfl) (by kernel_rfl) rfl hS (v_extract rfl rfl) ?_
                  refine d_take 11 rfl rfl (by kernel_rfl) (by kernel_rfl) (by kernel_rfl) rfl hS (v_extract rfl rfl) ?_
                  refine d_take 12 rfl rfl (by kernel_rfl) (by kernel_rfl) (by kernel_rfl) rfl hS (v_assign rfl) ?_
                  refine d_take 13 rfl rfl (by kernel_rfl) (by kernel_rfl) (by kernel_rfl) rfl hS (v_assign rfl) ?_
                  refine d_done (by kernel_rfl) ?_; clear hS
                  refine n_then (x_seq (x_region (s_val rfl (v_move rfl) (s_val rfl (v_move rfl) ?_))))
                  refine s_and rfl rfl rfl ?_ ?_
                  · intro g24_2
                    refine s_val rfl (v_move rfl) (s_yes rfl rfl (s_val rfl (v_not rfl) (s_val rfl (v_pick_t rfl rfl) (x_nil (n_then ?_)))))
                    refine x_if rfl ?_ ?_
                    · intro c24
                      have hst := hyes (by rw [hpx]; simp_all)
                      refine x_draw [(b6, 0, _), (g, o + i * 2, seV x)] 11 mixed rfl (sc_own (sc_cons hc.weak sc_end)) (fun hS => ?_)
                      refine d_take 0 rfl rfl (by kernel_rfl) (by kernel_rfl) (by kernel_rfl) rfl hS (v_fieldAddr rfl Tryz.underlying33 rfl Tryz.sizeOf30 rfl (by first | exact Nat.zero_add _ | rfl)) ?_
                      refine d_take 2 rfl rfl (by kernel_rfl) (by kernel_rfl) (by kernel_rfl) rfl hS (v_fieldAddr rfl Tryz.underlying33 rfl Tryz.sizeOf30 rfl (by first | exact Nat.zero_add _ | rfl)) ?_
                      refine d_take 3 rfl rfl (by kernel_rfl) (by kernel_rfl) (by kernel_rfl) rfl hS (v_load Tryz.isAgg30 rfl (by first | exact cell_sc0 (k := 0) rfl rfl | exact cell_sc0 (k := 1) rfl rfl)) ?_
                      refine d_take 4 rfl rfl (by kernel_rfl) (by kernel_rfl) (by kernel_rfl) rfl hS (v_move rfl) ?_
                      refine d_take 5 rfl rfl (by kernel_rfl) (by kernel_rfl) (by kernel_rfl) rfl hS (v_idxA Tryz.underlying30 Tryz.sizeOf117 rfl hga rfl rfl hi1 (by first | exact Nat.zero_add _ | rfl)) ?_
                      refine d_take 6 rfl rfl (by kernel_rfl) (by kernel_rfl) (by kernel_rfl) rfl hS (v_loadAgg Tryz.isAgg117 Tryz.sizeOf117 rfl (cells_sc (k := 1) rfl) rfl) ?_
                      refine d_all (is := [1, 7]) (by kernel_rfl) rfl ⟨?_, ?_, trivial⟩
                      · skip
                        refine dx_one rfl rfl (d_val (v_load Tryz.isAgg30 rfl (cell_own rfl))) rfl ?_; clear hS
                        rintro _ _ ⟨rfl, rfl⟩
                        refine ⟨(sc_own (sc_cons hc.weak sc_end)), fun hS => ?_⟩
                        refine d_one 7 (by kernel_rfl) rfl rfl (d_sliceAgg Tryz.underlying30 Tryz.sizeOf117 Tryz.zeroValue117 rfl (elsK_cons rfl rfl elsK_nil) rfl (by decide) (by decide) (by decide)) rfl ?_; clear hS
                        rintro _ _ ⟨bb, rfl, rfl⟩
                        rw [show ([seV x] : List (List Value)).flatten = seV x from List.append_nil _]
                        refine ⟨(sc_own (sc_cons hc.weak sc_end)), fun hS => ?_⟩
                        refine d_one 8 (by kernel_rfl) rfl rfl (d_append (sz := 2) (by_ := 24) (info := Tryz.t117) Tryz.underlying30 (by kernel_rfl) rfl rfl rfl rfl (by decide) rfl rfl cells_all rfl (by first | exact seV_one x | rfl) (by simp only [maxLen]; omega) (by omega)) rfl ?_; clear hS
                        rintro _ _ ⟨a3, c3, rfl, rfl⟩
                        refine ⟨(sc_own (sc_cons hc.weak sc_end)), fun hS => ?_⟩
                        refine d_take 9 rfl rfl (by kernel_rfl) (by kernel_rfl) (by kernel_rfl) rfl hS (v_fieldAddr rfl Tryz.underlying33 rfl Tryz.sizeOf30 rfl (by first | exact Nat.zero_add _ | rfl)) ?_
                        refine d_one 10 (by kernel_rfl) rfl rfl (d_store Tryz.sizeOf30 rfl rfl rfl (Nat.le_of_ble_eq_true rfl) SetL.eq) rfl ?_; clear hS
                        rintro _ _ rfl
                        refine ⟨(sc_own (sc_cons hc.weak sc_end)), fun hS => ?_⟩
                        refine d_done (by kernel_rfl) ?_; clear hS
                        refine n_block (n_then ?_)
                        refine mid_intro (a3, c3) ?_ ?_ ?_
                        · trivial
                        · repeat (first | exact sub_nil | refine sub_cons rfl ?_)
                        · dsimp only
                          rw [hst]
                          simp only [← List.append_assoc, List.length_append, List.length_singleton, List.flatMap_append, List.flatMap_singleton]
                          exact inferInstance
                      · skip
                        refine dx_one rfl rfl (d_sliceAgg Tryz.underlying30 Tryz.sizeOf117 Tryz.zeroValue117 rfl (elsK_cons rfl rfl elsK_nil) rfl (by decide) (by decide) (by decide)) rfl ?_; clear hS
                        rintro _ _ ⟨bb, rfl, rfl⟩
                        rw [show ([seV x] : List (List Value)).flatten = seV x from List.append_nil _]
                        refine ⟨(sc_own (sc_cons hc.weak sc_end)), fun hS => ?_⟩
                        refine d_one 1 (by kernel_rfl) rfl rfl (d_val (v_load Tryz.isAgg30 rfl (cell_own rfl))) rfl ?_; clear hS
                        rintro _ _ ⟨rfl, rfl⟩
                        refine ⟨(sc_own (sc_cons hc.weak sc_end)), fun hS => ?_⟩
                        refine d_one 8 (by kernel_rfl) rfl rfl (d_append (sz := 2) (by_ := 24) (info := Tryz.t117) Tryz.underlying30 (by kernel_rfl) rfl rfl rfl rfl (by decide) rfl rfl cells_all rfl (by first | exact seV_one x | rfl) (by simp only [maxLen]; omega) (by omega)) rfl ?_; clear hS
                        rintro _ _ ⟨a3, c3, rfl, rfl⟩
                        refine ⟨(sc_own (sc_cons hc.weak sc_end)), fun hS => ?_⟩
                        refine d_take 9 rfl rfl (by kernel_rfl) (by kernel_rfl) (by kernel_rfl) rfl hS (v_fieldAddr rfl Tryz.underlying33 rfl Tryz.sizeOf30 rfl (by first | exact Nat.zero_add _ | rfl)) ?_
                        refine d_one 10 (by kernel_rfl) rfl rfl (d_store Tryz.sizeOf30 rfl rfl rfl (Nat.le_of_ble_eq_true rfl) SetL.eq) rfl ?_; clear hS
                        rintro _ _ rfl
                        refine ⟨(sc_own (sc_cons hc.weak sc_end)), fun hS => ?_⟩
                        refine d_done (by kernel_rfl) ?_; clear hS
                        refine n_block (n_then ?_)
                        refine mid_intro (a3, c3) ?_ ?_ ?_
                        · trivial
                        · repeat (first | exact sub_nil | refine sub_cons rfl ?_)
                        · dsimp only
                          rw [hst]
                          simp only [← List.append_assoc, List.length_append, List.length_singleton, List.flatMap_append, List.flatMap_singleton]
                          exact inferInstance
                    · intro c24
                      refine x_skip (n_block (n_then ?_))
                      refine mid_intro (a1, c1) ?_ ?_ ?_
                      · trivial
                      · repeat (first | exact sub_nil | refine sub_cons rfl ?_)
                      · dsimp only
                        rw [hno (by rw [hpx]; simp_all)]
                        exact inferInstance
                  · intro g24_2
                    refine s_no rfl rfl rfl rfl (s_val rfl (v_pick_f rfl rfl) (x_nil (n_then (x_iff rfl (x_skip (n_block (n_then ?_)))))))
                    refine mid_intro (a1, c1) ?_ ?_ ?_
                    · trivial
                    · repeat (first | exact sub_nil | refine sub_cons rfl ?_)
                    · dsimp only
                      rw [hno (by rw [hpx]; simp_all)]
                      exact inferInstance
                · intro ⟨a2, c2⟩ _
                  refine x_region (s_val rfl (v_move rfl) ?_)
                  refine s_val rfl (v_add rfl rfl (by first | exact w64 (by omega) | rfl)) ?_
                  refine s_val rfl (v_assign rfl) (x_nil (n_then ?_))
                  refine inv_intro (i + 1, a2, c2) ?_ ?_ ?_ ?_
                  · omega
                  · omega
                  · repeat (first | exact sub_nil | refine sub_cons rfl ?_)
                  · exact inferInstance
              · intro c21
                refine x_exit (e_then (e_then (e_block (n_then ?_))))
                refine x_cut (fun Z : List Inp × List Inp × Option Addr × Nat => a.nl.filter qA = Z.1 ++ Z.2.1 ∧ (Z.2.1 = [] ∨ Z.1.length = 256) ∧ Z.1.length ≤ 256) (fun Z => [(3, .int .i64 l), (4, .pointer (some ⟨b4, 0, none⟩)), (5, .pointer (some ⟨b5, 0, none⟩)), (6, .pointer (some ⟨b6, 0, none⟩)), (8, .pointer (some ⟨b8, 0, none⟩)), (9, .pointer (some ⟨b9, 0, none⟩))]) (fun Z => pt b9 (cob [.slice a0 c.gl.length c0, .slice a1 se.length c1, .slice Z.2.2.1 Z.1.length Z.2.2.2] 33) :: osl 109 5 (.slice Z.2.2.1 Z.1.length Z.2.2.2) (Z.1.flatMap inpV) :: osl 117 2 (.slice a1 se.length c1) (se.flatMap seV) :: osl 45 1 (.slice a0 c.gl.length c0) ((imX c a b l c.gl.length).flatMap imgV) :: pt b4 (cfO c) :: pt b5 (cob (scrV a) 33) :: pt b6 (cob (scrV b) 33) :: pt b8 (cob [.slice none 0 0, .slice none 0 0, .slice none 0 0] 33) :: R) ?_ ?_
                · skip
                  refine x_seq ?_
                  obtain rfl : i = b.sl.length := by omega
                  rw [List.take_length, ← hse, hseq]
                  refine x_region (s_val rfl (v_assign rfl) (x_nil (n_then (x_block ?_))))
                  refine x_loop (fun X : Nat × Option Addr × Nat => X.1 ≤ a.nl.length ∧ ((a.nl.take X.1).filter qA).length ≤ 256) (fun X => [(3, .int .i64 l), (4, .pointer (some ⟨b4, 0, none⟩)), (5, .pointer (some ⟨b5, 0, none⟩)), (6, .pointer (some ⟨b6, 0, none⟩)), (8, .pointer (some ⟨b8, 0, none⟩)), (9, .pointer (some ⟨b9, 0, none⟩)), (19, .int .i64 X.1)]) (fun X => pt b9 (cob [.slice a0 c.gl.length c0, .slice a1 se.length c1, .slice X.2.1 ((a.nl.take X.1).filter qA).length X.2.2] 33) :: osl 109 5 (.slice X.2.1 ((a.nl.take X.1).filter qA).length X.2.2) (((a.nl.take X.1).filter qA).flatMap inpV) :: osl 117 2 (.slice a1 se.length c1) (se.flatMap seV) :: osl 45 1 (.slice a0 c.gl.length c0) ((imX c a b l c.gl.length).flatMap imgV) :: pt b4 (cfO c) :: pt b5 (cob (scrV a) 33) :: pt b6 (cob (scrV b) 33) :: pt b8 (cob [.slice none 0 0, .slice none 0 0, .slice none 0 0] 33) :: R) (fun X => a.nl.length - X.1) (0, none, 0) ?_ ?_ ?_ ?_
                  · exact ⟨Nat.zero_le _, Nat.zero_le _⟩
                  · repeat (first | exact sub_nil | refine sub_cons rfl ?_)
                  · show Ent _ (pt b9 (cob [.slice a0 c.gl.length c0, .slice a1 se.length c1, .slice none 0 0] 33) :: osl 109 5 (.slice none 0 0) [] :: osl 117 2 (.slice a1 se.length c1) (se.flatMap seV) :: osl 45 1 (.slice a0 c.gl.length c0) ((imX c a b l c.gl.length).flatMap imgV) :: pt b4 (cfO c) :: pt b5 (cob (scrV a) 33) :: pt b6 (cob (scrV b) 33) :: pt b8 (cob [.slice none 0 0, .slice none 0 0, .slice none 0 0] 33) :: R)
                    exact Ent.trans (B := pt b9 (cob [.slice a0 c.gl.length c0, .slice a1 se.length c1, .slice none 0 0] 33) :: osl 117 2 (.slice a1 se.length c1) (se.flatMap seV) :: osl 45 1 (.slice a0 c.gl.length c0) ((imX c a b l c.gl.length).flatMap imgV) :: pt b4 (cfO c) :: pt b5 (cob (scrV a) 33) :: pt b6 (cob (scrV b) 33) :: pt b8 (cob [.slice none 0 0, .slice none 0 0, .slice none 0 0] 33) :: R) inferInstance (Ent.cons ent_osl_nil)
                  · intro ⟨i, a2, c2⟩ ⟨hi, hN⟩
                    dsimp only at hi hN ⊢
                    refine x_seq (x_seq (x_region (s_val rfl (v_move rfl) ?_)))
                    refine s_val rfl (v_fieldAddr rfl Tryz.underlying33 rfl Tryz.sizeOf31 rfl (by first | exact Nat.zero_add _ | rfl)) ?_
                    refine s_val rfl (v_load Tryz.isAgg31 rfl (cell_own rfl)) ?_
                    refine s_val rfl (v_len_slice Tryz.underlying31 rfl) (s_val rfl (v_lss rfl rfl) (s_val rfl (v_move rfl) ?_))
                    refine s_and rfl rfl rfl ?_ ?_
                    · intro g27_6
                      refine s_val rfl (v_fieldAddr rfl Tryz.underlying33 rfl Tryz.sizeOf31 rfl (by first | exact Nat.zero_add _ | rfl)) ?_
                      refine s_yes rfl rfl (s_val rfl (v_load Tryz.isAgg31 rfl (cell_own rfl)) ?_)
                      refine s_yes rfl rfl (s_val rfl (v_len_slice Tryz.underlying31 rfl) (s_yes rfl rfl (s_val rfl (v_lss rfl rfl) (s_val rfl (v_pick_t rfl rfl) (x_nil (n_then ?_))))))
                      refine x_if rfl ?_ ?_
                      · intro c27
                        refine x_skip (n_then ?_)
                        refine x_cut (fun X : Option Addr × Nat => ((a.nl.take (i + 1)).filter qA).length ≤ 256) (fun X => [(3, .int .i64 l), (4, .pointer (some ⟨b4, 0, none⟩)), (5, .pointer (some ⟨b5, 0, none⟩)), (6, .pointer (some ⟨b6, 0, none⟩)), (8, .pointer (some ⟨b8, 0, none⟩)), (9, .pointer (some ⟨b9, 0, none⟩)), (19, .int .i64 i)]) (fun X => pt b9 (cob [.slice a0 c.gl.length c0, .slice a1 se.length c1, .slice X.1 ((a.nl.take (i + 1)).filter qA).length X.2] 33) :: osl 109 5 (.slice X.1 ((a.nl.take (i + 1)).filter qA).length X.2) (((a.nl.take (i + 1)).filter qA).flatMap inpV) :: osl 117 2 (.slice a1 se.length c1) (se.flatMap seV) :: osl 45 1 (.slice a0 c.gl.length c0) ((imX c a b l c.gl.length).flatMap imgV) :: pt b4 (cfO c) :: pt b5 (cob (scrV a) 33) :: pt b6 (cob (scrV b) 33) :: pt b8 (cob [.slice none 0 0, .slice none 0 0, .slice none 0 0] 33) :: R) ?_ ?_
                        · skip
                          refine x_block (x_seq ?_)
                          have hi1 : i < a.nl.length := by omega
                          obtain ⟨g, o, hga, hc⟩ := (ha.n []).at_ hi1
                          obtain ⟨x, hx⟩ : ∃ x, a.nl[i] = x := ⟨_, rfl⟩
                          rw [hx] at hc
                          obtain ⟨g1, o1, j1, vs1, hcv1, hr1⟩ := gst_row h x.g
                          obtain ⟨q, hq⟩ : ∃ q, flB (labG c x.g) l = q := ⟨_, rfl⟩
                          have hpx : qA x = (isG c x.g && (q == true)) := by rw [← hqA, inpB_eq, hq]
                          have hyes := fun (z : qA x = true) => fl_yes hi1 hx z
                          have hno := fun (z : ¬ qA x = true) => fl_no hi1 hx z
                          have hln := fl_len (p := qA) (l := a.nl) (i := i)
                          refine x_region ?_
                          refine s_val rfl (v_fieldAddr rfl Tryz.underlying33 rfl Tryz.sizeOf31 rfl (by first | exact Nat.zero_add _ | rfl)) ?_
                          refine s_val rfl (v_load Tryz.isAgg31 rfl (cell_own rfl)) ?_
                          refine s_val rfl (v_move rfl) ?_
                          refine s_val rfl (v_idxA Tryz.underlying31 Tryz.sizeOf109 rfl hga rfl rfl hi1 (by first | exact Nat.zero_add _ | rfl)) ?_
                          refine s_val rfl (v_loadAgg Tryz.isAgg109 Tryz.sizeOf109 rfl hc.weak rfl) ?_
                          refine s_do rfl (d_allocA Tryz.zeroValue109) ?_
                          rintro _ _ ⟨b20, rfl, rfl⟩
                          refine s_do0 (d_storeAll Tryz.sizeOf109 rfl rfl rfl rfl rfl) ?_
                          rintro _ _ rfl
                          refine x_nil (n_then (x_seq (x_region ?_)))
                          refine s_val rfl (v_fieldAddr rfl Tryz.underlying109 rfl Tryz.sizeOf3 rfl (by first | exact Nat.zero_add _ | rfl)) ?_
                          refine s_val rfl (v_load Tryz.isAgg3 rfl (cell_own rfl)) ?_
                          refine s_val rfl (v_geq rfl rfl) (s_val rfl (v_move rfl) ?_)
                          refine s_and rfl rfl rfl ?_ ?_
                          · intro g30_4
                            refine s_val rfl (v_fieldAddr rfl Tryz.underlying109 rfl Tryz.sizeOf3 rfl (by first | exact Nat.zero_add _ | rfl)) ?_
                            refine s_yes rfl rfl (s_val rfl (v_load Tryz.isAgg3 rfl (cell_own rfl)) ?_)
                            refine s_yes rfl rfl ?_
                            refine s_val rfl (v_fieldAddr rfl Tryz.underlying28 rfl Tryz.sizeOf22 rfl (by first | exact Nat.zero_add _ | rfl)) ?_
                            refine s_yes rfl rfl (s_val rfl (v_load Tryz.isAgg22 rfl (cell_own rfl)) ?_)
                            refine s_yes rfl rfl (s_val rfl (v_len_slice Tryz.underlying22 rfl) (s_yes rfl rfl (s_val rfl (v_lss rfl rfl) (s_val rfl (v_pick_t rfl rfl) (s_val rfl (v_move rfl) ?_)))))
                            refine s_and rfl rfl rfl ?_ ?_
                            · intro g30_12
                              have hgy : isG c x.g = true := decide_eq_true ⟨by omega, by omega⟩
                              obtain ⟨ha1, hq1, hj1, u1, rfl, hl1⟩ := hr1 hgy
                              rw [hl1] at hq
                              refine s_val rfl (v_fieldAddr rfl Tryz.underlying28 rfl Tryz.sizeOf22 rfl (by first | exact Nat.zero_add _ | rfl)) ?_
                              refine s_yes rfl rfl (s_val rfl (v_load Tryz.isAgg22 rfl (cell_own rfl)) ?_)
                              refine s_yes rfl rfl ?_
                              refine s_val rfl (v_fieldAddr rfl Tryz.underlying109 rfl Tryz.sizeOf3 rfl (by first | exact Nat.zero_add _ | rfl)) ?_
                              refine s_yes rfl rfl (s_val rfl (v_load Tryz.isAgg3 rfl (cell_own rfl)) ?_)
                              refine s_yes rfl rfl ?_
                              refine s_val rfl (v_idxA Tryz.underlying22 Tryz.sizeOf95 rfl ha1 rfl hq1 hj1 (by first | exact Nat.zero_add _ | rfl)) ?_
                              refine s_yes rfl rfl ?_
                              refine s_val rfl (v_fieldAddr rfl Tryz.underlying95 rfl Tryz.sizeOf3 rfl (by first | exact Nat.zero_add _ | rfl)) ?_
                              refine s_yes rfl rfl (s_val rfl (v_load Tryz.isAgg3 rfl (Cells.weak (hcv1 []) 0 _ rfl)) ?_)
                              refine s_yes rfl rfl (s_val rfl (v_move rfl) (s_yes rfl rfl (s_do rfl (d_call Tryz.call41 rfl (rlFlows_spec W0 _ u1.1 l)) ?_)))
                              rintro _ B_ ⟨rfl, hB_⟩
                              obtain rfl := hB_.symm
                              rw [hq]
                              refine s_val rfl (v_pick_t rfl rfl) (x_nil (n_then ?_))
                              refine x_if rfl ?_ ?_
                              · intro c30
                                have hst := hyes (by rw [hpx, hgy]; first | (simp_all; done) | (cases q <;> simp_all))
                                have hlt : ((a.nl.take i).filter qA).length < 256 := by omega
                                refine x_region ?_
                                refine s_val rfl (v_fieldAddr rfl Tryz.underlying33 rfl Tryz.sizeOf31 rfl (by first | exact Nat.zero_add _ | rfl)) ?_
                                refine s_val rfl (v_load Tryz.isAgg31 rfl (cell_own rfl)) ?_
                                refine s_val rfl (v_loadAll Tryz.isAgg109 Tryz.sizeOf109 rfl rfl) ?_
                                refine s_do rfl (d_sliceAgg Tryz.underlying31 Tryz.sizeOf109 Tryz.zeroValue109 rfl (elsK_cons rfl rfl elsK_nil) rfl (by decide) (by decide) (by decide)) ?_
                                rintro _ _ ⟨bb, rfl, rfl⟩
                                rw [show ([inpV x] : List (List Value)).flatten = inpV x from List.append_nil _]
                                refine s_do rfl (d_append (sz := 5) (by_ := 48) (info := Tryz.t109) Tryz.underlying31 (by kernel_rfl) rfl rfl rfl rfl (by decide) rfl rfl cells_all rfl (by first | exact inpV_one x | rfl) (by simp only [maxLen]; omega) (by omega)) ?_
                                rintro _ _ ⟨a3, c3, rfl, rfl⟩
                                refine s_val rfl (v_fieldAddr rfl Tryz.underlying33 rfl Tryz.sizeOf31 rfl (by first | exact Nat.zero_add _ | rfl)) ?_
                                refine s_do0 (d_store Tryz.sizeOf31 rfl rfl rfl (Nat.le_of_ble_eq_true rfl) SetL.eq) ?_
                                rintro _ _ rfl
                                refine x_nil (n_block (n_then ?_))
                                refine mid_intro (a3, c3) ?_ ?_ ?_
                                · rw [hst, List.length_append, List.length_singleton]; omega
                                · repeat (first | exact sub_nil | refine sub_cons rfl ?_)
                                · dsimp only
                                  rw [hst]
                                  simp only [← List.append_assoc, List.length_append, List.length_singleton, List.flatMap_append, List.flatMap_singleton]
                                  exact inferInstance
                              · intro c30
                                refine x_skip (n_block (n_then ?_))
                                refine mid_intro (a2, c2) ?_ ?_ ?_
                                · rw [hno (by rw [hpx]; first | (rw [show isG c x.g = false from decide_eq_false (by omega), Bool.false_and]; decide) | (rw [hgy]; first | (simp_all; done) | (cases q <;> simp_all)))]; exact hN
                                · repeat (first | exact sub_nil | refine sub_cons rfl ?_)
                                · dsimp only
                                  rw [hno (by rw [hpx]; first | (rw [show isG c x.g = false from decide_eq_false (by omega), Bool.false_and]; decide) | (rw [hgy]; first | (simp_all; done) | (cases q <;> simp_all)))]
                                  exact inferInstance
                            · intro g30_12
                              refine s_no rfl rfl rfl rfl (s_no rfl rfl rfl rfl (s_no rfl rfl rfl rfl (s_no rfl rfl rfl rfl (s_no rfl rfl rfl rfl (s_no rfl rfl rfl rfl (s_no rfl rfl rfl rfl (s_no rfl rfl rfl rfl (s_val rfl (v_pick_f rfl rfl) (x_nil (n_then (x_iff rfl (x_skip (n_block (n_then ?_))))))))))))))
                              refine mid_intro (a2, c2) ?_ ?_ ?_
                              · rw [hno (by rw [hpx]; first | (rw [show isG c x.g = false from decide_eq_false (by omega), Bool.false_and]; decide) | (rw [hgy]; first | (simp_all; done) | (cases q <;> simp_all)))]; exact hN
                              · repeat (first | exact sub_nil | refine sub_cons rfl ?_)
                              · dsimp only
                                rw [hno (by rw [hpx]; first | (rw [show isG c x.g = false from decide_eq_false (by omega), Bool.false_and]; decide) | (rw [hgy]; first | (simp_all; done) | (cases q <;> simp_all)))]
                                exact inferInstance
                          · intro g30_4
                            refine s_no rfl rfl rfl rfl (s_no rfl rfl rfl rfl (s_no rfl rfl rfl rfl (s_no rfl rfl rfl rfl (s_no rfl rfl rfl rfl (s_val rfl (v_pick_f rfl rfl) (s_val rfl (v_move rfl) (s_no rfl rfl rfl rfl (s_no rfl rfl rfl rfl (s_no rfl rfl rfl rfl (s_no rfl rfl rfl rfl (s_no rfl rfl rfl rfl (s_no rfl rfl rfl rfl (s_no rfl rfl rfl rfl (s_no rfl rfl rfl rfl (s_no rfl rfl rfl rfl (s_val rfl (v_pick_f rfl rfl) (x_nil (n_then (x_iff rfl (x_skip (n_block (n_then ?_))))))))))))))))))))))
                            refine mid_intro (a2, c2) ?_ ?_ ?_
                            · rw [hno (by rw [hpx]; first | (rw [show isG c x.g = false from decide_eq_false (by omega), Bool.false_and]; decide) | (rw [hgy]; first | (simp_all; done) | (cases q <;> simp_all)))]; exact hN
                            · repeat (first | exact sub_nil | refine sub_cons rfl ?_)
                            · dsimp only
                              rw [hno (by rw [hpx]; first | (rw [show isG c x.g = false from decide_eq_false (by omega), Bool.false_and]; decide) | (rw [hgy]; first | (simp_all; done) | (cases q <;> simp_all)))]
                              exact inferInstance
                        · intro ⟨a3, c3⟩ hN3
                          refine x_region (s_val rfl (v_move rfl) ?_)
                          refine s_val rfl (v_add rfl rfl (by first | exact w64 (by omega) | rfl)) ?_
                          refine s_val rfl (v_assign rfl) (x_nil (n_then ?_))
                          refine inv_intro (i + 1, a3, c3) ?_ ?_ ?_ ?_
                          · exact ⟨by omega, hN3⟩
                          · omega
                          · repeat (first | exact sub_nil | refine sub_cons rfl ?_)
                          · exact inferInstance
                      · intro c27
                        refine x_exit (e_then (e_then (e_block (n_then ?_))))
                        refine mid_intro ((a.nl.take i).filter qA, (a.nl.drop i).filter qA, a2, c2) ?_ ?_ ?_
                        · refine ⟨fl_split _ _ _, ?_, hN⟩
                          first
                            | (left; dsimp only; rw [List.drop_of_length_le (by omega)]; rfl)
                            | (right; dsimp only; omega)
                        · repeat (first | exact sub_nil | refine sub_cons rfl ?_)
                        · exact inferInstance
                    · intro g27_6
                      refine s_no rfl rfl rfl rfl (s_no rfl rfl rfl rfl (s_no rfl rfl rfl rfl (s_val rfl (v_pick_f rfl rfl) (x_nil (n_then (x_iff rfl (x_exit (e_then (e_then (e_block (n_then ?_)))))))))))
                      refine mid_intro ((a.nl.take i).filter qA, (a.nl.drop i).filter qA, a2, c2) ?_ ?_ ?_
                      · refine ⟨fl_split _ _ _, ?_, hN⟩
                        first
                          | (left; dsimp only; rw [List.drop_of_length_le (by omega)]; rfl)
                          | (right; dsimp only; omega)
                      · repeat (first | exact sub_nil | refine sub_cons rfl ?_)
                      · exact inferInstance
                · intro ⟨N, rA, a2, c2⟩ ⟨hNr, hr0, hN⟩
                  dsimp only at hNr hr0 hN ⊢
                  refine x_cut (fun Z : List Inp × Option Addr × Nat => Z.1 = (nlM c a b l).take 256) (fun Z => [(3, .int .i64 l), (4, .pointer (some ⟨b4, 0, none⟩)), (5, .pointer (some ⟨b5, 0, none⟩)), (6, .pointer (some ⟨b6, 0, none⟩)), (8, .pointer (some ⟨b8, 0, none⟩)), (9, .pointer (some ⟨b9, 0, none⟩))]) (fun Z => pt b9 (cob [.slice a0 c.gl.length c0, .slice a1 se.length c1, .slice Z.2.1 Z.1.length Z.2.2] 33) :: osl 109 5 (.slice Z.2.1 Z.1.length Z.2.2) (Z.1.flatMap inpV) :: osl 117 2 (.slice a1 se.length c1) (se.flatMap seV) :: osl 45 1 (.slice a0 c.gl.length c0) ((imX c a b l c.gl.length).flatMap imgV) :: pt b4 (cfO c) :: pt b5 (cob (scrV a) 33) :: pt b6 (cob (scrV b) 33) :: pt b8 (cob [.slice none 0 0, .slice none 0 0, .slice none 0 0] 33) :: R) ?_ ?_
                  · skip
                    refine x_seq (x_region (s_val rfl (v_assign rfl) (x_nil (n_then (x_block ?_)))))
                    refine x_loop (fun X : Nat × Option Addr × Nat => X.1 ≤ b.nl.length ∧ (N ++ (b.nl.take X.1).filter qB).length ≤ 256 ∧ (X.1 = 0 ∨ rA = [])) (fun X => [(3, .int .i64 l), (4, .pointer (some ⟨b4, 0, none⟩)), (5, .pointer (some ⟨b5, 0, none⟩)), (6, .pointer (some ⟨b6, 0, none⟩)), (8, .pointer (some ⟨b8, 0, none⟩)), (9, .pointer (some ⟨b9, 0, none⟩)), (21, .int .i64 X.1)]) (fun X => pt b9 (cob [.slice a0 c.gl.length c0, .slice a1 se.length c1, .slice X.2.1 (N ++ (b.nl.take X.1).filter qB).length X.2.2] 33) :: osl 109 5 (.slice X.2.1 (N ++ (b.nl.take X.1).filter qB).length X.2.2) ((N ++ (b.nl.take X.1).filter qB).flatMap inpV) :: osl 117 2 (.slice a1 se.length c1) (se.flatMap seV) :: osl 45 1 (.slice a0 c.gl.length c0) ((imX c a b l c.gl.length).flatMap imgV) :: pt b4 (cfO c) :: pt b5 (cob (scrV a) 33) :: pt b6 (cob (scrV b) 33) :: pt b8 (cob [.slice none 0 0, .slice none 0 0, .slice none 0 0] 33) :: R) (fun X => b.nl.length - X.1) (0, a2, c2) ?_ ?_ ?_ ?_
                    · exact ⟨Nat.zero_le _, by dsimp only; rw [List.take_zero, List.filter_nil, List.append_nil]; exact hN, .inl rfl⟩
                    · repeat (first | exact sub_nil | refine sub_cons rfl ?_)
                    · dsimp only
                      rw [List.take_zero, List.filter_nil, List.append_nil]
                      exact inferInstance
                    · intro ⟨i, a2, c2⟩ ⟨hi, hF, hz⟩
                      dsimp only at hi hF hz ⊢
                      refine x_seq (x_seq (x_region (s_val rfl (v_move rfl) ?_)))
                      refine s_val rfl (v_fieldAddr rfl Tryz.underlying33 rfl Tryz.sizeOf31 rfl (by first | exact Nat.zero_add _ | rfl)) ?_
                      refine s_val rfl (v_load Tryz.isAgg31 rfl (cell_own rfl)) ?_
                      refine s_val rfl (v_len_slice Tryz.underlying31 rfl) (s_val rfl (v_lss rfl rfl) (s_val rfl (v_move rfl) ?_))
                      refine s_and rfl rfl rfl ?_ ?_
                      · intro g33_6
                        refine s_val rfl (v_fieldAddr rfl Tryz.underlying33 rfl Tryz.sizeOf31 rfl (by first | exact Nat.zero_add _ | rfl)) ?_
                        refine s_yes rfl rfl (s_val rfl (v_load Tryz.isAgg31 rfl (cell_own rfl)) ?_)
                        refine s_yes rfl rfl (s_val rfl (v_len_slice Tryz.underlying31 rfl) (s_yes rfl rfl (s_val rfl (v_lss rfl rfl) (s_val rfl (v_pick_t rfl rfl) (x_nil (n_then ?_))))))
                        refine x_if rfl ?_ ?_
                        · intro c33
                          refine x_skip (n_then ?_)
                          refine x_cut (fun X : Option Addr × Nat => (N ++ (b.nl.take (i + 1)).filter qB).length ≤ 256 ∧ rA = []) (fun X => [(3, .int .i64 l), (4, .pointer (some ⟨b4, 0, none⟩)), (5, .pointer (some ⟨b5, 0, none⟩)), (6, .pointer (some ⟨b6, 0, none⟩)), (8, .pointer (some ⟨b8, 0, none⟩)), (9, .pointer (some ⟨b9, 0, none⟩)), (21, .int .i64 i)]) (fun X => pt b9 (cob [.slice a0 c.gl.length c0, .slice a1 se.length c1, .slice X.1 (N ++ (b.nl.take (i + 1)).filter qB).length X.2] 33) :: osl 109 5 (.slice X.1 (N ++ (b.nl.take (i + 1)).filter qB).length X.2) ((N ++ (b.nl.take (i + 1)).filter qB).flatMap inpV) :: osl 117 2 (.slice a1 se.length c1) (se.flatMap seV) :: osl 45 1 (.slice a0 c.gl.length c0) ((imX c a b l c.gl.length).flatMap imgV) :: pt b4 (cfO c) :: pt b5 (cob (scrV a) 33) :: pt b6 (cob (scrV b) 33) :: pt b8 (cob [.slice none 0 0, .slice none 0 0, .slice none 0 0] 33) :: R) ?_ ?_
                          · skip
                            refine x_block (x_seq ?_)
                            have hi1 : i < b.nl.length := by omega
                            obtain ⟨g, o, hga, hc⟩ := (hb.n []).at_ hi1
                            obtain ⟨x, hx⟩ : ∃ x, b.nl[i] = x := ⟨_, rfl⟩
                            rw [hx] at hc
                            obtain ⟨g1, o1, j1, vs1, hcv1, hr1⟩ := gst_row h x.g
                            obtain ⟨q, hq⟩ : ∃ q, flB (labG c x.g) l = q := ⟨_, rfl⟩
                            have hpx : qB x = (isG c x.g && (q == false)) := by rw [← hqB, inpB_eq, hq]
                            have hyes := fun (z : qB x = true) => fl_yes hi1 hx z
                            have hno := fun (z : ¬ qB x = true) => fl_no hi1 hx z
                            have hln := fl_len (p := qB) (l := b.nl) (i := i)
                            refine x_region ?_
                            refine s_val rfl (v_fieldAddr rfl Tryz.underlying33 rfl Tryz.sizeOf31 rfl (by first | exact Nat.zero_add _ | rfl)) ?_
                            refine s_val rfl (v_load Tryz.isAgg31 rfl (cell_own rfl)) ?_
                            refine s_val rfl (v_move rfl) ?_
                            refine s_val rfl (v_idxA Tryz.underlying31 Tryz.sizeOf109 rfl hga rfl rfl hi1 (by first | exact Nat.zero_add _ | rfl)) ?_
                            refine s_val rfl (v_loadAgg Tryz.isAgg109 Tryz.sizeOf109 rfl hc.weak rfl) ?_
                            refine s_do rfl (d_allocA Tryz.zeroValue109) ?_
                            rintro _ _ ⟨b22, rfl, rfl⟩
                            refine s_do0 (d_storeAll Tryz.sizeOf109 rfl rfl rfl rfl rfl) ?_
                            rintro _ _ rfl
                            refine x_nil (n_then (x_seq (x_region ?_)))
                            refine s_val rfl (v_fieldAddr rfl Tryz.underlying109 rfl Tryz.sizeOf3 rfl (by first | exact Nat.zero_add _ | rfl)) ?_
                            refine s_val rfl (v_load Tryz.isAgg3 rfl (cell_own rfl)) ?_
                            refine s_val rfl (v_geq rfl rfl) (s_val rfl (v_move rfl) ?_)
                            refine s_and rfl rfl rfl ?_ ?_
                            · intro g36_4
                              refine s_val rfl (v_fieldAddr rfl Tryz.underlying109 rfl Tryz.sizeOf3 rfl (by first | exact Nat.zero_add _ | rfl)) ?_
                              refine s_yes rfl rfl (s_val rfl (v_load Tryz.isAgg3 rfl (cell_own rfl)) ?_)
                              refine s_yes rfl rfl ?_
                              refine s_val rfl (v_fieldAddr rfl Tryz.underlying28 rfl Tryz.sizeOf22 rfl (by first | exact Nat.zero_add _ | rfl)) ?_
                              refine s_yes rfl rfl (s_val rfl (v_load Tryz.isAgg22 rfl (cell_own rfl)) ?_)
                              refine s_yes rfl rfl (s_val rfl (v_len_slice Tryz.underlying22 rfl) (s_yes rfl rfl (s_val rfl (v_lss rfl rfl) (s_val rfl (v_pick_t rfl rfl) (s_val rfl (v_move rfl) ?_)))))
                              refine s_and rfl rfl rfl ?_ ?_
                              · intro g36_12
                                have hgy : isG c x.g = true := decide_eq_true ⟨by omega, by omega⟩
                                obtain ⟨ha1, hq1, hj1, u1, rfl, hl1⟩ := hr1 hgy
                                rw [hl1] at hq
                                refine s_val rfl (v_fieldAddr rfl Tryz.underlying28 rfl Tryz.sizeOf22 rfl (by first | exact Nat.zero_add _ | rfl)) ?_
                                refine s_yes rfl rfl (s_val rfl (v_load Tryz.isAgg22 rfl (cell_own rfl)) ?_)
                                refine s_yes rfl rfl ?_
                                refine s_val rfl (v_fieldAddr rfl Tryz.underlying109 rfl Tryz.sizeOf3 rfl (by first | exact Nat.zero_add _ | rfl)) ?_
                                refine s_yes rfl rfl (s_val rfl (v_load Tryz.isAgg3 rfl (cell_own rfl)) ?_)
                                refine s_yes rfl rfl ?_
                                refine s_val rfl (v_idxA Tryz.underlying22 Tryz.sizeOf95 rfl ha1 rfl hq1 hj1 (by first | exact Nat.zero_add _ | rfl)) ?_
                                refine s_yes rfl rfl ?_
                                refine s_val rfl (v_fieldAddr rfl Tryz.underlying95 rfl Tryz.sizeOf3 rfl (by first | exact Nat.zero_add _ | rfl)) ?_
                                refine s_yes rfl rfl (s_val rfl (v_load Tryz.isAgg3 rfl (Cells.weak (hcv1 []) 0 _ rfl)) ?_)
                                refine s_yes rfl rfl (s_val rfl (v_move rfl) (s_yes rfl rfl (s_do rfl (d_call Tryz.call41 rfl (rlFlows_spec W0 _ u1.1 l)) ?_)))
                                rintro _ B_ ⟨rfl, hB_⟩
                                obtain rfl := hB_.symm
                                rw [hq]
                                refine s_yes rfl rfl (s_val rfl (v_not rfl) (s_val rfl (v_pick_t rfl rfl) (x_nil (n_then ?_))))
                                refine x_if rfl ?_ ?_
                                · intro c36
                                  have hst := hyes (by rw [hpx, hgy]; first | (simp_all; done) | (cases q <;> simp_all))
                                  have hlt : (N ++ (b.nl.take i).filter qB).length < 256 := by omega
                                  refine x_region ?_
                                  refine s_val rfl (v_fieldAddr rfl Tryz.underlying33 rfl Tryz.sizeOf31 rfl (by first | exact Nat.zero_add _ | rfl)) ?_
                                  refine s_val rfl (v_load Tryz.isAgg31 rfl (cell_own rfl)) ?_
                                  refine s_val rfl (v_loadAll Tryz.isAgg109 Tryz.sizeOf109 rfl rfl) ?_
                                  refine s_do rfl (d_sliceAgg Tryz.underlying31 Tryz.sizeOf109 Tryz.zeroValue109 rfl (elsK_cons rfl rfl elsK_nil) rfl (by decide) (by decide) (by decide)) ?_
                                  rintro _ _ ⟨bb, rfl, rfl⟩
                                  rw [show ([inpV x] : List (List Value)).flatten = inpV x from List.append_nil _]
                                  refine s_do rfl (d_append (sz := 5) (by_ := 48) (info := Tryz.t109) Tryz.underlying31 (by kernel_rfl) rfl rfl rfl rfl (by decide) rfl rfl cells_all rfl (by first | exact inpV_one x | rfl) (by simp only [maxLen]; omega) (by omega)) ?_
                                  rintro _ _ ⟨a3, c3, rfl, rfl⟩
                                  refine s_val rfl (v_fieldAddr rfl Tryz.underlying33 rfl Tryz.sizeOf31 rfl (by first | exact Nat.zero_add _ | rfl)) ?_
                                  refine s_do0 (d_store Tryz.sizeOf31 rfl rfl rfl (Nat.le_of_ble_eq_true rfl) SetL.eq) ?_
                                  rintro _ _ rfl
                                  refine x_nil (n_block (n_then ?_))
                                  refine mid_intro (a3, c3) ?_ ?_ ?_
                                  · refine ⟨?_, ?_⟩
                                    · rw [hst, ← List.append_assoc, List.length_append, List.length_singleton]; omega
                                    · rcases hz with z | z
                                      · rcases hr0 with y | y
                                        · exact y
                                        · rw [List.length_append] at hlt; omega
                                      · exact z
                                  · repeat (first | exact sub_nil | refine sub_cons rfl ?_)
                                  · dsimp only
                                    rw [hst]
                                    simp only [← List.append_assoc, List.length_append, List.length_singleton, List.flatMap_append, List.flatMap_singleton]
                                    exact inferInstance
                                · intro c36
                                  refine x_skip (n_block (n_then ?_))
                                  refine mid_intro (a2, c2) ?_ ?_ ?_
                                  · refine ⟨?_, ?_⟩
                                    · rw [hno (by rw [hpx]; first | (rw [show isG c x.g = false from decide_eq_false (by omega), Bool.false_and]; decide) | (rw [hgy]; first | (simp_all; done) | (cases q <;> simp_all)))]; exact hF
                                    · have hlt : (N ++ (b.nl.take i).filter qB).length < 256 := by omega
                                      rcases hz with z | z
                                      · rcases hr0 with y | y
                                        · exact y
                                        · rw [List.length_append] at hlt; omega
                                      · exact z
                                  · repeat (first | exact sub_nil | refine sub_cons rfl ?_)
                                  · dsimp only
                                    rw [hno (by rw [hpx]; first | (rw [show isG c x.g = false from decide_eq_false (by omega), Bool.false_and]; decide) | (rw [hgy]; first | (simp_all; done) | (cases q <;> simp_all)))]
                                    exact inferInstance
                              · intro g36_12
                                refine s_no rfl rfl rfl rfl (s_no rfl rfl rfl rfl (s_no rfl rfl rfl rfl (s_no rfl rfl rfl rfl (s_no rfl rfl rfl rfl (s_no rfl rfl rfl rfl (s_no rfl rfl rfl rfl (s_no rfl rfl rfl rfl (s_no rfl rfl rfl rfl (s_val rfl (v_pick_f rfl rfl) (x_nil (n_then (x_iff rfl (x_skip (n_block (n_then ?_)))))))))))))))
                                refine mid_intro (a2, c2) ?_ ?_ ?_
                                · refine ⟨?_, ?_⟩
                                  · rw [hno (by rw [hpx]; first | (rw [show isG c x.g = false from decide_eq_false (by omega), Bool.false_and]; decide) | (rw [hgy]; first | (simp_all; done) | (cases q <;> simp_all)))]; exact hF
                                  · have hlt : (N ++ (b.nl.take i).filter qB).length < 256 := by omega
                                    rcases hz with z | z
                                    · rcases hr0 with y | y
                                      · exact y
                                      · rw [List.length_append] at hlt; omega
                                    · exact z
                                · repeat (first | exact sub_nil | refine sub_cons rfl ?_)
                                · dsimp only
                                  rw [hno (by rw [hpx]; first | (rw [show isG c x.g = false from decide_eq_false (by omega), Bool.false_and]; decide) | (rw [hgy]; first | (simp_all; done) | (cases q <;> simp_all)))]
                                  exact inferInstance
                            · intro g36_4
                              refine s_no rfl rfl rfl rfl (s_no rfl rfl rfl rfl (s_no rfl rfl rfl rfl (s_no rfl rfl rfl rfl (s_no rfl rfl rfl rfl (s_val rfl (v_pick_f rfl rfl) (s_val rfl (v_move rfl) (s_no rfl rfl rfl rfl (s_no rfl rfl rfl rfl (s_no rfl rfl rfl rfl (s_no rfl rfl rfl rfl (s_no rfl rfl rfl rfl (s_no rfl rfl rfl rfl (s_no rfl rfl rfl rfl (s_no rfl rfl rfl rfl (s_no rfl rfl rfl rfl (s_no rfl rfl rfl rfl (s_val rfl (v_pick_f rfl rfl) (x_nil (n_then (x_iff rfl (x_skip (n_block (n_then ?_)))))))))))))))))))))))
                              refine mid_intro (a2, c2) ?_ ?_ ?_
                              · refine ⟨?_, ?_⟩
                                · rw [hno (by rw [hpx]; first | (rw [show isG c x.g = false from decide_eq_false (by omega), Bool.false_and]; decide) | (rw [hgy]; first | (simp_all; done) | (cases q <;> simp_all)))]; exact hF
                                · have hlt : (N ++ (b.nl.take i).filter qB).length < 256 := by omega
                                  rcases hz with z | z
                                  · rcases hr0 with y | y
                                    · exact y
                                    · rw [List.length_append] at hlt; omega
                                  · exact z
                              · repeat (first | exact sub_nil | refine sub_cons rfl ?_)
                              · dsimp only
                                rw [hno (by rw [hpx]; first | (rw [show isG c x.g = false from decide_eq_false (by omega), Bool.false_and]; decide) | (rw [hgy]; first | (simp_all; done) | (cases q <;> simp_all)))]
                                exact inferInstance
                          · intro ⟨a3, c3⟩ ⟨hF3, hz3⟩
                            refine x_region (s_val rfl (v_move rfl) ?_)
                            refine s_val rfl (v_add rfl rfl (by first | exact w64 (by omega) | rfl)) ?_
                            refine s_val rfl (v_assign rfl) (x_nil (n_then ?_))
                            refine inv_intro (i + 1, a3, c3) ?_ ?_ ?_ ?_
                            · exact ⟨by omega, hF3, .inr hz3⟩
                            · omega
                            · repeat (first | exact sub_nil | refine sub_cons rfl ?_)
                            · exact inferInstance
                        · intro c33
                          refine x_exit (e_then (e_then (e_block (n_then ?_))))
                          refine mid_intro (N ++ (b.nl.take i).filter qB, a2, c2) ?_ ?_ ?_
                          · dsimp only
                            rw [hnM, hNr, fl_split qB b.nl i]
                            refine tk_fin hr0 (by rw [← List.length_append]; exact hF) ?_ ?_
                            · rcases hz with z | z
                              · left; rw [z]; rfl
                              · exact .inr z
                            · first
                                | (left; rw [List.drop_of_length_le (by omega)]; rfl)
                                | (right; rw [← List.length_append]; omega)
                          · repeat (first | exact sub_nil | refine sub_cons rfl ?_)
                          · exact inferInstance
                      · intro g33_6
                        refine s_no rfl rfl rfl rfl (s_no rfl rfl rfl rfl (s_no rfl rfl rfl rfl (s_val rfl (v_pick_f rfl rfl) (x_nil (n_then (x_iff rfl (x_exit (e_then (e_then (e_block (n_then ?_)))))))))))
                        refine mid_intro (N ++ (b.nl.take i).filter qB, a2, c2) ?_ ?_ ?_
                        · dsimp only
                          rw [hnM, hNr, fl_split qB b.nl i]
                          refine tk_fin hr0 (by rw [← List.length_append]; exact hF) ?_ ?_
                          · rcases hz with z | z
                            · left; rw [z]; rfl
                            · exact .inr z
                          · first
                              | (left; rw [List.drop_of_length_le (by omega)]; rfl)
                              | (right; rw [← List.length_append]; omega)
                        · repeat (first | exact sub_nil | refine sub_cons rfl ?_)
                        · exact inferInstance
                  · intro ⟨F, a2, c2⟩ hF
                    dsimp only at hF ⊢
                    refine x_seq (x_region (s_val rfl (v_loadAll Tryz.isAgg33 Tryz.sizeOf33 rfl rfl) ?_))
                    refine s_do0 (d_storeAll Tryz.sizeOf33 rfl rfl rfl rfl rfl) ?_
                    rintro _ _ rfl
                    refine x_nil (n_then (x_ret (x_done (.inl rfl) (.cons (r_all Tryz.isAgg33 Tryz.sizeOf33 rfl rfl) .nil) ?_)))
                    refine ⟨_, ⟨⟨a0, c0, imX c a b l c.gl.length, a1, c1, seM c a b l, a2, c2, F⟩, mx2C a0 a1 a2 c0 c1 c2 (imX c a b l c.gl.length) (seM c a b l) F, ?_, ⟨by rw [hrt]; exact imX_M c a b l _, by rw [hrt]; rfl, by rw [hrt]; exact hF⟩, rfl, fun W A hO => mx2_ok ha hb za zb hF (hO.ent ent_open)⟩, ?_⟩
                    · rw [hseq, scrV, hil]; rfl
                    · refine Ent.trans (B := mx2C a0 a1 a2 c0 c1 c2 (imX c a b l c.gl.length) (seM c a b l) F ++ R) ?_ ent_shut
                      simp only [mx2C, List.cons_append, List.nil_append]
                      rw [hseq, hil]
                      exact inferInstance
end Go.Proofs.YtncegikenkpcmaaGreat
namespace Go.Proofs.YtncegikenkpcmaaGreat
open Go.RowKit
set_option linter.unusedSimpArgs false
set_option linter.unusedVariables false
set_option maxRecDepth 20000
theorem mx_same {c : Cfg} {a b : Scr} {l : Int} {m n : Scr} (hm : MxIs c a b l m) (hn : MxIs c a b l n) : m.il.map (fun x => x.l) = n.il.map (fun x => x.l) ∧ m.sl = n.sl ∧ m.nl = n.nl :=
  ⟨hm.il.trans hn.il.symm, hm.sl.trans hn.sl.symm, hm.nl.trans hn.nl.symm⟩
theorem mx_sl {c : Cfg} {a b : Scr} {l : Int} {m : Scr} (hm : MxIs c a b l m) (h1 : a.sl.length ≤ 60) (h2 : b.sl.length ≤ 60) : m.sl.length ≤ 1000 := by
  rw [hm.sl]; split
  · rw [seM, List.length_append]
    have h1 := List.length_filter_le (fun x : Sec => (rngd c x.at_ l).2) a.sl
    have h2 := List.length_filter_le (fun x : Sec => (rngd c x.at_ l).1 && !(rngd c x.at_ l).2) b.sl
    omega
  · exact Nat.zero_le _
theorem mx_nl {c : Cfg} {a b : Scr} {l : Int} {m : Scr} (hm : MxIs c a b l m) : m.nl.length ≤ 1000 := by
  rw [hm.nl]; split
  · rw [List.length_take]; omega
  · exact Nat.zero_le _
theorem mx_il {c : Cfg} {a b : Scr} {l : Int} {m : Scr} (hm : MxIs c a b l m) (h : c.gl.length ≤ 1000) : m.il.length ≤ 1000 := by
  have e := congrArg List.length hm.il
  rw [List.length_map] at e
  rw [e]; split
  · simp [imM]; omega
  · exact Nat.zero_le _
theorem poO_len {c : Cfg} {l : Int} : (poO c l).length ≤ c.pl.length := by
  unfold poO; split
  · exact pkK_len _ _ _
  · exact Nat.zero_le _
theorem mx_z {c : Cfg} {a b : Scr} {l : Int} {m : Scr} (hm : MxIs c a b l m) (za : ImgZ a) (zb : ImgZ b) : ImgZ m := fun x hx => by
  have h0 : x.l ∈ m.il.map (fun x => x.l) := List.mem_map.2 ⟨x, hx, rfl⟩
  rw [hm.il] at h0
  split at h0
  · obtain ⟨i, s, hs, e⟩ := imM_mem h0
    rw [e]
    rcases hs with rfl | rfl
    · exact wrdI_z za i
    · exact wrdI_z zb i
  · cases h0
theorem SightPlays_walk (W0 : World) (c : Cfg) (h : CfOk W0 c) (a b : Scr) (ha : ScrOk W0 a) (hb : ScrOk W0 b) (za : ImgZ a) (zb : ImgZ b) (l : Int) :
    Spec Tryz.prog W0 3 [.agg (cfgV c).toArray, .agg (scrV a).toArray, .agg (scrV b).toArray, .int .i64 l] [] (fun v B => v = .bool true ∧ B = []) := by
  have hg1 := gsO_len (c := c) (l := l)
  have hp1 := poO_len (c := c) (l := l)
  have hs1 := seK_len c l 32
  refine spec_body Tryz.func3 Tryz.ntmps3 rfl rfl ?_
  refine x_seq (x_region (s_do rfl (d_boxA rfl) ?_))
  rintro _ _ ⟨b4, rfl, rfl⟩
  refine s_do rfl (d_boxA rfl) ?_
  rintro _ _ ⟨b5, rfl, rfl⟩
  refine s_do rfl (d_boxA rfl) ?_
  rintro _ _ ⟨b6, rfl, rfl⟩
  refine s_val rfl (v_assign rfl) (x_nil (n_then (x_seq (x_seq (x_region (s_val rfl (v_loadAll Tryz.isAgg28 Tryz.sizeOf28 rfl rfl) ?_))))))
  refine s_do rfl (d_call Tryz.call5 rfl (small41_spec W0 _ c)) ?_
  rintro _ B_ ⟨rfl, hB_⟩
  obtain rfl := hB_.symm
  refine s_val rfl (v_not rfl) (s_val rfl (v_move rfl) ?_)
  refine s_or rfl rfl rfl ?_ ?_
  · intro g1_4
    refine s_no rfl rfl rfl rfl (s_no rfl rfl rfl rfl (s_val rfl (v_pick_t rfl rfl) (s_val rfl (v_move rfl) (s_no rfl rfl rfl rfl (s_no rfl rfl rfl rfl (s_no rfl rfl rfl rfl (s_val rfl (v_pick_t rfl rfl) (x_nil (n_then (x_ift rfl (x_seq (x_region (s_do rfl (d_call Tryz.call7 rfl (awake41_spec W0 _)) ?_)))))))))))))
    rintro _ B_ ⟨rfl, hB_⟩
    obtain rfl := hB_.symm
    refine s_val rfl (v_assign rfl) (x_nil (n_then (x_ret (r_then (x_done (.inl rfl) (.cons (r_tmp rfl) .nil) ?_)))))
    exact ⟨_, ⟨rfl, rfl⟩, inferInstance⟩
  · intro g1_4
    refine s_val rfl (v_loadAll Tryz.isAgg33 Tryz.sizeOf33 rfl rfl) ?_
    refine s_yes rfl rfl (s_do rfl (d_call Tryz.call6 rfl (light41_spec W0 _ a)) ?_)
    rintro _ B_ ⟨rfl, hB_⟩
    obtain rfl := hB_.symm
    refine s_yes rfl rfl (s_val rfl (v_not rfl) (s_val rfl (v_pick_f rfl rfl) (s_val rfl (v_move rfl) ?_)))
    refine s_or rfl rfl rfl ?_ ?_
    · intro g1_9
      refine s_no rfl rfl rfl rfl (s_no rfl rfl rfl rfl (s_val rfl (v_pick_t rfl rfl) (x_nil (n_then (x_ift rfl (x_seq (x_region (s_do rfl (d_call Tryz.call7 rfl (awake41_spec W0 _)) ?_))))))))
      rintro _ B_ ⟨rfl, hB_⟩
      obtain rfl := hB_.symm
      refine s_val rfl (v_assign rfl) (x_nil (n_then (x_ret (r_then (x_done (.inl rfl) (.cons (r_tmp rfl) .nil) ?_)))))
      exact ⟨_, ⟨rfl, rfl⟩, inferInstance⟩
    · intro g1_9
      refine s_val rfl (v_loadAll Tryz.isAgg33 Tryz.sizeOf33 rfl rfl) ?_
      refine s_yes rfl rfl (s_do rfl (d_call Tryz.call6 rfl (light41_spec W0 _ b)) ?_)
      rintro _ B_ ⟨rfl, hB_⟩
      obtain rfl := hB_.symm
      refine s_yes rfl rfl (s_val rfl (v_not rfl) (s_val rfl (v_pick_f rfl rfl) (x_nil (n_then ?_))))
      refine x_if rfl ?_ ?_
      · intro c1
        refine x_seq (x_region (s_do rfl (d_call Tryz.call7 rfl (awake41_spec W0 _)) ?_))
        rintro _ B_ ⟨rfl, hB_⟩
        obtain rfl := hB_.symm
        refine s_val rfl (v_assign rfl) (x_nil (n_then (x_ret (r_then (x_done (.inl rfl) (.cons (r_tmp rfl) .nil) ?_)))))
        exact ⟨_, ⟨rfl, rfl⟩, inferInstance⟩
      · intro c1
        refine x_skip (n_then (x_seq (x_seq ?_)))
        have k1 := of_decide_eq_true (show smB c = true by simp_all)
        have k2 := of_decide_eq_true (show ltB a = true by simp_all)
        have k3 := of_decide_eq_true (show ltB b = true by simp_all)
        have hG : c.gl.length ≤ 1000 := by omega
        have hP : c.pl.length ≤ 1000 := by omega
        have hA : a.sl.length ≤ 1000 ∧ a.nl.length ≤ 1000 := by omega
        have hB : b.sl.length ≤ 1000 ∧ b.nl.length ≤ 1000 := by omega
        have hg2 := Nat.le_trans hg1 hG
        have hp2 := Nat.le_trans hp1 hP
        have hs2 : (seK c l 32).length ≤ 1000 := by omega
        refine x_draw [(b4, 0, _)] 28 mixed rfl (sc_own sc_end) (fun hS => ?_)
        refine d_take 0 rfl rfl (by kernel_rfl) (by kernel_rfl) (by kernel_rfl) rfl hS (v_loadAgg Tryz.isAgg28 Tryz.sizeOf28 rfl (cells_sc (k := 0) rfl) rfl) ?_
        refine d_take 1 rfl rfl (by kernel_rfl) (by kernel_rfl) (by kernel_rfl) rfl hS (v_move rfl) ?_
        refine d_take 3 rfl rfl (by kernel_rfl) (by kernel_rfl) (by kernel_rfl) rfl hS (v_loadAgg Tryz.isAgg28 Tryz.sizeOf28 rfl (cells_sc (k := 0) rfl) rfl) ?_
        refine d_take 4 rfl rfl (by kernel_rfl) (by kernel_rfl) (by kernel_rfl) rfl hS (v_move rfl) ?_
        refine d_one 2 (by kernel_rfl) rfl rfl (d_call Tryz.call9 rfl (siGuests_spec W0 _ c h hG l)) rfl ?_; clear hS
        rintro _ B_ ⟨a1, n1, rfl, hB_⟩
        obtain rfl := hB_.symm
        refine ⟨(sc_own sc_end), fun hS => ?_⟩
        refine d_one 5 (by kernel_rfl) rfl rfl (d_call Tryz.call10 rfl (rsGuests_spec W0 _ c h hG l)) rfl ?_; clear hS
        rintro _ B_ ⟨a2, n2, rfl, hB_⟩
        obtain rfl := hB_.symm
        refine ⟨(sc_own sc_end), fun hS => ?_⟩
        refine run_sla (E := 3) (sz := 1) (a := a1) (c := n1) (n := (gsO c l).length) (fun x => [ixV x]) (gsO c l) (fun _ => rfl) (by decide) (ixV_fm _) (fun hl1 => ?_)
        refine run_sla (E := 3) (sz := 1) (a := a2) (c := n2) (n := (gsO c l).length) (fun x => [ixV x]) (gsO c l) (fun _ => rfl) (by decide) (ixV_fm _) (fun hl2 => ?_)
        refine d_one 6 (by kernel_rfl) rfl rfl (d_call Tryz.call8 rfl (ints_spec W0 _ a1 a2 n1 n2 (gsO c l) hl1 hl2 hg2)) rfl ?_; clear hS
        rintro _ B_ ⟨rfl, hB_⟩
        obtain rfl := hB_.symm
        refine ⟨(sc_own sc_end), fun hS => ?_⟩
        refine d_take 7 rfl rfl (by kernel_rfl) (by kernel_rfl) (by kernel_rfl) rfl hS (v_not rfl) ?_
        refine d_take 8 rfl rfl (by kernel_rfl) (by kernel_rfl) (by kernel_rfl) rfl hS (v_move rfl) ?_
        refine x_split (t := 31) rfl ?_ ?_
        · intro g3_9
          first | exact absurd rfl g3_9 | exact absurd (by decide) g3_9
        · intro g3_9
          refine d_take 9 rfl rfl (by kernel_rfl) (by kernel_rfl) (by kernel_rfl) rfl hS (v_loadAgg Tryz.isAgg28 Tryz.sizeOf28 rfl (cells_sc (k := 0) rfl) rfl) ?_
          refine d_take 10 rfl rfl (by kernel_rfl) (by kernel_rfl) (by kernel_rfl) rfl hS (v_move rfl) ?_
          refine d_take 12 rfl rfl (by kernel_rfl) (by kernel_rfl) (by kernel_rfl) rfl hS (v_loadAgg Tryz.isAgg28 Tryz.sizeOf28 rfl (cells_sc (k := 0) rfl) rfl) ?_
          refine d_take 13 rfl rfl (by kernel_rfl) (by kernel_rfl) (by kernel_rfl) rfl hS (v_move rfl) ?_
          refine d_one 11 (by kernel_rfl) rfl rfl (d_call Tryz.call11 rfl (siPorts_spec W0 _ c h hP l)) rfl ?_; clear hS
          rintro _ B_ ⟨a3, n3, rfl, hB_⟩
          obtain rfl := hB_.symm
          refine ⟨(sc_own sc_end), fun hS => ?_⟩
          refine d_one 14 (by kernel_rfl) rfl rfl (d_call Tryz.call12 rfl (rsPorts_spec W0 _ c h hP l)) rfl ?_; clear hS
          rintro _ B_ ⟨a4, n4, rfl, hB_⟩
          obtain rfl := hB_.symm
          refine ⟨(sc_own sc_end), fun hS => ?_⟩
          refine run_sla (E := 3) (sz := 1) (a := a3) (c := n3) (n := (poO c l).length) (fun x => [ixV x]) (poO c l) (fun _ => rfl) (by decide) (ixV_fm _) (fun hl1 => ?_)
          refine run_sla (E := 3) (sz := 1) (a := a4) (c := n4) (n := (poO c l).length) (fun x => [ixV x]) (poO c l) (fun _ => rfl) (by decide) (ixV_fm _) (fun hl2 => ?_)
          refine d_one 15 (by kernel_rfl) rfl rfl (d_call Tryz.call8 rfl (ints_spec W0 _ a3 a4 n3 n4 (poO c l) hl1 hl2 hp2)) rfl ?_; clear hS
          rintro _ B_ ⟨rfl, hB_⟩
          obtain rfl := hB_.symm
          refine ⟨(sc_own sc_end), fun hS => ?_⟩
          refine d_take 16 rfl rfl (by kernel_rfl) (by kernel_rfl) (by kernel_rfl) rfl hS (v_not rfl) ?_
          refine d_take 17 rfl rfl (by kernel_rfl) (by kernel_rfl) (by kernel_rfl) rfl hS (v_pick_f rfl rfl) ?_
          refine d_take 18 rfl rfl (by kernel_rfl) (by kernel_rfl) (by kernel_rfl) rfl hS (v_move rfl) ?_
          refine x_split (t := 41) rfl ?_ ?_
          · intro g3_19
            first | exact absurd rfl g3_19 | exact absurd (by decide) g3_19
          · intro g3_19
            refine d_take 19 rfl rfl (by kernel_rfl) (by kernel_rfl) (by kernel_rfl) rfl hS (v_loadAgg Tryz.isAgg28 Tryz.sizeOf28 rfl (cells_sc (k := 0) rfl) rfl) ?_
            refine d_take 20 rfl rfl (by kernel_rfl) (by kernel_rfl) (by kernel_rfl) rfl hS (v_move rfl) ?_
            refine d_take 22 rfl rfl (by kernel_rfl) (by kernel_rfl) (by kernel_rfl) rfl hS (v_loadAgg Tryz.isAgg28 Tryz.sizeOf28 rfl (cells_sc (k := 0) rfl) rfl) ?_
            refine d_take 23 rfl rfl (by kernel_rfl) (by kernel_rfl) (by kernel_rfl) rfl hS (v_move rfl) ?_
            refine d_one 21 (by kernel_rfl) rfl rfl (d_call Tryz.call13 rfl (siSectors_spec W0 _ c h l)) rfl ?_; clear hS
            rintro _ B_ ⟨a5, n5, rfl, hB_⟩
            obtain rfl := hB_.symm
            refine ⟨(sc_own sc_end), fun hS => ?_⟩
            refine d_one 24 (by kernel_rfl) rfl rfl (d_call Tryz.call14 rfl (rsSectors_spec W0 _ c h l)) rfl ?_; clear hS
            rintro _ B_ ⟨a6, n6, rfl, hB_⟩
            obtain rfl := hB_.symm
            refine ⟨(sc_own sc_end), fun hS => ?_⟩
            refine run_sla (E := 3) (sz := 1) (a := a5) (c := n5) (n := (seK c l 32).length) (fun x => [ixV x]) (seK c l 32) (fun _ => rfl) (by decide) (ixV_fm _) (fun hl1 => ?_)
            refine run_sla (E := 3) (sz := 1) (a := a6) (c := n6) (n := (seK c l 32).length) (fun x => [ixV x]) (seK c l 32) (fun _ => rfl) (by decide) (ixV_fm _) (fun hl2 => ?_)
            refine d_one 25 (by kernel_rfl) rfl rfl (d_call Tryz.call8 rfl (ints_spec W0 _ a5 a6 n5 n6 (seK c l 32) hl1 hl2 hs2)) rfl ?_; clear hS
            rintro _ B_ ⟨rfl, hB_⟩
            obtain rfl := hB_.symm
            refine ⟨(sc_own sc_end), fun hS => ?_⟩
            refine d_take 26 rfl rfl (by kernel_rfl) (by kernel_rfl) (by kernel_rfl) rfl hS (v_not rfl) ?_
            refine d_take 27 rfl rfl (by kernel_rfl) (by kernel_rfl) (by kernel_rfl) rfl hS (v_pick_f rfl rfl) ?_
            refine d_done (by kernel_rfl) ?_; clear hS
            refine n_then ?_
            refine x_if rfl ?_ ?_
            · intro c3
              first | exact absurd rfl c3 | exact absurd (by decide) c3
            · intro c3
              refine x_skip (n_then (x_seq ?_))
              refine x_draw [(b4, 0, _), (b5, 0, _), (b6, 0, _)] 28 mixed rfl (sc_own (sc_own (sc_own sc_end))) (fun hS => ?_)
              refine d_take 0 rfl rfl (by kernel_rfl) (by kernel_rfl) (by kernel_rfl) rfl hS (v_loadAgg Tryz.isAgg28 Tryz.sizeOf28 rfl (cells_sc (k := 0) rfl) rfl) ?_
              refine d_take 1 rfl rfl (by kernel_rfl) (by kernel_rfl) (by kernel_rfl) rfl hS (v_loadAgg Tryz.isAgg33 Tryz.sizeOf33 rfl (cells_sc (k := 1) rfl) rfl) ?_
              refine d_take 2 rfl rfl (by kernel_rfl) (by kernel_rfl) (by kernel_rfl) rfl hS (v_loadAgg Tryz.isAgg33 Tryz.sizeOf33 rfl (cells_sc (k := 2) rfl) rfl) ?_
              refine d_take 3 rfl rfl (by kernel_rfl) (by kernel_rfl) (by kernel_rfl) rfl hS (v_move rfl) ?_
              refine d_take 5 rfl rfl (by kernel_rfl) (by kernel_rfl) (by kernel_rfl) rfl hS (v_loadAgg Tryz.isAgg28 Tryz.sizeOf28 rfl (cells_sc (k := 0) rfl) rfl) ?_
              refine d_take 6 rfl rfl (by kernel_rfl) (by kernel_rfl) (by kernel_rfl) rfl hS (v_loadAgg Tryz.isAgg33 Tryz.sizeOf33 rfl (cells_sc (k := 1) rfl) rfl) ?_
              refine d_take 7 rfl rfl (by kernel_rfl) (by kernel_rfl) (by kernel_rfl) rfl hS (v_loadAgg Tryz.isAgg33 Tryz.sizeOf33 rfl (cells_sc (k := 2) rfl) rfl) ?_
              refine d_take 8 rfl rfl (by kernel_rfl) (by kernel_rfl) (by kernel_rfl) rfl hS (v_move rfl) ?_
              refine d_one 4 (by kernel_rfl) rfl rfl (d_call Tryz.call15 rfl (siAgree_spec W0 _ c h hG a b ha hb hA hB l)) rfl ?_; clear hS
              rintro _ B_ ⟨rfl, hB_⟩
              obtain rfl := hB_.symm
              refine ⟨(sc_own (sc_own (sc_own sc_end))), fun hS => ?_⟩
              refine d_one 9 (by kernel_rfl) rfl rfl (d_call Tryz.call16 rfl (rsAgree_spec W0 _ c h hG a b ha hb hA hB l)) rfl ?_; clear hS
              rintro _ B_ ⟨rfl, hB_⟩
              obtain rfl := hB_.symm
              refine ⟨(sc_own (sc_own (sc_own sc_end))), fun hS => ?_⟩
              refine d_take 10 rfl rfl (by kernel_rfl) (by kernel_rfl) (by kernel_rfl) rfl hS (v_eql_bool Tryz.underlying4 rfl rfl) ?_
              refine d_take 11 rfl rfl (by kernel_rfl) (by kernel_rfl) (by kernel_rfl) rfl hS (v_move rfl) ?_
              refine x_split (t := 62) rfl ?_ ?_
              · intro g5_12
                refine d_take 12 rfl rfl (by kernel_rfl) (by kernel_rfl) (by kernel_rfl) rfl hS (v_loadAgg Tryz.isAgg28 Tryz.sizeOf28 rfl (cells_sc (k := 0) rfl) rfl) ?_
                refine d_take 13 rfl rfl (by kernel_rfl) (by kernel_rfl) (by kernel_rfl) rfl hS (v_loadAgg Tryz.isAgg33 Tryz.sizeOf33 rfl (cells_sc (k := 1) rfl) rfl) ?_
                refine d_take 14 rfl rfl (by kernel_rfl) (by kernel_rfl) (by kernel_rfl) rfl hS (v_loadAgg Tryz.isAgg33 Tryz.sizeOf33 rfl (cells_sc (k := 2) rfl) rfl) ?_
                refine d_take 15 rfl rfl (by kernel_rfl) (by kernel_rfl) (by kernel_rfl) rfl hS (v_move rfl) ?_
                refine d_take 17 rfl rfl (by kernel_rfl) (by kernel_rfl) (by kernel_rfl) rfl hS (v_loadAgg Tryz.isAgg28 Tryz.sizeOf28 rfl (cells_sc (k := 0) rfl) rfl) ?_
                refine d_take 18 rfl rfl (by kernel_rfl) (by kernel_rfl) (by kernel_rfl) rfl hS (v_loadAgg Tryz.isAgg33 Tryz.sizeOf33 rfl (cells_sc (k := 1) rfl) rfl) ?_
                refine d_take 19 rfl rfl (by kernel_rfl) (by kernel_rfl) (by kernel_rfl) rfl hS (v_loadAgg Tryz.isAgg33 Tryz.sizeOf33 rfl (cells_sc (k := 2) rfl) rfl) ?_
                refine d_take 20 rfl rfl (by kernel_rfl) (by kernel_rfl) (by kernel_rfl) rfl hS (v_move rfl) ?_
                refine d_one 16 (by kernel_rfl) rfl rfl (d_call Tryz.call18 rfl (siMix_spec W0 _ c h hG a b ha hb za zb hA hB l)) rfl ?_; clear hS
                rintro _ B_ ⟨m, C, rfl, hm, hB_, hok⟩
                obtain rfl := hB_.symm
                refine ⟨(sc_own (sc_own (sc_own sc_end))), fun hS => ?_⟩
                refine d_one 21 (by kernel_rfl) rfl rfl (d_call Tryz.call19 rfl (rsMix_spec W0 _ c h hG a b ha hb za zb hA hB l)) rfl ?_; clear hS
                rintro _ B_ ⟨m2, C2, rfl, hm2, hB_, hok2⟩
                obtain rfl := hB_.symm
                refine ⟨(sc_own (sc_own (sc_own sc_end))), fun hS => ?_⟩
                refine d_one 22 (by kernel_rfl) rfl rfl (d_call Tryz.call17 rfl (sameM_spec W0 _ m m2 (mx_same hm hm2).1 (mx_same hm hm2).2.1 (mx_same hm hm2).2.2 (mx_sl hm k2.2.1 k3.2.1) (mx_nl hm) (mx_il hm hG) (mx_z hm za zb) (fun W hO => ⟨(hok W _ (hO.tk (r := kH) (b := 6))).1, (hok2 W _ (hO.tk (r := kH) (b := 7))).1⟩))) rfl ?_; clear hS
                rintro _ B_ ⟨rfl, hB_⟩
                obtain rfl := hB_.symm
                refine ⟨(sc_own (sc_own (sc_own sc_end))), fun hS => ?_⟩
                refine d_take 23 rfl rfl (by kernel_rfl) (by kernel_rfl) (by kernel_rfl) rfl hS (v_pick_t rfl rfl) ?_
                refine d_take 24 rfl rfl (by kernel_rfl) (by kernel_rfl) (by kernel_rfl) rfl hS (v_move rfl) ?_
                refine x_split (t := 75) rfl ?_ ?_
                · intro g5_25
                  refine d_one 25 (by kernel_rfl) rfl rfl (d_call Tryz.call7 rfl (awake41_spec W0 _)) rfl ?_; clear hS
                  rintro _ B_ ⟨rfl, hB_⟩
                  subst hB_
                  refine ⟨(sc_own (sc_own (sc_own sc_end))), fun hS => ?_⟩
                  refine d_take 26 rfl rfl (by kernel_rfl) (by kernel_rfl) (by kernel_rfl) rfl hS (v_pick_t rfl rfl) ?_
                  refine d_take 27 rfl rfl (by kernel_rfl) (by kernel_rfl) (by kernel_rfl) rfl hS (v_assign rfl) ?_
                  refine d_done (by kernel_rfl) ?_; clear hS
                  refine n_then (x_ret (x_done (.inl rfl) (.cons (r_tmp rfl) .nil) ?_))
                  exact ⟨_, ⟨rfl, rfl⟩, inferInstance⟩
                · intro g5_25
                  first | exact absurd rfl g5_25 | exact absurd (by decide) g5_25
              · intro g5_12
                first | exact absurd rfl g5_12 | exact absurd (by simp) g5_12
end Go.Proofs.YtncegikenkpcmaaGreat
namespace Go.Proofs.YtncegikenkpcmaaGreat
open Go.ChangeShapes Go.WideShapes Go.ChangeAt Go.RowKit
set_option linter.unusedSimpArgs false
set_option linter.unusedVariables false
theorem own : ownKnob Tryz.prog.godebug = none := by kernel_rfl
theorem laidOut : laidOutB Tryz.prog = true := by kernel_rfl
variable {W : World} {v : Value}
theorem wf_u32 {n : Int} (h : (Lit.int .u32 n).wf = true) : ∃ w : Nat, n = (w : Int) ∧ w < 4294967296 := by
  simp [Lit.wf, IntKind.min, IntKind.max, IntKind.signed, IntKind.bits] at h
  exact ⟨n.toNat, by omega, by omega⟩
end Go.Proofs.YtncegikenkpcmaaGreat
namespace Go.Proofs.YtncegikenkpcmaaGreat
open Go.ChangeShapes Go.WideShapes Go.ChangeAt Go.RowKit
set_option linter.unusedSimpArgs false
set_option linter.unusedVariables false
variable {W : World} {v : Value}
theorem wf_i64 {n : Int} (h : (Lit.int .i64 n).wf = true) : -9223372036854775808 ≤ n ∧ n < 9223372036854775808 := by
  simp [Lit.wf, IntKind.min, IntKind.max, IntKind.signed, IntKind.bits] at h
  omega
theorem ty_i64 (h : Ty Tryz.prog W 3 v) : ∃ n : Int, v = .int .i64 n ∧ -9223372036854775808 ≤ n ∧ n < 9223372036854775808 := by
  obtain ⟨n, rfl, hw⟩ := ty_int Tryz.underlying3 h
  exact ⟨n, rfl, wf_i64 hw⟩
end Go.Proofs.YtncegikenkpcmaaGreat
namespace Go.Proofs.YtncegikenkpcmaaGreat
open Go.ChangeShapes Go.WideShapes Go.ChangeAt Go.RowKit
set_option linter.unusedSimpArgs false
set_option linter.unusedVariables false
variable {W : World} {v : Value}
theorem list2s {l : List Value} (h : l.length = 2) : ∃ x0 x1, l = [x0, x1] := by
  match l, h with
  | [x0, x1], _ => exact ⟨x0, x1, rfl⟩
theorem list3s {l : List Value} (h : l.length = 3) : ∃ x0 x1 x2, l = [x0, x1, x2] := by
  match l, h with
  | [x0, x1, x2], _ => exact ⟨x0, x1, x2, rfl⟩
theorem list5s {l : List Value} (h : l.length = 5) : ∃ x0 x1 x2 x3 x4, l = [x0, x1, x2, x3, x4] := by
  match l, h with
  | [x0, x1, x2, x3, x4], _ => exact ⟨x0, x1, x2, x3, x4, rfl⟩
theorem list8s {l : List Value} (h : l.length = 8) : ∃ x0 x1 x2 x3 x4 x5 x6 x7, l = [x0, x1, x2, x3, x4, x5, x6, x7] := by
  match l, h with
  | [x0, x1, x2, x3, x4, x5, x6, x7], _ => exact ⟨x0, x1, x2, x3, x4, x5, x6, x7, rfl⟩
theorem inT_gst {fuel : Nat} {l : List Value} (h : InT Tryz.prog W fuel 95 l) : ∃ x : Int × Int × Int, l = gsV x ∧ True := by
  obtain ⟨hl, f', hf⟩ := inT_struct Tryz.underlying95 h
  obtain ⟨a, b, c, rfl⟩ := list3s (hl.trans (by kernel_rfl))
  have h0 := hf _ (List.mem_cons_self ..)
  have h1 := hf _ (List.mem_cons_of_mem _ (List.mem_cons_self ..))
  have h2 := hf _ (List.mem_cons_of_mem _ (List.mem_cons_of_mem _ (List.mem_cons_self ..)))
  rw [show Tryz.prog.cellsOf 3 = 1 by kernel_rfl] at h0 h1 h2
  obtain ⟨x0, e0, _⟩ := inT_int Tryz.underlying3 h0
  obtain ⟨x1, e1, _⟩ := inT_int Tryz.underlying3 h1
  obtain ⟨x2, e2, _⟩ := inT_int Tryz.underlying3 h2
  simp at e0 e1 e2
  exact ⟨(x0, x1, x2), by rw [e0, e1, e2]; rfl, trivial⟩
theorem inT_rng {fuel : Nat} {l : List Value} (h : InT Tryz.prog W fuel 151 l) : ∃ x : Int × Int × Int, l = gsV x ∧ True := by
  obtain ⟨hl, f', hf⟩ := inT_struct Tryz.underlying151 h
  obtain ⟨a, b, c, rfl⟩ := list3s (hl.trans (by kernel_rfl))
  have h0 := hf _ (List.mem_cons_self ..)
  have h1 := hf _ (List.mem_cons_of_mem _ (List.mem_cons_self ..))
  have h2 := hf _ (List.mem_cons_of_mem _ (List.mem_cons_of_mem _ (List.mem_cons_self ..)))
  rw [show Tryz.prog.cellsOf 3 = 1 by kernel_rfl] at h0 h1 h2
  obtain ⟨x0, e0, _⟩ := inT_int Tryz.underlying3 h0
  obtain ⟨x1, e1, _⟩ := inT_int Tryz.underlying3 h1
  obtain ⟨x2, e2, _⟩ := inT_int Tryz.underlying3 h2
  simp at e0 e1 e2
  exact ⟨(x0, x1, x2), by rw [e0, e1, e2]; rfl, trivial⟩
theorem inT_prt {fuel : Nat} {l : List Value} (h : InT Tryz.prog W fuel 100 l) : ∃ x : Int × Int, l = pairV x ∧ True := by
  obtain ⟨hl, f', hf⟩ := inT_struct Tryz.underlying100 h
  obtain ⟨a, b, rfl⟩ := list2s (hl.trans (by kernel_rfl))
  have h0 := hf _ (List.mem_cons_self ..)
  have h1 := hf _ (List.mem_cons_of_mem _ (List.mem_cons_self ..))
  rw [show Tryz.prog.cellsOf 3 = 1 by kernel_rfl] at h0 h1
  obtain ⟨x0, e0, _⟩ := inT_int Tryz.underlying3 h0
  obtain ⟨x1, e1, _⟩ := inT_int Tryz.underlying3 h1
  simp at e0 e1
  exact ⟨(x0, x1), by rw [e0, e1], trivial⟩
theorem inT_rin {fuel : Nat} {l : List Value} (h : InT Tryz.prog W fuel 320 l) : ∃ x : Int × Int, l = pairV x ∧ True := by
  obtain ⟨hl, f', hf⟩ := inT_struct Tryz.underlying320 h
  obtain ⟨a, b, rfl⟩ := list2s (hl.trans (by kernel_rfl))
  have h0 := hf _ (List.mem_cons_self ..)
  have h1 := hf _ (List.mem_cons_of_mem _ (List.mem_cons_self ..))
  rw [show Tryz.prog.cellsOf 3 = 1 by kernel_rfl] at h0 h1
  obtain ⟨x0, e0, _⟩ := inT_int Tryz.underlying3 h0
  obtain ⟨x1, e1, _⟩ := inT_int Tryz.underlying3 h1
  simp at e0 e1
  exact ⟨(x0, x1), by rw [e0, e1], trivial⟩
theorem inT_slt {fuel : Nat} {l : List Value} (h : InT Tryz.prog W fuel 202 l) : ∃ x : Int × Int, l = pairV x ∧ True := by
  obtain ⟨hl, f', hf⟩ := inT_struct Tryz.underlying202 h
  obtain ⟨a, b, rfl⟩ := list2s (hl.trans (by kernel_rfl))
  have h0 := hf _ (List.mem_cons_self ..)
  have h1 := hf _ (List.mem_cons_of_mem _ (List.mem_cons_self ..))
  rw [show Tryz.prog.cellsOf 3 = 1 by kernel_rfl] at h0 h1
  obtain ⟨x0, e0, _⟩ := inT_int Tryz.underlying3 h0
  obtain ⟨x1, e1, _⟩ := inT_int Tryz.underlying3 h1
  simp at e0 e1
  exact ⟨(x0, x1), by rw [e0, e1], trivial⟩
theorem ty_cfg (h : Ty Tryz.prog W 28 v) : ∃ c : Cfg, v = .agg (cfgV c).toArray ∧ CfOk W c := by
  obtain ⟨l, rfl, fuel, hI⟩ := ty_struct Tryz.underlying28 h
  obtain ⟨hl, f', hf⟩ := inT_struct Tryz.underlying28 hI
  obtain ⟨x0, x1, x2, x3, x4, x5, x6, x7, rfl⟩ := list8s (hl.trans (by kernel_rfl))
  have h0 := hf _ (List.mem_cons_self ..)
  have h1 := hf _ (List.mem_cons_of_mem _ (List.mem_cons_self ..))
  have h2 := hf _ (List.mem_cons_of_mem _ (List.mem_cons_of_mem _ (List.mem_cons_self ..)))
  have h3 := hf _ (List.mem_cons_of_mem _ (List.mem_cons_of_mem _ (List.mem_cons_of_mem _ (List.mem_cons_self ..))))
  have h4 := hf _ (List.mem_cons_of_mem _ (List.mem_cons_of_mem _ (List.mem_cons_of_mem _ (List.mem_cons_of_mem _ (List.mem_cons_self ..)))))
  have h5 := hf _ (List.mem_cons_of_mem _ (List.mem_cons_of_mem _ (List.mem_cons_of_mem _ (List.mem_cons_of_mem _ (List.mem_cons_of_mem _ (List.mem_cons_self ..))))))
  have h6 := hf _ (List.mem_cons_of_mem _ (List.mem_cons_of_mem _ (List.mem_cons_of_mem _ (List.mem_cons_of_mem _ (List.mem_cons_of_mem _ (List.mem_cons_of_mem _ (List.mem_cons_self ..)))))))
  have h7 := hf _ (List.mem_cons_of_mem _ (List.mem_cons_of_mem _ (List.mem_cons_of_mem _ (List.mem_cons_of_mem _ (List.mem_cons_of_mem _ (List.mem_cons_of_mem _ (List.mem_cons_of_mem _ (List.mem_cons_self ..))))))))
  rw [show Tryz.prog.cellsOf 3 = 1 by kernel_rfl] at h0
  rw [show Tryz.prog.cellsOf 22 = 1 by kernel_rfl] at h1
  rw [show Tryz.prog.cellsOf 23 = 1 by kernel_rfl] at h2
  rw [show Tryz.prog.cellsOf 24 = 1 by kernel_rfl] at h3
  rw [show Tryz.prog.cellsOf 25 = 1 by kernel_rfl] at h4
  rw [show Tryz.prog.cellsOf 26 = 1 by kernel_rfl] at h5
  rw [show Tryz.prog.cellsOf 3 = 1 by kernel_rfl] at h6
  rw [show Tryz.prog.cellsOf 3 = 1 by kernel_rfl] at h7
  obtain ⟨y0, e0, _⟩ := inT_int Tryz.underlying3 h0
  obtain ⟨a1, c1, L1, e1, p1, q1, r1, s1⟩ := inT_sliceF (α := Int × Int × Int) (f := gsV) (Q := fun _ => True) 3 Tryz.underlying22 (by kernel_rfl) (by decide) (fun fuel r h => inT_gst h) h1
  obtain ⟨a2, c2, L2, e2, p2, q2, r2, s2⟩ := inT_sliceF (α := Int × Int × Int) (f := gsV) (Q := fun _ => True) 3 Tryz.underlying23 (by kernel_rfl) (by decide) (fun fuel r h => inT_rng h) h2
  obtain ⟨a3, c3, L3, e3, p3, q3, r3, s3⟩ := inT_sliceF (α := Int × Int) (f := pairV) (Q := fun _ => True) 2 Tryz.underlying24 (by kernel_rfl) (by decide) (fun fuel r h => inT_prt h) h3
  obtain ⟨a4, c4, L4, e4, p4, q4, r4, s4⟩ := inT_sliceF (α := Int × Int) (f := pairV) (Q := fun _ => True) 2 Tryz.underlying25 (by kernel_rfl) (by decide) (fun fuel r h => inT_rin h) h4
  obtain ⟨a5, c5, L5, e5, p5, q5, r5, s5⟩ := inT_sliceF (α := Int × Int) (f := pairV) (Q := fun _ => True) 2 Tryz.underlying26 (by kernel_rfl) (by decide) (fun fuel r h => inT_slt h) h5
  obtain ⟨y6, e6, _⟩ := inT_int Tryz.underlying3 h6
  obtain ⟨y7, e7, _⟩ := inT_int Tryz.underlying3 h7
  simp at e0 e1 e2 e3 e4 e5 e6 e7
  exact ⟨⟨y0, a1, c1, L1, a2, c2, L2, a3, c3, L3, a4, c4, L4, a5, c5, L5, y6, y7⟩, by rw [e0, e1, e2, e3, e4, e5, e6, e7], ⟨fun A => sla_base r1, fun A => sla_base r2, fun A => sla_base r3, fun A => sla_base r4, fun A => sla_base r5, p3⟩⟩
theorem inT_w32 {fuel : Nat} {l : List Value} (h : InT Tryz.prog W fuel 47 l) : ∃ x : Nat, l = [wV x] ∧ x < 4294967296 := by
  obtain ⟨n, rfl, hw⟩ := inT_int Tryz.underlying47 h
  obtain ⟨w, rfl, h2⟩ := wf_u32 hw
  exact ⟨w, rfl, h2⟩
theorem inT_strz {fuel : Nat} {l : List Value} (h : InT Tryz.prog W fuel 9 l) : ∃ s : ByteArray, l = [.string s] ∧ s.size < 9223372036854775808 := by
  obtain ⟨s, rfl, h1⟩ := inT_str Tryz.underlying9 h
  exact ⟨s, rfl, by simp only [maxLen] at h1; omega⟩
theorem inT_sec {fuel : Nat} {l : List Value} (h : InT Tryz.prog W fuel 117 l) : ∃ x : Sec, l = seV x ∧ ((-9223372036854775808 ≤ x.at_ ∧ x.at_ < 9223372036854775808) ∧ x.d.size < 9223372036854775808) := by
  obtain ⟨hl, f', hf⟩ := inT_struct Tryz.underlying117 h
  obtain ⟨a, b, rfl⟩ := list2s (hl.trans (by kernel_rfl))
  have h0 := hf _ (List.mem_cons_self ..)
  have h1 := hf _ (List.mem_cons_of_mem _ (List.mem_cons_self ..))
  rw [show Tryz.prog.cellsOf 3 = 1 by kernel_rfl] at h0
  rw [show Tryz.prog.cellsOf 9 = 1 by kernel_rfl] at h1
  obtain ⟨x0, e0, q0⟩ := inT_int Tryz.underlying3 h0
  obtain ⟨x1, e1, q1⟩ := inT_strz h1
  simp at e0 e1
  exact ⟨⟨x0, x1⟩, by rw [e0, e1], wf_i64 q0, q1⟩
theorem inT_inp {fuel : Nat} {l : List Value} (h : InT Tryz.prog W fuel 109 l) : ∃ x : Inp, l = inpV x ∧ x.d.size < 9223372036854775808 := by
  obtain ⟨hl, f', hf⟩ := inT_struct Tryz.underlying109 h
  obtain ⟨a, b, c, d, e, rfl⟩ := list5s (hl.trans (by kernel_rfl))
  have h0 := hf _ (List.mem_cons_self ..)
  have h1 := hf _ (List.mem_cons_of_mem _ (List.mem_cons_self ..))
  have h2 := hf _ (List.mem_cons_of_mem _ (List.mem_cons_of_mem _ (List.mem_cons_self ..)))
  have h3 := hf _ (List.mem_cons_of_mem _ (List.mem_cons_of_mem _ (List.mem_cons_of_mem _ (List.mem_cons_self ..))))
  have h4 := hf _ (List.mem_cons_of_mem _ (List.mem_cons_of_mem _ (List.mem_cons_of_mem _ (List.mem_cons_of_mem _ (List.mem_cons_self ..)))))
  rw [show Tryz.prog.cellsOf 3 = 1 by kernel_rfl] at h0 h1 h2 h3
  rw [show Tryz.prog.cellsOf 9 = 1 by kernel_rfl] at h4
  obtain ⟨x0, e0, _⟩ := inT_int Tryz.underlying3 h0
  obtain ⟨x1, e1, _⟩ := inT_int Tryz.underlying3 h1
  obtain ⟨x2, e2, _⟩ := inT_int Tryz.underlying3 h2
  obtain ⟨x3, e3, _⟩ := inT_int Tryz.underlying3 h3
  obtain ⟨x4, e4, q4⟩ := inT_strz h4
  simp at e0 e1 e2 e3 e4
  exact ⟨⟨x0, x1, x2, x3, x4⟩, by rw [e0, e1, e2, e3, e4], q4⟩
end Go.Proofs.YtncegikenkpcmaaGreat
namespace Go.Proofs.YtncegikenkpcmaaGreat
open Go.ChangeShapes Go.WideShapes Go.ChangeAt Go.RowKit
set_option linter.unusedSimpArgs false
set_option linter.unusedVariables false
def SzT (P : Program) (w : World) : Nat → TypeId → List Value → Prop
  | 0, _, _ => False
  | fuel + 1, t, cs =>
    match P.underlying t with
    | some .bool => ∃ b, cs = [.bool b]
    | some (.int k) => ∃ n, cs = [.int k n] ∧ (Lit.int k n).wf = true
    | some .string => ∃ s, cs = [.string s] ∧ s.size ≤ maxLen
    | some (.slice e) => cs = [.slice none 0 0] ∨ ∃ a len cap, cs = [.slice (some a) len cap] ∧ len ≤ cap ∧ cap ≤ maxLen ∧ len * P.bytesOf e ≤ reachBytes ∧
        ∀ i, i < len → ∃ cs', w.cells? 0 (a.add (i * P.cellsOf e)) (P.cellsOf e) = some cs' ∧ SzT P w fuel e cs'
    | some (.struct fs) => cs.length = P.cellsOf t ∧ ∀ f : Field, f ∈ fs.toList → SzT P w fuel f.type ((cs.drop f.offset).take (P.cellsOf f.type))
    | some (.array n e) => cs.length = P.cellsOf t ∧ ∀ i, i < n → SzT P w fuel e ((cs.drop (i * P.cellsOf e)).take (P.cellsOf e))
    | _ => True
section
variable {H : Type} {enc : TypeId × Value → H} {P : Program} {w W : World} {t : TypeId} {v : Value}
theorem weights_mem_all {e : TypeId} : ∀ {ds : List (DataW H)} {d : DataW H}, d ∈ ds → ∀ n ∈ d.weights P e, n ∈ DataW.weightsAll P e ds
  | x :: ds, d, h, n, hn => by
    rw [DataW.weightsAll, List.mem_append]
    rcases List.mem_cons.1 h with rfl | h
    · exact .inl hn
    · exact .inr (weights_mem_all h n hn)
theorem szT_of_trod {sp : Nat → Bool} : ∀ (fuel : Nat) (t : TypeId) (cs : List Value) (x : DataW H × List MemPlace), DataW.trod enc P w 0 sp true fuel t cs = some x → (∀ n ∈ x.1.weights P t, n ≤ reachBytes) → SzT P w fuel t cs
  | 0, t, cs, x, h, _ => by simp [DataW.trod] at h
  | fuel + 1, t, cs, x, h, hz => by
    unfold SzT
    cases hu : P.underlying t with
    | none => trivial
    | some d =>
      cases d with
      | bool =>
        simp only []
        unfold DataW.trod at h; simp only [hu] at h
        split at h <;> simp_all
      | int k =>
        simp only []
        obtain ⟨n, hc, _, hw⟩ := DataW.trod_int hu h
        exact ⟨n, hc, hw⟩
      | string =>
        simp only []
        unfold DataW.trod at h; simp only [hu] at h
        split at h <;> simp_all
      | slice e =>
        simp only []
        rcases DataW.trod_slice hu h with ⟨hc, _⟩ | ⟨a, len, cap, elems, rest, n, hf, hc, hx, _, hl, hm, hle, hel, _⟩
        · exact .inl hc
        · have hw : ∀ n ∈ ((elems.map (·.1)).length + (rest.map (·.1)).length) * P.bytesOf e :: (DataW.weightsAll P e (elems.map (·.1)) ++ DataW.weightsAll P e (rest.map (·.1))), n ≤ reachBytes := by
            rw [hx] at hz
            simpa only [DataW.weights, hu] using hz
          refine .inr ⟨a, len, cap, hc, hl, hm, ?_, fun i hi => ?_⟩
          · have h1 := hw _ (List.mem_cons_self ..)
            rw [List.length_map, List.length_map, hle] at h1
            exact Nat.le_trans (Nat.mul_le_mul_right _ (Nat.le_add_right _ _)) h1
          · obtain rfl : fuel = n := by omega
            have h1 := hel i hi
            have h2 : elems[i]? = some elems[i] := by simp
            rw [h2] at h1
            cases hcs : w.cells? 0 (a.add (i * P.cellsOf e)) (P.cellsOf e) with
            | none => rw [hcs] at h1; cases h1
            | some cs' =>
              rw [hcs] at h1
              refine ⟨cs', rfl, szT_of_trod fuel e cs' _ h1 fun n hn => hw n (List.mem_cons_of_mem _ (List.mem_append_left _ ?_))⟩
              exact weights_mem_all (List.mem_map.2 ⟨elems[i], List.getElem_mem _, rfl⟩) n hn
      | struct fs =>
        simp only []
        obtain ⟨xs, n, hf, hx, hlen, hxs, hel⟩ := DataW.trod_struct hu h
        obtain rfl : fuel = n := by omega
        have hw : ∀ n ∈ DataW.weightsEach P (fs.toList.map (·.type)) (xs.map (·.1)), n ≤ reachBytes := by
          rw [hx] at hz
          simpa only [DataW.weights, hu] using hz
        refine ⟨hlen, fun f hm => ?_⟩
        obtain ⟨i, hi, hfi⟩ := List.getElem_of_mem hm
        have h1 := hel i f (by simp at hi; simp [← hfi, hi])
        have hix : i < xs.length := by simp at hi; omega
        have h2 : xs[i]? = some xs[i] := by simp [hix]
        rw [h2] at h1
        refine szT_of_trod fuel _ _ _ h1 fun n hn => hw n ?_
        exact DataW.weights_mem_each (j := i) (t := f.type) (d := xs[i].1) (by simp at hi; simp [← hfi, hi]) (by simp [hix]) n hn
      | array n e =>
        simp only []
        obtain ⟨xs, m, hf, hx, hlen, hxs, hel⟩ := DataW.trod_array hu h
        obtain rfl : fuel = m := by omega
        have hw : ∀ n ∈ DataW.weightsAll P e (xs.map (·.1)), n ≤ reachBytes := by
          rw [hx] at hz
          simpa only [DataW.weights, hu] using hz
        refine ⟨hlen, fun i hi => ?_⟩
        have h1 := hel i hi
        have hix : i < xs.length := by omega
        have h2 : xs[i]? = some xs[i] := by simp [hix]
        rw [h2] at h1
        exact szT_of_trod fuel _ _ _ h1 fun n hn => hw n (weights_mem_all (List.mem_map.2 ⟨xs[i], List.getElem_mem _, rfl⟩) n hn)
      | _ => trivial
theorem szT_inT : ∀ (fuel : Nat) (t : TypeId) (cs : List Value), SzT P w fuel t cs → InT P w fuel t cs
  | 0, _, _, h => h.elim
  | fuel + 1, t, cs, h => by
    unfold SzT at h; unfold InT
    cases hu : P.underlying t with
    | none => trivial
    | some d =>
      rw [hu] at h
      cases d with
      | slice e =>
        simp only [] at h ⊢
        rcases h with h | ⟨a, l, c, h1, h2, h3, _, h4⟩
        · exact .inl h
        · refine .inr ⟨a, l, c, h1, h2, h3, fun i hi => ?_⟩
          obtain ⟨cs', k1, k2⟩ := h4 i hi
          exact ⟨cs', k1, szT_inT fuel e cs' k2⟩
      | struct fs => exact ⟨h.1, fun f hf => szT_inT fuel _ _ (h.2 f hf)⟩
      | array n e => exact ⟨h.1, fun i hi => szT_inT fuel _ _ (h.2 i hi)⟩
      | _ => exact h
theorem szT_struct {fs : Array Field} {fuel : Nat} {cs : List Value} (hu : P.underlying t = some (.struct fs)) (h : SzT P W fuel t cs) : cs.length = P.cellsOf t ∧ ∃ f', ∀ f : Field, f ∈ fs.toList → SzT P W f' f.type ((cs.drop f.offset).take (P.cellsOf f.type)) := by
  cases fuel with
  | zero => exact h.elim
  | succ f => unfold SzT at h; simp only [hu] at h; exact ⟨h.1, f, h.2⟩
theorem szT_slice {e : TypeId} {fuel : Nat} {cs : List Value} (hu : P.underlying t = some (.slice e)) (h : SzT P W fuel t cs) : cs = [.slice none 0 0] ∨ ∃ a len cap, cs = [.slice (some a) len cap] ∧ len ≤ cap ∧ cap ≤ maxLen ∧ len * P.bytesOf e ≤ reachBytes ∧
        ∃ f', ∀ i, i < len → ∃ cs', W.cells? 0 (a.add (i * P.cellsOf e)) (P.cellsOf e) = some cs' ∧ SzT P W f' e cs' := by
  cases fuel with
  | zero => exact h.elim
  | succ f =>
    unfold SzT at h; simp only [hu] at h
    rcases h with h | ⟨a, l, c, h1, h2, h3, h4, h5⟩
    · exact .inl h
    · exact .inr ⟨a, l, c, h1, h2, h3, h4, f, h5⟩
theorem szT_sliceF {α : Type} {f : α → List Value} {Q : α → Prop} {e : TypeId} {fuel : Nat} {cs : List Value} (sz by_ : Nat) (hu : P.underlying t = some (.slice e)) (hsz : P.cellsOf e = sz) (hby : P.bytesOf e = by_) (hc : 0 < sz) (hdec : ∀ fuel r, SzT P W fuel e r → ∃ x, r = f x ∧ Q x) (h : SzT P W fuel t cs) :
    ∃ a c xs, cs = [.slice a (List.length (α := α) xs) c] ∧ xs.length ≤ c ∧ c ≤ maxLen ∧ xs.length * by_ ≤ reachBytes ∧ SlB W a sz f xs ∧ ∀ x ∈ xs, Q x := by
  subst hsz; subst hby
  rcases szT_slice hu h with rfl | ⟨a', n', c', rfl, hl, hm, hz, f', hr⟩
  · exact ⟨none, 0, [], rfl, by simp, by omega, by simp, fun i x hx => by simp at hx, fun x hx => by simp at hx⟩
  · obtain ⟨rows, hlen, hq⟩ := choose_list n' hr
    obtain ⟨xs, rfl, hQ⟩ := rows_map (rows := rows) (f := f) (Q := Q) fun r hr => by
      obtain ⟨i, hi, rfl⟩ := List.getElem_of_mem hr
      exact hdec _ _ (hq i rows[i] (by simp)).2
    rw [List.length_map] at hlen
    subst hlen
    refine ⟨some a', c', xs, rfl, hl, hm, hz, fun i x hx => ?_, hQ⟩
    obtain ⟨h4, _⟩ := hq i (f x) (by simp [hx])
    obtain ⟨hs, hlr, hcell⟩ := cells?_spec hc h4
    have hpos : 0 < xs.length := by
      rcases Nat.eq_zero_or_pos xs.length with q | q
      · have := List.eq_nil_of_length_eq_zero q; subst this; simp at hx
      · exact q
    obtain ⟨h5, _⟩ := hq 0 (f xs[0]) (by simp [hpos])
    obtain ⟨hs0, _⟩ := cells?_spec hc h5
    obtain ⟨b, o, s⟩ := a'
    simp only [Nat.zero_mul, Addr.add, if_true] at hs0
    subst hs0
    refine ⟨b, o, rfl, fun A j v hv => ?_⟩
    have := hcell j v hv
    rw [add_none] at this
    exact cell_base this
theorem sz_all {sp : Nat → Bool} : ∀ (ts : List TypeId) (vs : List Value) (ds : List (DataW H)) (p : List MemPlace), (∀ (j : Nat) t d, ts[j]? = some t → ds[j]? = some d → ∀ n ∈ d.weights P t, n ≤ reachBytes) →
    DataW.TrodAll enc P W 0 sp true ts vs ds p → ∀ (j : Nat) t v, ts[j]? = some t → vs[j]? = some v → ∃ fuel, SzT P W fuel t v.cells.toList
  | [], _, _, p, _, h => fun j t v h => by simp at h
  | _ :: _, [], _, p, _, h => by cases h
  | _ :: _, _ :: _, [], p, _, h => by cases h
  | t :: ts, v :: vs, d :: ds, p, hz, h => by
    obtain ⟨q, q', h1, h2, rfl⟩ := h
    intro j t' v' ht hv
    cases j with
    | zero =>
      simp only [List.getElem?_cons_zero, Option.some.injEq] at ht hv
      subst ht; subst hv
      obtain ⟨fuel, hf⟩ := h1
      exact ⟨fuel, szT_of_trod fuel t _ _ hf (hz 0 t d rfl rfl)⟩
    | succ j => exact sz_all ts vs ds q' (fun j t d ht hd => hz (j + 1) t d (by simpa using ht) (by simpa using hd)) h2 j t' v' (by simpa using ht) (by simpa using hv)
theorem sz_of {ts us : List TypeId} {ds es : List (DataW H)} (h : (DataW.weightsEach P (ts ++ us) (ds ++ es)).all (· ≤ reachBytes) = true) (hl : ts.length = ds.length) : ∀ (j : Nat) t d, ts[j]? = some t → ds[j]? = some d → ∀ n ∈ d.weights P t, n ≤ reachBytes := fun j t d ht hd n hn => by
  have hj := (List.getElem?_eq_some_iff.1 ht).1
  have := List.all_eq_true.1 h n (DataW.weights_mem_each (j := j) (t := t) (d := d) (by rw [List.getElem?_append_left hj]; exact ht) (by rw [List.getElem?_append_left (by omega)]; exact hd) n hn)
  simpa using this
end
end Go.Proofs.YtncegikenkpcmaaGreat
namespace Go.Proofs.YtncegikenkpcmaaGreat
open Go.ChangeShapes Go.WideShapes Go.ChangeAt Go.RowKit
set_option linter.unusedSimpArgs false
set_option linter.unusedVariables false
variable {W : World} {v : Value}
theorem szT_img {fuel : Nat} {l : List Value} (h : SzT Tryz.prog W fuel 45 l) : ∃ x : Img, l = imgV x ∧ (SlB W x.a 1 (fun x => [wV x]) x.l ∧ x.l.length ≤ x.c ∧ x.l.length ≤ 35184372087808 ∧ ∀ w ∈ x.l, w < 4294967296) := by
  obtain ⟨a, c, xs, e, p, q, z, r, s⟩ := szT_sliceF (f := fun x => [wV x]) (Q := fun x => x < 4294967296) 1 4 Tryz.underlying45 (by kernel_rfl) (by kernel_rfl) (by decide) (fun fuel r h => inT_w32 (szT_inT _ _ _ h)) h
  have hz : reachBytes = 140737488351232 := rfl
  exact ⟨⟨a, c, xs⟩, e, r, p, by show xs.length ≤ _; omega, s⟩
theorem ty_scrZ (h : Ty Tryz.prog W 33 v) (hz : ∃ fuel, SzT Tryz.prog W fuel 33 v.cells.toList) : ∃ s : Scr, v = .agg (scrV s).toArray ∧ ScrOk W s ∧ ImgZ s := by
  obtain ⟨l, rfl, _⟩ := ty_struct Tryz.underlying33 h
  obtain ⟨fuel, hI0⟩ := hz
  have hI : SzT Tryz.prog W fuel 33 l := hI0
  obtain ⟨hl, f', hf⟩ := szT_struct Tryz.underlying33 hI
  obtain ⟨x0, x1, x2, rfl⟩ := list3s (show l.length = 3 from hl.trans (by kernel_rfl))
  have h0 := hf _ (List.mem_cons_self ..)
  have h1 := hf _ (List.mem_cons_of_mem _ (List.mem_cons_self ..))
  have h2 := hf _ (List.mem_cons_of_mem _ (List.mem_cons_of_mem _ (List.mem_cons_self ..)))
  rw [show Tryz.prog.cellsOf 29 = 1 by kernel_rfl] at h0
  rw [show Tryz.prog.cellsOf 30 = 1 by kernel_rfl] at h1
  rw [show Tryz.prog.cellsOf 31 = 1 by kernel_rfl] at h2
  obtain ⟨a0, c0, L0, e0, p0, q0, _, r0, s0⟩ := szT_sliceF (f := imgV) (Q := fun x => SlB W x.a 1 (fun x => [wV x]) x.l ∧ x.l.length ≤ x.c ∧ x.l.length ≤ 35184372087808 ∧ ∀ w ∈ x.l, w < 4294967296) 1 24 Tryz.underlying29 (by kernel_rfl) (by kernel_rfl) (by decide) (fun fuel r h => szT_img h) h0
  obtain ⟨a1, c1, L1, e1, p1, q1, r1, s1⟩ := inT_sliceF (f := seV) (Q := fun x => (-9223372036854775808 ≤ x.at_ ∧ x.at_ < 9223372036854775808) ∧ x.d.size < 9223372036854775808) 2 Tryz.underlying30 (by kernel_rfl) (by decide) (fun fuel r h => inT_sec h) (szT_inT _ _ _ h1)
  obtain ⟨a2, c2, L2, e2, p2, q2, r2, s2⟩ := inT_sliceF (f := inpV) (Q := fun x => x.d.size < 9223372036854775808) 5 Tryz.underlying31 (by kernel_rfl) (by decide) (fun fuel r h => inT_inp h) (szT_inT _ _ _ h2)
  simp at e0 e1 e2
  refine ⟨⟨a0, c0, L0, a1, c1, L1, a2, c2, L2⟩, by rw [e0, e1, e2], ⟨fun A => sla_base r0, fun x hx A => sla_base (s0 x hx).1, fun x hx => ?_, fun x hx => (s0 x hx).2.2.2, fun A => sla_base r1, s1, fun A => sla_base r2, s2⟩, fun x hx => (s0 x hx).2.2.1⟩
  obtain ⟨k1, k2, k3, k4⟩ := s0 x hx
  exact ⟨k2, by omega⟩
end Go.Proofs.YtncegikenkpcmaaGreat
