/-
  Part 3 of the proof of SightMix: rules, and walks of functions. Conditions: none.
-/
import Derived.Test.YtncegikenkpcmaaSightMixB
namespace Go.Proofs.Ytncegikenkpcmaa
open Go.RowKit
set_option linter.unusedSimpArgs false
set_option linter.unusedVariables false
set_option maxRecDepth 20000
theorem CfOk.now {W0 W : World} {A : List HP} {c : Cfg} (h : CfOk W0 c) (hO : Own W0 W A) : CfOk W c :=
  ⟨sla_now hO (h.g A), sla_now hO (h.r A), sla_now hO (h.p A), sla_now hO (h.n A), sla_now hO (h.s A), h.pc⟩
theorem ScrOk.now {W0 W : World} {A : List HP} {s : Scr} (h : ScrOk W0 s) (hO : Own W0 W A) : ScrOk W s :=
  ⟨sla_now hO (h.i A), fun x hx => sla_now hO (h.w x hx A), h.wl, h.wb, sla_now hO (h.sx A), h.sb, sla_now hO (h.n A), h.nb⟩
structure MxIs (c : Cfg) (a b : Scr) (l : Int) (m : Scr) : Prop where
  il : m.il.map (fun x => x.l) = if rt c = true then imM c a b l c.gl.length else []
  sl : m.sl = if rt c = true then seM c a b l else []
  nl : m.nl = if rt c = true then (nlM c a b l).take 256 else []
theorem imM_mem {c : Cfg} {a b : Scr} {l : Int} {n : Nat} {w : List Nat} (h : w ∈ imM c a b l n) : ∃ i s, (s = a ∨ s = b) ∧ w = (wrdI s i).l := by
  unfold imM at h
  obtain ⟨i, _, rfl⟩ := List.mem_map.1 h
  refine ⟨i, pikS c a b l i, ?_, rfl⟩
  unfold pikS; split
  · exact .inl rfl
  · exact .inr rfl
@[reducible] def mixC (aa as_ an : Option Addr) (k1 k2 k3 : Nat) (im : List Img) (se : List Sec) (nl : List Inp) : List HP :=
  [osl 58 1 (.slice aa im.length k1) (im.flatMap imgV), kH 5 (grp (im.map imgH)), osl 74 2 (.slice as_ se.length k2) (se.flatMap seV), osl 65 5 (.slice an nl.length k3) (nl.flatMap inpV)]
theorem own_img {W0 W : World} {im : List Img} {A : List HP} (hO : Own W0 W (kH 5 (grp (im.map imgH)) :: A)) {x : Img} (hx : x ∈ im) : ∃ R, Own W0 W (imgH x :: R) := by
  have h1 : Own W0 W (im.map imgH ++ A) := hO.ent ent_open
  obtain ⟨i, hi, rfl⟩ := List.getElem_of_mem hx
  have hp := perm_erase (im.map imgH) i (by simpa using hi)
  rw [List.getElem_map] at hp
  exact ⟨_, h1.perm (hp.append_right A)⟩
theorem mix_ok {W0 W : World} {A : List HP} {c : Cfg} {a b : Scr} {l : Int} (ha : ScrOk W0 a) (hb : ScrOk W0 b) (za : ImgZ a) (zb : ImgZ b) {aa as_ an : Option Addr} {k1 k2 k3 : Nat} {im : List Img}
    (him : im.map (fun x => x.l) = imM c a b l c.gl.length) (hO : Own W0 W (mixC aa as_ an k1 k2 k3 im (seM c a b l) (nlM c a b l) ++ A)) :
    ScrOk W ⟨aa, k1, im, as_, k2, seM c a b l, an, k3, (nlM c a b l).take 256⟩ ∧ ImgZ ⟨aa, k1, im, as_, k2, seM c a b l, an, k3, (nlM c a b l).take 256⟩ := by
  simp only [mixC, List.cons_append, List.nil_append] at hO
  have hw : ∀ x ∈ im, ∃ i s, (s = a ∨ s = b) ∧ x.l = (wrdI s i).l := fun x hx => imM_mem (by rw [← him]; exact List.mem_map.2 ⟨x, hx, rfl⟩)
  have hz : ∀ x ∈ im, x.l.length ≤ 35184372087808 := fun x hx => by
    obtain ⟨i, s, hs, e⟩ := hw x hx
    rw [e]
    rcases hs with rfl | rfl
    · exact wrdI_z za i
    · exact wrdI_z zb i
  have hk := hO.tk (r := kH) (b := 5)
  refine ⟨⟨?_, fun x hx => ?_, fun x hx => ?_, fun x hx w hw' => ?_, ?_, fun x hx => ?_, ?_, fun x hx => ?_⟩, hz⟩
  · exact sla_now hO (sla_own (E := 58) (a := aa) (n := im.length) (c := k1) (xs := im) (f := imgV) (fun _ => rfl) (by decide) rfl hO)
  · obtain ⟨R, hR⟩ := own_img hk hx
    unfold imgH at hR
    exact sla_now hR (sla_own (E := 62) (a := x.a) (n := x.l.length) (c := x.c) (xs := x.l) (f := fun x => [wV x]) (sz := 1) (fun _ => rfl) (by decide) (wV_fm x.l).symm hR)
  · obtain ⟨R, hR⟩ := own_img hk hx
    unfold imgH at hR
    have h2 := hz x hx
    refine ⟨?_, by omega⟩
    rcases hR.osl with ⟨k1, _, _⟩ | ⟨_, _, _, _, k1, q2, _⟩
    · have := (Value.slice.inj k1).2; omega
    · have := (Value.slice.inj k1).2; omega
  · obtain ⟨i, s, hs, e⟩ := hw x hx
    have hw' : w ∈ x.l := hw'
    rw [e] at hw'
    rcases hs with rfl | rfl
    · exact (wrdI_ok ha i).2.2.1 w hw'
    · exact (wrdI_ok hb i).2.2.1 w hw'
  · exact sla_now hO (sla_own (E := 74) (a := as_) (n := (seM c a b l).length) (c := k2) (xs := seM c a b l) (f := seV) seV_len (by decide) rfl hO)
  · have hx : x ∈ seM c a b l := hx
    unfold seM at hx
    rcases List.mem_append.1 hx with q | q
    · exact ha.sb x (List.mem_filter.1 q).1
    · exact hb.sb x (List.mem_filter.1 q).1
  · intro B
    exact (sla_now hO (sla_own (E := 65) (a := an) (n := (nlM c a b l).length) (c := k3) (xs := nlM c a b l) (f := inpV) inpV_len (by decide) rfl hO) B).take 256
  · have hx : x ∈ (nlM c a b l).take 256 := hx
    have hx := List.mem_of_mem_take hx
    unfold nlM at hx
    rcases List.mem_append.1 hx with q | q
    · exact ha.nb x (List.mem_filter.1 q).1
    · exact hb.nb x (List.mem_filter.1 q).1
theorem zero_ok (W : World) : ScrOk W ⟨none, 0, [], none, 0, [], none, 0, []⟩ ∧ ImgZ ⟨none, 0, [], none, 0, [], none, 0, []⟩ :=
  ⟨⟨fun A => sla_nil, fun x hx => by simp at hx, fun x hx => by simp at hx, fun x hx => by simp at hx, fun A => sla_nil, fun x hx => by simp at hx, fun A => sla_nil, fun x hx => by simp at hx⟩, fun x hx => by simp at hx⟩
theorem siMix_spec (W0 : World) (R : List HP) (c : Cfg) (h : CfOk W0 c) (hgl : c.gl.length ≤ 1000) (a b : Scr) (ha : ScrOk W0 a) (hb : ScrOk W0 b) (za : ImgZ a) (zb : ImgZ b) (la : a.sl.length ≤ 1000 ∧ a.nl.length ≤ 1000) (lb : b.sl.length ≤ 1000 ∧ b.nl.length ≤ 1000) (l : Int) :
    Spec Try.prog W0 13 [.agg (cfgV c).toArray, .agg (scrV a).toArray, .agg (scrV b).toArray, .int .i64 l] R
      (fun v B => ∃ (m : Scr) (C : List HP), v = .agg (scrV m).toArray ∧ MxIs c a b l m ∧ B = kH 6 (grp C) :: R ∧ (∀ W A, Own W0 W (kH 6 (grp C) :: A) → ScrOk W m ∧ ImgZ m)) := by
  obtain ⟨w, hw⟩ : ∃ w, rt c = w := ⟨_, rfl⟩
  refine spec_body Try.func13 Try.ntmps13 rfl rfl ?_
  refine x_seq (x_region (s_do rfl (d_boxA rfl) ?_))
  rintro _ _ ⟨b4, rfl, rfl⟩
  refine s_do rfl (d_boxA rfl) ?_
  rintro _ _ ⟨b5, rfl, rfl⟩
  refine s_do rfl (d_boxA rfl) ?_
  rintro _ _ ⟨b6, rfl, rfl⟩
  refine s_do rfl (d_allocA Try.zeroValue33) ?_
  rintro _ _ ⟨b8, rfl, rfl⟩
  refine x_nil (n_then (x_seq (x_seq (x_region (s_val rfl (v_loadAll Try.isAgg28 Try.sizeOf28 rfl rfl) ?_)))))
  refine s_do rfl (d_call Try.call18 rfl (siRight_spec W0 _ c h)) ?_
  rintro _ B_ ⟨rfl, hB_⟩
  obtain rfl := hB_.symm
  rw [hw]
  refine s_val rfl (v_not rfl) (x_nil (n_then ?_))
  refine x_if rfl ?_ ?_
  · intro c1
    refine x_seq (x_region (s_val rfl (v_build Try.underlying33 Try.zeroValue33 (sized_cons Try.sizeOf29 (sized_cons Try.sizeOf30 (sized_cons Try.sizeOf31 sized_nil))) fil_nil) ?_))
    refine s_do0 (d_storeAll Try.sizeOf33 rfl rfl rfl rfl rfl) ?_
    rintro _ _ rfl
    refine x_nil (n_then (x_ret (r_then (x_done (.inl rfl) (.cons (r_all Try.isAgg33 Try.sizeOf33 rfl rfl) .nil) ?_))))
    have hw0 : rt c = false := by rw [hw]; simpa using c1
    refine ⟨_, ⟨⟨none, 0, [], none, 0, [], none, 0, []⟩, [], rfl, ⟨by rw [hw0]; rfl, by rw [hw0]; rfl, by rw [hw0]; rfl⟩, rfl, fun W A _ => zero_ok W⟩, ?_⟩
    exact Ent.trans (inferInstance : Ent _ R) (ent_shut (A := []))
  · intro c1
    refine x_skip (n_then (x_seq ?_))
    refine x_draw [(b4, 0, _), (b5, 0, _), (b6, 0, _)] 17 mixed rfl (sc_own (sc_own (sc_own sc_end))) (fun hS => ?_)
    refine d_take 0 rfl rfl (by kernel_rfl) (by kernel_rfl) (by kernel_rfl) rfl hS (v_loadAgg Try.isAgg28 Try.sizeOf28 rfl (by first | exact cells_sc (k := 0) rfl | exact cells_sc (k := 1) rfl | exact cells_sc (k := 2) rfl) rfl) ?_
    refine d_take 1 rfl rfl (by kernel_rfl) (by kernel_rfl) (by kernel_rfl) rfl hS (v_loadAgg Try.isAgg33 Try.sizeOf33 rfl (by first | exact cells_sc (k := 0) rfl | exact cells_sc (k := 1) rfl | exact cells_sc (k := 2) rfl) rfl) ?_
    refine d_take 2 rfl rfl (by kernel_rfl) (by kernel_rfl) (by kernel_rfl) rfl hS (v_loadAgg Try.isAgg33 Try.sizeOf33 rfl (by first | exact cells_sc (k := 0) rfl | exact cells_sc (k := 1) rfl | exact cells_sc (k := 2) rfl) rfl) ?_
    refine d_take 3 rfl rfl (by kernel_rfl) (by kernel_rfl) (by kernel_rfl) rfl hS (v_move rfl) ?_
    refine d_take 5 rfl rfl (by kernel_rfl) (by kernel_rfl) (by kernel_rfl) rfl hS (v_loadAgg Try.isAgg28 Try.sizeOf28 rfl (by first | exact cells_sc (k := 0) rfl | exact cells_sc (k := 1) rfl | exact cells_sc (k := 2) rfl) rfl) ?_
    refine d_take 6 rfl rfl (by kernel_rfl) (by kernel_rfl) (by kernel_rfl) rfl hS (v_loadAgg Try.isAgg33 Try.sizeOf33 rfl (by first | exact cells_sc (k := 0) rfl | exact cells_sc (k := 1) rfl | exact cells_sc (k := 2) rfl) rfl) ?_
    refine d_take 7 rfl rfl (by kernel_rfl) (by kernel_rfl) (by kernel_rfl) rfl hS (v_loadAgg Try.isAgg33 Try.sizeOf33 rfl (by first | exact cells_sc (k := 0) rfl | exact cells_sc (k := 1) rfl | exact cells_sc (k := 2) rfl) rfl) ?_
    refine d_take 8 rfl rfl (by kernel_rfl) (by kernel_rfl) (by kernel_rfl) rfl hS (v_move rfl) ?_
    refine d_take 10 rfl rfl (by kernel_rfl) (by kernel_rfl) (by kernel_rfl) rfl hS (v_loadAgg Try.isAgg28 Try.sizeOf28 rfl (by first | exact cells_sc (k := 0) rfl | exact cells_sc (k := 1) rfl | exact cells_sc (k := 2) rfl) rfl) ?_
    refine d_take 11 rfl rfl (by kernel_rfl) (by kernel_rfl) (by kernel_rfl) rfl hS (v_loadAgg Try.isAgg33 Try.sizeOf33 rfl (by first | exact cells_sc (k := 0) rfl | exact cells_sc (k := 1) rfl | exact cells_sc (k := 2) rfl) rfl) ?_
    refine d_take 12 rfl rfl (by kernel_rfl) (by kernel_rfl) (by kernel_rfl) rfl hS (v_loadAgg Try.isAgg33 Try.sizeOf33 rfl (by first | exact cells_sc (k := 0) rfl | exact cells_sc (k := 1) rfl | exact cells_sc (k := 2) rfl) rfl) ?_
    refine d_take 13 rfl rfl (by kernel_rfl) (by kernel_rfl) (by kernel_rfl) rfl hS (v_move rfl) ?_
    refine d_one 4 (by kernel_rfl) rfl rfl (d_call Try.call33 rfl (siImages_spec W0 _ c h hgl a b ha hb za zb l)) rfl ?_; clear hS
    rintro _ B_ ⟨aa, k1, im, rfl, him, hB_⟩
    obtain rfl := hB_.symm
    refine ⟨(sc_own (sc_own (sc_own sc_end))), fun hS => ?_⟩
    refine d_one 9 (by kernel_rfl) rfl rfl (d_call Try.call34 rfl (siSectorsM_spec W0 _ c h a b ha hb la.1 lb.1 l)) rfl ?_; clear hS
    rintro _ B_ ⟨as_, k2, rfl, hB_⟩
    obtain rfl := hB_.symm
    refine ⟨(sc_own (sc_own (sc_own sc_end))), fun hS => ?_⟩
    refine d_one 14 (by kernel_rfl) rfl rfl (d_call Try.call35 rfl (siInputs_spec W0 _ c h a b ha hb la.2 lb.2 l)) rfl ?_; clear hS
    rintro _ B_ ⟨an, k3, rfl, hk3, hB_⟩
    obtain rfl := hB_.symm
    refine ⟨(sc_own (sc_own (sc_own sc_end))), fun hS => ?_⟩
    refine d_take 15 rfl rfl (by kernel_rfl) (by kernel_rfl) (by kernel_rfl) rfl hS (v_build Try.underlying33 Try.zeroValue33 (sized_cons Try.sizeOf29 (sized_cons Try.sizeOf30 (sized_cons Try.sizeOf31 sized_nil))) (fil_scal rfl Try.sizeOf29 rfl rfl (Nat.le_of_ble_eq_true rfl) SetL.eq (fil_scal rfl Try.sizeOf30 rfl rfl (Nat.le_of_ble_eq_true rfl) SetL.eq (fil_scal rfl Try.sizeOf31 rfl rfl (Nat.le_of_ble_eq_true rfl) SetL.eq fil_nil)))) ?_
    refine d_one 16 (by kernel_rfl) rfl rfl (d_storeAll Try.sizeOf33 rfl rfl rfl rfl rfl) rfl ?_; clear hS
    rintro _ _ rfl
    refine ⟨(sc_own (sc_own (sc_own sc_end))), fun hS => ?_⟩
    refine d_done (by kernel_rfl) ?_; clear hS
    refine n_then (x_ret (x_done (.inl rfl) (.cons (r_all Try.isAgg33 Try.sizeOf33 rfl rfl) .nil) ?_))
    have hw1 : rt c = true := by rw [hw]; simpa using c1
    refine ⟨_, ⟨⟨aa, k1, im, as_, k2, seM c a b l, an, k3, (nlM c a b l).take 256⟩, mixC aa as_ an k1 k2 k3 im (seM c a b l) (nlM c a b l), rfl, ⟨by rw [hw1]; exact him, by rw [hw1]; rfl, by rw [hw1]; rfl⟩, rfl, fun W A hO => mix_ok ha hb za zb him (hO.ent ent_open)⟩, ?_⟩
    refine Ent.trans (B := mixC aa as_ an k1 k2 k3 im (seM c a b l) (nlM c a b l) ++ R) ?_ ent_shut
    simp only [mixC, List.cons_append, List.nil_append]
    exact inferInstance
theorem len_il {a b : Scr} (h : a.il.map (fun x => x.l) = b.il.map (fun x => x.l)) : a.il.length = b.il.length := by
  have := congrArg List.length h
  simpa using this
theorem il_at {a b : Scr} (h : a.il.map (fun x => x.l) = b.il.map (fun x => x.l)) {i : Nat} (h1 : i < a.il.length) (h2 : i < b.il.length) : a.il[i].l = b.il[i].l := by
  have e1 : (a.il.map (fun x => x.l))[i]? = some a.il[i].l := by simp [h1]
  have e2 : (b.il.map (fun x => x.l))[i]? = some b.il[i].l := by simp [h2]
  rw [h, e2] at e1
  exact (Option.some.inj e1).symm
theorem same41_spec (W0 : World) (R : List HP) (a b : Scr) (ha : ScrOk W0 a) (hb : ScrOk W0 b) (ei : a.il.map (fun x => x.l) = b.il.map (fun x => x.l)) (es : a.sl = b.sl) (en : a.nl = b.nl) (ls : a.sl.length ≤ 1000) (ln : a.nl.length ≤ 1000) (li : a.il.length ≤ 1000) (za : ImgZ a) :
    Spec Try.prog W0 14 [.agg (scrV a).toArray, .agg (scrV b).toArray] R (fun v B => v = .bool true ∧ B = R) := by
  have hil := len_il ei
  have hat := fun i h1 h2 => il_at ei (i := i) h1 h2
  have hsl : a.sl.length = b.sl.length := by rw [es]
  have hnl : a.nl.length = b.nl.length := by rw [en]
  refine spec_body Try.func14 Try.ntmps14 rfl rfl ?_
  refine x_seq (x_region (s_do rfl (d_boxA rfl) ?_))
  rintro _ _ ⟨b2, rfl, rfl⟩
  refine s_do rfl (d_boxA rfl) ?_
  rintro _ _ ⟨b3, rfl, rfl⟩
  refine s_val rfl (v_assign rfl) (x_nil (n_then (x_seq (x_seq (x_region ?_)))))
  refine s_val rfl (v_fieldAddr rfl Try.underlying33 rfl Try.sizeOf29 rfl (by first | exact Nat.zero_add _ | rfl)) ?_
  refine s_val rfl (v_load Try.isAgg29 rfl (cell_own rfl)) ?_
  refine s_val rfl (v_len_slice Try.underlying29 rfl) ?_
  refine s_val rfl (v_fieldAddr rfl Try.underlying33 rfl Try.sizeOf29 rfl (by first | exact Nat.zero_add _ | rfl)) ?_
  refine s_val rfl (v_load Try.isAgg29 rfl (cell_own rfl)) ?_
  refine s_val rfl (v_len_slice Try.underlying29 rfl) (s_val rfl (v_neq rfl rfl) (s_val rfl (v_move rfl) ?_))
  refine s_or rfl rfl rfl ?_ ?_
  · intro g1_8
    omega
  · intro g1_8
    refine s_val rfl (v_fieldAddr rfl Try.underlying33 rfl Try.sizeOf30 rfl (by first | exact Nat.zero_add _ | rfl)) ?_
    refine s_yes rfl rfl (s_val rfl (v_load Try.isAgg30 rfl (cell_own rfl)) ?_)
    refine s_yes rfl rfl (s_val rfl (v_len_slice Try.underlying30 rfl) (s_yes rfl rfl ?_))
    refine s_val rfl (v_fieldAddr rfl Try.underlying33 rfl Try.sizeOf30 rfl (by first | exact Nat.zero_add _ | rfl)) ?_
    refine s_yes rfl rfl (s_val rfl (v_load Try.isAgg30 rfl (cell_own rfl)) ?_)
    refine s_yes rfl rfl (s_val rfl (v_len_slice Try.underlying30 rfl) (s_yes rfl rfl (s_val rfl (v_neq rfl rfl) (s_val rfl (v_pick_f rfl rfl) (s_val rfl (v_move rfl) ?_)))))
    refine s_or rfl rfl rfl ?_ ?_
    · intro g1_17
      omega
    · intro g1_17
      refine s_val rfl (v_fieldAddr rfl Try.underlying33 rfl Try.sizeOf31 rfl (by first | exact Nat.zero_add _ | rfl)) ?_
      refine s_yes rfl rfl (s_val rfl (v_load Try.isAgg31 rfl (cell_own rfl)) ?_)
      refine s_yes rfl rfl (s_val rfl (v_len_slice Try.underlying31 rfl) (s_yes rfl rfl ?_))
      refine s_val rfl (v_fieldAddr rfl Try.underlying33 rfl Try.sizeOf31 rfl (by first | exact Nat.zero_add _ | rfl)) ?_
      refine s_yes rfl rfl (s_val rfl (v_load Try.isAgg31 rfl (cell_own rfl)) ?_)
      refine s_yes rfl rfl (s_val rfl (v_len_slice Try.underlying31 rfl) (s_yes rfl rfl (s_val rfl (v_neq rfl rfl) (s_val rfl (v_pick_f rfl rfl) (x_nil (n_then ?_))))))
      refine x_if rfl ?_ ?_
      · intro c1
        omega
      · intro c1
        refine x_skip (n_then (x_seq (x_seq (x_region (s_val rfl (v_assign rfl) (x_nil (n_then (x_block ?_))))))))
        refine x_loop (fun i : Nat => i ≤ a.il.length) (fun i => [(2, .pointer (some ⟨b2, 0, none⟩)), (3, .pointer (some ⟨b3, 0, none⟩)), (5, .int .i64 i)]) (fun i => pt b2 (cob (scrV a) 33) :: pt b3 (cob (scrV b) 33) :: R) (fun i => a.il.length - i) 0 ?_ ?_ ?_ ?_
        · exact Nat.zero_le _
        · repeat (first | exact sub_nil | refine sub_cons rfl ?_)
        · exact inferInstance
        · intro i hi
          refine x_seq (x_seq (x_region (s_val rfl (v_move rfl) ?_)))
          refine s_val rfl (v_fieldAddr rfl Try.underlying33 rfl Try.sizeOf29 rfl (by first | exact Nat.zero_add _ | rfl)) ?_
          refine s_val rfl (v_load Try.isAgg29 rfl (cell_own rfl)) ?_
          refine s_val rfl (v_len_slice Try.underlying29 rfl) (s_val rfl (v_lss rfl rfl) (s_val rfl (v_move rfl) ?_))
          refine s_and rfl rfl rfl ?_ ?_
          · intro g4_6
            refine s_val rfl (v_move rfl) (s_yes rfl rfl ?_)
            refine s_val rfl (v_fieldAddr rfl Try.underlying33 rfl Try.sizeOf29 rfl (by first | exact Nat.zero_add _ | rfl)) ?_
            refine s_yes rfl rfl (s_val rfl (v_load Try.isAgg29 rfl (cell_own rfl)) ?_)
            refine s_yes rfl rfl (s_val rfl (v_len_slice Try.underlying29 rfl) (s_yes rfl rfl (s_val rfl (v_lss rfl rfl) (s_val rfl (v_pick_t rfl rfl) (x_nil (n_then ?_))))))
            refine x_if rfl ?_ ?_
            · intro c4
              refine x_skip (n_then (x_seq (x_block (x_seq (x_seq ?_)))))
              have h1 : i < a.il.length := by omega
              have h2 : i < b.il.length := by omega
              have he := hat i h1 h2
              obtain ⟨g1, o1, ia1, hc1⟩ := (ha.i []).at_ h1
              obtain ⟨g2, o2, ia2, hc2⟩ := (hb.i []).at_ h2
              have hw1 := ha.w _ (List.getElem_mem h1)
              have hw2 := hb.w _ (List.getElem_mem h2)
              have hzz := za _ (List.getElem_mem h1)
              obtain ⟨⟨xa, xc, xl⟩, hx⟩ : ∃ x, a.il[i] = x := ⟨_, rfl⟩
              obtain ⟨⟨ya, yc, yl⟩, hy⟩ : ∃ x, b.il[i] = x := ⟨_, rfl⟩
              rw [hx] at hc1 hw1 he hzz
              rw [hy] at hc2 hw2 he
              dsimp only at he hw1 hw2 hzz
              subst he
              dsimp only [imgV] at hc1 hc2
              refine x_draw [(b2, 0, scrV a), (b3, 0, scrV b), (g1, o1 + i * 1, [.slice xa xl.length xc]), (g2, o2 + i * 1, [.slice ya xl.length yc])] 13 mixed rfl (sc_own (sc_own (sc_cons hc1.weak (sc_cons hc2.weak sc_end)))) (fun hS => ?_)
              refine d_take 0 rfl rfl (by kernel_rfl) (by kernel_rfl) (by kernel_rfl) rfl hS (v_fieldAddr rfl Try.underlying33 rfl Try.sizeOf29 rfl (by first | exact Nat.zero_add _ | rfl)) ?_
              refine d_take 1 rfl rfl (by kernel_rfl) (by kernel_rfl) (by kernel_rfl) rfl hS (v_load Try.isAgg29 rfl (by first | exact cell_sc0 (k := 0) rfl rfl | exact cell_sc0 (k := 1) rfl rfl | exact cell_sc0 (k := 2) rfl rfl | exact cell_sc0 (k := 3) rfl rfl)) ?_
              refine d_take 2 rfl rfl (by kernel_rfl) (by kernel_rfl) (by kernel_rfl) rfl hS (v_move rfl) ?_
              refine d_take 3 rfl rfl (by kernel_rfl) (by kernel_rfl) (by kernel_rfl) rfl hS (v_idxA Try.underlying29 Try.sizeOf58 rfl ia1 rfl rfl h1 (by first | exact Nat.zero_add _ | rfl)) ?_
              refine d_take 4 rfl rfl (by kernel_rfl) (by kernel_rfl) (by kernel_rfl) rfl hS (v_load Try.isAgg58 rfl (cell_sc1 (k := 2) rfl)) ?_
              refine d_take 5 rfl rfl (by kernel_rfl) (by kernel_rfl) (by kernel_rfl) rfl hS (v_len_slice Try.underlying58 rfl) ?_
              refine d_take 6 rfl rfl (by kernel_rfl) (by kernel_rfl) (by kernel_rfl) rfl hS (v_fieldAddr rfl Try.underlying33 rfl Try.sizeOf29 rfl (by first | exact Nat.zero_add _ | rfl)) ?_
              refine d_take 7 rfl rfl (by kernel_rfl) (by kernel_rfl) (by kernel_rfl) rfl hS (v_load Try.isAgg29 rfl (by first | exact cell_sc0 (k := 0) rfl rfl | exact cell_sc0 (k := 1) rfl rfl | exact cell_sc0 (k := 2) rfl rfl | exact cell_sc0 (k := 3) rfl rfl)) ?_
              refine d_take 8 rfl rfl (by kernel_rfl) (by kernel_rfl) (by kernel_rfl) rfl hS (v_move rfl) ?_
              refine d_take 9 rfl rfl (by kernel_rfl) (by kernel_rfl) (by kernel_rfl) rfl hS (v_idxA Try.underlying29 Try.sizeOf58 rfl ia2 rfl rfl h2 (by first | exact Nat.zero_add _ | rfl)) ?_
              refine d_take 10 rfl rfl (by kernel_rfl) (by kernel_rfl) (by kernel_rfl) rfl hS (v_load Try.isAgg58 rfl (cell_sc1 (k := 3) rfl)) ?_
              refine d_take 11 rfl rfl (by kernel_rfl) (by kernel_rfl) (by kernel_rfl) rfl hS (v_len_slice Try.underlying58 rfl) ?_
              refine d_take 12 rfl rfl (by kernel_rfl) (by kernel_rfl) (by kernel_rfl) rfl hS (v_neq rfl rfl) ?_
              refine d_done (by kernel_rfl) ?_; clear hS
              refine n_then ?_
              refine x_if rfl ?_ ?_
              · intro c6
                omega
              · intro c6
                refine x_skip (n_then (x_seq (x_region (s_val rfl (v_assign rfl) (x_nil (n_then (x_block ?_)))))))
                refine x_loop (fun k : Nat => k ≤ xl.length) (fun k => [(2, .pointer (some ⟨b2, 0, none⟩)), (3, .pointer (some ⟨b3, 0, none⟩)), (5, .int .i64 i), (6, .int .i64 k)]) (fun k => pt b2 (cob (scrV a) 33) :: pt b3 (cob (scrV b) 33) :: R) (fun k => xl.length - k) 0 ?_ ?_ ?_ ?_
                · exact Nat.zero_le _
                · repeat (first | exact sub_nil | refine sub_cons rfl ?_)
                · exact inferInstance
                · intro k hk
                  refine x_seq (x_seq (x_region (s_val rfl (v_move rfl) ?_)))
                  refine s_val rfl (v_fieldAddr rfl Try.underlying33 rfl Try.sizeOf29 rfl (by first | exact Nat.zero_add _ | rfl)) ?_
                  refine s_val rfl (v_load Try.isAgg29 rfl (cell_own rfl)) ?_
                  refine s_val rfl (v_move rfl) ?_
                  refine s_val rfl (v_idxA Try.underlying29 Try.sizeOf58 rfl ia1 rfl rfl h1 (by first | exact Nat.zero_add _ | rfl)) ?_
                  refine s_val rfl (v_load Try.isAgg58 rfl (Cells.weak hc1 0 _ rfl)) ?_
                  refine s_val rfl (v_len_slice Try.underlying58 rfl) (s_val rfl (v_lss rfl rfl) (s_val rfl (v_move rfl) ?_))
                  refine s_and rfl rfl rfl ?_ ?_
                  · intro g9_9
                    refine s_val rfl (v_move rfl) (s_yes rfl rfl ?_)
                    refine s_val rfl (v_fieldAddr rfl Try.underlying33 rfl Try.sizeOf29 rfl (by first | exact Nat.zero_add _ | rfl)) ?_
                    refine s_yes rfl rfl (s_val rfl (v_load Try.isAgg29 rfl (cell_own rfl)) ?_)
                    refine s_yes rfl rfl (s_val rfl (v_move rfl) (s_yes rfl rfl ?_))
                    refine s_val rfl (v_idxA Try.underlying29 Try.sizeOf58 rfl ia2 rfl rfl h2 (by first | exact Nat.zero_add _ | rfl)) ?_
                    refine s_yes rfl rfl (s_val rfl (v_load Try.isAgg58 rfl (Cells.weak hc2 0 _ rfl)) ?_)
                    refine s_yes rfl rfl (s_val rfl (v_len_slice Try.underlying58 rfl) (s_yes rfl rfl (s_val rfl (v_lss rfl rfl) (s_val rfl (v_pick_t rfl rfl) (x_nil (n_then ?_))))))
                    refine x_if rfl ?_ ?_
                    · intro c9
                      refine x_skip (n_then (x_seq (x_block (x_seq ?_))))
                      have hk1 : k < xl.length := by omega
                      obtain ⟨g3, o3, ia3, hc3⟩ := (hw1 []).at_ hk1
                      obtain ⟨g4, o4, ia4, hc4⟩ := (hw2 []).at_ hk1
                      generalize xl[k] = u at hc3 hc4
                      refine x_draw [(b2, 0, scrV a), (b3, 0, scrV b), (g1, o1 + i * 1, [.slice xa xl.length xc]), (g2, o2 + i * 1, [.slice ya xl.length yc]), (g3, o3 + k * 1, [wV u]), (g4, o4 + k * 1, [wV u])] 17 mixed rfl (sc_own (sc_own (sc_cons hc1.weak (sc_cons hc2.weak (sc_cons hc3.weak (sc_cons hc4.weak sc_end)))))) (fun hS => ?_)
                      refine d_take 0 rfl rfl (by kernel_rfl) (by kernel_rfl) (by kernel_rfl) rfl hS (v_fieldAddr rfl Try.underlying33 rfl Try.sizeOf29 rfl (by first | exact Nat.zero_add _ | rfl)) ?_
                      refine d_take 1 rfl rfl (by kernel_rfl) (by kernel_rfl) (by kernel_rfl) rfl hS (v_load Try.isAgg29 rfl (by first | exact cell_sc0 (k := 0) rfl rfl | exact cell_sc0 (k := 1) rfl rfl | exact cell_sc0 (k := 2) rfl rfl | exact cell_sc0 (k := 3) rfl rfl | exact cell_sc0 (k := 4) rfl rfl | exact cell_sc0 (k := 5) rfl rfl)) ?_
                      refine d_take 2 rfl rfl (by kernel_rfl) (by kernel_rfl) (by kernel_rfl) rfl hS (v_move rfl) ?_
                      refine d_take 3 rfl rfl (by kernel_rfl) (by kernel_rfl) (by kernel_rfl) rfl hS (v_idxA Try.underlying29 Try.sizeOf58 rfl ia1 rfl rfl h1 (by first | exact Nat.zero_add _ | rfl)) ?_
                      refine d_take 4 rfl rfl (by kernel_rfl) (by kernel_rfl) (by kernel_rfl) rfl hS (v_load Try.isAgg58 rfl (cell_sc1 (k := 2) rfl)) ?_
                      refine d_take 5 rfl rfl (by kernel_rfl) (by kernel_rfl) (by kernel_rfl) rfl hS (v_move rfl) ?_
                      refine d_take 6 rfl rfl (by kernel_rfl) (by kernel_rfl) (by kernel_rfl) rfl hS (v_idxA Try.underlying58 Try.sizeOf62 rfl ia3 rfl rfl hk1 (by first | exact Nat.zero_add _ | rfl)) ?_
                      refine d_take 7 rfl rfl (by kernel_rfl) (by kernel_rfl) (by kernel_rfl) rfl hS (v_load Try.isAgg62 rfl (cell_sc1 (k := 4) rfl)) ?_
                      refine d_take 8 rfl rfl (by kernel_rfl) (by kernel_rfl) (by kernel_rfl) rfl hS (v_fieldAddr rfl Try.underlying33 rfl Try.sizeOf29 rfl (by first | exact Nat.zero_add _ | rfl)) ?_
                      refine d_take 9 rfl rfl (by kernel_rfl) (by kernel_rfl) (by kernel_rfl) rfl hS (v_load Try.isAgg29 rfl (by first | exact cell_sc0 (k := 0) rfl rfl | exact cell_sc0 (k := 1) rfl rfl | exact cell_sc0 (k := 2) rfl rfl | exact cell_sc0 (k := 3) rfl rfl | exact cell_sc0 (k := 4) rfl rfl | exact cell_sc0 (k := 5) rfl rfl)) ?_
                      refine d_take 10 rfl rfl (by kernel_rfl) (by kernel_rfl) (by kernel_rfl) rfl hS (v_move rfl) ?_
                      refine d_take 11 rfl rfl (by kernel_rfl) (by kernel_rfl) (by kernel_rfl) rfl hS (v_idxA Try.underlying29 Try.sizeOf58 rfl ia2 rfl rfl h2 (by first | exact Nat.zero_add _ | rfl)) ?_
                      refine d_take 12 rfl rfl (by kernel_rfl) (by kernel_rfl) (by kernel_rfl) rfl hS (v_load Try.isAgg58 rfl (cell_sc1 (k := 3) rfl)) ?_
                      refine d_take 13 rfl rfl (by kernel_rfl) (by kernel_rfl) (by kernel_rfl) rfl hS (v_move rfl) ?_
                      refine d_take 14 rfl rfl (by kernel_rfl) (by kernel_rfl) (by kernel_rfl) rfl hS (v_idxA Try.underlying58 Try.sizeOf62 rfl ia4 rfl rfl hk1 (by first | exact Nat.zero_add _ | rfl)) ?_
                      refine d_take 15 rfl rfl (by kernel_rfl) (by kernel_rfl) (by kernel_rfl) rfl hS (v_load Try.isAgg62 rfl (cell_sc1 (k := 5) rfl)) ?_
                      refine d_take 16 rfl rfl (by kernel_rfl) (by kernel_rfl) (by kernel_rfl) rfl hS (v_neq rfl rfl) ?_
                      refine d_done (by kernel_rfl) ?_; clear hS
                      refine n_then ?_
                      refine x_if rfl ?_ ?_
                      · intro c11
                        omega
                      · intro c11
                        refine x_skip (n_block (n_then (x_region (s_val rfl (v_move rfl) ?_))))
                        refine s_val rfl (v_add rfl rfl (by first | exact w64 (by omega) | rfl)) ?_
                        refine s_val rfl (v_assign rfl) (x_nil (n_then ?_))
                        refine inv_intro (k + 1) ?_ ?_ ?_ ?_
                        · omega
                        · omega
                        · repeat (first | exact sub_nil | refine sub_cons rfl ?_)
                        · exact inferInstance
                    · intro c9
                      refine x_exit (e_then (e_then (e_block (n_block (n_then (x_region (s_val rfl (v_move rfl) ?_)))))))
                      refine s_val rfl (v_add rfl rfl (by first | exact w64 (by omega) | rfl)) ?_
                      refine s_val rfl (v_assign rfl) (x_nil (n_then ?_))
                      refine inv_intro (i + 1) ?_ ?_ ?_ ?_
                      · omega
                      · omega
                      · repeat (first | exact sub_nil | refine sub_cons rfl ?_)
                      · exact inferInstance
                  · intro g9_9
                    refine s_no rfl rfl rfl rfl (s_no rfl rfl rfl rfl (s_no rfl rfl rfl rfl (s_no rfl rfl rfl rfl (s_no rfl rfl rfl rfl (s_no rfl rfl rfl rfl (s_no rfl rfl rfl rfl (s_val rfl (v_pick_f rfl rfl) (x_nil (n_then (x_iff rfl (x_exit (e_then (e_then (e_block (n_block (n_then (x_region (s_val rfl (v_move rfl) ?_))))))))))))))))))
                    refine s_val rfl (v_add rfl rfl (by first | exact w64 (by omega) | rfl)) ?_
                    refine s_val rfl (v_assign rfl) (x_nil (n_then ?_))
                    refine inv_intro (i + 1) ?_ ?_ ?_ ?_
                    · omega
                    · omega
                    · repeat (first | exact sub_nil | refine sub_cons rfl ?_)
                    · exact inferInstance
            · intro c4
              refine x_exit (e_then (e_then (e_block (n_then (x_seq (x_seq (x_region (s_val rfl (v_assign rfl) (x_nil (n_then (x_block ?_)))))))))))
              refine x_loop (fun i : Nat => i ≤ a.sl.length) (fun i => [(2, .pointer (some ⟨b2, 0, none⟩)), (3, .pointer (some ⟨b3, 0, none⟩)), (7, .int .i64 i)]) (fun i => pt b2 (cob (scrV a) 33) :: pt b3 (cob (scrV b) 33) :: R) (fun i => a.sl.length - i) 0 ?_ ?_ ?_ ?_
              · exact Nat.zero_le _
              · repeat (first | exact sub_nil | refine sub_cons rfl ?_)
              · exact inferInstance
              · intro i hi
                refine x_seq (x_seq (x_region (s_val rfl (v_move rfl) ?_)))
                refine s_val rfl (v_fieldAddr rfl Try.underlying33 rfl Try.sizeOf30 rfl (by first | exact Nat.zero_add _ | rfl)) ?_
                refine s_val rfl (v_load Try.isAgg30 rfl (cell_own rfl)) ?_
                refine s_val rfl (v_len_slice Try.underlying30 rfl) (s_val rfl (v_lss rfl rfl) (s_val rfl (v_move rfl) ?_))
                refine s_and rfl rfl rfl ?_ ?_
                · intro g14_6
                  refine s_val rfl (v_move rfl) (s_yes rfl rfl ?_)
                  refine s_val rfl (v_fieldAddr rfl Try.underlying33 rfl Try.sizeOf30 rfl (by first | exact Nat.zero_add _ | rfl)) ?_
                  refine s_yes rfl rfl (s_val rfl (v_load Try.isAgg30 rfl (cell_own rfl)) ?_)
                  refine s_yes rfl rfl (s_val rfl (v_len_slice Try.underlying30 rfl) (s_yes rfl rfl (s_val rfl (v_lss rfl rfl) (s_val rfl (v_pick_t rfl rfl) (x_nil (n_then ?_))))))
                  refine x_if rfl ?_ ?_
                  · intro c14
                    refine x_skip (n_then (x_seq (x_block (x_seq ?_))))
                    have h1 : i < a.sl.length := by omega
                    have h2 : i < b.sl.length := by omega
                    obtain ⟨g1, o1, ia1, hc1⟩ := (ha.sx []).at_ h1
                    obtain ⟨g2, o2, ia2, hc2⟩ := (hb.sx []).at_ h2
                    have he : b.sl[i] = a.sl[i] := by simp only [es]
                    rw [he] at hc2
                    generalize a.sl[i] = u at hc1 hc2
                    refine x_draw [(b2, 0, scrV a), (b3, 0, scrV b), (g1, o1 + i * 2, seV u), (g2, o2 + i * 2, seV u)] 11 mixed rfl (sc_own (sc_own (sc_cons hc1.weak (sc_cons hc2.weak sc_end)))) (fun hS => ?_)
                    refine d_take 0 rfl rfl (by kernel_rfl) (by kernel_rfl) (by kernel_rfl) rfl hS (v_fieldAddr rfl Try.underlying33 rfl Try.sizeOf30 rfl (by first | exact Nat.zero_add _ | rfl)) ?_
                    refine d_take 1 rfl rfl (by kernel_rfl) (by kernel_rfl) (by kernel_rfl) rfl hS (v_load Try.isAgg30 rfl (by first | exact cell_sc0 (k := 0) rfl rfl | exact cell_sc0 (k := 1) rfl rfl | exact cell_sc0 (k := 2) rfl rfl | exact cell_sc0 (k := 3) rfl rfl)) ?_
                    refine d_take 2 rfl rfl (by kernel_rfl) (by kernel_rfl) (by kernel_rfl) rfl hS (v_move rfl) ?_
                    refine d_take 3 rfl rfl (by kernel_rfl) (by kernel_rfl) (by kernel_rfl) rfl hS (v_idxA Try.underlying30 Try.sizeOf74 rfl ia1 rfl rfl h1 (by first | exact Nat.zero_add _ | rfl)) ?_
                    refine d_take 4 rfl rfl (by kernel_rfl) (by kernel_rfl) (by kernel_rfl) rfl hS (v_loadAgg Try.isAgg74 Try.sizeOf74 rfl (cells_sc (k := 2) rfl) rfl) ?_
                    refine d_take 5 rfl rfl (by kernel_rfl) (by kernel_rfl) (by kernel_rfl) rfl hS (v_fieldAddr rfl Try.underlying33 rfl Try.sizeOf30 rfl (by first | exact Nat.zero_add _ | rfl)) ?_
                    refine d_take 6 rfl rfl (by kernel_rfl) (by kernel_rfl) (by kernel_rfl) rfl hS (v_load Try.isAgg30 rfl (by first | exact cell_sc0 (k := 0) rfl rfl | exact cell_sc0 (k := 1) rfl rfl | exact cell_sc0 (k := 2) rfl rfl | exact cell_sc0 (k := 3) rfl rfl)) ?_
                    refine d_take 7 rfl rfl (by kernel_rfl) (by kernel_rfl) (by kernel_rfl) rfl hS (v_move rfl) ?_
                    refine d_take 8 rfl rfl (by kernel_rfl) (by kernel_rfl) (by kernel_rfl) rfl hS (v_idxA Try.underlying30 Try.sizeOf74 rfl ia2 rfl rfl h2 (by first | exact Nat.zero_add _ | rfl)) ?_
                    refine d_take 9 rfl rfl (by kernel_rfl) (by kernel_rfl) (by kernel_rfl) rfl hS (v_loadAgg Try.isAgg74 Try.sizeOf74 rfl (cells_sc (k := 3) rfl) rfl) ?_
                    refine d_take 10 rfl rfl (by kernel_rfl) (by kernel_rfl) (by kernel_rfl) rfl hS (v_neq_agg Try.eqGuardType74 rfl rfl (q_struct Try.underlying74 Try.stoodInHeld74 (qf_scal rfl Try.isAgg3 rfl rfl (q_int Try.underlying3) (qf_scal rfl Try.isAgg9 rfl rfl (q_str Try.underlying9) qf_nil)))) ?_
                    refine d_done (by kernel_rfl) ?_; clear hS
                    refine n_then ?_
                    refine x_if rfl ?_ ?_
                    · intro c16
                      exact absurd (by simp) c16
                    · intro c16
                      refine x_skip (n_block (n_then (x_region (s_val rfl (v_move rfl) ?_))))
                      refine s_val rfl (v_add rfl rfl (by first | exact w64 (by omega) | rfl)) ?_
                      refine s_val rfl (v_assign rfl) (x_nil (n_then ?_))
                      refine inv_intro (i + 1) ?_ ?_ ?_ ?_
                      · omega
                      · omega
                      · repeat (first | exact sub_nil | refine sub_cons rfl ?_)
                      · exact inferInstance
                  · intro c14
                    refine x_exit (e_then (e_then (e_block (n_then (x_seq (x_seq (x_region (s_val rfl (v_assign rfl) (x_nil (n_then (x_block ?_)))))))))))
                    refine x_loop (fun i : Nat => i ≤ a.nl.length) (fun i => [(2, .pointer (some ⟨b2, 0, none⟩)), (3, .pointer (some ⟨b3, 0, none⟩)), (8, .int .i64 i)]) (fun i => pt b2 (cob (scrV a) 33) :: pt b3 (cob (scrV b) 33) :: R) (fun i => a.nl.length - i) 0 ?_ ?_ ?_ ?_
                    · exact Nat.zero_le _
                    · repeat (first | exact sub_nil | refine sub_cons rfl ?_)
                    · exact inferInstance
                    · intro i hi
                      refine x_seq (x_seq (x_region (s_val rfl (v_move rfl) ?_)))
                      refine s_val rfl (v_fieldAddr rfl Try.underlying33 rfl Try.sizeOf31 rfl (by first | exact Nat.zero_add _ | rfl)) ?_
                      refine s_val rfl (v_load Try.isAgg31 rfl (cell_own rfl)) ?_
                      refine s_val rfl (v_len_slice Try.underlying31 rfl) (s_val rfl (v_lss rfl rfl) (s_val rfl (v_move rfl) ?_))
                      refine s_and rfl rfl rfl ?_ ?_
                      · intro g19_6
                        refine s_val rfl (v_move rfl) (s_yes rfl rfl ?_)
                        refine s_val rfl (v_fieldAddr rfl Try.underlying33 rfl Try.sizeOf31 rfl (by first | exact Nat.zero_add _ | rfl)) ?_
                        refine s_yes rfl rfl (s_val rfl (v_load Try.isAgg31 rfl (cell_own rfl)) ?_)
                        refine s_yes rfl rfl (s_val rfl (v_len_slice Try.underlying31 rfl) (s_yes rfl rfl (s_val rfl (v_lss rfl rfl) (s_val rfl (v_pick_t rfl rfl) (x_nil (n_then ?_))))))
                        refine x_if rfl ?_ ?_
                        · intro c19
                          refine x_skip (n_then (x_seq (x_block (x_seq ?_))))
                          have h1 : i < a.nl.length := by omega
                          have h2 : i < b.nl.length := by omega
                          obtain ⟨g1, o1, ia1, hc1⟩ := (ha.n []).at_ h1
                          obtain ⟨g2, o2, ia2, hc2⟩ := (hb.n []).at_ h2
                          have he : b.nl[i] = a.nl[i] := by simp only [en]
                          rw [he] at hc2
                          generalize a.nl[i] = u at hc1 hc2
                          refine x_draw [(b2, 0, scrV a), (b3, 0, scrV b), (g1, o1 + i * 5, inpV u), (g2, o2 + i * 5, inpV u)] 11 mixed rfl (sc_own (sc_own (sc_cons hc1.weak (sc_cons hc2.weak sc_end)))) (fun hS => ?_)
                          refine d_take 0 rfl rfl (by kernel_rfl) (by kernel_rfl) (by kernel_rfl) rfl hS (v_fieldAddr rfl Try.underlying33 rfl Try.sizeOf31 rfl (by first | exact Nat.zero_add _ | rfl)) ?_
                          refine d_take 1 rfl rfl (by kernel_rfl) (by kernel_rfl) (by kernel_rfl) rfl hS (v_load Try.isAgg31 rfl (by first | exact cell_sc0 (k := 0) rfl rfl | exact cell_sc0 (k := 1) rfl rfl | exact cell_sc0 (k := 2) rfl rfl | exact cell_sc0 (k := 3) rfl rfl)) ?_
                          refine d_take 2 rfl rfl (by kernel_rfl) (by kernel_rfl) (by kernel_rfl) rfl hS (v_move rfl) ?_
                          refine d_take 3 rfl rfl (by kernel_rfl) (by kernel_rfl) (by kernel_rfl) rfl hS (v_idxA Try.underlying31 Try.sizeOf65 rfl ia1 rfl rfl h1 (by first | exact Nat.zero_add _ | rfl)) ?_
                          refine d_take 4 rfl rfl (by kernel_rfl) (by kernel_rfl) (by kernel_rfl) rfl hS (v_loadAgg Try.isAgg65 Try.sizeOf65 rfl (cells_sc (k := 2) rfl) rfl) ?_
                          refine d_take 5 rfl rfl (by kernel_rfl) (by kernel_rfl) (by kernel_rfl) rfl hS (v_fieldAddr rfl Try.underlying33 rfl Try.sizeOf31 rfl (by first | exact Nat.zero_add _ | rfl)) ?_
                          refine d_take 6 rfl rfl (by kernel_rfl) (by kernel_rfl) (by kernel_rfl) rfl hS (v_load Try.isAgg31 rfl (by first | exact cell_sc0 (k := 0) rfl rfl | exact cell_sc0 (k := 1) rfl rfl | exact cell_sc0 (k := 2) rfl rfl | exact cell_sc0 (k := 3) rfl rfl)) ?_
                          refine d_take 7 rfl rfl (by kernel_rfl) (by kernel_rfl) (by kernel_rfl) rfl hS (v_move rfl) ?_
                          refine d_take 8 rfl rfl (by kernel_rfl) (by kernel_rfl) (by kernel_rfl) rfl hS (v_idxA Try.underlying31 Try.sizeOf65 rfl ia2 rfl rfl h2 (by first | exact Nat.zero_add _ | rfl)) ?_
                          refine d_take 9 rfl rfl (by kernel_rfl) (by kernel_rfl) (by kernel_rfl) rfl hS (v_loadAgg Try.isAgg65 Try.sizeOf65 rfl (cells_sc (k := 3) rfl) rfl) ?_
                          refine d_take 10 rfl rfl (by kernel_rfl) (by kernel_rfl) (by kernel_rfl) rfl hS (v_neq_agg Try.eqGuardType65 rfl rfl (q_struct Try.underlying65 Try.stoodInHeld65 (qf_scal rfl Try.isAgg3 rfl rfl (q_int Try.underlying3) (qf_scal rfl Try.isAgg3 rfl rfl (q_int Try.underlying3) (qf_scal rfl Try.isAgg3 rfl rfl (q_int Try.underlying3) (qf_scal rfl Try.isAgg3 rfl rfl (q_int Try.underlying3) (qf_scal rfl Try.isAgg9 rfl rfl (q_str Try.underlying9) qf_nil))))))) ?_
                          refine d_done (by kernel_rfl) ?_; clear hS
                          refine n_then ?_
                          refine x_if rfl ?_ ?_
                          · intro c21
                            exact absurd (by simp) c21
                          · intro c21
                            refine x_skip (n_block (n_then (x_region (s_val rfl (v_move rfl) ?_))))
                            refine s_val rfl (v_add rfl rfl (by first | exact w64 (by omega) | rfl)) ?_
                            refine s_val rfl (v_assign rfl) (x_nil (n_then ?_))
                            refine inv_intro (i + 1) ?_ ?_ ?_ ?_
                            · omega
                            · omega
                            · repeat (first | exact sub_nil | refine sub_cons rfl ?_)
                            · exact inferInstance
                        · intro c19
                          refine x_exit (e_then (e_then (e_block (n_then (x_seq (x_region (s_val rfl (v_assign rfl) (x_nil (n_then (x_ret (x_done (.inl rfl) (.cons (r_tmp rfl) .nil) ?_)))))))))))
                          exact ⟨_, ⟨rfl, rfl⟩, inferInstance⟩
                      · intro g19_6
                        refine s_no rfl rfl rfl rfl (s_no rfl rfl rfl rfl (s_no rfl rfl rfl rfl (s_no rfl rfl rfl rfl (s_val rfl (v_pick_f rfl rfl) (x_nil (n_then (x_iff rfl (x_exit (e_then (e_then (e_block (n_then (x_seq (x_region (s_val rfl (v_assign rfl) (x_nil (n_then (x_ret (x_done (.inl rfl) (.cons (r_tmp rfl) .nil) ?_)))))))))))))))))))
                        exact ⟨_, ⟨rfl, rfl⟩, inferInstance⟩
                · intro g14_6
                  refine s_no rfl rfl rfl rfl (s_no rfl rfl rfl rfl (s_no rfl rfl rfl rfl (s_no rfl rfl rfl rfl (s_val rfl (v_pick_f rfl rfl) (x_nil (n_then (x_iff rfl (x_exit (e_then (e_then (e_block (n_then (x_seq (x_seq (x_region (s_val rfl (v_assign rfl) (x_nil (n_then (x_block ?_)))))))))))))))))))
                  refine x_loop (fun i : Nat => i ≤ a.nl.length) (fun i => [(2, .pointer (some ⟨b2, 0, none⟩)), (3, .pointer (some ⟨b3, 0, none⟩)), (8, .int .i64 i)]) (fun i => pt b2 (cob (scrV a) 33) :: pt b3 (cob (scrV b) 33) :: R) (fun i => a.nl.length - i) 0 ?_ ?_ ?_ ?_
                  · exact Nat.zero_le _
                  · repeat (first | exact sub_nil | refine sub_cons rfl ?_)
                  · exact inferInstance
                  · intro i hi
                    refine x_seq (x_seq (x_region (s_val rfl (v_move rfl) ?_)))
                    refine s_val rfl (v_fieldAddr rfl Try.underlying33 rfl Try.sizeOf31 rfl (by first | exact Nat.zero_add _ | rfl)) ?_
                    refine s_val rfl (v_load Try.isAgg31 rfl (cell_own rfl)) ?_
                    refine s_val rfl (v_len_slice Try.underlying31 rfl) (s_val rfl (v_lss rfl rfl) (s_val rfl (v_move rfl) ?_))
                    refine s_and rfl rfl rfl ?_ ?_
                    · intro g19_6
                      refine s_val rfl (v_move rfl) (s_yes rfl rfl ?_)
                      refine s_val rfl (v_fieldAddr rfl Try.underlying33 rfl Try.sizeOf31 rfl (by first | exact Nat.zero_add _ | rfl)) ?_
                      refine s_yes rfl rfl (s_val rfl (v_load Try.isAgg31 rfl (cell_own rfl)) ?_)
                      refine s_yes rfl rfl (s_val rfl (v_len_slice Try.underlying31 rfl) (s_yes rfl rfl (s_val rfl (v_lss rfl rfl) (s_val rfl (v_pick_t rfl rfl) (x_nil (n_then ?_))))))
                      refine x_if rfl ?_ ?_
                      · intro c19
                        refine x_skip (n_then (x_seq (x_block (x_seq ?_))))
                        have h1 : i < a.nl.length := by omega
                        have h2 : i < b.nl.length := by omega
                        obtain ⟨g1, o1, ia1, hc1⟩ := (ha.n []).at_ h1
                        obtain ⟨g2, o2, ia2, hc2⟩ := (hb.n []).at_ h2
                        have he : b.nl[i] = a.nl[i] := by simp only [en]
                        rw [he] at hc2
                        generalize a.nl[i] = u at hc1 hc2
                        refine x_draw [(b2, 0, scrV a), (b3, 0, scrV b), (g1, o1 + i * 5, inpV u), (g2, o2 + i * 5, inpV u)] 11 mixed rfl (sc_own (sc_own (sc_cons hc1.weak (sc_cons hc2.weak sc_end)))) (fun hS => ?_)
                        refine d_take 0 rfl rfl (by kernel_rfl) (by kernel_rfl) (by kernel_rfl) rfl hS (v_fieldAddr rfl Try.underlying33 rfl Try.sizeOf31 rfl (by first | exact Nat.zero_add _ | rfl)) ?_
                        refine d_take 1 rfl rfl (by kernel_rfl) (by kernel_rfl) (by kernel_rfl) rfl hS (v_load Try.isAgg31 rfl (by first | exact cell_sc0 (k := 0) rfl rfl | exact cell_sc0 (k := 1) rfl rfl | exact cell_sc0 (k := 2) rfl rfl | exact cell_sc0 (k := 3) rfl rfl)) ?_
                        refine d_take 2 rfl rfl (by kernel_rfl) (by kernel_rfl) (by kernel_rfl) rfl hS (v_move rfl) ?_
                        refine d_take 3 rfl rfl (by kernel_rfl) (by kernel_rfl) (by kernel_rfl) rfl hS (v_idxA Try.underlying31 Try.sizeOf65 rfl ia1 rfl rfl h1 (by first | exact Nat.zero_add _ | rfl)) ?_
                        refine d_take 4 rfl rfl (by kernel_rfl) (by kernel_rfl) (by kernel_rfl) rfl hS (v_loadAgg Try.isAgg65 Try.sizeOf65 rfl (cells_sc (k := 2) rfl) rfl) ?_
                        refine d_take 5 rfl rfl (by kernel_rfl) (by kernel_rfl) (by kernel_rfl) rfl hS (v_fieldAddr rfl Try.underlying33 rfl Try.sizeOf31 rfl (by first | exact Nat.zero_add _ | rfl)) ?_
                        refine d_take 6 rfl rfl (by kernel_rfl) (by kernel_rfl) (by kernel_rfl) rfl hS (v_load Try.isAgg31 rfl (by first | exact cell_sc0 (k := 0) rfl rfl | exact cell_sc0 (k := 1) rfl rfl | exact cell_sc0 (k := 2) rfl rfl | exact cell_sc0 (k := 3) rfl rfl)) ?_
                        refine d_take 7 rfl rfl (by kernel_rfl) (by kernel_rfl) (by kernel_rfl) rfl hS (v_move rfl) ?_
                        refine d_take 8 rfl rfl (by kernel_rfl) (by kernel_rfl) (by kernel_rfl) rfl hS (v_idxA Try.underlying31 Try.sizeOf65 rfl ia2 rfl rfl h2 (by first | exact Nat.zero_add _ | rfl)) ?_
                        refine d_take 9 rfl rfl (by kernel_rfl) (by kernel_rfl) (by kernel_rfl) rfl hS (v_loadAgg Try.isAgg65 Try.sizeOf65 rfl (cells_sc (k := 3) rfl) rfl) ?_
                        refine d_take 10 rfl rfl (by kernel_rfl) (by kernel_rfl) (by kernel_rfl) rfl hS (v_neq_agg Try.eqGuardType65 rfl rfl (q_struct Try.underlying65 Try.stoodInHeld65 (qf_scal rfl Try.isAgg3 rfl rfl (q_int Try.underlying3) (qf_scal rfl Try.isAgg3 rfl rfl (q_int Try.underlying3) (qf_scal rfl Try.isAgg3 rfl rfl (q_int Try.underlying3) (qf_scal rfl Try.isAgg3 rfl rfl (q_int Try.underlying3) (qf_scal rfl Try.isAgg9 rfl rfl (q_str Try.underlying9) qf_nil))))))) ?_
                        refine d_done (by kernel_rfl) ?_; clear hS
                        refine n_then ?_
                        refine x_if rfl ?_ ?_
                        · intro c21
                          exact absurd (by simp) c21
                        · intro c21
                          refine x_skip (n_block (n_then (x_region (s_val rfl (v_move rfl) ?_))))
                          refine s_val rfl (v_add rfl rfl (by first | exact w64 (by omega) | rfl)) ?_
                          refine s_val rfl (v_assign rfl) (x_nil (n_then ?_))
                          refine inv_intro (i + 1) ?_ ?_ ?_ ?_
                          · omega
                          · omega
                          · repeat (first | exact sub_nil | refine sub_cons rfl ?_)
                          · exact inferInstance
                      · intro c19
                        refine x_exit (e_then (e_then (e_block (n_then (x_seq (x_region (s_val rfl (v_assign rfl) (x_nil (n_then (x_ret (x_done (.inl rfl) (.cons (r_tmp rfl) .nil) ?_)))))))))))
                        exact ⟨_, ⟨rfl, rfl⟩, inferInstance⟩
                    · intro g19_6
                      refine s_no rfl rfl rfl rfl (s_no rfl rfl rfl rfl (s_no rfl rfl rfl rfl (s_no rfl rfl rfl rfl (s_val rfl (v_pick_f rfl rfl) (x_nil (n_then (x_iff rfl (x_exit (e_then (e_then (e_block (n_then (x_seq (x_region (s_val rfl (v_assign rfl) (x_nil (n_then (x_ret (x_done (.inl rfl) (.cons (r_tmp rfl) .nil) ?_)))))))))))))))))))
                      exact ⟨_, ⟨rfl, rfl⟩, inferInstance⟩
          · intro g4_6
            refine s_no rfl rfl rfl rfl (s_no rfl rfl rfl rfl (s_no rfl rfl rfl rfl (s_no rfl rfl rfl rfl (s_val rfl (v_pick_f rfl rfl) (x_nil (n_then (x_iff rfl (x_exit (e_then (e_then (e_block (n_then (x_seq (x_seq (x_region (s_val rfl (v_assign rfl) (x_nil (n_then (x_block ?_)))))))))))))))))))
            refine x_loop (fun i : Nat => i ≤ a.sl.length) (fun i => [(2, .pointer (some ⟨b2, 0, none⟩)), (3, .pointer (some ⟨b3, 0, none⟩)), (7, .int .i64 i)]) (fun i => pt b2 (cob (scrV a) 33) :: pt b3 (cob (scrV b) 33) :: R) (fun i => a.sl.length - i) 0 ?_ ?_ ?_ ?_
            · exact Nat.zero_le _
            · repeat (first | exact sub_nil | refine sub_cons rfl ?_)
            · exact inferInstance
            · intro i hi
              refine x_seq (x_seq (x_region (s_val rfl (v_move rfl) ?_)))
              refine s_val rfl (v_fieldAddr rfl Try.underlying33 rfl Try.sizeOf30 rfl (by first | exact Nat.zero_add _ | rfl)) ?_
              refine s_val rfl (v_load Try.isAgg30 rfl (cell_own rfl)) ?_
              refine s_val rfl (v_len_slice Try.underlying30 rfl) (s_val rfl (v_lss rfl rfl) (s_val rfl (v_move rfl) ?_))
              refine s_and rfl rfl rfl ?_ ?_
              · intro g14_6
                refine s_val rfl (v_move rfl) (s_yes rfl rfl ?_)
                refine s_val rfl (v_fieldAddr rfl Try.underlying33 rfl Try.sizeOf30 rfl (by first | exact Nat.zero_add _ | rfl)) ?_
                refine s_yes rfl rfl (s_val rfl (v_load Try.isAgg30 rfl (cell_own rfl)) ?_)
                refine s_yes rfl rfl (s_val rfl (v_len_slice Try.underlying30 rfl) (s_yes rfl rfl (s_val rfl (v_lss rfl rfl) (s_val rfl (v_pick_t rfl rfl) (x_nil (n_then ?_))))))
                refine x_if rfl ?_ ?_
                · intro c14
                  refine x_skip (n_then (x_seq (x_block (x_seq ?_))))
                  have h1 : i < a.sl.length := by omega
                  have h2 : i < b.sl.length := by omega
                  obtain ⟨g1, o1, ia1, hc1⟩ := (ha.sx []).at_ h1
                  obtain ⟨g2, o2, ia2, hc2⟩ := (hb.sx []).at_ h2
                  have he : b.sl[i] = a.sl[i] := by simp only [es]
                  rw [he] at hc2
                  generalize a.sl[i] = u at hc1 hc2
                  refine x_draw [(b2, 0, scrV a), (b3, 0, scrV b), (g1, o1 + i * 2, seV u), (g2, o2 + i * 2, seV u)] 11 mixed rfl (sc_own (sc_own (sc_cons hc1.weak (sc_cons hc2.weak sc_end)))) (fun hS => ?_)
                  refine d_take 0 rfl rfl (by kernel_rfl) (by kernel_rfl) (by kernel_rfl) rfl hS (v_fieldAddr rfl Try.underlying33 rfl Try.sizeOf30 rfl (by first | exact Nat.zero_add _ | rfl)) ?_
                  refine d_take 1 rfl rfl (by kernel_rfl) (by kernel_rfl) (by kernel_rfl) rfl hS (v_load Try.isAgg30 rfl (by first | exact cell_sc0 (k := 0) rfl rfl | exact cell_sc0 (k := 1) rfl rfl | exact cell_sc0 (k := 2) rfl rfl | exact cell_sc0 (k := 3) rfl rfl)) ?_
                  refine d_take 2 rfl rfl (by kernel_rfl) (by kernel_rfl) (by kernel_rfl) rfl hS (v_move rfl) ?_
                  refine d_take 3 rfl rfl (by kernel_rfl) (by kernel_rfl) (by kernel_rfl) rfl hS (v_idxA Try.underlying30 Try.sizeOf74 rfl ia1 rfl rfl h1 (by first | exact Nat.zero_add _ | rfl)) ?_
                  refine d_take 4 rfl rfl (by kernel_rfl) (by kernel_rfl) (by kernel_rfl) rfl hS (v_loadAgg Try.isAgg74 Try.sizeOf74 rfl (cells_sc (k := 2) rfl) rfl) ?_
                  refine d_take 5 rfl rfl (by kernel_rfl) (by kernel_rfl) (by kernel_rfl) rfl hS (v_fieldAddr rfl Try.underlying33 rfl Try.sizeOf30 rfl (by first | exact Nat.zero_add _ | rfl)) ?_
                  refine d_take 6 rfl rfl (by kernel_rfl) (by kernel_rfl) (by kernel_rfl) rfl hS (v_load Try.isAgg30 rfl (by first | exact cell_sc0 (k := 0) rfl rfl | exact cell_sc0 (k := 1) rfl rfl | exact cell_sc0 (k := 2) rfl rfl | exact cell_sc0 (k := 3) rfl rfl)) ?_
                  refine d_take 7 rfl rfl (by kernel_rfl) (by kernel_rfl) (by kernel_rfl) rfl hS (v_move rfl) ?_
                  refine d_take 8 rfl rfl (by kernel_rfl) (by kernel_rfl) (by kernel_rfl) rfl hS (v_idxA Try.underlying30 Try.sizeOf74 rfl ia2 rfl rfl h2 (by first | exact Nat.zero_add _ | rfl)) ?_
                  refine d_take 9 rfl rfl (by kernel_rfl) (by kernel_rfl) (by kernel_rfl) rfl hS (v_loadAgg Try.isAgg74 Try.sizeOf74 rfl (cells_sc (k := 3) rfl) rfl) ?_
                  refine d_take 10 rfl rfl (by kernel_rfl) (by kernel_rfl) (by kernel_rfl) rfl hS (v_neq_agg Try.eqGuardType74 rfl rfl (q_struct Try.underlying74 Try.stoodInHeld74 (qf_scal rfl Try.isAgg3 rfl rfl (q_int Try.underlying3) (qf_scal rfl Try.isAgg9 rfl rfl (q_str Try.underlying9) qf_nil)))) ?_
                  refine d_done (by kernel_rfl) ?_; clear hS
                  refine n_then ?_
                  refine x_if rfl ?_ ?_
                  · intro c16
                    exact absurd (by simp) c16
                  · intro c16
                    refine x_skip (n_block (n_then (x_region (s_val rfl (v_move rfl) ?_))))
                    refine s_val rfl (v_add rfl rfl (by first | exact w64 (by omega) | rfl)) ?_
                    refine s_val rfl (v_assign rfl) (x_nil (n_then ?_))
                    refine inv_intro (i + 1) ?_ ?_ ?_ ?_
                    · omega
                    · omega
                    · repeat (first | exact sub_nil | refine sub_cons rfl ?_)
                    · exact inferInstance
                · intro c14
                  refine x_exit (e_then (e_then (e_block (n_then (x_seq (x_seq (x_region (s_val rfl (v_assign rfl) (x_nil (n_then (x_block ?_)))))))))))
                  refine x_loop (fun i : Nat => i ≤ a.nl.length) (fun i => [(2, .pointer (some ⟨b2, 0, none⟩)), (3, .pointer (some ⟨b3, 0, none⟩)), (8, .int .i64 i)]) (fun i => pt b2 (cob (scrV a) 33) :: pt b3 (cob (scrV b) 33) :: R) (fun i => a.nl.length - i) 0 ?_ ?_ ?_ ?_
                  · exact Nat.zero_le _
                  · repeat (first | exact sub_nil | refine sub_cons rfl ?_)
                  · exact inferInstance
                  · intro i hi
                    refine x_seq (x_seq (x_region (s_val rfl (v_move rfl) ?_)))
                    refine s_val rfl (v_fieldAddr rfl Try.underlying33 rfl Try.sizeOf31 rfl (by first | exact Nat.zero_add _ | rfl)) ?_
                    refine s_val rfl (v_load Try.isAgg31 rfl (cell_own rfl)) ?_
                    refine s_val rfl (v_len_slice Try.underlying31 rfl) (s_val rfl (v_lss rfl rfl) (s_val rfl (v_move rfl) ?_))
                    refine s_and rfl rfl rfl ?_ ?_
                    · intro g19_6
                      refine s_val rfl (v_move rfl) (s_yes rfl rfl ?_)
                      refine s_val rfl (v_fieldAddr rfl Try.underlying33 rfl Try.sizeOf31 rfl (by first | exact Nat.zero_add _ | rfl)) ?_
                      refine s_yes rfl rfl (s_val rfl (v_load Try.isAgg31 rfl (cell_own rfl)) ?_)
                      refine s_yes rfl rfl (s_val rfl (v_len_slice Try.underlying31 rfl) (s_yes rfl rfl (s_val rfl (v_lss rfl rfl) (s_val rfl (v_pick_t rfl rfl) (x_nil (n_then ?_))))))
                      refine x_if rfl ?_ ?_
                      · intro c19
                        refine x_skip (n_then (x_seq (x_block (x_seq ?_))))
                        have h1 : i < a.nl.length := by omega
                        have h2 : i < b.nl.length := by omega
                        obtain ⟨g1, o1, ia1, hc1⟩ := (ha.n []).at_ h1
                        obtain ⟨g2, o2, ia2, hc2⟩ := (hb.n []).at_ h2
                        have he : b.nl[i] = a.nl[i] := by simp only [en]
                        rw [he] at hc2
                        generalize a.nl[i] = u at hc1 hc2
                        refine x_draw [(b2, 0, scrV a), (b3, 0, scrV b), (g1, o1 + i * 5, inpV u), (g2, o2 + i * 5, inpV u)] 11 mixed rfl (sc_own (sc_own (sc_cons hc1.weak (sc_cons hc2.weak sc_end)))) (fun hS => ?_)
                        refine d_take 0 rfl rfl (by kernel_rfl) (by kernel_rfl) (by kernel_rfl) rfl hS (v_fieldAddr rfl Try.underlying33 rfl Try.sizeOf31 rfl (by first | exact Nat.zero_add _ | rfl)) ?_
                        refine d_take 1 rfl rfl (by kernel_rfl) (by kernel_rfl) (by kernel_rfl) rfl hS (v_load Try.isAgg31 rfl (by first | exact cell_sc0 (k := 0) rfl rfl | exact cell_sc0 (k := 1) rfl rfl | exact cell_sc0 (k := 2) rfl rfl | exact cell_sc0 (k := 3) rfl rfl)) ?_
                        refine d_take 2 rfl rfl (by kernel_rfl) (by kernel_rfl) (by kernel_rfl) rfl hS (v_move rfl) ?_
                        refine d_take 3 rfl rfl (by kernel_rfl) (by kernel_rfl) (by kernel_rfl) rfl hS (v_idxA Try.underlying31 Try.sizeOf65 rfl ia1 rfl rfl h1 (by first | exact Nat.zero_add _ | rfl)) ?_
                        refine d_take 4 rfl rfl (by kernel_rfl) (by kernel_rfl) (by kernel_rfl) rfl hS (v_loadAgg Try.isAgg65 Try.sizeOf65 rfl (cells_sc (k := 2) rfl) rfl) ?_
                        refine d_take 5 rfl rfl (by kernel_rfl) (by kernel_rfl) (by kernel_rfl) rfl hS (v_fieldAddr rfl Try.underlying33 rfl Try.sizeOf31 rfl (by first | exact Nat.zero_add _ | rfl)) ?_
                        refine d_take 6 rfl rfl (by kernel_rfl) (by kernel_rfl) (by kernel_rfl) rfl hS (v_load Try.isAgg31 rfl (by first | exact cell_sc0 (k := 0) rfl rfl | exact cell_sc0 (k := 1) rfl rfl | exact cell_sc0 (k := 2) rfl rfl | exact cell_sc0 (k := 3) rfl rfl)) ?_
                        refine d_take 7 rfl rfl (by kernel_rfl) (by kernel_rfl) (by kernel_rfl) rfl hS (v_move rfl) ?_
                        refine d_take 8 rfl rfl (by kernel_rfl) (by kernel_rfl) (by kernel_rfl) rfl hS (v_idxA Try.underlying31 Try.sizeOf65 rfl ia2 rfl rfl h2 (by first | exact Nat.zero_add _ | rfl)) ?_
                        refine d_take 9 rfl rfl (by kernel_rfl) (by kernel_rfl) (by kernel_rfl) rfl hS (v_loadAgg Try.isAgg65 Try.sizeOf65 rfl (cells_sc (k := 3) rfl) rfl) ?_
                        refine d_take 10 rfl rfl (by kernel_rfl) (by kernel_rfl) (by kernel_rfl) rfl hS (v_neq_agg Try.eqGuardType65 rfl rfl (q_struct Try.underlying65 Try.stoodInHeld65 (qf_scal rfl Try.isAgg3 rfl rfl (q_int Try.underlying3) (qf_scal rfl Try.isAgg3 rfl rfl (q_int Try.underlying3) (qf_scal rfl Try.isAgg3 rfl rfl (q_int Try.underlying3) (qf_scal rfl Try.isAgg3 rfl rfl (q_int Try.underlying3) (qf_scal rfl Try.isAgg9 rfl rfl (q_str Try.underlying9) qf_nil))))))) ?_
                        refine d_done (by kernel_rfl) ?_; clear hS
                        refine n_then ?_
                        refine x_if rfl ?_ ?_
                        · intro c21
                          exact absurd (by simp) c21
                        · intro c21
                          refine x_skip (n_block (n_then (x_region (s_val rfl (v_move rfl) ?_))))
                          refine s_val rfl (v_add rfl rfl (by first | exact w64 (by omega) | rfl)) ?_
                          refine s_val rfl (v_assign rfl) (x_nil (n_then ?_))
                          refine inv_intro (i + 1) ?_ ?_ ?_ ?_
                          · omega
                          · omega
                          · repeat (first | exact sub_nil | refine sub_cons rfl ?_)
                          · exact inferInstance
                      · intro c19
                        refine x_exit (e_then (e_then (e_block (n_then (x_seq (x_region (s_val rfl (v_assign rfl) (x_nil (n_then (x_ret (x_done (.inl rfl) (.cons (r_tmp rfl) .nil) ?_)))))))))))
                        exact ⟨_, ⟨rfl, rfl⟩, inferInstance⟩
                    · intro g19_6
                      refine s_no rfl rfl rfl rfl (s_no rfl rfl rfl rfl (s_no rfl rfl rfl rfl (s_no rfl rfl rfl rfl (s_val rfl (v_pick_f rfl rfl) (x_nil (n_then (x_iff rfl (x_exit (e_then (e_then (e_block (n_then (x_seq (x_region (s_val rfl (v_assign rfl) (x_nil (n_then (x_ret (x_done (.inl rfl) (.cons (r_tmp rfl) .nil) ?_)))))))))))))))))))
                      exact ⟨_, ⟨rfl, rfl⟩, inferInstance⟩
              · intro g14_6
                refine s_no rfl rfl rfl rfl (s_no rfl rfl rfl rfl (s_no rfl rfl rfl rfl (s_no rfl rfl rfl rfl (s_val rfl (v_pick_f rfl rfl) (x_nil (n_then (x_iff rfl (x_exit (e_then (e_then (e_block (n_then (x_seq (x_seq (x_region (s_val rfl (v_assign rfl) (x_nil (n_then (x_block ?_)))))))))))))))))))
                refine x_loop (fun i : Nat => i ≤ a.nl.length) (fun i => [(2, .pointer (some ⟨b2, 0, none⟩)), (3, .pointer (some ⟨b3, 0, none⟩)), (8, .int .i64 i)]) (fun i => pt b2 (cob (scrV a) 33) :: pt b3 (cob (scrV b) 33) :: R) (fun i => a.nl.length - i) 0 ?_ ?_ ?_ ?_
                · exact Nat.zero_le _
                · repeat (first | exact sub_nil | refine sub_cons rfl ?_)
                · exact inferInstance
                · intro i hi
                  refine x_seq (x_seq (x_region (s_val rfl (v_move rfl) ?_)))
                  refine s_val rfl (v_fieldAddr rfl Try.underlying33 rfl Try.sizeOf31 rfl (by first | exact Nat.zero_add _ | rfl)) ?_
                  refine s_val rfl (v_load Try.isAgg31 rfl (cell_own rfl)) ?_
                  refine s_val rfl (v_len_slice Try.underlying31 rfl) (s_val rfl (v_lss rfl rfl) (s_val rfl (v_move rfl) ?_))
                  refine s_and rfl rfl rfl ?_ ?_
                  · intro g19_6
                    refine s_val rfl (v_move rfl) (s_yes rfl rfl ?_)
                    refine s_val rfl (v_fieldAddr rfl Try.underlying33 rfl Try.sizeOf31 rfl (by first | exact Nat.zero_add _ | rfl)) ?_
                    refine s_yes rfl rfl (s_val rfl (v_load Try.isAgg31 rfl (cell_own rfl)) ?_)
                    refine s_yes rfl rfl (s_val rfl (v_len_slice Try.underlying31 rfl) (s_yes rfl rfl (s_val rfl (v_lss rfl rfl) (s_val rfl (v_pick_t rfl rfl) (x_nil (n_then ?_))))))
                    refine x_if rfl ?_ ?_
                    · intro c19
                      refine x_skip (n_then (x_seq (x_block (x_seq ?_))))
                      have h1 : i < a.nl.length := by omega
                      have h2 : i < b.nl.length := by omega
                      obtain ⟨g1, o1, ia1, hc1⟩ := (ha.n []).at_ h1
                      obtain ⟨g2, o2, ia2, hc2⟩ := (hb.n []).at_ h2
                      have he : b.nl[i] = a.nl[i] := by simp only [en]
                      rw [he] at hc2
                      generalize a.nl[i] = u at hc1 hc2
                      refine x_draw [(b2, 0, scrV a), (b3, 0, scrV b), (g1, o1 + i * 5, inpV u), (g2, o2 + i * 5, inpV u)] 11 mixed rfl (sc_own (sc_own (sc_cons hc1.weak (sc_cons hc2.weak sc_end)))) (fun hS => ?_)
                      refine d_take 0 rfl rfl (by kernel_rfl) (by kernel_rfl) (by kernel_rfl) rfl hS (v_fieldAddr rfl Try.underlying33 rfl Try.sizeOf31 rfl (by first | exact Nat.zero_add _ | rfl)) ?_
                      refine d_take 1 rfl rfl (by kernel_rfl) (by kernel_rfl) (by kernel_rfl) rfl hS (v_load Try.isAgg31 rfl (by first | exact cell_sc0 (k := 0) rfl rfl | exact cell_sc0 (k := 1) rfl rfl | exact cell_sc0 (k := 2) rfl rfl | exact cell_sc0 (k := 3) rfl rfl)) ?_
                      refine d_take 2 rfl rfl (by kernel_rfl) (by kernel_rfl) (by kernel_rfl) rfl hS (v_move rfl) ?_
                      refine d_take 3 rfl rfl (by kernel_rfl) (by kernel_rfl) (by kernel_rfl) rfl hS (v_idxA Try.underlying31 Try.sizeOf65 rfl ia1 rfl rfl h1 (by first | exact Nat.zero_add _ | rfl)) ?_
                      refine d_take 4 rfl rfl (by kernel_rfl) (by kernel_rfl) (by kernel_rfl) rfl hS (v_loadAgg Try.isAgg65 Try.sizeOf65 rfl (cells_sc (k := 2) rfl) rfl) ?_
                      refine d_take 5 rfl rfl (by kernel_rfl) (by kernel_rfl) (by kernel_rfl) rfl hS (v_fieldAddr rfl Try.underlying33 rfl Try.sizeOf31 rfl (by first | exact Nat.zero_add _ | rfl)) ?_
                      refine d_take 6 rfl rfl (by kernel_rfl) (by kernel_rfl) (by kernel_rfl) rfl hS (v_load Try.isAgg31 rfl (by first | exact cell_sc0 (k := 0) rfl rfl | exact cell_sc0 (k := 1) rfl rfl | exact cell_sc0 (k := 2) rfl rfl | exact cell_sc0 (k := 3) rfl rfl)) ?_
                      refine d_take 7 rfl rfl (by kernel_rfl) (by kernel_rfl) (by kernel_rfl) rfl hS (v_move rfl) ?_
                      refine d_take 8 rfl rfl (by kernel_rfl) (by kernel_rfl) (by kernel_rfl) rfl hS (v_idxA Try.underlying31 Try.sizeOf65 rfl ia2 rfl rfl h2 (by first | exact Nat.zero_add _ | rfl)) ?_
                      refine d_take 9 rfl rfl (by kernel_rfl) (by kernel_rfl) (by kernel_rfl) rfl hS (v_loadAgg Try.isAgg65 Try.sizeOf65 rfl (cells_sc (k := 3) rfl) rfl) ?_
                      refine d_take 10 rfl rfl (by kernel_rfl) (by kernel_rfl) (by kernel_rfl) rfl hS (v_neq_agg Try.eqGuardType65 rfl rfl (q_struct Try.underlying65 Try.stoodInHeld65 (qf_scal rfl Try.isAgg3 rfl rfl (q_int Try.underlying3) (qf_scal rfl Try.isAgg3 rfl rfl (q_int Try.underlying3) (qf_scal rfl Try.isAgg3 rfl rfl (q_int Try.underlying3) (qf_scal rfl Try.isAgg3 rfl rfl (q_int Try.underlying3) (qf_scal rfl Try.isAgg9 rfl rfl (q_str Try.underlying9) qf_nil))))))) ?_
                      refine d_done (by kernel_rfl) ?_; clear hS
                      refine n_then ?_
                      refine x_if rfl ?_ ?_
                      · intro c21
                        exact absurd (by simp) c21
                      · intro c21
                        refine x_skip (n_block (n_then (x_region (s_val rfl (v_move rfl) ?_))))
                        refine s_val rfl (v_add rfl rfl (by first | exact w64 (by omega) | rfl)) ?_
                        refine s_val rfl (v_assign rfl) (x_nil (n_then ?_))
                        refine inv_intro (i + 1) ?_ ?_ ?_ ?_
                        · omega
                        · omega
                        · repeat (first | exact sub_nil | refine sub_cons rfl ?_)
                        · exact inferInstance
                    · intro c19
                      refine x_exit (e_then (e_then (e_block (n_then (x_seq (x_region (s_val rfl (v_assign rfl) (x_nil (n_then (x_ret (x_done (.inl rfl) (.cons (r_tmp rfl) .nil) ?_)))))))))))
                      exact ⟨_, ⟨rfl, rfl⟩, inferInstance⟩
                  · intro g19_6
                    refine s_no rfl rfl rfl rfl (s_no rfl rfl rfl rfl (s_no rfl rfl rfl rfl (s_no rfl rfl rfl rfl (s_val rfl (v_pick_f rfl rfl) (x_nil (n_then (x_iff rfl (x_exit (e_then (e_then (e_block (n_then (x_seq (x_region (s_val rfl (v_assign rfl) (x_nil (n_then (x_ret (x_done (.inl rfl) (.cons (r_tmp rfl) .nil) ?_)))))))))))))))))))
                    exact ⟨_, ⟨rfl, rfl⟩, inferInstance⟩
theorem agreeM_spec (W0 : World) (A : List HP) (c : Cfg) (a b : Scr) (hgl : c.gl.length ≤ 1000) (la : a.sl.length ≤ 1000 ∧ a.nl.length ≤ 1000) (lb : b.sl.length ≤ 1000 ∧ b.nl.length ≤ 1000) (l : Int) (h : ∀ W, Own W0 W A → CfOk W c ∧ ScrOk W a ∧ ScrOk W b) :
    Spec Try.prog W0 12 [.agg (cfgV c).toArray, .agg (scrV a).toArray, .agg (scrV b).toArray, .int .i64 l] A (fun v B => v = .bool (agS c a b l) ∧ B = A) :=
  spec_post (spec_rebase fun W hO => siAgree_spec W [] c (h W hO).1 hgl a b (h W hO).2.1 (h W hO).2.2 la lb l) fun v B hB => by
    obtain ⟨C, ⟨rfl, rfl⟩, rfl⟩ := hB
    exact ⟨_, ⟨rfl, rfl⟩, ent_refl⟩
theorem sameM_spec (W0 : World) (A : List HP) (a b : Scr) (ei : a.il.map (fun x => x.l) = b.il.map (fun x => x.l)) (es : a.sl = b.sl) (en : a.nl = b.nl) (ls : a.sl.length ≤ 1000) (ln : a.nl.length ≤ 1000) (li : a.il.length ≤ 1000) (za : ImgZ a) (h : ∀ W, Own W0 W A → ScrOk W a ∧ ScrOk W b) :
    Spec Try.prog W0 14 [.agg (scrV a).toArray, .agg (scrV b).toArray] A (fun v B => v = .bool true ∧ B = A) :=
  spec_post (spec_rebase fun W hO => same41_spec W [] a b (h W hO).1 (h W hO).2 ei es en ls ln li za) fun v B hB => by
    obtain ⟨C, ⟨rfl, rfl⟩, rfl⟩ := hB
    exact ⟨_, ⟨rfl, rfl⟩, ent_refl⟩
end Go.Proofs.Ytncegikenkpcmaa
namespace Go.Proofs.Ytncegikenkpcmaa
open Go.RowKit
set_option linter.unusedSimpArgs false
set_option linter.unusedVariables false
set_option maxRecDepth 20000
def begF (l : List Sec) (at_ : Int) : List Nat := l.foldl (fun acc x => if x.at_ = at_ then ftB x.d 16 else acc) (ftB ⟨#[]⟩ 16)
theorem begK_fold (l : List Sec) (at_ : Int) : ∀ n, n ≤ l.length → begK l at_ n = begF (l.take n) at_
  | 0, _ => rfl
  | n + 1, h => by
    have hn : n < l.length := by omega
    rw [begK, List.take_succ_eq_append_getElem hn, begF, List.foldl_append, begK_fold l at_ n (by omega), show l.getD n default = l[n] by simp [List.getD, hn]]
    rfl
theorem begS_F (s : Scr) (at_ : Int) : begS s at_ = begF s.sl at_ := by
  rw [begS, begK_fold _ _ _ (Nat.le_refl _), List.take_of_length_le (Nat.le_refl _)]
theorem fold_yes {at_ : Int} {p : Sec → Bool} : ∀ (l : List Sec) (z : List Nat), (∀ x ∈ l, x.at_ = at_ → p x = true) → (l.filter p).foldl (fun acc x => if x.at_ = at_ then ftB x.d 16 else acc) z = l.foldl (fun acc x => if x.at_ = at_ then ftB x.d 16 else acc) z
  | [], z, _ => rfl
  | x :: l, z, h => by
    have ih := fun z => fold_yes l z fun y hy => h y (List.mem_cons_of_mem _ hy)
    by_cases hp : p x = true
    · rw [List.filter_cons_of_pos hp, List.foldl_cons, List.foldl_cons, ih]
    · rw [List.filter_cons_of_neg hp, List.foldl_cons, if_neg (fun q => hp (h x (by simp) q)), ih]
theorem fold_no {at_ : Int} {p : Sec → Bool} : ∀ (l : List Sec) (z : List Nat), (∀ x ∈ l, x.at_ = at_ → p x = false) → (l.filter p).foldl (fun acc x => if x.at_ = at_ then ftB x.d 16 else acc) z = z
  | [], z, _ => rfl
  | x :: l, z, h => by
    have ih := fun z => fold_no l z fun y hy => h y (List.mem_cons_of_mem _ hy)
    by_cases hp : p x = true
    · rw [List.filter_cons_of_pos hp, List.foldl_cons, if_neg (fun q => by rw [h x (by simp) q] at hp; cases hp), ih]
    · rw [List.filter_cons_of_neg hp, ih]
section
variable {c : Cfg} {a b m : Scr} {l : Int} (hm : MxIs c a b l m) (hr : rt c = true)
include hm hr
theorem mx_words {i : Nat} (hi : i < c.gl.length) : (wrdI m i).l = (wrdI (pikS c a b l i) i).l := by
  have h := hm.il
  rw [if_pos hr] at h
  have hlen : m.il.length = c.gl.length := by
    have := congrArg List.length h
    simpa [imM] using this
  have e1 : (m.il.map (fun x => x.l))[i]? = some (wrdI m i).l := by
    simp [wrdI, List.getD, show i < m.il.length by omega]
  rw [h] at e1
  have e2 : (imM c a b l c.gl.length)[i]? = some (wrdI (pikS c a b l i) i).l := by simp [imM, hi]
  rw [e2] at e1
  exact (Option.some.inj e1).symm
theorem mx_begS {at_ : Int} : (rngd c at_ l).2 = true → begS m at_ = begS a at_ := fun h => by
  have hs := hm.sl
  rw [if_pos hr] at hs
  rw [begS_F, begS_F, hs, seM, begF, List.foldl_append, fold_no b.sl _ (fun x _ e => by rw [e, h]; simp), fold_yes a.sl _ (fun x _ e => by rw [e]; exact h)]
  rfl
theorem mx_begO {at_ : Int} : (rngd c at_ l).1 = true → (rngd c at_ l).2 = false → begS m at_ = begS b at_ := fun h1 h2 => by
  have hs := hm.sl
  rw [if_pos hr] at hs
  rw [begS_F, begS_F, hs, seM, begF, List.foldl_append, fold_no a.sl _ (fun x _ e => by rw [e]; exact h2), fold_yes b.sl _ (fun x _ e => by rw [e, h1, h2]; rfl)]
  rfl
theorem mx_com {i : Nat} (hi : i < c.gl.length) (hl : a.nl.length + b.nl.length ≤ 256) : comS m i = comS (pikS c a b l i) i := by
  have hs := hm.nl
  rw [if_pos hr] at hs
  have hlen : (nlM c a b l).length ≤ 256 := by
    rw [nlM, List.length_append]
    have h1 := List.length_filter_le (inpB c l true) a.nl
    have h2 := List.length_filter_le (inpB c l false) b.nl
    omega
  rw [List.take_of_length_le hlen] at hs
  obtain ⟨w, hw⟩ : ∃ w, flB (c.gl.getD i (0, 0, 0)).1 l = w := ⟨_, rfl⟩
  have key : ∀ (want : Bool) (q : List Inp), (q.filter (inpB c l want)).filter (cntB i) = if w = want then q.filter (cntB i) else [] := fun want q => by
    rw [List.filter_filter]
    by_cases e : w = want
    · rw [if_pos e]
      apply List.filter_congr
      intro x _
      cases hc : cntB i x with
      | false => rfl
      | true =>
        have hg := (of_decide_eq_true hc).1
        rw [Bool.true_and, inpB, hg, Int.toNat_natCast, hw, e]
        simp; omega
    · rw [if_neg e, List.filter_eq_nil_iff]
      intro x _
      cases hc : cntB i x with
      | false => simp
      | true =>
        have hg := (of_decide_eq_true hc).1
        rw [Bool.true_and, inpB, hg, Int.toNat_natCast, hw]
        intro q
        simp only [Bool.and_eq_true, beq_iff_eq] at q
        exact e q.2
  rw [comS, hs, nlM, List.filter_append, key, key, comS, pikS, hw]
  cases w <;> simp
theorem mx_agree (hl : a.nl.length + b.nl.length ≤ 256) : agS c a m l = true ∧ agS c m a l = true := by
  have hg : ∀ i ∈ gsO c l, (wrdI m i).l = (wrdI a i).l ∧ comS m i = comS a i := fun i hi => by
    have h1 := gsO_lt i hi
    have hp : pikS c a b l i = a := by
      unfold gsO at hi
      rw [if_pos hr] at hi
      obtain ⟨_, z, h2, h3⟩ := (pkK_mem _ _ _ _ (Nat.le_refl _)).1 hi
      rw [pikS, show c.gl.getD i (0, 0, 0) = z by simp [List.getD, h2], if_pos h3]
    exact ⟨by rw [mx_words hm hr h1, hp], by rw [mx_com hm hr h1 hl, hp]⟩
  have hs : ∀ i ∈ seK c l 32, begS m i = begS a i := fun i hi => by
    unfold seK at hi
    exact mx_begS hm hr (List.mem_filter.1 hi).2
  simp only [agS, hr, Bool.true_and, Bool.and_eq_true, List.all_eq_true]
  refine ⟨⟨fun i hi => ?_, fun i hi => ?_⟩, ⟨fun i hi => ?_, fun i hi => ?_⟩⟩
  · obtain ⟨h1, h2⟩ := hg i hi
    rw [agG, cutW, cutW, h1, h2, eqLs_refl (fun x => by simp [eqN]), eqLs_refl eqI_refl]; rfl
  · rw [agB, hs i hi]; simp [eqB]
  · obtain ⟨h1, h2⟩ := hg i hi
    rw [agG, cutW, cutW, h1, h2, eqLs_refl (fun x => by simp [eqN]), eqLs_refl eqI_refl]; rfl
  · rw [agB, hs i hi]; simp [eqB]
end
theorem flB_neg {g : Int} : flB g (-1) = false := flB_no fun h => by
  have := isL_iff.1 h.2; omega
theorem mx_none {c : Cfg} {a b m : Scr} (hm : MxIs c a b (-1) m) (hr : rt c = true) (hl : a.nl.length + b.nl.length ≤ 256) : agS c b m 255 = true := by
  have hp : ∀ i, pikS c a b (-1) i = b := fun i => by rw [pikS, flB_neg, if_neg (by decide)]
  have hs : ∀ i ∈ seK c 255 32, begS m i = begS b i := fun i hi => by
    unfold seK at hi
    have h2 := (List.mem_filter.1 hi).2
    unfold rngd at h2
    cases e : rgOf c (i : Int) with
    | none => rw [e] at h2; cases h2
    | some j => exact mx_begO hm hr (by rw [rngd, e]; rfl) (by rw [rngd, e]; exact flB_neg)
  simp only [agS, hr, Bool.true_and, Bool.and_eq_true, List.all_eq_true]
  refine ⟨fun i hi => ?_, fun i hi => ?_⟩
  · have h1 := gsO_lt i hi
    rw [agG, cutW, cutW, mx_words hm hr h1, mx_com hm hr h1 hl, hp, eqLs_refl (fun x => by simp [eqN]), eqLs_refl eqI_refl]; rfl
  · rw [agB, hs i hi]; simp [eqB]
theorem ag_self {c : Cfg} {a : Scr} {l : Int} (hr : rt c = true) : agS c a a l = true := by
  simp only [agS, hr, Bool.true_and, Bool.and_eq_true, List.all_eq_true]
  refine ⟨fun i _ => ?_, fun i _ => ?_⟩
  · rw [agG, eqLs_refl (fun x => by simp [eqN]), eqLs_refl eqI_refl]; rfl
  · simp [agB, eqB]
theorem pkK_full {α : Type} {p : α → Bool} {l : List α} (h : ∀ x ∈ l, p x = true) : ∀ k, k ≤ l.length → (pkK p l k).length = k
  | 0, _ => rfl
  | k + 1, hk => by
    have hk1 : k < l.length := by omega
    rw [pkK_yes hk1 (h _ (List.getElem_mem hk1)), List.length_append, pkK_full h k (by omega)]; rfl
theorem vaL_is {l k : Int} (h : vaL l k = true) : isL l = true := by
  simp only [vaL, Bool.and_eq_true] at h; exact h.1.2
theorem flB_all {g : Int} (h : isL g = true) : flB g 255 = true := by
  have hg := isL_iff.1 h
  simp only [flB, Bool.and_eq_true, decide_eq_true_iff]
  refine ⟨⟨h, by decide⟩, ?_⟩
  have hb : g.toNat < 256 := by omega
  refine (and_self_iff hb).2 fun c hc _ => ?_
  show (255 : Nat).testBit c = true
  have : c = 0 ∨ c = 1 ∨ c = 2 ∨ c = 3 ∨ c = 4 ∨ c = 5 ∨ c = 6 ∨ c = 7 := by omega
  rcases this with rfl | rfl | rfl | rfl | rfl | rfl | rfl | rfl <;> rfl
theorem gsO_all {c : Cfg} (hr : rt c = true) : (gsO c 255).length = c.gl.length := by
  have hk := rt_yes hr
  rw [gsO, if_pos hr]
  exact pkK_full (fun g hg => flB_all (vaL_is ((grW_no hk.2.2.1).2.2 g hg).1)) _ (Nat.le_refl _)
theorem SightMix_walk (W0 : World) (c : Cfg) (h : CfOk W0 c) (a b : Scr) (ha : ScrOk W0 a) (hb : ScrOk W0 b) (za : ImgZ a) (zb : ImgZ b) (l : Int) :
    Spec Try.prog W0 4 [.agg (cfgV c).toArray, .agg (scrV a).toArray, .agg (scrV b).toArray, .int .i64 l] [] (fun v B => v = .bool true ∧ B = []) := by
  obtain ⟨w, hw⟩ : ∃ w, rt c = w := ⟨_, rfl⟩
  refine spec_body Try.func4 Try.ntmps4 rfl rfl ?_
  refine x_seq (x_region (s_do rfl (d_boxA rfl) ?_))
  rintro _ _ ⟨b4, rfl, rfl⟩
  refine s_do rfl (d_boxA rfl) ?_
  rintro _ _ ⟨b5, rfl, rfl⟩
  refine s_do rfl (d_boxA rfl) ?_
  rintro _ _ ⟨b6, rfl, rfl⟩
  refine s_val rfl (v_assign rfl) (x_nil (n_then (x_seq (x_seq (x_region (s_val rfl (v_loadAll Try.isAgg28 Try.sizeOf28 rfl rfl) ?_))))))
  refine s_do rfl (d_call Try.call5 rfl (small41_spec W0 _ c)) ?_
  rintro _ B_ ⟨rfl, hB_⟩
  obtain rfl := hB_.symm
  refine s_val rfl (v_not rfl) (s_val rfl (v_move rfl) ?_)
  refine s_or rfl rfl rfl ?_ ?_
  · intro g1_4
    refine s_no rfl rfl rfl rfl (s_no rfl rfl rfl rfl (s_val rfl (v_pick_t rfl rfl) (s_val rfl (v_move rfl) (s_no rfl rfl rfl rfl (s_no rfl rfl rfl rfl (s_no rfl rfl rfl rfl (s_val rfl (v_pick_t rfl rfl) (s_val rfl (v_move rfl) (s_no rfl rfl rfl rfl (s_no rfl rfl rfl rfl (s_no rfl rfl rfl rfl (s_no rfl rfl rfl rfl (s_no rfl rfl rfl rfl (s_no rfl rfl rfl rfl (s_no rfl rfl rfl rfl (s_no rfl rfl rfl rfl (s_val rfl (v_pick_t rfl rfl) (x_nil (n_then (x_ift rfl (x_seq (x_region (s_do rfl (d_call Try.call7 rfl (awake41_spec W0 _)) ?_)))))))))))))))))))))))
    rintro _ B_ ⟨rfl, hB_⟩
    obtain rfl := hB_.symm
    refine s_val rfl (v_assign rfl) (x_nil (n_then (x_ret (r_then (x_done (.inl rfl) (.cons (r_tmp rfl) .nil) ?_)))))
    exact ⟨_, ⟨rfl, rfl⟩, inferInstance⟩
  · intro g1_4
    refine s_val rfl (v_loadAll Try.isAgg33 Try.sizeOf33 rfl rfl) ?_
    refine s_yes rfl rfl (s_do rfl (d_call Try.call6 rfl (light41_spec W0 _ a)) ?_)
    rintro _ B_ ⟨rfl, hB_⟩
    obtain rfl := hB_.symm
    refine s_yes rfl rfl (s_val rfl (v_not rfl) (s_val rfl (v_pick_f rfl rfl) (s_val rfl (v_move rfl) ?_)))
    refine s_or rfl rfl rfl ?_ ?_
    · intro g1_9
      refine s_no rfl rfl rfl rfl (s_no rfl rfl rfl rfl (s_val rfl (v_pick_t rfl rfl) (s_val rfl (v_move rfl) (s_no rfl rfl rfl rfl (s_no rfl rfl rfl rfl (s_no rfl rfl rfl rfl (s_no rfl rfl rfl rfl (s_no rfl rfl rfl rfl (s_no rfl rfl rfl rfl (s_no rfl rfl rfl rfl (s_no rfl rfl rfl rfl (s_val rfl (v_pick_t rfl rfl) (x_nil (n_then (x_ift rfl (x_seq (x_region (s_do rfl (d_call Try.call7 rfl (awake41_spec W0 _)) ?_))))))))))))))))))
      rintro _ B_ ⟨rfl, hB_⟩
      obtain rfl := hB_.symm
      refine s_val rfl (v_assign rfl) (x_nil (n_then (x_ret (r_then (x_done (.inl rfl) (.cons (r_tmp rfl) .nil) ?_)))))
      exact ⟨_, ⟨rfl, rfl⟩, inferInstance⟩
    · intro g1_9
      refine s_val rfl (v_loadAll Try.isAgg33 Try.sizeOf33 rfl rfl) ?_
      refine s_yes rfl rfl (s_do rfl (d_call Try.call6 rfl (light41_spec W0 _ b)) ?_)
      rintro _ B_ ⟨rfl, hB_⟩
      obtain rfl := hB_.symm
      refine s_yes rfl rfl (s_val rfl (v_not rfl) (s_val rfl (v_pick_f rfl rfl) (s_val rfl (v_move rfl) ?_)))
      refine s_or rfl rfl rfl ?_ ?_
      · intro g1_14
        refine s_no rfl rfl rfl rfl (s_no rfl rfl rfl rfl (s_no rfl rfl rfl rfl (s_no rfl rfl rfl rfl (s_no rfl rfl rfl rfl (s_no rfl rfl rfl rfl (s_no rfl rfl rfl rfl (s_val rfl (v_pick_t rfl rfl) (x_nil (n_then (x_ift rfl (x_seq (x_region (s_do rfl (d_call Try.call7 rfl (awake41_spec W0 _)) ?_)))))))))))))
        rintro _ B_ ⟨rfl, hB_⟩
        obtain rfl := hB_.symm
        refine s_val rfl (v_assign rfl) (x_nil (n_then (x_ret (r_then (x_done (.inl rfl) (.cons (r_tmp rfl) .nil) ?_)))))
        exact ⟨_, ⟨rfl, rfl⟩, inferInstance⟩
      · intro g1_14
        have k1 := of_decide_eq_true (show smB c = true by simp_all)
        have k2 := of_decide_eq_true (show ltB a = true by simp_all)
        have k3 := of_decide_eq_true (show ltB b = true by simp_all)
        refine s_val rfl (v_fieldAddr rfl Try.underlying33 rfl Try.sizeOf31 rfl (by first | exact Nat.zero_add _ | rfl)) ?_
        refine s_yes rfl rfl (s_val rfl (v_load Try.isAgg31 rfl (cell_own rfl)) ?_)
        refine s_yes rfl rfl (s_val rfl (v_len_slice Try.underlying31 rfl) (s_yes rfl rfl ?_))
        refine s_val rfl (v_fieldAddr rfl Try.underlying33 rfl Try.sizeOf31 rfl (by first | exact Nat.zero_add _ | rfl)) ?_
        refine s_yes rfl rfl (s_val rfl (v_load Try.isAgg31 rfl (cell_own rfl)) ?_)
        refine s_yes rfl rfl (s_val rfl (v_len_slice Try.underlying31 rfl) (s_yes rfl rfl ?_))
        refine s_val rfl (v_add rfl rfl (w64 (by omega))) ?_
        refine s_yes rfl rfl (s_val rfl (v_gtr rfl rfl) (s_val rfl (v_pick_f rfl rfl) (x_nil (n_then ?_))))
        refine x_if rfl ?_ ?_
        · intro c1
          refine x_seq (x_region (s_do rfl (d_call Try.call7 rfl (awake41_spec W0 _)) ?_))
          rintro _ B_ ⟨rfl, hB_⟩
          obtain rfl := hB_.symm
          refine s_val rfl (v_assign rfl) (x_nil (n_then (x_ret (r_then (x_done (.inl rfl) (.cons (r_tmp rfl) .nil) ?_)))))
          exact ⟨_, ⟨rfl, rfl⟩, inferInstance⟩
        · intro c1
          refine x_skip (n_then (x_seq ?_))
          have hla : ltB a = true := by simp_all
          have hn : a.nl.length + b.nl.length ≤ 256 := by omega
          refine x_region (s_val rfl (v_loadAll Try.isAgg28 Try.sizeOf28 rfl rfl) ?_)
          refine s_val rfl (v_loadAll Try.isAgg33 Try.sizeOf33 rfl rfl) ?_
          refine s_val rfl (v_loadAll Try.isAgg33 Try.sizeOf33 rfl rfl) ?_
          refine s_val rfl (v_move rfl) ?_
          refine s_do rfl (d_call Try.call13 rfl (siMix_spec W0 _ c h (by omega) a b ha hb za zb (by omega) (by omega) l)) ?_
          rintro _ B_ ⟨m, C, rfl, hm, hB_, hok⟩
          obtain rfl := hB_.symm
          refine s_do rfl (d_allocA Try.zeroValue33) ?_
          rintro _ _ ⟨b9, rfl, rfl⟩
          refine s_do0 (d_storeAll Try.sizeOf33 rfl rfl rfl rfl rfl) ?_
          rintro _ _ rfl
          refine x_nil (n_then (x_seq (x_seq ?_)))
          have hms : m.sl.length ≤ 1000 := by
            rw [hm.sl]; split
            · rw [seM, List.length_append]
              have h1 := List.length_filter_le (fun x : Sec => (rngd c x.at_ l).2) a.sl
              have h2 := List.length_filter_le (fun x : Sec => (rngd c x.at_ l).1 && !(rngd c x.at_ l).2) b.sl
              omega
            · exact Nat.zero_le _
          have hmn : m.nl.length ≤ 256 := by
            rw [hm.nl]; split
            · rw [List.length_take]; omega
            · exact Nat.zero_le _
          have hmi : m.il.length ≤ 20 := by
            have e := congrArg List.length hm.il
            rw [List.length_map] at e
            rw [e]; split
            · simp [imM]; omega
            · exact Nat.zero_le _
          have hga := fun q => gsO_all (c := c) q
          have hgl := gsO_len (c := c) (l := 255)
          refine x_draw [(b4, 0, _)] 12 mixed rfl (sc_own sc_end) (fun hS => ?_)
          refine d_take 0 rfl rfl (by kernel_rfl) (by kernel_rfl) (by kernel_rfl) rfl hS (v_loadAgg Try.isAgg28 Try.sizeOf28 rfl (cells_sc (k := 0) rfl) rfl) ?_
          refine d_take 3 rfl rfl (by kernel_rfl) (by kernel_rfl) (by kernel_rfl) rfl hS (v_fieldAddr rfl Try.underlying28 rfl Try.sizeOf22 rfl (by first | exact Nat.zero_add _ | rfl)) ?_
          refine d_take 4 rfl rfl (by kernel_rfl) (by kernel_rfl) (by kernel_rfl) rfl hS (v_load Try.isAgg22 rfl (cell_sc0 (k := 0) rfl rfl)) ?_
          refine d_take 5 rfl rfl (by kernel_rfl) (by kernel_rfl) (by kernel_rfl) rfl hS (v_len_slice Try.underlying22 rfl) ?_
          refine d_take 7 rfl rfl (by kernel_rfl) (by kernel_rfl) (by kernel_rfl) rfl hS (v_fieldAddr rfl Try.underlying28 rfl Try.sizeOf22 rfl (by first | exact Nat.zero_add _ | rfl)) ?_
          refine d_take 8 rfl rfl (by kernel_rfl) (by kernel_rfl) (by kernel_rfl) rfl hS (v_load Try.isAgg22 rfl (cell_sc0 (k := 0) rfl rfl)) ?_
          refine d_take 9 rfl rfl (by kernel_rfl) (by kernel_rfl) (by kernel_rfl) rfl hS (v_len_slice Try.underlying22 rfl) ?_
          refine d_take 10 rfl rfl (by kernel_rfl) (by kernel_rfl) (by kernel_rfl) rfl hS (v_mul rfl rfl (by rw [w64 (by omega)]; omega : IntKind.wrap .i64 (2 * (c.gl.length : Int)) = ((2 * c.gl.length : Nat) : Int))) ?_
          refine d_one 1 (by kernel_rfl) rfl rfl (d_call Try.call9 rfl (siGuests_spec W0 _ c h (by omega) 255)) rfl ?_; clear hS
          rintro _ B_ ⟨ag, kg, rfl, hB_⟩
          obtain rfl := hB_.symm
          refine ⟨(sc_own sc_end), fun hS => ?_⟩
          refine d_take 2 rfl rfl (by kernel_rfl) (by kernel_rfl) (by kernel_rfl) rfl hS (v_len_slice Try.underlying38 rfl) ?_
          refine d_take 6 rfl rfl (by kernel_rfl) (by kernel_rfl) (by kernel_rfl) rfl hS (v_add rfl rfl (by rw [w64 (by omega)]; omega : IntKind.wrap .i64 (((gsO c 255).length : Int) + (c.gl.length : Int)) = (((gsO c 255).length + c.gl.length : Nat) : Int))) ?_
          refine d_take 11 rfl rfl (by kernel_rfl) (by kernel_rfl) (by kernel_rfl) rfl hS (v_neq rfl rfl) ?_
          refine d_done (by kernel_rfl) ?_; clear hS
          refine n_then ?_
          refine x_if rfl ?_ ?_
          · intro c4
            have hr : rt c = false := by
              rw [← Bool.not_eq_true]; intro q; have := hga q; omega
            have hag : agS c a m l = false := by rw [agS, hr]; rfl
            have hmz : m.il.map (fun x => x.l) = (⟨none, 0, [], none, 0, [], none, 0, []⟩ : Scr).il.map (fun x => x.l) := by rw [hm.il, hr]; rfl
            have hmz2 : m.sl = [] := by rw [hm.sl, hr]; rfl
            have hmz3 : m.nl = [] := by rw [hm.nl, hr]; rfl
            have hmz4 : ImgZ m := fun x hx => by
              have h0 : m.il = [] := by simpa using hmz
              rw [h0] at hx; simp at hx
            refine x_seq (x_region (s_val rfl (v_loadAll Try.isAgg28 Try.sizeOf28 rfl rfl) ?_))
            refine s_val rfl (v_loadAll Try.isAgg33 Try.sizeOf33 rfl rfl) ?_
            refine s_val rfl (v_loadAll Try.isAgg33 Try.sizeOf33 rfl rfl) ?_
            refine s_val rfl (v_move rfl) ?_
            refine s_do rfl (d_call Try.call12 rfl (agreeM_spec W0 _ c a m (by omega) (by omega) (by omega) l (fun W hO => ⟨h.now hO, ha.now hO, (hok W _ (hO.tk (r := kH) (b := 6))).1⟩))) ?_
            rintro _ B_ ⟨rfl, hB_⟩
            obtain rfl := hB_.symm
            rw [hag]
            refine s_val rfl (v_not rfl) (s_val rfl (v_move rfl) ?_)
            refine s_and rfl rfl rfl ?_ ?_
            · intro g5_7
              refine s_val rfl (v_loadAll Try.isAgg33 Try.sizeOf33 rfl rfl) ?_
              refine s_yes rfl rfl (s_val rfl (v_build Try.underlying33 Try.zeroValue33 (sized_cons Try.sizeOf29 (sized_cons Try.sizeOf30 (sized_cons Try.sizeOf31 sized_nil))) fil_nil) ?_)
              refine s_yes rfl rfl ?_
              refine s_do rfl (d_call Try.call14 rfl (sameM_spec W0 _ m ⟨none, 0, [], none, 0, [], none, 0, []⟩ hmz hmz2 hmz3 (by omega) (by omega) (by omega) hmz4 (fun W hO => ⟨(hok W _ (hO.tk (r := kH) (b := 6))).1, (zero_ok W).1⟩))) ?_
              rintro _ B_ ⟨rfl, hB_⟩
              obtain rfl := hB_.symm
              refine s_val rfl (v_pick_t rfl rfl) (s_val rfl (v_move rfl) ?_)
              refine s_and rfl rfl rfl ?_ ?_
              · intro g5_12
                refine s_do rfl (d_call Try.call7 rfl (awake41_spec W0 _)) ?_
                rintro _ B_ ⟨rfl, hB_⟩
                obtain rfl := hB_.symm
                refine s_val rfl (v_pick_t rfl rfl) (s_val rfl (v_assign rfl) (x_nil (n_then (x_ret (r_then (x_done (.inl rfl) (.cons (r_tmp rfl) .nil) ?_))))))
                exact ⟨_, ⟨rfl, rfl⟩, inferInstance⟩
              · intro g5_12
                exact absurd rfl g5_12
            · intro g5_7
              exact absurd (by decide) g5_7
          · intro c4
            refine x_skip (n_then (x_seq (x_seq (x_region ?_))))
            refine s_val rfl (v_fieldAddr rfl Try.underlying28 rfl Try.sizeOf22 rfl (by first | exact Nat.zero_add _ | rfl)) ?_
            refine s_val rfl (v_load Try.isAgg22 rfl (cell_own rfl)) ?_
            refine s_val rfl (v_len_slice Try.underlying22 rfl) (s_val rfl (v_eql rfl rfl) (x_nil (n_then ?_)))
            refine x_if rfl ?_ ?_
            · intro c6
              refine x_seq (x_region (s_do rfl (d_call Try.call7 rfl (awake41_spec W0 _)) ?_))
              rintro _ B_ ⟨rfl, hB_⟩
              obtain rfl := hB_.symm
              refine s_val rfl (v_assign rfl) (x_nil (n_then (x_ret (r_then (x_done (.inl rfl) (.cons (r_tmp rfl) .nil) ?_)))))
              exact ⟨_, ⟨rfl, rfl⟩, inferInstance⟩
            · intro c6
              have hr : rt c = true := by
                rw [← Bool.not_eq_false]; intro q
                have e : gsO c 255 = [] := by rw [gsO, q]; rfl
                rw [e] at c4; simp at c4; omega
              obtain ⟨ha1, ha2⟩ := mx_agree hm hr hn
              have ha3 : l = -1 → agS c b m 255 = true := fun e => by
                subst e; exact mx_none hm hr hn
              have ha4 := ag_self (c := c) (a := a) (l := 255) hr
              have hlb : ltB b = true := by simp_all
              refine x_skip (n_then (x_seq (x_region (s_val rfl (v_loadAll Try.isAgg28 Try.sizeOf28 rfl rfl) ?_))))
              refine s_val rfl (v_loadAll Try.isAgg33 Try.sizeOf33 rfl rfl) ?_
              refine s_val rfl (v_loadAll Try.isAgg33 Try.sizeOf33 rfl rfl) ?_
              refine s_val rfl (v_move rfl) ?_
              refine s_do rfl (d_call Try.call12 rfl (agreeM_spec W0 _ c a m (by omega) (by omega) (by omega) l (fun W hO => ⟨h.now hO, ha.now hO, (hok W _ (hO.tk (r := kH) (b := 6))).1⟩))) ?_
              rintro _ B_ ⟨rfl, hB_⟩
              obtain rfl := hB_.symm
              rw [ha1]
              refine s_val rfl (v_move rfl) ?_
              refine s_and rfl rfl rfl ?_ ?_
              · intro g8_6
                refine s_val rfl (v_loadAll Try.isAgg28 Try.sizeOf28 rfl rfl) ?_
                refine s_yes rfl rfl (s_val rfl (v_loadAll Try.isAgg33 Try.sizeOf33 rfl rfl) ?_)
                refine s_yes rfl rfl (s_val rfl (v_loadAll Try.isAgg33 Try.sizeOf33 rfl rfl) ?_)
                refine s_yes rfl rfl (s_val rfl (v_move rfl) (s_yes rfl rfl ?_))
                refine s_do rfl (d_call Try.call12 rfl (agreeM_spec W0 _ c m a (by omega) (by omega) (by omega) l (fun W hO => ⟨h.now hO, (hok W _ (hO.tk (r := kH) (b := 6))).1, ha.now hO⟩))) ?_
                rintro _ B_ ⟨rfl, hB_⟩
                obtain rfl := hB_.symm
                rw [ha2]
                refine s_val rfl (v_pick_t rfl rfl) (s_val rfl (v_move rfl) ?_)
                refine s_and rfl rfl rfl ?_ ?_
                · intro g8_13
                  refine s_val rfl (v_move rfl) (s_yes rfl rfl (s_val rfl (v_neq rfl rfl) (s_yes rfl rfl (s_val rfl (v_move rfl) ?_))))
                  refine s_or rfl rfl rfl ?_ ?_
                  · intro g8_16
                    refine s_no rfl rfl rfl rfl (s_no rfl rfl rfl rfl (s_no rfl rfl rfl rfl (s_yes rfl rfl (s_val rfl (v_pick_t rfl rfl) (s_val rfl (v_pick_t rfl rfl) (s_val rfl (v_move rfl) (s_yes rfl rfl (s_val rfl (v_loadAll Try.isAgg28 Try.sizeOf28 rfl rfl) ?_))))))))
                    refine s_yes rfl rfl (s_val rfl (v_loadAll Try.isAgg33 Try.sizeOf33 rfl rfl) ?_)
                    refine s_yes rfl rfl (s_val rfl (v_loadAll Try.isAgg33 Try.sizeOf33 rfl rfl) ?_)
                    refine s_yes rfl rfl ?_
                    refine s_do rfl (d_call Try.call12 rfl (agreeM_spec W0 _ c a a (by omega) (by omega) (by omega) 255 (fun W hO => ⟨h.now hO, ha.now hO, ha.now hO⟩))) ?_
                    rintro _ B_ ⟨rfl, hB_⟩
                    obtain rfl := hB_.symm
                    rw [ha4]
                    refine s_val rfl (v_pick_t rfl rfl) (s_val rfl (v_move rfl) ?_)
                    refine s_and rfl rfl rfl ?_ ?_
                    · intro g8_29
                      refine s_do rfl (d_call Try.call7 rfl (awake41_spec W0 _)) ?_
                      rintro _ B_ ⟨rfl, hB_⟩
                      obtain rfl := hB_.symm
                      refine s_val rfl (v_pick_t rfl rfl) (s_val rfl (v_assign rfl) (x_nil (n_then (x_ret (x_done (.inl rfl) (.cons (r_tmp rfl) .nil) ?_)))))
                      exact ⟨_, ⟨rfl, rfl⟩, inferInstance⟩
                    · intro g8_29
                      exact absurd rfl g8_29
                  · intro g8_16
                    refine s_val rfl (v_loadAll Try.isAgg28 Try.sizeOf28 rfl rfl) ?_
                    refine s_yes rfl rfl (s_val rfl (v_loadAll Try.isAgg33 Try.sizeOf33 rfl rfl) ?_)
                    refine s_yes rfl rfl (s_val rfl (v_loadAll Try.isAgg33 Try.sizeOf33 rfl rfl) ?_)
                    refine s_yes rfl rfl ?_
                    refine s_do rfl (d_call Try.call12 rfl (agreeM_spec W0 _ c b m (by omega) (by omega) (by omega) 255 (fun W hO => ⟨h.now hO, hb.now hO, (hok W _ (hO.tk (r := kH) (b := 6))).1⟩))) ?_
                    rintro _ B_ ⟨rfl, hB_⟩
                    obtain rfl := hB_.symm
                    rw [ha3 (by omega)]
                    refine s_yes rfl rfl (s_val rfl (v_pick_f rfl rfl) (s_val rfl (v_pick_t rfl rfl) (s_val rfl (v_move rfl) ?_)))
                    refine s_and rfl rfl rfl ?_ ?_
                    · intro g8_23
                      refine s_val rfl (v_loadAll Try.isAgg28 Try.sizeOf28 rfl rfl) ?_
                      refine s_yes rfl rfl (s_val rfl (v_loadAll Try.isAgg33 Try.sizeOf33 rfl rfl) ?_)
                      refine s_yes rfl rfl (s_val rfl (v_loadAll Try.isAgg33 Try.sizeOf33 rfl rfl) ?_)
                      refine s_yes rfl rfl ?_
                      refine s_do rfl (d_call Try.call12 rfl (agreeM_spec W0 _ c a a (by omega) (by omega) (by omega) 255 (fun W hO => ⟨h.now hO, ha.now hO, ha.now hO⟩))) ?_
                      rintro _ B_ ⟨rfl, hB_⟩
                      obtain rfl := hB_.symm
                      rw [ha4]
                      refine s_val rfl (v_pick_t rfl rfl) (s_val rfl (v_move rfl) ?_)
                      refine s_and rfl rfl rfl ?_ ?_
                      · intro g8_29
                        refine s_do rfl (d_call Try.call7 rfl (awake41_spec W0 _)) ?_
                        rintro _ B_ ⟨rfl, hB_⟩
                        obtain rfl := hB_.symm
                        refine s_val rfl (v_pick_t rfl rfl) (s_val rfl (v_assign rfl) (x_nil (n_then (x_ret (x_done (.inl rfl) (.cons (r_tmp rfl) .nil) ?_)))))
                        exact ⟨_, ⟨rfl, rfl⟩, inferInstance⟩
                      · intro g8_29
                        exact absurd rfl g8_29
                    · intro g8_23
                      exact absurd rfl g8_23
                · intro g8_13
                  exact absurd rfl g8_13
              · intro g8_6
                exact absurd rfl g8_6
end Go.Proofs.Ytncegikenkpcmaa
namespace Go.Proofs.Ytncegikenkpcmaa
open Go.ChangeShapes Go.WideShapes Go.ChangeAt Go.RowKit
set_option linter.unusedSimpArgs false
set_option linter.unusedVariables false
theorem own : ownKnob Try.prog.godebug = none := by kernel_rfl
theorem laidOut : laidOutB Try.prog = true := by kernel_rfl
variable {W : World} {v : Value}
theorem wf_u32 {n : Int} (h : (Lit.int .u32 n).wf = true) : ∃ w : Nat, n = (w : Int) ∧ w < 4294967296 := by
  simp [Lit.wf, IntKind.min, IntKind.max, IntKind.signed, IntKind.bits] at h
  exact ⟨n.toNat, by omega, by omega⟩
end Go.Proofs.Ytncegikenkpcmaa
namespace Go.Proofs.Ytncegikenkpcmaa
open Go.ChangeShapes Go.WideShapes Go.ChangeAt Go.RowKit
set_option linter.unusedSimpArgs false
set_option linter.unusedVariables false
variable {W : World} {v : Value}
theorem wf_i64 {n : Int} (h : (Lit.int .i64 n).wf = true) : -9223372036854775808 ≤ n ∧ n < 9223372036854775808 := by
  simp [Lit.wf, IntKind.min, IntKind.max, IntKind.signed, IntKind.bits] at h
  omega
theorem ty_i64 (h : Ty Try.prog W 3 v) : ∃ n : Int, v = .int .i64 n ∧ -9223372036854775808 ≤ n ∧ n < 9223372036854775808 := by
  obtain ⟨n, rfl, hw⟩ := ty_int Try.underlying3 h
  exact ⟨n, rfl, wf_i64 hw⟩
end Go.Proofs.Ytncegikenkpcmaa
namespace Go.Proofs.Ytncegikenkpcmaa
open Go.ChangeShapes Go.WideShapes Go.ChangeAt Go.RowKit
set_option linter.unusedSimpArgs false
set_option linter.unusedVariables false
variable {W : World} {v : Value}
theorem list2s {l : List Value} (h : l.length = 2) : ∃ x0 x1, l = [x0, x1] := by
  match l, h with
  | [x0, x1], _ => exact ⟨x0, x1, rfl⟩
theorem list3s {l : List Value} (h : l.length = 3) : ∃ x0 x1 x2, l = [x0, x1, x2] := by
  match l, h with
  | [x0, x1, x2], _ => exact ⟨x0, x1, x2, rfl⟩
theorem list5s {l : List Value} (h : l.length = 5) : ∃ x0 x1 x2 x3 x4, l = [x0, x1, x2, x3, x4] := by
  match l, h with
  | [x0, x1, x2, x3, x4], _ => exact ⟨x0, x1, x2, x3, x4, rfl⟩
theorem list8s {l : List Value} (h : l.length = 8) : ∃ x0 x1 x2 x3 x4 x5 x6 x7, l = [x0, x1, x2, x3, x4, x5, x6, x7] := by
  match l, h with
  | [x0, x1, x2, x3, x4, x5, x6, x7], _ => exact ⟨x0, x1, x2, x3, x4, x5, x6, x7, rfl⟩
theorem inT_gst {fuel : Nat} {l : List Value} (h : InT Try.prog W fuel 49 l) : ∃ x : Int × Int × Int, l = gsV x ∧ True := by
  obtain ⟨hl, f', hf⟩ := inT_struct Try.underlying49 h
  obtain ⟨a, b, c, rfl⟩ := list3s (hl.trans (by kernel_rfl))
  have h0 := hf _ (List.mem_cons_self ..)
  have h1 := hf _ (List.mem_cons_of_mem _ (List.mem_cons_self ..))
  have h2 := hf _ (List.mem_cons_of_mem _ (List.mem_cons_of_mem _ (List.mem_cons_self ..)))
  rw [show Try.prog.cellsOf 3 = 1 by kernel_rfl] at h0 h1 h2
  obtain ⟨x0, e0, _⟩ := inT_int Try.underlying3 h0
  obtain ⟨x1, e1, _⟩ := inT_int Try.underlying3 h1
  obtain ⟨x2, e2, _⟩ := inT_int Try.underlying3 h2
  simp at e0 e1 e2
  exact ⟨(x0, x1, x2), by rw [e0, e1, e2]; rfl, trivial⟩
theorem inT_rng {fuel : Nat} {l : List Value} (h : InT Try.prog W fuel 83 l) : ∃ x : Int × Int × Int, l = gsV x ∧ True := by
  obtain ⟨hl, f', hf⟩ := inT_struct Try.underlying83 h
  obtain ⟨a, b, c, rfl⟩ := list3s (hl.trans (by kernel_rfl))
  have h0 := hf _ (List.mem_cons_self ..)
  have h1 := hf _ (List.mem_cons_of_mem _ (List.mem_cons_self ..))
  have h2 := hf _ (List.mem_cons_of_mem _ (List.mem_cons_of_mem _ (List.mem_cons_self ..)))
  rw [show Try.prog.cellsOf 3 = 1 by kernel_rfl] at h0 h1 h2
  obtain ⟨x0, e0, _⟩ := inT_int Try.underlying3 h0
  obtain ⟨x1, e1, _⟩ := inT_int Try.underlying3 h1
  obtain ⟨x2, e2, _⟩ := inT_int Try.underlying3 h2
  simp at e0 e1 e2
  exact ⟨(x0, x1, x2), by rw [e0, e1, e2]; rfl, trivial⟩
theorem inT_prt {fuel : Nat} {l : List Value} (h : InT Try.prog W fuel 54 l) : ∃ x : Int × Int, l = pairV x ∧ True := by
  obtain ⟨hl, f', hf⟩ := inT_struct Try.underlying54 h
  obtain ⟨a, b, rfl⟩ := list2s (hl.trans (by kernel_rfl))
  have h0 := hf _ (List.mem_cons_self ..)
  have h1 := hf _ (List.mem_cons_of_mem _ (List.mem_cons_self ..))
  rw [show Try.prog.cellsOf 3 = 1 by kernel_rfl] at h0 h1
  obtain ⟨x0, e0, _⟩ := inT_int Try.underlying3 h0
  obtain ⟨x1, e1, _⟩ := inT_int Try.underlying3 h1
  simp at e0 e1
  exact ⟨(x0, x1), by rw [e0, e1], trivial⟩
theorem inT_rin {fuel : Nat} {l : List Value} (h : InT Try.prog W fuel 108 l) : ∃ x : Int × Int, l = pairV x ∧ True := by
  obtain ⟨hl, f', hf⟩ := inT_struct Try.underlying108 h
  obtain ⟨a, b, rfl⟩ := list2s (hl.trans (by kernel_rfl))
  have h0 := hf _ (List.mem_cons_self ..)
  have h1 := hf _ (List.mem_cons_of_mem _ (List.mem_cons_self ..))
  rw [show Try.prog.cellsOf 3 = 1 by kernel_rfl] at h0 h1
  obtain ⟨x0, e0, _⟩ := inT_int Try.underlying3 h0
  obtain ⟨x1, e1, _⟩ := inT_int Try.underlying3 h1
  simp at e0 e1
  exact ⟨(x0, x1), by rw [e0, e1], trivial⟩
theorem inT_slt {fuel : Nat} {l : List Value} (h : InT Try.prog W fuel 76 l) : ∃ x : Int × Int, l = pairV x ∧ True := by
  obtain ⟨hl, f', hf⟩ := inT_struct Try.underlying76 h
  obtain ⟨a, b, rfl⟩ := list2s (hl.trans (by kernel_rfl))
  have h0 := hf _ (List.mem_cons_self ..)
  have h1 := hf _ (List.mem_cons_of_mem _ (List.mem_cons_self ..))
  rw [show Try.prog.cellsOf 3 = 1 by kernel_rfl] at h0 h1
  obtain ⟨x0, e0, _⟩ := inT_int Try.underlying3 h0
  obtain ⟨x1, e1, _⟩ := inT_int Try.underlying3 h1
  simp at e0 e1
  exact ⟨(x0, x1), by rw [e0, e1], trivial⟩
theorem ty_cfg (h : Ty Try.prog W 28 v) : ∃ c : Cfg, v = .agg (cfgV c).toArray ∧ CfOk W c := by
  obtain ⟨l, rfl, fuel, hI⟩ := ty_struct Try.underlying28 h
  obtain ⟨hl, f', hf⟩ := inT_struct Try.underlying28 hI
  obtain ⟨x0, x1, x2, x3, x4, x5, x6, x7, rfl⟩ := list8s (hl.trans (by kernel_rfl))
  have h0 := hf _ (List.mem_cons_self ..)
  have h1 := hf _ (List.mem_cons_of_mem _ (List.mem_cons_self ..))
  have h2 := hf _ (List.mem_cons_of_mem _ (List.mem_cons_of_mem _ (List.mem_cons_self ..)))
  have h3 := hf _ (List.mem_cons_of_mem _ (List.mem_cons_of_mem _ (List.mem_cons_of_mem _ (List.mem_cons_self ..))))
  have h4 := hf _ (List.mem_cons_of_mem _ (List.mem_cons_of_mem _ (List.mem_cons_of_mem _ (List.mem_cons_of_mem _ (List.mem_cons_self ..)))))
  have h5 := hf _ (List.mem_cons_of_mem _ (List.mem_cons_of_mem _ (List.mem_cons_of_mem _ (List.mem_cons_of_mem _ (List.mem_cons_of_mem _ (List.mem_cons_self ..))))))
  have h6 := hf _ (List.mem_cons_of_mem _ (List.mem_cons_of_mem _ (List.mem_cons_of_mem _ (List.mem_cons_of_mem _ (List.mem_cons_of_mem _ (List.mem_cons_of_mem _ (List.mem_cons_self ..)))))))
  have h7 := hf _ (List.mem_cons_of_mem _ (List.mem_cons_of_mem _ (List.mem_cons_of_mem _ (List.mem_cons_of_mem _ (List.mem_cons_of_mem _ (List.mem_cons_of_mem _ (List.mem_cons_of_mem _ (List.mem_cons_self ..))))))))
  rw [show Try.prog.cellsOf 3 = 1 by kernel_rfl] at h0
  rw [show Try.prog.cellsOf 22 = 1 by kernel_rfl] at h1
  rw [show Try.prog.cellsOf 23 = 1 by kernel_rfl] at h2
  rw [show Try.prog.cellsOf 24 = 1 by kernel_rfl] at h3
  rw [show Try.prog.cellsOf 25 = 1 by kernel_rfl] at h4
  rw [show Try.prog.cellsOf 26 = 1 by kernel_rfl] at h5
  rw [show Try.prog.cellsOf 3 = 1 by kernel_rfl] at h6
  rw [show Try.prog.cellsOf 3 = 1 by kernel_rfl] at h7
  obtain ⟨y0, e0, _⟩ := inT_int Try.underlying3 h0
  obtain ⟨a1, c1, L1, e1, p1, q1, r1, s1⟩ := inT_sliceF (α := Int × Int × Int) (f := gsV) (Q := fun _ => True) 3 Try.underlying22 (by kernel_rfl) (by decide) (fun fuel r h => inT_gst h) h1
  obtain ⟨a2, c2, L2, e2, p2, q2, r2, s2⟩ := inT_sliceF (α := Int × Int × Int) (f := gsV) (Q := fun _ => True) 3 Try.underlying23 (by kernel_rfl) (by decide) (fun fuel r h => inT_rng h) h2
  obtain ⟨a3, c3, L3, e3, p3, q3, r3, s3⟩ := inT_sliceF (α := Int × Int) (f := pairV) (Q := fun _ => True) 2 Try.underlying24 (by kernel_rfl) (by decide) (fun fuel r h => inT_prt h) h3
  obtain ⟨a4, c4, L4, e4, p4, q4, r4, s4⟩ := inT_sliceF (α := Int × Int) (f := pairV) (Q := fun _ => True) 2 Try.underlying25 (by kernel_rfl) (by decide) (fun fuel r h => inT_rin h) h4
  obtain ⟨a5, c5, L5, e5, p5, q5, r5, s5⟩ := inT_sliceF (α := Int × Int) (f := pairV) (Q := fun _ => True) 2 Try.underlying26 (by kernel_rfl) (by decide) (fun fuel r h => inT_slt h) h5
  obtain ⟨y6, e6, _⟩ := inT_int Try.underlying3 h6
  obtain ⟨y7, e7, _⟩ := inT_int Try.underlying3 h7
  simp at e0 e1 e2 e3 e4 e5 e6 e7
  exact ⟨⟨y0, a1, c1, L1, a2, c2, L2, a3, c3, L3, a4, c4, L4, a5, c5, L5, y6, y7⟩, by rw [e0, e1, e2, e3, e4, e5, e6, e7], ⟨fun A => sla_base r1, fun A => sla_base r2, fun A => sla_base r3, fun A => sla_base r4, fun A => sla_base r5, p3⟩⟩
theorem inT_w32 {fuel : Nat} {l : List Value} (h : InT Try.prog W fuel 62 l) : ∃ x : Nat, l = [wV x] ∧ x < 4294967296 := by
  obtain ⟨n, rfl, hw⟩ := inT_int Try.underlying62 h
  obtain ⟨w, rfl, h2⟩ := wf_u32 hw
  exact ⟨w, rfl, h2⟩
theorem inT_strz {fuel : Nat} {l : List Value} (h : InT Try.prog W fuel 9 l) : ∃ s : ByteArray, l = [.string s] ∧ s.size < 9223372036854775808 := by
  obtain ⟨s, rfl, h1⟩ := inT_str Try.underlying9 h
  exact ⟨s, rfl, by simp only [maxLen] at h1; omega⟩
theorem inT_sec {fuel : Nat} {l : List Value} (h : InT Try.prog W fuel 74 l) : ∃ x : Sec, l = seV x ∧ ((-9223372036854775808 ≤ x.at_ ∧ x.at_ < 9223372036854775808) ∧ x.d.size < 9223372036854775808) := by
  obtain ⟨hl, f', hf⟩ := inT_struct Try.underlying74 h
  obtain ⟨a, b, rfl⟩ := list2s (hl.trans (by kernel_rfl))
  have h0 := hf _ (List.mem_cons_self ..)
  have h1 := hf _ (List.mem_cons_of_mem _ (List.mem_cons_self ..))
  rw [show Try.prog.cellsOf 3 = 1 by kernel_rfl] at h0
  rw [show Try.prog.cellsOf 9 = 1 by kernel_rfl] at h1
  obtain ⟨x0, e0, q0⟩ := inT_int Try.underlying3 h0
  obtain ⟨x1, e1, q1⟩ := inT_strz h1
  simp at e0 e1
  exact ⟨⟨x0, x1⟩, by rw [e0, e1], wf_i64 q0, q1⟩
theorem inT_inp {fuel : Nat} {l : List Value} (h : InT Try.prog W fuel 65 l) : ∃ x : Inp, l = inpV x ∧ x.d.size < 9223372036854775808 := by
  obtain ⟨hl, f', hf⟩ := inT_struct Try.underlying65 h
  obtain ⟨a, b, c, d, e, rfl⟩ := list5s (hl.trans (by kernel_rfl))
  have h0 := hf _ (List.mem_cons_self ..)
  have h1 := hf _ (List.mem_cons_of_mem _ (List.mem_cons_self ..))
  have h2 := hf _ (List.mem_cons_of_mem _ (List.mem_cons_of_mem _ (List.mem_cons_self ..)))
  have h3 := hf _ (List.mem_cons_of_mem _ (List.mem_cons_of_mem _ (List.mem_cons_of_mem _ (List.mem_cons_self ..))))
  have h4 := hf _ (List.mem_cons_of_mem _ (List.mem_cons_of_mem _ (List.mem_cons_of_mem _ (List.mem_cons_of_mem _ (List.mem_cons_self ..)))))
  rw [show Try.prog.cellsOf 3 = 1 by kernel_rfl] at h0 h1 h2 h3
  rw [show Try.prog.cellsOf 9 = 1 by kernel_rfl] at h4
  obtain ⟨x0, e0, _⟩ := inT_int Try.underlying3 h0
  obtain ⟨x1, e1, _⟩ := inT_int Try.underlying3 h1
  obtain ⟨x2, e2, _⟩ := inT_int Try.underlying3 h2
  obtain ⟨x3, e3, _⟩ := inT_int Try.underlying3 h3
  obtain ⟨x4, e4, q4⟩ := inT_strz h4
  simp at e0 e1 e2 e3 e4
  exact ⟨⟨x0, x1, x2, x3, x4⟩, by rw [e0, e1, e2, e3, e4], q4⟩
end Go.Proofs.Ytncegikenkpcmaa
namespace Go.Proofs.Ytncegikenkpcmaa
open Go.ChangeShapes Go.WideShapes Go.ChangeAt Go.RowKit
set_option linter.unusedSimpArgs false
set_option linter.unusedVariables false
def SzT (P : Program) (w : World) : Nat → TypeId → List Value → Prop
  | 0, _, _ => False
  | fuel + 1, t, cs =>
    match P.underlying t with
    | some .bool => ∃ b, cs = [.bool b]
    | some (.int k) => ∃ n, cs = [.int k n] ∧ (Lit.int k n).wf = true
    | some .string => ∃ s, cs = [.string s] ∧ s.size ≤ maxLen
    | some (.slice e) => cs = [.slice none 0 0] ∨ ∃ a len cap, cs = [.slice (some a) len cap] ∧ len ≤ cap ∧ cap ≤ maxLen ∧ len * P.bytesOf e ≤ reachBytes ∧
        ∀ i, i < len → ∃ cs', w.cells? 0 (a.add (i * P.cellsOf e)) (P.cellsOf e) = some cs' ∧ SzT P w fuel e cs'
    | some (.struct fs) => cs.length = P.cellsOf t ∧ ∀ f : Field, f ∈ fs.toList → SzT P w fuel f.type ((cs.drop f.offset).take (P.cellsOf f.type))
    | some (.array n e) => cs.length = P.cellsOf t ∧ ∀ i, i < n → SzT P w fuel e ((cs.drop (i * P.cellsOf e)).take (P.cellsOf e))
    | _ => True
section
variable {H : Type} {enc : TypeId × Value → H} {P : Program} {w W : World} {t : TypeId} {v : Value}
theorem weights_mem_all {e : TypeId} : ∀ {ds : List (DataW H)} {d : DataW H}, d ∈ ds → ∀ n ∈ d.weights P e, n ∈ DataW.weightsAll P e ds
  | x :: ds, d, h, n, hn => by
    rw [DataW.weightsAll, List.mem_append]
    rcases List.mem_cons.1 h with rfl | h
    · exact .inl hn
    · exact .inr (weights_mem_all h n hn)
theorem szT_of_trod {sp : Nat → Bool} : ∀ (fuel : Nat) (t : TypeId) (cs : List Value) (x : DataW H × List MemPlace), DataW.trod enc P w 0 sp true fuel t cs = some x → (∀ n ∈ x.1.weights P t, n ≤ reachBytes) → SzT P w fuel t cs
  | 0, t, cs, x, h, _ => by simp [DataW.trod] at h
  | fuel + 1, t, cs, x, h, hz => by
    unfold SzT
    cases hu : P.underlying t with
    | none => trivial
    | some d =>
      cases d with
      | bool =>
        simp only []
        unfold DataW.trod at h; simp only [hu] at h
        split at h <;> simp_all
      | int k =>
        simp only []
        obtain ⟨n, hc, _, hw⟩ := DataW.trod_int hu h
        exact ⟨n, hc, hw⟩
      | string =>
        simp only []
        unfold DataW.trod at h; simp only [hu] at h
        split at h <;> simp_all
      | slice e =>
        simp only []
        rcases DataW.trod_slice hu h with ⟨hc, _⟩ | ⟨a, len, cap, elems, rest, n, hf, hc, hx, _, hl, hm, hle, hel, _⟩
        · exact .inl hc
        · have hw : ∀ n ∈ ((elems.map (·.1)).length + (rest.map (·.1)).length) * P.bytesOf e :: (DataW.weightsAll P e (elems.map (·.1)) ++ DataW.weightsAll P e (rest.map (·.1))), n ≤ reachBytes := by
            rw [hx] at hz
            simpa only [DataW.weights, hu] using hz
          refine .inr ⟨a, len, cap, hc, hl, hm, ?_, fun i hi => ?_⟩
          · have h1 := hw _ (List.mem_cons_self ..)
            rw [List.length_map, List.length_map, hle] at h1
            exact Nat.le_trans (Nat.mul_le_mul_right _ (Nat.le_add_right _ _)) h1
          · obtain rfl : fuel = n := by omega
            have h1 := hel i hi
            have h2 : elems[i]? = some elems[i] := by simp
            rw [h2] at h1
            cases hcs : w.cells? 0 (a.add (i * P.cellsOf e)) (P.cellsOf e) with
            | none => rw [hcs] at h1; cases h1
            | some cs' =>
              rw [hcs] at h1
              refine ⟨cs', rfl, szT_of_trod fuel e cs' _ h1 fun n hn => hw n (List.mem_cons_of_mem _ (List.mem_append_left _ ?_))⟩
              exact weights_mem_all (List.mem_map.2 ⟨elems[i], List.getElem_mem _, rfl⟩) n hn
      | struct fs =>
        simp only []
        obtain ⟨xs, n, hf, hx, hlen, hxs, hel⟩ := DataW.trod_struct hu h
        obtain rfl : fuel = n := by omega
        have hw : ∀ n ∈ DataW.weightsEach P (fs.toList.map (·.type)) (xs.map (·.1)), n ≤ reachBytes := by
          rw [hx] at hz
          simpa only [DataW.weights, hu] using hz
        refine ⟨hlen, fun f hm => ?_⟩
        obtain ⟨i, hi, hfi⟩ := List.getElem_of_mem hm
        have h1 := hel i f (by simp at hi; simp [← hfi, hi])
        have hix : i < xs.length := by simp at hi; omega
        have h2 : xs[i]? = some xs[i] := by simp [hix]
        rw [h2] at h1
        refine szT_of_trod fuel _ _ _ h1 fun n hn => hw n ?_
        exact DataW.weights_mem_each (j := i) (t := f.type) (d := xs[i].1) (by simp at hi; simp [← hfi, hi]) (by simp [hix]) n hn
      | array n e =>
        simp only []
        obtain ⟨xs, m, hf, hx, hlen, hxs, hel⟩ := DataW.trod_array hu h
        obtain rfl : fuel = m := by omega
        have hw : ∀ n ∈ DataW.weightsAll P e (xs.map (·.1)), n ≤ reachBytes := by
          rw [hx] at hz
          simpa only [DataW.weights, hu] using hz
        refine ⟨hlen, fun i hi => ?_⟩
        have h1 := hel i hi
        have hix : i < xs.length := by omega
        have h2 : xs[i]? = some xs[i] := by simp [hix]
        rw [h2] at h1
        exact szT_of_trod fuel _ _ _ h1 fun n hn => hw n (weights_mem_all (List.mem_map.2 ⟨xs[i], List.getElem_mem _, rfl⟩) n hn)
      | _ => trivial
theorem szT_inT : ∀ (fuel : Nat) (t : TypeId) (cs : List Value), SzT P w fuel t cs → InT P w fuel t cs
  | 0, _, _, h => h.elim
  | fuel + 1, t, cs, h => by
    unfold SzT at h; unfold InT
    cases hu : P.underlying t with
    | none => trivial
    | some d =>
      rw [hu] at h
      cases d with
      | slice e =>
        simp only [] at h ⊢
        rcases h with h | ⟨a, l, c, h1, h2, h3, _, h4⟩
        · exact .inl h
        · refine .inr ⟨a, l, c, h1, h2, h3, fun i hi => ?_⟩
          obtain ⟨cs', k1, k2⟩ := h4 i hi
          exact ⟨cs', k1, szT_inT fuel e cs' k2⟩
      | struct fs => exact ⟨h.1, fun f hf => szT_inT fuel _ _ (h.2 f hf)⟩
      | array n e => exact ⟨h.1, fun i hi => szT_inT fuel _ _ (h.2 i hi)⟩
      | _ => exact h
theorem szT_struct {fs : Array Field} {fuel : Nat} {cs : List Value} (hu : P.underlying t = some (.struct fs)) (h : SzT P W fuel t cs) : cs.length = P.cellsOf t ∧ ∃ f', ∀ f : Field, f ∈ fs.toList → SzT P W f' f.type ((cs.drop f.offset).take (P.cellsOf f.type)) := by
  cases fuel with
  | zero => exact h.elim
  | succ f => unfold SzT at h; simp only [hu] at h; exact ⟨h.1, f, h.2⟩
theorem szT_slice {e : TypeId} {fuel : Nat} {cs : List Value} (hu : P.underlying t = some (.slice e)) (h : SzT P W fuel t cs) : cs = [.slice none 0 0] ∨ ∃ a len cap, cs = [.slice (some a) len cap] ∧ len ≤ cap ∧ cap ≤ maxLen ∧ len * P.bytesOf e ≤ reachBytes ∧
        ∃ f', ∀ i, i < len → ∃ cs', W.cells? 0 (a.add (i * P.cellsOf e)) (P.cellsOf e) = some cs' ∧ SzT P W f' e cs' := by
  cases fuel with
  | zero => exact h.elim
  | succ f =>
    unfold SzT at h; simp only [hu] at h
    rcases h with h | ⟨a, l, c, h1, h2, h3, h4, h5⟩
    · exact .inl h
    · exact .inr ⟨a, l, c, h1, h2, h3, h4, f, h5⟩
theorem szT_sliceF {α : Type} {f : α → List Value} {Q : α → Prop} {e : TypeId} {fuel : Nat} {cs : List Value} (sz by_ : Nat) (hu : P.underlying t = some (.slice e)) (hsz : P.cellsOf e = sz) (hby : P.bytesOf e = by_) (hc : 0 < sz) (hdec : ∀ fuel r, SzT P W fuel e r → ∃ x, r = f x ∧ Q x) (h : SzT P W fuel t cs) :
    ∃ a c xs, cs = [.slice a (List.length (α := α) xs) c] ∧ xs.length ≤ c ∧ c ≤ maxLen ∧ xs.length * by_ ≤ reachBytes ∧ SlB W a sz f xs ∧ ∀ x ∈ xs, Q x := by
  subst hsz; subst hby
  rcases szT_slice hu h with rfl | ⟨a', n', c', rfl, hl, hm, hz, f', hr⟩
  · exact ⟨none, 0, [], rfl, by simp, by omega, by simp, fun i x hx => by simp at hx, fun x hx => by simp at hx⟩
  · obtain ⟨rows, hlen, hq⟩ := choose_list n' hr
    obtain ⟨xs, rfl, hQ⟩ := rows_map (rows := rows) (f := f) (Q := Q) fun r hr => by
      obtain ⟨i, hi, rfl⟩ := List.getElem_of_mem hr
      exact hdec _ _ (hq i rows[i] (by simp)).2
    rw [List.length_map] at hlen
    subst hlen
    refine ⟨some a', c', xs, rfl, hl, hm, hz, fun i x hx => ?_, hQ⟩
    obtain ⟨h4, _⟩ := hq i (f x) (by simp [hx])
    obtain ⟨hs, hlr, hcell⟩ := cells?_spec hc h4
    have hpos : 0 < xs.length := by
      rcases Nat.eq_zero_or_pos xs.length with q | q
      · have := List.eq_nil_of_length_eq_zero q; subst this; simp at hx
      · exact q
    obtain ⟨h5, _⟩ := hq 0 (f xs[0]) (by simp [hpos])
    obtain ⟨hs0, _⟩ := cells?_spec hc h5
    obtain ⟨b, o, s⟩ := a'
    simp only [Nat.zero_mul, Addr.add, if_true] at hs0
    subst hs0
    refine ⟨b, o, rfl, fun A j v hv => ?_⟩
    have := hcell j v hv
    rw [add_none] at this
    exact cell_base this
theorem sz_all {sp : Nat → Bool} : ∀ (ts : List TypeId) (vs : List Value) (ds : List (DataW H)) (p : List MemPlace), (∀ (j : Nat) t d, ts[j]? = some t → ds[j]? = some d → ∀ n ∈ d.weights P t, n ≤ reachBytes) →
    DataW.TrodAll enc P W 0 sp true ts vs ds p → ∀ (j : Nat) t v, ts[j]? = some t → vs[j]? = some v → ∃ fuel, SzT P W fuel t v.cells.toList
  | [], _, _, p, _, h => fun j t v h => by simp at h
  | _ :: _, [], _, p, _, h => by cases h
  | _ :: _, _ :: _, [], p, _, h => by cases h
  | t :: ts, v :: vs, d :: ds, p, hz, h => by
    obtain ⟨q, q', h1, h2, rfl⟩ := h
    intro j t' v' ht hv
    cases j with
    | zero =>
      simp only [List.getElem?_cons_zero, Option.some.injEq] at ht hv
      subst ht; subst hv
      obtain ⟨fuel, hf⟩ := h1
      exact ⟨fuel, szT_of_trod fuel t _ _ hf (hz 0 t d rfl rfl)⟩
    | succ j => exact sz_all ts vs ds q' (fun j t d ht hd => hz (j + 1) t d (by simpa using ht) (by simpa using hd)) h2 j t' v' (by simpa using ht) (by simpa using hv)
theorem sz_of {ts us : List TypeId} {ds es : List (DataW H)} (h : (DataW.weightsEach P (ts ++ us) (ds ++ es)).all (· ≤ reachBytes) = true) (hl : ts.length = ds.length) : ∀ (j : Nat) t d, ts[j]? = some t → ds[j]? = some d → ∀ n ∈ d.weights P t, n ≤ reachBytes := fun j t d ht hd n hn => by
  have hj := (List.getElem?_eq_some_iff.1 ht).1
  have := List.all_eq_true.1 h n (DataW.weights_mem_each (j := j) (t := t) (d := d) (by rw [List.getElem?_append_left hj]; exact ht) (by rw [List.getElem?_append_left (by omega)]; exact hd) n hn)
  simpa using this
end
end Go.Proofs.Ytncegikenkpcmaa
namespace Go.Proofs.Ytncegikenkpcmaa
open Go.ChangeShapes Go.WideShapes Go.ChangeAt Go.RowKit
set_option linter.unusedSimpArgs false
set_option linter.unusedVariables false
variable {W : World} {v : Value}
theorem szT_img {fuel : Nat} {l : List Value} (h : SzT Try.prog W fuel 58 l) : ∃ x : Img, l = imgV x ∧ (SlB W x.a 1 (fun x => [wV x]) x.l ∧ x.l.length ≤ x.c ∧ x.l.length ≤ 35184372087808 ∧ ∀ w ∈ x.l, w < 4294967296) := by
  obtain ⟨a, c, xs, e, p, q, z, r, s⟩ := szT_sliceF (f := fun x => [wV x]) (Q := fun x => x < 4294967296) 1 4 Try.underlying58 (by kernel_rfl) (by kernel_rfl) (by decide) (fun fuel r h => inT_w32 (szT_inT _ _ _ h)) h
  have hz : reachBytes = 140737488351232 := rfl
  exact ⟨⟨a, c, xs⟩, e, r, p, by show xs.length ≤ _; omega, s⟩
theorem ty_scrZ (h : Ty Try.prog W 33 v) (hz : ∃ fuel, SzT Try.prog W fuel 33 v.cells.toList) : ∃ s : Scr, v = .agg (scrV s).toArray ∧ ScrOk W s ∧ ImgZ s := by
  obtain ⟨l, rfl, _⟩ := ty_struct Try.underlying33 h
  obtain ⟨fuel, hI0⟩ := hz
  have hI : SzT Try.prog W fuel 33 l := hI0
  obtain ⟨hl, f', hf⟩ := szT_struct Try.underlying33 hI
  obtain ⟨x0, x1, x2, rfl⟩ := list3s (show l.length = 3 from hl.trans (by kernel_rfl))
  have h0 := hf _ (List.mem_cons_self ..)
  have h1 := hf _ (List.mem_cons_of_mem _ (List.mem_cons_self ..))
  have h2 := hf _ (List.mem_cons_of_mem _ (List.mem_cons_of_mem _ (List.mem_cons_self ..)))
  rw [show Try.prog.cellsOf 29 = 1 by kernel_rfl] at h0
  rw [show Try.prog.cellsOf 30 = 1 by kernel_rfl] at h1
  rw [show Try.prog.cellsOf 31 = 1 by kernel_rfl] at h2
  obtain ⟨a0, c0, L0, e0, p0, q0, _, r0, s0⟩ := szT_sliceF (f := imgV) (Q := fun x => SlB W x.a 1 (fun x => [wV x]) x.l ∧ x.l.length ≤ x.c ∧ x.l.length ≤ 35184372087808 ∧ ∀ w ∈ x.l, w < 4294967296) 1 24 Try.underlying29 (by kernel_rfl) (by kernel_rfl) (by decide) (fun fuel r h => szT_img h) h0
  obtain ⟨a1, c1, L1, e1, p1, q1, r1, s1⟩ := inT_sliceF (f := seV) (Q := fun x => (-9223372036854775808 ≤ x.at_ ∧ x.at_ < 9223372036854775808) ∧ x.d.size < 9223372036854775808) 2 Try.underlying30 (by kernel_rfl) (by decide) (fun fuel r h => inT_sec h) (szT_inT _ _ _ h1)
  obtain ⟨a2, c2, L2, e2, p2, q2, r2, s2⟩ := inT_sliceF (f := inpV) (Q := fun x => x.d.size < 9223372036854775808) 5 Try.underlying31 (by kernel_rfl) (by decide) (fun fuel r h => inT_inp h) (szT_inT _ _ _ h2)
  simp at e0 e1 e2
  refine ⟨⟨a0, c0, L0, a1, c1, L1, a2, c2, L2⟩, by rw [e0, e1, e2], ⟨fun A => sla_base r0, fun x hx A => sla_base (s0 x hx).1, fun x hx => ?_, fun x hx => (s0 x hx).2.2.2, fun A => sla_base r1, s1, fun A => sla_base r2, s2⟩, fun x hx => (s0 x hx).2.2.1⟩
  obtain ⟨k1, k2, k3, k4⟩ := s0 x hx
  exact ⟨k2, by omega⟩
end Go.Proofs.Ytncegikenkpcmaa
