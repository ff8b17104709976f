/-
  Layer 16 (view): each.
-/
import Derived.Test.YtechkfopkpkigaaGreatViewD
namespace Go.Proofs.YtechkfopkpkigaaGreat
open Go.RowKit
set_option linter.unusedSimpArgs false
set_option linter.unusedVariables false
set_option maxRecDepth 20000

/-- The frame where an own byte lies. -/
def whr (pg : List Pl) (a : Nat) : Int := (gGot pg (pgI a)).1
theorem viEach_spec (W0 : World) (R : List HP) (pv ps pm : Nat) (pg : List Pl) (h : Pgs pg) (pa n : Nat) (hpa : pa + n ≤ 512) (dd : Nat → Nat) (ff : Nat → List Frm) (DH : Nat → HP) (gf : FuncId) (us : List Value)
    (hcall : ∀ args w, (callFunc gf args).run Tryz.prog w = .ok (.enter gf args) w)
    (hdo : ∀ i, i < n → ∀ R', Ent R' R → Spec Tryz.prog W0 gf (.int .i64 (whr pg (pa + i)) :: .int .i64 ((pa + i) % 64 : Nat) :: .int .i64 (i : Nat) :: us) (pt pv (viO ps pm (dd i)) :: stoH ps (ff i) :: pt pm (gmO pg) :: kH 0 (DH i) :: R')
      (fun v B => v = .tuple #[] ∧ B = pt pv (viO ps pm (dd (i + 1))) :: stoH ps (ff (i + 1)) :: pt pm (gmO pg) :: kH 0 (DH (i + 1)) :: R')) :
    Spec Tryz.prog W0 124 [.pointer (some ⟨pv, 0, none⟩), .int .u32 pa, .int .i64 n, .func (.func gf) #[] us.toArray] (pt pv (viO ps pm (dd 0)) :: stoH ps (ff 0) :: pt pm (gmO pg) :: kH 0 (DH 0) :: R)
      (fun v B => v = .tuple #[] ∧ B = pt pv (viO ps pm (dd n)) :: stoH ps (ff n) :: pt pm (gmO pg) :: kH 0 (DH n) :: R) := by
  refine spec_body Tryz.func124 Tryz.ntmps124 rfl rfl ?_
  refine x_seq ?_
  refine x_region ?_
  refine s_do rfl (d_box rfl rfl) ?_
  rintro _ _ ⟨b1, rfl, rfl⟩
  refine s_do rfl (d_box rfl rfl) ?_
  rintro _ _ ⟨b2, rfl, rfl⟩
  refine x_nil ?_
  refine n_then ?_
  refine x_seq ?_
  refine x_region ?_
  refine s_val rfl (v_move rfl) ?_
  refine s_val rfl (v_conv Tryz.underlying53 Tryz.underlying3 rfl (by first | exact w64 (by omega) | rfl)) ?_
  refine s_val rfl (v_move rfl) ?_
  refine s_do rfl (d_call Tryz.call189 rfl (pieces_spec W0 _ pa n)) ?_
  rintro _ B_ ⟨bn, bp, rfl, hB_⟩
  obtain rfl := hB_.symm
  refine x_nil ?_
  refine n_then ?_
  refine x_block ?_
  refine x_rangeFunc (fun C => C = pt b2 (cob [.func (.func gf) #[] us.toArray] 198) :: pt b1 (cob [.pointer (some ⟨pv, 0, none⟩)] 45) :: pt pv (viO ps pm (dd n)) :: stoH ps (ff n) :: pt pm (gmO pg) :: kH 0 (DH n) :: R) (fun C => False) rfl Tryz.call234 ?_ ?_ ?_
  · intro L D
    refine pieces_range pa n (fun i => pt b2 (cob [.func (.func gf) #[] us.toArray] 198) :: pt b1 (cob [.pointer (some ⟨pv, 0, none⟩)] 45) :: pt pv (viO ps pm (dd i)) :: stoH ps (ff i) :: pt pm (gmO pg) :: kH 0 (DH i) :: R) (fun i => True) (by omega) (by omega) perm2 trivial (fun hI => rfl) ?_
    intro at_ R' h1 h2
    simp only [List.cons_append, List.nil_append]
    refine rounds_intro rfl rfl ?_
    refine x_region ?_
    refine s_do rfl (d_allocA Tryz.zeroValue273) ?_
    rintro _ _ ⟨b3, rfl, rfl⟩
    refine s_do0 (d_storeAll Tryz.sizeOf273 rfl rfl rfl rfl rfl) ?_
    rintro _ _ rfl
    refine x_nil ?_
    refine n_begin rfl ?_
    refine x_block ?_
    refine x_seq ?_
    refine x_region ?_
    refine s_val rfl (v_load Tryz.isAgg45 rfl (cell_own rfl)) ?_
    refine s_val rfl (v_fieldAddr rfl Tryz.underlying273 rfl Tryz.sizeOf3 rfl (by first | exact Nat.zero_add _ | rfl)) ?_
    refine s_val rfl (v_load Tryz.isAgg3 rfl (cell_own rfl)) ?_
    refine s_do rfl (d_call3 Tryz.call190 rfl (viFrame_spec W0 _ pv ps pm (dd at_) (ff at_) pg h (((pa + at_) / 64 : Nat) : Int))) ?_
    rintro _ B_ ⟨rfl, hB_⟩
    obtain rfl := hB_.symm
    have hpos := pcN_pos (pa := pa) (n := n) (at_ := at_) h1
    refine s_val rfl (v_move rfl) ?_
    refine s_val rfl (v_extract rfl rfl) ?_
    refine s_val rfl (v_extract rfl rfl) ?_
    refine s_val rfl (v_assign rfl) ?_
    refine s_val rfl (v_assign rfl) ?_
    refine x_nil ?_
    refine n_then ?_
    refine x_seq ?_
    refine run_tk (r := recH) (b := L) (run_name fun HL hHL => ?_)
    refine x_region ?_
    refine s_val rfl (v_fieldAddr rfl Tryz.underlying273 rfl Tryz.sizeOf3 rfl (by first | exact Nat.zero_add _ | rfl)) ?_
    refine s_val rfl (v_load Tryz.isAgg3 rfl (cell_own rfl)) ?_
    refine s_val rfl (v_move rfl) ?_
    refine x_nil ?_
    refine n_then ?_
    refine x_block ?_
    refine x_loop (fun i : Nat => i ≤ pcN pa n at_) (fun i => [(4, .pointer (some ⟨b1, 0, none⟩)), (7, .pointer (some ⟨b2, 0, none⟩)), (8, .pointer (some ⟨b3, 0, none⟩)), (9, .int .i64 (whr pg (pa + at_))), (25, .int .i64 (pcN pa n at_ : Nat)), (26, .int .i64 i)]) (fun i => kH 1 HL :: pt D (.deferred (some [])) :: pt b3 (cob (pcV pa n at_) 273) :: pt b2 (cob [.func (.func gf) #[] us.toArray] 198) :: pt b1 (cob [.pointer (some ⟨pv, 0, none⟩)] 45) :: pt pv (viO ps pm (dd (at_ + i))) :: stoH ps (ff (at_ + i)) :: pt pm (gmO pg) :: kH 0 (DH (at_ + i)) :: (R ++ R')) (fun i => pcN pa n at_ - i) 0 ?_ ?_ ?_ ?_
    · exact Nat.zero_le _
    · repeat (first | exact sub_nil | refine sub_cons rfl ?_)
    · simp only [Nat.add_zero]; exact inferInstance
    · intro i hi
      refine x_seq ?_
      refine x_region ?_
      refine s_val rfl (v_lss rfl rfl) ?_
      refine x_nil ?_
      refine n_then ?_
      refine x_seq ?_
      refine x_if rfl ?_ ?_
      · intro c5
        refine x_skip ?_
        refine n_then ?_
        refine x_seq ?_
        refine x_block ?_
        refine x_seq ?_
        refine x_region ?_
        refine s_val rfl (v_move rfl) ?_
        refine s_val rfl (v_assign rfl) ?_
        refine x_nil ?_
        refine n_then ?_
        have hlt : i < pcN pa n at_ := by omega
        have hd := hdo (at_ + i) (by omega)
        rw [show whr pg (pa + (at_ + i)) = whr pg (pa + at_) by rw [whr, pgI, (pc_off hlt).1]; rfl, (pc_off hlt).2] at hd
        refine x_region ?_
        refine s_val rfl (v_load Tryz.isAgg198 rfl (cell_own rfl)) ?_
        refine s_val rfl (v_move rfl) ?_
        refine s_val rfl (v_fieldAddr rfl Tryz.underlying273 rfl Tryz.sizeOf3 rfl (by first | exact Nat.zero_add _ | rfl)) ?_
        refine s_val rfl (v_load Tryz.isAgg3 rfl (cell_own rfl)) ?_
        refine s_val rfl (v_move rfl) ?_
        refine s_val rfl (v_add rfl rfl (by rw [w64 (by omega)]; omega : IntKind.wrap .i64 ((((pa + at_) % 64 : Nat) : Int) + (i : Int)) = (((pa + at_) % 64 + i : Nat) : Int))) ?_
        refine s_val rfl (v_fieldAddr rfl Tryz.underlying273 rfl Tryz.sizeOf3 rfl (by first | exact Nat.zero_add _ | rfl)) ?_
        refine s_val rfl (v_load Tryz.isAgg3 rfl (cell_own rfl)) ?_
        refine s_val rfl (v_move rfl) ?_
        refine s_val rfl (v_add rfl rfl (by rw [w64 (by omega)]; omega : IntKind.wrap .i64 ((at_ : Int) + (i : Int)) = ((at_ + i : Nat) : Int))) ?_
        refine s_do rfl (d_callv4 rfl hcall rfl (hd _ inferInstance)) ?_
        rintro _ B_ ⟨rfl, hB_⟩
        obtain rfl := hB_.symm
        refine x_nil ?_
        refine n_block ?_
        refine n_then ?_
        refine x_region ?_
        refine s_val rfl (v_add rfl rfl (by first | exact w64 (by omega) | rfl)) ?_
        refine s_val rfl (v_move rfl) ?_
        refine x_nil ?_
        refine n_then ?_
        refine inv_intro (i + 1) ?_ ?_ ?_ ?_
        · omega
        · omega
        · repeat (first | exact sub_nil | refine sub_cons rfl ?_)
        · simp only [← Nat.add_assoc]; exact inferInstance
      · intro c5
        refine x_exit ?_
        refine e_then ?_
        refine e_then ?_
        refine e_block ?_
        refine n_block ?_
        have e1 : i = pcN pa n at_ := by omega
        subst e1
        subst hHL
        refine run_unname ?_
        refine r_go ?_
        exact ⟨_, .inl ⟨rfl, trivial, rfl⟩, inferInstance⟩
  · intro D C hC
    obtain rfl := hC
    refine n_block ?_
    refine x_doneM (.inr rfl) .nil ?_
    exact ⟨_, ⟨rfl, rfl⟩, inferInstance⟩
  · intro D C hC
    exact hC.elim
end Go.Proofs.YtechkfopkpkigaaGreat
