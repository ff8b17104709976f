/-
  Part 3 of the proof of MmuHolds: rules, and walks of functions. Conditions: none.
-/
import Derived.Test.YtllkdnadmmjehaaGreatDoorMmuHoldsB
namespace Go.Proofs.YtllkdnadmmjehaaGreatDoor
open Go.RowKit
set_option linter.unusedSimpArgs false
set_option linter.unusedVariables false
set_option maxRecDepth 20000
def whr (pg : List Pl) (a : Nat) : Int := (gGot pg (pgI a)).1
theorem viEach_spec (W0 : World) (R : List HP) (pv ps pm : Nat) (pg : List Pl) (h : Pgs pg) (pa n : Nat) (hpa : pa + n ≤ 512) (dd : Nat → Nat) (ff : Nat → List Frm) (DH : Nat → HP) (gf : FuncId) (us : List Value)
    (hcall : ∀ args w, (callFunc gf args).run Tryz.prog w = .ok (.enter gf args) w)
    (hdo : ∀ i, i < n → ∀ R', Ent R' R → Spec Tryz.prog W0 gf (.int .i64 (whr pg (pa + i)) :: .int .i64 ((pa + i) % 64 : Nat) :: .int .i64 (i : Nat) :: us) (pt pv (viO ps pm (dd i)) :: stoH ps (ff i) :: pt pm (gmO pg) :: kH 0 (DH i) :: R')
      (fun v B => v = .tuple #[] ∧ B = pt pv (viO ps pm (dd (i + 1))) :: stoH ps (ff (i + 1)) :: pt pm (gmO pg) :: kH 0 (DH (i + 1)) :: R')) :
    Spec Tryz.prog W0 174 [.pointer (some ⟨pv, 0, none⟩), .int .u32 pa, .int .i64 n, .func (.func gf) #[] us.toArray] (pt pv (viO ps pm (dd 0)) :: stoH ps (ff 0) :: pt pm (gmO pg) :: kH 0 (DH 0) :: R)
      (fun v B => v = .tuple #[] ∧ B = pt pv (viO ps pm (dd n)) :: stoH ps (ff n) :: pt pm (gmO pg) :: kH 0 (DH n) :: R) := by
  refine spec_body Tryz.func174 Tryz.ntmps174 rfl rfl ?_
  refine x_seq (x_region (s_do rfl (d_box rfl rfl) ?_))
  rintro _ _ ⟨b1, rfl, rfl⟩
  refine s_do rfl (d_box rfl rfl) ?_
  rintro _ _ ⟨b2, rfl, rfl⟩
  refine x_nil (n_then (x_seq (x_region (s_val rfl (v_move rfl) ?_))))
  refine s_val rfl (v_conv Tryz.underlying31 Tryz.underlying3 rfl (by first | exact w64 (by omega) | rfl)) ?_
  refine s_val rfl (v_move rfl) (s_do rfl (d_call Tryz.call182 rfl (pieces_spec W0 _ pa n)) ?_)
  rintro _ B_ ⟨bn, bp, rfl, hB_⟩
  obtain rfl := hB_.symm
  refine x_nil (n_then (x_block ?_))
  refine x_rangeFunc (fun C => C = pt b2 (cob [.func (.func gf) #[] us.toArray] 246) :: pt b1 (cob [.pointer (some ⟨pv, 0, none⟩)] 25) :: pt pv (viO ps pm (dd n)) :: stoH ps (ff n) :: pt pm (gmO pg) :: kH 0 (DH n) :: R) (fun C => False) rfl Tryz.call185 ?_ ?_ ?_
  · intro L D
    refine pieces_range pa n (fun i => pt b2 (cob [.func (.func gf) #[] us.toArray] 246) :: pt b1 (cob [.pointer (some ⟨pv, 0, none⟩)] 25) :: pt pv (viO ps pm (dd i)) :: stoH ps (ff i) :: pt pm (gmO pg) :: kH 0 (DH i) :: R) (fun i => True) (by omega) (by omega) perm2 trivial (fun hI => rfl) ?_
    intro at_ R' h1 h2
    simp only [List.cons_append, List.nil_append]
    refine rounds_intro rfl rfl ?_
    refine x_region (s_do rfl (d_allocA Tryz.zeroValue258) ?_)
    rintro _ _ ⟨b3, rfl, rfl⟩
    refine s_do0 (d_storeAll Tryz.sizeOf258 rfl rfl rfl rfl rfl) ?_
    rintro _ _ rfl
    refine x_nil (n_begin rfl ?_)
    refine x_block (x_seq (x_region (s_val rfl (v_load Tryz.isAgg25 rfl (cell_own rfl)) ?_)))
    refine s_val rfl (v_fieldAddr rfl Tryz.underlying258 rfl Tryz.sizeOf3 rfl (by first | exact Nat.zero_add _ | rfl)) ?_
    refine s_val rfl (v_load Tryz.isAgg3 rfl (cell_own rfl)) ?_
    refine s_do rfl (d_call3 Tryz.call183 rfl (viFrame_spec W0 _ pv ps pm (dd at_) (ff at_) pg h (((pa + at_) / 64 : Nat) : Int))) ?_
    rintro _ B_ ⟨rfl, hB_⟩
    obtain rfl := hB_.symm
    have hpos := pcN_pos (pa := pa) (n := n) (at_ := at_) h1
    refine s_val rfl (v_move rfl) (s_val rfl (v_extract rfl rfl) (s_val rfl (v_extract rfl rfl) (s_val rfl (v_assign rfl) (s_val rfl (v_assign rfl) (x_nil (n_then (x_seq ?_)))))))
    refine run_tk (r := recH) (b := L) (run_name fun HL hHL => ?_)
    refine x_region ?_
    refine s_val rfl (v_fieldAddr rfl Tryz.underlying258 rfl Tryz.sizeOf3 rfl (by first | exact Nat.zero_add _ | rfl)) ?_
    refine s_val rfl (v_load Tryz.isAgg3 rfl (cell_own rfl)) ?_
    refine s_val rfl (v_move rfl) (x_nil (n_then (x_block ?_)))
    refine x_loop (fun i : Nat => i ≤ pcN pa n at_) (fun i => [(4, .pointer (some ⟨b1, 0, none⟩)), (7, .pointer (some ⟨b2, 0, none⟩)), (8, .pointer (some ⟨b3, 0, none⟩)), (9, .int .i64 (whr pg (pa + at_))), (25, .int .i64 (pcN pa n at_ : Nat)), (26, .int .i64 i)]) (fun i => kH 1 HL :: pt D (.deferred (some [])) :: pt b3 (cob (pcV pa n at_) 258) :: pt b2 (cob [.func (.func gf) #[] us.toArray] 246) :: pt b1 (cob [.pointer (some ⟨pv, 0, none⟩)] 25) :: pt pv (viO ps pm (dd (at_ + i))) :: stoH ps (ff (at_ + i)) :: pt pm (gmO pg) :: kH 0 (DH (at_ + i)) :: (R ++ R')) (fun i => pcN pa n at_ - i) 0 ?_ ?_ ?_ ?_
    · exact Nat.zero_le _
    · repeat (first | exact sub_nil | refine sub_cons rfl ?_)
    · simp only [Nat.add_zero]; exact inferInstance
    · intro i hi
      refine x_seq (x_region (s_val rfl (v_lss rfl rfl) (x_nil (n_then (x_seq ?_)))))
      refine x_if rfl ?_ ?_
      · intro c5
        refine x_skip (n_then (x_seq (x_block (x_seq (x_region (s_val rfl (v_move rfl) (s_val rfl (v_assign rfl) (x_nil (n_then ?_)))))))))
        have hlt : i < pcN pa n at_ := by omega
        have hd := hdo (at_ + i) (by omega)
        rw [show whr pg (pa + (at_ + i)) = whr pg (pa + at_) by rw [whr, pgI, (pc_off hlt).1]; rfl, (pc_off hlt).2] at hd
        refine x_region (s_val rfl (v_load Tryz.isAgg246 rfl (cell_own rfl)) ?_)
        refine s_val rfl (v_move rfl) ?_
        refine s_val rfl (v_fieldAddr rfl Tryz.underlying258 rfl Tryz.sizeOf3 rfl (by first | exact Nat.zero_add _ | rfl)) ?_
        refine s_val rfl (v_load Tryz.isAgg3 rfl (cell_own rfl)) ?_
        refine s_val rfl (v_move rfl) ?_
        refine s_val rfl (v_add rfl rfl (by rw [w64 (by omega)]; omega : IntKind.wrap .i64 ((((pa + at_) % 64 : Nat) : Int) + (i : Int)) = (((pa + at_) % 64 + i : Nat) : Int))) ?_
        refine s_val rfl (v_fieldAddr rfl Tryz.underlying258 rfl Tryz.sizeOf3 rfl (by first | exact Nat.zero_add _ | rfl)) ?_
        refine s_val rfl (v_load Tryz.isAgg3 rfl (cell_own rfl)) ?_
        refine s_val rfl (v_move rfl) ?_
        refine s_val rfl (v_add rfl rfl (by rw [w64 (by omega)]; omega : IntKind.wrap .i64 ((at_ : Int) + (i : Int)) = ((at_ + i : Nat) : Int))) ?_
        refine s_do rfl (d_callv4 rfl hcall rfl (hd _ inferInstance)) ?_
        rintro _ B_ ⟨rfl, hB_⟩
        obtain rfl := hB_.symm
        refine x_nil (n_block (n_then (x_region ?_)))
        refine s_val rfl (v_add rfl rfl (by first | exact w64 (by omega) | rfl)) ?_
        refine s_val rfl (v_move rfl) (x_nil (n_then ?_))
        refine inv_intro (i + 1) ?_ ?_ ?_ ?_
        · omega
        · omega
        · repeat (first | exact sub_nil | refine sub_cons rfl ?_)
        · simp only [← Nat.add_assoc]; exact inferInstance
      · intro c5
        refine x_exit (e_then (e_then (e_block (n_block ?_))))
        have e1 : i = pcN pa n at_ := by omega
        subst e1
        subst hHL
        refine run_unname ?_
        refine r_go ?_
        exact ⟨_, .inl ⟨rfl, trivial, rfl⟩, inferInstance⟩
  · intro D C hC
    obtain rfl := hC
    refine n_block (x_doneM (.inr rfl) .nil ?_)
    exact ⟨_, ⟨rfl, rfl⟩, inferInstance⟩
  · intro D C hC
    exact hC.elim
end Go.Proofs.YtllkdnadmmjehaaGreatDoor
namespace Go.Proofs.YtllkdnadmmjehaaGreatDoor
open Go.RowKit
set_option linter.unusedSimpArgs false
set_option linter.unusedVariables false
set_option maxRecDepth 20000
def rdv (fr : List Frm) (pg : List Pl) (a : Nat) : Nat := ldN fr (whr pg a) ((a % 64 : Nat) : Int) 1
def rdL (fr : List Frm) (pg : List Pl) (pa n : Nat) : List Nat := (List.range n).map fun i => rdv fr pg (pa + i)
def rdO (fr : List Frm) (pg : List Pl) (pa : Nat) (n : Int) : List Nat := if ownB fr.length pg pa n then rdL fr pg pa n.toNat else []
theorem ldN_lt1 {fr : List Frm} (hF : Frs fr) (f off : Int) : ldN fr f off 1 < 256 := by
  unfold ldN; split
  · rename_i hf
    obtain ⟨i, rfl, hi⟩ := isF_nat hf
    unfold getN; split
    · have hb := (hF.get hi).2
      have := leN_lt ((hb.drop off.toNat).take (1 : Int).toNat)
      refine Nat.lt_of_lt_of_le this ?_
      have : ((List.drop off.toNat (fr.getD (i : Int).toNat [])).take (1 : Int).toNat).length ≤ 1 := by simp; omega
      exact Nat.pow_le_pow_right (by decide) this
    · decide
  · decide
theorem rdv_lt {fr : List Frm} (hF : Frs fr) (pg : List Pl) (a : Nat) : rdv fr pg a < 256 := ldN_lt1 hF _ _
theorem rdL_len (fr : List Frm) (pg : List Pl) (pa n : Nat) : (rdL fr pg pa n).length = n := by simp [rdL]
theorem rdL_by {fr : List Frm} (hF : Frs fr) (pg : List Pl) (pa n : Nat) : By (rdL fr pg pa n) := fun b hb => by
  obtain ⟨i, _, rfl⟩ := List.mem_map.1 hb
  exact rdv_lt hF _ _
def outL (f : Nat → Nat) (n i : Nat) : List Nat := (List.range n).map fun j => if j < i then f j else 0
theorem outL_len (f : Nat → Nat) (n i : Nat) : (outL f n i).length = n := by simp [outL]
theorem outL_zero (f : Nat → Nat) (n : Nat) : byV (outL f n 0) = List.replicate n (bV 0) := by
  apply List.ext_getElem <;> simp [outL, byV]
theorem outL_full (f : Nat → Nat) (n : Nat) : outL f n n = (List.range n).map f := by
  apply List.ext_getElem
  · simp [outL]
  · intro i h1 h2
    have : i < n := by simpa using h2
    simp [outL, this]
theorem outL_set {f : Nat → Nat} {n i : Nat} (hi : i < n) : (byV (outL f n i)).set i (bV (f i)) = byV (outL f n (i + 1)) := by
  apply List.ext_getElem
  · simp [outL, byV]
  · intro j h1 h2
    have hj : j < n := by simpa [outL, byV] using h2
    by_cases e : i = j
    · subst e; simp [outL, byV]
    · have : (j < i + 1) ↔ j < i := by omega
      simp [outL, byV, List.getElem_set, e, this]
theorem outL_set1 {f : Nat → Nat} {n i : Nat} (hi : i < n) : (byV (outL f n i)).set (i * 1) (bV (f i)) = byV (outL f n (i + 1)) := by rw [Nat.mul_one]; exact outL_set hi
abbrev rdD (pv b1 b2 g n i : Nat) (f : Nat → Nat) : HP := grp [pt b1 (cob [.pointer (some ⟨pv, 0, none⟩)] 25), pt b2 (cob [.slice (some ⟨g, 0, none⟩) n n] 44), pt g (cob (byV (outL f n i)) 5)]
theorem viRead1_spec (W0 : World) (R : List HP) (pv ps pm d b1 b2 g n i : Nat) (fr : List Frm) (pg : List Pl) (hF : Frs fr) (pa : Nat) (hi : i < n) (hn : n ≤ 512) :
    Spec Tryz.prog W0 175 [.int .i64 (whr pg (pa + i)), .int .i64 ((pa + i) % 64 : Nat), .int .i64 (i : Nat), .pointer (some ⟨b1, 0, none⟩), .pointer (some ⟨b2, 0, none⟩)]
      (pt pv (viO ps pm d) :: stoH ps fr :: pt pm (gmO pg) :: kH 0 (rdD pv b1 b2 g n i (fun j => rdv fr pg (pa + j))) :: R)
      (fun v B => v = .tuple #[] ∧ B = pt pv (viO ps pm d) :: stoH ps fr :: pt pm (gmO pg) :: kH 0 (rdD pv b1 b2 g n (i + 1) (fun j => rdv fr pg (pa + j))) :: R) := by
  have hlt := rdv_lt hF pg (pa + i)
  refine spec_perm (perm1 (r1 := kH) (b1 := 0)) (spec_kgrp ?_)
  simp only [List.cons_append, List.nil_append]
  refine spec_body Tryz.func175 Tryz.ntmps175 rfl rfl ?_
  refine x_seq (x_region (s_val rfl (v_load Tryz.isAgg25 rfl (cell_own rfl)) ?_))
  refine s_val rfl (v_nilCheck rfl) ?_
  refine s_val rfl (v_fieldAddr rfl Tryz.underlying101 rfl Tryz.sizeOf47 rfl (by first | exact Nat.zero_add _ | rfl)) ?_
  refine s_val rfl (v_load Tryz.isAgg47 rfl (cell_own rfl)) ?_
  refine s_val rfl (v_move rfl) (s_val rfl (v_move rfl) (s_do rfl (d_call1 Tryz.call49 rfl (frLoad_spec W0 _ ps fr _ _ 1 hF)) ?_))
  rintro _ B_ ⟨rfl, hB_⟩
  obtain rfl := hB_.symm
  refine s_val rfl (v_move rfl) (s_val rfl (v_extract rfl rfl) (s_val rfl (v_extract rfl rfl) (s_val rfl (v_assign rfl) (s_val rfl (v_assign rfl) (x_nil (n_then (x_region (s_val rfl (v_load Tryz.isAgg44 rfl (cell_own rfl)) ?_))))))))
  refine s_val rfl (v_move rfl) (s_val rfl (v_move rfl) ?_)
  refine s_val rfl (v_conv Tryz.underlying31 Tryz.underlying5 rfl (w8u (by rw [show ldN fr (whr pg (pa + i)) (((pa + i) % 64 : Nat) : Int) 1 = rdv fr pg (pa + i) from rfl]; omega))) ?_
  refine s_val rfl (v_idx Tryz.underlying44 Tryz.sizeOf5 rfl rfl rfl hi (by first | exact Nat.zero_add _ | rfl)) ?_
  refine s_do0 (d_store Tryz.sizeOf5 rfl rfl rfl (by rw [byV_len, outL_len]; omega) (outL_set1 (f := fun j => rdv fr pg (pa + j)) hi)) ?_
  rintro _ _ rfl
  refine x_nil (x_done (.inr rfl) .nil ?_)
  exact ⟨_, ⟨rfl, rfl⟩, inferInstance⟩
theorem viRead_spec (W0 : World) (R : List HP) (pv ps pm d : Nat) (fr : List Frm) (pg : List Pl) (h : Pgs pg) (hF : Frs fr) (pa : Nat) (hpa : pa < 4294967296) (n : Int) :
    Spec Tryz.prog W0 156 [.pointer (some ⟨pv, 0, none⟩), .int .u32 pa, .int .i64 n] (pt pv (viO ps pm d) :: stoH ps fr :: pt pm (gmO pg) :: R)
      (fun v B => ∃ a c, v = .tuple #[.slice a (rdO fr pg pa n).length c, .bool (ownB fr.length pg pa n)] ∧ B = osl 5 1 (.slice a (rdO fr pg pa n).length c) (byV (rdO fr pg pa n)) :: pt pv (viO ps pm d) :: stoH ps fr :: pt pm (gmO pg) :: R) := by
  by_cases ho : ownB fr.length pg pa n = true
  · obtain ⟨k, rfl⟩ : ∃ k : Nat, n = (k : Int) := ⟨n.toNat, by have := (ownB_iff.1 ho).1; omega⟩
    obtain ⟨hk, _⟩ := ownB_nat.1 ho
    have hr : rdO fr pg pa (k : Int) = rdL fr pg pa k := by rw [rdO, if_pos ho]; rfl
    rw [hr, rdL_len, ho]
    refine spec_body Tryz.func156 Tryz.ntmps156 rfl rfl ?_
    refine x_seq (x_region (s_do rfl (d_box rfl rfl) ?_))
    rintro _ _ ⟨b1, rfl, rfl⟩
    refine s_val rfl (v_assign rfl) (s_val rfl (v_assign rfl) (x_nil (n_then (x_seq (x_seq (x_region (s_val rfl (v_load Tryz.isAgg25 rfl (cell_own rfl)) ?_)))))))
    refine s_val rfl (v_move rfl) (s_val rfl (v_move rfl) (s_do rfl (d_call3 Tryz.call173 rfl (viOwn_spec W0 _ pv ps pm d fr pg h pa hpa k)) ?_))
    rintro _ B_ ⟨rfl, hB_⟩
    obtain rfl := hB_.symm
    refine s_val rfl (v_not rfl) (x_nil (n_then ?_))
    refine x_if rfl ?_ ?_
    · intro c1
      exact absurd ho c1
    · intro c1
      refine x_skip (n_then (x_seq (x_region (s_val rfl (v_move rfl) ?_))))
      refine s_do rfl (d_make (sz := 1) (by_ := 1) (info := Tryz.t5) Tryz.underlying44 (by kernel_rfl) rfl rfl rfl rfl (by decide) rfl rfl rfl rfl (by omega) (by decide)) ?_
      rintro _ _ ⟨b2, rfl, rfl⟩
      refine s_do rfl (d_alloc Tryz.zeroValue44 rfl) ?_
      rintro _ _ ⟨b3, rfl, rfl⟩
      refine s_do0 (d_store Tryz.sizeOf44 rfl rfl rfl (Nat.le_of_ble_eq_true rfl) SetL.eq) ?_
      rintro _ _ rfl
      refine x_nil (n_then (x_seq ?_))
      rw [show List.replicate (k * 1) (Value.int .u8 0) = byV (outL (fun j => rdv fr pg (pa + j)) k 0) by rw [outL_zero, Nat.mul_one]; rfl]
      refine x_region (s_val rfl (v_load Tryz.isAgg25 rfl (cell_own rfl)) ?_)
      refine s_val rfl (v_move rfl) (s_val rfl (v_move rfl) (s_val rfl (v_mkFunc rfl rfl) ?_))
      refine s_do rfl (does_ent inferInstance (d_call Tryz.call174 rfl (viEach_spec W0 R pv ps pm pg h pa k hk (fun _ => d) (fun _ => fr) (fun i => rdD pv b1 b3 b2 k i (fun j => rdv fr pg (pa + j))) 175 [.pointer (some ⟨b1, 0, none⟩), .pointer (some ⟨b3, 0, none⟩)] Tryz.call175 (fun i hi R' hR => viRead1_spec W0 R' pv ps pm d b1 b3 b2 k i fr pg hF pa hi (by omega))))) ?_
      rintro _ B_ ⟨rfl, hB_⟩
      obtain rfl := hB_.symm
      refine run_kgrp ?_
      simp only [List.cons_append, List.nil_append]
      refine x_nil (n_then (x_seq (x_region (s_val rfl (v_load Tryz.isAgg44 rfl (cell_own rfl)) ?_))))
      refine s_val rfl (v_assign rfl) (s_val rfl (v_assign rfl) (x_nil (n_then (x_ret (x_done (.inl rfl) (.cons (r_tmp rfl) (.cons (r_tmp rfl) .nil)) ?_)))))
      rw [outL_full]
      exact ⟨_, ⟨some ⟨b2, 0, none⟩, k, rfl, rfl⟩, ent_osl0 (by simp only [maxLen]; omega) (by rw [Nat.mul_one]; exact (byV_len _).trans (rdL_len fr pg pa k))⟩
  · have hr : rdO fr pg pa n = [] := by rw [rdO, if_neg ho]
    have ho' : ownB fr.length pg pa n = false := by simpa using ho
    rw [hr, ho']
    refine spec_body Tryz.func156 Tryz.ntmps156 rfl rfl ?_
    refine x_seq (x_region (s_do rfl (d_box rfl rfl) ?_))
    rintro _ _ ⟨b1, rfl, rfl⟩
    refine s_val rfl (v_assign rfl) (s_val rfl (v_assign rfl) (x_nil (n_then (x_seq (x_seq (x_region (s_val rfl (v_load Tryz.isAgg25 rfl (cell_own rfl)) ?_)))))))
    refine s_val rfl (v_move rfl) (s_val rfl (v_move rfl) (s_do rfl (d_call3 Tryz.call173 rfl (viOwn_spec W0 _ pv ps pm d fr pg h pa hpa n)) ?_))
    rintro _ B_ ⟨rfl, hB_⟩
    obtain rfl := hB_.symm
    refine s_val rfl (v_not rfl) (x_nil (n_then ?_))
    refine x_if rfl ?_ ?_
    · intro c1
      refine x_seq (x_region (s_val rfl (v_assign rfl) (s_val rfl (v_assign rfl) (x_nil (n_then (x_ret (r_then (x_done (.inl rfl) (.cons (r_tmp rfl) (.cons (r_tmp rfl) .nil)) ?_))))))))
      exact ⟨_, ⟨none, 0, rfl, rfl⟩, ent_osl_nil⟩
    · intro c1
      exact absurd (by rw [ho']; decide) c1
def drL (d n : Nat) : List Nat := (List.range n).filter fun i => Nat.testBit d i
def inV (n : Nat) : Value := .int .i64 (n : Int)
def inVs (l : List Nat) : List Value := l.map inV
theorem drL_succ (d n : Nat) : drL d (n + 1) = drL d n ++ (if Nat.testBit d n then [n] else []) := by
  simp only [drL, List.range_succ, List.filter_append]
  congr 1
  by_cases h : Nat.testBit d n = true <;> simp [h]
theorem drL_len (d n : Nat) : (drL d n).length ≤ n := by
  have := List.length_filter_le (fun i => Nat.testBit d i) (List.range n)
  simpa [drL] using this
theorem viDirty_spec (W0 : World) (R : List HP) (pv ps pm d : Nat) (hd : d < 4096) :
    Spec Tryz.prog W0 73 [.pointer (some ⟨pv, 0, none⟩)] (pt pv (viO ps pm d) :: R)
      (fun v B => ∃ a c, v = .slice a (drL d 12).length c ∧ B = osl 3 1 (.slice a (drL d 12).length c) (inVs (drL d 12)) :: pt pv (viO ps pm 0) :: R) := by
  refine spec_body Tryz.func73 Tryz.ntmps73 rfl rfl ?_
  refine x_seq (x_region (s_val rfl (v_assign rfl) (x_nil (n_then (x_seq (x_seq (x_region (s_val rfl (v_move rfl) (s_do rfl (d_call1 Tryz.call35 rfl (viNone_spec W0 _ pv ps pm d)) ?_)))))))))
  rintro _ B_ ⟨rfl, hB_⟩
  obtain rfl := hB_.symm
  refine x_nil (n_then ?_)
  refine x_if rfl ?_ ?_
  · intro c1
    exact absurd c1 (by decide)
  · intro c1
    refine x_skip (n_then (x_seq (x_region (s_val rfl (v_assign rfl) (x_nil (n_then (x_seq (x_seq (x_region (s_val rfl (v_move rfl) (x_nil (n_then (x_block ?_)))))))))))))
    refine x_loop (fun x : Nat × Option Addr × Nat => x.1 ≤ 12) (fun x => [(0, .pointer (some ⟨pv, 0, none⟩)), (3, .slice x.2.1 (drL d x.1).length x.2.2), (7, .int .i64 x.1)]) (fun x => osl 3 1 (.slice x.2.1 (drL d x.1).length x.2.2) (inVs (drL d x.1)) :: pt pv (viO ps pm d) :: R) (fun x => 12 - x.1) (0, none, 0) ?_ ?_ ?_ ?_
    · simp
    · repeat (first | exact sub_nil | refine sub_cons rfl ?_)
    · exact ent_osl_nil
    · intro ⟨i, a, c⟩ hi
      dsimp only at hi ⊢
      have hl := drL_len d i
      refine x_seq (x_region (s_val rfl (v_lss rfl rfl) (x_nil (n_then (x_seq ?_)))))
      refine x_if rfl ?_ ?_
      · intro c5
        refine x_skip (n_then (x_seq (x_block (x_seq (x_region (s_val rfl (v_move rfl) (s_val rfl (v_assign rfl) (x_nil (n_then (x_seq (x_region (s_val rfl (v_move rfl) (s_val rfl (v_nilCheck rfl) ?_)))))))))))))
        refine s_val rfl (v_fieldAddr rfl Tryz.underlying101 rfl Tryz.sizeOf31 rfl (by first | exact Nat.zero_add _ | rfl)) ?_
        refine s_val rfl (v_load Tryz.isAgg31 rfl (cell_own rfl)) ?_
        refine s_val rfl (v_move rfl) ?_
        refine s_val rfl (v_shr rfl rfl (by omega) (bShr_nat (by simp [IntKind.bits]; omega))) ?_
        refine s_val rfl (v_and rfl rfl (bAnd_u32 (b := 1) (Nat.lt_of_le_of_lt (Nat.div_le_self _ _) (by omega)) (by omega))) ?_
        refine s_val rfl (v_eql rfl rfl) (x_nil (n_then ?_))
        refine x_if rfl ?_ ?_
        · intro c7
          have hb : Nat.testBit d i = true := by
            rw [Nat.testBit_eq_decide_div_mod_eq]; rw [Nat.and_one_is_mod] at c7; simp; omega
          have hs : drL d (i + 1) = drL d i ++ [i] := by rw [drL_succ, if_pos hb]
          refine x_region (s_val rfl (v_move rfl) (s_val rfl (v_move rfl) ?_))
          refine s_do rfl (d_sliceLit Tryz.underlying141 Tryz.sizeOf3 Tryz.zeroValue3 rfl rfl rfl rfl rfl (by decide) (by decide)) ?_
          rintro _ _ ⟨b1, rfl, rfl⟩
          refine s_do rfl (d_append (sz := 1) (by_ := 8) (info := Tryz.t3) Tryz.underlying141 (by kernel_rfl) rfl rfl rfl rfl (by decide) rfl rfl cells_all rfl rfl (by simp only [maxLen]; omega) (by omega)) ?_
          rintro _ _ ⟨a1, c1, rfl, rfl⟩
          refine s_val rfl (v_assign rfl) (x_nil (n_block (n_then (x_region ?_))))
          refine s_val rfl (v_add rfl rfl (by first | exact w64 (by omega) | rfl)) ?_
          refine s_val rfl (v_move rfl) (x_nil (n_then ?_))
          refine inv_intro (i + 1, a1, c1) ?_ ?_ ?_ ?_
          · omega
          · omega
          · simp only [hs, List.length_append, List.length_cons, List.length_nil]; repeat (first | exact sub_nil | refine sub_cons rfl ?_)
          · simp only [hs, inVs, List.map_append, List.map_cons, List.map_nil, inV, List.length_append, List.length_cons, List.length_nil]; exact inferInstance
        · intro c7
          have hb : ¬ Nat.testBit d i = true := by
            rw [Nat.testBit_eq_decide_div_mod_eq]; rw [Nat.and_one_is_mod] at c7; simp; omega
          have hs : drL d (i + 1) = drL d i := by rw [drL_succ, if_neg hb, List.append_nil]
          obtain ⟨a1, rfl⟩ : ∃ x, x = a := ⟨a, rfl⟩
          obtain ⟨c1, rfl⟩ : ∃ x, x = c := ⟨c, rfl⟩
          refine x_skip (n_block (n_then (x_region ?_)))
          refine s_val rfl (v_add rfl rfl (by first | exact w64 (by omega) | rfl)) ?_
          refine s_val rfl (v_move rfl) (x_nil (n_then ?_))
          refine inv_intro (i + 1, a1, c1) ?_ ?_ ?_ ?_
          · omega
          · omega
          · simp only [hs, List.length_append, List.length_cons, List.length_nil]; repeat (first | exact sub_nil | refine sub_cons rfl ?_)
          · simp only [hs, inVs, List.map_append, List.map_cons, List.map_nil, inV, List.length_append, List.length_cons, List.length_nil]; exact inferInstance
      · intro c5
        refine x_exit (e_then (e_then (e_block (n_then (x_seq (x_region (s_val rfl (v_move rfl) (s_val rfl (v_nilCheck rfl) ?_))))))))
        refine s_val rfl (v_fieldAddr rfl Tryz.underlying101 rfl Tryz.sizeOf31 rfl (by first | exact Nat.zero_add _ | rfl)) ?_
        refine s_do0 (d_store Tryz.sizeOf31 rfl rfl rfl (Nat.le_of_ble_eq_true rfl) SetL.eq) ?_
        rintro _ _ rfl
        refine x_nil (n_then (x_seq (x_region (s_val rfl (v_move rfl) (s_val rfl (v_assign rfl) (x_nil (n_then (x_ret (x_done (.inl rfl) (.cons (r_tmp rfl) .nil) ?_)))))))))
        have e1 : i = 12 := by omega
        subst e1
        exact ⟨_, ⟨a, c, rfl, rfl⟩, inferInstance⟩
end Go.Proofs.YtllkdnadmmjehaaGreatDoor
namespace Go.Proofs.YtllkdnadmmjehaaGreatDoor
open Go.RowKit
set_option linter.unusedSimpArgs false
set_option linter.unusedVariables false
set_option maxRecDepth 20000
theorem frmB_iff {len : Nat} {pg : List Pl} {n : Int} : frmB len pg n = true ↔ thereB pg n = true ∧ n < 8 ∧ (gGot pg n).1 < len := by
  unfold frmB; rw [Bool.and_eq_true, Bool.and_eq_true]
  exact ⟨fun h => ⟨h.1.1, of_decide_eq_true h.1.2, of_decide_eq_true h.2⟩, fun h => ⟨⟨h.1, decide_eq_true h.2.1⟩, decide_eq_true h.2.2⟩⟩
def plcV (len : Nat) (pg : List Pl) (a : Nat) : Value := if frmB len pg (pgI a) then .tuple #[.int .i64 (whr pg a), .int .i64 (a % 64 : Nat), .bool true] else .tuple #[.int .i64 0, .int .i64 0, .bool false]
theorem rvPlace_spec (W0 : World) (R : List HP) (qv qs qm d : Nat) (fr : List Frm) (pg : List Pl) (h : Pgs pg) (pa : Nat) (hpa : pa < 4294967296) :
    Spec Tryz.prog W0 162 [.pointer (some ⟨qv, 0, none⟩), .int .i64 pa] (pt qv (rvO qs qm d) :: rstoH qs fr :: pt qm (rgO pg) :: R)
      (fun v B => v = plcV fr.length pg pa ∧ B = pt qv (rvO qs qm d) :: rstoH qs fr :: pt qm (rgO pg) :: R) := by
  refine spec_body Tryz.func162 Tryz.ntmps162 rfl rfl ?_
  refine x_seq (x_region (s_val rfl (v_assign rfl) (s_val rfl (v_assign rfl) (s_val rfl (v_assign rfl) (x_nil (n_then (x_seq (x_region (s_val rfl (v_move rfl) ?_)))))))))
  refine s_val rfl (v_quo rfl rfl (by decide) ((congrArg (IntKind.wrap .i64) (tdivN pa 64)).trans (w64 (by omega)))) ?_
  refine s_val rfl (v_assign rfl) (x_nil (n_then (x_seq (x_seq (x_region (s_val rfl (v_move rfl) (s_val rfl (v_geq rfl rfl) (x_nil (n_then ?_)))))))))
  refine x_if rfl ?_ ?_
  · intro c2
    refine x_seq (x_region (s_val rfl (v_assign rfl) (s_val rfl (v_assign rfl) (s_val rfl (v_assign rfl) (x_nil (n_then (x_ret (r_then (x_done (.inl rfl) (.cons (r_tmp rfl) (.cons (r_tmp rfl) (.cons (r_tmp rfl) .nil))) ?_)))))))))
    refine ⟨_, ⟨?_, rfl⟩, inferInstance⟩
    have hb : frmB fr.length pg (pgI pa) = false := by
      rw [← Bool.not_eq_true]; rw [frmB_iff, pgI]; rintro ⟨_, q, _⟩; omega
    simp [pack, plcV, hb]
  · intro c2
    refine x_skip (n_then (x_seq (x_region (s_val rfl (v_move rfl) (s_val rfl (v_nilCheck rfl) ?_)))))
    refine s_val rfl (v_fieldAddr rfl Tryz.underlying43 rfl Tryz.sizeOf40 rfl (by first | exact Nat.zero_add _ | rfl)) ?_
    refine s_val rfl (v_load Tryz.isAgg40 rfl (cell_own rfl)) ?_
    refine s_val rfl (v_move rfl) (s_do rfl (d_call1 Tryz.call83 rfl (rgGet_spec W0 _ qm pg h ((pa / 64 : Nat) : Int))) ?_)
    rintro _ B_ ⟨rfl, hB_⟩
    obtain rfl := hB_.symm
    refine s_val rfl (v_move rfl) (s_val rfl (v_extract rfl rfl) (s_val rfl (v_extract rfl rfl) (s_do rfl (d_allocA Tryz.zeroValue70) ?_)))
    rintro _ _ ⟨bp, rfl, rfl⟩
    refine s_do0 (d_storeAll Tryz.sizeOf70 rfl rfl rfl rfl rfl) ?_
    rintro _ _ rfl
    refine s_val rfl (v_assign rfl) (x_nil (n_then (x_seq (x_seq ?_))))
    refine x_draw [(bp, 0, _), (qv, 0, _)] 12 mixed rfl (sc_own (sc_own sc_end)) (fun hS => ?_)
    refine d_take 0 rfl rfl (by kernel_rfl) (by kernel_rfl) (by kernel_rfl) rfl hS (v_move rfl) ?_
    refine d_take 1 rfl rfl (by kernel_rfl) (by kernel_rfl) (by kernel_rfl) rfl hS (v_not rfl) ?_
    refine d_take 2 rfl rfl (by kernel_rfl) (by kernel_rfl) (by kernel_rfl) rfl hS (v_move rfl) ?_
    refine x_split (t := 25) rfl ?_ ?_
    · intro g5_3
      refine d_skip 3 rfl rfl (by kernel_rfl) (by kernel_rfl) (by kernel_rfl) rfl hS ?_
      refine d_skip 4 rfl rfl (by kernel_rfl) (by kernel_rfl) (by kernel_rfl) rfl hS ?_
      refine d_skip 5 rfl rfl (by kernel_rfl) (by kernel_rfl) (by kernel_rfl) rfl hS ?_
      refine d_skip 6 rfl rfl (by kernel_rfl) (by kernel_rfl) (by kernel_rfl) rfl hS ?_
      refine d_skip 7 rfl rfl (by kernel_rfl) (by kernel_rfl) (by kernel_rfl) rfl hS ?_
      refine d_skip 8 rfl rfl (by kernel_rfl) (by kernel_rfl) (by kernel_rfl) rfl hS ?_
      refine d_skip 9 rfl rfl (by kernel_rfl) (by kernel_rfl) (by kernel_rfl) rfl hS ?_
      refine d_skip 10 rfl rfl (by kernel_rfl) (by kernel_rfl) (by kernel_rfl) rfl hS ?_
      refine d_take 11 rfl rfl (by kernel_rfl) (by kernel_rfl) (by kernel_rfl) rfl hS (v_pick_t rfl rfl) ?_
      refine d_done (by kernel_rfl) ?_; clear hS
      refine n_then (x_ift rfl (x_seq (x_region (s_val rfl (v_assign rfl) (s_val rfl (v_assign rfl) (s_val rfl (v_assign rfl) (x_nil (n_then (x_ret (r_then (x_done (.inl rfl) (.cons (r_tmp rfl) (.cons (r_tmp rfl) (.cons (r_tmp rfl) .nil))) ?_)))))))))))
      refine ⟨_, ⟨?_, rfl⟩, inferInstance⟩
      have hb : frmB fr.length pg (pgI pa) = false := by
        rw [← Bool.not_eq_true]; rw [frmB_iff, pgI]
        rintro ⟨q1, q2, q3⟩
        first
          | exact g5_3 q1
          | (have hk := okPl_iff.1 (gGot_ok h q1); rw [isF_iff] at c5; omega)
      simp [pack, plcV, hb]
    · intro g5_3
      refine d_take 3 rfl rfl (by kernel_rfl) (by kernel_rfl) (by kernel_rfl) rfl hS (v_move rfl) ?_
      refine d_take 4 rfl rfl (by kernel_rfl) (by kernel_rfl) (by kernel_rfl) rfl hS (v_nilCheck rfl) ?_
      refine d_take 5 rfl rfl (by kernel_rfl) (by kernel_rfl) (by kernel_rfl) rfl hS (v_fieldAddr rfl Tryz.underlying43 rfl Tryz.sizeOf39 rfl (by first | exact Nat.zero_add _ | rfl)) ?_
      refine d_take 6 rfl rfl (by kernel_rfl) (by kernel_rfl) (by kernel_rfl) rfl hS (v_load Tryz.isAgg39 rfl (by first | exact cell_sc0 (k := 0) rfl rfl | exact cell_sc0 (k := 1) rfl rfl)) ?_
      refine d_take 7 rfl rfl (by kernel_rfl) (by kernel_rfl) (by kernel_rfl) rfl hS (v_fieldAddr rfl Tryz.underlying70 rfl Tryz.sizeOf3 rfl (by first | exact Nat.zero_add _ | rfl)) ?_
      refine d_take 8 rfl rfl (by kernel_rfl) (by kernel_rfl) (by kernel_rfl) rfl hS (v_load Tryz.isAgg3 rfl (by first | exact cell_sc0 (k := 0) rfl rfl | exact cell_sc0 (k := 1) rfl rfl)) ?_
      refine d_one 9 (by kernel_rfl) rfl rfl (d_call1 Tryz.call64 rfl (rfIs_spec W0 _ qs fr _)) rfl ?_; clear hS
      rintro _ B_ ⟨rfl, hB_⟩
      obtain rfl := hB_.symm
      refine ⟨(sc_own (sc_own sc_end)), fun hS => ?_⟩
      refine d_take 10 rfl rfl (by kernel_rfl) (by kernel_rfl) (by kernel_rfl) rfl hS (v_not rfl) ?_
      refine d_take 11 rfl rfl (by kernel_rfl) (by kernel_rfl) (by kernel_rfl) rfl hS (v_pick_f rfl rfl) ?_
      refine d_done (by kernel_rfl) ?_; clear hS
      refine n_then ?_
      refine x_if rfl ?_ ?_
      · intro c5
        refine x_seq (x_region (s_val rfl (v_assign rfl) (s_val rfl (v_assign rfl) (s_val rfl (v_assign rfl) (x_nil (n_then (x_ret (r_then (x_done (.inl rfl) (.cons (r_tmp rfl) (.cons (r_tmp rfl) (.cons (r_tmp rfl) .nil))) ?_)))))))))
        refine ⟨_, ⟨?_, rfl⟩, inferInstance⟩
        have hb : frmB fr.length pg (pgI pa) = false := by
          rw [← Bool.not_eq_true]; rw [frmB_iff, pgI]
          rintro ⟨q1, q2, q3⟩
          first
            | exact g5_3 q1
            | (have hk := okPl_iff.1 (gGot_ok h q1); rw [isF_iff] at c5; omega)
        simp [pack, plcV, hb]
      · intro c5
        refine x_skip (n_then (x_seq (x_region ?_)))
        refine s_val rfl (v_fieldAddr rfl Tryz.underlying70 rfl Tryz.sizeOf3 rfl (by first | exact Nat.zero_add _ | rfl)) ?_
        refine s_val rfl (v_load Tryz.isAgg3 rfl (cell_own rfl)) ?_
        refine s_val rfl (v_move rfl) ?_
        refine s_val rfl (v_rem rfl rfl (by decide) (tmodN pa 64)) ?_
        refine s_val rfl (v_assign rfl) (s_val rfl (v_assign rfl) (s_val rfl (v_assign rfl) (x_nil (n_then (x_ret (x_done (.inl rfl) (.cons (r_tmp rfl) (.cons (r_tmp rfl) (.cons (r_tmp rfl) .nil))) ?_))))))
        refine ⟨_, ⟨?_, rfl⟩, inferInstance⟩
        have hb : frmB fr.length pg (pgI pa) = true := by
          rw [frmB_iff, pgI]
          rw [Decidable.not_not, isF_iff] at c5
          exact ⟨Decidable.not_not.1 g5_3, by omega, by omega⟩
        rw [plcV, if_pos hb]; rfl
def plF (len : Nat) (pg : List Pl) (a : Nat) : Int := if frmB len pg (pgI a) then whr pg a else 0
def plO (len : Nat) (pg : List Pl) (a : Nat) : Int := if frmB len pg (pgI a) then ((a % 64 : Nat) : Int) else 0
theorem plcV_eq {len : Nat} {pg : List Pl} {a : Nat} : plcV len pg a = .tuple #[.int .i64 (plF len pg a), .int .i64 (plO len pg a), .bool (frmB len pg (pgI a))] := by
  unfold plcV plF plO; cases frmB len pg (pgI a) <;> rfl
theorem plF_ok {len : Nat} {pg : List Pl} {a : Nat} (h : frmB len pg (pgI a) = true) : plF len pg a = whr pg a := if_pos h
theorem plO_ok {len : Nat} {pg : List Pl} {a : Nat} (h : frmB len pg (pgI a) = true) : plO len pg a = ((a % 64 : Nat) : Int) := if_pos h
theorem rvOwn_spec (W0 : World) (R : List HP) (qv qs qm d : Nat) (fr : List Frm) (pg : List Pl) (h : Pgs pg) (pa : Nat) (hpa : pa < 4294967296) (n : Int) :
    Spec Tryz.prog W0 161 [.pointer (some ⟨qv, 0, none⟩), .int .u32 pa, .int .i64 n] (pt qv (rvO qs qm d) :: rstoH qs fr :: pt qm (rgO pg) :: R)
      (fun v B => v = .bool (ownB fr.length pg pa n) ∧ B = pt qv (rvO qs qm d) :: rstoH qs fr :: pt qm (rgO pg) :: R) := by
  refine spec_body Tryz.func161 Tryz.ntmps161 rfl rfl ?_
  refine x_seq (x_region (s_val rfl (v_assign rfl) (x_nil (n_then (x_seq (x_seq (x_region (s_val rfl (v_move rfl) (s_val rfl (v_lss rfl rfl) (s_val rfl (v_move rfl) ?_))))))))))
  refine s_or rfl rfl rfl ?_ ?_
  · intro g1_3
    refine s_no rfl rfl rfl rfl (s_val rfl (v_pick_t rfl rfl) (s_val rfl (v_move rfl) (s_no rfl rfl rfl rfl (s_no rfl rfl rfl rfl (s_no rfl rfl rfl rfl (s_no rfl rfl rfl rfl (s_no rfl rfl rfl rfl (s_val rfl (v_pick_t rfl rfl) (x_nil (n_then (x_ift rfl (x_seq (x_region (s_val rfl (v_assign rfl) (x_nil (n_then (x_ret (r_then (x_done (.inl rfl) (.cons (r_tmp rfl) .nil) ?_)))))))))))))))))))
    refine ⟨_, ⟨?_, rfl⟩, inferInstance⟩
    refine congrArg Value.bool (Eq.symm ?_)
    rw [← Bool.not_eq_true, ownB_iff]; omega
  · intro g1_3
    refine s_val rfl (v_move rfl) (s_yes rfl rfl (s_val rfl (v_gtr rfl rfl) (s_val rfl (v_pick_f rfl rfl) (s_val rfl (v_move rfl) ?_))))
    refine s_or rfl rfl rfl ?_ ?_
    · intro g1_7
      refine s_no rfl rfl rfl rfl (s_no rfl rfl rfl rfl (s_no rfl rfl rfl rfl (s_no rfl rfl rfl rfl (s_val rfl (v_pick_t rfl rfl) (x_nil (n_then (x_ift rfl (x_seq (x_region (s_val rfl (v_assign rfl) (x_nil (n_then (x_ret (r_then (x_done (.inl rfl) (.cons (r_tmp rfl) .nil) ?_)))))))))))))))
      refine ⟨_, ⟨?_, rfl⟩, inferInstance⟩
      refine congrArg Value.bool (Eq.symm ?_)
      rw [← Bool.not_eq_true, ownB_iff]; omega
    · intro g1_7
      refine s_val rfl (v_move rfl) (s_yes rfl rfl (s_val rfl (v_move rfl) (s_yes rfl rfl ?_)))
      refine s_val rfl (v_conv Tryz.underlying31 Tryz.underlying3 rfl (by first | exact w64 (by omega) | rfl)) ?_
      refine s_yes rfl rfl ?_
      refine s_val rfl (v_sub rfl rfl (by first | exact w64 (by omega) | rfl)) ?_
      refine s_yes rfl rfl (s_val rfl (v_gtr rfl rfl) (s_val rfl (v_pick_f rfl rfl) (x_nil (n_then ?_))))
      refine x_if rfl ?_ ?_
      · intro c1
        refine x_seq (x_region (s_val rfl (v_assign rfl) (x_nil (n_then (x_ret (r_then (x_done (.inl rfl) (.cons (r_tmp rfl) .nil) ?_)))))))
        refine ⟨_, ⟨?_, rfl⟩, inferInstance⟩
        refine congrArg Value.bool (Eq.symm ?_)
        rw [← Bool.not_eq_true, ownB_iff]; omega
      · intro c1
        refine x_skip (n_then (x_seq (x_seq ?_)))
        obtain ⟨k, rfl⟩ : ∃ k : Nat, n = (k : Int) := ⟨n.toNat, by omega⟩
        have hk : pa + k ≤ 512 := by omega
        refine x_region (s_val rfl (v_assign rfl) (x_nil (n_then (x_block ?_))))
        refine x_loop (fun i : Nat => i ≤ k ∧ ownA fr.length pg pa i) (fun i => [(0, .pointer (some ⟨qv, 0, none⟩)), (1, .int .u32 pa), (2, .int .i64 k), (7, .int .i64 i)]) (fun i => pt qv (rvO qs qm d) :: rstoH qs fr :: pt qm (rgO pg) :: R) (fun i => k - i) 0 ?_ ?_ ?_ ?_
        · exact ⟨Nat.zero_le _, fun i hi => by omega⟩
        · repeat (first | exact sub_nil | refine sub_cons rfl ?_)
        · exact inferInstance
        · intro i ⟨hi, hI⟩
          refine x_seq (x_seq (x_region (s_val rfl (v_move rfl) (s_val rfl (v_move rfl) (s_val rfl (v_lss rfl rfl) (x_nil (n_then ?_)))))))
          refine x_if rfl ?_ ?_
          · intro c4
            refine x_skip (n_then (x_seq (x_block (x_seq (x_region (s_val rfl (v_move rfl) (s_val rfl (v_move rfl) ?_)))))))
            refine s_val rfl (v_conv Tryz.underlying31 Tryz.underlying3 rfl (w64 (by omega))) ?_
            refine s_val rfl (v_move rfl) ?_
            refine s_val rfl (v_add rfl rfl (by rw [w64 (by omega)]; omega : IntKind.wrap .i64 ((pa : Int) + (i : Int)) = ((pa + i : Nat) : Int))) ?_
            refine s_do rfl (d_call3 Tryz.call162 rfl (rvPlace_spec W0 _ qv qs qm d fr pg h (pa + i) (by omega))) ?_
            rintro _ B_ ⟨rfl, hB_⟩
            obtain rfl := hB_.symm
            rw [plcV_eq]
            refine s_val rfl (v_move rfl) (s_val rfl (v_extract rfl rfl) (s_val rfl (v_extract rfl rfl) (s_val rfl (v_extract rfl rfl) (s_val rfl (v_assign rfl) (s_val rfl (v_assign rfl) (s_val rfl (v_assign rfl) (x_nil (n_then (x_seq (x_region (s_val rfl (v_move rfl) (s_val rfl (v_not rfl) (x_nil (n_then ?_))))))))))))))
            refine x_if rfl ?_ ?_
            · intro c7
              refine x_seq (x_region (s_val rfl (v_assign rfl) (x_nil (n_then (x_ret (r_block (r_then (r_then (r_block (r_then (x_done (.inl rfl) (.cons (r_tmp rfl) .nil) ?_)))))))))))
              refine ⟨_, ⟨?_, rfl⟩, inferInstance⟩
              refine congrArg Value.bool (Eq.symm ?_)
              rw [← Bool.not_eq_true, ownB_nat]; exact fun q => c7 (q.2 i (by omega))
            · intro c7
              refine x_skip (n_block (n_then (x_region (s_val rfl (v_move rfl) ?_))))
              refine s_val rfl (v_add rfl rfl (by first | exact w64 (by omega) | rfl)) ?_
              refine s_val rfl (v_assign rfl) (x_nil (n_then ?_))
              refine inv_intro (i + 1) ?_ ?_ ?_ ?_
              · exact ⟨by omega, fun j hj => by
                  rcases Nat.lt_or_ge j i with q | q
                  · exact hI j q
                  · rw [show j = i by omega]; exact Decidable.not_not.1 c7⟩
              · omega
              · repeat (first | exact sub_nil | refine sub_cons rfl ?_)
              · exact inferInstance
          · intro c4
            refine x_exit (e_then (e_then (e_block (n_then (x_seq (x_region (s_val rfl (v_assign rfl) (x_nil (n_then (x_ret (x_done (.inl rfl) (.cons (r_tmp rfl) .nil) ?_)))))))))))
            refine ⟨_, ⟨?_, rfl⟩, inferInstance⟩
            refine congrArg Value.bool (Eq.symm ?_)
            rw [ownB_nat]; exact ⟨hk, by rw [show k = i by omega]; exact hI⟩
theorem rvRead_spec (W0 : World) (R : List HP) (qv qs qm d : Nat) (fr : List Frm) (pg : List Pl) (h : Pgs pg) (hF : Frs fr) (pa : Nat) (hpa : pa < 4294967296) (n : Int) :
    Spec Tryz.prog W0 151 [.pointer (some ⟨qv, 0, none⟩), .int .u32 pa, .int .i64 n] (pt qv (rvO qs qm d) :: rstoH qs fr :: pt qm (rgO pg) :: R)
      (fun v B => ∃ a c, v = .tuple #[.slice a (rdO fr pg pa n).length c, .bool (ownB fr.length pg pa n)] ∧ B = osl 5 1 (.slice a (rdO fr pg pa n).length c) (byV (rdO fr pg pa n)) :: pt qv (rvO qs qm d) :: rstoH qs fr :: pt qm (rgO pg) :: R) := by
  by_cases ho : ownB fr.length pg pa n = true
  · obtain ⟨k, rfl⟩ : ∃ k : Nat, n = (k : Int) := ⟨n.toNat, by have := (ownB_iff.1 ho).1; omega⟩
    obtain ⟨hk, hown⟩ := ownB_nat.1 ho
    have hr : rdO fr pg pa (k : Int) = rdL fr pg pa k := by rw [rdO, if_pos ho]; rfl
    rw [hr, rdL_len, ho]
    refine spec_body Tryz.func151 Tryz.ntmps151 rfl rfl ?_
    refine x_seq (x_region (s_val rfl (v_assign rfl) (s_val rfl (v_assign rfl) (x_nil (n_then (x_seq (x_seq (x_region (s_val rfl (v_move rfl) (s_val rfl (v_move rfl) (s_val rfl (v_move rfl) (s_do rfl (d_call3 Tryz.call161 rfl (rvOwn_spec W0 _ qv qs qm d fr pg h pa hpa k)) ?_))))))))))))
    rintro _ B_ ⟨rfl, hB_⟩
    obtain rfl := hB_.symm
    refine s_val rfl (v_not rfl) (x_nil (n_then ?_))
    refine x_if rfl ?_ ?_
    · intro c1
      exact absurd ho c1
    · intro c1
      refine x_skip (n_then (x_seq (x_region (s_val rfl (v_assign rfl) (x_nil (n_then (x_seq (x_seq (x_region (s_val rfl (v_assign rfl) (x_nil (n_then (x_block ?_)))))))))))))
      refine x_loop (fun x : Nat × Option Addr × Nat => x.1 ≤ k) (fun x => [(0, .pointer (some ⟨qv, 0, none⟩)), (1, .int .u32 pa), (2, .int .i64 k), (8, .slice x.2.1 x.1 x.2.2), (9, .int .i64 x.1)]) (fun x => osl 5 1 (.slice x.2.1 x.1 x.2.2) (byV (rdL fr pg pa x.1)) :: pt qv (rvO qs qm d) :: rstoH qs fr :: pt qm (rgO pg) :: R) (fun x => k - x.1) (0, none, 0) ?_ ?_ ?_ ?_
      · simp
      · repeat (first | exact sub_nil | refine sub_cons rfl ?_)
      · exact ent_osl_nil
      · intro ⟨i, a, c⟩ hi
        dsimp only at hi ⊢
        refine x_seq (x_seq (x_region (s_val rfl (v_move rfl) (s_val rfl (v_move rfl) (s_val rfl (v_lss rfl rfl) (x_nil (n_then ?_)))))))
        refine x_if rfl ?_ ?_
        · intro c5
          refine x_skip (n_then (x_seq (x_block (x_seq ?_))))
          have hb := hown i (by omega)
          have hv := rdv_lt hF pg (pa + i)
          refine x_region (s_val rfl (v_move rfl) (s_val rfl (v_move rfl) ?_))
          refine s_val rfl (v_conv Tryz.underlying31 Tryz.underlying3 rfl (w64 (by omega))) ?_
          refine s_val rfl (v_move rfl) ?_
          refine s_val rfl (v_add rfl rfl (by rw [w64 (by omega)]; omega : IntKind.wrap .i64 ((pa : Int) + (i : Int)) = ((pa + i : Nat) : Int))) ?_
          refine s_do rfl (d_call3 Tryz.call162 rfl (rvPlace_spec W0 _ qv qs qm d fr pg h (pa + i) (by omega))) ?_
          rintro _ B_ ⟨rfl, hB_⟩
          obtain rfl := hB_.symm
          rw [plcV_eq, plF_ok hb, plO_ok hb]
          refine s_val rfl (v_move rfl) (s_val rfl (v_extract rfl rfl) (s_val rfl (v_extract rfl rfl) (s_val rfl (v_extract rfl rfl) (s_val rfl (v_assign rfl) (s_val rfl (v_assign rfl) (s_val rfl (v_assign rfl) (x_nil (n_then (x_seq (x_region (s_val rfl (v_move rfl) (s_val rfl (v_nilCheck rfl) ?_))))))))))))
          refine s_val rfl (v_fieldAddr rfl Tryz.underlying43 rfl Tryz.sizeOf39 rfl (by first | exact Nat.zero_add _ | rfl)) ?_
          refine s_val rfl (v_load Tryz.isAgg39 rfl (cell_own rfl)) ?_
          refine s_val rfl (v_move rfl) (s_val rfl (v_move rfl) (s_do rfl (d_call1 Tryz.call50 rfl (rfLoad_spec W0 _ qs fr _ _ 1 hF)) ?_))
          rintro _ B_ ⟨rfl, hB_⟩
          obtain rfl := hB_.symm
          refine s_val rfl (v_move rfl) (s_val rfl (v_extract rfl rfl) (s_val rfl (v_extract rfl rfl) (s_val rfl (v_assign rfl) (s_val rfl (v_assign rfl) (x_nil (n_then (x_region (s_val rfl (v_move rfl) (s_val rfl (v_move rfl) ?_)))))))))
          refine s_val rfl (v_conv Tryz.underlying31 Tryz.underlying5 rfl (w8u (by rw [show ldN fr (whr pg (pa + i)) (((pa + i) % 64 : Nat) : Int) 1 = rdv fr pg (pa + i) from rfl]; omega))) ?_
          refine s_do rfl (d_sliceLit Tryz.underlying44 Tryz.sizeOf5 Tryz.zeroValue5 rfl rfl rfl rfl rfl (by decide) (by decide)) ?_
          rintro _ _ ⟨b1, rfl, rfl⟩
          refine s_do rfl (d_append (sz := 1) (by_ := 1) (info := Tryz.t5) Tryz.underlying44 (by kernel_rfl) rfl rfl rfl rfl (by decide) rfl rfl cells_all rfl rfl (by simp only [maxLen]; omega) (by omega)) ?_
          rintro _ _ ⟨a1, c1, rfl, rfl⟩
          refine s_val rfl (v_assign rfl) (x_nil (n_block (n_then (x_region (s_val rfl (v_move rfl) ?_)))))
          refine s_val rfl (v_add rfl rfl (by first | exact w64 (by omega) | rfl)) ?_
          refine s_val rfl (v_assign rfl) (x_nil (n_then ?_))
          refine inv_intro (i + 1, a1, c1) ?_ ?_ ?_ ?_
          · omega
          · omega
          · repeat (first | exact sub_nil | refine sub_cons rfl ?_)
          · rw [show rdL fr pg pa (i + 1) = rdL fr pg pa i ++ [rdv fr pg (pa + i)] by simp [rdL, List.range_succ], byV_append]; exact (inferInstanceAs (Ent _ (osl 5 1 (.slice a1 (i + 1) c1) (byV (rdL fr pg pa i) ++ [Value.int .u8 ((ldN fr (whr pg (pa + i)) (((pa + i) % 64 : Nat) : Int) 1 : Nat) : Int)]) :: pt qv (rvO qs qm d) :: rstoH qs fr :: pt qm (rgO pg) :: R)))
        · intro c5
          refine x_exit (e_then (e_then (e_block (n_then (x_seq (x_region (s_val rfl (v_move rfl) (s_val rfl (v_assign rfl) (s_val rfl (v_assign rfl) (x_nil (n_then (x_ret (x_done (.inl rfl) (.cons (r_tmp rfl) (.cons (r_tmp rfl) .nil)) ?_)))))))))))))
          have e1 : i = k := by omega
          subst e1
          exact ⟨_, ⟨a, c, rfl, rfl⟩, inferInstance⟩
  · have hr : rdO fr pg pa n = [] := by rw [rdO, if_neg ho]
    have ho' : ownB fr.length pg pa n = false := by simpa using ho
    rw [hr, ho']
    refine spec_body Tryz.func151 Tryz.ntmps151 rfl rfl ?_
    refine x_seq (x_region (s_val rfl (v_assign rfl) (s_val rfl (v_assign rfl) (x_nil (n_then (x_seq (x_seq (x_region (s_val rfl (v_move rfl) (s_val rfl (v_move rfl) (s_val rfl (v_move rfl) (s_do rfl (d_call3 Tryz.call161 rfl (rvOwn_spec W0 _ qv qs qm d fr pg h pa hpa n)) ?_))))))))))))
    rintro _ B_ ⟨rfl, hB_⟩
    obtain rfl := hB_.symm
    refine s_val rfl (v_not rfl) (x_nil (n_then ?_))
    refine x_if rfl ?_ ?_
    · intro c1
      refine x_seq (x_region (s_val rfl (v_assign rfl) (s_val rfl (v_assign rfl) (x_nil (n_then (x_ret (r_then (x_done (.inl rfl) (.cons (r_tmp rfl) (.cons (r_tmp rfl) .nil)) ?_))))))))
      exact ⟨_, ⟨none, 0, rfl, rfl⟩, ent_osl_nil⟩
    · intro c1
      exact absurd (by rw [ho']; decide) c1
end Go.Proofs.YtllkdnadmmjehaaGreatDoor
namespace Go.Proofs.YtllkdnadmmjehaaGreatDoor
open Go.RowKit
set_option linter.unusedSimpArgs false
set_option linter.unusedVariables false
section
variable {rd : Option Nat} {P : Program} {S : World → Prop} {W0 : World} {N : FSz} {Q : Exit → Act → World → Prop} {e : Env} {A B R : List HP} {ops : Array Oper} {rest : List Oper}
variable {op : Op} {ty t t' : TypeId} {pos : String} {af : Array Edge} {v u : Value} {d b off : Nat} {x y z : Operand} {l l' vs : List Value} {L : Nat} {xr : RecX}
theorem x_scope {c : Code} (h : Run W0 N (c.wpR none P (Exit.noGoto Q)) e A) : Run W0 N ((Code.scope c).wpR none P Q) e A := fun a w hF hO => wpR_wide.2 (wp_scope_straight (wpR_wide.1 (h a w hF hO)))
instance pok_scope [h : POk Q] : POk (Exit.noGoto Q) := ⟨fun c a d v w k => h.ok c a d v w k⟩
theorem r_scope (h : Run W0 N (Ex Q .ret) e A) : Run W0 N (Ex (Exit.noGoto Q) .ret) e A := h
theorem run_cap {E n c sz : Nat} {a : Option Addr} {ys : List Value} {K : Act → World → Prop} [h : Tk (osl E sz) (.slice a n c) A ys R] (k : n ≤ c ∧ c ≤ maxLen → Run W0 N K e A) : Run W0 N K e A := fun act w hF hO => by
  refine k ?_ act w hF hO
  rcases (hO.tk (r := osl E sz) (b := .slice a n c)).osl with ⟨k1, k2, _⟩ | ⟨g, n', cap, sp, k1, k2, k3, _, _, _⟩
  · cases k1; simp
  · cases k1; exact ⟨k2, k3⟩
theorem form_some {a : Option Addr} {ys : List Value} (h : Frm0 a ys) (hne : ys ≠ []) : ∃ g, a = some ⟨g, 0, none⟩ := by
  rcases h with ⟨_, q⟩ | q
  · exact absurd q hne
  · exact q
end
end Go.Proofs.YtllkdnadmmjehaaGreatDoor
namespace Go.Proofs.YtllkdnadmmjehaaGreatDoor
open Go.RowKit
set_option linter.unusedSimpArgs false
set_option linter.unusedVariables false
set_option maxRecDepth 20000
abbrev vwW (pv ps pm d : Nat) (fr : List Frm) (pg : List Pl) (R : List HP) : List HP := pt pv (viO ps pm d) :: stoH ps fr :: pt pm (gmO pg) :: R
abbrev rvwW (qv qs qm d : Nat) (fr : List Frm) (pg : List Pl) (R : List HP) : List HP := pt qv (rvO qs qm d) :: rstoH qs fr :: pt qm (rgO pg) :: R
def tblPa (page : Int) (i : Nat) : Nat := 64 * page.toNat + 4 * (i % 16)
def tblB (len : Nat) (pg : List Pl) (page : Int) (i : Nat) : Bool := decide (0 ≤ page ∧ page < 8) && ownB len pg (tblPa page i) 4
theorem tblB_iff {len : Nat} {pg : List Pl} {page : Int} {i : Nat} : tblB len pg page i = true ↔ (0 ≤ page ∧ page < 8) ∧ ownB len pg (tblPa page i) 4 = true := by
  rw [tblB, Bool.and_eq_true]; exact ⟨fun h => ⟨of_decide_eq_true h.1, h.2⟩, fun h => ⟨decide_eq_true h.1, h.2⟩⟩
def tblW (fr : List Frm) (pg : List Pl) (page : Int) (i : Nat) : Nat := if tblB fr.length pg page i then leN (rdL fr pg (tblPa page i) 4) else 0
theorem tblW_lt {fr : List Frm} (hF : Frs fr) (pg : List Pl) (page : Int) (i : Nat) : tblW fr pg page i < 4294967296 := by
  unfold tblW; split
  · have := leN_lt (rdL_by hF pg (tblPa page i) 4); rw [rdL_len] at this; exact this
  · decide
theorem getN_all {l : List Nat} (h : l.length = 4) : getN l 0 4 = leN l ∧ getE l 0 4 = 0 := by
  have hi : inB l.length 0 4 = true := inB_iff.2 (by omega)
  constructor
  · rw [getN, if_pos hi]
    show leN ((l.drop 0).take 4) = leN l
    rw [List.drop_zero, List.take_of_length_le (by omega)]
  · rw [getE, if_pos hi]
theorem wkTable_spec (W0 : World) (R : List HP) (pv ps pm d : Nat) (fr : List Frm) (pg : List Pl) (h : Pgs pg) (hF : Frs fr) (page : Int) (i : Nat) (hi : i < 4294967296) :
    Spec Tryz.prog W0 139 [.pointer (some ⟨pv, 0, none⟩), .int .i64 page, .int .u32 i] (vwW pv ps pm d fr pg R)
      (fun v B => v = .tuple #[.int .u32 (tblW fr pg page i : Nat), .bool (tblB fr.length pg page i)] ∧ B = vwW pv ps pm d fr pg R) := by
  refine spec_body Tryz.func139 Tryz.ntmps139 rfl rfl ?_
  refine x_seq (x_region (s_val rfl (v_assign rfl) (s_val rfl (v_assign rfl) (x_nil (n_then (x_seq (x_seq (x_region (s_val rfl (v_move rfl) (s_val rfl (v_lss rfl rfl) (s_val rfl (v_move rfl) ?_)))))))))))
  refine s_or rfl rfl rfl ?_ ?_
  · intro g1_3
    refine s_no rfl rfl rfl rfl (s_val rfl (v_pick_t rfl rfl) (x_nil (n_then (x_ift rfl (x_seq (x_region (s_val rfl (v_assign rfl) (s_val rfl (v_assign rfl) (x_nil (n_then (x_ret (r_then (x_done (.inl rfl) (.cons (r_tmp rfl) (.cons (r_tmp rfl) .nil)) ?_)))))))))))))
    refine ⟨_, ⟨?_, rfl⟩, inferInstance⟩
    have hb : tblB fr.length pg page i = false := by rw [← Bool.not_eq_true, tblB_iff]; rintro ⟨q, _⟩; omega
    simp [pack, tblW, hb]
  · intro g1_3
    refine s_val rfl (v_move rfl) (s_yes rfl rfl (s_val rfl (v_geq rfl rfl) (s_val rfl (v_pick_f rfl rfl) (x_nil (n_then ?_)))))
    refine x_if rfl ?_ ?_
    · intro c1
      refine x_seq (x_region (s_val rfl (v_assign rfl) (s_val rfl (v_assign rfl) (x_nil (n_then (x_ret (r_then (x_done (.inl rfl) (.cons (r_tmp rfl) (.cons (r_tmp rfl) .nil)) ?_))))))))
      refine ⟨_, ⟨?_, rfl⟩, inferInstance⟩
      have hb : tblB fr.length pg page i = false := by rw [← Bool.not_eq_true, tblB_iff]; rintro ⟨q, _⟩; omega
      simp [pack, tblW, hb]
    · intro c1
      refine x_skip (n_then (x_seq ?_))
      obtain ⟨p, rfl⟩ : ∃ p : Nat, page = (p : Int) := ⟨page.toNat, by omega⟩
      have hpa : tblPa (p : Int) i = 64 * p + 4 * (i % 16) := rfl
      refine x_region (s_val rfl (v_move rfl) (s_val rfl (v_move rfl) ?_))
      refine s_val rfl (v_mul rfl rfl (by rw [w64 (by omega)]; omega : IntKind.wrap .i64 ((p : Int) * 64) = ((64 * p : Nat) : Int))) ?_
      refine s_val rfl (v_conv Tryz.underlying3 Tryz.underlying31 rfl (w32u (by omega))) ?_
      refine s_val rfl (v_move rfl) (s_val rfl (v_and rfl rfl (bits4 hi)) ?_)
      refine s_val rfl (v_mul rfl rfl (by rw [w32u (by omega)]; omega : IntKind.wrap .u32 (4 * ((i % 16 : Nat) : Int)) = ((4 * (i % 16) : Nat) : Int))) ?_
      refine s_val rfl (v_add rfl rfl (by rw [w32u (by omega), hpa]; omega : IntKind.wrap .u32 (((64 * p : Nat) : Int) + ((4 * (i % 16) : Nat) : Int)) = ((tblPa (p : Int) i : Nat) : Int))) ?_
      refine s_do rfl (d_call3 Tryz.call156 rfl (viRead_spec W0 _ pv ps pm d fr pg h hF (tblPa (p : Int) i) (by omega) 4)) ?_
      rintro _ B_ ⟨a, c, rfl, hB_⟩
      obtain rfl := hB_.symm
      refine s_val rfl (v_move rfl) (s_val rfl (v_extract rfl rfl) (s_val rfl (v_extract rfl rfl) (s_val rfl (v_assign rfl) (s_val rfl (v_assign rfl) (x_nil (n_then (x_seq (x_seq (x_region (s_val rfl (v_move rfl) (s_val rfl (v_not rfl) (x_nil (n_then ?_)))))))))))))
      refine x_if rfl ?_ ?_
      · intro c4
        have ho : ¬ ownB fr.length pg (tblPa (p : Int) i) 4 = true := c4
        refine x_seq (x_region (s_val rfl (v_assign rfl) (s_val rfl (v_assign rfl) (x_nil (n_then (x_ret (r_then (x_done (.inl rfl) (.cons (r_tmp rfl) (.cons (r_tmp rfl) .nil)) ?_))))))))
        refine ⟨_, ⟨?_, rfl⟩, inferInstance⟩
        have hb : tblB fr.length pg p i = false := by rw [← Bool.not_eq_true, tblB_iff]; rintro ⟨_, q⟩; exact ho q
        simp [pack, tblW, hb]
      · intro c4
        have ho : ownB fr.length pg (tblPa (p : Int) i) 4 = true := Decidable.not_not.1 c4
        have hb : tblB fr.length pg p i = true := tblB_iff.2 ⟨by omega, ho⟩
        have hrd : rdO fr pg (tblPa (p : Int) i) 4 = rdL fr pg (tblPa (p : Int) i) 4 := by rw [rdO, if_pos ho]; rfl
        have hln : (rdL fr pg (tblPa (p : Int) i) 4).length = 4 := rdL_len _ _ _ _
        obtain ⟨hg1, hg2⟩ := getN_all hln
        rw [hrd]
        refine run_form (E := 5) (sz := 1) (a := a) (c := c) (n := (rdL fr pg (tblPa (p : Int) i) 4).length) (fun hf => ?_)
        obtain ⟨g, rfl⟩ := form_some hf (by intro h0; have := congrArg List.length h0; rw [byV_len, hln] at this; simp at this)
        refine run_cap (E := 5) (sz := 1) (a := some ⟨g, 0, none⟩) (c := c) (n := (rdL fr pg (tblPa (p : Int) i) 4).length) (fun hcap => ?_)
        refine x_skip (n_then (x_seq (x_region (s_val rfl (v_move rfl) (s_do rfl (d_call Tryz.call87 rfl (octGet_spec W0 _ g 0 c (rdL fr pg (tblPa (p : Int) i) 4) 0 4 (cells_osl (E := 5) (sz := 1) (a := some ⟨g, 0, none⟩) (c := c) (n := (rdL fr pg (tblPa (p : Int) i) 4).length)) (rdL_by hF _ _ _) hcap.1 (maxLen_lt hcap.2))) ?_)))))
        rintro _ B_ ⟨rfl, hB_⟩
        obtain rfl := hB_.symm
        rw [hg1, hg2]
        refine s_val rfl (v_move rfl) (s_val rfl (v_extract rfl rfl) (s_val rfl (v_extract rfl rfl) (s_val rfl (v_assign rfl) (s_val rfl (v_assign rfl) (x_nil (n_then (x_seq (x_region (s_val rfl (v_move rfl) (s_val rfl (v_move rfl) (s_val rfl (v_eql rfl rfl) (s_val rfl (v_assign rfl) (s_val rfl (v_assign rfl) (x_nil (n_then (x_ret (x_done (.inl rfl) (.cons (r_tmp rfl) (.cons (r_tmp rfl) .nil)) ?_)))))))))))))))))
        refine ⟨_, ⟨?_, rfl⟩, inferInstance⟩
        simp [pack, tblW, hb]
theorem rvWord_spec (W0 : World) (R : List HP) (qv qs qm d : Nat) (fr : List Frm) (pg : List Pl) (h : Pgs pg) (hF : Frs fr) (pa : Nat) (hpa : pa < 4294967296) :
    Spec Tryz.prog W0 127 [.pointer (some ⟨qv, 0, none⟩), .int .u32 pa] (rvwW qv qs qm d fr pg R)
      (fun v B => v = .tuple #[.int .u32 ((if ownB fr.length pg pa 4 then leN (rdL fr pg pa 4) else 0 : Nat)), .bool (ownB fr.length pg pa 4)] ∧ B = rvwW qv qs qm d fr pg R) := by
  refine spec_body Tryz.func127 Tryz.ntmps127 rfl rfl ?_
  refine x_seq (x_region (s_val rfl (v_assign rfl) (s_val rfl (v_assign rfl) (x_nil (n_then (x_seq (x_region (s_val rfl (v_move rfl) (s_val rfl (v_move rfl) (s_do rfl (d_call3 Tryz.call151 rfl (rvRead_spec W0 _ qv qs qm d fr pg h hF pa hpa 4)) ?_))))))))))
  rintro _ B_ ⟨a, c, rfl, hB_⟩
  obtain rfl := hB_.symm
  refine s_val rfl (v_move rfl) (s_val rfl (v_extract rfl rfl) (s_val rfl (v_extract rfl rfl) (s_val rfl (v_assign rfl) (s_val rfl (v_assign rfl) (x_nil (n_then (x_seq (x_seq (x_region (s_val rfl (v_move rfl) (s_val rfl (v_not rfl) (x_nil (n_then ?_)))))))))))))
  refine x_if rfl ?_ ?_
  · intro c2
    refine x_seq (x_region (s_val rfl (v_assign rfl) (s_val rfl (v_assign rfl) (x_nil (n_then (x_ret (r_then (x_done (.inl rfl) (.cons (r_tmp rfl) (.cons (r_tmp rfl) .nil)) ?_))))))))
    refine ⟨_, ⟨?_, rfl⟩, inferInstance⟩
    have ho : ownB fr.length pg pa 4 = false := by simpa using c2
    simp [pack, ho]
  · intro c2
    have ho : ownB fr.length pg pa 4 = true := Decidable.not_not.1 c2
    have hrd : rdO fr pg pa 4 = rdL fr pg pa 4 := by rw [rdO, if_pos ho]; rfl
    have hln : (rdL fr pg pa 4).length = 4 := rdL_len _ _ _ _
    obtain ⟨hg1, hg2⟩ := getN_all hln
    rw [hrd]
    refine run_form (E := 5) (sz := 1) (a := a) (c := c) (n := (rdL fr pg pa 4).length) (fun hf => ?_)
    obtain ⟨g, rfl⟩ := form_some hf (by intro h0; have := congrArg List.length h0; rw [byV_len, hln] at this; simp at this)
    refine run_cap (E := 5) (sz := 1) (a := some ⟨g, 0, none⟩) (c := c) (n := (rdL fr pg pa 4).length) (fun hcap => ?_)
    refine x_skip (n_then (x_seq (x_region (s_val rfl (v_move rfl) (s_do rfl (d_call Tryz.call88 rfl (refGet02_spec W0 _ g 0 c (rdL fr pg pa 4) 0 4 (cells_osl (E := 5) (sz := 1) (a := some ⟨g, 0, none⟩) (c := c) (n := (rdL fr pg pa 4).length)) (rdL_by hF _ _ _) hcap.1 (maxLen_lt hcap.2))) ?_)))))
    rintro _ B_ ⟨rfl, hB_⟩
    obtain rfl := hB_.symm
    rw [hg1, hg2]
    refine s_val rfl (v_move rfl) (s_val rfl (v_extract rfl rfl) (s_val rfl (v_extract rfl rfl) (s_val rfl (v_assign rfl) (s_val rfl (v_assign rfl) (x_nil (n_then (x_seq (x_region (s_val rfl (v_move rfl) (s_val rfl (v_assign rfl) (s_val rfl (v_assign rfl) (x_nil (n_then (x_ret (x_done (.inl rfl) (.cons (r_tmp rfl) (.cons (r_tmp rfl) .nil)) ?_)))))))))))))))
    refine ⟨_, ⟨?_, rfl⟩, inferInstance⟩
    simp [pack, ho]
theorem rwTable_spec (W0 : World) (R : List HP) (qv qs qm d : Nat) (fr : List Frm) (pg : List Pl) (h : Pgs pg) (hF : Frs fr) (page : Int) (i : Nat) (hi : i < 16) :
    Spec Tryz.prog W0 84 [.pointer (some ⟨qv, 0, none⟩), .int .i64 page, .int .u32 i] (rvwW qv qs qm d fr pg R)
      (fun v B => v = .tuple #[.int .u32 (tblW fr pg page i : Nat), .bool (tblB fr.length pg page i)] ∧ B = rvwW qv qs qm d fr pg R) := by
  refine spec_body Tryz.func84 Tryz.ntmps84 rfl rfl ?_
  refine x_seq (x_region (s_val rfl (v_assign rfl) (s_val rfl (v_assign rfl) (x_nil (n_then (x_seq (x_seq (x_region (s_val rfl (v_move rfl) (s_val rfl (v_eql_ptr_nil Tryz.underlying26 rfl rfl) (s_val rfl (v_move rfl) ?_)))))))))))
  refine s_or rfl rfl rfl ?_ ?_
  · intro g1_3
    cases g1_3
  · intro g1_3
    refine s_val rfl (v_move rfl) (s_yes rfl rfl (s_val rfl (v_lss rfl rfl) (s_val rfl (v_pick_f rfl rfl) (s_val rfl (v_move rfl) ?_))))
    refine s_or rfl rfl rfl ?_ ?_
    · intro g1_7
      refine s_no rfl rfl rfl rfl (s_val rfl (v_pick_t rfl rfl) (x_nil (n_then (x_ift rfl (x_seq (x_region (s_val rfl (v_assign rfl) (s_val rfl (v_assign rfl) (x_nil (n_then (x_ret (r_then (x_done (.inl rfl) (.cons (r_tmp rfl) (.cons (r_tmp rfl) .nil)) ?_)))))))))))))
      refine ⟨_, ⟨?_, rfl⟩, inferInstance⟩
      have hb : tblB fr.length pg page i = false := by rw [← Bool.not_eq_true, tblB_iff]; rintro ⟨q, _⟩; omega
      simp [pack, tblW, hb]
    · intro g1_7
      refine s_val rfl (v_move rfl) (s_yes rfl rfl (s_val rfl (v_geq rfl rfl) (s_val rfl (v_pick_f rfl rfl) (x_nil (n_then ?_)))))
      refine x_if rfl ?_ ?_
      · intro c1
        refine x_seq (x_region (s_val rfl (v_assign rfl) (s_val rfl (v_assign rfl) (x_nil (n_then (x_ret (r_then (x_done (.inl rfl) (.cons (r_tmp rfl) (.cons (r_tmp rfl) .nil)) ?_))))))))
        refine ⟨_, ⟨?_, rfl⟩, inferInstance⟩
        have hb : tblB fr.length pg page i = false := by rw [← Bool.not_eq_true, tblB_iff]; rintro ⟨q, _⟩; omega
        simp [pack, tblW, hb]
      · intro c1
        refine x_skip (n_then (x_seq ?_))
        obtain ⟨p, rfl⟩ : ∃ p : Nat, page = (p : Int) := ⟨page.toNat, by omega⟩
        have hpa : tblPa (p : Int) i = 64 * p + 4 * (i % 16) := rfl
        refine x_region (s_val rfl (v_move rfl) (s_val rfl (v_move rfl) ?_))
        refine s_val rfl (v_conv Tryz.underlying3 Tryz.underlying31 rfl (w32u (by omega))) ?_
        refine s_val rfl (v_mul rfl rfl (by rw [w32u (by omega)]; omega : IntKind.wrap .u32 ((p : Int) * 64) = ((64 * p : Nat) : Int))) ?_
        refine s_val rfl (v_move rfl) ?_
        refine s_val rfl (v_mul rfl rfl (by rw [w32u (by omega)]; omega : IntKind.wrap .u32 (4 * (i : Int)) = ((4 * i : Nat) : Int))) ?_
        refine s_val rfl (v_add rfl rfl (by rw [w32u (by omega), hpa]; omega : IntKind.wrap .u32 (((64 * p : Nat) : Int) + ((4 * i : Nat) : Int)) = ((tblPa (p : Int) i : Nat) : Int))) ?_
        refine s_do rfl (d_call3 Tryz.call127 rfl (rvWord_spec W0 _ qv qs qm d fr pg h hF (tblPa (p : Int) i) (by omega))) ?_
        rintro _ B_ ⟨rfl, hB_⟩
        obtain rfl := hB_.symm
        refine s_val rfl (v_extract rfl rfl) (s_val rfl (v_extract rfl rfl) (s_val rfl (v_assign rfl) (s_val rfl (v_assign rfl) (x_nil (n_then (x_ret (x_done (.inl rfl) (.cons (r_tmp rfl) (.cons (r_tmp rfl) .nil)) ?_)))))))
        refine ⟨_, ⟨?_, rfl⟩, inferInstance⟩
        have hb : tblB fr.length pg p i = ownB fr.length pg (tblPa (p : Int) i) 4 := by rw [Bool.eq_iff_iff, tblB_iff]; exact ⟨fun q => q.2, fun q => ⟨by omega, q⟩⟩
        simp only [pack, tblW, hb]
end Go.Proofs.YtllkdnadmmjehaaGreatDoor
namespace Go.Proofs.YtllkdnadmmjehaaGreatDoor
open Go.RowKit
set_option linter.unusedSimpArgs false
set_option linter.unusedVariables false
set_option maxRecDepth 20000
structure WS where
  on : Bool
  r : Int
  p : Int
  fault : Int
  root : Int
  leaf : Int
@[reducible] def wsV (s : WS) : List Value := [.bool s.on, .int .i64 s.r, .int .i64 s.p, .int .i64 s.fault, .int .i64 s.root, .int .i64 s.leaf]
def ws0 : WS := ⟨false, 0, 0, 0, -1, -1⟩
abbrev wayO (pv va : Nat) (s : WS) : Obj := cob (.pointer (some ⟨pv, 0, none⟩) :: .int .u32 va :: wsV s) 189
theorem bne0 (x : Int) : (x != 0) = !decide (x = 0) := by by_cases q : x = 0 <;> simp [q]
theorem wkFault_spec (W0 : World) (R : List HP) (bw pv va : Nat) (s : WS) (f : Int) : Spec Tryz.prog W0 109 [.pointer (some ⟨bw, 0, none⟩), .int .i64 f] (pt bw (wayO pv va s) :: R)
    (fun v B => v = .bool (f != 0) ∧ B = pt bw (wayO pv va { s with fault := f }) :: R) := by
  refine spec_body Tryz.func109 Tryz.ntmps109 rfl rfl ?_
  refine x_seq (x_region (s_val rfl (v_assign rfl) (x_nil (n_then (x_seq (x_region (s_val rfl (v_move rfl) (s_val rfl (v_move rfl) (s_val rfl (v_nilCheck rfl) ?_)))))))))
  refine s_val rfl (v_fieldAddr rfl Tryz.underlying189 rfl Tryz.sizeOf122 rfl (by first | exact Nat.zero_add _ | rfl)) ?_
  refine s_val rfl (v_fieldAddr rfl Tryz.underlying122 rfl Tryz.sizeOf3 rfl (by first | exact Nat.zero_add _ | rfl)) ?_
  refine s_do0 (d_store Tryz.sizeOf3 rfl rfl rfl (Nat.le_of_ble_eq_true rfl) SetL.eq) ?_
  rintro _ _ rfl
  refine x_nil (n_then (x_seq (x_region (s_val rfl (v_move rfl) (s_val rfl (v_neq rfl rfl) (s_val rfl (v_assign rfl) (x_nil (n_then (x_ret (x_done (.inl rfl) (.cons (r_tmp rfl) .nil) ?_))))))))))
  exact ⟨_, ⟨rfl, rfl⟩, inferInstance⟩
def rtS (fr : List Frm) (pg : List Pl) (va : Nat) (a : Int) (s : WS) : WS :=
  if tblB fr.length pg a (va / 1024) then { s with root := a, fault := tabF (tblW fr pg a (va / 1024)) } else { s with fault := 3 }
def rtA (fr : List Frm) (pg : List Pl) (va : Nat) (a : Int) : Int := if tblB fr.length pg a (va / 1024) then tabP (tblW fr pg a (va / 1024)) else 0
def rtB (fr : List Frm) (pg : List Pl) (va : Nat) (a : Int) : Bool := tblB fr.length pg a (va / 1024) && decide (tabF (tblW fr pg a (va / 1024)) = 0)
theorem shr10 {w : Nat} : bShr .u32 w 10 = ((w / 1024 : Nat) : Int) := bShr_nat (s := 10) (by decide)
theorem shr6 {w : Nat} : bShr .u32 w 6 = ((w / 64 : Nat) : Int) := bShr_nat (s := 6) (by decide)
theorem wkRoot_spec (W0 : World) (R : List HP) (bw pv ps pm d : Nat) (fr : List Frm) (pg : List Pl) (h : Pgs pg) (hF : Frs fr) (va : Nat) (hva : va < 4294967296) (s : WS) (a : Int) :
    Spec Tryz.prog W0 111 [.pointer (some ⟨bw, 0, none⟩), .int .i64 a] (pt bw (wayO pv va s) :: vwW pv ps pm d fr pg R)
      (fun v B => v = .tuple #[.int .i64 (rtA fr pg va a), .bool (rtB fr pg va a)] ∧ B = pt bw (wayO pv va (rtS fr pg va a s)) :: vwW pv ps pm d fr pg R) := by
  by_cases hb : tblB fr.length pg a (va / 1024) = true
  · rw [rtA, if_pos hb, rtS, if_pos hb, rtB, hb, Bool.true_and]
    refine spec_body Tryz.func111 Tryz.ntmps111 rfl rfl ?_
    refine x_seq (x_region (s_val rfl (v_assign rfl) (s_val rfl (v_assign rfl) (x_nil (n_then (x_seq ?_))))))
    refine x_draw [(bw, 0, _)] 16 mixed rfl (sc_own sc_end) (fun hS => ?_)
    refine d_take 0 rfl rfl (by kernel_rfl) (by kernel_rfl) (by kernel_rfl) rfl hS (v_move rfl) ?_
    refine d_take 1 rfl rfl (by kernel_rfl) (by kernel_rfl) (by kernel_rfl) rfl hS (v_nilCheck rfl) ?_
    refine d_take 2 rfl rfl (by kernel_rfl) (by kernel_rfl) (by kernel_rfl) rfl hS (v_fieldAddr rfl Tryz.underlying189 rfl Tryz.sizeOf25 rfl (by first | exact Nat.zero_add _ | rfl)) ?_
    refine d_take 3 rfl rfl (by kernel_rfl) (by kernel_rfl) (by kernel_rfl) rfl hS (v_load Tryz.isAgg25 rfl (cell_sc0 (k := 0) rfl rfl)) ?_
    refine d_take 4 rfl rfl (by kernel_rfl) (by kernel_rfl) (by kernel_rfl) rfl hS (v_move rfl) ?_
    refine d_take 5 rfl rfl (by kernel_rfl) (by kernel_rfl) (by kernel_rfl) rfl hS (v_move rfl) ?_
    refine d_take 6 rfl rfl (by kernel_rfl) (by kernel_rfl) (by kernel_rfl) rfl hS (v_nilCheck rfl) ?_
    refine d_take 7 rfl rfl (by kernel_rfl) (by kernel_rfl) (by kernel_rfl) rfl hS (v_fieldAddr rfl Tryz.underlying189 rfl Tryz.sizeOf31 rfl (by first | exact Nat.zero_add _ | rfl)) ?_
    refine d_take 8 rfl rfl (by kernel_rfl) (by kernel_rfl) (by kernel_rfl) rfl hS (v_load Tryz.isAgg31 rfl (cell_sc0 (k := 0) rfl rfl)) ?_
    refine d_take 9 rfl rfl (by kernel_rfl) (by kernel_rfl) (by kernel_rfl) rfl hS (v_shr rfl rfl (by decide) shr10) ?_
    refine d_one 10 (by kernel_rfl) rfl rfl (d_call3 Tryz.call139 rfl (wkTable_spec W0 _ pv ps pm d fr pg h hF a (va / 1024) (by omega))) rfl ?_; clear hS
    rintro _ B_ ⟨rfl, hB_⟩
    obtain rfl := hB_.symm
    refine ⟨(sc_own sc_end), fun hS => ?_⟩
    refine d_take 11 rfl rfl (by kernel_rfl) (by kernel_rfl) (by kernel_rfl) rfl hS (v_move rfl) ?_
    refine d_take 12 rfl rfl (by kernel_rfl) (by kernel_rfl) (by kernel_rfl) rfl hS (v_extract rfl rfl) ?_
    refine d_take 13 rfl rfl (by kernel_rfl) (by kernel_rfl) (by kernel_rfl) rfl hS (v_extract rfl rfl) ?_
    refine d_take 14 rfl rfl (by kernel_rfl) (by kernel_rfl) (by kernel_rfl) rfl hS (v_assign rfl) ?_
    refine d_take 15 rfl rfl (by kernel_rfl) (by kernel_rfl) (by kernel_rfl) rfl hS (v_assign rfl) ?_
    refine d_done (by kernel_rfl) ?_; clear hS
    refine n_then (x_seq (x_seq (x_region (s_val rfl (v_move rfl) (s_val rfl (v_not rfl) (x_nil (n_then ?_)))))))
    refine x_if rfl ?_ ?_
    · intro c2
      exact absurd hb c2
    · intro c2
      refine x_skip (n_then (x_seq (x_region (s_val rfl (v_move rfl) (s_val rfl (v_move rfl) (s_val rfl (v_nilCheck rfl) ?_))))))
      refine s_val rfl (v_fieldAddr rfl Tryz.underlying189 rfl Tryz.sizeOf122 rfl (by first | exact Nat.zero_add _ | rfl)) ?_
      refine s_val rfl (v_fieldAddr rfl Tryz.underlying122 rfl Tryz.sizeOf3 rfl (by first | exact Nat.zero_add _ | rfl)) ?_
      refine s_do0 (d_store Tryz.sizeOf3 rfl rfl rfl (Nat.le_of_ble_eq_true rfl) SetL.eq) ?_
      rintro _ _ rfl
      refine x_nil (n_then (x_seq (x_region (s_val rfl (v_move rfl) (s_do rfl (d_call Tryz.call140 rfl (Table_spec W0 _ (tblW fr pg a (va / 1024)) (tblW_lt hF _ _ _))) ?_)))))
      rintro _ B_ ⟨rfl, hB_⟩
      obtain rfl := hB_.symm
      refine s_val rfl (v_move rfl) (s_val rfl (v_extract rfl rfl) (s_val rfl (v_extract rfl rfl) (s_val rfl (v_assign rfl) (s_val rfl (v_assign rfl) (x_nil (n_then (x_seq (x_region (s_val rfl (v_move rfl) (s_val rfl (v_move rfl) (s_val rfl (v_move rfl) (s_do rfl (d_call1 Tryz.call109 rfl (wkFault_spec W0 _ bw pv va { s with root := a } _)) ?_))))))))))))
      rintro _ B_ ⟨rfl, hB_⟩
      obtain rfl := hB_.symm
      refine s_val rfl (v_not rfl) (s_val rfl (v_assign rfl) (s_val rfl (v_assign rfl) (x_nil (n_then (x_ret (x_done (.inl rfl) (.cons (r_tmp rfl) (.cons (r_tmp rfl) .nil)) ?_))))))
      refine ⟨_, ⟨?_, rfl⟩, inferInstance⟩
      simp [pack]
      exact bne0 _
  · have hb' : tblB fr.length pg a (va / 1024) = false := by simpa using hb
    rw [rtA, if_neg hb, rtS, if_neg hb, rtB, hb', Bool.false_and]
    refine spec_body Tryz.func111 Tryz.ntmps111 rfl rfl ?_
    refine x_seq (x_region (s_val rfl (v_assign rfl) (s_val rfl (v_assign rfl) (x_nil (n_then (x_seq ?_))))))
    refine x_draw [(bw, 0, _)] 16 mixed rfl (sc_own sc_end) (fun hS => ?_)
    refine d_take 0 rfl rfl (by kernel_rfl) (by kernel_rfl) (by kernel_rfl) rfl hS (v_move rfl) ?_
    refine d_take 1 rfl rfl (by kernel_rfl) (by kernel_rfl) (by kernel_rfl) rfl hS (v_nilCheck rfl) ?_
    refine d_take 2 rfl rfl (by kernel_rfl) (by kernel_rfl) (by kernel_rfl) rfl hS (v_fieldAddr rfl Tryz.underlying189 rfl Tryz.sizeOf25 rfl (by first | exact Nat.zero_add _ | rfl)) ?_
    refine d_take 3 rfl rfl (by kernel_rfl) (by kernel_rfl) (by kernel_rfl) rfl hS (v_load Tryz.isAgg25 rfl (cell_sc0 (k := 0) rfl rfl)) ?_
    refine d_take 4 rfl rfl (by kernel_rfl) (by kernel_rfl) (by kernel_rfl) rfl hS (v_move rfl) ?_
    refine d_take 5 rfl rfl (by kernel_rfl) (by kernel_rfl) (by kernel_rfl) rfl hS (v_move rfl) ?_
    refine d_take 6 rfl rfl (by kernel_rfl) (by kernel_rfl) (by kernel_rfl) rfl hS (v_nilCheck rfl) ?_
    refine d_take 7 rfl rfl (by kernel_rfl) (by kernel_rfl) (by kernel_rfl) rfl hS (v_fieldAddr rfl Tryz.underlying189 rfl Tryz.sizeOf31 rfl (by first | exact Nat.zero_add _ | rfl)) ?_
    refine d_take 8 rfl rfl (by kernel_rfl) (by kernel_rfl) (by kernel_rfl) rfl hS (v_load Tryz.isAgg31 rfl (cell_sc0 (k := 0) rfl rfl)) ?_
    refine d_take 9 rfl rfl (by kernel_rfl) (by kernel_rfl) (by kernel_rfl) rfl hS (v_shr rfl rfl (by decide) shr10) ?_
    refine d_one 10 (by kernel_rfl) rfl rfl (d_call3 Tryz.call139 rfl (wkTable_spec W0 _ pv ps pm d fr pg h hF a (va / 1024) (by omega))) rfl ?_; clear hS
    rintro _ B_ ⟨rfl, hB_⟩
    obtain rfl := hB_.symm
    refine ⟨(sc_own sc_end), fun hS => ?_⟩
    refine d_take 11 rfl rfl (by kernel_rfl) (by kernel_rfl) (by kernel_rfl) rfl hS (v_move rfl) ?_
    refine d_take 12 rfl rfl (by kernel_rfl) (by kernel_rfl) (by kernel_rfl) rfl hS (v_extract rfl rfl) ?_
    refine d_take 13 rfl rfl (by kernel_rfl) (by kernel_rfl) (by kernel_rfl) rfl hS (v_extract rfl rfl) ?_
    refine d_take 14 rfl rfl (by kernel_rfl) (by kernel_rfl) (by kernel_rfl) rfl hS (v_assign rfl) ?_
    refine d_take 15 rfl rfl (by kernel_rfl) (by kernel_rfl) (by kernel_rfl) rfl hS (v_assign rfl) ?_
    refine d_done (by kernel_rfl) ?_; clear hS
    refine n_then (x_seq (x_seq (x_region (s_val rfl (v_move rfl) (s_val rfl (v_not rfl) (x_nil (n_then ?_)))))))
    refine x_if rfl ?_ ?_
    · intro c2
      refine x_seq (x_region (s_val rfl (v_move rfl) (s_do rfl (d_call1 Tryz.call109 rfl (wkFault_spec W0 _ bw pv va _ _)) ?_)))
      rintro _ B_ ⟨rfl, hB_⟩
      obtain rfl := hB_.symm
      refine s_val rfl (v_not rfl) (s_val rfl (v_assign rfl) (s_val rfl (v_assign rfl) (x_nil (n_then (x_ret (r_then (x_done (.inl rfl) (.cons (r_tmp rfl) (.cons (r_tmp rfl) .nil)) ?_)))))))
      exact ⟨_, ⟨rfl, rfl⟩, inferInstance⟩
    · intro c2
      exact absurd (by rw [hb']; decide) c2
def lfS (fr : List Frm) (pg : List Pl) (va : Nat) (a : Int) (s : WS) : WS :=
  if tblB fr.length pg a (va / 64) then { s with leaf := a, on := lfOn (tblW fr pg a (va / 64)), r := lfR (tblW fr pg a (va / 64)), p := lfP (tblW fr pg a (va / 64)), fault := leafF (tblW fr pg a (va / 64)) } else { s with fault := 3 }
def lfB (fr : List Frm) (pg : List Pl) (va : Nat) (a : Int) : Bool := tblB fr.length pg a (va / 64) && decide (leafF (tblW fr pg a (va / 64)) = 0)
theorem wkLeaf_spec (W0 : World) (R : List HP) (bw pv ps pm d : Nat) (fr : List Frm) (pg : List Pl) (h : Pgs pg) (hF : Frs fr) (va : Nat) (hva : va < 4294967296) (s : WS) (a : Int) :
    Spec Tryz.prog W0 113 [.pointer (some ⟨bw, 0, none⟩), .int .i64 a] (pt bw (wayO pv va s) :: vwW pv ps pm d fr pg R)
      (fun v B => v = .bool (lfB fr pg va a) ∧ B = pt bw (wayO pv va (lfS fr pg va a s)) :: vwW pv ps pm d fr pg R) := by
  by_cases hb : tblB fr.length pg a (va / 64) = true
  · rw [lfS, if_pos hb, lfB, hb, Bool.true_and]
    refine spec_body Tryz.func113 Tryz.ntmps113 rfl rfl ?_
    refine x_seq (x_region (s_val rfl (v_assign rfl) (x_nil (n_then (x_seq ?_)))))
    refine x_draw [(bw, 0, _)] 16 mixed rfl (sc_own sc_end) (fun hS => ?_)
    refine d_take 0 rfl rfl (by kernel_rfl) (by kernel_rfl) (by kernel_rfl) rfl hS (v_move rfl) ?_
    refine d_take 1 rfl rfl (by kernel_rfl) (by kernel_rfl) (by kernel_rfl) rfl hS (v_nilCheck rfl) ?_
    refine d_take 2 rfl rfl (by kernel_rfl) (by kernel_rfl) (by kernel_rfl) rfl hS (v_fieldAddr rfl Tryz.underlying189 rfl Tryz.sizeOf25 rfl (by first | exact Nat.zero_add _ | rfl)) ?_
    refine d_take 3 rfl rfl (by kernel_rfl) (by kernel_rfl) (by kernel_rfl) rfl hS (v_load Tryz.isAgg25 rfl (cell_sc0 (k := 0) rfl rfl)) ?_
    refine d_take 4 rfl rfl (by kernel_rfl) (by kernel_rfl) (by kernel_rfl) rfl hS (v_move rfl) ?_
    refine d_take 5 rfl rfl (by kernel_rfl) (by kernel_rfl) (by kernel_rfl) rfl hS (v_move rfl) ?_
    refine d_take 6 rfl rfl (by kernel_rfl) (by kernel_rfl) (by kernel_rfl) rfl hS (v_nilCheck rfl) ?_
    refine d_take 7 rfl rfl (by kernel_rfl) (by kernel_rfl) (by kernel_rfl) rfl hS (v_fieldAddr rfl Tryz.underlying189 rfl Tryz.sizeOf31 rfl (by first | exact Nat.zero_add _ | rfl)) ?_
    refine d_take 8 rfl rfl (by kernel_rfl) (by kernel_rfl) (by kernel_rfl) rfl hS (v_load Tryz.isAgg31 rfl (cell_sc0 (k := 0) rfl rfl)) ?_
    refine d_take 9 rfl rfl (by kernel_rfl) (by kernel_rfl) (by kernel_rfl) rfl hS (v_shr rfl rfl (by decide) shr6) ?_
    refine d_one 10 (by kernel_rfl) rfl rfl (d_call3 Tryz.call139 rfl (wkTable_spec W0 _ pv ps pm d fr pg h hF a (va / 64) (by omega))) rfl ?_; clear hS
    rintro _ B_ ⟨rfl, hB_⟩
    obtain rfl := hB_.symm
    refine ⟨(sc_own sc_end), fun hS => ?_⟩
    refine d_take 11 rfl rfl (by kernel_rfl) (by kernel_rfl) (by kernel_rfl) rfl hS (v_move rfl) ?_
    refine d_take 12 rfl rfl (by kernel_rfl) (by kernel_rfl) (by kernel_rfl) rfl hS (v_extract rfl rfl) ?_
    refine d_take 13 rfl rfl (by kernel_rfl) (by kernel_rfl) (by kernel_rfl) rfl hS (v_extract rfl rfl) ?_
    refine d_take 14 rfl rfl (by kernel_rfl) (by kernel_rfl) (by kernel_rfl) rfl hS (v_assign rfl) ?_
    refine d_take 15 rfl rfl (by kernel_rfl) (by kernel_rfl) (by kernel_rfl) rfl hS (v_assign rfl) ?_
    refine d_done (by kernel_rfl) ?_; clear hS
    refine n_then (x_seq (x_seq (x_region (s_val rfl (v_move rfl) (s_val rfl (v_not rfl) (x_nil (n_then ?_)))))))
    refine x_if rfl ?_ ?_
    · intro c2
      exact absurd hb c2
    · intro c2
      refine x_skip (n_then (x_seq (x_region (s_val rfl (v_move rfl) (s_val rfl (v_move rfl) (s_val rfl (v_nilCheck rfl) ?_))))))
      refine s_val rfl (v_fieldAddr rfl Tryz.underlying189 rfl Tryz.sizeOf122 rfl (by first | exact Nat.zero_add _ | rfl)) ?_
      refine s_val rfl (v_fieldAddr rfl Tryz.underlying122 rfl Tryz.sizeOf3 rfl (by first | exact Nat.zero_add _ | rfl)) ?_
      refine s_do0 (d_store Tryz.sizeOf3 rfl rfl rfl (Nat.le_of_ble_eq_true rfl) SetL.eq) ?_
      rintro _ _ rfl
      refine x_nil (n_then (x_seq (x_region (s_val rfl (v_move rfl) (s_do rfl (d_call Tryz.call141 rfl (Leaf_spec W0 _ (tblW fr pg a (va / 64)) (tblW_lt hF _ _ _))) ?_)))))
      rintro _ B_ ⟨rfl, hB_⟩
      obtain rfl := hB_.symm
      rw [leafV]
      refine s_val rfl (v_move rfl) (s_val rfl (v_extract rfl rfl) (s_val rfl (v_extract rfl rfl) (s_do rfl (d_allocA Tryz.zeroValue120) ?_)))
      rintro _ _ ⟨b1, rfl, rfl⟩
      refine s_do0 (d_storeAll Tryz.sizeOf120 rfl rfl rfl rfl rfl) ?_
      rintro _ _ rfl
      refine s_val rfl (v_assign rfl) (x_nil (n_then (x_seq (x_region (s_val rfl (v_move rfl) (s_val rfl (v_loadAll Tryz.isAgg120 Tryz.sizeOf120 rfl rfl) ?_))))))
      refine s_val rfl (v_nilCheck rfl) ?_
      refine s_val rfl (v_fieldAddr rfl Tryz.underlying189 rfl Tryz.sizeOf122 rfl (by first | exact Nat.zero_add _ | rfl)) ?_
      refine s_val rfl (v_fieldAddr rfl Tryz.underlying122 rfl Tryz.sizeOf120 rfl (by first | exact Nat.zero_add _ | rfl)) ?_
      refine s_do0 (d_storeAgg Tryz.sizeOf120 rfl rfl rfl rfl (Nat.le_of_ble_eq_true rfl) SetRL.eq) ?_
      rintro _ _ rfl
      refine x_nil (n_then (x_seq (x_region (s_val rfl (v_move rfl) (s_val rfl (v_move rfl) (s_do rfl (d_call1 Tryz.call109 rfl (wkFault_spec W0 _ bw pv va { s with leaf := a, on := lfOn (tblW fr pg a (va / 64)), r := lfR (tblW fr pg a (va / 64)), p := lfP (tblW fr pg a (va / 64)) } _)) ?_))))))
      rintro _ B_ ⟨rfl, hB_⟩
      obtain rfl := hB_.symm
      refine s_val rfl (v_not rfl) (s_val rfl (v_assign rfl) (x_nil (n_then (x_ret (x_done (.inl rfl) (.cons (r_tmp rfl) .nil) ?_)))))
      refine ⟨_, ⟨?_, rfl⟩, inferInstance⟩
      simp [pack]
      exact bne0 _
  · have hb' : tblB fr.length pg a (va / 64) = false := by simpa using hb
    rw [lfS, if_neg hb, lfB, hb', Bool.false_and]
    refine spec_body Tryz.func113 Tryz.ntmps113 rfl rfl ?_
    refine x_seq (x_region (s_val rfl (v_assign rfl) (x_nil (n_then (x_seq ?_)))))
    refine x_draw [(bw, 0, _)] 16 mixed rfl (sc_own sc_end) (fun hS => ?_)
    refine d_take 0 rfl rfl (by kernel_rfl) (by kernel_rfl) (by kernel_rfl) rfl hS (v_move rfl) ?_
    refine d_take 1 rfl rfl (by kernel_rfl) (by kernel_rfl) (by kernel_rfl) rfl hS (v_nilCheck rfl) ?_
    refine d_take 2 rfl rfl (by kernel_rfl) (by kernel_rfl) (by kernel_rfl) rfl hS (v_fieldAddr rfl Tryz.underlying189 rfl Tryz.sizeOf25 rfl (by first | exact Nat.zero_add _ | rfl)) ?_
    refine d_take 3 rfl rfl (by kernel_rfl) (by kernel_rfl) (by kernel_rfl) rfl hS (v_load Tryz.isAgg25 rfl (cell_sc0 (k := 0) rfl rfl)) ?_
    refine d_take 4 rfl rfl (by kernel_rfl) (by kernel_rfl) (by kernel_rfl) rfl hS (v_move rfl) ?_
    refine d_take 5 rfl rfl (by kernel_rfl) (by kernel_rfl) (by kernel_rfl) rfl hS (v_move rfl) ?_
    refine d_take 6 rfl rfl (by kernel_rfl) (by kernel_rfl) (by kernel_rfl) rfl hS (v_nilCheck rfl) ?_
    refine d_take 7 rfl rfl (by kernel_rfl) (by kernel_rfl) (by kernel_rfl) rfl hS (v_fieldAddr rfl Tryz.underlying189 rfl Tryz.sizeOf31 rfl (by first | exact Nat.zero_add _ | rfl)) ?_
    refine d_take 8 rfl rfl (by kernel_rfl) (by kernel_rfl) (by kernel_rfl) rfl hS (v_load Tryz.isAgg31 rfl (cell_sc0 (k := 0) rfl rfl)) ?_
    refine d_take 9 rfl rfl (by kernel_rfl) (by kernel_rfl) (by kernel_rfl) rfl hS (v_shr rfl rfl (by decide) shr6) ?_
    refine d_one 10 (by kernel_rfl) rfl rfl (d_call3 Tryz.call139 rfl (wkTable_spec W0 _ pv ps pm d fr pg h hF a (va / 64) (by omega))) rfl ?_; clear hS
    rintro _ B_ ⟨rfl, hB_⟩
    obtain rfl := hB_.symm
    refine ⟨(sc_own sc_end), fun hS => ?_⟩
    refine d_take 11 rfl rfl (by kernel_rfl) (by kernel_rfl) (by kernel_rfl) rfl hS (v_move rfl) ?_
    refine d_take 12 rfl rfl (by kernel_rfl) (by kernel_rfl) (by kernel_rfl) rfl hS (v_extract rfl rfl) ?_
    refine d_take 13 rfl rfl (by kernel_rfl) (by kernel_rfl) (by kernel_rfl) rfl hS (v_extract rfl rfl) ?_
    refine d_take 14 rfl rfl (by kernel_rfl) (by kernel_rfl) (by kernel_rfl) rfl hS (v_assign rfl) ?_
    refine d_take 15 rfl rfl (by kernel_rfl) (by kernel_rfl) (by kernel_rfl) rfl hS (v_assign rfl) ?_
    refine d_done (by kernel_rfl) ?_; clear hS
    refine n_then (x_seq (x_seq (x_region (s_val rfl (v_move rfl) (s_val rfl (v_not rfl) (x_nil (n_then ?_)))))))
    refine x_if rfl ?_ ?_
    · intro c2
      refine x_seq (x_region (s_val rfl (v_move rfl) (s_do rfl (d_call1 Tryz.call109 rfl (wkFault_spec W0 _ bw pv va _ _)) ?_)))
      rintro _ B_ ⟨rfl, hB_⟩
      obtain rfl := hB_.symm
      refine s_val rfl (v_not rfl) (s_val rfl (v_assign rfl) (x_nil (n_then (x_ret (r_then (x_done (.inl rfl) (.cons (r_tmp rfl) .nil) ?_))))))
      exact ⟨_, ⟨rfl, rfl⟩, inferInstance⟩
    · intro c2
      exact absurd (by rw [hb']; decide) c2
def wkQ (fr : List Frm) (pg : List Pl) (root : Int) (va : Nat) : Nat → WS × Int
  | 0 => (ws0, root)
  | 1 => (if va < 16384 then ws0 else { ws0 with fault := 2 }, root)
  | 2 => (rtS fr pg va root ws0, rtA fr pg va root)
  | _ => (lfS fr pg va (rtA fr pg va root) (rtS fr pg va root ws0), rtA fr pg va root)
def wkOk (fr : List Frm) (pg : List Pl) (root : Int) (va : Nat) : Nat → Bool
  | 0 => decide (va < 16384)
  | 1 => rtB fr pg va root
  | _ => lfB fr pg va (rtA fr pg va root)
def wkR (fr : List Frm) (pg : List Pl) (root : Int) (va : Nat) : WS :=
  if va < 16384 then (if rtB fr pg va root then (wkQ fr pg root va 3).1 else (wkQ fr pg root va 2).1) else (wkQ fr pg root va 1).1
abbrev wkM (bva bwp bat bw pv ps pm d : Nat) (fr : List Frm) (pg : List Pl) (va : Nat) (q : WS × Int) (R : List HP) : List HP :=
  pt bva (cob [.int .u32 va] 31) :: pt bwp (cob [.pointer (some ⟨bw, 0, none⟩)] 187) :: pt bat (cob [.int .i64 q.2] 3) :: pt bw (wayO pv va q.1) :: vwW pv ps pm d fr pg R
theorem wk1_spec (W0 : World) (R : List HP) (bva bwp bat bw pv ps pm d : Nat) (fr : List Frm) (pg : List Pl) (root : Int) (va : Nat) :
    Spec Tryz.prog W0 108 [.pointer (some ⟨bva, 0, none⟩), .pointer (some ⟨bwp, 0, none⟩)] (wkM bva bwp bat bw pv ps pm d fr pg va (wkQ fr pg root va 0) R)
      (fun v B => v = .bool (wkOk fr pg root va 0) ∧ B = wkM bva bwp bat bw pv ps pm d fr pg va (wkQ fr pg root va 1) R) := by
  refine spec_body Tryz.func108 Tryz.ntmps108 rfl rfl ?_
  refine x_seq (x_region (s_val rfl (v_assign rfl) (x_nil (n_then (x_seq (x_region (s_val rfl (v_load Tryz.isAgg31 rfl (cell_own rfl)) ?_)))))))
  refine s_val rfl (v_lss rfl rfl) (s_val rfl (v_move rfl) ?_)
  refine s_or rfl rfl rfl ?_ ?_
  · intro g1_3
    refine s_no rfl rfl rfl rfl (s_no rfl rfl rfl rfl (s_val rfl (v_pick_t rfl rfl) (s_val rfl (v_assign rfl) (x_nil (n_then (x_ret (x_done (.inl rfl) (.cons (r_tmp rfl) .nil) ?_)))))))
    first
      | (have hv : va < 16384 := by omega
         simp only [wkQ, wkOk, if_pos hv, decide_eq_true hv]
         exact ⟨_, ⟨rfl, rfl⟩, inferInstance⟩)
      | (have hv : ¬ va < 16384 := by omega
         simp only [wkQ, wkOk, if_neg hv, decide_eq_false hv]
         exact ⟨_, ⟨rfl, rfl⟩, inferInstance⟩)
  · intro g1_3
    refine s_val rfl (v_load Tryz.isAgg187 rfl (cell_own rfl)) ?_
    refine s_yes rfl rfl (s_do rfl (d_call1 Tryz.call109 rfl (wkFault_spec W0 _ bw pv va ws0 2)) ?_)
    rintro _ B_ ⟨rfl, hB_⟩
    obtain rfl := hB_.symm
    refine s_yes rfl rfl (s_val rfl (v_not rfl) (s_val rfl (v_pick_f rfl rfl) (s_val rfl (v_assign rfl) (x_nil (n_then (x_ret (x_done (.inl rfl) (.cons (r_tmp rfl) .nil) ?_)))))))
    first
      | (have hv : va < 16384 := by omega
         simp only [wkQ, wkOk, if_pos hv, decide_eq_true hv]
         exact ⟨_, ⟨rfl, rfl⟩, inferInstance⟩)
      | (have hv : ¬ va < 16384 := by omega
         simp only [wkQ, wkOk, if_neg hv, decide_eq_false hv]
         exact ⟨_, ⟨rfl, rfl⟩, inferInstance⟩)
theorem wk2_spec (W0 : World) (R : List HP) (bva bwp bat bw pv ps pm d : Nat) (fr : List Frm) (pg : List Pl) (h : Pgs pg) (hF : Frs fr) (root : Int) (va : Nat) (hva : va < 16384) :
    Spec Tryz.prog W0 110 [.pointer (some ⟨bwp, 0, none⟩), .pointer (some ⟨bat, 0, none⟩)] (wkM bva bwp bat bw pv ps pm d fr pg va (wkQ fr pg root va 1) R)
      (fun v B => v = .bool (wkOk fr pg root va 1) ∧ B = wkM bva bwp bat bw pv ps pm d fr pg va (wkQ fr pg root va 2) R) := by
  simp only [wkQ, wkOk, if_pos hva]
  refine spec_body Tryz.func110 Tryz.ntmps110 rfl rfl ?_
  refine x_seq (x_region (s_val rfl (v_assign rfl) (x_nil (n_then (x_seq (x_region (s_val rfl (v_load Tryz.isAgg187 rfl (cell_own rfl)) ?_)))))))
  refine s_val rfl (v_load Tryz.isAgg3 rfl (cell_own rfl)) ?_
  refine s_do rfl (d_call4 Tryz.call111 rfl (wkRoot_spec W0 _ bw pv ps pm d fr pg h hF va (by omega) ws0 root)) ?_
  rintro _ B_ ⟨rfl, hB_⟩
  obtain rfl := hB_.symm
  refine s_val rfl (v_move rfl) (s_val rfl (v_extract rfl rfl) (s_val rfl (v_extract rfl rfl) (s_val rfl (v_assign rfl) (s_val rfl (v_assign rfl) (x_nil (n_then (x_seq (x_region (s_val rfl (v_move rfl) (s_do0 (d_store Tryz.sizeOf3 rfl rfl rfl (Nat.le_of_ble_eq_true rfl) SetL.eq) ?_))))))))))
  rintro _ _ rfl
  refine x_nil (n_then (x_seq (x_region (s_val rfl (v_move rfl) (s_val rfl (v_assign rfl) (x_nil (n_then (x_ret (x_done (.inl rfl) (.cons (r_tmp rfl) .nil) ?_)))))))))
  exact ⟨_, ⟨rfl, rfl⟩, inferInstance⟩
theorem wk3_spec (W0 : World) (R : List HP) (bva bwp bat bw pv ps pm d : Nat) (fr : List Frm) (pg : List Pl) (h : Pgs pg) (hF : Frs fr) (root : Int) (va : Nat) (hva : va < 16384) :
    Spec Tryz.prog W0 112 [.pointer (some ⟨bwp, 0, none⟩), .pointer (some ⟨bat, 0, none⟩)] (wkM bva bwp bat bw pv ps pm d fr pg va (wkQ fr pg root va 2) R)
      (fun v B => v = .bool (wkOk fr pg root va 2) ∧ B = wkM bva bwp bat bw pv ps pm d fr pg va (wkQ fr pg root va 3) R) := by
  simp only [wkQ, wkOk]
  refine spec_body Tryz.func112 Tryz.ntmps112 rfl rfl ?_
  refine x_seq (x_region (s_val rfl (v_assign rfl) (x_nil (n_then (x_seq (x_region (s_val rfl (v_load Tryz.isAgg187 rfl (cell_own rfl)) ?_)))))))
  refine s_val rfl (v_load Tryz.isAgg3 rfl (cell_own rfl)) ?_
  refine s_do rfl (d_call4 Tryz.call113 rfl (wkLeaf_spec W0 _ bw pv ps pm d fr pg h hF va (by omega) _ (rtA fr pg va root))) ?_
  rintro _ B_ ⟨rfl, hB_⟩
  obtain rfl := hB_.symm
  refine s_val rfl (v_assign rfl) (x_nil (n_then (x_ret (x_done (.inl rfl) (.cons (r_tmp rfl) .nil) ?_))))
  exact ⟨_, ⟨rfl, rfl⟩, inferInstance⟩
def wkFn (bva bwp bat : Nat) : List Value := [.func (.func 108) #[] #[.pointer (some ⟨bva, 0, none⟩), .pointer (some ⟨bwp, 0, none⟩)], .func (.func 110) #[] #[.pointer (some ⟨bwp, 0, none⟩), .pointer (some ⟨bat, 0, none⟩)], .func (.func 112) #[] #[.pointer (some ⟨bwp, 0, none⟩), .pointer (some ⟨bat, 0, none⟩)]]
theorem wkStep {W0 : World} {N : FSz} {e : Env} {R : List HP} {bva bwp bat bw pv ps pm d : Nat} {fr : List Frm} {pg : List Pl} {root : Int} {va i : Nat} {fx : Operand} {v : Value} (h : Pgs pg) (hF : Frs fr) (hi : i < 3) (hal : ∀ m, m < i → wkOk fr pg root va m = true) (hv : (wkFn bva bwp bat)[i]? = some v) (hx : ev e fx = some v) :
    Does Tryz.prog W0 N e (wkM bva bwp bat bw pv ps pm d fr pg va (wkQ fr pg root va i) R) (.call { callee := .value fx, args := #[], argTypes := #[] }) (fun v B => v = .bool (wkOk fr pg root va i) ∧ B = wkM bva bwp bat bw pv ps pm d fr pg va (wkQ fr pg root va (i + 1)) R) := by
  have h3 : i = 0 ∨ i = 1 ∨ i = 2 := by omega
  rcases h3 with rfl | rfl | rfl
  · cases hv
    exact d_callv (us := []) (vs := []) (cs := [.pointer (some ⟨bva, 0, none⟩), .pointer (some ⟨bwp, 0, none⟩)]) hx Tryz.call108 rfl (wk1_spec W0 R bva bwp bat bw pv ps pm d fr pg root va)
  · cases hv
    have hva : va < 16384 := of_decide_eq_true (hal 0 (by decide))
    exact d_callv (us := []) (vs := []) (cs := [.pointer (some ⟨bwp, 0, none⟩), .pointer (some ⟨bat, 0, none⟩)]) hx Tryz.call110 rfl (wk2_spec W0 R bva bwp bat bw pv ps pm d fr pg h hF root va hva)
  · cases hv
    have hva : va < 16384 := of_decide_eq_true (hal 0 (by decide))
    exact d_callv (us := []) (vs := []) (cs := [.pointer (some ⟨bwp, 0, none⟩), .pointer (some ⟨bat, 0, none⟩)]) hx Tryz.call112 rfl (wk3_spec W0 R bva bwp bat bw pv ps pm d fr pg h hF root va hva)
theorem wkR_stop {fr : List Frm} {pg : List Pl} {root : Int} {va i : Nat} (hi : i < 3) (hal : ∀ m, m < i → wkOk fr pg root va m = true) (hst : wkOk fr pg root va i = false) : wkR fr pg root va = (wkQ fr pg root va (i + 1)).1 := by
  have h3 : i = 0 ∨ i = 1 ∨ i = 2 := by omega
  rcases h3 with rfl | rfl | rfl
  · have : ¬ va < 16384 := of_decide_eq_false hst
    rw [wkR, if_neg this]
  · have hva : va < 16384 := of_decide_eq_true (hal 0 (by decide))
    have : ¬ rtB fr pg va root = true := by rw [show rtB fr pg va root = false from hst]; decide
    rw [wkR, if_pos hva, if_neg this]
  · have hva : va < 16384 := of_decide_eq_true (hal 0 (by decide))
    rw [wkR, if_pos hva, if_pos (show rtB fr pg va root = true from hal 1 (by decide))]
theorem wkR_end {fr : List Frm} {pg : List Pl} {root : Int} {va : Nat} (hal : ∀ m, m < 3 → wkOk fr pg root va m = true) : wkR fr pg root va = (wkQ fr pg root va 3).1 := by
  have hva : va < 16384 := of_decide_eq_true (hal 0 (by decide))
  rw [wkR, if_pos hva, if_pos (show rtB fr pg va root = true from hal 1 (by decide))]
theorem wkWalk_spec (W0 : World) (R : List HP) (pv ps pm d : Nat) (fr : List Frm) (pg : List Pl) (h : Pgs pg) (hF : Frs fr) (root : Int) (va : Nat) (hva : va < 4294967296) :
    Spec Tryz.prog W0 71 [.pointer (some ⟨pv, 0, none⟩), .int .i64 root, .int .u32 va] (vwW pv ps pm d fr pg R)
      (fun v B => v = .agg (wsV (wkR fr pg root va)).toArray ∧ B = vwW pv ps pm d fr pg R) := by
  refine spec_body Tryz.func71 Tryz.ntmps71 rfl rfl ?_
  refine x_seq (x_region (s_do rfl (d_box rfl rfl) ?_))
  rintro _ _ ⟨b1, rfl, rfl⟩
  refine s_do rfl (d_allocA Tryz.zeroValue122) ?_
  rintro _ _ ⟨b2, rfl, rfl⟩
  refine x_nil (n_then (x_scope (x_seq (x_region (s_val rfl (v_move rfl) (s_val rfl (v_load Tryz.isAgg31 rfl (cell_own rfl)) ?_))))))
  refine s_val rfl (v_build Tryz.underlying122 Tryz.zeroValue122 (sized_cons Tryz.sizeOf120 (sized_cons Tryz.sizeOf3 (sized_cons Tryz.sizeOf3 (sized_cons Tryz.sizeOf3 sized_nil)))) (fil_scal rfl Tryz.sizeOf3 rfl rfl (Nat.le_of_ble_eq_true rfl) SetL.eq (fil_scal rfl Tryz.sizeOf3 rfl rfl (Nat.le_of_ble_eq_true rfl) SetL.eq fil_nil))) ?_
  refine s_val rfl (v_build Tryz.underlying189 Tryz.zeroValue189 (sized_cons Tryz.sizeOf25 (sized_cons Tryz.sizeOf31 (sized_cons Tryz.sizeOf122 sized_nil))) (fil_scal rfl Tryz.sizeOf25 rfl rfl (Nat.le_of_ble_eq_true rfl) SetL.eq (fil_scal rfl Tryz.sizeOf31 rfl rfl (Nat.le_of_ble_eq_true rfl) SetL.eq (fil_agg rfl Tryz.sizeOf122 rfl rfl (Nat.le_of_ble_eq_true rfl) SetRL.eq fil_nil)))) ?_
  refine s_do rfl (d_boxA rfl) ?_
  rintro _ _ ⟨b3, rfl, rfl⟩
  refine s_do rfl (d_alloc Tryz.zeroValue187 rfl) ?_
  rintro _ _ ⟨b4, rfl, rfl⟩
  refine s_do0 (d_store Tryz.sizeOf187 rfl rfl rfl (Nat.le_of_ble_eq_true rfl) SetL.eq) ?_
  rintro _ _ rfl
  refine x_nil (n_then (x_seq (x_region (s_val rfl (v_move rfl) (s_do rfl (d_alloc Tryz.zeroValue3 rfl) ?_)))))
  rintro _ _ ⟨b5, rfl, rfl⟩
  refine s_do0 (d_store Tryz.sizeOf3 rfl rfl rfl (Nat.le_of_ble_eq_true rfl) SetL.eq) ?_
  rintro _ _ rfl
  refine x_nil (n_then (x_seq (x_region (s_val rfl (v_mkFunc rfl rfl) ?_))))
  refine s_val rfl (v_mkFunc rfl rfl) ?_
  refine s_val rfl (v_mkFunc rfl rfl) ?_
  refine s_do rfl (d_sliceLit Tryz.underlying192 Tryz.sizeOf50 Tryz.zeroValue50 rfl rfl rfl rfl rfl (by decide) (by decide)) ?_
  rintro _ _ ⟨b6, rfl, rfl⟩
  refine s_val rfl (v_assign rfl) (x_nil (n_then (x_seq (x_label (n_then (x_seq (x_seq (x_region (s_val rfl (v_move rfl) (s_val rfl (v_len_slice Tryz.underlying192 rfl) (s_val rfl (v_move rfl) (x_nil (n_then (x_block ?_))))))))))))))
  refine x_loop (fun i : Nat => i ≤ 3 ∧ ∀ m, m < i → wkOk fr pg root va m = true) (fun i => [(6, .pointer (some ⟨b2, 0, none⟩)), (7, .pointer (some ⟨b4, 0, none⟩)), (22, .slice (some ⟨b6, 0, none⟩) 3 3), (23, .int .i64 3), (24, .int .i64 i)]) (fun i => pt b6 (cob (wkFn b1 b4 b5) 50) :: pt b2 (cob (wsV ⟨false, 0, 0, 0, 0, 0⟩) 122) :: wkM b1 b4 b5 b3 pv ps pm d fr pg va (wkQ fr pg root va i) R) (fun i => 3 - i) 0 ?_ ?_ ?_ ?_
  · exact ⟨Nat.zero_le _, fun m hm => by omega⟩
  · repeat (first | exact sub_nil | refine sub_cons rfl ?_)
  · show Ent (pt b6 (cob (wkFn b1 b4 b5) 50) :: pt b5 (cob [.int .i64 (wkQ fr pg root va 0).2] 3) :: pt b4 (cob [.pointer (some ⟨b3, 0, none⟩)] 187) :: pt b3 (wayO pv va (wkQ fr pg root va 0).1) :: pt b2 (cob (wsV ⟨false, 0, 0, 0, 0, 0⟩) 122) :: pt b1 (cob [.int .u32 va] 31) :: vwW pv ps pm d fr pg R) _
    exact inferInstance
  · intro i ⟨hi, hal⟩
    refine x_seq (x_region (s_val rfl (v_lss rfl rfl) (x_nil (n_then (x_seq ?_)))))
    refine x_if rfl ?_ ?_
    · intro c5
      refine x_skip (n_then (x_seq (x_block (x_seq ?_))))
      obtain ⟨fv, hfv⟩ : ∃ v, (wkFn b1 b4 b5)[i]? = some v := ⟨(wkFn b1 b4 b5)[i]'(by show i < 3; omega), by simp⟩
      refine x_region ?_
      refine s_val rfl (v_idx Tryz.underlying192 Tryz.sizeOf50 rfl rfl rfl (by omega) (by first | exact Nat.zero_add _ | rfl)) ?_
      refine s_val rfl (v_load Tryz.isAgg50 rfl (cell_own (by rw [Nat.mul_one]; exact hfv))) ?_
      refine s_val rfl (v_assign rfl) (x_nil (n_then (x_seq (x_region (s_val rfl (v_move rfl) ?_)))))
      refine s_do rfl (does_ent inferInstance (wkStep (R := pt b6 (cob (wkFn b1 b4 b5) 50) :: pt b2 (cob (wsV ⟨false, 0, 0, 0, 0, 0⟩) 122) :: R) (bva := b1) (bwp := b4) (bat := b5) (bw := b3) (pv := pv) (ps := ps) (pm := pm) (d := d) h hF (by omega) hal hfv rfl)) ?_
      rintro _ B_ ⟨rfl, hB_⟩
      obtain rfl := hB_.symm
      refine s_val rfl (v_not rfl) (x_nil (n_then ?_))
      refine x_if rfl ?_ ?_
      · intro c7
        have hst : wkOk fr pg root va i = false := by simpa using c7
        have hres := wkR_stop (by omega) hal hst
        refine x_exit (e_block_ne rfl (e_then (e_then (e_block (n_then (x_seq (x_region (s_val rfl (v_load Tryz.isAgg187 rfl (cell_own rfl)) ?_))))))))
        refine s_val rfl (v_nilCheck rfl) ?_
        refine s_val rfl (v_fieldAddr rfl Tryz.underlying189 rfl Tryz.sizeOf122 rfl (by first | exact Nat.zero_add _ | rfl)) ?_
        refine s_val rfl (v_loadPart Tryz.isAgg122 Tryz.sizeOf122 rfl TakeL.eq rfl) ?_
        refine s_do0 (d_storeAll Tryz.sizeOf122 rfl rfl rfl rfl rfl) ?_
        rintro _ _ rfl
        refine x_nil (n_then (x_ret (r_scope (x_done (.inl rfl) (.cons (r_all Tryz.isAgg122 Tryz.sizeOf122 rfl rfl) .nil) ?_))))
        rw [hres]
        exact ⟨_, ⟨rfl, rfl⟩, inferInstance⟩
      · intro c7
        have hst : wkOk fr pg root va i = true := Decidable.not_not.1 c7
        refine x_skip (n_block (n_then (x_region ?_)))
        refine s_val rfl (v_add rfl rfl (by first | exact w64 (by omega) | rfl)) ?_
        refine s_val rfl (v_move rfl) (x_nil (n_then ?_))
        refine inv_intro (i + 1) ?_ ?_ ?_ ?_
        · exact ⟨by omega, fun m hm => by
            rcases Nat.lt_or_ge m i with q | q
            · exact hal m q
            · rw [show m = i by omega]; exact hst⟩
        · omega
        · repeat (first | exact sub_nil | refine sub_cons rfl ?_)
        · exact inferInstance
    · intro c5
      obtain rfl : i = 3 := by omega
      have hres := wkR_end hal
      refine x_exit (e_then (e_then (e_block (n_then (x_seq (x_region (s_val rfl (v_load Tryz.isAgg187 rfl (cell_own rfl)) ?_)))))))
      refine s_val rfl (v_nilCheck rfl) ?_
      refine s_val rfl (v_fieldAddr rfl Tryz.underlying189 rfl Tryz.sizeOf122 rfl (by first | exact Nat.zero_add _ | rfl)) ?_
      refine s_val rfl (v_loadPart Tryz.isAgg122 Tryz.sizeOf122 rfl TakeL.eq rfl) ?_
      refine s_do0 (d_storeAll Tryz.sizeOf122 rfl rfl rfl rfl rfl) ?_
      rintro _ _ rfl
      refine x_nil (n_then (x_ret (r_scope (x_done (.inl rfl) (.cons (r_all Tryz.isAgg122 Tryz.sizeOf122 rfl rfl) .nil) ?_))))
      rw [hres]
      exact ⟨_, ⟨rfl, rfl⟩, inferInstance⟩
theorem rwWalk_spec (W0 : World) (R : List HP) (qv qs qm d : Nat) (fr : List Frm) (pg : List Pl) (h : Pgs pg) (hF : Frs fr) (root : Int) (va : Nat) (hva : va < 4294967296) :
    Spec Tryz.prog W0 47 [.pointer (some ⟨qv, 0, none⟩), .int .i64 root, .int .u32 va] (rvwW qv qs qm d fr pg R)
      (fun v B => v = .agg (wsV (wkR fr pg root va)).toArray ∧ B = rvwW qv qs qm d fr pg R) := by
  refine spec_body Tryz.func47 Tryz.ntmps47 rfl rfl ?_
  refine x_seq (x_region (s_do rfl (d_allocA Tryz.zeroValue122) ?_))
  rintro _ _ ⟨b1, rfl, rfl⟩
  refine x_nil (n_then (x_seq (x_region (s_val rfl (v_build Tryz.underlying122 Tryz.zeroValue122 (sized_cons Tryz.sizeOf120 (sized_cons Tryz.sizeOf3 (sized_cons Tryz.sizeOf3 (sized_cons Tryz.sizeOf3 sized_nil)))) (fil_scal rfl Tryz.sizeOf3 rfl rfl (Nat.le_of_ble_eq_true rfl) SetL.eq (fil_scal rfl Tryz.sizeOf3 rfl rfl (Nat.le_of_ble_eq_true rfl) SetL.eq fil_nil))) ?_))))
  refine s_do rfl (d_allocA Tryz.zeroValue122) ?_
  rintro _ _ ⟨b2, rfl, rfl⟩
  refine s_do0 (d_storeAll Tryz.sizeOf122 rfl rfl rfl rfl rfl) ?_
  rintro _ _ rfl
  refine x_nil (n_then (x_seq (x_seq (x_region (s_val rfl (v_move rfl) (s_val rfl (v_geq rfl rfl) (x_nil (n_then ?_))))))))
  refine x_if rfl ?_ ?_
  · intro c2
    refine x_seq (x_region ?_)
    refine s_val rfl (v_fieldAddr rfl Tryz.underlying122 rfl Tryz.sizeOf3 rfl (by first | exact Nat.zero_add _ | rfl)) ?_
    refine s_do0 (d_store Tryz.sizeOf3 rfl rfl rfl (Nat.le_of_ble_eq_true rfl) SetL.eq) ?_
    rintro _ _ rfl
    refine x_nil (n_then (x_seq (x_region (s_val rfl (v_loadAll Tryz.isAgg122 Tryz.sizeOf122 rfl rfl) ?_))))
    refine s_do0 (d_storeAll Tryz.sizeOf122 rfl rfl rfl rfl rfl) ?_
    rintro _ _ rfl
    refine x_nil (n_then (x_ret (r_then (x_done (.inl rfl) (.cons (r_all Tryz.isAgg122 Tryz.sizeOf122 rfl rfl) .nil) ?_))))
    refine ⟨_, ⟨?_, rfl⟩, inferInstance⟩
    have e : wkR fr pg root va = { ws0 with fault := 2 } := by rw [wkR, if_neg (by omega)]; simp only [wkQ]; rw [if_neg (by omega)]
    rw [e]; rfl
  · intro c2
    refine x_skip (n_then (x_seq (x_region (s_val rfl (v_move rfl) (s_val rfl (v_move rfl) (s_val rfl (v_move rfl) ?_))))))
    refine s_val rfl (v_quo rfl rfl (by decide) ((congrArg (IntKind.wrap .u32) (tdivN va 1024)).trans (w32u (by omega)))) ?_
    refine s_do rfl (d_call3 Tryz.call84 rfl (rwTable_spec W0 _ qv qs qm d fr pg h hF root (va / 1024) (by omega))) ?_
    rintro _ B_ ⟨rfl, hB_⟩
    obtain rfl := hB_.symm
    refine s_val rfl (v_move rfl) (s_val rfl (v_extract rfl rfl) (s_val rfl (v_extract rfl rfl) (s_val rfl (v_assign rfl) (s_val rfl (v_assign rfl) (x_nil (n_then (x_seq (x_seq (x_region (s_val rfl (v_move rfl) (s_val rfl (v_not rfl) (x_nil (n_then ?_)))))))))))))
    refine x_if rfl ?_ ?_
    · intro c6
      have hb : tblB fr.length pg root (va / 1024) = false := by simpa using c6
      refine x_seq (x_region ?_)
      refine s_val rfl (v_fieldAddr rfl Tryz.underlying122 rfl Tryz.sizeOf3 rfl (by first | exact Nat.zero_add _ | rfl)) ?_
      refine s_do0 (d_store Tryz.sizeOf3 rfl rfl rfl (Nat.le_of_ble_eq_true rfl) SetL.eq) ?_
      rintro _ _ rfl
      refine x_nil (n_then (x_seq (x_region (s_val rfl (v_loadAll Tryz.isAgg122 Tryz.sizeOf122 rfl rfl) ?_))))
      refine s_do0 (d_storeAll Tryz.sizeOf122 rfl rfl rfl rfl rfl) ?_
      rintro _ _ rfl
      refine x_nil (n_then (x_ret (r_then (x_done (.inl rfl) (.cons (r_all Tryz.isAgg122 Tryz.sizeOf122 rfl rfl) .nil) ?_))))
      refine ⟨_, ⟨?_, rfl⟩, inferInstance⟩
      have e : wkR fr pg root va = { ws0 with fault := 3 } := by
        rw [wkR, if_pos (by omega), if_neg (by rw [rtB, hb]; simp)]; simp only [wkQ, rtS]; rw [if_neg (by rw [hb]; decide)]
      rw [e]; rfl
    · intro c6
      have hb : tblB fr.length pg root (va / 1024) = true := Decidable.not_not.1 c6
      refine x_skip (n_then (x_seq (x_region (s_val rfl (v_move rfl) ?_))))
      refine s_val rfl (v_fieldAddr rfl Tryz.underlying122 rfl Tryz.sizeOf3 rfl (by first | exact Nat.zero_add _ | rfl)) ?_
      refine s_do0 (d_store Tryz.sizeOf3 rfl rfl rfl (Nat.le_of_ble_eq_true rfl) SetL.eq) ?_
      rintro _ _ rfl
      refine x_nil (n_then (x_seq (x_region (s_val rfl (v_move rfl) (s_do rfl (d_call Tryz.call85 rfl (refTable_spec W0 _ (tblW fr pg root (va / 1024)) (tblW_lt hF _ _ _))) ?_)))))
      rintro _ B_ ⟨rfl, hB_⟩
      obtain rfl := hB_.symm
      refine s_val rfl (v_move rfl) (s_val rfl (v_extract rfl rfl) (s_val rfl (v_extract rfl rfl) (s_val rfl (v_assign rfl) (s_val rfl (v_assign rfl) (x_nil (n_then (x_seq (x_seq (x_region (s_val rfl (v_move rfl) (s_val rfl (v_neq rfl rfl) (x_nil (n_then ?_)))))))))))))
      refine x_if rfl ?_ ?_
      · intro c11
        refine x_seq (x_region (s_val rfl (v_move rfl) ?_))
        refine s_val rfl (v_fieldAddr rfl Tryz.underlying122 rfl Tryz.sizeOf3 rfl (by first | exact Nat.zero_add _ | rfl)) ?_
        refine s_do0 (d_store Tryz.sizeOf3 rfl rfl rfl (Nat.le_of_ble_eq_true rfl) SetL.eq) ?_
        rintro _ _ rfl
        refine x_nil (n_then (x_seq (x_region (s_val rfl (v_loadAll Tryz.isAgg122 Tryz.sizeOf122 rfl rfl) ?_))))
        refine s_do0 (d_storeAll Tryz.sizeOf122 rfl rfl rfl rfl rfl) ?_
        rintro _ _ rfl
        refine x_nil (n_then (x_ret (r_then (x_done (.inl rfl) (.cons (r_all Tryz.isAgg122 Tryz.sizeOf122 rfl rfl) .nil) ?_))))
        refine ⟨_, ⟨?_, rfl⟩, inferInstance⟩
        have e : wkR fr pg root va = { ws0 with root := root, fault := tabF (tblW fr pg root (va / 1024)) } := by
          rw [wkR, if_pos (by omega), if_neg (by rw [rtB, hb, Bool.true_and, decide_eq_true_iff]; exact c11)]; simp only [wkQ, rtS]; rw [if_pos hb]
        rw [e]; rfl
      · intro c11
        have hz : tabF (tblW fr pg root (va / 1024)) = 0 := Decidable.not_not.1 c11
        have hrb : rtB fr pg va root = true := by rw [rtB, hb, Bool.true_and, decide_eq_true_iff]; exact hz
        have hra : rtA fr pg va root = tabP (tblW fr pg root (va / 1024)) := by rw [rtA, if_pos hb]
        have hidx : ∀ t, tblB fr.length pg t (va / 64 % 16) = tblB fr.length pg t (va / 64) := fun t => by simp only [tblB, tblPa, Nat.mod_mod]
        have hidw : ∀ t, tblW fr pg t (va / 64 % 16) = tblW fr pg t (va / 64) := fun t => by simp only [tblW, hidx t, tblPa, Nat.mod_mod]
        refine x_skip (n_then (x_seq (x_region (s_val rfl (v_move rfl) (s_val rfl (v_move rfl) (s_val rfl (v_move rfl) ?_))))))
        refine s_val rfl (v_quo rfl rfl (by decide) ((congrArg (IntKind.wrap .u32) (tdivN va 64)).trans (w32u (by omega)))) ?_
        refine s_val rfl (v_rem rfl rfl (by decide) (tmodN (va / 64) 16)) ?_
        refine s_do rfl (d_call3 Tryz.call84 rfl (rwTable_spec W0 _ qv qs qm d fr pg h hF (tabP (tblW fr pg root (va / 1024))) (va / 64 % 16) (by omega))) ?_
        rintro _ B_ ⟨rfl, hB_⟩
        obtain rfl := hB_.symm
        rw [hidx, hidw, ← hra]
        refine s_val rfl (v_move rfl) (s_val rfl (v_extract rfl rfl) (s_val rfl (v_extract rfl rfl) (s_val rfl (v_assign rfl) (s_val rfl (v_assign rfl) (x_nil (n_then (x_seq (x_seq (x_region (s_val rfl (v_move rfl) (s_val rfl (v_not rfl) (x_nil (n_then ?_)))))))))))))
        refine x_if rfl ?_ ?_
        · intro c15
          have hl : tblB fr.length pg (rtA fr pg va root) (va / 64) = false := by simpa using c15
          refine x_seq (x_region ?_)
          refine s_val rfl (v_fieldAddr rfl Tryz.underlying122 rfl Tryz.sizeOf3 rfl (by first | exact Nat.zero_add _ | rfl)) ?_
          refine s_do0 (d_store Tryz.sizeOf3 rfl rfl rfl (Nat.le_of_ble_eq_true rfl) SetL.eq) ?_
          rintro _ _ rfl
          refine x_nil (n_then (x_seq (x_region (s_val rfl (v_loadAll Tryz.isAgg122 Tryz.sizeOf122 rfl rfl) ?_))))
          refine s_do0 (d_storeAll Tryz.sizeOf122 rfl rfl rfl rfl rfl) ?_
          rintro _ _ rfl
          refine x_nil (n_then (x_ret (r_then (x_done (.inl rfl) (.cons (r_all Tryz.isAgg122 Tryz.sizeOf122 rfl rfl) .nil) ?_))))
          refine ⟨_, ⟨?_, rfl⟩, inferInstance⟩
          have e : wkR fr pg root va = { ws0 with root := root, fault := 3 } := by
            rw [wkR, if_pos (by omega), if_pos hrb]; simp only [wkQ, lfS]; rw [if_neg (by rw [hl]; decide), rtS, if_pos hb]
          rw [e]; rfl
        · intro c15
          have hl : tblB fr.length pg (rtA fr pg va root) (va / 64) = true := Decidable.not_not.1 c15
          refine x_skip (n_then (x_seq (x_region (s_val rfl (v_move rfl) ?_))))
          refine s_val rfl (v_fieldAddr rfl Tryz.underlying122 rfl Tryz.sizeOf3 rfl (by first | exact Nat.zero_add _ | rfl)) ?_
          refine s_do0 (d_store Tryz.sizeOf3 rfl rfl rfl (Nat.le_of_ble_eq_true rfl) SetL.eq) ?_
          rintro _ _ rfl
          refine x_nil (n_then (x_seq (x_region (s_val rfl (v_move rfl) (s_do rfl (d_call Tryz.call86 rfl (refLeaf_spec W0 _ (tblW fr pg (rtA fr pg va root) (va / 64)) (tblW_lt hF _ _ _))) ?_)))))
          rintro _ B_ ⟨rfl, hB_⟩
          obtain rfl := hB_.symm
          rw [leafV]
          refine s_val rfl (v_move rfl) (s_val rfl (v_extract rfl rfl) (s_val rfl (v_extract rfl rfl) (s_do rfl (d_allocA Tryz.zeroValue120) ?_)))
          rintro _ _ ⟨b3, rfl, rfl⟩
          refine s_do0 (d_storeAll Tryz.sizeOf120 rfl rfl rfl rfl rfl) ?_
          rintro _ _ rfl
          refine s_val rfl (v_assign rfl) (x_nil (n_then (x_seq (x_region (s_val rfl (v_loadAll Tryz.isAgg120 Tryz.sizeOf120 rfl rfl) ?_)))))
          refine s_val rfl (v_fieldAddr rfl Tryz.underlying122 rfl Tryz.sizeOf120 rfl (by first | exact Nat.zero_add _ | rfl)) ?_
          refine s_do0 (d_storeAgg Tryz.sizeOf120 rfl rfl rfl rfl (Nat.le_of_ble_eq_true rfl) SetRL.eq) ?_
          rintro _ _ rfl
          refine x_nil (n_then (x_seq (x_region (s_val rfl (v_move rfl) ?_))))
          refine s_val rfl (v_fieldAddr rfl Tryz.underlying122 rfl Tryz.sizeOf3 rfl (by first | exact Nat.zero_add _ | rfl)) ?_
          refine s_do0 (d_store Tryz.sizeOf3 rfl rfl rfl (Nat.le_of_ble_eq_true rfl) SetL.eq) ?_
          rintro _ _ rfl
          refine x_nil (n_then (x_seq (x_region (s_val rfl (v_loadAll Tryz.isAgg122 Tryz.sizeOf122 rfl rfl) ?_))))
          refine s_do0 (d_storeAll Tryz.sizeOf122 rfl rfl rfl rfl rfl) ?_
          rintro _ _ rfl
          refine x_nil (n_then (x_ret (x_done (.inl rfl) (.cons (r_all Tryz.isAgg122 Tryz.sizeOf122 rfl rfl) .nil) ?_)))
          refine ⟨_, ⟨?_, rfl⟩, inferInstance⟩
          have e : wkR fr pg root va = { ws0 with root := root, leaf := rtA fr pg va root, on := lfOn (tblW fr pg (rtA fr pg va root) (va / 64)), r := lfR (tblW fr pg (rtA fr pg va root) (va / 64)), p := lfP (tblW fr pg (rtA fr pg va root) (va / 64)), fault := leafF (tblW fr pg (rtA fr pg va root) (va / 64)) } := by
            rw [wkR, if_pos (by omega), if_pos hrb]; simp only [wkQ, lfS]; rw [if_pos hl, rtS, if_pos hb]
          rw [e]; rfl
end Go.Proofs.YtllkdnadmmjehaaGreatDoor
namespace Go.Proofs.YtllkdnadmmjehaaGreatDoor
open Go.RowKit
set_option linter.unusedSimpArgs false
set_option linter.unusedVariables false
set_option maxRecDepth 20000
abbrev prH (pv ps pm qv qs qm d : Nat) (fr : List Frm) (pg : List Pl) (R : List HP) : List HP :=
  pt pv (viO ps pm d) :: stoH ps fr :: pt pm (gmO pg) :: pt qv (rvO qs qm d) :: rstoH qs fr :: pt qm (rgO pg) :: R
def fndP (n : Nat) (pg : List Pl) (pa : Nat) (w kind : Int) : Int := if fndE n pg pa w kind = 0 then ((pa / 64 : Nat) : Int) else 0
def fndF (n : Nat) (pg : List Pl) (pa : Nat) (w kind : Int) : Int := if fndE n pg pa w kind = 0 then (gGot pg ((pa / 64 : Nat) : Int)).1 else 0
def fndO (n : Nat) (pg : List Pl) (pa : Nat) (w kind : Int) : Int := if fndE n pg pa w kind = 0 then ((pa % 64 : Nat) : Int) else 0
theorem fndV_eq {n : Nat} {pg : List Pl} {pa : Nat} {w kind : Int} : fndV n pg pa w kind = [.int .i64 (fndP n pg pa w kind), .int .i64 (fndF n pg pa w kind), .int .i64 (fndO n pg pa w kind), .bool false] := by
  unfold fndV fndP fndF fndO; split <;> rfl
theorem vsvF_ok {fr : List Frm} {pg : List Pl} {pa : Nat} {w : Int} {x : Nat} (h : Frs fr) : Frs (vsvF fr pg pa w x) ∧ (vsvF fr pg pa w x).length = fr.length := by
  unfold vsvF; split
  · exact ⟨svF_ok h, svF_len⟩
  · exact ⟨h, rfl⟩
theorem vsvD_lt {fr : List Frm} {pg : List Pl} {pa d : Nat} {w : Int} (h : d < 4096) : vsvD fr pg pa w d < 4096 := by
  unfold vsvD; split
  · rename_i hs; exact Nat.or_lt_two_pow (n := 12) h (page_lt (by have := (fnd_ok hs).1; omega))
  · exact h
end Go.Proofs.YtllkdnadmmjehaaGreatDoor
namespace Go.Proofs.YtllkdnadmmjehaaGreatDoor
open Go.RowKit
set_option linter.unusedSimpArgs false
set_option linter.unusedVariables false
set_option maxRecDepth 20000
theorem gP_lt (w : Nat) : gP w < 32 := by unfold gP; split <;> omega
theorem lfP_lt (w : Nat) : lfP w < 32 := by unfold lfP; split; decide; exact gP_lt w
theorem rtS_p (fr : List Frm) (pg : List Pl) (va : Nat) (a : Int) : (rtS fr pg va a ws0).p = 0 := by unfold rtS; split <;> rfl
theorem wkR_p (fr : List Frm) (pg : List Pl) (root : Int) (va : Nat) : ∃ k : Nat, (wkR fr pg root va).p = (k : Int) ∧ k < 32 := by
  unfold wkR
  split
  · split
    · simp only [wkQ, lfS]
      split
      · exact ⟨_, rfl, lfP_lt _⟩
      · exact ⟨0, rtS_p _ _ _ _, by decide⟩
    · exact ⟨0, rtS_p _ _ _ _, by decide⟩
  · simp only [wkQ]; split <;> exact ⟨0, rfl, by decide⟩
def alwT (s : WS) (kind : Int) (user : Bool) : Bool := needOk kind && (bitR s.r (needR kind) && (!user || bitR s.r 8)) && s.on
theorem alwT_iff {s : WS} {kind : Int} {user : Bool} : alwT s kind user = true ↔ (needOk kind = true ∧ bitR s.r (needR kind) = true ∧ (¬ user = true ∨ bitR s.r 8 = true)) ∧ s.on = true := by simp [alwT]
def wkPa (s : WS) (va : Nat) : Nat := 64 * s.p.toNat + va % 64
def fnwE (fr : List Frm) (pg : List Pl) (on : Bool) (root : Int) (user : Bool) (va : Nat) (kind : Int) : Int :=
  if on then (if (wkR fr pg root va).fault ≠ 0 then (wkR fr pg root va).fault else if alwT (wkR fr pg root va) kind user then fndE fr.length pg (wkPa (wkR fr pg root va) va) 1 kind else 6) else fndE fr.length pg va 1 kind
def fnwX (g : Nat → List Pl → Nat → Int → Int → Int) (fr : List Frm) (pg : List Pl) (on : Bool) (root : Int) (user : Bool) (va : Nat) (kind : Int) : Int :=
  if on then (if (wkR fr pg root va).fault ≠ 0 then 0 else if alwT (wkR fr pg root va) kind user then g fr.length pg (wkPa (wkR fr pg root va) va) 1 kind else 0) else g fr.length pg va 1 kind
@[reducible] def fnwV (fr : List Frm) (pg : List Pl) (on : Bool) (root : Int) (user : Bool) (va : Nat) (kind : Int) : List Value :=
  [.int .i64 (fnwX fndP fr pg on root user va kind), .int .i64 (fnwX fndF fr pg on root user va kind), .int .i64 (fnwX fndO fr pg on root user va kind), .bool false]
theorem bits6 {w : Nat} (h : w < 4294967296) : bAnd .u32 w 63 = ((w % 64 : Nat) : Int) := by
  have := bAnd_u32 (a := w) (b := 63) h (by decide)
  rw [show w &&& 63 = w % 64 from and_low (n := 6)] at this
  exact this
@[reducible] def moV (on : Bool) (root : Int) (user : Bool) : List Value := [.bool on, .int .i64 root, .bool user]
theorem wkFind_spec (W0 : World) (R : List HP) (pv ps pm d : Nat) (fr : List Frm) (pg : List Pl) (h : Pgs pg) (hF : Frs fr) (on : Bool) (root : Int) (user : Bool) (va : Nat) (hva : va < 4294967296) (kind : Int) :
    Spec Tryz.prog W0 41 [.pointer (some ⟨pv, 0, none⟩), .agg (moV on root user).toArray, .int .u32 va, .int .i64 kind] (vwW pv ps pm d fr pg R)
      (fun v B => v = .tuple #[.agg (fnwV fr pg on root user va kind).toArray, .int .i64 (fnwE fr pg on root user va kind)] ∧ B = vwW pv ps pm d fr pg R) := by
  obtain ⟨s, hs⟩ : ∃ s, wkR fr pg root va = s := ⟨_, rfl⟩
  obtain ⟨k, hk, hk32⟩ := wkR_p fr pg root va
  rw [hs] at hk
  simp only [fnwV, fnwX, fnwE, hs]
  refine spec_body Tryz.func41 Tryz.ntmps41 rfl rfl ?_
  refine x_seq (x_region (s_do rfl (d_boxA rfl) ?_))
  rintro _ _ ⟨b1, rfl, rfl⟩
  refine s_do rfl (d_allocA Tryz.zeroValue54) ?_
  rintro _ _ ⟨b2, rfl, rfl⟩
  refine s_val rfl (v_assign rfl) (x_nil (n_then (x_seq (x_seq (x_region ?_)))))
  refine s_val rfl (v_fieldAddr rfl Tryz.underlying30 rfl Tryz.sizeOf4 rfl (by first | exact Nat.zero_add _ | rfl)) ?_
  refine s_val rfl (v_load Tryz.isAgg4 rfl (cell_own rfl)) ?_
  refine s_val rfl (v_not rfl) (x_nil (n_then ?_))
  refine x_if rfl ?_ ?_
  · intro c1
    refine x_seq (x_region (s_val rfl (v_move rfl) (s_val rfl (v_move rfl) (s_val rfl (v_move rfl) (s_do rfl (d_call3 Tryz.call60 rfl (viFind_spec W0 _ pv ps pm d fr pg h va hva 1 kind)) ?_)))))
    rintro _ B_ ⟨rfl, hB_⟩
    obtain rfl := hB_.symm
    rw [fndV_eq]
    refine s_val rfl (v_extract rfl rfl) (s_val rfl (v_extract rfl rfl) (s_do0 (d_storeAll Tryz.sizeOf54 rfl rfl rfl rfl rfl) ?_))
    rintro _ _ rfl
    refine s_val rfl (v_assign rfl) (x_nil (n_then (x_ret (r_then (x_done (.inl rfl) (.cons (r_all Tryz.isAgg54 Tryz.sizeOf54 rfl rfl) (.cons (r_tmp rfl) .nil)) ?_)))))
    refine ⟨_, ⟨?_, rfl⟩, inferInstance⟩
    have ho : on = false := by simpa using c1
    subst ho; rfl
  · intro c1
    refine x_skip (n_then (x_seq (x_region (s_val rfl (v_move rfl) ?_))))
    refine s_val rfl (v_fieldAddr rfl Tryz.underlying30 rfl Tryz.sizeOf3 rfl (by first | exact Nat.zero_add _ | rfl)) ?_
    refine s_val rfl (v_load Tryz.isAgg3 rfl (cell_own rfl)) ?_
    refine s_val rfl (v_move rfl) (s_do rfl (d_call3 Tryz.call71 rfl (wkWalk_spec W0 _ pv ps pm d fr pg h hF root va hva)) ?_)
    rintro _ B_ ⟨rfl, hB_⟩
    obtain rfl := hB_.symm
    rw [hs]
    have ho : on = true := by simpa using c1
    subst ho
    refine s_do rfl (d_allocA Tryz.zeroValue122) ?_
    rintro _ _ ⟨b3, rfl, rfl⟩
    refine s_do0 (d_storeAll Tryz.sizeOf122 rfl rfl rfl rfl rfl) ?_
    rintro _ _ rfl
    refine x_nil (n_then (x_seq (x_block (x_seq (x_region ?_)))))
    refine s_val rfl (v_fieldAddr rfl Tryz.underlying122 rfl Tryz.sizeOf3 rfl (by first | exact Nat.zero_add _ | rfl)) ?_
    refine s_val rfl (v_load Tryz.isAgg3 rfl (cell_own rfl)) ?_
    refine s_val rfl (v_neq rfl rfl) (s_val rfl (v_assign rfl) (x_nil (n_then ?_)))
    refine x_if rfl ?_ ?_
    · intro c4
      refine x_seq ?_
      refine x_draw [(b3, 0, _)] 5 mixed rfl (sc_own sc_end) (fun hS => ?_)
      refine d_take 0 rfl rfl (by kernel_rfl) (by kernel_rfl) (by kernel_rfl) rfl hS (v_build Tryz.underlying54 Tryz.zeroValue54 (sized_cons Tryz.sizeOf3 (sized_cons Tryz.sizeOf3 (sized_cons Tryz.sizeOf3 (sized_cons Tryz.sizeOf4 sized_nil)))) fil_nil) ?_
      refine d_take 1 rfl rfl (by kernel_rfl) (by kernel_rfl) (by kernel_rfl) rfl hS (v_fieldAddr rfl Tryz.underlying122 rfl Tryz.sizeOf3 rfl (by first | exact Nat.zero_add _ | rfl)) ?_
      refine d_take 2 rfl rfl (by kernel_rfl) (by kernel_rfl) (by kernel_rfl) rfl hS (v_load Tryz.isAgg3 rfl (cell_sc0 (k := 0) rfl rfl)) ?_
      refine d_one 3 (by kernel_rfl) rfl rfl (d_storeAll Tryz.sizeOf54 rfl rfl rfl rfl rfl) rfl ?_; clear hS
      rintro _ _ rfl
      refine ⟨(sc_own sc_end), fun hS => ?_⟩
      refine d_take 4 rfl rfl (by kernel_rfl) (by kernel_rfl) (by kernel_rfl) rfl hS (v_assign rfl) ?_
      refine d_done (by kernel_rfl) ?_; clear hS
      refine n_then (x_ret (r_block (r_then (x_done (.inl rfl) (.cons (r_all Tryz.isAgg54 Tryz.sizeOf54 rfl rfl) (.cons (r_tmp rfl) .nil)) ?_))))
      refine ⟨_, ⟨?_, rfl⟩, inferInstance⟩
      rw [if_pos rfl, if_pos rfl, if_pos rfl, if_pos rfl, if_pos c4, if_pos c4, if_pos c4, if_pos c4]; rfl
    · intro c4
      refine x_seq (x_region ?_)
      refine s_val rfl (v_fieldAddr rfl Tryz.underlying122 rfl Tryz.sizeOf120 rfl (by first | exact Nat.zero_add _ | rfl)) ?_
      refine s_val rfl (v_loadPart Tryz.isAgg120 Tryz.sizeOf120 rfl TakeL.eq rfl) ?_
      refine s_val rfl (v_move rfl) ?_
      refine s_val rfl (v_fieldAddr rfl Tryz.underlying30 rfl Tryz.sizeOf4 rfl (by first | exact Nat.zero_add _ | rfl)) ?_
      refine s_val rfl (v_load Tryz.isAgg4 rfl (cell_own rfl)) ?_
      refine s_do rfl (d_call Tryz.call72 rfl (Allows_spec W0 _ s.on s.r s.p kind user)) ?_
      rintro _ B_ ⟨rfl, hB_⟩
      obtain rfl := hB_.symm
      refine s_val rfl (v_not rfl) (s_val rfl (v_assign rfl) (x_nil (n_then ?_)))
      refine x_if rfl ?_ ?_
      · intro c6
        refine x_seq (x_region (s_val rfl (v_build Tryz.underlying54 Tryz.zeroValue54 (sized_cons Tryz.sizeOf3 (sized_cons Tryz.sizeOf3 (sized_cons Tryz.sizeOf3 (sized_cons Tryz.sizeOf4 sized_nil)))) fil_nil) ?_))
        refine s_do0 (d_storeAll Tryz.sizeOf54 rfl rfl rfl rfl rfl) ?_
        rintro _ _ rfl
        refine s_val rfl (v_assign rfl) (x_nil (n_then (x_ret (r_block (r_then (x_done (.inl rfl) (.cons (r_all Tryz.isAgg54 Tryz.sizeOf54 rfl rfl) (.cons (r_tmp rfl) .nil)) ?_))))))
        refine ⟨_, ⟨?_, rfl⟩, inferInstance⟩
        have ha : ¬ alwT s kind user = true := fun q => c6 (alwT_iff.1 q)
        rw [if_pos rfl, if_pos rfl, if_pos rfl, if_pos rfl, if_neg c4, if_neg c4, if_neg c4, if_neg c4, if_neg ha, if_neg ha, if_neg ha, if_neg ha]; rfl
      · intro c6
        refine x_skip (n_block (n_then (x_seq ?_)))
        have hpa : wkPa s va = 64 * k + va % 64 := by rw [wkPa, hk]; rfl
        rw [show wsV s = [.bool s.on, .int .i64 s.r, .int .i64 (k : Int), .int .i64 s.fault, .int .i64 s.root, .int .i64 s.leaf] by rw [← hk]]
        refine x_region (s_val rfl (v_move rfl) ?_)
        refine s_val rfl (v_fieldAddr rfl Tryz.underlying122 rfl Tryz.sizeOf120 rfl (by first | exact Nat.zero_add _ | rfl)) ?_
        refine s_val rfl (v_fieldAddr rfl Tryz.underlying120 rfl Tryz.sizeOf3 rfl (by first | exact Nat.zero_add _ | rfl)) ?_
        refine s_val rfl (v_load Tryz.isAgg3 rfl (cell_own rfl)) ?_
        refine s_val rfl (v_mul rfl rfl (by rw [w64 (by omega)]; omega : IntKind.wrap .i64 ((k : Int) * 64) = ((64 * k : Nat) : Int))) ?_
        refine s_val rfl (v_conv Tryz.underlying3 Tryz.underlying31 rfl (w32u (by omega))) ?_
        refine s_val rfl (v_move rfl) (s_val rfl (v_and rfl rfl (bits6 hva)) ?_)
        refine s_val rfl (v_add rfl rfl (by rw [w32u (by omega), hpa]; omega : IntKind.wrap .u32 (((64 * k : Nat) : Int) + ((va % 64 : Nat) : Int)) = ((wkPa s va : Nat) : Int))) ?_
        refine s_val rfl (v_move rfl) ?_
        refine s_do rfl (d_call3 Tryz.call60 rfl (viFind_spec W0 _ pv ps pm d fr pg h (wkPa s va) (by omega) 1 kind)) ?_
        rintro _ B_ ⟨rfl, hB_⟩
        obtain rfl := hB_.symm
        rw [fndV_eq]
        refine s_val rfl (v_extract rfl rfl) (s_val rfl (v_extract rfl rfl) (s_do0 (d_storeAll Tryz.sizeOf54 rfl rfl rfl rfl rfl) ?_))
        rintro _ _ rfl
        refine s_val rfl (v_assign rfl) (x_nil (n_then (x_ret (x_done (.inl rfl) (.cons (r_all Tryz.isAgg54 Tryz.sizeOf54 rfl rfl) (.cons (r_tmp rfl) .nil)) ?_))))
        refine ⟨_, ⟨?_, rfl⟩, inferInstance⟩
        have ha : alwT s kind user = true := alwT_iff.2 (Decidable.not_not.1 c6)
        rw [if_pos rfl, if_pos rfl, if_pos rfl, if_pos rfl, if_neg c4, if_neg c4, if_neg c4, if_neg c4, if_pos ha, if_pos ha, if_pos ha, if_pos ha]; rfl
theorem rwFind_spec (W0 : World) (R : List HP) (qv qs qm d : Nat) (fr : List Frm) (pg : List Pl) (h : Pgs pg) (hF : Frs fr) (on : Bool) (root : Int) (user : Bool) (va : Nat) (hva : va < 4294967296) (kind : Int) :
    Spec Tryz.prog W0 14 [.pointer (some ⟨qv, 0, none⟩), .agg (moV on root user).toArray, .int .u32 va, .int .i64 kind] (rvwW qv qs qm d fr pg R)
      (fun v B => v = .tuple #[.agg (fnwV fr pg on root user va kind).toArray, .int .i64 (fnwE fr pg on root user va kind)] ∧ B = rvwW qv qs qm d fr pg R) := by
  obtain ⟨s, hs⟩ : ∃ s, wkR fr pg root va = s := ⟨_, rfl⟩
  obtain ⟨k, hk, hk32⟩ := wkR_p fr pg root va
  rw [hs] at hk
  simp only [fnwV, fnwX, fnwE, hs]
  refine spec_body Tryz.func14 Tryz.ntmps14 rfl rfl ?_
  refine x_seq (x_region (s_do rfl (d_boxA rfl) ?_))
  rintro _ _ ⟨b1, rfl, rfl⟩
  refine s_do rfl (d_allocA Tryz.zeroValue54) ?_
  rintro _ _ ⟨b2, rfl, rfl⟩
  refine s_val rfl (v_assign rfl) (x_nil (n_then (x_seq (x_seq (x_region ?_)))))
  refine s_val rfl (v_fieldAddr rfl Tryz.underlying30 rfl Tryz.sizeOf4 rfl (by first | exact Nat.zero_add _ | rfl)) ?_
  refine s_val rfl (v_load Tryz.isAgg4 rfl (cell_own rfl)) ?_
  refine s_val rfl (v_not rfl) (x_nil (n_then ?_))
  refine x_if rfl ?_ ?_
  · intro c1
    refine x_seq (x_region (s_val rfl (v_move rfl) (s_val rfl (v_move rfl) (s_val rfl (v_move rfl) (s_do rfl (d_call3 Tryz.call46 rfl (rvFind_spec W0 _ qv qs qm d fr pg h va hva 1 kind)) ?_)))))
    rintro _ B_ ⟨rfl, hB_⟩
    obtain rfl := hB_.symm
    rw [fndV_eq]
    refine s_val rfl (v_extract rfl rfl) (s_val rfl (v_extract rfl rfl) (s_do0 (d_storeAll Tryz.sizeOf54 rfl rfl rfl rfl rfl) ?_))
    rintro _ _ rfl
    refine s_val rfl (v_assign rfl) (x_nil (n_then (x_ret (r_then (x_done (.inl rfl) (.cons (r_all Tryz.isAgg54 Tryz.sizeOf54 rfl rfl) (.cons (r_tmp rfl) .nil)) ?_)))))
    refine ⟨_, ⟨?_, rfl⟩, inferInstance⟩
    have ho : on = false := by simpa using c1
    subst ho; rfl
  · intro c1
    refine x_skip (n_then (x_seq (x_region (s_val rfl (v_move rfl) ?_))))
    refine s_val rfl (v_fieldAddr rfl Tryz.underlying30 rfl Tryz.sizeOf3 rfl (by first | exact Nat.zero_add _ | rfl)) ?_
    refine s_val rfl (v_load Tryz.isAgg3 rfl (cell_own rfl)) ?_
    refine s_val rfl (v_move rfl) (s_do rfl (d_call3 Tryz.call47 rfl (rwWalk_spec W0 _ qv qs qm d fr pg h hF root va hva)) ?_)
    rintro _ B_ ⟨rfl, hB_⟩
    obtain rfl := hB_.symm
    rw [hs]
    have ho : on = true := by simpa using c1
    subst ho
    refine s_do rfl (d_allocA Tryz.zeroValue122) ?_
    rintro _ _ ⟨b3, rfl, rfl⟩
    refine s_do0 (d_storeAll Tryz.sizeOf122 rfl rfl rfl rfl rfl) ?_
    rintro _ _ rfl
    refine x_nil (n_then (x_seq (x_seq (x_region ?_))))
    refine s_val rfl (v_fieldAddr rfl Tryz.underlying122 rfl Tryz.sizeOf3 rfl (by first | exact Nat.zero_add _ | rfl)) ?_
    refine s_val rfl (v_load Tryz.isAgg3 rfl (cell_own rfl)) ?_
    refine s_val rfl (v_neq rfl rfl) (x_nil (n_then ?_))
    refine x_if rfl ?_ ?_
    · intro c4
      refine x_seq ?_
      refine x_draw [(b3, 0, _)] 5 mixed rfl (sc_own sc_end) (fun hS => ?_)
      refine d_take 0 rfl rfl (by kernel_rfl) (by kernel_rfl) (by kernel_rfl) rfl hS (v_build Tryz.underlying54 Tryz.zeroValue54 (sized_cons Tryz.sizeOf3 (sized_cons Tryz.sizeOf3 (sized_cons Tryz.sizeOf3 (sized_cons Tryz.sizeOf4 sized_nil)))) fil_nil) ?_
      refine d_take 1 rfl rfl (by kernel_rfl) (by kernel_rfl) (by kernel_rfl) rfl hS (v_fieldAddr rfl Tryz.underlying122 rfl Tryz.sizeOf3 rfl (by first | exact Nat.zero_add _ | rfl)) ?_
      refine d_take 2 rfl rfl (by kernel_rfl) (by kernel_rfl) (by kernel_rfl) rfl hS (v_load Tryz.isAgg3 rfl (cell_sc0 (k := 0) rfl rfl)) ?_
      refine d_one 3 (by kernel_rfl) rfl rfl (d_storeAll Tryz.sizeOf54 rfl rfl rfl rfl rfl) rfl ?_; clear hS
      rintro _ _ rfl
      refine ⟨(sc_own sc_end), fun hS => ?_⟩
      refine d_take 4 rfl rfl (by kernel_rfl) (by kernel_rfl) (by kernel_rfl) rfl hS (v_assign rfl) ?_
      refine d_done (by kernel_rfl) ?_; clear hS
      refine n_then (x_ret (r_then (x_done (.inl rfl) (.cons (r_all Tryz.isAgg54 Tryz.sizeOf54 rfl rfl) (.cons (r_tmp rfl) .nil)) ?_)))
      refine ⟨_, ⟨?_, rfl⟩, inferInstance⟩
      rw [if_pos rfl, if_pos rfl, if_pos rfl, if_pos rfl, if_pos c4, if_pos c4, if_pos c4, if_pos c4]; rfl
    · intro c4
      refine x_skip (n_then (x_seq (x_seq (x_region ?_))))
      refine s_val rfl (v_fieldAddr rfl Tryz.underlying122 rfl Tryz.sizeOf120 rfl (by first | exact Nat.zero_add _ | rfl)) ?_
      refine s_val rfl (v_loadPart Tryz.isAgg120 Tryz.sizeOf120 rfl TakeL.eq rfl) ?_
      refine s_val rfl (v_move rfl) ?_
      refine s_val rfl (v_fieldAddr rfl Tryz.underlying30 rfl Tryz.sizeOf4 rfl (by first | exact Nat.zero_add _ | rfl)) ?_
      refine s_val rfl (v_load Tryz.isAgg4 rfl (cell_own rfl)) ?_
      refine s_do rfl (d_call Tryz.call48 rfl (refAllows_spec W0 _ s.on s.r s.p kind user)) ?_
      rintro _ B_ ⟨rfl, hB_⟩
      obtain rfl := hB_.symm
      refine s_val rfl (v_not rfl) (x_nil (n_then ?_))
      refine x_if rfl ?_ ?_
      · intro c6
        refine x_seq (x_region (s_val rfl (v_build Tryz.underlying54 Tryz.zeroValue54 (sized_cons Tryz.sizeOf3 (sized_cons Tryz.sizeOf3 (sized_cons Tryz.sizeOf3 (sized_cons Tryz.sizeOf4 sized_nil)))) fil_nil) ?_))
        refine s_do0 (d_storeAll Tryz.sizeOf54 rfl rfl rfl rfl rfl) ?_
        rintro _ _ rfl
        refine s_val rfl (v_assign rfl) (x_nil (n_then (x_ret (r_then (x_done (.inl rfl) (.cons (r_all Tryz.isAgg54 Tryz.sizeOf54 rfl rfl) (.cons (r_tmp rfl) .nil)) ?_)))))
        refine ⟨_, ⟨?_, rfl⟩, inferInstance⟩
        have ha : ¬ alwT s kind user = true := fun q => c6 (alwT_iff.1 q)
        rw [if_pos rfl, if_pos rfl, if_pos rfl, if_pos rfl, if_neg c4, if_neg c4, if_neg c4, if_neg c4, if_neg ha, if_neg ha, if_neg ha, if_neg ha]; rfl
      · intro c6
        refine x_skip (n_then (x_seq ?_))
        have hpa : wkPa s va = 64 * k + va % 64 := by rw [wkPa, hk]; rfl
        rw [show wsV s = [.bool s.on, .int .i64 s.r, .int .i64 (k : Int), .int .i64 s.fault, .int .i64 s.root, .int .i64 s.leaf] by rw [← hk]]
        refine x_region (s_val rfl (v_move rfl) ?_)
        refine s_val rfl (v_fieldAddr rfl Tryz.underlying122 rfl Tryz.sizeOf120 rfl (by first | exact Nat.zero_add _ | rfl)) ?_
        refine s_val rfl (v_fieldAddr rfl Tryz.underlying120 rfl Tryz.sizeOf3 rfl (by first | exact Nat.zero_add _ | rfl)) ?_
        refine s_val rfl (v_load Tryz.isAgg3 rfl (cell_own rfl)) ?_
        refine s_val rfl (v_conv Tryz.underlying3 Tryz.underlying31 rfl (w32u (by omega))) ?_
        refine s_val rfl (v_mul rfl rfl (by rw [w32u (by omega)]; omega : IntKind.wrap .u32 ((k : Int) * 64) = ((64 * k : Nat) : Int))) ?_
        refine s_val rfl (v_move rfl) ?_
        refine s_val rfl (v_rem rfl rfl (by decide) (tmodN va 64)) ?_
        refine s_val rfl (v_add rfl rfl (by rw [w32u (by omega), hpa]; omega : IntKind.wrap .u32 (((64 * k : Nat) : Int) + ((va % 64 : Nat) : Int)) = ((wkPa s va : Nat) : Int))) ?_
        refine s_val rfl (v_move rfl) ?_
        refine s_do rfl (d_call3 Tryz.call46 rfl (rvFind_spec W0 _ qv qs qm d fr pg h (wkPa s va) (by omega) 1 kind)) ?_
        rintro _ B_ ⟨rfl, hB_⟩
        obtain rfl := hB_.symm
        rw [fndV_eq]
        refine s_val rfl (v_extract rfl rfl) (s_val rfl (v_extract rfl rfl) (s_do0 (d_storeAll Tryz.sizeOf54 rfl rfl rfl rfl rfl) ?_))
        rintro _ _ rfl
        refine s_val rfl (v_assign rfl) (x_nil (n_then (x_ret (x_done (.inl rfl) (.cons (r_all Tryz.isAgg54 Tryz.sizeOf54 rfl rfl) (.cons (r_tmp rfl) .nil)) ?_))))
        refine ⟨_, ⟨?_, rfl⟩, inferInstance⟩
        have ha : alwT s kind user = true := alwT_iff.2 (Decidable.not_not.1 c6)
        rw [if_pos rfl, if_pos rfl, if_pos rfl, if_pos rfl, if_neg c4, if_neg c4, if_neg c4, if_neg c4, if_pos ha, if_pos ha, if_pos ha, if_pos ha]; rfl
end Go.Proofs.YtllkdnadmmjehaaGreatDoor
namespace Go.Proofs.YtllkdnadmmjehaaGreatDoor
open Go.RowKit
set_option linter.unusedSimpArgs false
set_option linter.unusedVariables false
set_option maxRecDepth 20000
def pg17 (gone : Nat) : Nat → List Pl
  | 0 => List.replicate 12 (0, 0)
  | i + 1 => if gone / 2 ^ i % 2 = 0 then setP (pg17 gone i) i (((11 - i : Nat) : Int), ((3 - 2 * (i / 9) : Nat) : Int)) else pg17 gone i
theorem pgz17 : Pgs (List.replicate 12 (0, 0)) := ⟨rfl, fun n hn hne => absurd (by
  unfold plAt; rw [List.getD_eq_getElem?_getD, List.getElem?_replicate]; split <;> rfl) hne⟩
theorem pg17_ok (gone : Nat) : ∀ i, Pgs (pg17 gone i)
  | 0 => pgz17
  | i + 1 => by
    rw [pg17]; split
    · exact setP_ok (pg17_ok gone i)
    · exact pg17_ok gone i
abbrev Pt17 := Nat × Nat
@[reducible] def pt17V (t : Pt17) : List Value := [.int .u32 t.1, .int .u32 t.2]
def Pt17Ok (t : Pt17) : Prop := t.1 < 4294967296 ∧ t.2 < 4294967296
def mkS (pg : List Pl) (ts : List Pt17) : Nat → List Frm × Nat
  | 0 => (List.replicate 12 zeros, 0)
  | i + 1 => (vsvF (mkS pg ts i).1 pg (ts.getD i (0, 0)).1 4 (ts.getD i (0, 0)).2, vsvD (mkS pg ts i).1 pg (ts.getD i (0, 0)).1 4 (mkS pg ts i).2)
theorem mkS_ok (pg : List Pl) (ts : List Pt17) : ∀ i, Frs (mkS pg ts i).1 ∧ (mkS pg ts i).1.length = 12 ∧ (mkS pg ts i).2 < 4096
  | 0 => ⟨Frs.new 12, by simp [mkS], by simp [mkS]⟩
  | i + 1 => by
    obtain ⟨h1, h2, h3⟩ := mkS_ok pg ts i
    exact ⟨(vsvF_ok h1).1, (vsvF_ok h1).2.trans h2, vsvD_lt h3⟩
def awTs : List Pt17 := [(64, 513), (128, 771)]
theorem awTs_ok : ∀ t ∈ awTs, Pt17Ok t := fun d hd => by
  simp only [awTs, List.mem_cons, List.not_mem_nil, or_false] at hd
  rcases hd with rfl | rfl <;> exact ⟨by decide, by decide⟩
end Go.Proofs.YtllkdnadmmjehaaGreatDoor
namespace Go.Proofs.YtllkdnadmmjehaaGreatDoor
open Go.RowKit
set_option linter.unusedSimpArgs false
set_option linter.unusedVariables false
set_option maxRecDepth 20000
@[reducible] def u4V (x : Nat) : List Value := [.int .u32 x]
end Go.Proofs.YtllkdnadmmjehaaGreatDoor
namespace Go.Proofs.YtllkdnadmmjehaaGreatDoor
open Go.ChangeShapes Go.WideShapes Go.ChangeAt Go.RowKit
set_option linter.unusedSimpArgs false
set_option linter.unusedVariables false
variable {W : World} {v : Value}
theorem list3w {l : List Value} (h : l.length = 3) : ∃ a b c, l = [a, b, c] := by
  match l, h with
  | [a, b, c], _ => exact ⟨a, b, c, rfl⟩
theorem inT_u32w {fuel : Nat} {l : List Value} (h : InT Tryz.prog W fuel 31 l) : ∃ x : Nat, l = u4V x ∧ x < 4294967296 := by
  obtain ⟨n, rfl, hw⟩ := inT_int Tryz.underlying31 h
  obtain ⟨w, rfl, h'⟩ := wf_u32 hw
  exact ⟨w, rfl, h'⟩
theorem inT_mode {fuel : Nat} {l : List Value} (h : InT Tryz.prog W fuel 30 l) : ∃ on r u, l = moV on r u := by
  obtain ⟨hl, f', hf⟩ := inT_struct Tryz.underlying30 h
  obtain ⟨a, b, c, rfl⟩ := list3w (hl.trans (by kernel_rfl))
  have h0 := hf _ (List.mem_cons_self ..)
  have h1 := hf _ (List.mem_cons_of_mem _ (List.mem_cons_self ..))
  have h2 := hf _ (List.mem_cons_of_mem _ (List.mem_cons_of_mem _ (List.mem_cons_self ..)))
  rw [show Tryz.prog.cellsOf 4 = 1 by kernel_rfl] at h0 h2
  rw [show Tryz.prog.cellsOf 3 = 1 by kernel_rfl] at h1
  obtain ⟨x0, e0⟩ := inT_bool Tryz.underlying4 h0
  obtain ⟨x1, e1, _⟩ := inT_int Tryz.underlying3 h1
  obtain ⟨x2, e2⟩ := inT_bool Tryz.underlying4 h2
  simp at e0 e1 e2
  exact ⟨x0, x1, x2, by rw [e0, e1, e2]⟩
end Go.Proofs.YtllkdnadmmjehaaGreatDoor
namespace Go.Proofs.YtllkdnadmmjehaaGreatDoor
set_option linter.unusedSimpArgs false
set_option linter.unusedVariables false
structure It where
  kr : Int
  kp : Int
  ep : Int
  ef : Int
  er : Int
  u : Int
deriving DecidableEq
instance : Inhabited It := ⟨⟨0, 0, 0, 0, 0, 0⟩⟩
def It.key (x : It) : Int × Int := (x.kr, x.kp)
def It.ent (x : It) : Int × Int × Int := (x.ep, x.ef, x.er)
def itemV (x : It) : List Value := [.int .i64 x.kr, .int .i64 x.kp, .int .i64 x.ep, .int .i64 x.ef, .int .i64 x.er, .int .i64 x.u]
theorem itemV_len (x : It) : (itemV x).length = 6 := rfl
def us (l : List It) (i : Nat) : Int := (l.getD i default).u
theorem us_eq {l : List It} {i : Nat} (h : i < l.length) : us l i = l[i].u := by simp [us, List.getD, h]
def swapL (l : List It) (i j : Nat) : List It := (l.set i (l.getD j default)).set j (l.getD i default)
theorem swapL_length (l : List It) (i j : Nat) : (swapL l i j).length = l.length := by simp [swapL]
theorem getD_swapL {l : List It} {i j : Nat} (hi : i < l.length) (hj : j < l.length) (x : Nat) : (swapL l i j).getD x default = if x = i then l.getD j default else if x = j then l.getD i default else l.getD x default := by
  simp only [swapL, List.getD_eq_getElem?_getD, List.getElem?_set, List.length_set]
  by_cases h1 : x = j
  · subst h1
    by_cases h2 : x = i
    · subst h2; simp [hj]
    · simp [hj, h2]
  · have h1' : ¬ j = x := fun h => h1 h.symm
    by_cases h2 : x = i
    · subst h2; simp [h1', hi]
    · have h2' : ¬ i = x := fun h => h2 h.symm
      simp [h1, h1', h2, h2']
theorem us_swapL {l : List It} {i j : Nat} (hi : i < l.length) (hj : j < l.length) (x : Nat) : us (swapL l i j) x = if x = i then us l j else if x = j then us l i else us l x := by
  unfold us; rw [getD_swapL hi hj]; split
  · rfl
  · split <;> rfl
theorem swap_perm {α : Type} : ∀ (l : List α) (i j : Nat) (hi : i < l.length) (hj : j < l.length), ((l.set i l[j]).set j l[i]).Perm l := by
  intro l i j hi hj
  have : ((l.set i l[j]).set j l[i]).Perm l := List.set_set_perm hi hj
  exact this
theorem swapL_perm {l : List It} {i j : Nat} (hi : i < l.length) (hj : j < l.length) : (swapL l i j).Perm l := by
  have := swap_perm l i j hi hj
  simpa [swapL, List.getD, hi, hj] using this
def Heap (l : List It) (n : Nat) : Prop := ∀ c, c < n → 0 < c → us l ((c - 1) / 2) ≤ us l c
def Hole (l : List It) (i n : Nat) : Prop := ∀ c, c < n → 0 < c → (c ≠ i → (c - 1) / 2 ≠ i → us l ((c - 1) / 2) ≤ us l c) ∧ ((c - 1) / 2 = i → 0 < i → us l ((i - 1) / 2) ≤ us l c)
def Up (l : List It) (j n : Nat) : Prop := ∀ c, c < n → 0 < c → (c ≠ j → us l ((c - 1) / 2) ≤ us l c) ∧ ((c - 1) / 2 = j → 0 < j → us l ((j - 1) / 2) ≤ us l c)
theorem hole_swap {l : List It} {i j n : Nat} (h : Hole l i n) (hn : n ≤ l.length) (hj : j < n) (hc : (j - 1) / 2 = i) (h0 : 0 < j) (hlt : us l j < us l i)
    (hmin : ∀ c, c < n → 0 < c → (c - 1) / 2 = i → us l j ≤ us l c) : Hole (swapL l i j) j n ∧ us (swapL l i j) ((j - 1) / 2) ≤ us (swapL l i j) j := by
  have hij : i < j := by omega
  have sw := us_swapL (l := l) (i := i) (j := j) (by omega) (by omega)
  refine ⟨fun c hcn hc0 => ⟨fun h1 h2 => ?_, fun h1 h2 => ?_⟩, ?_⟩
  · rw [sw, sw]
    by_cases e1 : c = i
    · subst e1
      have := (h j hj h0).2 hc (by omega)
      rw [if_neg (by omega), if_neg (by omega), if_pos rfl]; exact this
    · by_cases e2 : (c - 1) / 2 = i
      · rw [if_pos e2, if_neg e1, if_neg h1]; exact hmin c hcn hc0 e2
      · rw [if_neg e2, if_neg h2, if_neg e1, if_neg h1]; exact (h c hcn hc0).1 e1 e2
  · rw [hc, sw, sw, if_pos rfl, if_neg (by omega), if_neg (by omega)]
    rw [← h1]; exact (h c hcn hc0).1 (by omega) (by omega)
  · rw [hc, sw, sw, if_pos rfl, if_neg (by omega), if_pos rfl]; omega
theorem hole_heap {l : List It} {i n : Nat} (h : Hole l i n) (hmin : ∀ c, c < n → 0 < c → (c - 1) / 2 = i → us l i ≤ us l c) (hp : 0 < i → us l ((i - 1) / 2) ≤ us l i) : Heap l n := fun c hc h0 => by
  by_cases e1 : (c - 1) / 2 = i
  · rw [e1]; exact hmin c hc h0 e1
  · by_cases e2 : c = i
    · subst e2; exact hp h0
    · exact (h c hc h0).1 e2 e1
theorem hole_up {l : List It} {i n : Nat} (h : Hole l i n) (hmin : ∀ c, c < n → 0 < c → (c - 1) / 2 = i → us l i ≤ us l c) : Up l i n := fun c hc h0 => ⟨fun e => by
  by_cases e1 : (c - 1) / 2 = i
  · rw [e1]; exact hmin c hc h0 e1
  · exact (h c hc h0).1 e e1, (h c hc h0).2⟩
theorem up_swap {l : List It} {j n : Nat} (h : Up l j n) (hn : n ≤ l.length) (hj : j < n) (h0 : 0 < j) (hlt : us l j < us l ((j - 1) / 2)) : Up (swapL l ((j - 1) / 2) j) ((j - 1) / 2) n := by
  have sw := us_swapL (l := l) (i := (j - 1) / 2) (j := j) (by omega) (by omega)
  intro c hc hc0
  refine ⟨fun h1 => ?_, fun h1 h2 => ?_⟩
  · rw [sw, sw]
    by_cases e1 : c = j
    · subst e1; rw [if_pos rfl, if_neg (by omega), if_pos rfl]; omega
    · by_cases e2 : (c - 1) / 2 = (j - 1) / 2
      · rw [if_pos e2, if_neg (by omega), if_neg e1]
        have := (h c hc hc0).1 e1; rw [e2] at this; omega
      · by_cases e3 : (c - 1) / 2 = j
        · rw [if_neg e2, if_pos e3, if_neg h1, if_neg e1]; exact (h c hc hc0).2 e3 h0
        · rw [if_neg e2, if_neg e3, if_neg h1, if_neg e1]; exact (h c hc hc0).1 e1
  · rw [sw, sw, if_neg (by omega), if_neg (by omega)]
    have hp := (h ((j - 1) / 2) (by omega) h2).1 (by omega)
    by_cases e1 : c = j
    · subst e1; rw [if_neg (by omega), if_pos rfl]; exact hp
    · rw [if_neg (by omega), if_neg e1]
      have := (h c hc hc0).1 e1; rw [h1] at this; omega
theorem up_heap {l : List It} {j n : Nat} (h : Up l j n) (hp : 0 < j → us l ((j - 1) / 2) ≤ us l j) : Heap l n := fun c hc h0 => by
  by_cases e : c = j
  · subst e; exact hp h0
  · exact (h c hc h0).1 e
theorem heap_min {l : List It} {n : Nat} (h : Heap l n) : ∀ c, c < n → us l 0 ≤ us l c := by
  intro c
  induction c using Nat.strongRecOn with
  | _ c ih =>
    intro hc
    by_cases h0 : c = 0
    · subst h0; omega
    · have := h c hc (by omega)
      have := ih ((c - 1) / 2) (by omega) (by omega)
      omega
theorem set_hole {l : List It} {i : Nat} {x : It} {n : Nat} (h : Heap l n) (hi : i < l.length) : Hole (l.set i x) i n := fun c hc h0 => by
  have e : ∀ y, y ≠ i → us (l.set i x) y = us l y := fun y hy => by
    unfold us; simp only [List.getD_eq_getElem?_getD]; rw [List.getElem?_set_ne (by omega)]
  refine ⟨fun h1 h2 => ?_, fun h1 h2 => ?_⟩
  · rw [e _ h1, e _ h2]; exact h c hc h0
  · rw [e _ (by omega), e _ (by omega)]
    have k1 := h c hc h0
    have k2 := h i (by omega) h2
    rw [h1] at k1; omega
theorem us_congr {l l' : List It} {n : Nat} (h : ∀ i, i < n → l.getD i default = l'.getD i default) {i : Nat} (hi : i < n) : us l i = us l' i := by unfold us; rw [h i hi]
theorem heap_congr {l l' : List It} {n : Nat} (h : ∀ i, i < n → l.getD i default = l'.getD i default) (k : Heap l n) : Heap l' n := fun c hc h0 => by
  rw [← us_congr h hc, ← us_congr h (i := (c - 1) / 2) (by omega)]; exact k c hc h0
theorem heap_le {l : List It} {n m : Nat} (h : Heap l n) (k : m ≤ n) : Heap l m := fun c hc h0 => h c (by omega) h0
structure Down (its l : List It) (i0 n : Nat) (moved : Bool) : Prop where
  perm : l.Perm its
  tail : ∀ x, n ≤ x → l.getD x default = its.getD x default
  no : moved = false → l = its ∧ ∀ c, c < n → 0 < c → (c - 1) / 2 = i0 → us its i0 ≤ us its c
  yes : moved = true → Heap l n
theorem down_done {l its : List It} {i i0 n : Nat} (hp : l.Perm its) (hi : i0 ≤ i) (hH : Hole l i n) (ht : ∀ x, n ≤ x → l.getD x default = its.getD x default) (h0 : i = i0 → l = its)
    (hg : i0 < i → us l ((i - 1) / 2) ≤ us l i) (hmin : ∀ c, c < n → 0 < c → (c - 1) / 2 = i → us l i ≤ us l c) : Down its l i0 n (decide (i0 < i)) :=
  ⟨hp, ht, fun h => by
    have : i = i0 := by simp at h; omega
    subst this
    obtain rfl := h0 rfl
    exact ⟨rfl, hmin⟩, fun h => by
    have : i0 < i := by simpa using h
    exact hole_heap hH hmin fun _ => hg this⟩
end Go.Proofs.YtllkdnadmmjehaaGreatDoor
namespace Go.Proofs.YtllkdnadmmjehaaGreatDoor
open Go.RowKit
set_option linter.unusedSimpArgs false
set_option linter.unusedVariables false
set_option maxRecDepth 20000
def rowH (b : Nat) (x : List It × List Value) : HP := chk (fun C => ∃ a c, C = [pt b (cob (.slice a x.1.length c :: x.2) 174), osl 167 6 (.slice a x.1.length c) (x.1.flatMap itemV)])
section
variable {P : Program} {W0 : World} {R A : List HP} {b : Nat} {its : List It} {tl : List Value} {f : FuncId} {args : List Value} {Post : Value → List HP → Prop}
theorem spec_row (h : ∀ a c, Spec P W0 f args (pt b (cob (.slice a its.length c :: tl) 174) :: osl 167 6 (.slice a its.length c) (its.flatMap itemV) :: R) Post) : Spec P W0 f args (rowH b (its, tl) :: R) Post :=
  spec_chk fun C hC => by obtain ⟨a, c, rfl⟩ := hC; exact h a c
theorem ent_row {a : Option Addr} {c n : Nat} {R1 R2 B : List HP} [h1 : Tk pt b A (cob (.slice a n c :: tl) 174) R1] [h2 : Tk (osl 167 6) (.slice a n c) R1 (its.flatMap itemV) R2] (hn : n = its.length) [k : Ent R2 B] : Ent A (rowH b (its, tl) :: B) := by
  subst hn
  exact (Ent.ofPerm (h1.perm.trans (h2.perm.cons _))).trans ((Ent.cons (Ent.cons k)).trans (ent_chk (R := B) (C := [_, _]) ⟨a, c, rfl⟩))
theorem spec_rowN (h0 : its ≠ []) (h : ∀ g c sp, its.length ≤ c → c ≤ maxLen → (its.flatMap itemV ++ sp).length = c * 6 → Spec P W0 f args (pt b (cob (.slice (some ⟨g, 0, none⟩) its.length c :: tl) 174) :: pt g (cob (its.flatMap itemV ++ sp) 167) :: R) Post) : Spec P W0 f args (rowH b (its, tl) :: R) Post :=
  spec_row fun a c => spec_perm (List.Perm.swap _ _ _) (spec_osl (fun h1 h2 => by
      have := flat_len itemV_len its
      rw [h2] at this
      exact absurd (List.eq_nil_of_length_eq_zero (by simp at this; omega)) h0)
    (fun g n cap sp h1 h2 h3 h4 h5 => by
      cases h1
      exact spec_perm (List.Perm.swap _ _ _) (h g _ sp h2 h3 h5)))
theorem run_row {N : FSz} {K : Act → World → Prop} {e : Env} [hk : Tk rowH b A (its, tl) R] (h : ∀ a c, Run W0 N K e (pt b (cob (.slice a its.length c :: tl) 174) :: osl 167 6 (.slice a its.length c) (its.flatMap itemV) :: R)) : Run W0 N K e A :=
  run_tk (r := rowH) (b := b) (run_chk fun C hC => by obtain ⟨a, c, rfl⟩ := hC; exact h a c)
theorem run_rowN {N : FSz} {K : Act → World → Prop} {e : Env} [hk : Tk rowH b A (its, tl) R] (h0 : its ≠ []) (h : ∀ g c sp, its.length ≤ c → c ≤ maxLen → (its.flatMap itemV ++ sp).length = c * 6 → Run W0 N K e (pt b (cob (.slice (some ⟨g, 0, none⟩) its.length c :: tl) 174) :: pt g (cob (its.flatMap itemV ++ sp) 167) :: R)) : Run W0 N K e A :=
  run_row (b := b) fun a c => run_perm (List.Perm.swap _ _ _) (run_osl (fun h1 h2 => by
      have := flat_len itemV_len its
      rw [h2] at this
      exact absurd (List.eq_nil_of_length_eq_zero (by simp at this; omega)) h0)
    (fun g n cap sp h1 h2 h3 h4 h5 => by
      cases h1
      exact run_perm (List.Perm.swap _ _ _) (h g _ sp h2 h3 h5)))
theorem cells_row [hk : Tk rowH b A (its, tl) R] : Cells (OwnP W0 A) b 1 tl := fun i v hi w (hO : Own W0 w A) => by
  obtain ⟨C, ⟨a, c, rfl⟩, hO'⟩ := (hO.tk (r := rowH) (b := b)).chk
  have h1 : Own W0 w (pt b (cob (.slice a its.length c :: tl) 174) :: (osl 167 6 (.slice a its.length c) (its.flatMap itemV) :: R)) := hO'
  have h2 : Cell (OwnP W0 (pt b (cob (.slice a its.length c :: tl) 174) :: (osl 167 6 (.slice a its.length c) (its.flatMap itemV) :: R))) b (1 + i) v := cell_own (by rw [Nat.add_comm]; exact hi)
  exact h2 w h1
theorem ent_rowN {g c n : Nat} {xs sp : List Value} {R1 R2 B : List HP} [h1 : Tk pt b A (cob (.slice (some ⟨g, 0, none⟩) n c :: tl) 174) R1] [h2 : Tk pt g R1 (cob (xs ++ sp) 167) R2] (hx : xs = its.flatMap itemV) (hn : n = its.length) (hc : n ≤ c) (hm : c ≤ maxLen) (hl : (xs ++ sp).length = c * 6) [k : Ent R2 B] : Ent A (rowH b (its, tl) :: B) := by
  subst hn
  subst hx
  have e : Ent R1 (osl 167 6 (.slice (some ⟨g, 0, none⟩) its.length c) (its.flatMap itemV) :: B) := ent_osl hc hm (flat_len itemV_len its) hl
  exact (Ent.ofPerm h1.perm).trans ((Ent.cons e).trans (ent_chk (R := B) (C := [_, _]) ⟨_, c, rfl⟩))
theorem run_shut {N : FSz} {K : Act → World → Prop} {e : Env} {g c n : Nat} {xs sp : List Value} {R1 R2 : List HP} [h1 : Tk pt b A (cob (.slice (some ⟨g, 0, none⟩) n c :: tl) 174) R1] [h2 : Tk pt g R1 (cob (xs ++ sp) 167) R2] (hx : xs = its.flatMap itemV) (hn : n = its.length) (hc : n ≤ c) (hm : c ≤ maxLen) (hl : (xs ++ sp).length = c * 6)
    (k : Run W0 N K e (rowH b (its, tl) :: R2)) : Run W0 N K e A := run_ent (ent_rowN (b := b) hx hn hc hm hl) k
end
theorem item_get (its : List It) (sp : List Value) (i j : Nat) (hi : i < its.length) (hj : j < 6) : (its.flatMap itemV ++ sp)[i * 6 + j]? = (itemV (its.getD i default))[j]? := by
  rw [flat_get itemV_len its i j sp hi hj]; simp [List.getD, hi]
theorem item_row (its : List It) (sp : List Value) (i : Nat) (hi : i < its.length) : ((its.flatMap itemV ++ sp).drop (i * 6)).take 6 = itemV (its.getD i default) := by
  rw [flat_row itemV_len its i sp hi]; simp [List.getD, hi]
theorem item_set (its : List It) (sp : List Value) (i : Nat) (x : It) (hi : i < its.length) : setR (its.flatMap itemV ++ sp) (i * 6) (itemV x) = (its.set i x).flatMap itemV ++ sp := flat_set itemV_len its i x sp hi
theorem item_ent (its : List It) (sp : List Value) (i : Nat) (hi : i < its.length) : ((its.flatMap itemV ++ sp).drop (i * 6 + 2)).take 3 = [.int .i64 (its.getD i default).ep, .int .i64 (its.getD i default).ef, .int .i64 (its.getD i default).er] := by
  have := congrArg (fun l => (l.drop 2).take 3) (item_row its sp i hi)
  simp only [List.drop_take, List.take_take, List.drop_drop] at this
  exact this
theorem item_set1 (its : List It) (sp : List Value) (i : Nat) (u : Int) (hi : i < its.length) : (its.flatMap itemV ++ sp).set (i * 6 + 5) (.int .i64 u) = (its.set i { its.getD i default with u := u }).flatMap itemV ++ sp :=
  flat_set1 itemV_len its i 5 _ _ sp hi (by decide) (by simp [List.getD, hi, itemV])
theorem item_bd (its : List It) (sp : List Value) (i : Nat) (hi : i < its.length) : i * 6 + 6 ≤ (its.flatMap itemV ++ sp).length := by
  rw [List.length_append, flat_len itemV_len]; omega
theorem pos_ne {its : List It} {i : Nat} (h : i < its.length) : its ≠ [] := fun e => by rw [e] at h; simp at h
theorem rowLen_spec (W0 : World) (R : List HP) (b : Nat) (its : List It) (tl : List Value) :
    Spec Tryz.prog W0 121 [.pointer (some ⟨b, 0, none⟩)] (rowH b (its, tl) :: R) (fun v B => v = .int .i64 (its.length : Nat) ∧ B = rowH b (its, tl) :: R) := by
  refine spec_row fun a c => ?_
  refine spec_body Tryz.func121 Tryz.ntmps121 rfl rfl ?_
  refine x_seq (x_region (s_val rfl (v_assign rfl) (x_nil (n_then (x_seq (x_region (s_val rfl (v_move rfl) (s_val rfl (v_nilCheck rfl) ?_))))))))
  refine s_val rfl (v_fieldAddr rfl Tryz.underlying172 rfl Tryz.sizeOf164 rfl (by first | exact Nat.zero_add _ | rfl)) ?_
  refine s_val rfl (v_load Tryz.isAgg164 rfl (cell_own rfl)) ?_
  refine s_val rfl (v_len_slice Tryz.underlying164 rfl) (s_val rfl (v_assign rfl) (x_nil (n_then (x_ret (x_done (.inl rfl) (.cons (r_tmp rfl) .nil) ?_)))))
  exact ⟨_, ⟨rfl, rfl⟩, ent_row rfl⟩
theorem rowLess_spec (W0 : World) (R : List HP) (b : Nat) (its : List It) (tl : List Value) (i k : Nat) (hi : i < its.length) (hk : k < its.length) :
    Spec Tryz.prog W0 205 [.pointer (some ⟨b, 0, none⟩), .int .i64 i, .int .i64 k] (rowH b (its, tl) :: R) (fun v B => v = .bool (decide (us its i < us its k)) ∧ B = rowH b (its, tl) :: R) := by
  refine spec_rowN (pos_ne hi) fun g c sp h1 h2 h3 => ?_
  refine spec_body Tryz.func205 Tryz.ntmps205 rfl rfl ?_
  refine x_seq (x_region (s_val rfl (v_assign rfl) (x_nil (n_then (x_seq ?_)))))
  refine x_draw [(b, 0, _), (g, 0, _)] 18 mixed rfl (sc_own (sc_own sc_end)) (fun hS => ?_)
  refine d_take 0 rfl rfl (by kernel_rfl) (by kernel_rfl) (by kernel_rfl) rfl hS (v_move rfl) ?_
  refine d_take 1 rfl rfl (by kernel_rfl) (by kernel_rfl) (by kernel_rfl) rfl hS (v_nilCheck rfl) ?_
  refine d_take 2 rfl rfl (by kernel_rfl) (by kernel_rfl) (by kernel_rfl) rfl hS (v_fieldAddr rfl Tryz.underlying172 rfl Tryz.sizeOf164 rfl (by first | exact Nat.zero_add _ | rfl)) ?_
  refine d_take 3 rfl rfl (by kernel_rfl) (by kernel_rfl) (by kernel_rfl) rfl hS (v_load Tryz.isAgg164 rfl (by first | exact cell_sc0 (k := 0) rfl rfl | exact cell_sc0 (k := 1) rfl rfl)) ?_
  refine d_take 4 rfl rfl (by kernel_rfl) (by kernel_rfl) (by kernel_rfl) rfl hS (v_move rfl) ?_
  refine d_take 5 rfl rfl (by kernel_rfl) (by kernel_rfl) (by kernel_rfl) rfl hS (v_idx Tryz.underlying164 Tryz.sizeOf167 rfl rfl rfl hi (by first | exact Nat.zero_add _ | rfl)) ?_
  refine d_take 6 rfl rfl (by kernel_rfl) (by kernel_rfl) (by kernel_rfl) rfl hS (v_fieldAddr rfl Tryz.underlying167 rfl Tryz.sizeOf3 rfl (by first | exact Nat.zero_add _ | rfl)) ?_
  refine d_take 7 rfl rfl (by kernel_rfl) (by kernel_rfl) (by kernel_rfl) rfl hS (v_load Tryz.isAgg3 rfl (cell_sc0 (k := 1) rfl ((item_get its sp i 5 hi (by decide)).trans rfl))) ?_
  refine d_take 8 rfl rfl (by kernel_rfl) (by kernel_rfl) (by kernel_rfl) rfl hS (v_move rfl) ?_
  refine d_take 9 rfl rfl (by kernel_rfl) (by kernel_rfl) (by kernel_rfl) rfl hS (v_nilCheck rfl) ?_
  refine d_take 10 rfl rfl (by kernel_rfl) (by kernel_rfl) (by kernel_rfl) rfl hS (v_fieldAddr rfl Tryz.underlying172 rfl Tryz.sizeOf164 rfl (by first | exact Nat.zero_add _ | rfl)) ?_
  refine d_take 11 rfl rfl (by kernel_rfl) (by kernel_rfl) (by kernel_rfl) rfl hS (v_load Tryz.isAgg164 rfl (by first | exact cell_sc0 (k := 0) rfl rfl | exact cell_sc0 (k := 1) rfl rfl)) ?_
  refine d_take 12 rfl rfl (by kernel_rfl) (by kernel_rfl) (by kernel_rfl) rfl hS (v_move rfl) ?_
  refine d_take 13 rfl rfl (by kernel_rfl) (by kernel_rfl) (by kernel_rfl) rfl hS (v_idx Tryz.underlying164 Tryz.sizeOf167 rfl rfl rfl hk (by first | exact Nat.zero_add _ | rfl)) ?_
  refine d_take 14 rfl rfl (by kernel_rfl) (by kernel_rfl) (by kernel_rfl) rfl hS (v_fieldAddr rfl Tryz.underlying167 rfl Tryz.sizeOf3 rfl (by first | exact Nat.zero_add _ | rfl)) ?_
  refine d_take 15 rfl rfl (by kernel_rfl) (by kernel_rfl) (by kernel_rfl) rfl hS (v_load Tryz.isAgg3 rfl (cell_sc0 (k := 1) rfl ((item_get its sp k 5 hk (by decide)).trans rfl))) ?_
  refine d_take 16 rfl rfl (by kernel_rfl) (by kernel_rfl) (by kernel_rfl) rfl hS (v_lss rfl rfl) ?_
  refine d_take 17 rfl rfl (by kernel_rfl) (by kernel_rfl) (by kernel_rfl) rfl hS (v_assign rfl) ?_
  refine d_done (by kernel_rfl) ?_; clear hS
  refine n_then (x_ret (x_done (.inl rfl) (.cons (r_tmp rfl) .nil) ?_))
  exact ⟨_, ⟨rfl, rfl⟩, ent_rowN rfl rfl h1 h2 h3⟩
theorem rowSwap_spec (W0 : World) (R : List HP) (b : Nat) (its : List It) (tl : List Value) (i k : Nat) (hi : i < its.length) (hk : k < its.length) :
    Spec Tryz.prog W0 208 [.pointer (some ⟨b, 0, none⟩), .int .i64 i, .int .i64 k] (rowH b (its, tl) :: R) (fun v B => v = .tuple #[] ∧ B = rowH b (swapL its i k, tl) :: R) := by
  refine spec_rowN (pos_ne hi) fun g c sp h1 h2 h3 => ?_
  refine spec_body Tryz.func208 Tryz.ntmps208 rfl rfl ?_
  refine x_draw [(b, 0, _)] 28 mixed rfl (sc_own sc_end) (fun hS => ?_)
  refine d_take 0 rfl rfl (by kernel_rfl) (by kernel_rfl) (by kernel_rfl) rfl hS (v_move rfl) ?_
  refine d_take 1 rfl rfl (by kernel_rfl) (by kernel_rfl) (by kernel_rfl) rfl hS (v_nilCheck rfl) ?_
  refine d_take 2 rfl rfl (by kernel_rfl) (by kernel_rfl) (by kernel_rfl) rfl hS (v_fieldAddr rfl Tryz.underlying172 rfl Tryz.sizeOf164 rfl (by first | exact Nat.zero_add _ | rfl)) ?_
  refine d_take 3 rfl rfl (by kernel_rfl) (by kernel_rfl) (by kernel_rfl) rfl hS (v_load Tryz.isAgg164 rfl (cell_sc0 (k := 0) rfl rfl)) ?_
  refine d_take 4 rfl rfl (by kernel_rfl) (by kernel_rfl) (by kernel_rfl) rfl hS (v_move rfl) ?_
  refine d_take 5 rfl rfl (by kernel_rfl) (by kernel_rfl) (by kernel_rfl) rfl hS (v_move rfl) ?_
  refine d_take 6 rfl rfl (by kernel_rfl) (by kernel_rfl) (by kernel_rfl) rfl hS (v_nilCheck rfl) ?_
  refine d_take 7 rfl rfl (by kernel_rfl) (by kernel_rfl) (by kernel_rfl) rfl hS (v_fieldAddr rfl Tryz.underlying172 rfl Tryz.sizeOf164 rfl (by first | exact Nat.zero_add _ | rfl)) ?_
  refine d_take 8 rfl rfl (by kernel_rfl) (by kernel_rfl) (by kernel_rfl) rfl hS (v_load Tryz.isAgg164 rfl (cell_sc0 (k := 0) rfl rfl)) ?_
  refine d_take 9 rfl rfl (by kernel_rfl) (by kernel_rfl) (by kernel_rfl) rfl hS (v_move rfl) ?_
  refine d_take 10 rfl rfl (by kernel_rfl) (by kernel_rfl) (by kernel_rfl) rfl hS (v_move rfl) ?_
  refine d_take 11 rfl rfl (by kernel_rfl) (by kernel_rfl) (by kernel_rfl) rfl hS (v_nilCheck rfl) ?_
  refine d_take 12 rfl rfl (by kernel_rfl) (by kernel_rfl) (by kernel_rfl) rfl hS (v_fieldAddr rfl Tryz.underlying172 rfl Tryz.sizeOf164 rfl (by first | exact Nat.zero_add _ | rfl)) ?_
  refine d_take 13 rfl rfl (by kernel_rfl) (by kernel_rfl) (by kernel_rfl) rfl hS (v_load Tryz.isAgg164 rfl (cell_sc0 (k := 0) rfl rfl)) ?_
  refine d_take 14 rfl rfl (by kernel_rfl) (by kernel_rfl) (by kernel_rfl) rfl hS (v_move rfl) ?_
  refine d_take 15 rfl rfl (by kernel_rfl) (by kernel_rfl) (by kernel_rfl) rfl hS (v_idx Tryz.underlying164 Tryz.sizeOf167 rfl rfl rfl hk (by first | exact Nat.zero_add _ | rfl)) ?_
  refine d_take 17 rfl rfl (by kernel_rfl) (by kernel_rfl) (by kernel_rfl) rfl hS (v_move rfl) ?_
  refine d_take 18 rfl rfl (by kernel_rfl) (by kernel_rfl) (by kernel_rfl) rfl hS (v_nilCheck rfl) ?_
  refine d_take 19 rfl rfl (by kernel_rfl) (by kernel_rfl) (by kernel_rfl) rfl hS (v_fieldAddr rfl Tryz.underlying172 rfl Tryz.sizeOf164 rfl (by first | exact Nat.zero_add _ | rfl)) ?_
  refine d_take 20 rfl rfl (by kernel_rfl) (by kernel_rfl) (by kernel_rfl) rfl hS (v_load Tryz.isAgg164 rfl (cell_sc0 (k := 0) rfl rfl)) ?_
  refine d_take 21 rfl rfl (by kernel_rfl) (by kernel_rfl) (by kernel_rfl) rfl hS (v_move rfl) ?_
  refine d_take 22 rfl rfl (by kernel_rfl) (by kernel_rfl) (by kernel_rfl) rfl hS (v_idx Tryz.underlying164 Tryz.sizeOf167 rfl rfl rfl hi (by first | exact Nat.zero_add _ | rfl)) ?_
  refine d_all (is := [16, 23]) (by kernel_rfl) rfl ⟨?_, ?_, trivial⟩
  · skip
    refine dx_one rfl rfl (d_val (v_loadAgg Tryz.isAgg167 Tryz.sizeOf167 rfl (cells_part (item_row its sp k hk) rfl) rfl)) rfl ?_; clear hS
    rintro _ _ ⟨rfl, rfl⟩
    refine ⟨(sc_own sc_end), fun hS => ?_⟩
    refine d_one 23 (by kernel_rfl) rfl rfl (d_val (v_loadAgg Tryz.isAgg167 Tryz.sizeOf167 rfl (cells_part (item_row its sp i hi) rfl) rfl)) rfl ?_; clear hS
    rintro _ _ ⟨rfl, rfl⟩
    refine ⟨(sc_own sc_end), fun hS => ?_⟩
    refine d_take 24 rfl rfl (by kernel_rfl) (by kernel_rfl) (by kernel_rfl) rfl hS (v_idx Tryz.underlying164 Tryz.sizeOf167 rfl rfl rfl hi (by first | exact Nat.zero_add _ | rfl)) ?_
    refine d_one 25 (by kernel_rfl) rfl rfl (d_storeAgg Tryz.sizeOf167 rfl rfl rfl rfl (item_bd its sp i hi) (item_set its sp i (its.getD k default) hi)) rfl ?_; clear hS
    rintro _ _ rfl
    refine ⟨(sc_own sc_end), fun hS => ?_⟩
    refine d_take 26 rfl rfl (by kernel_rfl) (by kernel_rfl) (by kernel_rfl) rfl hS (v_idx Tryz.underlying164 Tryz.sizeOf167 rfl rfl rfl hk (by first | exact Nat.zero_add _ | rfl)) ?_
    refine d_one 27 (by kernel_rfl) rfl rfl (d_storeAgg Tryz.sizeOf167 rfl rfl rfl rfl (item_bd (its.set i (its.getD k default)) sp k (by simpa using hk)) (item_set (its.set i (its.getD k default)) sp k (its.getD i default) (by simpa using hk))) rfl ?_; clear hS
    rintro _ _ rfl
    refine ⟨(sc_own sc_end), fun hS => ?_⟩
    refine d_done (by kernel_rfl) ?_; clear hS
    refine x_done (.inr rfl) .nil ?_
    exact ⟨_, ⟨rfl, rfl⟩, ent_rowN rfl (by simp [swapL]) (by simpa [swapL] using h1) h2 (by simpa [swapL, flat_len itemV_len] using h3)⟩
  · skip
    refine dx_one rfl rfl (d_val (v_loadAgg Tryz.isAgg167 Tryz.sizeOf167 rfl (cells_part (item_row its sp i hi) rfl) rfl)) rfl ?_; clear hS
    rintro _ _ ⟨rfl, rfl⟩
    refine ⟨(sc_own sc_end), fun hS => ?_⟩
    refine d_one 16 (by kernel_rfl) rfl rfl (d_val (v_loadAgg Tryz.isAgg167 Tryz.sizeOf167 rfl (cells_part (item_row its sp k hk) rfl) rfl)) rfl ?_; clear hS
    rintro _ _ ⟨rfl, rfl⟩
    refine ⟨(sc_own sc_end), fun hS => ?_⟩
    refine d_take 24 rfl rfl (by kernel_rfl) (by kernel_rfl) (by kernel_rfl) rfl hS (v_idx Tryz.underlying164 Tryz.sizeOf167 rfl rfl rfl hi (by first | exact Nat.zero_add _ | rfl)) ?_
    refine d_one 25 (by kernel_rfl) rfl rfl (d_storeAgg Tryz.sizeOf167 rfl rfl rfl rfl (item_bd its sp i hi) (item_set its sp i (its.getD k default) hi)) rfl ?_; clear hS
    rintro _ _ rfl
    refine ⟨(sc_own sc_end), fun hS => ?_⟩
    refine d_take 26 rfl rfl (by kernel_rfl) (by kernel_rfl) (by kernel_rfl) rfl hS (v_idx Tryz.underlying164 Tryz.sizeOf167 rfl rfl rfl hk (by first | exact Nat.zero_add _ | rfl)) ?_
    refine d_one 27 (by kernel_rfl) rfl rfl (d_storeAgg Tryz.sizeOf167 rfl rfl rfl rfl (item_bd (its.set i (its.getD k default)) sp k (by simpa using hk)) (item_set (its.set i (its.getD k default)) sp k (its.getD i default) (by simpa using hk))) rfl ?_; clear hS
    rintro _ _ rfl
    refine ⟨(sc_own sc_end), fun hS => ?_⟩
    refine d_done (by kernel_rfl) ?_; clear hS
    refine x_done (.inr rfl) .nil ?_
    exact ⟨_, ⟨rfl, rfl⟩, ent_rowN rfl (by simp [swapL]) (by simpa [swapL] using h1) h2 (by simpa [swapL, flat_len itemV_len] using h3)⟩
theorem rowPop_spec (W0 : World) (R : List HP) (b : Nat) (its : List It) (x : It) (tl : List Value) :
    Spec Tryz.prog W0 206 [.pointer (some ⟨b, 0, none⟩)] (rowH b (its ++ [x], tl) :: R) (fun v B => v = .iface 167 (.agg (itemV x).toArray) ∧ B = rowH b (its, tl) :: R) := by
  refine spec_rowN (by simp) fun g c sp h1 h2 h3 => ?_
  have hl : (its ++ [x]).length = its.length + 1 := by simp
  rw [hl] at h1 ⊢
  have hg : (its ++ [x]).getD its.length default = x := by simp [List.getD]
  have hr := item_row (its ++ [x]) sp its.length (by omega)
  rw [hg] at hr
  have he : (its ++ [x]).flatMap itemV ++ sp = its.flatMap itemV ++ (itemV x ++ sp) := by simp
  refine spec_body Tryz.func206 Tryz.ntmps206 rfl rfl ?_
  refine x_seq (x_region (s_val rfl (v_assign rfl) (x_nil (n_then (x_seq (x_region (s_val rfl (v_move rfl) (s_val rfl (v_nilCheck rfl) ?_))))))))
  refine s_val rfl (v_fieldAddr rfl Tryz.underlying172 rfl Tryz.sizeOf164 rfl (by first | exact Nat.zero_add _ | rfl)) ?_
  refine s_val rfl (v_load Tryz.isAgg164 rfl (cell_own rfl)) ?_
  refine s_val rfl (v_len_slice Tryz.underlying164 rfl) ?_
  refine s_val rfl (v_sub rfl rfl (by rw [w64 (by simp only [maxLen] at h2; omega)]; omega : IntKind.wrap .i64 (((its.length + 1 : Nat) : Int) - 1) = ((its.length : Nat) : Int))) ?_
  refine s_val rfl (v_assign rfl) (x_nil (n_then (x_seq (x_region (s_val rfl (v_move rfl) (s_val rfl (v_nilCheck rfl) ?_))))))
  refine s_val rfl (v_fieldAddr rfl Tryz.underlying172 rfl Tryz.sizeOf164 rfl (by first | exact Nat.zero_add _ | rfl)) ?_
  refine s_val rfl (v_load Tryz.isAgg164 rfl (cell_own rfl)) ?_
  refine s_val rfl (v_move rfl) ?_
  refine s_val rfl (v_idx Tryz.underlying164 Tryz.sizeOf167 rfl rfl rfl (by omega) (by first | exact Nat.zero_add _ | rfl)) ?_
  refine s_val rfl (v_loadAgg Tryz.isAgg167 Tryz.sizeOf167 rfl (cells_part hr rfl) rfl) ?_
  refine s_do rfl (d_allocA Tryz.zeroValue167) ?_
  rintro _ _ ⟨b1, rfl, rfl⟩
  refine s_do0 (d_storeAll Tryz.sizeOf167 rfl rfl rfl rfl rfl) ?_
  rintro _ _ rfl
  refine x_nil (n_then (x_seq (x_region (s_val rfl (v_move rfl) (s_val rfl (v_move rfl) (s_val rfl (v_nilCheck rfl) ?_))))))
  refine s_val rfl (v_fieldAddr rfl Tryz.underlying172 rfl Tryz.sizeOf164 rfl (by first | exact Nat.zero_add _ | rfl)) ?_
  refine s_val rfl (v_load Tryz.isAgg164 rfl (cell_own rfl)) ?_
  refine s_val rfl (v_move rfl) ?_
  refine s_val rfl (v_sliceH Tryz.underlying164 Tryz.sizeOf167 rfl rfl rfl (by omega)) ?_
  refine s_val rfl (v_nilCheck rfl) ?_
  refine s_val rfl (v_fieldAddr rfl Tryz.underlying172 rfl Tryz.sizeOf164 rfl (by first | exact Nat.zero_add _ | rfl)) ?_
  refine s_do0 (d_store Tryz.sizeOf164 rfl rfl rfl (Nat.le_of_ble_eq_true rfl) SetL.eq) ?_
  rintro _ _ rfl
  refine x_nil (n_then (x_seq (x_region (s_val rfl (v_loadAll Tryz.isAgg167 Tryz.sizeOf167 rfl rfl) ?_))))
  refine s_val rfl (v_mkI Tryz.underlying167 (fun _ h => nomatch h) rfl) ?_
  refine s_val rfl (v_assign rfl) (x_nil (n_then (x_ret (x_done (.inl rfl) (.cons (r_tmp rfl) .nil) ?_))))
  rw [he]
  exact ⟨_, ⟨rfl, rfl⟩, ent_rowN (sp := itemV x ++ sp) rfl rfl (by omega) h2 (by rw [← he]; exact h3)⟩
theorem rowPush_spec (W0 : World) (R : List HP) (b : Nat) (its : List It) (x : It) (tl : List Value) (hn : its.length < 1000) :
    Spec Tryz.prog W0 207 [.pointer (some ⟨b, 0, none⟩), .iface 167 (.agg (itemV x).toArray)] (rowH b (its, tl) :: R) (fun v B => v = .tuple #[] ∧ B = rowH b (its ++ [x], tl) :: R) := by
  refine spec_row fun a c => ?_
  have he : its.flatMap itemV ++ [itemV x].flatten = (its ++ [x]).flatMap itemV := by simp
  refine spec_body Tryz.func207 Tryz.ntmps207 rfl rfl ?_
  refine x_draw [] 12 mixed rfl sc_end (fun hS => ?_)
  refine d_take 0 rfl rfl (by kernel_rfl) (by kernel_rfl) (by kernel_rfl) rfl hS (v_move rfl) ?_
  refine d_take 1 rfl rfl (by kernel_rfl) (by kernel_rfl) (by kernel_rfl) rfl hS (v_move rfl) ?_
  refine d_take 2 rfl rfl (by kernel_rfl) (by kernel_rfl) (by kernel_rfl) rfl hS (v_nilCheck rfl) ?_
  refine d_take 3 rfl rfl (by kernel_rfl) (by kernel_rfl) (by kernel_rfl) rfl hS (v_fieldAddr rfl Tryz.underlying172 rfl Tryz.sizeOf164 rfl (by first | exact Nat.zero_add _ | rfl)) ?_
  refine d_take 5 rfl rfl (by kernel_rfl) (by kernel_rfl) (by kernel_rfl) rfl hS (v_move rfl) ?_
  refine d_take 6 rfl rfl (by kernel_rfl) (by kernel_rfl) (by kernel_rfl) rfl hS (v_assert Tryz.underlying167 (fun _ h => nomatch h) rfl) ?_
  refine d_all (is := [4, 7]) (by kernel_rfl) rfl ⟨?_, ?_, trivial⟩
  · skip
    refine dx_one rfl rfl (d_val (v_load Tryz.isAgg164 rfl (cell_own rfl))) rfl ?_; clear hS
    rintro _ _ ⟨rfl, rfl⟩
    refine ⟨sc_end, fun hS => ?_⟩
    refine d_one 7 (by kernel_rfl) rfl rfl (d_sliceAgg Tryz.underlying164 Tryz.sizeOf167 Tryz.zeroValue167 rfl (elsK_cons rfl rfl elsK_nil) rfl (by decide) (by decide) (by decide)) rfl ?_; clear hS
    rintro _ _ ⟨b1, rfl, rfl⟩
    refine ⟨sc_end, fun hS => ?_⟩
    refine d_one 8 (by kernel_rfl) rfl rfl (d_append (sz := 6) (by_ := 48) (info := Tryz.t167) Tryz.underlying164 (by kernel_rfl) rfl rfl rfl rfl (by decide) rfl rfl cells_all rfl rfl (by simp only [maxLen]; omega) (by omega)) rfl ?_; clear hS
    rintro _ _ ⟨a1, c1, rfl, rfl⟩
    refine ⟨sc_end, fun hS => ?_⟩
    refine d_take 9 rfl rfl (by kernel_rfl) (by kernel_rfl) (by kernel_rfl) rfl hS (v_nilCheck rfl) ?_
    refine d_take 10 rfl rfl (by kernel_rfl) (by kernel_rfl) (by kernel_rfl) rfl hS (v_fieldAddr rfl Tryz.underlying172 rfl Tryz.sizeOf164 rfl (by first | exact Nat.zero_add _ | rfl)) ?_
    refine d_one 11 (by kernel_rfl) rfl rfl (d_store Tryz.sizeOf164 rfl rfl rfl (Nat.le_of_ble_eq_true rfl) SetL.eq) rfl ?_; clear hS
    rintro _ _ rfl
    refine ⟨sc_end, fun hS => ?_⟩
    refine d_done (by kernel_rfl) ?_; clear hS
    refine x_done (.inr rfl) .nil ?_
    rw [he]
    exact ⟨_, ⟨rfl, rfl⟩, ent_row (its := its ++ [x]) (by simp)⟩
  · skip
    refine dx_one rfl rfl (d_sliceAgg Tryz.underlying164 Tryz.sizeOf167 Tryz.zeroValue167 rfl (elsK_cons rfl rfl elsK_nil) rfl (by decide) (by decide) (by decide)) rfl ?_; clear hS
    rintro _ _ ⟨b1, rfl, rfl⟩
    refine ⟨sc_end, fun hS => ?_⟩
    refine d_one 4 (by kernel_rfl) rfl rfl (d_val (v_load Tryz.isAgg164 rfl (cell_own rfl))) rfl ?_; clear hS
    rintro _ _ ⟨rfl, rfl⟩
    refine ⟨sc_end, fun hS => ?_⟩
    refine d_one 8 (by kernel_rfl) rfl rfl (d_append (sz := 6) (by_ := 48) (info := Tryz.t167) Tryz.underlying164 (by kernel_rfl) rfl rfl rfl rfl (by decide) rfl rfl cells_all rfl rfl (by simp only [maxLen]; omega) (by omega)) rfl ?_; clear hS
    rintro _ _ ⟨a1, c1, rfl, rfl⟩
    refine ⟨sc_end, fun hS => ?_⟩
    refine d_take 9 rfl rfl (by kernel_rfl) (by kernel_rfl) (by kernel_rfl) rfl hS (v_nilCheck rfl) ?_
    refine d_take 10 rfl rfl (by kernel_rfl) (by kernel_rfl) (by kernel_rfl) rfl hS (v_fieldAddr rfl Tryz.underlying172 rfl Tryz.sizeOf164 rfl (by first | exact Nat.zero_add _ | rfl)) ?_
    refine d_one 11 (by kernel_rfl) rfl rfl (d_store Tryz.sizeOf164 rfl rfl rfl (Nat.le_of_ble_eq_true rfl) SetL.eq) rfl ?_; clear hS
    rintro _ _ rfl
    refine ⟨sc_end, fun hS => ?_⟩
    refine d_done (by kernel_rfl) ?_; clear hS
    refine x_done (.inr rfl) .nil ?_
    rw [he]
    exact ⟨_, ⟨rfl, rfl⟩, ent_row (its := its ++ [x]) (by simp)⟩
section
variable (w : World) (a : Addr)
theorem m_len : (method (Tryz.prog.types.size + Made.depth) 196 (.pointer (some a)) "Len").run Tryz.prog w = .ok (121, .pointer (some a)) w := by kernel_rfl
theorem m_less : (method (Tryz.prog.types.size + Made.depth) 196 (.pointer (some a)) "Less").run Tryz.prog w = .ok (205, .pointer (some a)) w := by kernel_rfl
theorem m_swap : (method (Tryz.prog.types.size + Made.depth) 196 (.pointer (some a)) "Swap").run Tryz.prog w = .ok (208, .pointer (some a)) w := by kernel_rfl
theorem m_push : (method (Tryz.prog.types.size + Made.depth) 196 (.pointer (some a)) "Push").run Tryz.prog w = .ok (207, .pointer (some a)) w := by kernel_rfl
theorem m_pop : (method (Tryz.prog.types.size + Made.depth) 196 (.pointer (some a)) "Pop").run Tryz.prog w = .ok (206, .pointer (some a)) w := by kernel_rfl
end
def rowI (b : Nat) : Value := .iface 196 (.pointer (some ⟨b, 0, none⟩))
theorem par_quo {j : Nat} (h : j < 1000) : IntKind.wrap .i64 (Int.tdiv ((j : Int) - 1) 2) = (((j - 1) / 2 : Nat) : Int) := by
  by_cases h0 : j = 0
  · subst h0; decide
  · obtain ⟨k, rfl⟩ : ∃ k, j = k + 1 := ⟨j - 1, by omega⟩
    have e : ((k + 1 : Nat) : Int) - 1 = (k : Int) := by omega
    rw [e, Int.tdiv_eq_ediv_of_nonneg (by omega), w64 (by omega)]; simp
theorem getD_swap_ge {l l0 : List It} {i j n : Nat} (hi : i < n) (hj : j < n) (hn : n ≤ l.length) (h : ∀ x, n ≤ x → l.getD x default = l0.getD x default) : ∀ x, n ≤ x → (swapL l i j).getD x default = l0.getD x default := fun x hx => by
  rw [getD_swapL (by omega) (by omega), if_neg (by omega), if_neg (by omega)]; exact h x hx
theorem heapUp_spec (W0 : World) (R : List HP) (b : Nat) (its : List It) (tl : List Value) (j n : Nat) (hn : n ≤ its.length) (hN : n < 1000) (hj : j < n) (hU : Up its j n) :
    Spec Tryz.prog W0 145 [rowI b, .int .i64 j] (rowH b (its, tl) :: R) (fun v B => v = .tuple #[] ∧ ∃ its', B = rowH b (its', tl) :: R ∧ its'.Perm its ∧ Heap its' n ∧ ∀ x, n ≤ x → its'.getD x default = its.getD x default) := by
  refine spec_body Tryz.func145 Tryz.ntmps145 rfl rfl ?_
  refine x_block ?_
  refine x_loop (fun X : List It × Nat => X.1.Perm its ∧ X.2 < n ∧ Up X.1 X.2 n ∧ ∀ x, n ≤ x → X.1.getD x default = its.getD x default) (fun X => [(0, rowI b), (1, .int .i64 X.2)]) (fun X => rowH b (X.1, tl) :: R) (fun X => X.2) (its, j) ?_ ?_ ?_ ?_
  · exact ⟨List.Perm.refl _, hj, hU, fun _ _ => rfl⟩
  · repeat (first | exact sub_nil | refine sub_cons rfl ?_)
  · exact inferInstance
  · intro ⟨l, j⟩ ⟨hp, hj, hU, ht⟩
    have hlen := hp.length_eq
    simp only at hj hU ht hp hlen ⊢
    refine x_block (x_seq (x_region (s_val rfl (v_move rfl) ?_)))
    refine s_val rfl (v_sub rfl rfl (by first | exact w64 (by omega) | rfl)) ?_
    refine s_val rfl (v_quo rfl rfl (by decide) (par_quo (by omega))) ?_
    refine s_val rfl (v_assign rfl) (x_nil (n_then (x_seq (x_seq (x_region (s_val rfl (v_move rfl) (s_val rfl (v_move rfl) (s_val rfl (v_eql rfl rfl) (s_val rfl (v_move rfl) ?_)))))))))
    refine s_or rfl rfl rfl ?_ ?_
    · intro g1_4
      refine s_no rfl rfl rfl rfl (s_no rfl rfl rfl rfl (s_no rfl rfl rfl rfl (s_no rfl rfl rfl rfl (s_val rfl (v_pick_t rfl rfl) (x_nil (n_then (x_ift rfl (x_exit (e_then (e_block_ne rfl (e_then (e_block (x_done (.inr rfl) .nil ?_)))))))))))))
      exact ⟨_, ⟨rfl, l, rfl, hp, up_heap hU (by intro _; first | omega | (simp at c1; omega)), ht⟩, inferInstance⟩
    · intro g1_4
      refine s_val rfl (v_move rfl) (s_yes rfl rfl (s_val rfl (v_move rfl) (s_yes rfl rfl (s_val rfl (v_move rfl) (s_yes rfl rfl ?_)))))
      refine s_do rfl (d_invoke1 rfl ((fun w => m_less w _)) Tryz.call205 rfl (rowLess_spec W0 _ b l tl j ((j - 1) / 2) (by omega) (by omega))) ?_
      rintro _ B_ ⟨rfl, hB_⟩
      obtain rfl := hB_.symm
      refine s_yes rfl rfl (s_val rfl (v_not rfl) (s_val rfl (v_pick_f rfl rfl) (x_nil (n_then ?_))))
      refine x_if rfl ?_ ?_
      · intro c1
        refine x_exit (e_then (e_block_ne rfl (e_then (e_block (x_done (.inr rfl) .nil ?_)))))
        exact ⟨_, ⟨rfl, l, rfl, hp, up_heap hU (by intro _; first | omega | (simp at c1; omega)), ht⟩, inferInstance⟩
      · intro c1
        replace c1 : us l j < us l ((j - 1) / 2) := by simpa using c1
        refine x_skip (n_then (x_seq (x_region (s_val rfl (v_move rfl) (s_val rfl (v_move rfl) (s_val rfl (v_move rfl) ?_))))))
        refine s_do rfl (d_invoke1 rfl ((fun w => m_swap w _)) Tryz.call208 rfl (rowSwap_spec W0 _ b l tl ((j - 1) / 2) j (by omega) (by omega))) ?_
        rintro _ B_ ⟨rfl, hB_⟩
        obtain rfl := hB_.symm
        refine x_nil (n_then (x_region (s_val rfl (v_move rfl) (s_val rfl (v_assign rfl) (x_nil (n_block (n_then ?_)))))))
        refine inv_intro (swapL l ((j - 1) / 2) j, (j - 1) / 2) ?_ ?_ ?_ ?_
        · exact ⟨(swapL_perm (by omega) (by omega)).trans hp, by show (j - 1) / 2 < n; omega, up_swap hU (by omega) hj (by omega) c1, getD_swap_ge (by omega) hj (by omega) ht⟩
        · show (j - 1) / 2 < j; omega
        · repeat (first | exact sub_nil | refine sub_cons rfl ?_)
        · exact inferInstance
theorem heapDown_spec (W0 : World) (R : List HP) (b : Nat) (its : List It) (tl : List Value) (i0 n : Nat) (hn : n ≤ its.length) (hN : n < 1000) (hi : i0 ≤ n) (hH : Hole its i0 n) :
    Spec Tryz.prog W0 144 [rowI b, .int .i64 i0, .int .i64 n] (rowH b (its, tl) :: R) (fun v B => ∃ l m, v = .bool m ∧ B = rowH b (l, tl) :: R ∧ Down its l i0 n m) := by
  refine spec_body Tryz.func144 Tryz.ntmps144 rfl rfl ?_
  refine x_seq (x_region (s_val rfl (v_assign rfl) (x_nil (n_then (x_seq (x_region (s_val rfl (v_move rfl) (s_val rfl (v_assign rfl) (x_nil (n_then (x_seq (x_block ?_))))))))))))
  refine x_loop (fun X : List It × Nat => X.1.Perm its ∧ i0 ≤ X.2 ∧ Hole X.1 X.2 n ∧ (∀ x, n ≤ x → X.1.getD x default = its.getD x default) ∧ (X.2 = i0 → X.1 = its) ∧ (i0 < X.2 → us X.1 ((X.2 - 1) / 2) ≤ us X.1 X.2) ∧ X.2 ≤ n) (fun X => [(0, rowI b), (1, .int .i64 i0), (2, .int .i64 n), (7, .int .i64 X.2)]) (fun X => rowH b (X.1, tl) :: R) (fun X => n - X.2) (its, i0) ?_ ?_ ?_ ?_
  · exact ⟨List.Perm.refl _, Nat.le_refl _, hH, fun _ _ => rfl, fun _ => rfl, fun h => absurd h (Nat.lt_irrefl _), hi⟩
  · repeat (first | exact sub_nil | refine sub_cons rfl ?_)
  · exact inferInstance
  · intro ⟨l, i⟩ ⟨hp, hi0, hl, ht, he, hg, hin⟩
    have hlen := hp.length_eq
    simp only at hp hi0 hl ht he hg hin hlen ⊢
    refine x_block (x_seq (x_region (s_val rfl (v_move rfl) ?_)))
    refine s_val rfl (v_mul rfl rfl (by first | exact w64 (by omega) | rfl)) ?_
    refine s_val rfl (v_add rfl rfl (by rw [w64 (by omega)]; omega : IntKind.wrap .i64 (2 * (i : Int) + 1) = ((2 * i + 1 : Nat) : Int))) ?_
    refine s_val rfl (v_assign rfl) (x_nil (n_then (x_seq (x_seq (x_region (s_val rfl (v_move rfl) (s_val rfl (v_move rfl) (s_val rfl (v_geq rfl rfl) (s_val rfl (v_move rfl) ?_)))))))))
    refine s_or rfl rfl rfl ?_ ?_
    · intro g3_4
      refine s_no rfl rfl rfl rfl (s_val rfl (v_pick_t rfl rfl) (x_nil (n_then (x_ift rfl (x_exit (e_then (e_block_ne rfl (e_then (e_block (n_then (x_seq (x_region (s_val rfl (v_move rfl) (s_val rfl (v_move rfl) (s_val rfl (v_gtr rfl rfl) (s_val rfl (v_assign rfl) (x_nil (n_then (x_ret (x_done (.inl rfl) (.cons (r_tmp rfl) .nil) ?_))))))))))))))))))))
      refine ⟨_, ⟨l, decide (i0 < i), by simp [pack], rfl, down_done hp hi0 hl ht he hg ?_⟩, inferInstance⟩
      first | (intro c hc h0 h1; exfalso; omega) | (intro c hc h0 h1; have := hmin c hc h0 h1; simp at c8; omega)
    · intro g3_4
      refine s_val rfl (v_move rfl) (s_yes rfl rfl (s_val rfl (v_lss rfl rfl) (s_val rfl (v_pick_f rfl rfl) (x_nil (n_then ?_)))))
      refine x_if rfl ?_ ?_
      · intro c3
        omega
      · intro c3
        refine x_skip (n_then (x_seq (x_region (s_val rfl (v_move rfl) (s_val rfl (v_assign rfl) (x_nil (n_then ?_)))))))
        refine x_cut (fun j : Nat => (j - 1) / 2 = i ∧ 0 < j ∧ j < n ∧ ∀ c, c < n → 0 < c → (c - 1) / 2 = i → us l j ≤ us l c) (fun j => [(0, rowI b), (1, .int .i64 i0), (2, .int .i64 n), (7, .int .i64 i), (9, .int .i64 j)]) (fun j => rowH b (l, tl) :: R) ?_ ?_
        · skip
          refine x_seq (x_region (s_val rfl (v_move rfl) ?_))
          refine s_val rfl (v_add rfl rfl (by rw [w64 (by omega)]; omega : IntKind.wrap .i64 (((2 * i + 1 : Nat) : Int) + 1) = ((2 * i + 2 : Nat) : Int))) ?_
          refine s_val rfl (v_assign rfl) (x_nil (n_then (x_seq (x_region (s_val rfl (v_move rfl) (s_val rfl (v_move rfl) (s_val rfl (v_lss rfl rfl) (s_val rfl (v_move rfl) ?_))))))))
          refine s_and rfl rfl rfl ?_ ?_
          · intro g6_4
            refine s_val rfl (v_move rfl) (s_yes rfl rfl (s_val rfl (v_move rfl) (s_yes rfl rfl (s_val rfl (v_move rfl) (s_yes rfl rfl ?_)))))
            refine s_do rfl (d_invoke1 rfl ((fun w => m_less w _)) Tryz.call205 rfl (rowLess_spec W0 _ b l tl (2 * i + 2) (2 * i + 1) (by omega) (by omega))) ?_
            rintro _ B_ ⟨rfl, hB_⟩
            obtain rfl := hB_.symm
            refine s_val rfl (v_pick_t rfl rfl) (x_nil (n_then ?_))
            refine x_if rfl ?_ ?_
            · intro c6
              refine x_region (s_val rfl (v_move rfl) (s_val rfl (v_assign rfl) (x_nil (n_then ?_))))
              refine mid_intro (2 * i + 2) ?_ ?_ ?_
              · refine ⟨by omega, by omega, by omega, fun c hc h0 h1 => ?_⟩
                have : c = 2 * i + 1 ∨ c = 2 * i + 2 := by omega
                rcases this with rfl | rfl <;> omega
              · repeat (first | exact sub_nil | refine sub_cons rfl ?_)
              · exact inferInstance
            · intro c6
              refine x_skip (n_then ?_)
              refine mid_intro (2 * i + 1) ?_ ?_ ?_
              · refine ⟨by omega, by omega, by omega, fun c hc h0 h1 => ?_⟩
                have : c = 2 * i + 1 ∨ c = 2 * i + 2 := by omega
                rcases this with rfl | rfl <;> omega
              · repeat (first | exact sub_nil | refine sub_cons rfl ?_)
              · exact inferInstance
          · intro g6_4
            refine s_no rfl rfl rfl rfl (s_no rfl rfl rfl rfl (s_no rfl rfl rfl rfl (s_val rfl (v_pick_f rfl rfl) (x_nil (n_then (x_iff rfl (x_skip (n_then ?_))))))))
            refine mid_intro (2 * i + 1) ?_ ?_ ?_
            · refine ⟨by omega, by omega, by omega, fun c hc h0 h1 => ?_⟩
              have : c = 2 * i + 1 ∨ c = 2 * i + 2 := by omega
              rcases this with rfl | rfl <;> omega
            · repeat (first | exact sub_nil | refine sub_cons rfl ?_)
            · exact inferInstance
        · intro j ⟨hj, hj0, hjn, hmin⟩
          refine x_seq (x_seq (x_region (s_val rfl (v_move rfl) (s_val rfl (v_move rfl) (s_val rfl (v_move rfl) ?_)))))
          refine s_do rfl (d_invoke1 rfl ((fun w => m_less w _)) Tryz.call205 rfl (rowLess_spec W0 _ b l tl j i (by omega) (by omega))) ?_
          rintro _ B_ ⟨rfl, hB_⟩
          obtain rfl := hB_.symm
          refine s_val rfl (v_not rfl) (x_nil (n_then ?_))
          refine x_if rfl ?_ ?_
          · intro c8
            refine x_exit (e_then (e_block_ne rfl (e_then (e_block (n_then (x_seq (x_region (s_val rfl (v_move rfl) (s_val rfl (v_move rfl) (s_val rfl (v_gtr rfl rfl) (s_val rfl (v_assign rfl) (x_nil (n_then (x_ret (x_done (.inl rfl) (.cons (r_tmp rfl) .nil) ?_)))))))))))))))
            refine ⟨_, ⟨l, decide (i0 < i), by simp [pack], rfl, down_done hp hi0 hl ht he hg ?_⟩, inferInstance⟩
            first | (intro c hc h0 h1; exfalso; omega) | (intro c hc h0 h1; have := hmin c hc h0 h1; simp at c8; omega)
          · intro c8
            replace c8 : us l j < us l i := by simpa using c8
            refine x_skip (n_then (x_seq (x_region (s_val rfl (v_move rfl) (s_val rfl (v_move rfl) (s_val rfl (v_move rfl) ?_))))))
            refine s_do rfl (d_invoke1 rfl ((fun w => m_swap w _)) Tryz.call208 rfl (rowSwap_spec W0 _ b l tl i j (by omega) (by omega))) ?_
            rintro _ B_ ⟨rfl, hB_⟩
            obtain rfl := hB_.symm
            refine x_nil (n_then (x_region (s_val rfl (v_move rfl) (s_val rfl (v_assign rfl) (x_nil (n_block (n_then ?_)))))))
            refine inv_intro (swapL l i j, j) ?_ ?_ ?_ ?_
            · have hs := hole_swap hl (by omega) hjn hj hj0 c8 hmin
              exact ⟨(swapL_perm (by omega) (by omega)).trans hp, by show i0 ≤ j; omega, hs.1, getD_swap_ge (by omega) hjn (by omega) ht, by show j = i0 → _; omega, fun _ => hs.2, by show j ≤ n; omega⟩
            · show n - j < n - i; omega
            · repeat (first | exact sub_nil | refine sub_cons rfl ?_)
            · exact inferInstance
end Go.Proofs.YtllkdnadmmjehaaGreatDoor
namespace Go.Proofs.YtllkdnadmmjehaaGreatDoor
open Go.RowKit
set_option linter.unusedSimpArgs false
set_option linter.unusedVariables false
set_option maxRecDepth 20000
theorem heapFix_spec (W0 : World) (R : List HP) (b : Nat) (its : List It) (tl : List Value) (i : Nat) (hN : its.length < 1000) (hi : i < its.length) (hH : Hole its i its.length) :
    Spec Tryz.prog W0 119 [rowI b, .int .i64 i] (rowH b (its, tl) :: R) (fun v B => v = .tuple #[] ∧ ∃ its', B = rowH b (its', tl) :: R ∧ its'.Perm its ∧ Heap its' its.length) := by
  refine spec_body Tryz.func119 Tryz.ntmps119 rfl rfl ?_
  refine x_seq (x_region (s_val rfl (v_move rfl) (s_val rfl (v_move rfl) (s_val rfl (v_move rfl) ?_))))
  refine s_do rfl (d_invoke1 rfl ((fun w => m_len w _)) Tryz.call121 rfl (rowLen_spec W0 _ b its tl)) ?_
  rintro _ B_ ⟨rfl, hB_⟩
  obtain rfl := hB_.symm
  refine s_do rfl (d_call1 Tryz.call144 rfl (heapDown_spec W0 _ b its tl i its.length (Nat.le_refl _) hN (by omega) hH)) ?_
  rintro _ _ ⟨l, m, rfl, rfl, hD⟩
  refine s_val rfl (v_not rfl) (x_nil (n_then ?_))
  refine x_if rfl ?_ ?_
  · intro c0
    have hm : m = false := by simpa using c0
    obtain ⟨rfl, hmin⟩ := hD.no hm
    refine x_region (s_val rfl (v_move rfl) (s_val rfl (v_move rfl) (s_do rfl (d_call1 Tryz.call145 rfl (heapUp_spec W0 _ b l tl i l.length (Nat.le_refl _) hN hi (hole_up hH hmin))) ?_)))
    rintro _ _ ⟨rfl, l', rfl, hp, hh, _⟩
    refine x_nil (x_done (.inr rfl) .nil ?_)
    exact ⟨_, ⟨rfl, l', rfl, hp, hh⟩, inferInstance⟩
  · intro c0
    refine x_skip (x_done (.inr rfl) .nil ?_)
    exact ⟨_, ⟨rfl, l, rfl, hD.perm, hD.yes (by simpa using c0)⟩, inferInstance⟩
theorem push_up {its : List It} {x : It} (h : Heap its its.length) : Up (its ++ [x]) its.length (its.length + 1) := by
  have e : ∀ c, c < its.length → us (its ++ [x]) c = us its c := fun c hc => by
    unfold us; simp only [List.getD_eq_getElem?_getD]; rw [List.getElem?_append_left hc]
  intro c hc h0
  refine ⟨fun h1 => ?_, fun h1 h2 => by omega⟩
  rw [e c (by omega), e _ (by omega)]; exact h c (by omega) h0
theorem heapPush_spec (W0 : World) (R : List HP) (b : Nat) (its : List It) (x : It) (tl : List Value) (hN : its.length < 900) (hh : Heap its its.length) :
    Spec Tryz.prog W0 120 [rowI b, .iface 167 (.agg (itemV x).toArray)] (rowH b (its, tl) :: R) (fun v B => v = .tuple #[] ∧ ∃ its', B = rowH b (its', tl) :: R ∧ its'.Perm (its ++ [x]) ∧ Heap its' its'.length) := by
  have hl : (its ++ [x]).length = its.length + 1 := by simp
  refine spec_body Tryz.func120 Tryz.ntmps120 rfl rfl ?_
  refine x_seq (x_region (s_val rfl (v_move rfl) (s_val rfl (v_move rfl) ?_)))
  refine s_do rfl (d_invoke1 rfl ((fun w => m_push w _)) Tryz.call207 rfl (rowPush_spec W0 _ b its x tl (by omega))) ?_
  rintro _ B_ ⟨rfl, hB_⟩
  obtain rfl := hB_.symm
  refine x_nil (n_then (x_region (s_val rfl (v_move rfl) (s_val rfl (v_move rfl) ?_))))
  refine s_do rfl (d_invoke1 rfl ((fun w => m_len w _)) Tryz.call121 rfl (rowLen_spec W0 _ b (its ++ [x]) tl)) ?_
  rintro _ B_ ⟨rfl, hB_⟩
  obtain rfl := hB_.symm
  refine s_val rfl (v_sub rfl rfl (by rw [w64 (by omega)]; omega : IntKind.wrap .i64 (((its ++ [x]).length : Nat) - 1 : Int) = ((its.length : Nat) : Int))) ?_
  refine s_do rfl (d_call1 Tryz.call145 rfl (heapUp_spec W0 _ b (its ++ [x]) tl its.length (its.length + 1) (by omega) (by omega) (by omega) (push_up hh))) ?_
  rintro _ _ ⟨rfl, l', rfl, hp, hh', _⟩
  refine x_nil (x_done (.inr rfl) .nil ?_)
  exact ⟨_, ⟨rfl, l', rfl, hp, by rw [hp.length_eq, hl]; exact hh'⟩, inferInstance⟩
theorem last_split {l : List It} {n : Nat} (h : l.length = n + 1) : ∃ l' x, l = l' ++ [x] ∧ l'.length = n ∧ x = l.getD n default := by
  have hne : l ≠ [] := fun e => by rw [e] at h; simp at h
  refine ⟨l.dropLast, l.getLast hne, (List.dropLast_concat_getLast hne).symm, by simp [h], ?_⟩
  rw [List.getLast_eq_getElem]
  simp [List.getD, h]
theorem heap_front {l : List It} {x : It} {n : Nat} (h : Heap (l ++ [x]) n) (hn : n ≤ l.length) : Heap l n :=
  heap_congr (fun i hi => by simp only [List.getD_eq_getElem?_getD]; rw [List.getElem?_append_left (by omega)]) h
theorem heapPop_spec (W0 : World) (R : List HP) (b : Nat) (its : List It) (tl : List Value) (hN : its.length < 900) (h0 : its ≠ []) (hh : Heap its its.length) :
    Spec Tryz.prog W0 122 [rowI b] (rowH b (its, tl) :: R) (fun v B => ∃ x its', v = .iface 167 (.agg (itemV x).toArray) ∧ B = rowH b (its', tl) :: R ∧ (its' ++ [x]).Perm its ∧ Heap its' its'.length ∧ ∀ y ∈ its, x.u ≤ y.u) := by
  obtain ⟨n, hn⟩ : ∃ n, its.length = n + 1 := ⟨its.length - 1, by have := List.length_pos_iff.2 h0; omega⟩
  have hs : Hole (swapL its 0 n) 0 n := fun c hc h0 => ⟨fun h1 h2 => by
    rw [us_swapL (by omega) (by omega), us_swapL (by omega) (by omega), if_neg h2, if_neg h1, if_neg (by omega), if_neg (by omega)]
    exact hh c (by omega) h0, fun _ h => by omega⟩
  have hsl := swapL_length its 0 n
  refine spec_body Tryz.func122 Tryz.ntmps122 rfl rfl ?_
  refine x_seq (x_region (s_val rfl (v_assign rfl) (x_nil (n_then (x_seq (x_region (s_val rfl (v_move rfl) ?_)))))))
  refine s_do rfl (d_invoke1 rfl ((fun w => m_len w _)) Tryz.call121 rfl (rowLen_spec W0 _ b its tl)) ?_
  rintro _ B_ ⟨rfl, hB_⟩
  obtain rfl := hB_.symm
  refine s_val rfl (v_sub rfl rfl (by rw [w64 (by omega)]; omega : IntKind.wrap .i64 ((its.length : Nat) - 1 : Int) = ((n : Nat) : Int))) ?_
  refine s_val rfl (v_assign rfl) (x_nil (n_then (x_seq (x_region (s_val rfl (v_move rfl) (s_val rfl (v_move rfl) ?_))))))
  refine s_do rfl (d_invoke1 rfl ((fun w => m_swap w _)) Tryz.call208 rfl (rowSwap_spec W0 _ b its tl 0 n (by omega) (by omega))) ?_
  rintro _ B_ ⟨rfl, hB_⟩
  obtain rfl := hB_.symm
  refine x_nil (n_then (x_seq (x_region (s_val rfl (v_move rfl) (s_val rfl (v_move rfl) ?_)))))
  refine s_do rfl (d_call1 Tryz.call144 rfl (heapDown_spec W0 _ b (swapL its 0 n) tl 0 n (by omega) (by omega) (by omega) hs)) ?_
  rintro _ _ ⟨l, m, rfl, rfl, hD⟩
  have hll := hD.perm.length_eq
  obtain ⟨l', x, rfl, hl', hx⟩ := last_split (l := l) (n := n) (by omega)
  have hx0 : x = its.getD 0 default := by
    rw [hx, hD.tail n (Nat.le_refl _), getD_swapL (by omega) (by omega)]; split
    · rename_i e; subst e; rfl
    · rw [if_pos rfl]
  have hp : (l' ++ [x]).Perm its := hD.perm.trans (swapL_perm (by omega) (by omega))
  have hH : Heap (l' ++ [x]) n := by
    cases m with
    | true => exact hD.yes rfl
    | false =>
      obtain ⟨e, hmin⟩ := hD.no rfl
      rw [e]; exact hole_heap hs hmin (fun h => absurd h (by omega))
  refine x_nil (n_then (x_seq (x_region (s_val rfl (v_move rfl) ?_))))
  refine s_do rfl (d_invoke1 rfl ((fun w => m_pop w _)) Tryz.call206 rfl (rowPop_spec W0 _ b l' x tl)) ?_
  rintro _ B_ ⟨rfl, hB_⟩
  obtain rfl := hB_.symm
  refine s_val rfl (v_assign rfl) (x_nil (n_then (x_ret (x_done (.inl rfl) (.cons (r_tmp rfl) .nil) ?_))))
  refine ⟨_, ⟨x, l', rfl, rfl, hp, by rw [hl']; exact heap_front hH (by omega), fun y hy => ?_⟩, inferInstance⟩
  obtain ⟨c, hc, rfl⟩ := List.mem_iff_getElem.1 hy
  have := heap_min hh c hc
  rw [us_eq hc] at this
  rw [hx0]; exact this
theorem heapRemove_spec (W0 : World) (R : List HP) (b : Nat) (its : List It) (tl : List Value) (i : Nat) (hN : its.length < 900) (hi : i < its.length) (hh : Heap its its.length) :
    Spec Tryz.prog W0 135 [rowI b, .int .i64 i] (rowH b (its, tl) :: R) (fun v B => ∃ its', v = .iface 167 (.agg (itemV (its.getD i default)).toArray) ∧ B = rowH b (its', tl) :: R ∧ (its' ++ [its.getD i default]).Perm its ∧ Heap its' its'.length) := by
  obtain ⟨n, hn⟩ : ∃ n, its.length = n + 1 := ⟨its.length - 1, by omega⟩
  have hs : i ≠ n → Hole (swapL its i n) i n := fun hin c hc h0 => ⟨fun h1 h2 => by
    rw [us_swapL (by omega) (by omega), us_swapL (by omega) (by omega), if_neg h2, if_neg h1, if_neg (by omega), if_neg (by omega)]
    exact hh c (by omega) h0, fun h1 h2 => by
    rw [us_swapL (by omega) (by omega), us_swapL (by omega) (by omega), if_neg (by omega), if_neg (by omega), if_neg (by omega), if_neg (by omega)]
    have k1 := hh c (by omega) h0
    have k2 := hh i (by omega) h2
    rw [h1] at k1; omega⟩
  have hsl := swapL_length its i n
  have fin : ∀ l : List It, l.Perm its → Heap l n → l.getD n default = its.getD i default → ∃ l', l = l' ++ [its.getD i default] ∧ l'.length = n ∧ Heap l' l'.length := fun l hp hH hx => by
    have := hp.length_eq
    obtain ⟨l', x, rfl, hl', hx'⟩ := last_split (l := l) (n := n) (by omega)
    rw [hx] at hx'; subst hx'
    exact ⟨l', rfl, hl', by rw [hl']; exact heap_front hH (by omega)⟩
  have hend : i ≠ n → (swapL its i n).getD n default = its.getD i default := fun h => by
    rw [getD_swapL (by omega) (by omega), if_neg (by omega), if_pos rfl]
  refine spec_body Tryz.func135 Tryz.ntmps135 rfl rfl ?_
  refine x_seq (x_region (s_val rfl (v_assign rfl) (x_nil (n_then (x_seq (x_region (s_val rfl (v_move rfl) ?_)))))))
  refine s_do rfl (d_invoke1 rfl ((fun w => m_len w _)) Tryz.call121 rfl (rowLen_spec W0 _ b its tl)) ?_
  rintro _ B_ ⟨rfl, hB_⟩
  obtain rfl := hB_.symm
  refine s_val rfl (v_sub rfl rfl (by rw [w64 (by omega)]; omega : IntKind.wrap .i64 ((its.length : Nat) - 1 : Int) = ((n : Nat) : Int))) ?_
  refine s_val rfl (v_assign rfl) (x_nil (n_then (x_seq (x_seq (x_region (s_val rfl (v_move rfl) (s_val rfl (v_move rfl) (s_val rfl (v_neq rfl rfl) (x_nil (n_then ?_))))))))))
  refine x_if rfl ?_ ?_
  · intro c2
    have hin : i ≠ n := by omega
    refine x_seq (x_region (s_val rfl (v_move rfl) (s_val rfl (v_move rfl) (s_val rfl (v_move rfl) ?_))))
    refine s_do rfl (d_invoke1 rfl ((fun w => m_swap w _)) Tryz.call208 rfl (rowSwap_spec W0 _ b its tl i n (by omega) (by omega))) ?_
    rintro _ B_ ⟨rfl, hB_⟩
    obtain rfl := hB_.symm
    refine x_nil (n_then (x_seq (x_region (s_val rfl (v_move rfl) (s_val rfl (v_move rfl) (s_val rfl (v_move rfl) ?_))))))
    refine s_do rfl (d_call1 Tryz.call144 rfl (heapDown_spec W0 _ b (swapL its i n) tl i n (by omega) (by omega) (by omega) (hs hin))) ?_
    rintro _ _ ⟨l, m, rfl, rfl, hD⟩
    have hll := hD.perm.length_eq
    refine s_val rfl (v_not rfl) (x_nil (n_then ?_))
    refine x_if rfl ?_ ?_
    · intro c4
      have hm : m = false := by simpa using c4
      obtain ⟨rfl, hmin⟩ := hD.no hm
      refine x_region (s_val rfl (v_move rfl) (s_val rfl (v_move rfl) ?_))
      refine s_do rfl (d_call1 Tryz.call145 rfl (heapUp_spec W0 _ b (swapL its i n) tl i n (by omega) (by omega) (by omega) (hole_up (hs hin) hmin))) ?_
      rintro _ _ ⟨rfl, l, rfl, hp, hH, ht⟩
      obtain ⟨l', rfl, hl', hH⟩ := fin l (hp.trans (swapL_perm (by omega) (by omega))) hH ((ht n (Nat.le_refl _)).trans (hend hin))
      replace hp := hp.trans (swapL_perm (by omega) (by omega))
      generalize its.getD i default = x at hp ⊢
      refine x_nil (n_then (x_seq (x_region (s_val rfl (v_move rfl) ?_))))
      refine s_do rfl (d_invoke1 rfl ((fun w => m_pop w _)) Tryz.call206 rfl (rowPop_spec W0 _ b l' x tl)) ?_
      rintro _ B_ ⟨rfl, hB_⟩
      obtain rfl := hB_.symm
      refine s_val rfl (v_assign rfl) (x_nil (n_then (x_ret (x_done (.inl rfl) (.cons (r_tmp rfl) .nil) ?_))))
      exact ⟨_, ⟨l', rfl, rfl, by first | exact hp | exact List.Perm.refl _, hH⟩, inferInstance⟩
    · intro c4
      have hm : m = true := by simpa using c4
      obtain ⟨l', rfl, hl', hH⟩ := fin l (hD.perm.trans (swapL_perm (by omega) (by omega))) (hD.yes hm) ((hD.tail n (Nat.le_refl _)).trans (hend hin))
      have hp := hD.perm.trans (swapL_perm (l := its) (i := i) (j := n) (by omega) (by omega))
      generalize its.getD i default = x at hp ⊢
      refine x_skip (n_then (x_seq (x_region (s_val rfl (v_move rfl) ?_))))
      refine s_do rfl (d_invoke1 rfl ((fun w => m_pop w _)) Tryz.call206 rfl (rowPop_spec W0 _ b l' x tl)) ?_
      rintro _ B_ ⟨rfl, hB_⟩
      obtain rfl := hB_.symm
      refine s_val rfl (v_assign rfl) (x_nil (n_then (x_ret (x_done (.inl rfl) (.cons (r_tmp rfl) .nil) ?_))))
      exact ⟨_, ⟨l', rfl, rfl, by first | exact hp | exact List.Perm.refl _, hH⟩, inferInstance⟩
  · intro c2
    obtain rfl : n = i := by omega
    obtain ⟨l', hl, hl', hH⟩ := fin its (List.Perm.refl _) (heap_le hh (by omega)) rfl
    have hp : (l' ++ [its.getD n default]).Perm its := by rw [← hl]
    generalize hx : its.getD n default = x at hl hp ⊢
    rw [hl]
    refine x_skip (n_then (x_seq (x_region (s_val rfl (v_move rfl) ?_))))
    refine s_do rfl (d_invoke1 rfl ((fun w => m_pop w _)) Tryz.call206 rfl (rowPop_spec W0 _ b l' x tl)) ?_
    rintro _ B_ ⟨rfl, hB_⟩
    obtain rfl := hB_.symm
    refine s_val rfl (v_assign rfl) (x_nil (n_then (x_ret (x_done (.inl rfl) (.cons (r_tmp rfl) .nil) ?_))))
    exact ⟨_, ⟨l', rfl, rfl, by first | exact hp | exact List.Perm.refl _, hH⟩, inferInstance⟩
end Go.Proofs.YtllkdnadmmjehaaGreatDoor
namespace Go.Proofs.YtllkdnadmmjehaaGreatDoor
open Go.RowKit
set_option linter.unusedSimpArgs false
set_option linter.unusedVariables false
set_option maxRecDepth 20000
@[reducible] def keyV (k : Int × Int) : List Value := [.int .i64 k.1, .int .i64 k.2]
@[reducible] def entV (e : Int × Int × Int) : List Value := [.int .i64 e.1, .int .i64 e.2.1, .int .i64 e.2.2]
theorem at1_spec (W0 : World) (R : List HP) (x : It) (bk : Nat) (k : Int × Int) :
    Spec Tryz.prog W0 143 [.agg (itemV x).toArray, .pointer (some ⟨bk, 0, none⟩)] (pt bk (cob (keyV k) 64) :: R) (fun v B => v = .bool (decide (x.key = k)) ∧ B = pt bk (cob (keyV k) 64) :: R) := by
  refine spec_body Tryz.func143 Tryz.ntmps143 rfl rfl ?_
  refine x_seq (x_region (s_do rfl (d_boxA rfl) ?_))
  rintro _ _ ⟨b1, rfl, rfl⟩
  refine s_val rfl (v_assign rfl) (x_nil (n_then (x_seq (x_region ?_))))
  refine s_val rfl (v_fieldAddr rfl Tryz.underlying167 rfl Tryz.sizeOf68 rfl (by first | exact Nat.zero_add _ | rfl)) ?_
  refine s_val rfl (v_fieldAddr rfl Tryz.underlying68 rfl Tryz.sizeOf64 rfl (by first | exact Nat.zero_add _ | rfl)) ?_
  refine s_val rfl (v_loadAgg Tryz.isAgg64 Tryz.sizeOf64 rfl (cells_part (vs := [.int .i64 x.kr, .int .i64 x.kp]) rfl rfl) rfl) ?_
  refine s_val rfl (v_loadAgg Tryz.isAgg64 Tryz.sizeOf64 rfl (cells_part (vs := [.int .i64 k.1, .int .i64 k.2]) rfl rfl) rfl) ?_
  refine s_val rfl (v_eql_agg Tryz.eqGuardType64 rfl rfl (q_struct Tryz.underlying64 Tryz.stoodInHeld64 (qf_scal rfl Tryz.isAgg3 rfl rfl (q_int Tryz.underlying3) (qf_scal rfl Tryz.isAgg3 rfl rfl (q_int Tryz.underlying3) qf_nil)))) ?_
  refine s_val rfl (v_assign rfl) (x_nil (n_then (x_ret (x_done (.inl rfl) (.cons (r_tmp rfl) .nil) ?_))))
  refine ⟨_, ⟨?_, rfl⟩, inferInstance⟩
  simp [pack, It.key, Prod.ext_iff]; rw [Bool.eq_iff_iff]; simp
def Found (its : List It) (k : Int × Int) (r : Int) : Prop := (r = -1 ∧ ∀ x ∈ its, x.key ≠ k) ∨ ∃ i : Nat, r = (i : Int) ∧ i < its.length ∧ (its.getD i default).key = k
theorem found_none {its : List It} {k : Int × Int} (h : ∀ i, i < its.length → (its.getD i default).key ≠ k) : ∀ x ∈ its, x.key ≠ k := fun x hx => by
  obtain ⟨c, hc, rfl⟩ := List.mem_iff_getElem.1 hx
  have := h c hc
  simpa [List.getD, hc] using this
theorem indexF_spec (W0 : World) (R : List HP) (its : List It) (a : Option Addr) (c bk : Nat) (k : Int × Int) (hN : its.length < 1000) :
    Spec Tryz.prog W0 142 [.slice a its.length c, .func (.func 143) #[] #[.pointer (some ⟨bk, 0, none⟩)]]
      (osl 167 6 (.slice a its.length c) (its.flatMap itemV) :: pt bk (cob (keyV k) 64) :: R)
      (fun v B => ∃ r, v = .int .i64 r ∧ B = osl 167 6 (.slice a its.length c) (its.flatMap itemV) :: pt bk (cob (keyV k) 64) :: R ∧ Found its k r) := by
  refine spec_osl (fun h1 h2 => ?_) fun g n cap sp h1 h2 h3 h4 h5 => ?_
  · have h0 : its.length = 0 := by have := flat_len itemV_len its; rw [h2] at this; simp at this; omega
    obtain rfl : its = [] := List.eq_nil_of_length_eq_zero h0
    cases h1
    refine spec_body Tryz.func142 Tryz.ntmps142 rfl rfl ?_
    refine x_seq (x_region (s_val rfl (v_assign rfl) (x_nil (n_then (x_seq (x_seq (x_region (s_val rfl (v_move rfl) (s_val rfl (v_len_slice Tryz.underlying164 rfl) (s_val rfl (v_move rfl) (x_nil (n_then (x_block ?_)))))))))))))
    refine x_loop (fun X : Nat => True) (fun X => [(7, .int .i64 0), (8, .int .i64 X)]) (fun X => pt bk (cob (keyV k) 64) :: R) (fun X => X) 0 ?_ ?_ ?_ ?_
    · trivial
    · repeat (first | exact sub_nil | refine sub_cons rfl ?_)
    · exact inferInstance
    · intro j hj
      refine x_seq (x_region (s_val rfl (v_lss rfl rfl) (x_nil (n_then (x_seq ?_)))))
      refine x_if rfl ?_ ?_
      · intro c2
        omega
      · intro c2
        refine x_exit (e_then (e_then (e_block (n_then (x_seq (x_region (s_val rfl (v_assign rfl) (x_nil (n_then (x_ret (x_done (.inl rfl) (.cons (r_tmp rfl) .nil) ?_)))))))))))
        exact ⟨_, ⟨-1, rfl, rfl, .inl ⟨rfl, by simp⟩⟩, ent_osl_nil⟩
  · cases h1
    refine spec_body Tryz.func142 Tryz.ntmps142 rfl rfl ?_
    refine x_seq (x_region (s_val rfl (v_assign rfl) (x_nil (n_then (x_seq (x_seq (x_region (s_val rfl (v_move rfl) (s_val rfl (v_len_slice Tryz.underlying164 rfl) (s_val rfl (v_move rfl) (x_nil (n_then (x_block ?_)))))))))))))
    refine x_loop (fun X : Nat => X ≤ its.length ∧ ∀ i, i < X → (its.getD i default).key ≠ k) (fun X => [(0, .slice (some ⟨g, 0, none⟩) its.length c), (1, .func (.func 143) #[] #[.pointer (some ⟨bk, 0, none⟩)]), (7, .int .i64 (its.length : Nat)), (8, .int .i64 X)]) (fun X => pt g (cob (its.flatMap itemV ++ sp) 167) :: pt bk (cob (keyV k) 64) :: R) (fun X => its.length - X) 0 ?_ ?_ ?_ ?_
    · exact ⟨Nat.zero_le _, fun i h => absurd h (Nat.not_lt_zero _)⟩
    · repeat (first | exact sub_nil | refine sub_cons rfl ?_)
    · exact inferInstance
    · intro j ⟨hj, hno⟩
      refine x_seq (x_region (s_val rfl (v_lss rfl rfl) (x_nil (n_then (x_seq ?_)))))
      refine x_if rfl ?_ ?_
      · intro c2
        refine x_skip (n_then (x_seq (x_block (x_seq (x_region (s_val rfl (v_move rfl) (s_val rfl (v_assign rfl) (x_nil (n_then (x_seq (x_region (s_val rfl (v_move rfl) (s_val rfl (v_move rfl) (s_val rfl (v_move rfl) ?_))))))))))))))
        refine s_val rfl (v_idx Tryz.underlying164 Tryz.sizeOf167 rfl rfl rfl (by omega) (by first | exact Nat.zero_add _ | rfl)) ?_
        refine s_val rfl (v_loadAgg Tryz.isAgg167 Tryz.sizeOf167 rfl (cells_part (item_row its sp j (by omega)) rfl) rfl) ?_
        refine s_do rfl (d_callv1 rfl Tryz.call143 rfl (at1_spec W0 _ (its.getD j default) bk k)) ?_
        rintro _ B_ ⟨rfl, hB_⟩
        obtain rfl := hB_.symm
        refine x_nil (n_then ?_)
        refine x_if rfl ?_ ?_
        · intro c4
          replace c4 : (its.getD j default).key = k := by simpa using c4
          refine x_seq (x_region (s_val rfl (v_move rfl) (s_val rfl (v_assign rfl) (x_nil (n_then (x_ret (r_block (r_then (r_then (r_block (r_then (x_done (.inl rfl) (.cons (r_tmp rfl) .nil) ?_))))))))))))
          exact ⟨_, ⟨_, rfl, rfl, .inr ⟨j, rfl, by omega, c4⟩⟩, ent_osl h2 h3 h4 h5⟩
        · intro c4
          refine x_skip (n_block (n_then (x_region ?_)))
          refine s_val rfl (v_add rfl rfl (by first | exact w64 (by omega) | rfl)) ?_
          refine s_val rfl (v_move rfl) (x_nil (n_then ?_))
          refine inv_intro (j + 1) ?_ ?_ ?_ ?_
          · refine ⟨by omega, fun i hi => ?_⟩
            by_cases e : i = j
            · subst e; simpa using c4
            · exact hno i (by omega)
          · omega
          · repeat (first | exact sub_nil | refine sub_cons rfl ?_)
          · exact inferInstance
      · intro c2
        refine x_exit (e_then (e_then (e_block (n_then (x_seq (x_region (s_val rfl (v_assign rfl) (x_nil (n_then (x_ret (x_done (.inl rfl) (.cons (r_tmp rfl) .nil) ?_)))))))))))
        exact ⟨_, ⟨-1, rfl, rfl, .inl ⟨rfl, found_none fun i hi => hno i (by omega)⟩⟩, ent_osl h2 h3 h4 h5⟩
theorem none_spec (W0 : World) (R : List HP) (b : Nat) (its : List It) (rm nw : Value) :
    Spec Tryz.prog W0 90 [.pointer (some ⟨b, 0, none⟩)] (rowH b (its, [rm, nw, .bool true]) :: R) (fun v B => v = .bool false ∧ B = rowH b (its, [rm, nw, .bool true]) :: R) := by
  refine spec_row fun a c => ?_
  refine spec_body Tryz.func90 Tryz.ntmps90 rfl rfl ?_
  refine x_seq (x_region (s_val rfl (v_assign rfl) (x_nil (n_then (x_seq (x_region (s_val rfl (v_move rfl) (s_val rfl (v_eql_ptr_nil Tryz.underlying94 rfl rfl) (s_val rfl (v_move rfl) ?_)))))))))
  refine s_or rfl rfl rfl ?_ ?_
  · intro g1_3
    cases g1_3
  · intro g1_3
    refine s_val rfl (v_move rfl) (s_yes rfl rfl (s_val rfl (v_nilCheck rfl) (s_yes rfl rfl ?_)))
    refine s_val rfl (v_fieldAddr rfl Tryz.underlying174 rfl Tryz.sizeOf4 rfl (by first | exact Nat.zero_add _ | rfl)) ?_
    refine s_yes rfl rfl (s_val rfl (v_load Tryz.isAgg4 rfl (cell_own rfl)) ?_)
    refine s_yes rfl rfl (s_val rfl (v_not rfl) (s_val rfl (v_pick_f rfl rfl) (s_val rfl (v_assign rfl) (x_nil (n_then (x_ret (x_done (.inl rfl) (.cons (r_tmp rfl) .nil) ?_)))))))
    exact ⟨_, ⟨by simp [pack], rfl⟩, ent_row rfl⟩
theorem tickP_spec (W0 : World) (R : List HP) (b : Nat) (v0 rm : Value) (now : Nat) (hn : now < 1000000) :
    Spec Tryz.prog W0 118 [.pointer (some ⟨b, 0, none⟩)] (pt b (cob [v0, rm, .int .i64 now, .bool true] 174) :: R) (fun v B => v = .int .i64 (now + 1 : Nat) ∧ B = pt b (cob [v0, rm, .int .i64 (now + 1 : Nat), .bool true] 174) :: R) := by
  refine spec_body Tryz.func118 Tryz.ntmps118 rfl rfl ?_
  refine x_seq (x_region (s_val rfl (v_assign rfl) (x_nil (n_then (x_seq (x_region (s_val rfl (v_move rfl) (s_val rfl (v_nilCheck rfl) ?_))))))))
  refine s_val rfl (v_fieldAddr rfl Tryz.underlying174 rfl Tryz.sizeOf3 rfl (by first | exact Nat.zero_add _ | rfl)) ?_
  refine s_val rfl (v_load Tryz.isAgg3 rfl (cell_own rfl)) ?_
  refine s_val rfl (v_add rfl rfl (by rw [w64 (by omega)]; omega : IntKind.wrap .i64 ((now : Int) + 1) = ((now + 1 : Nat) : Int))) ?_
  refine s_val rfl (v_nilCheck rfl) ?_
  refine s_val rfl (v_fieldAddr rfl Tryz.underlying174 rfl Tryz.sizeOf3 rfl (by first | exact Nat.zero_add _ | rfl)) ?_
  refine s_do0 (d_store Tryz.sizeOf3 rfl rfl rfl (Nat.le_of_ble_eq_true rfl) SetL.eq) ?_
  rintro _ _ rfl
  refine x_nil (n_then (x_seq (x_region (s_val rfl (v_move rfl) (s_val rfl (v_nilCheck rfl) ?_)))))
  refine s_val rfl (v_fieldAddr rfl Tryz.underlying174 rfl Tryz.sizeOf3 rfl (by first | exact Nat.zero_add _ | rfl)) ?_
  refine s_val rfl (v_load Tryz.isAgg3 rfl (cell_own rfl)) ?_
  refine s_val rfl (v_assign rfl) (x_nil (n_then (x_ret (x_done (.inl rfl) (.cons (r_tmp rfl) .nil) ?_))))
  exact ⟨_, ⟨rfl, rfl⟩, inferInstance⟩
theorem tick_spec (W0 : World) (R : List HP) (b : Nat) (its : List It) (rm : Value) (now : Nat) (hn : now < 1000000) :
    Spec Tryz.prog W0 118 [.pointer (some ⟨b, 0, none⟩)] (rowH b (its, [rm, .int .i64 now, .bool true]) :: R) (fun v B => v = .int .i64 (now + 1 : Nat) ∧ B = rowH b (its, [rm, .int .i64 (now + 1 : Nat), .bool true]) :: R) := by
  refine spec_row fun a c => spec_post (tickP_spec W0 _ b _ rm now hn) ?_
  rintro _ _ ⟨rfl, rfl⟩
  exact ⟨_, ⟨rfl, rfl⟩, ent_row rfl⟩
theorem at_spec (W0 : World) (R : List HP) (b : Nat) (its : List It) (tl : List Value) (k : Int × Int) (hN : its.length < 1000) :
    Spec Tryz.prog W0 117 [.pointer (some ⟨b, 0, none⟩), .agg (keyV k).toArray] (rowH b (its, tl) :: R) (fun v B => ∃ r, v = .int .i64 r ∧ B = rowH b (its, tl) :: R ∧ Found its k r) := by
  refine spec_row fun a c => ?_
  refine spec_body Tryz.func117 Tryz.ntmps117 rfl rfl ?_
  refine x_seq (x_region (s_do rfl (d_boxA rfl) ?_))
  rintro _ _ ⟨b1, rfl, rfl⟩
  refine s_val rfl (v_assign rfl) (x_nil (n_then (x_seq (x_region (s_val rfl (v_move rfl) (s_val rfl (v_nilCheck rfl) ?_))))))
  refine s_val rfl (v_fieldAddr rfl Tryz.underlying174 rfl Tryz.sizeOf172 rfl (by first | exact Nat.zero_add _ | rfl)) ?_
  refine s_val rfl (v_fieldAddr rfl Tryz.underlying172 rfl Tryz.sizeOf164 rfl (by first | exact Nat.zero_add _ | rfl)) ?_
  refine s_val rfl (v_load Tryz.isAgg164 rfl (cell_own rfl)) ?_
  refine s_val rfl (v_mkFunc rfl rfl) ?_
  refine s_do rfl (d_call2 Tryz.call142 rfl (indexF_spec W0 _ its a c b1 k hN)) ?_
  rintro _ _ ⟨r, rfl, rfl, hf⟩
  refine s_val rfl (v_assign rfl) (x_nil (n_then (x_ret (x_done (.inl rfl) (.cons (r_tmp rfl) .nil) ?_))))
  exact ⟨_, ⟨r, rfl, rfl, hf⟩, ent_row rfl⟩
theorem New_spec (W0 : World) (R : List HP) (room : Nat) (h : room ≤ 4) :
    Spec Tryz.prog W0 61 [.int .i64 room] R (fun v B => ∃ b, v = .tuple #[.pointer (some ⟨b, 0, none⟩), .int .i64 0] ∧ B = rowH b ([], [.int .i64 room, .int .i64 0, .bool true]) :: R) := by
  refine spec_body Tryz.func61 Tryz.ntmps61 rfl rfl ?_
  refine x_seq (x_region (s_val rfl (v_assign rfl) (s_val rfl (v_assign rfl) (x_nil (n_then (x_seq (x_seq (x_region (s_val rfl (v_move rfl) (s_val rfl (v_lss rfl rfl) (s_val rfl (v_move rfl) ?_)))))))))))
  refine s_or rfl rfl rfl ?_ ?_
  · intro g1_3
    omega
  · intro g1_3
    refine s_val rfl (v_move rfl) (s_yes rfl rfl (s_val rfl (v_gtr rfl rfl) (s_val rfl (v_pick_f rfl rfl) (x_nil (n_then ?_)))))
    refine x_if rfl ?_ ?_
    · intro c1
      omega
    · intro c1
      refine x_skip (n_then (x_seq (x_region (s_val rfl (v_move rfl) (s_val rfl (v_build Tryz.underlying174 Tryz.zeroValue174 (sized_cons Tryz.sizeOf172 (sized_cons Tryz.sizeOf3 (sized_cons Tryz.sizeOf3 (sized_cons Tryz.sizeOf4 sized_nil)))) (fil_scal rfl Tryz.sizeOf3 rfl rfl (Nat.le_of_ble_eq_true rfl) SetL.eq (fil_scal rfl Tryz.sizeOf4 rfl rfl (Nat.le_of_ble_eq_true rfl) SetL.eq fil_nil))) ?_)))))
      refine s_do rfl (d_boxA rfl) ?_
      rintro _ _ ⟨b1, rfl, rfl⟩
      refine s_val rfl (v_assign rfl) (s_val rfl (v_assign rfl) (x_nil (n_then (x_ret (x_done (.inl rfl) (.cons (r_tmp rfl) (.cons (r_tmp rfl) .nil)) ?_)))))
      exact ⟨_, ⟨b1, rfl, rfl⟩, (Ent.cons (ent_osl_nil (B := R))).trans (ent_chk (R := R) (C := [_, _]) ⟨none, 0, rfl⟩)⟩
end Go.Proofs.YtllkdnadmmjehaaGreatDoor
namespace Go.Proofs.YtllkdnadmmjehaaGreatDoor
set_option linter.unusedSimpArgs false
set_option linter.unusedVariables false
abbrev Key := Int × Int
abbrev Ent3 := Int × Int × Int
def mkIt (k : Key) (e : Ent3) (u : Int) : It := ⟨k.1, k.2, e.1, e.2.1, e.2.2, u⟩
def without (k : Key) (l : List It) : List It := l.filter (fun x => decide (x.key ≠ k))
theorem mem_without {k : Key} {l : List It} {x : It} : x ∈ without k l ↔ x ∈ l ∧ x.key ≠ k := by simp [without]
theorem without_no {k : Key} {l : List It} (h : ∀ x ∈ l, x.key ≠ k) : without k l = l := List.filter_eq_self.2 fun x hx => by simpa using h x hx
structure Rep (its : List It) (now : Nat) (L : List It) : Prop where
  perm : its.Perm L
  heap : Heap its its.length
  sort : L.Pairwise (fun x y => x.u < y.u)
  le : ∀ x ∈ L, x.u ≤ (now : Int)
  keys : (L.map It.key).Nodup
theorem Rep.nil : Rep [] 0 [] := ⟨List.Perm.nil, fun c hc => by simp at hc, List.Pairwise.nil, fun _ h => by simp at h, List.nodup_nil⟩
theorem Rep.length {its L : List It} {now : Nat} (h : Rep its now L) : its.length = L.length := h.perm.length_eq
theorem Rep.keysI {its L : List It} {now : Nat} (h : Rep its now L) : (its.map It.key).Nodup := (h.perm.map It.key).symm.nodup h.keys
def putBack (k : Key) (x : It) (L : List It) : List It := without k L ++ [x]
theorem sort_putBack {L : List It} {k : Key} {x : It} {now : Nat} (hs : L.Pairwise (fun x y => x.u < y.u)) (hl : ∀ x ∈ L, x.u ≤ (now : Int)) (hx : x.u = (now : Int) + 1) : (putBack k x L).Pairwise (fun x y => x.u < y.u) := by
  refine List.pairwise_append.2 ⟨hs.filter _, List.pairwise_singleton _ _, fun y hy z hz => ?_⟩
  obtain rfl : z = x := by simpa using hz
  have := hl y (mem_without.1 hy).1; omega
theorem keys_putBack {L : List It} {k : Key} {x : It} (h : (L.map It.key).Nodup) (hx : x.key = k) : ((putBack k x L).map It.key).Nodup := by
  unfold putBack
  rw [List.map_append]
  refine List.nodup_append.2 ⟨?_, by simp, fun a ha b hb => ?_⟩
  · exact List.Sublist.nodup (List.Sublist.map _ List.filter_sublist) h
  · obtain rfl : b = x.key := by simpa using hb
    obtain ⟨y, hy, rfl⟩ := List.mem_map.1 ha
    rw [hx]; exact (mem_without.1 hy).2
theorem le_putBack {L : List It} {k : Key} {x : It} {now : Nat} (hl : ∀ x ∈ L, x.u ≤ (now : Int)) (hx : x.u = (now : Int) + 1) : ∀ y ∈ putBack k x L, y.u ≤ ((now + 1 : Nat) : Int) := fun y hy => by
  rcases List.mem_append.1 hy with h | h
  · have := hl y (mem_without.1 h).1; omega
  · obtain rfl : y = x := by simpa using h
    omega
theorem set_perm {its : List It} {k : Key} {i : Nat} {x : It} (hk : (its.map It.key).Nodup) (hi : i < its.length) (he : (its.getD i default).key = k) : (its.set i x).Perm (putBack k x its) := by
  have hg : its.getD i default = its[i] := by simp [List.getD, hi]
  rw [hg] at he
  have e : its = its.take i ++ its[i] :: its.drop (i + 1) := by rw [← List.drop_eq_getElem_cons hi, List.take_append_drop]
  have hs : its.set i x = its.take i ++ x :: its.drop (i + 1) := by rw [List.set_eq_take_append_cons_drop, if_pos hi]
  have hw : without k its = its.take i ++ its.drop (i + 1) := by
    have hn := hk
    rw [e, List.map_append, List.map_cons] at hn
    have hnn := List.nodup_append.1 hn
    have h2 := List.nodup_cons.1 hnn.2.1
    conv => lhs; rw [e]
    unfold without
    rw [List.filter_append, List.filter_cons_of_neg (by simp [he])]
    have h3 := without_no (k := k) (l := its.take i) (fun y hy h => hnn.2.2 y.key (List.mem_map_of_mem hy) its[i].key (by simp) (by rw [h, he]))
    have h4 := without_no (k := k) (l := its.drop (i + 1)) (fun y hy h => h2.1 (by rw [he, ← h]; exact List.mem_map_of_mem hy))
    unfold without at h3 h4
    rw [h3, h4]
  rw [hs, putBack, hw]
  exact List.perm_middle.trans (List.perm_append_singleton x _).symm
theorem Rep.setI {its its' L : List It} {now i : Nat} {k : Key} {x : It} (h : Rep its now L) (hi : i < its.length) (he : (its.getD i default).key = k) (hx : x.key = k) (hu : x.u = (now : Int) + 1)
    (hp : its'.Perm (its.set i x)) (hh : Heap its' its'.length) : Rep its' (now + 1) (putBack k x L) :=
  ⟨hp.trans ((set_perm h.keysI hi he).trans ((h.perm.filter _).append_right _)), hh, sort_putBack h.sort h.le hu, le_putBack h.le hu, keys_putBack h.keys hx⟩
def findK (k : Key) (L : List It) : Option It := L.find? (fun x => decide (x.key = k))
theorem Rep.noneI {its L : List It} {now : Nat} {k : Key} (h : Rep its now L) (hn : ∀ x ∈ its, x.key ≠ k) : findK k L = none ∧ without k L = L :=
  ⟨List.find?_eq_none.2 fun x hx => by simpa using hn x (h.perm.mem_iff.2 hx), without_no fun x hx => hn x (h.perm.mem_iff.2 hx)⟩
theorem find_mem {L : List It} {k : Key} {y : It} (h : findK k L = some y) : y ∈ L ∧ y.key = k := ⟨List.mem_of_find?_eq_some h, by simpa using List.find?_some h⟩
theorem find_uniq {L : List It} {k : Key} {y : It} (hk : (L.map It.key).Nodup) (hy : y ∈ L) (he : y.key = k) : findK k L = some y := by
  cases hf : findK k L with
  | none => exact absurd he (by simpa using List.find?_eq_none.1 hf y hy)
  | some z =>
    obtain ⟨hz, hz'⟩ := find_mem hf
    have : z = y := by
      clear hf
      induction L with
      | nil => simp at hy
      | cons a L ih =>
        simp only [List.map_cons, List.nodup_cons] at hk
        rcases List.mem_cons.1 hy with e1 | hy1
        · rcases List.mem_cons.1 hz with e2 | hz1
          · rw [e1, e2]
          · subst e1; exact absurd (List.mem_map_of_mem (f := It.key) hz1) (by rw [hz', ← he]; exact hk.1)
        · rcases List.mem_cons.1 hz with e2 | hz1
          · subst e2; exact absurd (List.mem_map_of_mem (f := It.key) hy1) (by rw [he, ← hz']; exact hk.1)
          · exact ih hk.2 hy1 hz1
    rw [this]
theorem Rep.someI {its L : List It} {now i : Nat} {k : Key} (h : Rep its now L) (hi : i < its.length) (he : (its.getD i default).key = k) : findK k L = some (its.getD i default) := by
  have hg : its.getD i default = its[i] := by simp [List.getD, hi]
  refine find_uniq h.keys (h.perm.mem_iff.1 ?_) he
  rw [hg]; exact List.getElem_mem hi
theorem Rep.dropI {its its' L : List It} {now : Nat} {k : Key} {y : It} (h : Rep its now L) (he : y.key = k) (hp : (its' ++ [y]).Perm its) (hh : Heap its' its'.length) : Rep its' now (without k L) := by
  have hn : ((its' ++ [y]).map It.key).Nodup := (hp.map _).symm.nodup h.keysI
  rw [List.map_append] at hn
  have h1 := List.nodup_append.1 hn
  have e : without k (its' ++ [y]) = its' := by
    unfold without
    rw [List.filter_append, List.filter_cons_of_neg (by simp [he])]
    have := without_no (k := k) (l := its') (fun x hx h => h1.2.2 x.key (List.mem_map_of_mem hx) y.key (by simp) (by rw [h, he]))
    unfold without at this
    rw [this]; simp
  refine ⟨?_, hh, h.sort.filter _, fun x hx => h.le x (mem_without.1 hx).1, List.Sublist.nodup (List.Sublist.map _ List.filter_sublist) h.keys⟩
  have := (hp.trans h.perm).filter (fun x => decide (x.key ≠ k))
  rw [← e]; exact this
theorem Rep.pushI {its its' L : List It} {now : Nat} {k : Key} {x : It} (h : Rep its now L) (hn : ∀ y ∈ its, y.key ≠ k) (hx : x.key = k) (hu : x.u = (now : Int) + 1) (hp : its'.Perm (its ++ [x])) (hh : Heap its' its'.length) : Rep its' (now + 1) (putBack k x L) :=
  ⟨by unfold putBack; rw [(h.noneI hn).2]; exact hp.trans (h.perm.append_right _), hh, sort_putBack h.sort h.le hu, le_putBack h.le hu, keys_putBack h.keys hx⟩
theorem Rep.popI {its its' L : List It} {now : Nat} {y : It} (h : Rep its now L) (hp : (its' ++ [y]).Perm its) (hh : Heap its' its'.length) (hmin : ∀ z ∈ its, y.u ≤ z.u) : Rep its' now L.tail := by
  have hyL : y ∈ L := (hp.trans h.perm).mem_iff.1 (by simp)
  cases L with
  | nil => simp at hyL
  | cons z T =>
    have hs := List.pairwise_cons.1 h.sort
    have hyz : y = z := by
      rcases List.mem_cons.1 hyL with e | hy
      · exact e
      · have h1 := hs.1 y hy
        have h2 := hmin z (h.perm.mem_iff.2 (by simp))
        omega
    subst hyz
    have hpT : (y :: its').Perm (y :: T) := (List.perm_append_singleton y its').symm.trans (hp.trans h.perm)
    exact ⟨List.Perm.cons_inv hpT, hh, hs.2, fun x hx => h.le x (List.mem_cons_of_mem _ hx), (List.nodup_cons.1 (by simpa using h.keys)).2⟩
def putL (room now : Nat) (k : Key) (e : Ent3) (L : List It) : List It :=
  if room < (putBack k (mkIt k e (now + 1 : Nat)) L).length then (putBack k (mkIt k e (now + 1 : Nat)) L).tail else putBack k (mkIt k e (now + 1 : Nat)) L
def getL (now : Nat) (k : Key) (L : List It) : List It := match findK k L with | none => L | some y => putBack k (mkIt k y.ent (now + 1 : Nat)) L
theorem without_le (k : Key) (L : List It) : (without k L).length ≤ L.length := List.length_filter_le _ _
theorem putBack_len (k : Key) (x : It) (L : List It) : (putBack k x L).length = (without k L).length + 1 := by simp [putBack]
theorem without_lt {k : Key} {L : List It} {y : It} (h : findK k L = some y) : (without k L).length < L.length := by
  obtain ⟨h1, h2⟩ := find_mem h
  exact List.length_filter_lt_length_iff_exists.2 ⟨y, h1, by simpa using h2⟩
theorem putL_len {room now : Nat} {k : Key} {e : Ent3} {L : List It} (h : L.length ≤ room) : (putL room now k e L).length ≤ room := by
  have h1 := without_le k L
  unfold putL; split
  · rw [List.length_tail, putBack_len]; omega
  · rename_i h2; omega
theorem getL_len {now : Nat} {k : Key} {L : List It} : (getL now k L).length ≤ L.length := by
  unfold getL; split
  · exact Nat.le_refl _
  · rename_i y hy; rw [putBack_len]; exact without_lt hy
end Go.Proofs.YtllkdnadmmjehaaGreatDoor
namespace Go.Proofs.YtllkdnadmmjehaaGreatDoor
open Go.RowKit
set_option linter.unusedSimpArgs false
set_option linter.unusedVariables false
set_option maxRecDepth 20000
@[reducible] def tlV (room now : Nat) : List Value := [.int .i64 room, .int .i64 now, .bool true]
theorem Put_spec18 (W0 : World) (R : List HP) (b : Nat) (its : List It) (room now : Nat) (L : List It) (k : Key) (e : Ent3) (hR : Rep its now L) (hL : L.length ≤ room) (hr : room ≤ 4) (hn : now < 1000000) :
    Spec Tryz.prog W0 80 [.pointer (some ⟨b, 0, none⟩), .agg (keyV k).toArray, .agg (entV e).toArray] (rowH b (its, tlV room now) :: R)
      (fun v B => v = .int .i64 0 ∧ ∃ its', B = rowH b (its', tlV room (now + 1)) :: R ∧ Rep its' (now + 1) (putL room now k e L)) := by
  have hlen := hR.length
  refine spec_body Tryz.func80 Tryz.ntmps80 rfl rfl ?_
  refine x_seq (x_region (s_do rfl (d_boxA rfl) ?_))
  rintro _ _ ⟨b1, rfl, rfl⟩
  refine s_do rfl (d_boxA rfl) ?_
  rintro _ _ ⟨b2, rfl, rfl⟩
  refine s_val rfl (v_assign rfl) (x_nil (n_then (x_seq (x_seq (x_region (s_val rfl (v_move rfl) (s_do rfl (d_call1 Tryz.call90 rfl (none_spec W0 _ b its _ _)) ?_)))))))
  rintro _ B_ ⟨rfl, hB_⟩
  obtain rfl := hB_.symm
  refine x_nil (n_then ?_)
  refine x_if rfl ?_ ?_
  · intro c1
    exact absurd c1 (by decide)
  · intro c1
    refine x_skip (n_then (x_seq ?_))
    refine x_draw [(b1, 0, _), (b2, 0, _)] 8 mixed rfl (sc_own (sc_own sc_end)) (fun hS => ?_)
    refine d_take 0 rfl rfl (by kernel_rfl) (by kernel_rfl) (by kernel_rfl) rfl hS (v_loadAgg Tryz.isAgg64 Tryz.sizeOf64 rfl (by first | exact cells_sc (k := 0) rfl | exact cells_sc (k := 1) rfl) rfl) ?_
    refine d_take 1 rfl rfl (by kernel_rfl) (by kernel_rfl) (by kernel_rfl) rfl hS (v_loadAgg Tryz.isAgg66 Tryz.sizeOf66 rfl (by first | exact cells_sc (k := 0) rfl | exact cells_sc (k := 1) rfl) rfl) ?_
    refine d_take 2 rfl rfl (by kernel_rfl) (by kernel_rfl) (by kernel_rfl) rfl hS (v_build Tryz.underlying68 Tryz.zeroValue68 (sized_cons Tryz.sizeOf64 (sized_cons Tryz.sizeOf66 sized_nil)) (fil_agg rfl Tryz.sizeOf64 rfl rfl (Nat.le_of_ble_eq_true rfl) SetRL.eq (fil_agg rfl Tryz.sizeOf66 rfl rfl (Nat.le_of_ble_eq_true rfl) SetRL.eq fil_nil))) ?_
    refine d_take 3 rfl rfl (by kernel_rfl) (by kernel_rfl) (by kernel_rfl) rfl hS (v_move rfl) ?_
    refine d_all (is := [4, 6]) (by kernel_rfl) rfl ⟨?_, ?_, trivial⟩
    · skip
      refine dx_one rfl rfl (d_call1 Tryz.call118 rfl (tick_spec W0 _ b its _ now hn)) rfl ?_; clear hS
      rintro _ B_ ⟨rfl, hB_⟩
      obtain rfl := hB_.symm
      refine ⟨(sc_own (sc_own sc_end)), fun hS => ?_⟩
      refine d_take 5 rfl rfl (by kernel_rfl) (by kernel_rfl) (by kernel_rfl) rfl hS (v_build Tryz.underlying167 Tryz.zeroValue167 (sized_cons Tryz.sizeOf68 (sized_cons Tryz.sizeOf3 sized_nil)) (fil_agg rfl Tryz.sizeOf68 rfl rfl (Nat.le_of_ble_eq_true rfl) SetRL.eq (fil_scal rfl Tryz.sizeOf3 rfl rfl (Nat.le_of_ble_eq_true rfl) SetL.eq fil_nil))) ?_
      refine d_one 6 (by kernel_rfl) rfl rfl (d_allocA Tryz.zeroValue167) rfl ?_; clear hS
      rintro _ _ ⟨b3, rfl, rfl⟩
      refine ⟨(sc_own (sc_own sc_end)), fun hS => ?_⟩
      refine d_one 7 (by kernel_rfl) rfl rfl (d_storeAll Tryz.sizeOf167 rfl rfl rfl rfl rfl) rfl ?_; clear hS
      rintro _ _ rfl
      refine ⟨(sc_own (sc_own sc_end)), fun hS => ?_⟩
      refine d_done (by kernel_rfl) ?_; clear hS
      refine n_then (x_seq (x_seq (x_region (s_val rfl (v_move rfl) (s_val rfl (v_loadAll Tryz.isAgg64 Tryz.sizeOf64 rfl rfl) ?_)))))
      refine s_do rfl (d_call1 Tryz.call117 rfl (at_spec W0 _ b its _ k (by omega))) ?_
      rintro _ _ ⟨r, rfl, rfl, hf⟩
      refine s_val rfl (v_assign rfl) (x_nil (n_then (x_seq (x_region (s_val rfl (v_move rfl) (s_val rfl (v_geq rfl rfl) (x_nil (n_then ?_))))))))
      refine x_if rfl ?_ ?_
      · intro c5
        obtain ⟨i, rfl, hi, hk⟩ : ∃ i : Nat, r = (i : Int) ∧ i < its.length ∧ (its.getD i default).key = k := by
          rcases hf with ⟨h, _⟩ | h
          · omega
          · exact h
        refine x_seq ?_
        refine run_rowN (b := b) (pos_ne hi) fun g c sp h1 h2 h3 => ?_
        refine x_draw [(b, 0, _), (b3, 0, _)] 9 mixed rfl (sc_own (sc_own sc_end)) (fun hS => ?_)
        refine d_take 0 rfl rfl (by kernel_rfl) (by kernel_rfl) (by kernel_rfl) rfl hS (v_move rfl) ?_
        refine d_take 1 rfl rfl (by kernel_rfl) (by kernel_rfl) (by kernel_rfl) rfl hS (v_nilCheck rfl) ?_
        refine d_take 2 rfl rfl (by kernel_rfl) (by kernel_rfl) (by kernel_rfl) rfl hS (v_fieldAddr rfl Tryz.underlying174 rfl Tryz.sizeOf172 rfl (by first | exact Nat.zero_add _ | rfl)) ?_
        refine d_take 3 rfl rfl (by kernel_rfl) (by kernel_rfl) (by kernel_rfl) rfl hS (v_fieldAddr rfl Tryz.underlying172 rfl Tryz.sizeOf164 rfl (by first | exact Nat.zero_add _ | rfl)) ?_
        refine d_take 4 rfl rfl (by kernel_rfl) (by kernel_rfl) (by kernel_rfl) rfl hS (v_load Tryz.isAgg164 rfl (by first | exact cell_sc0 (k := 0) rfl rfl | exact cell_sc0 (k := 1) rfl rfl)) ?_
        refine d_take 5 rfl rfl (by kernel_rfl) (by kernel_rfl) (by kernel_rfl) rfl hS (v_move rfl) ?_
        refine d_take 6 rfl rfl (by kernel_rfl) (by kernel_rfl) (by kernel_rfl) rfl hS (v_loadAgg Tryz.isAgg167 Tryz.sizeOf167 rfl (by first | exact cells_sc (k := 0) rfl | exact cells_sc (k := 1) rfl) rfl) ?_
        refine d_take 7 rfl rfl (by kernel_rfl) (by kernel_rfl) (by kernel_rfl) rfl hS (v_idx Tryz.underlying164 Tryz.sizeOf167 rfl rfl rfl hi (by first | exact Nat.zero_add _ | rfl)) ?_
        refine d_one 8 (by kernel_rfl) rfl rfl (d_storeAgg Tryz.sizeOf167 rfl rfl rfl rfl (item_bd its sp i hi) (item_set its sp i (mkIt k e (now + 1 : Nat)) hi)) rfl ?_; clear hS
        rintro _ _ rfl
        refine ⟨(sc_own (sc_own sc_end)), fun hS => ?_⟩
        refine d_done (by kernel_rfl) ?_; clear hS
        refine n_then (x_seq ?_)
        refine run_shut (b := b) (its := its.set i (mkIt k e (now + 1 : Nat))) rfl (by simp) h1 h2 (by simpa [flat_len itemV_len] using h3) ?_
        refine x_region (s_val rfl (v_move rfl) (s_val rfl (v_nilCheck rfl) ?_))
        refine s_val rfl (v_fieldAddr rfl Tryz.underlying174 rfl Tryz.sizeOf172 rfl (by first | exact Nat.zero_add _ | rfl)) ?_
        refine s_val rfl (v_mkI Tryz.underlying196 (fun _ h => nomatch h) rfl) ?_
        refine s_val rfl (v_move rfl) ?_
        refine s_do rfl (d_call1 Tryz.call119 rfl (heapFix_spec W0 _ b (its.set i (mkIt k e (now + 1 : Nat))) _ i (by simp; omega) (by simpa using hi) (by rw [List.length_set]; exact set_hole hR.heap hi))) ?_
        rintro _ _ ⟨rfl, its', rfl, hp, hh⟩
        refine x_nil (n_then (x_seq (x_region (s_val rfl (v_assign rfl) (x_nil (n_then (x_ret (r_then (x_done (.inl rfl) (.cons (r_tmp rfl) .nil) ?_)))))))))
        refine ⟨_, ⟨rfl, its', rfl, ?_⟩, inferInstance⟩
        have hlt := without_lt (hR.someI hi hk)
        rw [putL, if_neg (by rw [putBack_len]; omega)]
        exact hR.setI hi hk rfl (by simp [mkIt]) hp (by rw [hp.length_eq]; exact hh)
      · intro c5
        have hno : ∀ x ∈ its, x.key ≠ k := by
          rcases hf with ⟨_, h⟩ | ⟨i, h, _⟩
          · exact h
          · omega
        refine x_skip (n_then (x_seq ?_))
        refine x_draw [(b3, 0, _)] 7 mixed rfl (sc_own sc_end) (fun hS => ?_)
        refine d_take 0 rfl rfl (by kernel_rfl) (by kernel_rfl) (by kernel_rfl) rfl hS (v_move rfl) ?_
        refine d_take 1 rfl rfl (by kernel_rfl) (by kernel_rfl) (by kernel_rfl) rfl hS (v_nilCheck rfl) ?_
        refine d_take 2 rfl rfl (by kernel_rfl) (by kernel_rfl) (by kernel_rfl) rfl hS (v_fieldAddr rfl Tryz.underlying174 rfl Tryz.sizeOf172 rfl (by first | exact Nat.zero_add _ | rfl)) ?_
        refine d_take 3 rfl rfl (by kernel_rfl) (by kernel_rfl) (by kernel_rfl) rfl hS (v_mkI Tryz.underlying196 (fun _ h => nomatch h) rfl) ?_
        refine d_take 4 rfl rfl (by kernel_rfl) (by kernel_rfl) (by kernel_rfl) rfl hS (v_loadAgg Tryz.isAgg167 Tryz.sizeOf167 rfl (cells_sc (k := 0) rfl) rfl) ?_
        refine d_take 5 rfl rfl (by kernel_rfl) (by kernel_rfl) (by kernel_rfl) rfl hS (v_mkI Tryz.underlying167 (fun _ h => nomatch h) rfl) ?_
        refine d_one 6 (by kernel_rfl) rfl rfl (d_call1 Tryz.call120 rfl (heapPush_spec W0 _ b its (mkIt k e (now + 1 : Nat)) _ (by omega) hR.heap)) rfl ?_; clear hS
        rintro _ _ ⟨rfl, its1, rfl, hp, hh⟩
        have hR1 := hR.pushI hno (x := mkIt k e (now + 1 : Nat)) rfl (by simp [mkIt]) hp hh
        have hlen1 := hR1.length
        have hpl : its1.length = its.length + 1 := by rw [hp.length_eq]; simp
        refine ⟨(sc_own sc_end), fun hS => ?_⟩
        refine d_done (by kernel_rfl) ?_; clear hS
        refine n_then (x_seq (x_seq ?_))
        refine x_draw [(b, 1, tlV room (now + 1))] 9 mixed rfl (sc_cons cells_row sc_end) (fun hS => ?_)
        refine d_take 0 rfl rfl (by kernel_rfl) (by kernel_rfl) (by kernel_rfl) rfl hS (v_move rfl) ?_
        refine d_take 1 rfl rfl (by kernel_rfl) (by kernel_rfl) (by kernel_rfl) rfl hS (v_nilCheck rfl) ?_
        refine d_take 2 rfl rfl (by kernel_rfl) (by kernel_rfl) (by kernel_rfl) rfl hS (v_fieldAddr rfl Tryz.underlying174 rfl Tryz.sizeOf172 rfl (by first | exact Nat.zero_add _ | rfl)) ?_
        refine d_take 4 rfl rfl (by kernel_rfl) (by kernel_rfl) (by kernel_rfl) rfl hS (v_move rfl) ?_
        refine d_take 5 rfl rfl (by kernel_rfl) (by kernel_rfl) (by kernel_rfl) rfl hS (v_nilCheck rfl) ?_
        refine d_take 6 rfl rfl (by kernel_rfl) (by kernel_rfl) (by kernel_rfl) rfl hS (v_fieldAddr rfl Tryz.underlying174 rfl Tryz.sizeOf3 rfl (by first | exact Nat.zero_add _ | rfl)) ?_
        refine d_take 7 rfl rfl (by kernel_rfl) (by kernel_rfl) (by kernel_rfl) rfl hS (v_load Tryz.isAgg3 rfl (cell_sc (k := 0) (j := 0) rfl rfl)) ?_
        refine d_one 3 (by kernel_rfl) rfl rfl (d_call1 Tryz.call121 rfl (rowLen_spec W0 _ b its1 _)) rfl ?_; clear hS
        rintro _ B_ ⟨rfl, hB_⟩
        obtain rfl := hB_.symm
        refine ⟨(sc_cons cells_row sc_end), fun hS => ?_⟩
        refine d_take 8 rfl rfl (by kernel_rfl) (by kernel_rfl) (by kernel_rfl) rfl hS (v_gtr rfl rfl) ?_
        refine d_done (by kernel_rfl) ?_; clear hS
        refine n_then ?_
        refine x_if rfl ?_ ?_
        · intro c10
          refine x_region (s_val rfl (v_move rfl) (s_val rfl (v_nilCheck rfl) ?_))
          refine s_val rfl (v_fieldAddr rfl Tryz.underlying174 rfl Tryz.sizeOf172 rfl (by first | exact Nat.zero_add _ | rfl)) ?_
          refine s_val rfl (v_mkI Tryz.underlying196 (fun _ h => nomatch h) rfl) ?_
          refine s_do rfl (d_call1 Tryz.call122 rfl (heapPop_spec W0 _ b its1 _ (by omega) (pos_ne (i := 0) (by omega)) hh)) ?_
          rintro _ _ ⟨y, its2, rfl, rfl, hp2, hh2, hmin⟩
          have hfin : Rep its2 (now + 1) (putL room now k e L) := by
            rw [putL, if_pos (by omega)]; exact hR1.popI hp2 hh2 hmin
          refine x_nil (n_then (x_seq (x_region (s_val rfl (v_assign rfl) (x_nil (n_then (x_ret (x_done (.inl rfl) (.cons (r_tmp rfl) .nil) ?_))))))))
          exact ⟨_, ⟨rfl, _, rfl, hfin⟩, inferInstance⟩
        · intro c10
          have hfin : Rep its1 (now + 1) (putL room now k e L) := by
            rw [putL, if_neg (by omega)]; exact hR1
          refine x_skip (n_then (x_seq (x_region (s_val rfl (v_assign rfl) (x_nil (n_then (x_ret (x_done (.inl rfl) (.cons (r_tmp rfl) .nil) ?_))))))))
          exact ⟨_, ⟨rfl, _, rfl, hfin⟩, inferInstance⟩
    · skip
      refine dx_one rfl rfl (d_allocA Tryz.zeroValue167) rfl ?_; clear hS
      rintro _ _ ⟨b3, rfl, rfl⟩
      refine ⟨(sc_own (sc_own sc_end)), fun hS => ?_⟩
      refine d_one 4 (by kernel_rfl) rfl rfl (d_call1 Tryz.call118 rfl (tick_spec W0 _ b its _ now hn)) rfl ?_; clear hS
      rintro _ B_ ⟨rfl, hB_⟩
      obtain rfl := hB_.symm
      refine ⟨(sc_own (sc_own sc_end)), fun hS => ?_⟩
      refine d_take 5 rfl rfl (by kernel_rfl) (by kernel_rfl) (by kernel_rfl) rfl hS (v_build Tryz.underlying167 Tryz.zeroValue167 (sized_cons Tryz.sizeOf68 (sized_cons Tryz.sizeOf3 sized_nil)) (fil_agg rfl Tryz.sizeOf68 rfl rfl (Nat.le_of_ble_eq_true rfl) SetRL.eq (fil_scal rfl Tryz.sizeOf3 rfl rfl (Nat.le_of_ble_eq_true rfl) SetL.eq fil_nil))) ?_
      refine d_one 7 (by kernel_rfl) rfl rfl (d_storeAll Tryz.sizeOf167 rfl rfl rfl rfl rfl) rfl ?_; clear hS
      rintro _ _ rfl
      refine ⟨(sc_own (sc_own sc_end)), fun hS => ?_⟩
      refine d_done (by kernel_rfl) ?_; clear hS
      refine n_then (x_seq (x_seq (x_region (s_val rfl (v_move rfl) (s_val rfl (v_loadAll Tryz.isAgg64 Tryz.sizeOf64 rfl rfl) ?_)))))
      refine s_do rfl (d_call1 Tryz.call117 rfl (at_spec W0 _ b its _ k (by omega))) ?_
      rintro _ _ ⟨r, rfl, rfl, hf⟩
      refine s_val rfl (v_assign rfl) (x_nil (n_then (x_seq (x_region (s_val rfl (v_move rfl) (s_val rfl (v_geq rfl rfl) (x_nil (n_then ?_))))))))
      refine x_if rfl ?_ ?_
      · intro c5
        obtain ⟨i, rfl, hi, hk⟩ : ∃ i : Nat, r = (i : Int) ∧ i < its.length ∧ (its.getD i default).key = k := by
          rcases hf with ⟨h, _⟩ | h
          · omega
          · exact h
        refine x_seq ?_
        refine run_rowN (b := b) (pos_ne hi) fun g c sp h1 h2 h3 => ?_
        refine x_draw [(b, 0, _), (b3, 0, _)] 9 mixed rfl (sc_own (sc_own sc_end)) (fun hS => ?_)
        refine d_take 0 rfl rfl (by kernel_rfl) (by kernel_rfl) (by kernel_rfl) rfl hS (v_move rfl) ?_
        refine d_take 1 rfl rfl (by kernel_rfl) (by kernel_rfl) (by kernel_rfl) rfl hS (v_nilCheck rfl) ?_
        refine d_take 2 rfl rfl (by kernel_rfl) (by kernel_rfl) (by kernel_rfl) rfl hS (v_fieldAddr rfl Tryz.underlying174 rfl Tryz.sizeOf172 rfl (by first | exact Nat.zero_add _ | rfl)) ?_
        refine d_take 3 rfl rfl (by kernel_rfl) (by kernel_rfl) (by kernel_rfl) rfl hS (v_fieldAddr rfl Tryz.underlying172 rfl Tryz.sizeOf164 rfl (by first | exact Nat.zero_add _ | rfl)) ?_
        refine d_take 4 rfl rfl (by kernel_rfl) (by kernel_rfl) (by kernel_rfl) rfl hS (v_load Tryz.isAgg164 rfl (by first | exact cell_sc0 (k := 0) rfl rfl | exact cell_sc0 (k := 1) rfl rfl)) ?_
        refine d_take 5 rfl rfl (by kernel_rfl) (by kernel_rfl) (by kernel_rfl) rfl hS (v_move rfl) ?_
        refine d_take 6 rfl rfl (by kernel_rfl) (by kernel_rfl) (by kernel_rfl) rfl hS (v_loadAgg Tryz.isAgg167 Tryz.sizeOf167 rfl (by first | exact cells_sc (k := 0) rfl | exact cells_sc (k := 1) rfl) rfl) ?_
        refine d_take 7 rfl rfl (by kernel_rfl) (by kernel_rfl) (by kernel_rfl) rfl hS (v_idx Tryz.underlying164 Tryz.sizeOf167 rfl rfl rfl hi (by first | exact Nat.zero_add _ | rfl)) ?_
        refine d_one 8 (by kernel_rfl) rfl rfl (d_storeAgg Tryz.sizeOf167 rfl rfl rfl rfl (item_bd its sp i hi) (item_set its sp i (mkIt k e (now + 1 : Nat)) hi)) rfl ?_; clear hS
        rintro _ _ rfl
        refine ⟨(sc_own (sc_own sc_end)), fun hS => ?_⟩
        refine d_done (by kernel_rfl) ?_; clear hS
        refine n_then (x_seq ?_)
        refine run_shut (b := b) (its := its.set i (mkIt k e (now + 1 : Nat))) rfl (by simp) h1 h2 (by simpa [flat_len itemV_len] using h3) ?_
        refine x_region (s_val rfl (v_move rfl) (s_val rfl (v_nilCheck rfl) ?_))
        refine s_val rfl (v_fieldAddr rfl Tryz.underlying174 rfl Tryz.sizeOf172 rfl (by first | exact Nat.zero_add _ | rfl)) ?_
        refine s_val rfl (v_mkI Tryz.underlying196 (fun _ h => nomatch h) rfl) ?_
        refine s_val rfl (v_move rfl) ?_
        refine s_do rfl (d_call1 Tryz.call119 rfl (heapFix_spec W0 _ b (its.set i (mkIt k e (now + 1 : Nat))) _ i (by simp; omega) (by simpa using hi) (by rw [List.length_set]; exact set_hole hR.heap hi))) ?_
        rintro _ _ ⟨rfl, its', rfl, hp, hh⟩
        refine x_nil (n_then (x_seq (x_region (s_val rfl (v_assign rfl) (x_nil (n_then (x_ret (r_then (x_done (.inl rfl) (.cons (r_tmp rfl) .nil) ?_)))))))))
        refine ⟨_, ⟨rfl, its', rfl, ?_⟩, inferInstance⟩
        have hlt := without_lt (hR.someI hi hk)
        rw [putL, if_neg (by rw [putBack_len]; omega)]
        exact hR.setI hi hk rfl (by simp [mkIt]) hp (by rw [hp.length_eq]; exact hh)
      · intro c5
        have hno : ∀ x ∈ its, x.key ≠ k := by
          rcases hf with ⟨_, h⟩ | ⟨i, h, _⟩
          · exact h
          · omega
        refine x_skip (n_then (x_seq ?_))
        refine x_draw [(b3, 0, _)] 7 mixed rfl (sc_own sc_end) (fun hS => ?_)
        refine d_take 0 rfl rfl (by kernel_rfl) (by kernel_rfl) (by kernel_rfl) rfl hS (v_move rfl) ?_
        refine d_take 1 rfl rfl (by kernel_rfl) (by kernel_rfl) (by kernel_rfl) rfl hS (v_nilCheck rfl) ?_
        refine d_take 2 rfl rfl (by kernel_rfl) (by kernel_rfl) (by kernel_rfl) rfl hS (v_fieldAddr rfl Tryz.underlying174 rfl Tryz.sizeOf172 rfl (by first | exact Nat.zero_add _ | rfl)) ?_
        refine d_take 3 rfl rfl (by kernel_rfl) (by kernel_rfl) (by kernel_rfl) rfl hS (v_mkI Tryz.underlying196 (fun _ h => nomatch h) rfl) ?_
        refine d_take 4 rfl rfl (by kernel_rfl) (by kernel_rfl) (by kernel_rfl) rfl hS (v_loadAgg Tryz.isAgg167 Tryz.sizeOf167 rfl (cells_sc (k := 0) rfl) rfl) ?_
        refine d_take 5 rfl rfl (by kernel_rfl) (by kernel_rfl) (by kernel_rfl) rfl hS (v_mkI Tryz.underlying167 (fun _ h => nomatch h) rfl) ?_
        refine d_one 6 (by kernel_rfl) rfl rfl (d_call1 Tryz.call120 rfl (heapPush_spec W0 _ b its (mkIt k e (now + 1 : Nat)) _ (by omega) hR.heap)) rfl ?_; clear hS
        rintro _ _ ⟨rfl, its1, rfl, hp, hh⟩
        have hR1 := hR.pushI hno (x := mkIt k e (now + 1 : Nat)) rfl (by simp [mkIt]) hp hh
        have hlen1 := hR1.length
        have hpl : its1.length = its.length + 1 := by rw [hp.length_eq]; simp
        refine ⟨(sc_own sc_end), fun hS => ?_⟩
        refine d_done (by kernel_rfl) ?_; clear hS
        refine n_then (x_seq (x_seq ?_))
        refine x_draw [(b, 1, tlV room (now + 1))] 9 mixed rfl (sc_cons cells_row sc_end) (fun hS => ?_)
        refine d_take 0 rfl rfl (by kernel_rfl) (by kernel_rfl) (by kernel_rfl) rfl hS (v_move rfl) ?_
        refine d_take 1 rfl rfl (by kernel_rfl) (by kernel_rfl) (by kernel_rfl) rfl hS (v_nilCheck rfl) ?_
        refine d_take 2 rfl rfl (by kernel_rfl) (by kernel_rfl) (by kernel_rfl) rfl hS (v_fieldAddr rfl Tryz.underlying174 rfl Tryz.sizeOf172 rfl (by first | exact Nat.zero_add _ | rfl)) ?_
        refine d_take 4 rfl rfl (by kernel_rfl) (by kernel_rfl) (by kernel_rfl) rfl hS (v_move rfl) ?_
        refine d_take 5 rfl rfl (by kernel_rfl) (by kernel_rfl) (by kernel_rfl) rfl hS (v_nilCheck rfl) ?_
        refine d_take 6 rfl rfl (by kernel_rfl) (by kernel_rfl) (by kernel_rfl) rfl hS (v_fieldAddr rfl Tryz.underlying174 rfl Tryz.sizeOf3 rfl (by first | exact Nat.zero_add _ | rfl)) ?_
        refine d_take 7 rfl rfl (by kernel_rfl) (by kernel_rfl) (by kernel_rfl) rfl hS (v_load Tryz.isAgg3 rfl (cell_sc (k := 0) (j := 0) rfl rfl)) ?_
        refine d_one 3 (by kernel_rfl) rfl rfl (d_call1 Tryz.call121 rfl (rowLen_spec W0 _ b its1 _)) rfl ?_; clear hS
        rintro _ B_ ⟨rfl, hB_⟩
        obtain rfl := hB_.symm
        refine ⟨(sc_cons cells_row sc_end), fun hS => ?_⟩
        refine d_take 8 rfl rfl (by kernel_rfl) (by kernel_rfl) (by kernel_rfl) rfl hS (v_gtr rfl rfl) ?_
        refine d_done (by kernel_rfl) ?_; clear hS
        refine n_then ?_
        refine x_if rfl ?_ ?_
        · intro c10
          refine x_region (s_val rfl (v_move rfl) (s_val rfl (v_nilCheck rfl) ?_))
          refine s_val rfl (v_fieldAddr rfl Tryz.underlying174 rfl Tryz.sizeOf172 rfl (by first | exact Nat.zero_add _ | rfl)) ?_
          refine s_val rfl (v_mkI Tryz.underlying196 (fun _ h => nomatch h) rfl) ?_
          refine s_do rfl (d_call1 Tryz.call122 rfl (heapPop_spec W0 _ b its1 _ (by omega) (pos_ne (i := 0) (by omega)) hh)) ?_
          rintro _ _ ⟨y, its2, rfl, rfl, hp2, hh2, hmin⟩
          have hfin : Rep its2 (now + 1) (putL room now k e L) := by
            rw [putL, if_pos (by omega)]; exact hR1.popI hp2 hh2 hmin
          refine x_nil (n_then (x_seq (x_region (s_val rfl (v_assign rfl) (x_nil (n_then (x_ret (x_done (.inl rfl) (.cons (r_tmp rfl) .nil) ?_))))))))
          exact ⟨_, ⟨rfl, _, rfl, hfin⟩, inferInstance⟩
        · intro c10
          have hfin : Rep its1 (now + 1) (putL room now k e L) := by
            rw [putL, if_neg (by omega)]; exact hR1
          refine x_skip (n_then (x_seq (x_region (s_val rfl (v_assign rfl) (x_nil (n_then (x_ret (x_done (.inl rfl) (.cons (r_tmp rfl) .nil) ?_))))))))
          exact ⟨_, ⟨rfl, _, rfl, hfin⟩, inferInstance⟩
def getV (k : Key) (L : List It) : Value := match findK k L with
  | none => .tuple #[.agg (entV (0, 0, 0)).toArray, .bool false]
  | some y => .tuple #[.agg (entV y.ent).toArray, .bool true]
theorem Get_spec18 (W0 : World) (R : List HP) (b : Nat) (its : List It) (room now : Nat) (L : List It) (k : Key) (hR : Rep its now L) (hL : L.length ≤ room) (hr : room ≤ 4) (hn : now < 1000000) :
    Spec Tryz.prog W0 75 [.pointer (some ⟨b, 0, none⟩), .agg (keyV k).toArray] (rowH b (its, tlV room now) :: R)
      (fun v B => v = getV k L ∧ ∃ its' now', now' ≤ now + 1 ∧ B = rowH b (its', tlV room now') :: R ∧ Rep its' now' (getL now k L)) := by
  have hlen := hR.length
  refine spec_body Tryz.func75 Tryz.ntmps75 rfl rfl ?_
  refine x_seq (x_region (s_do rfl (d_boxA rfl) ?_))
  rintro _ _ ⟨b1, rfl, rfl⟩
  refine s_do rfl (d_allocA Tryz.zeroValue66) ?_
  rintro _ _ ⟨b2, rfl, rfl⟩
  refine s_val rfl (v_assign rfl) (x_nil (n_then (x_seq (x_seq (x_region (s_val rfl (v_move rfl) (s_do rfl (d_call1 Tryz.call90 rfl (none_spec W0 _ b its _ _)) ?_)))))))
  rintro _ B_ ⟨rfl, hB_⟩
  obtain rfl := hB_.symm
  refine x_nil (n_then ?_)
  refine x_if rfl ?_ ?_
  · intro c1
    exact absurd c1 (by decide)
  · intro c1
    refine x_skip (n_then (x_seq (x_region (s_val rfl (v_move rfl) (s_val rfl (v_loadAll Tryz.isAgg64 Tryz.sizeOf64 rfl rfl) ?_)))))
    refine s_do rfl (d_call1 Tryz.call117 rfl (at_spec W0 _ b its _ k (by omega))) ?_
    rintro _ _ ⟨r, rfl, rfl, hf⟩
    refine s_val rfl (v_assign rfl) (x_nil (n_then (x_seq (x_seq (x_region (s_val rfl (v_move rfl) (s_val rfl (v_lss rfl rfl) (x_nil (n_then ?_)))))))))
    refine x_if rfl ?_ ?_
    · intro c4
      have hno : ∀ x ∈ its, x.key ≠ k := by
        rcases hf with ⟨_, h⟩ | ⟨i, h, _⟩
        · exact h
        · omega
      refine x_seq (x_region (s_val rfl (v_build Tryz.underlying66 Tryz.zeroValue66 (sized_cons Tryz.sizeOf3 (sized_cons Tryz.sizeOf3 (sized_cons Tryz.sizeOf3 sized_nil))) fil_nil) ?_))
      refine s_do0 (d_storeAll Tryz.sizeOf66 rfl rfl rfl rfl rfl) ?_
      rintro _ _ rfl
      refine s_val rfl (v_assign rfl) (x_nil (n_then (x_ret (r_then (x_done (.inl rfl) (.cons (r_all Tryz.isAgg66 Tryz.sizeOf66 rfl rfl) (.cons (r_tmp rfl) .nil)) ?_)))))
      refine ⟨_, ⟨?_, its, now, by omega, rfl, ?_⟩, inferInstance⟩
      · simp [pack, getV, (hR.noneI hno).1]
      · rw [getL, (hR.noneI hno).1]; exact hR
    · intro c4
      obtain ⟨i, rfl, hi, hk⟩ : ∃ i : Nat, r = (i : Int) ∧ i < its.length ∧ (its.getD i default).key = k := by
        rcases hf with ⟨h, _⟩ | h
        · omega
        · exact h
      refine x_skip (n_then (x_seq ?_))
      refine run_rowN (b := b) (pos_ne hi) fun g c sp h1 h2 h3 => ?_
      refine x_region (s_val rfl (v_move rfl) (s_val rfl (v_nilCheck rfl) ?_))
      refine s_val rfl (v_fieldAddr rfl Tryz.underlying174 rfl Tryz.sizeOf172 rfl (by first | exact Nat.zero_add _ | rfl)) ?_
      refine s_val rfl (v_fieldAddr rfl Tryz.underlying172 rfl Tryz.sizeOf164 rfl (by first | exact Nat.zero_add _ | rfl)) ?_
      refine s_val rfl (v_load Tryz.isAgg164 rfl (cell_own rfl)) ?_
      refine s_val rfl (v_move rfl) ?_
      refine s_val rfl (v_idx Tryz.underlying164 Tryz.sizeOf167 rfl rfl rfl hi (by first | exact Nat.zero_add _ | rfl)) ?_
      refine s_val rfl (v_fieldAddr rfl Tryz.underlying167 rfl Tryz.sizeOf68 rfl (by first | exact Nat.zero_add _ | rfl)) ?_
      refine s_val rfl (v_fieldAddr rfl Tryz.underlying68 rfl Tryz.sizeOf66 rfl (by first | exact Nat.zero_add _ | rfl)) ?_
      refine s_val rfl (v_loadAgg Tryz.isAgg66 Tryz.sizeOf66 rfl (cells_part (item_ent its sp i hi) rfl) rfl) ?_
      refine s_do rfl (d_allocA Tryz.zeroValue66) ?_
      rintro _ _ ⟨b3, rfl, rfl⟩
      refine s_do0 (d_storeAll Tryz.sizeOf66 rfl rfl rfl rfl rfl) ?_
      rintro _ _ rfl
      refine x_nil (n_then (x_seq ?_))
      refine x_draw [(b, 0, [.slice (some ⟨g, 0, none⟩) its.length c])] 11 mixed rfl (sc_cons (cells_own rfl) sc_end) (fun hS => ?_)
      refine d_take 0 rfl rfl (by kernel_rfl) (by kernel_rfl) (by kernel_rfl) rfl hS (v_move rfl) ?_
      refine d_take 1 rfl rfl (by kernel_rfl) (by kernel_rfl) (by kernel_rfl) rfl hS (v_nilCheck rfl) ?_
      refine d_take 2 rfl rfl (by kernel_rfl) (by kernel_rfl) (by kernel_rfl) rfl hS (v_fieldAddr rfl Tryz.underlying174 rfl Tryz.sizeOf172 rfl (by first | exact Nat.zero_add _ | rfl)) ?_
      refine d_take 3 rfl rfl (by kernel_rfl) (by kernel_rfl) (by kernel_rfl) rfl hS (v_fieldAddr rfl Tryz.underlying172 rfl Tryz.sizeOf164 rfl (by first | exact Nat.zero_add _ | rfl)) ?_
      refine d_take 4 rfl rfl (by kernel_rfl) (by kernel_rfl) (by kernel_rfl) rfl hS (v_load Tryz.isAgg164 rfl (by first | exact cell_sc0 (k := 0) rfl rfl | exact cell_sc0 (k := 1) rfl rfl)) ?_
      refine d_take 5 rfl rfl (by kernel_rfl) (by kernel_rfl) (by kernel_rfl) rfl hS (v_move rfl) ?_
      refine d_take 6 rfl rfl (by kernel_rfl) (by kernel_rfl) (by kernel_rfl) rfl hS (v_move rfl) ?_
      refine d_one 7 (by kernel_rfl) rfl rfl (d_call1 Tryz.call118 rfl (tickP_spec W0 _ b _ _ now hn)) rfl ?_; clear hS
      rintro _ B_ ⟨rfl, hB_⟩
      obtain rfl := hB_.symm
      refine ⟨(sc_cons (cells_own rfl) sc_end), fun hS => ?_⟩
      refine d_take 8 rfl rfl (by kernel_rfl) (by kernel_rfl) (by kernel_rfl) rfl hS (v_idx Tryz.underlying164 Tryz.sizeOf167 rfl rfl rfl hi (by first | exact Nat.zero_add _ | rfl)) ?_
      refine d_take 9 rfl rfl (by kernel_rfl) (by kernel_rfl) (by kernel_rfl) rfl hS (v_fieldAddr rfl Tryz.underlying167 rfl Tryz.sizeOf3 rfl (by first | exact Nat.zero_add _ | rfl)) ?_
      refine d_one 10 (by kernel_rfl) rfl rfl (d_store Tryz.sizeOf3 rfl rfl rfl (by have := item_bd its sp i hi; omega) (item_set1 its sp i _ hi)) rfl ?_; clear hS
      rintro _ _ rfl
      refine ⟨(sc_cons (cells_own rfl) sc_end), fun hS => ?_⟩
      refine d_done (by kernel_rfl) ?_; clear hS
      refine n_then (x_seq ?_)
      refine run_shut (b := b) (its := its.set i { its.getD i default with u := (now + 1 : Nat) }) rfl (by simp) h1 h2 (by simpa [flat_len itemV_len] using h3) ?_
      refine x_region (s_val rfl (v_move rfl) (s_val rfl (v_nilCheck rfl) ?_))
      refine s_val rfl (v_fieldAddr rfl Tryz.underlying174 rfl Tryz.sizeOf172 rfl (by first | exact Nat.zero_add _ | rfl)) ?_
      refine s_val rfl (v_mkI Tryz.underlying196 (fun _ h => nomatch h) rfl) ?_
      refine s_val rfl (v_move rfl) ?_
      refine s_do rfl (d_call1 Tryz.call119 rfl (heapFix_spec W0 _ b (its.set i { its.getD i default with u := (now + 1 : Nat) }) _ i (by simp; omega) (by simpa using hi) (by rw [List.length_set]; exact set_hole hR.heap hi))) ?_
      rintro _ _ ⟨rfl, its', rfl, hp, hh⟩
      refine x_nil (n_then (x_seq (x_region (s_val rfl (v_loadAll Tryz.isAgg66 Tryz.sizeOf66 rfl rfl) ?_))))
      refine s_do0 (d_storeAll Tryz.sizeOf66 rfl rfl rfl rfl rfl) ?_
      rintro _ _ rfl
      refine s_val rfl (v_assign rfl) (x_nil (n_then (x_ret (x_done (.inl rfl) (.cons (r_all Tryz.isAgg66 Tryz.sizeOf66 rfl rfl) (.cons (r_tmp rfl) .nil)) ?_))))
      have hsm := hR.someI hi hk
      refine ⟨_, ⟨?_, its', now + 1, by omega, rfl, ?_⟩, inferInstance⟩
      · simp [pack, getV, hsm, It.ent]
      · rw [getL, hsm]; subst hk
        exact hR.setI hi rfl rfl (by simp [mkIt]) hp (by rw [hp.length_eq]; exact hh)
theorem Drop_spec18 (W0 : World) (R : List HP) (b : Nat) (its : List It) (tr : Value) (now : Nat) (L : List It) (k : Key) (hR : Rep its now L) (hL : L.length ≤ 100) (tw : Value) :
    Spec Tryz.prog W0 102 [.pointer (some ⟨b, 0, none⟩), .agg (keyV k).toArray] (rowH b (its, [tr, tw, .bool true]) :: R)
      (fun v B => v = .bool (findK k L).isSome ∧ ∃ its', B = rowH b (its', [tr, tw, .bool true]) :: R ∧ Rep its' now (without k L)) := by
  have hlen := hR.length
  refine spec_body Tryz.func102 Tryz.ntmps102 rfl rfl ?_
  refine x_seq (x_region (s_do rfl (d_boxA rfl) ?_))
  rintro _ _ ⟨b1, rfl, rfl⟩
  refine s_val rfl (v_assign rfl) (x_nil (n_then (x_seq (x_seq (x_region (s_val rfl (v_move rfl) (s_do rfl (d_call1 Tryz.call90 rfl (none_spec W0 _ b its _ _)) ?_)))))))
  rintro _ B_ ⟨rfl, hB_⟩
  obtain rfl := hB_.symm
  refine x_nil (n_then ?_)
  refine x_if rfl ?_ ?_
  · intro c1
    exact absurd c1 (by decide)
  · intro c1
    refine x_skip (n_then (x_seq (x_region (s_val rfl (v_move rfl) (s_val rfl (v_loadAll Tryz.isAgg64 Tryz.sizeOf64 rfl rfl) ?_)))))
    refine s_do rfl (d_call1 Tryz.call117 rfl (at_spec W0 _ b its _ k (by omega))) ?_
    rintro _ _ ⟨r, rfl, rfl, hf⟩
    refine s_val rfl (v_assign rfl) (x_nil (n_then (x_seq (x_seq (x_region (s_val rfl (v_move rfl) (s_val rfl (v_lss rfl rfl) (x_nil (n_then ?_)))))))))
    refine x_if rfl ?_ ?_
    · intro c4
      have hno : ∀ x ∈ its, x.key ≠ k := by
        rcases hf with ⟨_, h⟩ | ⟨i, h, _⟩
        · exact h
        · omega
      refine x_seq (x_region (s_val rfl (v_assign rfl) (x_nil (n_then (x_ret (r_then (x_done (.inl rfl) (.cons (r_tmp rfl) .nil) ?_)))))))
      refine ⟨_, ⟨?_, its, rfl, ?_⟩, inferInstance⟩
      · simp [pack, (hR.noneI hno).1]
      · rw [(hR.noneI hno).2]; exact hR
    · intro c4
      obtain ⟨i, rfl, hi, hk⟩ : ∃ i : Nat, r = (i : Int) ∧ i < its.length ∧ (its.getD i default).key = k := by
        rcases hf with ⟨h, _⟩ | h
        · omega
        · exact h
      refine x_skip (n_then (x_seq (x_region (s_val rfl (v_move rfl) (s_val rfl (v_nilCheck rfl) ?_)))))
      refine s_val rfl (v_fieldAddr rfl Tryz.underlying174 rfl Tryz.sizeOf172 rfl (by first | exact Nat.zero_add _ | rfl)) ?_
      refine s_val rfl (v_mkI Tryz.underlying196 (fun _ h => nomatch h) rfl) ?_
      refine s_val rfl (v_move rfl) ?_
      refine s_do rfl (d_call1 Tryz.call135 rfl (heapRemove_spec W0 _ b its _ i (by omega) hi hR.heap)) ?_
      rintro _ _ ⟨its', rfl, rfl, hp, hh⟩
      refine s_val rfl (v_assert Tryz.underlying167 (fun _ h => nomatch h) rfl) ?_
      refine s_do rfl (d_allocA Tryz.zeroValue167) ?_
      rintro _ _ ⟨b2, rfl, rfl⟩
      refine s_do0 (d_storeAll Tryz.sizeOf167 rfl rfl rfl rfl rfl) ?_
      rintro _ _ rfl
      refine x_nil (n_then (x_seq (x_region ?_)))
      refine s_val rfl (v_fieldAddr rfl Tryz.underlying167 rfl Tryz.sizeOf68 rfl (by first | exact Nat.zero_add _ | rfl)) ?_
      refine s_val rfl (v_fieldAddr rfl Tryz.underlying68 rfl Tryz.sizeOf64 rfl (by first | exact Nat.zero_add _ | rfl)) ?_
      refine s_val rfl (v_loadAgg Tryz.isAgg64 Tryz.sizeOf64 rfl (cells_part (vs := [.int .i64 (its.getD i default).kr, .int .i64 (its.getD i default).kp]) rfl rfl) rfl) ?_
      refine s_val rfl (v_loadAll Tryz.isAgg64 Tryz.sizeOf64 rfl rfl) ?_
      refine s_val rfl (v_eql_agg Tryz.eqGuardType64 rfl rfl (q_struct Tryz.underlying64 Tryz.stoodInHeld64 (qf_scal rfl Tryz.isAgg3 rfl rfl (q_int Tryz.underlying3) (qf_scal rfl Tryz.isAgg3 rfl rfl (q_int Tryz.underlying3) qf_nil)))) ?_
      refine s_val rfl (v_assign rfl) (x_nil (n_then (x_ret (x_done (.inl rfl) (.cons (r_tmp rfl) .nil) ?_))))
      have hsm := hR.someI hi hk
      refine ⟨_, ⟨?_, its', rfl, hR.dropI hk hp hh⟩, inferInstance⟩
      rw [hsm]; subst hk
      simp [pack, It.key]
end Go.Proofs.YtllkdnadmmjehaaGreatDoor
namespace Go.Proofs.YtllkdnadmmjehaaGreatDoor
open Go.RowKit
set_option linter.unusedSimpArgs false
set_option linter.unusedVariables false
section
variable {rd : Option Nat} {P : Program} {S : World → Prop} {W0 : World} {N : FSz} {Q : Exit → Act → World → Prop} {e : Env} {A B R : List HP} {ops : Array Oper} {rest : List Oper}
variable {op : Op} {ty t t' : TypeId} {pos : String} {af : Array Edge} {v u : Value} {d b off : Nat} {x y z : Operand} {l l' vs : List Value}
variable {α : Type} {sz : Nat} {f : α → List Value} {xs : List α} {a : Option Addr}
theorem v_max {k : IntKind} {m n r : Int} {ats : Array TypeId} (hx : ev e x = some (.int k m)) (hy : ev e y = some (.int k n)) (hr : (if n > m then n else m) = r) : Val P S N e (.call { callee := .builtin .max, args := #[x, y], argTypes := ats }) (.int k r) := fun a w _ _ _ _ _ hF _ => by
  simp [execOp, resolve, invoke, builtin, hF.eval hx, hF.eval hy, Builtin.max_, Builtin.max2, hr]
def sliA (a : Option Addr) (c i sz : Nat) : Option Addr := if c = i then a else a.map (·.add (i * sz))
theorem SlA.sub (h : SlA S a sz f xs) {c i k : Nat} (hk : i + k ≤ xs.length) (hc : xs.length ≤ c) : SlA S (sliA a c i sz) sz f ((xs.drop i).take k) := fun j x hj => by
  have hjk : j < k := by
    rcases Nat.lt_or_ge j k with q | q
    · exact q
    · rw [List.getElem?_eq_none (by rw [List.length_take]; omega)] at hj; cases hj
  rw [List.getElem?_take_of_lt hjk, List.getElem?_drop] at hj
  obtain ⟨b, off, rfl, hcl⟩ := h (i + j) x hj
  refine ⟨b, off + i * sz, ?_, ?_⟩
  · rw [sliA, if_neg (by omega)]; simp [add_none]
  · rw [Nat.add_assoc, ← Nat.add_mul]; exact hcl
theorem SlA.take (h : SlA S a sz f xs) (k : Nat) : SlA S a sz f (xs.take k) := fun j x hj => by
  have hjk : j < k := by
    rcases Nat.lt_or_ge j k with q | q
    · exact q
    · rw [List.getElem?_eq_none (by rw [List.length_take]; omega)] at hj; cases hj
  rw [List.getElem?_take_of_lt hjk] at hj
  exact h j x hj
theorem SlA.src (h : SlA S a sz f xs) (hf : ∀ x, (f x).length = sz) (ha : a = none → True) : (xs = []) ∨ ∃ b off, a = some ⟨b, off, none⟩ ∧ Cells S b off (xs.flatMap f) := by
  by_cases h0 : xs = []
  · exact .inl h0
  · exact .inr (h.all h0 hf)
theorem d_appendS {E n m c cx by_ : Nat} {ay : Option Addr} {info : TypeInfo} {z : Value} {an : Option Addr} {xs news : List Value} (hu : P.underlying t = some (.slice E))
    (hi : P.info? E = some info) (hz : info.zero = some z) (hsz : info.size = sz) (hby : info.bytes = by_) (hz1 : z.cells.size = sz) (hsz0 : 0 < sz)
    (hx : ev e x = some (.slice an n c)) (hy : ev e y = some (.slice ay m cx)) [h : Tk (osl E sz) (.slice an n c) A xs R]
    (hsrc : m = 0 ∨ ∃ bx ox, ay = some ⟨bx, ox, none⟩ ∧ Cells (OwnP W0 A) bx ox news) (hnl : news.length = m * sz) (h1 : allOne news = true) (h63 : n + m ≤ maxLen) (hbig : (n + m) * by_ ≤ 140737488355328) :
    Does P W0 N e A (.call { callee := .builtin .append, args := #[x, y], argTypes := #[t, t] }) (fun v B => ∃ a' c', v = .slice a' (n + m) c' ∧ B = osl E sz v (xs ++ news) :: R) := by
  rcases hsrc with rfl | ⟨bx, ox, rfl, hc⟩
  · have h0 : news = [] := List.eq_nil_of_length_eq_zero (by simpa using hnl)
    subst h0
    intro act w dst ty pos af g K Q hF hO k
    have hO' := hO.tk (r := osl E sz) (b := .slice an n c)
    have hcap : n ≤ c := by
      rcases hO'.osl with ⟨k1, _, _⟩ | ⟨_, _, _, _, k1, k2, _⟩
      · cases k1; exact Nat.le_refl _
      · cases k1; exact k2
    have hrun : (Builtin.append_ #[t, t] ty #[.slice an n c, .slice ay 0 cx]).run P w = .ok (.slice an n c) w := by
      cases an <;> cases ay <;> simp [Builtin.append_, run_und hu, sizeOf, typeInfo, hi, Builtin.lenOf, Builtin.firstCells, hcap, loadCells, loadCellsFrom, storeCells]
    unfold Oper.wp
    have hexec : (execOp act.eval { dst := dst, op := .call { callee := .builtin .append, args := #[x, y], argTypes := #[t, t] }, type := ty, pos := pos, after := af, guard := g }).run P w = .ok (.value (.slice an n c)) w := by
      simp only [execOp, resolve, invoke, builtin, Sem.run_bind, Sem.run_pure, Result.andThen_ok, List.map_toArray, List.map_cons, List.map_nil, hF.eval hx, hF.eval hy, hrun]
    rw [hexec]
    exact k _ w _ ⟨an, c, rfl, by rw [List.append_nil]⟩ hO'
  · exact d_append hu hi hz hsz hby hz1 hsz0 hx hy hc hnl h1 h63 hbig
end
end Go.Proofs.YtllkdnadmmjehaaGreatDoor
namespace Go.Proofs.YtllkdnadmmjehaaGreatDoor
open Go.RowKit
set_option linter.unusedSimpArgs false
set_option linter.unusedVariables false
section
variable {P : Program} {S : World → Prop} {W0 : World} {N : FSz} {e : Env} {A R : List HP} {t ty : TypeId} {b off : Nat} {x : Operand} {l : List Value}
theorem v_sliceL {E n c sz o' : Nat} {k : IntKind} {i : Nat} {j1 : Int} (hu : P.underlying t = some (.slice E)) (hs : ∀ w, (sizeOf E).run P w = .ok sz w) (hx : ev e x = some (.slice (some ⟨b, off, none⟩) n c))
    {lo : Operand} (h1 : ev e lo = some (.int k j1)) (e1 : j1 = (i : Int)) (hil : i ≤ n) (hne : i < c) (ho : off + i * sz = o') :
    Val P S N e (.slice t x (some lo) none none) (.slice (some ⟨b, o', none⟩) (n - i) (c - i)) := fun a w _ _ _ _ _ hF _ => by
  subst e1; subst ho
  have hmi : ¬ c = i := by omega
  simp [execOp, Instr.sliceAt, Instr.slice, hF.eval hx, hF.eval h1, run_und hu, Instr.sliceBounds, run_bound hil, hs, hmi, add_none]
theorem zeroCells_len (z : Array Value) (n : Nat) : (Builtin.zeroCells z n).toList.length = n * z.size := by simp [Builtin.zeroCells]
theorem zeroCells_one (z : Array Value) (n : Nat) (hz : z.all Value.oneCell' = true) : ∀ v ∈ (Builtin.zeroCells z n).toList, v.oneCell' = true := fun v hv => by
  simp only [Builtin.zeroCells, Array.toList_map, List.mem_map, Array.toList_range, List.mem_range] at hv
  obtain ⟨i, hi, rfl⟩ := hv
  have hp : 0 < z.size := by
    rcases Nat.eq_zero_or_pos z.size with q | q
    · rw [q] at hi; simp at hi
    · exact q
  have hlt : i % z.size < z.size := Nat.mod_lt _ hp
  rw [getElem!_pos z (i % z.size) hlt]
  exact (Array.all_eq_true.1 hz) _ hlt
theorem d_clear {E n c : Nat} {z : Value} (hu : P.underlying t = some (.slice E)) (hz : ∀ w, (zeroValue E).run P w = .ok z w) (h1 : z.cells.all Value.oneCell' = true) (hx : ev e x = some (.slice (some ⟨b, off, none⟩) n c)) (hn : 0 < n)
    [h : Tk pt b A (cob l ty) R] (ho : off + n * z.cells.size ≤ l.length) :
    Does P W0 N e A (.call { callee := .builtin .clear, args := #[x], argTypes := #[t] }) (fun v B => ∃ vs : List Value, vs.length = n * z.cells.size ∧ v = .tuple #[] ∧ B = pt b (cob (setR l off vs) ty) :: R) := by
  intro a w dst ty' pos af g K Q hF hO k
  have hO' := hO.tk (r := pt) (b := b)
  obtain ⟨w', hst, hO''⟩ := storeCells_own (P := P) (off := off) (Builtin.zeroCells z.cells n).toList 0 hO' (by rw [zeroCells_len]; omega) (zeroCells_one _ _ h1)
  rw [Nat.add_zero] at hO''
  have hexec : (execOp a.eval { dst := dst, op := .call { callee := .builtin .clear, args := #[x], argTypes := #[t] }, type := ty', pos := pos, after := af, guard := g }).run P w = .ok (.value (.tuple #[])) w' := by
    obtain ⟨m, rfl⟩ : ∃ m, n = m + 1 := ⟨n - 1, by omega⟩
    simp only [execOp, resolve, invoke, builtin, Sem.run_bind, Sem.run_pure, Result.andThen_ok, List.map_toArray, List.map_cons, List.map_nil, hF.eval hx, Builtin.clear_, Array.getElem?_eq_getElem, List.getElem?_toArray, List.getElem?_cons_zero, run_und hu, hz, hst]
  unfold Oper.wp
  rw [hexec]
  exact k _ w' _ ⟨_, zeroCells_len _ _, rfl, rfl⟩ hO''
section
variable {rd : Option Nat} {Q : Exit → Act → World → Prop} {ops : Array Oper} {rest : List Oper} {pos : String} {af : Array Edge} {d : Nat} {y : Operand}
theorem x_ifcf {xc yc : Code} (k : Run W0 N (yc.wpR rd P Q) e A) : Run W0 N ((Code.cond (.const (.bool false)) xc yc).wpR rd P Q) e A :=
  fun a w hF hO => wpIn_cond_false (hF.eval (x := .const (.bool false)) rfl) (k a w hF hO)
theorem v_idxStr {k : IntKind} {i : Int} {j : Nat} {s : ByteArray} (hu : P.underlying t = some .string) (hx : ev e x = some (.string s)) (hy : ev e y = some (.int k i)) (hi : i = (j : Int)) (hj : j < s.size) :
    Val P S N e (.index t x y) (.int .u8 (s[j]'hj).toNat) := fun a w _ _ _ _ _ hF _ => by
  subst hi
  have h1 : (0 : Int) ≤ (j : Int) := by omega
  simp only [execOp, Instr.index, Sem.run_bind, hF.eval hx, hF.eval hy, asIntOf, Sem.run_pure, Result.andThen_ok, run_und hu, if_pos h1, Int.toNat_natCast, getElem?_pos s j hj]
theorem s_idxStr {k : IntKind} {i : Int} {j : Nat} {s : ByteArray} (hd : Nat.blt d N.n = true) (hu : P.underlying t = some .string) (hx : ev e x = some (.string s)) (hy : ev e y = some (.int k i)) (hi : i = (j : Int)) (hj : j < s.size)
    (kk : ∀ m : Nat, m < 256 → Run W0 N (wpL rd P ops Q rest) ((d, .int .u8 m) :: e) A) :
    Run W0 N (wpL rd P ops Q ({ dst := some d, op := .index t x y, type := ty, pos := pos, after := af, guard := none } :: rest)) e A :=
  s_val hd (v_idxStr hu hx hy hi hj) (kk _ (UInt8.toNat_lt _))
end
end
end Go.Proofs.YtllkdnadmmjehaaGreatDoor
