/-
  Layer 17 (walk): walking, in both texts.
-/
import Derived.Test.YtalpgipkkdlpgaaWalk
namespace Go.Proofs.Ytalpgipkkdlpgaa
open Go.RowKit
set_option linter.unusedSimpArgs false
set_option linter.unusedVariables false
set_option maxRecDepth 20000

structure WS where
  on : Bool
  r : Int
  p : Int
  fault : Int
  root : Int
  leaf : Int
@[reducible] def wsV (s : WS) : List Value := [.bool s.on, .int .i64 s.r, .int .i64 s.p, .int .i64 s.fault, .int .i64 s.root, .int .i64 s.leaf]
def ws0 : WS := ⟨false, 0, 0, 0, -1, -1⟩
abbrev wayO (pv va : Nat) (s : WS) : Obj := cob (.pointer (some ⟨pv, 0, none⟩) :: .int .u32 va :: wsV s) 120
theorem bne0 (x : Int) : (x != 0) = !decide (x = 0) := by by_cases q : x = 0 <;> simp [q]
theorem wkFault_spec (W0 : World) (R : List HP) (bw pv va : Nat) (s : WS) (f : Int) : Spec Try.prog W0 54 [.pointer (some ⟨bw, 0, none⟩), .int .i64 f] (pt bw (wayO pv va s) :: R)
    (fun v B => v = .bool (f != 0) ∧ B = pt bw (wayO pv va { s with fault := f }) :: R) := by
  refine spec_body Try.func54 Try.ntmps54 rfl rfl ?_
  refine x_seq ?_
  refine x_region ?_
  refine s_val rfl (v_assign rfl) ?_
  refine x_nil ?_
  refine n_then ?_
  refine x_seq ?_
  refine x_region ?_
  refine s_val rfl (v_move rfl) ?_
  refine s_val rfl (v_move rfl) ?_
  refine s_val rfl (v_nilCheck rfl) ?_
  refine s_val rfl (v_fieldAddr rfl Try.underlying120 rfl Try.sizeOf63 rfl (by first | exact Nat.zero_add _ | rfl)) ?_
  refine s_val rfl (v_fieldAddr rfl Try.underlying63 rfl Try.sizeOf3 rfl (by first | exact Nat.zero_add _ | rfl)) ?_
  refine s_do0 (d_store Try.sizeOf3 rfl rfl rfl (Nat.le_of_ble_eq_true rfl) SetL.eq) ?_
  rintro _ _ rfl
  refine x_nil ?_
  refine n_then ?_
  refine x_seq ?_
  refine x_region ?_
  refine s_val rfl (v_move rfl) ?_
  refine s_val rfl (v_neq rfl rfl) ?_
  refine s_val rfl (v_assign rfl) ?_
  refine x_nil ?_
  refine n_then ?_
  refine x_ret ?_
  refine x_done (.inl rfl) (.cons (r_tmp rfl) .nil) ?_
  exact ⟨_, ⟨rfl, rfl⟩, inferInstance⟩
def rtS (fr : List Frm) (pg : List Pl) (va : Nat) (a : Int) (s : WS) : WS :=
  if tblB fr.length pg a (va / 1024) then { s with root := a, fault := tabF (tblW fr pg a (va / 1024)) } else { s with fault := 3 }
def rtA (fr : List Frm) (pg : List Pl) (va : Nat) (a : Int) : Int := if tblB fr.length pg a (va / 1024) then tabP (tblW fr pg a (va / 1024)) else 0
def rtB (fr : List Frm) (pg : List Pl) (va : Nat) (a : Int) : Bool := tblB fr.length pg a (va / 1024) && decide (tabF (tblW fr pg a (va / 1024)) = 0)
theorem shr10 {w : Nat} : bShr .u32 w 10 = ((w / 1024 : Nat) : Int) := bShr_nat (s := 10) (by decide)
theorem shr6 {w : Nat} : bShr .u32 w 6 = ((w / 64 : Nat) : Int) := bShr_nat (s := 6) (by decide)
theorem wkRoot_spec (W0 : World) (R : List HP) (bw pv ps pm d : Nat) (fr : List Frm) (pg : List Pl) (h : Pgs pg) (hF : Frs fr) (va : Nat) (hva : va < 4294967296) (s : WS) (a : Int) :
    Spec Try.prog W0 56 [.pointer (some ⟨bw, 0, none⟩), .int .i64 a] (pt bw (wayO pv va s) :: vwW pv ps pm d fr pg R)
      (fun v B => v = .tuple #[.int .i64 (rtA fr pg va a), .bool (rtB fr pg va a)] ∧ B = pt bw (wayO pv va (rtS fr pg va a s)) :: vwW pv ps pm d fr pg R) := by
  by_cases hb : tblB fr.length pg a (va / 1024) = true
  · rw [rtA, if_pos hb, rtS, if_pos hb, rtB, hb, Bool.true_and]
    refine spec_body Try.func56 Try.ntmps56 rfl rfl ?_
    refine x_seq ?_
    refine x_region ?_
    refine s_val rfl (v_assign rfl) ?_
    refine s_val rfl (v_assign rfl) ?_
    refine x_nil ?_
    refine n_then ?_
    refine x_seq ?_
    refine x_draw [(bw, 0, _)] 16 mixed rfl (sc_own sc_end) (fun hS => ?_)
    refine d_take 0 rfl rfl (by kernel_rfl) (by kernel_rfl) (by kernel_rfl) rfl hS (v_move rfl) ?_
    refine d_take 1 rfl rfl (by kernel_rfl) (by kernel_rfl) (by kernel_rfl) rfl hS (v_nilCheck rfl) ?_
    refine d_take 2 rfl rfl (by kernel_rfl) (by kernel_rfl) (by kernel_rfl) rfl hS (v_fieldAddr rfl Try.underlying120 rfl Try.sizeOf25 rfl (by first | exact Nat.zero_add _ | rfl)) ?_
    refine d_take 3 rfl rfl (by kernel_rfl) (by kernel_rfl) (by kernel_rfl) rfl hS (v_load Try.isAgg25 rfl (cell_sc0 (k := 0) rfl rfl)) ?_
    refine d_take 4 rfl rfl (by kernel_rfl) (by kernel_rfl) (by kernel_rfl) rfl hS (v_move rfl) ?_
    refine d_take 5 rfl rfl (by kernel_rfl) (by kernel_rfl) (by kernel_rfl) rfl hS (v_move rfl) ?_
    refine d_take 6 rfl rfl (by kernel_rfl) (by kernel_rfl) (by kernel_rfl) rfl hS (v_nilCheck rfl) ?_
    refine d_take 7 rfl rfl (by kernel_rfl) (by kernel_rfl) (by kernel_rfl) rfl hS (v_fieldAddr rfl Try.underlying120 rfl Try.sizeOf24 rfl (by first | exact Nat.zero_add _ | rfl)) ?_
    refine d_take 8 rfl rfl (by kernel_rfl) (by kernel_rfl) (by kernel_rfl) rfl hS (v_load Try.isAgg24 rfl (cell_sc0 (k := 0) rfl rfl)) ?_
    refine d_take 9 rfl rfl (by kernel_rfl) (by kernel_rfl) (by kernel_rfl) rfl hS (v_shr rfl rfl (by decide) shr10) ?_
    refine d_one 10 (by kernel_rfl) rfl rfl (d_call3 Try.call89 rfl (wkTable_spec W0 _ pv ps pm d fr pg h hF a (va / 1024) (by omega))) rfl ?_; clear hS
    rintro _ B_ ⟨rfl, hB_⟩
    obtain rfl := hB_.symm
    refine ⟨(sc_own sc_end), fun hS => ?_⟩
    refine d_take 11 rfl rfl (by kernel_rfl) (by kernel_rfl) (by kernel_rfl) rfl hS (v_move rfl) ?_
    refine d_take 12 rfl rfl (by kernel_rfl) (by kernel_rfl) (by kernel_rfl) rfl hS (v_extract rfl rfl) ?_
    refine d_take 13 rfl rfl (by kernel_rfl) (by kernel_rfl) (by kernel_rfl) rfl hS (v_extract rfl rfl) ?_
    refine d_take 14 rfl rfl (by kernel_rfl) (by kernel_rfl) (by kernel_rfl) rfl hS (v_assign rfl) ?_
    refine d_take 15 rfl rfl (by kernel_rfl) (by kernel_rfl) (by kernel_rfl) rfl hS (v_assign rfl) ?_
    refine d_done (by kernel_rfl) ?_; clear hS
    refine n_then ?_
    refine x_seq ?_
    refine x_seq ?_
    refine x_region ?_
    refine s_val rfl (v_move rfl) ?_
    refine s_val rfl (v_not rfl) ?_
    refine x_nil ?_
    refine n_then ?_
    refine x_if rfl ?_ ?_
    · intro c2
      exact absurd hb c2
    · intro c2
      refine x_skip ?_
      refine n_then ?_
      refine x_seq ?_
      refine x_region ?_
      refine s_val rfl (v_move rfl) ?_
      refine s_val rfl (v_move rfl) ?_
      refine s_val rfl (v_nilCheck rfl) ?_
      refine s_val rfl (v_fieldAddr rfl Try.underlying120 rfl Try.sizeOf63 rfl (by first | exact Nat.zero_add _ | rfl)) ?_
      refine s_val rfl (v_fieldAddr rfl Try.underlying63 rfl Try.sizeOf3 rfl (by first | exact Nat.zero_add _ | rfl)) ?_
      refine s_do0 (d_store Try.sizeOf3 rfl rfl rfl (Nat.le_of_ble_eq_true rfl) SetL.eq) ?_
      rintro _ _ rfl
      refine x_nil ?_
      refine n_then ?_
      refine x_seq ?_
      refine x_region ?_
      refine s_val rfl (v_move rfl) ?_
      refine s_do rfl (d_call Try.call25 rfl (Table_spec W0 _ (tblW fr pg a (va / 1024)) (tblW_lt hF _ _ _))) ?_
      rintro _ B_ ⟨rfl, hB_⟩
      obtain rfl := hB_.symm
      refine s_val rfl (v_move rfl) ?_
      refine s_val rfl (v_extract rfl rfl) ?_
      refine s_val rfl (v_extract rfl rfl) ?_
      refine s_val rfl (v_assign rfl) ?_
      refine s_val rfl (v_assign rfl) ?_
      refine x_nil ?_
      refine n_then ?_
      refine x_seq ?_
      refine x_region ?_
      refine s_val rfl (v_move rfl) ?_
      refine s_val rfl (v_move rfl) ?_
      refine s_val rfl (v_move rfl) ?_
      refine s_do rfl (d_call1 Try.call54 rfl (wkFault_spec W0 _ bw pv va { s with root := a } _)) ?_
      rintro _ B_ ⟨rfl, hB_⟩
      obtain rfl := hB_.symm
      refine s_val rfl (v_not rfl) ?_
      refine s_val rfl (v_assign rfl) ?_
      refine s_val rfl (v_assign rfl) ?_
      refine x_nil ?_
      refine n_then ?_
      refine x_ret ?_
      refine x_done (.inl rfl) (.cons (r_tmp rfl) (.cons (r_tmp rfl) .nil)) ?_
      refine ⟨_, ⟨?_, rfl⟩, inferInstance⟩
      simp [pack]
      exact bne0 _
  · have hb' : tblB fr.length pg a (va / 1024) = false := by simpa using hb
    rw [rtA, if_neg hb, rtS, if_neg hb, rtB, hb', Bool.false_and]
    refine spec_body Try.func56 Try.ntmps56 rfl rfl ?_
    refine x_seq ?_
    refine x_region ?_
    refine s_val rfl (v_assign rfl) ?_
    refine s_val rfl (v_assign rfl) ?_
    refine x_nil ?_
    refine n_then ?_
    refine x_seq ?_
    refine x_draw [(bw, 0, _)] 16 mixed rfl (sc_own sc_end) (fun hS => ?_)
    refine d_take 0 rfl rfl (by kernel_rfl) (by kernel_rfl) (by kernel_rfl) rfl hS (v_move rfl) ?_
    refine d_take 1 rfl rfl (by kernel_rfl) (by kernel_rfl) (by kernel_rfl) rfl hS (v_nilCheck rfl) ?_
    refine d_take 2 rfl rfl (by kernel_rfl) (by kernel_rfl) (by kernel_rfl) rfl hS (v_fieldAddr rfl Try.underlying120 rfl Try.sizeOf25 rfl (by first | exact Nat.zero_add _ | rfl)) ?_
    refine d_take 3 rfl rfl (by kernel_rfl) (by kernel_rfl) (by kernel_rfl) rfl hS (v_load Try.isAgg25 rfl (cell_sc0 (k := 0) rfl rfl)) ?_
    refine d_take 4 rfl rfl (by kernel_rfl) (by kernel_rfl) (by kernel_rfl) rfl hS (v_move rfl) ?_
    refine d_take 5 rfl rfl (by kernel_rfl) (by kernel_rfl) (by kernel_rfl) rfl hS (v_move rfl) ?_
    refine d_take 6 rfl rfl (by kernel_rfl) (by kernel_rfl) (by kernel_rfl) rfl hS (v_nilCheck rfl) ?_
    refine d_take 7 rfl rfl (by kernel_rfl) (by kernel_rfl) (by kernel_rfl) rfl hS (v_fieldAddr rfl Try.underlying120 rfl Try.sizeOf24 rfl (by first | exact Nat.zero_add _ | rfl)) ?_
    refine d_take 8 rfl rfl (by kernel_rfl) (by kernel_rfl) (by kernel_rfl) rfl hS (v_load Try.isAgg24 rfl (cell_sc0 (k := 0) rfl rfl)) ?_
    refine d_take 9 rfl rfl (by kernel_rfl) (by kernel_rfl) (by kernel_rfl) rfl hS (v_shr rfl rfl (by decide) shr10) ?_
    refine d_one 10 (by kernel_rfl) rfl rfl (d_call3 Try.call89 rfl (wkTable_spec W0 _ pv ps pm d fr pg h hF a (va / 1024) (by omega))) rfl ?_; clear hS
    rintro _ B_ ⟨rfl, hB_⟩
    obtain rfl := hB_.symm
    refine ⟨(sc_own sc_end), fun hS => ?_⟩
    refine d_take 11 rfl rfl (by kernel_rfl) (by kernel_rfl) (by kernel_rfl) rfl hS (v_move rfl) ?_
    refine d_take 12 rfl rfl (by kernel_rfl) (by kernel_rfl) (by kernel_rfl) rfl hS (v_extract rfl rfl) ?_
    refine d_take 13 rfl rfl (by kernel_rfl) (by kernel_rfl) (by kernel_rfl) rfl hS (v_extract rfl rfl) ?_
    refine d_take 14 rfl rfl (by kernel_rfl) (by kernel_rfl) (by kernel_rfl) rfl hS (v_assign rfl) ?_
    refine d_take 15 rfl rfl (by kernel_rfl) (by kernel_rfl) (by kernel_rfl) rfl hS (v_assign rfl) ?_
    refine d_done (by kernel_rfl) ?_; clear hS
    refine n_then ?_
    refine x_seq ?_
    refine x_seq ?_
    refine x_region ?_
    refine s_val rfl (v_move rfl) ?_
    refine s_val rfl (v_not rfl) ?_
    refine x_nil ?_
    refine n_then ?_
    refine x_if rfl ?_ ?_
    · intro c2
      refine x_seq ?_
      refine x_region ?_
      refine s_val rfl (v_move rfl) ?_
      refine s_do rfl (d_call1 Try.call54 rfl (wkFault_spec W0 _ bw pv va _ _)) ?_
      rintro _ B_ ⟨rfl, hB_⟩
      obtain rfl := hB_.symm
      refine s_val rfl (v_not rfl) ?_
      refine s_val rfl (v_assign rfl) ?_
      refine s_val rfl (v_assign rfl) ?_
      refine x_nil ?_
      refine n_then ?_
      refine x_ret ?_
      refine r_then ?_
      refine x_done (.inl rfl) (.cons (r_tmp rfl) (.cons (r_tmp rfl) .nil)) ?_
      exact ⟨_, ⟨rfl, rfl⟩, inferInstance⟩
    · intro c2
      exact absurd (by rw [hb']; decide) c2
def lfS (fr : List Frm) (pg : List Pl) (va : Nat) (a : Int) (s : WS) : WS :=
  if tblB fr.length pg a (va / 64) then { s with leaf := a, on := lfOn (tblW fr pg a (va / 64)), r := lfR (tblW fr pg a (va / 64)), p := lfP (tblW fr pg a (va / 64)), fault := leafF (tblW fr pg a (va / 64)) } else { s with fault := 3 }
def lfB (fr : List Frm) (pg : List Pl) (va : Nat) (a : Int) : Bool := tblB fr.length pg a (va / 64) && decide (leafF (tblW fr pg a (va / 64)) = 0)
theorem wkLeaf_spec (W0 : World) (R : List HP) (bw pv ps pm d : Nat) (fr : List Frm) (pg : List Pl) (h : Pgs pg) (hF : Frs fr) (va : Nat) (hva : va < 4294967296) (s : WS) (a : Int) :
    Spec Try.prog W0 58 [.pointer (some ⟨bw, 0, none⟩), .int .i64 a] (pt bw (wayO pv va s) :: vwW pv ps pm d fr pg R)
      (fun v B => v = .bool (lfB fr pg va a) ∧ B = pt bw (wayO pv va (lfS fr pg va a s)) :: vwW pv ps pm d fr pg R) := by
  by_cases hb : tblB fr.length pg a (va / 64) = true
  · rw [lfS, if_pos hb, lfB, hb, Bool.true_and]
    refine spec_body Try.func58 Try.ntmps58 rfl rfl ?_
    refine x_seq ?_
    refine x_region ?_
    refine s_val rfl (v_assign rfl) ?_
    refine x_nil ?_
    refine n_then ?_
    refine x_seq ?_
    refine x_draw [(bw, 0, _)] 16 mixed rfl (sc_own sc_end) (fun hS => ?_)
    refine d_take 0 rfl rfl (by kernel_rfl) (by kernel_rfl) (by kernel_rfl) rfl hS (v_move rfl) ?_
    refine d_take 1 rfl rfl (by kernel_rfl) (by kernel_rfl) (by kernel_rfl) rfl hS (v_nilCheck rfl) ?_
    refine d_take 2 rfl rfl (by kernel_rfl) (by kernel_rfl) (by kernel_rfl) rfl hS (v_fieldAddr rfl Try.underlying120 rfl Try.sizeOf25 rfl (by first | exact Nat.zero_add _ | rfl)) ?_
    refine d_take 3 rfl rfl (by kernel_rfl) (by kernel_rfl) (by kernel_rfl) rfl hS (v_load Try.isAgg25 rfl (cell_sc0 (k := 0) rfl rfl)) ?_
    refine d_take 4 rfl rfl (by kernel_rfl) (by kernel_rfl) (by kernel_rfl) rfl hS (v_move rfl) ?_
    refine d_take 5 rfl rfl (by kernel_rfl) (by kernel_rfl) (by kernel_rfl) rfl hS (v_move rfl) ?_
    refine d_take 6 rfl rfl (by kernel_rfl) (by kernel_rfl) (by kernel_rfl) rfl hS (v_nilCheck rfl) ?_
    refine d_take 7 rfl rfl (by kernel_rfl) (by kernel_rfl) (by kernel_rfl) rfl hS (v_fieldAddr rfl Try.underlying120 rfl Try.sizeOf24 rfl (by first | exact Nat.zero_add _ | rfl)) ?_
    refine d_take 8 rfl rfl (by kernel_rfl) (by kernel_rfl) (by kernel_rfl) rfl hS (v_load Try.isAgg24 rfl (cell_sc0 (k := 0) rfl rfl)) ?_
    refine d_take 9 rfl rfl (by kernel_rfl) (by kernel_rfl) (by kernel_rfl) rfl hS (v_shr rfl rfl (by decide) shr6) ?_
    refine d_one 10 (by kernel_rfl) rfl rfl (d_call3 Try.call89 rfl (wkTable_spec W0 _ pv ps pm d fr pg h hF a (va / 64) (by omega))) rfl ?_; clear hS
    rintro _ B_ ⟨rfl, hB_⟩
    obtain rfl := hB_.symm
    refine ⟨(sc_own sc_end), fun hS => ?_⟩
    refine d_take 11 rfl rfl (by kernel_rfl) (by kernel_rfl) (by kernel_rfl) rfl hS (v_move rfl) ?_
    refine d_take 12 rfl rfl (by kernel_rfl) (by kernel_rfl) (by kernel_rfl) rfl hS (v_extract rfl rfl) ?_
    refine d_take 13 rfl rfl (by kernel_rfl) (by kernel_rfl) (by kernel_rfl) rfl hS (v_extract rfl rfl) ?_
    refine d_take 14 rfl rfl (by kernel_rfl) (by kernel_rfl) (by kernel_rfl) rfl hS (v_assign rfl) ?_
    refine d_take 15 rfl rfl (by kernel_rfl) (by kernel_rfl) (by kernel_rfl) rfl hS (v_assign rfl) ?_
    refine d_done (by kernel_rfl) ?_; clear hS
    refine n_then ?_
    refine x_seq ?_
    refine x_seq ?_
    refine x_region ?_
    refine s_val rfl (v_move rfl) ?_
    refine s_val rfl (v_not rfl) ?_
    refine x_nil ?_
    refine n_then ?_
    refine x_if rfl ?_ ?_
    · intro c2
      exact absurd hb c2
    · intro c2
      refine x_skip ?_
      refine n_then ?_
      refine x_seq ?_
      refine x_region ?_
      refine s_val rfl (v_move rfl) ?_
      refine s_val rfl (v_move rfl) ?_
      refine s_val rfl (v_nilCheck rfl) ?_
      refine s_val rfl (v_fieldAddr rfl Try.underlying120 rfl Try.sizeOf63 rfl (by first | exact Nat.zero_add _ | rfl)) ?_
      refine s_val rfl (v_fieldAddr rfl Try.underlying63 rfl Try.sizeOf3 rfl (by first | exact Nat.zero_add _ | rfl)) ?_
      refine s_do0 (d_store Try.sizeOf3 rfl rfl rfl (Nat.le_of_ble_eq_true rfl) SetL.eq) ?_
      rintro _ _ rfl
      refine x_nil ?_
      refine n_then ?_
      refine x_seq ?_
      refine x_region ?_
      refine s_val rfl (v_move rfl) ?_
      refine s_do rfl (d_call Try.call26 rfl (Leaf_spec W0 _ (tblW fr pg a (va / 64)) (tblW_lt hF _ _ _))) ?_
      rintro _ B_ ⟨rfl, hB_⟩
      obtain rfl := hB_.symm
      rw [leafV]
      refine s_val rfl (v_move rfl) ?_
      refine s_val rfl (v_extract rfl rfl) ?_
      refine s_val rfl (v_extract rfl rfl) ?_
      refine s_do rfl (d_allocA Try.zeroValue61) ?_
      rintro _ _ ⟨b1, rfl, rfl⟩
      refine s_do0 (d_storeAll Try.sizeOf61 rfl rfl rfl rfl rfl) ?_
      rintro _ _ rfl
      refine s_val rfl (v_assign rfl) ?_
      refine x_nil ?_
      refine n_then ?_
      refine x_seq ?_
      refine x_region ?_
      refine s_val rfl (v_move rfl) ?_
      refine s_val rfl (v_loadAll Try.isAgg61 Try.sizeOf61 rfl rfl) ?_
      refine s_val rfl (v_nilCheck rfl) ?_
      refine s_val rfl (v_fieldAddr rfl Try.underlying120 rfl Try.sizeOf63 rfl (by first | exact Nat.zero_add _ | rfl)) ?_
      refine s_val rfl (v_fieldAddr rfl Try.underlying63 rfl Try.sizeOf61 rfl (by first | exact Nat.zero_add _ | rfl)) ?_
      refine s_do0 (d_storeAgg Try.sizeOf61 rfl rfl rfl rfl (Nat.le_of_ble_eq_true rfl) SetRL.eq) ?_
      rintro _ _ rfl
      refine x_nil ?_
      refine n_then ?_
      refine x_seq ?_
      refine x_region ?_
      refine s_val rfl (v_move rfl) ?_
      refine s_val rfl (v_move rfl) ?_
      refine s_do rfl (d_call1 Try.call54 rfl (wkFault_spec W0 _ bw pv va { s with leaf := a, on := lfOn (tblW fr pg a (va / 64)), r := lfR (tblW fr pg a (va / 64)), p := lfP (tblW fr pg a (va / 64)) } _)) ?_
      rintro _ B_ ⟨rfl, hB_⟩
      obtain rfl := hB_.symm
      refine s_val rfl (v_not rfl) ?_
      refine s_val rfl (v_assign rfl) ?_
      refine x_nil ?_
      refine n_then ?_
      refine x_ret ?_
      refine x_done (.inl rfl) (.cons (r_tmp rfl) .nil) ?_
      refine ⟨_, ⟨?_, rfl⟩, inferInstance⟩
      simp [pack]
      exact bne0 _
  · have hb' : tblB fr.length pg a (va / 64) = false := by simpa using hb
    rw [lfS, if_neg hb, lfB, hb', Bool.false_and]
    refine spec_body Try.func58 Try.ntmps58 rfl rfl ?_
    refine x_seq ?_
    refine x_region ?_
    refine s_val rfl (v_assign rfl) ?_
    refine x_nil ?_
    refine n_then ?_
    refine x_seq ?_
    refine x_draw [(bw, 0, _)] 16 mixed rfl (sc_own sc_end) (fun hS => ?_)
    refine d_take 0 rfl rfl (by kernel_rfl) (by kernel_rfl) (by kernel_rfl) rfl hS (v_move rfl) ?_
    refine d_take 1 rfl rfl (by kernel_rfl) (by kernel_rfl) (by kernel_rfl) rfl hS (v_nilCheck rfl) ?_
    refine d_take 2 rfl rfl (by kernel_rfl) (by kernel_rfl) (by kernel_rfl) rfl hS (v_fieldAddr rfl Try.underlying120 rfl Try.sizeOf25 rfl (by first | exact Nat.zero_add _ | rfl)) ?_
    refine d_take 3 rfl rfl (by kernel_rfl) (by kernel_rfl) (by kernel_rfl) rfl hS (v_load Try.isAgg25 rfl (cell_sc0 (k := 0) rfl rfl)) ?_
    refine d_take 4 rfl rfl (by kernel_rfl) (by kernel_rfl) (by kernel_rfl) rfl hS (v_move rfl) ?_
    refine d_take 5 rfl rfl (by kernel_rfl) (by kernel_rfl) (by kernel_rfl) rfl hS (v_move rfl) ?_
    refine d_take 6 rfl rfl (by kernel_rfl) (by kernel_rfl) (by kernel_rfl) rfl hS (v_nilCheck rfl) ?_
    refine d_take 7 rfl rfl (by kernel_rfl) (by kernel_rfl) (by kernel_rfl) rfl hS (v_fieldAddr rfl Try.underlying120 rfl Try.sizeOf24 rfl (by first | exact Nat.zero_add _ | rfl)) ?_
    refine d_take 8 rfl rfl (by kernel_rfl) (by kernel_rfl) (by kernel_rfl) rfl hS (v_load Try.isAgg24 rfl (cell_sc0 (k := 0) rfl rfl)) ?_
    refine d_take 9 rfl rfl (by kernel_rfl) (by kernel_rfl) (by kernel_rfl) rfl hS (v_shr rfl rfl (by decide) shr6) ?_
    refine d_one 10 (by kernel_rfl) rfl rfl (d_call3 Try.call89 rfl (wkTable_spec W0 _ pv ps pm d fr pg h hF a (va / 64) (by omega))) rfl ?_; clear hS
    rintro _ B_ ⟨rfl, hB_⟩
    obtain rfl := hB_.symm
    refine ⟨(sc_own sc_end), fun hS => ?_⟩
    refine d_take 11 rfl rfl (by kernel_rfl) (by kernel_rfl) (by kernel_rfl) rfl hS (v_move rfl) ?_
    refine d_take 12 rfl rfl (by kernel_rfl) (by kernel_rfl) (by kernel_rfl) rfl hS (v_extract rfl rfl) ?_
    refine d_take 13 rfl rfl (by kernel_rfl) (by kernel_rfl) (by kernel_rfl) rfl hS (v_extract rfl rfl) ?_
    refine d_take 14 rfl rfl (by kernel_rfl) (by kernel_rfl) (by kernel_rfl) rfl hS (v_assign rfl) ?_
    refine d_take 15 rfl rfl (by kernel_rfl) (by kernel_rfl) (by kernel_rfl) rfl hS (v_assign rfl) ?_
    refine d_done (by kernel_rfl) ?_; clear hS
    refine n_then ?_
    refine x_seq ?_
    refine x_seq ?_
    refine x_region ?_
    refine s_val rfl (v_move rfl) ?_
    refine s_val rfl (v_not rfl) ?_
    refine x_nil ?_
    refine n_then ?_
    refine x_if rfl ?_ ?_
    · intro c2
      refine x_seq ?_
      refine x_region ?_
      refine s_val rfl (v_move rfl) ?_
      refine s_do rfl (d_call1 Try.call54 rfl (wkFault_spec W0 _ bw pv va _ _)) ?_
      rintro _ B_ ⟨rfl, hB_⟩
      obtain rfl := hB_.symm
      refine s_val rfl (v_not rfl) ?_
      refine s_val rfl (v_assign rfl) ?_
      refine x_nil ?_
      refine n_then ?_
      refine x_ret ?_
      refine r_then ?_
      refine x_done (.inl rfl) (.cons (r_tmp rfl) .nil) ?_
      exact ⟨_, ⟨rfl, rfl⟩, inferInstance⟩
    · intro c2
      exact absurd (by rw [hb']; decide) c2

/-- The state and the table's page behind so many steps. -/
def wkQ (fr : List Frm) (pg : List Pl) (root : Int) (va : Nat) : Nat → WS × Int
  | 0 => (ws0, root)
  | 1 => (if va < 16384 then ws0 else { ws0 with fault := 2 }, root)
  | 2 => (rtS fr pg va root ws0, rtA fr pg va root)
  | _ => (lfS fr pg va (rtA fr pg va root) (rtS fr pg va root ws0), rtA fr pg va root)
def wkOk (fr : List Frm) (pg : List Pl) (root : Int) (va : Nat) : Nat → Bool
  | 0 => decide (va < 16384)
  | 1 => rtB fr pg va root
  | _ => lfB fr pg va (rtA fr pg va root)
/-- What a walk comes to. -/
def wkR (fr : List Frm) (pg : List Pl) (root : Int) (va : Nat) : WS :=
  if va < 16384 then (if rtB fr pg va root then (wkQ fr pg root va 3).1 else (wkQ fr pg root va 2).1) else (wkQ fr pg root va 1).1
abbrev wkM (bva bwp bat bw pv ps pm d : Nat) (fr : List Frm) (pg : List Pl) (va : Nat) (q : WS × Int) (R : List HP) : List HP :=
  pt bva (cob [.int .u32 va] 24) :: pt bwp (cob [.pointer (some ⟨bw, 0, none⟩)] 118) :: pt bat (cob [.int .i64 q.2] 3) :: pt bw (wayO pv va q.1) :: vwW pv ps pm d fr pg R
theorem wk1_spec (W0 : World) (R : List HP) (bva bwp bat bw pv ps pm d : Nat) (fr : List Frm) (pg : List Pl) (root : Int) (va : Nat) :
    Spec Try.prog W0 53 [.pointer (some ⟨bva, 0, none⟩), .pointer (some ⟨bwp, 0, none⟩)] (wkM bva bwp bat bw pv ps pm d fr pg va (wkQ fr pg root va 0) R)
      (fun v B => v = .bool (wkOk fr pg root va 0) ∧ B = wkM bva bwp bat bw pv ps pm d fr pg va (wkQ fr pg root va 1) R) := by
  refine spec_body Try.func53 Try.ntmps53 rfl rfl ?_
  refine x_seq ?_
  refine x_region ?_
  refine s_val rfl (v_assign rfl) ?_
  refine x_nil ?_
  refine n_then ?_
  refine x_seq ?_
  refine x_region ?_
  refine s_val rfl (v_load Try.isAgg24 rfl (cell_own rfl)) ?_
  refine s_val rfl (v_lss rfl rfl) ?_
  refine s_val rfl (v_move rfl) ?_
  refine s_or rfl rfl rfl ?_ ?_
  · intro g1_3
    refine s_no rfl rfl rfl rfl ?_
    refine s_no rfl rfl rfl rfl ?_
    refine s_val rfl (v_pick_t rfl rfl) ?_
    refine s_val rfl (v_assign rfl) ?_
    refine x_nil ?_
    refine n_then ?_
    refine x_ret ?_
    refine x_done (.inl rfl) (.cons (r_tmp rfl) .nil) ?_
    first
      | (have hv : va < 16384 := by omega
         simp only [wkQ, wkOk, if_pos hv, decide_eq_true hv]
         exact ⟨_, ⟨rfl, rfl⟩, inferInstance⟩)
      | (have hv : ¬ va < 16384 := by omega
         simp only [wkQ, wkOk, if_neg hv, decide_eq_false hv]
         exact ⟨_, ⟨rfl, rfl⟩, inferInstance⟩)
  · intro g1_3
    refine s_val rfl (v_load Try.isAgg118 rfl (cell_own rfl)) ?_
    refine s_yes rfl rfl ?_
    refine s_do rfl (d_call1 Try.call54 rfl (wkFault_spec W0 _ bw pv va ws0 2)) ?_
    rintro _ B_ ⟨rfl, hB_⟩
    obtain rfl := hB_.symm
    refine s_yes rfl rfl ?_
    refine s_val rfl (v_not rfl) ?_
    refine s_val rfl (v_pick_f rfl rfl) ?_
    refine s_val rfl (v_assign rfl) ?_
    refine x_nil ?_
    refine n_then ?_
    refine x_ret ?_
    refine x_done (.inl rfl) (.cons (r_tmp rfl) .nil) ?_
    first
      | (have hv : va < 16384 := by omega
         simp only [wkQ, wkOk, if_pos hv, decide_eq_true hv]
         exact ⟨_, ⟨rfl, rfl⟩, inferInstance⟩)
      | (have hv : ¬ va < 16384 := by omega
         simp only [wkQ, wkOk, if_neg hv, decide_eq_false hv]
         exact ⟨_, ⟨rfl, rfl⟩, inferInstance⟩)
theorem wk2_spec (W0 : World) (R : List HP) (bva bwp bat bw pv ps pm d : Nat) (fr : List Frm) (pg : List Pl) (h : Pgs pg) (hF : Frs fr) (root : Int) (va : Nat) (hva : va < 16384) :
    Spec Try.prog W0 55 [.pointer (some ⟨bwp, 0, none⟩), .pointer (some ⟨bat, 0, none⟩)] (wkM bva bwp bat bw pv ps pm d fr pg va (wkQ fr pg root va 1) R)
      (fun v B => v = .bool (wkOk fr pg root va 1) ∧ B = wkM bva bwp bat bw pv ps pm d fr pg va (wkQ fr pg root va 2) R) := by
  simp only [wkQ, wkOk, if_pos hva]
  refine spec_body Try.func55 Try.ntmps55 rfl rfl ?_
  refine x_seq ?_
  refine x_region ?_
  refine s_val rfl (v_assign rfl) ?_
  refine x_nil ?_
  refine n_then ?_
  refine x_seq ?_
  refine x_region ?_
  refine s_val rfl (v_load Try.isAgg118 rfl (cell_own rfl)) ?_
  refine s_val rfl (v_load Try.isAgg3 rfl (cell_own rfl)) ?_
  refine s_do rfl (d_call4 Try.call56 rfl (wkRoot_spec W0 _ bw pv ps pm d fr pg h hF va (by omega) ws0 root)) ?_
  rintro _ B_ ⟨rfl, hB_⟩
  obtain rfl := hB_.symm
  refine s_val rfl (v_move rfl) ?_
  refine s_val rfl (v_extract rfl rfl) ?_
  refine s_val rfl (v_extract rfl rfl) ?_
  refine s_val rfl (v_assign rfl) ?_
  refine s_val rfl (v_assign rfl) ?_
  refine x_nil ?_
  refine n_then ?_
  refine x_seq ?_
  refine x_region ?_
  refine s_val rfl (v_move rfl) ?_
  refine s_do0 (d_store Try.sizeOf3 rfl rfl rfl (Nat.le_of_ble_eq_true rfl) SetL.eq) ?_
  rintro _ _ rfl
  refine x_nil ?_
  refine n_then ?_
  refine x_seq ?_
  refine x_region ?_
  refine s_val rfl (v_move rfl) ?_
  refine s_val rfl (v_assign rfl) ?_
  refine x_nil ?_
  refine n_then ?_
  refine x_ret ?_
  refine x_done (.inl rfl) (.cons (r_tmp rfl) .nil) ?_
  exact ⟨_, ⟨rfl, rfl⟩, inferInstance⟩
theorem wk3_spec (W0 : World) (R : List HP) (bva bwp bat bw pv ps pm d : Nat) (fr : List Frm) (pg : List Pl) (h : Pgs pg) (hF : Frs fr) (root : Int) (va : Nat) (hva : va < 16384) :
    Spec Try.prog W0 57 [.pointer (some ⟨bwp, 0, none⟩), .pointer (some ⟨bat, 0, none⟩)] (wkM bva bwp bat bw pv ps pm d fr pg va (wkQ fr pg root va 2) R)
      (fun v B => v = .bool (wkOk fr pg root va 2) ∧ B = wkM bva bwp bat bw pv ps pm d fr pg va (wkQ fr pg root va 3) R) := by
  simp only [wkQ, wkOk]
  refine spec_body Try.func57 Try.ntmps57 rfl rfl ?_
  refine x_seq ?_
  refine x_region ?_
  refine s_val rfl (v_assign rfl) ?_
  refine x_nil ?_
  refine n_then ?_
  refine x_seq ?_
  refine x_region ?_
  refine s_val rfl (v_load Try.isAgg118 rfl (cell_own rfl)) ?_
  refine s_val rfl (v_load Try.isAgg3 rfl (cell_own rfl)) ?_
  refine s_do rfl (d_call4 Try.call58 rfl (wkLeaf_spec W0 _ bw pv ps pm d fr pg h hF va (by omega) _ (rtA fr pg va root))) ?_
  rintro _ B_ ⟨rfl, hB_⟩
  obtain rfl := hB_.symm
  refine s_val rfl (v_assign rfl) ?_
  refine x_nil ?_
  refine n_then ?_
  refine x_ret ?_
  refine x_done (.inl rfl) (.cons (r_tmp rfl) .nil) ?_
  exact ⟨_, ⟨rfl, rfl⟩, inferInstance⟩
def wkFn (bva bwp bat : Nat) : List Value := [.func (.func 53) #[] #[.pointer (some ⟨bva, 0, none⟩), .pointer (some ⟨bwp, 0, none⟩)], .func (.func 55) #[] #[.pointer (some ⟨bwp, 0, none⟩), .pointer (some ⟨bat, 0, none⟩)], .func (.func 57) #[] #[.pointer (some ⟨bwp, 0, none⟩), .pointer (some ⟨bat, 0, none⟩)]]
/-- The step that is due. -/
theorem wkStep {W0 : World} {N : FSz} {e : Env} {R : List HP} {bva bwp bat bw pv ps pm d : Nat} {fr : List Frm} {pg : List Pl} {root : Int} {va i : Nat} {fx : Operand} {v : Value} (h : Pgs pg) (hF : Frs fr) (hi : i < 3) (hal : ∀ m, m < i → wkOk fr pg root va m = true) (hv : (wkFn bva bwp bat)[i]? = some v) (hx : ev e fx = some v) :
    Does Try.prog W0 N e (wkM bva bwp bat bw pv ps pm d fr pg va (wkQ fr pg root va i) R) (.call { callee := .value fx, args := #[], argTypes := #[] }) (fun v B => v = .bool (wkOk fr pg root va i) ∧ B = wkM bva bwp bat bw pv ps pm d fr pg va (wkQ fr pg root va (i + 1)) R) := by
  have h3 : i = 0 ∨ i = 1 ∨ i = 2 := by omega
  rcases h3 with rfl | rfl | rfl
  · cases hv
    exact d_callv (us := []) (vs := []) (cs := [.pointer (some ⟨bva, 0, none⟩), .pointer (some ⟨bwp, 0, none⟩)]) hx Try.call53 rfl (wk1_spec W0 R bva bwp bat bw pv ps pm d fr pg root va)
  · cases hv
    have hva : va < 16384 := of_decide_eq_true (hal 0 (by decide))
    exact d_callv (us := []) (vs := []) (cs := [.pointer (some ⟨bwp, 0, none⟩), .pointer (some ⟨bat, 0, none⟩)]) hx Try.call55 rfl (wk2_spec W0 R bva bwp bat bw pv ps pm d fr pg h hF root va hva)
  · cases hv
    have hva : va < 16384 := of_decide_eq_true (hal 0 (by decide))
    exact d_callv (us := []) (vs := []) (cs := [.pointer (some ⟨bwp, 0, none⟩), .pointer (some ⟨bat, 0, none⟩)]) hx Try.call57 rfl (wk3_spec W0 R bva bwp bat bw pv ps pm d fr pg h hF root va hva)
theorem wkR_stop {fr : List Frm} {pg : List Pl} {root : Int} {va i : Nat} (hi : i < 3) (hal : ∀ m, m < i → wkOk fr pg root va m = true) (hst : wkOk fr pg root va i = false) : wkR fr pg root va = (wkQ fr pg root va (i + 1)).1 := by
  have h3 : i = 0 ∨ i = 1 ∨ i = 2 := by omega
  rcases h3 with rfl | rfl | rfl
  · have : ¬ va < 16384 := of_decide_eq_false hst
    rw [wkR, if_neg this]
  · have hva : va < 16384 := of_decide_eq_true (hal 0 (by decide))
    have : ¬ rtB fr pg va root = true := by rw [show rtB fr pg va root = false from hst]; decide
    rw [wkR, if_pos hva, if_neg this]
  · have hva : va < 16384 := of_decide_eq_true (hal 0 (by decide))
    rw [wkR, if_pos hva, if_pos (show rtB fr pg va root = true from hal 1 (by decide))]
theorem wkR_end {fr : List Frm} {pg : List Pl} {root : Int} {va : Nat} (hal : ∀ m, m < 3 → wkOk fr pg root va m = true) : wkR fr pg root va = (wkQ fr pg root va 3).1 := by
  have hva : va < 16384 := of_decide_eq_true (hal 0 (by decide))
  rw [wkR, if_pos hva, if_pos (show rtB fr pg va root = true from hal 1 (by decide))]
theorem wkWalk_spec (W0 : World) (R : List HP) (pv ps pm d : Nat) (fr : List Frm) (pg : List Pl) (h : Pgs pg) (hF : Frs fr) (root : Int) (va : Nat) (hva : va < 4294967296) :
    Spec Try.prog W0 22 [.pointer (some ⟨pv, 0, none⟩), .int .i64 root, .int .u32 va] (vwW pv ps pm d fr pg R)
      (fun v B => v = .agg (wsV (wkR fr pg root va)).toArray ∧ B = vwW pv ps pm d fr pg R) := by
  refine spec_body Try.func22 Try.ntmps22 rfl rfl ?_
  refine x_seq ?_
  refine x_region ?_
  refine s_do rfl (d_box rfl rfl) ?_
  rintro _ _ ⟨b1, rfl, rfl⟩
  refine s_do rfl (d_allocA Try.zeroValue63) ?_
  rintro _ _ ⟨b2, rfl, rfl⟩
  refine x_nil ?_
  refine n_then ?_
  refine x_scope ?_
  refine x_seq ?_
  refine x_region ?_
  refine s_val rfl (v_move rfl) ?_
  refine s_val rfl (v_load Try.isAgg24 rfl (cell_own rfl)) ?_
  refine s_val rfl (v_build Try.underlying63 Try.zeroValue63 (sized_cons Try.sizeOf61 (sized_cons Try.sizeOf3 (sized_cons Try.sizeOf3 (sized_cons Try.sizeOf3 sized_nil)))) (fil_scal rfl Try.sizeOf3 rfl rfl (Nat.le_of_ble_eq_true rfl) SetL.eq (fil_scal rfl Try.sizeOf3 rfl rfl (Nat.le_of_ble_eq_true rfl) SetL.eq fil_nil))) ?_
  refine s_val rfl (v_build Try.underlying120 Try.zeroValue120 (sized_cons Try.sizeOf25 (sized_cons Try.sizeOf24 (sized_cons Try.sizeOf63 sized_nil))) (fil_scal rfl Try.sizeOf25 rfl rfl (Nat.le_of_ble_eq_true rfl) SetL.eq (fil_scal rfl Try.sizeOf24 rfl rfl (Nat.le_of_ble_eq_true rfl) SetL.eq (fil_agg rfl Try.sizeOf63 rfl rfl (Nat.le_of_ble_eq_true rfl) SetRL.eq fil_nil)))) ?_
  refine s_do rfl (d_boxA rfl) ?_
  rintro _ _ ⟨b3, rfl, rfl⟩
  refine s_do rfl (d_alloc Try.zeroValue118 rfl) ?_
  rintro _ _ ⟨b4, rfl, rfl⟩
  refine s_do0 (d_store Try.sizeOf118 rfl rfl rfl (Nat.le_of_ble_eq_true rfl) SetL.eq) ?_
  rintro _ _ rfl
  refine x_nil ?_
  refine n_then ?_
  refine x_seq ?_
  refine x_region ?_
  refine s_val rfl (v_move rfl) ?_
  refine s_do rfl (d_alloc Try.zeroValue3 rfl) ?_
  rintro _ _ ⟨b5, rfl, rfl⟩
  refine s_do0 (d_store Try.sizeOf3 rfl rfl rfl (Nat.le_of_ble_eq_true rfl) SetL.eq) ?_
  rintro _ _ rfl
  refine x_nil ?_
  refine n_then ?_
  refine x_seq ?_
  refine x_region ?_
  refine s_val rfl (v_mkFunc rfl rfl) ?_
  refine s_val rfl (v_mkFunc rfl rfl) ?_
  refine s_val rfl (v_mkFunc rfl rfl) ?_
  refine s_do rfl (d_sliceLit Try.underlying123 Try.sizeOf35 Try.zeroValue35 rfl rfl rfl rfl rfl (by decide) (by decide)) ?_
  rintro _ _ ⟨b6, rfl, rfl⟩
  refine s_val rfl (v_assign rfl) ?_
  refine x_nil ?_
  refine n_then ?_
  refine x_seq ?_
  refine x_label ?_
  refine n_then ?_
  refine x_seq ?_
  refine x_seq ?_
  refine x_region ?_
  refine s_val rfl (v_move rfl) ?_
  refine s_val rfl (v_len_slice Try.underlying123 rfl) ?_
  refine s_val rfl (v_move rfl) ?_
  refine x_nil ?_
  refine n_then ?_
  refine x_block ?_
  refine x_loop (fun i : Nat => i ≤ 3 ∧ ∀ m, m < i → wkOk fr pg root va m = true) (fun i => [(6, .pointer (some ⟨b2, 0, none⟩)), (7, .pointer (some ⟨b4, 0, none⟩)), (22, .slice (some ⟨b6, 0, none⟩) 3 3), (23, .int .i64 3), (24, .int .i64 i)]) (fun i => pt b6 (cob (wkFn b1 b4 b5) 35) :: pt b2 (cob (wsV ⟨false, 0, 0, 0, 0, 0⟩) 63) :: wkM b1 b4 b5 b3 pv ps pm d fr pg va (wkQ fr pg root va i) R) (fun i => 3 - i) 0 ?_ ?_ ?_ ?_
  · exact ⟨Nat.zero_le _, fun m hm => by omega⟩
  · repeat (first | exact sub_nil | refine sub_cons rfl ?_)
  · show Ent (pt b6 (cob (wkFn b1 b4 b5) 35) :: pt b5 (cob [.int .i64 (wkQ fr pg root va 0).2] 3) :: pt b4 (cob [.pointer (some ⟨b3, 0, none⟩)] 118) :: pt b3 (wayO pv va (wkQ fr pg root va 0).1) :: pt b2 (cob (wsV ⟨false, 0, 0, 0, 0, 0⟩) 63) :: pt b1 (cob [.int .u32 va] 24) :: vwW pv ps pm d fr pg R) _
    exact inferInstance
  · intro i ⟨hi, hal⟩
    refine x_seq ?_
    refine x_region ?_
    refine s_val rfl (v_lss rfl rfl) ?_
    refine x_nil ?_
    refine n_then ?_
    refine x_seq ?_
    refine x_if rfl ?_ ?_
    · intro c5
      refine x_skip ?_
      refine n_then ?_
      refine x_seq ?_
      refine x_block ?_
      refine x_seq ?_
      obtain ⟨fv, hfv⟩ : ∃ v, (wkFn b1 b4 b5)[i]? = some v := ⟨(wkFn b1 b4 b5)[i]'(by show i < 3; omega), by simp⟩
      refine x_region ?_
      refine s_val rfl (v_idx Try.underlying123 Try.sizeOf35 rfl rfl rfl (by omega) (by first | exact Nat.zero_add _ | rfl)) ?_
      refine s_val rfl (v_load Try.isAgg35 rfl (cell_own (by rw [Nat.mul_one]; exact hfv))) ?_
      refine s_val rfl (v_assign rfl) ?_
      refine x_nil ?_
      refine n_then ?_
      refine x_seq ?_
      refine x_region ?_
      refine s_val rfl (v_move rfl) ?_
      refine s_do rfl (does_ent inferInstance (wkStep (R := pt b6 (cob (wkFn b1 b4 b5) 35) :: pt b2 (cob (wsV ⟨false, 0, 0, 0, 0, 0⟩) 63) :: R) (bva := b1) (bwp := b4) (bat := b5) (bw := b3) (pv := pv) (ps := ps) (pm := pm) (d := d) h hF (by omega) hal hfv rfl)) ?_
      rintro _ B_ ⟨rfl, hB_⟩
      obtain rfl := hB_.symm
      refine s_val rfl (v_not rfl) ?_
      refine x_nil ?_
      refine n_then ?_
      refine x_if rfl ?_ ?_
      · intro c7
        have hst : wkOk fr pg root va i = false := by simpa using c7
        have hres := wkR_stop (by omega) hal hst
        refine x_exit ?_
        refine e_block_ne rfl ?_
        refine e_then ?_
        refine e_then ?_
        refine e_block ?_
        refine n_then ?_
        refine x_seq ?_
        refine x_region ?_
        refine s_val rfl (v_load Try.isAgg118 rfl (cell_own rfl)) ?_
        refine s_val rfl (v_nilCheck rfl) ?_
        refine s_val rfl (v_fieldAddr rfl Try.underlying120 rfl Try.sizeOf63 rfl (by first | exact Nat.zero_add _ | rfl)) ?_
        refine s_val rfl (v_loadPart Try.isAgg63 Try.sizeOf63 rfl TakeL.eq rfl) ?_
        refine s_do0 (d_storeAll Try.sizeOf63 rfl rfl rfl rfl rfl) ?_
        rintro _ _ rfl
        refine x_nil ?_
        refine n_then ?_
        refine x_ret ?_
        refine r_scope ?_
        refine x_done (.inl rfl) (.cons (r_all Try.isAgg63 Try.sizeOf63 rfl rfl) .nil) ?_
        rw [hres]
        exact ⟨_, ⟨rfl, rfl⟩, inferInstance⟩
      · intro c7
        have hst : wkOk fr pg root va i = true := Decidable.not_not.1 c7
        refine x_skip ?_
        refine n_block ?_
        refine n_then ?_
        refine x_region ?_
        refine s_val rfl (v_add rfl rfl (by first | exact w64 (by omega) | rfl)) ?_
        refine s_val rfl (v_move rfl) ?_
        refine x_nil ?_
        refine n_then ?_
        refine inv_intro (i + 1) ?_ ?_ ?_ ?_
        · exact ⟨by omega, fun m hm => by
            rcases Nat.lt_or_ge m i with q | q
            · exact hal m q
            · rw [show m = i by omega]; exact hst⟩
        · omega
        · repeat (first | exact sub_nil | refine sub_cons rfl ?_)
        · exact inferInstance
    · intro c5
      obtain rfl : i = 3 := by omega
      have hres := wkR_end hal
      refine x_exit ?_
      refine e_then ?_
      refine e_then ?_
      refine e_block ?_
      refine n_then ?_
      refine x_seq ?_
      refine x_region ?_
      refine s_val rfl (v_load Try.isAgg118 rfl (cell_own rfl)) ?_
      refine s_val rfl (v_nilCheck rfl) ?_
      refine s_val rfl (v_fieldAddr rfl Try.underlying120 rfl Try.sizeOf63 rfl (by first | exact Nat.zero_add _ | rfl)) ?_
      refine s_val rfl (v_loadPart Try.isAgg63 Try.sizeOf63 rfl TakeL.eq rfl) ?_
      refine s_do0 (d_storeAll Try.sizeOf63 rfl rfl rfl rfl rfl) ?_
      rintro _ _ rfl
      refine x_nil ?_
      refine n_then ?_
      refine x_ret ?_
      refine r_scope ?_
      refine x_done (.inl rfl) (.cons (r_all Try.isAgg63 Try.sizeOf63 rfl rfl) .nil) ?_
      rw [hres]
      exact ⟨_, ⟨rfl, rfl⟩, inferInstance⟩
end Go.Proofs.Ytalpgipkkdlpgaa
