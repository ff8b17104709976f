/-
  Part 5 of the proof of MmuHolds: rules, and walks of functions. Conditions: none.
-/
import Derived.Test.YtllkdnadmmjehaaGreatDoorMmuHoldsD
namespace Go.Proofs.YtllkdnadmmjehaaGreatDoor
open Go.RowKit
set_option linter.unusedSimpArgs false
set_option linter.unusedVariables false
set_option maxRecDepth 20000
abbrev mmO (pv bt bs : Nat) : Obj := cob [.pointer (some ⟨pv, 0, none⟩), .pointer (some ⟨bt, 0, none⟩), .pointer (some ⟨bs, 0, none⟩)] 97
theorem mmNone_spec (W0 : World) (R : List HP) (bm pv bt bs : Nat) : Spec Tryz.prog W0 31 [.pointer (some ⟨bm, 0, none⟩)] (pt bm (mmO pv bt bs) :: R) (fun v B => v = .bool false ∧ B = pt bm (mmO pv bt bs) :: R) := by
  refine spec_body Tryz.func31 Tryz.ntmps31 rfl rfl ?_
  refine x_seq (x_region (s_val rfl (v_assign rfl) (x_nil (n_then (x_seq (x_region (s_val rfl (v_move rfl) (s_val rfl (v_eql_ptr_nil Tryz.underlying24 rfl rfl) (s_val rfl (v_move rfl) ?_)))))))))
  refine s_or rfl rfl rfl ?_ ?_
  · intro g1_3
    cases g1_3
  · intro g1_3
    refine s_val rfl (v_move rfl) (s_yes rfl rfl (s_val rfl (v_nilCheck rfl) (s_yes rfl rfl ?_)))
    refine s_val rfl (v_fieldAddr rfl Tryz.underlying97 rfl Tryz.sizeOf25 rfl (by first | exact Nat.zero_add _ | rfl)) ?_
    refine s_yes rfl rfl (s_val rfl (v_load Tryz.isAgg25 rfl (cell_own rfl)) ?_)
    refine s_yes rfl rfl (s_val rfl (v_eql_ptr_nil Tryz.underlying25 rfl rfl) (s_val rfl (v_pick_f rfl rfl) (s_val rfl (v_assign rfl) (x_nil (n_then (x_ret (x_done (.inl rfl) (.cons (r_tmp rfl) .nil) ?_)))))))
    exact ⟨_, ⟨rfl, rfl⟩, inferInstance⟩
def dropK (ks : List Key) (T : List It) : List It := ks.foldl (fun T k => without k T) T
theorem dropK_sub {ks : List Key} : ∀ {T : List It} {y : It}, y ∈ dropK ks T → y ∈ T ∧ y.key ∉ ks := by
  induction ks with
  | nil => intro T y h; exact ⟨h, by simp⟩
  | cons k ks ih =>
    intro T y h
    obtain ⟨h1, h2⟩ := ih (T := without k T) h
    obtain ⟨h3, h4⟩ := mem_without.1 h1
    refine ⟨h3, fun q => ?_⟩
    rcases List.mem_cons.1 q with q | q
    · exact h4 q
    · exact h2 q
theorem dropK_len {ks : List Key} : ∀ {T : List It}, (dropK ks T).length ≤ T.length := by
  induction ks with
  | nil => intro T; exact Nat.le_refl _
  | cons k ks ih => intro T; exact Nat.le_trans (ih (T := without k T)) (without_le k T)
theorem dropK_snoc (ks : List Key) (k : Key) (T : List It) : dropK (ks ++ [k]) T = without k (dropK ks T) := by simp [dropK, List.foldl_append]
theorem mmForget_spec (W0 : World) (R : List HP) (bm pv bt bs : Nat) (its : List It) (tr tw : Value) (now : Nat) (T : List It) (hR : Rep its now T) (hT : T.length ≤ 100) (a : Option Addr) (c : Nat) (ks : List Key) (hk : ks.length ≤ 1000) :
    Spec Tryz.prog W0 67 [.pointer (some ⟨bm, 0, none⟩), .slice a ks.length c] (pt bm (mmO pv bt bs) :: rowH bt (its, [tr, tw, .bool true]) :: osl 64 2 (.slice a ks.length c) (ks.flatMap keyV) :: R)
      (fun v B => v = .tuple #[] ∧ ∃ its', B = pt bm (mmO pv bt bs) :: rowH bt (its', [tr, tw, .bool true]) :: osl 64 2 (.slice a ks.length c) (ks.flatMap keyV) :: R ∧ Rep its' now (dropK ks T)) := by
  refine spec_body Tryz.func67 Tryz.ntmps67 rfl rfl ?_
  refine x_seq (x_region (s_val rfl (v_move rfl) (s_val rfl (v_len_slice Tryz.underlying138 rfl) (s_val rfl (v_move rfl) (x_nil (n_then (x_block ?_)))))))
  refine x_loop (fun X : Nat × List It => X.1 ≤ ks.length ∧ Rep X.2 now (dropK (ks.take X.1) T)) (fun X => [(0, .pointer (some ⟨bm, 0, none⟩)), (6, .slice a ks.length c), (7, .int .i64 (ks.length : Nat)), (8, .int .i64 X.1)]) (fun X => pt bm (mmO pv bt bs) :: rowH bt (X.2, [tr, tw, .bool true]) :: osl 64 2 (.slice a ks.length c) (ks.flatMap keyV) :: R) (fun X => ks.length - X.1) (0, its) ?_ ?_ ?_ ?_
  · exact ⟨Nat.zero_le _, hR⟩
  · repeat (first | exact sub_nil | refine sub_cons rfl ?_)
  · exact inferInstance
  · intro ⟨i, its1⟩ ⟨hi, hI⟩
    dsimp only at hi hI ⊢
    refine x_seq (x_region (s_val rfl (v_lss rfl rfl) (x_nil (n_then (x_seq ?_)))))
    refine x_if rfl ?_ ?_
    · intro c1
      refine x_skip (n_then (x_seq (x_block (x_seq ?_))))
      have hi1 : i < ks.length := by omega
      refine run_sla (E := 64) (sz := 2) (a := a) (c := c) (n := ks.length) keyV ks (fun _ => rfl) (by decide) rfl (fun hs => ?_)
      obtain ⟨g, o, hga, hc⟩ := hs.at_ hi1
      obtain ⟨k, hk1⟩ : ∃ k, ks[i] = k := ⟨_, rfl⟩
      have htk : ks.take (i + 1) = ks.take i ++ [k] := by rw [List.take_succ_eq_append_getElem hi1, hk1]
      have hdl := dropK_len (ks := ks.take i) (T := T)
      rw [hk1] at hc
      refine x_region ?_
      refine s_val rfl (v_idxA Tryz.underlying138 Tryz.sizeOf64 rfl hga rfl rfl hi1 (by first | exact Nat.zero_add _ | rfl)) ?_
      refine s_val rfl (v_loadAgg Tryz.isAgg64 Tryz.sizeOf64 rfl hc.weak rfl) ?_
      refine s_do rfl (d_allocA Tryz.zeroValue64) ?_
      rintro _ _ ⟨bk, rfl, rfl⟩
      refine s_do0 (d_storeAll Tryz.sizeOf64 rfl rfl rfl rfl rfl) ?_
      rintro _ _ rfl
      refine x_nil (n_then ?_)
      refine x_draw [(bm, 0, _), (bk, 0, _)] 6 mixed rfl (sc_own (sc_own sc_end)) (fun hS => ?_)
      refine d_take 0 rfl rfl (by kernel_rfl) (by kernel_rfl) (by kernel_rfl) rfl hS (v_move rfl) ?_
      refine d_take 1 rfl rfl (by kernel_rfl) (by kernel_rfl) (by kernel_rfl) rfl hS (v_nilCheck rfl) ?_
      refine d_take 2 rfl rfl (by kernel_rfl) (by kernel_rfl) (by kernel_rfl) rfl hS (v_fieldAddr rfl Tryz.underlying97 rfl Tryz.sizeOf94 rfl (by first | exact Nat.zero_add _ | rfl)) ?_
      refine d_take 3 rfl rfl (by kernel_rfl) (by kernel_rfl) (by kernel_rfl) rfl hS (v_load Tryz.isAgg94 rfl (by first | exact cell_sc0 (k := 0) rfl rfl | exact cell_sc0 (k := 1) rfl rfl)) ?_
      refine d_take 4 rfl rfl (by kernel_rfl) (by kernel_rfl) (by kernel_rfl) rfl hS (v_loadAgg Tryz.isAgg64 Tryz.sizeOf64 rfl (by first | exact cells_sc (k := 0) rfl | exact cells_sc (k := 1) rfl) rfl) ?_
      refine d_one 5 (by kernel_rfl) rfl rfl (d_call1 Tryz.call102 rfl (Drop_spec18 W0 _ bt its1 tr now (dropK (ks.take i) T) k hI (by omega) tw)) rfl ?_; clear hS
      rintro _ B_ ⟨rfl, its2, hB_, hR2⟩
      subst hB_
      refine ⟨(sc_own (sc_own sc_end)), fun hS => ?_⟩
      refine d_done (by kernel_rfl) ?_; clear hS
      refine n_block (n_then (x_region ?_))
      refine s_val rfl (v_add rfl rfl (by first | exact w64 (by omega) | rfl)) ?_
      refine s_val rfl (v_move rfl) (x_nil (n_then ?_))
      refine inv_intro (i + 1, its2) ?_ ?_ ?_ ?_
      · exact ⟨by omega, by rw [htk, dropK_snoc]; exact hR2⟩
      · omega
      · repeat (first | exact sub_nil | refine sub_cons rfl ?_)
      · exact inferInstance
    · intro c1
      refine x_exit (e_then (e_then (e_block (x_done (.inr rfl) .nil ?_))))
      obtain rfl : i = ks.length := by omega
      rw [List.take_length] at hI
      exact ⟨_, ⟨rfl, its1, rfl, hI⟩, inferInstance⟩
@[reducible] def asV (bm : Nat) (on : Bool) (root : Int) (user : Bool) (va : Nat) (kind : Int) : List Value := [.pointer (some ⟨bm, 0, none⟩), .bool on, .int .i64 root, .bool user, .int .u32 va, .int .i64 kind]
abbrev asO (bm : Nat) (on : Bool) (root : Int) (user : Bool) (va : Nat) (kind : Int) : Obj := cob (asV bm on root user va kind) 113
def vaK (root : Int) (va : Nat) : Key := (root, ((va / 64 : Nat) : Int))
theorem asKey_spec (W0 : World) (R : List HP) (ba bm : Nat) (on : Bool) (root : Int) (user : Bool) (va : Nat) (hva : va < 4294967296) (kind : Int) : Spec Tryz.prog W0 76 [.pointer (some ⟨ba, 0, none⟩)] (pt ba (asO bm on root user va kind) :: R) (fun v B => v = .agg (keyV (vaK root va)).toArray ∧ B = pt ba (asO bm on root user va kind) :: R) := by
  refine spec_body Tryz.func76 Tryz.ntmps76 rfl rfl ?_
  refine x_seq (x_region (s_do rfl (d_allocA Tryz.zeroValue64) ?_))
  rintro _ _ ⟨b2, rfl, rfl⟩
  refine x_nil (n_then (x_seq ?_))
  refine x_draw [(ba, 0, _)] 13 mixed rfl (sc_own sc_end) (fun hS => ?_)
  refine d_take 0 rfl rfl (by kernel_rfl) (by kernel_rfl) (by kernel_rfl) rfl hS (v_move rfl) ?_
  refine d_take 1 rfl rfl (by kernel_rfl) (by kernel_rfl) (by kernel_rfl) rfl hS (v_nilCheck rfl) ?_
  refine d_take 2 rfl rfl (by kernel_rfl) (by kernel_rfl) (by kernel_rfl) rfl hS (v_fieldAddr rfl Tryz.underlying113 rfl Tryz.sizeOf30 rfl (by first | exact Nat.zero_add _ | rfl)) ?_
  refine d_take 3 rfl rfl (by kernel_rfl) (by kernel_rfl) (by kernel_rfl) rfl hS (v_fieldAddr rfl Tryz.underlying30 rfl Tryz.sizeOf3 rfl (by first | exact Nat.zero_add _ | rfl)) ?_
  refine d_take 4 rfl rfl (by kernel_rfl) (by kernel_rfl) (by kernel_rfl) rfl hS (v_load Tryz.isAgg3 rfl (cell_sc0 (k := 0) rfl rfl)) ?_
  refine d_take 5 rfl rfl (by kernel_rfl) (by kernel_rfl) (by kernel_rfl) rfl hS (v_move rfl) ?_
  refine d_take 6 rfl rfl (by kernel_rfl) (by kernel_rfl) (by kernel_rfl) rfl hS (v_nilCheck rfl) ?_
  refine d_take 7 rfl rfl (by kernel_rfl) (by kernel_rfl) (by kernel_rfl) rfl hS (v_fieldAddr rfl Tryz.underlying113 rfl Tryz.sizeOf31 rfl (by first | exact Nat.zero_add _ | rfl)) ?_
  refine d_take 8 rfl rfl (by kernel_rfl) (by kernel_rfl) (by kernel_rfl) rfl hS (v_load Tryz.isAgg31 rfl (cell_sc0 (k := 0) rfl rfl)) ?_
  refine d_take 9 rfl rfl (by kernel_rfl) (by kernel_rfl) (by kernel_rfl) rfl hS (v_quo rfl rfl (by decide) ((congrArg (IntKind.wrap .u32) (tdivN va 64)).trans (w32u (by omega)))) ?_
  refine d_take 10 rfl rfl (by kernel_rfl) (by kernel_rfl) (by kernel_rfl) rfl hS (v_conv Tryz.underlying31 Tryz.underlying3 rfl (w64 (by omega))) ?_
  refine d_take 11 rfl rfl (by kernel_rfl) (by kernel_rfl) (by kernel_rfl) rfl hS (v_build Tryz.underlying64 Tryz.zeroValue64 (sized_cons Tryz.sizeOf3 (sized_cons Tryz.sizeOf3 sized_nil)) (fil_scal rfl Tryz.sizeOf3 rfl rfl (Nat.le_of_ble_eq_true rfl) SetL.eq (fil_scal rfl Tryz.sizeOf3 rfl rfl (Nat.le_of_ble_eq_true rfl) SetL.eq fil_nil))) ?_
  refine d_one 12 (by kernel_rfl) rfl rfl (d_storeAll Tryz.sizeOf64 rfl rfl rfl rfl rfl) rfl ?_; clear hS
  rintro _ _ rfl
  refine ⟨(sc_own sc_end), fun hS => ?_⟩
  refine d_done (by kernel_rfl) ?_; clear hS
  refine n_then (x_ret (x_done (.inl rfl) (.cons (r_all Tryz.isAgg64 Tryz.sizeOf64 rfl rfl) .nil) ?_))
  exact ⟨_, ⟨rfl, rfl⟩, inferInstance⟩
def mayB20 (e : Ent3) (kind : Int) (user : Bool) : Bool := needOk kind && (bitR e.2.2 (needR kind) && (!user || bitR e.2.2 8)) && true
theorem asMay_spec (W0 : World) (R : List HP) (ba bm : Nat) (on : Bool) (root : Int) (user : Bool) (va : Nat) (kind : Int) (e : Ent3) : Spec Tryz.prog W0 77 [.pointer (some ⟨ba, 0, none⟩), .agg (entV e).toArray] (pt ba (asO bm on root user va kind) :: R) (fun v B => v = .bool (mayB20 e kind user) ∧ B = pt ba (asO bm on root user va kind) :: R) := by
  refine spec_body Tryz.func77 Tryz.ntmps77 rfl rfl ?_
  refine x_seq (x_region (s_do rfl (d_boxA rfl) ?_))
  rintro _ _ ⟨b3, rfl, rfl⟩
  refine s_val rfl (v_assign rfl) (x_nil (n_then (x_seq ?_)))
  refine x_draw [(b3, 0, _), (ba, 0, _)] 16 mixed rfl (sc_own (sc_own sc_end)) (fun hS => ?_)
  refine d_take 0 rfl rfl (by kernel_rfl) (by kernel_rfl) (by kernel_rfl) rfl hS (v_fieldAddr rfl Tryz.underlying66 rfl Tryz.sizeOf3 rfl (by first | exact Nat.zero_add _ | rfl)) ?_
  refine d_take 1 rfl rfl (by kernel_rfl) (by kernel_rfl) (by kernel_rfl) rfl hS (v_load Tryz.isAgg3 rfl (by first | exact cell_sc0 (k := 0) rfl rfl | exact cell_sc0 (k := 1) rfl rfl)) ?_
  refine d_take 2 rfl rfl (by kernel_rfl) (by kernel_rfl) (by kernel_rfl) rfl hS (v_fieldAddr rfl Tryz.underlying66 rfl Tryz.sizeOf3 rfl (by first | exact Nat.zero_add _ | rfl)) ?_
  refine d_take 3 rfl rfl (by kernel_rfl) (by kernel_rfl) (by kernel_rfl) rfl hS (v_load Tryz.isAgg3 rfl (by first | exact cell_sc0 (k := 0) rfl rfl | exact cell_sc0 (k := 1) rfl rfl)) ?_
  refine d_take 4 rfl rfl (by kernel_rfl) (by kernel_rfl) (by kernel_rfl) rfl hS (v_build Tryz.underlying120 Tryz.zeroValue120 (sized_cons Tryz.sizeOf4 (sized_cons Tryz.sizeOf3 (sized_cons Tryz.sizeOf3 sized_nil))) (fil_scal rfl Tryz.sizeOf4 rfl rfl (Nat.le_of_ble_eq_true rfl) SetL.eq (fil_scal rfl Tryz.sizeOf3 rfl rfl (Nat.le_of_ble_eq_true rfl) SetL.eq (fil_scal rfl Tryz.sizeOf3 rfl rfl (Nat.le_of_ble_eq_true rfl) SetL.eq fil_nil)))) ?_
  refine d_take 5 rfl rfl (by kernel_rfl) (by kernel_rfl) (by kernel_rfl) rfl hS (v_move rfl) ?_
  refine d_take 6 rfl rfl (by kernel_rfl) (by kernel_rfl) (by kernel_rfl) rfl hS (v_nilCheck rfl) ?_
  refine d_take 7 rfl rfl (by kernel_rfl) (by kernel_rfl) (by kernel_rfl) rfl hS (v_fieldAddr rfl Tryz.underlying113 rfl Tryz.sizeOf3 rfl (by first | exact Nat.zero_add _ | rfl)) ?_
  refine d_take 8 rfl rfl (by kernel_rfl) (by kernel_rfl) (by kernel_rfl) rfl hS (v_load Tryz.isAgg3 rfl (by first | exact cell_sc0 (k := 0) rfl rfl | exact cell_sc0 (k := 1) rfl rfl)) ?_
  refine d_take 9 rfl rfl (by kernel_rfl) (by kernel_rfl) (by kernel_rfl) rfl hS (v_move rfl) ?_
  refine d_take 10 rfl rfl (by kernel_rfl) (by kernel_rfl) (by kernel_rfl) rfl hS (v_nilCheck rfl) ?_
  refine d_take 11 rfl rfl (by kernel_rfl) (by kernel_rfl) (by kernel_rfl) rfl hS (v_fieldAddr rfl Tryz.underlying113 rfl Tryz.sizeOf30 rfl (by first | exact Nat.zero_add _ | rfl)) ?_
  refine d_take 12 rfl rfl (by kernel_rfl) (by kernel_rfl) (by kernel_rfl) rfl hS (v_fieldAddr rfl Tryz.underlying30 rfl Tryz.sizeOf4 rfl (by first | exact Nat.zero_add _ | rfl)) ?_
  refine d_take 13 rfl rfl (by kernel_rfl) (by kernel_rfl) (by kernel_rfl) rfl hS (v_load Tryz.isAgg4 rfl (by first | exact cell_sc0 (k := 0) rfl rfl | exact cell_sc0 (k := 1) rfl rfl)) ?_
  refine d_one 14 (by kernel_rfl) rfl rfl (d_call Tryz.call72 rfl (Allows_spec W0 _ true e.2.2 e.1 kind user)) rfl ?_; clear hS
  rintro _ B_ ⟨rfl, hB_⟩
  obtain rfl := hB_.symm
  refine ⟨(sc_own (sc_own sc_end)), fun hS => ?_⟩
  refine d_take 15 rfl rfl (by kernel_rfl) (by kernel_rfl) (by kernel_rfl) rfl hS (v_assign rfl) ?_
  refine d_done (by kernel_rfl) ?_; clear hS
  refine n_then (x_ret (x_done (.inl rfl) (.cons (r_tmp rfl) .nil) ?_))
  exact ⟨_, ⟨rfl, rfl⟩, inferInstance⟩
@[reducible] def hitV20 (p f : Int) (o : Nat) (fast : Bool) : List Value := [.int .i64 p, .int .i64 f, .int .i64 (o : Nat), .bool fast]
theorem asHit_spec (W0 : World) (R : List HP) (ba bm : Nat) (on : Bool) (root : Int) (user : Bool) (va : Nat) (hva : va < 4294967296) (kind : Int) (e : Ent3) (fast : Bool) : Spec Tryz.prog W0 78 [.pointer (some ⟨ba, 0, none⟩), .agg (entV e).toArray, .bool fast] (pt ba (asO bm on root user va kind) :: R) (fun v B => v = .agg (hitV20 e.1 e.2.1 (va % 64) fast).toArray ∧ B = pt ba (asO bm on root user va kind) :: R) := by
  refine spec_body Tryz.func78 Tryz.ntmps78 rfl rfl ?_
  refine x_seq (x_region (s_do rfl (d_boxA rfl) ?_))
  rintro _ _ ⟨b4, rfl, rfl⟩
  refine s_do rfl (d_allocA Tryz.zeroValue54) ?_
  rintro _ _ ⟨b6, rfl, rfl⟩
  refine x_nil (n_then (x_seq ?_))
  refine x_draw [(b4, 0, _), (ba, 0, _)] 13 mixed rfl (sc_own (sc_own sc_end)) (fun hS => ?_)
  refine d_take 0 rfl rfl (by kernel_rfl) (by kernel_rfl) (by kernel_rfl) rfl hS (v_fieldAddr rfl Tryz.underlying66 rfl Tryz.sizeOf3 rfl (by first | exact Nat.zero_add _ | rfl)) ?_
  refine d_take 1 rfl rfl (by kernel_rfl) (by kernel_rfl) (by kernel_rfl) rfl hS (v_load Tryz.isAgg3 rfl (by first | exact cell_sc0 (k := 0) rfl rfl | exact cell_sc0 (k := 1) rfl rfl)) ?_
  refine d_take 2 rfl rfl (by kernel_rfl) (by kernel_rfl) (by kernel_rfl) rfl hS (v_fieldAddr rfl Tryz.underlying66 rfl Tryz.sizeOf3 rfl (by first | exact Nat.zero_add _ | rfl)) ?_
  refine d_take 3 rfl rfl (by kernel_rfl) (by kernel_rfl) (by kernel_rfl) rfl hS (v_load Tryz.isAgg3 rfl (by first | exact cell_sc0 (k := 0) rfl rfl | exact cell_sc0 (k := 1) rfl rfl)) ?_
  refine d_take 4 rfl rfl (by kernel_rfl) (by kernel_rfl) (by kernel_rfl) rfl hS (v_move rfl) ?_
  refine d_take 5 rfl rfl (by kernel_rfl) (by kernel_rfl) (by kernel_rfl) rfl hS (v_nilCheck rfl) ?_
  refine d_take 6 rfl rfl (by kernel_rfl) (by kernel_rfl) (by kernel_rfl) rfl hS (v_fieldAddr rfl Tryz.underlying113 rfl Tryz.sizeOf31 rfl (by first | exact Nat.zero_add _ | rfl)) ?_
  refine d_take 7 rfl rfl (by kernel_rfl) (by kernel_rfl) (by kernel_rfl) rfl hS (v_load Tryz.isAgg31 rfl (by first | exact cell_sc0 (k := 0) rfl rfl | exact cell_sc0 (k := 1) rfl rfl)) ?_
  refine d_take 8 rfl rfl (by kernel_rfl) (by kernel_rfl) (by kernel_rfl) rfl hS (v_and rfl rfl (bits6 hva)) ?_
  refine d_take 9 rfl rfl (by kernel_rfl) (by kernel_rfl) (by kernel_rfl) rfl hS (v_conv Tryz.underlying31 Tryz.underlying3 rfl (w64 (by omega))) ?_
  refine d_take 10 rfl rfl (by kernel_rfl) (by kernel_rfl) (by kernel_rfl) rfl hS (v_move rfl) ?_
  refine d_take 11 rfl rfl (by kernel_rfl) (by kernel_rfl) (by kernel_rfl) rfl hS (v_build Tryz.underlying54 Tryz.zeroValue54 (sized_cons Tryz.sizeOf3 (sized_cons Tryz.sizeOf3 (sized_cons Tryz.sizeOf3 (sized_cons Tryz.sizeOf4 sized_nil)))) (fil_scal rfl Tryz.sizeOf3 rfl rfl (Nat.le_of_ble_eq_true rfl) SetL.eq (fil_scal rfl Tryz.sizeOf3 rfl rfl (Nat.le_of_ble_eq_true rfl) SetL.eq (fil_scal rfl Tryz.sizeOf3 rfl rfl (Nat.le_of_ble_eq_true rfl) SetL.eq (fil_scal rfl Tryz.sizeOf4 rfl rfl (Nat.le_of_ble_eq_true rfl) SetL.eq fil_nil))))) ?_
  refine d_one 12 (by kernel_rfl) rfl rfl (d_storeAll Tryz.sizeOf54 rfl rfl rfl rfl rfl) rfl ?_; clear hS
  rintro _ _ rfl
  refine ⟨(sc_own (sc_own sc_end)), fun hS => ?_⟩
  refine d_done (by kernel_rfl) ?_; clear hS
  refine n_then (x_ret (x_done (.inl rfl) (.cons (r_all Tryz.isAgg54 Tryz.sizeOf54 rfl rfl) .nil) ?_))
  exact ⟨_, ⟨rfl, rfl⟩, inferInstance⟩
end Go.Proofs.YtllkdnadmmjehaaGreatDoor
namespace Go.Proofs.YtllkdnadmmjehaaGreatDoor
open Go.RowKit
set_option linter.unusedSimpArgs false
set_option linter.unusedVariables false
set_option maxRecDepth 20000
theorem ky_fm (l : List Ln) : l.flatMap kyV = (l.map Ln.k).flatMap keyV := by rw [List.flatMap_map]
theorem MOk.drop {fr : List Frm} {pg : List Pl} {d : Nat} {L : List Ln} {T : List It} (h : MOk fr pg d L T) (p : Ln → Bool) : MOk fr pg d (L.filter fun x => !p x) (dropK ((L.filter p).map Ln.k) T) :=
  ⟨h.F, h.n, h.dl, h.P, h.pl, h.ti.drop p fun y hy => by
    obtain ⟨h1, h2⟩ := dropK_sub hy
    exact ⟨h1, fun x hx hf e => h2 (List.mem_map.2 ⟨x, List.mem_filter.2 ⟨hx, hf⟩, e.symm⟩)⟩, fun x hx => h.ln x (List.mem_filter.1 hx).1⟩
theorem MOk.clean {fr : List Frm} {pg : List Pl} {d : Nat} {L : List Ln} {T : List It} (h : MOk fr pg d L T) (hc : ∀ x ∈ L, ∀ n ∈ drL d 12, x.thr ((n : Nat) : Int) = false) : MOk fr pg 0 L T :=
  ⟨h.F, h.n, by decide, h.P, h.pl, h.ti, fun x hx => (h.ln x hx).clean (hc x hx)⟩
theorem in_fm (l : List Nat) : inVs l = l.flatMap fun n => [inV n] := by
  induction l with
  | nil => rfl
  | cons n l ih => rw [List.flatMap_cons, ← ih]; rfl
theorem mmSyncG_spec (W0 : World) (R : List HP) (bm pv bt bs ps pm d : Nat) (its : List It) (tr tw : Value) (now room : Nat) (T : List It) (L : List Ln) (hR : Rep its now T) (hT : T.length ≤ room) (hr : room ≤ 4) (hd : d < 4096) (I : List Ln → List It → Prop) (hIl : ∀ L T, I L T → L.length ≤ 1000) (hId : ∀ L T p, I L T → I (L.filter fun x => !p x) (dropK ((L.filter p).map Ln.k) T)) (h : I L T) :
    Spec Tryz.prog W0 42 [.pointer (some ⟨bm, 0, none⟩)] (pt bm (mmO pv bt bs) :: rowH bt (its, [tr, tw, .bool true]) :: shH bs L :: pt pv (viO ps pm d) :: R)
      (fun v B => v = .tuple #[] ∧ ∃ its' T' L', B = pt bm (mmO pv bt bs) :: rowH bt (its', [tr, tw, .bool true]) :: shH bs L' :: pt pv (viO ps pm 0) :: R ∧ Rep its' now T' ∧ T'.length ≤ room ∧ I L' T' ∧ (∀ x ∈ L', ∀ n ∈ drL d 12, x.thr ((n : Nat) : Int) = false) ∧ (∀ x ∈ L', x ∈ L) ∧ (drL d 12 = [] → L' = L)) := by
  obtain ⟨ds, hds⟩ : ∃ l, drL d 12 = l := ⟨_, rfl⟩
  have hdl : ds.length ≤ 12 := by rw [← hds]; exact drL_len d 12
  refine spec_body Tryz.func42 Tryz.ntmps42 rfl rfl ?_
  refine x_seq (x_region (s_val rfl (v_move rfl) (s_val rfl (v_nilCheck rfl) ?_)))
  refine s_val rfl (v_fieldAddr rfl Tryz.underlying97 rfl Tryz.sizeOf25 rfl (by first | exact Nat.zero_add _ | rfl)) ?_
  refine s_val rfl (v_load Tryz.isAgg25 rfl (cell_own rfl)) ?_
  refine s_do rfl (d_call1 Tryz.call73 rfl (viDirty_spec W0 _ pv ps pm d hd)) ?_
  rintro _ B_ ⟨ad, cd, rfl, hB_⟩
  subst hB_
  rw [hds]
  refine s_val rfl (v_len_slice Tryz.underlying141 rfl) (s_val rfl (v_move rfl) (x_nil (n_then (x_block ?_))))
  refine x_loop (fun X : Nat × List It × List It × List Ln => X.1 ≤ ds.length ∧ Rep X.2.1 now X.2.2.1 ∧ X.2.2.1.length ≤ room ∧ I X.2.2.2 X.2.2.1 ∧ (∀ x ∈ X.2.2.2, ∀ n ∈ ds.take X.1, x.thr ((n : Nat) : Int) = false) ∧ (∀ x ∈ X.2.2.2, x ∈ L) ∧ (X.1 = 0 → X.2.2.2 = L)) (fun X => [(0, .pointer (some ⟨bm, 0, none⟩)), (8, .slice ad ds.length cd), (9, .int .i64 (ds.length : Nat)), (10, .int .i64 X.1)]) (fun X => pt bm (mmO pv bt bs) :: rowH bt (X.2.1, [tr, tw, .bool true]) :: shH bs X.2.2.2 :: pt pv (viO ps pm 0) :: osl 3 1 (.slice ad ds.length cd) (inVs ds) :: R) (fun X => ds.length - X.1) (0, its, T, L) ?_ ?_ ?_ ?_
  · exact ⟨Nat.zero_le _, hR, hT, h, fun x _ n hn => by simp at hn, fun x hx => hx, fun _ => rfl⟩
  · repeat (first | exact sub_nil | refine sub_cons rfl ?_)
  · exact inferInstance
  · intro ⟨i, its1, T1, L1⟩ ⟨hi, hR1, hT1, h1, hc1, hs1, hz1⟩
    dsimp only at hi hR1 hT1 h1 hc1 hs1 hz1 ⊢
    refine x_seq (x_region (s_val rfl (v_lss rfl rfl) (x_nil (n_then (x_seq ?_)))))
    refine x_if rfl ?_ ?_
    · intro c1
      refine x_skip (n_then (x_seq (x_block (x_seq ?_))))
      have hi1 : i < ds.length := by omega
      refine run_sla (E := 3) (sz := 1) (a := ad) (c := cd) (n := ds.length) (fun n => [inV n]) ds (fun _ => rfl) (by decide) (in_fm ds) (fun hs => ?_)
      obtain ⟨g, o, hga, hc⟩ := hs.at_ hi1
      obtain ⟨q, hq⟩ : ∃ q, ds[i] = q := ⟨_, rfl⟩
      have htk : ds.take (i + 1) = ds.take i ++ [q] := by rw [List.take_succ_eq_append_getElem hi1, hq]
      have hll := hIl L1 T1 h1
      obtain ⟨ks, hks⟩ : ∃ ks, (L1.filter fun x => x.thr (q : Int)).map Ln.k = ks := ⟨_, rfl⟩
      have hkl : (L1.filter fun x => x.thr (q : Int)).length = ks.length := by rw [← hks, List.length_map]
      have hkn : ks.length ≤ 1000 := by rw [← hkl]; exact Nat.le_trans (List.length_filter_le _ _) (by omega)
      have hdr := hId L1 T1 (fun x => x.thr (q : Int)) h1
      rw [hks] at hdr
      rw [hq] at hc
      refine x_region ?_
      refine s_val rfl (v_idxA Tryz.underlying141 Tryz.sizeOf3 rfl hga rfl rfl hi1 (by first | exact Nat.zero_add _ | rfl)) ?_
      refine s_val rfl (v_load Tryz.isAgg3 rfl (Cells.weak hc 0 _ rfl)) ?_
      refine s_val rfl (v_assign rfl) (x_nil (n_then (x_region (s_val rfl (v_move rfl) (s_val rfl (v_move rfl) (s_val rfl (v_nilCheck rfl) ?_))))))
      refine s_val rfl (v_fieldAddr rfl Tryz.underlying97 rfl Tryz.sizeOf95 rfl (by first | exact Nat.zero_add _ | rfl)) ?_
      refine s_val rfl (v_load Tryz.isAgg95 rfl (cell_own rfl)) ?_
      refine s_val rfl (v_move rfl) ?_
      refine s_do rfl (d_call1 Tryz.call74 rfl (shWrote_spec W0 _ bs L1 (by omega) (q : Int))) ?_
      rintro _ B_ ⟨aw, cw, rfl, hB_⟩
      subst hB_
      rw [ky_fm, hks, hkl]
      refine s_do rfl (d_call3 Tryz.call67 rfl (mmForget_spec W0 _ bm pv bt bs its1 tr tw now T1 hR1 (by omega) aw cw ks hkn)) ?_
      rintro _ B_ ⟨rfl, its2, hB_, hR2⟩
      subst hB_
      refine x_nil (n_block (n_then (x_region ?_)))
      refine s_val rfl (v_add rfl rfl (by first | exact w64 (by omega) | rfl)) ?_
      refine s_val rfl (v_move rfl) (x_nil (n_then ?_))
      refine inv_intro (i + 1, its2, dropK ks T1, L1.filter fun x => !x.thr (q : Int)) ?_ ?_ ?_ ?_
      · refine ⟨by omega, hR2, Nat.le_trans dropK_len hT1, hdr, fun x hx n hn => ?_, fun x hx => hs1 x (List.mem_filter.1 hx).1, fun q => absurd q (Nat.succ_ne_zero _)⟩
        obtain ⟨hx1, hx2⟩ := List.mem_filter.1 hx
        dsimp only at hn
        rw [htk] at hn
        rcases List.mem_append.1 hn with z | z
        · exact hc1 x hx1 n z
        · obtain rfl : n = q := by simpa using z
          simpa using hx2
      · omega
      · repeat (first | exact sub_nil | refine sub_cons rfl ?_)
      · exact inferInstance
    · intro c1
      refine x_exit (e_then (e_then (e_block (x_done (.inr rfl) .nil ?_))))
      obtain rfl : i = ds.length := by omega
      rw [List.take_length] at hc1
      exact ⟨_, ⟨rfl, its1, T1, L1, rfl, hR1, hT1, h1, hc1, hs1, fun q => hz1 (by rw [q]; rfl)⟩, inferInstance⟩
theorem mmSync_spec (W0 : World) (R : List HP) (bm pv bt bs ps pm d : Nat) (its : List It) (tr tw : Value) (now room : Nat) (T : List It) (L : List Ln) (fr : List Frm) (pg : List Pl) (hR : Rep its now T) (hT : T.length ≤ room) (hr : room ≤ 4) (h : MOk fr pg d L T) :
    Spec Tryz.prog W0 42 [.pointer (some ⟨bm, 0, none⟩)] (pt bm (mmO pv bt bs) :: rowH bt (its, [tr, tw, .bool true]) :: shH bs L :: pt pv (viO ps pm d) :: R)
      (fun v B => v = .tuple #[] ∧ ∃ its' T' L', B = pt bm (mmO pv bt bs) :: rowH bt (its', [tr, tw, .bool true]) :: shH bs L' :: pt pv (viO ps pm 0) :: R ∧ Rep its' now T' ∧ T'.length ≤ room ∧ MOk fr pg 0 L' T' ∧ (∀ x ∈ L', x ∈ L) ∧ (drL d 12 = [] → L' = L)) :=
  spec_post (mmSyncG_spec W0 R bm pv bt bs ps pm d its tr tw now room T L hR hT hr h.dl (MOk fr pg d) (fun L T h => Nat.le_trans h.ti.len (by decide)) (fun L T p h => h.drop p) h) fun v B hB => by
    obtain ⟨rfl, its1, T1, L1, rfl, h1, h2, h3, h4, h5⟩ := hB
    exact ⟨_, ⟨rfl, its1, T1, L1, rfl, h1, h2, h3.clean h4, h5⟩, ent_refl⟩
def entO : Option Ln → Ent3
  | none => (0, 0, 0)
  | some x => x.e
theorem shGV_eq (k : Key) (L : List Ln) : shGV k L = .tuple #[.agg (entV (entO (shGet k L))).toArray, .bool (shGet k L).isSome] := by
  unfold shGV
  cases shGet k L <;> rfl
theorem TI.sub' {L : List Ln} {T T' : List It} (h : TI L T) (hs : ∀ y ∈ T', y ∈ T) : TI L T' := ⟨h.keys, h.len, h.nowr, fun y hy => h.sub y (hs y hy)⟩
theorem mmTrim_spec (W0 : World) (R : List HP) (bm pv bt bs : Nat) (its : List It) (tr tw : Value) (now room : Nat) (T : List It) (L : List Ln) (hR : Rep its now T) (hT : T.length ≤ room) (hr : room ≤ 4) (hl : L.length ≤ 32) :
    Spec Tryz.prog W0 126 [.pointer (some ⟨bm, 0, none⟩)] (pt bm (mmO pv bt bs) :: rowH bt (its, [tr, tw, .bool true]) :: shH bs L :: R)
      (fun v B => v = .tuple #[] ∧ ∃ its' T', B = pt bm (mmO pv bt bs) :: rowH bt (its', [tr, tw, .bool true]) :: shH bs L :: R ∧ Rep its' now T' ∧ T'.length ≤ room ∧ ∀ y ∈ T', y ∈ T ∧ (shGet y.key L).isSome = true) := by
  refine spec_body Tryz.func126 Tryz.ntmps126 rfl rfl ?_
  refine x_seq (x_region (s_val rfl (v_move rfl) (s_val rfl (v_nilCheck rfl) ?_)))
  refine s_val rfl (v_fieldAddr rfl Tryz.underlying97 rfl Tryz.sizeOf94 rfl (by first | exact Nat.zero_add _ | rfl)) ?_
  refine s_val rfl (v_load Tryz.isAgg94 rfl (cell_own rfl)) ?_
  refine s_do rfl (d_call1 Tryz.call52 rfl (List_spec18 W0 _ bt its tr tw now T hR (by omega))) ?_
  rintro _ B_ ⟨ad, cd, rfl, hB_⟩
  subst hB_
  refine s_val rfl (v_len_slice Tryz.underlying61 rfl) (s_val rfl (v_move rfl) (x_nil (n_then (x_block ?_))))
  refine x_loop (fun X : Nat × List It × List It => X.1 ≤ T.length ∧ Rep X.2.1 now X.2.2 ∧ X.2.2.length ≤ room ∧ ∀ y ∈ X.2.2, y ∈ T ∧ (y ∈ T.take X.1 → (shGet y.key L).isSome = true)) (fun X => [(0, .pointer (some ⟨bm, 0, none⟩)), (10, .slice ad T.length cd), (11, .int .i64 (T.length : Nat)), (12, .int .i64 X.1)]) (fun X => pt bm (mmO pv bt bs) :: rowH bt (X.2.1, [tr, tw, .bool true]) :: shH bs L :: osl 68 5 (.slice ad T.length cd) (T.flatMap keptV) :: R) (fun X => T.length - X.1) (0, its, T) ?_ ?_ ?_ ?_
  · exact ⟨Nat.zero_le _, hR, hT, fun y hy => ⟨hy, fun q => by simp at q⟩⟩
  · repeat (first | exact sub_nil | refine sub_cons rfl ?_)
  · exact inferInstance
  · intro ⟨i, its1, T1⟩ ⟨hi, hR1, hT1, hI⟩
    dsimp only at hi hR1 hT1 hI ⊢
    refine x_seq (x_region (s_val rfl (v_lss rfl rfl) (x_nil (n_then (x_seq ?_)))))
    refine x_if rfl ?_ ?_
    · intro c1
      refine x_skip (n_then ?_)
      refine x_cut (fun X : List It × List It => Rep X.1 now X.2 ∧ X.2.length ≤ room ∧ ∀ y ∈ X.2, y ∈ T ∧ (y ∈ T.take (i + 1) → (shGet y.key L).isSome = true)) (fun X => [(0, .pointer (some ⟨bm, 0, none⟩)), (10, .slice ad T.length cd), (11, .int .i64 (T.length : Nat)), (12, .int .i64 i)]) (fun X => pt bm (mmO pv bt bs) :: rowH bt (X.1, [tr, tw, .bool true]) :: shH bs L :: osl 68 5 (.slice ad T.length cd) (T.flatMap keptV) :: R) ?_ ?_
      · skip
        refine x_block (x_seq ?_)
        have hi1 : i < T.length := by omega
        refine run_sla (E := 68) (sz := 5) (a := ad) (c := cd) (n := T.length) keptV T keptV_len (by decide) rfl (fun hs => ?_)
        obtain ⟨g, o, hga, hc⟩ := hs.at_ hi1
        obtain ⟨x, hx⟩ : ∃ x, T[i] = x := ⟨_, rfl⟩
        have htk : T.take (i + 1) = T.take i ++ [x] := by rw [List.take_succ_eq_append_getElem hi1, hx]
        rw [hx] at hc
        obtain ⟨gt, hgt⟩ : ∃ o, shGet x.key L = o := ⟨_, rfl⟩
        refine x_region ?_
        refine s_val rfl (v_idxA Tryz.underlying61 Tryz.sizeOf68 rfl hga rfl rfl hi1 (by first | exact Nat.zero_add _ | rfl)) ?_
        refine s_val rfl (v_loadAgg Tryz.isAgg68 Tryz.sizeOf68 rfl hc.weak rfl) ?_
        refine s_do rfl (d_allocA Tryz.zeroValue68) ?_
        rintro _ _ ⟨bk, rfl, rfl⟩
        refine s_do0 (d_storeAll Tryz.sizeOf68 rfl rfl rfl rfl rfl) ?_
        rintro _ _ rfl
        refine x_nil (n_then (x_seq ?_))
        refine x_draw [(bm, 0, _), (bk, 0, _)] 13 mixed rfl (sc_own (sc_own sc_end)) (fun hS => ?_)
        refine d_take 0 rfl rfl (by kernel_rfl) (by kernel_rfl) (by kernel_rfl) rfl hS (v_move rfl) ?_
        refine d_take 1 rfl rfl (by kernel_rfl) (by kernel_rfl) (by kernel_rfl) rfl hS (v_nilCheck rfl) ?_
        refine d_take 2 rfl rfl (by kernel_rfl) (by kernel_rfl) (by kernel_rfl) rfl hS (v_fieldAddr rfl Tryz.underlying97 rfl Tryz.sizeOf95 rfl (by first | exact Nat.zero_add _ | rfl)) ?_
        refine d_take 3 rfl rfl (by kernel_rfl) (by kernel_rfl) (by kernel_rfl) rfl hS (v_load Tryz.isAgg95 rfl (by first | exact cell_sc0 (k := 0) rfl rfl | exact cell_sc0 (k := 1) rfl rfl)) ?_
        refine d_take 4 rfl rfl (by kernel_rfl) (by kernel_rfl) (by kernel_rfl) rfl hS (v_fieldAddr rfl Tryz.underlying68 rfl Tryz.sizeOf64 rfl (by first | exact Nat.zero_add _ | rfl)) ?_
        refine d_take 5 rfl rfl (by kernel_rfl) (by kernel_rfl) (by kernel_rfl) rfl hS (v_loadAgg Tryz.isAgg64 Tryz.sizeOf64 rfl (cells_pre (us := keyV x.key) (ws := [.int .i64 x.ep, .int .i64 x.ef, .int .i64 x.er]) (cells_sc (k := 1) rfl) rfl) rfl) ?_
        refine d_all (is := [6, 10]) (by kernel_rfl) rfl ⟨?_, ?_, trivial⟩
        · skip
          refine dx_one rfl rfl (d_call1 Tryz.call79 rfl (shGet_spec W0 _ bs L (by omega) x.key)) rfl ?_; clear hS
          rintro _ B_ ⟨rfl, hB_⟩
          subst hB_
          rw [shGV_eq, hgt]
          refine ⟨(sc_own (sc_own sc_end)), fun hS => ?_⟩
          refine d_take 7 rfl rfl (by kernel_rfl) (by kernel_rfl) (by kernel_rfl) rfl hS (v_move rfl) ?_
          refine d_take 8 rfl rfl (by kernel_rfl) (by kernel_rfl) (by kernel_rfl) rfl hS (v_extract rfl rfl) ?_
          refine d_take 9 rfl rfl (by kernel_rfl) (by kernel_rfl) (by kernel_rfl) rfl hS (v_extract rfl rfl) ?_
          refine d_one 10 (by kernel_rfl) rfl rfl (d_allocA Tryz.zeroValue66) rfl ?_; clear hS
          rintro _ _ ⟨b2, rfl, rfl⟩
          refine ⟨(sc_own (sc_own sc_end)), fun hS => ?_⟩
          refine d_one 11 (by kernel_rfl) rfl rfl (d_storeAll Tryz.sizeOf66 rfl rfl rfl rfl rfl) rfl ?_; clear hS
          rintro _ _ rfl
          refine ⟨(sc_own (sc_own sc_end)), fun hS => ?_⟩
          refine d_take 12 rfl rfl (by kernel_rfl) (by kernel_rfl) (by kernel_rfl) rfl hS (v_assign rfl) ?_
          refine d_done (by kernel_rfl) ?_; clear hS
          refine n_then (x_seq (x_region (s_val rfl (v_move rfl) (s_val rfl (v_not rfl) (x_nil (n_then ?_))))))
          refine x_if rfl ?_ ?_
          · intro c4
            refine x_draw [(bm, 0, _), (bk, 0, _)] 7 mixed rfl (sc_own (sc_own sc_end)) (fun hS => ?_)
            refine d_take 0 rfl rfl (by kernel_rfl) (by kernel_rfl) (by kernel_rfl) rfl hS (v_move rfl) ?_
            refine d_take 1 rfl rfl (by kernel_rfl) (by kernel_rfl) (by kernel_rfl) rfl hS (v_nilCheck rfl) ?_
            refine d_take 2 rfl rfl (by kernel_rfl) (by kernel_rfl) (by kernel_rfl) rfl hS (v_fieldAddr rfl Tryz.underlying97 rfl Tryz.sizeOf94 rfl (by first | exact Nat.zero_add _ | rfl)) ?_
            refine d_take 3 rfl rfl (by kernel_rfl) (by kernel_rfl) (by kernel_rfl) rfl hS (v_load Tryz.isAgg94 rfl (by first | exact cell_sc0 (k := 0) rfl rfl | exact cell_sc0 (k := 1) rfl rfl)) ?_
            refine d_take 4 rfl rfl (by kernel_rfl) (by kernel_rfl) (by kernel_rfl) rfl hS (v_fieldAddr rfl Tryz.underlying68 rfl Tryz.sizeOf64 rfl (by first | exact Nat.zero_add _ | rfl)) ?_
            refine d_take 5 rfl rfl (by kernel_rfl) (by kernel_rfl) (by kernel_rfl) rfl hS (v_loadAgg Tryz.isAgg64 Tryz.sizeOf64 rfl (cells_pre (us := keyV x.key) (ws := [.int .i64 x.ep, .int .i64 x.ef, .int .i64 x.er]) (cells_sc (k := 1) rfl) rfl) rfl) ?_
            refine d_one 6 (by kernel_rfl) rfl rfl (d_call1 Tryz.call102 rfl (Drop_spec18 W0 _ bt its1 tr now T1 x.key hR1 (by omega) tw)) rfl ?_; clear hS
            rintro _ B_ ⟨rfl, its2, hB_, hR2⟩
            subst hB_
            refine ⟨(sc_own (sc_own sc_end)), fun hS => ?_⟩
            refine d_done (by kernel_rfl) ?_; clear hS
            refine n_block (n_then ?_)
            refine mid_intro (its2, without x.key T1) ?_ ?_ ?_
            · refine ⟨hR2, Nat.le_trans (without_le _ _) hT1, fun y hy => ?_⟩
              obtain ⟨h1, h2⟩ := mem_without.1 hy
              refine ⟨(hI y h1).1, fun q => ?_⟩
              rw [htk] at q
              rcases List.mem_append.1 q with z | z
              · exact (hI y h1).2 z
              · obtain rfl : y = x := by simpa using z
                exact absurd rfl h2
            · repeat (first | exact sub_nil | refine sub_cons rfl ?_)
            · exact inferInstance
          · intro c4
            refine x_skip (n_block (n_then ?_))
            refine mid_intro (its1, T1) ?_ ?_ ?_
            · refine ⟨hR1, hT1, fun y hy => ⟨(hI y hy).1, fun q => ?_⟩⟩
              rw [htk] at q
              rcases List.mem_append.1 q with z | z
              · exact (hI y hy).2 z
              · obtain rfl : y = x := by simpa using z
                rw [hgt]; first | exact Decidable.not_not.1 c4 | (cases gt <;> simp_all)
            · repeat (first | exact sub_nil | refine sub_cons rfl ?_)
            · exact inferInstance
        · skip
          refine dx_one rfl rfl (d_allocA Tryz.zeroValue66) rfl ?_; clear hS
          rintro _ _ ⟨b2, rfl, rfl⟩
          refine ⟨(sc_own (sc_own sc_end)), fun hS => ?_⟩
          refine d_one 6 (by kernel_rfl) rfl rfl (d_call1 Tryz.call79 rfl (shGet_spec W0 _ bs L (by omega) x.key)) rfl ?_; clear hS
          rintro _ B_ ⟨rfl, hB_⟩
          subst hB_
          rw [shGV_eq, hgt]
          refine ⟨(sc_own (sc_own sc_end)), fun hS => ?_⟩
          refine d_take 7 rfl rfl (by kernel_rfl) (by kernel_rfl) (by kernel_rfl) rfl hS (v_move rfl) ?_
          refine d_take 8 rfl rfl (by kernel_rfl) (by kernel_rfl) (by kernel_rfl) rfl hS (v_extract rfl rfl) ?_
          refine d_take 9 rfl rfl (by kernel_rfl) (by kernel_rfl) (by kernel_rfl) rfl hS (v_extract rfl rfl) ?_
          refine d_one 11 (by kernel_rfl) rfl rfl (d_storeAll Tryz.sizeOf66 rfl rfl rfl rfl rfl) rfl ?_; clear hS
          rintro _ _ rfl
          refine ⟨(sc_own (sc_own sc_end)), fun hS => ?_⟩
          refine d_take 12 rfl rfl (by kernel_rfl) (by kernel_rfl) (by kernel_rfl) rfl hS (v_assign rfl) ?_
          refine d_done (by kernel_rfl) ?_; clear hS
          refine n_then (x_seq (x_region (s_val rfl (v_move rfl) (s_val rfl (v_not rfl) (x_nil (n_then ?_))))))
          refine x_if rfl ?_ ?_
          · intro c4
            refine x_draw [(bm, 0, _), (bk, 0, _)] 7 mixed rfl (sc_own (sc_own sc_end)) (fun hS => ?_)
            refine d_take 0 rfl rfl (by kernel_rfl) (by kernel_rfl) (by kernel_rfl) rfl hS (v_move rfl) ?_
            refine d_take 1 rfl rfl (by kernel_rfl) (by kernel_rfl) (by kernel_rfl) rfl hS (v_nilCheck rfl) ?_
            refine d_take 2 rfl rfl (by kernel_rfl) (by kernel_rfl) (by kernel_rfl) rfl hS (v_fieldAddr rfl Tryz.underlying97 rfl Tryz.sizeOf94 rfl (by first | exact Nat.zero_add _ | rfl)) ?_
            refine d_take 3 rfl rfl (by kernel_rfl) (by kernel_rfl) (by kernel_rfl) rfl hS (v_load Tryz.isAgg94 rfl (by first | exact cell_sc0 (k := 0) rfl rfl | exact cell_sc0 (k := 1) rfl rfl)) ?_
            refine d_take 4 rfl rfl (by kernel_rfl) (by kernel_rfl) (by kernel_rfl) rfl hS (v_fieldAddr rfl Tryz.underlying68 rfl Tryz.sizeOf64 rfl (by first | exact Nat.zero_add _ | rfl)) ?_
            refine d_take 5 rfl rfl (by kernel_rfl) (by kernel_rfl) (by kernel_rfl) rfl hS (v_loadAgg Tryz.isAgg64 Tryz.sizeOf64 rfl (cells_pre (us := keyV x.key) (ws := [.int .i64 x.ep, .int .i64 x.ef, .int .i64 x.er]) (cells_sc (k := 1) rfl) rfl) rfl) ?_
            refine d_one 6 (by kernel_rfl) rfl rfl (d_call1 Tryz.call102 rfl (Drop_spec18 W0 _ bt its1 tr now T1 x.key hR1 (by omega) tw)) rfl ?_; clear hS
            rintro _ B_ ⟨rfl, its2, hB_, hR2⟩
            subst hB_
            refine ⟨(sc_own (sc_own sc_end)), fun hS => ?_⟩
            refine d_done (by kernel_rfl) ?_; clear hS
            refine n_block (n_then ?_)
            refine mid_intro (its2, without x.key T1) ?_ ?_ ?_
            · refine ⟨hR2, Nat.le_trans (without_le _ _) hT1, fun y hy => ?_⟩
              obtain ⟨h1, h2⟩ := mem_without.1 hy
              refine ⟨(hI y h1).1, fun q => ?_⟩
              rw [htk] at q
              rcases List.mem_append.1 q with z | z
              · exact (hI y h1).2 z
              · obtain rfl : y = x := by simpa using z
                exact absurd rfl h2
            · repeat (first | exact sub_nil | refine sub_cons rfl ?_)
            · exact inferInstance
          · intro c4
            refine x_skip (n_block (n_then ?_))
            refine mid_intro (its1, T1) ?_ ?_ ?_
            · refine ⟨hR1, hT1, fun y hy => ⟨(hI y hy).1, fun q => ?_⟩⟩
              rw [htk] at q
              rcases List.mem_append.1 q with z | z
              · exact (hI y hy).2 z
              · obtain rfl : y = x := by simpa using z
                rw [hgt]; first | exact Decidable.not_not.1 c4 | (cases gt <;> simp_all)
            · repeat (first | exact sub_nil | refine sub_cons rfl ?_)
            · exact inferInstance
      · intro ⟨its2, T2⟩ ⟨hR2, hT2, hI2⟩
        refine x_region ?_
        refine s_val rfl (v_add rfl rfl (by first | exact w64 (by omega) | rfl)) ?_
        refine s_val rfl (v_move rfl) (x_nil (n_then ?_))
        refine inv_intro (i + 1, its2, T2) ?_ ?_ ?_ ?_
        · exact ⟨by omega, hR2, hT2, hI2⟩
        · omega
        · repeat (first | exact sub_nil | refine sub_cons rfl ?_)
        · exact inferInstance
    · intro c1
      refine x_exit (e_then (e_then (e_block (x_done (.inr rfl) .nil ?_))))
      obtain rfl : i = T.length := by omega
      rw [List.take_length] at hI
      exact ⟨_, ⟨rfl, its1, T1, rfl, hR1, hT1, fun y hy => ⟨(hI y hy).1, (hI y hy).2 (hI y hy).1⟩⟩, inferInstance⟩
end Go.Proofs.YtllkdnadmmjehaaGreatDoor
namespace Go.Proofs.YtllkdnadmmjehaaGreatDoor
open Go.RowKit
set_option linter.unusedSimpArgs false
set_option linter.unusedVariables false
set_option maxRecDepth 20000
def entI : Option It → Ent3
  | none => (0, 0, 0)
  | some y => y.ent
theorem getV_eq (k : Key) (T : List It) : getV k T = .tuple #[.agg (entV (entI (findK k T))).toArray, .bool (findK k T).isSome] := by
  unfold getV
  cases findK k T <;> rfl
def oP : Option Ln → Int
  | none => 0
  | some x => x.e.1
def oF : Option Ln → Int
  | none => 0
  | some x => x.e.2.1
def oO (o : Option Ln) (va : Nat) : Nat := match o with
  | none => 0
  | some _ => va % 64
@[reducible] def hitO (o : Option Ln) (va : Nat) : List Value := [.int .i64 (oP o), .int .i64 (oF o), .int .i64 (oO o va : Nat), .bool o.isSome]
def LkOk (L : List Ln) (k : Key) (kind : Int) (user : Bool) (o : Option Ln) : Prop := ∀ x, o = some x → x ∈ L ∧ x.k = k ∧ mayB20 x.e kind user = true
theorem asRem_spec (W0 : World) (R : List HP) (ba bm pv bt bs : Nat) (on : Bool) (root : Int) (user : Bool) (va : Nat) (hva : va < 4294967296) (kind : Int) (its : List It) (room now : Nat) (T : List It) (L : List Ln) (hR : Rep its now T) (hT : T.length ≤ room) (hr : room ≤ 4) (hn : now < 1000000) (hi : TI L T) :
    Spec Tryz.prog W0 43 [.pointer (some ⟨ba, 0, none⟩)] (pt ba (asO bm on root user va kind) :: pt bm (mmO pv bt bs) :: rowH bt (its, tlV room now) :: shH bs L :: R)
      (fun v B => ∃ o its' T' now', v = .tuple #[.agg (hitO o va).toArray, .bool o.isSome] ∧ LkOk L (vaK root va) kind user o ∧ Rep its' now' T' ∧ T'.length ≤ room ∧ TI L T' ∧ now' ≤ now + 1 ∧ B = pt ba (asO bm on root user va kind) :: pt bm (mmO pv bt bs) :: rowH bt (its', tlV room now') :: shH bs L :: R) := by
  obtain ⟨y, hy⟩ : ∃ y, findK (vaK root va) T = y := ⟨_, rfl⟩
  have hgl := getL_len (now := now) (k := vaK root va) (L := T)
  have htg := hi.getT now (vaK root va)
  refine spec_body Tryz.func43 Tryz.ntmps43 rfl rfl ?_
  refine x_seq (x_region (s_do rfl (d_allocA Tryz.zeroValue54) ?_))
  rintro _ _ ⟨b2, rfl, rfl⟩
  refine s_val rfl (v_assign rfl) (x_nil (n_then (x_seq ?_)))
  refine x_draw [(ba, 0, _), (bm, 0, _)] 16 mixed rfl (sc_own (sc_own sc_end)) (fun hS => ?_)
  refine d_take 0 rfl rfl (by kernel_rfl) (by kernel_rfl) (by kernel_rfl) rfl hS (v_move rfl) ?_
  refine d_take 1 rfl rfl (by kernel_rfl) (by kernel_rfl) (by kernel_rfl) rfl hS (v_nilCheck rfl) ?_
  refine d_take 2 rfl rfl (by kernel_rfl) (by kernel_rfl) (by kernel_rfl) rfl hS (v_fieldAddr rfl Tryz.underlying113 rfl Tryz.sizeOf24 rfl (by first | exact Nat.zero_add _ | rfl)) ?_
  refine d_take 3 rfl rfl (by kernel_rfl) (by kernel_rfl) (by kernel_rfl) rfl hS (v_load Tryz.isAgg24 rfl (by first | exact cell_sc0 (k := 0) rfl rfl | exact cell_sc0 (k := 1) rfl rfl)) ?_
  refine d_take 4 rfl rfl (by kernel_rfl) (by kernel_rfl) (by kernel_rfl) rfl hS (v_nilCheck rfl) ?_
  refine d_take 5 rfl rfl (by kernel_rfl) (by kernel_rfl) (by kernel_rfl) rfl hS (v_fieldAddr rfl Tryz.underlying97 rfl Tryz.sizeOf94 rfl (by first | exact Nat.zero_add _ | rfl)) ?_
  refine d_take 6 rfl rfl (by kernel_rfl) (by kernel_rfl) (by kernel_rfl) rfl hS (v_load Tryz.isAgg94 rfl (by first | exact cell_sc0 (k := 0) rfl rfl | exact cell_sc0 (k := 1) rfl rfl)) ?_
  refine d_take 7 rfl rfl (by kernel_rfl) (by kernel_rfl) (by kernel_rfl) rfl hS (v_move rfl) ?_
  refine d_all (is := [8, 13]) (by kernel_rfl) rfl ⟨?_, ?_, trivial⟩
  · skip
    refine dx_one rfl rfl (d_call1 Tryz.call76 rfl (asKey_spec W0 _ ba bm on root user va hva kind)) rfl ?_; clear hS
    rintro _ B_ ⟨rfl, hB_⟩
    obtain rfl := hB_.symm
    refine ⟨(sc_own (sc_own sc_end)), fun hS => ?_⟩
    refine d_all (is := [9, 13]) (by kernel_rfl) rfl ⟨?_, ?_, trivial⟩
    · skip
      refine dx_one rfl rfl (d_call1 Tryz.call75 rfl (Get_spec18 W0 _ bt its room now T (vaK root va) hR hT hr hn)) rfl ?_; clear hS
      rintro _ B_ ⟨rfl, its2, now2, hn2, hB_, hR2⟩
      subst hB_
      rw [getV_eq, hy]
      refine ⟨(sc_own (sc_own sc_end)), fun hS => ?_⟩
      refine d_take 10 rfl rfl (by kernel_rfl) (by kernel_rfl) (by kernel_rfl) rfl hS (v_move rfl) ?_
      refine d_take 11 rfl rfl (by kernel_rfl) (by kernel_rfl) (by kernel_rfl) rfl hS (v_extract rfl rfl) ?_
      refine d_take 12 rfl rfl (by kernel_rfl) (by kernel_rfl) (by kernel_rfl) rfl hS (v_extract rfl rfl) ?_
      refine d_one 13 (by kernel_rfl) rfl rfl (d_allocA Tryz.zeroValue66) rfl ?_; clear hS
      rintro _ _ ⟨b4, rfl, rfl⟩
      refine ⟨(sc_own (sc_own sc_end)), fun hS => ?_⟩
      refine d_one 14 (by kernel_rfl) rfl rfl (d_storeAll Tryz.sizeOf66 rfl rfl rfl rfl rfl) rfl ?_; clear hS
      rintro _ _ rfl
      refine ⟨(sc_own (sc_own sc_end)), fun hS => ?_⟩
      refine d_take 15 rfl rfl (by kernel_rfl) (by kernel_rfl) (by kernel_rfl) rfl hS (v_assign rfl) ?_
      refine d_done (by kernel_rfl) ?_; clear hS
      refine n_then (x_seq (x_seq (x_region (s_val rfl (v_move rfl) (s_val rfl (v_not rfl) (s_val rfl (v_move rfl) ?_))))))
      refine s_or rfl rfl rfl ?_ ?_
      · intro g2_3
        refine s_no rfl rfl rfl rfl (s_no rfl rfl rfl rfl (s_no rfl rfl rfl rfl (s_val rfl (v_pick_t rfl rfl) (x_nil (n_then (x_ift rfl (x_seq (x_region (s_val rfl (v_build Tryz.underlying54 Tryz.zeroValue54 (sized_cons Tryz.sizeOf3 (sized_cons Tryz.sizeOf3 (sized_cons Tryz.sizeOf3 (sized_cons Tryz.sizeOf4 sized_nil)))) fil_nil) ?_)))))))))
        refine s_do0 (d_storeAll Tryz.sizeOf54 rfl rfl rfl rfl rfl) ?_
        rintro _ _ rfl
        refine s_val rfl (v_assign rfl) (x_nil (n_then (x_ret (r_then (x_done (.inl rfl) (.cons (r_all Tryz.isAgg54 Tryz.sizeOf54 rfl rfl) (.cons (r_tmp rfl) .nil)) ?_)))))
        exact ⟨_, ⟨none, its2, _, now2, rfl, fun x q => (by cases q), hR2, Nat.le_trans hgl hT, htg, hn2, rfl⟩, inferInstance⟩
      · intro g2_3
        refine s_val rfl (v_move rfl) (s_yes rfl rfl (s_val rfl (v_loadAll Tryz.isAgg66 Tryz.sizeOf66 rfl rfl) ?_))
        refine s_yes rfl rfl (s_do rfl (d_call1 Tryz.call77 rfl (asMay_spec W0 _ ba bm on root user va kind (entI y))) ?_)
        rintro _ B_ ⟨rfl, hB_⟩
        obtain rfl := hB_.symm
        refine s_yes rfl rfl (s_val rfl (v_not rfl) (s_val rfl (v_pick_f rfl rfl) (x_nil (n_then ?_))))
        refine x_if rfl ?_ ?_
        · intro c2
          refine x_seq (x_region (s_val rfl (v_build Tryz.underlying54 Tryz.zeroValue54 (sized_cons Tryz.sizeOf3 (sized_cons Tryz.sizeOf3 (sized_cons Tryz.sizeOf3 (sized_cons Tryz.sizeOf4 sized_nil)))) fil_nil) ?_))
          refine s_do0 (d_storeAll Tryz.sizeOf54 rfl rfl rfl rfl rfl) ?_
          rintro _ _ rfl
          refine s_val rfl (v_assign rfl) (x_nil (n_then (x_ret (r_then (x_done (.inl rfl) (.cons (r_all Tryz.isAgg54 Tryz.sizeOf54 rfl rfl) (.cons (r_tmp rfl) .nil)) ?_)))))
          exact ⟨_, ⟨none, its2, _, now2, rfl, fun x q => (by cases q), hR2, Nat.le_trans hgl hT, htg, hn2, rfl⟩, inferInstance⟩
        · intro c2
          refine x_skip (n_then (x_seq (x_region (s_val rfl (v_move rfl) (s_val rfl (v_loadAll Tryz.isAgg66 Tryz.sizeOf66 rfl rfl) ?_)))))
          refine s_do rfl (d_call1 Tryz.call78 rfl (asHit_spec W0 _ ba bm on root user va hva kind (entI y) true)) ?_
          rintro _ B_ ⟨rfl, hB_⟩
          obtain rfl := hB_.symm
          refine s_do0 (d_storeAll Tryz.sizeOf54 rfl rfl rfl rfl rfl) ?_
          rintro _ _ rfl
          refine s_val rfl (v_assign rfl) (x_nil (n_then (x_ret (x_done (.inl rfl) (.cons (r_all Tryz.isAgg54 Tryz.sizeOf54 rfl rfl) (.cons (r_tmp rfl) .nil)) ?_))))
          obtain ⟨z, rfl⟩ : ∃ z, y = some z := by cases y <;> simp_all
          have hm : mayB20 z.ent kind user = true := by simp_all [entI]
          obtain ⟨q1, q2⟩ := find_mem hy
          obtain ⟨x, hx, e1, e2⟩ := hi.sub z q1
          refine ⟨_, ⟨some x, its2, _, now2, ?_, fun x' q => ?_, hR2, Nat.le_trans hgl hT, htg, hn2, rfl⟩, inferInstance⟩
          · show _ = Value.tuple #[.agg (hitV20 x.e.1 x.e.2.1 (va % 64) true).toArray, .bool true]
            rw [e2]; rfl
          · cases q
            exact ⟨hx, e1.trans q2, by rw [e2]; exact hm⟩
    · skip
      refine dx_one rfl rfl (d_allocA Tryz.zeroValue66) rfl ?_; clear hS
      rintro _ _ ⟨b4, rfl, rfl⟩
      refine ⟨(sc_own (sc_own sc_end)), fun hS => ?_⟩
      refine d_one 9 (by kernel_rfl) rfl rfl (d_call1 Tryz.call75 rfl (Get_spec18 W0 _ bt its room now T (vaK root va) hR hT hr hn)) rfl ?_; clear hS
      rintro _ B_ ⟨rfl, its2, now2, hn2, hB_, hR2⟩
      subst hB_
      rw [getV_eq, hy]
      refine ⟨(sc_own (sc_own sc_end)), fun hS => ?_⟩
      refine d_take 10 rfl rfl (by kernel_rfl) (by kernel_rfl) (by kernel_rfl) rfl hS (v_move rfl) ?_
      refine d_take 11 rfl rfl (by kernel_rfl) (by kernel_rfl) (by kernel_rfl) rfl hS (v_extract rfl rfl) ?_
      refine d_take 12 rfl rfl (by kernel_rfl) (by kernel_rfl) (by kernel_rfl) rfl hS (v_extract rfl rfl) ?_
      refine d_one 14 (by kernel_rfl) rfl rfl (d_storeAll Tryz.sizeOf66 rfl rfl rfl rfl rfl) rfl ?_; clear hS
      rintro _ _ rfl
      refine ⟨(sc_own (sc_own sc_end)), fun hS => ?_⟩
      refine d_take 15 rfl rfl (by kernel_rfl) (by kernel_rfl) (by kernel_rfl) rfl hS (v_assign rfl) ?_
      refine d_done (by kernel_rfl) ?_; clear hS
      refine n_then (x_seq (x_seq (x_region (s_val rfl (v_move rfl) (s_val rfl (v_not rfl) (s_val rfl (v_move rfl) ?_))))))
      refine s_or rfl rfl rfl ?_ ?_
      · intro g2_3
        refine s_no rfl rfl rfl rfl (s_no rfl rfl rfl rfl (s_no rfl rfl rfl rfl (s_val rfl (v_pick_t rfl rfl) (x_nil (n_then (x_ift rfl (x_seq (x_region (s_val rfl (v_build Tryz.underlying54 Tryz.zeroValue54 (sized_cons Tryz.sizeOf3 (sized_cons Tryz.sizeOf3 (sized_cons Tryz.sizeOf3 (sized_cons Tryz.sizeOf4 sized_nil)))) fil_nil) ?_)))))))))
        refine s_do0 (d_storeAll Tryz.sizeOf54 rfl rfl rfl rfl rfl) ?_
        rintro _ _ rfl
        refine s_val rfl (v_assign rfl) (x_nil (n_then (x_ret (r_then (x_done (.inl rfl) (.cons (r_all Tryz.isAgg54 Tryz.sizeOf54 rfl rfl) (.cons (r_tmp rfl) .nil)) ?_)))))
        exact ⟨_, ⟨none, its2, _, now2, rfl, fun x q => (by cases q), hR2, Nat.le_trans hgl hT, htg, hn2, rfl⟩, inferInstance⟩
      · intro g2_3
        refine s_val rfl (v_move rfl) (s_yes rfl rfl (s_val rfl (v_loadAll Tryz.isAgg66 Tryz.sizeOf66 rfl rfl) ?_))
        refine s_yes rfl rfl (s_do rfl (d_call1 Tryz.call77 rfl (asMay_spec W0 _ ba bm on root user va kind (entI y))) ?_)
        rintro _ B_ ⟨rfl, hB_⟩
        obtain rfl := hB_.symm
        refine s_yes rfl rfl (s_val rfl (v_not rfl) (s_val rfl (v_pick_f rfl rfl) (x_nil (n_then ?_))))
        refine x_if rfl ?_ ?_
        · intro c2
          refine x_seq (x_region (s_val rfl (v_build Tryz.underlying54 Tryz.zeroValue54 (sized_cons Tryz.sizeOf3 (sized_cons Tryz.sizeOf3 (sized_cons Tryz.sizeOf3 (sized_cons Tryz.sizeOf4 sized_nil)))) fil_nil) ?_))
          refine s_do0 (d_storeAll Tryz.sizeOf54 rfl rfl rfl rfl rfl) ?_
          rintro _ _ rfl
          refine s_val rfl (v_assign rfl) (x_nil (n_then (x_ret (r_then (x_done (.inl rfl) (.cons (r_all Tryz.isAgg54 Tryz.sizeOf54 rfl rfl) (.cons (r_tmp rfl) .nil)) ?_)))))
          exact ⟨_, ⟨none, its2, _, now2, rfl, fun x q => (by cases q), hR2, Nat.le_trans hgl hT, htg, hn2, rfl⟩, inferInstance⟩
        · intro c2
          refine x_skip (n_then (x_seq (x_region (s_val rfl (v_move rfl) (s_val rfl (v_loadAll Tryz.isAgg66 Tryz.sizeOf66 rfl rfl) ?_)))))
          refine s_do rfl (d_call1 Tryz.call78 rfl (asHit_spec W0 _ ba bm on root user va hva kind (entI y) true)) ?_
          rintro _ B_ ⟨rfl, hB_⟩
          obtain rfl := hB_.symm
          refine s_do0 (d_storeAll Tryz.sizeOf54 rfl rfl rfl rfl rfl) ?_
          rintro _ _ rfl
          refine s_val rfl (v_assign rfl) (x_nil (n_then (x_ret (x_done (.inl rfl) (.cons (r_all Tryz.isAgg54 Tryz.sizeOf54 rfl rfl) (.cons (r_tmp rfl) .nil)) ?_))))
          obtain ⟨z, rfl⟩ : ∃ z, y = some z := by cases y <;> simp_all
          have hm : mayB20 z.ent kind user = true := by simp_all [entI]
          obtain ⟨q1, q2⟩ := find_mem hy
          obtain ⟨x, hx, e1, e2⟩ := hi.sub z q1
          refine ⟨_, ⟨some x, its2, _, now2, ?_, fun x' q => ?_, hR2, Nat.le_trans hgl hT, htg, hn2, rfl⟩, inferInstance⟩
          · show _ = Value.tuple #[.agg (hitV20 x.e.1 x.e.2.1 (va % 64) true).toArray, .bool true]
            rw [e2]; rfl
          · cases q
            exact ⟨hx, e1.trans q2, by rw [e2]; exact hm⟩
  · skip
    refine dx_one rfl rfl (d_allocA Tryz.zeroValue66) rfl ?_; clear hS
    rintro _ _ ⟨b4, rfl, rfl⟩
    refine ⟨(sc_own (sc_own sc_end)), fun hS => ?_⟩
    refine d_one 8 (by kernel_rfl) rfl rfl (d_call1 Tryz.call76 rfl (asKey_spec W0 _ ba bm on root user va hva kind)) rfl ?_; clear hS
    rintro _ B_ ⟨rfl, hB_⟩
    obtain rfl := hB_.symm
    refine ⟨(sc_own (sc_own sc_end)), fun hS => ?_⟩
    refine d_one 9 (by kernel_rfl) rfl rfl (d_call1 Tryz.call75 rfl (Get_spec18 W0 _ bt its room now T (vaK root va) hR hT hr hn)) rfl ?_; clear hS
    rintro _ B_ ⟨rfl, its2, now2, hn2, hB_, hR2⟩
    subst hB_
    rw [getV_eq, hy]
    refine ⟨(sc_own (sc_own sc_end)), fun hS => ?_⟩
    refine d_take 10 rfl rfl (by kernel_rfl) (by kernel_rfl) (by kernel_rfl) rfl hS (v_move rfl) ?_
    refine d_take 11 rfl rfl (by kernel_rfl) (by kernel_rfl) (by kernel_rfl) rfl hS (v_extract rfl rfl) ?_
    refine d_take 12 rfl rfl (by kernel_rfl) (by kernel_rfl) (by kernel_rfl) rfl hS (v_extract rfl rfl) ?_
    refine d_one 14 (by kernel_rfl) rfl rfl (d_storeAll Tryz.sizeOf66 rfl rfl rfl rfl rfl) rfl ?_; clear hS
    rintro _ _ rfl
    refine ⟨(sc_own (sc_own sc_end)), fun hS => ?_⟩
    refine d_take 15 rfl rfl (by kernel_rfl) (by kernel_rfl) (by kernel_rfl) rfl hS (v_assign rfl) ?_
    refine d_done (by kernel_rfl) ?_; clear hS
    refine n_then (x_seq (x_seq (x_region (s_val rfl (v_move rfl) (s_val rfl (v_not rfl) (s_val rfl (v_move rfl) ?_))))))
    refine s_or rfl rfl rfl ?_ ?_
    · intro g2_3
      refine s_no rfl rfl rfl rfl (s_no rfl rfl rfl rfl (s_no rfl rfl rfl rfl (s_val rfl (v_pick_t rfl rfl) (x_nil (n_then (x_ift rfl (x_seq (x_region (s_val rfl (v_build Tryz.underlying54 Tryz.zeroValue54 (sized_cons Tryz.sizeOf3 (sized_cons Tryz.sizeOf3 (sized_cons Tryz.sizeOf3 (sized_cons Tryz.sizeOf4 sized_nil)))) fil_nil) ?_)))))))))
      refine s_do0 (d_storeAll Tryz.sizeOf54 rfl rfl rfl rfl rfl) ?_
      rintro _ _ rfl
      refine s_val rfl (v_assign rfl) (x_nil (n_then (x_ret (r_then (x_done (.inl rfl) (.cons (r_all Tryz.isAgg54 Tryz.sizeOf54 rfl rfl) (.cons (r_tmp rfl) .nil)) ?_)))))
      exact ⟨_, ⟨none, its2, _, now2, rfl, fun x q => (by cases q), hR2, Nat.le_trans hgl hT, htg, hn2, rfl⟩, inferInstance⟩
    · intro g2_3
      refine s_val rfl (v_move rfl) (s_yes rfl rfl (s_val rfl (v_loadAll Tryz.isAgg66 Tryz.sizeOf66 rfl rfl) ?_))
      refine s_yes rfl rfl (s_do rfl (d_call1 Tryz.call77 rfl (asMay_spec W0 _ ba bm on root user va kind (entI y))) ?_)
      rintro _ B_ ⟨rfl, hB_⟩
      obtain rfl := hB_.symm
      refine s_yes rfl rfl (s_val rfl (v_not rfl) (s_val rfl (v_pick_f rfl rfl) (x_nil (n_then ?_))))
      refine x_if rfl ?_ ?_
      · intro c2
        refine x_seq (x_region (s_val rfl (v_build Tryz.underlying54 Tryz.zeroValue54 (sized_cons Tryz.sizeOf3 (sized_cons Tryz.sizeOf3 (sized_cons Tryz.sizeOf3 (sized_cons Tryz.sizeOf4 sized_nil)))) fil_nil) ?_))
        refine s_do0 (d_storeAll Tryz.sizeOf54 rfl rfl rfl rfl rfl) ?_
        rintro _ _ rfl
        refine s_val rfl (v_assign rfl) (x_nil (n_then (x_ret (r_then (x_done (.inl rfl) (.cons (r_all Tryz.isAgg54 Tryz.sizeOf54 rfl rfl) (.cons (r_tmp rfl) .nil)) ?_)))))
        exact ⟨_, ⟨none, its2, _, now2, rfl, fun x q => (by cases q), hR2, Nat.le_trans hgl hT, htg, hn2, rfl⟩, inferInstance⟩
      · intro c2
        refine x_skip (n_then (x_seq (x_region (s_val rfl (v_move rfl) (s_val rfl (v_loadAll Tryz.isAgg66 Tryz.sizeOf66 rfl rfl) ?_)))))
        refine s_do rfl (d_call1 Tryz.call78 rfl (asHit_spec W0 _ ba bm on root user va hva kind (entI y) true)) ?_
        rintro _ B_ ⟨rfl, hB_⟩
        obtain rfl := hB_.symm
        refine s_do0 (d_storeAll Tryz.sizeOf54 rfl rfl rfl rfl rfl) ?_
        rintro _ _ rfl
        refine s_val rfl (v_assign rfl) (x_nil (n_then (x_ret (x_done (.inl rfl) (.cons (r_all Tryz.isAgg54 Tryz.sizeOf54 rfl rfl) (.cons (r_tmp rfl) .nil)) ?_))))
        obtain ⟨z, rfl⟩ : ∃ z, y = some z := by cases y <;> simp_all
        have hm : mayB20 z.ent kind user = true := by simp_all [entI]
        obtain ⟨q1, q2⟩ := find_mem hy
        obtain ⟨x, hx, e1, e2⟩ := hi.sub z q1
        refine ⟨_, ⟨some x, its2, _, now2, ?_, fun x' q => ?_, hR2, Nat.le_trans hgl hT, htg, hn2, rfl⟩, inferInstance⟩
        · show _ = Value.tuple #[.agg (hitV20 x.e.1 x.e.2.1 (va % 64) true).toArray, .bool true]
          rw [e2]; rfl
        · cases q
          exact ⟨hx, e1.trans q2, by rw [e2]; exact hm⟩
theorem asShad_spec (W0 : World) (R : List HP) (ba bm pv bt bs : Nat) (on : Bool) (root : Int) (user : Bool) (va : Nat) (hva : va < 4294967296) (kind : Int) (its : List It) (room now : Nat) (T : List It) (L : List Ln) (hR : Rep its now T) (hT : T.length ≤ room) (hr : room ≤ 4) (hn : now < 1000000) (hi : TI L T) :
    Spec Tryz.prog W0 44 [.pointer (some ⟨ba, 0, none⟩)] (pt ba (asO bm on root user va kind) :: pt bm (mmO pv bt bs) :: rowH bt (its, tlV room now) :: shH bs L :: R)
      (fun v B => ∃ o its' T' now', v = .tuple #[.agg (hitO o va).toArray, .bool o.isSome] ∧ LkOk L (vaK root va) kind user o ∧ (o = none → ∀ x ∈ L, x.k = vaK root va → mayB20 x.e kind user = false) ∧ Rep its' now' T' ∧ T'.length ≤ room ∧ TI L T' ∧ now' ≤ now + 1 ∧ B = pt ba (asO bm on root user va kind) :: pt bm (mmO pv bt bs) :: rowH bt (its', tlV room now') :: shH bs L :: R) := by
  obtain ⟨y, hy⟩ : ∃ y, shGet (vaK root va) L = y := ⟨_, rfl⟩
  have hll := hi.len
  refine spec_body Tryz.func44 Tryz.ntmps44 rfl rfl ?_
  refine x_seq (x_region (s_do rfl (d_allocA Tryz.zeroValue54) ?_))
  rintro _ _ ⟨b2, rfl, rfl⟩
  refine s_val rfl (v_assign rfl) (x_nil (n_then (x_seq ?_)))
  refine x_draw [(ba, 0, _), (bm, 0, _)] 16 mixed rfl (sc_own (sc_own sc_end)) (fun hS => ?_)
  refine d_take 0 rfl rfl (by kernel_rfl) (by kernel_rfl) (by kernel_rfl) rfl hS (v_move rfl) ?_
  refine d_take 1 rfl rfl (by kernel_rfl) (by kernel_rfl) (by kernel_rfl) rfl hS (v_nilCheck rfl) ?_
  refine d_take 2 rfl rfl (by kernel_rfl) (by kernel_rfl) (by kernel_rfl) rfl hS (v_fieldAddr rfl Tryz.underlying113 rfl Tryz.sizeOf24 rfl (by first | exact Nat.zero_add _ | rfl)) ?_
  refine d_take 3 rfl rfl (by kernel_rfl) (by kernel_rfl) (by kernel_rfl) rfl hS (v_load Tryz.isAgg24 rfl (by first | exact cell_sc0 (k := 0) rfl rfl | exact cell_sc0 (k := 1) rfl rfl)) ?_
  refine d_take 4 rfl rfl (by kernel_rfl) (by kernel_rfl) (by kernel_rfl) rfl hS (v_nilCheck rfl) ?_
  refine d_take 5 rfl rfl (by kernel_rfl) (by kernel_rfl) (by kernel_rfl) rfl hS (v_fieldAddr rfl Tryz.underlying97 rfl Tryz.sizeOf95 rfl (by first | exact Nat.zero_add _ | rfl)) ?_
  refine d_take 6 rfl rfl (by kernel_rfl) (by kernel_rfl) (by kernel_rfl) rfl hS (v_load Tryz.isAgg95 rfl (by first | exact cell_sc0 (k := 0) rfl rfl | exact cell_sc0 (k := 1) rfl rfl)) ?_
  refine d_take 7 rfl rfl (by kernel_rfl) (by kernel_rfl) (by kernel_rfl) rfl hS (v_move rfl) ?_
  refine d_all (is := [8, 13]) (by kernel_rfl) rfl ⟨?_, ?_, trivial⟩
  · skip
    refine dx_one rfl rfl (d_call1 Tryz.call76 rfl (asKey_spec W0 _ ba bm on root user va hva kind)) rfl ?_; clear hS
    rintro _ B_ ⟨rfl, hB_⟩
    obtain rfl := hB_.symm
    refine ⟨(sc_own (sc_own sc_end)), fun hS => ?_⟩
    refine d_all (is := [9, 13]) (by kernel_rfl) rfl ⟨?_, ?_, trivial⟩
    · skip
      refine dx_one rfl rfl (d_call1 Tryz.call79 rfl (shGet_spec W0 _ bs L (by omega) (vaK root va))) rfl ?_; clear hS
      rintro _ B_ ⟨rfl, hB_⟩
      subst hB_
      rw [shGV_eq, hy]
      refine ⟨(sc_own (sc_own sc_end)), fun hS => ?_⟩
      refine d_take 10 rfl rfl (by kernel_rfl) (by kernel_rfl) (by kernel_rfl) rfl hS (v_move rfl) ?_
      refine d_take 11 rfl rfl (by kernel_rfl) (by kernel_rfl) (by kernel_rfl) rfl hS (v_extract rfl rfl) ?_
      refine d_take 12 rfl rfl (by kernel_rfl) (by kernel_rfl) (by kernel_rfl) rfl hS (v_extract rfl rfl) ?_
      refine d_one 13 (by kernel_rfl) rfl rfl (d_allocA Tryz.zeroValue66) rfl ?_; clear hS
      rintro _ _ ⟨b4, rfl, rfl⟩
      refine ⟨(sc_own (sc_own sc_end)), fun hS => ?_⟩
      refine d_one 14 (by kernel_rfl) rfl rfl (d_storeAll Tryz.sizeOf66 rfl rfl rfl rfl rfl) rfl ?_; clear hS
      rintro _ _ rfl
      refine ⟨(sc_own (sc_own sc_end)), fun hS => ?_⟩
      refine d_take 15 rfl rfl (by kernel_rfl) (by kernel_rfl) (by kernel_rfl) rfl hS (v_assign rfl) ?_
      refine d_done (by kernel_rfl) ?_; clear hS
      refine n_then (x_seq (x_seq (x_region (s_val rfl (v_move rfl) (s_val rfl (v_not rfl) (s_val rfl (v_move rfl) ?_))))))
      refine s_or rfl rfl rfl ?_ ?_
      · intro g2_3
        refine s_no rfl rfl rfl rfl (s_no rfl rfl rfl rfl (s_no rfl rfl rfl rfl (s_val rfl (v_pick_t rfl rfl) (x_nil (n_then (x_ift rfl (x_seq (x_region (s_val rfl (v_build Tryz.underlying54 Tryz.zeroValue54 (sized_cons Tryz.sizeOf3 (sized_cons Tryz.sizeOf3 (sized_cons Tryz.sizeOf3 (sized_cons Tryz.sizeOf4 sized_nil)))) fil_nil) ?_)))))))))
        refine s_do0 (d_storeAll Tryz.sizeOf54 rfl rfl rfl rfl rfl) ?_
        rintro _ _ rfl
        refine s_val rfl (v_assign rfl) (x_nil (n_then (x_ret (r_then (x_done (.inl rfl) (.cons (r_all Tryz.isAgg54 Tryz.sizeOf54 rfl rfl) (.cons (r_tmp rfl) .nil)) ?_)))))
        exact ⟨_, ⟨none, its, T, now, rfl, fun x q => (by cases q), fun _ x hx hk => (by
          have hg := get_uniq hi.keys hx
          rw [hk, hy] at hg
          subst hg
          simp_all [entO]), hR, hT, hi, by omega, rfl⟩, inferInstance⟩
      · intro g2_3
        refine s_val rfl (v_move rfl) (s_yes rfl rfl (s_val rfl (v_loadAll Tryz.isAgg66 Tryz.sizeOf66 rfl rfl) ?_))
        refine s_yes rfl rfl (s_do rfl (d_call1 Tryz.call77 rfl (asMay_spec W0 _ ba bm on root user va kind (entO y))) ?_)
        rintro _ B_ ⟨rfl, hB_⟩
        obtain rfl := hB_.symm
        refine s_yes rfl rfl (s_val rfl (v_not rfl) (s_val rfl (v_pick_f rfl rfl) (x_nil (n_then ?_))))
        refine x_if rfl ?_ ?_
        · intro c2
          refine x_seq (x_region (s_val rfl (v_build Tryz.underlying54 Tryz.zeroValue54 (sized_cons Tryz.sizeOf3 (sized_cons Tryz.sizeOf3 (sized_cons Tryz.sizeOf3 (sized_cons Tryz.sizeOf4 sized_nil)))) fil_nil) ?_))
          refine s_do0 (d_storeAll Tryz.sizeOf54 rfl rfl rfl rfl rfl) ?_
          rintro _ _ rfl
          refine s_val rfl (v_assign rfl) (x_nil (n_then (x_ret (r_then (x_done (.inl rfl) (.cons (r_all Tryz.isAgg54 Tryz.sizeOf54 rfl rfl) (.cons (r_tmp rfl) .nil)) ?_)))))
          exact ⟨_, ⟨none, its, T, now, rfl, fun x q => (by cases q), fun _ x hx hk => (by
            have hg := get_uniq hi.keys hx
            rw [hk, hy] at hg
            subst hg
            simp_all [entO]), hR, hT, hi, by omega, rfl⟩, inferInstance⟩
        · intro c2
          refine x_skip (n_then (x_seq ?_))
          obtain ⟨x, rfl⟩ : ∃ x, y = some x := by cases y <;> simp_all
          have hm : mayB20 x.e kind user = true := by simp_all [entO]
          obtain ⟨q1, q2⟩ := get_mem hy
          have hpt := hi.putT room now q1
          have hpl := putL_len (now := now) (k := x.k) (e := x.e) hT
          rw [q2] at hpt hpl
          rw [show entO (some x) = x.e from rfl]
          refine x_draw [(ba, 0, _), (bm, 0, _), (b4, 0, _)] 11 mixed rfl (sc_own (sc_own (sc_own sc_end))) (fun hS => ?_)
          refine d_take 0 rfl rfl (by kernel_rfl) (by kernel_rfl) (by kernel_rfl) rfl hS (v_move rfl) ?_
          refine d_take 1 rfl rfl (by kernel_rfl) (by kernel_rfl) (by kernel_rfl) rfl hS (v_nilCheck rfl) ?_
          refine d_take 2 rfl rfl (by kernel_rfl) (by kernel_rfl) (by kernel_rfl) rfl hS (v_fieldAddr rfl Tryz.underlying113 rfl Tryz.sizeOf24 rfl (by first | exact Nat.zero_add _ | rfl)) ?_
          refine d_take 3 rfl rfl (by kernel_rfl) (by kernel_rfl) (by kernel_rfl) rfl hS (v_load Tryz.isAgg24 rfl (by first | exact cell_sc0 (k := 0) rfl rfl | exact cell_sc0 (k := 1) rfl rfl | exact cell_sc0 (k := 2) rfl rfl)) ?_
          refine d_take 4 rfl rfl (by kernel_rfl) (by kernel_rfl) (by kernel_rfl) rfl hS (v_nilCheck rfl) ?_
          refine d_take 5 rfl rfl (by kernel_rfl) (by kernel_rfl) (by kernel_rfl) rfl hS (v_fieldAddr rfl Tryz.underlying97 rfl Tryz.sizeOf94 rfl (by first | exact Nat.zero_add _ | rfl)) ?_
          refine d_take 6 rfl rfl (by kernel_rfl) (by kernel_rfl) (by kernel_rfl) rfl hS (v_load Tryz.isAgg94 rfl (by first | exact cell_sc0 (k := 0) rfl rfl | exact cell_sc0 (k := 1) rfl rfl | exact cell_sc0 (k := 2) rfl rfl)) ?_
          refine d_take 7 rfl rfl (by kernel_rfl) (by kernel_rfl) (by kernel_rfl) rfl hS (v_move rfl) ?_
          refine d_take 9 rfl rfl (by kernel_rfl) (by kernel_rfl) (by kernel_rfl) rfl hS (v_loadAgg Tryz.isAgg66 Tryz.sizeOf66 rfl (by first | exact cells_sc (k := 0) rfl | exact cells_sc (k := 1) rfl | exact cells_sc (k := 2) rfl) rfl) ?_
          refine d_one 8 (by kernel_rfl) rfl rfl (d_call1 Tryz.call76 rfl (asKey_spec W0 _ ba bm on root user va hva kind)) rfl ?_; clear hS
          rintro _ B_ ⟨rfl, hB_⟩
          obtain rfl := hB_.symm
          refine ⟨(sc_own (sc_own (sc_own sc_end))), fun hS => ?_⟩
          refine d_one 10 (by kernel_rfl) rfl rfl (d_call1 Tryz.call80 rfl (Put_spec18 W0 _ bt its room now T (vaK root va) x.e hR hT hr hn)) rfl ?_; clear hS
          rintro _ B_ ⟨rfl, its2, hB_, hR2⟩
          subst hB_
          refine ⟨(sc_own (sc_own (sc_own sc_end))), fun hS => ?_⟩
          refine d_done (by kernel_rfl) ?_; clear hS
          refine n_then (x_seq (x_region (s_val rfl (v_move rfl) (s_val rfl (v_loadAll Tryz.isAgg66 Tryz.sizeOf66 rfl rfl) ?_))))
          refine s_do rfl (d_call1 Tryz.call78 rfl (asHit_spec W0 _ ba bm on root user va hva kind x.e true)) ?_
          rintro _ B_ ⟨rfl, hB_⟩
          obtain rfl := hB_.symm
          refine s_do0 (d_storeAll Tryz.sizeOf54 rfl rfl rfl rfl rfl) ?_
          rintro _ _ rfl
          refine s_val rfl (v_assign rfl) (x_nil (n_then (x_ret (x_done (.inl rfl) (.cons (r_all Tryz.isAgg54 Tryz.sizeOf54 rfl rfl) (.cons (r_tmp rfl) .nil)) ?_))))
          refine ⟨_, ⟨some x, its2, _, now + 1, rfl, fun x' q => ?_, fun q => (by cases q), hR2, hpl, hpt, by omega, rfl⟩, inferInstance⟩
          cases q
          exact ⟨q1, q2, hm⟩
    · skip
      refine dx_one rfl rfl (d_allocA Tryz.zeroValue66) rfl ?_; clear hS
      rintro _ _ ⟨b4, rfl, rfl⟩
      refine ⟨(sc_own (sc_own sc_end)), fun hS => ?_⟩
      refine d_one 9 (by kernel_rfl) rfl rfl (d_call1 Tryz.call79 rfl (shGet_spec W0 _ bs L (by omega) (vaK root va))) rfl ?_; clear hS
      rintro _ B_ ⟨rfl, hB_⟩
      subst hB_
      rw [shGV_eq, hy]
      refine ⟨(sc_own (sc_own sc_end)), fun hS => ?_⟩
      refine d_take 10 rfl rfl (by kernel_rfl) (by kernel_rfl) (by kernel_rfl) rfl hS (v_move rfl) ?_
      refine d_take 11 rfl rfl (by kernel_rfl) (by kernel_rfl) (by kernel_rfl) rfl hS (v_extract rfl rfl) ?_
      refine d_take 12 rfl rfl (by kernel_rfl) (by kernel_rfl) (by kernel_rfl) rfl hS (v_extract rfl rfl) ?_
      refine d_one 14 (by kernel_rfl) rfl rfl (d_storeAll Tryz.sizeOf66 rfl rfl rfl rfl rfl) rfl ?_; clear hS
      rintro _ _ rfl
      refine ⟨(sc_own (sc_own sc_end)), fun hS => ?_⟩
      refine d_take 15 rfl rfl (by kernel_rfl) (by kernel_rfl) (by kernel_rfl) rfl hS (v_assign rfl) ?_
      refine d_done (by kernel_rfl) ?_; clear hS
      refine n_then (x_seq (x_seq (x_region (s_val rfl (v_move rfl) (s_val rfl (v_not rfl) (s_val rfl (v_move rfl) ?_))))))
      refine s_or rfl rfl rfl ?_ ?_
      · intro g2_3
        refine s_no rfl rfl rfl rfl (s_no rfl rfl rfl rfl (s_no rfl rfl rfl rfl (s_val rfl (v_pick_t rfl rfl) (x_nil (n_then (x_ift rfl (x_seq (x_region (s_val rfl (v_build Tryz.underlying54 Tryz.zeroValue54 (sized_cons Tryz.sizeOf3 (sized_cons Tryz.sizeOf3 (sized_cons Tryz.sizeOf3 (sized_cons Tryz.sizeOf4 sized_nil)))) fil_nil) ?_)))))))))
        refine s_do0 (d_storeAll Tryz.sizeOf54 rfl rfl rfl rfl rfl) ?_
        rintro _ _ rfl
        refine s_val rfl (v_assign rfl) (x_nil (n_then (x_ret (r_then (x_done (.inl rfl) (.cons (r_all Tryz.isAgg54 Tryz.sizeOf54 rfl rfl) (.cons (r_tmp rfl) .nil)) ?_)))))
        exact ⟨_, ⟨none, its, T, now, rfl, fun x q => (by cases q), fun _ x hx hk => (by
          have hg := get_uniq hi.keys hx
          rw [hk, hy] at hg
          subst hg
          simp_all [entO]), hR, hT, hi, by omega, rfl⟩, inferInstance⟩
      · intro g2_3
        refine s_val rfl (v_move rfl) (s_yes rfl rfl (s_val rfl (v_loadAll Tryz.isAgg66 Tryz.sizeOf66 rfl rfl) ?_))
        refine s_yes rfl rfl (s_do rfl (d_call1 Tryz.call77 rfl (asMay_spec W0 _ ba bm on root user va kind (entO y))) ?_)
        rintro _ B_ ⟨rfl, hB_⟩
        obtain rfl := hB_.symm
        refine s_yes rfl rfl (s_val rfl (v_not rfl) (s_val rfl (v_pick_f rfl rfl) (x_nil (n_then ?_))))
        refine x_if rfl ?_ ?_
        · intro c2
          refine x_seq (x_region (s_val rfl (v_build Tryz.underlying54 Tryz.zeroValue54 (sized_cons Tryz.sizeOf3 (sized_cons Tryz.sizeOf3 (sized_cons Tryz.sizeOf3 (sized_cons Tryz.sizeOf4 sized_nil)))) fil_nil) ?_))
          refine s_do0 (d_storeAll Tryz.sizeOf54 rfl rfl rfl rfl rfl) ?_
          rintro _ _ rfl
          refine s_val rfl (v_assign rfl) (x_nil (n_then (x_ret (r_then (x_done (.inl rfl) (.cons (r_all Tryz.isAgg54 Tryz.sizeOf54 rfl rfl) (.cons (r_tmp rfl) .nil)) ?_)))))
          exact ⟨_, ⟨none, its, T, now, rfl, fun x q => (by cases q), fun _ x hx hk => (by
            have hg := get_uniq hi.keys hx
            rw [hk, hy] at hg
            subst hg
            simp_all [entO]), hR, hT, hi, by omega, rfl⟩, inferInstance⟩
        · intro c2
          refine x_skip (n_then (x_seq ?_))
          obtain ⟨x, rfl⟩ : ∃ x, y = some x := by cases y <;> simp_all
          have hm : mayB20 x.e kind user = true := by simp_all [entO]
          obtain ⟨q1, q2⟩ := get_mem hy
          have hpt := hi.putT room now q1
          have hpl := putL_len (now := now) (k := x.k) (e := x.e) hT
          rw [q2] at hpt hpl
          rw [show entO (some x) = x.e from rfl]
          refine x_draw [(ba, 0, _), (bm, 0, _), (b4, 0, _)] 11 mixed rfl (sc_own (sc_own (sc_own sc_end))) (fun hS => ?_)
          refine d_take 0 rfl rfl (by kernel_rfl) (by kernel_rfl) (by kernel_rfl) rfl hS (v_move rfl) ?_
          refine d_take 1 rfl rfl (by kernel_rfl) (by kernel_rfl) (by kernel_rfl) rfl hS (v_nilCheck rfl) ?_
          refine d_take 2 rfl rfl (by kernel_rfl) (by kernel_rfl) (by kernel_rfl) rfl hS (v_fieldAddr rfl Tryz.underlying113 rfl Tryz.sizeOf24 rfl (by first | exact Nat.zero_add _ | rfl)) ?_
          refine d_take 3 rfl rfl (by kernel_rfl) (by kernel_rfl) (by kernel_rfl) rfl hS (v_load Tryz.isAgg24 rfl (by first | exact cell_sc0 (k := 0) rfl rfl | exact cell_sc0 (k := 1) rfl rfl | exact cell_sc0 (k := 2) rfl rfl)) ?_
          refine d_take 4 rfl rfl (by kernel_rfl) (by kernel_rfl) (by kernel_rfl) rfl hS (v_nilCheck rfl) ?_
          refine d_take 5 rfl rfl (by kernel_rfl) (by kernel_rfl) (by kernel_rfl) rfl hS (v_fieldAddr rfl Tryz.underlying97 rfl Tryz.sizeOf94 rfl (by first | exact Nat.zero_add _ | rfl)) ?_
          refine d_take 6 rfl rfl (by kernel_rfl) (by kernel_rfl) (by kernel_rfl) rfl hS (v_load Tryz.isAgg94 rfl (by first | exact cell_sc0 (k := 0) rfl rfl | exact cell_sc0 (k := 1) rfl rfl | exact cell_sc0 (k := 2) rfl rfl)) ?_
          refine d_take 7 rfl rfl (by kernel_rfl) (by kernel_rfl) (by kernel_rfl) rfl hS (v_move rfl) ?_
          refine d_take 9 rfl rfl (by kernel_rfl) (by kernel_rfl) (by kernel_rfl) rfl hS (v_loadAgg Tryz.isAgg66 Tryz.sizeOf66 rfl (by first | exact cells_sc (k := 0) rfl | exact cells_sc (k := 1) rfl | exact cells_sc (k := 2) rfl) rfl) ?_
          refine d_one 8 (by kernel_rfl) rfl rfl (d_call1 Tryz.call76 rfl (asKey_spec W0 _ ba bm on root user va hva kind)) rfl ?_; clear hS
          rintro _ B_ ⟨rfl, hB_⟩
          obtain rfl := hB_.symm
          refine ⟨(sc_own (sc_own (sc_own sc_end))), fun hS => ?_⟩
          refine d_one 10 (by kernel_rfl) rfl rfl (d_call1 Tryz.call80 rfl (Put_spec18 W0 _ bt its room now T (vaK root va) x.e hR hT hr hn)) rfl ?_; clear hS
          rintro _ B_ ⟨rfl, its2, hB_, hR2⟩
          subst hB_
          refine ⟨(sc_own (sc_own (sc_own sc_end))), fun hS => ?_⟩
          refine d_done (by kernel_rfl) ?_; clear hS
          refine n_then (x_seq (x_region (s_val rfl (v_move rfl) (s_val rfl (v_loadAll Tryz.isAgg66 Tryz.sizeOf66 rfl rfl) ?_))))
          refine s_do rfl (d_call1 Tryz.call78 rfl (asHit_spec W0 _ ba bm on root user va hva kind x.e true)) ?_
          rintro _ B_ ⟨rfl, hB_⟩
          obtain rfl := hB_.symm
          refine s_do0 (d_storeAll Tryz.sizeOf54 rfl rfl rfl rfl rfl) ?_
          rintro _ _ rfl
          refine s_val rfl (v_assign rfl) (x_nil (n_then (x_ret (x_done (.inl rfl) (.cons (r_all Tryz.isAgg54 Tryz.sizeOf54 rfl rfl) (.cons (r_tmp rfl) .nil)) ?_))))
          refine ⟨_, ⟨some x, its2, _, now + 1, rfl, fun x' q => ?_, fun q => (by cases q), hR2, hpl, hpt, by omega, rfl⟩, inferInstance⟩
          cases q
          exact ⟨q1, q2, hm⟩
  · skip
    refine dx_one rfl rfl (d_allocA Tryz.zeroValue66) rfl ?_; clear hS
    rintro _ _ ⟨b4, rfl, rfl⟩
    refine ⟨(sc_own (sc_own sc_end)), fun hS => ?_⟩
    refine d_one 8 (by kernel_rfl) rfl rfl (d_call1 Tryz.call76 rfl (asKey_spec W0 _ ba bm on root user va hva kind)) rfl ?_; clear hS
    rintro _ B_ ⟨rfl, hB_⟩
    obtain rfl := hB_.symm
    refine ⟨(sc_own (sc_own sc_end)), fun hS => ?_⟩
    refine d_one 9 (by kernel_rfl) rfl rfl (d_call1 Tryz.call79 rfl (shGet_spec W0 _ bs L (by omega) (vaK root va))) rfl ?_; clear hS
    rintro _ B_ ⟨rfl, hB_⟩
    subst hB_
    rw [shGV_eq, hy]
    refine ⟨(sc_own (sc_own sc_end)), fun hS => ?_⟩
    refine d_take 10 rfl rfl (by kernel_rfl) (by kernel_rfl) (by kernel_rfl) rfl hS (v_move rfl) ?_
    refine d_take 11 rfl rfl (by kernel_rfl) (by kernel_rfl) (by kernel_rfl) rfl hS (v_extract rfl rfl) ?_
    refine d_take 12 rfl rfl (by kernel_rfl) (by kernel_rfl) (by kernel_rfl) rfl hS (v_extract rfl rfl) ?_
    refine d_one 14 (by kernel_rfl) rfl rfl (d_storeAll Tryz.sizeOf66 rfl rfl rfl rfl rfl) rfl ?_; clear hS
    rintro _ _ rfl
    refine ⟨(sc_own (sc_own sc_end)), fun hS => ?_⟩
    refine d_take 15 rfl rfl (by kernel_rfl) (by kernel_rfl) (by kernel_rfl) rfl hS (v_assign rfl) ?_
    refine d_done (by kernel_rfl) ?_; clear hS
    refine n_then (x_seq (x_seq (x_region (s_val rfl (v_move rfl) (s_val rfl (v_not rfl) (s_val rfl (v_move rfl) ?_))))))
    refine s_or rfl rfl rfl ?_ ?_
    · intro g2_3
      refine s_no rfl rfl rfl rfl (s_no rfl rfl rfl rfl (s_no rfl rfl rfl rfl (s_val rfl (v_pick_t rfl rfl) (x_nil (n_then (x_ift rfl (x_seq (x_region (s_val rfl (v_build Tryz.underlying54 Tryz.zeroValue54 (sized_cons Tryz.sizeOf3 (sized_cons Tryz.sizeOf3 (sized_cons Tryz.sizeOf3 (sized_cons Tryz.sizeOf4 sized_nil)))) fil_nil) ?_)))))))))
      refine s_do0 (d_storeAll Tryz.sizeOf54 rfl rfl rfl rfl rfl) ?_
      rintro _ _ rfl
      refine s_val rfl (v_assign rfl) (x_nil (n_then (x_ret (r_then (x_done (.inl rfl) (.cons (r_all Tryz.isAgg54 Tryz.sizeOf54 rfl rfl) (.cons (r_tmp rfl) .nil)) ?_)))))
      exact ⟨_, ⟨none, its, T, now, rfl, fun x q => (by cases q), fun _ x hx hk => (by
        have hg := get_uniq hi.keys hx
        rw [hk, hy] at hg
        subst hg
        simp_all [entO]), hR, hT, hi, by omega, rfl⟩, inferInstance⟩
    · intro g2_3
      refine s_val rfl (v_move rfl) (s_yes rfl rfl (s_val rfl (v_loadAll Tryz.isAgg66 Tryz.sizeOf66 rfl rfl) ?_))
      refine s_yes rfl rfl (s_do rfl (d_call1 Tryz.call77 rfl (asMay_spec W0 _ ba bm on root user va kind (entO y))) ?_)
      rintro _ B_ ⟨rfl, hB_⟩
      obtain rfl := hB_.symm
      refine s_yes rfl rfl (s_val rfl (v_not rfl) (s_val rfl (v_pick_f rfl rfl) (x_nil (n_then ?_))))
      refine x_if rfl ?_ ?_
      · intro c2
        refine x_seq (x_region (s_val rfl (v_build Tryz.underlying54 Tryz.zeroValue54 (sized_cons Tryz.sizeOf3 (sized_cons Tryz.sizeOf3 (sized_cons Tryz.sizeOf3 (sized_cons Tryz.sizeOf4 sized_nil)))) fil_nil) ?_))
        refine s_do0 (d_storeAll Tryz.sizeOf54 rfl rfl rfl rfl rfl) ?_
        rintro _ _ rfl
        refine s_val rfl (v_assign rfl) (x_nil (n_then (x_ret (r_then (x_done (.inl rfl) (.cons (r_all Tryz.isAgg54 Tryz.sizeOf54 rfl rfl) (.cons (r_tmp rfl) .nil)) ?_)))))
        exact ⟨_, ⟨none, its, T, now, rfl, fun x q => (by cases q), fun _ x hx hk => (by
          have hg := get_uniq hi.keys hx
          rw [hk, hy] at hg
          subst hg
          simp_all [entO]), hR, hT, hi, by omega, rfl⟩, inferInstance⟩
      · intro c2
        refine x_skip (n_then (x_seq ?_))
        obtain ⟨x, rfl⟩ : ∃ x, y = some x := by cases y <;> simp_all
        have hm : mayB20 x.e kind user = true := by simp_all [entO]
        obtain ⟨q1, q2⟩ := get_mem hy
        have hpt := hi.putT room now q1
        have hpl := putL_len (now := now) (k := x.k) (e := x.e) hT
        rw [q2] at hpt hpl
        rw [show entO (some x) = x.e from rfl]
        refine x_draw [(ba, 0, _), (bm, 0, _), (b4, 0, _)] 11 mixed rfl (sc_own (sc_own (sc_own sc_end))) (fun hS => ?_)
        refine d_take 0 rfl rfl (by kernel_rfl) (by kernel_rfl) (by kernel_rfl) rfl hS (v_move rfl) ?_
        refine d_take 1 rfl rfl (by kernel_rfl) (by kernel_rfl) (by kernel_rfl) rfl hS (v_nilCheck rfl) ?_
        refine d_take 2 rfl rfl (by kernel_rfl) (by kernel_rfl) (by kernel_rfl) rfl hS (v_fieldAddr rfl Tryz.underlying113 rfl Tryz.sizeOf24 rfl (by first | exact Nat.zero_add _ | rfl)) ?_
        refine d_take 3 rfl rfl (by kernel_rfl) (by kernel_rfl) (by kernel_rfl) rfl hS (v_load Tryz.isAgg24 rfl (by first | exact cell_sc0 (k := 0) rfl rfl | exact cell_sc0 (k := 1) rfl rfl | exact cell_sc0 (k := 2) rfl rfl)) ?_
        refine d_take 4 rfl rfl (by kernel_rfl) (by kernel_rfl) (by kernel_rfl) rfl hS (v_nilCheck rfl) ?_
        refine d_take 5 rfl rfl (by kernel_rfl) (by kernel_rfl) (by kernel_rfl) rfl hS (v_fieldAddr rfl Tryz.underlying97 rfl Tryz.sizeOf94 rfl (by first | exact Nat.zero_add _ | rfl)) ?_
        refine d_take 6 rfl rfl (by kernel_rfl) (by kernel_rfl) (by kernel_rfl) rfl hS (v_load Tryz.isAgg94 rfl (by first | exact cell_sc0 (k := 0) rfl rfl | exact cell_sc0 (k := 1) rfl rfl | exact cell_sc0 (k := 2) rfl rfl)) ?_
        refine d_take 7 rfl rfl (by kernel_rfl) (by kernel_rfl) (by kernel_rfl) rfl hS (v_move rfl) ?_
        refine d_take 9 rfl rfl (by kernel_rfl) (by kernel_rfl) (by kernel_rfl) rfl hS (v_loadAgg Tryz.isAgg66 Tryz.sizeOf66 rfl (by first | exact cells_sc (k := 0) rfl | exact cells_sc (k := 1) rfl | exact cells_sc (k := 2) rfl) rfl) ?_
        refine d_one 8 (by kernel_rfl) rfl rfl (d_call1 Tryz.call76 rfl (asKey_spec W0 _ ba bm on root user va hva kind)) rfl ?_; clear hS
        rintro _ B_ ⟨rfl, hB_⟩
        obtain rfl := hB_.symm
        refine ⟨(sc_own (sc_own (sc_own sc_end))), fun hS => ?_⟩
        refine d_one 10 (by kernel_rfl) rfl rfl (d_call1 Tryz.call80 rfl (Put_spec18 W0 _ bt its room now T (vaK root va) x.e hR hT hr hn)) rfl ?_; clear hS
        rintro _ B_ ⟨rfl, its2, hB_, hR2⟩
        subst hB_
        refine ⟨(sc_own (sc_own (sc_own sc_end))), fun hS => ?_⟩
        refine d_done (by kernel_rfl) ?_; clear hS
        refine n_then (x_seq (x_region (s_val rfl (v_move rfl) (s_val rfl (v_loadAll Tryz.isAgg66 Tryz.sizeOf66 rfl rfl) ?_))))
        refine s_do rfl (d_call1 Tryz.call78 rfl (asHit_spec W0 _ ba bm on root user va hva kind x.e true)) ?_
        rintro _ B_ ⟨rfl, hB_⟩
        obtain rfl := hB_.symm
        refine s_do0 (d_storeAll Tryz.sizeOf54 rfl rfl rfl rfl rfl) ?_
        rintro _ _ rfl
        refine s_val rfl (v_assign rfl) (x_nil (n_then (x_ret (x_done (.inl rfl) (.cons (r_all Tryz.isAgg54 Tryz.sizeOf54 rfl rfl) (.cons (r_tmp rfl) .nil)) ?_))))
        refine ⟨_, ⟨some x, its2, _, now + 1, rfl, fun x' q => ?_, fun q => (by cases q), hR2, hpl, hpt, by omega, rfl⟩, inferInstance⟩
        cases q
        exact ⟨q1, q2, hm⟩
end Go.Proofs.YtllkdnadmmjehaaGreatDoor
namespace Go.Proofs.YtllkdnadmmjehaaGreatDoor
open Go.RowKit
set_option linter.unusedSimpArgs false
set_option linter.unusedVariables false
set_option maxRecDepth 20000
section
variable {P : Program} {S : World → Prop} {N : FSz} {e : Env} {t : TypeId} {x y : Operand}
theorem v_idxAgg {E len sz j : Nat} {k : IntKind} {i : Int} {cs : Array Value} {us : List Value} (hu : P.underlying t = some (.array len E)) (ha : ∀ w, (isAgg E).run P w = .ok true w) (hs : ∀ w, (sizeOf E).run P w = .ok sz w) (hx : ev e x = some (.agg cs)) (hy : ev e y = some (.int k i))
    (hi : i = (j : Int)) (hj : j < len) (hv : cs.extract (j * sz) (j * sz + sz) = us.toArray) : Val P S N e (.index t x y) (.agg us.toArray) := fun a w _ _ _ _ _ hF _ => by
  subst hi
  have h1 : (0 : Int) ≤ (j : Int) ∧ (j : Int) < (len : Int) := by omega
  simp only [execOp, Instr.index, Sem.run_bind, hF.eval hx, hF.eval hy, asIntOf, Sem.run_pure, Result.andThen_ok, run_und hu, if_pos h1, Int.toNat_natCast, hs, part, ha, hv, if_true]
end
def kdV : List Value := [.int .i64 0, .int .i64 4, .int .i64 1, .int .i64 1, .int .i64 2, .int .i64 2]
def knd (i : Nat) : Int × Int := if i = 0 then (0, 4) else if i = 1 then (1, 1) else (2, 2)
def givR (pg : List Pl) (r p : Int) : Nat → Int
  | 0 => bAnd .i64 r 8
  | i + 1 => if bAnd .i64 r (knd i).2 ≠ 0 ∧ alwE pg p (knd i).1 = 0 then bOr .i64 (givR pg r p i) (knd i).2 else givR pg r p i
theorem mmGiven_spec (W0 : World) (R : List HP) (hK : ∀ A, Cells (OwnP W0 A) 0 0 kdV) (bm pv bt bs ps pm d : Nat) (on : Bool) (r p : Int) (pg : List Pl) (hP : Pgs pg) :
    Spec Tryz.prog W0 123 [.pointer (some ⟨bm, 0, none⟩), .agg #[.bool on, .int .i64 r, .int .i64 p]] (pt bm (mmO pv bt bs) :: pt pv (viO ps pm d) :: pt pm (gmO pg) :: R)
      (fun v B => v = .int .i64 (givR pg r p 3) ∧ B = pt bm (mmO pv bt bs) :: pt pv (viO ps pm d) :: pt pm (gmO pg) :: R) := by
  refine spec_body Tryz.func123 Tryz.ntmps123 rfl rfl ?_
  refine x_seq (x_region (s_do rfl (d_boxA rfl) ?_))
  rintro _ _ ⟨b3, rfl, rfl⟩
  refine s_val rfl (v_assign rfl) (x_nil (n_then (x_seq (x_region ?_))))
  refine s_val rfl (v_fieldAddr rfl Tryz.underlying120 rfl Tryz.sizeOf3 rfl (by first | exact Nat.zero_add _ | rfl)) ?_
  refine s_val rfl (v_load Tryz.isAgg3 rfl (cell_own rfl)) ?_
  refine s_val rfl (v_and rfl rfl rfl) ?_
  refine s_val rfl (v_assign rfl) (x_nil (n_then (x_seq (x_seq (x_region (s_val rfl (v_loadAgg Tryz.isAgg221 Tryz.sizeOf221 rfl (hK _) rfl) ?_))))))
  refine s_val rfl (v_move rfl) (x_nil (n_then (x_block ?_)))
  refine x_loop (fun i : Nat => i ≤ 3) (fun i => [(0, .pointer (some ⟨bm, 0, none⟩)), (3, .pointer (some ⟨b3, 0, none⟩)), (5, .int .i64 (givR pg r p i)), (11, .agg kdV.toArray), (12, .int .i64 i)]) (fun i => pt b3 (cob [.bool on, .int .i64 r, .int .i64 p] 120) :: pt bm (mmO pv bt bs) :: pt pv (viO ps pm d) :: pt pm (gmO pg) :: R) (fun i => 3 - i) 0 ?_ ?_ ?_ ?_
  · exact Nat.zero_le _
  · repeat (first | exact sub_nil | refine sub_cons rfl ?_)
  · exact inferInstance
  · intro i hi
    refine x_seq (x_region (s_val rfl (v_lss rfl rfl) (x_nil (n_then (x_seq ?_)))))
    refine x_if rfl ?_ ?_
    · intro c3
      refine x_skip (n_then ?_)
      refine x_cut (fun _ : Unit => True) (fun _ => [(0, .pointer (some ⟨bm, 0, none⟩)), (3, .pointer (some ⟨b3, 0, none⟩)), (5, .int .i64 (givR pg r p (i + 1))), (11, .agg kdV.toArray), (12, .int .i64 i)]) (fun _ => pt b3 (cob [.bool on, .int .i64 r, .int .i64 p] 120) :: pt bm (mmO pv bt bs) :: pt pv (viO ps pm d) :: pt pm (gmO pg) :: R) ?_ ?_
      · skip
        refine x_block (x_seq ?_)
        have hi3 : i < 3 := by omega
        have hkv : kdV.toArray.extract (i * 2) (i * 2 + 2) = ([.int .i64 (knd i).1, .int .i64 (knd i).2] : List Value).toArray := by
          have : i = 0 ∨ i = 1 ∨ i = 2 := by omega
          rcases this with rfl | rfl | rfl <;> rfl
        have hst : givR pg r p (i + 1) = if bAnd .i64 r (knd i).2 ≠ 0 ∧ alwE pg p (knd i).1 = 0 then bOr .i64 (givR pg r p i) (knd i).2 else givR pg r p i := rfl
        obtain ⟨⟨k, c⟩, hkc⟩ : ∃ q, knd i = q := ⟨_, rfl⟩
        rw [hkc] at hkv hst
        dsimp only at hkv hst
        refine x_region (s_val rfl (v_idxAgg Tryz.underlying221 Tryz.isAgg220 Tryz.sizeOf220 rfl rfl rfl hi3 hkv) ?_)
        refine s_do rfl (d_allocA Tryz.zeroValue220) ?_
        rintro _ _ ⟨b7, rfl, rfl⟩
        refine s_do0 (d_storeAll Tryz.sizeOf220 rfl rfl rfl rfl rfl) ?_
        rintro _ _ rfl
        refine x_nil (n_then (x_seq ?_))
        refine x_draw [(b3, 0, _), (b7, 0, _), (bm, 0, _)] 19 mixed rfl (sc_own (sc_own (sc_own sc_end))) (fun hS => ?_)
        refine d_take 0 rfl rfl (by kernel_rfl) (by kernel_rfl) (by kernel_rfl) rfl hS (v_fieldAddr rfl Tryz.underlying120 rfl Tryz.sizeOf3 rfl (by first | exact Nat.zero_add _ | rfl)) ?_
        refine d_take 1 rfl rfl (by kernel_rfl) (by kernel_rfl) (by kernel_rfl) rfl hS (v_load Tryz.isAgg3 rfl (by first | exact cell_sc0 (k := 0) rfl rfl | exact cell_sc0 (k := 1) rfl rfl | exact cell_sc0 (k := 2) rfl rfl)) ?_
        refine d_take 2 rfl rfl (by kernel_rfl) (by kernel_rfl) (by kernel_rfl) rfl hS (v_fieldAddr rfl Tryz.underlying220 rfl Tryz.sizeOf3 rfl (by first | exact Nat.zero_add _ | rfl)) ?_
        refine d_take 3 rfl rfl (by kernel_rfl) (by kernel_rfl) (by kernel_rfl) rfl hS (v_load Tryz.isAgg3 rfl (by first | exact cell_sc0 (k := 0) rfl rfl | exact cell_sc0 (k := 1) rfl rfl | exact cell_sc0 (k := 2) rfl rfl)) ?_
        refine d_take 4 rfl rfl (by kernel_rfl) (by kernel_rfl) (by kernel_rfl) rfl hS (v_and rfl rfl rfl) ?_
        refine d_take 5 rfl rfl (by kernel_rfl) (by kernel_rfl) (by kernel_rfl) rfl hS (v_neq rfl rfl) ?_
        refine d_take 6 rfl rfl (by kernel_rfl) (by kernel_rfl) (by kernel_rfl) rfl hS (v_move rfl) ?_
        refine x_split (t := 21) rfl ?_ ?_
        · intro g5_7
          refine d_take 7 rfl rfl (by kernel_rfl) (by kernel_rfl) (by kernel_rfl) rfl hS (v_move rfl) ?_
          refine d_take 8 rfl rfl (by kernel_rfl) (by kernel_rfl) (by kernel_rfl) rfl hS (v_nilCheck rfl) ?_
          refine d_take 9 rfl rfl (by kernel_rfl) (by kernel_rfl) (by kernel_rfl) rfl hS (v_fieldAddr rfl Tryz.underlying97 rfl Tryz.sizeOf25 rfl (by first | exact Nat.zero_add _ | rfl)) ?_
          refine d_take 10 rfl rfl (by kernel_rfl) (by kernel_rfl) (by kernel_rfl) rfl hS (v_load Tryz.isAgg25 rfl (by first | exact cell_sc0 (k := 0) rfl rfl | exact cell_sc0 (k := 1) rfl rfl | exact cell_sc0 (k := 2) rfl rfl)) ?_
          refine d_take 12 rfl rfl (by kernel_rfl) (by kernel_rfl) (by kernel_rfl) rfl hS (v_fieldAddr rfl Tryz.underlying120 rfl Tryz.sizeOf3 rfl (by first | exact Nat.zero_add _ | rfl)) ?_
          refine d_take 13 rfl rfl (by kernel_rfl) (by kernel_rfl) (by kernel_rfl) rfl hS (v_load Tryz.isAgg3 rfl (by first | exact cell_sc0 (k := 0) rfl rfl | exact cell_sc0 (k := 1) rfl rfl | exact cell_sc0 (k := 2) rfl rfl)) ?_
          refine d_take 14 rfl rfl (by kernel_rfl) (by kernel_rfl) (by kernel_rfl) rfl hS (v_fieldAddr rfl Tryz.underlying220 rfl Tryz.sizeOf3 rfl (by first | exact Nat.zero_add _ | rfl)) ?_
          refine d_take 15 rfl rfl (by kernel_rfl) (by kernel_rfl) (by kernel_rfl) rfl hS (v_load Tryz.isAgg3 rfl (by first | exact cell_sc0 (k := 0) rfl rfl | exact cell_sc0 (k := 1) rfl rfl | exact cell_sc0 (k := 2) rfl rfl)) ?_
          refine d_one 11 (by kernel_rfl) rfl rfl (d_call1 Tryz.call18 rfl (viMap_spec W0 _ pv ps pm d)) rfl ?_; clear hS
          rintro _ B_ ⟨rfl, hB_⟩
          obtain rfl := hB_.symm
          refine ⟨(sc_own (sc_own (sc_own sc_end))), fun hS => ?_⟩
          refine d_one 16 (by kernel_rfl) rfl rfl (d_call1 Tryz.call97 rfl (gmAllows_spec W0 _ pm pg hP p k)) rfl ?_; clear hS
          rintro _ B_ ⟨rfl, hB_⟩
          obtain rfl := hB_.symm
          refine ⟨(sc_own (sc_own (sc_own sc_end))), fun hS => ?_⟩
          refine d_take 17 rfl rfl (by kernel_rfl) (by kernel_rfl) (by kernel_rfl) rfl hS (v_eql rfl rfl) ?_
          refine d_take 18 rfl rfl (by kernel_rfl) (by kernel_rfl) (by kernel_rfl) rfl hS (v_pick_t rfl rfl) ?_
          refine d_done (by kernel_rfl) ?_; clear hS
          refine n_then ?_
          refine x_if rfl ?_ ?_
          · intro c5
            refine x_region (s_val rfl (v_move rfl) ?_)
            refine s_val rfl (v_fieldAddr rfl Tryz.underlying220 rfl Tryz.sizeOf3 rfl (by first | exact Nat.zero_add _ | rfl)) ?_
            refine s_val rfl (v_load Tryz.isAgg3 rfl (cell_own rfl)) ?_
            refine s_val rfl (v_or rfl rfl rfl) ?_
            refine s_val rfl (v_assign rfl) (x_nil (n_block (n_then ?_)))
            refine mid_intro () ?_ ?_ ?_
            · trivial
            · rw [hst, if_pos (by first | assumption | simp_all)]
              repeat (first | exact sub_nil | refine sub_cons rfl ?_)
            · exact inferInstance
          · intro c5
            refine x_skip (n_block (n_then ?_))
            refine mid_intro () ?_ ?_ ?_
            · trivial
            · rw [hst, if_neg (by first | (intro q; simp_all; done) | (rintro ⟨q1, q2⟩; contradiction))]
              repeat (first | exact sub_nil | refine sub_cons rfl ?_)
            · exact inferInstance
        · intro g5_7
          refine d_skip 7 rfl rfl (by kernel_rfl) (by kernel_rfl) (by kernel_rfl) rfl hS ?_
          refine d_skip 8 rfl rfl (by kernel_rfl) (by kernel_rfl) (by kernel_rfl) rfl hS ?_
          refine d_skip 9 rfl rfl (by kernel_rfl) (by kernel_rfl) (by kernel_rfl) rfl hS ?_
          refine d_skip 10 rfl rfl (by kernel_rfl) (by kernel_rfl) (by kernel_rfl) rfl hS ?_
          refine d_skip 11 rfl rfl (by kernel_rfl) (by kernel_rfl) (by kernel_rfl) rfl hS ?_
          refine d_skip 12 rfl rfl (by kernel_rfl) (by kernel_rfl) (by kernel_rfl) rfl hS ?_
          refine d_skip 13 rfl rfl (by kernel_rfl) (by kernel_rfl) (by kernel_rfl) rfl hS ?_
          refine d_skip 14 rfl rfl (by kernel_rfl) (by kernel_rfl) (by kernel_rfl) rfl hS ?_
          refine d_skip 15 rfl rfl (by kernel_rfl) (by kernel_rfl) (by kernel_rfl) rfl hS ?_
          refine d_skip 16 rfl rfl (by kernel_rfl) (by kernel_rfl) (by kernel_rfl) rfl hS ?_
          refine d_skip 17 rfl rfl (by kernel_rfl) (by kernel_rfl) (by kernel_rfl) rfl hS ?_
          refine d_take 18 rfl rfl (by kernel_rfl) (by kernel_rfl) (by kernel_rfl) rfl hS (v_pick_f rfl rfl) ?_
          refine d_done (by kernel_rfl) ?_; clear hS
          refine n_then (x_iff rfl (x_skip (n_block (n_then ?_))))
          refine mid_intro () ?_ ?_ ?_
          · trivial
          · rw [hst, if_neg (by first | (intro q; simp_all; done) | (rintro ⟨q1, q2⟩; contradiction))]
            repeat (first | exact sub_nil | refine sub_cons rfl ?_)
          · exact inferInstance
      · intro _ _
        refine x_region ?_
        refine s_val rfl (v_add rfl rfl (by first | exact w64 (by omega) | rfl)) ?_
        refine s_val rfl (v_move rfl) (x_nil (n_then ?_))
        refine inv_intro (i + 1) ?_ ?_ ?_ ?_
        · omega
        · omega
        · repeat (first | exact sub_nil | refine sub_cons rfl ?_)
        · exact inferInstance
    · intro c3
      refine x_exit (e_then (e_then (e_block (n_then (x_seq (x_region (s_val rfl (v_move rfl) (s_val rfl (v_assign rfl) (x_nil (n_then (x_ret (x_done (.inl rfl) (.cons (r_tmp rfl) .nil) ?_))))))))))))
      obtain rfl : i = 3 := by omega
      exact ⟨_, ⟨rfl, rfl⟩, inferInstance⟩
end Go.Proofs.YtllkdnadmmjehaaGreatDoor
namespace Go.Proofs.YtllkdnadmmjehaaGreatDoor
open Go.RowKit
set_option linter.unusedSimpArgs false
set_option linter.unusedVariables false
set_option maxRecDepth 20000
def givB (r : Int) (a0 a1 a2 : Bool) : Int :=
  let x0 := bAnd .i64 r 8
  let x1 := if bAnd .i64 r 4 ≠ 0 ∧ a0 = true then bOr .i64 x0 4 else x0
  let x2 := if bAnd .i64 r 1 ≠ 0 ∧ a1 = true then bOr .i64 x1 1 else x1
  if bAnd .i64 r 2 ≠ 0 ∧ a2 = true then bOr .i64 x2 2 else x2
theorem givR_B (pg : List Pl) (r p : Int) : givR pg r p 3 = givB r (decide (alwE pg p 0 = 0)) (decide (alwE pg p 1 = 0)) (decide (alwE pg p 2 = 0)) := by
  simp only [givR, givB, knd, decide_eq_true_eq]
  rfl
theorem givB_ok : ∀ n : Nat, n < 16 → ∀ a0 a1 a2 : Bool, (0 ≤ givB (n : Int) a0 a1 a2 ∧ givB (n : Int) a0 a1 a2 < 16) ∧ (bitR (givB (n : Int) a0 a1 a2) 1 = true → bitR (n : Int) 1 = true ∧ a1 = true) ∧ (bitR (givB (n : Int) a0 a1 a2) 2 = true → bitR (n : Int) 2 = true ∧ a2 = true) ∧ (bitR (givB (n : Int) a0 a1 a2) 4 = true → bitR (n : Int) 4 = true ∧ a0 = true) ∧ (bitR (givB (n : Int) a0 a1 a2) 8 = true → bitR (n : Int) 8 = true) := by
  decide +kernel
theorem givR_ok (pg : List Pl) (n : Nat) (hn : n < 16) (p : Int) : (0 ≤ givR pg (n : Int) p 3 ∧ givR pg (n : Int) p 3 < 16) ∧ (∀ k, needOk k = true → bitR (givR pg (n : Int) p 3) (needR k) = true → alwE pg p k = 0) ∧ ∀ c, c = 1 ∨ c = 2 ∨ c = 4 ∨ c = 8 → bitR (givR pg (n : Int) p 3) c = true → bitR (n : Int) c = true := by
  obtain ⟨h0, h1, h2, h4, h8⟩ := givB_ok n hn (decide (alwE pg p 0 = 0)) (decide (alwE pg p 1 = 0)) (decide (alwE pg p 2 = 0))
  rw [givR_B]
  refine ⟨h0, fun k hk hb => ?_, fun c hc hb => ?_⟩
  · have hk := of_decide_eq_true hk
    rcases hk with rfl | rfl | rfl
    · exact of_decide_eq_true (h4 hb).2
    · exact of_decide_eq_true (h1 hb).2
    · exact of_decide_eq_true (h2 hb).2
  · rcases hc with rfl | rfl | rfl | rfl
    · exact (h1 hb).1
    · exact (h2 hb).1
    · exact (h4 hb).1
    · exact h8 hb
theorem va_up {a b : Nat} (h : a / 64 = b / 64) : a / 1024 = b / 1024 := by omega
theorem wk_page {fr : List Frm} {pg : List Pl} {root : Int} {va va' : Nat} (h : WkOk fr pg root va) (hv : va' < 16384) (he : va' / 64 = va / 64) : wkR fr pg root va' = wkR fr pg root va ∧ rtA fr pg va' root = rtA fr pg va root := by
  have hu := va_up he
  have e1 : rtA fr pg va' root = rtA fr pg va root := by unfold rtA; rw [hu]
  have e2 : rtB fr pg va' root = rtB fr pg va root := by unfold rtB; rw [hu]
  have e3 : ∀ s, rtS fr pg va' root s = rtS fr pg va root s := fun s => by unfold rtS; rw [hu]
  refine ⟨?_, e1⟩
  rw [wkR, wkR, if_pos hv, if_pos h.lim, e2, h.rb, if_pos rfl, if_pos rfl]
  simp only [wkQ]
  rw [e1, e3]
  unfold lfS
  rw [he]
theorem fresh_ok {fr : List Frm} {pg : List Pl} {root : Int} {va : Nat} (h : WkOk fr pg root va) (hp : thereB pg (wkR fr pg root va).p = true) :
    LOk fr pg 0 ⟨vaK root va, ((wkR fr pg root va).p, (gGot pg (wkR fr pg root va).p).1, givR pg (wkR fr pg root va).r (wkR fr pg root va).p 3), (wkR fr pg root va).root, (wkR fr pg root va).leaf⟩ := by
  obtain ⟨s, hs⟩ : ∃ s, wkR fr pg root va = s := ⟨_, rfl⟩
  have he := h.eq
  rw [hs] at he hp ⊢
  have hn : ∃ n : Nat, s.r = (n : Int) ∧ n < 16 := ⟨lfR (tblW fr pg (rtA fr pg va root) (va / 64)), by rw [he], by unfold lfR; split; decide; exact gR_lt _⟩
  obtain ⟨n, hn, hn16⟩ := hn
  obtain ⟨g1, g2, g3⟩ := givR_ok pg n hn16 s.p
  rw [← hn] at g1 g2 g3
  have hon : s.on = true := by
    rw [he]
    have hl := h.lf
    unfold leafF at hl
    show lfOn _ = true
    unfold lfOn
    split at hl
    · exact absurd hl (by decide)
    · rename_i q
      rw [if_neg q, gOn]; exact decide_eq_true hl
  have hrt : s.root = root := by rw [he]
  have hlf : s.leaf = rtA fr pg va root := by rw [he]
  refine ⟨⟨?_, ?_⟩, ⟨hp, rfl⟩, g2, g1, fun _ _ va' hv hk => ?_⟩
  · show 0 ≤ s.root ∧ s.root < 8
    rw [hrt]; exact (tblB_iff.1 (rtB_iff.1 h.rb).1).1
  · show 0 ≤ s.leaf ∧ s.leaf < 8
    rw [hlf]; exact (tblB_iff.1 h.lt).1
  · have hk' : va' / 64 = va / 64 := by
      have : ((va' / 64 : Nat) : Int) = ((va / 64 : Nat) : Int) := hk
      omega
    obtain ⟨e1, e2⟩ := wk_page h hv hk'
    show WkOk fr pg root va' ∧ root = s.root ∧ rtA fr pg va' root = s.leaf ∧ (wkR fr pg root va').on = true ∧ (wkR fr pg root va').p = s.p ∧ ∀ c, c = 1 ∨ c = 2 ∨ c = 4 ∨ c = 8 → bitR (givR pg s.r s.p 3) c = true → bitR (wkR fr pg root va').r c = true
    rw [e1, e2, hs]
    refine ⟨wk_ok (by rw [e1, hs, he]), hrt.symm, hlf.symm, hon, rfl, fun c hc hb => ?_⟩
    exact g3 c hc hb
theorem MOk.fill {fr : List Frm} {pg : List Pl} {L : List Ln} {T T' : List It} (h : MOk fr pg 0 L T) {k : Key} {e : Ent3} {r l : Int} (room now : Nat) (hz : LOk fr pg 0 ⟨k, e, r, l⟩)
    (hT : ∀ y ∈ T', y ∈ putL room now k (shNew k e r l L).e (narL (shFr L r l) T) ∧ (shGet y.key (shFill k e r l L)).isSome = true) : MOk fr pg 0 (shFill k e r l L) T' := by
  refine ⟨h.F, h.n, by decide, h.P, h.pl, (h.ti.fill k e r l room now).sub' fun y hy => List.mem_filter.2 (hT y hy), fun x hx => ?_⟩
  rw [shFill_eq k e r l L h.ti.len] at hx
  rcases List.mem_append.1 hx with q | q
  · obtain ⟨z, hz2, rfl⟩ := List.mem_map.1 q
    have := h.ln z (shOld_mem hz2).1
    unfold prI; split
    · exact this.nar
    · exact this
  · obtain rfl : x = shNew k e r l L := by simpa using q
    rcases shNew_e k e r l L with z | z
    · rw [z]; exact hz
    · rw [z]; exact hz.nar
theorem rep_narL {its T : List It} {now : Nat} (l : List Int) : ∀ {its T : List It}, Rep its now T → Rep (narL l its) now (narL l T) := by
  induction l with
  | nil => exact fun h => h
  | cons p l ih => exact fun h => ih (h.nar p)
theorem narL_len (l : List Int) : ∀ T : List It, (narL l T).length = T.length := by
  induction l with
  | nil => exact fun _ => rfl
  | cons p l ih => exact fun T => (ih _).trans (List.length_map _)
theorem narL_snoc (l : List Int) (p : Int) (T : List It) : narL (l ++ [p]) T = (narL l T).map (narI p) := by simp [narL, List.foldl_append]
theorem narL_i64 (l : List Int) : ∀ {T : List It}, (∀ y ∈ T, i64 y.er) → ∀ y ∈ narL l T, i64 y.er := by
  induction l with
  | nil => exact fun h => h
  | cons p l ih =>
    intro T h
    refine ih fun y hy => ?_
    obtain ⟨z, hz, rfl⟩ := List.mem_map.1 hy
    exact narI_i64 (h z hz)
theorem MOk.er {fr : List Frm} {pg : List Pl} {d : Nat} {L : List Ln} {T : List It} (h : MOk fr pg d L T) {its : List It} {now : Nat} (hR : Rep its now T) : ∀ y ∈ its, i64 y.er := fun y hy => by
  obtain ⟨x, hx, _, e⟩ := h.ti.sub y (hR.perm.mem_iff.1 hy)
  have := (h.ln x hx).r
  have e2 : y.er = x.e.2.2 := by rw [e]; rfl
  rw [e2]
  exact ⟨by omega, by omega⟩
theorem MOk.ei {fr : List Frm} {pg : List Pl} {d : Nat} {L : List Ln} {T : List It} (h : MOk fr pg d L T) : ∀ x ∈ L, i64 x.e.2.2 := fun x hx => by
  have := (h.ln x hx).r
  exact ⟨by omega, by omega⟩
end Go.Proofs.YtllkdnadmmjehaaGreatDoor
namespace Go.Proofs.YtllkdnadmmjehaaGreatDoor
open Go.RowKit
set_option linter.unusedSimpArgs false
set_option linter.unusedVariables false
set_option maxRecDepth 20000
theorem asFill_spec (W0 : World) (R : List HP) (hK : ∀ A, Cells (OwnP W0 A) 0 0 kdV) (ba bm pv bt bs ps pm : Nat) (on : Bool) (root : Int) (user : Bool) (va : Nat) (hva : va < 4294967296) (kind : Int) (its : List It) (room now : Nat) (T : List It) (L : List Ln) (fr : List Frm) (pg : List Pl) (hR : Rep its now T) (hT : T.length ≤ room) (hr : room ≤ 4) (hn : now < 1000000) (h : MOk fr pg 0 L T)
    (hw : WkOk fr pg root va) (hp : thereB pg (wkR fr pg root va).p = true) (o : Int) (fast : Bool) :
    Spec Tryz.prog W0 81 [.pointer (some ⟨ba, 0, none⟩), .agg #[.int .i64 (wkR fr pg root va).p, .int .i64 (gGot pg (wkR fr pg root va).p).1, .int .i64 o, .bool fast]] (pt ba (asO bm on root user va kind) :: pt bm (mmO pv bt bs) :: rowH bt (its, tlV room now) :: shH bs L :: vwW pv ps pm 0 fr pg R)
      (fun v B => v = .tuple #[] ∧ ∃ its' T' L' now', Rep its' now' T' ∧ T'.length ≤ room ∧ MOk fr pg 0 L' T' ∧ now' ≤ now + 1 ∧ (∃ x ∈ L', x.k = vaK root va ∧ (x.e.2.2 = givR pg (wkR fr pg root va).r (wkR fr pg root va).p 3 ∨ x.e.2.2 = noW (givR pg (wkR fr pg root va).r (wkR fr pg root va).p 3))) ∧ B = pt ba (asO bm on root user va kind) :: pt bm (mmO pv bt bs) :: rowH bt (its', tlV room now') :: shH bs L' :: vwW pv ps pm 0 fr pg R) := by
  have hfo := fresh_ok hw hp
  obtain ⟨s, hs⟩ : ∃ s, wkR fr pg root va = s := ⟨_, rfl⟩
  rw [hs] at hfo hp ⊢
  obtain ⟨f, hf⟩ : ∃ f, (gGot pg s.p).1 = f := ⟨_, rfl⟩
  obtain ⟨gv, hgv⟩ : ∃ g, givR pg s.r s.p 3 = g := ⟨_, rfl⟩
  rw [hf, hgv] at hfo
  rw [hf, hgv]
  have hei : i64 gv := by
    have : 0 ≤ gv ∧ gv < 16 := hfo.r
    exact ⟨by omega, by omega⟩
  have ho1 : ownP s.root = true := decide_eq_true hfo.own.1
  have ho2 : ownP s.leaf = true := decide_eq_true hfo.own.2
  have hll := h.ti.len
  have hti := h.ti.fill (vaK root va) (s.p, f, gv) s.root s.leaf room now
  have hgn : shGet (vaK root va) (shFill (vaK root va) (s.p, f, gv) s.root s.leaf L) = some (shNew (vaK root va) (s.p, f, gv) s.root s.leaf L) := by
    have hm : shNew (vaK root va) (s.p, f, gv) s.root s.leaf L ∈ shFill (vaK root va) (s.p, f, gv) s.root s.leaf L := by rw [shFill_eq _ _ _ _ _ hll]; simp
    have := get_uniq hti.keys hm
    rwa [shNew_k] at this
  have hfl := fun T' q => h.fill (T' := T') room now hfo q
  have hze : (shNew (vaK root va) (s.p, f, gv) s.root s.leaf L).e.2.2 = gv ∨ (shNew (vaK root va) (s.p, f, gv) s.root s.leaf L).e.2.2 = noW gv := by
    rcases shNew_e (vaK root va) (s.p, f, gv) s.root s.leaf L with q | q
    · rw [q]; exact .inl rfl
    · rw [q]; exact .inr rfl
  obtain ⟨L2, hL2⟩ : ∃ l, shFill (vaK root va) (s.p, f, gv) s.root s.leaf L = l := ⟨_, rfl⟩
  obtain ⟨z, hz⟩ : ∃ z, shNew (vaK root va) (s.p, f, gv) s.root s.leaf L = z := ⟨_, rfl⟩
  obtain ⟨fs, hfs⟩ : ∃ l, shFr L s.root s.leaf = l := ⟨_, rfl⟩
  rw [hL2, hz] at hgn
  rw [hz] at hze
  have hzm := get_mem hgn
  rw [hL2, hz, hfs] at hfl
  rw [hL2] at hti
  have hl2 := hti.len
  have hfn : fs.length ≤ 2 := by
    rw [← hfs, shFr]
    refine Nat.le_trans (List.length_filter_le _ _) ?_
    split <;> simp
  have hRn := fun l => rep_narL (its := its) (T := T) l hR
  have hNl := fun l => narL_len l its
  have hNt := fun l => narL_len l T
  have hNi := fun l => narL_i64 l (h.er hR)
  have hil := hR.length
  refine spec_body Tryz.func81 Tryz.ntmps81 rfl rfl ?_
  refine x_seq (x_region (s_do rfl (d_boxA rfl) ?_))
  rintro _ _ ⟨b3, rfl, rfl⟩
  refine x_nil (n_then (x_seq (x_region (s_val rfl (v_move rfl) (s_val rfl (v_nilCheck rfl) ?_)))))
  refine s_val rfl (v_fieldAddr rfl Tryz.underlying113 rfl Tryz.sizeOf24 rfl (by first | exact Nat.zero_add _ | rfl)) ?_
  refine s_val rfl (v_load Tryz.isAgg24 rfl (cell_own rfl)) ?_
  refine s_val rfl (v_assign rfl) (x_nil (n_then ?_))
  refine x_cut (fun b5 : Nat => True) (fun b5 => [(0, .pointer (some ⟨ba, 0, none⟩)), (3, .pointer (some ⟨b3, 0, none⟩)), (4, .pointer (some ⟨bm, 0, none⟩)), (5, .pointer (some ⟨b5, 0, none⟩))]) (fun b5 => pt b3 (cob [.int .i64 s.p, .int .i64 f, .int .i64 o, .bool fast] 54) :: pt b5 (cob (wsV s) 122) :: pt ba (asO bm on root user va kind) :: pt bm (mmO pv bt bs) :: rowH bt (its, tlV room now) :: shH bs L :: vwW pv ps pm 0 fr pg R) ?_ ?_
  · skip
    refine x_draw [(ba, 0, _), (bm, 0, _)] 16 mixed rfl (sc_own (sc_own sc_end)) (fun hS => ?_)
    refine d_take 0 rfl rfl (by kernel_rfl) (by kernel_rfl) (by kernel_rfl) rfl hS (v_move rfl) ?_
    refine d_take 1 rfl rfl (by kernel_rfl) (by kernel_rfl) (by kernel_rfl) rfl hS (v_nilCheck rfl) ?_
    refine d_take 2 rfl rfl (by kernel_rfl) (by kernel_rfl) (by kernel_rfl) rfl hS (v_fieldAddr rfl Tryz.underlying97 rfl Tryz.sizeOf25 rfl (by first | exact Nat.zero_add _ | rfl)) ?_
    refine d_take 3 rfl rfl (by kernel_rfl) (by kernel_rfl) (by kernel_rfl) rfl hS (v_load Tryz.isAgg25 rfl (by first | exact cell_sc0 (k := 0) rfl rfl | exact cell_sc0 (k := 1) rfl rfl)) ?_
    refine d_take 4 rfl rfl (by kernel_rfl) (by kernel_rfl) (by kernel_rfl) rfl hS (v_move rfl) ?_
    refine d_take 5 rfl rfl (by kernel_rfl) (by kernel_rfl) (by kernel_rfl) rfl hS (v_nilCheck rfl) ?_
    refine d_take 6 rfl rfl (by kernel_rfl) (by kernel_rfl) (by kernel_rfl) rfl hS (v_fieldAddr rfl Tryz.underlying113 rfl Tryz.sizeOf30 rfl (by first | exact Nat.zero_add _ | rfl)) ?_
    refine d_take 7 rfl rfl (by kernel_rfl) (by kernel_rfl) (by kernel_rfl) rfl hS (v_fieldAddr rfl Tryz.underlying30 rfl Tryz.sizeOf3 rfl (by first | exact Nat.zero_add _ | rfl)) ?_
    refine d_take 8 rfl rfl (by kernel_rfl) (by kernel_rfl) (by kernel_rfl) rfl hS (v_load Tryz.isAgg3 rfl (by first | exact cell_sc0 (k := 0) rfl rfl | exact cell_sc0 (k := 1) rfl rfl)) ?_
    refine d_take 9 rfl rfl (by kernel_rfl) (by kernel_rfl) (by kernel_rfl) rfl hS (v_move rfl) ?_
    refine d_take 10 rfl rfl (by kernel_rfl) (by kernel_rfl) (by kernel_rfl) rfl hS (v_nilCheck rfl) ?_
    refine d_take 11 rfl rfl (by kernel_rfl) (by kernel_rfl) (by kernel_rfl) rfl hS (v_fieldAddr rfl Tryz.underlying113 rfl Tryz.sizeOf31 rfl (by first | exact Nat.zero_add _ | rfl)) ?_
    refine d_take 12 rfl rfl (by kernel_rfl) (by kernel_rfl) (by kernel_rfl) rfl hS (v_load Tryz.isAgg31 rfl (by first | exact cell_sc0 (k := 0) rfl rfl | exact cell_sc0 (k := 1) rfl rfl)) ?_
    refine d_all (is := [13, 14]) (by kernel_rfl) rfl ⟨?_, ?_, trivial⟩
    · skip
      refine dx_one rfl rfl (d_call3 Tryz.call71 rfl (wkWalk_spec W0 _ pv ps pm 0 fr pg h.P h.F root va hva)) rfl ?_; clear hS
      rintro _ B_ ⟨rfl, hB_⟩
      subst hB_
      rw [hs]
      refine ⟨(sc_own (sc_own sc_end)), fun hS => ?_⟩
      refine d_one 14 (by kernel_rfl) rfl rfl (d_allocA Tryz.zeroValue122) rfl ?_; clear hS
      rintro _ _ ⟨b5, rfl, rfl⟩
      refine ⟨(sc_own (sc_own sc_end)), fun hS => ?_⟩
      refine d_one 15 (by kernel_rfl) rfl rfl (d_storeAll Tryz.sizeOf122 rfl rfl rfl rfl rfl) rfl ?_; clear hS
      rintro _ _ rfl
      refine ⟨(sc_own (sc_own sc_end)), fun hS => ?_⟩
      refine d_done (by kernel_rfl) ?_; clear hS
      refine n_then ?_
      refine mid_intro b5 ?_ ?_ ?_
      · trivial
      · repeat (first | exact sub_nil | refine sub_cons rfl ?_)
      · exact inferInstance
    · skip
      refine dx_one rfl rfl (d_allocA Tryz.zeroValue122) rfl ?_; clear hS
      rintro _ _ ⟨b5, rfl, rfl⟩
      refine ⟨(sc_own (sc_own sc_end)), fun hS => ?_⟩
      refine d_one 13 (by kernel_rfl) rfl rfl (d_call3 Tryz.call71 rfl (wkWalk_spec W0 _ pv ps pm 0 fr pg h.P h.F root va hva)) rfl ?_; clear hS
      rintro _ B_ ⟨rfl, hB_⟩
      subst hB_
      rw [hs]
      refine ⟨(sc_own (sc_own sc_end)), fun hS => ?_⟩
      refine d_one 15 (by kernel_rfl) rfl rfl (d_storeAll Tryz.sizeOf122 rfl rfl rfl rfl rfl) rfl ?_; clear hS
      rintro _ _ rfl
      refine ⟨(sc_own (sc_own sc_end)), fun hS => ?_⟩
      refine d_done (by kernel_rfl) ?_; clear hS
      refine n_then ?_
      refine mid_intro b5 ?_ ?_ ?_
      · trivial
      · repeat (first | exact sub_nil | refine sub_cons rfl ?_)
      · exact inferInstance
  · intro b5 _
    refine x_cut (fun b6 : Nat => True) (fun b6 => [(0, .pointer (some ⟨ba, 0, none⟩)), (3, .pointer (some ⟨b3, 0, none⟩)), (4, .pointer (some ⟨bm, 0, none⟩)), (5, .pointer (some ⟨b5, 0, none⟩)), (6, .pointer (some ⟨b6, 0, none⟩))]) (fun b6 => pt b6 (cob [.int .i64 s.p, .int .i64 f, .int .i64 gv] 66) :: pt b5 (cob (wsV s) 122) :: pt ba (asO bm on root user va kind) :: pt bm (mmO pv bt bs) :: rowH bt (its, tlV room now) :: shH bs L :: vwW pv ps pm 0 fr pg R) ?_ ?_
    · skip
      refine x_draw [(b3, 0, _), (b5, 0, _)] 11 mixed rfl (sc_own (sc_own sc_end)) (fun hS => ?_)
      refine d_take 0 rfl rfl (by kernel_rfl) (by kernel_rfl) (by kernel_rfl) rfl hS (v_fieldAddr rfl Tryz.underlying54 rfl Tryz.sizeOf3 rfl (by first | exact Nat.zero_add _ | rfl)) ?_
      refine d_take 1 rfl rfl (by kernel_rfl) (by kernel_rfl) (by kernel_rfl) rfl hS (v_load Tryz.isAgg3 rfl (by first | exact cell_sc0 (k := 0) rfl rfl | exact cell_sc0 (k := 1) rfl rfl)) ?_
      refine d_take 2 rfl rfl (by kernel_rfl) (by kernel_rfl) (by kernel_rfl) rfl hS (v_fieldAddr rfl Tryz.underlying54 rfl Tryz.sizeOf3 rfl (by first | exact Nat.zero_add _ | rfl)) ?_
      refine d_take 3 rfl rfl (by kernel_rfl) (by kernel_rfl) (by kernel_rfl) rfl hS (v_load Tryz.isAgg3 rfl (by first | exact cell_sc0 (k := 0) rfl rfl | exact cell_sc0 (k := 1) rfl rfl)) ?_
      refine d_take 4 rfl rfl (by kernel_rfl) (by kernel_rfl) (by kernel_rfl) rfl hS (v_move rfl) ?_
      refine d_take 5 rfl rfl (by kernel_rfl) (by kernel_rfl) (by kernel_rfl) rfl hS (v_fieldAddr rfl Tryz.underlying122 rfl Tryz.sizeOf120 rfl (by first | exact Nat.zero_add _ | rfl)) ?_
      refine d_take 6 rfl rfl (by kernel_rfl) (by kernel_rfl) (by kernel_rfl) rfl hS (v_loadAgg Tryz.isAgg120 Tryz.sizeOf120 rfl (cells_pre (us := [.bool s.on, .int .i64 s.r, .int .i64 s.p]) (ws := [.int .i64 s.fault, .int .i64 s.root, .int .i64 s.leaf]) (cells_sc (k := 1) rfl) rfl) rfl) ?_
      refine d_all (is := [7, 9]) (by kernel_rfl) rfl ⟨?_, ?_, trivial⟩
      · skip
        refine dx_one rfl rfl (d_call3 Tryz.call123 rfl (mmGiven_spec W0 _ hK bm pv bt bs ps pm 0 s.on s.r s.p pg h.P)) rfl ?_; clear hS
        rintro _ B_ ⟨rfl, hB_⟩
        subst hB_
        rw [hgv]
        refine ⟨(sc_own (sc_own sc_end)), fun hS => ?_⟩
        refine d_take 8 rfl rfl (by kernel_rfl) (by kernel_rfl) (by kernel_rfl) rfl hS (v_build Tryz.underlying66 Tryz.zeroValue66 (sized_cons Tryz.sizeOf3 (sized_cons Tryz.sizeOf3 (sized_cons Tryz.sizeOf3 sized_nil))) (fil_scal rfl Tryz.sizeOf3 rfl rfl (Nat.le_of_ble_eq_true rfl) SetL.eq (fil_scal rfl Tryz.sizeOf3 rfl rfl (Nat.le_of_ble_eq_true rfl) SetL.eq (fil_scal rfl Tryz.sizeOf3 rfl rfl (Nat.le_of_ble_eq_true rfl) SetL.eq fil_nil)))) ?_
        refine d_one 9 (by kernel_rfl) rfl rfl (d_allocA Tryz.zeroValue66) rfl ?_; clear hS
        rintro _ _ ⟨b6, rfl, rfl⟩
        refine ⟨(sc_own (sc_own sc_end)), fun hS => ?_⟩
        refine d_one 10 (by kernel_rfl) rfl rfl (d_storeAll Tryz.sizeOf66 rfl rfl rfl rfl rfl) rfl ?_; clear hS
        rintro _ _ rfl
        refine ⟨(sc_own (sc_own sc_end)), fun hS => ?_⟩
        refine d_done (by kernel_rfl) ?_; clear hS
        refine n_then ?_
        refine mid_intro b6 ?_ ?_ ?_
        · trivial
        · repeat (first | exact sub_nil | refine sub_cons rfl ?_)
        · exact inferInstance
      · skip
        refine dx_one rfl rfl (d_allocA Tryz.zeroValue66) rfl ?_; clear hS
        rintro _ _ ⟨b6, rfl, rfl⟩
        refine ⟨(sc_own (sc_own sc_end)), fun hS => ?_⟩
        refine d_one 7 (by kernel_rfl) rfl rfl (d_call3 Tryz.call123 rfl (mmGiven_spec W0 _ hK bm pv bt bs ps pm 0 s.on s.r s.p pg h.P)) rfl ?_; clear hS
        rintro _ B_ ⟨rfl, hB_⟩
        subst hB_
        rw [hgv]
        refine ⟨(sc_own (sc_own sc_end)), fun hS => ?_⟩
        refine d_take 8 rfl rfl (by kernel_rfl) (by kernel_rfl) (by kernel_rfl) rfl hS (v_build Tryz.underlying66 Tryz.zeroValue66 (sized_cons Tryz.sizeOf3 (sized_cons Tryz.sizeOf3 (sized_cons Tryz.sizeOf3 sized_nil))) (fil_scal rfl Tryz.sizeOf3 rfl rfl (Nat.le_of_ble_eq_true rfl) SetL.eq (fil_scal rfl Tryz.sizeOf3 rfl rfl (Nat.le_of_ble_eq_true rfl) SetL.eq (fil_scal rfl Tryz.sizeOf3 rfl rfl (Nat.le_of_ble_eq_true rfl) SetL.eq fil_nil)))) ?_
        refine d_one 10 (by kernel_rfl) rfl rfl (d_storeAll Tryz.sizeOf66 rfl rfl rfl rfl rfl) rfl ?_; clear hS
        rintro _ _ rfl
        refine ⟨(sc_own (sc_own sc_end)), fun hS => ?_⟩
        refine d_done (by kernel_rfl) ?_; clear hS
        refine n_then ?_
        refine mid_intro b6 ?_ ?_ ?_
        · trivial
        · repeat (first | exact sub_nil | refine sub_cons rfl ?_)
        · exact inferInstance
    · intro b6 _
      refine x_seq ?_
      refine x_draw [(bm, 0, _), (ba, 0, _), (b6, 0, _), (b5, 0, _)] 17 mixed rfl (sc_own (sc_own (sc_own (sc_own sc_end)))) (fun hS => ?_)
      refine d_take 0 rfl rfl (by kernel_rfl) (by kernel_rfl) (by kernel_rfl) rfl hS (v_move rfl) ?_
      refine d_take 1 rfl rfl (by kernel_rfl) (by kernel_rfl) (by kernel_rfl) rfl hS (v_nilCheck rfl) ?_
      refine d_take 2 rfl rfl (by kernel_rfl) (by kernel_rfl) (by kernel_rfl) rfl hS (v_fieldAddr rfl Tryz.underlying97 rfl Tryz.sizeOf95 rfl (by first | exact Nat.zero_add _ | rfl)) ?_
      refine d_take 3 rfl rfl (by kernel_rfl) (by kernel_rfl) (by kernel_rfl) rfl hS (v_load Tryz.isAgg95 rfl (by first | exact cell_sc0 (k := 0) rfl rfl | exact cell_sc0 (k := 1) rfl rfl | exact cell_sc0 (k := 2) rfl rfl | exact cell_sc0 (k := 3) rfl rfl)) ?_
      refine d_take 4 rfl rfl (by kernel_rfl) (by kernel_rfl) (by kernel_rfl) rfl hS (v_move rfl) ?_
      refine d_take 6 rfl rfl (by kernel_rfl) (by kernel_rfl) (by kernel_rfl) rfl hS (v_loadAgg Tryz.isAgg66 Tryz.sizeOf66 rfl (by first | exact cells_sc (k := 0) rfl | exact cells_sc (k := 1) rfl | exact cells_sc (k := 2) rfl | exact cells_sc (k := 3) rfl) rfl) ?_
      refine d_take 7 rfl rfl (by kernel_rfl) (by kernel_rfl) (by kernel_rfl) rfl hS (v_fieldAddr rfl Tryz.underlying122 rfl Tryz.sizeOf3 rfl (by first | exact Nat.zero_add _ | rfl)) ?_
      refine d_take 8 rfl rfl (by kernel_rfl) (by kernel_rfl) (by kernel_rfl) rfl hS (v_load Tryz.isAgg3 rfl (by first | exact cell_sc0 (k := 0) rfl rfl | exact cell_sc0 (k := 1) rfl rfl | exact cell_sc0 (k := 2) rfl rfl | exact cell_sc0 (k := 3) rfl rfl)) ?_
      refine d_take 9 rfl rfl (by kernel_rfl) (by kernel_rfl) (by kernel_rfl) rfl hS (v_fieldAddr rfl Tryz.underlying122 rfl Tryz.sizeOf3 rfl (by first | exact Nat.zero_add _ | rfl)) ?_
      refine d_take 10 rfl rfl (by kernel_rfl) (by kernel_rfl) (by kernel_rfl) rfl hS (v_load Tryz.isAgg3 rfl (by first | exact cell_sc0 (k := 0) rfl rfl | exact cell_sc0 (k := 1) rfl rfl | exact cell_sc0 (k := 2) rfl rfl | exact cell_sc0 (k := 3) rfl rfl)) ?_
      refine d_one 5 (by kernel_rfl) rfl rfl (d_call1 Tryz.call76 rfl (asKey_spec W0 _ ba bm on root user va hva kind)) rfl ?_; clear hS
      rintro _ B_ ⟨rfl, hB_⟩
      obtain rfl := hB_.symm
      refine ⟨(sc_own (sc_own (sc_own (sc_own sc_end)))), fun hS => ?_⟩
      refine d_one 11 (by kernel_rfl) rfl rfl (d_call1 Tryz.call124 rfl (shFill_spec W0 _ bs L hll h.ei (vaK root va) (s.p, f, gv) hei s.root s.leaf ho1 ho2)) rfl ?_; clear hS
      rintro _ B_ ⟨af, cf, rfl, hB_⟩
      subst hB_
      rw [hL2, hfs]
      refine ⟨(sc_own (sc_own (sc_own (sc_own sc_end)))), fun hS => ?_⟩
      refine d_take 12 rfl rfl (by kernel_rfl) (by kernel_rfl) (by kernel_rfl) rfl hS (v_move rfl) ?_
      refine d_take 13 rfl rfl (by kernel_rfl) (by kernel_rfl) (by kernel_rfl) rfl hS (v_extract rfl rfl) ?_
      refine d_take 14 rfl rfl (by kernel_rfl) (by kernel_rfl) (by kernel_rfl) rfl hS (v_extract rfl rfl) ?_
      refine d_take 15 rfl rfl (by kernel_rfl) (by kernel_rfl) (by kernel_rfl) rfl hS (v_assign rfl) ?_
      refine d_take 16 rfl rfl (by kernel_rfl) (by kernel_rfl) (by kernel_rfl) rfl hS (v_assign rfl) ?_
      refine d_done (by kernel_rfl) ?_; clear hS
      refine n_then (x_seq (x_seq (x_region (s_val rfl (v_move rfl) (s_val rfl (v_neq rfl rfl) (x_nil (n_then ?_)))))))
      refine x_if rfl ?_ ?_
      · intro c5
        exact absurd rfl c5
      · intro c5
        refine x_skip (n_then (x_seq (x_seq (x_region (s_val rfl (v_move rfl) (s_val rfl (v_len_slice Tryz.underlying141 rfl) (s_val rfl (v_move rfl) (x_nil (n_then (x_block ?_))))))))))
        refine x_loop (fun i : Nat => i ≤ fs.length) (fun i => [(0, .pointer (some ⟨ba, 0, none⟩)), (4, .pointer (some ⟨bm, 0, none⟩)), (57, .slice af fs.length cf), (58, .int .i64 (fs.length : Nat)), (59, .int .i64 i)]) (fun i => pt ba (asO bm on root user va kind) :: pt bm (mmO pv bt bs) :: rowH bt (narL (fs.take i) its, tlV room now) :: shH bs L2 :: osl 3 1 (.slice af fs.length cf) (fs.flatMap iI) :: vwW pv ps pm 0 fr pg R) (fun i => fs.length - i) 0 ?_ ?_ ?_ ?_
        · exact Nat.zero_le _
        · repeat (first | exact sub_nil | refine sub_cons rfl ?_)
        · rw [show narL (fs.take 0) its = its from rfl]
          exact inferInstance
        · intro i hi
          refine x_seq (x_region (s_val rfl (v_lss rfl rfl) (x_nil (n_then (x_seq ?_)))))
          refine x_if rfl ?_ ?_
          · intro c7
            refine x_skip (n_then (x_seq (x_block (x_seq ?_))))
            have hi1 : i < fs.length := by omega
            refine run_sla (E := 3) (sz := 1) (a := af) (c := cf) (n := fs.length) iI fs (fun _ => rfl) (by decide) rfl (fun hs => ?_)
            obtain ⟨g, o, hga, hc⟩ := hs.at_ hi1
            obtain ⟨q, hq⟩ : ∃ q, fs[i] = q := ⟨_, rfl⟩
            have htk : fs.take (i + 1) = fs.take i ++ [q] := by rw [List.take_succ_eq_append_getElem hi1, hq]
            have hNs : narL (fs.take (i + 1)) its = (narL (fs.take i) its).map (narI q) := by rw [htk, narL_snoc]
            have hN1 := hNl (fs.take i)
            have hN2 := hNi (fs.take i)
            rw [hq] at hc
            refine x_region ?_
            refine s_val rfl (v_idxA Tryz.underlying141 Tryz.sizeOf3 rfl hga rfl rfl hi1 (by first | exact Nat.zero_add _ | rfl)) ?_
            refine s_val rfl (v_load Tryz.isAgg3 rfl (Cells.weak hc 0 _ rfl)) ?_
            refine s_val rfl (v_assign rfl) (x_nil (n_then (x_region (s_val rfl (v_move rfl) (s_val rfl (v_nilCheck rfl) ?_)))))
            refine s_val rfl (v_fieldAddr rfl Tryz.underlying97 rfl Tryz.sizeOf94 rfl (by first | exact Nat.zero_add _ | rfl)) ?_
            refine s_val rfl (v_load Tryz.isAgg94 rfl (cell_own rfl)) ?_
            refine s_val rfl (v_move rfl) ?_
            refine s_do rfl (d_call1 Tryz.call125 rfl (Narrow_spec18 W0 _ bt (narL (fs.take i) its) (.int .i64 room) (.int .i64 now) q (by omega) hN2)) ?_
            rintro _ B_ ⟨rfl, hB_⟩
            obtain rfl := hB_.symm
            refine x_nil (n_block (n_then (x_region ?_)))
            refine s_val rfl (v_add rfl rfl (by first | exact w64 (by omega) | rfl)) ?_
            refine s_val rfl (v_move rfl) (x_nil (n_then ?_))
            refine inv_intro (i + 1) ?_ ?_ ?_ ?_
            · omega
            · omega
            · repeat (first | exact sub_nil | refine sub_cons rfl ?_)
            · rw [hNs]
              exact inferInstance
          · intro c7
            refine x_exit (e_then (e_then (e_block (n_then (x_seq (x_seq ?_))))))
            obtain rfl : i = fs.length := by omega
            have hR3 := hRn (fs.take fs.length)
            have hN3 := hNt (fs.take fs.length)
            rw [List.take_length] at hR3 hN3 ⊢
            refine x_draw [(bm, 0, _), (ba, 0, _)] 13 mixed rfl (sc_own (sc_own sc_end)) (fun hS => ?_)
            refine d_take 0 rfl rfl (by kernel_rfl) (by kernel_rfl) (by kernel_rfl) rfl hS (v_move rfl) ?_
            refine d_take 1 rfl rfl (by kernel_rfl) (by kernel_rfl) (by kernel_rfl) rfl hS (v_nilCheck rfl) ?_
            refine d_take 2 rfl rfl (by kernel_rfl) (by kernel_rfl) (by kernel_rfl) rfl hS (v_fieldAddr rfl Tryz.underlying97 rfl Tryz.sizeOf95 rfl (by first | exact Nat.zero_add _ | rfl)) ?_
            refine d_take 3 rfl rfl (by kernel_rfl) (by kernel_rfl) (by kernel_rfl) rfl hS (v_load Tryz.isAgg95 rfl (by first | exact cell_sc0 (k := 0) rfl rfl | exact cell_sc0 (k := 1) rfl rfl)) ?_
            refine d_take 4 rfl rfl (by kernel_rfl) (by kernel_rfl) (by kernel_rfl) rfl hS (v_move rfl) ?_
            refine d_all (is := [5, 10]) (by kernel_rfl) rfl ⟨?_, ?_, trivial⟩
            · skip
              refine dx_one rfl rfl (d_call1 Tryz.call76 rfl (asKey_spec W0 _ ba bm on root user va hva kind)) rfl ?_; clear hS
              rintro _ B_ ⟨rfl, hB_⟩
              obtain rfl := hB_.symm
              refine ⟨(sc_own (sc_own sc_end)), fun hS => ?_⟩
              refine d_all (is := [6, 10]) (by kernel_rfl) rfl ⟨?_, ?_, trivial⟩
              · skip
                refine dx_one rfl rfl (d_call1 Tryz.call79 rfl (shGet_spec W0 _ bs L2 (by omega) (vaK root va))) rfl ?_; clear hS
                rintro _ B_ ⟨rfl, hB_⟩
                subst hB_
                rw [shGV_eq, hgn]
                refine ⟨(sc_own (sc_own sc_end)), fun hS => ?_⟩
                refine d_take 7 rfl rfl (by kernel_rfl) (by kernel_rfl) (by kernel_rfl) rfl hS (v_move rfl) ?_
                refine d_take 8 rfl rfl (by kernel_rfl) (by kernel_rfl) (by kernel_rfl) rfl hS (v_extract rfl rfl) ?_
                refine d_take 9 rfl rfl (by kernel_rfl) (by kernel_rfl) (by kernel_rfl) rfl hS (v_extract rfl rfl) ?_
                refine d_one 10 (by kernel_rfl) rfl rfl (d_allocA Tryz.zeroValue66) rfl ?_; clear hS
                rintro _ _ ⟨b11, rfl, rfl⟩
                refine ⟨(sc_own (sc_own sc_end)), fun hS => ?_⟩
                refine d_one 11 (by kernel_rfl) rfl rfl (d_storeAll Tryz.sizeOf66 rfl rfl rfl rfl rfl) rfl ?_; clear hS
                rintro _ _ rfl
                refine ⟨(sc_own (sc_own sc_end)), fun hS => ?_⟩
                refine d_take 12 rfl rfl (by kernel_rfl) (by kernel_rfl) (by kernel_rfl) rfl hS (v_assign rfl) ?_
                refine d_done (by kernel_rfl) ?_; clear hS
                refine n_then (x_seq (x_region (s_val rfl (v_move rfl) (x_nil (n_then ?_)))))
                refine x_if rfl ?_ ?_
                · intro c12
                  refine x_draw [(bm, 0, _), (ba, 0, _), (b11, 0, _)] 8 mixed rfl (sc_own (sc_own (sc_own sc_end))) (fun hS => ?_)
                  refine d_take 0 rfl rfl (by kernel_rfl) (by kernel_rfl) (by kernel_rfl) rfl hS (v_move rfl) ?_
                  refine d_take 1 rfl rfl (by kernel_rfl) (by kernel_rfl) (by kernel_rfl) rfl hS (v_nilCheck rfl) ?_
                  refine d_take 2 rfl rfl (by kernel_rfl) (by kernel_rfl) (by kernel_rfl) rfl hS (v_fieldAddr rfl Tryz.underlying97 rfl Tryz.sizeOf94 rfl (by first | exact Nat.zero_add _ | rfl)) ?_
                  refine d_take 3 rfl rfl (by kernel_rfl) (by kernel_rfl) (by kernel_rfl) rfl hS (v_load Tryz.isAgg94 rfl (by first | exact cell_sc0 (k := 0) rfl rfl | exact cell_sc0 (k := 1) rfl rfl | exact cell_sc0 (k := 2) rfl rfl)) ?_
                  refine d_take 4 rfl rfl (by kernel_rfl) (by kernel_rfl) (by kernel_rfl) rfl hS (v_move rfl) ?_
                  refine d_take 6 rfl rfl (by kernel_rfl) (by kernel_rfl) (by kernel_rfl) rfl hS (v_loadAgg Tryz.isAgg66 Tryz.sizeOf66 rfl (by first | exact cells_sc (k := 0) rfl | exact cells_sc (k := 1) rfl | exact cells_sc (k := 2) rfl) rfl) ?_
                  refine d_one 5 (by kernel_rfl) rfl rfl (d_call1 Tryz.call76 rfl (asKey_spec W0 _ ba bm on root user va hva kind)) rfl ?_; clear hS
                  rintro _ B_ ⟨rfl, hB_⟩
                  obtain rfl := hB_.symm
                  refine ⟨(sc_own (sc_own (sc_own sc_end))), fun hS => ?_⟩
                  refine d_one 7 (by kernel_rfl) rfl rfl (d_call1 Tryz.call80 rfl (Put_spec18 W0 _ bt (narL fs its) room now (narL fs T) (vaK root va) z.e hR3 (by omega) hr hn)) rfl ?_; clear hS
                  rintro _ B_ ⟨rfl, its2, hB_, hR2⟩
                  subst hB_
                  have hpl := putL_len (now := now) (k := vaK root va) (e := z.e) (show (narL fs T).length ≤ room by omega)
                  refine ⟨(sc_own (sc_own (sc_own sc_end))), fun hS => ?_⟩
                  refine d_done (by kernel_rfl) ?_; clear hS
                  refine n_then (x_region (s_val rfl (v_move rfl) (s_do rfl (d_call3 Tryz.call126 rfl (mmTrim_spec W0 _ bm pv bt bs its2 (.int .i64 room) (.int .i64 ((now + 1 : Nat) : Int)) (now + 1) room _ L2 hR2 hpl hr hl2)) ?_)))
                  rintro _ B_ ⟨rfl, its3, T3, hB_, hR4, hT4, hI4⟩
                  subst hB_
                  refine x_nil (x_done (.inr rfl) .nil ?_)
                  exact ⟨_, ⟨rfl, its3, T3, L2, now + 1, hR4, hT4, hfl T3 hI4, by omega, ⟨z, hzm.1, hzm.2, hze⟩, rfl⟩, inferInstance⟩
                · intro c12
                  exact absurd rfl c12
              · skip
                refine dx_one rfl rfl (d_allocA Tryz.zeroValue66) rfl ?_; clear hS
                rintro _ _ ⟨b11, rfl, rfl⟩
                refine ⟨(sc_own (sc_own sc_end)), fun hS => ?_⟩
                refine d_one 6 (by kernel_rfl) rfl rfl (d_call1 Tryz.call79 rfl (shGet_spec W0 _ bs L2 (by omega) (vaK root va))) rfl ?_; clear hS
                rintro _ B_ ⟨rfl, hB_⟩
                subst hB_
                rw [shGV_eq, hgn]
                refine ⟨(sc_own (sc_own sc_end)), fun hS => ?_⟩
                refine d_take 7 rfl rfl (by kernel_rfl) (by kernel_rfl) (by kernel_rfl) rfl hS (v_move rfl) ?_
                refine d_take 8 rfl rfl (by kernel_rfl) (by kernel_rfl) (by kernel_rfl) rfl hS (v_extract rfl rfl) ?_
                refine d_take 9 rfl rfl (by kernel_rfl) (by kernel_rfl) (by kernel_rfl) rfl hS (v_extract rfl rfl) ?_
                refine d_one 11 (by kernel_rfl) rfl rfl (d_storeAll Tryz.sizeOf66 rfl rfl rfl rfl rfl) rfl ?_; clear hS
                rintro _ _ rfl
                refine ⟨(sc_own (sc_own sc_end)), fun hS => ?_⟩
                refine d_take 12 rfl rfl (by kernel_rfl) (by kernel_rfl) (by kernel_rfl) rfl hS (v_assign rfl) ?_
                refine d_done (by kernel_rfl) ?_; clear hS
                refine n_then (x_seq (x_region (s_val rfl (v_move rfl) (x_nil (n_then ?_)))))
                refine x_if rfl ?_ ?_
                · intro c12
                  refine x_draw [(bm, 0, _), (ba, 0, _), (b11, 0, _)] 8 mixed rfl (sc_own (sc_own (sc_own sc_end))) (fun hS => ?_)
                  refine d_take 0 rfl rfl (by kernel_rfl) (by kernel_rfl) (by kernel_rfl) rfl hS (v_move rfl) ?_
                  refine d_take 1 rfl rfl (by kernel_rfl) (by kernel_rfl) (by kernel_rfl) rfl hS (v_nilCheck rfl) ?_
                  refine d_take 2 rfl rfl (by kernel_rfl) (by kernel_rfl) (by kernel_rfl) rfl hS (v_fieldAddr rfl Tryz.underlying97 rfl Tryz.sizeOf94 rfl (by first | exact Nat.zero_add _ | rfl)) ?_
                  refine d_take 3 rfl rfl (by kernel_rfl) (by kernel_rfl) (by kernel_rfl) rfl hS (v_load Tryz.isAgg94 rfl (by first | exact cell_sc0 (k := 0) rfl rfl | exact cell_sc0 (k := 1) rfl rfl | exact cell_sc0 (k := 2) rfl rfl)) ?_
                  refine d_take 4 rfl rfl (by kernel_rfl) (by kernel_rfl) (by kernel_rfl) rfl hS (v_move rfl) ?_
                  refine d_take 6 rfl rfl (by kernel_rfl) (by kernel_rfl) (by kernel_rfl) rfl hS (v_loadAgg Tryz.isAgg66 Tryz.sizeOf66 rfl (by first | exact cells_sc (k := 0) rfl | exact cells_sc (k := 1) rfl | exact cells_sc (k := 2) rfl) rfl) ?_
                  refine d_one 5 (by kernel_rfl) rfl rfl (d_call1 Tryz.call76 rfl (asKey_spec W0 _ ba bm on root user va hva kind)) rfl ?_; clear hS
                  rintro _ B_ ⟨rfl, hB_⟩
                  obtain rfl := hB_.symm
                  refine ⟨(sc_own (sc_own (sc_own sc_end))), fun hS => ?_⟩
                  refine d_one 7 (by kernel_rfl) rfl rfl (d_call1 Tryz.call80 rfl (Put_spec18 W0 _ bt (narL fs its) room now (narL fs T) (vaK root va) z.e hR3 (by omega) hr hn)) rfl ?_; clear hS
                  rintro _ B_ ⟨rfl, its2, hB_, hR2⟩
                  subst hB_
                  have hpl := putL_len (now := now) (k := vaK root va) (e := z.e) (show (narL fs T).length ≤ room by omega)
                  refine ⟨(sc_own (sc_own (sc_own sc_end))), fun hS => ?_⟩
                  refine d_done (by kernel_rfl) ?_; clear hS
                  refine n_then (x_region (s_val rfl (v_move rfl) (s_do rfl (d_call3 Tryz.call126 rfl (mmTrim_spec W0 _ bm pv bt bs its2 (.int .i64 room) (.int .i64 ((now + 1 : Nat) : Int)) (now + 1) room _ L2 hR2 hpl hr hl2)) ?_)))
                  rintro _ B_ ⟨rfl, its3, T3, hB_, hR4, hT4, hI4⟩
                  subst hB_
                  refine x_nil (x_done (.inr rfl) .nil ?_)
                  exact ⟨_, ⟨rfl, its3, T3, L2, now + 1, hR4, hT4, hfl T3 hI4, by omega, ⟨z, hzm.1, hzm.2, hze⟩, rfl⟩, inferInstance⟩
                · intro c12
                  exact absurd rfl c12
            · skip
              refine dx_one rfl rfl (d_allocA Tryz.zeroValue66) rfl ?_; clear hS
              rintro _ _ ⟨b11, rfl, rfl⟩
              refine ⟨(sc_own (sc_own sc_end)), fun hS => ?_⟩
              refine d_one 5 (by kernel_rfl) rfl rfl (d_call1 Tryz.call76 rfl (asKey_spec W0 _ ba bm on root user va hva kind)) rfl ?_; clear hS
              rintro _ B_ ⟨rfl, hB_⟩
              obtain rfl := hB_.symm
              refine ⟨(sc_own (sc_own sc_end)), fun hS => ?_⟩
              refine d_one 6 (by kernel_rfl) rfl rfl (d_call1 Tryz.call79 rfl (shGet_spec W0 _ bs L2 (by omega) (vaK root va))) rfl ?_; clear hS
              rintro _ B_ ⟨rfl, hB_⟩
              subst hB_
              rw [shGV_eq, hgn]
              refine ⟨(sc_own (sc_own sc_end)), fun hS => ?_⟩
              refine d_take 7 rfl rfl (by kernel_rfl) (by kernel_rfl) (by kernel_rfl) rfl hS (v_move rfl) ?_
              refine d_take 8 rfl rfl (by kernel_rfl) (by kernel_rfl) (by kernel_rfl) rfl hS (v_extract rfl rfl) ?_
              refine d_take 9 rfl rfl (by kernel_rfl) (by kernel_rfl) (by kernel_rfl) rfl hS (v_extract rfl rfl) ?_
              refine d_one 11 (by kernel_rfl) rfl rfl (d_storeAll Tryz.sizeOf66 rfl rfl rfl rfl rfl) rfl ?_; clear hS
              rintro _ _ rfl
              refine ⟨(sc_own (sc_own sc_end)), fun hS => ?_⟩
              refine d_take 12 rfl rfl (by kernel_rfl) (by kernel_rfl) (by kernel_rfl) rfl hS (v_assign rfl) ?_
              refine d_done (by kernel_rfl) ?_; clear hS
              refine n_then (x_seq (x_region (s_val rfl (v_move rfl) (x_nil (n_then ?_)))))
              refine x_if rfl ?_ ?_
              · intro c12
                refine x_draw [(bm, 0, _), (ba, 0, _), (b11, 0, _)] 8 mixed rfl (sc_own (sc_own (sc_own sc_end))) (fun hS => ?_)
                refine d_take 0 rfl rfl (by kernel_rfl) (by kernel_rfl) (by kernel_rfl) rfl hS (v_move rfl) ?_
                refine d_take 1 rfl rfl (by kernel_rfl) (by kernel_rfl) (by kernel_rfl) rfl hS (v_nilCheck rfl) ?_
                refine d_take 2 rfl rfl (by kernel_rfl) (by kernel_rfl) (by kernel_rfl) rfl hS (v_fieldAddr rfl Tryz.underlying97 rfl Tryz.sizeOf94 rfl (by first | exact Nat.zero_add _ | rfl)) ?_
                refine d_take 3 rfl rfl (by kernel_rfl) (by kernel_rfl) (by kernel_rfl) rfl hS (v_load Tryz.isAgg94 rfl (by first | exact cell_sc0 (k := 0) rfl rfl | exact cell_sc0 (k := 1) rfl rfl | exact cell_sc0 (k := 2) rfl rfl)) ?_
                refine d_take 4 rfl rfl (by kernel_rfl) (by kernel_rfl) (by kernel_rfl) rfl hS (v_move rfl) ?_
                refine d_take 6 rfl rfl (by kernel_rfl) (by kernel_rfl) (by kernel_rfl) rfl hS (v_loadAgg Tryz.isAgg66 Tryz.sizeOf66 rfl (by first | exact cells_sc (k := 0) rfl | exact cells_sc (k := 1) rfl | exact cells_sc (k := 2) rfl) rfl) ?_
                refine d_one 5 (by kernel_rfl) rfl rfl (d_call1 Tryz.call76 rfl (asKey_spec W0 _ ba bm on root user va hva kind)) rfl ?_; clear hS
                rintro _ B_ ⟨rfl, hB_⟩
                obtain rfl := hB_.symm
                refine ⟨(sc_own (sc_own (sc_own sc_end))), fun hS => ?_⟩
                refine d_one 7 (by kernel_rfl) rfl rfl (d_call1 Tryz.call80 rfl (Put_spec18 W0 _ bt (narL fs its) room now (narL fs T) (vaK root va) z.e hR3 (by omega) hr hn)) rfl ?_; clear hS
                rintro _ B_ ⟨rfl, its2, hB_, hR2⟩
                subst hB_
                have hpl := putL_len (now := now) (k := vaK root va) (e := z.e) (show (narL fs T).length ≤ room by omega)
                refine ⟨(sc_own (sc_own (sc_own sc_end))), fun hS => ?_⟩
                refine d_done (by kernel_rfl) ?_; clear hS
                refine n_then (x_region (s_val rfl (v_move rfl) (s_do rfl (d_call3 Tryz.call126 rfl (mmTrim_spec W0 _ bm pv bt bs its2 (.int .i64 room) (.int .i64 ((now + 1 : Nat) : Int)) (now + 1) room _ L2 hR2 hpl hr hl2)) ?_)))
                rintro _ B_ ⟨rfl, its3, T3, hB_, hR4, hT4, hI4⟩
                subst hB_
                refine x_nil (x_done (.inr rfl) .nil ?_)
                exact ⟨_, ⟨rfl, its3, T3, L2, now + 1, hR4, hT4, hfl T3 hI4, by omega, ⟨z, hzm.1, hzm.2, hze⟩, rfl⟩, inferInstance⟩
              · intro c12
                exact absurd rfl c12
end Go.Proofs.YtllkdnadmmjehaaGreatDoor
namespace Go.Proofs.YtllkdnadmmjehaaGreatDoor
open Go.RowKit
set_option linter.unusedSimpArgs false
set_option linter.unusedVariables false
section
variable {P : Program} {W0 : World} {N : FSz} {e : Env} {A R R1 R2 R3 R4 R5 R6 R7 : List HP} {vs us cs : List Value}
variable {K1 K2 K3 K4 K5 K6 K7 K8 X1 X2 X3 X4 X5 X6 X7 X8 : Type} {r1 : K1 → X1 → HP} {b1 : K1} {x1 : X1} {r2 : K2 → X2 → HP} {b2 : K2} {x2 : X2} {r3 : K3 → X3 → HP} {b3 : K3} {x3 : X3} {r4 : K4 → X4 → HP} {b4 : K4} {x4 : X4} {r5 : K5 → X5 → HP} {b5 : K5} {x5 : X5} {r6 : K6 → X6 → HP} {b6 : K6} {x6 : X6} {r7 : K7 → X7 → HP} {b7 : K7} {x7 : X7} {r8 : K8 → X8 → HP} {b8 : K8} {x8 : X8}
theorem perm7 [h1 : Tk r1 b1 A x1 R1] [h2 : Tk r2 b2 R1 x2 R2] [h3 : Tk r3 b3 R2 x3 R3] [h4 : Tk r4 b4 R3 x4 R4] [h5 : Tk r5 b5 R4 x5 R5] [h6 : Tk r6 b6 R5 x6 R6] [h7 : Tk r7 b7 R6 x7 R] : A.Perm (r1 b1 x1 :: r2 b2 x2 :: r3 b3 x3 :: r4 b4 x4 :: r5 b5 x5 :: r6 b6 x6 :: r7 b7 x7 :: R) := h1.perm.trans (perm6.cons _)
theorem perm8 [h1 : Tk r1 b1 A x1 R1] [h2 : Tk r2 b2 R1 x2 R2] [h3 : Tk r3 b3 R2 x3 R3] [h4 : Tk r4 b4 R3 x4 R4] [h5 : Tk r5 b5 R4 x5 R5] [h6 : Tk r6 b6 R5 x6 R6] [h7 : Tk r7 b7 R6 x7 R7] [h8 : Tk r8 b8 R7 x8 R] : A.Perm (r1 b1 x1 :: r2 b2 x2 :: r3 b3 x3 :: r4 b4 x4 :: r5 b5 x5 :: r6 b6 x6 :: r7 b7 x7 :: r8 b8 x8 :: R) := h1.perm.trans (perm7.cons _)
variable {f : FuncId} {xs : Array Operand} {ats : Array TypeId} {Post : Value → List HP → Prop}
theorem d_call7 (hc : ∀ args w, (callFunc f args).run P w = .ok (.enter f args) w) (hx : evs e xs.toList = some vs)
    (hs : Spec P W0 f vs (r1 b1 x1 :: r2 b2 x2 :: r3 b3 x3 :: r4 b4 x4 :: r5 b5 x5 :: r6 b6 x6 :: r7 b7 x7 :: R) Post) [h1 : Tk r1 b1 A x1 R1] [h2 : Tk r2 b2 R1 x2 R2] [h3 : Tk r3 b3 R2 x3 R3] [h4 : Tk r4 b4 R3 x4 R4] [h5 : Tk r5 b5 R4 x5 R5] [h6 : Tk r6 b6 R5 x6 R6] [h7 : Tk r7 b7 R6 x7 R] : Does P W0 N e A (.call { callee := .value (.func f), args := xs, argTypes := ats }) Post :=
  does_perm perm7 (d_call hc hx hs)
end
end Go.Proofs.YtllkdnadmmjehaaGreatDoor
namespace Go.Proofs.YtllkdnadmmjehaaGreatDoor
open Go.RowKit
set_option linter.unusedSimpArgs false
set_option linter.unusedVariables false
set_option maxRecDepth 20000
theorem pa_div (k va : Nat) : (64 * k + va % 64) / 64 = k ∧ (64 * k + va % 64) % 64 = va % 64 := by omega
structure FnOk (fr : List Frm) (pg : List Pl) (root : Int) (user : Bool) (va : Nat) (kind : Int) : Prop where
  wk : WkOk fr pg root va
  th : thereB pg (wkR fr pg root va).p = true
  P : fnwX fndP fr pg true root user va kind = (wkR fr pg root va).p
  F : fnwX fndF fr pg true root user va kind = (gGot pg (wkR fr pg root va).p).1
  O : fnwX fndO fr pg true root user va kind = ((va % 64 : Nat) : Int)
theorem fnw_ok {fr : List Frm} {pg : List Pl} {root : Int} {user : Bool} {va : Nat} {kind : Int} (h : fnwE fr pg true root user va kind = 0) : FnOk fr pg root user va kind := by
  obtain ⟨s, hs⟩ : ∃ s, wkR fr pg root va = s := ⟨_, rfl⟩
  obtain ⟨k, hk, hk32⟩ := wkR_p fr pg root va
  unfold fnwE at h
  rw [if_pos rfl, hs] at h
  by_cases h1 : s.fault ≠ 0
  · rw [if_pos h1] at h; exact absurd h h1
  rw [if_neg h1] at h
  by_cases h2 : alwT s kind user = true
  case neg => rw [if_neg h2] at h; exact absurd h (by decide)
  rw [if_pos h2] at h
  rw [hs] at hk
  have hpa : wkPa s va = 64 * k + va % 64 := by rw [wkPa, hk]; rfl
  obtain ⟨p1, p2⟩ := pa_div k va
  have hth : thereB pg s.p = true := by
    rw [hk]
    unfold fndE at h
    rw [hpa, p1] at h
    split at h
    · split at h
      · split at h
        · rename_i q
          unfold alwE at q
          split at q
          · assumption
          · exact absurd q (by decide)
        · rename_i q; exact absurd h q
      · exact absurd h (by decide)
    · exact absurd h (by decide)
  have hX : ∀ g, fnwX g fr pg true root user va kind = g fr.length pg (wkPa s va) 1 kind := fun g => by
    unfold fnwX
    rw [if_pos rfl, hs, if_neg h1, if_pos h2]
  refine ⟨wk_ok (by rw [hs]; exact Decidable.not_not.1 h1), by rw [hs]; exact hth, ?_, ?_, ?_⟩
  · rw [hX, fndP, if_pos h, hs, hpa, p1, hk]
  · rw [hX, fndF, if_pos h, hs, hpa, p1, hk]
  · rw [hX, fndO, if_pos h, hpa, p2]
theorem fast_ok {fr : List Frm} {pg : List Pl} {L : List Ln} {T : List It} (h : MOk fr pg 0 L T) {x : Ln} (hx : x ∈ L) {root : Int} {user : Bool} {va : Nat} {kind : Int} (hv : va < 16384) (hk : x.k = vaK root va) (hm : mayB20 x.e kind user = true) :
    fnwE fr pg true root user va kind = 0 ∧ fnwX fndP fr pg true root user va kind = x.e.1 ∧ fnwX fndF fr pg true root user va kind = x.e.2.1 ∧ fnwX fndO fr pg true root user va kind = ((va % 64 : Nat) : Int) := by
  have hl := h.ln x hx
  obtain ⟨q1, q2, q3, q4, q5, q6⟩ := hl.wk (by simp) (by simp) va hv (by rw [hk]; rfl)
  have hr : x.k.1 = root := by rw [hk]; rfl
  rw [hr] at q1 q4 q5 q6
  obtain ⟨s, hs⟩ : ∃ s, wkR fr pg root va = s := ⟨_, rfl⟩
  obtain ⟨k, hkk, hk32⟩ := wkR_p fr pg root va
  have hf0 : s.fault = 0 := by rw [← hs, q1.eq]
  rw [hs] at q4 q5 q6 hkk
  have hpa : wkPa s va = 64 * k + va % 64 := by rw [wkPa, hkk]; rfl
  obtain ⟨p1, p2⟩ := pa_div k va
  have hep : x.e.1 = (k : Int) := by rw [← q5]; exact hkk
  simp only [mayB20, Bool.and_eq_true, Bool.and_true] at hm
  obtain ⟨m1, m2, m3⟩ := hm
  have hnr : needR kind = 1 ∨ needR kind = 2 ∨ needR kind = 4 ∨ needR kind = 8 := by
    unfold needR
    rcases of_decide_eq_true m1 with rfl | rfl | rfl
    · exact .inr (.inr (.inl rfl))
    · exact .inl rfl
    · exact .inr (.inl rfl)
  have hal : alwT s kind user = true := by
    simp only [alwT, Bool.and_eq_true]
    refine ⟨⟨m1, q6 _ hnr m2, ?_⟩, q4⟩
    cases user with
    | false => rfl
    | true =>
      rw [Bool.not_true, Bool.false_or] at m3 ⊢
      exact q6 8 (.inr (.inr (.inr rfl))) m3
  have hth := hl.at_.1
  rw [hep] at hth
  obtain ⟨n, hn, hn12, hgp⟩ := got_pl h.pl hth
  obtain rfl : k = n := by omega
  have hE : fndE fr.length pg (wkPa s va) 1 kind = 0 := by
    unfold fndE
    rw [hpa, p1, if_pos (by unfold alB; exact decide_eq_true ⟨.inl rfl, by omega⟩), if_pos (by omega), if_pos (by rw [← hep]; exact hl.al kind m1 m2), if_pos (by rw [hgp, h.n, pl20]; dsimp only; omega)]
  have he : fnwE fr pg true root user va kind = 0 := by
    unfold fnwE
    rw [if_pos rfl, hs, if_neg (by rw [hf0]; decide), if_pos hal]; exact hE
  obtain ⟨_, _, e1, e2, e3⟩ := fnw_ok he
  rw [hs, hkk] at e1 e2
  exact ⟨he, by rw [e1, hep], by rw [e2, ← hl.at_.2, hep], e3⟩
theorem cells_mid {S : World → Prop} {b off k : Nat} {us vs : List Value} (h : Cells S b off vs) (e : (vs.drop k).take us.length = us) : Cells S b (off + k) us := fun i v hi => by
  have hlt := (List.getElem?_eq_some_iff.1 hi).1
  have := h (k + i) v (by
    rw [← e, List.getElem?_take] at hi
    rw [if_pos hlt, List.getElem?_drop] at hi
    exact hi)
  rwa [← Nat.add_assoc] at this
theorem asFill2_spec (W0 : World) (R : List HP) (hK : ∀ A, Cells (OwnP W0 A) 0 0 kdV) (ba bm pv bt bs ps pm : Nat) (on : Bool) (root : Int) (user : Bool) (va : Nat) (hva : va < 4294967296) (kind : Int) (its : List It) (room now : Nat) (T : List It) (L : List Ln) (fr : List Frm) (pg : List Pl) (hR : Rep its now T) (hT : T.length ≤ room) (hr : room ≤ 4) (hn : now < 1000000) (h : MOk fr pg 0 L T)
    (hw : WkOk fr pg root va) (hp : thereB pg (wkR fr pg root va).p = true) (p f : Int) (e1 : p = (wkR fr pg root va).p) (e2 : f = (gGot pg (wkR fr pg root va).p).1) (o : Int) (fast : Bool) :
    Spec Tryz.prog W0 81 [.pointer (some ⟨ba, 0, none⟩), .agg #[.int .i64 p, .int .i64 f, .int .i64 o, .bool fast]] (pt ba (asO bm on root user va kind) :: pt bm (mmO pv bt bs) :: rowH bt (its, tlV room now) :: shH bs L :: vwW pv ps pm 0 fr pg R)
      (fun v B => v = .tuple #[] ∧ ∃ its' T' L' now', Rep its' now' T' ∧ T'.length ≤ room ∧ MOk fr pg 0 L' T' ∧ now' ≤ now + 1 ∧ (∃ x ∈ L', x.k = vaK root va ∧ (x.e.2.2 = givR pg (wkR fr pg root va).r (wkR fr pg root va).p 3 ∨ x.e.2.2 = noW (givR pg (wkR fr pg root va).r (wkR fr pg root va).p 3))) ∧ B = pt ba (asO bm on root user va kind) :: pt bm (mmO pv bt bs) :: rowH bt (its', tlV room now') :: shH bs L' :: vwW pv ps pm 0 fr pg R) := by
  subst e1; subst e2
  exact asFill_spec W0 R hK ba bm pv bt bs ps pm on root user va hva kind its room now T L fr pg hR hT hr hn h hw hp o fast
theorem asWalk_spec (W0 : World) (R : List HP) (hK : ∀ A, Cells (OwnP W0 A) 0 0 kdV) (ba bm pv bt bs ps pm : Nat) (root : Int) (user : Bool) (va : Nat) (hva : va < 4294967296) (kind : Int) (its : List It) (room now : Nat) (T : List It) (L : List Ln) (fr : List Frm) (pg : List Pl) (hR : Rep its now T) (hT : T.length ≤ room) (hr : room ≤ 4) (hn : now < 1000000) (h : MOk fr pg 0 L T) :
    Spec Tryz.prog W0 45 [.pointer (some ⟨ba, 0, none⟩)] (pt ba (asO bm true root user va kind) :: pt bm (mmO pv bt bs) :: rowH bt (its, tlV room now) :: shH bs L :: vwW pv ps pm 0 fr pg R)
      (fun v B => v = .tuple #[.agg (fnwV fr pg true root user va kind).toArray, .int .i64 (fnwE fr pg true root user va kind)] ∧ ∃ its' T' L' now', Rep its' now' T' ∧ T'.length ≤ room ∧ MOk fr pg 0 L' T' ∧ now' ≤ now + 1 ∧ (fnwE fr pg true root user va kind = 0 → ∃ x ∈ L', x.k = vaK root va ∧ (x.e.2.2 = givR pg (wkR fr pg root va).r (wkR fr pg root va).p 3 ∨ x.e.2.2 = noW (givR pg (wkR fr pg root va).r (wkR fr pg root va).p 3))) ∧ B = pt bm (mmO pv bt bs) :: rowH bt (its', tlV room now') :: shH bs L' :: vwW pv ps pm 0 fr pg R) := by
  have hok := fun q => fnw_ok (fr := fr) (pg := pg) (root := root) (user := user) (va := va) (kind := kind) q
  refine spec_body Tryz.func45 Tryz.ntmps45 rfl rfl ?_
  refine x_seq (x_region (s_do rfl (d_allocA Tryz.zeroValue54) ?_))
  rintro _ _ ⟨b2, rfl, rfl⟩
  refine s_val rfl (v_assign rfl) (x_nil (n_then ?_))
  refine x_cut (fun b4 : Nat => True) (fun b4 => [(0, .pointer (some ⟨ba, 0, none⟩)), (2, .pointer (some ⟨b2, 0, none⟩)), (4, .pointer (some ⟨b4, 0, none⟩)), (5, .int .i64 (fnwE fr pg true root user va kind))]) (fun b4 => pt b2 (cob [.int .i64 0, .int .i64 0, .int .i64 0, .bool false] 54) :: pt b4 (cob (fnwV fr pg true root user va kind) 54) :: pt ba (asO bm true root user va kind) :: pt bm (mmO pv bt bs) :: rowH bt (its, tlV room now) :: shH bs L :: vwW pv ps pm 0 fr pg R) ?_ ?_
  · skip
    refine x_draw [(ba, 0, _), (bm, 0, _)] 26 mixed rfl (sc_own (sc_own sc_end)) (fun hS => ?_)
    refine d_take 0 rfl rfl (by kernel_rfl) (by kernel_rfl) (by kernel_rfl) rfl hS (v_move rfl) ?_
    refine d_take 1 rfl rfl (by kernel_rfl) (by kernel_rfl) (by kernel_rfl) rfl hS (v_nilCheck rfl) ?_
    refine d_take 2 rfl rfl (by kernel_rfl) (by kernel_rfl) (by kernel_rfl) rfl hS (v_fieldAddr rfl Tryz.underlying113 rfl Tryz.sizeOf24 rfl (by first | exact Nat.zero_add _ | rfl)) ?_
    refine d_take 3 rfl rfl (by kernel_rfl) (by kernel_rfl) (by kernel_rfl) rfl hS (v_load Tryz.isAgg24 rfl (by first | exact cell_sc0 (k := 0) rfl rfl | exact cell_sc0 (k := 1) rfl rfl)) ?_
    refine d_take 4 rfl rfl (by kernel_rfl) (by kernel_rfl) (by kernel_rfl) rfl hS (v_nilCheck rfl) ?_
    refine d_take 5 rfl rfl (by kernel_rfl) (by kernel_rfl) (by kernel_rfl) rfl hS (v_fieldAddr rfl Tryz.underlying97 rfl Tryz.sizeOf25 rfl (by first | exact Nat.zero_add _ | rfl)) ?_
    refine d_take 6 rfl rfl (by kernel_rfl) (by kernel_rfl) (by kernel_rfl) rfl hS (v_load Tryz.isAgg25 rfl (by first | exact cell_sc0 (k := 0) rfl rfl | exact cell_sc0 (k := 1) rfl rfl)) ?_
    refine d_take 7 rfl rfl (by kernel_rfl) (by kernel_rfl) (by kernel_rfl) rfl hS (v_move rfl) ?_
    refine d_take 8 rfl rfl (by kernel_rfl) (by kernel_rfl) (by kernel_rfl) rfl hS (v_nilCheck rfl) ?_
    refine d_take 9 rfl rfl (by kernel_rfl) (by kernel_rfl) (by kernel_rfl) rfl hS (v_fieldAddr rfl Tryz.underlying113 rfl Tryz.sizeOf30 rfl (by first | exact Nat.zero_add _ | rfl)) ?_
    refine d_take 10 rfl rfl (by kernel_rfl) (by kernel_rfl) (by kernel_rfl) rfl hS (v_loadAgg Tryz.isAgg30 Tryz.sizeOf30 rfl (cells_mid (k := 1) (us := moV true root user) (cells_sc (k := 0) rfl) rfl) rfl) ?_
    refine d_take 11 rfl rfl (by kernel_rfl) (by kernel_rfl) (by kernel_rfl) rfl hS (v_move rfl) ?_
    refine d_take 12 rfl rfl (by kernel_rfl) (by kernel_rfl) (by kernel_rfl) rfl hS (v_nilCheck rfl) ?_
    refine d_take 13 rfl rfl (by kernel_rfl) (by kernel_rfl) (by kernel_rfl) rfl hS (v_fieldAddr rfl Tryz.underlying113 rfl Tryz.sizeOf31 rfl (by first | exact Nat.zero_add _ | rfl)) ?_
    refine d_take 14 rfl rfl (by kernel_rfl) (by kernel_rfl) (by kernel_rfl) rfl hS (v_load Tryz.isAgg31 rfl (by first | exact cell_sc0 (k := 0) rfl rfl | exact cell_sc0 (k := 1) rfl rfl)) ?_
    refine d_take 15 rfl rfl (by kernel_rfl) (by kernel_rfl) (by kernel_rfl) rfl hS (v_move rfl) ?_
    refine d_take 16 rfl rfl (by kernel_rfl) (by kernel_rfl) (by kernel_rfl) rfl hS (v_nilCheck rfl) ?_
    refine d_take 17 rfl rfl (by kernel_rfl) (by kernel_rfl) (by kernel_rfl) rfl hS (v_fieldAddr rfl Tryz.underlying113 rfl Tryz.sizeOf3 rfl (by first | exact Nat.zero_add _ | rfl)) ?_
    refine d_take 18 rfl rfl (by kernel_rfl) (by kernel_rfl) (by kernel_rfl) rfl hS (v_load Tryz.isAgg3 rfl (by first | exact cell_sc0 (k := 0) rfl rfl | exact cell_sc0 (k := 1) rfl rfl)) ?_
    refine d_all (is := [19, 23]) (by kernel_rfl) rfl ⟨?_, ?_, trivial⟩
    · skip
      refine dx_one rfl rfl (d_call3 Tryz.call41 rfl (wkFind_spec W0 _ pv ps pm 0 fr pg h.P h.F true root user va hva kind)) rfl ?_; clear hS
      rintro _ B_ ⟨rfl, hB_⟩
      obtain rfl := hB_.symm
      refine ⟨(sc_own (sc_own sc_end)), fun hS => ?_⟩
      refine d_take 20 rfl rfl (by kernel_rfl) (by kernel_rfl) (by kernel_rfl) rfl hS (v_move rfl) ?_
      refine d_take 21 rfl rfl (by kernel_rfl) (by kernel_rfl) (by kernel_rfl) rfl hS (v_extract rfl rfl) ?_
      refine d_take 22 rfl rfl (by kernel_rfl) (by kernel_rfl) (by kernel_rfl) rfl hS (v_extract rfl rfl) ?_
      refine d_one 23 (by kernel_rfl) rfl rfl (d_allocA Tryz.zeroValue54) rfl ?_; clear hS
      rintro _ _ ⟨b4, rfl, rfl⟩
      refine ⟨(sc_own (sc_own sc_end)), fun hS => ?_⟩
      refine d_one 24 (by kernel_rfl) rfl rfl (d_storeAll Tryz.sizeOf54 rfl rfl rfl rfl rfl) rfl ?_; clear hS
      rintro _ _ rfl
      refine ⟨(sc_own (sc_own sc_end)), fun hS => ?_⟩
      refine d_take 25 rfl rfl (by kernel_rfl) (by kernel_rfl) (by kernel_rfl) rfl hS (v_assign rfl) ?_
      refine d_done (by kernel_rfl) ?_; clear hS
      refine n_then ?_
      refine mid_intro b4 ?_ ?_ ?_
      · trivial
      · repeat (first | exact sub_nil | refine sub_cons rfl ?_)
      · exact inferInstance
    · skip
      refine dx_one rfl rfl (d_allocA Tryz.zeroValue54) rfl ?_; clear hS
      rintro _ _ ⟨b4, rfl, rfl⟩
      refine ⟨(sc_own (sc_own sc_end)), fun hS => ?_⟩
      refine d_one 19 (by kernel_rfl) rfl rfl (d_call3 Tryz.call41 rfl (wkFind_spec W0 _ pv ps pm 0 fr pg h.P h.F true root user va hva kind)) rfl ?_; clear hS
      rintro _ B_ ⟨rfl, hB_⟩
      obtain rfl := hB_.symm
      refine ⟨(sc_own (sc_own sc_end)), fun hS => ?_⟩
      refine d_take 20 rfl rfl (by kernel_rfl) (by kernel_rfl) (by kernel_rfl) rfl hS (v_move rfl) ?_
      refine d_take 21 rfl rfl (by kernel_rfl) (by kernel_rfl) (by kernel_rfl) rfl hS (v_extract rfl rfl) ?_
      refine d_take 22 rfl rfl (by kernel_rfl) (by kernel_rfl) (by kernel_rfl) rfl hS (v_extract rfl rfl) ?_
      refine d_one 24 (by kernel_rfl) rfl rfl (d_storeAll Tryz.sizeOf54 rfl rfl rfl rfl rfl) rfl ?_; clear hS
      rintro _ _ rfl
      refine ⟨(sc_own (sc_own sc_end)), fun hS => ?_⟩
      refine d_take 25 rfl rfl (by kernel_rfl) (by kernel_rfl) (by kernel_rfl) rfl hS (v_assign rfl) ?_
      refine d_done (by kernel_rfl) ?_; clear hS
      refine n_then ?_
      refine mid_intro b4 ?_ ?_ ?_
      · trivial
      · repeat (first | exact sub_nil | refine sub_cons rfl ?_)
      · exact inferInstance
  · intro b4 _
    refine x_cut (fun X : List It × List It × List Ln × Nat => Rep X.1 X.2.2.2 X.2.1 ∧ X.2.1.length ≤ room ∧ MOk fr pg 0 X.2.2.1 X.2.1 ∧ X.2.2.2 ≤ now + 1 ∧ (fnwE fr pg true root user va kind = 0 → ∃ x ∈ X.2.2.1, x.k = vaK root va ∧ (x.e.2.2 = givR pg (wkR fr pg root va).r (wkR fr pg root va).p 3 ∨ x.e.2.2 = noW (givR pg (wkR fr pg root va).r (wkR fr pg root va).p 3)))) (fun X => [(2, .pointer (some ⟨b2, 0, none⟩)), (4, .pointer (some ⟨b4, 0, none⟩)), (5, .int .i64 (fnwE fr pg true root user va kind))]) (fun X => pt b2 (cob [.int .i64 0, .int .i64 0, .int .i64 0, .bool false] 54) :: pt b4 (cob (fnwV fr pg true root user va kind) 54) :: pt bm (mmO pv bt bs) :: rowH bt (X.1, tlV room X.2.2.2) :: shH bs X.2.2.1 :: vwW pv ps pm 0 fr pg R) ?_ ?_
    · skip
      refine x_seq (x_region (s_val rfl (v_move rfl) (s_val rfl (v_eql rfl rfl) (x_nil (n_then ?_)))))
      refine x_if rfl ?_ ?_
      · intro c2
        obtain ⟨hw, hp, eP, eF, eO⟩ := hok c2
        refine x_region (s_val rfl (v_move rfl) (s_val rfl (v_loadAll Tryz.isAgg54 Tryz.sizeOf54 rfl rfl) ?_))
        refine s_do rfl (d_call7 Tryz.call81 rfl (asFill2_spec W0 _ hK ba bm pv bt bs ps pm true root user va hva kind its room now T L fr pg hR hT hr hn h hw hp (fnwX fndP fr pg true root user va kind) (fnwX fndF fr pg true root user va kind) eP eF (fnwX fndO fr pg true root user va kind) false)) ?_
        rintro _ B_ ⟨rfl, its2, T2, L2, now2, hR2, hT2, h2, hn2, hex, hB_⟩
        subst hB_
        refine x_nil (n_then ?_)
        refine mid_intro (its2, T2, L2, now2) ?_ ?_ ?_
        · exact ⟨hR2, hT2, h2, hn2, fun _ => hex⟩
        · repeat (first | exact sub_nil | refine sub_cons rfl ?_)
        · exact inferInstance
      · intro c2
        refine x_skip (n_then ?_)
        refine mid_intro (its, T, L, now) ?_ ?_ ?_
        · exact ⟨hR, hT, h, Nat.le_add_right now 1, fun q => absurd q c2⟩
        · repeat (first | exact sub_nil | refine sub_cons rfl ?_)
        · exact inferInstance
    · intro ⟨its2, T2, L2, now2⟩ ⟨hR2, hT2, h2, hn2, hex⟩
      dsimp only at hR2 hT2 h2 hn2 hex ⊢
      refine x_seq (x_region (s_val rfl (v_loadAll Tryz.isAgg54 Tryz.sizeOf54 rfl rfl) ?_))
      refine s_val rfl (v_move rfl) (s_do0 (d_storeAll Tryz.sizeOf54 rfl rfl rfl rfl rfl) ?_)
      rintro _ _ rfl
      refine s_val rfl (v_assign rfl) (x_nil (n_then (x_ret (x_done (.inl rfl) (.cons (r_all Tryz.isAgg54 Tryz.sizeOf54 rfl rfl) (.cons (r_tmp rfl) .nil)) ?_))))
      exact ⟨_, ⟨rfl, its2, T2, L2, now2, hR2, hT2, h2, hn2, hex, rfl⟩, inferInstance⟩
theorem MOk.tl {fr : List Frm} {pg : List Pl} {d : Nat} {L : List Ln} {T T' : List It} (h : MOk fr pg d L T) (ht : TI L T') : MOk fr pg d L T' := ⟨h.F, h.n, h.dl, h.P, h.pl, ht, h.ln⟩
@[reducible] def asFn (ba : Nat) : List Value := [.func (.func 43) #[.pointer (some ⟨ba, 0, none⟩)] #[], .func (.func 44) #[.pointer (some ⟨ba, 0, none⟩)] #[]]
theorem asStep {W0 : World} {N : FSz} {e : Env} {R : List HP} {ba bm pv bt bs : Nat} {on : Bool} {root : Int} {user : Bool} {va : Nat} {kind : Int} {its : List It} {room now i : Nat} {T : List It} {L : List Ln} {fx : Operand} {v : Value} (hva : va < 4294967296) (hR : Rep its now T) (hT : T.length ≤ room) (hr : room ≤ 4) (hn : now < 1000000) (hti : TI L T) (hi : i < 2) (hv : (asFn ba)[i]? = some v) (hx : ev e fx = some v) :
    Does Tryz.prog W0 N e (pt ba (asO bm on root user va kind) :: pt bm (mmO pv bt bs) :: rowH bt (its, tlV room now) :: shH bs L :: R) (.call { callee := .value fx, args := #[], argTypes := #[] })
      (fun v B => ∃ o its' T' now', v = .tuple #[.agg (hitO o va).toArray, .bool o.isSome] ∧ LkOk L (vaK root va) kind user o ∧ (i = 1 → o = none → ∀ x ∈ L, x.k = vaK root va → mayB20 x.e kind user = false) ∧ Rep its' now' T' ∧ T'.length ≤ room ∧ TI L T' ∧ now' ≤ now + 1 ∧ B = pt ba (asO bm on root user va kind) :: pt bm (mmO pv bt bs) :: rowH bt (its', tlV room now') :: shH bs L :: R) := by
  have h2 : i = 0 ∨ i = 1 := by omega
  rcases h2 with rfl | rfl
  · cases hv
    exact d_callv (us := [.pointer (some ⟨ba, 0, none⟩)]) (vs := []) (cs := []) hx Tryz.call43 rfl (spec_post (asRem_spec W0 R ba bm pv bt bs on root user va hva kind its room now T L hR hT hr hn hti) fun v B hB => by
      obtain ⟨o, its', T', now', e1, e2, e3⟩ := hB
      exact ⟨B, ⟨o, its', T', now', e1, e2, fun q => (by cases q), e3⟩, ent_refl⟩)
  · cases hv
    exact d_callv (us := [.pointer (some ⟨ba, 0, none⟩)]) (vs := []) (cs := []) hx Tryz.call44 rfl (spec_post (asShad_spec W0 R ba bm pv bt bs on root user va hva kind its room now T L hR hT hr hn hti) fun v B hB => by
      obtain ⟨o, its', T', now', e1, e2, e3, e4⟩ := hB
      exact ⟨B, ⟨o, its', T', now', e1, e2, fun _ => e3, e4⟩, ent_refl⟩)
structure FnX (fr : List Frm) (pg : List Pl) (d : Nat) (on : Bool) (root : Int) (user : Bool) (va : Nat) (kind : Int) (L L' : List Ln) (fast : Bool) (d' : Nat) : Prop where
  hit : fast = true → (on = true ∧ fnwE fr pg on root user va kind = 0) ∧ ∃ x ∈ L', x.e.1 = fnwX fndP fr pg on root user va kind ∧ mayB20 x.e kind user = true
  old : fast = true → ∃ x ∈ L, x.k = vaK root va
  new : fast = false → on = true → va < 16384 → fnwE fr pg on root user va kind = 0 → ∃ x ∈ L', x.k = vaK root va ∧ (x.e.2.2 = givR pg (wkR fr pg root va).r (wkR fr pg root va).p 3 ∨ x.e.2.2 = noW (givR pg (wkR fr pg root va).r (wkR fr pg root va).p 3))
  can : d = 0 → on = true → va < 16384 → ∀ x ∈ L, x.k = vaK root va → mayB20 x.e kind user = true → fast = true
  dz : on = true → va < 16384 → d' = 0
theorem mmFind_spec (W0 : World) (R : List HP) (hK : ∀ A, Cells (OwnP W0 A) 0 0 kdV) (bm pv bt bs ps pm d : Nat) (on : Bool) (root : Int) (user : Bool) (va : Nat) (hva : va < 4294967296) (kind : Int) (its : List It) (room now : Nat) (T : List It) (L : List Ln) (fr : List Frm) (pg : List Pl) (hR : Rep its now T) (hT : T.length ≤ room) (hr : room ≤ 4) (hn : now < 900000) (h : MOk fr pg d L T) :
    Spec Tryz.prog W0 13 [.pointer (some ⟨bm, 0, none⟩), .agg (moV on root user).toArray, .int .u32 va, .int .i64 kind] (pt bm (mmO pv bt bs) :: rowH bt (its, tlV room now) :: shH bs L :: vwW pv ps pm d fr pg R)
      (fun v B => ∃ fast its' T' L' now' d', v = .tuple #[.agg #[.int .i64 (fnwX fndP fr pg on root user va kind), .int .i64 (fnwX fndF fr pg on root user va kind), .int .i64 (fnwX fndO fr pg on root user va kind), .bool fast], .int .i64 (fnwE fr pg on root user va kind)]
        ∧ FnX fr pg d on root user va kind L L' fast d' ∧ Rep its' now' T' ∧ T'.length ≤ room ∧ MOk fr pg d' L' T' ∧ now' ≤ now + 3 ∧ B = pt bm (mmO pv bt bs) :: rowH bt (its', tlV room now') :: shH bs L' :: vwW pv ps pm d' fr pg R) := by
  refine spec_body Tryz.func13 Tryz.ntmps13 rfl rfl ?_
  refine x_seq (x_region (s_do rfl (d_boxA rfl) ?_))
  rintro _ _ ⟨b5, rfl, rfl⟩
  refine s_do rfl (d_allocA Tryz.zeroValue54) ?_
  rintro _ _ ⟨b8, rfl, rfl⟩
  refine s_val rfl (v_assign rfl) (x_nil (n_then (x_seq (x_seq (x_region (s_val rfl (v_move rfl) (s_do rfl (d_call1 Tryz.call31 rfl (mmNone_spec W0 _ bm pv bt bs)) ?_)))))))
  rintro _ B_ ⟨rfl, hB_⟩
  obtain rfl := hB_.symm
  refine x_nil (n_then ?_)
  refine x_if rfl ?_ ?_
  · intro c1
    exact absurd c1 (by decide)
  · intro c1
    refine x_skip (n_then (x_seq (x_seq (x_region ?_))))
    refine s_val rfl (v_fieldAddr rfl Tryz.underlying30 rfl Tryz.sizeOf4 rfl (by first | exact Nat.zero_add _ | rfl)) ?_
    refine s_val rfl (v_load Tryz.isAgg4 rfl (cell_own rfl)) ?_
    refine s_val rfl (v_not rfl) (s_val rfl (v_move rfl) ?_)
    refine s_or rfl rfl rfl ?_ ?_
    · intro g3_4
      refine s_no rfl rfl rfl rfl (s_val rfl (v_pick_t rfl rfl) (x_nil (n_then (x_ift rfl (x_seq ?_)))))
      refine x_draw [(bm, 0, _), (b5, 0, _)] 12 mixed rfl (sc_own (sc_own sc_end)) (fun hS => ?_)
      refine d_take 0 rfl rfl (by kernel_rfl) (by kernel_rfl) (by kernel_rfl) rfl hS (v_move rfl) ?_
      refine d_take 1 rfl rfl (by kernel_rfl) (by kernel_rfl) (by kernel_rfl) rfl hS (v_nilCheck rfl) ?_
      refine d_take 2 rfl rfl (by kernel_rfl) (by kernel_rfl) (by kernel_rfl) rfl hS (v_fieldAddr rfl Tryz.underlying97 rfl Tryz.sizeOf25 rfl (by first | exact Nat.zero_add _ | rfl)) ?_
      refine d_take 3 rfl rfl (by kernel_rfl) (by kernel_rfl) (by kernel_rfl) rfl hS (v_load Tryz.isAgg25 rfl (by first | exact cell_sc0 (k := 0) rfl rfl | exact cell_sc0 (k := 1) rfl rfl)) ?_
      refine d_take 4 rfl rfl (by kernel_rfl) (by kernel_rfl) (by kernel_rfl) rfl hS (v_loadAgg Tryz.isAgg30 Tryz.sizeOf30 rfl (by first | exact cells_sc (k := 0) rfl | exact cells_sc (k := 1) rfl) rfl) ?_
      refine d_take 5 rfl rfl (by kernel_rfl) (by kernel_rfl) (by kernel_rfl) rfl hS (v_move rfl) ?_
      refine d_take 6 rfl rfl (by kernel_rfl) (by kernel_rfl) (by kernel_rfl) rfl hS (v_move rfl) ?_
      refine d_one 7 (by kernel_rfl) rfl rfl (d_call3 Tryz.call41 rfl (wkFind_spec W0 _ pv ps pm d fr pg h.P h.F on root user va hva kind)) rfl ?_; clear hS
      rintro _ B_ ⟨rfl, hB_⟩
      obtain rfl := hB_.symm
      refine ⟨(sc_own (sc_own sc_end)), fun hS => ?_⟩
      refine d_take 8 rfl rfl (by kernel_rfl) (by kernel_rfl) (by kernel_rfl) rfl hS (v_extract rfl rfl) ?_
      refine d_take 9 rfl rfl (by kernel_rfl) (by kernel_rfl) (by kernel_rfl) rfl hS (v_extract rfl rfl) ?_
      refine d_one 10 (by kernel_rfl) rfl rfl (d_storeAll Tryz.sizeOf54 rfl rfl rfl rfl rfl) rfl ?_; clear hS
      rintro _ _ rfl
      refine ⟨(sc_own (sc_own sc_end)), fun hS => ?_⟩
      refine d_take 11 rfl rfl (by kernel_rfl) (by kernel_rfl) (by kernel_rfl) rfl hS (v_assign rfl) ?_
      refine d_done (by kernel_rfl) ?_; clear hS
      refine n_then (x_ret (r_then (x_done (.inl rfl) (.cons (r_all Tryz.isAgg54 Tryz.sizeOf54 rfl rfl) (.cons (r_tmp rfl) .nil)) ?_)))
      exact ⟨_, ⟨false, its, T, L, now, d, rfl, ⟨fun q => (by cases q), fun q => (by cases q), fun _ q1 q2 => (by first | omega | simp_all), fun _ q1 q2 => (by first | omega | simp_all), fun q1 q2 => (by first | omega | simp_all)⟩, hR, hT, h, by omega, rfl⟩, inferInstance⟩
    · intro g3_4
      refine s_val rfl (v_move rfl) (s_yes rfl rfl (s_val rfl (v_geq rfl rfl) (s_val rfl (v_pick_f rfl rfl) (x_nil (n_then ?_)))))
      refine x_if rfl ?_ ?_
      · intro c3
        refine x_seq ?_
        refine x_draw [(bm, 0, _), (b5, 0, _)] 12 mixed rfl (sc_own (sc_own sc_end)) (fun hS => ?_)
        refine d_take 0 rfl rfl (by kernel_rfl) (by kernel_rfl) (by kernel_rfl) rfl hS (v_move rfl) ?_
        refine d_take 1 rfl rfl (by kernel_rfl) (by kernel_rfl) (by kernel_rfl) rfl hS (v_nilCheck rfl) ?_
        refine d_take 2 rfl rfl (by kernel_rfl) (by kernel_rfl) (by kernel_rfl) rfl hS (v_fieldAddr rfl Tryz.underlying97 rfl Tryz.sizeOf25 rfl (by first | exact Nat.zero_add _ | rfl)) ?_
        refine d_take 3 rfl rfl (by kernel_rfl) (by kernel_rfl) (by kernel_rfl) rfl hS (v_load Tryz.isAgg25 rfl (by first | exact cell_sc0 (k := 0) rfl rfl | exact cell_sc0 (k := 1) rfl rfl)) ?_
        refine d_take 4 rfl rfl (by kernel_rfl) (by kernel_rfl) (by kernel_rfl) rfl hS (v_loadAgg Tryz.isAgg30 Tryz.sizeOf30 rfl (by first | exact cells_sc (k := 0) rfl | exact cells_sc (k := 1) rfl) rfl) ?_
        refine d_take 5 rfl rfl (by kernel_rfl) (by kernel_rfl) (by kernel_rfl) rfl hS (v_move rfl) ?_
        refine d_take 6 rfl rfl (by kernel_rfl) (by kernel_rfl) (by kernel_rfl) rfl hS (v_move rfl) ?_
        refine d_one 7 (by kernel_rfl) rfl rfl (d_call3 Tryz.call41 rfl (wkFind_spec W0 _ pv ps pm d fr pg h.P h.F on root user va hva kind)) rfl ?_; clear hS
        rintro _ B_ ⟨rfl, hB_⟩
        obtain rfl := hB_.symm
        refine ⟨(sc_own (sc_own sc_end)), fun hS => ?_⟩
        refine d_take 8 rfl rfl (by kernel_rfl) (by kernel_rfl) (by kernel_rfl) rfl hS (v_extract rfl rfl) ?_
        refine d_take 9 rfl rfl (by kernel_rfl) (by kernel_rfl) (by kernel_rfl) rfl hS (v_extract rfl rfl) ?_
        refine d_one 10 (by kernel_rfl) rfl rfl (d_storeAll Tryz.sizeOf54 rfl rfl rfl rfl rfl) rfl ?_; clear hS
        rintro _ _ rfl
        refine ⟨(sc_own (sc_own sc_end)), fun hS => ?_⟩
        refine d_take 11 rfl rfl (by kernel_rfl) (by kernel_rfl) (by kernel_rfl) rfl hS (v_assign rfl) ?_
        refine d_done (by kernel_rfl) ?_; clear hS
        refine n_then (x_ret (r_then (x_done (.inl rfl) (.cons (r_all Tryz.isAgg54 Tryz.sizeOf54 rfl rfl) (.cons (r_tmp rfl) .nil)) ?_)))
        exact ⟨_, ⟨false, its, T, L, now, d, rfl, ⟨fun q => (by cases q), fun q => (by cases q), fun _ q1 q2 => (by first | omega | simp_all), fun _ q1 q2 => (by first | omega | simp_all), fun q1 q2 => (by first | omega | simp_all)⟩, hR, hT, h, by omega, rfl⟩, inferInstance⟩
      · intro c3
        refine x_skip (n_then (x_seq ?_))
        obtain rfl : on = true := by cases on <;> simp_all
        have hv4 : va < 16384 := by omega
        refine x_region (s_val rfl (v_move rfl) (s_do rfl (d_call4 Tryz.call42 rfl (mmSync_spec W0 _ bm pv bt bs ps pm d its (.int .i64 room) (.int .i64 now) now room T L fr pg hR hT hr h)) ?_))
        rintro _ B_ ⟨rfl, its1, T1, L1, hB_, hR1, hT1, h1, hsub, hsame⟩
        subst hB_
        have hL0 : d = 0 → L1 = L := fun q => hsame (by rw [q]; decide)
        refine x_nil (n_then (x_seq (x_region (s_val rfl (v_move rfl) (s_val rfl (v_loadAll Tryz.isAgg30 Tryz.sizeOf30 rfl rfl) ?_)))))
        refine s_val rfl (v_move rfl) (s_val rfl (v_move rfl) (s_val rfl (v_build Tryz.underlying113 Tryz.zeroValue113 (sized_cons Tryz.sizeOf24 (sized_cons Tryz.sizeOf30 (sized_cons Tryz.sizeOf31 (sized_cons Tryz.sizeOf3 sized_nil)))) (fil_scal rfl Tryz.sizeOf24 rfl rfl (Nat.le_of_ble_eq_true rfl) SetL.eq (fil_agg rfl Tryz.sizeOf30 rfl rfl (Nat.le_of_ble_eq_true rfl) SetRL.eq (fil_scal rfl Tryz.sizeOf31 rfl rfl (Nat.le_of_ble_eq_true rfl) SetL.eq (fil_scal rfl Tryz.sizeOf3 rfl rfl (Nat.le_of_ble_eq_true rfl) SetL.eq fil_nil))))) ?_))
        refine s_do rfl (d_boxA rfl) ?_
        rintro _ _ ⟨ba, rfl, rfl⟩
        refine s_val rfl (v_assign rfl) (x_nil (n_then (x_seq (x_seq (x_region (s_val rfl (v_move rfl) (s_val rfl (v_mkFunc rfl rfl) ?_)))))))
        refine s_val rfl (v_move rfl) (s_val rfl (v_mkFunc rfl rfl) ?_)
        refine s_do rfl (d_sliceLit Tryz.underlying115 Tryz.sizeOf114 Tryz.zeroValue114 rfl rfl rfl rfl rfl (by decide) (by decide)) ?_
        rintro _ _ ⟨bl, rfl, rfl⟩
        refine s_val rfl (v_len_slice Tryz.underlying115 rfl) (s_val rfl (v_move rfl) (x_nil (n_then (x_block ?_))))
        refine x_loop (fun X : Nat × List It × List It × Nat => X.1 ≤ 2 ∧ Rep X.2.1 X.2.2.2 X.2.2.1 ∧ X.2.2.1.length ≤ room ∧ TI L1 X.2.2.1 ∧ X.2.2.2 ≤ now + X.1 ∧ (X.1 = 2 → ∀ x ∈ L1, x.k = vaK root va → mayB20 x.e kind user = false)) (fun X => [(8, .pointer (some ⟨b8, 0, none⟩)), (10, .pointer (some ⟨ba, 0, none⟩)), (47, .slice (some ⟨bl, 0, none⟩) 2 2), (48, .int .i64 2), (49, .int .i64 X.1)]) (fun X => pt bl (cob (asFn ba) 114) :: pt b8 (cob [.int .i64 0, .int .i64 0, .int .i64 0, .bool false] 54) :: pt ba (asO bm true root user va kind) :: pt bm (mmO pv bt bs) :: rowH bt (X.2.1, tlV room X.2.2.2) :: shH bs L1 :: vwW pv ps pm 0 fr pg R) (fun X => 2 - X.1) (0, its1, T1, now) ?_ ?_ ?_ ?_
        · exact ⟨Nat.zero_le _, hR1, hT1, h1.ti, Nat.le_refl _, fun q => absurd (show (0 : Nat) = 2 from q) (by decide)⟩
        · repeat (first | exact sub_nil | refine sub_cons rfl ?_)
        · show Ent _ (pt bl (cob (asFn ba) 114) :: pt b8 (cob [.int .i64 0, .int .i64 0, .int .i64 0, .bool false] 54) :: pt ba (asO bm true root user va kind) :: pt bm (mmO pv bt bs) :: rowH bt (its1, tlV room now) :: shH bs L1 :: vwW pv ps pm 0 fr pg R)
          exact inferInstance
        · intro ⟨i, its2, T2, now2⟩ ⟨hi, hR2, hT2, ht2, hn2, hno2⟩
          dsimp only at hi hR2 hT2 ht2 hn2 hno2 ⊢
          refine x_seq (x_region (s_val rfl (v_lss rfl rfl) (x_nil (n_then (x_seq ?_)))))
          refine x_if rfl ?_ ?_
          · intro c8
            refine x_skip (n_then (x_seq (x_block (x_seq ?_))))
            have hi2 : i < 2 := by omega
            have hl2 : i < (asFn ba).length := hi2
            obtain ⟨fv, hfv⟩ : ∃ v, (asFn ba)[i]? = some v := ⟨_, List.getElem?_eq_getElem hl2⟩
            refine x_region ?_
            refine s_val rfl (v_idx Tryz.underlying115 Tryz.sizeOf114 rfl rfl rfl hi2 (by first | exact Nat.zero_add _ | rfl)) ?_
            refine s_val rfl (v_load Tryz.isAgg114 rfl (cell_own (by rw [Nat.mul_one]; exact hfv))) ?_
            refine s_val rfl (v_assign rfl) (x_nil (n_then (x_seq (x_region (s_val rfl (v_move rfl) ?_)))))
            refine s_do rfl (does_ent inferInstance (asStep (R := pt bl (cob (asFn ba) 114) :: pt b8 (cob [.int .i64 0, .int .i64 0, .int .i64 0, .bool false] 54) :: vwW pv ps pm 0 fr pg R) (ba := ba) (bm := bm) (pv := pv) (bt := bt) (bs := bs) (on := true) (root := root) (user := user) (kind := kind) (its := its2) (L := L1) hva hR2 hT2 hr (by omega) ht2 hi2 hfv rfl)) ?_
            rintro _ B_ ⟨o, its3, T3, now3, rfl, hlk, hnk, hR3, hT3, ht3, hn3, hB_⟩
            subst hB_
            refine s_val rfl (v_move rfl) (s_val rfl (v_extract rfl rfl) (s_val rfl (v_extract rfl rfl) (s_do rfl (d_allocA Tryz.zeroValue54) ?_)))
            rintro _ _ ⟨b13, rfl, rfl⟩
            refine s_do0 (d_storeAll Tryz.sizeOf54 rfl rfl rfl rfl rfl) ?_
            rintro _ _ rfl
            refine s_val rfl (v_assign rfl) (x_nil (n_then (x_seq (x_region (s_val rfl (v_move rfl) (x_nil (n_then ?_)))))))
            refine x_if rfl ?_ ?_
            · intro c11
              refine x_seq (x_region (s_val rfl (v_loadAll Tryz.isAgg54 Tryz.sizeOf54 rfl rfl) ?_))
              refine s_do0 (d_storeAll Tryz.sizeOf54 rfl rfl rfl rfl rfl) ?_
              rintro _ _ rfl
              refine s_val rfl (v_assign rfl) (x_nil (n_then (x_ret (r_block (r_then (r_then (r_block (r_then (x_done (.inl rfl) (.cons (r_all Tryz.isAgg54 Tryz.sizeOf54 rfl rfl) (.cons (r_tmp rfl) .nil)) ?_)))))))))
              obtain ⟨x, rfl⟩ : ∃ x, o = some x := by cases o <;> simp_all
              obtain ⟨hx, hkx, hmx⟩ := hlk x rfl
              obtain ⟨e0, e1, e2, e3⟩ := fast_ok h1 hx hv4 hkx hmx
              refine ⟨_, ⟨true, its3, T3, L1, now3, 0, ?_, ⟨fun _ => ⟨⟨rfl, e0⟩, x, hx, e1.symm, hmx⟩, fun _ => ⟨x, hsub x hx, hkx⟩, fun q => (by cases q), fun _ _ _ _ _ _ _ => rfl, fun _ _ => rfl⟩, hR3, hT3, h1.tl ht3, by omega, rfl⟩, inferInstance⟩
              rw [e0, e1, e2, e3]; rfl
            · intro c11
              refine x_skip (n_block (n_then (x_region ?_)))
              refine s_val rfl (v_add rfl rfl (by first | exact w64 (by omega) | rfl)) ?_
              refine s_val rfl (v_move rfl) (x_nil (n_then ?_))
              refine inv_intro (i + 1, its3, T3, now3) ?_ ?_ ?_ ?_
              · exact ⟨by omega, hR3, hT3, ht3, by dsimp only; omega, fun q => hnk (by dsimp only at q; omega) (by cases o <;> simp_all)⟩
              · omega
              · repeat (first | exact sub_nil | refine sub_cons rfl ?_)
              · exact inferInstance
          · intro c8
            refine x_exit (e_then (e_then (e_block (n_then (x_seq ?_)))))
            obtain rfl : i = 2 := by omega
            have h2 := h1.tl ht2
            refine x_region (s_val rfl (v_move rfl) ?_)
            refine s_do rfl (d_call7 Tryz.call45 rfl (asWalk_spec W0 _ hK ba bm pv bt bs ps pm root user va hva kind its2 room now2 T2 L1 fr pg hR2 hT2 hr (by omega) h2)) ?_
            rintro _ B_ ⟨rfl, its4, T4, L4, now4, hR4, hT4, h4, hn4, hex, hB_⟩
            subst hB_
            refine s_val rfl (v_extract rfl rfl) (s_val rfl (v_extract rfl rfl) (s_do0 (d_storeAll Tryz.sizeOf54 rfl rfl rfl rfl rfl) ?_))
            rintro _ _ rfl
            refine s_val rfl (v_assign rfl) (x_nil (n_then (x_ret (x_done (.inl rfl) (.cons (r_all Tryz.isAgg54 Tryz.sizeOf54 rfl rfl) (.cons (r_tmp rfl) .nil)) ?_))))
            exact ⟨_, ⟨false, its4, T4, L4, now4, 0, rfl, ⟨fun q => (by cases q), fun q => (by cases q), fun _ _ _ q => hex q, fun q _ _ x hx hk hm => (by
              rw [hno2 rfl x (by rw [hL0 q]; exact hx) hk] at hm; cases hm), fun _ _ => rfl⟩, hR4, hT4, h4, by omega, rfl⟩, inferInstance⟩
end Go.Proofs.YtllkdnadmmjehaaGreatDoor
namespace Go.Proofs.YtllkdnadmmjehaaGreatDoor
open Go.RowKit
set_option linter.unusedSimpArgs false
set_option linter.unusedVariables false
set_option maxRecDepth 20000
theorem fnw_pa {fr : List Frm} {pg : List Pl} {on : Bool} {root : Int} {user : Bool} {va : Nat} {kind : Int} (h : fnwE fr pg on root user va kind = 0) :
    ∃ pa : Nat, pa < 768 ∧ pa % 64 = va % 64 ∧ fndE fr.length pg pa 1 kind = 0 ∧ fnwX fndP fr pg on root user va kind = ((pa / 64 : Nat) : Int) ∧ fnwX fndF fr pg on root user va kind = (gGot pg ((pa / 64 : Nat) : Int)).1 ∧ fnwX fndO fr pg on root user va kind = ((pa % 64 : Nat) : Int) := by
  cases on with
  | false =>
    have hX : ∀ g, fnwX g fr pg false root user va kind = g fr.length pg va 1 kind := fun g => by unfold fnwX; rw [if_neg (by decide)]
    have h : fndE fr.length pg va 1 kind = 0 := by unfold fnwE at h; rwa [if_neg (by decide)] at h
    exact ⟨va, (fnd_ok h).1, rfl, h, by rw [hX, fndP, if_pos h], by rw [hX, fndF, if_pos h], by rw [hX, fndO, if_pos h]⟩
  | true =>
    obtain ⟨s, hs⟩ : ∃ s, wkR fr pg root va = s := ⟨_, rfl⟩
    obtain ⟨k, hk, hk32⟩ := wkR_p fr pg root va
    unfold fnwE at h
    rw [if_pos rfl, hs] at h
    by_cases h1 : s.fault ≠ 0
    · rw [if_pos h1] at h; exact absurd h h1
    rw [if_neg h1] at h
    by_cases h2 : alwT s kind user = true
    case neg => rw [if_neg h2] at h; exact absurd h (by decide)
    rw [if_pos h2] at h
    rw [hs] at hk
    have hpa : wkPa s va = 64 * k + va % 64 := by rw [wkPa, hk]; rfl
    obtain ⟨p1, p2⟩ := pa_div k va
    have hX : ∀ g, fnwX g fr pg true root user va kind = g fr.length pg (wkPa s va) 1 kind := fun g => by
      unfold fnwX
      rw [if_pos rfl, hs, if_neg h1, if_pos h2]
    exact ⟨wkPa s va, (fnd_ok h).1, by rw [hpa, p2], h, by rw [hX, fndP, if_pos h], by rw [hX, fndF, if_pos h], by rw [hX, fndO, if_pos h]⟩
theorem al_eq {va pa : Nat} {w : Int} (h : alB va w = true) (e : pa % 64 = va % 64) : alB pa w = true := by
  have := of_decide_eq_true h
  refine decide_eq_true ⟨this.1, ?_⟩
  obtain ⟨h1 | h1 | h1, h2⟩ := this <;> subst h1 <;> omega
theorem fnd_w {n : Nat} {pg : List Pl} {va pa : Nat} {w kind : Int} (h : fndE n pg pa 1 kind = 0) (ha : alB va w = true) (e : pa % 64 = va % 64) : fndE n pg pa w kind = 0 := by
  have h1 : alB pa 1 = true := decide_eq_true ⟨.inl rfl, by omega⟩
  rw [fndE, if_pos h1] at h
  rw [fndE, if_pos (al_eq ha e)]; exact h
theorem fnd_th {n : Nat} {pg : List Pl} {pa : Nat} {kind : Int} (h : fndE n pg pa 1 kind = 0) : thereB pg ((pa / 64 : Nat) : Int) = true := by
  have h1 : alB pa 1 = true := decide_eq_true ⟨.inl rfl, by omega⟩
  rw [fndE, if_pos h1] at h
  split at h
  · split at h
    · rename_i q
      unfold alwE at q
      split at q
      · assumption
      · exact absurd q (by decide)
    · rename_i q; exact absurd h q
  · exact absurd h (by decide)
def ldME (fr : List Frm) (pg : List Pl) (on : Bool) (root : Int) (user : Bool) (va : Nat) (w kind : Int) : Int := if alB va w then fnwE fr pg on root user va kind else 1
def svM (fr : List Frm) (pg : List Pl) (on : Bool) (root : Int) (user : Bool) (va : Nat) (w : Int) (x : Nat) : List Frm := if alB va w then (if fnwE fr pg on root user va 2 = 0 then svF fr (fnwX fndF fr pg on root user va 2) (fnwX fndO fr pg on root user va 2) w x else fr) else fr
theorem mmAligned_spec (W0 : World) (R : List HP) (va : Nat) (hva : va < 4294967296) (w : Int) : Spec Tryz.prog W0 32 [.int .u32 va, .int .i64 w] R (fun v B => v = .bool (alB va w) ∧ B = R) := by
  refine spec_body Tryz.func32 Tryz.ntmps32 rfl rfl ?_
  refine x_seq (x_region (s_val rfl (v_assign rfl) (x_nil (n_then (x_seq (x_region (s_val rfl (v_move rfl) (s_val rfl (v_eql rfl rfl) (s_val rfl (v_move rfl) ?_)))))))))
  refine s_or rfl rfl rfl ?_ ?_
  · intro g1_3
    refine s_no rfl rfl rfl rfl (s_val rfl (v_pick_t rfl rfl) (s_val rfl (v_move rfl) (s_no rfl rfl rfl rfl (s_no rfl rfl rfl rfl (s_val rfl (v_pick_t rfl rfl) (s_val rfl (v_move rfl) (s_yes rfl rfl (s_val rfl (v_move rfl) (s_yes rfl rfl (s_val rfl (v_move rfl) (s_yes rfl rfl ?_)))))))))))
    refine s_val rfl (v_conv Tryz.underlying3 Tryz.underlying31 rfl (w32u (by omega))) ?_
    refine s_yes rfl rfl ?_
    refine s_val rfl (v_rem rfl rfl (by omega) (Int.tmod_eq_emod_of_nonneg (by omega))) ?_
    refine s_yes rfl rfl (s_val rfl (v_eql rfl rfl) (s_val rfl (v_pick_t rfl rfl) (s_val rfl (v_assign rfl) (x_nil (n_then (x_ret (x_done (.inl rfl) (.cons (r_tmp rfl) .nil) ?_)))))))
    refine ⟨_, ⟨?_, rfl⟩, inferInstance⟩
    refine congrArg Value.bool ?_
    rw [Bool.eq_iff_iff]; simp only [alB, decide_eq_true_eq, beq_iff_eq]
    first
      | omega
      | (simp only [Bool.false_eq_true, false_iff]; omega)
      | (constructor <;> intro q <;> simp_all <;> omega)
  · intro g1_3
    refine s_val rfl (v_move rfl) (s_yes rfl rfl (s_val rfl (v_eql rfl rfl) (s_val rfl (v_pick_f rfl rfl) (s_val rfl (v_move rfl) ?_))))
    refine s_or rfl rfl rfl ?_ ?_
    · intro g1_7
      refine s_no rfl rfl rfl rfl (s_val rfl (v_pick_t rfl rfl) (s_val rfl (v_move rfl) (s_yes rfl rfl (s_val rfl (v_move rfl) (s_yes rfl rfl (s_val rfl (v_move rfl) (s_yes rfl rfl ?_)))))))
      refine s_val rfl (v_conv Tryz.underlying3 Tryz.underlying31 rfl (w32u (by omega))) ?_
      refine s_yes rfl rfl ?_
      refine s_val rfl (v_rem rfl rfl (by omega) (Int.tmod_eq_emod_of_nonneg (by omega))) ?_
      refine s_yes rfl rfl (s_val rfl (v_eql rfl rfl) (s_val rfl (v_pick_t rfl rfl) (s_val rfl (v_assign rfl) (x_nil (n_then (x_ret (x_done (.inl rfl) (.cons (r_tmp rfl) .nil) ?_)))))))
      refine ⟨_, ⟨?_, rfl⟩, inferInstance⟩
      refine congrArg Value.bool ?_
      rw [Bool.eq_iff_iff]; simp only [alB, decide_eq_true_eq, beq_iff_eq]
      first
        | omega
        | (simp only [Bool.false_eq_true, false_iff]; omega)
        | (constructor <;> intro q <;> simp_all <;> omega)
    · intro g1_7
      refine s_val rfl (v_move rfl) (s_yes rfl rfl (s_val rfl (v_eql rfl rfl) (s_val rfl (v_pick_f rfl rfl) (s_val rfl (v_move rfl) ?_))))
      refine s_and rfl rfl rfl ?_ ?_
      · intro g1_11
        refine s_val rfl (v_move rfl) (s_yes rfl rfl (s_val rfl (v_move rfl) (s_yes rfl rfl ?_)))
        refine s_val rfl (v_conv Tryz.underlying3 Tryz.underlying31 rfl (w32u (by omega))) ?_
        refine s_yes rfl rfl ?_
        refine s_val rfl (v_rem rfl rfl (by omega) (Int.tmod_eq_emod_of_nonneg (by omega))) ?_
        refine s_yes rfl rfl (s_val rfl (v_eql rfl rfl) (s_val rfl (v_pick_t rfl rfl) (s_val rfl (v_assign rfl) (x_nil (n_then (x_ret (x_done (.inl rfl) (.cons (r_tmp rfl) .nil) ?_)))))))
        refine ⟨_, ⟨?_, rfl⟩, inferInstance⟩
        refine congrArg Value.bool ?_
        rw [Bool.eq_iff_iff]; simp only [alB, decide_eq_true_eq, beq_iff_eq]
        first
          | omega
          | (simp only [Bool.false_eq_true, false_iff]; omega)
          | (constructor <;> intro q <;> simp_all <;> omega)
      · intro g1_11
        refine s_no rfl rfl rfl rfl (s_no rfl rfl rfl rfl (s_no rfl rfl rfl rfl (s_no rfl rfl rfl rfl (s_val rfl (v_pick_f rfl rfl) (s_val rfl (v_assign rfl) (x_nil (n_then (x_ret (x_done (.inl rfl) (.cons (r_tmp rfl) .nil) ?_)))))))))
        refine ⟨_, ⟨?_, rfl⟩, inferInstance⟩
        refine congrArg Value.bool ?_
        rw [Bool.eq_iff_iff]; simp only [alB, decide_eq_true_eq, beq_iff_eq]
        first
          | omega
          | (simp only [Bool.false_eq_true, false_iff]; omega)
          | (constructor <;> intro q <;> simp_all <;> omega)
theorem r20Save_spec (W0 : World) (R : List HP) (qv qs qm d : Nat) (fr : List Frm) (pg : List Pl) (h : Pgs pg) (hF : Frs fr) (on : Bool) (root : Int) (user : Bool) (va : Nat) (hva : va < 4294967296) (w : Int) (x : Nat) (hx : x < 4294967296) :
    Spec Tryz.prog W0 8 [.pointer (some ⟨qv, 0, none⟩), .agg (moV on root user).toArray, .int .u32 va, .int .i64 w, .int .u32 x] (rvwW qv qs qm d fr pg R)
      (fun v B => v = .int .i64 (ldME fr pg on root user va w 2) ∧ B = rvwW qv qs qm d (svM fr pg on root user va w x) pg R) := by
  obtain ⟨al, hal⟩ : ∃ a, alB va w = a := ⟨_, rfl⟩
  have hiff : al = true ↔ (w = 1 ∨ w = 2 ∨ w = 4) ∧ (va : Int) % w = 0 := by rw [← hal, alB, decide_eq_true_iff]
  rw [svM, ldME, hal]
  refine spec_body Tryz.func8 Tryz.ntmps8 rfl rfl ?_
  refine x_seq (x_region (s_do rfl (d_boxA rfl) ?_))
  rintro _ _ ⟨b6, rfl, rfl⟩
  refine s_val rfl (v_assign rfl) (x_nil (n_then (x_seq (x_seq (x_region (s_val rfl (v_move rfl) (s_val rfl (v_neq rfl rfl) (s_val rfl (v_move rfl) ?_))))))))
  refine s_and rfl rfl rfl ?_ ?_
  · intro g1_3
    refine s_val rfl (v_move rfl) (s_yes rfl rfl (s_val rfl (v_neq rfl rfl) (s_val rfl (v_pick_t rfl rfl) (s_val rfl (v_move rfl) ?_))))
    refine s_and rfl rfl rfl ?_ ?_
    · intro g1_7
      refine s_val rfl (v_move rfl) (s_yes rfl rfl (s_val rfl (v_neq rfl rfl) (s_val rfl (v_pick_t rfl rfl) (s_val rfl (v_move rfl) ?_))))
      refine s_or rfl rfl rfl ?_ ?_
      · intro g1_11
        refine s_no rfl rfl rfl rfl (s_no rfl rfl rfl rfl (s_no rfl rfl rfl rfl (s_no rfl rfl rfl rfl (s_val rfl (v_pick_t rfl rfl) (x_nil (n_then (x_ift rfl (x_seq (x_region (s_val rfl (v_assign rfl) (x_nil (n_then (x_ret (r_then (x_done (.inl rfl) (.cons (r_tmp rfl) .nil) ?_)))))))))))))))
        have ha : al = false := by rw [← Bool.not_eq_true, hiff]; omega
        rw [ha, if_neg (by decide), if_neg (by decide)]
        exact ⟨_, ⟨rfl, rfl⟩, inferInstance⟩
      · intro g1_11
        refine s_val rfl (v_move rfl) (s_yes rfl rfl (s_val rfl (v_move rfl) (s_yes rfl rfl ?_)))
        refine s_val rfl (v_conv Tryz.underlying3 Tryz.underlying31 rfl (w32u (by omega))) ?_
        refine s_yes rfl rfl ?_
        refine s_val rfl (v_rem rfl rfl (by omega) (Int.tmod_eq_emod_of_nonneg (by omega))) ?_
        refine s_yes rfl rfl (s_val rfl (v_neq rfl rfl) (s_val rfl (v_pick_f rfl rfl) (x_nil (n_then ?_))))
        refine x_if rfl ?_ ?_
        · intro c1
          refine x_seq (x_region (s_val rfl (v_assign rfl) (x_nil (n_then (x_ret (r_then (x_done (.inl rfl) (.cons (r_tmp rfl) .nil) ?_)))))))
          have ha : al = false := by rw [← Bool.not_eq_true, hiff]; omega
          rw [ha, if_neg (by decide), if_neg (by decide)]
          exact ⟨_, ⟨rfl, rfl⟩, inferInstance⟩
        · intro c1
          refine x_skip (n_then (x_seq ?_))
          have ha : al = true := hiff.2 (by omega)
          rw [ha, if_pos rfl, if_pos rfl]
          refine x_region (s_val rfl (v_move rfl) (s_val rfl (v_loadAll Tryz.isAgg30 Tryz.sizeOf30 rfl rfl) ?_))
          refine s_val rfl (v_move rfl) (s_do rfl (d_call3 Tryz.call14 rfl (rwFind_spec W0 _ qv qs qm d fr pg h hF on root user va hva 2)) ?_)
          rintro _ B_ ⟨rfl, hB_⟩
          obtain rfl := hB_.symm
          refine s_val rfl (v_move rfl) (s_val rfl (v_extract rfl rfl) (s_val rfl (v_extract rfl rfl) (s_do rfl (d_allocA Tryz.zeroValue54) ?_)))
          rintro _ _ ⟨b11, rfl, rfl⟩
          refine s_do0 (d_storeAll Tryz.sizeOf54 rfl rfl rfl rfl rfl) ?_
          rintro _ _ rfl
          refine s_val rfl (v_assign rfl) (x_nil (n_then ?_))
          refine x_cut (fun _ : Unit => True) (fun _ => [(12, .int .i64 (fnwE fr pg on root user va 2))]) (fun _ => rvwW qv qs qm d (if fnwE fr pg on root user va 2 = 0 then svF fr (fnwX fndF fr pg on root user va 2) (fnwX fndO fr pg on root user va 2) w x else fr) pg R) ?_ ?_
          · skip
            refine x_seq (x_region (s_val rfl (v_move rfl) (s_val rfl (v_eql rfl rfl) (x_nil (n_then ?_)))))
            refine x_if rfl ?_ ?_
            · intro c4
              refine x_draw [(qv, 0, _), (b11, 0, _)] 11 mixed rfl (sc_own (sc_own sc_end)) (fun hS => ?_)
              refine d_take 0 rfl rfl (by kernel_rfl) (by kernel_rfl) (by kernel_rfl) rfl hS (v_move rfl) ?_
              refine d_take 1 rfl rfl (by kernel_rfl) (by kernel_rfl) (by kernel_rfl) rfl hS (v_nilCheck rfl) ?_
              refine d_take 2 rfl rfl (by kernel_rfl) (by kernel_rfl) (by kernel_rfl) rfl hS (v_fieldAddr rfl Tryz.underlying43 rfl Tryz.sizeOf39 rfl (by first | exact Nat.zero_add _ | rfl)) ?_
              refine d_take 3 rfl rfl (by kernel_rfl) (by kernel_rfl) (by kernel_rfl) rfl hS (v_load Tryz.isAgg39 rfl (by first | exact cell_sc0 (k := 0) rfl rfl | exact cell_sc0 (k := 1) rfl rfl)) ?_
              refine d_take 4 rfl rfl (by kernel_rfl) (by kernel_rfl) (by kernel_rfl) rfl hS (v_fieldAddr rfl Tryz.underlying54 rfl Tryz.sizeOf3 rfl (by first | exact Nat.zero_add _ | rfl)) ?_
              refine d_take 5 rfl rfl (by kernel_rfl) (by kernel_rfl) (by kernel_rfl) rfl hS (v_load Tryz.isAgg3 rfl (by first | exact cell_sc0 (k := 0) rfl rfl | exact cell_sc0 (k := 1) rfl rfl)) ?_
              refine d_take 6 rfl rfl (by kernel_rfl) (by kernel_rfl) (by kernel_rfl) rfl hS (v_fieldAddr rfl Tryz.underlying54 rfl Tryz.sizeOf3 rfl (by first | exact Nat.zero_add _ | rfl)) ?_
              refine d_take 7 rfl rfl (by kernel_rfl) (by kernel_rfl) (by kernel_rfl) rfl hS (v_load Tryz.isAgg3 rfl (by first | exact cell_sc0 (k := 0) rfl rfl | exact cell_sc0 (k := 1) rfl rfl)) ?_
              refine d_take 8 rfl rfl (by kernel_rfl) (by kernel_rfl) (by kernel_rfl) rfl hS (v_move rfl) ?_
              refine d_take 9 rfl rfl (by kernel_rfl) (by kernel_rfl) (by kernel_rfl) rfl hS (v_move rfl) ?_
              refine d_one 10 (by kernel_rfl) rfl rfl (d_call1 Tryz.call34 rfl (rfSave_spec W0 _ qs fr _ _ w x hx hF)) rfl ?_; clear hS
              rintro _ B_ ⟨rfl, hB_⟩
              obtain rfl := hB_.symm
              refine ⟨(sc_own (sc_own sc_end)), fun hS => ?_⟩
              refine d_done (by kernel_rfl) ?_; clear hS
              refine n_then ?_
              refine mid_intro () ?_ ?_ ?_
              · trivial
              · repeat (first | exact sub_nil | refine sub_cons rfl ?_)
              · rw [if_pos c4]
                exact inferInstance
            · intro c4
              refine x_skip (n_then ?_)
              refine mid_intro () ?_ ?_ ?_
              · trivial
              · repeat (first | exact sub_nil | refine sub_cons rfl ?_)
              · rw [if_neg c4]
                exact inferInstance
          · intro _ _
            refine x_seq (x_region (s_val rfl (v_move rfl) (s_val rfl (v_assign rfl) (x_nil (n_then (x_ret (x_done (.inl rfl) (.cons (r_tmp rfl) .nil) ?_)))))))
            exact ⟨_, ⟨rfl, rfl⟩, inferInstance⟩
    · intro g1_7
      refine s_no rfl rfl rfl rfl (s_val rfl (v_pick_f rfl rfl) (s_val rfl (v_move rfl) (s_yes rfl rfl (s_val rfl (v_move rfl) (s_yes rfl rfl (s_val rfl (v_move rfl) (s_yes rfl rfl ?_)))))))
      refine s_val rfl (v_conv Tryz.underlying3 Tryz.underlying31 rfl (w32u (by omega))) ?_
      refine s_yes rfl rfl ?_
      refine s_val rfl (v_rem rfl rfl (by omega) (Int.tmod_eq_emod_of_nonneg (by omega))) ?_
      refine s_yes rfl rfl (s_val rfl (v_neq rfl rfl) (s_val rfl (v_pick_f rfl rfl) (x_nil (n_then ?_))))
      refine x_if rfl ?_ ?_
      · intro c1
        refine x_seq (x_region (s_val rfl (v_assign rfl) (x_nil (n_then (x_ret (r_then (x_done (.inl rfl) (.cons (r_tmp rfl) .nil) ?_)))))))
        have ha : al = false := by rw [← Bool.not_eq_true, hiff]; omega
        rw [ha, if_neg (by decide), if_neg (by decide)]
        exact ⟨_, ⟨rfl, rfl⟩, inferInstance⟩
      · intro c1
        refine x_skip (n_then (x_seq ?_))
        have ha : al = true := hiff.2 (by omega)
        rw [ha, if_pos rfl, if_pos rfl]
        refine x_region (s_val rfl (v_move rfl) (s_val rfl (v_loadAll Tryz.isAgg30 Tryz.sizeOf30 rfl rfl) ?_))
        refine s_val rfl (v_move rfl) (s_do rfl (d_call3 Tryz.call14 rfl (rwFind_spec W0 _ qv qs qm d fr pg h hF on root user va hva 2)) ?_)
        rintro _ B_ ⟨rfl, hB_⟩
        obtain rfl := hB_.symm
        refine s_val rfl (v_move rfl) (s_val rfl (v_extract rfl rfl) (s_val rfl (v_extract rfl rfl) (s_do rfl (d_allocA Tryz.zeroValue54) ?_)))
        rintro _ _ ⟨b11, rfl, rfl⟩
        refine s_do0 (d_storeAll Tryz.sizeOf54 rfl rfl rfl rfl rfl) ?_
        rintro _ _ rfl
        refine s_val rfl (v_assign rfl) (x_nil (n_then ?_))
        refine x_cut (fun _ : Unit => True) (fun _ => [(12, .int .i64 (fnwE fr pg on root user va 2))]) (fun _ => rvwW qv qs qm d (if fnwE fr pg on root user va 2 = 0 then svF fr (fnwX fndF fr pg on root user va 2) (fnwX fndO fr pg on root user va 2) w x else fr) pg R) ?_ ?_
        · skip
          refine x_seq (x_region (s_val rfl (v_move rfl) (s_val rfl (v_eql rfl rfl) (x_nil (n_then ?_)))))
          refine x_if rfl ?_ ?_
          · intro c4
            refine x_draw [(qv, 0, _), (b11, 0, _)] 11 mixed rfl (sc_own (sc_own sc_end)) (fun hS => ?_)
            refine d_take 0 rfl rfl (by kernel_rfl) (by kernel_rfl) (by kernel_rfl) rfl hS (v_move rfl) ?_
            refine d_take 1 rfl rfl (by kernel_rfl) (by kernel_rfl) (by kernel_rfl) rfl hS (v_nilCheck rfl) ?_
            refine d_take 2 rfl rfl (by kernel_rfl) (by kernel_rfl) (by kernel_rfl) rfl hS (v_fieldAddr rfl Tryz.underlying43 rfl Tryz.sizeOf39 rfl (by first | exact Nat.zero_add _ | rfl)) ?_
            refine d_take 3 rfl rfl (by kernel_rfl) (by kernel_rfl) (by kernel_rfl) rfl hS (v_load Tryz.isAgg39 rfl (by first | exact cell_sc0 (k := 0) rfl rfl | exact cell_sc0 (k := 1) rfl rfl)) ?_
            refine d_take 4 rfl rfl (by kernel_rfl) (by kernel_rfl) (by kernel_rfl) rfl hS (v_fieldAddr rfl Tryz.underlying54 rfl Tryz.sizeOf3 rfl (by first | exact Nat.zero_add _ | rfl)) ?_
            refine d_take 5 rfl rfl (by kernel_rfl) (by kernel_rfl) (by kernel_rfl) rfl hS (v_load Tryz.isAgg3 rfl (by first | exact cell_sc0 (k := 0) rfl rfl | exact cell_sc0 (k := 1) rfl rfl)) ?_
            refine d_take 6 rfl rfl (by kernel_rfl) (by kernel_rfl) (by kernel_rfl) rfl hS (v_fieldAddr rfl Tryz.underlying54 rfl Tryz.sizeOf3 rfl (by first | exact Nat.zero_add _ | rfl)) ?_
            refine d_take 7 rfl rfl (by kernel_rfl) (by kernel_rfl) (by kernel_rfl) rfl hS (v_load Tryz.isAgg3 rfl (by first | exact cell_sc0 (k := 0) rfl rfl | exact cell_sc0 (k := 1) rfl rfl)) ?_
            refine d_take 8 rfl rfl (by kernel_rfl) (by kernel_rfl) (by kernel_rfl) rfl hS (v_move rfl) ?_
            refine d_take 9 rfl rfl (by kernel_rfl) (by kernel_rfl) (by kernel_rfl) rfl hS (v_move rfl) ?_
            refine d_one 10 (by kernel_rfl) rfl rfl (d_call1 Tryz.call34 rfl (rfSave_spec W0 _ qs fr _ _ w x hx hF)) rfl ?_; clear hS
            rintro _ B_ ⟨rfl, hB_⟩
            obtain rfl := hB_.symm
            refine ⟨(sc_own (sc_own sc_end)), fun hS => ?_⟩
            refine d_done (by kernel_rfl) ?_; clear hS
            refine n_then ?_
            refine mid_intro () ?_ ?_ ?_
            · trivial
            · repeat (first | exact sub_nil | refine sub_cons rfl ?_)
            · rw [if_pos c4]
              exact inferInstance
          · intro c4
            refine x_skip (n_then ?_)
            refine mid_intro () ?_ ?_ ?_
            · trivial
            · repeat (first | exact sub_nil | refine sub_cons rfl ?_)
            · rw [if_neg c4]
              exact inferInstance
        · intro _ _
          refine x_seq (x_region (s_val rfl (v_move rfl) (s_val rfl (v_assign rfl) (x_nil (n_then (x_ret (x_done (.inl rfl) (.cons (r_tmp rfl) .nil) ?_)))))))
          exact ⟨_, ⟨rfl, rfl⟩, inferInstance⟩
  · intro g1_3
    refine s_no rfl rfl rfl rfl (s_val rfl (v_pick_f rfl rfl) (s_val rfl (v_move rfl) (s_no rfl rfl rfl rfl (s_no rfl rfl rfl rfl (s_val rfl (v_pick_f rfl rfl) (s_val rfl (v_move rfl) (s_yes rfl rfl (s_val rfl (v_move rfl) (s_yes rfl rfl (s_val rfl (v_move rfl) (s_yes rfl rfl ?_)))))))))))
    refine s_val rfl (v_conv Tryz.underlying3 Tryz.underlying31 rfl (w32u (by omega))) ?_
    refine s_yes rfl rfl ?_
    refine s_val rfl (v_rem rfl rfl (by omega) (Int.tmod_eq_emod_of_nonneg (by omega))) ?_
    refine s_yes rfl rfl (s_val rfl (v_neq rfl rfl) (s_val rfl (v_pick_f rfl rfl) (x_nil (n_then ?_))))
    refine x_if rfl ?_ ?_
    · intro c1
      refine x_seq (x_region (s_val rfl (v_assign rfl) (x_nil (n_then (x_ret (r_then (x_done (.inl rfl) (.cons (r_tmp rfl) .nil) ?_)))))))
      have ha : al = false := by rw [← Bool.not_eq_true, hiff]; omega
      rw [ha, if_neg (by decide), if_neg (by decide)]
      exact ⟨_, ⟨rfl, rfl⟩, inferInstance⟩
    · intro c1
      refine x_skip (n_then (x_seq ?_))
      have ha : al = true := hiff.2 (by omega)
      rw [ha, if_pos rfl, if_pos rfl]
      refine x_region (s_val rfl (v_move rfl) (s_val rfl (v_loadAll Tryz.isAgg30 Tryz.sizeOf30 rfl rfl) ?_))
      refine s_val rfl (v_move rfl) (s_do rfl (d_call3 Tryz.call14 rfl (rwFind_spec W0 _ qv qs qm d fr pg h hF on root user va hva 2)) ?_)
      rintro _ B_ ⟨rfl, hB_⟩
      obtain rfl := hB_.symm
      refine s_val rfl (v_move rfl) (s_val rfl (v_extract rfl rfl) (s_val rfl (v_extract rfl rfl) (s_do rfl (d_allocA Tryz.zeroValue54) ?_)))
      rintro _ _ ⟨b11, rfl, rfl⟩
      refine s_do0 (d_storeAll Tryz.sizeOf54 rfl rfl rfl rfl rfl) ?_
      rintro _ _ rfl
      refine s_val rfl (v_assign rfl) (x_nil (n_then ?_))
      refine x_cut (fun _ : Unit => True) (fun _ => [(12, .int .i64 (fnwE fr pg on root user va 2))]) (fun _ => rvwW qv qs qm d (if fnwE fr pg on root user va 2 = 0 then svF fr (fnwX fndF fr pg on root user va 2) (fnwX fndO fr pg on root user va 2) w x else fr) pg R) ?_ ?_
      · skip
        refine x_seq (x_region (s_val rfl (v_move rfl) (s_val rfl (v_eql rfl rfl) (x_nil (n_then ?_)))))
        refine x_if rfl ?_ ?_
        · intro c4
          refine x_draw [(qv, 0, _), (b11, 0, _)] 11 mixed rfl (sc_own (sc_own sc_end)) (fun hS => ?_)
          refine d_take 0 rfl rfl (by kernel_rfl) (by kernel_rfl) (by kernel_rfl) rfl hS (v_move rfl) ?_
          refine d_take 1 rfl rfl (by kernel_rfl) (by kernel_rfl) (by kernel_rfl) rfl hS (v_nilCheck rfl) ?_
          refine d_take 2 rfl rfl (by kernel_rfl) (by kernel_rfl) (by kernel_rfl) rfl hS (v_fieldAddr rfl Tryz.underlying43 rfl Tryz.sizeOf39 rfl (by first | exact Nat.zero_add _ | rfl)) ?_
          refine d_take 3 rfl rfl (by kernel_rfl) (by kernel_rfl) (by kernel_rfl) rfl hS (v_load Tryz.isAgg39 rfl (by first | exact cell_sc0 (k := 0) rfl rfl | exact cell_sc0 (k := 1) rfl rfl)) ?_
          refine d_take 4 rfl rfl (by kernel_rfl) (by kernel_rfl) (by kernel_rfl) rfl hS (v_fieldAddr rfl Tryz.underlying54 rfl Tryz.sizeOf3 rfl (by first | exact Nat.zero_add _ | rfl)) ?_
          refine d_take 5 rfl rfl (by kernel_rfl) (by kernel_rfl) (by kernel_rfl) rfl hS (v_load Tryz.isAgg3 rfl (by first | exact cell_sc0 (k := 0) rfl rfl | exact cell_sc0 (k := 1) rfl rfl)) ?_
          refine d_take 6 rfl rfl (by kernel_rfl) (by kernel_rfl) (by kernel_rfl) rfl hS (v_fieldAddr rfl Tryz.underlying54 rfl Tryz.sizeOf3 rfl (by first | exact Nat.zero_add _ | rfl)) ?_
          refine d_take 7 rfl rfl (by kernel_rfl) (by kernel_rfl) (by kernel_rfl) rfl hS (v_load Tryz.isAgg3 rfl (by first | exact cell_sc0 (k := 0) rfl rfl | exact cell_sc0 (k := 1) rfl rfl)) ?_
          refine d_take 8 rfl rfl (by kernel_rfl) (by kernel_rfl) (by kernel_rfl) rfl hS (v_move rfl) ?_
          refine d_take 9 rfl rfl (by kernel_rfl) (by kernel_rfl) (by kernel_rfl) rfl hS (v_move rfl) ?_
          refine d_one 10 (by kernel_rfl) rfl rfl (d_call1 Tryz.call34 rfl (rfSave_spec W0 _ qs fr _ _ w x hx hF)) rfl ?_; clear hS
          rintro _ B_ ⟨rfl, hB_⟩
          obtain rfl := hB_.symm
          refine ⟨(sc_own (sc_own sc_end)), fun hS => ?_⟩
          refine d_done (by kernel_rfl) ?_; clear hS
          refine n_then ?_
          refine mid_intro () ?_ ?_ ?_
          · trivial
          · repeat (first | exact sub_nil | refine sub_cons rfl ?_)
          · rw [if_pos c4]
            exact inferInstance
        · intro c4
          refine x_skip (n_then ?_)
          refine mid_intro () ?_ ?_ ?_
          · trivial
          · repeat (first | exact sub_nil | refine sub_cons rfl ?_)
          · rw [if_neg c4]
            exact inferInstance
      · intro _ _
        refine x_seq (x_region (s_val rfl (v_move rfl) (s_val rfl (v_assign rfl) (x_nil (n_then (x_ret (x_done (.inl rfl) (.cons (r_tmp rfl) .nil) ?_)))))))
        exact ⟨_, ⟨rfl, rfl⟩, inferInstance⟩
end Go.Proofs.YtllkdnadmmjehaaGreatDoor
namespace Go.Proofs.YtllkdnadmmjehaaGreatDoor
open Go.RowKit
set_option linter.unusedSimpArgs false
set_option linter.unusedVariables false
set_option maxRecDepth 20000
theorem bit_w {n : Nat} (h : n < 16) (hb : bitR (n : Int) 2 = true) : wB (n : Int) = true := by
  have key : ∀ n : Nat, n < 16 → bitR (n : Int) 2 = true → wB (n : Int) = true := by decide +kernel
  exact key n h hb
theorem or_bit {d p t : Nat} (h : Nat.testBit (d ||| 2 ^ p) t = false) : Nat.testBit d t = false ∧ t ≠ p := by
  rw [Nat.testBit_or, Bool.or_eq_false_iff] at h
  refine ⟨h.1, fun e => ?_⟩
  subst e
  rw [Nat.testBit_two_pow_self] at h
  exact absurd h.2 (by decide)
theorem mmSave_spec (W0 : World) (R : List HP) (hK : ∀ A, Cells (OwnP W0 A) 0 0 kdV) (bm pv bt bs ps pm d : Nat) (on : Bool) (root : Int) (user : Bool) (va : Nat) (hva : va < 4294967296) (w : Int) (x : Nat) (hx : x < 4294967296) (its : List It) (room now : Nat) (T : List It) (L : List Ln) (fr : List Frm) (pg : List Pl) (hR : Rep its now T) (hT : T.length ≤ room) (hr : room ≤ 4) (hn : now < 900000) (h : MOk fr pg d L T) :
    Spec Tryz.prog W0 7 [.pointer (some ⟨bm, 0, none⟩), .agg (moV on root user).toArray, .int .u32 va, .int .i64 w, .int .u32 x] (pt bm (mmO pv bt bs) :: rowH bt (its, tlV room now) :: shH bs L :: vwW pv ps pm d fr pg R)
      (fun v B => v = .int .i64 (ldME fr pg on root user va w 2) ∧ ∃ its' T' L' now' d', Rep its' now' T' ∧ T'.length ≤ room ∧ MOk (svM fr pg on root user va w x) pg d' L' T' ∧ now' ≤ now + 3 ∧ B = pt bm (mmO pv bt bs) :: rowH bt (its', tlV room now') :: shH bs L' :: vwW pv ps pm d' (svM fr pg on root user va w x) pg R) := by
  obtain ⟨al, hal⟩ : ∃ a, alB va w = a := ⟨_, rfl⟩
  rw [svM, ldME, hal]
  have hpa := fun q => fnw_pa (fr := fr) (pg := pg) (on := on) (root := root) (user := user) (va := va) (kind := 2) q
  obtain ⟨E, hE⟩ : ∃ e, fnwE fr pg on root user va 2 = e := ⟨_, rfl⟩
  rw [hE] at hpa
  refine spec_body Tryz.func7 Tryz.ntmps7 rfl rfl ?_
  refine x_seq (x_region (s_do rfl (d_boxA rfl) ?_))
  rintro _ _ ⟨b6, rfl, rfl⟩
  refine s_val rfl (v_assign rfl) (x_nil (n_then (x_seq (x_block (x_seq (x_region (s_val rfl (v_move rfl) (s_do rfl (d_call1 Tryz.call31 rfl (mmNone_spec W0 _ bm pv bt bs)) ?_))))))))
  rintro _ B_ ⟨rfl, hB_⟩
  obtain rfl := hB_.symm
  refine s_val rfl (v_assign rfl) (x_nil (n_then ?_))
  refine x_if rfl ?_ ?_
  · intro c1
    exact absurd c1 (by decide)
  · intro c1
    refine x_seq (x_region (s_val rfl (v_move rfl) (s_val rfl (v_move rfl) (s_do rfl (d_call Tryz.call32 rfl (mmAligned_spec W0 _ va hva w)) ?_))))
    rintro _ B_ ⟨rfl, hB_⟩
    subst hB_
    rw [hal]
    refine s_val rfl (v_not rfl) (s_val rfl (v_assign rfl) (x_nil (n_then ?_)))
    refine x_if rfl ?_ ?_
    · intro c3
      refine x_seq (x_region (s_val rfl (v_assign rfl) (x_nil (n_then (x_ret (r_block (r_then (x_done (.inl rfl) (.cons (r_tmp rfl) .nil) ?_))))))))
      have ha : al = false := by cases al <;> simp_all
      rw [ha, if_neg (by decide), if_neg (by decide)]
      exact ⟨_, ⟨rfl, its, T, L, now, d, hR, hT, h, by omega, rfl⟩, inferInstance⟩
    · intro c3
      refine x_skip (n_block (n_then (x_seq ?_)))
      have ha : al = true := by cases al <;> simp_all
      rw [ha, if_pos rfl, if_pos rfl, hE]
      refine x_region (s_val rfl (v_move rfl) (s_val rfl (v_loadAll Tryz.isAgg30 Tryz.sizeOf30 rfl rfl) ?_))
      refine s_val rfl (v_move rfl) (s_do rfl (d_call6 Tryz.call13 rfl (mmFind_spec W0 _ hK bm pv bt bs ps pm d on root user va hva 2 its room now T L fr pg hR hT hr hn h)) ?_)
      rintro _ B_ ⟨fast, its2, T2, L2, now2, d2, rfl, hfast, hR2, hT2, h2, hn2, hB_⟩
      subst hB_
      rw [hE]
      replace hfast := hfast.hit
      rw [hE] at hfast
      refine s_val rfl (v_move rfl) (s_val rfl (v_extract rfl rfl) (s_val rfl (v_extract rfl rfl) (s_do rfl (d_allocA Tryz.zeroValue54) ?_)))
      rintro _ _ ⟨b11, rfl, rfl⟩
      refine s_do0 (d_storeAll Tryz.sizeOf54 rfl rfl rfl rfl rfl) ?_
      rintro _ _ rfl
      refine s_val rfl (v_assign rfl) (x_nil (n_then (x_seq (x_block (x_seq (x_region (s_val rfl (v_move rfl) (s_val rfl (v_neq rfl rfl) (s_val rfl (v_assign rfl) (x_nil (n_then ?_)))))))))))
      refine x_if rfl ?_ ?_
      · intro c6
        refine x_seq (x_region (s_val rfl (v_move rfl) (s_val rfl (v_assign rfl) (x_nil (n_then (x_ret (r_block (r_then (x_done (.inl rfl) (.cons (r_tmp rfl) .nil) ?_)))))))))
        rw [if_neg c6]
        exact ⟨_, ⟨rfl, its2, T2, L2, now2, d2, hR2, hT2, h2, hn2, rfl⟩, inferInstance⟩
      · intro c6
        refine x_seq ?_
        obtain rfl : E = 0 := by omega
        rw [if_pos rfl]
        obtain ⟨pa, p1, p2, p3, p4, p5, p6⟩ := hpa rfl
        have hth := fnd_th p3
        have hfw := fnd_w (w := w) p3 (hal.trans ha) p2
        rw [p4, p5, p6]
        rw [p4] at hfast
        refine x_region ?_
        refine s_val rfl (v_fieldAddr rfl Tryz.underlying54 rfl Tryz.sizeOf4 rfl (by first | exact Nat.zero_add _ | rfl)) ?_
        refine s_val rfl (v_load Tryz.isAgg4 rfl (cell_own rfl)) ?_
        refine s_val rfl (v_assign rfl) (x_nil (n_then ?_))
        refine x_if rfl ?_ ?_
        · intro c8
          refine x_seq ?_
          have hno : ∀ y ∈ L2, ∀ t, t = y.rt ∨ t = y.lf → Nat.testBit d2 t.toNat = false → t ≠ ((pa / 64 : Nat) : Int) := fun y hy t ht _ e => by
            obtain ⟨_, z, hz, e1, hm⟩ := hfast (by simp_all)
            simp only [mayB20, Bool.and_eq_true] at hm
            have hzr := (h2.ln z hz).r
            have hb : bitR z.e.2.2 2 = true := hm.1.2.1
            have hw : wB z.e.2.2 = true := by
              obtain ⟨n, hn⟩ : ∃ n : Nat, z.e.2.2 = (n : Int) := ⟨z.e.2.2.toNat, by omega⟩
              rw [hn] at hb ⊢
              exact bit_w (by omega) hb
            have ht2 := h2.ti.nowr z hz hw
            rw [← Bool.not_eq_true, shT_iff] at ht2
            exact ht2 ⟨y, hy, by rw [thr_iff, e1, ← e]; exact ht.imp Eq.symm Eq.symm⟩
          have hms := h2.save hth ((pa % 64 : Nat) : Int) w x h2.dl (fun t q => q) hno
          refine x_draw [(bm, 0, _), (b11, 0, _)] 12 mixed rfl (sc_own (sc_own sc_end)) (fun hS => ?_)
          refine d_take 0 rfl rfl (by kernel_rfl) (by kernel_rfl) (by kernel_rfl) rfl hS (v_move rfl) ?_
          refine d_take 1 rfl rfl (by kernel_rfl) (by kernel_rfl) (by kernel_rfl) rfl hS (v_nilCheck rfl) ?_
          refine d_take 2 rfl rfl (by kernel_rfl) (by kernel_rfl) (by kernel_rfl) rfl hS (v_fieldAddr rfl Tryz.underlying97 rfl Tryz.sizeOf25 rfl (by first | exact Nat.zero_add _ | rfl)) ?_
          refine d_take 3 rfl rfl (by kernel_rfl) (by kernel_rfl) (by kernel_rfl) rfl hS (v_load Tryz.isAgg25 rfl (by first | exact cell_sc0 (k := 0) rfl rfl | exact cell_sc0 (k := 1) rfl rfl)) ?_
          refine d_take 5 rfl rfl (by kernel_rfl) (by kernel_rfl) (by kernel_rfl) rfl hS (v_fieldAddr rfl Tryz.underlying54 rfl Tryz.sizeOf3 rfl (by first | exact Nat.zero_add _ | rfl)) ?_
          refine d_take 6 rfl rfl (by kernel_rfl) (by kernel_rfl) (by kernel_rfl) rfl hS (v_load Tryz.isAgg3 rfl (by first | exact cell_sc0 (k := 0) rfl rfl | exact cell_sc0 (k := 1) rfl rfl)) ?_
          refine d_take 7 rfl rfl (by kernel_rfl) (by kernel_rfl) (by kernel_rfl) rfl hS (v_fieldAddr rfl Tryz.underlying54 rfl Tryz.sizeOf3 rfl (by first | exact Nat.zero_add _ | rfl)) ?_
          refine d_take 8 rfl rfl (by kernel_rfl) (by kernel_rfl) (by kernel_rfl) rfl hS (v_load Tryz.isAgg3 rfl (by first | exact cell_sc0 (k := 0) rfl rfl | exact cell_sc0 (k := 1) rfl rfl)) ?_
          refine d_take 9 rfl rfl (by kernel_rfl) (by kernel_rfl) (by kernel_rfl) rfl hS (v_move rfl) ?_
          refine d_take 10 rfl rfl (by kernel_rfl) (by kernel_rfl) (by kernel_rfl) rfl hS (v_move rfl) ?_
          refine d_one 4 (by kernel_rfl) rfl rfl (d_call1 Tryz.call9 rfl (viStore_spec W0 _ pv ps pm d2)) rfl ?_; clear hS
          rintro _ B_ ⟨rfl, hB_⟩
          obtain rfl := hB_.symm
          refine ⟨(sc_own (sc_own sc_end)), fun hS => ?_⟩
          refine d_one 11 (by kernel_rfl) rfl rfl (d_call1 Tryz.call33 rfl (frSave_spec W0 _ ps fr _ _ w x hx h2.F)) rfl ?_; clear hS
          rintro _ B_ ⟨rfl, hB_⟩
          obtain rfl := hB_.symm
          refine ⟨(sc_own (sc_own sc_end)), fun hS => ?_⟩
          refine d_done (by kernel_rfl) ?_; clear hS
          refine n_then (x_seq (x_region (s_val rfl (v_assign rfl) (x_nil (n_then (x_ret (r_block (r_then (x_done (.inl rfl) (.cons (r_tmp rfl) .nil) ?_)))))))))
          exact ⟨_, ⟨rfl, its2, T2, L2, now2, d2, hR2, hT2, hms, hn2, rfl⟩, inferInstance⟩
        · intro c8
          refine x_skip (n_block (n_then (x_seq ?_)))
          have hpl : pa / 64 < 12 := by omega
          have hdl : d2 ||| 2 ^ (pa / 64) < 4096 := Nat.or_lt_two_pow (n := 12) h2.dl (page_lt hpl)
          have hms := h2.save hth ((pa % 64 : Nat) : Int) w x hdl (fun t q => (or_bit q).1) (fun y hy t ht hb e => by
            have h1 := (h2.ln y hy).own
            have h3 := (or_bit hb).2
            rcases ht with rfl | rfl <;> omega)
          have hvF : vsvF fr pg pa w x = svF fr (gGot pg ((pa / 64 : Nat) : Int)).1 ((pa % 64 : Nat) : Int) w x := by rw [vsvF, if_pos hfw]
          have hvD : vsvD fr pg pa w d2 = d2 ||| 2 ^ (pa / 64) := by rw [vsvD, if_pos hfw]
          refine x_draw [(bm, 0, _), (b11, 0, _)] 15 mixed rfl (sc_own (sc_own sc_end)) (fun hS => ?_)
          refine d_take 0 rfl rfl (by kernel_rfl) (by kernel_rfl) (by kernel_rfl) rfl hS (v_move rfl) ?_
          refine d_take 1 rfl rfl (by kernel_rfl) (by kernel_rfl) (by kernel_rfl) rfl hS (v_nilCheck rfl) ?_
          refine d_take 2 rfl rfl (by kernel_rfl) (by kernel_rfl) (by kernel_rfl) rfl hS (v_fieldAddr rfl Tryz.underlying97 rfl Tryz.sizeOf25 rfl (by first | exact Nat.zero_add _ | rfl)) ?_
          refine d_take 3 rfl rfl (by kernel_rfl) (by kernel_rfl) (by kernel_rfl) rfl hS (v_load Tryz.isAgg25 rfl (by first | exact cell_sc0 (k := 0) rfl rfl | exact cell_sc0 (k := 1) rfl rfl)) ?_
          refine d_take 4 rfl rfl (by kernel_rfl) (by kernel_rfl) (by kernel_rfl) rfl hS (v_fieldAddr rfl Tryz.underlying54 rfl Tryz.sizeOf3 rfl (by first | exact Nat.zero_add _ | rfl)) ?_
          refine d_take 5 rfl rfl (by kernel_rfl) (by kernel_rfl) (by kernel_rfl) rfl hS (v_load Tryz.isAgg3 rfl (by first | exact cell_sc0 (k := 0) rfl rfl | exact cell_sc0 (k := 1) rfl rfl)) ?_
          refine d_take 6 rfl rfl (by kernel_rfl) (by kernel_rfl) (by kernel_rfl) rfl hS (v_mul rfl rfl (by rw [w64 (by omega)]; omega : IntKind.wrap .i64 (((pa / 64 : Nat) : Int) * 64) = ((64 * (pa / 64) : Nat) : Int))) ?_
          refine d_take 7 rfl rfl (by kernel_rfl) (by kernel_rfl) (by kernel_rfl) rfl hS (v_fieldAddr rfl Tryz.underlying54 rfl Tryz.sizeOf3 rfl (by first | exact Nat.zero_add _ | rfl)) ?_
          refine d_take 8 rfl rfl (by kernel_rfl) (by kernel_rfl) (by kernel_rfl) rfl hS (v_load Tryz.isAgg3 rfl (by first | exact cell_sc0 (k := 0) rfl rfl | exact cell_sc0 (k := 1) rfl rfl)) ?_
          refine d_take 9 rfl rfl (by kernel_rfl) (by kernel_rfl) (by kernel_rfl) rfl hS (v_add rfl rfl (by rw [w64 (by omega)]; omega : IntKind.wrap .i64 (((64 * (pa / 64) : Nat) : Int) + ((pa % 64 : Nat) : Int)) = ((pa : Nat) : Int))) ?_
          refine d_take 10 rfl rfl (by kernel_rfl) (by kernel_rfl) (by kernel_rfl) rfl hS (v_conv Tryz.underlying3 Tryz.underlying31 rfl (w32u (by omega))) ?_
          refine d_take 11 rfl rfl (by kernel_rfl) (by kernel_rfl) (by kernel_rfl) rfl hS (v_move rfl) ?_
          refine d_take 12 rfl rfl (by kernel_rfl) (by kernel_rfl) (by kernel_rfl) rfl hS (v_move rfl) ?_
          refine d_one 13 (by kernel_rfl) rfl rfl (d_call3 Tryz.call28 rfl (viSave_spec W0 _ pv ps pm d2 fr pg h2.P h2.F h2.dl pa (by omega) w x hx)) rfl ?_; clear hS
          rintro _ B_ ⟨rfl, hB_⟩
          subst hB_
          rw [hvF, hvD, hfw]
          refine ⟨(sc_own (sc_own sc_end)), fun hS => ?_⟩
          refine d_take 14 rfl rfl (by kernel_rfl) (by kernel_rfl) (by kernel_rfl) rfl hS (v_assign rfl) ?_
          refine d_done (by kernel_rfl) ?_; clear hS
          refine n_then (x_ret (x_done (.inl rfl) (.cons (r_tmp rfl) .nil) ?_))
          exact ⟨_, ⟨rfl, its2, T2, L2, now2, _, hR2, hT2, hms, hn2, rfl⟩, inferInstance⟩
end Go.Proofs.YtllkdnadmmjehaaGreatDoor
namespace Go.Proofs.YtllkdnadmmjehaaGreatDoor
open Go.RowKit
set_option linter.unusedSimpArgs false
set_option linter.unusedVariables false
set_option maxRecDepth 20000
theorem set_plAt {pg : List Pl} {n m : Nat} {p : Pl} (h : m ≠ n) : plAt (pg.set n p) m = plAt pg m := by
  unfold plAt
  simp only [List.getD_eq_getElem?_getD]
  rw [List.getElem?_set_ne (fun e => h e.symm)]
theorem set_there {pg : List Pl} {n : Nat} {t : Int} {p : Pl} (h : t ≠ (n : Int)) : thereB (pg.set n p) t = thereB pg t ∧ gGot (pg.set n p) t = gGot pg t := by
  have key : thereB (pg.set n p) t = thereB pg t := by
    unfold thereB
    cases hp : isP t with
    | false => rfl
    | true =>
      obtain ⟨i, rfl, hi⟩ := isP_nat hp
      rw [Int.toNat_natCast, set_plAt (by omega)]
  refine ⟨key, ?_⟩
  unfold gGot
  rw [key]
  by_cases hth : thereB pg t = true
  · rw [if_pos hth, if_pos hth]
    simp only [thereB, Bool.and_eq_true] at hth
    obtain ⟨i, rfl, hi⟩ := isP_nat hth.1
    rw [Int.toNat_natCast, set_plAt (by omega)]
  · rw [if_neg hth, if_neg hth]
theorem set_same {fr : List Frm} {pg : List Pl} {n : Nat} {t : Int} {p : Pl} (h : t ≠ (n : Int)) : Same fr pg fr (pg.set n p) t :=
  same_of rfl (set_there h).1 (set_there h).2 fun _ _ _ => rfl
theorem LOk.set {fr : List Frm} {pg : List Pl} {d n : Nat} {p : Pl} {x : Ln} (h : LOk fr pg d x) (h1 : x.e.1 ≠ (n : Int)) (h2 : ∀ t, t = x.rt ∨ t = x.lf → thereB pg t = true → t ≠ (n : Int)) : LOk fr (pg.set n p) d x :=
  h.move ((set_there h1).1.trans h.at_.1) (set_there h1).2 fun t ht hb => ⟨hb, fun q => set_same (h2 t ht q)⟩
theorem set_pl {pg : List Pl} {n : Nat} {p : Pl} (hl : pg.length = 12) (h : ∀ m : Nat, m < 12 → plAt pg m = (0, 0) ∨ plAt pg m = pl20 m) (hp : p = (0, 0) ∨ p = pl20 n) : ∀ m : Nat, m < 12 → plAt (pg.set n p) m = (0, 0) ∨ plAt (pg.set n p) m = pl20 m := fun m hm => by
  by_cases e : m = n
  · subst e
    have : plAt (pg.set m p) m = p := by unfold plAt; simp [List.getD, hl, hm]
    rw [this]; exact hp
  · rw [set_plAt e]; exact h m hm
theorem MOk.come {fr : List Frm} {pg : List Pl} {d n : Nat} {L : List Ln} {T : List It} (h : MOk fr pg d L T) : MOk fr (setP pg n (pl20 n)) d L T := by
  unfold setP
  split
  case isFalse => exact h
  case isTrue hz =>
    have hno : thereB pg (n : Int) = false := by
      unfold setE at hz
      split at hz
      · split at hz
        · exact absurd hz (by decide)
        · rename_i q; simpa using q
      · exact absurd hz (by decide)
    have hP := setP_ok (n := (n : Int)) (p := pl20 n) h.P
    rw [setP, if_pos hz] at hP
    rw [Int.toNat_natCast] at hP ⊢
    refine ⟨h.F, h.n, h.dl, hP, set_pl h.P.len h.pl (.inr rfl), h.ti, fun x hx => (h.ln x hx).set (fun e => ?_) fun t _ q e => ?_⟩
    · have := (h.ln x hx).at_.1
      rw [e, hno] at this; cases this
    · rw [e, hno] at q; cases q
theorem LOk.go {fr : List Frm} {pg : List Pl} {d n : Nat} {x : Ln} (h : LOk fr pg d x) (hg : goneP (n : Int) x = false) : LOk fr (drP pg (n : Int)) d x := by
  unfold drP
  split
  · rw [Int.toNat_natCast]
    simp only [goneP, Bool.or_eq_false_iff, decide_eq_false_iff_not] at hg
    refine h.set hg.2 fun t ht _ e => ?_
    have h1 := hg.1
    rw [← Bool.not_eq_true, thr_iff] at h1
    rcases ht with rfl | rfl
    · exact h1 (.inl e)
    · exact h1 (.inr e)
  · exact h
theorem go_pl {pg : List Pl} {n : Nat} (hl : pg.length = 12) (h : ∀ m : Nat, m < 12 → plAt pg m = (0, 0) ∨ plAt pg m = pl20 m) : ∀ m : Nat, m < 12 → plAt (drP pg (n : Int)) m = (0, 0) ∨ plAt (drP pg (n : Int)) m = pl20 m := by
  unfold drP
  split
  · rw [Int.toNat_natCast]; exact set_pl hl h (.inl rfl)
  · exact h
theorem mmGone_spec (W0 : World) (R : List HP) (bm pv bt bs ps pm d : Nat) (its : List It) (room now : Nat) (T : List It) (L : List Ln) (fr : List Frm) (pg : List Pl) (hR : Rep its now T) (hT : T.length ≤ room) (hr : room ≤ 4) (n : Nat) (h : MOk fr pg d L T) :
    Spec Tryz.prog W0 39 [.pointer (some ⟨bm, 0, none⟩), .int .i64 n] (pt bm (mmO pv bt bs) :: rowH bt (its, tlV room now) :: shH bs L :: pt pv (viO ps pm d) :: R)
      (fun v B => v = .int .i64 0 ∧ ∃ its' T' L', B = pt bm (mmO pv bt bs) :: rowH bt (its', tlV room now) :: shH bs L' :: pt pv (viO ps pm 0) :: R ∧ Rep its' now T' ∧ T'.length ≤ room ∧ MOk fr (drP pg (n : Int)) 0 L' T') := by
  obtain ⟨I, hI⟩ : ∃ I : List Ln → List It → Prop, (fun L T => TI L T ∧ ∀ x ∈ L, goneP (n : Int) x = false → LOk fr (drP pg (n : Int)) d x) = I := ⟨_, rfl⟩
  have hI0 : I L T := by
    rw [← hI]
    exact ⟨h.ti, fun x hx q => (h.ln x hx).go q⟩
  have hIl : ∀ L T, I L T → L.length ≤ 1000 := fun L T q => by
    rw [← hI] at q
    exact Nat.le_trans q.1.len (by decide)
  have hId : ∀ L T p, I L T → I (L.filter fun x => !p x) (dropK ((L.filter p).map Ln.k) T) := fun L T p q => by
    rw [← hI] at q ⊢
    exact ⟨q.1.drop p fun y hy => by
      obtain ⟨h1, h2⟩ := dropK_sub hy
      exact ⟨h1, fun x hx hf e => h2 (List.mem_map.2 ⟨x, List.mem_filter.2 ⟨hx, hf⟩, e.symm⟩)⟩, fun x hx => q.2 x (List.mem_filter.1 hx).1⟩
  refine spec_body Tryz.func39 Tryz.ntmps39 rfl rfl ?_
  refine x_seq (x_region (s_val rfl (v_assign rfl) (x_nil (n_then (x_seq (x_seq (x_region (s_val rfl (v_move rfl) (s_do rfl (d_call1 Tryz.call31 rfl (mmNone_spec W0 _ bm pv bt bs)) ?_)))))))))
  rintro _ B_ ⟨rfl, hB_⟩
  obtain rfl := hB_.symm
  refine x_nil (n_then ?_)
  refine x_if rfl ?_ ?_
  · intro c1
    exact absurd c1 (by decide)
  · intro c1
    refine x_skip (n_then (x_seq (x_region (s_val rfl (v_move rfl) (s_do rfl (d_call4 Tryz.call42 rfl (mmSyncG_spec W0 _ bm pv bt bs ps pm d its (.int .i64 room) (.int .i64 now) now room T L hR hT hr h.dl I hIl hId hI0)) ?_)))))
    rintro _ B_ ⟨rfl, its1, T1, L1, hB_, hR1, hT1, hI1, hc1, _⟩
    subst hB_
    have hl1 := hIl L1 T1 hI1
    have hI2 := hId L1 T1 (goneP (n : Int)) hI1
    obtain ⟨ks, hks⟩ : ∃ ks, (L1.filter (goneP (n : Int))).map Ln.k = ks := ⟨_, rfl⟩
    have hkl : (L1.filter (goneP (n : Int))).length = ks.length := by rw [← hks, List.length_map]
    have hkn : ks.length ≤ 1000 := by rw [← hkl]; exact Nat.le_trans (List.length_filter_le _ _) (by omega)
    rw [hks] at hI2
    refine x_nil (n_then (x_seq (x_region (s_val rfl (v_move rfl) (s_val rfl (v_move rfl) (s_val rfl (v_nilCheck rfl) ?_))))))
    refine s_val rfl (v_fieldAddr rfl Tryz.underlying97 rfl Tryz.sizeOf95 rfl (by first | exact Nat.zero_add _ | rfl)) ?_
    refine s_val rfl (v_load Tryz.isAgg95 rfl (cell_own rfl)) ?_
    refine s_val rfl (v_move rfl) (s_do rfl (d_call1 Tryz.call68 rfl (shGone_spec W0 _ bs L1 hl1 (n : Int))) ?_)
    rintro _ B_ ⟨aw, cw, rfl, hB_⟩
    subst hB_
    rw [ky_fm, hks, hkl]
    refine s_do rfl (d_call3 Tryz.call67 rfl (mmForget_spec W0 _ bm pv bt bs its1 (.int .i64 room) (.int .i64 now) now T1 hR1 (by omega) aw cw ks hkn)) ?_
    rintro _ B_ ⟨rfl, its2, hB_, hR2⟩
    subst hB_
    refine x_nil (n_then (x_seq (x_region (s_val rfl (v_assign rfl) (x_nil (n_then (x_ret (x_done (.inl rfl) (.cons (r_tmp rfl) .nil) ?_))))))))
    rw [← hI] at hI2
    have hm : MOk fr (drP pg (n : Int)) 0 (L1.filter fun x => !goneP (n : Int) x) (dropK ks T1) := ⟨h.F, h.n, by decide, drP_ok h.P, go_pl h.P.len h.pl, hI2.1, fun x hx => by
      obtain ⟨hx1, hx2⟩ := List.mem_filter.1 hx
      exact (hI2.2 x hx (by simpa using hx2)).clean (hc1 x hx1)⟩
    exact ⟨_, ⟨rfl, its2, dropK ks T1, L1.filter fun x => !goneP (n : Int) x, rfl, hR2, Nat.le_trans dropK_len hT1, hm⟩, inferInstance⟩
theorem MOk.flush {fr : List Frm} {pg : List Pl} {L : List Ln} {T : List It} (h : MOk fr pg 0 L T) : MOk fr pg 0 [] [] := ⟨h.F, h.n, h.dl, h.P, h.pl, TI.nil, fun x hx => by simp at hx⟩
theorem mmFlush_spec (W0 : World) (R : List HP) (bm pv bt bs ps pm d : Nat) (its : List It) (room now : Nat) (T : List It) (L : List Ln) (fr : List Frm) (pg : List Pl) (hR : Rep its now T) (hT : T.length ≤ room) (hr : room ≤ 4) (h : MOk fr pg d L T) :
    Spec Tryz.prog W0 40 [.pointer (some ⟨bm, 0, none⟩)] (pt bm (mmO pv bt bs) :: rowH bt (its, tlV room now) :: shH bs L :: pt pv (viO ps pm d) :: R)
      (fun v B => ∃ k its', v = .int .i64 k ∧ B = pt bm (mmO pv bt bs) :: rowH bt (its', tlV room now) :: shH bs [] :: pt pv (viO ps pm 0) :: R ∧ Rep its' now [] ∧ MOk fr pg 0 [] []) := by
  refine spec_body Tryz.func40 Tryz.ntmps40 rfl rfl ?_
  refine x_seq (x_region (s_val rfl (v_assign rfl) (x_nil (n_then (x_seq (x_seq (x_region (s_val rfl (v_move rfl) (s_do rfl (d_call1 Tryz.call31 rfl (mmNone_spec W0 _ bm pv bt bs)) ?_)))))))))
  rintro _ B_ ⟨rfl, hB_⟩
  obtain rfl := hB_.symm
  refine x_nil (n_then ?_)
  refine x_if rfl ?_ ?_
  · intro c1
    exact absurd c1 (by decide)
  · intro c1
    refine x_skip (n_then (x_seq (x_region (s_val rfl (v_move rfl) (s_do rfl (d_call4 Tryz.call42 rfl (mmSync_spec W0 _ bm pv bt bs ps pm d its (.int .i64 room) (.int .i64 now) now room T L fr pg hR hT hr h)) ?_)))))
    rintro _ B_ ⟨rfl, its1, T1, L1, hB_, hR1, hT1, h1, _⟩
    subst hB_
    have hil := hR1.length
    have hll := h1.ti.len
    refine x_nil (n_then (x_seq (x_region (s_val rfl (v_move rfl) (s_val rfl (v_nilCheck rfl) ?_)))))
    refine s_val rfl (v_fieldAddr rfl Tryz.underlying97 rfl Tryz.sizeOf94 rfl (by first | exact Nat.zero_add _ | rfl)) ?_
    refine s_val rfl (v_load Tryz.isAgg94 rfl (cell_own rfl)) ?_
    refine s_do rfl (d_call1 Tryz.call69 rfl (Flush_spec18 W0 _ bt its1 (.int .i64 room) (.int .i64 now) now T1 hR1 (by omega))) ?_
    rintro _ B_ ⟨rfl, its2, hB_, hR2⟩
    subst hB_
    refine x_nil (n_then (x_seq (x_region (s_val rfl (v_move rfl) (s_val rfl (v_nilCheck rfl) ?_)))))
    refine s_val rfl (v_fieldAddr rfl Tryz.underlying97 rfl Tryz.sizeOf95 rfl (by first | exact Nat.zero_add _ | rfl)) ?_
    refine s_val rfl (v_load Tryz.isAgg95 rfl (cell_own rfl)) ?_
    refine s_do rfl (d_call1 Tryz.call70 rfl (shFlush_spec W0 _ bs L1 (by omega))) ?_
    rintro _ B_ ⟨rfl, hB_⟩
    obtain rfl := hB_.symm
    refine s_val rfl (v_assign rfl) (x_nil (n_then (x_ret (x_done (.inl rfl) (.cons (r_tmp rfl) .nil) ?_))))
    exact ⟨_, ⟨_, its2, rfl, rfl, hR2, h1.flush⟩, inferInstance⟩
theorem mmNew_spec (W0 : World) (R : List HP) (pv ps pm d room : Nat) (hr : room ≤ 4) :
    Spec Tryz.prog W0 30 [.pointer (some ⟨pv, 0, none⟩), .int .i64 room] (pt pv (viO ps pm d) :: R)
      (fun v B => ∃ bm bt bs, v = .tuple #[.pointer (some ⟨bm, 0, none⟩), .int .i64 0] ∧ B = pt bm (mmO pv bt bs) :: rowH bt ([], tlV room 0) :: shH bs [] :: pt pv (viO ps pm d) :: R) := by
  refine spec_body Tryz.func30 Tryz.ntmps30 rfl rfl ?_
  refine x_seq (x_region (s_val rfl (v_assign rfl) (s_val rfl (v_assign rfl) (x_nil (n_then (x_seq (x_seq (x_region (s_val rfl (v_move rfl) (s_do rfl (d_call1 Tryz.call18 rfl (viMap_spec W0 _ pv ps pm d)) ?_))))))))))
  rintro _ B_ ⟨rfl, hB_⟩
  obtain rfl := hB_.symm
  refine s_val rfl (v_eql_ptr_nil Tryz.underlying72 rfl rfl) (x_nil (n_then ?_))
  refine x_if rfl ?_ ?_
  · intro c1
    exact absurd c1 (by simp)
  · intro c1
    refine x_skip (n_then (x_seq (x_region (s_val rfl (v_move rfl) (s_do rfl (d_call Tryz.call61 rfl (New_spec W0 _ room hr)) ?_)))))
    rintro _ B_ ⟨bt, rfl, hB_⟩
    subst hB_
    refine s_val rfl (v_move rfl) (s_val rfl (v_extract rfl rfl) (s_val rfl (v_extract rfl rfl) (s_val rfl (v_assign rfl) (s_val rfl (v_assign rfl) (x_nil (n_then (x_seq (x_seq (x_region (s_val rfl (v_move rfl) (s_val rfl (v_neq rfl rfl) (x_nil (n_then ?_)))))))))))))
    refine x_if rfl ?_ ?_
    · intro c4
      exact absurd rfl c4
    · intro c4
      refine x_skip (n_then (x_seq (x_region (s_val rfl (v_move rfl) (s_val rfl (v_move rfl) (s_do rfl (d_call Tryz.call62 rfl (shNew_spec W0 _)) ?_))))))
      rintro _ B_ ⟨bs, rfl, hB_⟩
      subst hB_
      refine s_val rfl (v_build Tryz.underlying97 Tryz.zeroValue97 (sized_cons Tryz.sizeOf25 (sized_cons Tryz.sizeOf94 (sized_cons Tryz.sizeOf95 sized_nil))) (fil_scal rfl Tryz.sizeOf25 rfl rfl (Nat.le_of_ble_eq_true rfl) SetL.eq (fil_scal rfl Tryz.sizeOf94 rfl rfl (Nat.le_of_ble_eq_true rfl) SetL.eq (fil_scal rfl Tryz.sizeOf95 rfl rfl (Nat.le_of_ble_eq_true rfl) SetL.eq fil_nil)))) ?_
      refine s_do rfl (d_boxA rfl) ?_
      rintro _ _ ⟨bm, rfl, rfl⟩
      refine s_val rfl (v_assign rfl) (s_val rfl (v_assign rfl) (x_nil (n_then (x_ret (x_done (.inl rfl) (.cons (r_tmp rfl) (.cons (r_tmp rfl) .nil)) ?_)))))
      exact ⟨_, ⟨bm, bt, bs, rfl, rfl⟩, inferInstance⟩
end Go.Proofs.YtllkdnadmmjehaaGreatDoor
namespace Go.Proofs.YtllkdnadmmjehaaGreatDoor
open Go.RowKit
set_option linter.unusedSimpArgs false
set_option linter.unusedVariables false
set_option maxRecDepth 20000
theorem place20_spec (W0 : World) (R : List HP) (n : Nat) (hn : n < 12) : Spec Tryz.prog W0 25 [.int .i64 n] R (fun v B => v = .agg (plV (pl20 n)).toArray ∧ B = R) := by
  refine spec_body Tryz.func25 Tryz.ntmps25 rfl rfl ?_
  refine x_seq (x_region (s_do rfl (d_allocA Tryz.zeroValue70) ?_))
  rintro _ _ ⟨b2, rfl, rfl⟩
  refine x_nil (n_then (x_seq (x_region (s_val rfl (v_move rfl) ?_))))
  refine s_val rfl (v_sub rfl rfl (by rw [w64 (by omega)]; omega : IntKind.wrap .i64 (11 - (n : Int)) = ((11 - n : Nat) : Int))) ?_
  refine s_val rfl (v_move rfl) ?_
  refine s_val rfl (v_quo rfl rfl (by decide) ((congrArg (IntKind.wrap .i64) (tdivN n 9)).trans (w64 (by omega)))) ?_
  refine s_val rfl (v_mul rfl rfl (by rw [w64 (by omega)]; omega : IntKind.wrap .i64 (2 * ((n / 9 : Nat) : Int)) = ((2 * (n / 9) : Nat) : Int))) ?_
  refine s_val rfl (v_sub rfl rfl (by rw [w64 (by omega)]; omega : IntKind.wrap .i64 (3 - ((2 * (n / 9) : Nat) : Int)) = ((3 - 2 * (n / 9) : Nat) : Int))) ?_
  refine s_val rfl (v_build Tryz.underlying70 Tryz.zeroValue70 (sized_cons Tryz.sizeOf3 (sized_cons Tryz.sizeOf3 sized_nil)) (fil_scal rfl Tryz.sizeOf3 rfl rfl (Nat.le_of_ble_eq_true rfl) SetL.eq (fil_scal rfl Tryz.sizeOf3 rfl rfl (Nat.le_of_ble_eq_true rfl) SetL.eq fil_nil))) ?_
  refine s_do0 (d_storeAll Tryz.sizeOf70 rfl rfl rfl rfl rfl) ?_
  rintro _ _ rfl
  refine x_nil (n_then (x_ret (x_done (.inl rfl) (.cons (r_all Tryz.isAgg70 Tryz.sizeOf70 rfl rfl) .nil) ?_)))
  exact ⟨_, ⟨rfl, rfl⟩, inferInstance⟩
theorem pg20_succ (i : Nat) : pg17 0 (i + 1) = setP (pg17 0 i) i (pl20 i) := by rw [pg17, if_pos (by simp)]; rfl
def mk20 (ts : List Pt17) : List Frm × Nat := mkS (pg17 0 10) ts (min ts.length 100)
theorem pg20_pl : ∀ n : Nat, n < 12 → plAt (pg17 0 10) n = (0, 0) ∨ plAt (pg17 0 10) n = pl20 n := by decide +kernel
theorem mk20_ok (ts : List Pt17) : MOk (mk20 ts).1 (pg17 0 10) (mk20 ts).2 [] [] := by
  obtain ⟨h1, h2, h3⟩ := mkS_ok (pg17 0 10) ts (min ts.length 100)
  exact ⟨h1, h2, h3, pg17_ok 0 10, pg20_pl, TI.nil, fun x hx => by simp at hx⟩
theorem made20_spec (W0 : World) (R : List HP) (room : Nat) (hr : room ≤ 4) (ap : Option Addr) (cp : Nat) (ts : List Pt17) (hts : SlA (OwnP W0 R) ap 2 pt17V ts) (htok : ∀ t ∈ ts, Pt17Ok t) (hl2 : ts.length < 9223372036854775808) :
    Spec Tryz.prog W0 6 [.int .i64 room, .slice ap ts.length cp] R
      (fun v B => ∃ bm bt bs pv ps pm qv qs qm, v = .tuple #[.pointer (some ⟨bm, 0, none⟩), .pointer (some ⟨pv, 0, none⟩), .pointer (some ⟨qv, 0, none⟩)] ∧ B = pt bm (mmO pv bt bs) :: rowH bt ([], tlV room 0) :: shH bs [] :: prH pv ps pm qv qs qm (mk20 ts).2 (mk20 ts).1 (pg17 0 10) R) := by
  refine spec_body Tryz.func6 Tryz.ntmps6 rfl rfl ?_
  refine x_seq (x_region (s_val rfl (v_assign rfl) (s_val rfl (v_assign rfl) (s_val rfl (v_assign rfl) (x_nil (n_then (x_seq (x_region ?_))))))))
  refine s_do rfl (d_call Tryz.call21 rfl (frNew_spec W0 _ 12 (by decide))) ?_
  rintro _ B_ ⟨ps, rfl, hB_⟩
  subst hB_
  refine s_val rfl (v_move rfl) (s_val rfl (v_extract rfl rfl) (s_val rfl (v_extract rfl rfl) (s_val rfl (v_assign rfl) (s_val rfl (v_assign rfl) (x_nil (n_then (x_seq (x_region (s_do rfl (d_call Tryz.call22 rfl (gmNew_spec W0 _)) ?_)))))))))
  rintro _ B_ ⟨pm, rfl, hB_⟩
  subst hB_
  refine s_val rfl (v_assign rfl) (x_nil (n_then (x_seq (x_region ?_))))
  refine s_do rfl (d_call Tryz.call23 rfl (rfNew_spec W0 _ 12 (by decide))) ?_
  rintro _ B_ ⟨qs, rfl, hB_⟩
  subst hB_
  refine s_val rfl (v_move rfl) (s_val rfl (v_extract rfl rfl) (s_val rfl (v_extract rfl rfl) (s_val rfl (v_assign rfl) (s_val rfl (v_assign rfl) (x_nil (n_then (x_seq (x_region (s_val rfl (v_build Tryz.underlying82 Tryz.zeroValue82 (sized_cons Tryz.sizeOf41 (sized_cons Tryz.sizeOf80 sized_nil)) fil_nil) ?_)))))))))
  refine s_do rfl (d_boxA rfl) ?_
  rintro _ _ ⟨qm, rfl, rfl⟩
  refine s_val rfl (v_assign rfl) (x_nil (n_then (x_seq (x_seq (run_pt (b := qm) (o' := rgO (List.replicate 12 (0, 0))) rfl ?_)))))
  refine x_region (s_val rfl (v_assign rfl) (x_nil (n_then (x_block ?_))))
  refine x_loop (fun i : Nat => i ≤ 10) (fun i => [(0, .int .i64 room), (1, .slice ap ts.length cp), (7, .pointer (some ⟨ps, 0, none⟩)), (9, .pointer (some ⟨pm, 0, none⟩)), (10, .pointer (some ⟨qs, 0, none⟩)), (12, .pointer (some ⟨qm, 0, none⟩)), (13, .int .i64 i)]) (fun i => pt qm (rgO (pg17 0 i)) :: rstoH qs (List.replicate 12 zeros) :: pt pm (gmO (pg17 0 i)) :: stoH ps (List.replicate 12 zeros) :: R) (fun i => 10 - i) 0 ?_ ?_ ?_ ?_
  · exact Nat.zero_le _
  · repeat (first | exact sub_nil | refine sub_cons rfl ?_)
  · simp only [pg17]; exact inferInstance
  · intro i hi
    have hP := pg17_ok 0 i
    have hs := pg20_succ i
    refine x_seq (x_seq (x_region (s_val rfl (v_move rfl) (s_val rfl (v_lss rfl rfl) (x_nil (n_then ?_))))))
    refine x_if rfl ?_ ?_
    · intro c6
      refine x_skip (n_then (x_seq (x_block (x_seq (x_region (s_val rfl (v_move rfl) (s_val rfl (v_move rfl) (s_val rfl (v_move rfl) ?_))))))))
      refine s_do rfl (d_call Tryz.call25 rfl (place20_spec W0 _ i (by omega))) ?_
      rintro _ B_ ⟨rfl, hB_⟩
      obtain rfl := hB_.symm
      refine s_do rfl (d_call1 Tryz.call24 rfl (gmSet_spec W0 _ pm _ hP i (pl20 i))) ?_
      rintro _ B_ ⟨rfl, hB_⟩
      obtain rfl := hB_.symm
      refine x_nil (n_then (x_region (s_val rfl (v_move rfl) (s_val rfl (v_move rfl) (s_val rfl (v_move rfl) ?_)))))
      refine s_do rfl (d_call Tryz.call25 rfl (place20_spec W0 _ i (by omega))) ?_
      rintro _ B_ ⟨rfl, hB_⟩
      obtain rfl := hB_.symm
      refine s_do rfl (d_call1 Tryz.call26 rfl (rgSet_spec W0 _ qm _ hP i (pl20 i))) ?_
      rintro _ B_ ⟨rfl, hB_⟩
      obtain rfl := hB_.symm
      refine x_nil (n_block (n_then (x_region (s_val rfl (v_move rfl) ?_))))
      refine s_val rfl (v_add rfl rfl (by first | exact w64 (by omega) | rfl)) ?_
      refine s_val rfl (v_assign rfl) (x_nil (n_then ?_))
      refine inv_intro (i + 1) ?_ ?_ ?_ ?_
      · omega
      · omega
      · repeat (first | exact sub_nil | refine sub_cons rfl ?_)
      · rw [hs]; exact inferInstance
    · intro c6
      refine x_exit (e_then (e_then (e_block (n_then (x_seq ?_)))))
      obtain rfl : i = 10 := by omega
      have hmk : mk20 ts = mkS (pg17 0 10) ts (min ts.length 100) := rfl
      have hP := pg17_ok 0 10
      obtain ⟨pg, hpg⟩ : ∃ x, pg17 0 10 = x := ⟨_, rfl⟩
      rw [hpg] at hP hmk ⊢
      refine x_region (s_val rfl (v_move rfl) (s_val rfl (v_move rfl) ?_))
      refine s_do rfl (d_call2 Tryz.call27 rfl (viNew_spec W0 _ ps pm _ _ hP (by decide))) ?_
      rintro _ B_ ⟨pv, rfl, hB_⟩
      subst hB_
      refine s_val rfl (v_move rfl) (s_val rfl (v_extract rfl rfl) (s_val rfl (v_extract rfl rfl) (s_val rfl (v_assign rfl) (s_val rfl (v_assign rfl) (x_nil (n_then (x_seq (x_seq (x_region (s_val rfl (v_move rfl) (s_val rfl (v_neq rfl rfl) (x_nil (n_then ?_)))))))))))))
      refine x_if rfl ?_ ?_
      · intro c11
        exact absurd rfl c11
      · intro c11
        refine x_skip (n_then (x_seq (x_region (s_val rfl (v_move rfl) (s_val rfl (v_move rfl) (s_val rfl (v_build Tryz.underlying43 Tryz.zeroValue43 (sized_cons Tryz.sizeOf39 (sized_cons Tryz.sizeOf40 (sized_cons Tryz.sizeOf41 sized_nil))) (fil_scal rfl Tryz.sizeOf39 rfl rfl (Nat.le_of_ble_eq_true rfl) SetL.eq (fil_scal rfl Tryz.sizeOf40 rfl rfl (Nat.le_of_ble_eq_true rfl) SetL.eq fil_nil))) ?_))))))
        refine s_do rfl (d_boxA rfl) ?_
        rintro _ _ ⟨qv, rfl, rfl⟩
        refine s_val rfl (v_assign rfl) (x_nil (n_then ?_))
        refine x_cut (fun _ : Unit => True) (fun _ => [(0, .int .i64 room), (14, .pointer (some ⟨pv, 0, none⟩)), (16, .pointer (some ⟨qv, 0, none⟩))]) (fun _ => prH pv ps pm qv qs qm (mk20 ts).2 (mk20 ts).1 pg R) ?_ ?_
        · skip
          refine x_seq (run_pt (b := qv) (o' := rvO qs qm 0) rfl ?_)
          refine x_region (s_val rfl (v_assign rfl) (x_nil (n_then (x_block ?_))))
          refine x_loop (fun i : Nat => i ≤ min ts.length 100) (fun i => [(0, .int .i64 room), (1, .slice ap ts.length cp), (14, .pointer (some ⟨pv, 0, none⟩)), (16, .pointer (some ⟨qv, 0, none⟩)), (17, .int .i64 i)]) (fun i => prH pv ps pm qv qs qm (mkS pg ts i).2 (mkS pg ts i).1 pg R) (fun i => 100 - i) 0 ?_ ?_ ?_ ?_
          · exact Nat.zero_le _
          · repeat (first | exact sub_nil | refine sub_cons rfl ?_)
          · simp only [mkS]; exact inferInstance
          · intro j hj
            obtain ⟨hG, hGl, hGd⟩ := mkS_ok pg ts j
            refine x_seq (x_seq (x_region (s_val rfl (v_move rfl) (s_val rfl (v_move rfl) (s_val rfl (v_len_slice Tryz.underlying22 rfl) (s_val rfl (v_lss rfl rfl) (s_val rfl (v_move rfl) ?_)))))))
            refine s_and rfl rfl rfl ?_ ?_
            · intro g15_5
              refine s_val rfl (v_move rfl) (s_yes rfl rfl (s_val rfl (v_lss rfl rfl) (s_val rfl (v_pick_t rfl rfl) (x_nil (n_then ?_)))))
              refine x_if rfl ?_ ?_
              · intro c15
                refine x_skip (n_then (x_seq (x_block (x_seq ?_))))
                have hj1 : j < ts.length := by omega
                obtain ⟨gp, op, rfl, hcp⟩ := hts.at_ hj1
                obtain ⟨hpa, hx⟩ := htok _ (List.getElem_mem hj1)
                have hgt : ts.getD j (0, 0) = ts[j] := by simp [List.getD, hj1]
                refine x_draw [(gp, op + j * 2, pt17V ts[j])] 12 mixed rfl (sc_cons hcp.weak sc_end) (fun hS => ?_)
                refine d_take 0 rfl rfl (by kernel_rfl) (by kernel_rfl) (by kernel_rfl) rfl hS (v_move rfl) ?_
                refine d_take 1 rfl rfl (by kernel_rfl) (by kernel_rfl) (by kernel_rfl) rfl hS (v_move rfl) ?_
                refine d_take 2 rfl rfl (by kernel_rfl) (by kernel_rfl) (by kernel_rfl) rfl hS (v_move rfl) ?_
                refine d_take 3 rfl rfl (by kernel_rfl) (by kernel_rfl) (by kernel_rfl) rfl hS (v_idx Tryz.underlying22 Tryz.sizeOf90 rfl rfl rfl hj1 (by first | exact Nat.zero_add _ | rfl)) ?_
                refine d_take 4 rfl rfl (by kernel_rfl) (by kernel_rfl) (by kernel_rfl) rfl hS (v_fieldAddr rfl Tryz.underlying90 rfl Tryz.sizeOf31 rfl (by first | exact Nat.zero_add _ | rfl)) ?_
                refine d_take 5 rfl rfl (by kernel_rfl) (by kernel_rfl) (by kernel_rfl) rfl hS (v_load Tryz.isAgg31 rfl (cell_sc (k := 0) (j := 0) rfl rfl)) ?_
                refine d_take 6 rfl rfl (by kernel_rfl) (by kernel_rfl) (by kernel_rfl) rfl hS (v_move rfl) ?_
                refine d_take 7 rfl rfl (by kernel_rfl) (by kernel_rfl) (by kernel_rfl) rfl hS (v_move rfl) ?_
                refine d_take 8 rfl rfl (by kernel_rfl) (by kernel_rfl) (by kernel_rfl) rfl hS (v_idx Tryz.underlying22 Tryz.sizeOf90 rfl rfl rfl hj1 (by first | exact Nat.zero_add _ | rfl)) ?_
                refine d_take 9 rfl rfl (by kernel_rfl) (by kernel_rfl) (by kernel_rfl) rfl hS (v_fieldAddr rfl Tryz.underlying90 rfl Tryz.sizeOf31 rfl (by first | exact Nat.zero_add _ | rfl)) ?_
                refine d_take 10 rfl rfl (by kernel_rfl) (by kernel_rfl) (by kernel_rfl) rfl hS (v_load Tryz.isAgg31 rfl (cell_sc (k := 0) (j := 1) rfl rfl)) ?_
                refine d_one 11 (by kernel_rfl) rfl rfl (d_call3 Tryz.call28 rfl (viSave_spec W0 _ pv ps pm _ _ pg hP hG hGd ts[j].1 hpa 4 ts[j].2 hx)) rfl ?_; clear hS
                rintro _ B_ ⟨rfl, hB_⟩
                obtain rfl := hB_.symm
                refine ⟨(sc_cons hcp.weak sc_end), fun hS => ?_⟩
                refine d_done (by kernel_rfl) ?_; clear hS
                refine n_then ?_
                refine x_draw [(gp, op + j * 2, pt17V ts[j])] 12 mixed rfl (sc_cons hcp.weak sc_end) (fun hS => ?_)
                refine d_take 0 rfl rfl (by kernel_rfl) (by kernel_rfl) (by kernel_rfl) rfl hS (v_move rfl) ?_
                refine d_take 1 rfl rfl (by kernel_rfl) (by kernel_rfl) (by kernel_rfl) rfl hS (v_move rfl) ?_
                refine d_take 2 rfl rfl (by kernel_rfl) (by kernel_rfl) (by kernel_rfl) rfl hS (v_move rfl) ?_
                refine d_take 3 rfl rfl (by kernel_rfl) (by kernel_rfl) (by kernel_rfl) rfl hS (v_idx Tryz.underlying22 Tryz.sizeOf90 rfl rfl rfl hj1 (by first | exact Nat.zero_add _ | rfl)) ?_
                refine d_take 4 rfl rfl (by kernel_rfl) (by kernel_rfl) (by kernel_rfl) rfl hS (v_fieldAddr rfl Tryz.underlying90 rfl Tryz.sizeOf31 rfl (by first | exact Nat.zero_add _ | rfl)) ?_
                refine d_take 5 rfl rfl (by kernel_rfl) (by kernel_rfl) (by kernel_rfl) rfl hS (v_load Tryz.isAgg31 rfl (cell_sc (k := 0) (j := 0) rfl rfl)) ?_
                refine d_take 6 rfl rfl (by kernel_rfl) (by kernel_rfl) (by kernel_rfl) rfl hS (v_move rfl) ?_
                refine d_take 7 rfl rfl (by kernel_rfl) (by kernel_rfl) (by kernel_rfl) rfl hS (v_move rfl) ?_
                refine d_take 8 rfl rfl (by kernel_rfl) (by kernel_rfl) (by kernel_rfl) rfl hS (v_idx Tryz.underlying22 Tryz.sizeOf90 rfl rfl rfl hj1 (by first | exact Nat.zero_add _ | rfl)) ?_
                refine d_take 9 rfl rfl (by kernel_rfl) (by kernel_rfl) (by kernel_rfl) rfl hS (v_fieldAddr rfl Tryz.underlying90 rfl Tryz.sizeOf31 rfl (by first | exact Nat.zero_add _ | rfl)) ?_
                refine d_take 10 rfl rfl (by kernel_rfl) (by kernel_rfl) (by kernel_rfl) rfl hS (v_load Tryz.isAgg31 rfl (cell_sc (k := 0) (j := 1) rfl rfl)) ?_
                refine d_one 11 (by kernel_rfl) rfl rfl (d_call3 Tryz.call29 rfl (rvSave_spec W0 _ qv qs qm _ _ pg hP hG ts[j].1 hpa 4 ts[j].2 hx)) rfl ?_; clear hS
                rintro _ B_ ⟨rfl, hB_⟩
                obtain rfl := hB_.symm
                refine ⟨(sc_cons hcp.weak sc_end), fun hS => ?_⟩
                refine d_done (by kernel_rfl) ?_; clear hS
                refine n_block (n_then (x_region (s_val rfl (v_move rfl) ?_)))
                refine s_val rfl (v_add rfl rfl (by first | exact w64 (by omega) | rfl)) ?_
                refine s_val rfl (v_assign rfl) (x_nil (n_then ?_))
                refine inv_intro (j + 1) ?_ ?_ ?_ ?_
                · omega
                · omega
                · repeat (first | exact sub_nil | refine sub_cons rfl ?_)
                · simp only [mkS, hgt]; exact inferInstance
              · intro c15
                refine x_exit (e_then (e_then (e_block (n_then ?_))))
                refine mid_intro () ?_ ?_ ?_
                · trivial
                · repeat (first | exact sub_nil | refine sub_cons rfl ?_)
                · have e2 : j = min ts.length 100 := by omega
                  rw [hmk, ← e2]
                  exact inferInstance
            · intro g15_5
              refine s_no rfl rfl rfl rfl (s_val rfl (v_pick_f rfl rfl) (x_nil (n_then (x_iff rfl (x_exit (e_then (e_then (e_block (n_then ?_)))))))))
              refine mid_intro () ?_ ?_ ?_
              · trivial
              · repeat (first | exact sub_nil | refine sub_cons rfl ?_)
              · have e2 : j = min ts.length 100 := by omega
                rw [hmk, ← e2]
                exact inferInstance
        · intro _ _
          refine x_seq (x_region (s_val rfl (v_move rfl) (s_val rfl (v_move rfl) (s_do rfl (d_call1 Tryz.call30 rfl (mmNew_spec W0 _ pv ps pm _ room hr)) ?_))))
          rintro _ B_ ⟨bm, bt, bs, rfl, hB_⟩
          subst hB_
          refine s_val rfl (v_move rfl) (s_val rfl (v_extract rfl rfl) (s_val rfl (v_extract rfl rfl) (s_val rfl (v_assign rfl) (s_val rfl (v_assign rfl) (x_nil (n_then (x_seq (x_seq (x_region (s_val rfl (v_move rfl) (s_val rfl (v_neq rfl rfl) (x_nil (n_then ?_)))))))))))))
          refine x_if rfl ?_ ?_
          · intro c20
            exact absurd rfl c20
          · intro c20
            refine x_skip (n_then (x_seq (x_region (s_val rfl (v_move rfl) (s_val rfl (v_move rfl) (s_val rfl (v_move rfl) (s_val rfl (v_assign rfl) (s_val rfl (v_assign rfl) (s_val rfl (v_assign rfl) (x_nil (n_then (x_ret (x_done (.inl rfl) (.cons (r_tmp rfl) (.cons (r_tmp rfl) (.cons (r_tmp rfl) .nil))) ?_)))))))))))))
            exact ⟨_, ⟨bm, bt, bs, pv, ps, pm, qv, qs, qm, rfl, rfl⟩, inferInstance⟩
end Go.Proofs.YtllkdnadmmjehaaGreatDoor
namespace Go.Proofs.YtllkdnadmmjehaaGreatDoor
open Go.RowKit
set_option linter.unusedSimpArgs false
set_option linter.unusedVariables false
set_option maxRecDepth 20000
theorem aw20 : (fnwE (mk20 awTs).1 (pg17 0 10) true 1 false 5 1 = 0 ∧ fnwX fndP (mk20 awTs).1 (pg17 0 10) true 1 false 5 1 = 3) ∧ (mayB20 (0, 0, givR (pg17 0 10) (wkR (mk20 awTs).1 (pg17 0 10) 1 5).r (wkR (mk20 awTs).1 (pg17 0 10) 1 5).p 3) 1 false = true ∧ mayB20 (0, 0, noW (givR (pg17 0 10) (wkR (mk20 awTs).1 (pg17 0 10) 1 5).r (wkR (mk20 awTs).1 (pg17 0 10) 1 5).p 3)) 1 false = true) := by decide +kernel
theorem awake20_spec (W0 : World) (R : List HP) (hK : ∀ A, Cells (OwnP W0 A) 0 0 kdV) : Spec Tryz.prog W0 11 [] R (fun v B => v = .bool true ∧ B = R) := by
  have hm0 := mk20_ok awTs
  obtain ⟨⟨e1, e2⟩, g1, g2⟩ := aw20
  refine spec_body Tryz.func11 Tryz.ntmps11 rfl rfl ?_
  refine x_seq (x_region (s_val rfl (v_assign rfl) (x_nil (n_then (x_seq (x_region (s_val rfl (v_build Tryz.underlying90 Tryz.zeroValue90 (sized_cons Tryz.sizeOf31 (sized_cons Tryz.sizeOf31 sized_nil)) (fil_scal rfl Tryz.sizeOf31 rfl rfl (Nat.le_of_ble_eq_true rfl) SetL.eq (fil_scal rfl Tryz.sizeOf31 rfl rfl (Nat.le_of_ble_eq_true rfl) SetL.eq fil_nil))) ?_)))))))
  refine s_val rfl (v_build Tryz.underlying90 Tryz.zeroValue90 (sized_cons Tryz.sizeOf31 (sized_cons Tryz.sizeOf31 sized_nil)) (fil_scal rfl Tryz.sizeOf31 rfl rfl (Nat.le_of_ble_eq_true rfl) SetL.eq (fil_scal rfl Tryz.sizeOf31 rfl rfl (Nat.le_of_ble_eq_true rfl) SetL.eq fil_nil))) ?_
  refine s_do rfl (d_sliceAgg Tryz.underlying22 Tryz.sizeOf90 Tryz.zeroValue90 rfl (elsK_cons rfl rfl (elsK_cons rfl rfl elsK_nil)) rfl (by decide) (by decide) (by decide)) ?_
  rintro _ _ ⟨b1, rfl, rfl⟩
  refine s_do rfl (d_call Tryz.call6 rfl (made20_spec W0 _ 2 (by decide) _ _ awTs (sla_pt (fun _ => rfl) rfl) awTs_ok (by decide))) ?_
  rintro _ B_ ⟨bm, bt, bs, pv, ps, pm, qv, qs, qm, rfl, hB_⟩
  subst hB_
  generalize (mk20 awTs).1 = fr at hm0 e1 e2 g1 g2
  generalize (mk20 awTs).2 = dd at hm0
  generalize pg17 0 10 = pg at hm0 e1 e2 g1 g2
  refine s_val rfl (v_move rfl) (s_val rfl (v_extract rfl rfl) (s_val rfl (v_extract rfl rfl) (s_val rfl (v_extract rfl rfl) (s_val rfl (v_assign rfl) (s_val rfl (v_assign rfl) (s_val rfl (v_assign rfl) (x_nil (n_then (x_seq (x_seq (x_region (s_val rfl (v_move rfl) (s_val rfl (v_eql_ptr_nil Tryz.underlying24 rfl rfl) (x_nil (n_then ?_)))))))))))))))
  refine x_if rfl ?_ ?_
  · intro c2
    cases c2
  · intro c2
    refine x_skip (n_then (x_seq (x_region (s_val rfl (v_build Tryz.underlying30 Tryz.zeroValue30 (sized_cons Tryz.sizeOf4 (sized_cons Tryz.sizeOf3 (sized_cons Tryz.sizeOf4 sized_nil))) (fil_scal rfl Tryz.sizeOf4 rfl rfl (Nat.le_of_ble_eq_true rfl) SetL.eq (fil_scal rfl Tryz.sizeOf3 rfl rfl (Nat.le_of_ble_eq_true rfl) SetL.eq fil_nil))) ?_))))
    refine s_do rfl (d_allocA Tryz.zeroValue30) ?_
    rintro _ _ ⟨b4, rfl, rfl⟩
    refine s_do0 (d_storeAll Tryz.sizeOf30 rfl rfl rfl rfl rfl) ?_
    rintro _ _ rfl
    refine x_nil (n_then (x_seq (x_region (s_val rfl (v_move rfl) (s_val rfl (v_loadAll Tryz.isAgg30 Tryz.sizeOf30 rfl rfl) ?_)))))
    refine s_do rfl (d_call6 Tryz.call13 rfl (mmFind_spec W0 _ hK bm pv bt bs ps pm dd true 1 false 5 (by decide) 1 [] 2 0 [] [] fr pg Rep.nil (Nat.zero_le _) (by decide) (by decide) hm0)) ?_
    rintro _ B_ ⟨fast, its2, T2, L2, now2, d2, rfl, hx, hR2, hT2, h2, hn2, hB_⟩
    subst hB_
    obtain rfl : fast = false := by
      cases fast with
      | false => rfl
      | true =>
        obtain ⟨x, hx1, _⟩ := hx.old rfl
        cases hx1
    obtain rfl : d2 = 0 := hx.dz rfl (by decide)
    obtain ⟨x, hxL, hxk, hxe⟩ := hx.new rfl rfl (by decide) e1
    have hm : mayB20 x.e 1 false = true := by
      rcases hxe with q | q
      · unfold mayB20; rw [q]; exact g1
      · unfold mayB20; rw [q]; exact g2
    rw [e1]
    refine s_val rfl (v_move rfl) (s_val rfl (v_extract rfl rfl) (s_val rfl (v_extract rfl rfl) (s_do rfl (d_allocA Tryz.zeroValue54) ?_)))
    rintro _ _ ⟨b5, rfl, rfl⟩
    refine s_do0 (d_storeAll Tryz.sizeOf54 rfl rfl rfl rfl rfl) ?_
    rintro _ _ rfl
    refine s_val rfl (v_assign rfl) (x_nil (n_then (x_seq (x_region (s_val rfl (v_move rfl) (s_val rfl (v_loadAll Tryz.isAgg30 Tryz.sizeOf30 rfl rfl) ?_))))))
    refine s_do rfl (d_call6 Tryz.call13 rfl (mmFind_spec W0 _ hK bm pv bt bs ps pm 0 true 1 false 5 (by decide) 1 its2 2 now2 T2 L2 fr pg hR2 hT2 (by decide) (by omega) h2)) ?_
    rintro _ B_ ⟨fast, its3, T3, L3, now3, d3, rfl, hy, hR3, hT3, h3, hn3, hB_⟩
    subst hB_
    obtain rfl : fast = true := hy.can rfl rfl (by decide) x hxL hxk hm
    rw [e1, e2]
    refine s_val rfl (v_move rfl) (s_val rfl (v_extract rfl rfl) (s_val rfl (v_extract rfl rfl) (s_do rfl (d_allocA Tryz.zeroValue54) ?_)))
    rintro _ _ ⟨b7, rfl, rfl⟩
    refine s_do0 (d_storeAll Tryz.sizeOf54 rfl rfl rfl rfl rfl) ?_
    rintro _ _ rfl
    refine s_val rfl (v_assign rfl) (x_nil (n_then (x_seq (x_region (s_val rfl (v_move rfl) (s_val rfl (v_eql rfl rfl) (s_val rfl (v_move rfl) ?_)))))))
    refine s_and rfl rfl rfl ?_ ?_
    · intro g7_3
      refine s_val rfl (v_move rfl) (s_yes rfl rfl (s_val rfl (v_move rfl) (s_yes rfl rfl (s_val rfl (v_eql rfl rfl) (s_val rfl (v_pick_t rfl rfl) (s_val rfl (v_move rfl) ?_))))))
      refine s_and rfl rfl rfl ?_ ?_
      · intro g7_8
        refine s_val rfl (v_fieldAddr rfl Tryz.underlying54 rfl Tryz.sizeOf4 rfl (by first | exact Nat.zero_add _ | rfl)) ?_
        refine s_yes rfl rfl (s_val rfl (v_load Tryz.isAgg4 rfl (cell_own rfl)) ?_)
        refine s_yes rfl rfl (s_val rfl (v_not rfl) (s_val rfl (v_pick_t rfl rfl) (s_val rfl (v_move rfl) ?_)))
        refine s_and rfl rfl rfl ?_ ?_
        · intro g7_13
          refine s_val rfl (v_fieldAddr rfl Tryz.underlying54 rfl Tryz.sizeOf4 rfl (by first | exact Nat.zero_add _ | rfl)) ?_
          refine s_yes rfl rfl (s_val rfl (v_load Tryz.isAgg4 rfl (cell_own rfl)) ?_)
          refine s_val rfl (v_pick_t rfl rfl) (s_val rfl (v_move rfl) ?_)
          refine s_and rfl rfl rfl ?_ ?_
          · intro g7_17
            refine s_val rfl (v_fieldAddr rfl Tryz.underlying54 rfl Tryz.sizeOf3 rfl (by first | exact Nat.zero_add _ | rfl)) ?_
            refine s_yes rfl rfl (s_val rfl (v_load Tryz.isAgg3 rfl (cell_own rfl)) ?_)
            refine s_yes rfl rfl (s_val rfl (v_eql rfl rfl) (s_val rfl (v_pick_t rfl rfl) (s_val rfl (v_assign rfl) (x_nil (n_then (x_ret (x_done (.inl rfl) (.cons (r_tmp rfl) .nil) ?_)))))))
            exact ⟨_, ⟨rfl, rfl⟩, inferInstance⟩
          · intro g7_17
            first | exact absurd rfl g7_17 | exact absurd (by decide) g7_17 | exact absurd (by simp) g7_17
        · intro g7_13
          first | exact absurd rfl g7_13 | exact absurd (by decide) g7_13 | exact absurd (by simp) g7_13
      · intro g7_8
        first | exact absurd rfl g7_8 | exact absurd (by decide) g7_8 | exact absurd (by simp) g7_8
    · intro g7_3
      first | exact absurd rfl g7_3 | exact absurd (by decide) g7_3 | exact absurd (by simp) g7_3
end Go.Proofs.YtllkdnadmmjehaaGreatDoor
namespace Go.Proofs.YtllkdnadmmjehaaGreatDoor
open Go.RowKit
set_option linter.unusedSimpArgs false
set_option linter.unusedVariables false
set_option maxRecDepth 20000
section
variable {P : Program} {W0 : World} {N : FSz} {K : Act → World → Prop} {e : Env} {A B R R1 R2 R3 : List HP} {qs n : Nat} {fr : List Frm}
end
end Go.Proofs.YtllkdnadmmjehaaGreatDoor
namespace Go.Proofs.YtllkdnadmmjehaaGreatDoor
open Go.RowKit
set_option linter.unusedSimpArgs false
set_option linter.unusedVariables false
section
variable {P : Program} {S : World → Prop} {W0 : World} {N : FSz} {e : Env} {A R : List HP} {t t' : TypeId} {x : Operand} {bs : List Nat} {a : Option Addr} {c n : Nat}
end
end Go.Proofs.YtllkdnadmmjehaaGreatDoor
namespace Go.Proofs.YtllkdnadmmjehaaGreatDoor
open Go.RowKit
set_option linter.unusedSimpArgs false
set_option linter.unusedVariables false
set_option maxRecDepth 20000
def wdAt (l : List Nat) (i : Nat) : Nat := leN ((l.drop (4 * i)).take 4)
structure Dsc where
  addr : Nat
  len : Nat
  flags : Nat
  next : Nat
structure Dsc.ok (d : Dsc) : Prop where
  addr : d.addr < 4294967296
  len : d.len < 4294967296
  flags : d.flags < 4294967296
  next : d.next < 4294967296
def dsOf (l : List Nat) : Dsc := ⟨wdAt l 0, wdAt l 1, wdAt l 2, wdAt l 3⟩
def zD : Dsc := ⟨0, 0, 0, 0⟩
def chkC (d : Dsc) (n : Nat) : Int := if 4 ≤ d.flags then 3 else if 64 < d.len then 4 else if d.flags % 2 = 1 ∧ n ≤ d.next then 1 else 0
structure Rg3 where
  desc : Nat
  avail : Nat
  used : Nat
  n : Int
structure Rg3.ok (r : Rg3) : Prop where
  desc : r.desc < 4294967296
  avail : r.avail < 4294967296
  used : r.used < 4294967296
end Go.Proofs.YtllkdnadmmjehaaGreatDoor
namespace Go.Proofs.YtllkdnadmmjehaaGreatDoor
open Go.RowKit
set_option linter.unusedSimpArgs false
set_option linter.unusedVariables false
set_option maxRecDepth 20000
def wrB (d : Dsc) : Bool := decide (d.flags / 2 % 2 = 1)
def goB (d : Dsc) : Bool := decide (d.flags % 2 = 1)
def dsPa (r : Rg3) (at_ : Nat) : Nat := (r.desc + 16 * at_) % 4294967296
def dsAt (fr : List Frm) (pg : List Pl) (r : Rg3) (at_ : Nat) : Dsc := if ownB fr.length pg (dsPa r at_) 16 then dsOf (rdL fr pg (dsPa r at_) 16) else zD
def lk (fr : List Frm) (pg : List Pl) (r : Rg3) (at_ : Int) (n : Nat) (wr : Bool) : Dsc × Int :=
  if at_ < 0 ∨ r.n ≤ at_ then (zD, 1) else if r.n ≤ (n : Int) then (zD, 2) else
  if ownB fr.length pg (dsPa r at_.toNat) 16 = false then (zD, 5) else
  if chkC (dsAt fr pg r at_.toNat) r.n.toNat ≠ 0 then (zD, chkC (dsAt fr pg r at_.toNat) r.n.toNat) else
  if ownB fr.length pg (dsAt fr pg r at_.toNat).addr (dsAt fr pg r at_.toNat).len = false then (zD, 5) else
  if wr = true ∧ wrB (dsAt fr pg r at_.toNat) = false then (zD, 6) else (dsAt fr pg r at_.toNat, 0)
theorem lk_n {fr : List Frm} {pg : List Pl} {r : Rg3} {at_ : Int} {n : Nat} {wr : Bool} (h : (lk fr pg r at_ n wr).2 = 0) : (n : Int) < r.n := by
  unfold lk at h
  repeat' split at h
  all_goals first | (exfalso; revert h; decide) | omega | skip
  all_goals (exfalso; rename_i q; exact q h)
end Go.Proofs.YtllkdnadmmjehaaGreatDoor
namespace Go.Proofs.YtllkdnadmmjehaaGreatDoor
open Go.RowKit
set_option linter.unusedSimpArgs false
set_option linter.unusedVariables false
set_option maxRecDepth 20000
abbrev WkS := Int × Bool × List Dsc
def lkS (fr : List Frm) (pg : List Pl) (r : Rg3) (n : Nat) (x : WkS) : Dsc × Int := lk fr pg r x.1 n x.2.1
def wkSt (fr : List Frm) (pg : List Pl) (r : Rg3) (head : Int) : Nat → WkS
  | 0 => (head, false, [])
  | n + 1 => let d := (lkS fr pg r n (wkSt fr pg r head n)).1; ((d.next : Int), wrB d, (wkSt fr pg r head n).2.2 ++ [d])
abbrev lkN (fr : List Frm) (pg : List Pl) (r : Rg3) (head : Int) (n : Nat) : Dsc × Int := lkS fr pg r n (wkSt fr pg r head n)
def alive (fr : List Frm) (pg : List Pl) (r : Rg3) (head : Int) (n : Nat) : Prop := ∀ m, m < n → (lkN fr pg r head m).2 = 0 ∧ goB (lkN fr pg r head m).1 = true
theorem alive.succ {fr : List Frm} {pg : List Pl} {r : Rg3} {head : Int} {n : Nat} (h : alive fr pg r head n) (h1 : (lkN fr pg r head n).2 = 0) (h2 : goB (lkN fr pg r head n).1 = true) : alive fr pg r head (n + 1) := fun m hm => by
  rcases Nat.lt_or_ge m n with q | q
  · exact h m q
  · rw [show m = n by omega]; exact ⟨h1, h2⟩
theorem alive.le {fr : List Frm} {pg : List Pl} {r : Rg3} {head : Int} {n : Nat} (h : alive fr pg r head n) (h8 : 0 ≤ r.n ∧ r.n ≤ 8) : n ≤ 8 := by
  rcases Nat.eq_zero_or_pos n with q | q
  · omega
  · have := lk_n (h (n - 1) (by omega)).1; omega
section
variable {W0 : World} {N : FSz} {K : Act → World → Prop} {e : Env} {A R R1 R2 : List HP} {b n c : Nat} {l : List Dsc} {a : Option Addr} {ys : List Value}
end
end Go.Proofs.YtllkdnadmmjehaaGreatDoor
namespace Go.Proofs.YtllkdnadmmjehaaGreatDoor
open Go.RowKit
set_option linter.unusedSimpArgs false
set_option linter.unusedVariables false
set_option maxRecDepth 20000
end Go.Proofs.YtllkdnadmmjehaaGreatDoor
namespace Go.Proofs.YtllkdnadmmjehaaGreatDoor
open Go.RowKit
set_option linter.unusedSimpArgs false
set_option linter.unusedVariables false
set_option maxRecDepth 20000
end Go.Proofs.YtllkdnadmmjehaaGreatDoor
namespace Go.Proofs.YtllkdnadmmjehaaGreatDoor
open Go.RowKit
set_option linter.unusedSimpArgs false
set_option linter.unusedVariables false
set_option maxRecDepth 20000
end Go.Proofs.YtllkdnadmmjehaaGreatDoor
namespace Go.Proofs.YtllkdnadmmjehaaGreatDoor
open Go.RowKit
set_option linter.unusedSimpArgs false
set_option linter.unusedVariables false
set_option maxRecDepth 20000
section
variable {P : Program} {W0 : World} {N : FSz} {K : Act → World → Prop} {e : Env} {A R R1 R2 : List HP} {qs n : Nat} {fr : List Frm}
end
structure Ac where
  k : Int
  on : Bool
  root : Int
  user : Bool
  va : Nat
  width : Int
  kind : Int
  w : Nat
@[reducible] def acV (a : Ac) : List Value := [.int .i64 a.k, .bool a.on, .int .i64 a.root, .bool a.user, .int .u32 a.va, .int .i64 a.width, .int .i64 a.kind, .int .u32 a.w]
def AcOk (a : Ac) : Prop := a.va < 4294967296 ∧ a.w < 4294967296
abbrev mmS (bm bt bs pv ps pm qv qs qm room e d now : Nat) (its : List It) (L : List Ln) (fr : List Frm) (pg : List Pl) : List HP :=
  pt bm (mmO pv bt bs) :: rowH bt (its, tlV room now) :: shH bs L :: vwW pv ps pm d fr pg (rvwW qv qs qm e fr pg [])
end Go.Proofs.YtllkdnadmmjehaaGreatDoor
namespace Go.Proofs.YtllkdnadmmjehaaGreatDoor
open Go.ChangeShapes Go.WideShapes Go.ChangeAt Go.RowKit
set_option linter.unusedSimpArgs false
set_option linter.unusedVariables false
variable {W : World} {v : Value}
theorem list2m {l : List Value} (h : l.length = 2) : ∃ a b, l = [a, b] := by
  match l, h with
  | [a, b], _ => exact ⟨a, b, rfl⟩
theorem list8m {l : List Value} (h : l.length = 8) : ∃ a b c d e f g i, l = [a, b, c, d, e, f, g, i] := by
  match l, h with
  | [a, b, c, d, e, f, g, i], _ => exact ⟨a, b, c, d, e, f, g, i, rfl⟩
theorem inT_put20 {fuel : Nat} {l : List Value} (h : InT Tryz.prog W fuel 90 l) : ∃ x : Pt17, l = pt17V x ∧ Pt17Ok x := by
  obtain ⟨hl, f', hf⟩ := inT_struct Tryz.underlying90 h
  obtain ⟨a, b, rfl⟩ := list2m (hl.trans (by kernel_rfl))
  have h0 := hf _ (List.mem_cons_self ..)
  have h1 := hf _ (List.mem_cons_of_mem _ (List.mem_cons_self ..))
  rw [show Tryz.prog.cellsOf 31 = 1 by kernel_rfl] at h0 h1
  obtain ⟨x0, e0, q0⟩ := inT_u32w h0
  obtain ⟨x1, e1, q1⟩ := inT_u32w h1
  simp at e0 e1
  exact ⟨(x0, x1), by rw [e0, e1], q0, q1⟩
theorem ty_puts20 (h : Ty Tryz.prog W 22 v) : ∃ a c, ∃ ts : List Pt17, v = .slice a ts.length c ∧ ts.length < 9223372036854775808 ∧ SlB W a 2 pt17V ts ∧ ∀ t ∈ ts, Pt17Ok t := by
  obtain ⟨a, c, xs, rfl, h1, h2, h3, h4⟩ := ty_sliceF (f := pt17V) (Q := Pt17Ok) 2 Tryz.underlying22 (by kernel_rfl) (by decide) (fun fuel r h => inT_put20 h) h
  exact ⟨a, c, xs, rfl, by simp only [maxLen] at h2; omega, h3, h4⟩
theorem inT_act {fuel : Nat} {l : List Value} (h : InT Tryz.prog W fuel 33 l) : ∃ x : Ac, l = acV x ∧ AcOk x := by
  obtain ⟨hl, f', hf⟩ := inT_struct Tryz.underlying33 h
  obtain ⟨a, b, c, d, e, f, g, i, rfl⟩ := list8m (hl.trans (by kernel_rfl))
  have h0 := hf _ (List.mem_cons_self ..)
  have h1 := hf _ (List.mem_cons_of_mem _ (List.mem_cons_self ..))
  have h2 := hf _ (List.mem_cons_of_mem _ (List.mem_cons_of_mem _ (List.mem_cons_self ..)))
  have h3 := hf _ (List.mem_cons_of_mem _ (List.mem_cons_of_mem _ (List.mem_cons_of_mem _ (List.mem_cons_self ..))))
  have h4 := hf _ (List.mem_cons_of_mem _ (List.mem_cons_of_mem _ (List.mem_cons_of_mem _ (List.mem_cons_of_mem _ (List.mem_cons_self ..)))))
  have h5 := hf _ (List.mem_cons_of_mem _ (List.mem_cons_of_mem _ (List.mem_cons_of_mem _ (List.mem_cons_of_mem _ (List.mem_cons_of_mem _ (List.mem_cons_self ..))))))
  rw [show Tryz.prog.cellsOf 3 = 1 by kernel_rfl] at h0 h3 h4
  rw [show Tryz.prog.cellsOf 31 = 1 by kernel_rfl] at h2 h5
  rw [show Tryz.prog.cellsOf 30 = 3 by kernel_rfl] at h1
  obtain ⟨x0, e0, _⟩ := inT_int Tryz.underlying3 h0
  obtain ⟨on, r, u, e1⟩ := inT_mode h1
  obtain ⟨x2, e2, q2⟩ := inT_u32w h2
  obtain ⟨x3, e3, _⟩ := inT_int Tryz.underlying3 h3
  obtain ⟨x4, e4, _⟩ := inT_int Tryz.underlying3 h4
  obtain ⟨x5, e5, q5⟩ := inT_u32w h5
  simp at e0 e1 e2 e3 e4 e5
  obtain ⟨e1a, e1b, e1c⟩ := e1
  exact ⟨⟨x0, on, r, u, x2, x3, x4, x5⟩, by rw [e0, e1a, e1b, e1c, e2, e3, e4, e5], q2, q5⟩
theorem ty_acts (h : Ty Tryz.prog W 23 v) : ∃ a c, ∃ as_ : List Ac, v = .slice a as_.length c ∧ as_.length < 9223372036854775808 ∧ SlB W a 8 acV as_ ∧ ∀ t ∈ as_, AcOk t := by
  obtain ⟨a, c, xs, rfl, h1, h2, h3, h4⟩ := ty_sliceF (f := acV) (Q := AcOk) 8 Tryz.underlying23 (by kernel_rfl) (by decide) (fun fuel r h => inT_act h) h
  exact ⟨a, c, xs, rfl, by simp only [maxLen] at h2; omega, h3, h4⟩
end Go.Proofs.YtllkdnadmmjehaaGreatDoor
namespace Go.Proofs.YtllkdnadmmjehaaGreatDoor
open Go.RowKit
set_option linter.unusedSimpArgs false
set_option linter.unusedVariables false
set_option maxRecDepth 20000
section
variable {P : Program} {w : World} {enc : TypeId × Value → Unit} {base : Nat} {sp : Nat → Bool} {held : Bool}
theorem trod_two {fuel : Nat} {t : TypeId} {cs : List Value} {a b : Int} {f0 f1 : Field} {p : List MemPlace} (hs : P.underlying t = some (.struct #[f0, f1])) (h0 : P.underlying f0.type = some (.int .i64)) (h1 : P.underlying f1.type = some (.int .i64)) (o0 : f0.offset = 0) (o1 : f1.offset = 1) (c0 : P.cellsOf f0.type = 1) (c1 : P.cellsOf f1.type = 1) (ct : P.cellsOf t = 2)
    (h : DataW.trod enc P w base sp held fuel t cs = some (.agg [.lit (.int .i64 a), .lit (.int .i64 b)], p)) : cs = [.int .i64 a, .int .i64 b] := by
  cases fuel with
  | zero => simp [DataW.trod] at h
  | succ fuel =>
    simp only [DataW.trod, hs] at h
    split at h
    · rename_i hl
      rw [ct] at hl
      obtain ⟨xs, hm, hx⟩ := Option.map_eq_some_iff.1 h
      obtain ⟨y0, e0, g0⟩ := Go.Lib.mapM_at hm 0 f0 rfl
      obtain ⟨y1, e1, g1⟩ := Go.Lib.mapM_at hm 1 f1 rfl
      obtain ⟨z0, q0, rfl, _⟩ := DataW.trod_int h0 g0
      obtain ⟨z1, q1, rfl, _⟩ := DataW.trod_int h1 g1
      rw [o0, c0] at q0
      rw [o1, c1] at q1
      match cs, hl with
      | [u, v], _ =>
        simp at q0 q1
        have hxs := congrArg Prod.fst hx
        have hlen := Go.Lib.mapM_length hm
        match xs, hlen with
        | [x0, x1], _ =>
          simp at e0 e1
          subst e0; subst e1
          simp at hxs
          rw [q0, q1, hxs.1, hxs.2]
    · cases h
theorem trod_kinds {fuel : Nat} {t e : TypeId} {cs : List Value} {f0 f1 : Field} {p : List MemPlace} (ht : P.underlying t = some (.array 3 e)) (hs : P.underlying e = some (.struct #[f0, f1])) (h0 : P.underlying f0.type = some (.int .i64)) (h1 : P.underlying f1.type = some (.int .i64)) (o0 : f0.offset = 0) (o1 : f1.offset = 1) (c0 : P.cellsOf f0.type = 1) (c1 : P.cellsOf f1.type = 1) (ce : P.cellsOf e = 2) (ct : P.cellsOf t = 6)
    (h : DataW.trod enc P w base sp held fuel t cs = some (.agg [.agg [.lit (.int .i64 0), .lit (.int .i64 4)], .agg [.lit (.int .i64 1), .lit (.int .i64 1)], .agg [.lit (.int .i64 2), .lit (.int .i64 2)]], p)) : cs = kdV := by
  cases fuel with
  | zero => simp [DataW.trod] at h
  | succ fuel =>
    simp only [DataW.trod, ht] at h
    split at h
    · rename_i hl
      rw [ct] at hl
      obtain ⟨xs, hm, hx⟩ := Option.map_eq_some_iff.1 h
      obtain ⟨⟨d0, p0⟩, e0, g0⟩ := Go.Lib.mapM_at hm 0 0 rfl
      obtain ⟨⟨d1, p1⟩, e1, g1⟩ := Go.Lib.mapM_at hm 1 1 rfl
      obtain ⟨⟨d2, p2⟩, e2, g2⟩ := Go.Lib.mapM_at hm 2 2 rfl
      have hxs := congrArg Prod.fst hx
      have hlen := Go.Lib.mapM_length hm
      match xs, hlen with
      | [x0, x1, x2], _ =>
        simp at e0 e1 e2
        subst e0; subst e1; subst e2
        simp at hxs
        obtain ⟨rfl, rfl, rfl⟩ := hxs
        have r0 := trod_two hs h0 h1 o0 o1 c0 c1 ce g0
        have r1 := trod_two hs h0 h1 o0 o1 c0 c1 ce g1
        have r2 := trod_two hs h0 h1 o0 o1 c0 c1 ce g2
        rw [ce] at r0 r1 r2
        match cs, hl with
        | [u0, u1, u2, u3, u4, u5], _ =>
          simp at r0 r1 r2
          rw [r0.1, r0.2, r1.1, r1.2, r2.1, r2.2]
          rfl
    · cases h
end
theorem kinds_cells {W : World} (h : laidMet Tryz.prog [("hermitage/mmu.kinds", (.agg [.agg [.lit (.int .i64 0), .lit (.int .i64 4)], .agg [.lit (.int .i64 1), .lit (.int .i64 1)], .agg [.lit (.int .i64 2), .lit (.int .i64 2)]] : DataW Unit))] W) : ∀ A, Cells (OwnP W A) 0 0 kdV := by
  obtain ⟨ps, ⟨g', t', cs, fuel, p, q, hg', ht', hvar, hd, _, _⟩, _⟩ := h
  have hg : Tryz.prog.globalNamed "hermitage/mmu.kinds" = some 0 := by kernel_rfl
  obtain rfl := Option.some.inj (hg.symm.trans hg')
  have hty : (Tryz.prog.globals[0]?).map (·.type) = some 221 := by kernel_rfl
  obtain rfl := Option.some.inj (hty.symm.trans ht')
  have hc : cs.toList = kdV := trod_kinds Tryz.underlying221 Tryz.underlying220 Tryz.underlying3 Tryz.underlying3 rfl rfl (by kernel_rfl) (by kernel_rfl) (by kernel_rfl) (by kernel_rfl) hd
  intro A i v hi
  refine cell_base ?_
  have := World.var?_cell hg hvar i
  rw [Nat.zero_add, this, ← Array.getElem?_toList, hc]; exact hi
end Go.Proofs.YtllkdnadmmjehaaGreatDoor
namespace Go.Proofs.YtllkdnadmmjehaaGreatDoor
open Go.RowKit
set_option linter.unusedSimpArgs false
set_option linter.unusedVariables false
section
variable {P : Program} {W0 : World} {N : FSz} {e : Env} {A R R1 R2 R3 R4 R5 R6 R7 R8 : List HP} {vs : List Value}
variable {K1 K2 K3 K4 K5 K6 K7 K8 K9 X1 X2 X3 X4 X5 X6 X7 X8 X9 : Type} {r1 : K1 → X1 → HP} {b1 : K1} {x1 : X1} {r2 : K2 → X2 → HP} {b2 : K2} {x2 : X2} {r3 : K3 → X3 → HP} {b3 : K3} {x3 : X3} {r4 : K4 → X4 → HP} {b4 : K4} {x4 : X4} {r5 : K5 → X5 → HP} {b5 : K5} {x5 : X5} {r6 : K6 → X6 → HP} {b6 : K6} {x6 : X6} {r7 : K7 → X7 → HP} {b7 : K7} {x7 : X7} {r8 : K8 → X8 → HP} {b8 : K8} {x8 : X8} {r9 : K9 → X9 → HP} {b9 : K9} {x9 : X9}
theorem perm9 [h1 : Tk r1 b1 A x1 R1] [h2 : Tk r2 b2 R1 x2 R2] [h3 : Tk r3 b3 R2 x3 R3] [h4 : Tk r4 b4 R3 x4 R4] [h5 : Tk r5 b5 R4 x5 R5] [h6 : Tk r6 b6 R5 x6 R6] [h7 : Tk r7 b7 R6 x7 R7] [h8 : Tk r8 b8 R7 x8 R8] [h9 : Tk r9 b9 R8 x9 R] : A.Perm (r1 b1 x1 :: r2 b2 x2 :: r3 b3 x3 :: r4 b4 x4 :: r5 b5 x5 :: r6 b6 x6 :: r7 b7 x7 :: r8 b8 x8 :: r9 b9 x9 :: R) := h1.perm.trans (perm8.cons _)
variable {f : FuncId} {xs : Array Operand} {ats : Array TypeId} {Post : Value → List HP → Prop}
theorem d_call9 (hc : ∀ args w, (callFunc f args).run P w = .ok (.enter f args) w) (hx : evs e xs.toList = some vs)
    (hs : Spec P W0 f vs (r1 b1 x1 :: r2 b2 x2 :: r3 b3 x3 :: r4 b4 x4 :: r5 b5 x5 :: r6 b6 x6 :: r7 b7 x7 :: r8 b8 x8 :: r9 b9 x9 :: R) Post) [h1 : Tk r1 b1 A x1 R1] [h2 : Tk r2 b2 R1 x2 R2] [h3 : Tk r3 b3 R2 x3 R3] [h4 : Tk r4 b4 R3 x4 R4] [h5 : Tk r5 b5 R4 x5 R5] [h6 : Tk r6 b6 R5 x6 R6] [h7 : Tk r7 b7 R6 x7 R7] [h8 : Tk r8 b8 R7 x8 R8] [h9 : Tk r9 b9 R8 x9 R] : Does P W0 N e A (.call { callee := .value (.func f), args := xs, argTypes := ats }) Post :=
  does_perm perm9 (d_call hc hx hs)
end
end Go.Proofs.YtllkdnadmmjehaaGreatDoor
