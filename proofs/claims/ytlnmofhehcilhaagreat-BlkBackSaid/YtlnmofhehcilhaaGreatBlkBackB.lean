/-
  Part 2 of the proof of BlkBack: rules, and walks of functions. Conditions: none.
-/
import Derived.Test.YtlnmofhehcilhaaGreatBlkBackA
namespace Go.Proofs.YtlnmofhehcilhaaGreat
open Go.RowKit
set_option linter.unusedSimpArgs false
set_option linter.unusedVariables false
set_option maxRecDepth 20000
theorem viNew_spec (W0 : World) (R : List HP) (ps pm : Nat) (fr : List Frm) (pg : List Pl) (h : Pgs pg) (h0 : 0 < fr.length) :
    Spec Tryz.prog W0 87 [.pointer (some ⟨ps, 0, none⟩), .pointer (some ⟨pm, 0, none⟩)] (stoH ps fr :: pt pm (gmO pg) :: R)
      (fun v B => ∃ b, v = .tuple #[.pointer (some ⟨b, 0, none⟩), .int .i64 0] ∧ B = pt b (viO ps pm 0) :: stoH ps fr :: pt pm (gmO pg) :: R) := by
  refine spec_body Tryz.func87 Tryz.ntmps87 rfl rfl ?_
  refine x_seq (x_region (s_val rfl (v_assign rfl) (s_val rfl (v_assign rfl) (x_nil (n_then (x_seq (x_seq (x_region (s_val rfl (v_move rfl) (s_do rfl (d_call1 Tryz.call174 rfl (frLen_spec W0 _ ps fr)) ?_))))))))))
  rintro _ B_ ⟨rfl, hB_⟩
  obtain rfl := hB_.symm
  refine s_val rfl (v_eql rfl rfl) (s_val rfl (v_move rfl) ?_)
  refine s_or rfl rfl rfl ?_ ?_
  · intro g1_4
    omega
  · intro g1_4
    refine s_val rfl (v_move rfl) (s_yes rfl rfl (s_do rfl (d_call1 Tryz.call175 rfl (gmDrop_spec W0 _ pm pg h)) ?_))
    rintro _ B_ ⟨rfl, hB_⟩
    obtain rfl := hB_.symm
    refine s_yes rfl rfl (s_val rfl (v_eql rfl rfl) (s_val rfl (v_pick_f rfl rfl) (x_nil (n_then ?_))))
    refine x_if rfl ?_ ?_
    · intro c1
      exact absurd c1 (by decide)
    · intro c1
      refine x_skip (n_then (x_seq (x_region (s_val rfl (v_move rfl) (s_val rfl (v_move rfl) (s_val rfl (v_build Tryz.underlying198 Tryz.zeroValue198 (sized_cons Tryz.sizeOf78 (sized_cons Tryz.sizeOf148 (sized_cons Tryz.sizeOf47 sized_nil))) (fil_scal rfl Tryz.sizeOf78 rfl rfl (Nat.le_of_ble_eq_true rfl) SetL.eq (fil_scal rfl Tryz.sizeOf148 rfl rfl (Nat.le_of_ble_eq_true rfl) SetL.eq fil_nil))) ?_))))))
      refine s_do rfl (d_boxA rfl) ?_
      rintro _ _ ⟨b1, rfl, rfl⟩
      refine s_val rfl (v_assign rfl) (s_val rfl (v_assign rfl) (x_nil (n_then (x_ret (x_done (.inl rfl) (.cons (r_tmp rfl) (.cons (r_tmp rfl) .nil)) ?_)))))
      exact ⟨_, ⟨b1, rfl, rfl⟩, inferInstance⟩
def frmB (len : Nat) (pg : List Pl) (n : Int) : Bool := thereB pg n && decide (n < 8) && decide ((gGot pg n).1 < len)
theorem viFrame_spec (W0 : World) (R : List HP) (pv ps pm d : Nat) (fr : List Frm) (pg : List Pl) (h : Pgs pg) (n : Int) :
    Spec Tryz.prog W0 217 [.pointer (some ⟨pv, 0, none⟩), .int .i64 n] (pt pv (viO ps pm d) :: stoH ps fr :: pt pm (gmO pg) :: R)
      (fun v B => v = .tuple #[.int .i64 (gGot pg n).1, .bool (frmB fr.length pg n)] ∧ B = pt pv (viO ps pm d) :: stoH ps fr :: pt pm (gmO pg) :: R) := by
  refine spec_body Tryz.func217 Tryz.ntmps217 rfl rfl ?_
  refine x_seq (x_region (s_val rfl (v_assign rfl) (s_val rfl (v_assign rfl) (x_nil (n_then (x_seq (x_region (s_val rfl (v_move rfl) (s_val rfl (v_nilCheck rfl) ?_)))))))))
  refine s_val rfl (v_fieldAddr rfl Tryz.underlying198 rfl Tryz.sizeOf148 rfl (by first | exact Nat.zero_add _ | rfl)) ?_
  refine s_val rfl (v_load Tryz.isAgg148 rfl (cell_own rfl)) ?_
  refine s_val rfl (v_move rfl) (s_do rfl (d_call1 Tryz.call199 rfl (gmGet_spec W0 _ pm pg h n)) ?_)
  rintro _ B_ ⟨rfl, hB_⟩
  obtain rfl := hB_.symm
  refine s_val rfl (v_move rfl) (s_val rfl (v_extract rfl rfl) (s_val rfl (v_extract rfl rfl) (s_do rfl (d_allocA Tryz.zeroValue153) ?_)))
  rintro _ _ ⟨b1, rfl, rfl⟩
  refine s_do0 (d_storeAll Tryz.sizeOf153 rfl rfl rfl rfl rfl) ?_
  rintro _ _ rfl
  refine s_val rfl (v_assign rfl) (x_nil (n_then (x_seq ?_)))
  refine x_draw [(pv, 0, _), (b1, 0, _)] 19 mixed rfl (sc_own (sc_own sc_end)) (fun hS => ?_)
  refine d_take 0 rfl rfl (by kernel_rfl) (by kernel_rfl) (by kernel_rfl) rfl hS (v_fieldAddr rfl Tryz.underlying153 rfl Tryz.sizeOf3 rfl (by first | exact Nat.zero_add _ | rfl)) ?_
  refine d_take 1 rfl rfl (by kernel_rfl) (by kernel_rfl) (by kernel_rfl) rfl hS (v_load Tryz.isAgg3 rfl (by first | exact cell_sc0 (k := 0) rfl rfl | exact cell_sc0 (k := 1) rfl rfl)) ?_
  refine d_take 2 rfl rfl (by kernel_rfl) (by kernel_rfl) (by kernel_rfl) rfl hS (v_move rfl) ?_
  refine d_take 3 rfl rfl (by kernel_rfl) (by kernel_rfl) (by kernel_rfl) rfl hS (v_move rfl) ?_
  refine x_split (t := 20) rfl ?_ ?_
  · intro g2_4
    refine d_take 4 rfl rfl (by kernel_rfl) (by kernel_rfl) (by kernel_rfl) rfl hS (v_move rfl) ?_
    refine d_take 5 rfl rfl (by kernel_rfl) (by kernel_rfl) (by kernel_rfl) rfl hS (v_lss rfl rfl) ?_
    refine d_take 6 rfl rfl (by kernel_rfl) (by kernel_rfl) (by kernel_rfl) rfl hS (v_pick_t rfl rfl) ?_
    refine d_take 7 rfl rfl (by kernel_rfl) (by kernel_rfl) (by kernel_rfl) rfl hS (v_move rfl) ?_
    refine x_split (t := 24) rfl ?_ ?_
    · intro g2_8
      refine d_take 8 rfl rfl (by kernel_rfl) (by kernel_rfl) (by kernel_rfl) rfl hS (v_fieldAddr rfl Tryz.underlying153 rfl Tryz.sizeOf3 rfl (by first | exact Nat.zero_add _ | rfl)) ?_
      refine d_take 9 rfl rfl (by kernel_rfl) (by kernel_rfl) (by kernel_rfl) rfl hS (v_load Tryz.isAgg3 rfl (by first | exact cell_sc0 (k := 0) rfl rfl | exact cell_sc0 (k := 1) rfl rfl)) ?_
      refine d_take 10 rfl rfl (by kernel_rfl) (by kernel_rfl) (by kernel_rfl) rfl hS (v_move rfl) ?_
      refine d_take 11 rfl rfl (by kernel_rfl) (by kernel_rfl) (by kernel_rfl) rfl hS (v_nilCheck rfl) ?_
      refine d_take 12 rfl rfl (by kernel_rfl) (by kernel_rfl) (by kernel_rfl) rfl hS (v_fieldAddr rfl Tryz.underlying198 rfl Tryz.sizeOf78 rfl (by first | exact Nat.zero_add _ | rfl)) ?_
      refine d_take 13 rfl rfl (by kernel_rfl) (by kernel_rfl) (by kernel_rfl) rfl hS (v_load Tryz.isAgg78 rfl (by first | exact cell_sc0 (k := 0) rfl rfl | exact cell_sc0 (k := 1) rfl rfl)) ?_
      refine d_one 14 (by kernel_rfl) rfl rfl (d_call1 Tryz.call174 rfl (frLen_spec W0 _ ps fr)) rfl ?_; clear hS
      rintro _ B_ ⟨rfl, hB_⟩
      obtain rfl := hB_.symm
      refine ⟨(sc_own (sc_own sc_end)), fun hS => ?_⟩
      refine d_take 15 rfl rfl (by kernel_rfl) (by kernel_rfl) (by kernel_rfl) rfl hS (v_lss rfl rfl) ?_
      refine d_take 16 rfl rfl (by kernel_rfl) (by kernel_rfl) (by kernel_rfl) rfl hS (v_pick_t rfl rfl) ?_
      refine d_take 17 rfl rfl (by kernel_rfl) (by kernel_rfl) (by kernel_rfl) rfl hS (v_assign rfl) ?_
      refine d_take 18 rfl rfl (by kernel_rfl) (by kernel_rfl) (by kernel_rfl) rfl hS (v_assign rfl) ?_
      refine d_done (by kernel_rfl) ?_; clear hS
      refine n_then (x_ret (x_done (.inl rfl) (.cons (r_tmp rfl) (.cons (r_tmp rfl) .nil)) ?_))
      refine ⟨_, ⟨?_, rfl⟩, inferInstance⟩
      simp_all [pack, frmB]; try omega
    · intro g2_8
      refine d_skip 8 rfl rfl (by kernel_rfl) (by kernel_rfl) (by kernel_rfl) rfl hS ?_
      refine d_skip 9 rfl rfl (by kernel_rfl) (by kernel_rfl) (by kernel_rfl) rfl hS ?_
      refine d_skip 10 rfl rfl (by kernel_rfl) (by kernel_rfl) (by kernel_rfl) rfl hS ?_
      refine d_skip 11 rfl rfl (by kernel_rfl) (by kernel_rfl) (by kernel_rfl) rfl hS ?_
      refine d_skip 12 rfl rfl (by kernel_rfl) (by kernel_rfl) (by kernel_rfl) rfl hS ?_
      refine d_skip 13 rfl rfl (by kernel_rfl) (by kernel_rfl) (by kernel_rfl) rfl hS ?_
      refine d_skip 14 rfl rfl (by kernel_rfl) (by kernel_rfl) (by kernel_rfl) rfl hS ?_
      refine d_skip 15 rfl rfl (by kernel_rfl) (by kernel_rfl) (by kernel_rfl) rfl hS ?_
      refine d_take 16 rfl rfl (by kernel_rfl) (by kernel_rfl) (by kernel_rfl) rfl hS (v_pick_f rfl rfl) ?_
      refine d_take 17 rfl rfl (by kernel_rfl) (by kernel_rfl) (by kernel_rfl) rfl hS (v_assign rfl) ?_
      refine d_take 18 rfl rfl (by kernel_rfl) (by kernel_rfl) (by kernel_rfl) rfl hS (v_assign rfl) ?_
      refine d_done (by kernel_rfl) ?_; clear hS
      refine n_then (x_ret (x_done (.inl rfl) (.cons (r_tmp rfl) (.cons (r_tmp rfl) .nil)) ?_))
      refine ⟨_, ⟨?_, rfl⟩, inferInstance⟩
      simp_all [pack, frmB]; try omega
  · intro g2_4
    refine d_skip 4 rfl rfl (by kernel_rfl) (by kernel_rfl) (by kernel_rfl) rfl hS ?_
    refine d_skip 5 rfl rfl (by kernel_rfl) (by kernel_rfl) (by kernel_rfl) rfl hS ?_
    refine d_take 6 rfl rfl (by kernel_rfl) (by kernel_rfl) (by kernel_rfl) rfl hS (v_pick_f rfl rfl) ?_
    refine d_take 7 rfl rfl (by kernel_rfl) (by kernel_rfl) (by kernel_rfl) rfl hS (v_move rfl) ?_
    refine d_skip 8 rfl rfl (by kernel_rfl) (by kernel_rfl) (by kernel_rfl) rfl hS ?_
    refine d_skip 9 rfl rfl (by kernel_rfl) (by kernel_rfl) (by kernel_rfl) rfl hS ?_
    refine d_skip 10 rfl rfl (by kernel_rfl) (by kernel_rfl) (by kernel_rfl) rfl hS ?_
    refine d_skip 11 rfl rfl (by kernel_rfl) (by kernel_rfl) (by kernel_rfl) rfl hS ?_
    refine d_skip 12 rfl rfl (by kernel_rfl) (by kernel_rfl) (by kernel_rfl) rfl hS ?_
    refine d_skip 13 rfl rfl (by kernel_rfl) (by kernel_rfl) (by kernel_rfl) rfl hS ?_
    refine d_skip 14 rfl rfl (by kernel_rfl) (by kernel_rfl) (by kernel_rfl) rfl hS ?_
    refine d_skip 15 rfl rfl (by kernel_rfl) (by kernel_rfl) (by kernel_rfl) rfl hS ?_
    refine d_take 16 rfl rfl (by kernel_rfl) (by kernel_rfl) (by kernel_rfl) rfl hS (v_pick_f rfl rfl) ?_
    refine d_take 17 rfl rfl (by kernel_rfl) (by kernel_rfl) (by kernel_rfl) rfl hS (v_assign rfl) ?_
    refine d_take 18 rfl rfl (by kernel_rfl) (by kernel_rfl) (by kernel_rfl) rfl hS (v_assign rfl) ?_
    refine d_done (by kernel_rfl) ?_; clear hS
    refine n_then (x_ret (x_done (.inl rfl) (.cons (r_tmp rfl) (.cons (r_tmp rfl) .nil)) ?_))
    refine ⟨_, ⟨?_, rfl⟩, inferInstance⟩
    simp_all [pack, frmB]; try omega
end Go.Proofs.YtlnmofhehcilhaaGreat
namespace Go.Proofs.YtlnmofhehcilhaaGreat
open Go.RowKit
set_option linter.unusedSimpArgs false
set_option linter.unusedVariables false
section
variable {rd : Option Nat} {P : Program} {S : World → Prop} {W0 : World} {N : FSz} {Q : Exit → Act → World → Prop} {e : Env} {A B R R1 R2 R3 R4 R5 R6 : List HP} {ops : Array Oper} {rest : List Oper}
variable {op : Op} {ty t t' : TypeId} {pos : String} {af : Array Edge} {v u : Value} {d b off : Nat} {x y z : Operand} {l l' vs : List Value}
variable {K1 K2 K3 K4 K5 K6 X1 X2 X3 X4 X5 X6 : Type} {r1 : K1 → X1 → HP} {b1 : K1} {x1 : X1} {r2 : K2 → X2 → HP} {b2 : K2} {x2 : X2} {r3 : K3 → X3 → HP} {b3 : K3} {x3 : X3} {r4 : K4 → X4 → HP} {b4 : K4} {x4 : X4} {r5 : K5 → X5 → HP} {b5 : K5} {x5 : X5} {r6 : K6 → X6 → HP} {b6 : K6} {x6 : X6}
theorem perm3 [h1 : Tk r1 b1 A x1 R1] [h2 : Tk r2 b2 R1 x2 R2] [h3 : Tk r3 b3 R2 x3 R] : A.Perm (r1 b1 x1 :: r2 b2 x2 :: r3 b3 x3 :: R) := h1.perm.trans (perm2.cons _)
theorem perm4 [h1 : Tk r1 b1 A x1 R1] [h2 : Tk r2 b2 R1 x2 R2] [h3 : Tk r3 b3 R2 x3 R3] [h4 : Tk r4 b4 R3 x4 R] : A.Perm (r1 b1 x1 :: r2 b2 x2 :: r3 b3 x3 :: r4 b4 x4 :: R) := h1.perm.trans (perm3.cons _)
theorem perm5 [h1 : Tk r1 b1 A x1 R1] [h2 : Tk r2 b2 R1 x2 R2] [h3 : Tk r3 b3 R2 x3 R3] [h4 : Tk r4 b4 R3 x4 R4] [h5 : Tk r5 b5 R4 x5 R] : A.Perm (r1 b1 x1 :: r2 b2 x2 :: r3 b3 x3 :: r4 b4 x4 :: r5 b5 x5 :: R) := h1.perm.trans (perm4.cons _)
theorem perm6 [h1 : Tk r1 b1 A x1 R1] [h2 : Tk r2 b2 R1 x2 R2] [h3 : Tk r3 b3 R2 x3 R3] [h4 : Tk r4 b4 R3 x4 R4] [h5 : Tk r5 b5 R4 x5 R5] [h6 : Tk r6 b6 R5 x6 R] : A.Perm (r1 b1 x1 :: r2 b2 x2 :: r3 b3 x3 :: r4 b4 x4 :: r5 b5 x5 :: r6 b6 x6 :: R) := h1.perm.trans (perm5.cons _)
section
variable {f : FuncId} {xs : Array Operand} {ats : Array TypeId} {Post : Value → List HP → Prop}
theorem d_call4 (hc : ∀ args w, (callFunc f args).run P w = .ok (.enter f args) w) (hx : evs e xs.toList = some vs)
    (hs : Spec P W0 f vs (r1 b1 x1 :: r2 b2 x2 :: r3 b3 x3 :: r4 b4 x4 :: R) Post) [h1 : Tk r1 b1 A x1 R1] [h2 : Tk r2 b2 R1 x2 R2] [h3 : Tk r3 b3 R2 x3 R3] [h4 : Tk r4 b4 R3 x4 R] : Does P W0 N e A (.call { callee := .value (.func f), args := xs, argTypes := ats }) Post :=
  does_perm perm4 (d_call hc hx hs)
theorem d_call5 (hc : ∀ args w, (callFunc f args).run P w = .ok (.enter f args) w) (hx : evs e xs.toList = some vs)
    (hs : Spec P W0 f vs (r1 b1 x1 :: r2 b2 x2 :: r3 b3 x3 :: r4 b4 x4 :: r5 b5 x5 :: R) Post) [h1 : Tk r1 b1 A x1 R1] [h2 : Tk r2 b2 R1 x2 R2] [h3 : Tk r3 b3 R2 x3 R3] [h4 : Tk r4 b4 R3 x4 R4] [h5 : Tk r5 b5 R4 x5 R] : Does P W0 N e A (.call { callee := .value (.func f), args := xs, argTypes := ats }) Post :=
  does_perm perm5 (d_call hc hx hs)
theorem d_call6 (hc : ∀ args w, (callFunc f args).run P w = .ok (.enter f args) w) (hx : evs e xs.toList = some vs)
    (hs : Spec P W0 f vs (r1 b1 x1 :: r2 b2 x2 :: r3 b3 x3 :: r4 b4 x4 :: r5 b5 x5 :: r6 b6 x6 :: R) Post) [h1 : Tk r1 b1 A x1 R1] [h2 : Tk r2 b2 R1 x2 R2] [h3 : Tk r3 b3 R2 x3 R3] [h4 : Tk r4 b4 R3 x4 R4] [h5 : Tk r5 b5 R4 x5 R5] [h6 : Tk r6 b6 R5 x6 R] : Does P W0 N e A (.call { callee := .value (.func f), args := xs, argTypes := ats }) Post :=
  does_perm perm6 (d_call hc hx hs)
variable {fx : Operand} {us cs : List Value}
theorem d_callv4 (hf : ev e fx = some (.func (.func f) us.toArray cs.toArray)) (hc : ∀ args w, (callFunc f args).run P w = .ok (.enter f args) w) (hx : evs e xs.toList = some vs)
    (hs : Spec P W0 f (us ++ vs ++ cs) (r1 b1 x1 :: r2 b2 x2 :: r3 b3 x3 :: r4 b4 x4 :: R) Post) [h1 : Tk r1 b1 A x1 R1] [h2 : Tk r2 b2 R1 x2 R2] [h3 : Tk r3 b3 R2 x3 R3] [h4 : Tk r4 b4 R3 x4 R] : Does P W0 N e A (.call { callee := .value fx, args := xs, argTypes := ats }) Post :=
  does_perm perm4 (d_callv hf hc hx hs)
end
def kH (_ : Nat) (x : HP) : HP := x
instance (priority := low) ent_app {R R' : List HP} : Ent (R ++ R') R := ⟨fun l hl => by
  obtain ⟨l1, l2, rfl, h1, h2⟩ := Sat.append.1 hl
  exact ⟨l1, l2, h1, List.Perm.refl _⟩⟩
theorem spec_kgrp {C : List HP} {f : FuncId} {args : List Value} {Post : Value → List HP → Prop} (h : Spec P W0 f args (C ++ R) Post) : Spec P W0 f args (kH 0 (grp C) :: R) Post := fun w hO => h w (hO.ent ent_open)
theorem ent_kgrp {C : List HP} [h : Ent A (C ++ R)] : Ent A (kH 0 (grp C) :: R) := h.trans ent_shut
theorem run_grp {C : List HP} {K : Act → World → Prop} (h : Run W0 N K e (C ++ R)) : Run W0 N K e (grp C :: R) := fun a w hF hO => h a w hF (hO.ent ent_open)
theorem rounds_perm {L : Nat} {Post : Value → List HP → Prop} (hp : A.Perm B) (h : Rounds P W0 L vs B Post) : Rounds P W0 L vs A Post := fun w hO => h w (hO.perm hp)
theorem spec_ent {f : FuncId} {args : List Value} {Post : Value → List HP → Prop} (he : Ent A B) (h : Spec P W0 f args B Post) : Spec P W0 f args A Post := fun w hO => h w (hO.ent he)
instance ent_kgrp_nil [h : Ent A R] : Ent A (kH 0 (grp []) :: R) := ent_kgrp (h := h)
instance ent_kgrp_cons {K X : Type} {r : K → X → HP} {b : K} {x : X} {C : List HP} [h : Tk r b A x R1] [k : Ent R1 (kH 0 (grp C) :: R)] : Ent A (kH 0 (grp (r b x :: C)) :: R) :=
  (Ent.ofPerm h.perm).trans ((Ent.cons (k.trans ent_open)).trans (ent_kgrp (C := r b x :: C) (h := ent_refl)))
instance ent_grp_nil [h : Ent A R] : Ent A (grp [] :: R) := h.trans (ent_shut (A := []))
instance ent_grp_cons {K X : Type} {r : K → X → HP} {b : K} {x : X} {C : List HP} [h : Tk r b A x R1] [k : Ent R1 (grp C :: R)] : Ent A (grp (r b x :: C) :: R) :=
  (Ent.ofPerm h.perm).trans ((Ent.cons (k.trans ent_open)).trans (ent_shut (A := r b x :: C)))
theorem run_pt {o o' : Obj} {K : Act → World → Prop} [h : Tk pt b A o R] (he : o = o') (k : Run W0 N K e (pt b o' :: R)) : Run W0 N K e A := by
  subst he; exact run_tk (r := pt) (b := b) k
theorem run_name {K : Act → World → Prop} {c : HP} (k : ∀ H, H = c → Run W0 N K e (kH 1 H :: A)) : Run W0 N K e (c :: A) := k c rfl
theorem run_unname {K : Act → World → Prop} {c : HP} [h : Tk kH 1 A c R] (k : Run W0 N K e (c :: R)) : Run W0 N K e A := run_tk (r := kH) (b := 1) k
theorem ent_osl0 {E sz g n : Nat} {xs : List Value} [h : Tk pt g A (cob xs E) R] (h2 : n ≤ maxLen) (h3 : xs.length = n * sz) [k : Ent R B] : Ent A (osl E sz (.slice (some ⟨g, 0, none⟩) n n) xs :: B) :=
  ent_osl (sp := []) (h := ⟨by rw [List.append_nil]; exact h.perm⟩) (Nat.le_refl _) h2 h3 (by rw [List.append_nil]; exact h3)
theorem run_kgrp {C : List HP} {K : Act → World → Prop} [h : Tk kH 0 A (grp C) R] (k : Run W0 N K e (C ++ R)) : Run W0 N K e A := run_tk (r := kH) (b := 0) (run_grp k)
theorem v_build0 {E n sz : Nat} {ps : Array (Nat × Operand)} (hu : P.underlying t = some (.array n E)) (hs : ∀ w, (sizeOf E).run P w = .ok sz w) (hz : ∀ w, (zeroValue t).run P w = .ok (.agg l.toArray) w) (hp : ps = #[]) :
    Val P S N e (.build t ps) (.agg l.toArray) := fun a w _ _ _ _ _ hF _ => by
  subst hp
  have hb : Instr.build t ((#[] : Array (Nat × Operand)).map fun (i, x) => (i, a.eval x)) = (do
      let zero := (← zeroValue t).cells
      match ← underlying t with
      | .struct fields =>
        let places ← fields.mapM placeOf
        let some cells := Instr.fill (places[·]?) zero ((#[] : Array (Nat × Operand)).map fun (i, x) => (i, a.eval x)).toList | stuck "build: no such field, or a part of the wrong size"
        pure (.agg cells)
      | .array _ elem =>
        let size ← sizeOf elem
        let some cells := Instr.fill (fun i => some (i * size, size)) zero ((#[] : Array (Nat × Operand)).map fun (i, x) => (i, a.eval x)).toList | stuck "build: a part of the wrong size"
        pure (.agg cells)
      | _ => stuck "build: struct or array type expected") := rfl
  simp only [execOp, hb, Sem.run_bind, hz, run_und hu, hs, Result.andThen_ok, Value.cells, Sem.run_pure]
  simp [Instr.fill]
def SlA {α : Type} (S : World → Prop) (a : Option Addr) (sz : Nat) (f : α → List Value) (xs : List α) : Prop :=
  ∀ i x, xs[i]? = some x → ∃ b off, a = some ⟨b, off, none⟩ ∧ Cells S b (off + i * sz) (f x)
variable {α : Type} {sz : Nat} {f : α → List Value} {xs : List α} {a : Option Addr}
theorem sla_nil : SlA S a sz f [] := fun i x h => by simp at h
theorem SlA.weak (h : SlA (OwnP W0 B) a sz f xs) [k : Ent A B] : SlA (OwnP W0 A) a sz f xs := fun i x hi => by
  obtain ⟨b, off, rfl, hc⟩ := h i x hi
  exact ⟨b, off, rfl, hc.weak⟩
theorem SlA.at_ (h : SlA S a sz f xs) {i : Nat} (hi : i < xs.length) : ∃ b off, a = some ⟨b, off, none⟩ ∧ Cells S b (off + i * sz) (f xs[i]) := h i xs[i] (by simp [hi])
theorem sla_own {E n c : Nat} {ys : List Value} {w : World} [h : Tk (osl E sz) (.slice a n c) A ys R] (hf : ∀ x, (f x).length = sz) (hz : 0 < sz) (hy : ys = xs.flatMap f) (hO : Own W0 w A) : SlA (OwnP W0 A) a sz f xs := by
  rcases (hO.tk (r := osl E sz) (b := .slice a n c)).osl with ⟨k1, k2, _⟩ | ⟨g, n', cap, sp, k1, _, _, _, _, _⟩
  · have : xs = [] := by
      have hl := flat_len hf xs
      rw [← hy, k2] at hl
      rcases Nat.eq_zero_or_pos xs.length with q | q
      · exact List.eq_nil_of_length_eq_zero q
      · have := Nat.mul_pos q hz
        simp at hl; omega
    subst this; exact sla_nil
  · cases k1
    intro i x hi
    have hlt : i < xs.length := by
      rcases Nat.lt_or_ge i xs.length with k | k
      · exact k
      · rw [List.getElem?_eq_none k] at hi; cases hi
    have hx : x = xs[i] := by rw [List.getElem?_eq_getElem hlt] at hi; exact (Option.some.inj hi).symm
    subst hx
    refine ⟨g, 0, rfl, fun j v hj w' hO' => ?_⟩
    rcases (Own.tk (r := osl E sz) (b := .slice (some ⟨g, 0, none⟩) n c) hO').osl with ⟨q1, _, _⟩ | ⟨g', n'', cap', sp', q1, _, _, _, _, q6⟩
    · cases q1
    · cases q1
      have hb := q6.has.2
      have hjl : j < sz := by
        rcases Nat.lt_or_ge j (f xs[i]).length with q | q
        · rw [hf] at q; exact q
        · rw [List.getElem?_eq_none q] at hj; cases hj
      have hg := flat_get hf xs i j sp' hlt hjl
      subst hy
      rw [hj] at hg
      simp only [World.cell?, hb, Option.isSome_none, Bool.false_eq_true, if_false, List.getElem?_toArray, Nat.zero_add]
      exact hg
theorem sla_pt {l : List Value} [h : Tk pt b A (cob l ty) R] (hf : ∀ x, (f x).length = sz) (hl : l = xs.flatMap f) : SlA (OwnP W0 A) (some ⟨b, 0, none⟩) sz f xs := fun i x hi => by
  have hlt : i < xs.length := by
    rcases Nat.lt_or_ge i xs.length with k | k
    · exact k
    · rw [List.getElem?_eq_none k] at hi; cases hi
  have hx : x = xs[i] := by rw [List.getElem?_eq_getElem hlt] at hi; exact (Option.some.inj hi).symm
  subst hx
  refine ⟨b, 0, rfl, fun j v hj => cell_own (l := l) (ty := ty) (R := R) ?_⟩
  have hjl : j < sz := by
    rcases Nat.lt_or_ge j (f xs[i]).length with q | q
    · rw [hf] at q; exact q
    · rw [List.getElem?_eq_none q] at hj; cases hj
  have hg := flat_get hf xs i j [] hlt hjl
  rw [List.append_nil, hj] at hg
  subst hl
  rw [Nat.zero_add]; exact hg
theorem run_sla {E n c : Nat} {ys : List Value} {K : Act → World → Prop} [h : Tk (osl E sz) (.slice a n c) A ys R] (f : α → List Value) (xs : List α) (hf : ∀ x, (f x).length = sz) (hz : 0 < sz) (hy : ys = xs.flatMap f) (k : SlA (OwnP W0 A) a sz f xs → Run W0 N K e A) : Run W0 N K e A :=
  fun a w hF hO => k (sla_own (h := h) hf hz hy hO) a w hF hO
theorem spec_sla {E n c : Nat} {ys : List Value} {fn : FuncId} {args : List Value} {Post : Value → List HP → Prop} [h : Tk (osl E sz) (.slice a n c) A ys R] (f : α → List Value) (xs : List α) (hf : ∀ x, (f x).length = sz) (hz : 0 < sz) (hy : ys = xs.flatMap f)
    (k : SlA (OwnP W0 A) a sz f xs → Spec P W0 fn args A Post) : Spec P W0 fn args A Post := fun w hO => k (sla_own (h := h) hf hz hy hO) w hO
def obk : Option Addr → Nat
  | some ad => ad.block
  | none => 0
def Frm0 (a : Option Addr) (ys : List Value) : Prop := (a = none ∧ ys = []) ∨ ∃ g, a = some ⟨g, 0, none⟩
theorem run_form {E n c : Nat} {ys : List Value} {K : Act → World → Prop} [h : Tk (osl E sz) (.slice a n c) A ys R] (k : Frm0 a ys → Run W0 N K e A) : Run W0 N K e A := fun act w hF hO => by
  refine k ?_ act w hF hO
  rcases (hO.tk (r := osl E sz) (b := .slice a n c)).osl with ⟨k1, k2, _⟩ | ⟨g, n', cap, sp, k1, _, _, _, _, _⟩
  · cases k1; exact .inl ⟨rfl, k2⟩
  · cases k1; exact .inr ⟨g, rfl⟩
theorem cells_osl {E n c : Nat} {ys : List Value} [h : Tk (osl E sz) (.slice a n c) A ys R] : Cells (OwnP W0 A) (obk a) 0 ys := fun i v hi w hO => by
  rcases (Own.tk (r := osl E sz) (b := .slice a n c) hO).osl with ⟨k1, k2, _⟩ | ⟨g, n', cap, sp, k1, _, _, _, _, q⟩
  · rw [k2] at hi; simp at hi
  · cases k1
    have hb := q.has.2
    have hlt : i < ys.length := by
      rcases Nat.lt_or_ge i ys.length with k | k
      · exact k
      · rw [List.getElem?_eq_none k] at hi; cases hi
    simp only [obk, World.cell?, hb, Option.isSome_none, Bool.false_eq_true, if_false, List.getElem?_toArray, Nat.zero_add]
    rw [List.getElem?_append_left hlt]; exact hi
theorem sla_cells {ys : List Value} (hf : Frm0 a ys) (hc : Cells S (obk a) 0 ys) (hl : ∀ x, (f x).length = sz) (hy : ys = xs.flatMap f) (hz : 0 < sz) : SlA S a sz f xs := fun i x hi => by
  have hlt : i < xs.length := by
    rcases Nat.lt_or_ge i xs.length with k | k
    · exact k
    · rw [List.getElem?_eq_none k] at hi; cases hi
  have hx : x = xs[i] := by rw [List.getElem?_eq_getElem hlt] at hi; exact (Option.some.inj hi).symm
  subst hx
  rcases hf with ⟨_, h0⟩ | ⟨g, rfl⟩
  · have := flat_len hl xs
    rw [← hy, h0] at this
    have h2 := Nat.mul_pos (show 0 < xs.length by omega) hz
    simp at this; omega
  · refine ⟨g, 0, rfl, fun j v hj => ?_⟩
    have hjl : j < sz := by
      rcases Nat.lt_or_ge j (f xs[i]).length with q | q
      · rw [hl] at q; exact q
      · rw [List.getElem?_eq_none q] at hj; cases hj
    have hg := flat_get hl xs i j [] hlt hjl
    rw [List.append_nil, hj, ← hy] at hg
    have := hc _ v hg
    rw [Nat.zero_add] at this ⊢
    exact this
theorem SlA.all (h : SlA S a sz f xs) (hne : xs ≠ []) (hf : ∀ x, (f x).length = sz) : ∃ b off, a = some ⟨b, off, none⟩ ∧ Cells S b off (xs.flatMap f) := by
  obtain ⟨b, off, rfl, h0⟩ := h.at_ (i := 0) (List.length_pos_iff.2 hne)
  refine ⟨b, off, rfl, fun j v hj => ?_⟩
  have hl := flat_len hf xs
  have hjl : j < xs.length * sz := by
    rcases Nat.lt_or_ge j (xs.flatMap f).length with q | q
    · omega
    · rw [List.getElem?_eq_none q] at hj; cases hj
  have hz : 0 < sz := by
    rcases Nat.eq_zero_or_pos sz with q | q
    · subst q; simp at hjl
    · exact q
  have hi : j / sz < xs.length := (Nat.div_lt_iff_lt_mul hz).2 hjl
  obtain ⟨b', off', he, hc⟩ := h.at_ hi
  cases he
  have hm : j / sz * sz + j % sz = j := by rw [Nat.mul_comm]; exact Nat.div_add_mod j sz
  have hg := flat_get hf xs (j / sz) (j % sz) [] hi (Nat.mod_lt _ hz)
  rw [List.append_nil, hm, hj] at hg
  have := hc (j % sz) v hg.symm
  rwa [Nat.add_assoc, hm] at this
end
def inI (x : Int) : List Value := [.int .i64 x]
end Go.Proofs.YtlnmofhehcilhaaGreat
namespace Go.Proofs.YtlnmofhehcilhaaGreat
open Go.RowKit
set_option linter.unusedSimpArgs false
set_option linter.unusedVariables false
set_option maxRecDepth 20000
def pcN (pa n at_ : Nat) : Nat := min (n - at_) (64 - (pa + at_) % 64)
theorem pcN_pos {pa n at_ : Nat} (h : at_ < n) : 0 < pcN pa n at_ ∧ at_ + pcN pa n at_ ≤ n := by unfold pcN; omega
def pcV (pa n at_ : Nat) : List Value := [.int .i64 ((pa + at_) / 64 : Nat), .int .i64 ((pa + at_) % 64 : Nat), .int .i64 (at_ : Nat), .int .i64 (pcN pa n at_ : Nat)]
theorem pieces1_spec (W0 : World) (bn bp pa n L : Nat) (hpa : pa ≤ 100000) (hn : n ≤ 100000) (C : Nat → List HP) (I : Nat → Prop) (h0 : I 0) (Stop : List HP → Prop)
    (hr : ∀ at_ R, at_ < n → I at_ → Rounds Tryz.prog W0 L [.agg (pcV pa n at_).toArray] (C at_ ++ R) (fun v B => ∃ b B', v = .bool b ∧ B = B' ++ R ∧ ((b = true ∧ I (at_ + pcN pa n at_) ∧ B' = C (at_ + pcN pa n at_)) ∨ (b = false ∧ Stop B')))) :
    Spec Tryz.prog W0 267 [.func (.yield L) #[] #[], .pointer (some ⟨bn, 0, none⟩), .pointer (some ⟨bp, 0, none⟩)] (pt bn (cob [.int .i64 n] 3) :: pt bp (cob [.int .i64 pa] 3) :: C 0)
      (fun v B => v = .tuple #[] ∧ ((I n ∧ B = C n) ∨ Stop B)) := by
  refine spec_body Tryz.func267 Tryz.ntmps267 rfl rfl ?_
  refine x_seq (x_region (s_val rfl (v_assign rfl) (x_nil (n_then (x_block ?_)))))
  refine x_loop (fun i : Nat => i ≤ n ∧ I i) (fun i => [(0, .func (.yield L) #[] #[]), (1, .pointer (some ⟨bn, 0, none⟩)), (2, .pointer (some ⟨bp, 0, none⟩)), (4, .int .i64 i)]) (fun i => pt bn (cob [.int .i64 n] 3) :: pt bp (cob [.int .i64 pa] 3) :: C i) (fun i => n - i) 0 ?_ ?_ ?_ ?_
  · exact ⟨Nat.zero_le _, h0⟩
  · repeat (first | exact sub_nil | refine sub_cons rfl ?_)
  · exact inferInstance
  · intro i ⟨hi, hI⟩
    refine x_seq (x_seq (x_region (s_val rfl (v_move rfl) (s_val rfl (v_load Tryz.isAgg3 rfl (cell_own rfl)) ?_))))
    refine s_val rfl (v_lss rfl rfl) (x_nil (n_then ?_))
    refine x_if rfl ?_ ?_
    · intro c1
      refine x_skip (n_then (x_block (x_seq ?_)))
      have hpos := pcN_pos (pa := pa) (n := n) (at_ := i) (by omega)
      refine x_region (s_val rfl (v_load Tryz.isAgg3 rfl (cell_own rfl)) ?_)
      refine s_val rfl (v_move rfl) ?_
      refine s_val rfl (v_add rfl rfl (by rw [w64 (by omega)]; omega : IntKind.wrap .i64 ((pa : Int) + (i : Int)) = ((pa + i : Nat) : Int))) ?_
      refine s_val rfl (v_quo rfl rfl (by decide) ((congrArg (IntKind.wrap .i64) (tdivN (pa + i) 64)).trans (w64 (by omega)))) ?_
      refine s_val rfl (v_load Tryz.isAgg3 rfl (cell_own rfl)) ?_
      refine s_val rfl (v_move rfl) ?_
      refine s_val rfl (v_add rfl rfl (by rw [w64 (by omega)]; omega : IntKind.wrap .i64 ((pa : Int) + (i : Int)) = ((pa + i : Nat) : Int))) ?_
      refine s_val rfl (v_rem rfl rfl (by decide) (tmodN (pa + i) 64)) ?_
      refine s_val rfl (v_move rfl) (s_val rfl (v_build Tryz.underlying308 Tryz.zeroValue308 (sized_cons Tryz.sizeOf3 (sized_cons Tryz.sizeOf3 (sized_cons Tryz.sizeOf3 (sized_cons Tryz.sizeOf3 sized_nil)))) (fil_scal rfl Tryz.sizeOf3 rfl rfl (Nat.le_of_ble_eq_true rfl) SetL.eq (fil_scal rfl Tryz.sizeOf3 rfl rfl (Nat.le_of_ble_eq_true rfl) SetL.eq (fil_scal rfl Tryz.sizeOf3 rfl rfl (Nat.le_of_ble_eq_true rfl) SetL.eq fil_nil)))) ?_)
      refine s_do rfl (d_allocA Tryz.zeroValue308) ?_
      rintro _ _ ⟨b1, rfl, rfl⟩
      refine s_do0 (d_storeAll Tryz.sizeOf308 rfl rfl rfl rfl rfl) ?_
      rintro _ _ rfl
      refine x_nil (n_then (x_seq (x_region (s_val rfl (v_load Tryz.isAgg3 rfl (cell_own rfl)) ?_))))
      refine s_val rfl (v_move rfl) ?_
      refine s_val rfl (v_sub rfl rfl (by rw [w64 (by omega)]; omega : IntKind.wrap .i64 ((n : Int) - (i : Int)) = ((n - i : Nat) : Int))) ?_
      refine s_val rfl (v_fieldAddr rfl Tryz.underlying308 rfl Tryz.sizeOf3 rfl (by first | exact Nat.zero_add _ | rfl)) ?_
      refine s_val rfl (v_load Tryz.isAgg3 rfl (cell_own rfl)) ?_
      refine s_val rfl (v_sub rfl rfl (by rw [w64 (by omega)]; omega : IntKind.wrap .i64 (64 - (((pa + i) % 64 : Nat) : Int)) = ((64 - (pa + i) % 64 : Nat) : Int))) ?_
      refine s_val rfl (v_min rfl rfl (by unfold pcN; split <;> omega : (if ((64 - (pa + i) % 64 : Nat) : Int) < ((n - i : Nat) : Int) then ((64 - (pa + i) % 64 : Nat) : Int) else ((n - i : Nat) : Int)) = ((pcN pa n i : Nat) : Int))) ?_
      refine s_val rfl (v_fieldAddr rfl Tryz.underlying308 rfl Tryz.sizeOf3 rfl (by first | exact Nat.zero_add _ | rfl)) ?_
      refine s_do0 (d_store Tryz.sizeOf3 rfl rfl rfl (Nat.le_of_ble_eq_true rfl) SetL.eq) ?_
      rintro _ _ rfl
      refine x_nil (n_then (x_seq (x_seq (x_region (s_val rfl (v_move rfl) (s_val rfl (v_loadAll Tryz.isAgg308 Tryz.sizeOf308 rfl rfl) ?_))))))
      refine s_yield rfl rfl rfl (rounds_perm (List.perm_append_comm (l₁ := [_, _, _])) (hr i [_, _, _] (by omega) hI)) ?_
      rintro _ B_ ⟨b, B', rfl, hB_, hb⟩
      obtain rfl := hB_.symm
      refine run_perm List.perm_append_comm ?_
      simp only [List.cons_append, List.nil_append]
      refine s_val rfl (v_not rfl) (x_nil (n_then ?_))
      refine x_if rfl ?_ ?_
      · intro c4
        have hs : Stop B' := by
          rcases hb with h | h
          · exact absurd c4 (by rw [h.1]; decide)
          · exact h.2
        refine x_ret (r_then (r_block (r_then (r_block (x_done (.inl rfl) .nil ?_)))))
        exact ⟨_, ⟨rfl, .inr hs⟩, inferInstance⟩
      · intro c4
        have hs : I (i + pcN pa n i) ∧ B' = C (i + pcN pa n i) := by
          rcases hb with h | h
          · exact h.2
          · exact absurd (by rw [h.1]; decide) c4
        obtain ⟨hI', rfl⟩ := hs
        refine x_skip (n_then (x_region (s_val rfl (v_move rfl) ?_)))
        refine s_val rfl (v_fieldAddr rfl Tryz.underlying308 rfl Tryz.sizeOf3 rfl (by first | exact Nat.zero_add _ | rfl)) ?_
        refine s_val rfl (v_load Tryz.isAgg3 rfl (cell_own rfl)) ?_
        refine s_val rfl (v_add rfl rfl (by rw [w64 (by omega)]; omega : IntKind.wrap .i64 ((i : Int) + ((pcN pa n i : Nat) : Int)) = ((i + pcN pa n i : Nat) : Int))) ?_
        refine s_val rfl (v_assign rfl) (x_nil (n_block (n_then ?_)))
        refine inv_intro (i + pcN pa n i) ?_ ?_ ?_ ?_
        · exact ⟨by omega, hI'⟩
        · omega
        · repeat (first | exact sub_nil | refine sub_cons rfl ?_)
        · exact inferInstance
    · intro c1
      refine x_exit (e_then (e_then (e_block (x_done (.inr rfl) .nil ?_))))
      have : i = n := by omega
      subst this
      exact ⟨_, ⟨rfl, .inl ⟨hI, rfl⟩⟩, inferInstance⟩
theorem pieces_spec (W0 : World) (R : List HP) (pa n : Nat) :
    Spec Tryz.prog W0 216 [.int .i64 pa, .int .i64 n] R (fun v B => ∃ bn bp, v = .func (.func 267) #[] #[.pointer (some ⟨bn, 0, none⟩), .pointer (some ⟨bp, 0, none⟩)] ∧ B = pt bn (cob [.int .i64 n] 3) :: pt bp (cob [.int .i64 pa] 3) :: R) := by
  refine spec_body Tryz.func216 Tryz.ntmps216 rfl rfl ?_
  refine x_seq (x_region (s_do rfl (d_box rfl rfl) ?_))
  rintro _ _ ⟨b1, rfl, rfl⟩
  refine s_do rfl (d_box rfl rfl) ?_
  rintro _ _ ⟨b2, rfl, rfl⟩
  refine s_val rfl (v_assign rfl) (x_nil (n_then (x_seq (x_region (s_val rfl (v_mkFunc rfl rfl) ?_)))))
  refine s_val rfl (v_assign rfl) (x_nil (n_then (x_ret (x_done (.inl rfl) (.cons (r_tmp rfl) .nil) ?_))))
  exact ⟨_, ⟨b2, b1, rfl, rfl⟩, inferInstance⟩
theorem pieces_range {W0 : World} {A : List HP} {e : Env} {n' L D bn bp : Nat} {ps : Array Tmp} {asg body : Code} {Go Stop : List HP → Prop} (pa n : Nat) (C : Nat → List HP) (I : Nat → Prop) (hpa : pa ≤ 100000) (hn : n ≤ 100000)
    (hp : A.Perm (pt bn (cob [.int .i64 n] 3) :: pt bp (cob [.int .i64 pa] 3) :: C 0)) (h0 : I 0) (hgo : I n → Go (C n))
    (hr : ∀ at_ R, at_ < n → I at_ → Rounds Tryz.prog W0 L [.agg (pcV pa n at_).toArray] (recH L ⟨e, n', ps, asg, body, .ready, none, D⟩ :: pt D (.deferred (some [])) :: (C at_ ++ R))
      (fun v B => (v = .bool true ∧ I (at_ + pcN pa n at_) ∧ B = recH L ⟨e, n', ps, asg, body, .ready, none, D⟩ :: pt D (.deferred (some [])) :: (C (at_ + pcN pa n at_) ++ R)) ∨
        (v = .bool false ∧ ∃ B', Stop B' ∧ B = recH L ⟨e, n', ps, asg, body, .done, some .ret, D⟩ :: pt D (.deferred (some [])) :: (B' ++ R)))) :
    Spec Tryz.prog W0 267 (.func (.yield L) #[] #[] :: [.pointer (some ⟨bn, 0, none⟩), .pointer (some ⟨bp, 0, none⟩)]) (recH L ⟨e, n', ps, asg, body, .ready, none, D⟩ :: pt D (.deferred (some [])) :: A)
      (fun _ B => (∃ C, B = recH L ⟨e, n', ps, asg, body, .ready, none, D⟩ :: pt D (.deferred (some [])) :: C ∧ Go C) ∨ (∃ C, B = recH L ⟨e, n', ps, asg, body, .done, some .ret, D⟩ :: pt D (.deferred (some [])) :: C ∧ Stop C)) := by
  have hperm : (recH L ⟨e, n', ps, asg, body, .ready, none, D⟩ :: pt D (.deferred (some [])) :: A).Perm (pt bn (cob [.int .i64 n] 3) :: pt bp (cob [.int .i64 pa] 3) :: (recH L ⟨e, n', ps, asg, body, .ready, none, D⟩ :: pt D (.deferred (some [])) :: C 0)) := by
    refine ((hp.cons _).cons _).trans ?_
    exact (((List.Perm.swap _ _ _).trans ((List.Perm.swap _ _ _).cons _)).cons _).trans ((List.Perm.swap _ _ _).trans ((List.Perm.swap _ _ _).cons _)) |>.trans (List.Perm.refl _)
  refine spec_perm hperm (spec_post (pieces1_spec W0 bn bp pa n L hpa hn (fun i => recH L ⟨e, n', ps, asg, body, .ready, none, D⟩ :: pt D (.deferred (some [])) :: C i) I h0
    (fun B => ∃ B', Stop B' ∧ B = recH L ⟨e, n', ps, asg, body, .done, some .ret, D⟩ :: pt D (.deferred (some [])) :: B') fun at_ R hat hI w hO => ?_) ?_)
  · obtain ⟨f, tmps, as_, bd, hy, hR⟩ := hr at_ R hat hI w hO
    refine ⟨f, tmps, as_, bd, hy, RoundIn.mono hR ?_⟩
    rintro _ w' ⟨v, B, rfl, hB, hO'⟩
    rcases hB with ⟨rfl, hI', rfl⟩ | ⟨rfl, B', hS, rfl⟩
    · exact ⟨_, _, rfl, ⟨true, _, rfl, rfl, .inl ⟨rfl, hI', rfl⟩⟩, hO'⟩
    · exact ⟨_, _, rfl, ⟨false, recH L ⟨e, n', ps, asg, body, .done, some .ret, D⟩ :: pt D (.deferred (some [])) :: B', rfl, rfl, .inr ⟨rfl, B', hS, rfl⟩⟩, hO'⟩
  · rintro v B ⟨_, ⟨hI, rfl⟩ | ⟨B', hS, rfl⟩⟩
    · exact ⟨_, .inl ⟨_, rfl, hgo hI⟩, ent_refl⟩
    · exact ⟨_, .inr ⟨_, rfl, hS⟩, ent_refl⟩
end Go.Proofs.YtlnmofhehcilhaaGreat
namespace Go.Proofs.YtlnmofhehcilhaaGreat
open Go.RowKit
set_option linter.unusedSimpArgs false
set_option linter.unusedVariables false
set_option maxRecDepth 20000
def pgI (a : Nat) : Int := ((a / 64 : Nat) : Int)
def ownA (len : Nat) (pg : List Pl) (pa n : Nat) : Prop := ∀ i, i < n → frmB len pg (pgI (pa + i)) = true
instance {len : Nat} {pg : List Pl} {pa n : Nat} : Decidable (ownA len pg pa n) := by unfold ownA; exact Nat.decidableBallLT n _
def ownB (len : Nat) (pg : List Pl) (pa : Nat) (n : Int) : Bool := decide (0 ≤ n ∧ pa ≤ 512 ∧ n ≤ 512 - (pa : Int)) && decide (ownA len pg pa n.toNat)
theorem ownB_iff {len : Nat} {pg : List Pl} {pa : Nat} {n : Int} : ownB len pg pa n = true ↔ (0 ≤ n ∧ pa ≤ 512 ∧ n ≤ 512 - (pa : Int)) ∧ ownA len pg pa n.toNat := by simp [ownB]
theorem ownB_nat {len : Nat} {pg : List Pl} {pa n : Nat} : ownB len pg pa n = true ↔ pa + n ≤ 512 ∧ ownA len pg pa n := by
  rw [ownB_iff]; simp only [Int.toNat_natCast]
  constructor
  · rintro ⟨h1, h2⟩; exact ⟨by omega, h2⟩
  · rintro ⟨h1, h2⟩; exact ⟨by omega, h2⟩
theorem pc_page {pa n at_ i : Nat} (h1 : at_ ≤ i) (h2 : i < at_ + pcN pa n at_) : (pa + i) / 64 = (pa + at_) / 64 := by unfold pcN at h2; omega
theorem pc_off {pa n at_ k : Nat} (h2 : k < pcN pa n at_) : (pa + (at_ + k)) / 64 = (pa + at_) / 64 ∧ (pa + (at_ + k)) % 64 = (pa + at_) % 64 + k := by unfold pcN at h2; omega
theorem viOwn_spec (W0 : World) (R : List HP) (pv ps pm d : Nat) (fr : List Frm) (pg : List Pl) (h : Pgs pg) (pa : Nat) (hpa : pa < 4294967296) (n : Int) :
    Spec Tryz.prog W0 132 [.pointer (some ⟨pv, 0, none⟩), .int .u32 pa, .int .i64 n] (pt pv (viO ps pm d) :: stoH ps fr :: pt pm (gmO pg) :: R)
      (fun v B => v = .bool (ownB fr.length pg pa n) ∧ B = pt pv (viO ps pm d) :: stoH ps fr :: pt pm (gmO pg) :: R) := by
  refine spec_body Tryz.func132 Tryz.ntmps132 rfl rfl ?_
  refine x_seq (x_region (s_do rfl (d_box rfl rfl) ?_))
  rintro _ _ ⟨b1, rfl, rfl⟩
  refine s_do rfl (d_alloc Tryz.zeroValue4 rfl) ?_
  rintro _ _ ⟨b2, rfl, rfl⟩
  refine x_nil (n_then (x_seq (x_seq (x_region (s_val rfl (v_load Tryz.isAgg51 rfl (cell_own rfl)) ?_)))))
  refine s_do rfl (d_call1 Tryz.call119 rfl (viNone_spec W0 _ pv ps pm d)) ?_
  rintro _ B_ ⟨rfl, hB_⟩
  obtain rfl := hB_.symm
  refine s_val rfl (v_move rfl) ?_
  refine s_or rfl rfl rfl ?_ ?_
  · intro g1_3
    exact absurd g1_3 (by decide)
  · intro g1_3
    refine s_val rfl (v_move rfl) (s_yes rfl rfl (s_val rfl (v_lss rfl rfl) (s_val rfl (v_pick_f rfl rfl) (s_val rfl (v_move rfl) ?_))))
    refine s_or rfl rfl rfl ?_ ?_
    · intro g1_7
      refine s_no rfl rfl rfl rfl (s_val rfl (v_pick_t rfl rfl) (s_val rfl (v_move rfl) (s_no rfl rfl rfl rfl (s_no rfl rfl rfl rfl (s_no rfl rfl rfl rfl (s_no rfl rfl rfl rfl (s_no rfl rfl rfl rfl (s_val rfl (v_pick_t rfl rfl) (x_nil (n_then (x_ift rfl (x_seq (x_region (s_do0 (d_store Tryz.sizeOf4 rfl rfl rfl (Nat.le_of_ble_eq_true rfl) SetL.eq) ?_))))))))))))))
      rintro _ _ rfl
      refine x_nil (n_then (x_ret (r_then (x_done (.inl rfl) (.cons (r_cell Tryz.isAgg4 rfl (cell_own rfl)) .nil) ?_))))
      refine ⟨_, ⟨?_, rfl⟩, inferInstance⟩
      refine congrArg Value.bool (Eq.symm ?_)
      rw [← Bool.not_eq_true, ownB_iff]; omega
    · intro g1_7
      refine s_val rfl (v_move rfl) (s_yes rfl rfl (s_val rfl (v_gtr rfl rfl) (s_val rfl (v_pick_f rfl rfl) (s_val rfl (v_move rfl) ?_))))
      refine s_or rfl rfl rfl ?_ ?_
      · intro g1_11
        refine s_no rfl rfl rfl rfl (s_no rfl rfl rfl rfl (s_no rfl rfl rfl rfl (s_no rfl rfl rfl rfl (s_val rfl (v_pick_t rfl rfl) (x_nil (n_then (x_ift rfl (x_seq (x_region (s_do0 (d_store Tryz.sizeOf4 rfl rfl rfl (Nat.le_of_ble_eq_true rfl) SetL.eq) ?_))))))))))
        rintro _ _ rfl
        refine x_nil (n_then (x_ret (r_then (x_done (.inl rfl) (.cons (r_cell Tryz.isAgg4 rfl (cell_own rfl)) .nil) ?_))))
        refine ⟨_, ⟨?_, rfl⟩, inferInstance⟩
        refine congrArg Value.bool (Eq.symm ?_)
        rw [← Bool.not_eq_true, ownB_iff]; omega
      · intro g1_11
        refine s_val rfl (v_move rfl) (s_yes rfl rfl (s_val rfl (v_move rfl) (s_yes rfl rfl ?_)))
        refine s_val rfl (v_conv Tryz.underlying47 Tryz.underlying3 rfl (by first | exact w64 (by omega) | rfl)) ?_
        refine s_yes rfl rfl ?_
        refine s_val rfl (v_sub rfl rfl (by first | exact w64 (by omega) | rfl)) ?_
        refine s_yes rfl rfl (s_val rfl (v_gtr rfl rfl) (s_val rfl (v_pick_f rfl rfl) (x_nil (n_then ?_))))
        refine x_if rfl ?_ ?_
        · intro c1
          refine x_seq (x_region (s_do0 (d_store Tryz.sizeOf4 rfl rfl rfl (Nat.le_of_ble_eq_true rfl) SetL.eq) ?_))
          rintro _ _ rfl
          refine x_nil (n_then (x_ret (r_then (x_done (.inl rfl) (.cons (r_cell Tryz.isAgg4 rfl (cell_own rfl)) .nil) ?_))))
          refine ⟨_, ⟨?_, rfl⟩, inferInstance⟩
          refine congrArg Value.bool (Eq.symm ?_)
          rw [← Bool.not_eq_true, ownB_iff]; omega
        · intro c1
          refine x_skip (n_then (x_seq (x_seq ?_)))
          obtain ⟨k, rfl⟩ : ∃ k : Nat, n = (k : Int) := ⟨n.toNat, by omega⟩
          have hk : pa + k ≤ 512 := by omega
          refine x_region (s_val rfl (v_move rfl) ?_)
          refine s_val rfl (v_conv Tryz.underlying47 Tryz.underlying3 rfl (by first | exact w64 (by omega) | rfl)) ?_
          refine s_val rfl (v_move rfl) (s_do rfl (d_call Tryz.call216 rfl (pieces_spec W0 _ pa k)) ?_)
          rintro _ B_ ⟨bn, bp, rfl, hB_⟩
          obtain rfl := hB_.symm
          refine x_nil (n_then (x_block ?_))
          refine x_rangeFunc (fun C => ownA fr.length pg pa k ∧ C = pt pv (viO ps pm d) :: pt b2 (cob [.bool false] 4) :: pt b1 (cob [.pointer (some ⟨pv, 0, none⟩)] 51) :: stoH ps fr :: pt pm (gmO pg) :: R) (fun C => ¬ ownA fr.length pg pa k ∧ C = pt pv (viO ps pm d) :: pt b2 (cob [.bool false] 4) :: pt b1 (cob [.pointer (some ⟨pv, 0, none⟩)] 51) :: stoH ps fr :: pt pm (gmO pg) :: R) rfl Tryz.call267 ?_ ?_ ?_
          · intro L D
            refine pieces_range pa k (fun _ => pt pv (viO ps pm d) :: pt b2 (cob [.bool false] 4) :: pt b1 (cob [.pointer (some ⟨pv, 0, none⟩)] 51) :: stoH ps fr :: pt pm (gmO pg) :: R) (fun i => ownA fr.length pg pa i) (by omega) (by omega) perm2 (fun i hi => by omega) (fun hI => ⟨hI, rfl⟩) ?_
            intro at_ R' h1 h2
            simp only [List.cons_append, List.nil_append]
            refine rounds_intro rfl rfl ?_
            refine x_region (s_do rfl (d_allocA Tryz.zeroValue308) ?_)
            rintro _ _ ⟨b3, rfl, rfl⟩
            refine s_do0 (d_storeAll Tryz.sizeOf308 rfl rfl rfl rfl rfl) ?_
            rintro _ _ rfl
            refine x_nil (n_begin rfl ?_)
            refine x_block (x_seq (x_region (s_val rfl (v_load Tryz.isAgg51 rfl (cell_own rfl)) ?_)))
            refine s_val rfl (v_fieldAddr rfl Tryz.underlying308 rfl Tryz.sizeOf3 rfl (by first | exact Nat.zero_add _ | rfl)) ?_
            refine s_val rfl (v_load Tryz.isAgg3 rfl (cell_own rfl)) ?_
            refine s_do rfl (d_call3 Tryz.call217 rfl (viFrame_spec W0 _ pv ps pm d fr pg h (((pa + at_) / 64 : Nat) : Int))) ?_
            rintro _ B_ ⟨rfl, hB_⟩
            obtain rfl := hB_.symm
            refine s_val rfl (v_move rfl) (s_val rfl (v_extract rfl rfl) (s_val rfl (v_extract rfl rfl) (s_val rfl (v_assign rfl) (s_val rfl (v_assign rfl) (x_nil (n_then (x_seq (x_region (s_val rfl (v_move rfl) (s_val rfl (v_not rfl) (x_nil (n_then ?_))))))))))))
            refine x_if rfl ?_ ?_
            · intro c6
              refine x_seq (x_region (s_do0 (d_store Tryz.sizeOf4 rfl rfl rfl (Nat.le_of_ble_eq_true rfl) SetL.eq) ?_))
              rintro _ _ rfl
              refine x_nil (n_then (x_ret (r_block (r_stop ?_))))
              have hn : ¬ ownA fr.length pg pa k := fun q => c6 (q at_ h1)
              refine ⟨_, .inr ⟨rfl, _, ⟨hn, rfl⟩, rfl⟩, ?_⟩
              simp only [List.cons_append]
              exact inferInstance
            · intro c6
              refine x_skip (n_block (r_go ?_))
              have hb : frmB fr.length pg (pgI (pa + at_)) = true := Decidable.not_not.1 c6
              have hI' : ownA fr.length pg pa (at_ + pcN pa k at_) := fun i hi => by
                rcases Nat.lt_or_ge i at_ with q | q
                · exact h2 i q
                · rw [pgI, pc_page q hi]; exact hb
              exact ⟨_, .inl ⟨rfl, hI', rfl⟩, inferInstance⟩
          · intro D C hC
            obtain ⟨hown, rfl⟩ := hC
            refine n_block (n_then (x_seq (x_region (s_do0 (d_store Tryz.sizeOf4 rfl rfl rfl (Nat.le_of_ble_eq_true rfl) SetL.eq) ?_))))
            rintro _ _ rfl
            refine x_nil (n_then (x_ret (x_doneM (.inl rfl) (.cons (r_cell Tryz.isAgg4 rfl (cell_own rfl)) .nil) ?_)))
            refine ⟨_, ⟨?_, rfl⟩, inferInstance⟩
            refine congrArg Value.bool (Eq.symm ?_)
            rw [ownB_nat]; exact ⟨hk, hown⟩
          · intro D C hC
            obtain ⟨hown, rfl⟩ := hC
            refine r_block (r_then (x_doneM (.inl rfl) (.cons (r_cell Tryz.isAgg4 rfl (cell_own rfl)) .nil) ?_))
            refine ⟨_, ⟨?_, rfl⟩, inferInstance⟩
            refine congrArg Value.bool (Eq.symm ?_)
            rw [← Bool.not_eq_true, ownB_nat]; exact fun q => hown q.2
end Go.Proofs.YtlnmofhehcilhaaGreat
namespace Go.Proofs.YtlnmofhehcilhaaGreat
open Go.RowKit
set_option linter.unusedSimpArgs false
set_option linter.unusedVariables false
set_option maxRecDepth 20000
def whr (pg : List Pl) (a : Nat) : Int := (gGot pg (pgI a)).1
theorem viEach_spec (W0 : World) (R : List HP) (pv ps pm : Nat) (pg : List Pl) (h : Pgs pg) (pa n : Nat) (hpa : pa + n ≤ 512) (dd : Nat → Nat) (ff : Nat → List Frm) (DH : Nat → HP) (gf : FuncId) (us : List Value)
    (hcall : ∀ args w, (callFunc gf args).run Tryz.prog w = .ok (.enter gf args) w)
    (hdo : ∀ i, i < n → ∀ R', Ent R' R → Spec Tryz.prog W0 gf (.int .i64 (whr pg (pa + i)) :: .int .i64 ((pa + i) % 64 : Nat) :: .int .i64 (i : Nat) :: us) (pt pv (viO ps pm (dd i)) :: stoH ps (ff i) :: pt pm (gmO pg) :: kH 0 (DH i) :: R')
      (fun v B => v = .tuple #[] ∧ B = pt pv (viO ps pm (dd (i + 1))) :: stoH ps (ff (i + 1)) :: pt pm (gmO pg) :: kH 0 (DH (i + 1)) :: R')) :
    Spec Tryz.prog W0 133 [.pointer (some ⟨pv, 0, none⟩), .int .u32 pa, .int .i64 n, .func (.func gf) #[] us.toArray] (pt pv (viO ps pm (dd 0)) :: stoH ps (ff 0) :: pt pm (gmO pg) :: kH 0 (DH 0) :: R)
      (fun v B => v = .tuple #[] ∧ B = pt pv (viO ps pm (dd n)) :: stoH ps (ff n) :: pt pm (gmO pg) :: kH 0 (DH n) :: R) := by
  refine spec_body Tryz.func133 Tryz.ntmps133 rfl rfl ?_
  refine x_seq (x_region (s_do rfl (d_box rfl rfl) ?_))
  rintro _ _ ⟨b1, rfl, rfl⟩
  refine s_do rfl (d_box rfl rfl) ?_
  rintro _ _ ⟨b2, rfl, rfl⟩
  refine x_nil (n_then (x_seq (x_region (s_val rfl (v_move rfl) ?_))))
  refine s_val rfl (v_conv Tryz.underlying47 Tryz.underlying3 rfl (by first | exact w64 (by omega) | rfl)) ?_
  refine s_val rfl (v_move rfl) (s_do rfl (d_call Tryz.call216 rfl (pieces_spec W0 _ pa n)) ?_)
  rintro _ B_ ⟨bn, bp, rfl, hB_⟩
  obtain rfl := hB_.symm
  refine x_nil (n_then (x_block ?_))
  refine x_rangeFunc (fun C => C = pt b2 (cob [.func (.func gf) #[] us.toArray] 226) :: pt b1 (cob [.pointer (some ⟨pv, 0, none⟩)] 51) :: pt pv (viO ps pm (dd n)) :: stoH ps (ff n) :: pt pm (gmO pg) :: kH 0 (DH n) :: R) (fun C => False) rfl Tryz.call267 ?_ ?_ ?_
  · intro L D
    refine pieces_range pa n (fun i => pt b2 (cob [.func (.func gf) #[] us.toArray] 226) :: pt b1 (cob [.pointer (some ⟨pv, 0, none⟩)] 51) :: pt pv (viO ps pm (dd i)) :: stoH ps (ff i) :: pt pm (gmO pg) :: kH 0 (DH i) :: R) (fun i => True) (by omega) (by omega) perm2 trivial (fun hI => rfl) ?_
    intro at_ R' h1 h2
    simp only [List.cons_append, List.nil_append]
    refine rounds_intro rfl rfl ?_
    refine x_region (s_do rfl (d_allocA Tryz.zeroValue308) ?_)
    rintro _ _ ⟨b3, rfl, rfl⟩
    refine s_do0 (d_storeAll Tryz.sizeOf308 rfl rfl rfl rfl rfl) ?_
    rintro _ _ rfl
    refine x_nil (n_begin rfl ?_)
    refine x_block (x_seq (x_region (s_val rfl (v_load Tryz.isAgg51 rfl (cell_own rfl)) ?_)))
    refine s_val rfl (v_fieldAddr rfl Tryz.underlying308 rfl Tryz.sizeOf3 rfl (by first | exact Nat.zero_add _ | rfl)) ?_
    refine s_val rfl (v_load Tryz.isAgg3 rfl (cell_own rfl)) ?_
    refine s_do rfl (d_call3 Tryz.call217 rfl (viFrame_spec W0 _ pv ps pm (dd at_) (ff at_) pg h (((pa + at_) / 64 : Nat) : Int))) ?_
    rintro _ B_ ⟨rfl, hB_⟩
    obtain rfl := hB_.symm
    have hpos := pcN_pos (pa := pa) (n := n) (at_ := at_) h1
    refine s_val rfl (v_move rfl) (s_val rfl (v_extract rfl rfl) (s_val rfl (v_extract rfl rfl) (s_val rfl (v_assign rfl) (s_val rfl (v_assign rfl) (x_nil (n_then (x_seq ?_)))))))
    refine run_tk (r := recH) (b := L) (run_name fun HL hHL => ?_)
    refine x_region ?_
    refine s_val rfl (v_fieldAddr rfl Tryz.underlying308 rfl Tryz.sizeOf3 rfl (by first | exact Nat.zero_add _ | rfl)) ?_
    refine s_val rfl (v_load Tryz.isAgg3 rfl (cell_own rfl)) ?_
    refine s_val rfl (v_move rfl) (x_nil (n_then (x_block ?_)))
    refine x_loop (fun i : Nat => i ≤ pcN pa n at_) (fun i => [(4, .pointer (some ⟨b1, 0, none⟩)), (7, .pointer (some ⟨b2, 0, none⟩)), (8, .pointer (some ⟨b3, 0, none⟩)), (9, .int .i64 (whr pg (pa + at_))), (25, .int .i64 (pcN pa n at_ : Nat)), (26, .int .i64 i)]) (fun i => kH 1 HL :: pt D (.deferred (some [])) :: pt b3 (cob (pcV pa n at_) 308) :: pt b2 (cob [.func (.func gf) #[] us.toArray] 226) :: pt b1 (cob [.pointer (some ⟨pv, 0, none⟩)] 51) :: pt pv (viO ps pm (dd (at_ + i))) :: stoH ps (ff (at_ + i)) :: pt pm (gmO pg) :: kH 0 (DH (at_ + i)) :: (R ++ R')) (fun i => pcN pa n at_ - i) 0 ?_ ?_ ?_ ?_
    · exact Nat.zero_le _
    · repeat (first | exact sub_nil | refine sub_cons rfl ?_)
    · simp only [Nat.add_zero]; exact inferInstance
    · intro i hi
      refine x_seq (x_region (s_val rfl (v_lss rfl rfl) (x_nil (n_then (x_seq ?_)))))
      refine x_if rfl ?_ ?_
      · intro c5
        refine x_skip (n_then (x_seq (x_block (x_seq (x_region (s_val rfl (v_move rfl) (s_val rfl (v_assign rfl) (x_nil (n_then ?_)))))))))
        have hlt : i < pcN pa n at_ := by omega
        have hd := hdo (at_ + i) (by omega)
        rw [show whr pg (pa + (at_ + i)) = whr pg (pa + at_) by rw [whr, pgI, (pc_off hlt).1]; rfl, (pc_off hlt).2] at hd
        refine x_region (s_val rfl (v_load Tryz.isAgg226 rfl (cell_own rfl)) ?_)
        refine s_val rfl (v_move rfl) ?_
        refine s_val rfl (v_fieldAddr rfl Tryz.underlying308 rfl Tryz.sizeOf3 rfl (by first | exact Nat.zero_add _ | rfl)) ?_
        refine s_val rfl (v_load Tryz.isAgg3 rfl (cell_own rfl)) ?_
        refine s_val rfl (v_move rfl) ?_
        refine s_val rfl (v_add rfl rfl (by rw [w64 (by omega)]; omega : IntKind.wrap .i64 ((((pa + at_) % 64 : Nat) : Int) + (i : Int)) = (((pa + at_) % 64 + i : Nat) : Int))) ?_
        refine s_val rfl (v_fieldAddr rfl Tryz.underlying308 rfl Tryz.sizeOf3 rfl (by first | exact Nat.zero_add _ | rfl)) ?_
        refine s_val rfl (v_load Tryz.isAgg3 rfl (cell_own rfl)) ?_
        refine s_val rfl (v_move rfl) ?_
        refine s_val rfl (v_add rfl rfl (by rw [w64 (by omega)]; omega : IntKind.wrap .i64 ((at_ : Int) + (i : Int)) = ((at_ + i : Nat) : Int))) ?_
        refine s_do rfl (d_callv4 rfl hcall rfl (hd _ inferInstance)) ?_
        rintro _ B_ ⟨rfl, hB_⟩
        obtain rfl := hB_.symm
        refine x_nil (n_block (n_then (x_region ?_)))
        refine s_val rfl (v_add rfl rfl (by first | exact w64 (by omega) | rfl)) ?_
        refine s_val rfl (v_move rfl) (x_nil (n_then ?_))
        refine inv_intro (i + 1) ?_ ?_ ?_ ?_
        · omega
        · omega
        · repeat (first | exact sub_nil | refine sub_cons rfl ?_)
        · simp only [← Nat.add_assoc]; exact inferInstance
      · intro c5
        refine x_exit (e_then (e_then (e_block (n_block ?_))))
        have e1 : i = pcN pa n at_ := by omega
        subst e1
        subst hHL
        refine run_unname ?_
        refine r_go ?_
        exact ⟨_, .inl ⟨rfl, trivial, rfl⟩, inferInstance⟩
  · intro D C hC
    obtain rfl := hC
    refine n_block (x_doneM (.inr rfl) .nil ?_)
    exact ⟨_, ⟨rfl, rfl⟩, inferInstance⟩
  · intro D C hC
    exact hC.elim
end Go.Proofs.YtlnmofhehcilhaaGreat
namespace Go.Proofs.YtlnmofhehcilhaaGreat
open Go.RowKit
set_option linter.unusedSimpArgs false
set_option linter.unusedVariables false
set_option maxRecDepth 20000
def rdv (fr : List Frm) (pg : List Pl) (a : Nat) : Nat := ldN fr (whr pg a) ((a % 64 : Nat) : Int) 1
def rdL (fr : List Frm) (pg : List Pl) (pa n : Nat) : List Nat := (List.range n).map fun i => rdv fr pg (pa + i)
def rdO (fr : List Frm) (pg : List Pl) (pa : Nat) (n : Int) : List Nat := if ownB fr.length pg pa n then rdL fr pg pa n.toNat else []
theorem ldN_lt1 {fr : List Frm} (hF : Frs fr) (f off : Int) : ldN fr f off 1 < 256 := by
  unfold ldN; split
  · rename_i hf
    obtain ⟨i, rfl, hi⟩ := isF_nat hf
    unfold getN; split
    · have hb := (hF.get hi).2
      have := leN_lt ((hb.drop off.toNat).take (1 : Int).toNat)
      refine Nat.lt_of_lt_of_le this ?_
      have : ((List.drop off.toNat (fr.getD (i : Int).toNat [])).take (1 : Int).toNat).length ≤ 1 := by simp; omega
      exact Nat.pow_le_pow_right (by decide) this
    · decide
  · decide
theorem rdv_lt {fr : List Frm} (hF : Frs fr) (pg : List Pl) (a : Nat) : rdv fr pg a < 256 := ldN_lt1 hF _ _
theorem rdL_len (fr : List Frm) (pg : List Pl) (pa n : Nat) : (rdL fr pg pa n).length = n := by simp [rdL]
theorem rdL_by {fr : List Frm} (hF : Frs fr) (pg : List Pl) (pa n : Nat) : By (rdL fr pg pa n) := fun b hb => by
  obtain ⟨i, _, rfl⟩ := List.mem_map.1 hb
  exact rdv_lt hF _ _
theorem rdO_by {fr : List Frm} (hF : Frs fr) (pg : List Pl) (pa : Nat) (n : Int) : By (rdO fr pg pa n) := by
  unfold rdO; split
  · exact rdL_by hF _ _ _
  · exact fun b hb => by simp at hb
def outL (f : Nat → Nat) (n i : Nat) : List Nat := (List.range n).map fun j => if j < i then f j else 0
theorem outL_len (f : Nat → Nat) (n i : Nat) : (outL f n i).length = n := by simp [outL]
theorem outL_zero (f : Nat → Nat) (n : Nat) : byV (outL f n 0) = List.replicate n (bV 0) := by
  apply List.ext_getElem <;> simp [outL, byV]
theorem outL_full (f : Nat → Nat) (n : Nat) : outL f n n = (List.range n).map f := by
  apply List.ext_getElem
  · simp [outL]
  · intro i h1 h2
    have : i < n := by simpa using h2
    simp [outL, this]
theorem outL_set {f : Nat → Nat} {n i : Nat} (hi : i < n) : (byV (outL f n i)).set i (bV (f i)) = byV (outL f n (i + 1)) := by
  apply List.ext_getElem
  · simp [outL, byV]
  · intro j h1 h2
    have hj : j < n := by simpa [outL, byV] using h2
    by_cases e : i = j
    · subst e; simp [outL, byV]
    · have : (j < i + 1) ↔ j < i := by omega
      simp [outL, byV, List.getElem_set, e, this]
theorem outL_set1 {f : Nat → Nat} {n i : Nat} (hi : i < n) : (byV (outL f n i)).set (i * 1) (bV (f i)) = byV (outL f n (i + 1)) := by rw [Nat.mul_one]; exact outL_set hi
abbrev rdD (pv b1 b2 g n i : Nat) (f : Nat → Nat) : HP := grp [pt b1 (cob [.pointer (some ⟨pv, 0, none⟩)] 51), pt b2 (cob [.slice (some ⟨g, 0, none⟩) n n] 44), pt g (cob (byV (outL f n i)) 5)]
theorem viRead1_spec (W0 : World) (R : List HP) (pv ps pm d b1 b2 g n i : Nat) (fr : List Frm) (pg : List Pl) (hF : Frs fr) (pa : Nat) (hi : i < n) (hn : n ≤ 512) :
    Spec Tryz.prog W0 134 [.int .i64 (whr pg (pa + i)), .int .i64 ((pa + i) % 64 : Nat), .int .i64 (i : Nat), .pointer (some ⟨b1, 0, none⟩), .pointer (some ⟨b2, 0, none⟩)]
      (pt pv (viO ps pm d) :: stoH ps fr :: pt pm (gmO pg) :: kH 0 (rdD pv b1 b2 g n i (fun j => rdv fr pg (pa + j))) :: R)
      (fun v B => v = .tuple #[] ∧ B = pt pv (viO ps pm d) :: stoH ps fr :: pt pm (gmO pg) :: kH 0 (rdD pv b1 b2 g n (i + 1) (fun j => rdv fr pg (pa + j))) :: R) := by
  have hlt := rdv_lt hF pg (pa + i)
  refine spec_perm (perm1 (r1 := kH) (b1 := 0)) (spec_kgrp ?_)
  simp only [List.cons_append, List.nil_append]
  refine spec_body Tryz.func134 Tryz.ntmps134 rfl rfl ?_
  refine x_seq (x_region (s_val rfl (v_load Tryz.isAgg51 rfl (cell_own rfl)) ?_))
  refine s_val rfl (v_nilCheck rfl) ?_
  refine s_val rfl (v_fieldAddr rfl Tryz.underlying198 rfl Tryz.sizeOf78 rfl (by first | exact Nat.zero_add _ | rfl)) ?_
  refine s_val rfl (v_load Tryz.isAgg78 rfl (cell_own rfl)) ?_
  refine s_val rfl (v_move rfl) (s_val rfl (v_move rfl) (s_do rfl (d_call1 Tryz.call135 rfl (frLoad_spec W0 _ ps fr _ _ 1 hF)) ?_))
  rintro _ B_ ⟨rfl, hB_⟩
  obtain rfl := hB_.symm
  refine s_val rfl (v_move rfl) (s_val rfl (v_extract rfl rfl) (s_val rfl (v_extract rfl rfl) (s_val rfl (v_assign rfl) (s_val rfl (v_assign rfl) (x_nil (n_then (x_region (s_val rfl (v_load Tryz.isAgg44 rfl (cell_own rfl)) ?_))))))))
  refine s_val rfl (v_move rfl) (s_val rfl (v_move rfl) ?_)
  refine s_val rfl (v_conv Tryz.underlying47 Tryz.underlying5 rfl (w8u (by rw [show ldN fr (whr pg (pa + i)) (((pa + i) % 64 : Nat) : Int) 1 = rdv fr pg (pa + i) from rfl]; omega))) ?_
  refine s_val rfl (v_idx Tryz.underlying44 Tryz.sizeOf5 rfl rfl rfl hi (by first | exact Nat.zero_add _ | rfl)) ?_
  refine s_do0 (d_store Tryz.sizeOf5 rfl rfl rfl (by rw [byV_len, outL_len]; omega) (outL_set1 (f := fun j => rdv fr pg (pa + j)) hi)) ?_
  rintro _ _ rfl
  refine x_nil (x_done (.inr rfl) .nil ?_)
  exact ⟨_, ⟨rfl, rfl⟩, inferInstance⟩
theorem viRead_spec (W0 : World) (R : List HP) (pv ps pm d : Nat) (fr : List Frm) (pg : List Pl) (h : Pgs pg) (hF : Frs fr) (pa : Nat) (hpa : pa < 4294967296) (n : Int) :
    Spec Tryz.prog W0 47 [.pointer (some ⟨pv, 0, none⟩), .int .u32 pa, .int .i64 n] (pt pv (viO ps pm d) :: stoH ps fr :: pt pm (gmO pg) :: R)
      (fun v B => ∃ a c, v = .tuple #[.slice a (rdO fr pg pa n).length c, .bool (ownB fr.length pg pa n)] ∧ B = osl 5 1 (.slice a (rdO fr pg pa n).length c) (byV (rdO fr pg pa n)) :: pt pv (viO ps pm d) :: stoH ps fr :: pt pm (gmO pg) :: R) := by
  by_cases ho : ownB fr.length pg pa n = true
  · obtain ⟨k, rfl⟩ : ∃ k : Nat, n = (k : Int) := ⟨n.toNat, by have := (ownB_iff.1 ho).1; omega⟩
    obtain ⟨hk, _⟩ := ownB_nat.1 ho
    have hr : rdO fr pg pa (k : Int) = rdL fr pg pa k := by rw [rdO, if_pos ho]; rfl
    rw [hr, rdL_len, ho]
    refine spec_body Tryz.func47 Tryz.ntmps47 rfl rfl ?_
    refine x_seq (x_region (s_do rfl (d_box rfl rfl) ?_))
    rintro _ _ ⟨b1, rfl, rfl⟩
    refine s_val rfl (v_assign rfl) (s_val rfl (v_assign rfl) (x_nil (n_then (x_seq (x_seq (x_region (s_val rfl (v_load Tryz.isAgg51 rfl (cell_own rfl)) ?_)))))))
    refine s_val rfl (v_move rfl) (s_val rfl (v_move rfl) (s_do rfl (d_call3 Tryz.call132 rfl (viOwn_spec W0 _ pv ps pm d fr pg h pa hpa k)) ?_))
    rintro _ B_ ⟨rfl, hB_⟩
    obtain rfl := hB_.symm
    refine s_val rfl (v_not rfl) (x_nil (n_then ?_))
    refine x_if rfl ?_ ?_
    · intro c1
      exact absurd ho c1
    · intro c1
      refine x_skip (n_then (x_seq (x_region (s_val rfl (v_move rfl) ?_))))
      refine s_do rfl (d_make (sz := 1) (by_ := 1) (info := Tryz.t5) Tryz.underlying44 (by kernel_rfl) rfl rfl rfl rfl (by decide) rfl rfl rfl rfl (by omega) (by decide)) ?_
      rintro _ _ ⟨b2, rfl, rfl⟩
      refine s_do rfl (d_alloc Tryz.zeroValue44 rfl) ?_
      rintro _ _ ⟨b3, rfl, rfl⟩
      refine s_do0 (d_store Tryz.sizeOf44 rfl rfl rfl (Nat.le_of_ble_eq_true rfl) SetL.eq) ?_
      rintro _ _ rfl
      refine x_nil (n_then (x_seq ?_))
      rw [show List.replicate (k * 1) (Value.int .u8 0) = byV (outL (fun j => rdv fr pg (pa + j)) k 0) by rw [outL_zero, Nat.mul_one]; rfl]
      refine x_region (s_val rfl (v_load Tryz.isAgg51 rfl (cell_own rfl)) ?_)
      refine s_val rfl (v_move rfl) (s_val rfl (v_move rfl) (s_val rfl (v_mkFunc rfl rfl) ?_))
      refine s_do rfl (does_ent inferInstance (d_call Tryz.call133 rfl (viEach_spec W0 R pv ps pm pg h pa k hk (fun _ => d) (fun _ => fr) (fun i => rdD pv b1 b3 b2 k i (fun j => rdv fr pg (pa + j))) 134 [.pointer (some ⟨b1, 0, none⟩), .pointer (some ⟨b3, 0, none⟩)] Tryz.call134 (fun i hi R' hR => viRead1_spec W0 R' pv ps pm d b1 b3 b2 k i fr pg hF pa hi (by omega))))) ?_
      rintro _ B_ ⟨rfl, hB_⟩
      obtain rfl := hB_.symm
      refine run_kgrp ?_
      simp only [List.cons_append, List.nil_append]
      refine x_nil (n_then (x_seq (x_region (s_val rfl (v_load Tryz.isAgg44 rfl (cell_own rfl)) ?_))))
      refine s_val rfl (v_assign rfl) (s_val rfl (v_assign rfl) (x_nil (n_then (x_ret (x_done (.inl rfl) (.cons (r_tmp rfl) (.cons (r_tmp rfl) .nil)) ?_)))))
      rw [outL_full]
      exact ⟨_, ⟨some ⟨b2, 0, none⟩, k, rfl, rfl⟩, ent_osl0 (by simp only [maxLen]; omega) (by rw [Nat.mul_one]; exact (byV_len _).trans (rdL_len fr pg pa k))⟩
  · have hr : rdO fr pg pa n = [] := by rw [rdO, if_neg ho]
    have ho' : ownB fr.length pg pa n = false := by simpa using ho
    rw [hr, ho']
    refine spec_body Tryz.func47 Tryz.ntmps47 rfl rfl ?_
    refine x_seq (x_region (s_do rfl (d_box rfl rfl) ?_))
    rintro _ _ ⟨b1, rfl, rfl⟩
    refine s_val rfl (v_assign rfl) (s_val rfl (v_assign rfl) (x_nil (n_then (x_seq (x_seq (x_region (s_val rfl (v_load Tryz.isAgg51 rfl (cell_own rfl)) ?_)))))))
    refine s_val rfl (v_move rfl) (s_val rfl (v_move rfl) (s_do rfl (d_call3 Tryz.call132 rfl (viOwn_spec W0 _ pv ps pm d fr pg h pa hpa n)) ?_))
    rintro _ B_ ⟨rfl, hB_⟩
    obtain rfl := hB_.symm
    refine s_val rfl (v_not rfl) (x_nil (n_then ?_))
    refine x_if rfl ?_ ?_
    · intro c1
      refine x_seq (x_region (s_val rfl (v_assign rfl) (s_val rfl (v_assign rfl) (x_nil (n_then (x_ret (r_then (x_done (.inl rfl) (.cons (r_tmp rfl) (.cons (r_tmp rfl) .nil)) ?_))))))))
      exact ⟨_, ⟨none, 0, rfl, rfl⟩, ent_osl_nil⟩
    · intro c1
      exact absurd (by rw [ho']; decide) c1
def wrK (fr : List Frm) (pg : List Pl) (pa : Nat) (bs : List Nat) : Nat → List Frm
  | 0 => fr
  | k + 1 => svF (wrK fr pg pa bs k) (whr pg (pa + k)) (((pa + k) % 64 : Nat) : Int) 1 (bs.getD k 0)
def wrD (d pa : Nat) : Nat → Nat
  | 0 => d
  | k + 1 => wrD d pa k ||| 2 ^ ((pa + k) / 64)
theorem wrK_ok {fr : List Frm} {pg : List Pl} {pa : Nat} {bs : List Nat} (h : Frs fr) : ∀ k, Frs (wrK fr pg pa bs k) ∧ (wrK fr pg pa bs k).length = fr.length
  | 0 => ⟨h, rfl⟩
  | k + 1 => ⟨svF_ok (wrK_ok h k).1, svF_len.trans (wrK_ok h k).2⟩
theorem wrD_lt {d pa : Nat} (h : d < 4096) : ∀ k, pa + k ≤ 512 → wrD d pa k < 4096
  | 0, _ => h
  | k + 1, hk => Nat.or_lt_two_pow (n := 12) (wrD_lt h k (by omega)) (page_lt (by omega))
def wrF (fr : List Frm) (pg : List Pl) (pa : Nat) (bs : List Nat) : List Frm := if ownB fr.length pg pa bs.length then wrK fr pg pa bs bs.length else fr
def wrE (fr : List Frm) (pg : List Pl) (pa : Nat) (d n : Nat) : Nat := if ownB fr.length pg pa n then wrD d pa n else d
theorem wrF_ok {fr : List Frm} {pg : List Pl} {pa : Nat} {bs : List Nat} (h : Frs fr) : Frs (wrF fr pg pa bs) ∧ (wrF fr pg pa bs).length = fr.length := by
  unfold wrF; split
  · exact wrK_ok h _
  · exact ⟨h, rfl⟩
theorem wrE_lt {fr : List Frm} {pg : List Pl} {pa d n : Nat} (h : d < 4096) : wrE fr pg pa d n < 4096 := by
  unfold wrE; split
  · rename_i ho; exact wrD_lt h _ (ownB_nat.1 ho).1
  · exact h
abbrev wrH (pv pa b1 b2 b3 : Nat) (a : Option Addr) (n c : Nat) : HP := grp [pt b1 (cob [.pointer (some ⟨pv, 0, none⟩)] 51), pt b2 (cob [.int .u32 pa] 47), pt b3 (cob [.slice a n c] 44)]
theorem viWrite1_spec (W0 : World) (R : List HP) (pv ps pm d b1 b2 b3 c i : Nat) (a : Option Addr) (fr : List Frm) (pg : List Pl) (hF : Frs fr) (pa : Nat) (bs : List Nat) (hb : By bs) (hs : SlA (OwnP W0 R) a 1 (fun x => [bV x]) bs) (hi : i < bs.length) (hn : pa + bs.length ≤ 512) (hd : d < 4096) :
    Spec Tryz.prog W0 176 [.int .i64 (whr pg (pa + i)), .int .i64 ((pa + i) % 64 : Nat), .int .i64 (i : Nat), .pointer (some ⟨b1, 0, none⟩), .pointer (some ⟨b3, 0, none⟩), .pointer (some ⟨b2, 0, none⟩)]
      (pt pv (viO ps pm d) :: stoH ps fr :: pt pm (gmO pg) :: kH 0 (wrH pv pa b1 b2 b3 a bs.length c) :: R)
      (fun v B => v = .tuple #[] ∧ B = pt pv (viO ps pm (d ||| 2 ^ ((pa + i) / 64))) :: stoH ps (svF fr (whr pg (pa + i)) (((pa + i) % 64 : Nat) : Int) 1 (bs.getD i 0)) :: pt pm (gmO pg) :: kH 0 (wrH pv pa b1 b2 b3 a bs.length c) :: R) := by
  obtain ⟨gb, ob, rfl, hc⟩ := hs.at_ hi
  have hx : bs[i] < 256 := hb.get hi
  have hg : bs.getD i 0 = bs[i] := by simp [List.getD, hi]
  have hp := page_lt (n := (pa + i) / 64) (by omega)
  rw [hg]
  refine spec_perm (perm1 (r1 := kH) (b1 := 0)) (spec_kgrp ?_)
  simp only [List.cons_append, List.nil_append]
  refine spec_body Tryz.func176 Tryz.ntmps176 rfl rfl ?_
  refine x_seq ?_
  refine x_draw [(b1, 0, _), (pv, 0, _), (b3, 0, _), (gb, ob + i * 1, [bV bs[i]])] 12 mixed rfl (sc_own (sc_own (sc_own (sc_cons hc.weak sc_end)))) (fun hS => ?_)
  refine d_take 0 rfl rfl (by kernel_rfl) (by kernel_rfl) (by kernel_rfl) rfl hS (v_load Tryz.isAgg51 rfl (by first | exact cell_sc0 (k := 0) rfl rfl | exact cell_sc0 (k := 1) rfl rfl | exact cell_sc0 (k := 2) rfl rfl | exact cell_sc0 (k := 3) rfl rfl)) ?_
  refine d_take 1 rfl rfl (by kernel_rfl) (by kernel_rfl) (by kernel_rfl) rfl hS (v_nilCheck rfl) ?_
  refine d_take 2 rfl rfl (by kernel_rfl) (by kernel_rfl) (by kernel_rfl) rfl hS (v_fieldAddr rfl Tryz.underlying198 rfl Tryz.sizeOf78 rfl (by first | exact Nat.zero_add _ | rfl)) ?_
  refine d_take 3 rfl rfl (by kernel_rfl) (by kernel_rfl) (by kernel_rfl) rfl hS (v_load Tryz.isAgg78 rfl (by first | exact cell_sc0 (k := 0) rfl rfl | exact cell_sc0 (k := 1) rfl rfl | exact cell_sc0 (k := 2) rfl rfl | exact cell_sc0 (k := 3) rfl rfl)) ?_
  refine d_take 4 rfl rfl (by kernel_rfl) (by kernel_rfl) (by kernel_rfl) rfl hS (v_move rfl) ?_
  refine d_take 5 rfl rfl (by kernel_rfl) (by kernel_rfl) (by kernel_rfl) rfl hS (v_move rfl) ?_
  refine d_take 6 rfl rfl (by kernel_rfl) (by kernel_rfl) (by kernel_rfl) rfl hS (v_load Tryz.isAgg44 rfl (by first | exact cell_sc0 (k := 0) rfl rfl | exact cell_sc0 (k := 1) rfl rfl | exact cell_sc0 (k := 2) rfl rfl | exact cell_sc0 (k := 3) rfl rfl)) ?_
  refine d_take 7 rfl rfl (by kernel_rfl) (by kernel_rfl) (by kernel_rfl) rfl hS (v_move rfl) ?_
  refine d_take 8 rfl rfl (by kernel_rfl) (by kernel_rfl) (by kernel_rfl) rfl hS (v_idx Tryz.underlying44 Tryz.sizeOf5 rfl rfl rfl hi (by first | exact Nat.zero_add _ | rfl)) ?_
  refine d_take 9 rfl rfl (by kernel_rfl) (by kernel_rfl) (by kernel_rfl) rfl hS (v_load Tryz.isAgg5 rfl (cell_sc1 (k := 3) rfl)) ?_
  refine d_take 10 rfl rfl (by kernel_rfl) (by kernel_rfl) (by kernel_rfl) rfl hS (v_conv Tryz.underlying5 Tryz.underlying47 rfl (w32u (by omega))) ?_
  refine d_one 11 (by kernel_rfl) rfl rfl (d_call1 Tryz.call124 rfl (frSave_spec W0 _ ps fr _ _ 1 bs[i] (by omega) hF)) rfl ?_; clear hS
  rintro _ B_ ⟨rfl, hB_⟩
  obtain rfl := hB_.symm
  refine ⟨(sc_own (sc_own (sc_own (sc_cons hc.weak sc_end)))), fun hS => ?_⟩
  refine d_done (by kernel_rfl) ?_; clear hS
  refine n_then ?_
  refine x_draw [(b1, 0, _), (b2, 0, _)] 14 mixed rfl (sc_own (sc_own sc_end)) (fun hS => ?_)
  refine d_take 0 rfl rfl (by kernel_rfl) (by kernel_rfl) (by kernel_rfl) rfl hS (v_load Tryz.isAgg51 rfl (by first | exact cell_sc0 (k := 0) rfl rfl | exact cell_sc0 (k := 1) rfl rfl)) ?_
  refine d_take 1 rfl rfl (by kernel_rfl) (by kernel_rfl) (by kernel_rfl) rfl hS (v_nilCheck rfl) ?_
  refine d_take 2 rfl rfl (by kernel_rfl) (by kernel_rfl) (by kernel_rfl) rfl hS (v_fieldAddr rfl Tryz.underlying198 rfl Tryz.sizeOf47 rfl (by first | exact Nat.zero_add _ | rfl)) ?_
  refine d_take 4 rfl rfl (by kernel_rfl) (by kernel_rfl) (by kernel_rfl) rfl hS (v_load Tryz.isAgg47 rfl (by first | exact cell_sc0 (k := 0) rfl rfl | exact cell_sc0 (k := 1) rfl rfl)) ?_
  refine d_take 5 rfl rfl (by kernel_rfl) (by kernel_rfl) (by kernel_rfl) rfl hS (v_conv Tryz.underlying47 Tryz.underlying3 rfl (w64 (by omega))) ?_
  refine d_take 6 rfl rfl (by kernel_rfl) (by kernel_rfl) (by kernel_rfl) rfl hS (v_move rfl) ?_
  refine d_take 7 rfl rfl (by kernel_rfl) (by kernel_rfl) (by kernel_rfl) rfl hS (v_add rfl rfl (by rw [w64 (by omega)]; omega : IntKind.wrap .i64 ((pa : Int) + (i : Int)) = ((pa + i : Nat) : Int))) ?_
  refine d_take 8 rfl rfl (by kernel_rfl) (by kernel_rfl) (by kernel_rfl) rfl hS (v_quo rfl rfl (by decide) ((congrArg (IntKind.wrap .i64) (tdivN (pa + i) 64)).trans (w64 (by omega)))) ?_
  refine d_take 9 rfl rfl (by kernel_rfl) (by kernel_rfl) (by kernel_rfl) rfl hS (v_shl rfl rfl (by omega) (shl_page (by omega))) ?_
  refine d_one 3 (by kernel_rfl) rfl rfl (d_val (v_load Tryz.isAgg47 rfl (cell_own rfl))) rfl ?_; clear hS
  rintro _ _ ⟨rfl, rfl⟩
  refine ⟨(sc_own (sc_own sc_end)), fun hS => ?_⟩
  refine d_take 10 rfl rfl (by kernel_rfl) (by kernel_rfl) (by kernel_rfl) rfl hS (v_or rfl rfl (bOr_u32 (by omega) (by omega))) ?_
  refine d_take 11 rfl rfl (by kernel_rfl) (by kernel_rfl) (by kernel_rfl) rfl hS (v_nilCheck rfl) ?_
  refine d_take 12 rfl rfl (by kernel_rfl) (by kernel_rfl) (by kernel_rfl) rfl hS (v_fieldAddr rfl Tryz.underlying198 rfl Tryz.sizeOf47 rfl (by first | exact Nat.zero_add _ | rfl)) ?_
  refine d_one 13 (by kernel_rfl) rfl rfl (d_store Tryz.sizeOf47 rfl rfl rfl (Nat.le_of_ble_eq_true rfl) SetL.eq) rfl ?_; clear hS
  rintro _ _ rfl
  refine ⟨(sc_own (sc_own sc_end)), fun hS => ?_⟩
  refine d_done (by kernel_rfl) ?_; clear hS
  refine x_done (.inr rfl) .nil ?_
  exact ⟨_, ⟨rfl, rfl⟩, inferInstance⟩
theorem viWrite_spec (W0 : World) (R : List HP) (pv ps pm d c : Nat) (a : Option Addr) (fr : List Frm) (pg : List Pl) (h : Pgs pg) (hF : Frs fr) (hd : d < 4096) (pa : Nat) (hpa : pa < 4294967296) (bs : List Nat) (hb : By bs) (hs : SlA (OwnP W0 R) a 1 (fun x => [bV x]) bs) (hlen : bs.length < 9223372036854775808) :
    Spec Tryz.prog W0 88 [.pointer (some ⟨pv, 0, none⟩), .int .u32 pa, .slice a bs.length c] (pt pv (viO ps pm d) :: stoH ps fr :: pt pm (gmO pg) :: R)
      (fun v B => v = .bool (ownB fr.length pg pa bs.length) ∧ B = pt pv (viO ps pm (wrE fr pg pa d bs.length)) :: stoH ps (wrF fr pg pa bs) :: pt pm (gmO pg) :: R) := by
  by_cases ho : ownB fr.length pg pa bs.length = true
  · obtain ⟨hk, _⟩ := ownB_nat.1 ho
    rw [wrE, if_pos ho, wrF, if_pos ho, ho]
    refine spec_body Tryz.func88 Tryz.ntmps88 rfl rfl ?_
    refine x_seq (x_region (s_do rfl (d_box rfl rfl) ?_))
    rintro _ _ ⟨b1, rfl, rfl⟩
    refine s_do rfl (d_box rfl rfl) ?_
    rintro _ _ ⟨b2, rfl, rfl⟩
    refine s_do rfl (d_box rfl rfl) ?_
    rintro _ _ ⟨b3, rfl, rfl⟩
    refine s_val rfl (v_assign rfl) (x_nil (n_then (x_seq (x_seq (x_region (s_val rfl (v_load Tryz.isAgg51 rfl (cell_own rfl)) ?_))))))
    refine s_val rfl (v_load Tryz.isAgg47 rfl (cell_own rfl)) ?_
    refine s_val rfl (v_load Tryz.isAgg44 rfl (cell_own rfl)) ?_
    refine s_val rfl (v_len_slice Tryz.underlying44 rfl) (s_do rfl (d_call3 Tryz.call132 rfl (viOwn_spec W0 _ pv ps pm d fr pg h pa hpa bs.length)) ?_)
    rintro _ B_ ⟨rfl, hB_⟩
    obtain rfl := hB_.symm
    refine s_val rfl (v_not rfl) (x_nil (n_then ?_))
    refine x_if rfl ?_ ?_
    · intro c1
      exact absurd ho c1
    · intro c1
      refine x_skip (n_then (x_seq (x_region (s_val rfl (v_load Tryz.isAgg51 rfl (cell_own rfl)) ?_))))
      refine s_val rfl (v_load Tryz.isAgg47 rfl (cell_own rfl)) ?_
      refine s_val rfl (v_load Tryz.isAgg44 rfl (cell_own rfl)) ?_
      refine s_val rfl (v_len_slice Tryz.underlying44 rfl) (s_val rfl (v_mkFunc rfl rfl) ?_)
      refine s_do rfl (does_ent (by simp only [wrD, wrK]; exact inferInstance) (d_call Tryz.call133 rfl (viEach_spec W0 R pv ps pm pg h pa bs.length hk (wrD d pa) (wrK fr pg pa bs) (fun _ => wrH pv pa b1 b2 b3 a bs.length c) 176 [.pointer (some ⟨b1, 0, none⟩), .pointer (some ⟨b3, 0, none⟩), .pointer (some ⟨b2, 0, none⟩)] Tryz.call176 (fun i hi R' hR => viWrite1_spec W0 R' pv ps pm _ b1 b2 b3 c i a _ pg (wrK_ok hF i).1 pa bs hb hs.weak hi hk (wrD_lt hd i (by omega)))))) ?_
      rintro _ B_ ⟨rfl, hB_⟩
      obtain rfl := hB_.symm
      refine x_nil (n_then (x_seq (x_region (s_val rfl (v_assign rfl) (x_nil (n_then (x_ret (x_done (.inl rfl) (.cons (r_tmp rfl) .nil) ?_))))))))
      exact ⟨_, ⟨rfl, rfl⟩, inferInstance⟩
  · have ho' : ownB fr.length pg pa bs.length = false := by simpa using ho
    rw [wrE, if_neg ho, wrF, if_neg ho, ho']
    refine spec_body Tryz.func88 Tryz.ntmps88 rfl rfl ?_
    refine x_seq (x_region (s_do rfl (d_box rfl rfl) ?_))
    rintro _ _ ⟨b1, rfl, rfl⟩
    refine s_do rfl (d_box rfl rfl) ?_
    rintro _ _ ⟨b2, rfl, rfl⟩
    refine s_do rfl (d_box rfl rfl) ?_
    rintro _ _ ⟨b3, rfl, rfl⟩
    refine s_val rfl (v_assign rfl) (x_nil (n_then (x_seq (x_seq (x_region (s_val rfl (v_load Tryz.isAgg51 rfl (cell_own rfl)) ?_))))))
    refine s_val rfl (v_load Tryz.isAgg47 rfl (cell_own rfl)) ?_
    refine s_val rfl (v_load Tryz.isAgg44 rfl (cell_own rfl)) ?_
    refine s_val rfl (v_len_slice Tryz.underlying44 rfl) (s_do rfl (d_call3 Tryz.call132 rfl (viOwn_spec W0 _ pv ps pm d fr pg h pa hpa bs.length)) ?_)
    rintro _ B_ ⟨rfl, hB_⟩
    obtain rfl := hB_.symm
    refine s_val rfl (v_not rfl) (x_nil (n_then ?_))
    refine x_if rfl ?_ ?_
    · intro c1
      refine x_seq (x_region (s_val rfl (v_assign rfl) (x_nil (n_then (x_ret (r_then (x_done (.inl rfl) (.cons (r_tmp rfl) .nil) ?_)))))))
      exact ⟨_, ⟨rfl, rfl⟩, inferInstance⟩
    · intro c1
      exact absurd (by rw [ho']; decide) c1
end Go.Proofs.YtlnmofhehcilhaaGreat
namespace Go.Proofs.YtlnmofhehcilhaaGreat
open Go.RowKit
set_option linter.unusedSimpArgs false
set_option linter.unusedVariables false
section
variable {rd : Option Nat} {P : Program} {S : World → Prop} {W0 : World} {N : FSz} {Q : Exit → Act → World → Prop} {e : Env} {A B R : List HP} {ops : Array Oper} {rest : List Oper}
variable {op : Op} {ty t t' : TypeId} {pos : String} {af : Array Edge} {v u : Value} {d b off : Nat} {x y z : Operand} {l l' vs : List Value} {L : Nat} {xr : RecX}
theorem v_buildArr {E n : Nat} {ps : Array (Nat × Operand)} (hu : P.underlying t = some (.array n E)) (hs : ∀ w, (sizeOf E).run P w = .ok 1 w) (hz : ∀ w, (zeroValue t).run P w = .ok (.agg l.toArray) w)
    (hev : evs e (ps.toList.map (·.2)) = some vs) (hix : ps.toList.map (·.1) = List.range' 0 ps.toList.length) (ha1 : allOne vs = true) (hn : vs.length = l.length) : Val P S N e (.build t ps) (.agg vs.toArray) := fun a w _ _ _ _ _ hF _ => by
  have hel := els_of ps.toList 0 vs hev hix ha1
  have hfl := els_fill (fun x v h => hF.eval h) ps.toList vs [] l (by simpa using hel) hn.symm
  simp only [Nat.mul_one, List.nil_append] at hfl
  have hb : Instr.build t (ps.map fun (i, x) => (i, a.eval x)) = (do
      let zero := (← zeroValue t).cells
      match ← underlying t with
      | .struct fields =>
        let places ← fields.mapM placeOf
        let some cells := Instr.fill (places[·]?) zero (ps.map fun (i, x) => (i, a.eval x)).toList | stuck "build: no such field, or a part of the wrong size"
        pure (.agg cells)
      | .array _ elem =>
        let size ← sizeOf elem
        let some cells := Instr.fill (fun i => some (i * size, size)) zero (ps.map fun (i, x) => (i, a.eval x)).toList | stuck "build: a part of the wrong size"
        pure (.agg cells)
      | _ => stuck "build: struct or array type expected") := rfl
  simp only [execOp, hb, Sem.run_bind, hz, run_und hu, hs, Result.andThen_ok, Value.cells, Sem.run_pure, Array.toList_map, Nat.mul_one]
  rw [hfl]; rfl
theorem v_index {E n : Nat} {k : IntKind} {i : Int} {j : Nat} (hu : P.underlying t = some (.array n E)) (hs : ∀ w, (sizeOf E).run P w = .ok 1 w) (ha : ∀ w, (isAgg E).run P w = .ok false w) (hx : ev e x = some (.agg l.toArray)) (hy : ev e y = some (.int k i))
    (hi : i = (j : Int)) (hj : j < n) (hl : l[j]? = some v) : Val P S N e (.index t x y) v := fun a w _ _ _ _ _ hF _ => by
  subst hi
  have h1 : (0 : Int) ≤ (j : Int) ∧ (j : Int) < (n : Int) := by omega
  have hlt : j < l.length := by
    rcases Nat.lt_or_ge j l.length with q | q
    · exact q
    · rw [List.getElem?_eq_none q] at hl; cases hl
  simp only [execOp, Instr.index, hF.eval hx, hF.eval hy, asIntOf, Sem.run_bind, Sem.run_pure, Result.andThen_ok, run_und hu, h1, and_self, if_true, hs, Int.toNat_natCast, Nat.mul_one]
  rw [part_scal ha hl]; rfl
theorem x_scope {c : Code} (h : Run W0 N (c.wpR none P (Exit.noGoto Q)) e A) : Run W0 N ((Code.scope c).wpR none P Q) e A := fun a w hF hO => wpR_wide.2 (wp_scope_straight (wpR_wide.1 (h a w hF hO)))
instance pok_scope [h : POk Q] : POk (Exit.noGoto Q) := ⟨fun c a d v w k => h.ok c a d v w k⟩
theorem r_scope (h : Run W0 N (Ex Q .ret) e A) : Run W0 N (Ex (Exit.noGoto Q) .ret) e A := h
theorem r_exit {id : Nat} {Post : Value → List HP → Prop} [h : Tk recH L A xr R] (hp : ∃ B, Post (.bool false) B ∧ Ent (recH L { xr with st := .done, pe := some (.exit id) } :: R) B) : Run W0 N (Ex (RoundQ P W0 L Post) (.exit id)) e A := by
  intro a w hF hO
  obtain ⟨fn, tmps, h1, h2, hO1⟩ := (hO.tk (r := recH) (b := L)).loopRec
  obtain ⟨B, hB, hE⟩ := hp
  exact ⟨_, _, run_endRound (some (.exit id)) hO1.has.2, _, B, rfl, hB, Own.ent (Own.toRec (x := { xr with st := .done, pe := some (.exit id) }) h1 h2 (hO1.turn _)) hE⟩
theorem x_rangeFuncE {n gf : Nat} {g : Operand} {ps : Array Tmp} {asg body : Code} {lb : List Value} (id : Nat) (Go Stop : List HP → Prop) (hg : ev e g = some (.func (.func gf) #[] lb.toArray))
    (hc : ∀ args w, (callFunc gf args).run P w = .ok (.enter gf args) w)
    (hs : ∀ L D, Spec P W0 gf (.func (.yield L) #[] #[] :: lb) (recH L ⟨e, n, ps, asg, body, .ready, none, D⟩ :: pt D (.deferred (some [])) :: A)
      (fun _ B => (∃ C, B = recH L ⟨e, n, ps, asg, body, .ready, none, D⟩ :: pt D (.deferred (some [])) :: C ∧ Go C) ∨ (∃ C, B = recH L ⟨e, n, ps, asg, body, .done, some (.exit id), D⟩ :: pt D (.deferred (some [])) :: C ∧ Stop C)))
    (hgo : ∀ D C, Go C → Run W0 ⟨n, [mark D]⟩ (Ex Q .normal) e (pt D (.deferred (some [])) :: C))
    (hstop : ∀ D C, Stop C → Run W0 ⟨n, [mark D]⟩ (Ex Q (.exit id)) e (pt D (.deferred (some [])) :: C)) :
    Run W0 ⟨n, []⟩ ((Code.rangeFunc g ps asg body).wpR none P Q) e A := by
  intro a w hF hO
  refine wpIn_rangeFunc (F := FW none) (n := 0) ?_
  intro fn _
  have hO1 : Own W0 ((w.alloc (.deferred (some []))).alloc (.loop ((⟨e, n, ps, asg, body, .ready, none, w.heap.size⟩ : RecX).loop fn a.tmps))) (recH (w.heap.size + 1) ⟨e, n, ps, asg, body, .ready, none, w.heap.size⟩ :: pt w.heap.size (.deferred (some [])) :: A) := by
    refine Own.toRec (fn := fn) hF.size hF.at_ ?_
    have h1 := (hO.new (.deferred (some []))).new (.loop ((⟨e, n, ps, asg, body, .ready, none, w.heap.size⟩ : RecX).loop fn a.tmps))
    have e1 : (w.heap.push (.deferred (some []))).size = w.heap.size + 1 := by simp
    simp only [e1] at h1
    exact h1
  have hent := run_enterLoop_outer (P := P) (w := w) fn a.tmps ps asg body
  generalize hW1 : (w.alloc (.deferred (some []))).alloc (.loop ((⟨e, n, ps, asg, body, .ready, none, w.heap.size⟩ : RecX).loop fn a.tmps)) = W1 at hO1
  rw [show (w.alloc (.deferred (some []))).alloc (.loop { state := .ready, pending := none, fn, tmps := a.tmps, params := ps, assign := asg, body, defers := w.heap.size }) = W1 from hW1] at hent
  have hF' : ∀ D, Fr { a with defers := [mark D] ++ a.defers } ⟨n, [mark D]⟩ e := fun D => ⟨by simp [hF.defers], hF.size, hF.at_⟩
  refine ⟨w.heap.size + 1, [{ target := .collected w.heap.size, args := #[] }], W1, { target := .fn (.func gf) lb.toArray, args := #[.func (.yield (w.heap.size + 1)) #[] #[]] }, W1, gf,
    #[.func (.yield (w.heap.size + 1)) #[] #[]] ++ lb.toArray, W1, hent, ?_, fun _ _ => trivial, ?_, fun h => (by cases h), ?_⟩
  · have hgv := hF.eval hg
    simp only [resolve, hgv]
    simp [go_sem]
  · simp [invoke, go_sem, hc]
  · refine callsR.2 ?_
    have e2 : (#[.func (.yield (w.heap.size + 1)) #[] #[]] ++ lb.toArray : Array Value) = (.func (.yield (w.heap.size + 1)) #[] #[] :: lb).toArray := by simp
    rw [e2]
    refine Calls.mono (hs (w.heap.size + 1) w.heap.size _ hO1) ?_
    rintro _ w' ⟨v, B, rfl, hp, hO2⟩
    rcases hp with ⟨C, rfl, hC⟩ | ⟨C, rfl, hC⟩
    · obtain ⟨fn', tmps', h1, h2, hO3⟩ := hO2.loopRec
      refine ⟨none, _, run_endLoop hO3.has.2 (by simp [RecX.loop]), ?_⟩
      exact hgo _ C hC _ _ (hF' _) (hO3.turn _).drop
    · obtain ⟨fn', tmps', h1, h2, hO3⟩ := hO2.loopRec
      refine ⟨some (.exit id), _, run_endLoop hO3.has.2 (by simp [RecX.loop]), ?_⟩
      exact wpIn_exit (hstop _ C hC _ _ (hF' _) (hO3.turn _).drop)
def outV (f : Nat → Value) (z : Value) (n i : Nat) : List Value := (List.range n).map fun j => if j < i then f j else z
theorem outV_len {f : Nat → Value} {z : Value} {n i : Nat} : (outV f z n i).length = n := by simp [outV]
theorem outV_full {f : Nat → Value} {z : Value} {n : Nat} : outV f z n n = (List.range n).map f := by
  apply List.ext_getElem
  · simp [outV]
  · intro i h1 h2
    have : i < n := by simpa using h2
    simp [outV, this]
theorem outV_set {f : Nat → Value} {z : Value} {n i : Nat} (hi : i < n) : (outV f z n i).set i (f i) = outV f z n (i + 1) := by
  apply List.ext_getElem
  · simp [outV]
  · intro j h1 h2
    have hj : j < n := by simpa [outV] using h2
    by_cases e : i = j
    · subst e; simp [outV]
    · have : (j < i + 1) ↔ j < i := by omega
      simp [outV, List.getElem_set, e, this]
theorem outV_set1 {f : Nat → Value} {z : Value} {n i : Nat} (hi : i < n) : (outV f z n i).set (i * 1) (f i) = outV f z n (i + 1) := by rw [Nat.mul_one]; exact outV_set hi
theorem cell_osl {E n c g j sz : Nat} {ys : List Value} [h : Tk (osl E sz) (.slice (some ⟨g, 0, none⟩) n c) A ys R] (hv : ys[j]? = some v) : Cell (OwnP W0 A) g j v := by
  have := cells_osl (h := h) (W0 := W0) j v hv
  rwa [Nat.zero_add] at this
theorem run_cap {E n c sz : Nat} {a : Option Addr} {ys : List Value} {K : Act → World → Prop} [h : Tk (osl E sz) (.slice a n c) A ys R] (k : n ≤ c ∧ c ≤ maxLen → Run W0 N K e A) : Run W0 N K e A := fun act w hF hO => by
  refine k ?_ act w hF hO
  rcases (hO.tk (r := osl E sz) (b := .slice a n c)).osl with ⟨k1, k2, _⟩ | ⟨g, n', cap, sp, k1, k2, k3, _, _, _⟩
  · cases k1; simp
  · cases k1; exact ⟨k2, k3⟩
theorem wrapN (n : Nat) : IntKind.wrap .u32 (n : Int) = ((n % 4294967296 : Nat) : Int) := by
  simp only [IntKind.wrap, IntKind.bits, IntKind.signed]; simp
theorem form_some {a : Option Addr} {ys : List Value} (h : Frm0 a ys) (hne : ys ≠ []) : ∃ g, a = some ⟨g, 0, none⟩ := by
  rcases h with ⟨_, q⟩ | q
  · exact absurd q hne
  · exact q
theorem range_get {f : Nat → Value} {n i : Nat} (hi : i < n) : ((List.range n).map f)[i]? = some (f i) := by simp [hi]
theorem range_get1 {f : Nat → Value} {n i : Nat} (hi : i < n) : ((List.range n).map f)[i * 1]? = some (f i) := by simp [hi]
end
end Go.Proofs.YtlnmofhehcilhaaGreat
namespace Go.Proofs.YtlnmofhehcilhaaGreat
open Go.RowKit
set_option linter.unusedSimpArgs false
set_option linter.unusedVariables false
set_option maxRecDepth 20000
def wV (w : Nat) : Value := .int .u32 (w : Int)
def wdAt (l : List Nat) (i : Nat) : Nat := leN ((l.drop (4 * i)).take 4)
theorem wdAt_lt {l : List Nat} (h : By l) (i : Nat) : wdAt l i < 4294967296 := by
  have h1 := leN_lt ((h.drop (4 * i)).take 4)
  have h2 : ((l.drop (4 * i)).take 4).length ≤ 4 := by simp; omega
  exact Nat.lt_of_lt_of_le h1 (Nat.le_trans (Nat.pow_le_pow_right (by decide) h2) (by decide))
def wordsV (l : List Nat) (n : Nat) : List Value := (List.range n).map fun i => wV (wdAt l i)
theorem wordsV_succ (l : List Nat) (n : Nat) : wordsV l (n + 1) = wordsV l n ++ [wV (wdAt l n)] := by simp [wordsV, List.range_succ]
theorem gatherN_spec (W0 : World) (R : List HP) (g off c n : Nat) (l : List Nat) (hn : l.length = n) (hc : Cells (OwnP W0 R) g off (byV l)) (hl : n ≤ 4) (hb : By l) :
    Spec Tryz.prog W0 251 [.slice (some ⟨g, off, none⟩) n c] R (fun v B => v = .int .u32 (leN l : Nat) ∧ B = R) := by
  subst hn; exact gather_spec W0 R g off c l hc hl hb
theorem byV_fm : ∀ bs : List Nat, bs.flatMap (fun x => [bV x]) = byV bs
  | [] => rfl
  | b :: l => by rw [List.flatMap_cons, byV_fm l]; rfl
theorem octWords_spec (W0 : World) (R : List HP) (a : Option Addr) (c : Nat) (l : List Nat) (hs : SlA (OwnP W0 R) a 1 (fun x => [bV x]) l) (hb : By l) (hcap : l.length ≤ c) (hl : l.length ≤ 1000000) :
    Spec Tryz.prog W0 263 [.slice a l.length c] R (fun v B => ∃ a' c', v = .slice a' (l.length / 4) c' ∧ B = osl 47 1 (.slice a' (l.length / 4) c') (wordsV l (l.length / 4)) :: R) := by
  refine spec_body Tryz.func263 Tryz.ntmps263 rfl rfl ?_
  refine x_seq (x_region (s_val rfl (v_assign rfl) (x_nil (n_then (x_seq (x_region (s_val rfl (v_assign rfl) (x_nil (n_then (x_seq (x_seq (x_region (s_val rfl (v_move rfl) (s_val rfl (v_len_slice Tryz.underlying44 rfl) ?_))))))))))))))
  refine s_val rfl (v_quo rfl rfl (by decide) ((congrArg (IntKind.wrap .i64) (tdivN l.length 4)).trans (w64 (by omega)))) ?_
  refine s_val rfl (v_move rfl) (x_nil (n_then (x_block ?_)))
  refine x_loop (fun x : Nat × Option Addr × Nat => x.1 ≤ l.length / 4) (fun x => [(0, .slice a l.length c), (3, .slice x.2.1 x.1 x.2.2), (7, .int .i64 (l.length / 4 : Nat)), (8, .int .i64 x.1)]) (fun x => osl 47 1 (.slice x.2.1 x.1 x.2.2) (wordsV l x.1) :: R) (fun x => l.length / 4 - x.1) (0, none, 0) ?_ ?_ ?_ ?_
  · simp
  · repeat (first | exact sub_nil | refine sub_cons rfl ?_)
  · exact ent_osl_nil
  · intro ⟨i, a1, c1⟩ hi
    dsimp only at hi ⊢
    refine x_seq (x_region (s_val rfl (v_lss rfl rfl) (x_nil (n_then (x_seq ?_)))))
    refine x_if rfl ?_ ?_
    · intro c3
      refine x_skip (n_then (x_seq (x_block (x_seq (x_region (s_val rfl (v_move rfl) (s_val rfl (v_assign rfl) (x_nil (n_then ?_)))))))))
      obtain ⟨g, off, rfl, hc⟩ := hs.all (by intro h0; subst h0; simp at *; omega) (fun _ => rfl)
      rw [byV_fm] at hc
      refine x_region (s_val rfl (v_move rfl) (s_val rfl (v_move rfl) (s_val rfl (v_move rfl) ?_)))
      refine s_val rfl (v_mul rfl rfl (by rw [w64 (by omega)]; omega : IntKind.wrap .i64 (4 * (i : Int)) = ((4 * i : Nat) : Int))) ?_
      refine s_val rfl (v_move rfl) ?_
      refine s_val rfl (v_mul rfl rfl (by rw [w64 (by omega)]; omega : IntKind.wrap .i64 (4 * (i : Int)) = ((4 * i : Nat) : Int))) ?_
      refine s_val rfl (v_add rfl rfl (by rw [w64 (by omega)]; omega : IntKind.wrap .i64 (((4 * i : Nat) : Int) + 4) = ((4 * i + 4 : Nat) : Int))) ?_
      refine s_val rfl (v_move rfl) ?_
      refine s_val rfl (v_mul rfl rfl (by rw [w64 (by omega)]; omega : IntKind.wrap .i64 (4 * (i : Int)) = ((4 * i : Nat) : Int))) ?_
      refine s_val rfl (v_add rfl rfl (by rw [w64 (by omega)]; omega : IntKind.wrap .i64 (((4 * i : Nat) : Int) + 4) = ((4 * i + 4 : Nat) : Int))) ?_
      refine s_val rfl (v_slice3 Tryz.underlying44 Tryz.sizeOf5 rfl rfl rfl rfl rfl rfl rfl (by omega) (by omega) (by omega) (by omega) (by first | exact Nat.zero_add _ | rfl)) ?_
      refine s_do rfl (d_call Tryz.call251 rfl (gatherN_spec W0 _ g (off + 4 * i * 1) _ _ ((l.drop (4 * i)).take 4) (by simp; omega) (by rw [Nat.mul_one]; exact Cells.part hc.weak (4 * i) 4 (by omega)) (by omega) ((hb.drop _).take _))) ?_
      rintro _ B_ ⟨rfl, hB_⟩
      obtain rfl := hB_.symm
      refine s_do rfl (d_sliceLit Tryz.underlying45 Tryz.sizeOf47 Tryz.zeroValue47 rfl rfl rfl rfl rfl (by decide) (by decide)) ?_
      rintro _ _ ⟨b1, rfl, rfl⟩
      refine s_do rfl (d_append (sz := 1) (by_ := 4) (info := Tryz.t47) Tryz.underlying45 (by kernel_rfl) rfl rfl rfl rfl (by decide) rfl rfl cells_all rfl rfl (by simp only [maxLen]; omega) (by omega)) ?_
      rintro _ _ ⟨a2, c2, rfl, rfl⟩
      refine s_val rfl (v_assign rfl) (x_nil (n_block (n_then (x_region ?_))))
      refine s_val rfl (v_add rfl rfl (by first | exact w64 (by omega) | rfl)) ?_
      refine s_val rfl (v_move rfl) (x_nil (n_then ?_))
      refine inv_intro (i + 1, a2, c2) ?_ ?_ ?_ ?_
      · omega
      · omega
      · repeat (first | exact sub_nil | refine sub_cons rfl ?_)
      · rw [wordsV_succ]
        show Ent _ (osl 47 1 (.slice a2 (i + 1) c2) (wordsV l i ++ [.int .u32 ((leN ((l.drop (4 * i)).take 4) : Nat) : Int)]) :: R)
        exact inferInstance
    · intro c3
      refine x_exit (e_then (e_then (e_block (n_then (x_seq (x_region (s_val rfl (v_move rfl) (s_val rfl (v_assign rfl) (x_nil (n_then (x_ret (x_done (.inl rfl) (.cons (r_tmp rfl) .nil) ?_))))))))))))
      have e1 : i = l.length / 4 := by omega
      subst e1
      exact ⟨_, ⟨a1, c1, rfl, rfl⟩, inferInstance⟩
def bytesL (ws : List Nat) : List Nat := ws.flatMap (leB 4)
theorem bytesL_len : ∀ ws, (bytesL ws).length = 4 * ws.length
  | [] => rfl
  | w :: ws => by rw [bytesL, List.flatMap_cons, List.length_append, leB_len]; have := bytesL_len ws; rw [bytesL] at this; rw [this, List.length_cons]; omega
theorem bytesL_by (ws : List Nat) : By (bytesL ws) := fun b hb => by
  obtain ⟨w, _, hw⟩ := List.mem_flatMap.1 hb
  exact leB_by 4 w b hw
def outB (ws : List Nat) (i : Nat) : List Nat := bytesL (ws.take i) ++ List.replicate (4 * (ws.length - i)) 0
theorem outB_len {ws : List Nat} {i : Nat} (h : i ≤ ws.length) : (outB ws i).length = 4 * ws.length := by
  simp only [outB, List.length_append, bytesL_len, List.length_take, List.length_replicate]; omega
theorem outB_succ {ws : List Nat} {i : Nat} (h : i < ws.length) : putB (outB ws i) (4 * i) 4 ws[i] = outB ws (i + 1) := by
  have hl : (bytesL (ws.take i)).length = 4 * i := by rw [bytesL_len, List.length_take]; omega
  rw [putB, outB, List.take_append_of_le_length (by omega), List.take_of_length_le (by omega)]
  rw [List.drop_append, List.drop_of_length_le (by omega), List.nil_append, List.drop_replicate, hl]
  rw [outB, List.take_succ_eq_append_getElem h, bytesL, bytesL, List.flatMap_append]
  simp only [List.flatMap_cons, List.flatMap_nil, List.append_nil]
  congr 2; omega
theorem octBytes_spec (W0 : World) (R : List HP) (a : Option Addr) (c : Nat) (ws : List Nat) (hs : SlA (OwnP W0 R) a 1 (fun x => [wV x]) ws) (hw : ∀ w ∈ ws, w < 4294967296) (hl : ws.length ≤ 10000) :
    Spec Tryz.prog W0 180 [.slice a ws.length c] R (fun v B => ∃ a' c', v = .slice a' (4 * ws.length) c' ∧ B = osl 5 1 (.slice a' (4 * ws.length) c') (byV (bytesL ws)) :: R) := by
  refine spec_body Tryz.func180 Tryz.ntmps180 rfl rfl ?_
  refine x_seq (x_region (s_val rfl (v_assign rfl) (x_nil (n_then (x_seq (x_region (s_val rfl (v_move rfl) (s_val rfl (v_len_slice Tryz.underlying45 rfl) ?_))))))))
  refine s_val rfl (v_mul rfl rfl (by rw [w64 (by omega)]; omega : IntKind.wrap .i64 (4 * (ws.length : Int)) = ((4 * ws.length : Nat) : Int))) ?_
  refine s_do rfl (d_make (sz := 1) (by_ := 1) (info := Tryz.t5) Tryz.underlying44 (by kernel_rfl) rfl rfl rfl rfl (by decide) rfl rfl rfl rfl (by omega) (by decide)) ?_
  rintro _ _ ⟨b1, rfl, rfl⟩
  refine s_val rfl (v_assign rfl) (x_nil (n_then (x_seq (x_seq ?_))))
  rw [show List.replicate (4 * ws.length * 1) (Value.int .u8 0) = byV (outB ws 0) by simp [outB, byV, bytesL, bV]]
  refine x_region (s_val rfl (v_move rfl) (s_val rfl (v_len_slice Tryz.underlying45 rfl) (s_val rfl (v_move rfl) (x_nil (n_then (x_block ?_))))))
  refine x_loop (fun i : Nat => i ≤ ws.length) (fun i => [(3, .slice (some ⟨b1, 0, none⟩) (4 * ws.length) (4 * ws.length)), (10, .slice a ws.length c), (11, .int .i64 ws.length), (12, .int .i64 i)]) (fun i => pt b1 (cob (byV (outB ws i)) 5) :: R) (fun i => ws.length - i) 0 ?_ ?_ ?_ ?_
  · exact Nat.zero_le _
  · repeat (first | exact sub_nil | refine sub_cons rfl ?_)
  · exact inferInstance
  · intro i hi
    refine x_seq (x_region (s_val rfl (v_lss rfl rfl) (x_nil (n_then (x_seq ?_)))))
    refine x_if rfl ?_ ?_
    · intro c3
      refine x_skip (n_then (x_seq (x_block (x_seq ?_))))
      have hi1 : i < ws.length := by omega
      obtain ⟨g, off, rfl, hc⟩ := hs.at_ hi1
      have hwi := hw _ (List.getElem_mem hi1)
      refine x_region (s_val rfl (v_move rfl) ?_)
      refine s_val rfl (v_idx Tryz.underlying45 Tryz.sizeOf47 rfl rfl rfl hi1 (by first | exact Nat.zero_add _ | rfl)) ?_
      refine s_val rfl (v_load Tryz.isAgg47 rfl (Cells.weak hc 0 _ rfl)) ?_
      refine s_val rfl (v_assign rfl) (s_val rfl (v_assign rfl) (x_nil (n_then (x_region (s_val rfl (v_move rfl) (s_val rfl (v_move rfl) ?_))))))
      refine s_val rfl (v_mul rfl rfl (by rw [w64 (by omega)]; omega : IntKind.wrap .i64 (4 * (i : Int)) = ((4 * i : Nat) : Int))) ?_
      refine s_val rfl (v_move rfl) ?_
      refine s_val rfl (v_mul rfl rfl (by rw [w64 (by omega)]; omega : IntKind.wrap .i64 (4 * (i : Int)) = ((4 * i : Nat) : Int))) ?_
      refine s_val rfl (v_add rfl rfl (by rw [w64 (by omega)]; omega : IntKind.wrap .i64 (((4 * i : Nat) : Int) + 4) = ((4 * i + 4 : Nat) : Int))) ?_
      refine s_val rfl (v_move rfl) ?_
      refine s_val rfl (v_mul rfl rfl (by rw [w64 (by omega)]; omega : IntKind.wrap .i64 (4 * (i : Int)) = ((4 * i : Nat) : Int))) ?_
      refine s_val rfl (v_add rfl rfl (by rw [w64 (by omega)]; omega : IntKind.wrap .i64 (((4 * i : Nat) : Int) + 4) = ((4 * i + 4 : Nat) : Int))) ?_
      refine s_val rfl (v_slice3 Tryz.underlying44 Tryz.sizeOf5 rfl rfl rfl rfl rfl rfl rfl (by omega) (by omega) (by omega) (by omega) (by first | exact Nat.zero_add _ | rfl)) ?_
      refine s_val rfl (v_move rfl) ?_
      refine s_do rfl (d_call1 Tryz.call243 rfl (spread_spec W0 _ b1 (4 * i * 1) _ _ _ _ ws[i] hwi (by omega) (by rw [byV_len, outB_len hi]; omega))) ?_
      rintro _ B_ ⟨rfl, hB_⟩
      obtain rfl := hB_.symm
      rw [show 4 * i + 4 - 4 * i = 4 by omega, Nat.mul_one, setR_byV (by rw [outB_len hi]; omega), outB_succ hi1]
      refine x_nil (n_block (n_then (x_region ?_)))
      refine s_val rfl (v_add rfl rfl (by first | exact w64 (by omega) | rfl)) ?_
      refine s_val rfl (v_move rfl) (x_nil (n_then ?_))
      refine inv_intro (i + 1) ?_ ?_ ?_ ?_
      · omega
      · omega
      · repeat (first | exact sub_nil | refine sub_cons rfl ?_)
      · exact inferInstance
    · intro c3
      refine x_exit (e_then (e_then (e_block (n_then (x_seq (x_region (s_val rfl (v_move rfl) (s_val rfl (v_assign rfl) (x_nil (n_then (x_ret (x_done (.inl rfl) (.cons (r_tmp rfl) .nil) ?_))))))))))))
      have e1 : i = ws.length := by omega
      subst e1
      rw [show outB ws ws.length = bytesL ws by simp [outB]]
      exact ⟨_, ⟨_, _, rfl, rfl⟩, ent_osl0 (by simp only [maxLen]; omega) (by rw [byV_len, bytesL_len, Nat.mul_one])⟩
structure Dsc where
  addr : Nat
  len : Nat
  flags : Nat
  next : Nat
@[reducible] def dsV (d : Dsc) : List Value := [.int .u32 d.addr, .int .u32 d.len, .int .u32 d.flags, .int .u32 d.next]
structure Dsc.ok (d : Dsc) : Prop where
  addr : d.addr < 4294967296
  len : d.len < 4294967296
  flags : d.flags < 4294967296
  next : d.next < 4294967296
def dsWs (d : Dsc) : List Nat := [d.addr, d.len, d.flags, d.next]
theorem dsWs_lt {d : Dsc} (hd : d.ok) : ∀ w ∈ dsWs d, w < 4294967296 := fun w hw => by
  have h1 := hd.addr
  have h2 := hd.len
  have h3 := hd.flags
  have h4 := hd.next
  simp only [dsWs, List.mem_cons, List.not_mem_nil, or_false] at hw
  omega
def dsW (d : Dsc) (i : Nat) : Nat := (dsWs d).getD i 0
theorem dsV_range (d : Dsc) : dsV d = (List.range 4).map fun j => wV (dsW d j) := rfl
def dsOf (l : List Nat) : Dsc := ⟨wdAt l 0, wdAt l 1, wdAt l 2, wdAt l 3⟩
theorem dsOf_ok {l : List Nat} (h : By l) : (dsOf l).ok := ⟨wdAt_lt h _, wdAt_lt h _, wdAt_lt h _, wdAt_lt h _⟩
def putD (d : Dsc) : List Nat := bytesL (dsWs d)
theorem putD_len (d : Dsc) : (putD d).length = 16 := by rw [putD, bytesL_len]; rfl
def zD : Dsc := ⟨0, 0, 0, 0⟩
def ptV (b i : Nat) : Value := .pointer (some ⟨b, i, none⟩)
theorem dsFields_spec (W0 : World) (R : List HP) (b : Nat) : Spec Tryz.prog W0 179 [.pointer (some ⟨b, 0, none⟩)] R (fun v B => v = .agg ((List.range 4).map (ptV b)).toArray ∧ B = R) := by
  refine spec_body Tryz.func179 Tryz.ntmps179 rfl rfl ?_
  refine x_seq (x_region (s_do rfl (d_allocA Tryz.zeroValue264) ?_))
  rintro _ _ ⟨b1, rfl, rfl⟩
  refine x_nil (n_then (x_seq ?_))
  refine x_draw [] 14 mixed rfl sc_end (fun hS => ?_)
  refine d_take 0 rfl rfl (by kernel_rfl) (by kernel_rfl) (by kernel_rfl) rfl hS (v_move rfl) ?_
  refine d_take 1 rfl rfl (by kernel_rfl) (by kernel_rfl) (by kernel_rfl) rfl hS (v_nilCheck rfl) ?_
  refine d_take 2 rfl rfl (by kernel_rfl) (by kernel_rfl) (by kernel_rfl) rfl hS (v_fieldAddr rfl Tryz.underlying99 rfl Tryz.sizeOf47 rfl (by first | exact Nat.zero_add _ | rfl)) ?_
  refine d_take 3 rfl rfl (by kernel_rfl) (by kernel_rfl) (by kernel_rfl) rfl hS (v_move rfl) ?_
  refine d_take 4 rfl rfl (by kernel_rfl) (by kernel_rfl) (by kernel_rfl) rfl hS (v_nilCheck rfl) ?_
  refine d_take 5 rfl rfl (by kernel_rfl) (by kernel_rfl) (by kernel_rfl) rfl hS (v_fieldAddr rfl Tryz.underlying99 rfl Tryz.sizeOf47 rfl (by first | exact Nat.zero_add _ | rfl)) ?_
  refine d_take 6 rfl rfl (by kernel_rfl) (by kernel_rfl) (by kernel_rfl) rfl hS (v_move rfl) ?_
  refine d_take 7 rfl rfl (by kernel_rfl) (by kernel_rfl) (by kernel_rfl) rfl hS (v_nilCheck rfl) ?_
  refine d_take 8 rfl rfl (by kernel_rfl) (by kernel_rfl) (by kernel_rfl) rfl hS (v_fieldAddr rfl Tryz.underlying99 rfl Tryz.sizeOf47 rfl (by first | exact Nat.zero_add _ | rfl)) ?_
  refine d_take 9 rfl rfl (by kernel_rfl) (by kernel_rfl) (by kernel_rfl) rfl hS (v_move rfl) ?_
  refine d_take 10 rfl rfl (by kernel_rfl) (by kernel_rfl) (by kernel_rfl) rfl hS (v_nilCheck rfl) ?_
  refine d_take 11 rfl rfl (by kernel_rfl) (by kernel_rfl) (by kernel_rfl) rfl hS (v_fieldAddr rfl Tryz.underlying99 rfl Tryz.sizeOf47 rfl (by first | exact Nat.zero_add _ | rfl)) ?_
  refine d_take 12 rfl rfl (by kernel_rfl) (by kernel_rfl) (by kernel_rfl) rfl hS (v_buildArr Tryz.underlying264 Tryz.sizeOf263 Tryz.zeroValue264 rfl rfl rfl rfl) ?_
  refine d_one 13 (by kernel_rfl) rfl rfl (d_storeAll Tryz.sizeOf264 rfl rfl rfl rfl rfl) rfl ?_; clear hS
  rintro _ _ rfl
  refine ⟨sc_end, fun hS => ?_⟩
  refine d_done (by kernel_rfl) ?_; clear hS
  refine n_then (x_ret (x_done (.inl rfl) (.cons (r_all Tryz.isAgg264 Tryz.sizeOf264 rfl rfl) .nil) ?_))
  exact ⟨_, ⟨rfl, rfl⟩, inferInstance⟩
theorem dsGet_spec (W0 : World) (R : List HP) (a : Option Addr) (c : Nat) (l : List Nat) (hs : SlA (OwnP W0 R) a 1 (fun x => [bV x]) l) (hb : By l) (hcap : l.length ≤ c) (hl : l.length ≤ 1000000) :
    Spec Tryz.prog W0 294 [.slice a l.length c] R (fun v B => v = .tuple #[.agg (dsV (if l.length = 16 then dsOf l else zD)).toArray, .int .i64 (if l.length = 16 then 0 else 6)] ∧ B = R) := by
  refine spec_body Tryz.func294 Tryz.ntmps294 rfl rfl ?_
  refine x_seq (x_region (s_do rfl (d_allocA Tryz.zeroValue99) ?_))
  rintro _ _ ⟨b1, rfl, rfl⟩
  refine s_val rfl (v_assign rfl) (x_nil (n_then (x_seq (x_seq (x_region (s_val rfl (v_move rfl) (s_val rfl (v_len_slice Tryz.underlying44 rfl) (s_val rfl (v_neq rfl rfl) (x_nil (n_then ?_))))))))))
  refine x_if rfl ?_ ?_
  · intro c1
    refine x_seq (x_region (s_val rfl (v_build Tryz.underlying99 Tryz.zeroValue99 (sized_cons Tryz.sizeOf47 (sized_cons Tryz.sizeOf47 (sized_cons Tryz.sizeOf47 (sized_cons Tryz.sizeOf47 sized_nil)))) fil_nil) ?_))
    refine s_do0 (d_storeAll Tryz.sizeOf99 rfl rfl rfl rfl rfl) ?_
    rintro _ _ rfl
    refine s_val rfl (v_assign rfl) (x_nil (n_then (x_ret (r_then (x_done (.inl rfl) (.cons (r_all Tryz.isAgg99 Tryz.sizeOf99 rfl rfl) (.cons (r_tmp rfl) .nil)) ?_)))))
    refine ⟨_, ⟨?_, rfl⟩, inferInstance⟩
    have h16 : ¬ l.length = 16 := by omega
    simp [pack, h16, zD]
  · intro c1
    have h16 : l.length = 16 := by omega
    refine x_skip (n_then (x_seq (x_region (s_do rfl (d_allocA Tryz.zeroValue99) ?_))))
    rintro _ _ ⟨b2, rfl, rfl⟩
    refine x_nil (n_then (x_seq (x_region (s_do rfl (d_call Tryz.call179 rfl (dsFields_spec W0 _ b2)) ?_))))
    rintro _ B_ ⟨rfl, hB_⟩
    obtain rfl := hB_.symm
    refine s_do rfl (d_allocA Tryz.zeroValue264) ?_
    rintro _ _ ⟨b3, rfl, rfl⟩
    refine s_do0 (d_storeAll Tryz.sizeOf264 rfl rfl rfl rfl rfl) ?_
    rintro _ _ rfl
    refine x_nil (n_then (x_seq (x_seq (x_region (s_val rfl (v_move rfl) (s_do rfl (d_call Tryz.call263 rfl (octWords_spec W0 _ a c l (SlA.weak hs) hb hcap hl)) ?_))))))
    rintro _ B_ ⟨a', c', rfl, hB_⟩
    obtain rfl := hB_.symm
    rw [show l.length / 4 = 4 by rw [h16]]
    refine run_form (E := 47) (sz := 1) (a := a') (c := c') (n := 4) (fun hf => ?_)
    obtain ⟨g, rfl⟩ := form_some hf (by simp [wordsV])
    refine run_pt (b := b2) (o' := cob (outV (fun j => wV (wdAt l j)) (wV 0) 4 0) 99) rfl ?_
    refine run_pt (b := b1) (o' := cob (dsV zD) 99) rfl ?_
    refine s_val rfl (v_len_slice Tryz.underlying45 rfl) (s_val rfl (v_move rfl) (x_nil (n_then (x_block ?_))))
    refine x_loop (fun i : Nat => i ≤ 4) (fun i => [(2, .pointer (some ⟨b1, 0, none⟩)), (4, .pointer (some ⟨b2, 0, none⟩)), (5, .pointer (some ⟨b3, 0, none⟩)), (14, .slice (some ⟨g, 0, none⟩) 4 c'), (15, .int .i64 4), (16, .int .i64 i)]) (fun i => pt b2 (cob (outV (fun j => wV (wdAt l j)) (wV 0) 4 i) 99) :: osl 47 1 (.slice (some ⟨g, 0, none⟩) 4 c') (wordsV l 4) :: pt b3 (cob ((List.range 4).map (ptV b2)) 264) :: pt b1 (cob (dsV zD) 99) :: R) (fun i => 4 - i) 0 ?_ ?_ ?_ ?_
    · exact Nat.zero_le _
    · repeat (first | exact sub_nil | refine sub_cons rfl ?_)
    · exact inferInstance
    · intro i hi
      refine x_seq (x_region (s_val rfl (v_lss rfl rfl) (x_nil (n_then (x_seq ?_)))))
      refine x_if rfl ?_ ?_
      · intro c6
        refine x_skip (n_then (x_seq (x_block (x_seq (x_region (s_val rfl (v_move rfl) ?_))))))
        refine s_val rfl (v_idx Tryz.underlying45 Tryz.sizeOf47 rfl rfl rfl (by omega) (by first | exact Nat.zero_add _ | rfl)) ?_
        refine s_val rfl (v_load Tryz.isAgg47 rfl (cell_osl (E := 47) (sz := 1) (n := 4) (c := c') (range_get1 (by omega)))) ?_
        refine s_val rfl (v_assign rfl) (s_val rfl (v_assign rfl) (x_nil (n_then (x_region (s_val rfl (v_move rfl) ?_)))))
        refine s_val rfl (v_idxArr Tryz.underlying264 Tryz.sizeOf263 rfl rfl rfl (by omega) (by first | exact Nat.zero_add _ | rfl)) ?_
        refine s_val rfl (v_load Tryz.isAgg263 rfl (cell_own (range_get1 (by omega)))) ?_
        refine s_val rfl (v_move rfl) (s_val rfl (v_nilCheck rfl) ?_)
        refine s_do0 (d_store Tryz.sizeOf47 rfl rfl rfl (by rw [outV_len]; omega) (outV_set (by omega))) ?_
        rintro _ _ rfl
        refine x_nil (n_block (n_then (x_region ?_)))
        refine s_val rfl (v_add rfl rfl (by first | exact w64 (by omega) | rfl)) ?_
        refine s_val rfl (v_move rfl) (x_nil (n_then ?_))
        refine inv_intro (i + 1) ?_ ?_ ?_ ?_
        · omega
        · omega
        · repeat (first | exact sub_nil | refine sub_cons rfl ?_)
        · exact inferInstance
      · intro c6
        refine x_exit (e_then (e_then (e_block (n_then (x_seq ?_)))))
        obtain rfl : i = 4 := by omega
        rw [outV_full, show (List.range 4).map (fun j => wV (wdAt l j)) = dsV (dsOf l) from rfl]
        refine x_region (s_val rfl (v_loadAll Tryz.isAgg99 Tryz.sizeOf99 rfl rfl) ?_)
        refine s_do0 (d_storeAll Tryz.sizeOf99 rfl rfl rfl rfl rfl) ?_
        rintro _ _ rfl
        refine s_val rfl (v_assign rfl) (x_nil (n_then (x_ret (x_done (.inl rfl) (.cons (r_all Tryz.isAgg99 Tryz.sizeOf99 rfl rfl) (.cons (r_tmp rfl) .nil)) ?_))))
        refine ⟨_, ⟨?_, rfl⟩, inferInstance⟩
        simp [pack, h16]
theorem dsPut_spec (W0 : World) (R : List HP) (d : Dsc) (hd : d.ok) : Spec Tryz.prog W0 90 [.agg (dsV d).toArray] R (fun v B => ∃ a' c', v = .slice a' 16 c' ∧ B = osl 5 1 (.slice a' 16 c') (byV (putD d)) :: R) := by
  refine spec_body Tryz.func90 Tryz.ntmps90 rfl rfl ?_
  refine x_seq (x_region (s_do rfl (d_boxA rfl) ?_))
  rintro _ _ ⟨b1, rfl, rfl⟩
  refine s_val rfl (v_assign rfl) (x_nil (n_then (x_seq (x_region (s_do rfl (d_call Tryz.call179 rfl (dsFields_spec W0 _ b1)) ?_)))))
  rintro _ B_ ⟨rfl, hB_⟩
  obtain rfl := hB_.symm
  refine s_do rfl (d_allocA Tryz.zeroValue264) ?_
  rintro _ _ ⟨b2, rfl, rfl⟩
  refine s_do0 (d_storeAll Tryz.sizeOf264 rfl rfl rfl rfl rfl) ?_
  rintro _ _ rfl
  refine x_nil (n_then (x_seq (x_region (s_do rfl (d_allocA Tryz.zeroValue267) ?_))))
  rintro _ _ ⟨b3, rfl, rfl⟩
  refine x_nil (n_then (x_seq (x_seq ?_)))
  refine run_pt (b := b3) (o' := cob (outV (fun j => wV (dsW d j)) (wV 0) 4 0) 267) rfl ?_
  refine x_region (s_val rfl (v_move rfl) (x_nil (n_then (x_block ?_))))
  refine x_loop (fun i : Nat => i ≤ 4) (fun i => [(1, .pointer (some ⟨b1, 0, none⟩)), (3, .pointer (some ⟨b2, 0, none⟩)), (4, .pointer (some ⟨b3, 0, none⟩)), (7, .int .i64 i)]) (fun i => pt b3 (cob (outV (fun j => wV (dsW d j)) (wV 0) 4 i) 267) :: pt b2 (cob ((List.range 4).map (ptV b1)) 264) :: pt b1 (cob ((List.range 4).map fun j => wV (dsW d j)) 99) :: R) (fun i => 4 - i) 0 ?_ ?_ ?_ ?_
  · exact Nat.zero_le _
  · repeat (first | exact sub_nil | refine sub_cons rfl ?_)
  · rw [← dsV_range]; exact inferInstance
  · intro i hi
    refine x_seq (x_region (s_val rfl (v_lss rfl rfl) (x_nil (n_then (x_seq ?_)))))
    refine x_if rfl ?_ ?_
    · intro c4
      refine x_skip (n_then (x_seq (x_block (x_seq (x_region (s_val rfl (v_move rfl) (s_val rfl (v_assign rfl) (x_nil (n_then (x_region (s_val rfl (v_move rfl) (s_val rfl (v_move rfl) ?_))))))))))))
      refine s_val rfl (v_idxArr Tryz.underlying264 Tryz.sizeOf263 rfl rfl rfl (by omega) (by first | exact Nat.zero_add _ | rfl)) ?_
      refine s_val rfl (v_load Tryz.isAgg263 rfl (cell_own (range_get1 (by omega)))) ?_
      refine s_val rfl (v_nilCheck rfl) ?_
      refine s_val rfl (v_load Tryz.isAgg47 rfl (cell_own (range_get (by omega)))) ?_
      refine s_val rfl (v_idxArr Tryz.underlying267 Tryz.sizeOf47 rfl rfl rfl (by omega) (by first | exact Nat.zero_add _ | rfl)) ?_
      refine s_do0 (d_store Tryz.sizeOf47 rfl rfl rfl (by rw [outV_len]; omega) (outV_set1 (by omega))) ?_
      rintro _ _ rfl
      refine x_nil (n_block (n_then (x_region ?_)))
      refine s_val rfl (v_add rfl rfl (by first | exact w64 (by omega) | rfl)) ?_
      refine s_val rfl (v_move rfl) (x_nil (n_then ?_))
      refine inv_intro (i + 1) ?_ ?_ ?_ ?_
      · omega
      · omega
      · repeat (first | exact sub_nil | refine sub_cons rfl ?_)
      · exact inferInstance
    · intro c4
      refine x_exit (e_then (e_then (e_block (n_then (x_seq ?_)))))
      obtain rfl : i = 4 := by omega
      rw [outV_full]
      refine x_region (s_val rfl (v_sliceArr Tryz.underlying267 Tryz.sizeOf47 rfl) ?_)
      refine s_do rfl (d_call Tryz.call180 rfl (octBytes_spec W0 _ _ _ (dsWs d) (sla_pt (fun _ => rfl) rfl) (dsWs_lt hd) (by simp [dsWs]))) ?_
      rintro _ B_ ⟨a', c', rfl, hB_⟩
      obtain rfl := hB_.symm
      refine s_val rfl (v_assign rfl) (x_nil (n_then (x_ret (x_done (.inl rfl) (.cons (r_tmp rfl) .nil) ?_))))
      exact ⟨_, ⟨a', c', rfl, rfl⟩, (inferInstance : Ent (osl 5 1 (.slice a' 16 c') (byV (putD d)) :: _) _)⟩
def chkC (d : Dsc) (n : Nat) : Int := if 4 ≤ d.flags then 3 else if 64 < d.len then 4 else if d.flags % 2 = 1 ∧ n ≤ d.next then 1 else 0
theorem andNot3 {f : Nat} (h : f < 4294967296) : bAndNot .u32 (f : Int) 3 = ((f - f % 4 : Nat) : Int) := by
  have := bAndNot_u32 (a := f) (b := 3) h (by decide)
  rw [show f &&& 3 = f % 4 from and_low (a := f) (n := 2)] at this
  exact this
theorem and1 {f : Nat} (h : f < 4294967296) : bAnd .u32 (f : Int) 1 = ((f % 2 : Nat) : Int) := by
  have := bAnd_u32 (a := f) (b := 1) h (by decide)
  rw [show f &&& 1 = f % 2 from and_low (a := f) (n := 1)] at this
  exact this
theorem and2 {f : Nat} (h : f < 4294967296) : bAnd .u32 (f : Int) 2 = ((f / 2 % 2 * 2 : Nat) : Int) := by
  have := bAnd_u32 (a := f) (b := 2) h (by decide)
  refine Eq.trans this ?_
  have e : f &&& 2 = f / 2 % 2 * 2 := by
    apply Nat.eq_of_testBit_eq
    intro i
    rw [Nat.testBit_and]
    have h2 : ∀ i, Nat.testBit 2 i = decide (i = 1) := fun i => by
      rw [show (2 : Nat) = 2 ^ 1 from rfl, Nat.testBit_two_pow]; simp [eq_comm]
    rw [h2]
    by_cases hi : i = 1
    · subst hi
      rw [Nat.mul_comm, ← Nat.pow_one 2, Nat.testBit_two_pow_mul]
      simp [Nat.testBit_eq_decide_div_mod_eq]
    · rw [Nat.mul_comm, ← Nat.pow_one 2, Nat.testBit_two_pow_mul]
      simp only [hi, decide_false, Bool.and_false]
      rcases Nat.eq_zero_or_pos i with rfl | hp
      · simp
      · have : 1 ≤ i - 1 := by omega
        have hlt : f / 2 ^ 1 % 2 ^ 1 < 2 ^ (i - 1) := Nat.lt_of_lt_of_le (Nat.mod_lt _ (by decide)) (Nat.pow_le_pow_right (by decide) this)
        simp [Nat.testBit_lt_two_pow hlt]
  rw [e]
theorem dsCheck_spec (W0 : World) (R : List HP) (d : Dsc) (hd : d.ok) (n : Nat) (hn : n < 9223372036854775808) : Spec Tryz.prog W0 293 [.agg (dsV d).toArray, .int .i64 n] R (fun v B => v = .int .i64 (chkC d n) ∧ B = R) := by
  have h1 := hd.flags
  have h2 := hd.next
  refine spec_body Tryz.func293 Tryz.ntmps293 rfl rfl ?_
  refine x_seq (x_region (s_do rfl (d_boxA rfl) ?_))
  rintro _ _ ⟨b1, rfl, rfl⟩
  refine s_val rfl (v_assign rfl) (x_nil (n_then (x_seq (x_block (x_seq (x_region ?_))))))
  refine s_val rfl (v_fieldAddr rfl Tryz.underlying99 rfl Tryz.sizeOf47 rfl (by first | exact Nat.zero_add _ | rfl)) ?_
  refine s_val rfl (v_load Tryz.isAgg47 rfl (cell_own rfl)) ?_
  refine s_val rfl (v_andNot rfl rfl (andNot3 h1)) ?_
  refine s_val rfl (v_neq rfl rfl) (s_val rfl (v_assign rfl) (x_nil (n_then ?_)))
  refine x_if rfl ?_ ?_
  · intro c1
    refine x_seq (x_region (s_val rfl (v_assign rfl) (x_nil (n_then (x_ret (r_block (r_then (x_done (.inl rfl) (.cons (r_tmp rfl) .nil) ?_))))))))
    refine ⟨_, ⟨?_, rfl⟩, inferInstance⟩
    simp only [pack, chkC]; rw [if_pos (by omega)]
  · intro c1
    refine x_seq (x_region ?_)
    refine s_val rfl (v_fieldAddr rfl Tryz.underlying99 rfl Tryz.sizeOf47 rfl (by first | exact Nat.zero_add _ | rfl)) ?_
    refine s_val rfl (v_load Tryz.isAgg47 rfl (cell_own rfl)) ?_
    refine s_val rfl (v_gtr rfl rfl) (s_val rfl (v_assign rfl) (x_nil (n_then ?_)))
    refine x_if rfl ?_ ?_
    · intro c3
      refine x_seq (x_region (s_val rfl (v_assign rfl) (x_nil (n_then (x_ret (r_block (r_then (x_done (.inl rfl) (.cons (r_tmp rfl) .nil) ?_))))))))
      refine ⟨_, ⟨?_, rfl⟩, inferInstance⟩
      simp only [pack, chkC]; rw [if_neg (by omega), if_pos (by omega)]
    · intro c3
      refine x_seq (x_region ?_)
      refine s_val rfl (v_fieldAddr rfl Tryz.underlying99 rfl Tryz.sizeOf47 rfl (by first | exact Nat.zero_add _ | rfl)) ?_
      refine s_val rfl (v_load Tryz.isAgg47 rfl (cell_own rfl)) ?_
      refine s_val rfl (v_and rfl rfl (and1 h1)) ?_
      refine s_val rfl (v_neq rfl rfl) (s_val rfl (v_move rfl) ?_)
      refine s_and rfl rfl rfl ?_ ?_
      · intro g5_5
        refine s_val rfl (v_fieldAddr rfl Tryz.underlying99 rfl Tryz.sizeOf47 rfl (by first | exact Nat.zero_add _ | rfl)) ?_
        refine s_yes rfl rfl (s_val rfl (v_load Tryz.isAgg47 rfl (cell_own rfl)) ?_)
        refine s_yes rfl rfl ?_
        refine s_val rfl (v_conv Tryz.underlying47 Tryz.underlying2 rfl (w64 (by omega))) ?_
        refine s_yes rfl rfl (s_val rfl (v_move rfl) (s_yes rfl rfl (s_val rfl (v_geq rfl rfl) (s_val rfl (v_pick_t rfl rfl) (s_val rfl (v_assign rfl) (x_nil (n_then ?_)))))))
        refine x_if rfl ?_ ?_
        · intro c5
          refine x_seq (x_region (s_val rfl (v_assign rfl) (x_nil (n_then (x_ret (r_block (r_then (x_done (.inl rfl) (.cons (r_tmp rfl) .nil) ?_))))))))
          refine ⟨_, ⟨?_, rfl⟩, inferInstance⟩
          simp only [pack, chkC]; rw [if_neg (by omega), if_neg (by omega), if_pos (by omega)]
        · intro c5
          refine x_skip (n_block (n_then (x_seq (x_region (s_val rfl (v_assign rfl) (x_nil (n_then (x_ret (x_done (.inl rfl) (.cons (r_tmp rfl) .nil) ?_)))))))))
          refine ⟨_, ⟨?_, rfl⟩, inferInstance⟩
          simp only [pack, chkC]; rw [if_neg (by omega), if_neg (by omega), if_neg (by omega)]
      · intro g5_5
        refine s_no rfl rfl rfl rfl (s_no rfl rfl rfl rfl (s_no rfl rfl rfl rfl (s_no rfl rfl rfl rfl (s_val rfl (v_pick_f rfl rfl) (s_val rfl (v_assign rfl) (x_nil (n_then (x_iff rfl (x_skip (n_block (n_then (x_seq (x_region (s_val rfl (v_assign rfl) (x_nil (n_then (x_ret (x_done (.inl rfl) (.cons (r_tmp rfl) .nil) ?_))))))))))))))))))
        refine ⟨_, ⟨?_, rfl⟩, inferInstance⟩
        simp only [pack, chkC]; rw [if_neg (by omega), if_neg (by omega), if_neg (by omega)]
def szd (n : Int) : Bool := decide (n = 2 ∨ n = 4 ∨ n = 8)
theorem dsSized_spec (W0 : World) (R : List HP) (n : Int) : Spec Tryz.prog W0 278 [.int .i64 n] R (fun v B => v = .bool (szd n) ∧ B = R) := by
  refine spec_body Tryz.func278 Tryz.ntmps278 rfl rfl ?_
  refine x_seq (x_region (s_val rfl (v_assign rfl) (x_nil (n_then (x_seq (x_seq (x_region (s_val rfl (v_move rfl) (x_nil (n_then (x_block (x_seq (x_seq (x_region (s_val rfl (v_eql rfl rfl) (s_val rfl (v_assign rfl) (x_nil (n_then ?_))))))))))))))))))
  refine x_if rfl ?_ ?_
  · intro c2
    refine x_skip (n_then (x_ift rfl (x_seq (x_region (s_val rfl (v_assign rfl) (x_nil (n_then (x_ret (r_block (r_then (x_done (.inl rfl) (.cons (r_tmp rfl) .nil) ?_)))))))))))
    refine ⟨_, ⟨?_, rfl⟩, inferInstance⟩
    refine congrArg Value.bool (Eq.symm (decide_eq_true ?_)); omega
  · intro c2
    refine x_seq (x_region (s_val rfl (v_eql rfl rfl) (s_val rfl (v_assign rfl) (x_nil (n_then ?_)))))
    refine x_if rfl ?_ ?_
    · intro c3
      refine x_skip (n_then (x_ift rfl (x_seq (x_region (s_val rfl (v_assign rfl) (x_nil (n_then (x_ret (r_block (r_then (x_done (.inl rfl) (.cons (r_tmp rfl) .nil) ?_)))))))))))
      refine ⟨_, ⟨?_, rfl⟩, inferInstance⟩
      refine congrArg Value.bool (Eq.symm (decide_eq_true ?_)); omega
    · intro c3
      refine x_region (s_val rfl (v_eql rfl rfl) (s_val rfl (v_assign rfl) (x_nil (n_then ?_))))
      refine x_if rfl ?_ ?_
      · intro c4
        refine x_seq (x_region (s_val rfl (v_assign rfl) (x_nil (n_then (x_ret (r_block (r_then (x_done (.inl rfl) (.cons (r_tmp rfl) .nil) ?_))))))))
        refine ⟨_, ⟨?_, rfl⟩, inferInstance⟩
        refine congrArg Value.bool (Eq.symm (decide_eq_true ?_)); omega
      · intro c4
        refine x_skip (n_block (n_then (x_seq (x_region (s_val rfl (v_assign rfl) (x_nil (n_then (x_ret (x_done (.inl rfl) (.cons (r_tmp rfl) .nil) ?_)))))))))
        refine ⟨_, ⟨?_, rfl⟩, inferInstance⟩
        refine congrArg Value.bool (Eq.symm (decide_eq_false ?_)); omega
structure Rg3 where
  desc : Nat
  avail : Nat
  used : Nat
  n : Int
@[reducible] def rgV (r : Rg3) : List Value := [.int .u32 r.desc, .int .u32 r.avail, .int .u32 r.used, .int .i64 r.n]
structure Rg3.ok (r : Rg3) : Prop where
  desc : r.desc < 4294967296
  avail : r.avail < 4294967296
  used : r.used < 4294967296
def rgtB (r : Rg3) : Bool := decide (r.desc % 4 = 0 ∧ r.avail % 4 = 0 ∧ r.used % 4 = 0) && szd r.n
def rgAt (r : Rg3) (i : Nat) : Nat := [r.desc, r.avail, r.used].getD i 0
theorem dsRight_spec (W0 : World) (R : List HP) (r : Rg3) : Spec Tryz.prog W0 245 [.agg (rgV r).toArray] R (fun v B => v = .bool (rgtB r) ∧ B = R) := by
  refine spec_body Tryz.func245 Tryz.ntmps245 rfl rfl ?_
  refine x_seq (x_region (s_do rfl (d_boxA rfl) ?_))
  rintro _ _ ⟨b1, rfl, rfl⟩
  refine s_val rfl (v_assign rfl) (x_nil (n_then (x_seq (x_seq (x_region ?_)))))
  refine s_val rfl (v_fieldAddr rfl Tryz.underlying71 rfl Tryz.sizeOf47 rfl (by first | exact Nat.zero_add _ | rfl)) ?_
  refine s_val rfl (v_load Tryz.isAgg47 rfl (cell_own rfl)) ?_
  refine s_val rfl (v_fieldAddr rfl Tryz.underlying71 rfl Tryz.sizeOf47 rfl (by first | exact Nat.zero_add _ | rfl)) ?_
  refine s_val rfl (v_load Tryz.isAgg47 rfl (cell_own rfl)) ?_
  refine s_val rfl (v_fieldAddr rfl Tryz.underlying71 rfl Tryz.sizeOf47 rfl (by first | exact Nat.zero_add _ | rfl)) ?_
  refine s_val rfl (v_load Tryz.isAgg47 rfl (cell_own rfl)) ?_
  refine s_val rfl (v_buildArr Tryz.underlying331 Tryz.sizeOf47 Tryz.zeroValue331 rfl rfl rfl rfl) ?_
  refine s_val rfl (v_move rfl) (x_nil (n_then (x_block ?_)))
  refine x_loop (fun i : Nat => i ≤ 3 ∧ ∀ j, j < i → rgAt r j % 4 = 0) (fun i => [(1, .pointer (some ⟨b1, 0, none⟩)), (11, .agg ((List.range 3).map fun j => wV (rgAt r j)).toArray), (12, .int .i64 i)]) (fun i => pt b1 (cob (rgV r) 71) :: R) (fun i => 3 - i) 0 ?_ ?_ ?_ ?_
  · exact ⟨Nat.zero_le _, fun j hj => by omega⟩
  · repeat (first | exact sub_nil | refine sub_cons rfl ?_)
  · exact inferInstance
  · intro i ⟨hi, hI⟩
    refine x_seq (x_region (s_val rfl (v_lss rfl rfl) (x_nil (n_then (x_seq ?_)))))
    refine x_if rfl ?_ ?_
    · intro c2
      refine x_skip (n_then (x_seq (x_block (x_seq (x_region ?_)))))
      refine s_val rfl (v_index Tryz.underlying331 Tryz.sizeOf47 Tryz.isAgg47 rfl rfl rfl (by omega) (range_get (by omega))) ?_
      refine s_val rfl (v_assign rfl) (x_nil (n_then (x_seq (x_region (s_val rfl (v_move rfl) ?_)))))
      refine s_val rfl (v_rem rfl rfl (by decide) (tmodN (rgAt r i) 4)) ?_
      refine s_val rfl (v_neq rfl rfl) (x_nil (n_then ?_))
      refine x_if rfl ?_ ?_
      · intro c4
        refine x_seq (x_region (s_val rfl (v_assign rfl) (x_nil (n_then (x_ret (r_block (r_then (r_then (r_block (r_then (x_done (.inl rfl) (.cons (r_tmp rfl) .nil) ?_)))))))))))
        refine ⟨_, ⟨?_, rfl⟩, inferInstance⟩
        refine congrArg Value.bool (Eq.symm ?_)
        rw [rgtB, decide_eq_false, Bool.false_and]
        have h3 : i = 0 ∨ i = 1 ∨ i = 2 := by omega
        rcases h3 with rfl | rfl | rfl <;> simp [rgAt] at c4 <;> omega
      · intro c4
        refine x_skip (n_block (n_then (x_region ?_)))
        refine s_val rfl (v_add rfl rfl (by first | exact w64 (by omega) | rfl)) ?_
        refine s_val rfl (v_move rfl) (x_nil (n_then ?_))
        refine inv_intro (i + 1) ?_ ?_ ?_ ?_
        · exact ⟨by omega, fun j hj => by
            rcases Nat.lt_or_ge j i with q | q
            · exact hI j q
            · rw [show j = i by omega]; omega⟩
        · omega
        · repeat (first | exact sub_nil | refine sub_cons rfl ?_)
        · exact inferInstance
    · intro c2
      refine x_exit (e_then (e_then (e_block (n_then (x_seq (x_region ?_))))))
      refine s_val rfl (v_fieldAddr rfl Tryz.underlying71 rfl Tryz.sizeOf3 rfl (by first | exact Nat.zero_add _ | rfl)) ?_
      refine s_val rfl (v_load Tryz.isAgg3 rfl (cell_own rfl)) ?_
      refine s_do rfl (d_call Tryz.call278 rfl (dsSized_spec W0 _ r.n)) ?_
      rintro _ B_ ⟨rfl, hB_⟩
      obtain rfl := hB_.symm
      refine s_val rfl (v_assign rfl) (x_nil (n_then (x_ret (x_done (.inl rfl) (.cons (r_tmp rfl) .nil) ?_))))
      refine ⟨_, ⟨?_, rfl⟩, inferInstance⟩
      obtain rfl : i = 3 := by omega
      have e0 := hI 0 (by omega)
      have e1 := hI 1 (by omega)
      have e2 := hI 2 (by omega)
      simp [rgAt] at e0 e1 e2
      simp [pack, rgtB, e0, e1, e2]
end Go.Proofs.YtlnmofhehcilhaaGreat
namespace Go.Proofs.YtlnmofhehcilhaaGreat
open Go.RowKit
set_option linter.unusedSimpArgs false
set_option linter.unusedVariables false
set_option maxRecDepth 20000
def wrB (d : Dsc) : Bool := decide (d.flags / 2 % 2 = 1)
def goB (d : Dsc) : Bool := decide (d.flags % 2 = 1)
theorem chWrites_spec (W0 : World) (R : List HP) (d : Dsc) (hd : d.ok) : Spec Tryz.prog W0 195 [.agg (dsV d).toArray] R (fun v B => v = .bool (wrB d) ∧ B = R) := by
  refine spec_body Tryz.func195 Tryz.ntmps195 rfl rfl ?_
  refine x_seq (x_region (s_do rfl (d_boxA rfl) ?_))
  rintro _ _ ⟨b1, rfl, rfl⟩
  refine s_val rfl (v_assign rfl) (x_nil (n_then (x_seq (x_region ?_))))
  refine s_val rfl (v_fieldAddr rfl Tryz.underlying99 rfl Tryz.sizeOf47 rfl (by first | exact Nat.zero_add _ | rfl)) ?_
  refine s_val rfl (v_load Tryz.isAgg47 rfl (cell_own rfl)) ?_
  refine s_val rfl (v_and rfl rfl (and2 hd.flags)) ?_
  refine s_val rfl (v_neq rfl rfl) (s_val rfl (v_assign rfl) (x_nil (n_then (x_ret (x_done (.inl rfl) (.cons (r_tmp rfl) .nil) ?_)))))
  refine ⟨_, ⟨?_, rfl⟩, inferInstance⟩
  refine congrArg Value.bool ?_
  rw [Bool.eq_iff_iff, bne_iff_ne, wrB, decide_eq_true_iff]; omega
theorem chGoes_spec (W0 : World) (R : List HP) (d : Dsc) (hd : d.ok) : Spec Tryz.prog W0 287 [.agg (dsV d).toArray] R (fun v B => v = .bool (goB d) ∧ B = R) := by
  refine spec_body Tryz.func287 Tryz.ntmps287 rfl rfl ?_
  refine x_seq (x_region (s_do rfl (d_boxA rfl) ?_))
  rintro _ _ ⟨b1, rfl, rfl⟩
  refine s_val rfl (v_assign rfl) (x_nil (n_then (x_seq (x_region ?_))))
  refine s_val rfl (v_fieldAddr rfl Tryz.underlying99 rfl Tryz.sizeOf47 rfl (by first | exact Nat.zero_add _ | rfl)) ?_
  refine s_val rfl (v_load Tryz.isAgg47 rfl (cell_own rfl)) ?_
  refine s_val rfl (v_and rfl rfl (and1 hd.flags)) ?_
  refine s_val rfl (v_neq rfl rfl) (s_val rfl (v_assign rfl) (x_nil (n_then (x_ret (x_done (.inl rfl) (.cons (r_tmp rfl) .nil) ?_)))))
  refine ⟨_, ⟨?_, rfl⟩, inferInstance⟩
  refine congrArg Value.bool ?_
  rw [Bool.eq_iff_iff, bne_iff_ne, goB, decide_eq_true_iff]; omega
abbrev wkO (pv : Nat) (r : Rg3) (wr : Bool) : Obj := cob [.pointer (some ⟨pv, 0, none⟩), .int .u32 r.desc, .int .u32 r.avail, .int .u32 r.used, .int .i64 r.n, .bool wr] 348
abbrev vw (pv ps pm d : Nat) (fr : List Frm) (pg : List Pl) (R : List HP) : List HP := pt pv (viO ps pm d) :: stoH ps fr :: pt pm (gmO pg) :: R
def dsPa (r : Rg3) (at_ : Nat) : Nat := (r.desc + 16 * at_) % 4294967296
theorem dsPa_lt (r : Rg3) (at_ : Nat) : dsPa r at_ < 4294967296 := Nat.mod_lt _ (by decide)
def dsAt (fr : List Frm) (pg : List Pl) (r : Rg3) (at_ : Nat) : Dsc := if ownB fr.length pg (dsPa r at_) 16 then dsOf (rdL fr pg (dsPa r at_) 16) else zD
theorem zD_ok : zD.ok := ⟨by decide, by decide, by decide, by decide⟩
theorem dsAt_ok {fr : List Frm} (hF : Frs fr) (pg : List Pl) (r : Rg3) (at_ : Nat) : (dsAt fr pg r at_).ok := by
  unfold dsAt; split
  · exact dsOf_ok (rdL_by hF _ _ _)
  · exact zD_ok
theorem chRead_spec (W0 : World) (R : List HP) (bw pv ps pm d : Nat) (fr : List Frm) (pg : List Pl) (h : Pgs pg) (hF : Frs fr) (r : Rg3) (hr : r.ok) (wr : Bool) (at_ : Nat) (hat : at_ < 100) :
    Spec Tryz.prog W0 292 [.pointer (some ⟨bw, 0, none⟩), .int .i64 at_] (pt bw (wkO pv r wr) :: vw pv ps pm d fr pg R)
      (fun v B => v = .tuple #[.agg (dsV (dsAt fr pg r at_)).toArray, .bool (ownB fr.length pg (dsPa r at_) 16)] ∧ B = pt bw (wkO pv r wr) :: vw pv ps pm d fr pg R) := by
  have hd := hr.desc
  refine spec_body Tryz.func292 Tryz.ntmps292 rfl rfl ?_
  refine x_seq (x_region (s_do rfl (d_allocA Tryz.zeroValue99) ?_))
  rintro _ _ ⟨b1, rfl, rfl⟩
  refine s_val rfl (v_assign rfl) (x_nil (n_then (x_seq ?_)))
  refine x_draw [(bw, 0, _)] 19 mixed rfl (sc_own sc_end) (fun hS => ?_)
  refine d_take 0 rfl rfl (by kernel_rfl) (by kernel_rfl) (by kernel_rfl) rfl hS (v_move rfl) ?_
  refine d_take 1 rfl rfl (by kernel_rfl) (by kernel_rfl) (by kernel_rfl) rfl hS (v_nilCheck rfl) ?_
  refine d_take 2 rfl rfl (by kernel_rfl) (by kernel_rfl) (by kernel_rfl) rfl hS (v_fieldAddr rfl Tryz.underlying348 rfl Tryz.sizeOf51 rfl (by first | exact Nat.zero_add _ | rfl)) ?_
  refine d_take 3 rfl rfl (by kernel_rfl) (by kernel_rfl) (by kernel_rfl) rfl hS (v_load Tryz.isAgg51 rfl (cell_sc0 (k := 0) rfl rfl)) ?_
  refine d_take 4 rfl rfl (by kernel_rfl) (by kernel_rfl) (by kernel_rfl) rfl hS (v_move rfl) ?_
  refine d_take 5 rfl rfl (by kernel_rfl) (by kernel_rfl) (by kernel_rfl) rfl hS (v_nilCheck rfl) ?_
  refine d_take 6 rfl rfl (by kernel_rfl) (by kernel_rfl) (by kernel_rfl) rfl hS (v_fieldAddr rfl Tryz.underlying348 rfl Tryz.sizeOf71 rfl (by first | exact Nat.zero_add _ | rfl)) ?_
  refine d_take 7 rfl rfl (by kernel_rfl) (by kernel_rfl) (by kernel_rfl) rfl hS (v_fieldAddr rfl Tryz.underlying71 rfl Tryz.sizeOf47 rfl (by first | exact Nat.zero_add _ | rfl)) ?_
  refine d_take 8 rfl rfl (by kernel_rfl) (by kernel_rfl) (by kernel_rfl) rfl hS (v_load Tryz.isAgg47 rfl (cell_sc0 (k := 0) rfl rfl)) ?_
  refine d_take 9 rfl rfl (by kernel_rfl) (by kernel_rfl) (by kernel_rfl) rfl hS (v_move rfl) ?_
  refine d_take 10 rfl rfl (by kernel_rfl) (by kernel_rfl) (by kernel_rfl) rfl hS (v_conv Tryz.underlying3 Tryz.underlying47 rfl (w32u (by omega))) ?_
  refine d_take 11 rfl rfl (by kernel_rfl) (by kernel_rfl) (by kernel_rfl) rfl hS (v_mul rfl rfl (by rw [w32u (by omega)]; omega : IntKind.wrap .u32 (16 * (at_ : Int)) = ((16 * at_ : Nat) : Int))) ?_
  refine d_take 12 rfl rfl (by kernel_rfl) (by kernel_rfl) (by kernel_rfl) rfl hS (v_add rfl rfl (wrapN (r.desc + 16 * at_))) ?_
  refine d_one 13 (by kernel_rfl) rfl rfl (d_call3 Tryz.call47 rfl (viRead_spec W0 _ pv ps pm d fr pg h hF (dsPa r at_) (dsPa_lt r at_) 16)) rfl ?_; clear hS
  rintro _ B_ ⟨a, c, rfl, hB_⟩
  obtain rfl := hB_.symm
  refine ⟨(sc_own sc_end), fun hS => ?_⟩
  refine d_take 14 rfl rfl (by kernel_rfl) (by kernel_rfl) (by kernel_rfl) rfl hS (v_move rfl) ?_
  refine d_take 15 rfl rfl (by kernel_rfl) (by kernel_rfl) (by kernel_rfl) rfl hS (v_extract rfl rfl) ?_
  refine d_take 16 rfl rfl (by kernel_rfl) (by kernel_rfl) (by kernel_rfl) rfl hS (v_extract rfl rfl) ?_
  refine d_take 17 rfl rfl (by kernel_rfl) (by kernel_rfl) (by kernel_rfl) rfl hS (v_assign rfl) ?_
  refine d_take 18 rfl rfl (by kernel_rfl) (by kernel_rfl) (by kernel_rfl) rfl hS (v_assign rfl) ?_
  refine d_done (by kernel_rfl) ?_; clear hS
  refine n_then (x_seq (x_seq (x_region (s_val rfl (v_move rfl) (s_val rfl (v_not rfl) (x_nil (n_then ?_)))))))
  refine x_if rfl ?_ ?_
  · intro c2
    have ho : ownB fr.length pg (dsPa r at_) 16 = false := by simpa using c2
    refine x_seq (x_region (s_val rfl (v_build Tryz.underlying99 Tryz.zeroValue99 (sized_cons Tryz.sizeOf47 (sized_cons Tryz.sizeOf47 (sized_cons Tryz.sizeOf47 (sized_cons Tryz.sizeOf47 sized_nil)))) fil_nil) ?_))
    refine s_do0 (d_storeAll Tryz.sizeOf99 rfl rfl rfl rfl rfl) ?_
    rintro _ _ rfl
    refine s_val rfl (v_assign rfl) (x_nil (n_then (x_ret (r_then (x_done (.inl rfl) (.cons (r_all Tryz.isAgg99 Tryz.sizeOf99 rfl rfl) (.cons (r_tmp rfl) .nil)) ?_)))))
    refine ⟨_, ⟨?_, rfl⟩, inferInstance⟩
    simp [pack, dsAt, ho, zD]
  · intro c2
    have ho : ownB fr.length pg (dsPa r at_) 16 = true := Decidable.not_not.1 c2
    have hrd : rdO fr pg (dsPa r at_) 16 = rdL fr pg (dsPa r at_) 16 := by rw [rdO, if_pos ho]; rfl
    have hln : (rdL fr pg (dsPa r at_) 16).length = 16 := rdL_len _ _ _ _
    rw [hrd]
    refine run_sla (E := 5) (sz := 1) (a := a) (c := c) (n := (rdL fr pg (dsPa r at_) 16).length) (fun x => [bV x]) (rdL fr pg (dsPa r at_) 16) (fun _ => rfl) (by decide) (byV_fm _).symm (fun hs1 => ?_)
    refine run_cap (E := 5) (sz := 1) (a := a) (c := c) (n := (rdL fr pg (dsPa r at_) 16).length) (fun hcap => ?_)
    refine x_skip (n_then (x_seq (x_region (s_val rfl (v_move rfl) ?_))))
    refine s_do rfl (d_call Tryz.call294 rfl (dsGet_spec W0 _ a c _ hs1 (rdL_by hF _ _ _) hcap.1 (by rw [hln]; decide))) ?_
    rintro _ B_ ⟨rfl, hB_⟩
    obtain rfl := hB_.symm
    rw [if_pos hln, if_pos hln]
    refine s_val rfl (v_move rfl) (s_val rfl (v_extract rfl rfl) (s_val rfl (v_extract rfl rfl) (s_do rfl (d_allocA Tryz.zeroValue99) ?_)))
    rintro _ _ ⟨b2, rfl, rfl⟩
    refine s_do0 (d_storeAll Tryz.sizeOf99 rfl rfl rfl rfl rfl) ?_
    rintro _ _ rfl
    refine s_val rfl (v_assign rfl) (x_nil (n_then (x_seq (x_region (s_val rfl (v_loadAll Tryz.isAgg99 Tryz.sizeOf99 rfl rfl) ?_)))))
    refine s_val rfl (v_move rfl) (s_val rfl (v_eql rfl rfl) (s_do0 (d_storeAll Tryz.sizeOf99 rfl rfl rfl rfl rfl) ?_))
    rintro _ _ rfl
    refine s_val rfl (v_assign rfl) (x_nil (n_then (x_ret (x_done (.inl rfl) (.cons (r_all Tryz.isAgg99 Tryz.sizeOf99 rfl rfl) (.cons (r_tmp rfl) .nil)) ?_))))
    refine ⟨_, ⟨?_, rfl⟩, inferInstance⟩
    simp [pack, dsAt, ho]
def lk (fr : List Frm) (pg : List Pl) (r : Rg3) (at_ : Int) (n : Nat) (wr : Bool) : Dsc × Int :=
  if at_ < 0 ∨ r.n ≤ at_ then (zD, 1) else if r.n ≤ (n : Int) then (zD, 2) else
  if ownB fr.length pg (dsPa r at_.toNat) 16 = false then (zD, 5) else
  if chkC (dsAt fr pg r at_.toNat) r.n.toNat ≠ 0 then (zD, chkC (dsAt fr pg r at_.toNat) r.n.toNat) else
  if ownB fr.length pg (dsAt fr pg r at_.toNat).addr (dsAt fr pg r at_.toNat).len = false then (zD, 5) else
  if wr = true ∧ wrB (dsAt fr pg r at_.toNat) = false then (zD, 6) else (dsAt fr pg r at_.toNat, 0)
theorem lk_ok {fr : List Frm} (hF : Frs fr) (pg : List Pl) (r : Rg3) (at_ : Int) (n : Nat) (wr : Bool) : (lk fr pg r at_ n wr).1.ok := by
  unfold lk
  repeat' split
  all_goals first | exact zD_ok | exact dsAt_ok hF _ _ _
theorem lk_n {fr : List Frm} {pg : List Pl} {r : Rg3} {at_ : Int} {n : Nat} {wr : Bool} (h : (lk fr pg r at_ n wr).2 = 0) : (n : Int) < r.n := by
  unfold lk at h
  repeat' split at h
  all_goals first | (exfalso; revert h; decide) | omega | skip
  all_goals (exfalso; rename_i q; exact q h)
theorem chLook_spec (W0 : World) (R : List HP) (bw pv ps pm d : Nat) (fr : List Frm) (pg : List Pl) (h : Pgs pg) (hF : Frs fr) (r : Rg3) (hr : r.ok) (hn8 : r.n ≤ 8) (wr : Bool) (at_ : Int) (n : Nat) :
    Spec Tryz.prog W0 286 [.pointer (some ⟨bw, 0, none⟩), .int .i64 at_, .int .i64 n] (pt bw (wkO pv r wr) :: vw pv ps pm d fr pg R)
      (fun v B => v = .tuple #[.agg (dsV (lk fr pg r at_ n wr).1).toArray, .int .i64 (lk fr pg r at_ n wr).2] ∧
        B = pt bw (wkO pv r (if (lk fr pg r at_ n wr).2 = 0 then wrB (lk fr pg r at_ n wr).1 else wr)) :: vw pv ps pm d fr pg R) := by
  refine spec_body Tryz.func286 Tryz.ntmps286 rfl rfl ?_
  refine x_seq (x_region (s_do rfl (d_allocA Tryz.zeroValue99) ?_))
  rintro _ _ ⟨b1, rfl, rfl⟩
  refine s_val rfl (v_assign rfl) (x_nil (n_then (x_seq (x_block (x_seq (x_seq (x_region (s_val rfl (v_move rfl) (s_val rfl (v_lss rfl rfl) (s_val rfl (v_assign rfl) (x_nil (n_then ?_))))))))))))
  refine x_if rfl ?_ ?_
  · intro c1
    refine x_skip (n_then (x_ift rfl (x_seq (x_region (s_val rfl (v_build Tryz.underlying99 Tryz.zeroValue99 (sized_cons Tryz.sizeOf47 (sized_cons Tryz.sizeOf47 (sized_cons Tryz.sizeOf47 (sized_cons Tryz.sizeOf47 sized_nil)))) fil_nil) ?_)))))
    refine s_do0 (d_storeAll Tryz.sizeOf99 rfl rfl rfl rfl rfl) ?_
    rintro _ _ rfl
    refine s_val rfl (v_assign rfl) (x_nil (n_then (x_ret (r_block (r_then (x_done (.inl rfl) (.cons (r_all Tryz.isAgg99 Tryz.sizeOf99 rfl rfl) (.cons (r_tmp rfl) .nil)) ?_))))))
    have hl : lk fr pg r at_ n wr = (zD, 1) := by unfold lk; rw [if_pos (by omega)]
    rw [hl, if_neg (by decide)]
    exact ⟨_, ⟨rfl, rfl⟩, inferInstance⟩
  · intro c1
    refine x_region (s_val rfl (v_move rfl) (s_val rfl (v_move rfl) (s_val rfl (v_nilCheck rfl) ?_)))
    refine s_val rfl (v_fieldAddr rfl Tryz.underlying348 rfl Tryz.sizeOf71 rfl (by first | exact Nat.zero_add _ | rfl)) ?_
    refine s_val rfl (v_fieldAddr rfl Tryz.underlying71 rfl Tryz.sizeOf3 rfl (by first | exact Nat.zero_add _ | rfl)) ?_
    refine s_val rfl (v_load Tryz.isAgg3 rfl (cell_own rfl)) ?_
    refine s_val rfl (v_geq rfl rfl) (s_val rfl (v_assign rfl) (x_nil (n_then ?_)))
    refine x_if rfl ?_ ?_
    · intro c2
      refine x_seq (x_region (s_val rfl (v_build Tryz.underlying99 Tryz.zeroValue99 (sized_cons Tryz.sizeOf47 (sized_cons Tryz.sizeOf47 (sized_cons Tryz.sizeOf47 (sized_cons Tryz.sizeOf47 sized_nil)))) fil_nil) ?_))
      refine s_do0 (d_storeAll Tryz.sizeOf99 rfl rfl rfl rfl rfl) ?_
      rintro _ _ rfl
      refine s_val rfl (v_assign rfl) (x_nil (n_then (x_ret (r_block (r_then (x_done (.inl rfl) (.cons (r_all Tryz.isAgg99 Tryz.sizeOf99 rfl rfl) (.cons (r_tmp rfl) .nil)) ?_))))))
      have hl : lk fr pg r at_ n wr = (zD, 1) := by unfold lk; rw [if_pos (by omega)]
      rw [hl, if_neg (by decide)]
      exact ⟨_, ⟨rfl, rfl⟩, inferInstance⟩
    · intro c2
      refine x_seq (x_region (s_val rfl (v_move rfl) (s_val rfl (v_move rfl) (s_val rfl (v_nilCheck rfl) ?_))))
      refine s_val rfl (v_fieldAddr rfl Tryz.underlying348 rfl Tryz.sizeOf71 rfl (by first | exact Nat.zero_add _ | rfl)) ?_
      refine s_val rfl (v_fieldAddr rfl Tryz.underlying71 rfl Tryz.sizeOf3 rfl (by first | exact Nat.zero_add _ | rfl)) ?_
      refine s_val rfl (v_load Tryz.isAgg3 rfl (cell_own rfl)) ?_
      refine s_val rfl (v_geq rfl rfl) (s_val rfl (v_assign rfl) (x_nil (n_then ?_)))
      refine x_if rfl ?_ ?_
      · intro c4
        refine x_seq (x_region (s_val rfl (v_build Tryz.underlying99 Tryz.zeroValue99 (sized_cons Tryz.sizeOf47 (sized_cons Tryz.sizeOf47 (sized_cons Tryz.sizeOf47 (sized_cons Tryz.sizeOf47 sized_nil)))) fil_nil) ?_))
        refine s_do0 (d_storeAll Tryz.sizeOf99 rfl rfl rfl rfl rfl) ?_
        rintro _ _ rfl
        refine s_val rfl (v_assign rfl) (x_nil (n_then (x_ret (r_block (r_then (x_done (.inl rfl) (.cons (r_all Tryz.isAgg99 Tryz.sizeOf99 rfl rfl) (.cons (r_tmp rfl) .nil)) ?_))))))
        have hl : lk fr pg r at_ n wr = (zD, 2) := by unfold lk; rw [if_neg (by omega), if_pos (by omega)]
        rw [hl, if_neg (by decide)]
        exact ⟨_, ⟨rfl, rfl⟩, inferInstance⟩
      · intro c4
        refine x_skip (n_block (n_then (x_seq ?_)))
        obtain ⟨k, rfl⟩ : ∃ k : Nat, at_ = (k : Int) := ⟨at_.toNat, by omega⟩
        obtain ⟨dd, hdd⟩ : ∃ x, dsAt fr pg r k = x := ⟨_, rfl⟩
        have hok := dsAt_ok hF pg r k
        rw [hdd] at hok
        obtain ⟨rn, hrn⟩ : ∃ x : Nat, r.n = (x : Int) := ⟨r.n.toNat, by omega⟩
        refine x_region (s_val rfl (v_move rfl) (s_val rfl (v_move rfl) ?_))
        refine s_do rfl (d_call4 Tryz.call292 rfl (chRead_spec W0 _ bw pv ps pm d fr pg h hF r hr wr k (by omega))) ?_
        rintro _ B_ ⟨rfl, hB_⟩
        obtain rfl := hB_.symm
        rw [hdd]
        refine s_val rfl (v_move rfl) (s_val rfl (v_extract rfl rfl) (s_val rfl (v_extract rfl rfl) (s_do rfl (d_allocA Tryz.zeroValue99) ?_)))
        rintro _ _ ⟨bd, rfl, rfl⟩
        refine s_do0 (d_storeAll Tryz.sizeOf99 rfl rfl rfl rfl rfl) ?_
        rintro _ _ rfl
        refine s_val rfl (v_assign rfl) (x_nil (n_then (x_seq (x_seq (x_region (s_val rfl (v_move rfl) (s_val rfl (v_not rfl) (x_nil (n_then ?_)))))))))
        refine x_if rfl ?_ ?_
        · intro c7
          have ho : ownB fr.length pg (dsPa r k) 16 = false := by simpa using c7
          refine x_seq (x_region (s_val rfl (v_build Tryz.underlying99 Tryz.zeroValue99 (sized_cons Tryz.sizeOf47 (sized_cons Tryz.sizeOf47 (sized_cons Tryz.sizeOf47 (sized_cons Tryz.sizeOf47 sized_nil)))) fil_nil) ?_))
          refine s_do0 (d_storeAll Tryz.sizeOf99 rfl rfl rfl rfl rfl) ?_
          rintro _ _ rfl
          refine s_val rfl (v_assign rfl) (x_nil (n_then (x_ret (r_then (x_done (.inl rfl) (.cons (r_all Tryz.isAgg99 Tryz.sizeOf99 rfl rfl) (.cons (r_tmp rfl) .nil)) ?_)))))
          have hl : lk fr pg r k n wr = (zD, 5) := by unfold lk; rw [if_neg (by omega), if_neg (by omega), Int.toNat_natCast, if_pos ho]
          rw [hl, if_neg (by decide)]
          exact ⟨_, ⟨rfl, rfl⟩, inferInstance⟩
        · intro c7
          have ho : ¬ ownB fr.length pg (dsPa r k) 16 = false := by simpa using c7
          refine x_skip (n_then (x_seq (x_seq ?_)))
          rw [show wkO pv r wr = cob [.pointer (some ⟨pv, 0, none⟩), .int .u32 r.desc, .int .u32 r.avail, .int .u32 r.used, .int .i64 rn, .bool wr] 348 by rw [← hrn]]
          refine x_draw [(bd, 0, _), (bw, 0, _)] 8 mixed rfl (sc_own (sc_own sc_end)) (fun hS => ?_)
          refine d_take 0 rfl rfl (by kernel_rfl) (by kernel_rfl) (by kernel_rfl) rfl hS (v_loadAgg Tryz.isAgg99 Tryz.sizeOf99 rfl (by first | exact cells_sc (k := 0) rfl | exact cells_sc (k := 1) rfl) rfl) ?_
          refine d_take 1 rfl rfl (by kernel_rfl) (by kernel_rfl) (by kernel_rfl) rfl hS (v_move rfl) ?_
          refine d_take 2 rfl rfl (by kernel_rfl) (by kernel_rfl) (by kernel_rfl) rfl hS (v_nilCheck rfl) ?_
          refine d_take 3 rfl rfl (by kernel_rfl) (by kernel_rfl) (by kernel_rfl) rfl hS (v_fieldAddr rfl Tryz.underlying348 rfl Tryz.sizeOf71 rfl (by first | exact Nat.zero_add _ | rfl)) ?_
          refine d_take 4 rfl rfl (by kernel_rfl) (by kernel_rfl) (by kernel_rfl) rfl hS (v_fieldAddr rfl Tryz.underlying71 rfl Tryz.sizeOf3 rfl (by first | exact Nat.zero_add _ | rfl)) ?_
          refine d_take 5 rfl rfl (by kernel_rfl) (by kernel_rfl) (by kernel_rfl) rfl hS (v_load Tryz.isAgg3 rfl (by first | exact cell_sc0 (k := 0) rfl rfl | exact cell_sc0 (k := 1) rfl rfl)) ?_
          refine d_one 6 (by kernel_rfl) rfl rfl (d_call Tryz.call293 rfl (dsCheck_spec W0 _ dd hok rn (by omega))) rfl ?_; clear hS
          rintro _ B_ ⟨rfl, hB_⟩
          obtain rfl := hB_.symm
          refine ⟨(sc_own (sc_own sc_end)), fun hS => ?_⟩
          refine d_take 7 rfl rfl (by kernel_rfl) (by kernel_rfl) (by kernel_rfl) rfl hS (v_assign rfl) ?_
          refine d_done (by kernel_rfl) ?_; clear hS
          refine n_then (x_seq ?_)
          rw [← hrn]
          refine x_region (s_val rfl (v_move rfl) (s_val rfl (v_neq rfl rfl) (x_nil (n_then ?_))))
          refine x_if rfl ?_ ?_
          · intro c10
            refine x_seq (x_region (s_val rfl (v_build Tryz.underlying99 Tryz.zeroValue99 (sized_cons Tryz.sizeOf47 (sized_cons Tryz.sizeOf47 (sized_cons Tryz.sizeOf47 (sized_cons Tryz.sizeOf47 sized_nil)))) fil_nil) ?_))
            refine s_val rfl (v_move rfl) (s_do0 (d_storeAll Tryz.sizeOf99 rfl rfl rfl rfl rfl) ?_)
            rintro _ _ rfl
            refine s_val rfl (v_assign rfl) (x_nil (n_then (x_ret (r_then (x_done (.inl rfl) (.cons (r_all Tryz.isAgg99 Tryz.sizeOf99 rfl rfl) (.cons (r_tmp rfl) .nil)) ?_)))))
            have hl : lk fr pg r k n wr = (zD, chkC dd rn) := by unfold lk; rw [if_neg (by omega), if_neg (by omega), Int.toNat_natCast, if_neg ho, hdd, show r.n.toNat = rn by omega, if_pos c10]
            rw [hl, if_neg c10]
            exact ⟨_, ⟨rfl, rfl⟩, inferInstance⟩
          · intro c10
            refine x_skip (n_then (x_seq (x_block (x_seq ?_))))
            refine x_draw [(bw, 0, _), (bd, 0, _)] 12 mixed rfl (sc_own (sc_own sc_end)) (fun hS => ?_)
            refine d_take 0 rfl rfl (by kernel_rfl) (by kernel_rfl) (by kernel_rfl) rfl hS (v_move rfl) ?_
            refine d_take 1 rfl rfl (by kernel_rfl) (by kernel_rfl) (by kernel_rfl) rfl hS (v_nilCheck rfl) ?_
            refine d_take 2 rfl rfl (by kernel_rfl) (by kernel_rfl) (by kernel_rfl) rfl hS (v_fieldAddr rfl Tryz.underlying348 rfl Tryz.sizeOf51 rfl (by first | exact Nat.zero_add _ | rfl)) ?_
            refine d_take 3 rfl rfl (by kernel_rfl) (by kernel_rfl) (by kernel_rfl) rfl hS (v_load Tryz.isAgg51 rfl (by first | exact cell_sc0 (k := 0) rfl rfl | exact cell_sc0 (k := 1) rfl rfl)) ?_
            refine d_take 4 rfl rfl (by kernel_rfl) (by kernel_rfl) (by kernel_rfl) rfl hS (v_fieldAddr rfl Tryz.underlying99 rfl Tryz.sizeOf47 rfl (by first | exact Nat.zero_add _ | rfl)) ?_
            refine d_take 5 rfl rfl (by kernel_rfl) (by kernel_rfl) (by kernel_rfl) rfl hS (v_load Tryz.isAgg47 rfl (by first | exact cell_sc0 (k := 0) rfl rfl | exact cell_sc0 (k := 1) rfl rfl)) ?_
            refine d_take 6 rfl rfl (by kernel_rfl) (by kernel_rfl) (by kernel_rfl) rfl hS (v_fieldAddr rfl Tryz.underlying99 rfl Tryz.sizeOf47 rfl (by first | exact Nat.zero_add _ | rfl)) ?_
            refine d_take 7 rfl rfl (by kernel_rfl) (by kernel_rfl) (by kernel_rfl) rfl hS (v_load Tryz.isAgg47 rfl (by first | exact cell_sc0 (k := 0) rfl rfl | exact cell_sc0 (k := 1) rfl rfl)) ?_
            refine d_take 8 rfl rfl (by kernel_rfl) (by kernel_rfl) (by kernel_rfl) rfl hS (v_conv Tryz.underlying47 Tryz.underlying3 rfl (w64 (by have := hok.len; omega))) ?_
            refine d_one 9 (by kernel_rfl) rfl rfl (d_call3 Tryz.call132 rfl (viOwn_spec W0 _ pv ps pm d fr pg h dd.addr hok.addr dd.len)) rfl ?_; clear hS
            rintro _ B_ ⟨rfl, hB_⟩
            obtain rfl := hB_.symm
            refine ⟨(sc_own (sc_own sc_end)), fun hS => ?_⟩
            refine d_take 10 rfl rfl (by kernel_rfl) (by kernel_rfl) (by kernel_rfl) rfl hS (v_not rfl) ?_
            refine d_take 11 rfl rfl (by kernel_rfl) (by kernel_rfl) (by kernel_rfl) rfl hS (v_assign rfl) ?_
            refine d_done (by kernel_rfl) ?_; clear hS
            refine n_then ?_
            refine x_if rfl ?_ ?_
            · intro c12
              have ho2 : ownB fr.length pg dd.addr dd.len = false := by simpa using c12
              refine x_seq (x_region (s_val rfl (v_build Tryz.underlying99 Tryz.zeroValue99 (sized_cons Tryz.sizeOf47 (sized_cons Tryz.sizeOf47 (sized_cons Tryz.sizeOf47 (sized_cons Tryz.sizeOf47 sized_nil)))) fil_nil) ?_))
              refine s_do0 (d_storeAll Tryz.sizeOf99 rfl rfl rfl rfl rfl) ?_
              rintro _ _ rfl
              refine s_val rfl (v_assign rfl) (x_nil (n_then (x_ret (r_block (r_then (x_done (.inl rfl) (.cons (r_all Tryz.isAgg99 Tryz.sizeOf99 rfl rfl) (.cons (r_tmp rfl) .nil)) ?_))))))
              have hl : lk fr pg r k n wr = (zD, 5) := by unfold lk; rw [if_neg (by omega), if_neg (by omega), Int.toNat_natCast, if_neg ho, hdd, show r.n.toNat = rn by omega, if_neg c10, if_pos ho2]
              rw [hl, if_neg (by decide)]
              exact ⟨_, ⟨rfl, rfl⟩, inferInstance⟩
            · intro c12
              have ho2 : ¬ ownB fr.length pg dd.addr dd.len = false := by simpa using c12
              refine x_seq (x_region (s_val rfl (v_move rfl) (s_val rfl (v_nilCheck rfl) ?_)))
              refine s_val rfl (v_fieldAddr rfl Tryz.underlying348 rfl Tryz.sizeOf4 rfl (by first | exact Nat.zero_add _ | rfl)) ?_
              refine s_val rfl (v_load Tryz.isAgg4 rfl (cell_own rfl)) ?_
              refine s_val rfl (v_move rfl) ?_
              refine s_and rfl rfl rfl ?_ ?_
              · intro g14_5
                refine s_val rfl (v_loadAll Tryz.isAgg99 Tryz.sizeOf99 rfl rfl) ?_
                refine s_yes rfl rfl (s_do rfl (d_call Tryz.call195 rfl (chWrites_spec W0 _ dd hok)) ?_)
                rintro _ B_ ⟨rfl, hB_⟩
                obtain rfl := hB_.symm
                refine s_yes rfl rfl (s_val rfl (v_not rfl) (s_val rfl (v_pick_t rfl rfl) (s_val rfl (v_assign rfl) (x_nil (n_then ?_)))))
                refine x_if rfl ?_ ?_
                · intro c14
                  refine x_seq (x_region (s_val rfl (v_build Tryz.underlying99 Tryz.zeroValue99 (sized_cons Tryz.sizeOf47 (sized_cons Tryz.sizeOf47 (sized_cons Tryz.sizeOf47 (sized_cons Tryz.sizeOf47 sized_nil)))) fil_nil) ?_))
                  refine s_do0 (d_storeAll Tryz.sizeOf99 rfl rfl rfl rfl rfl) ?_
                  rintro _ _ rfl
                  refine s_val rfl (v_assign rfl) (x_nil (n_then (x_ret (r_block (r_then (x_done (.inl rfl) (.cons (r_all Tryz.isAgg99 Tryz.sizeOf99 rfl rfl) (.cons (r_tmp rfl) .nil)) ?_))))))
                  have hl : lk fr pg r k n wr = (zD, 6) := by unfold lk; rw [if_neg (by omega), if_neg (by omega), Int.toNat_natCast, if_neg ho, hdd, show r.n.toNat = rn by omega, if_neg c10, if_neg ho2, if_pos ⟨g14_5, by simpa using c14⟩]
                  rw [hl, if_neg (by decide)]
                  exact ⟨_, ⟨rfl, rfl⟩, inferInstance⟩
                · intro c14
                  refine x_skip (n_block (n_then (x_seq (x_region (s_val rfl (v_move rfl) (s_val rfl (v_loadAll Tryz.isAgg99 Tryz.sizeOf99 rfl rfl) ?_))))))
                  refine s_do rfl (d_call Tryz.call195 rfl (chWrites_spec W0 _ dd hok)) ?_
                  rintro _ B_ ⟨rfl, hB_⟩
                  obtain rfl := hB_.symm
                  refine s_val rfl (v_nilCheck rfl) ?_
                  refine s_val rfl (v_fieldAddr rfl Tryz.underlying348 rfl Tryz.sizeOf4 rfl (by first | exact Nat.zero_add _ | rfl)) ?_
                  refine s_do0 (d_store Tryz.sizeOf4 rfl rfl rfl (Nat.le_of_ble_eq_true rfl) SetL.eq) ?_
                  rintro _ _ rfl
                  refine x_nil (n_then (x_seq (x_region (s_val rfl (v_loadAll Tryz.isAgg99 Tryz.sizeOf99 rfl rfl) ?_))))
                  refine s_do0 (d_storeAll Tryz.sizeOf99 rfl rfl rfl rfl rfl) ?_
                  rintro _ _ rfl
                  refine s_val rfl (v_assign rfl) (x_nil (n_then (x_ret (x_done (.inl rfl) (.cons (r_all Tryz.isAgg99 Tryz.sizeOf99 rfl rfl) (.cons (r_tmp rfl) .nil)) ?_))))
                  have hl : lk fr pg r k n wr = (dd, 0) := by unfold lk; rw [if_neg (by omega), if_neg (by omega), Int.toNat_natCast, if_neg ho, hdd, show r.n.toNat = rn by omega, if_neg c10, if_neg ho2, if_neg (by rintro ⟨q1, q2⟩; first | exact g14_5 q1 | exact c14 (by rw [q2]; decide))]
                  rw [hl, if_pos rfl]
                  exact ⟨_, ⟨rfl, rfl⟩, inferInstance⟩
              · intro g14_5
                refine s_no rfl rfl rfl rfl (s_no rfl rfl rfl rfl (s_val rfl (v_pick_f rfl rfl) (s_val rfl (v_assign rfl) (x_nil (n_then (x_iff rfl (x_skip (n_block (n_then (x_seq (x_region (s_val rfl (v_move rfl) (s_val rfl (v_loadAll Tryz.isAgg99 Tryz.sizeOf99 rfl rfl) ?_)))))))))))))
                refine s_do rfl (d_call Tryz.call195 rfl (chWrites_spec W0 _ dd hok)) ?_
                rintro _ B_ ⟨rfl, hB_⟩
                obtain rfl := hB_.symm
                refine s_val rfl (v_nilCheck rfl) ?_
                refine s_val rfl (v_fieldAddr rfl Tryz.underlying348 rfl Tryz.sizeOf4 rfl (by first | exact Nat.zero_add _ | rfl)) ?_
                refine s_do0 (d_store Tryz.sizeOf4 rfl rfl rfl (Nat.le_of_ble_eq_true rfl) SetL.eq) ?_
                rintro _ _ rfl
                refine x_nil (n_then (x_seq (x_region (s_val rfl (v_loadAll Tryz.isAgg99 Tryz.sizeOf99 rfl rfl) ?_))))
                refine s_do0 (d_storeAll Tryz.sizeOf99 rfl rfl rfl rfl rfl) ?_
                rintro _ _ rfl
                refine s_val rfl (v_assign rfl) (x_nil (n_then (x_ret (x_done (.inl rfl) (.cons (r_all Tryz.isAgg99 Tryz.sizeOf99 rfl rfl) (.cons (r_tmp rfl) .nil)) ?_))))
                have hl : lk fr pg r k n wr = (dd, 0) := by unfold lk; rw [if_neg (by omega), if_neg (by omega), Int.toNat_natCast, if_neg ho, hdd, show r.n.toNat = rn by omega, if_neg c10, if_neg ho2, if_neg (by rintro ⟨q1, q2⟩; first | exact g14_5 q1 | exact c14 (by rw [q2]; decide))]
                rw [hl, if_pos rfl]
                exact ⟨_, ⟨rfl, rfl⟩, inferInstance⟩
end Go.Proofs.YtlnmofhehcilhaaGreat
namespace Go.Proofs.YtlnmofhehcilhaaGreat
open Go.RowKit
set_option linter.unusedSimpArgs false
set_option linter.unusedVariables false
set_option maxRecDepth 20000
abbrev WkS := Int × Bool × List Dsc
def lkS (fr : List Frm) (pg : List Pl) (r : Rg3) (n : Nat) (x : WkS) : Dsc × Int := lk fr pg r x.1 n x.2.1
def wkSt (fr : List Frm) (pg : List Pl) (r : Rg3) (head : Int) : Nat → WkS
  | 0 => (head, false, [])
  | n + 1 => let d := (lkS fr pg r n (wkSt fr pg r head n)).1; ((d.next : Int), wrB d, (wkSt fr pg r head n).2.2 ++ [d])
abbrev lkN (fr : List Frm) (pg : List Pl) (r : Rg3) (head : Int) (n : Nat) : Dsc × Int := lkS fr pg r n (wkSt fr pg r head n)
def alive (fr : List Frm) (pg : List Pl) (r : Rg3) (head : Int) (n : Nat) : Prop := ∀ m, m < n → (lkN fr pg r head m).2 = 0 ∧ goB (lkN fr pg r head m).1 = true
theorem alive.succ {fr : List Frm} {pg : List Pl} {r : Rg3} {head : Int} {n : Nat} (h : alive fr pg r head n) (h1 : (lkN fr pg r head n).2 = 0) (h2 : goB (lkN fr pg r head n).1 = true) : alive fr pg r head (n + 1) := fun m hm => by
  rcases Nat.lt_or_ge m n with q | q
  · exact h m q
  · rw [show m = n by omega]; exact ⟨h1, h2⟩
theorem alive.le {fr : List Frm} {pg : List Pl} {r : Rg3} {head : Int} {n : Nat} (h : alive fr pg r head n) (h8 : 0 ≤ r.n ∧ r.n ≤ 8) : n ≤ 8 := by
  rcases Nat.eq_zero_or_pos n with q | q
  · omega
  · have := lk_n (h (n - 1) (by omega)).1; omega
theorem wkSt_len (fr : List Frm) (pg : List Pl) (r : Rg3) (head : Int) : ∀ n, (wkSt fr pg r head n).2.2.length = n
  | 0 => rfl
  | n + 1 => by rw [wkSt]; simp [wkSt_len fr pg r head n]
def wkGo (fr : List Frm) (pg : List Pl) (r : Rg3) (head : Int) : Nat → Nat → List Dsc × Int
  | 0, _ => ([], 2)
  | f + 1, n => if (lkN fr pg r head n).2 ≠ 0 then ([], (lkN fr pg r head n).2) else if goB (lkN fr pg r head n).1 then wkGo fr pg r head f (n + 1) else ((wkSt fr pg r head (n + 1)).2.2, 0)
def wkAll (fr : List Frm) (pg : List Pl) (r : Rg3) (head : Int) : List Dsc × Int := if rgtB r then wkGo fr pg r head 9 0 else ([], 5)
theorem wkGo_alive {fr : List Frm} {pg : List Pl} {r : Rg3} {head : Int} : ∀ n k, alive fr pg r head n → n ≤ k → wkGo fr pg r head k 0 = wkGo fr pg r head (k - n) n
  | 0, k, _, _ => rfl
  | n + 1, k, h, hk => by
    rw [wkGo_alive n k (fun m hm => h m (by omega)) (by omega)]
    obtain ⟨h1, h2⟩ := h n (by omega)
    obtain ⟨j, hj⟩ : ∃ j, k - n = j + 1 := ⟨k - n - 1, by omega⟩
    rw [hj, wkGo, if_neg (by rw [h1]; decide), if_pos h2, show k - (n + 1) = j by omega]
theorem wkGo_stop {fr : List Frm} {pg : List Pl} {r : Rg3} {head : Int} {n : Nat} (h : alive fr pg r head n) (h8 : n ≤ 8) (hc : (lkN fr pg r head n).2 ≠ 0) : wkGo fr pg r head 9 0 = ([], (lkN fr pg r head n).2) := by
  rw [wkGo_alive n 9 h (by omega)]
  obtain ⟨j, hj⟩ : ∃ j, 9 - n = j + 1 := ⟨9 - n - 1, by omega⟩
  rw [hj, wkGo, if_pos hc]
theorem wkGo_end {fr : List Frm} {pg : List Pl} {r : Rg3} {head : Int} {n : Nat} (h : alive fr pg r head n) (h8 : n ≤ 8) (hc : (lkN fr pg r head n).2 = 0) (hg : goB (lkN fr pg r head n).1 = false) : wkGo fr pg r head 9 0 = ((wkSt fr pg r head (n + 1)).2.2, 0) := by
  rw [wkGo_alive n 9 h (by omega)]
  obtain ⟨j, hj⟩ : ∃ j, 9 - n = j + 1 := ⟨9 - n - 1, by omega⟩
  rw [hj, wkGo, if_neg (by rw [hc]; decide), if_neg (by rw [hg]; decide)]
theorem chFollow1_spec (W0 : World) (L bh bwb bw pv ps pm d : Nat) (fr : List Frm) (pg : List Pl) (h : Pgs pg) (hF : Frs fr) (r : Rg3) (hr : r.ok) (hn8 : 0 ≤ r.n ∧ r.n ≤ 8) (head : Int) (Cc : Nat → List HP) (Stop : Nat → List HP → Prop)
    (hrd : ∀ n R', alive fr pg r head n → n ≤ 8 → Rounds Tryz.prog W0 L [.agg (dsV (lkN fr pg r head n).1).toArray, .int .i64 (lkN fr pg r head n).2] (Cc n ++ R')
      (fun v B => ∃ b B', v = .bool b ∧ B = B' ++ R' ∧ ((b = true ∧ (lkN fr pg r head n).2 = 0 ∧ B' = Cc (n + 1)) ∨ (b = false ∧ Stop n B')))) :
    Spec Tryz.prog W0 285 [.func (.yield L) #[] #[], .pointer (some ⟨bh, 0, none⟩), .pointer (some ⟨bwb, 0, none⟩)]
      (pt bh (cob [.int .i64 head] 3) :: pt bwb (cob [.pointer (some ⟨bw, 0, none⟩)] 346) :: pt bw (wkO pv r false) :: vw pv ps pm d fr pg (Cc 0))
      (fun v B => v = .tuple #[] ∧ ((∃ n, alive fr pg r head n ∧ (lkN fr pg r head n).2 = 0 ∧ goB (lkN fr pg r head n).1 = false ∧ B = vw pv ps pm d fr pg (Cc (n + 1))) ∨ (∃ n B', alive fr pg r head n ∧ Stop n B' ∧ B = vw pv ps pm d fr pg B'))) := by
  refine spec_body Tryz.func285 Tryz.ntmps285 rfl rfl ?_
  refine x_seq (x_region (s_val rfl (v_load Tryz.isAgg3 rfl (cell_own rfl)) ?_))
  refine s_val rfl (v_assign rfl) (x_nil (n_then (x_seq (x_region (s_val rfl (v_assign rfl) (x_nil (n_then (x_block ?_))))))))
  refine x_loop (fun n : Nat => alive fr pg r head n) (fun n => [(0, .func (.yield L) #[] #[]), (2, .pointer (some ⟨bwb, 0, none⟩)), (4, .int .i64 (wkSt fr pg r head n).1), (5, .int .i64 n)]) (fun n => pt bwb (cob [.pointer (some ⟨bw, 0, none⟩)] 346) :: pt bw (wkO pv r (wkSt fr pg r head n).2.1) :: vw pv ps pm d fr pg (Cc n)) (fun n => 9 - n) 0 ?_ ?_ ?_ ?_
  · exact fun m hm => by omega
  · repeat (first | exact sub_nil | refine sub_cons rfl ?_)
  · simp only [wkSt]; exact inferInstance
  · intro n hal
    have hn := hal.le hn8
    have hdok := lk_ok hF pg r (wkSt fr pg r head n).1 n (wkSt fr pg r head n).2.1
    refine x_seq (x_block (x_seq (x_region (s_val rfl (v_load Tryz.isAgg346 rfl (cell_own rfl)) ?_))))
    refine s_val rfl (v_move rfl) (s_val rfl (v_move rfl) (s_do rfl (d_call4 Tryz.call286 rfl (chLook_spec W0 _ bw pv ps pm d fr pg h hF r hr hn8.2 (wkSt fr pg r head n).2.1 (wkSt fr pg r head n).1 n)) ?_))
    rintro _ B_ ⟨rfl, hB_⟩
    obtain rfl := hB_.symm
    refine s_val rfl (v_move rfl) (s_val rfl (v_extract rfl rfl) (s_val rfl (v_extract rfl rfl) (s_do rfl (d_allocA Tryz.zeroValue99) ?_)))
    rintro _ _ ⟨b1, rfl, rfl⟩
    refine s_do0 (d_storeAll Tryz.sizeOf99 rfl rfl rfl rfl rfl) ?_
    rintro _ _ rfl
    refine s_val rfl (v_assign rfl) (x_nil (n_then (x_seq (x_seq (x_region (s_val rfl (v_move rfl) (s_val rfl (v_loadAll Tryz.isAgg99 Tryz.sizeOf99 rfl rfl) ?_)))))))
    refine s_val rfl (v_move rfl) (s_yield rfl rfl rfl (rounds_perm (List.perm_append_comm (l₁ := [_, _, _, _, _, _])) (hrd n [_, _, _, _, _, _] hal hn)) ?_)
    rintro _ B_ ⟨b, B', rfl, hB_, hb⟩
    obtain rfl := hB_.symm
    refine run_perm List.perm_append_comm ?_
    simp only [List.cons_append, List.nil_append]
    refine s_val rfl (v_not rfl) (s_val rfl (v_move rfl) ?_)
    refine s_or rfl rfl rfl ?_ ?_
    · intro g4_6
      have hs : Stop n B' := by
        rcases hb with q | q
        · exact absurd q.1 g4_6
        · exact q.2
      refine s_no rfl rfl rfl rfl (s_val rfl (v_pick_t rfl rfl) (s_val rfl (v_move rfl) (s_no rfl rfl rfl rfl (s_no rfl rfl rfl rfl (s_no rfl rfl rfl rfl (s_val rfl (v_pick_t rfl rfl) (x_nil (n_then (x_ift rfl (x_ret (r_then (r_block (r_then (r_then (r_block (x_done (.inl rfl) .nil ?_))))))))))))))))
      first
        | exact ⟨_, ⟨rfl, .inr ⟨n, B', hal, hs, rfl⟩⟩, inferInstance⟩
        | exact ⟨_, ⟨rfl, .inl ⟨n, hal, hc, by simpa using c4, rfl⟩⟩, inferInstance⟩
    · intro g4_6
      have hs : (lkN fr pg r head n).2 = 0 ∧ B' = Cc (n + 1) := by
        rcases hb with q | q
        · exact q.2
        · exact absurd (by rw [q.1]; decide) g4_6
      obtain ⟨hc, rfl⟩ := hs
      refine s_val rfl (v_move rfl) (s_yes rfl rfl (s_val rfl (v_neq rfl rfl) (s_val rfl (v_pick_f rfl rfl) (s_val rfl (v_move rfl) ?_))))
      refine s_or rfl rfl rfl ?_ ?_
      · intro g4_10
        exact absurd hc g4_10
      · intro g4_10
        refine s_val rfl (v_loadAll Tryz.isAgg99 Tryz.sizeOf99 rfl rfl) ?_
        refine s_yes rfl rfl (s_do rfl (d_call Tryz.call287 rfl (chGoes_spec W0 _ (lkN fr pg r head n).1 hdok)) ?_)
        rintro _ B_ ⟨rfl, hB_⟩
        obtain rfl := hB_.symm
        refine s_yes rfl rfl (s_val rfl (v_not rfl) (s_val rfl (v_pick_f rfl rfl) (x_nil (n_then ?_))))
        refine x_if rfl ?_ ?_
        · intro c4
          refine x_ret (r_then (r_block (r_then (r_then (r_block (x_done (.inl rfl) .nil ?_))))))
          first
            | exact ⟨_, ⟨rfl, .inr ⟨n, B', hal, hs, rfl⟩⟩, inferInstance⟩
            | exact ⟨_, ⟨rfl, .inl ⟨n, hal, hc, by simpa using c4, rfl⟩⟩, inferInstance⟩
        · intro c4
          refine x_skip (n_then ?_)
          have hgo : goB (lkN fr pg r head n).1 = true := by simpa using c4
          have hsucc := hal.succ hc hgo
          have hlt := lk_n hc
          refine x_region ?_
          refine s_val rfl (v_fieldAddr rfl Tryz.underlying99 rfl Tryz.sizeOf47 rfl (by first | exact Nat.zero_add _ | rfl)) ?_
          refine s_val rfl (v_load Tryz.isAgg47 rfl (cell_own rfl)) ?_
          refine s_val rfl (v_conv Tryz.underlying47 Tryz.underlying3 rfl (w64 (by have := hdok.next; omega))) ?_
          refine s_val rfl (v_assign rfl) (x_nil (n_block (n_then (x_region (s_val rfl (v_move rfl) ?_)))))
          refine s_val rfl (v_add rfl rfl (by first | exact w64 (by omega) | rfl)) ?_
          refine s_val rfl (v_assign rfl) (x_nil (n_then ?_))
          refine inv_intro (n + 1) ?_ ?_ ?_ ?_
          · exact hsucc
          · omega
          · repeat (first | exact sub_nil | refine sub_cons rfl ?_)
          · have e2 : (lk fr pg r (wkSt fr pg r head n).1 n (wkSt fr pg r head n).2.1).2 = 0 := hc
            rw [if_pos e2]
            show Ent _ (pt bwb (cob [.pointer (some ⟨bw, 0, none⟩)] 346) :: pt bw (wkO pv r (wrB (lk fr pg r (wkSt fr pg r head n).1 n (wkSt fr pg r head n).2.1).1)) :: vw pv ps pm d fr pg (Cc (n + 1)))
            exact inferInstance
theorem chFollow_spec (W0 : World) (R : List HP) (bw : Nat) (head : Int) : Spec Tryz.prog W0 262 [.pointer (some ⟨bw, 0, none⟩), .int .i64 head] R
    (fun v B => ∃ bh bwb, v = .func (.func 285) #[] #[.pointer (some ⟨bh, 0, none⟩), .pointer (some ⟨bwb, 0, none⟩)] ∧ B = pt bh (cob [.int .i64 head] 3) :: pt bwb (cob [.pointer (some ⟨bw, 0, none⟩)] 346) :: R) := by
  refine spec_body Tryz.func262 Tryz.ntmps262 rfl rfl ?_
  refine x_seq (x_region (s_do rfl (d_box rfl rfl) ?_))
  rintro _ _ ⟨b1, rfl, rfl⟩
  refine s_do rfl (d_box rfl rfl) ?_
  rintro _ _ ⟨b2, rfl, rfl⟩
  refine s_val rfl (v_assign rfl) (x_nil (n_then (x_seq (x_region (s_val rfl (v_mkFunc rfl rfl) ?_)))))
  refine s_val rfl (v_assign rfl) (x_nil (n_then (x_ret (x_done (.inl rfl) (.cons (r_tmp rfl) .nil) ?_))))
  exact ⟨_, ⟨b2, b1, rfl, rfl⟩, inferInstance⟩
theorem follow_range {W0 : World} {A : List HP} {e : Env} {n' L D bh bwb bw pv ps pm d : Nat} {ps' : Array Tmp} {asg body : Code} {Go Stop : List HP → Prop} (fr : List Frm) (pg : List Pl) (h : Pgs pg) (hF : Frs fr) (r : Rg3) (hr : r.ok) (hn8 : 0 ≤ r.n ∧ r.n ≤ 8) (head : Int) (Ct : Nat → List HP) (St : Nat → List HP → Prop)
    (hp : Ent A (pt bh (cob [.int .i64 head] 3) :: pt bwb (cob [.pointer (some ⟨bw, 0, none⟩)] 346) :: pt bw (wkO pv r false) :: vw pv ps pm d fr pg (Ct 0)))
    (hgo : ∀ n, alive fr pg r head n → (lkN fr pg r head n).2 = 0 → goB (lkN fr pg r head n).1 = false → Go (vw pv ps pm d fr pg (Ct (n + 1))))
    (hst : ∀ n B', alive fr pg r head n → St n B' → Stop (vw pv ps pm d fr pg B'))
    (hrd : ∀ n R', alive fr pg r head n → n ≤ 8 → Rounds Tryz.prog W0 L [.agg (dsV (lkN fr pg r head n).1).toArray, .int .i64 (lkN fr pg r head n).2] (recH L ⟨e, n', ps', asg, body, .ready, none, D⟩ :: pt D (.deferred (some [])) :: (Ct n ++ R'))
      (fun v B => (v = .bool true ∧ (lkN fr pg r head n).2 = 0 ∧ B = recH L ⟨e, n', ps', asg, body, .ready, none, D⟩ :: pt D (.deferred (some [])) :: (Ct (n + 1) ++ R')) ∨
        (v = .bool false ∧ ∃ B', St n B' ∧ B = recH L ⟨e, n', ps', asg, body, .done, some (.exit 0), D⟩ :: pt D (.deferred (some [])) :: (B' ++ R')))) :
    Spec Tryz.prog W0 285 (.func (.yield L) #[] #[] :: [.pointer (some ⟨bh, 0, none⟩), .pointer (some ⟨bwb, 0, none⟩)]) (recH L ⟨e, n', ps', asg, body, .ready, none, D⟩ :: pt D (.deferred (some [])) :: A)
      (fun _ B => (∃ C, B = recH L ⟨e, n', ps', asg, body, .ready, none, D⟩ :: pt D (.deferred (some [])) :: C ∧ Go C) ∨ (∃ C, B = recH L ⟨e, n', ps', asg, body, .done, some (.exit 0), D⟩ :: pt D (.deferred (some [])) :: C ∧ Stop C)) := by
  refine spec_ent ((Ent.cons (Ent.cons hp)).trans (inferInstance : Ent _ (pt bh (cob [.int .i64 head] 3) :: pt bwb (cob [.pointer (some ⟨bw, 0, none⟩)] 346) :: pt bw (wkO pv r false) :: vw pv ps pm d fr pg (recH L ⟨e, n', ps', asg, body, .ready, none, D⟩ :: pt D (.deferred (some [])) :: Ct 0)))) ?_
  refine spec_post (chFollow1_spec W0 L bh bwb bw pv ps pm d fr pg h hF r hr hn8 head (fun n => recH L ⟨e, n', ps', asg, body, .ready, none, D⟩ :: pt D (.deferred (some [])) :: Ct n) (fun n B => ∃ B', St n B' ∧ B = recH L ⟨e, n', ps', asg, body, .done, some (.exit 0), D⟩ :: pt D (.deferred (some [])) :: B') fun n R' hal hn w hO => ?_) ?_
  · obtain ⟨f, tmps, as_, bd, hy, hR⟩ := hrd n R' hal hn w hO
    refine ⟨f, tmps, as_, bd, hy, RoundIn.mono hR ?_⟩
    rintro _ w' ⟨v, B, rfl, hB, hO'⟩
    rcases hB with ⟨rfl, hc, rfl⟩ | ⟨rfl, B', hS, rfl⟩
    · exact ⟨_, _, rfl, ⟨true, _, rfl, rfl, .inl ⟨rfl, hc, rfl⟩⟩, hO'⟩
    · exact ⟨_, _, rfl, ⟨false, recH L ⟨e, n', ps', asg, body, .done, some (.exit 0), D⟩ :: pt D (.deferred (some [])) :: B', rfl, rfl, .inr ⟨rfl, B', hS, rfl⟩⟩, hO'⟩
  · rintro v B ⟨_, ⟨n, h1, h2, h3, rfl⟩ | ⟨n, _, h1, ⟨B', hS, rfl⟩, rfl⟩⟩
    · exact ⟨_, .inl ⟨_, rfl, hgo n h1 h2 h3⟩, inferInstance⟩
    · exact ⟨_, .inr ⟨_, rfl, hst n B' h1 hS⟩, inferInstance⟩
def osH (b : Nat) (l : List Dsc) : HP := chk (fun C => ∃ a c, C = [pt b (cob [.slice a l.length c] 43), osl 99 4 (.slice a l.length c) (l.flatMap dsV)])
section
variable {W0 : World} {N : FSz} {K : Act → World → Prop} {e : Env} {A R R1 R2 : List HP} {b n c : Nat} {l : List Dsc} {a : Option Addr} {ys : List Value}
theorem run_osH [hk : Tk osH b A l R] (h : ∀ a c, Run W0 N K e (pt b (cob [.slice a l.length c] 43) :: osl 99 4 (.slice a l.length c) (l.flatMap dsV) :: R)) : Run W0 N K e A :=
  run_tk (r := osH) (b := b) (run_chk fun C hC => by obtain ⟨a, c, rfl⟩ := hC; exact h a c)
theorem run_inOsH (l : List Dsc) [h1 : Tk pt b A (cob [.slice a n c] 43) R1] [h2 : Tk (osl 99 4) (.slice a n c) R1 ys R] (hn : n = l.length) (hy : ys = l.flatMap dsV) (k : Run W0 N K e (osH b l :: R)) : Run W0 N K e A := by
  subst hn; subst hy
  exact run_ent ((Ent.ofPerm (h1.perm.trans (h2.perm.cons _))).trans (ent_chk (R := R) (C := [_, _]) ⟨a, c, rfl⟩)) k
theorem run_newOsH [h1 : Tk pt b A (cob [.slice none 0 0] 43) R] (k : Run W0 N K e (osH b [] :: R)) : Run W0 N K e A :=
  run_ent ((Ent.ofPerm h1.perm).trans ((Ent.cons (ent_osl_nil (E := 99) (sz := 4) (B := R))).trans (ent_chk (R := R) (C := [pt b (cob [.slice none 0 0] 43), osl 99 4 (.slice none 0 0) []]) ⟨none, 0, rfl⟩))) k
end
theorem chWalk_spec (W0 : World) (R : List HP) (pv ps pm d : Nat) (fr : List Frm) (pg : List Pl) (h : Pgs pg) (hF : Frs fr) (r : Rg3) (hr : r.ok) (head : Int) :
    Spec Tryz.prog W0 210 [.pointer (some ⟨pv, 0, none⟩), .agg (rgV r).toArray, .int .i64 head] (vw pv ps pm d fr pg R)
      (fun v B => ∃ a c, v = .tuple #[.slice a (wkAll fr pg r head).1.length c, .int .i64 (wkAll fr pg r head).2] ∧ B = osl 99 4 (.slice a (wkAll fr pg r head).1.length c) ((wkAll fr pg r head).1.flatMap dsV) :: vw pv ps pm d fr pg R) := by
  refine spec_body Tryz.func210 Tryz.ntmps210 rfl rfl ?_
  refine x_seq (x_region (s_do rfl (d_boxA rfl) ?_))
  rintro _ _ ⟨b1, rfl, rfl⟩
  refine s_val rfl (v_assign rfl) (s_val rfl (v_assign rfl) (x_nil (n_then (x_scope (x_seq (x_seq (x_region (s_val rfl (v_loadAll Tryz.isAgg71 Tryz.sizeOf71 rfl rfl) ?_))))))))
  refine s_do rfl (d_call Tryz.call245 rfl (dsRight_spec W0 _ r)) ?_
  rintro _ B_ ⟨rfl, hB_⟩
  obtain rfl := hB_.symm
  refine s_val rfl (v_not rfl) (x_nil (n_then ?_))
  refine x_if rfl ?_ ?_
  · intro c1
    refine x_seq (x_region (s_val rfl (v_assign rfl) (s_val rfl (v_assign rfl) (x_nil (n_then (x_ret (r_then (r_scope (x_done (.inl rfl) (.cons (r_tmp rfl) (.cons (r_tmp rfl) .nil)) ?_)))))))))
    have hw : wkAll fr pg r head = ([], 5) := by rw [wkAll, if_neg c1]
    rw [hw]
    exact ⟨_, ⟨none, 0, rfl, rfl⟩, ent_osl_nil⟩
  · intro c1
    have hri : rgtB r = true := Decidable.not_not.1 c1
    have hn8 : 0 ≤ r.n ∧ r.n ≤ 8 := by simp only [rgtB, szd, Bool.and_eq_true, decide_eq_true_iff] at hri; omega
    have hw : wkAll fr pg r head = wkGo fr pg r head 9 0 := by rw [wkAll, if_pos hri]
    refine x_skip (n_then (x_seq (x_region (s_val rfl (v_move rfl) (s_val rfl (v_loadAll Tryz.isAgg71 Tryz.sizeOf71 rfl rfl) ?_)))))
    refine s_val rfl (v_build Tryz.underlying348 Tryz.zeroValue348 (sized_cons Tryz.sizeOf51 (sized_cons Tryz.sizeOf71 (sized_cons Tryz.sizeOf4 sized_nil))) (fil_scal rfl Tryz.sizeOf51 rfl rfl (Nat.le_of_ble_eq_true rfl) SetL.eq (fil_agg rfl Tryz.sizeOf71 rfl rfl (Nat.le_of_ble_eq_true rfl) SetRL.eq fil_nil))) ?_
    refine s_do rfl (d_boxA rfl) ?_
    rintro _ _ ⟨b2, rfl, rfl⟩
    refine s_val rfl (v_assign rfl) (x_nil (n_then (x_seq (x_region (s_do rfl (d_alloc Tryz.zeroValue43 rfl) ?_)))))
    rintro _ _ ⟨b3, rfl, rfl⟩
    refine x_nil (n_then (x_seq (x_region (s_do rfl (d_alloc Tryz.zeroValue3 rfl) ?_))))
    rintro _ _ ⟨b4, rfl, rfl⟩
    refine s_do0 (d_store Tryz.sizeOf3 rfl rfl rfl (Nat.le_of_ble_eq_true rfl) SetL.eq) ?_
    rintro _ _ rfl
    refine x_nil (n_then (x_seq (x_label (n_then (x_seq (x_seq (x_region (s_val rfl (v_move rfl) (s_val rfl (v_move rfl) (s_do rfl (d_call Tryz.call262 rfl (chFollow_spec W0 _ b2 head)) ?_))))))))))
    rintro _ B_ ⟨bh, bwb, rfl, hB_⟩
    obtain rfl := hB_.symm
    refine run_newOsH (b := b3) ?_
    refine x_nil (n_then (x_block ?_))
    refine x_rangeFuncE 0 (fun C => ∃ n, alive fr pg r head n ∧ (lkN fr pg r head n).2 = 0 ∧ goB (lkN fr pg r head n).1 = false ∧ C = vw pv ps pm d fr pg (osH b3 (wkSt fr pg r head (n + 1)).2.2 :: pt b4 (cob [.int .i64 0] 3) :: R)) (fun C => ∃ n, alive fr pg r head n ∧ (lkN fr pg r head n).2 ≠ 0 ∧ C = vw pv ps pm d fr pg (osH b3 (wkSt fr pg r head n).2.2 :: pt b4 (cob [.int .i64 (lkN fr pg r head n).2] 3) :: R)) rfl Tryz.call285 ?_ ?_ ?_
    · intro L D
      refine follow_range (bw := b2) (pv := pv) (ps := ps) (pm := pm) (d := d) fr pg h hF r hr hn8 head (fun n => osH b3 (wkSt fr pg r head n).2.2 :: pt b4 (cob [.int .i64 0] 3) :: R) (fun n B => (lkN fr pg r head n).2 ≠ 0 ∧ B = osH b3 (wkSt fr pg r head n).2.2 :: pt b4 (cob [.int .i64 (lkN fr pg r head n).2] 3) :: R) (by simp only [wkSt]; exact inferInstance) (fun n h1 h2 h3 => ⟨n, h1, h2, h3, rfl⟩) (fun n B h1 h2 => ⟨n, h1, h2.1, by rw [h2.2]⟩) ?_
      intro n R' hal hn
      simp only [List.cons_append, List.nil_append]
      refine rounds_intro rfl rfl ?_
      refine x_seq (x_region (s_do rfl (d_allocA Tryz.zeroValue99) ?_))
      rintro _ _ ⟨bd, rfl, rfl⟩
      refine s_do0 (d_storeAll Tryz.sizeOf99 rfl rfl rfl rfl rfl) ?_
      rintro _ _ rfl
      refine x_nil (n_then (x_region (s_val rfl (v_assign rfl) (x_nil (n_begin rfl ?_)))))
      refine x_block (x_seq (x_seq (x_region (s_val rfl (v_move rfl) (s_val rfl (v_neq rfl rfl) (x_nil (n_then ?_)))))))
      refine x_if rfl ?_ ?_
      · intro c9
        refine x_seq (x_region (s_val rfl (v_move rfl) (s_do0 (d_store Tryz.sizeOf3 rfl rfl rfl (Nat.le_of_ble_eq_true rfl) SetL.eq) ?_)))
        rintro _ _ rfl
        refine x_nil (n_then (x_exit (e_then (e_block_ne rfl (r_exit ?_)))))
        exact ⟨_, .inr ⟨rfl, _, ⟨c9, rfl⟩, rfl⟩, by simp only [List.cons_append]; exact inferInstance⟩
      · intro c9
        refine x_skip (n_then ?_)
        have hc : (lkN fr pg r head n).2 = 0 := Decidable.not_not.1 c9
        have hlen := wkSt_len fr pg r head n
        refine run_osH (b := b3) fun a c => ?_
        refine x_region (s_val rfl (v_load Tryz.isAgg43 rfl (cell_own rfl)) ?_)
        refine s_val rfl (v_loadAll Tryz.isAgg99 Tryz.sizeOf99 rfl rfl) ?_
        refine s_do rfl (d_sliceAgg Tryz.underlying43 Tryz.sizeOf99 Tryz.zeroValue99 rfl (elsK_cons rfl rfl elsK_nil) rfl (by decide) (by decide) (by decide)) ?_
        rintro _ _ ⟨b6, rfl, rfl⟩
        refine s_do rfl (d_append (sz := 4) (by_ := 16) (info := Tryz.t99) Tryz.underlying43 (by kernel_rfl) rfl rfl rfl rfl (by decide) rfl rfl cells_all rfl rfl (by simp only [maxLen]; omega) (by omega)) ?_
        rintro _ _ ⟨a1, c1, rfl, rfl⟩
        refine s_do0 (d_store Tryz.sizeOf43 rfl rfl rfl (Nat.le_of_ble_eq_true rfl) SetL.eq) ?_
        rintro _ _ rfl
        refine x_nil (n_block ?_)
        refine run_inOsH (b := b3) (wkSt fr pg r head (n + 1)).2.2 (by rw [wkSt]; simp) (by rw [wkSt]; simp) ?_
        refine r_go ?_
        exact ⟨_, .inl ⟨rfl, hc, rfl⟩, inferInstance⟩
    · intro D C hC
      obtain ⟨n, hal, hc, hg, rfl⟩ := hC
      have hres := wkGo_end hal (hal.le hn8) hc hg
      refine n_block (n_then (x_seq (x_seq (x_region (s_val rfl (v_load Tryz.isAgg3 rfl (cell_own rfl)) ?_)))))
      refine s_val rfl (v_neq rfl rfl) (x_nil (n_then ?_))
      refine x_if rfl ?_ ?_
      · intro c12
        refine x_seq ?_
        refine x_draw [(b4, 0, _)] 3 mixed rfl (sc_own sc_end) (fun hS => ?_)
        refine d_take 0 rfl rfl (by kernel_rfl) (by kernel_rfl) (by kernel_rfl) rfl hS (v_load Tryz.isAgg3 rfl (cell_sc0 (k := 0) rfl rfl)) ?_
        refine d_take 1 rfl rfl (by kernel_rfl) (by kernel_rfl) (by kernel_rfl) rfl hS (v_assign rfl) ?_
        refine d_take 2 rfl rfl (by kernel_rfl) (by kernel_rfl) (by kernel_rfl) rfl hS (v_assign rfl) ?_
        refine d_done (by kernel_rfl) ?_; clear hS
        refine n_then (x_ret (r_then (r_scope (x_doneM (.inl rfl) (.cons (r_tmp rfl) (.cons (r_tmp rfl) .nil)) ?_))))
        first
          | exact absurd rfl c12
          | (rw [hw, hres]; exact ⟨_, ⟨none, 0, rfl, rfl⟩, ent_osl_nil⟩)
      · intro c12
        refine x_skip (n_then (x_seq ?_))
        refine run_osH (b := b3) fun a c => ?_
        refine x_region (s_val rfl (v_load Tryz.isAgg43 rfl (cell_own rfl)) ?_)
        refine s_val rfl (v_assign rfl) (s_val rfl (v_assign rfl) (x_nil (n_then (x_ret (r_scope (x_doneM (.inl rfl) (.cons (r_tmp rfl) (.cons (r_tmp rfl) .nil)) ?_))))))
        first
          | exact absurd (Decidable.not_not.1 c12) hc
          | (rw [hw, hres]; exact ⟨_, ⟨a, c, rfl, rfl⟩, inferInstance⟩)
    · intro D C hC
      obtain ⟨n, hal, hc, rfl⟩ := hC
      have hres := wkGo_stop hal (hal.le hn8) hc
      refine e_block (n_then (x_seq (x_seq (x_region (s_val rfl (v_load Tryz.isAgg3 rfl (cell_own rfl)) ?_)))))
      refine s_val rfl (v_neq rfl rfl) (x_nil (n_then ?_))
      refine x_if rfl ?_ ?_
      · intro c12
        refine x_seq ?_
        refine x_draw [(b4, 0, _)] 3 mixed rfl (sc_own sc_end) (fun hS => ?_)
        refine d_take 0 rfl rfl (by kernel_rfl) (by kernel_rfl) (by kernel_rfl) rfl hS (v_load Tryz.isAgg3 rfl (cell_sc0 (k := 0) rfl rfl)) ?_
        refine d_take 1 rfl rfl (by kernel_rfl) (by kernel_rfl) (by kernel_rfl) rfl hS (v_assign rfl) ?_
        refine d_take 2 rfl rfl (by kernel_rfl) (by kernel_rfl) (by kernel_rfl) rfl hS (v_assign rfl) ?_
        refine d_done (by kernel_rfl) ?_; clear hS
        refine n_then (x_ret (r_then (r_scope (x_doneM (.inl rfl) (.cons (r_tmp rfl) (.cons (r_tmp rfl) .nil)) ?_))))
        first
          | exact absurd rfl c12
          | (rw [hw, hres]; exact ⟨_, ⟨none, 0, rfl, rfl⟩, ent_osl_nil⟩)
      · intro c12
        refine x_skip (n_then (x_seq ?_))
        refine run_osH (b := b3) fun a c => ?_
        refine x_region (s_val rfl (v_load Tryz.isAgg43 rfl (cell_own rfl)) ?_)
        refine s_val rfl (v_assign rfl) (s_val rfl (v_assign rfl) (x_nil (n_then (x_ret (r_scope (x_doneM (.inl rfl) (.cons (r_tmp rfl) (.cons (r_tmp rfl) .nil)) ?_))))))
        first
          | exact absurd (Decidable.not_not.1 c12) hc
          | (rw [hw, hres]; exact ⟨_, ⟨a, c, rfl, rfl⟩, inferInstance⟩)
end Go.Proofs.YtlnmofhehcilhaaGreat
namespace Go.Proofs.YtlnmofhehcilhaaGreat
open Go.RowKit
set_option linter.unusedSimpArgs false
set_option linter.unusedVariables false
set_option maxRecDepth 20000
def inH (p : Value × Frm) : HP := osl 5 1 p.1 (byV p.2)
def rstoH (qs : Nat) (fr : List Frm) : HP := chk (fun C => ∃ a c, ∃ vs : List Value, vs.length = fr.length ∧ C = pt qs (cob [.slice a fr.length c] 82) :: osl 44 1 (.slice a fr.length c) vs :: (vs.zip fr).map inH)
section
variable {P : Program} {W0 : World} {N : FSz} {K : Act → World → Prop} {e : Env} {A B R R1 R2 : List HP} {qs g n : Nat} {fr : List Frm} {f : FuncId} {args : List Value} {Post : Value → List HP → Prop} {l : List Value}
theorem run_rsto [hk : Tk rstoH qs A fr R] (h : ∀ a c vs, vs.length = fr.length → Run W0 N K e (pt qs (cob [.slice a fr.length c] 82) :: osl 44 1 (.slice a fr.length c) vs :: ((vs.zip fr).map inH ++ R))) : Run W0 N K e A :=
  run_tk (r := rstoH) (b := qs) (run_chk fun C hC => by obtain ⟨a, c, vs, h1, rfl⟩ := hC; exact h a c vs h1)
theorem ent_rsto {a : Option Addr} {c : Nat} {vs : List Value} [h1 : Tk pt qs A (cob [.slice a n c] 82) R1] [h2 : Tk (osl 44 1) (.slice a n c) R1 vs ((vs.zip fr).map inH ++ R2)] (hv : vs.length = fr.length) (hn : n = fr.length) [k : Ent R2 B] : Ent A (rstoH qs fr :: B) := by
  subst hn
  have e1 : A.Perm ((pt qs (cob [.slice a fr.length c] 82) :: osl 44 1 (.slice a fr.length c) vs :: (vs.zip fr).map inH) ++ R2) := h1.perm.trans (h2.perm.cons _)
  have e2 : Ent ((pt qs (cob [.slice a fr.length c] 82) :: osl 44 1 (.slice a fr.length c) vs :: (vs.zip fr).map inH) ++ R2) (rstoH qs fr :: R2) := ent_chk ⟨a, c, vs, hv, rfl⟩
  exact (Ent.ofPerm e1).trans (e2.trans (Ent.cons k))
theorem perm_erase {α : Type} : ∀ (l : List α) (i : Nat) (h : i < l.length), l.Perm (l[i] :: l.eraseIdx i)
  | x :: l, 0, h => by simp
  | x :: l, i + 1, h => by
    simp only [List.getElem_cons_succ, List.eraseIdx_cons_succ]
    exact ((perm_erase l i (by simpa using h)).cons x).trans (List.Perm.swap _ _ _)
theorem perm_set {α : Type} : ∀ (l : List α) (i : Nat) (x : α) (h : i < l.length), (x :: l.eraseIdx i).Perm (l.set i x)
  | y :: l, 0, x, h => by simp
  | y :: l, i + 1, x, h => by
    simp only [List.set_cons_succ, List.eraseIdx_cons_succ]
    exact (List.Perm.swap _ _ _).trans ((perm_set l i x (by simpa using h)).cons y)
theorem run_oslT {E sz : Nat} {v : Value} {xs : List Value} [hk : Tk (osl E sz) v A xs R] (h0 : v = .slice none 0 0 → xs = [] → Run W0 N K e R)
    (h1 : ∀ g n cap sp, v = .slice (some ⟨g, 0, none⟩) n cap → n ≤ cap → cap ≤ maxLen → xs.length = n * sz → (xs ++ sp).length = cap * sz → Run W0 N K e (pt g (cob (xs ++ sp) E) :: R)) : Run W0 N K e A :=
  run_tk (r := osl E sz) (b := v) (run_osl h0 h1)
theorem run_rstoN [hk : Tk rstoH qs A fr R] {i : Nat} (hi : i < fr.length) (h : ∀ a c vs vi, vs.length = fr.length → vs[i]? = some vi →
      Run W0 N K e (pt qs (cob [.slice a fr.length c] 82) :: osl 44 1 (.slice a fr.length c) vs :: osl 5 1 vi (byV (fr.getD i [])) :: (((vs.zip fr).map inH).eraseIdx i ++ R))) : Run W0 N K e A := by
  refine run_rsto (qs := qs) fun a c vs hv => ?_
  have hlen : ((vs.zip fr).map inH).length = fr.length := by simp [hv]
  have hiv : i < vs.length := by omega
  have hg : ((vs.zip fr).map inH)[i]'(by omega) = osl 5 1 vs[i] (byV (fr.getD i [])) := by simp [inH, List.getD, hi]
  have hp := perm_erase ((vs.zip fr).map inH) i (by omega)
  rw [hg] at hp
  exact run_perm (((hp.append_right R).cons _).cons _) (h a c vs vs[i] hv (by simp [hiv]))
theorem ent_rstoN {a : Option Addr} {c i : Nat} {vs : List Value} {vi : Value} {y : Frm} {ys : List Value} {R3 : List HP} [h1 : Tk pt qs A (cob [.slice a n c] 82) R1] [h2 : Tk (osl 44 1) (.slice a n c) R1 (vs.set i vi) R2] [h3 : Tk (osl 5 1) vi R2 ys (((vs.zip fr).map inH).eraseIdx i ++ R3)]
    (hy : ys = byV y) (hv : vs.length = fr.length) (hn : n = fr.length) (hi : i < fr.length) [k : Ent R3 B] : Ent A (rstoH qs (fr.set i y) :: B) := by
  subst hy
  have e1 : A.Perm (pt qs (cob [.slice a n c] 82) :: osl 44 1 (.slice a n c) (vs.set i vi) :: ((((vs.set i vi).zip (fr.set i y)).map inH) ++ R3)) := by
    refine h1.perm.trans ((h2.perm.trans ((h3.perm.trans ?_).cons _)).cons _)
    have hs : ((vs.set i vi).zip (fr.set i y)).map inH = ((vs.zip fr).map inH).set i (inH (vi, y)) := by
      apply List.ext_getElem
      · simp
      · intro j h1 h2
        by_cases e : j = i
        · subst e; simp
        · have e' : ¬ i = j := fun h => e h.symm
          simp [List.getElem_set, e']
    rw [hs]
    have := perm_set ((vs.zip fr).map inH) i (inH (vi, y)) (by simp [hv]; exact hi)
    exact this.append_right R3
  exact (Ent.ofPerm e1).trans (ent_rsto (vs := vs.set i vi) (by simp [hv]) (by simp [hn]))
theorem shut_rsto {c i g2 n2 c2 : Nat} {vs vs' sp sp2 ys : List Value} {y : Frm} {vi : Value} {R3 : List HP} [h1 : Tk pt qs A (cob [.slice (some ⟨g, 0, none⟩) n c] 82) R1] [h2 : Tk pt g R1 (cob (vs' ++ sp) 44) R2] [h3 : Tk pt g2 R2 (cob (ys ++ sp2) 5) R3]
    (hvs : vs' = vs.set i vi) (hvi : vi = .slice (some ⟨g2, 0, none⟩) n2 c2) (hy : ys = byV y) (hv : vs.length = fr.length) (hn : n = fr.length) (hi : i < fr.length) (a1 : n ≤ c) (a2 : c ≤ maxLen) (a3 : (vs' ++ sp).length = c * 1) (b1 : n2 ≤ c2) (b2 : c2 ≤ maxLen) (b3 : ys.length = n2 * 1) (b4 : (ys ++ sp2).length = c2 * 1) [k : Ent R3 (((vs.zip fr).map inH).eraseIdx i ++ B)] : Ent A (rstoH qs (fr.set i y) :: B) := by
  subst hvs
  subst hvi
  have e1 : A.Perm (pt qs (cob [.slice (some ⟨g, 0, none⟩) n c] 82) :: pt g (cob (vs.set i (.slice (some ⟨g2, 0, none⟩) n2 c2) ++ sp) 44) :: pt g2 (cob (ys ++ sp2) 5) :: R3) := h1.perm.trans ((h2.perm.trans (h3.perm.cons _)).cons _)
  have e2 : Ent (pt g2 (cob (ys ++ sp2) 5) :: R3) (osl 5 1 (.slice (some ⟨g2, 0, none⟩) n2 c2) ys :: (((vs.zip fr).map inH).eraseIdx i ++ B)) := ent_osl b1 b2 b3 b4
  have e3 : Ent (pt g (cob (vs.set i (.slice (some ⟨g2, 0, none⟩) n2 c2) ++ sp) 44) :: osl 5 1 (.slice (some ⟨g2, 0, none⟩) n2 c2) ys :: (((vs.zip fr).map inH).eraseIdx i ++ B)) (osl 44 1 (.slice (some ⟨g, 0, none⟩) n c) (vs.set i (.slice (some ⟨g2, 0, none⟩) n2 c2)) :: osl 5 1 (.slice (some ⟨g2, 0, none⟩) n2 c2) ys :: (((vs.zip fr).map inH).eraseIdx i ++ B)) := ent_osl a1 a2 (by simp [hv, hn]) a3
  exact (Ent.ofPerm e1).trans ((Ent.cons ((Ent.cons e2).trans e3)).trans (ent_rstoN (vi := .slice (some ⟨g2, 0, none⟩) n2 c2) hy hv hn hi))
end
theorem set_self {fr : List Frm} {i : Nat} (hi : i < fr.length) : fr.set i (fr.getD i []) = fr := by
  rw [show fr.getD i [] = fr[i] by simp [List.getD, hi]]; exact List.set_getElem_self _
theorem set_selfV {vs : List Value} {i : Nat} {v : Value} (h : vs[i]? = some v) : vs.set i v = vs := by
  have hi : i < vs.length := by
    rcases Nat.lt_or_ge i vs.length with k | k
    · exact k
    · rw [List.getElem?_eq_none k] at h; cases h
  have : vs[i] = v := by simpa [hi] using h
  rw [← this]; exact List.set_getElem_self _
theorem rfIs_spec (W0 : World) (R : List HP) (qs : Nat) (fr : List Frm) (f : Int) :
    Spec Tryz.prog W0 203 [.pointer (some ⟨qs, 0, none⟩), .int .i64 f] (rstoH qs fr :: R) (fun v B => v = .bool (isF fr.length f) ∧ B = rstoH qs fr :: R) := by
  refine spec_body Tryz.func203 Tryz.ntmps203 rfl rfl ?_
  refine x_seq (x_region (s_val rfl (v_assign rfl) (x_nil (n_then (x_seq ?_)))))
  refine run_rsto (qs := qs) fun a c vs hv => ?_
  refine x_region (s_val rfl (v_move rfl) (s_val rfl (v_geq rfl rfl) (s_val rfl (v_move rfl) ?_)))
  refine s_and rfl rfl rfl ?_ ?_
  · intro g1_3
    refine s_val rfl (v_move rfl) (s_yes rfl rfl (s_val rfl (v_move rfl) (s_yes rfl rfl (s_val rfl (v_nilCheck rfl) (s_yes rfl rfl ?_)))))
    refine s_val rfl (v_fieldAddr rfl Tryz.underlying82 rfl Tryz.sizeOf46 rfl (by first | exact Nat.zero_add _ | rfl)) ?_
    refine s_yes rfl rfl (s_val rfl (v_load Tryz.isAgg46 rfl (cell_own rfl)) ?_)
    refine s_yes rfl rfl (s_val rfl (v_len_slice Tryz.underlying46 rfl) (s_yes rfl rfl (s_val rfl (v_lss rfl rfl) (s_val rfl (v_pick_t rfl rfl) (s_val rfl (v_assign rfl) (x_nil (n_then (x_ret (x_done (.inl rfl) (.cons (r_tmp rfl) .nil) ?_)))))))))
    refine ⟨_, ⟨congrArg Value.bool ?_, rfl⟩, ent_rsto hv rfl⟩
    rw [Bool.eq_iff_iff]; simp only [isF, decide_eq_true_eq, Bool.false_eq_true, false_iff]; omega
  · intro g1_3
    refine s_no rfl rfl rfl rfl (s_no rfl rfl rfl rfl (s_no rfl rfl rfl rfl (s_no rfl rfl rfl rfl (s_no rfl rfl rfl rfl (s_no rfl rfl rfl rfl (s_val rfl (v_pick_f rfl rfl) (s_val rfl (v_assign rfl) (x_nil (n_then (x_ret (x_done (.inl rfl) (.cons (r_tmp rfl) .nil) ?_)))))))))))
    refine ⟨_, ⟨congrArg Value.bool ?_, rfl⟩, ent_rsto hv rfl⟩
    rw [Bool.eq_iff_iff]; simp only [isF, decide_eq_true_eq, Bool.false_eq_true, false_iff]; omega
theorem refPutN_ok {W0 : World} {R : List HP} {g off c n : Nat} {l : List Nat} {i k w : Nat} (hl : l.length = n) (hw : w < 4294967296) (hc : Cells (OwnP W0 R) g off (byV l)) (hi : inB n i k = true) (hn : n ≤ 1000000) :
    Spec Tryz.prog W0 204 [.slice (some ⟨g, off, none⟩) n c, .int .i64 i, .int .i64 k, .int .u32 w] R (fun v B => ∃ a' c', v = putV a' n c' ∧ B = osl 5 1 (.slice a' n c') (byV (putB l i k w)) :: R) := by
  subst hl; exact refPut_ok W0 R g off c l i k w hw hc hi hn
theorem byV_front {x : Frm} {sp : List Value} (h : x.length = 64) : ((byV x ++ sp).drop 0).take 64 = byV x := by
  rw [List.drop_zero, List.take_left' (by rw [byV_len, h])]
theorem rfSave_spec (W0 : World) (R : List HP) (qs : Nat) (fr : List Frm) (f off w : Int) (x : Nat) (hx : x < 4294967296) (hF : Frs fr) :
    Spec Tryz.prog W0 126 [.pointer (some ⟨qs, 0, none⟩), .int .i64 f, .int .i64 off, .int .i64 w, .int .u32 x] (rstoH qs fr :: R)
      (fun v B => v = .int .i64 (if svOk fr f off w then 0 else 1) ∧ B = rstoH qs (svF fr f off w x) :: R) := by
  by_cases hf : isF fr.length f = true
  · obtain ⟨i, rfl, hi⟩ := isF_nat hf
    obtain ⟨hl, hb⟩ := hF.get hi
    by_cases hin : inB 64 off w = true
    · obtain ⟨o, k, rfl, rfl, hk, hok⟩ := inB_nat hin
      have hs : svOk fr i o k = true := by simp [svOk, hf, hin]
      have hpl : (putB (fr.getD i []) o k x).length = 64 := by rw [putB_len (by omega)]; exact hl
      refine spec_body Tryz.func126 Tryz.ntmps126 rfl rfl ?_
      refine x_seq (x_region (s_val rfl (v_assign rfl) (x_nil (n_then (x_seq (x_seq (x_region (s_val rfl (v_move rfl) (s_val rfl (v_move rfl) (s_do rfl (d_call1 Tryz.call203 rfl (rfIs_spec W0 _ qs fr i)) ?_))))))))))
      rintro _ B_ ⟨rfl, hB_⟩
      obtain rfl := hB_.symm
      refine s_val rfl (v_not rfl) (x_nil (n_then ?_))
      refine x_if rfl ?_ ?_
      · intro c1
        exact absurd c1 (by simp [hf])
      · intro c1
        refine x_skip (n_then (x_seq ?_))
        refine run_rstoN (qs := qs) hi fun a c vs vi hv hvi => ?_
        refine run_oslT (E := 5) (sz := 1) (v := vi) (fun h1 h2 => by have := congrArg List.length h2; rw [byV_len, hl] at this; cases this) fun g2 n2 c2 sp2 k1 k2 k3 k4 k5 => ?_
        obtain rfl : n2 = 64 := by rw [byV_len, hl] at k4; omega
        subst k1
        refine run_oslT (E := 44) (sz := 1) (v := .slice a fr.length c) (fun h1 h2 => by have := (Value.slice.inj h1).2.1; omega) fun g n c' sp h1 h2 h3 h4 h5 => ?_
        cases h1
        refine x_region (s_val rfl (v_move rfl) (s_val rfl (v_nilCheck rfl) ?_))
        refine s_val rfl (v_fieldAddr rfl Tryz.underlying82 rfl Tryz.sizeOf46 rfl (by first | exact Nat.zero_add _ | rfl)) ?_
        refine s_val rfl (v_load Tryz.isAgg46 rfl (cell_own rfl)) ?_
        refine s_val rfl (v_move rfl) ?_
        refine s_val rfl (v_idx Tryz.underlying46 Tryz.sizeOf44 rfl rfl rfl hi (by first | exact Nat.zero_add _ | rfl)) ?_
        refine s_val rfl (v_load Tryz.isAgg44 rfl (cell_own (by rw [Nat.mul_one, List.getElem?_append_left (by omega)]; exact hvi))) ?_
        refine s_val rfl (v_move rfl) (s_val rfl (v_move rfl) (s_val rfl (v_move rfl) ?_))
        refine s_do rfl (d_call Tryz.call204 rfl (refPutN_ok hl hx (cells_part (byV_front hl) (by rw [byV_len, hl])) hin (by decide))) ?_
        rintro _ B_ ⟨a', c', rfl, hB_⟩
        obtain rfl := hB_.symm
        refine run_oslT (E := 5) (sz := 1) (v := .slice a' 64 c') (fun h1 h2 => by have := (Value.slice.inj h1).2.1; omega) fun g3 n3 c3 sp3 q1 q2 q3 q4 q5 => ?_
        cases q1
        refine s_val rfl (v_move rfl) (s_val rfl (v_extract rfl rfl) (s_val rfl (v_extract rfl rfl) (s_val rfl (v_assign rfl) (s_val rfl (v_assign rfl) (x_nil (n_then (x_seq (x_seq (x_region (s_val rfl (v_move rfl) (s_val rfl (v_eql rfl rfl) (x_nil (n_then ?_)))))))))))))
        refine x_if rfl ?_ ?_
        · intro c4
          refine x_region (s_val rfl (v_move rfl) (s_val rfl (v_nilCheck rfl) ?_))
          refine s_val rfl (v_fieldAddr rfl Tryz.underlying82 rfl Tryz.sizeOf46 rfl (by first | exact Nat.zero_add _ | rfl)) ?_
          refine s_val rfl (v_load Tryz.isAgg46 rfl (cell_own rfl)) ?_
          refine s_val rfl (v_move rfl) (s_val rfl (v_move rfl) ?_)
          refine s_val rfl (v_idx Tryz.underlying46 Tryz.sizeOf44 rfl rfl rfl hi (by first | exact Nat.zero_add _ | rfl)) ?_
          refine s_do0 (d_store Tryz.sizeOf44 rfl rfl rfl (by rw [List.length_append]; omega) (by rw [Nat.mul_one, List.set_append_left _ _ (by omega)])) ?_
          rintro _ _ rfl
          refine x_nil (n_then (x_seq (x_region (s_val rfl (v_move rfl) (s_val rfl (v_assign rfl) (x_nil (n_then (x_ret (x_done (.inl rfl) (.cons (r_tmp rfl) .nil) ?_)))))))))
          rw [show svF fr i o k x = fr.set i (putB (fr.getD i []) o k x) by simp [svF, hs]]
          exact ⟨_, ⟨by simp [pack, hs], rfl⟩, shut_rsto (vs := vs) (vi := .slice (some ⟨g3, 0, none⟩) 64 c') rfl rfl rfl hv rfl hi h2 h3 (by rw [← h5]; simp) q2 q3 q4 q5⟩
        · intro c4
          exact absurd rfl c4
    · have hin' : inB 64 off w = false := by simpa using hin
      have hs : svOk fr i off w = false := by simp [svOk, hin']
      refine spec_body Tryz.func126 Tryz.ntmps126 rfl rfl ?_
      refine x_seq (x_region (s_val rfl (v_assign rfl) (x_nil (n_then (x_seq (x_seq (x_region (s_val rfl (v_move rfl) (s_val rfl (v_move rfl) (s_do rfl (d_call1 Tryz.call203 rfl (rfIs_spec W0 _ qs fr i)) ?_))))))))))
      rintro _ B_ ⟨rfl, hB_⟩
      obtain rfl := hB_.symm
      refine s_val rfl (v_not rfl) (x_nil (n_then ?_))
      refine x_if rfl ?_ ?_
      · intro c1
        exact absurd c1 (by simp [hf])
      · intro c1
        refine x_skip (n_then (x_seq ?_))
        refine run_rstoN (qs := qs) hi fun a c vs vi hv hvi => ?_
        refine run_oslT (E := 5) (sz := 1) (v := vi) (fun h1 h2 => by have := congrArg List.length h2; rw [byV_len, hl] at this; cases this) fun g2 n2 c2 sp2 k1 k2 k3 k4 k5 => ?_
        obtain rfl : n2 = 64 := by rw [byV_len, hl] at k4; omega
        subst k1
        refine run_oslT (E := 44) (sz := 1) (v := .slice a fr.length c) (fun h1 h2 => by have := (Value.slice.inj h1).2.1; omega) fun g n c' sp h1 h2 h3 h4 h5 => ?_
        cases h1
        refine x_region (s_val rfl (v_move rfl) (s_val rfl (v_nilCheck rfl) ?_))
        refine s_val rfl (v_fieldAddr rfl Tryz.underlying82 rfl Tryz.sizeOf46 rfl (by first | exact Nat.zero_add _ | rfl)) ?_
        refine s_val rfl (v_load Tryz.isAgg46 rfl (cell_own rfl)) ?_
        refine s_val rfl (v_move rfl) ?_
        refine s_val rfl (v_idx Tryz.underlying46 Tryz.sizeOf44 rfl rfl rfl hi (by first | exact Nat.zero_add _ | rfl)) ?_
        refine s_val rfl (v_load Tryz.isAgg44 rfl (cell_own (by rw [Nat.mul_one, List.getElem?_append_left (by omega)]; exact hvi))) ?_
        refine s_val rfl (v_move rfl) (s_val rfl (v_move rfl) (s_val rfl (v_move rfl) ?_))
        refine s_do rfl (d_call Tryz.call204 rfl (refPut_no W0 _ _ 64 c2 off w x hin' (by decide))) ?_
        rintro _ B_ ⟨rfl, hB_⟩
        obtain rfl := hB_.symm
        refine s_val rfl (v_move rfl) (s_val rfl (v_extract rfl rfl) (s_val rfl (v_extract rfl rfl) (s_val rfl (v_assign rfl) (s_val rfl (v_assign rfl) (x_nil (n_then (x_seq (x_seq (x_region (s_val rfl (v_move rfl) (s_val rfl (v_eql rfl rfl) (x_nil (n_then ?_)))))))))))))
        refine x_if rfl ?_ ?_
        · intro c4
          exact absurd c4 (by decide)
        · intro c4
          refine x_skip (n_then (x_seq (x_region (s_val rfl (v_move rfl) (s_val rfl (v_assign rfl) (x_nil (n_then (x_ret (x_done (.inl rfl) (.cons (r_tmp rfl) .nil) ?_)))))))))
          rw [show svF fr i off w x = fr by simp [svF, hs]]
          refine ⟨_, ⟨by simp [pack, hs], rfl⟩, ?_⟩
          have e := set_self hi
          conv => rhs; rw [← e]
          exact shut_rsto (vs := vs) (set_selfV hvi).symm rfl rfl hv rfl hi h2 h3 h5 k2 k3 k4 k5
  · have hf' : isF fr.length f = false := by simpa using hf
    have hs : svOk fr f off w = false := by simp [svOk, hf']
    refine spec_body Tryz.func126 Tryz.ntmps126 rfl rfl ?_
    refine x_seq (x_region (s_val rfl (v_assign rfl) (x_nil (n_then (x_seq (x_seq (x_region (s_val rfl (v_move rfl) (s_val rfl (v_move rfl) (s_do rfl (d_call1 Tryz.call203 rfl (rfIs_spec W0 _ qs fr f)) ?_))))))))))
    rintro _ B_ ⟨rfl, hB_⟩
    obtain rfl := hB_.symm
    refine s_val rfl (v_not rfl) (x_nil (n_then ?_))
    refine x_if rfl ?_ ?_
    · intro c1
      refine x_seq (x_region (s_val rfl (v_assign rfl) (x_nil (n_then (x_ret (r_then (x_done (.inl rfl) (.cons (r_tmp rfl) .nil) ?_)))))))
      rw [show svF fr f off w x = fr by simp [svF, hs]]
      exact ⟨_, ⟨by simp [pack, hs], rfl⟩, inferInstance⟩
    · intro c1
      exact absurd c1 (by simp [hf'])
end Go.Proofs.YtlnmofhehcilhaaGreat
namespace Go.Proofs.YtlnmofhehcilhaaGreat
open Go.RowKit
set_option linter.unusedSimpArgs false
set_option linter.unusedVariables false
set_option maxRecDepth 20000
theorem ent_rsto_snoc {A B R1 R2 R3 : List HP} {qs n c g2 : Nat} {a : Option Addr} {vs ys : List Value} {vi : Value} {fr : List Frm} {y : Frm} [h1 : Tk pt qs A (cob [.slice a n c] 82) R1] [h2 : Tk (osl 44 1) (.slice a n c) R1 (vs ++ [vi]) R2] [h3 : Tk pt g2 R2 (cob ys 5) R3]
    (hvi : vi = .slice (some ⟨g2, 0, none⟩) 64 64) (hy : ys = byV y) (hl : y.length = 64) (hv : vs.length = fr.length) (hn : n = fr.length + 1) [k : Ent R3 ((vs.zip fr).map inH ++ B)] : Ent A (rstoH qs (fr ++ [y]) :: B) := by
  subst hvi; subst hy
  have e1 : A.Perm (pt qs (cob [.slice a n c] 82) :: osl 44 1 (.slice a n c) (vs ++ [.slice (some ⟨g2, 0, none⟩) 64 64]) :: pt g2 (cob (byV y ++ []) 5) :: R3) := by
    rw [List.append_nil]; exact h1.perm.trans ((h2.perm.trans (h3.perm.cons _)).cons _)
  have e2 : Ent (pt g2 (cob (byV y ++ []) 5) :: R3) (osl 5 1 (.slice (some ⟨g2, 0, none⟩) 64 64) (byV y) :: ((vs.zip fr).map inH ++ B)) := ent_osl (Nat.le_refl _) (by simp only [maxLen]; omega) (by rw [byV_len, hl]) (by rw [List.append_nil, byV_len, hl])
  have e3 : ((vs ++ [Value.slice (some ⟨g2, 0, none⟩) 64 64]).zip (fr ++ [y])).map inH = (vs.zip fr).map inH ++ [osl 5 1 (.slice (some ⟨g2, 0, none⟩) 64 64) (byV y)] := by
    rw [List.zip_append hv, List.map_append]; rfl
  have e4 : (osl 5 1 (.slice (some ⟨g2, 0, none⟩) 64 64) (byV y) :: ((vs.zip fr).map inH ++ B)).Perm (((vs ++ [Value.slice (some ⟨g2, 0, none⟩) 64 64]).zip (fr ++ [y])).map inH ++ B) := by
    rw [e3, List.append_assoc]; exact List.perm_middle.symm
  exact (Ent.ofPerm e1).trans ((Ent.cons (Ent.cons (e2.trans (Ent.ofPerm e4)))).trans (ent_rsto (vs := vs ++ [.slice (some ⟨g2, 0, none⟩) 64 64]) (by simp [hv]) (by simp [hn])))
theorem rfNew_spec (W0 : World) (R : List HP) (n : Nat) (h : n ≤ 32) :
    Spec Tryz.prog W0 84 [.int .i64 n] R (fun v B => ∃ b, v = .tuple #[.pointer (some ⟨b, 0, none⟩), .int .i64 0] ∧ B = rstoH b (List.replicate n zeros) :: R) := by
  refine spec_body Tryz.func84 Tryz.ntmps84 rfl rfl ?_
  refine x_seq (x_region (s_val rfl (v_assign rfl) (s_val rfl (v_assign rfl) (x_nil (n_then (x_seq (x_seq (x_region (s_val rfl (v_move rfl) (s_val rfl (v_lss rfl rfl) (s_val rfl (v_move rfl) ?_)))))))))))
  refine s_or rfl rfl rfl ?_ ?_
  · intro g1_3
    omega
  · intro g1_3
    refine s_val rfl (v_move rfl) (s_yes rfl rfl (s_val rfl (v_gtr rfl rfl) (s_val rfl (v_pick_f rfl rfl) (x_nil (n_then ?_)))))
    refine x_if rfl ?_ ?_
    · intro c1
      omega
    · intro c1
      refine x_skip (n_then (x_seq (x_region (s_val rfl (v_build Tryz.underlying82 Tryz.zeroValue82 (sized_cons Tryz.sizeOf46 sized_nil) fil_nil) ?_))))
      refine s_do rfl (d_boxA rfl) ?_
      rintro _ _ ⟨b1, rfl, rfl⟩
      refine s_val rfl (v_assign rfl) (x_nil (n_then (x_seq (x_seq (x_region (s_val rfl (v_assign rfl) (x_nil (n_then (x_block ?_)))))))))
      refine x_loop (fun i : Nat => i ≤ n) (fun i => [(0, .int .i64 n), (4, .pointer (some ⟨b1, 0, none⟩)), (5, .int .i64 i)]) (fun i => rstoH b1 (List.replicate i zeros) :: R) (fun i => n - i) 0 ?_ ?_ ?_ ?_
      · exact Nat.zero_le _
      · repeat (first | exact sub_nil | refine sub_cons rfl ?_)
      · exact (Ent.cons (ent_osl_nil (B := R))).trans (ent_chk (R := R) (C := [_, _]) ⟨none, 0, [], rfl, rfl⟩)
      · intro i hi
        refine x_seq (x_seq (x_region (s_val rfl (v_move rfl) (s_val rfl (v_move rfl) (s_val rfl (v_lss rfl rfl) (x_nil (n_then ?_)))))))
        refine x_if rfl ?_ ?_
        · intro c5
          refine x_skip (n_then (x_seq (x_block ?_)))
          refine run_rsto (qs := b1) fun a c vs hv => ?_
          rw [List.length_replicate] at hv ⊢
          refine x_draw [] 11 mixed rfl sc_end (fun hS => ?_)
          refine d_take 0 rfl rfl (by kernel_rfl) (by kernel_rfl) (by kernel_rfl) rfl hS (v_move rfl) ?_
          refine d_take 1 rfl rfl (by kernel_rfl) (by kernel_rfl) (by kernel_rfl) rfl hS (v_move rfl) ?_
          refine d_take 2 rfl rfl (by kernel_rfl) (by kernel_rfl) (by kernel_rfl) rfl hS (v_nilCheck rfl) ?_
          refine d_take 3 rfl rfl (by kernel_rfl) (by kernel_rfl) (by kernel_rfl) rfl hS (v_fieldAddr rfl Tryz.underlying82 rfl Tryz.sizeOf46 rfl (by first | exact Nat.zero_add _ | rfl)) ?_
          refine d_all (is := [4, 5]) (by kernel_rfl) rfl ⟨?_, ?_, trivial⟩
          · skip
            refine dx_one rfl rfl (d_val (v_load Tryz.isAgg46 rfl (cell_own rfl))) rfl ?_; clear hS
            rintro _ _ ⟨rfl, rfl⟩
            refine ⟨sc_end, fun hS => ?_⟩
            refine d_one 5 (by kernel_rfl) rfl rfl (d_make (sz := 1) (by_ := 1) (info := Tryz.t5) Tryz.underlying44 (by kernel_rfl) rfl rfl rfl rfl (by decide) rfl rfl rfl rfl (by decide) (by decide)) rfl ?_; clear hS
            rintro _ _ ⟨b2, rfl, rfl⟩
            refine ⟨sc_end, fun hS => ?_⟩
            refine d_one 6 (by kernel_rfl) rfl rfl (d_sliceLit Tryz.underlying46 Tryz.sizeOf44 Tryz.zeroValue44 rfl rfl rfl rfl rfl (by decide) (by decide)) rfl ?_; clear hS
            rintro _ _ ⟨b3, rfl, rfl⟩
            refine ⟨sc_end, fun hS => ?_⟩
            refine d_one 7 (by kernel_rfl) rfl rfl (d_append (sz := 1) (by_ := 24) (info := Tryz.t44) Tryz.underlying46 (by kernel_rfl) rfl rfl rfl rfl (by decide) rfl rfl cells_all rfl rfl (by simp only [maxLen]; omega) (by omega)) rfl ?_; clear hS
            rintro _ B_ ⟨a1, c1, rfl, hB_⟩
            obtain rfl := hB_.symm
            refine ⟨sc_end, fun hS => ?_⟩
            refine d_take 8 rfl rfl (by kernel_rfl) (by kernel_rfl) (by kernel_rfl) rfl hS (v_nilCheck rfl) ?_
            refine d_take 9 rfl rfl (by kernel_rfl) (by kernel_rfl) (by kernel_rfl) rfl hS (v_fieldAddr rfl Tryz.underlying82 rfl Tryz.sizeOf46 rfl (by first | exact Nat.zero_add _ | rfl)) ?_
            refine d_one 10 (by kernel_rfl) rfl rfl (d_store Tryz.sizeOf46 rfl rfl rfl (Nat.le_of_ble_eq_true rfl) SetL.eq) rfl ?_; clear hS
            rintro _ _ rfl
            refine ⟨sc_end, fun hS => ?_⟩
            refine d_done (by kernel_rfl) ?_; clear hS
            refine n_block (n_then (x_region (s_val rfl (v_move rfl) ?_)))
            refine s_val rfl (v_add rfl rfl (by first | exact w64 (by omega) | rfl)) ?_
            refine s_val rfl (v_assign rfl) (x_nil (n_then ?_))
            refine inv_intro (i + 1) ?_ ?_ ?_ ?_
            · omega
            · omega
            · repeat (first | exact sub_nil | refine sub_cons rfl ?_)
            · rw [show List.replicate (i + 1) zeros = List.replicate i zeros ++ [zeros] from List.replicate_succ']; exact ent_rsto_snoc (vs := vs) (n := i + 1) (a := a1) (c := c1) (g2 := b2) (ys := List.replicate (64 * 1) (.int .u8 0)) (y := zeros) (vi := .slice (some ⟨b2, 0, none⟩) 64 64) (fr := List.replicate i zeros) rfl rfl (by simp [zeros]) (by simp [hv]) (by simp)
          · skip
            refine dx_one rfl rfl (d_make (sz := 1) (by_ := 1) (info := Tryz.t5) Tryz.underlying44 (by kernel_rfl) rfl rfl rfl rfl (by decide) rfl rfl rfl rfl (by decide) (by decide)) rfl ?_; clear hS
            rintro _ _ ⟨b2, rfl, rfl⟩
            refine ⟨sc_end, fun hS => ?_⟩
            refine d_all (is := [4, 6]) (by kernel_rfl) rfl ⟨?_, ?_, trivial⟩
            · skip
              refine dx_one rfl rfl (d_val (v_load Tryz.isAgg46 rfl (cell_own rfl))) rfl ?_; clear hS
              rintro _ _ ⟨rfl, rfl⟩
              refine ⟨sc_end, fun hS => ?_⟩
              refine d_one 6 (by kernel_rfl) rfl rfl (d_sliceLit Tryz.underlying46 Tryz.sizeOf44 Tryz.zeroValue44 rfl rfl rfl rfl rfl (by decide) (by decide)) rfl ?_; clear hS
              rintro _ _ ⟨b3, rfl, rfl⟩
              refine ⟨sc_end, fun hS => ?_⟩
              refine d_one 7 (by kernel_rfl) rfl rfl (d_append (sz := 1) (by_ := 24) (info := Tryz.t44) Tryz.underlying46 (by kernel_rfl) rfl rfl rfl rfl (by decide) rfl rfl cells_all rfl rfl (by simp only [maxLen]; omega) (by omega)) rfl ?_; clear hS
              rintro _ B_ ⟨a1, c1, rfl, hB_⟩
              obtain rfl := hB_.symm
              refine ⟨sc_end, fun hS => ?_⟩
              refine d_take 8 rfl rfl (by kernel_rfl) (by kernel_rfl) (by kernel_rfl) rfl hS (v_nilCheck rfl) ?_
              refine d_take 9 rfl rfl (by kernel_rfl) (by kernel_rfl) (by kernel_rfl) rfl hS (v_fieldAddr rfl Tryz.underlying82 rfl Tryz.sizeOf46 rfl (by first | exact Nat.zero_add _ | rfl)) ?_
              refine d_one 10 (by kernel_rfl) rfl rfl (d_store Tryz.sizeOf46 rfl rfl rfl (Nat.le_of_ble_eq_true rfl) SetL.eq) rfl ?_; clear hS
              rintro _ _ rfl
              refine ⟨sc_end, fun hS => ?_⟩
              refine d_done (by kernel_rfl) ?_; clear hS
              refine n_block (n_then (x_region (s_val rfl (v_move rfl) ?_)))
              refine s_val rfl (v_add rfl rfl (by first | exact w64 (by omega) | rfl)) ?_
              refine s_val rfl (v_assign rfl) (x_nil (n_then ?_))
              refine inv_intro (i + 1) ?_ ?_ ?_ ?_
              · omega
              · omega
              · repeat (first | exact sub_nil | refine sub_cons rfl ?_)
              · rw [show List.replicate (i + 1) zeros = List.replicate i zeros ++ [zeros] from List.replicate_succ']; exact ent_rsto_snoc (vs := vs) (n := i + 1) (a := a1) (c := c1) (g2 := b2) (ys := List.replicate (64 * 1) (.int .u8 0)) (y := zeros) (vi := .slice (some ⟨b2, 0, none⟩) 64 64) (fr := List.replicate i zeros) rfl rfl (by simp [zeros]) (by simp [hv]) (by simp)
            · skip
              refine dx_one rfl rfl (d_sliceLit Tryz.underlying46 Tryz.sizeOf44 Tryz.zeroValue44 rfl rfl rfl rfl rfl (by decide) (by decide)) rfl ?_; clear hS
              rintro _ _ ⟨b3, rfl, rfl⟩
              refine ⟨sc_end, fun hS => ?_⟩
              refine d_one 4 (by kernel_rfl) rfl rfl (d_val (v_load Tryz.isAgg46 rfl (cell_own rfl))) rfl ?_; clear hS
              rintro _ _ ⟨rfl, rfl⟩
              refine ⟨sc_end, fun hS => ?_⟩
              refine d_one 7 (by kernel_rfl) rfl rfl (d_append (sz := 1) (by_ := 24) (info := Tryz.t44) Tryz.underlying46 (by kernel_rfl) rfl rfl rfl rfl (by decide) rfl rfl cells_all rfl rfl (by simp only [maxLen]; omega) (by omega)) rfl ?_; clear hS
              rintro _ B_ ⟨a1, c1, rfl, hB_⟩
              obtain rfl := hB_.symm
              refine ⟨sc_end, fun hS => ?_⟩
              refine d_take 8 rfl rfl (by kernel_rfl) (by kernel_rfl) (by kernel_rfl) rfl hS (v_nilCheck rfl) ?_
              refine d_take 9 rfl rfl (by kernel_rfl) (by kernel_rfl) (by kernel_rfl) rfl hS (v_fieldAddr rfl Tryz.underlying82 rfl Tryz.sizeOf46 rfl (by first | exact Nat.zero_add _ | rfl)) ?_
              refine d_one 10 (by kernel_rfl) rfl rfl (d_store Tryz.sizeOf46 rfl rfl rfl (Nat.le_of_ble_eq_true rfl) SetL.eq) rfl ?_; clear hS
              rintro _ _ rfl
              refine ⟨sc_end, fun hS => ?_⟩
              refine d_done (by kernel_rfl) ?_; clear hS
              refine n_block (n_then (x_region (s_val rfl (v_move rfl) ?_)))
              refine s_val rfl (v_add rfl rfl (by first | exact w64 (by omega) | rfl)) ?_
              refine s_val rfl (v_assign rfl) (x_nil (n_then ?_))
              refine inv_intro (i + 1) ?_ ?_ ?_ ?_
              · omega
              · omega
              · repeat (first | exact sub_nil | refine sub_cons rfl ?_)
              · rw [show List.replicate (i + 1) zeros = List.replicate i zeros ++ [zeros] from List.replicate_succ']; exact ent_rsto_snoc (vs := vs) (n := i + 1) (a := a1) (c := c1) (g2 := b2) (ys := List.replicate (64 * 1) (.int .u8 0)) (y := zeros) (vi := .slice (some ⟨b2, 0, none⟩) 64 64) (fr := List.replicate i zeros) rfl rfl (by simp [zeros]) (by simp [hv]) (by simp)
        · intro c5
          refine x_exit (e_then (e_then (e_block (n_then (x_seq (x_region (s_val rfl (v_move rfl) (s_val rfl (v_assign rfl) (s_val rfl (v_assign rfl) (x_nil (n_then (x_ret (x_done (.inl rfl) (.cons (r_tmp rfl) (.cons (r_tmp rfl) .nil)) ?_)))))))))))))
          have : i = n := by omega
          subst this
          exact ⟨_, ⟨b1, rfl, rfl⟩, inferInstance⟩
end Go.Proofs.YtlnmofhehcilhaaGreat
namespace Go.Proofs.YtlnmofhehcilhaaGreat
open Go.RowKit
set_option linter.unusedSimpArgs false
set_option linter.unusedVariables false
set_option maxRecDepth 20000
def thV (p : Pl) : Value := .bool (decide (p ≠ (0, 0)))
abbrev rgO (pg : List Pl) : Obj := cob (pg.map thV ++ pg.flatMap plV) 156
theorem th_row {pg : List Pl} {sp : List Value} {i : Nat} (hi : i < pg.length) : ((pg.map thV ++ sp).drop (i * 1)).take 1 = [thV (plAt pg i)] := by
  rw [Nat.mul_one, List.drop_append_of_le_length (by simp; omega), ← List.map_drop, List.drop_eq_getElem_cons hi, List.map_cons, List.cons_append, List.take_succ_cons, List.take_zero]
  simp [plAt, List.getD, hi]
theorem rp_row {pg : List Pl} {i : Nat} (h : pg.length = 12) (hi : i < 12) : ((pg.map thV ++ pg.flatMap plV).drop (12 + i * 2)).take 2 = plV (plAt pg i) := by
  rw [← List.drop_drop, List.drop_left' (by simpa using h)]
  have := pg_row (pg := pg) (sp := []) (n := i) (by omega)
  rwa [List.append_nil] at this
theorem setR_back : ∀ (vs a b : List Value) (off : Nat), setR (a ++ b) (a.length + off) vs = a ++ setR b off vs
  | [], a, b, off => rfl
  | v :: vs, a, b, off => by
    rw [setR, setR, List.set_append_right _ _ (by omega), show a.length + off - a.length = off by omega, show a.length + off + 1 = a.length + (off + 1) by omega, setR_back vs]
theorem rg_set {pg : List Pl} {i : Nat} {p : Pl} (h : pg.length = 12) (hi : i < 12) (hp : okPl p = true) : setR ((pg.map thV ++ pg.flatMap plV).set (i * 1) (.bool true)) (12 + i * 2) (plV p) = (pg.set i p).map thV ++ (pg.set i p).flatMap plV := by
  have ht : thV p = .bool true := by
    have := okPl_iff.1 hp
    simp only [thV, Value.bool.injEq, decide_eq_true_eq]
    intro e; rw [e] at this; simp at this
  rw [Nat.mul_one, List.set_append_left _ _ (by simp; omega), ← ht, ← List.map_set]
  have e := setR_back (plV p) ((pg.set i p).map thV) (pg.flatMap plV) (i * 2)
  rw [show ((pg.set i p).map thV).length = 12 by simp [h]] at e
  rw [e]
  have := pg_set (pg := pg) (sp := []) (n := i) (p := p) (by omega)
  rw [List.append_nil, List.append_nil] at this
  rw [this]
theorem rgIs_spec (W0 : World) (R : List HP) (n : Int) : Spec Tryz.prog W0 173 [.int .i64 n] R (fun v B => v = .bool (isP n) ∧ B = R) := by
  refine spec_body Tryz.func173 Tryz.ntmps173 rfl rfl ?_
  refine x_seq (x_region (s_val rfl (v_assign rfl) (x_nil (n_then (x_seq (x_region (s_val rfl (v_move rfl) (s_val rfl (v_geq rfl rfl) (s_val rfl (v_move rfl) ?_)))))))))
  refine s_and rfl rfl rfl ?_ ?_
  · intro g1_3
    refine s_val rfl (v_move rfl) (s_yes rfl rfl (s_val rfl (v_lss rfl rfl) (s_val rfl (v_pick_t rfl rfl) (s_val rfl (v_assign rfl) (x_nil (n_then (x_ret (x_done (.inl rfl) (.cons (r_tmp rfl) .nil) ?_))))))))
    refine ⟨_, ⟨?_, rfl⟩, inferInstance⟩
    refine congrArg Value.bool ?_
    rw [Bool.eq_iff_iff]; simp only [isP, decide_eq_true_eq, Bool.false_eq_true, false_iff]; omega
  · intro g1_3
    refine s_no rfl rfl rfl rfl (s_val rfl (v_pick_f rfl rfl) (s_val rfl (v_assign rfl) (x_nil (n_then (x_ret (x_done (.inl rfl) (.cons (r_tmp rfl) .nil) ?_))))))
    refine ⟨_, ⟨?_, rfl⟩, inferInstance⟩
    refine congrArg Value.bool ?_
    rw [Bool.eq_iff_iff]; simp only [isP, decide_eq_true_eq, Bool.false_eq_true, false_iff]; omega
theorem rgSet_spec (W0 : World) (R : List HP) (b : Nat) (pg : List Pl) (h : Pgs pg) (n : Int) (p : Pl) : Spec Tryz.prog W0 86 [.pointer (some ⟨b, 0, none⟩), .int .i64 n, .agg (plV p).toArray] (pt b (rgO pg) :: R)
    (fun v B => v = .int .i64 (setE pg n p) ∧ B = pt b (rgO (setP pg n p)) :: R) := by
  have hl := h.len
  refine spec_body Tryz.func86 Tryz.ntmps86 rfl rfl ?_
  refine x_seq (x_region (s_do rfl (d_boxA rfl) ?_))
  rintro _ _ ⟨b1, rfl, rfl⟩
  refine s_val rfl (v_assign rfl) (x_nil (n_then (x_seq (x_seq (x_region (s_val rfl (v_move rfl) (s_do rfl (d_call Tryz.call173 rfl (rgIs_spec W0 _ n)) ?_)))))))
  rintro _ B_ ⟨rfl, hB_⟩
  obtain rfl := hB_.symm
  refine s_val rfl (v_not rfl) (s_val rfl (v_move rfl) ?_)
  refine s_or rfl rfl rfl ?_ ?_
  · intro g1_4
    refine s_no rfl rfl rfl rfl (s_no rfl rfl rfl rfl (s_val rfl (v_pick_t rfl rfl) (s_val rfl (v_move rfl) (s_no rfl rfl rfl rfl (s_no rfl rfl rfl rfl (s_no rfl rfl rfl rfl (s_val rfl (v_pick_t rfl rfl) (s_val rfl (v_move rfl) (s_no rfl rfl rfl rfl (s_no rfl rfl rfl rfl (s_no rfl rfl rfl rfl (s_val rfl (v_pick_t rfl rfl) (s_val rfl (v_move rfl) (s_no rfl rfl rfl rfl (s_no rfl rfl rfl rfl (s_no rfl rfl rfl rfl (s_val rfl (v_pick_t rfl rfl) (x_nil (n_then (x_ift rfl (x_seq (x_region (s_val rfl (v_assign rfl) ?_)))))))))))))))))))))))
    refine x_nil (n_then (x_ret (r_then (x_done (.inl rfl) (.cons (r_tmp rfl) .nil) ?_))))
    have he : setE pg n p = 1 := by
      unfold setE; rw [if_neg]
      intro hk
      have := okPl_iff.1 hk.2
      first
        | omega
        | (simp [hk.1] at g1_4)
    exact ⟨_, ⟨by simp [pack, he], by rw [setP, he, if_neg (by decide)]⟩, inferInstance⟩
  · intro g1_4
    refine s_val rfl (v_fieldAddr rfl Tryz.underlying153 rfl Tryz.sizeOf3 rfl (by first | exact Nat.zero_add _ | rfl)) ?_
    refine s_yes rfl rfl (s_val rfl (v_load Tryz.isAgg3 rfl (cell_own rfl)) ?_)
    refine s_yes rfl rfl (s_val rfl (v_lss rfl rfl) (s_val rfl (v_pick_f rfl rfl) (s_val rfl (v_move rfl) ?_)))
    refine s_or rfl rfl rfl ?_ ?_
    · intro g1_9
      refine s_no rfl rfl rfl rfl (s_no rfl rfl rfl rfl (s_val rfl (v_pick_t rfl rfl) (s_val rfl (v_move rfl) (s_no rfl rfl rfl rfl (s_no rfl rfl rfl rfl (s_no rfl rfl rfl rfl (s_val rfl (v_pick_t rfl rfl) (s_val rfl (v_move rfl) (s_no rfl rfl rfl rfl (s_no rfl rfl rfl rfl (s_no rfl rfl rfl rfl (s_val rfl (v_pick_t rfl rfl) (x_nil (n_then (x_ift rfl (x_seq (x_region (s_val rfl (v_assign rfl) (x_nil (n_then (x_ret (r_then (x_done (.inl rfl) (.cons (r_tmp rfl) .nil) ?_)))))))))))))))))))))))
      have he : setE pg n p = 1 := by
        unfold setE; rw [if_neg]
        intro hk
        have := okPl_iff.1 hk.2
        first
          | omega
          | (simp [hk.1] at g1_4)
      exact ⟨_, ⟨by simp [pack, he], by rw [setP, he, if_neg (by decide)]⟩, inferInstance⟩
    · intro g1_9
      refine s_val rfl (v_fieldAddr rfl Tryz.underlying153 rfl Tryz.sizeOf3 rfl (by first | exact Nat.zero_add _ | rfl)) ?_
      refine s_yes rfl rfl (s_val rfl (v_load Tryz.isAgg3 rfl (cell_own rfl)) ?_)
      refine s_yes rfl rfl (s_val rfl (v_geq rfl rfl) (s_val rfl (v_pick_f rfl rfl) (s_val rfl (v_move rfl) ?_)))
      refine s_or rfl rfl rfl ?_ ?_
      · intro g1_14
        refine s_no rfl rfl rfl rfl (s_no rfl rfl rfl rfl (s_val rfl (v_pick_t rfl rfl) (s_val rfl (v_move rfl) (s_no rfl rfl rfl rfl (s_no rfl rfl rfl rfl (s_no rfl rfl rfl rfl (s_val rfl (v_pick_t rfl rfl) (x_nil (n_then (x_ift rfl (x_seq (x_region (s_val rfl (v_assign rfl) (x_nil (n_then (x_ret (r_then (x_done (.inl rfl) (.cons (r_tmp rfl) .nil) ?_))))))))))))))))))
        have he : setE pg n p = 1 := by
          unfold setE; rw [if_neg]
          intro hk
          have := okPl_iff.1 hk.2
          first
            | omega
            | (simp [hk.1] at g1_4)
        exact ⟨_, ⟨by simp [pack, he], by rw [setP, he, if_neg (by decide)]⟩, inferInstance⟩
      · intro g1_14
        refine s_val rfl (v_fieldAddr rfl Tryz.underlying153 rfl Tryz.sizeOf3 rfl (by first | exact Nat.zero_add _ | rfl)) ?_
        refine s_yes rfl rfl (s_val rfl (v_load Tryz.isAgg3 rfl (cell_own rfl)) ?_)
        refine s_yes rfl rfl (s_val rfl (v_lss rfl rfl) (s_val rfl (v_pick_f rfl rfl) (s_val rfl (v_move rfl) ?_)))
        refine s_or rfl rfl rfl ?_ ?_
        · intro g1_19
          refine s_no rfl rfl rfl rfl (s_no rfl rfl rfl rfl (s_val rfl (v_pick_t rfl rfl) (x_nil (n_then (x_ift rfl (x_seq (x_region (s_val rfl (v_assign rfl) (x_nil (n_then (x_ret (r_then (x_done (.inl rfl) (.cons (r_tmp rfl) .nil) ?_)))))))))))))
          have he : setE pg n p = 1 := by
            unfold setE; rw [if_neg]
            intro hk
            have := okPl_iff.1 hk.2
            first
              | omega
              | (simp [hk.1] at g1_4)
          exact ⟨_, ⟨by simp [pack, he], by rw [setP, he, if_neg (by decide)]⟩, inferInstance⟩
        · intro g1_19
          refine s_val rfl (v_fieldAddr rfl Tryz.underlying153 rfl Tryz.sizeOf3 rfl (by first | exact Nat.zero_add _ | rfl)) ?_
          refine s_yes rfl rfl (s_val rfl (v_load Tryz.isAgg3 rfl (cell_own rfl)) ?_)
          refine s_yes rfl rfl (s_val rfl (v_gtr rfl rfl) (s_val rfl (v_pick_f rfl rfl) (x_nil (n_then ?_))))
          refine x_if rfl ?_ ?_
          · intro c1
            refine x_seq (x_region (s_val rfl (v_assign rfl) (x_nil (n_then (x_ret (r_then (x_done (.inl rfl) (.cons (r_tmp rfl) .nil) ?_)))))))
            have he : setE pg n p = 1 := by
              unfold setE; rw [if_neg]
              intro hk
              have := okPl_iff.1 hk.2
              first
                | omega
                | (simp [hk.1] at g1_4)
            exact ⟨_, ⟨by simp [pack, he], by rw [setP, he, if_neg (by decide)]⟩, inferInstance⟩
          · intro c1
            have hp : isP n = true := by simpa using g1_4
            have ho : okPl p = true := okPl_iff.2 (by omega)
            obtain ⟨i, hni, hi⟩ := isP_nat hp
            have htr := th_row (pg := pg) (sp := pg.flatMap plV) (i := i) (by omega)
            have hth : thereB pg n = decide (plAt pg i ≠ (0, 0)) := by rw [thereB, hp]; simp [hni]
            refine x_skip (n_then (x_seq (x_seq (x_region (s_val rfl (v_move rfl) (s_val rfl (v_move rfl) (s_val rfl (v_nilCheck rfl) ?_)))))))
            refine s_val rfl (v_fieldAddr rfl Tryz.underlying156 rfl Tryz.sizeOf85 rfl (by first | exact Nat.zero_add _ | rfl)) ?_
            refine s_val rfl (v_idxArr Tryz.underlying85 Tryz.sizeOf4 rfl rfl hni hi (by first | exact Nat.zero_add _ | rfl)) ?_
            refine s_val rfl (v_load Tryz.isAgg4 rfl (cells_part (vs := [thV (plAt pg i)]) htr rfl 0 _ rfl)) ?_
            refine x_nil (n_then ?_)
            refine x_if rfl ?_ ?_
            · intro c3
              have ht : thereB pg n = true := by rw [hth]; simpa using c3
              refine x_seq (x_region (s_val rfl (v_assign rfl) (x_nil (n_then (x_ret (r_then (x_done (.inl rfl) (.cons (r_tmp rfl) .nil) ?_)))))))
              have he : setE pg n p = 5 := by unfold setE; rw [if_pos ⟨hp, ho⟩, if_pos ht]
              exact ⟨_, ⟨by simp [pack, he], by rw [setP, he, if_neg (by decide)]⟩, inferInstance⟩
            · intro c3
              have ht : thereB pg n = false := by rw [hth]; simpa using c3
              have he : setE pg n p = 0 := by simp [setE, hp, ho, ht]
              refine x_skip (n_then (x_seq (x_region (s_val rfl (v_move rfl) (s_val rfl (v_move rfl) (s_val rfl (v_nilCheck rfl) ?_))))))
              refine s_val rfl (v_fieldAddr rfl Tryz.underlying156 rfl Tryz.sizeOf85 rfl (by first | exact Nat.zero_add _ | rfl)) ?_
              refine s_val rfl (v_idxArr Tryz.underlying85 Tryz.sizeOf4 rfl rfl hni hi (by first | exact Nat.zero_add _ | rfl)) ?_
              refine s_do0 (d_store Tryz.sizeOf4 rfl rfl rfl (by rw [List.length_append, List.length_map, flat_len plV_len]; omega) rfl) ?_
              rintro _ _ rfl
              refine x_nil (n_then (x_seq ?_))
              refine x_draw [(b1, 0, _)] 7 mixed rfl (sc_own sc_end) (fun hS => ?_)
              refine d_take 0 rfl rfl (by kernel_rfl) (by kernel_rfl) (by kernel_rfl) rfl hS (v_move rfl) ?_
              refine d_take 1 rfl rfl (by kernel_rfl) (by kernel_rfl) (by kernel_rfl) rfl hS (v_move rfl) ?_
              refine d_take 2 rfl rfl (by kernel_rfl) (by kernel_rfl) (by kernel_rfl) rfl hS (v_loadAgg Tryz.isAgg153 Tryz.sizeOf153 rfl (cells_sc (k := 0) rfl) rfl) ?_
              refine d_take 3 rfl rfl (by kernel_rfl) (by kernel_rfl) (by kernel_rfl) rfl hS (v_nilCheck rfl) ?_
              refine d_take 4 rfl rfl (by kernel_rfl) (by kernel_rfl) (by kernel_rfl) rfl hS (v_fieldAddr rfl Tryz.underlying156 rfl Tryz.sizeOf154 rfl (by first | exact Nat.zero_add _ | rfl)) ?_
              refine d_take 5 rfl rfl (by kernel_rfl) (by kernel_rfl) (by kernel_rfl) rfl hS (v_idxArr Tryz.underlying154 Tryz.sizeOf153 rfl rfl hni hi (by first | exact Nat.zero_add _ | rfl)) ?_
              refine d_one 6 (by kernel_rfl) rfl rfl (d_storeAgg Tryz.sizeOf153 rfl rfl rfl rfl (by rw [List.length_set, List.length_append, List.length_map, flat_len plV_len]; omega) (rg_set hl hi ho)) rfl ?_; clear hS
              rintro _ _ rfl
              refine ⟨(sc_own sc_end), fun hS => ?_⟩
              refine d_done (by kernel_rfl) ?_; clear hS
              refine n_then (x_seq (x_region (s_val rfl (v_assign rfl) (x_nil (n_then (x_ret (x_done (.inl rfl) (.cons (r_tmp rfl) .nil) ?_)))))))
              rw [show setP pg n p = pg.set i p by rw [setP, if_pos he, hni, Int.toNat_natCast]]
              exact ⟨_, ⟨by simp [pack, he], rfl⟩, inferInstance⟩
theorem rgGet_spec (W0 : World) (R : List HP) (b : Nat) (pg : List Pl) (h : Pgs pg) (n : Int) : Spec Tryz.prog W0 202 [.pointer (some ⟨b, 0, none⟩), .int .i64 n] (pt b (rgO pg) :: R)
    (fun v B => v = .tuple #[.agg (plV (gGot pg n)).toArray, .bool (thereB pg n)] ∧ B = pt b (rgO pg) :: R) := by
  have hl := h.len
  refine spec_body Tryz.func202 Tryz.ntmps202 rfl rfl ?_
  refine x_seq (x_region (s_do rfl (d_allocA Tryz.zeroValue153) ?_))
  rintro _ _ ⟨b1, rfl, rfl⟩
  refine s_val rfl (v_assign rfl) (x_nil (n_then (x_seq (x_seq (x_region (s_val rfl (v_move rfl) (s_do rfl (d_call Tryz.call173 rfl (rgIs_spec W0 _ n)) ?_)))))))
  rintro _ B_ ⟨rfl, hB_⟩
  obtain rfl := hB_.symm
  refine s_val rfl (v_not rfl) (x_nil (n_then ?_))
  refine x_if rfl ?_ ?_
  · intro c1
    refine x_seq (x_region (s_val rfl (v_build Tryz.underlying153 Tryz.zeroValue153 (sized_cons Tryz.sizeOf3 (sized_cons Tryz.sizeOf3 sized_nil)) fil_nil) ?_))
    refine s_do0 (d_storeAll Tryz.sizeOf153 rfl rfl rfl rfl rfl) ?_
    rintro _ _ rfl
    refine s_val rfl (v_assign rfl) (x_nil (n_then (x_ret (r_then (x_done (.inl rfl) (.cons (r_all Tryz.isAgg153 Tryz.sizeOf153 rfl rfl) (.cons (r_tmp rfl) .nil)) ?_)))))
    refine ⟨_, ⟨?_, rfl⟩, inferInstance⟩
    have ht : thereB pg n = false := by simp [thereB, show isP n = false by simpa using c1]
    simp [pack, gGot, ht]
  · intro c1
    have hp : isP n = true := by simpa using c1
    obtain ⟨i, hni, hi⟩ := isP_nat hp
    have htr := th_row (pg := pg) (sp := pg.flatMap plV) (i := i) (by omega)
    have hpr := rp_row (pg := pg) hl hi
    refine x_skip (n_then (x_seq ?_))
    refine x_draw [(b, 12 + i * 2, plV (plAt pg i)), (b, i * 1, [thV (plAt pg i)])] 14 mixed rfl (sc_cons (cells_part hpr rfl) (sc_cons (cells_part htr rfl) sc_end)) (fun hS => ?_)
    refine d_take 0 rfl rfl (by kernel_rfl) (by kernel_rfl) (by kernel_rfl) rfl hS (v_move rfl) ?_
    refine d_take 1 rfl rfl (by kernel_rfl) (by kernel_rfl) (by kernel_rfl) rfl hS (v_move rfl) ?_
    refine d_take 2 rfl rfl (by kernel_rfl) (by kernel_rfl) (by kernel_rfl) rfl hS (v_nilCheck rfl) ?_
    refine d_take 3 rfl rfl (by kernel_rfl) (by kernel_rfl) (by kernel_rfl) rfl hS (v_fieldAddr rfl Tryz.underlying156 rfl Tryz.sizeOf154 rfl (by first | exact Nat.zero_add _ | rfl)) ?_
    refine d_take 4 rfl rfl (by kernel_rfl) (by kernel_rfl) (by kernel_rfl) rfl hS (v_idxArr Tryz.underlying154 Tryz.sizeOf153 rfl rfl hni hi (by first | exact Nat.zero_add _ | rfl)) ?_
    refine d_take 5 rfl rfl (by kernel_rfl) (by kernel_rfl) (by kernel_rfl) rfl hS (v_loadAgg Tryz.isAgg153 Tryz.sizeOf153 rfl (cells_sc (k := 0) rfl) rfl) ?_
    refine d_take 6 rfl rfl (by kernel_rfl) (by kernel_rfl) (by kernel_rfl) rfl hS (v_move rfl) ?_
    refine d_take 7 rfl rfl (by kernel_rfl) (by kernel_rfl) (by kernel_rfl) rfl hS (v_move rfl) ?_
    refine d_take 8 rfl rfl (by kernel_rfl) (by kernel_rfl) (by kernel_rfl) rfl hS (v_nilCheck rfl) ?_
    refine d_take 9 rfl rfl (by kernel_rfl) (by kernel_rfl) (by kernel_rfl) rfl hS (v_fieldAddr rfl Tryz.underlying156 rfl Tryz.sizeOf85 rfl (by first | exact Nat.zero_add _ | rfl)) ?_
    refine d_take 10 rfl rfl (by kernel_rfl) (by kernel_rfl) (by kernel_rfl) rfl hS (v_idxArr Tryz.underlying85 Tryz.sizeOf4 rfl rfl hni hi (by first | exact Nat.zero_add _ | rfl)) ?_
    refine d_take 11 rfl rfl (by kernel_rfl) (by kernel_rfl) (by kernel_rfl) rfl hS (v_load Tryz.isAgg4 rfl (cell_sc1 (k := 1) rfl)) ?_
    refine d_one 12 (by kernel_rfl) rfl rfl (d_storeAll Tryz.sizeOf153 rfl rfl rfl rfl rfl) rfl ?_; clear hS
    rintro _ _ rfl
    refine ⟨(sc_cons (cells_part hpr rfl) (sc_cons (cells_part htr rfl) sc_end)), fun hS => ?_⟩
    refine d_take 13 rfl rfl (by kernel_rfl) (by kernel_rfl) (by kernel_rfl) rfl hS (v_assign rfl) ?_
    refine d_done (by kernel_rfl) ?_; clear hS
    refine n_then (x_ret (x_done (.inl rfl) (.cons (r_all Tryz.isAgg153 Tryz.sizeOf153 rfl rfl) (.cons (r_tmp rfl) .nil)) ?_))
    refine ⟨_, ⟨?_, rfl⟩, inferInstance⟩
    subst hni
    by_cases hz : plAt pg i = (0, 0)
    · have ht : thereB pg i = false := by simp [thereB, hz]
      simp [pack, gGot, ht, hz, thV]
    · have ht : thereB pg i = true := by simp [thereB, hz, hp]
      simp [pack, gGot, ht, hz, thV]
theorem rgAllows_spec (W0 : World) (R : List HP) (b : Nat) (pg : List Pl) (h : Pgs pg) (n kind : Int) : Spec Tryz.prog W0 201 [.pointer (some ⟨b, 0, none⟩), .int .i64 n, .int .i64 kind] (pt b (rgO pg) :: R)
    (fun v B => v = .int .i64 (alwE pg n kind) ∧ B = pt b (rgO pg) :: R) := by
  refine spec_body Tryz.func201 Tryz.ntmps201 rfl rfl ?_
  refine x_seq (x_region (s_val rfl (v_assign rfl) (x_nil (n_then (x_seq (x_region (s_val rfl (v_move rfl) (s_val rfl (v_move rfl) (s_do rfl (d_call1 Tryz.call202 rfl (rgGet_spec W0 _ b pg h n)) ?_)))))))))
  rintro _ B_ ⟨rfl, hB_⟩
  obtain rfl := hB_.symm
  refine s_val rfl (v_move rfl) (s_val rfl (v_extract rfl rfl) (s_val rfl (v_extract rfl rfl) (s_do rfl (d_allocA Tryz.zeroValue153) ?_)))
  rintro _ _ ⟨b1, rfl, rfl⟩
  refine s_do0 (d_storeAll Tryz.sizeOf153 rfl rfl rfl rfl rfl) ?_
  rintro _ _ rfl
  refine s_val rfl (v_assign rfl) (x_nil (n_then (x_seq (x_seq (x_region (s_val rfl (v_move rfl) (s_val rfl (v_not rfl) (x_nil (n_then ?_)))))))))
  refine x_if rfl ?_ ?_
  · intro c2
    refine x_seq (x_region (s_val rfl (v_assign rfl) (x_nil (n_then (x_ret (r_then (x_done (.inl rfl) (.cons (r_tmp rfl) .nil) ?_)))))))
    refine ⟨_, ⟨?_, rfl⟩, inferInstance⟩
    have ht : thereB pg n = false := by simpa using c2
    simp [pack, alwE, ht]
  · intro c2
    have ht : thereB pg n = true := by simpa using c2
    have hg := okPl_iff.1 (gGot_ok h ht)
    have hge : gGot pg n = plAt pg n.toNat := by simp [gGot, ht]
    refine x_skip (n_then (x_seq (x_seq (x_region (s_val rfl (v_move rfl) (s_val rfl (v_eql rfl rfl) (s_val rfl (v_move rfl) ?_)))))))
    refine s_and rfl rfl rfl ?_ ?_
    · intro g4_3
      refine s_val rfl (v_move rfl) (s_yes rfl rfl (s_val rfl (v_lss rfl rfl) (s_val rfl (v_pick_t rfl rfl) (s_val rfl (v_move rfl) ?_))))
      refine s_or rfl rfl rfl ?_ ?_
      · intro g4_7
        refine s_no rfl rfl rfl rfl (s_no rfl rfl rfl rfl (s_nou rfl rfl rfl (s_nou rfl rfl rfl (s_nou rfl rfl rfl (s_nou rfl rfl rfl (s_no rfl rfl rfl rfl (s_val rfl (v_pick_t rfl rfl) (s_val rfl (v_move rfl) (s_no rfl rfl rfl rfl (s_no rfl rfl rfl rfl (s_no rfl rfl rfl rfl (s_nou rfl rfl rfl (s_nou rfl rfl rfl (s_nou rfl rfl rfl (s_no rfl rfl rfl rfl (s_val rfl (v_pick_t rfl rfl) (x_nil (n_then (x_ift rfl (x_seq (x_region (s_val rfl (v_assign rfl) (x_nil ?_)))))))))))))))))))))))
        refine n_then (x_ret (r_then (x_done (.inl rfl) (.cons (r_tmp rfl) .nil) ?_)))
        refine ⟨_, ⟨?_, rfl⟩, inferInstance⟩
        have hm : mayB n (plAt pg n.toNat) kind = true := by
          rw [← hge]; simp only [mayB, decide_eq_true_eq]
          simp only [Int.tmod_eq_emod_of_nonneg (show 0 ≤ (gGot pg n).2 by omega)] at *
          omega
        simp [pack, alwE, ht, hm]
      · intro g4_7
        refine s_val rfl (v_move rfl) (s_yes rfl rfl (s_val rfl (v_eql rfl rfl) (s_yes rfl rfl (s_val rfl (v_move rfl) ?_))))
        refine s_and rfl rfl rfl ?_ ?_
        · intro g4_10
          refine s_val rfl (v_fieldAddr rfl Tryz.underlying153 rfl Tryz.sizeOf3 rfl (by first | exact Nat.zero_add _ | rfl)) ?_
          refine s_yes rfl rfl (s_val rfl (v_load Tryz.isAgg3 rfl (cell_own rfl)) ?_)
          refine s_yes rfl rfl ?_
          refine s_val rfl (v_rem rfl rfl (by decide) rfl) ?_
          refine s_yes rfl rfl (s_val rfl (v_eql rfl rfl) (s_yes rfl rfl (s_val rfl (v_pick_t rfl rfl) (s_val rfl (v_pick_f rfl rfl) (s_val rfl (v_move rfl) ?_)))))
          refine s_or rfl rfl rfl ?_ ?_
          · intro g4_17
            refine s_no rfl rfl rfl rfl (s_no rfl rfl rfl rfl (s_nou rfl rfl rfl (s_nou rfl rfl rfl (s_nou rfl rfl rfl (s_no rfl rfl rfl rfl (s_val rfl (v_pick_t rfl rfl) (x_nil (n_then (x_ift rfl (x_seq (x_region (s_val rfl (v_assign rfl) (x_nil (n_then (x_ret (r_then (x_done (.inl rfl) (.cons (r_tmp rfl) .nil) ?_)))))))))))))))))
            refine ⟨_, ⟨?_, rfl⟩, inferInstance⟩
            have hm : mayB n (plAt pg n.toNat) kind = true := by
              rw [← hge]; simp only [mayB, decide_eq_true_eq]
              simp only [Int.tmod_eq_emod_of_nonneg (show 0 ≤ (gGot pg n).2 by omega)] at *
              omega
            simp [pack, alwE, ht, hm]
          · intro g4_17
            refine s_val rfl (v_move rfl) (s_yes rfl rfl (s_val rfl (v_eql rfl rfl) (s_yes rfl rfl (s_val rfl (v_move rfl) ?_))))
            refine s_and rfl rfl rfl ?_ ?_
            · intro g4_20
              refine s_val rfl (v_fieldAddr rfl Tryz.underlying153 rfl Tryz.sizeOf3 rfl (by first | exact Nat.zero_add _ | rfl)) ?_
              refine s_yes rfl rfl (s_val rfl (v_load Tryz.isAgg3 rfl (cell_own rfl)) ?_)
              refine s_yes rfl rfl (s_val rfl (v_geq rfl rfl) (s_yes rfl rfl (s_val rfl (v_pick_t rfl rfl) (s_val rfl (v_pick_f rfl rfl) (x_nil (n_then ?_))))))
              refine x_if rfl ?_ ?_
              · intro c4
                refine x_seq (x_region (s_val rfl (v_assign rfl) (x_nil (n_then (x_ret (r_then (x_done (.inl rfl) (.cons (r_tmp rfl) .nil) ?_)))))))
                refine ⟨_, ⟨?_, rfl⟩, inferInstance⟩
                have hm : mayB n (plAt pg n.toNat) kind = true := by
                  rw [← hge]; simp only [mayB, decide_eq_true_eq]
                  simp only [Int.tmod_eq_emod_of_nonneg (show 0 ≤ (gGot pg n).2 by omega)] at *
                  omega
                simp [pack, alwE, ht, hm]
              · intro c4
                refine x_skip (n_then (x_seq (x_region (s_val rfl (v_assign rfl) (x_nil (n_then (x_ret (x_done (.inl rfl) (.cons (r_tmp rfl) .nil) ?_))))))))
                refine ⟨_, ⟨?_, rfl⟩, inferInstance⟩
                have hm : mayB n (plAt pg n.toNat) kind = false := by
                  rw [← hge, ← Bool.not_eq_true]; simp only [mayB, decide_eq_true_eq]
                  simp only [Int.tmod_eq_emod_of_nonneg (show 0 ≤ (gGot pg n).2 by omega)] at *
                  omega
                simp [pack, alwE, ht, hm]
            · intro g4_20
              refine s_no rfl rfl rfl rfl (s_no rfl rfl rfl rfl (s_yes rfl rfl (s_val rfl (v_pick_f rfl rfl) (s_val rfl (v_pick_f rfl rfl) (x_nil (n_then (x_iff rfl (x_skip (n_then (x_seq (x_region (s_val rfl (v_assign rfl) (x_nil (n_then (x_ret (x_done (.inl rfl) (.cons (r_tmp rfl) .nil) ?_))))))))))))))))
              refine ⟨_, ⟨?_, rfl⟩, inferInstance⟩
              have hm : mayB n (plAt pg n.toNat) kind = false := by
                rw [← hge, ← Bool.not_eq_true]; simp only [mayB, decide_eq_true_eq]
                simp only [Int.tmod_eq_emod_of_nonneg (show 0 ≤ (gGot pg n).2 by omega)] at *
                omega
              simp [pack, alwE, ht, hm]
        · intro g4_10
          refine s_no rfl rfl rfl rfl (s_no rfl rfl rfl rfl (s_no rfl rfl rfl rfl (s_yes rfl rfl (s_val rfl (v_pick_f rfl rfl) (s_val rfl (v_pick_f rfl rfl) (s_val rfl (v_move rfl) (s_yes rfl rfl (s_val rfl (v_move rfl) (s_yes rfl rfl (s_val rfl (v_eql rfl rfl) (s_yes rfl rfl (s_val rfl (v_move rfl) ?_))))))))))))
          refine s_and rfl rfl rfl ?_ ?_
          · intro g4_20
            refine s_val rfl (v_fieldAddr rfl Tryz.underlying153 rfl Tryz.sizeOf3 rfl (by first | exact Nat.zero_add _ | rfl)) ?_
            refine s_yes rfl rfl (s_val rfl (v_load Tryz.isAgg3 rfl (cell_own rfl)) ?_)
            refine s_yes rfl rfl (s_val rfl (v_geq rfl rfl) (s_yes rfl rfl (s_val rfl (v_pick_t rfl rfl) (s_val rfl (v_pick_f rfl rfl) (x_nil (n_then ?_))))))
            refine x_if rfl ?_ ?_
            · intro c4
              refine x_seq (x_region (s_val rfl (v_assign rfl) (x_nil (n_then (x_ret (r_then (x_done (.inl rfl) (.cons (r_tmp rfl) .nil) ?_)))))))
              refine ⟨_, ⟨?_, rfl⟩, inferInstance⟩
              have hm : mayB n (plAt pg n.toNat) kind = true := by
                rw [← hge]; simp only [mayB, decide_eq_true_eq]
                simp only [Int.tmod_eq_emod_of_nonneg (show 0 ≤ (gGot pg n).2 by omega)] at *
                omega
              simp [pack, alwE, ht, hm]
            · intro c4
              refine x_skip (n_then (x_seq (x_region (s_val rfl (v_assign rfl) (x_nil (n_then (x_ret (x_done (.inl rfl) (.cons (r_tmp rfl) .nil) ?_))))))))
              refine ⟨_, ⟨?_, rfl⟩, inferInstance⟩
              have hm : mayB n (plAt pg n.toNat) kind = false := by
                rw [← hge, ← Bool.not_eq_true]; simp only [mayB, decide_eq_true_eq]
                simp only [Int.tmod_eq_emod_of_nonneg (show 0 ≤ (gGot pg n).2 by omega)] at *
                omega
              simp [pack, alwE, ht, hm]
          · intro g4_20
            refine s_no rfl rfl rfl rfl (s_no rfl rfl rfl rfl (s_yes rfl rfl (s_val rfl (v_pick_f rfl rfl) (s_val rfl (v_pick_f rfl rfl) (x_nil (n_then (x_iff rfl (x_skip (n_then (x_seq (x_region (s_val rfl (v_assign rfl) (x_nil (n_then (x_ret (x_done (.inl rfl) (.cons (r_tmp rfl) .nil) ?_))))))))))))))))
            refine ⟨_, ⟨?_, rfl⟩, inferInstance⟩
            have hm : mayB n (plAt pg n.toNat) kind = false := by
              rw [← hge, ← Bool.not_eq_true]; simp only [mayB, decide_eq_true_eq]
              simp only [Int.tmod_eq_emod_of_nonneg (show 0 ≤ (gGot pg n).2 by omega)] at *
              omega
            simp [pack, alwE, ht, hm]
    · intro g4_3
      refine s_no rfl rfl rfl rfl (s_val rfl (v_pick_f rfl rfl) (s_val rfl (v_move rfl) (s_yes rfl rfl (s_val rfl (v_move rfl) (s_yes rfl rfl (s_val rfl (v_eql rfl rfl) (s_yes rfl rfl (s_val rfl (v_move rfl) ?_))))))))
      refine s_and rfl rfl rfl ?_ ?_
      · intro g4_10
        refine s_val rfl (v_fieldAddr rfl Tryz.underlying153 rfl Tryz.sizeOf3 rfl (by first | exact Nat.zero_add _ | rfl)) ?_
        refine s_yes rfl rfl (s_val rfl (v_load Tryz.isAgg3 rfl (cell_own rfl)) ?_)
        refine s_yes rfl rfl ?_
        refine s_val rfl (v_rem rfl rfl (by decide) rfl) ?_
        refine s_yes rfl rfl (s_val rfl (v_eql rfl rfl) (s_yes rfl rfl (s_val rfl (v_pick_t rfl rfl) (s_val rfl (v_pick_f rfl rfl) (s_val rfl (v_move rfl) ?_)))))
        refine s_or rfl rfl rfl ?_ ?_
        · intro g4_17
          refine s_no rfl rfl rfl rfl (s_no rfl rfl rfl rfl (s_nou rfl rfl rfl (s_nou rfl rfl rfl (s_nou rfl rfl rfl (s_no rfl rfl rfl rfl (s_val rfl (v_pick_t rfl rfl) (x_nil (n_then (x_ift rfl (x_seq (x_region (s_val rfl (v_assign rfl) (x_nil (n_then (x_ret (r_then (x_done (.inl rfl) (.cons (r_tmp rfl) .nil) ?_)))))))))))))))))
          refine ⟨_, ⟨?_, rfl⟩, inferInstance⟩
          have hm : mayB n (plAt pg n.toNat) kind = true := by
            rw [← hge]; simp only [mayB, decide_eq_true_eq]
            simp only [Int.tmod_eq_emod_of_nonneg (show 0 ≤ (gGot pg n).2 by omega)] at *
            omega
          simp [pack, alwE, ht, hm]
        · intro g4_17
          refine s_val rfl (v_move rfl) (s_yes rfl rfl (s_val rfl (v_eql rfl rfl) (s_yes rfl rfl (s_val rfl (v_move rfl) ?_))))
          refine s_and rfl rfl rfl ?_ ?_
          · intro g4_20
            refine s_val rfl (v_fieldAddr rfl Tryz.underlying153 rfl Tryz.sizeOf3 rfl (by first | exact Nat.zero_add _ | rfl)) ?_
            refine s_yes rfl rfl (s_val rfl (v_load Tryz.isAgg3 rfl (cell_own rfl)) ?_)
            refine s_yes rfl rfl (s_val rfl (v_geq rfl rfl) (s_yes rfl rfl (s_val rfl (v_pick_t rfl rfl) (s_val rfl (v_pick_f rfl rfl) (x_nil (n_then ?_))))))
            refine x_if rfl ?_ ?_
            · intro c4
              refine x_seq (x_region (s_val rfl (v_assign rfl) (x_nil (n_then (x_ret (r_then (x_done (.inl rfl) (.cons (r_tmp rfl) .nil) ?_)))))))
              refine ⟨_, ⟨?_, rfl⟩, inferInstance⟩
              have hm : mayB n (plAt pg n.toNat) kind = true := by
                rw [← hge]; simp only [mayB, decide_eq_true_eq]
                simp only [Int.tmod_eq_emod_of_nonneg (show 0 ≤ (gGot pg n).2 by omega)] at *
                omega
              simp [pack, alwE, ht, hm]
            · intro c4
              refine x_skip (n_then (x_seq (x_region (s_val rfl (v_assign rfl) (x_nil (n_then (x_ret (x_done (.inl rfl) (.cons (r_tmp rfl) .nil) ?_))))))))
              refine ⟨_, ⟨?_, rfl⟩, inferInstance⟩
              have hm : mayB n (plAt pg n.toNat) kind = false := by
                rw [← hge, ← Bool.not_eq_true]; simp only [mayB, decide_eq_true_eq]
                simp only [Int.tmod_eq_emod_of_nonneg (show 0 ≤ (gGot pg n).2 by omega)] at *
                omega
              simp [pack, alwE, ht, hm]
          · intro g4_20
            refine s_no rfl rfl rfl rfl (s_no rfl rfl rfl rfl (s_yes rfl rfl (s_val rfl (v_pick_f rfl rfl) (s_val rfl (v_pick_f rfl rfl) (x_nil (n_then (x_iff rfl (x_skip (n_then (x_seq (x_region (s_val rfl (v_assign rfl) (x_nil (n_then (x_ret (x_done (.inl rfl) (.cons (r_tmp rfl) .nil) ?_))))))))))))))))
            refine ⟨_, ⟨?_, rfl⟩, inferInstance⟩
            have hm : mayB n (plAt pg n.toNat) kind = false := by
              rw [← hge, ← Bool.not_eq_true]; simp only [mayB, decide_eq_true_eq]
              simp only [Int.tmod_eq_emod_of_nonneg (show 0 ≤ (gGot pg n).2 by omega)] at *
              omega
            simp [pack, alwE, ht, hm]
      · intro g4_10
        refine s_no rfl rfl rfl rfl (s_no rfl rfl rfl rfl (s_no rfl rfl rfl rfl (s_yes rfl rfl (s_val rfl (v_pick_f rfl rfl) (s_val rfl (v_pick_f rfl rfl) (s_val rfl (v_move rfl) (s_yes rfl rfl (s_val rfl (v_move rfl) (s_yes rfl rfl (s_val rfl (v_eql rfl rfl) (s_yes rfl rfl (s_val rfl (v_move rfl) ?_))))))))))))
        refine s_and rfl rfl rfl ?_ ?_
        · intro g4_20
          refine s_val rfl (v_fieldAddr rfl Tryz.underlying153 rfl Tryz.sizeOf3 rfl (by first | exact Nat.zero_add _ | rfl)) ?_
          refine s_yes rfl rfl (s_val rfl (v_load Tryz.isAgg3 rfl (cell_own rfl)) ?_)
          refine s_yes rfl rfl (s_val rfl (v_geq rfl rfl) (s_yes rfl rfl (s_val rfl (v_pick_t rfl rfl) (s_val rfl (v_pick_f rfl rfl) (x_nil (n_then ?_))))))
          refine x_if rfl ?_ ?_
          · intro c4
            refine x_seq (x_region (s_val rfl (v_assign rfl) (x_nil (n_then (x_ret (r_then (x_done (.inl rfl) (.cons (r_tmp rfl) .nil) ?_)))))))
            refine ⟨_, ⟨?_, rfl⟩, inferInstance⟩
            have hm : mayB n (plAt pg n.toNat) kind = true := by
              rw [← hge]; simp only [mayB, decide_eq_true_eq]
              simp only [Int.tmod_eq_emod_of_nonneg (show 0 ≤ (gGot pg n).2 by omega)] at *
              omega
            simp [pack, alwE, ht, hm]
          · intro c4
            refine x_skip (n_then (x_seq (x_region (s_val rfl (v_assign rfl) (x_nil (n_then (x_ret (x_done (.inl rfl) (.cons (r_tmp rfl) .nil) ?_))))))))
            refine ⟨_, ⟨?_, rfl⟩, inferInstance⟩
            have hm : mayB n (plAt pg n.toNat) kind = false := by
              rw [← hge, ← Bool.not_eq_true]; simp only [mayB, decide_eq_true_eq]
              simp only [Int.tmod_eq_emod_of_nonneg (show 0 ≤ (gGot pg n).2 by omega)] at *
              omega
            simp [pack, alwE, ht, hm]
        · intro g4_20
          refine s_no rfl rfl rfl rfl (s_no rfl rfl rfl rfl (s_yes rfl rfl (s_val rfl (v_pick_f rfl rfl) (s_val rfl (v_pick_f rfl rfl) (x_nil (n_then (x_iff rfl (x_skip (n_then (x_seq (x_region (s_val rfl (v_assign rfl) (x_nil (n_then (x_ret (x_done (.inl rfl) (.cons (r_tmp rfl) .nil) ?_))))))))))))))))
          refine ⟨_, ⟨?_, rfl⟩, inferInstance⟩
          have hm : mayB n (plAt pg n.toNat) kind = false := by
            rw [← hge, ← Bool.not_eq_true]; simp only [mayB, decide_eq_true_eq]
            simp only [Int.tmod_eq_emod_of_nonneg (show 0 ≤ (gGot pg n).2 by omega)] at *
            omega
          simp [pack, alwE, ht, hm]
end Go.Proofs.YtlnmofhehcilhaaGreat
namespace Go.Proofs.YtlnmofhehcilhaaGreat
open Go.RowKit
set_option linter.unusedSimpArgs false
set_option linter.unusedVariables false
set_option maxRecDepth 20000
theorem isF_iff {n : Nat} {f : Int} : isF n f = true ↔ 0 ≤ f ∧ f < n := by simp [isF]
def wrV (d : Nat) : List Value := (List.range 12).map (fun i => .bool (Nat.testBit d i))
abbrev rvO (qs qm d : Nat) : Obj := cob (.pointer (some ⟨qs, 0, none⟩) :: .pointer (some ⟨qm, 0, none⟩) :: wrV d) 87
theorem rvFind_spec (W0 : World) (R : List HP) (qv qs qm d : Nat) (fr : List Frm) (pg : List Pl) (h : Pgs pg) (pa : Nat) (hpa : pa < 4294967296) (w kind : Int) :
    Spec Tryz.prog W0 125 [.pointer (some ⟨qv, 0, none⟩), .int .u32 pa, .int .i64 w, .int .i64 kind] (pt qv (rvO qs qm d) :: rstoH qs fr :: pt qm (rgO pg) :: R)
      (fun v B => v = .tuple #[.agg (fndV fr.length pg pa w kind).toArray, .int .i64 (fndE fr.length pg pa w kind)] ∧ B = pt qv (rvO qs qm d) :: rstoH qs fr :: pt qm (rgO pg) :: R) := by
  refine spec_body Tryz.func125 Tryz.ntmps125 rfl rfl ?_
  refine x_seq (x_region (s_do rfl (d_allocA Tryz.zeroValue207) ?_))
  rintro _ _ ⟨b1, rfl, rfl⟩
  refine s_val rfl (v_assign rfl) (x_nil (n_then (x_seq (x_seq (x_region (s_val rfl (v_move rfl) (s_val rfl (v_neq rfl rfl) (s_val rfl (v_move rfl) ?_))))))))
  refine s_and rfl rfl rfl ?_ ?_
  · intro g1_3
    refine s_val rfl (v_move rfl) (s_yes rfl rfl (s_val rfl (v_neq rfl rfl) (s_val rfl (v_pick_t rfl rfl) (s_val rfl (v_move rfl) ?_))))
    refine s_and rfl rfl rfl ?_ ?_
    · intro g1_7
      refine s_val rfl (v_move rfl) (s_yes rfl rfl (s_val rfl (v_neq rfl rfl) (s_val rfl (v_pick_t rfl rfl) (s_val rfl (v_move rfl) ?_))))
      refine s_or rfl rfl rfl ?_ ?_
      · intro g1_11
        refine s_no rfl rfl rfl rfl (s_no rfl rfl rfl rfl (s_no rfl rfl rfl rfl (s_no rfl rfl rfl rfl (s_val rfl (v_pick_t rfl rfl) (x_nil (n_then (x_ift rfl (x_seq (x_region (s_val rfl (v_build Tryz.underlying207 Tryz.zeroValue207 (sized_cons Tryz.sizeOf3 (sized_cons Tryz.sizeOf3 (sized_cons Tryz.sizeOf3 (sized_cons Tryz.sizeOf4 sized_nil)))) fil_nil) ?_))))))))))
        refine s_do0 (d_storeAll Tryz.sizeOf207 rfl rfl rfl rfl rfl) ?_
        rintro _ _ rfl
        refine s_val rfl (v_assign rfl) (x_nil (n_then (x_ret (r_then (x_done (.inl rfl) (.cons (r_all Tryz.isAgg207 Tryz.sizeOf207 rfl rfl) (.cons (r_tmp rfl) .nil)) ?_)))))
        refine ⟨_, ⟨?_, rfl⟩, inferInstance⟩
        have ha : alB pa w = false := by
          rw [← Bool.not_eq_true]; simp only [alB, decide_eq_true_eq]
          rintro ⟨q1, q2⟩
          first
            | omega
            | (rcases q1 with rfl | rfl | rfl <;> omega)
        have he : fndE fr.length pg pa w kind = 1 := by simp [fndE, ha]
        simp [pack, fndV, he]
      · intro g1_11
        refine s_val rfl (v_move rfl) (s_yes rfl rfl (s_val rfl (v_move rfl) (s_yes rfl rfl ?_)))
        refine s_val rfl (v_conv Tryz.underlying3 Tryz.underlying47 rfl (w32u (by omega))) ?_
        refine s_yes rfl rfl ?_
        refine s_val rfl (v_rem rfl rfl (by omega) (Int.tmod_eq_emod_of_nonneg (by omega))) ?_
        refine s_yes rfl rfl (s_val rfl (v_neq rfl rfl) (s_val rfl (v_pick_f rfl rfl) (x_nil (n_then ?_))))
        refine x_if rfl ?_ ?_
        · intro c1
          refine x_seq (x_region (s_val rfl (v_build Tryz.underlying207 Tryz.zeroValue207 (sized_cons Tryz.sizeOf3 (sized_cons Tryz.sizeOf3 (sized_cons Tryz.sizeOf3 (sized_cons Tryz.sizeOf4 sized_nil)))) fil_nil) ?_))
          refine s_do0 (d_storeAll Tryz.sizeOf207 rfl rfl rfl rfl rfl) ?_
          rintro _ _ rfl
          refine s_val rfl (v_assign rfl) (x_nil (n_then (x_ret (r_then (x_done (.inl rfl) (.cons (r_all Tryz.isAgg207 Tryz.sizeOf207 rfl rfl) (.cons (r_tmp rfl) .nil)) ?_)))))
          refine ⟨_, ⟨?_, rfl⟩, inferInstance⟩
          have ha : alB pa w = false := by
            rw [← Bool.not_eq_true]; simp only [alB, decide_eq_true_eq]
            rintro ⟨q1, q2⟩
            first
              | omega
              | (rcases q1 with rfl | rfl | rfl <;> omega)
          have he : fndE fr.length pg pa w kind = 1 := by simp [fndE, ha]
          simp [pack, fndV, he]
        · intro c1
          have ha : alB pa w = true := by
            simp only [alB, decide_eq_true_eq]
            refine ⟨by omega, ?_⟩
            have : w = 1 ∨ w = 2 ∨ w = 4 := by omega
            rcases this with rfl | rfl | rfl <;> omega
          refine x_skip (n_then (x_seq (x_seq (x_region (s_val rfl (v_move rfl) (s_val rfl (v_geq rfl rfl) (x_nil (n_then ?_))))))))
          refine x_if rfl ?_ ?_
          · intro c3
            refine x_seq (x_region (s_val rfl (v_build Tryz.underlying207 Tryz.zeroValue207 (sized_cons Tryz.sizeOf3 (sized_cons Tryz.sizeOf3 (sized_cons Tryz.sizeOf3 (sized_cons Tryz.sizeOf4 sized_nil)))) fil_nil) ?_))
            refine s_do0 (d_storeAll Tryz.sizeOf207 rfl rfl rfl rfl rfl) ?_
            rintro _ _ rfl
            refine s_val rfl (v_assign rfl) (x_nil (n_then (x_ret (r_then (x_done (.inl rfl) (.cons (r_all Tryz.isAgg207 Tryz.sizeOf207 rfl rfl) (.cons (r_tmp rfl) .nil)) ?_)))))
            refine ⟨_, ⟨?_, rfl⟩, inferInstance⟩
            have he : fndE fr.length pg pa w kind = 2 := by unfold fndE; rw [if_pos ha, if_neg (by omega)]
            simp [pack, fndV, he]
          · intro c3
            refine x_skip (n_then (x_seq (x_region (s_val rfl (v_move rfl) ?_))))
            refine s_val rfl (v_quo rfl rfl (by decide) ((congrArg (IntKind.wrap .u32) (tdivN pa 64)).trans (w32u (by omega)))) ?_
            refine s_val rfl (v_conv Tryz.underlying47 Tryz.underlying3 rfl (w64 (by omega))) ?_
            refine s_val rfl (v_assign rfl) (x_nil (n_then (x_seq (x_region (s_val rfl (v_move rfl) (s_val rfl (v_nilCheck rfl) ?_))))))
            refine s_val rfl (v_fieldAddr rfl Tryz.underlying87 rfl Tryz.sizeOf84 rfl (by first | exact Nat.zero_add _ | rfl)) ?_
            refine s_val rfl (v_load Tryz.isAgg84 rfl (cell_own rfl)) ?_
            refine s_val rfl (v_move rfl) (s_val rfl (v_move rfl) (s_do rfl (d_call1 Tryz.call201 rfl (rgAllows_spec W0 _ qm pg h ((pa / 64 : Nat) : Int) kind)) ?_))
            rintro _ B_ ⟨rfl, hB_⟩
            obtain rfl := hB_.symm
            refine s_val rfl (v_assign rfl) (x_nil (n_then (x_seq (x_seq (x_region (s_val rfl (v_move rfl) (s_val rfl (v_neq rfl rfl) (x_nil (n_then ?_)))))))))
            refine x_if rfl ?_ ?_
            · intro c7
              refine x_seq (x_region (s_val rfl (v_build Tryz.underlying207 Tryz.zeroValue207 (sized_cons Tryz.sizeOf3 (sized_cons Tryz.sizeOf3 (sized_cons Tryz.sizeOf3 (sized_cons Tryz.sizeOf4 sized_nil)))) fil_nil) ?_))
              refine s_val rfl (v_move rfl) (s_do0 (d_storeAll Tryz.sizeOf207 rfl rfl rfl rfl rfl) ?_)
              rintro _ _ rfl
              refine s_val rfl (v_assign rfl) (x_nil (n_then (x_ret (r_then (x_done (.inl rfl) (.cons (r_all Tryz.isAgg207 Tryz.sizeOf207 rfl rfl) (.cons (r_tmp rfl) .nil)) ?_)))))
              refine ⟨_, ⟨?_, rfl⟩, inferInstance⟩
              have he : fndE fr.length pg pa w kind = alwE pg ((pa / 64 : Nat) : Int) kind := by unfold fndE; rw [if_pos ha, if_pos (by omega), if_neg c7]
              rw [fndV, if_neg (by rw [he]; exact c7), he]; rfl
            · intro c7
              have hz : alwE pg ((pa / 64 : Nat) : Int) kind = 0 := by simpa using c7
              have hth : thereB pg ((pa / 64 : Nat) : Int) = true := by
                unfold alwE at hz; split at hz
                · assumption
                · omega
              have hk := okPl_iff.1 (gGot_ok h hth)
              refine x_skip (n_then (x_seq (x_region (s_val rfl (v_move rfl) (s_val rfl (v_nilCheck rfl) ?_)))))
              refine s_val rfl (v_fieldAddr rfl Tryz.underlying87 rfl Tryz.sizeOf84 rfl (by first | exact Nat.zero_add _ | rfl)) ?_
              refine s_val rfl (v_load Tryz.isAgg84 rfl (cell_own rfl)) ?_
              refine s_val rfl (v_move rfl) (s_do rfl (d_call1 Tryz.call202 rfl (rgGet_spec W0 _ qm pg h ((pa / 64 : Nat) : Int))) ?_)
              rintro _ B_ ⟨rfl, hB_⟩
              obtain rfl := hB_.symm
              refine s_val rfl (v_move rfl) (s_val rfl (v_extract rfl rfl) (s_val rfl (v_extract rfl rfl) (s_do rfl (d_allocA Tryz.zeroValue153) ?_)))
              rintro _ _ ⟨bp, rfl, rfl⟩
              refine s_do0 (d_storeAll Tryz.sizeOf153 rfl rfl rfl rfl rfl) ?_
              rintro _ _ rfl
              refine s_val rfl (v_assign rfl) (x_nil (n_then (x_seq (x_seq ?_))))
              refine x_draw [(bp, 0, _), (qv, 0, _)] 8 mixed rfl (sc_own (sc_own sc_end)) (fun hS => ?_)
              refine d_take 0 rfl rfl (by kernel_rfl) (by kernel_rfl) (by kernel_rfl) rfl hS (v_move rfl) ?_
              refine d_take 1 rfl rfl (by kernel_rfl) (by kernel_rfl) (by kernel_rfl) rfl hS (v_nilCheck rfl) ?_
              refine d_take 2 rfl rfl (by kernel_rfl) (by kernel_rfl) (by kernel_rfl) rfl hS (v_fieldAddr rfl Tryz.underlying87 rfl Tryz.sizeOf83 rfl (by first | exact Nat.zero_add _ | rfl)) ?_
              refine d_take 3 rfl rfl (by kernel_rfl) (by kernel_rfl) (by kernel_rfl) rfl hS (v_load Tryz.isAgg83 rfl (by first | exact cell_sc0 (k := 0) rfl rfl | exact cell_sc0 (k := 1) rfl rfl)) ?_
              refine d_take 4 rfl rfl (by kernel_rfl) (by kernel_rfl) (by kernel_rfl) rfl hS (v_fieldAddr rfl Tryz.underlying153 rfl Tryz.sizeOf3 rfl (by first | exact Nat.zero_add _ | rfl)) ?_
              refine d_take 5 rfl rfl (by kernel_rfl) (by kernel_rfl) (by kernel_rfl) rfl hS (v_load Tryz.isAgg3 rfl (by first | exact cell_sc0 (k := 0) rfl rfl | exact cell_sc0 (k := 1) rfl rfl)) ?_
              refine d_one 6 (by kernel_rfl) rfl rfl (d_call1 Tryz.call203 rfl (rfIs_spec W0 _ qs fr _)) rfl ?_; clear hS
              rintro _ B_ ⟨rfl, hB_⟩
              obtain rfl := hB_.symm
              refine ⟨(sc_own (sc_own sc_end)), fun hS => ?_⟩
              refine d_take 7 rfl rfl (by kernel_rfl) (by kernel_rfl) (by kernel_rfl) rfl hS (v_not rfl) ?_
              refine d_done (by kernel_rfl) ?_; clear hS
              refine n_then ?_
              refine x_if rfl ?_ ?_
              · intro c10
                refine x_seq (x_region (s_val rfl (v_build Tryz.underlying207 Tryz.zeroValue207 (sized_cons Tryz.sizeOf3 (sized_cons Tryz.sizeOf3 (sized_cons Tryz.sizeOf3 (sized_cons Tryz.sizeOf4 sized_nil)))) fil_nil) ?_))
                refine s_do0 (d_storeAll Tryz.sizeOf207 rfl rfl rfl rfl rfl) ?_
                rintro _ _ rfl
                refine s_val rfl (v_assign rfl) (x_nil (n_then (x_ret (r_then (x_done (.inl rfl) (.cons (r_all Tryz.isAgg207 Tryz.sizeOf207 rfl rfl) (.cons (r_tmp rfl) .nil)) ?_)))))
                refine ⟨_, ⟨?_, rfl⟩, inferInstance⟩
                have hn : ¬ (gGot pg ((pa / 64 : Nat) : Int)).1 < fr.length := by
                  rw [isF_iff] at c10; omega
                have he : fndE fr.length pg pa w kind = 7 := by unfold fndE; rw [if_pos ha, if_pos (by omega), if_pos hz, if_neg hn]
                simp [pack, fndV, he]
              · intro c10
                refine x_skip (n_then (x_seq (x_region (s_val rfl (v_move rfl) ?_))))
                refine s_val rfl (v_fieldAddr rfl Tryz.underlying153 rfl Tryz.sizeOf3 rfl (by first | exact Nat.zero_add _ | rfl)) ?_
                refine s_val rfl (v_load Tryz.isAgg3 rfl (cell_own rfl)) ?_
                refine s_val rfl (v_move rfl) ?_
                refine s_val rfl (v_rem rfl rfl (by decide) (tmodN pa 64)) ?_
                refine s_val rfl (v_conv Tryz.underlying47 Tryz.underlying3 rfl (w64 (by omega))) ?_
                refine s_val rfl (v_build Tryz.underlying207 Tryz.zeroValue207 (sized_cons Tryz.sizeOf3 (sized_cons Tryz.sizeOf3 (sized_cons Tryz.sizeOf3 (sized_cons Tryz.sizeOf4 sized_nil)))) (fil_scal rfl Tryz.sizeOf3 rfl rfl (Nat.le_of_ble_eq_true rfl) SetL.eq (fil_scal rfl Tryz.sizeOf3 rfl rfl (Nat.le_of_ble_eq_true rfl) SetL.eq (fil_scal rfl Tryz.sizeOf3 rfl rfl (Nat.le_of_ble_eq_true rfl) SetL.eq fil_nil)))) ?_
                refine s_do0 (d_storeAll Tryz.sizeOf207 rfl rfl rfl rfl rfl) ?_
                rintro _ _ rfl
                refine s_val rfl (v_assign rfl) (x_nil (n_then (x_ret (x_done (.inl rfl) (.cons (r_all Tryz.isAgg207 Tryz.sizeOf207 rfl rfl) (.cons (r_tmp rfl) .nil)) ?_))))
                refine ⟨_, ⟨?_, rfl⟩, inferInstance⟩
                have hn : (gGot pg ((pa / 64 : Nat) : Int)).1 < fr.length := by
                  rw [isF_iff] at c10; omega
                have he : fndE fr.length pg pa w kind = 0 := by unfold fndE; rw [if_pos ha, if_pos (by omega), if_pos hz, if_pos hn]
                simp [pack, fndV, he]
    · intro g1_7
      refine s_no rfl rfl rfl rfl (s_val rfl (v_pick_f rfl rfl) (s_val rfl (v_move rfl) (s_yes rfl rfl (s_val rfl (v_move rfl) (s_yes rfl rfl (s_val rfl (v_move rfl) (s_yes rfl rfl ?_)))))))
      refine s_val rfl (v_conv Tryz.underlying3 Tryz.underlying47 rfl (w32u (by omega))) ?_
      refine s_yes rfl rfl ?_
      refine s_val rfl (v_rem rfl rfl (by omega) (Int.tmod_eq_emod_of_nonneg (by omega))) ?_
      refine s_yes rfl rfl (s_val rfl (v_neq rfl rfl) (s_val rfl (v_pick_f rfl rfl) (x_nil (n_then ?_))))
      refine x_if rfl ?_ ?_
      · intro c1
        refine x_seq (x_region (s_val rfl (v_build Tryz.underlying207 Tryz.zeroValue207 (sized_cons Tryz.sizeOf3 (sized_cons Tryz.sizeOf3 (sized_cons Tryz.sizeOf3 (sized_cons Tryz.sizeOf4 sized_nil)))) fil_nil) ?_))
        refine s_do0 (d_storeAll Tryz.sizeOf207 rfl rfl rfl rfl rfl) ?_
        rintro _ _ rfl
        refine s_val rfl (v_assign rfl) (x_nil (n_then (x_ret (r_then (x_done (.inl rfl) (.cons (r_all Tryz.isAgg207 Tryz.sizeOf207 rfl rfl) (.cons (r_tmp rfl) .nil)) ?_)))))
        refine ⟨_, ⟨?_, rfl⟩, inferInstance⟩
        have ha : alB pa w = false := by
          rw [← Bool.not_eq_true]; simp only [alB, decide_eq_true_eq]
          rintro ⟨q1, q2⟩
          first
            | omega
            | (rcases q1 with rfl | rfl | rfl <;> omega)
        have he : fndE fr.length pg pa w kind = 1 := by simp [fndE, ha]
        simp [pack, fndV, he]
      · intro c1
        have ha : alB pa w = true := by
          simp only [alB, decide_eq_true_eq]
          refine ⟨by omega, ?_⟩
          have : w = 1 ∨ w = 2 ∨ w = 4 := by omega
          rcases this with rfl | rfl | rfl <;> omega
        refine x_skip (n_then (x_seq (x_seq (x_region (s_val rfl (v_move rfl) (s_val rfl (v_geq rfl rfl) (x_nil (n_then ?_))))))))
        refine x_if rfl ?_ ?_
        · intro c3
          refine x_seq (x_region (s_val rfl (v_build Tryz.underlying207 Tryz.zeroValue207 (sized_cons Tryz.sizeOf3 (sized_cons Tryz.sizeOf3 (sized_cons Tryz.sizeOf3 (sized_cons Tryz.sizeOf4 sized_nil)))) fil_nil) ?_))
          refine s_do0 (d_storeAll Tryz.sizeOf207 rfl rfl rfl rfl rfl) ?_
          rintro _ _ rfl
          refine s_val rfl (v_assign rfl) (x_nil (n_then (x_ret (r_then (x_done (.inl rfl) (.cons (r_all Tryz.isAgg207 Tryz.sizeOf207 rfl rfl) (.cons (r_tmp rfl) .nil)) ?_)))))
          refine ⟨_, ⟨?_, rfl⟩, inferInstance⟩
          have he : fndE fr.length pg pa w kind = 2 := by unfold fndE; rw [if_pos ha, if_neg (by omega)]
          simp [pack, fndV, he]
        · intro c3
          refine x_skip (n_then (x_seq (x_region (s_val rfl (v_move rfl) ?_))))
          refine s_val rfl (v_quo rfl rfl (by decide) ((congrArg (IntKind.wrap .u32) (tdivN pa 64)).trans (w32u (by omega)))) ?_
          refine s_val rfl (v_conv Tryz.underlying47 Tryz.underlying3 rfl (w64 (by omega))) ?_
          refine s_val rfl (v_assign rfl) (x_nil (n_then (x_seq (x_region (s_val rfl (v_move rfl) (s_val rfl (v_nilCheck rfl) ?_))))))
          refine s_val rfl (v_fieldAddr rfl Tryz.underlying87 rfl Tryz.sizeOf84 rfl (by first | exact Nat.zero_add _ | rfl)) ?_
          refine s_val rfl (v_load Tryz.isAgg84 rfl (cell_own rfl)) ?_
          refine s_val rfl (v_move rfl) (s_val rfl (v_move rfl) (s_do rfl (d_call1 Tryz.call201 rfl (rgAllows_spec W0 _ qm pg h ((pa / 64 : Nat) : Int) kind)) ?_))
          rintro _ B_ ⟨rfl, hB_⟩
          obtain rfl := hB_.symm
          refine s_val rfl (v_assign rfl) (x_nil (n_then (x_seq (x_seq (x_region (s_val rfl (v_move rfl) (s_val rfl (v_neq rfl rfl) (x_nil (n_then ?_)))))))))
          refine x_if rfl ?_ ?_
          · intro c7
            refine x_seq (x_region (s_val rfl (v_build Tryz.underlying207 Tryz.zeroValue207 (sized_cons Tryz.sizeOf3 (sized_cons Tryz.sizeOf3 (sized_cons Tryz.sizeOf3 (sized_cons Tryz.sizeOf4 sized_nil)))) fil_nil) ?_))
            refine s_val rfl (v_move rfl) (s_do0 (d_storeAll Tryz.sizeOf207 rfl rfl rfl rfl rfl) ?_)
            rintro _ _ rfl
            refine s_val rfl (v_assign rfl) (x_nil (n_then (x_ret (r_then (x_done (.inl rfl) (.cons (r_all Tryz.isAgg207 Tryz.sizeOf207 rfl rfl) (.cons (r_tmp rfl) .nil)) ?_)))))
            refine ⟨_, ⟨?_, rfl⟩, inferInstance⟩
            have he : fndE fr.length pg pa w kind = alwE pg ((pa / 64 : Nat) : Int) kind := by unfold fndE; rw [if_pos ha, if_pos (by omega), if_neg c7]
            rw [fndV, if_neg (by rw [he]; exact c7), he]; rfl
          · intro c7
            have hz : alwE pg ((pa / 64 : Nat) : Int) kind = 0 := by simpa using c7
            have hth : thereB pg ((pa / 64 : Nat) : Int) = true := by
              unfold alwE at hz; split at hz
              · assumption
              · omega
            have hk := okPl_iff.1 (gGot_ok h hth)
            refine x_skip (n_then (x_seq (x_region (s_val rfl (v_move rfl) (s_val rfl (v_nilCheck rfl) ?_)))))
            refine s_val rfl (v_fieldAddr rfl Tryz.underlying87 rfl Tryz.sizeOf84 rfl (by first | exact Nat.zero_add _ | rfl)) ?_
            refine s_val rfl (v_load Tryz.isAgg84 rfl (cell_own rfl)) ?_
            refine s_val rfl (v_move rfl) (s_do rfl (d_call1 Tryz.call202 rfl (rgGet_spec W0 _ qm pg h ((pa / 64 : Nat) : Int))) ?_)
            rintro _ B_ ⟨rfl, hB_⟩
            obtain rfl := hB_.symm
            refine s_val rfl (v_move rfl) (s_val rfl (v_extract rfl rfl) (s_val rfl (v_extract rfl rfl) (s_do rfl (d_allocA Tryz.zeroValue153) ?_)))
            rintro _ _ ⟨bp, rfl, rfl⟩
            refine s_do0 (d_storeAll Tryz.sizeOf153 rfl rfl rfl rfl rfl) ?_
            rintro _ _ rfl
            refine s_val rfl (v_assign rfl) (x_nil (n_then (x_seq (x_seq ?_))))
            refine x_draw [(bp, 0, _), (qv, 0, _)] 8 mixed rfl (sc_own (sc_own sc_end)) (fun hS => ?_)
            refine d_take 0 rfl rfl (by kernel_rfl) (by kernel_rfl) (by kernel_rfl) rfl hS (v_move rfl) ?_
            refine d_take 1 rfl rfl (by kernel_rfl) (by kernel_rfl) (by kernel_rfl) rfl hS (v_nilCheck rfl) ?_
            refine d_take 2 rfl rfl (by kernel_rfl) (by kernel_rfl) (by kernel_rfl) rfl hS (v_fieldAddr rfl Tryz.underlying87 rfl Tryz.sizeOf83 rfl (by first | exact Nat.zero_add _ | rfl)) ?_
            refine d_take 3 rfl rfl (by kernel_rfl) (by kernel_rfl) (by kernel_rfl) rfl hS (v_load Tryz.isAgg83 rfl (by first | exact cell_sc0 (k := 0) rfl rfl | exact cell_sc0 (k := 1) rfl rfl)) ?_
            refine d_take 4 rfl rfl (by kernel_rfl) (by kernel_rfl) (by kernel_rfl) rfl hS (v_fieldAddr rfl Tryz.underlying153 rfl Tryz.sizeOf3 rfl (by first | exact Nat.zero_add _ | rfl)) ?_
            refine d_take 5 rfl rfl (by kernel_rfl) (by kernel_rfl) (by kernel_rfl) rfl hS (v_load Tryz.isAgg3 rfl (by first | exact cell_sc0 (k := 0) rfl rfl | exact cell_sc0 (k := 1) rfl rfl)) ?_
            refine d_one 6 (by kernel_rfl) rfl rfl (d_call1 Tryz.call203 rfl (rfIs_spec W0 _ qs fr _)) rfl ?_; clear hS
            rintro _ B_ ⟨rfl, hB_⟩
            obtain rfl := hB_.symm
            refine ⟨(sc_own (sc_own sc_end)), fun hS => ?_⟩
            refine d_take 7 rfl rfl (by kernel_rfl) (by kernel_rfl) (by kernel_rfl) rfl hS (v_not rfl) ?_
            refine d_done (by kernel_rfl) ?_; clear hS
            refine n_then ?_
            refine x_if rfl ?_ ?_
            · intro c10
              refine x_seq (x_region (s_val rfl (v_build Tryz.underlying207 Tryz.zeroValue207 (sized_cons Tryz.sizeOf3 (sized_cons Tryz.sizeOf3 (sized_cons Tryz.sizeOf3 (sized_cons Tryz.sizeOf4 sized_nil)))) fil_nil) ?_))
              refine s_do0 (d_storeAll Tryz.sizeOf207 rfl rfl rfl rfl rfl) ?_
              rintro _ _ rfl
              refine s_val rfl (v_assign rfl) (x_nil (n_then (x_ret (r_then (x_done (.inl rfl) (.cons (r_all Tryz.isAgg207 Tryz.sizeOf207 rfl rfl) (.cons (r_tmp rfl) .nil)) ?_)))))
              refine ⟨_, ⟨?_, rfl⟩, inferInstance⟩
              have hn : ¬ (gGot pg ((pa / 64 : Nat) : Int)).1 < fr.length := by
                rw [isF_iff] at c10; omega
              have he : fndE fr.length pg pa w kind = 7 := by unfold fndE; rw [if_pos ha, if_pos (by omega), if_pos hz, if_neg hn]
              simp [pack, fndV, he]
            · intro c10
              refine x_skip (n_then (x_seq (x_region (s_val rfl (v_move rfl) ?_))))
              refine s_val rfl (v_fieldAddr rfl Tryz.underlying153 rfl Tryz.sizeOf3 rfl (by first | exact Nat.zero_add _ | rfl)) ?_
              refine s_val rfl (v_load Tryz.isAgg3 rfl (cell_own rfl)) ?_
              refine s_val rfl (v_move rfl) ?_
              refine s_val rfl (v_rem rfl rfl (by decide) (tmodN pa 64)) ?_
              refine s_val rfl (v_conv Tryz.underlying47 Tryz.underlying3 rfl (w64 (by omega))) ?_
              refine s_val rfl (v_build Tryz.underlying207 Tryz.zeroValue207 (sized_cons Tryz.sizeOf3 (sized_cons Tryz.sizeOf3 (sized_cons Tryz.sizeOf3 (sized_cons Tryz.sizeOf4 sized_nil)))) (fil_scal rfl Tryz.sizeOf3 rfl rfl (Nat.le_of_ble_eq_true rfl) SetL.eq (fil_scal rfl Tryz.sizeOf3 rfl rfl (Nat.le_of_ble_eq_true rfl) SetL.eq (fil_scal rfl Tryz.sizeOf3 rfl rfl (Nat.le_of_ble_eq_true rfl) SetL.eq fil_nil)))) ?_
              refine s_do0 (d_storeAll Tryz.sizeOf207 rfl rfl rfl rfl rfl) ?_
              rintro _ _ rfl
              refine s_val rfl (v_assign rfl) (x_nil (n_then (x_ret (x_done (.inl rfl) (.cons (r_all Tryz.isAgg207 Tryz.sizeOf207 rfl rfl) (.cons (r_tmp rfl) .nil)) ?_))))
              refine ⟨_, ⟨?_, rfl⟩, inferInstance⟩
              have hn : (gGot pg ((pa / 64 : Nat) : Int)).1 < fr.length := by
                rw [isF_iff] at c10; omega
              have he : fndE fr.length pg pa w kind = 0 := by unfold fndE; rw [if_pos ha, if_pos (by omega), if_pos hz, if_pos hn]
              simp [pack, fndV, he]
  · intro g1_3
    refine s_no rfl rfl rfl rfl (s_val rfl (v_pick_f rfl rfl) (s_val rfl (v_move rfl) (s_no rfl rfl rfl rfl (s_no rfl rfl rfl rfl (s_val rfl (v_pick_f rfl rfl) (s_val rfl (v_move rfl) (s_yes rfl rfl (s_val rfl (v_move rfl) (s_yes rfl rfl (s_val rfl (v_move rfl) (s_yes rfl rfl ?_)))))))))))
    refine s_val rfl (v_conv Tryz.underlying3 Tryz.underlying47 rfl (w32u (by omega))) ?_
    refine s_yes rfl rfl ?_
    refine s_val rfl (v_rem rfl rfl (by omega) (Int.tmod_eq_emod_of_nonneg (by omega))) ?_
    refine s_yes rfl rfl (s_val rfl (v_neq rfl rfl) (s_val rfl (v_pick_f rfl rfl) (x_nil (n_then ?_))))
    refine x_if rfl ?_ ?_
    · intro c1
      refine x_seq (x_region (s_val rfl (v_build Tryz.underlying207 Tryz.zeroValue207 (sized_cons Tryz.sizeOf3 (sized_cons Tryz.sizeOf3 (sized_cons Tryz.sizeOf3 (sized_cons Tryz.sizeOf4 sized_nil)))) fil_nil) ?_))
      refine s_do0 (d_storeAll Tryz.sizeOf207 rfl rfl rfl rfl rfl) ?_
      rintro _ _ rfl
      refine s_val rfl (v_assign rfl) (x_nil (n_then (x_ret (r_then (x_done (.inl rfl) (.cons (r_all Tryz.isAgg207 Tryz.sizeOf207 rfl rfl) (.cons (r_tmp rfl) .nil)) ?_)))))
      refine ⟨_, ⟨?_, rfl⟩, inferInstance⟩
      have ha : alB pa w = false := by
        rw [← Bool.not_eq_true]; simp only [alB, decide_eq_true_eq]
        rintro ⟨q1, q2⟩
        first
          | omega
          | (rcases q1 with rfl | rfl | rfl <;> omega)
      have he : fndE fr.length pg pa w kind = 1 := by simp [fndE, ha]
      simp [pack, fndV, he]
    · intro c1
      have ha : alB pa w = true := by
        simp only [alB, decide_eq_true_eq]
        refine ⟨by omega, ?_⟩
        have : w = 1 ∨ w = 2 ∨ w = 4 := by omega
        rcases this with rfl | rfl | rfl <;> omega
      refine x_skip (n_then (x_seq (x_seq (x_region (s_val rfl (v_move rfl) (s_val rfl (v_geq rfl rfl) (x_nil (n_then ?_))))))))
      refine x_if rfl ?_ ?_
      · intro c3
        refine x_seq (x_region (s_val rfl (v_build Tryz.underlying207 Tryz.zeroValue207 (sized_cons Tryz.sizeOf3 (sized_cons Tryz.sizeOf3 (sized_cons Tryz.sizeOf3 (sized_cons Tryz.sizeOf4 sized_nil)))) fil_nil) ?_))
        refine s_do0 (d_storeAll Tryz.sizeOf207 rfl rfl rfl rfl rfl) ?_
        rintro _ _ rfl
        refine s_val rfl (v_assign rfl) (x_nil (n_then (x_ret (r_then (x_done (.inl rfl) (.cons (r_all Tryz.isAgg207 Tryz.sizeOf207 rfl rfl) (.cons (r_tmp rfl) .nil)) ?_)))))
        refine ⟨_, ⟨?_, rfl⟩, inferInstance⟩
        have he : fndE fr.length pg pa w kind = 2 := by unfold fndE; rw [if_pos ha, if_neg (by omega)]
        simp [pack, fndV, he]
      · intro c3
        refine x_skip (n_then (x_seq (x_region (s_val rfl (v_move rfl) ?_))))
        refine s_val rfl (v_quo rfl rfl (by decide) ((congrArg (IntKind.wrap .u32) (tdivN pa 64)).trans (w32u (by omega)))) ?_
        refine s_val rfl (v_conv Tryz.underlying47 Tryz.underlying3 rfl (w64 (by omega))) ?_
        refine s_val rfl (v_assign rfl) (x_nil (n_then (x_seq (x_region (s_val rfl (v_move rfl) (s_val rfl (v_nilCheck rfl) ?_))))))
        refine s_val rfl (v_fieldAddr rfl Tryz.underlying87 rfl Tryz.sizeOf84 rfl (by first | exact Nat.zero_add _ | rfl)) ?_
        refine s_val rfl (v_load Tryz.isAgg84 rfl (cell_own rfl)) ?_
        refine s_val rfl (v_move rfl) (s_val rfl (v_move rfl) (s_do rfl (d_call1 Tryz.call201 rfl (rgAllows_spec W0 _ qm pg h ((pa / 64 : Nat) : Int) kind)) ?_))
        rintro _ B_ ⟨rfl, hB_⟩
        obtain rfl := hB_.symm
        refine s_val rfl (v_assign rfl) (x_nil (n_then (x_seq (x_seq (x_region (s_val rfl (v_move rfl) (s_val rfl (v_neq rfl rfl) (x_nil (n_then ?_)))))))))
        refine x_if rfl ?_ ?_
        · intro c7
          refine x_seq (x_region (s_val rfl (v_build Tryz.underlying207 Tryz.zeroValue207 (sized_cons Tryz.sizeOf3 (sized_cons Tryz.sizeOf3 (sized_cons Tryz.sizeOf3 (sized_cons Tryz.sizeOf4 sized_nil)))) fil_nil) ?_))
          refine s_val rfl (v_move rfl) (s_do0 (d_storeAll Tryz.sizeOf207 rfl rfl rfl rfl rfl) ?_)
          rintro _ _ rfl
          refine s_val rfl (v_assign rfl) (x_nil (n_then (x_ret (r_then (x_done (.inl rfl) (.cons (r_all Tryz.isAgg207 Tryz.sizeOf207 rfl rfl) (.cons (r_tmp rfl) .nil)) ?_)))))
          refine ⟨_, ⟨?_, rfl⟩, inferInstance⟩
          have he : fndE fr.length pg pa w kind = alwE pg ((pa / 64 : Nat) : Int) kind := by unfold fndE; rw [if_pos ha, if_pos (by omega), if_neg c7]
          rw [fndV, if_neg (by rw [he]; exact c7), he]; rfl
        · intro c7
          have hz : alwE pg ((pa / 64 : Nat) : Int) kind = 0 := by simpa using c7
          have hth : thereB pg ((pa / 64 : Nat) : Int) = true := by
            unfold alwE at hz; split at hz
            · assumption
            · omega
          have hk := okPl_iff.1 (gGot_ok h hth)
          refine x_skip (n_then (x_seq (x_region (s_val rfl (v_move rfl) (s_val rfl (v_nilCheck rfl) ?_)))))
          refine s_val rfl (v_fieldAddr rfl Tryz.underlying87 rfl Tryz.sizeOf84 rfl (by first | exact Nat.zero_add _ | rfl)) ?_
          refine s_val rfl (v_load Tryz.isAgg84 rfl (cell_own rfl)) ?_
          refine s_val rfl (v_move rfl) (s_do rfl (d_call1 Tryz.call202 rfl (rgGet_spec W0 _ qm pg h ((pa / 64 : Nat) : Int))) ?_)
          rintro _ B_ ⟨rfl, hB_⟩
          obtain rfl := hB_.symm
          refine s_val rfl (v_move rfl) (s_val rfl (v_extract rfl rfl) (s_val rfl (v_extract rfl rfl) (s_do rfl (d_allocA Tryz.zeroValue153) ?_)))
          rintro _ _ ⟨bp, rfl, rfl⟩
          refine s_do0 (d_storeAll Tryz.sizeOf153 rfl rfl rfl rfl rfl) ?_
          rintro _ _ rfl
          refine s_val rfl (v_assign rfl) (x_nil (n_then (x_seq (x_seq ?_))))
          refine x_draw [(bp, 0, _), (qv, 0, _)] 8 mixed rfl (sc_own (sc_own sc_end)) (fun hS => ?_)
          refine d_take 0 rfl rfl (by kernel_rfl) (by kernel_rfl) (by kernel_rfl) rfl hS (v_move rfl) ?_
          refine d_take 1 rfl rfl (by kernel_rfl) (by kernel_rfl) (by kernel_rfl) rfl hS (v_nilCheck rfl) ?_
          refine d_take 2 rfl rfl (by kernel_rfl) (by kernel_rfl) (by kernel_rfl) rfl hS (v_fieldAddr rfl Tryz.underlying87 rfl Tryz.sizeOf83 rfl (by first | exact Nat.zero_add _ | rfl)) ?_
          refine d_take 3 rfl rfl (by kernel_rfl) (by kernel_rfl) (by kernel_rfl) rfl hS (v_load Tryz.isAgg83 rfl (by first | exact cell_sc0 (k := 0) rfl rfl | exact cell_sc0 (k := 1) rfl rfl)) ?_
          refine d_take 4 rfl rfl (by kernel_rfl) (by kernel_rfl) (by kernel_rfl) rfl hS (v_fieldAddr rfl Tryz.underlying153 rfl Tryz.sizeOf3 rfl (by first | exact Nat.zero_add _ | rfl)) ?_
          refine d_take 5 rfl rfl (by kernel_rfl) (by kernel_rfl) (by kernel_rfl) rfl hS (v_load Tryz.isAgg3 rfl (by first | exact cell_sc0 (k := 0) rfl rfl | exact cell_sc0 (k := 1) rfl rfl)) ?_
          refine d_one 6 (by kernel_rfl) rfl rfl (d_call1 Tryz.call203 rfl (rfIs_spec W0 _ qs fr _)) rfl ?_; clear hS
          rintro _ B_ ⟨rfl, hB_⟩
          obtain rfl := hB_.symm
          refine ⟨(sc_own (sc_own sc_end)), fun hS => ?_⟩
          refine d_take 7 rfl rfl (by kernel_rfl) (by kernel_rfl) (by kernel_rfl) rfl hS (v_not rfl) ?_
          refine d_done (by kernel_rfl) ?_; clear hS
          refine n_then ?_
          refine x_if rfl ?_ ?_
          · intro c10
            refine x_seq (x_region (s_val rfl (v_build Tryz.underlying207 Tryz.zeroValue207 (sized_cons Tryz.sizeOf3 (sized_cons Tryz.sizeOf3 (sized_cons Tryz.sizeOf3 (sized_cons Tryz.sizeOf4 sized_nil)))) fil_nil) ?_))
            refine s_do0 (d_storeAll Tryz.sizeOf207 rfl rfl rfl rfl rfl) ?_
            rintro _ _ rfl
            refine s_val rfl (v_assign rfl) (x_nil (n_then (x_ret (r_then (x_done (.inl rfl) (.cons (r_all Tryz.isAgg207 Tryz.sizeOf207 rfl rfl) (.cons (r_tmp rfl) .nil)) ?_)))))
            refine ⟨_, ⟨?_, rfl⟩, inferInstance⟩
            have hn : ¬ (gGot pg ((pa / 64 : Nat) : Int)).1 < fr.length := by
              rw [isF_iff] at c10; omega
            have he : fndE fr.length pg pa w kind = 7 := by unfold fndE; rw [if_pos ha, if_pos (by omega), if_pos hz, if_neg hn]
            simp [pack, fndV, he]
          · intro c10
            refine x_skip (n_then (x_seq (x_region (s_val rfl (v_move rfl) ?_))))
            refine s_val rfl (v_fieldAddr rfl Tryz.underlying153 rfl Tryz.sizeOf3 rfl (by first | exact Nat.zero_add _ | rfl)) ?_
            refine s_val rfl (v_load Tryz.isAgg3 rfl (cell_own rfl)) ?_
            refine s_val rfl (v_move rfl) ?_
            refine s_val rfl (v_rem rfl rfl (by decide) (tmodN pa 64)) ?_
            refine s_val rfl (v_conv Tryz.underlying47 Tryz.underlying3 rfl (w64 (by omega))) ?_
            refine s_val rfl (v_build Tryz.underlying207 Tryz.zeroValue207 (sized_cons Tryz.sizeOf3 (sized_cons Tryz.sizeOf3 (sized_cons Tryz.sizeOf3 (sized_cons Tryz.sizeOf4 sized_nil)))) (fil_scal rfl Tryz.sizeOf3 rfl rfl (Nat.le_of_ble_eq_true rfl) SetL.eq (fil_scal rfl Tryz.sizeOf3 rfl rfl (Nat.le_of_ble_eq_true rfl) SetL.eq (fil_scal rfl Tryz.sizeOf3 rfl rfl (Nat.le_of_ble_eq_true rfl) SetL.eq fil_nil)))) ?_
            refine s_do0 (d_storeAll Tryz.sizeOf207 rfl rfl rfl rfl rfl) ?_
            rintro _ _ rfl
            refine s_val rfl (v_assign rfl) (x_nil (n_then (x_ret (x_done (.inl rfl) (.cons (r_all Tryz.isAgg207 Tryz.sizeOf207 rfl rfl) (.cons (r_tmp rfl) .nil)) ?_))))
            refine ⟨_, ⟨?_, rfl⟩, inferInstance⟩
            have hn : (gGot pg ((pa / 64 : Nat) : Int)).1 < fr.length := by
              rw [isF_iff] at c10; omega
            have he : fndE fr.length pg pa w kind = 0 := by unfold fndE; rw [if_pos ha, if_pos (by omega), if_pos hz, if_pos hn]
            simp [pack, fndV, he]
end Go.Proofs.YtlnmofhehcilhaaGreat
