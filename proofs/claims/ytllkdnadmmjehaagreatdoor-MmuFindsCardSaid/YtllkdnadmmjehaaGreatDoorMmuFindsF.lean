/-
  Part 6 of the proof of MmuFinds: rules, and walks of functions. Conditions: none.
-/
import Derived.Test.YtllkdnadmmjehaaGreatDoorMmuFindsE
namespace Go.Proofs.YtllkdnadmmjehaaGreatDoor
open Go.RowKit
set_option linter.unusedSimpArgs false
set_option linter.unusedVariables false
set_option maxRecDepth 20000
end Go.Proofs.YtllkdnadmmjehaaGreatDoor
namespace Go.Proofs.YtllkdnadmmjehaaGreatDoor
open Go.RowKit
set_option linter.unusedSimpArgs false
set_option linter.unusedVariables false
set_option maxRecDepth 20000
end Go.Proofs.YtllkdnadmmjehaaGreatDoor
namespace Go.Proofs.YtllkdnadmmjehaaGreatDoor
open Go.RowKit
set_option linter.unusedSimpArgs false
set_option linter.unusedVariables false
set_option maxRecDepth 20000
section
variable {P : Program} {W0 : World} {N : FSz} {K : Act → World → Prop} {e : Env} {A R R1 R2 : List HP} {qs n : Nat} {fr : List Frm}
end
structure Ac where
  k : Int
  on : Bool
  root : Int
  user : Bool
  va : Nat
  width : Int
  kind : Int
  w : Nat
@[reducible] def acV (a : Ac) : List Value := [.int .i64 a.k, .bool a.on, .int .i64 a.root, .bool a.user, .int .u32 a.va, .int .i64 a.width, .int .i64 a.kind, .int .u32 a.w]
def AcOk (a : Ac) : Prop := a.va < 4294967296 ∧ a.w < 4294967296
abbrev mmS (bm bt bs pv ps pm qv qs qm room e d now : Nat) (its : List It) (L : List Ln) (fr : List Frm) (pg : List Pl) : List HP :=
  pt bm (mmO pv bt bs) :: rowH bt (its, tlV room now) :: shH bs L :: vwW pv ps pm d fr pg (rvwW qv qs qm e fr pg [])
end Go.Proofs.YtllkdnadmmjehaaGreatDoor
namespace Go.Proofs.YtllkdnadmmjehaaGreatDoor
open Go.ChangeShapes Go.WideShapes Go.ChangeAt Go.RowKit
set_option linter.unusedSimpArgs false
set_option linter.unusedVariables false
variable {W : World} {v : Value}
theorem list2m {l : List Value} (h : l.length = 2) : ∃ a b, l = [a, b] := by
  match l, h with
  | [a, b], _ => exact ⟨a, b, rfl⟩
theorem list8m {l : List Value} (h : l.length = 8) : ∃ a b c d e f g i, l = [a, b, c, d, e, f, g, i] := by
  match l, h with
  | [a, b, c, d, e, f, g, i], _ => exact ⟨a, b, c, d, e, f, g, i, rfl⟩
theorem inT_put20 {fuel : Nat} {l : List Value} (h : InT Tryz.prog W fuel 90 l) : ∃ x : Pt17, l = pt17V x ∧ Pt17Ok x := by
  obtain ⟨hl, f', hf⟩ := inT_struct Tryz.underlying90 h
  obtain ⟨a, b, rfl⟩ := list2m (hl.trans (by kernel_rfl))
  have h0 := hf _ (List.mem_cons_self ..)
  have h1 := hf _ (List.mem_cons_of_mem _ (List.mem_cons_self ..))
  rw [show Tryz.prog.cellsOf 31 = 1 by kernel_rfl] at h0 h1
  obtain ⟨x0, e0, q0⟩ := inT_u32w h0
  obtain ⟨x1, e1, q1⟩ := inT_u32w h1
  simp at e0 e1
  exact ⟨(x0, x1), by rw [e0, e1], q0, q1⟩
theorem ty_puts20 (h : Ty Tryz.prog W 22 v) : ∃ a c, ∃ ts : List Pt17, v = .slice a ts.length c ∧ ts.length < 9223372036854775808 ∧ SlB W a 2 pt17V ts ∧ ∀ t ∈ ts, Pt17Ok t := by
  obtain ⟨a, c, xs, rfl, h1, h2, h3, h4⟩ := ty_sliceF (f := pt17V) (Q := Pt17Ok) 2 Tryz.underlying22 (by kernel_rfl) (by decide) (fun fuel r h => inT_put20 h) h
  exact ⟨a, c, xs, rfl, by simp only [maxLen] at h2; omega, h3, h4⟩
theorem inT_act {fuel : Nat} {l : List Value} (h : InT Tryz.prog W fuel 33 l) : ∃ x : Ac, l = acV x ∧ AcOk x := by
  obtain ⟨hl, f', hf⟩ := inT_struct Tryz.underlying33 h
  obtain ⟨a, b, c, d, e, f, g, i, rfl⟩ := list8m (hl.trans (by kernel_rfl))
  have h0 := hf _ (List.mem_cons_self ..)
  have h1 := hf _ (List.mem_cons_of_mem _ (List.mem_cons_self ..))
  have h2 := hf _ (List.mem_cons_of_mem _ (List.mem_cons_of_mem _ (List.mem_cons_self ..)))
  have h3 := hf _ (List.mem_cons_of_mem _ (List.mem_cons_of_mem _ (List.mem_cons_of_mem _ (List.mem_cons_self ..))))
  have h4 := hf _ (List.mem_cons_of_mem _ (List.mem_cons_of_mem _ (List.mem_cons_of_mem _ (List.mem_cons_of_mem _ (List.mem_cons_self ..)))))
  have h5 := hf _ (List.mem_cons_of_mem _ (List.mem_cons_of_mem _ (List.mem_cons_of_mem _ (List.mem_cons_of_mem _ (List.mem_cons_of_mem _ (List.mem_cons_self ..))))))
  rw [show Tryz.prog.cellsOf 3 = 1 by kernel_rfl] at h0 h3 h4
  rw [show Tryz.prog.cellsOf 31 = 1 by kernel_rfl] at h2 h5
  rw [show Tryz.prog.cellsOf 30 = 3 by kernel_rfl] at h1
  obtain ⟨x0, e0, _⟩ := inT_int Tryz.underlying3 h0
  obtain ⟨on, r, u, e1⟩ := inT_mode h1
  obtain ⟨x2, e2, q2⟩ := inT_u32w h2
  obtain ⟨x3, e3, _⟩ := inT_int Tryz.underlying3 h3
  obtain ⟨x4, e4, _⟩ := inT_int Tryz.underlying3 h4
  obtain ⟨x5, e5, q5⟩ := inT_u32w h5
  simp at e0 e1 e2 e3 e4 e5
  obtain ⟨e1a, e1b, e1c⟩ := e1
  exact ⟨⟨x0, on, r, u, x2, x3, x4, x5⟩, by rw [e0, e1a, e1b, e1c, e2, e3, e4, e5], q2, q5⟩
theorem ty_acts (h : Ty Tryz.prog W 23 v) : ∃ a c, ∃ as_ : List Ac, v = .slice a as_.length c ∧ as_.length < 9223372036854775808 ∧ SlB W a 8 acV as_ ∧ ∀ t ∈ as_, AcOk t := by
  obtain ⟨a, c, xs, rfl, h1, h2, h3, h4⟩ := ty_sliceF (f := acV) (Q := AcOk) 8 Tryz.underlying23 (by kernel_rfl) (by decide) (fun fuel r h => inT_act h) h
  exact ⟨a, c, xs, rfl, by simp only [maxLen] at h2; omega, h3, h4⟩
end Go.Proofs.YtllkdnadmmjehaaGreatDoor
namespace Go.Proofs.YtllkdnadmmjehaaGreatDoor
open Go.RowKit
set_option linter.unusedSimpArgs false
set_option linter.unusedVariables false
set_option maxRecDepth 20000
section
variable {P : Program} {w : World} {enc : TypeId × Value → Unit} {base : Nat} {sp : Nat → Bool} {held : Bool}
theorem trod_two {fuel : Nat} {t : TypeId} {cs : List Value} {a b : Int} {f0 f1 : Field} {p : List MemPlace} (hs : P.underlying t = some (.struct #[f0, f1])) (h0 : P.underlying f0.type = some (.int .i64)) (h1 : P.underlying f1.type = some (.int .i64)) (o0 : f0.offset = 0) (o1 : f1.offset = 1) (c0 : P.cellsOf f0.type = 1) (c1 : P.cellsOf f1.type = 1) (ct : P.cellsOf t = 2)
    (h : DataW.trod enc P w base sp held fuel t cs = some (.agg [.lit (.int .i64 a), .lit (.int .i64 b)], p)) : cs = [.int .i64 a, .int .i64 b] := by
  cases fuel with
  | zero => simp [DataW.trod] at h
  | succ fuel =>
    simp only [DataW.trod, hs] at h
    split at h
    · rename_i hl
      rw [ct] at hl
      obtain ⟨xs, hm, hx⟩ := Option.map_eq_some_iff.1 h
      obtain ⟨y0, e0, g0⟩ := Go.Lib.mapM_at hm 0 f0 rfl
      obtain ⟨y1, e1, g1⟩ := Go.Lib.mapM_at hm 1 f1 rfl
      obtain ⟨z0, q0, rfl, _⟩ := DataW.trod_int h0 g0
      obtain ⟨z1, q1, rfl, _⟩ := DataW.trod_int h1 g1
      rw [o0, c0] at q0
      rw [o1, c1] at q1
      match cs, hl with
      | [u, v], _ =>
        simp at q0 q1
        have hxs := congrArg Prod.fst hx
        have hlen := Go.Lib.mapM_length hm
        match xs, hlen with
        | [x0, x1], _ =>
          simp at e0 e1
          subst e0; subst e1
          simp at hxs
          rw [q0, q1, hxs.1, hxs.2]
    · cases h
theorem trod_kinds {fuel : Nat} {t e : TypeId} {cs : List Value} {f0 f1 : Field} {p : List MemPlace} (ht : P.underlying t = some (.array 3 e)) (hs : P.underlying e = some (.struct #[f0, f1])) (h0 : P.underlying f0.type = some (.int .i64)) (h1 : P.underlying f1.type = some (.int .i64)) (o0 : f0.offset = 0) (o1 : f1.offset = 1) (c0 : P.cellsOf f0.type = 1) (c1 : P.cellsOf f1.type = 1) (ce : P.cellsOf e = 2) (ct : P.cellsOf t = 6)
    (h : DataW.trod enc P w base sp held fuel t cs = some (.agg [.agg [.lit (.int .i64 0), .lit (.int .i64 4)], .agg [.lit (.int .i64 1), .lit (.int .i64 1)], .agg [.lit (.int .i64 2), .lit (.int .i64 2)]], p)) : cs = kdV := by
  cases fuel with
  | zero => simp [DataW.trod] at h
  | succ fuel =>
    simp only [DataW.trod, ht] at h
    split at h
    · rename_i hl
      rw [ct] at hl
      obtain ⟨xs, hm, hx⟩ := Option.map_eq_some_iff.1 h
      obtain ⟨⟨d0, p0⟩, e0, g0⟩ := Go.Lib.mapM_at hm 0 0 rfl
      obtain ⟨⟨d1, p1⟩, e1, g1⟩ := Go.Lib.mapM_at hm 1 1 rfl
      obtain ⟨⟨d2, p2⟩, e2, g2⟩ := Go.Lib.mapM_at hm 2 2 rfl
      have hxs := congrArg Prod.fst hx
      have hlen := Go.Lib.mapM_length hm
      match xs, hlen with
      | [x0, x1, x2], _ =>
        simp at e0 e1 e2
        subst e0; subst e1; subst e2
        simp at hxs
        obtain ⟨rfl, rfl, rfl⟩ := hxs
        have r0 := trod_two hs h0 h1 o0 o1 c0 c1 ce g0
        have r1 := trod_two hs h0 h1 o0 o1 c0 c1 ce g1
        have r2 := trod_two hs h0 h1 o0 o1 c0 c1 ce g2
        rw [ce] at r0 r1 r2
        match cs, hl with
        | [u0, u1, u2, u3, u4, u5], _ =>
          simp at r0 r1 r2
          rw [r0.1, r0.2, r1.1, r1.2, r2.1, r2.2]
          rfl
    · cases h
end
theorem kinds_cells {W : World} (h : laidMet Tryz.prog [("hermitage/mmu.kinds", (.agg [.agg [.lit (.int .i64 0), .lit (.int .i64 4)], .agg [.lit (.int .i64 1), .lit (.int .i64 1)], .agg [.lit (.int .i64 2), .lit (.int .i64 2)]] : DataW Unit))] W) : ∀ A, Cells (OwnP W A) 0 0 kdV := by
  obtain ⟨ps, ⟨g', t', cs, fuel, p, q, hg', ht', hvar, hd, _, _⟩, _⟩ := h
  have hg : Tryz.prog.globalNamed "hermitage/mmu.kinds" = some 0 := by kernel_rfl
  obtain rfl := Option.some.inj (hg.symm.trans hg')
  have hty : (Tryz.prog.globals[0]?).map (·.type) = some 221 := by kernel_rfl
  obtain rfl := Option.some.inj (hty.symm.trans ht')
  have hc : cs.toList = kdV := trod_kinds Tryz.underlying221 Tryz.underlying220 Tryz.underlying3 Tryz.underlying3 rfl rfl (by kernel_rfl) (by kernel_rfl) (by kernel_rfl) (by kernel_rfl) hd
  intro A i v hi
  refine cell_base ?_
  have := World.var?_cell hg hvar i
  rw [Nat.zero_add, this, ← Array.getElem?_toList, hc]; exact hi
end Go.Proofs.YtllkdnadmmjehaaGreatDoor
namespace Go.Proofs.YtllkdnadmmjehaaGreatDoor
open Go.RowKit
set_option linter.unusedSimpArgs false
set_option linter.unusedVariables false
section
variable {P : Program} {W0 : World} {N : FSz} {e : Env} {A R R1 R2 R3 R4 R5 R6 R7 R8 : List HP} {vs : List Value}
variable {K1 K2 K3 K4 K5 K6 K7 K8 K9 X1 X2 X3 X4 X5 X6 X7 X8 X9 : Type} {r1 : K1 → X1 → HP} {b1 : K1} {x1 : X1} {r2 : K2 → X2 → HP} {b2 : K2} {x2 : X2} {r3 : K3 → X3 → HP} {b3 : K3} {x3 : X3} {r4 : K4 → X4 → HP} {b4 : K4} {x4 : X4} {r5 : K5 → X5 → HP} {b5 : K5} {x5 : X5} {r6 : K6 → X6 → HP} {b6 : K6} {x6 : X6} {r7 : K7 → X7 → HP} {b7 : K7} {x7 : X7} {r8 : K8 → X8 → HP} {b8 : K8} {x8 : X8} {r9 : K9 → X9 → HP} {b9 : K9} {x9 : X9}
theorem perm9 [h1 : Tk r1 b1 A x1 R1] [h2 : Tk r2 b2 R1 x2 R2] [h3 : Tk r3 b3 R2 x3 R3] [h4 : Tk r4 b4 R3 x4 R4] [h5 : Tk r5 b5 R4 x5 R5] [h6 : Tk r6 b6 R5 x6 R6] [h7 : Tk r7 b7 R6 x7 R7] [h8 : Tk r8 b8 R7 x8 R8] [h9 : Tk r9 b9 R8 x9 R] : A.Perm (r1 b1 x1 :: r2 b2 x2 :: r3 b3 x3 :: r4 b4 x4 :: r5 b5 x5 :: r6 b6 x6 :: r7 b7 x7 :: r8 b8 x8 :: r9 b9 x9 :: R) := h1.perm.trans (perm8.cons _)
variable {f : FuncId} {xs : Array Operand} {ats : Array TypeId} {Post : Value → List HP → Prop}
theorem d_call9 (hc : ∀ args w, (callFunc f args).run P w = .ok (.enter f args) w) (hx : evs e xs.toList = some vs)
    (hs : Spec P W0 f vs (r1 b1 x1 :: r2 b2 x2 :: r3 b3 x3 :: r4 b4 x4 :: r5 b5 x5 :: r6 b6 x6 :: r7 b7 x7 :: r8 b8 x8 :: r9 b9 x9 :: R) Post) [h1 : Tk r1 b1 A x1 R1] [h2 : Tk r2 b2 R1 x2 R2] [h3 : Tk r3 b3 R2 x3 R3] [h4 : Tk r4 b4 R3 x4 R4] [h5 : Tk r5 b5 R4 x5 R5] [h6 : Tk r6 b6 R5 x6 R6] [h7 : Tk r7 b7 R6 x7 R7] [h8 : Tk r8 b8 R7 x8 R8] [h9 : Tk r9 b9 R8 x9 R] : Does P W0 N e A (.call { callee := .value (.func f), args := xs, argTypes := ats }) Post :=
  does_perm perm9 (d_call hc hx hs)
end
end Go.Proofs.YtllkdnadmmjehaaGreatDoor
namespace Go.Proofs.YtllkdnadmmjehaaGreatDoor
open Go.RowKit
set_option linter.unusedSimpArgs false
set_option linter.unusedVariables false
set_option maxRecDepth 20000
theorem fnd_thW {n : Nat} {pg : List Pl} {pa : Nat} {w kind : Int} (h : fndE n pg pa w kind = 0) : thereB pg ((pa / 64 : Nat) : Int) = true := by
  unfold fndE at h
  split at h
  · split at h
    · split at h
      · rename_i q
        unfold alwE at q
        split at q
        · assumption
        · exact absurd q (by decide)
      · rename_i q; exact absurd h q
    · exact absurd h (by decide)
  · exact absurd h (by decide)
theorem MOk.vsv {fr : List Frm} {pg : List Pl} {d : Nat} {L : List Ln} {T : List It} (h : MOk fr pg d L T) (pa : Nat) (w : Int) (x : Nat) : MOk (vsvF fr pg pa w x) pg (vsvD fr pg pa w d) L T := by
  by_cases hf : fndE fr.length pg pa w 2 = 0
  · have hpl : pa / 64 < 12 := by have := (fnd_ok hf).1; omega
    have hdl : d ||| 2 ^ (pa / 64) < 4096 := Nat.or_lt_two_pow (n := 12) h.dl (page_lt hpl)
    rw [vsvF, if_pos hf, vsvD, if_pos hf]
    exact h.save (fnd_thW hf) ((pa % 64 : Nat) : Int) w x hdl (fun t q => (or_bit q).1) (fun y hy t ht hb e => by
      have h1 := (h.ln y hy).own
      have h3 := (or_bit hb).2
      rcases ht with rfl | rfl <;> omega)
  · rw [vsvF, if_neg hf, vsvD, if_neg hf]; exact h
theorem mmDo_spec (W0 : World) (hK : ∀ A, Cells (OwnP W0 A) 0 0 kdV) (bm bt bs pv ps pm qv qs qm room e d now : Nat) (its T : List It) (L : List Ln) (fr : List Frm) (pg : List Pl) (a : Ac) (ha : AcOk a) (hR : Rep its now T) (hT : T.length ≤ room) (hr : room ≤ 4) (hn : now < 900000) (h : MOk fr pg d L T) (R : List HP) :
    Spec Tryz.prog W0 12 [.pointer (some ⟨bm, 0, none⟩), .pointer (some ⟨pv, 0, none⟩), .pointer (some ⟨qv, 0, none⟩), .agg (acV a).toArray] (pt bm (mmO pv bt bs) :: rowH bt (its, tlV room now) :: shH bs L :: vwW pv ps pm d fr pg (rvwW qv qs qm e fr pg R))
      (fun v B => v = .bool true ∧ ∃ e' d' now' its' T' L' fr' pg', Rep its' now' T' ∧ T'.length ≤ room ∧ MOk fr' pg' d' L' T' ∧ now' ≤ now + 3 ∧ B = pt bm (mmO pv bt bs) :: rowH bt (its', tlV room now') :: shH bs L' :: vwW pv ps pm d' fr' pg' (rvwW qv qs qm e' fr' pg' R)) := by
  obtain ⟨ha1, ha2⟩ := ha
  refine spec_body Tryz.func12 Tryz.ntmps12 rfl rfl ?_
  refine x_seq (x_region (s_do rfl (d_boxA rfl) ?_))
  rintro _ _ ⟨bx, rfl, rfl⟩
  refine s_val rfl (v_assign rfl) (x_nil (n_then (x_seq (x_region ?_))))
  refine s_val rfl (v_fieldAddr rfl Tryz.underlying33 rfl Tryz.sizeOf31 rfl (by first | exact Nat.zero_add _ | rfl)) ?_
  refine s_val rfl (v_load Tryz.isAgg31 rfl (cell_own rfl)) ?_
  refine s_val rfl (v_quo rfl rfl (by decide) ((congrArg (IntKind.wrap .u32) (tdivN a.va 64)).trans (w32u (by omega)))) ?_
  refine s_val rfl (v_rem rfl rfl (by decide) (tmodN (a.va / 64) 12)) ?_
  refine s_val rfl (v_conv Tryz.underlying31 Tryz.underlying3 rfl (w64 (by omega))) ?_
  refine s_val rfl (v_assign rfl) (x_nil (n_then (x_seq (x_seq ?_))))
  obtain ⟨n, hpn⟩ : ∃ n : Nat, a.va / 64 % 12 = n := ⟨_, rfl⟩
  have hn12 : n < 12 := by omega
  rw [hpn]
  refine x_region ?_
  refine s_val rfl (v_fieldAddr rfl Tryz.underlying33 rfl Tryz.sizeOf3 rfl (by first | exact Nat.zero_add _ | rfl)) ?_
  refine s_val rfl (v_load Tryz.isAgg3 rfl (cell_own rfl)) ?_
  refine x_nil (n_then (x_block (x_seq (x_region (s_val rfl (v_eql rfl rfl) (s_val rfl (v_assign rfl) (x_nil (n_then ?_))))))))
  refine x_if rfl ?_ ?_
  · intro c3
    refine x_seq ?_
    refine x_draw [(bx, 0, _)] 22 mixed rfl (sc_own sc_end) (fun hS => ?_)
    refine d_take 0 rfl rfl (by kernel_rfl) (by kernel_rfl) (by kernel_rfl) rfl hS (v_move rfl) ?_
    refine d_take 1 rfl rfl (by kernel_rfl) (by kernel_rfl) (by kernel_rfl) rfl hS (v_fieldAddr rfl Tryz.underlying33 rfl Tryz.sizeOf30 rfl (by first | exact Nat.zero_add _ | rfl)) ?_
    refine d_take 2 rfl rfl (by kernel_rfl) (by kernel_rfl) (by kernel_rfl) rfl hS (v_loadAgg Tryz.isAgg30 Tryz.sizeOf30 rfl (cells_mid (k := 1) (us := moV a.on a.root a.user) (cells_sc (k := 0) rfl) rfl) rfl) ?_
    refine d_take 3 rfl rfl (by kernel_rfl) (by kernel_rfl) (by kernel_rfl) rfl hS (v_fieldAddr rfl Tryz.underlying33 rfl Tryz.sizeOf31 rfl (by first | exact Nat.zero_add _ | rfl)) ?_
    refine d_take 4 rfl rfl (by kernel_rfl) (by kernel_rfl) (by kernel_rfl) rfl hS (v_load Tryz.isAgg31 rfl (cell_sc0 (k := 0) rfl rfl)) ?_
    refine d_take 5 rfl rfl (by kernel_rfl) (by kernel_rfl) (by kernel_rfl) rfl hS (v_fieldAddr rfl Tryz.underlying33 rfl Tryz.sizeOf3 rfl (by first | exact Nat.zero_add _ | rfl)) ?_
    refine d_take 6 rfl rfl (by kernel_rfl) (by kernel_rfl) (by kernel_rfl) rfl hS (v_load Tryz.isAgg3 rfl (cell_sc0 (k := 0) rfl rfl)) ?_
    refine d_take 7 rfl rfl (by kernel_rfl) (by kernel_rfl) (by kernel_rfl) rfl hS (v_fieldAddr rfl Tryz.underlying33 rfl Tryz.sizeOf31 rfl (by first | exact Nat.zero_add _ | rfl)) ?_
    refine d_take 8 rfl rfl (by kernel_rfl) (by kernel_rfl) (by kernel_rfl) rfl hS (v_load Tryz.isAgg31 rfl (cell_sc0 (k := 0) rfl rfl)) ?_
    refine d_take 10 rfl rfl (by kernel_rfl) (by kernel_rfl) (by kernel_rfl) rfl hS (v_move rfl) ?_
    refine d_take 11 rfl rfl (by kernel_rfl) (by kernel_rfl) (by kernel_rfl) rfl hS (v_fieldAddr rfl Tryz.underlying33 rfl Tryz.sizeOf30 rfl (by first | exact Nat.zero_add _ | rfl)) ?_
    refine d_take 12 rfl rfl (by kernel_rfl) (by kernel_rfl) (by kernel_rfl) rfl hS (v_loadAgg Tryz.isAgg30 Tryz.sizeOf30 rfl (cells_mid (k := 1) (us := moV a.on a.root a.user) (cells_sc (k := 0) rfl) rfl) rfl) ?_
    refine d_take 13 rfl rfl (by kernel_rfl) (by kernel_rfl) (by kernel_rfl) rfl hS (v_fieldAddr rfl Tryz.underlying33 rfl Tryz.sizeOf31 rfl (by first | exact Nat.zero_add _ | rfl)) ?_
    refine d_take 14 rfl rfl (by kernel_rfl) (by kernel_rfl) (by kernel_rfl) rfl hS (v_load Tryz.isAgg31 rfl (cell_sc0 (k := 0) rfl rfl)) ?_
    refine d_take 15 rfl rfl (by kernel_rfl) (by kernel_rfl) (by kernel_rfl) rfl hS (v_fieldAddr rfl Tryz.underlying33 rfl Tryz.sizeOf3 rfl (by first | exact Nat.zero_add _ | rfl)) ?_
    refine d_take 16 rfl rfl (by kernel_rfl) (by kernel_rfl) (by kernel_rfl) rfl hS (v_load Tryz.isAgg3 rfl (cell_sc0 (k := 0) rfl rfl)) ?_
    refine d_take 17 rfl rfl (by kernel_rfl) (by kernel_rfl) (by kernel_rfl) rfl hS (v_fieldAddr rfl Tryz.underlying33 rfl Tryz.sizeOf31 rfl (by first | exact Nat.zero_add _ | rfl)) ?_
    refine d_take 18 rfl rfl (by kernel_rfl) (by kernel_rfl) (by kernel_rfl) rfl hS (v_load Tryz.isAgg31 rfl (cell_sc0 (k := 0) rfl rfl)) ?_
    refine d_one 9 (by kernel_rfl) rfl rfl (d_call6 Tryz.call7 rfl (mmSave_spec W0 _ hK bm pv bt bs ps pm d a.on a.root a.user a.va ha1 a.width a.w ha2 its room now T L fr pg hR hT hr hn h)) rfl ?_; clear hS
    rintro _ B_ ⟨rfl, its2, T2, L2, now2, d2, hR2, hT2, h2, hn2, hB_⟩
    subst hB_
    refine ⟨(sc_own sc_end), fun hS => ?_⟩
    refine d_one 19 (by kernel_rfl) rfl rfl (d_call3 Tryz.call8 rfl (r20Save_spec W0 _ qv qs qm e fr pg h.P h.F a.on a.root a.user a.va ha1 a.width a.w ha2)) rfl ?_; clear hS
    rintro _ B_ ⟨rfl, hB_⟩
    obtain rfl := hB_.symm
    refine ⟨(sc_own sc_end), fun hS => ?_⟩
    refine d_take 20 rfl rfl (by kernel_rfl) (by kernel_rfl) (by kernel_rfl) rfl hS (v_eql rfl rfl) ?_
    refine d_take 21 rfl rfl (by kernel_rfl) (by kernel_rfl) (by kernel_rfl) rfl hS (v_assign rfl) ?_
    refine d_done (by kernel_rfl) ?_; clear hS
    refine n_then (x_ret (r_block (r_then (x_done (.inl rfl) (.cons (r_tmp rfl) .nil) ?_))))
    exact ⟨_, ⟨by simp; rfl, e, d2, now2, its2, T2, L2, _, pg, hR2, hT2, h2, hn2, rfl⟩, inferInstance⟩
  · intro c3
    refine x_seq (x_region (s_val rfl (v_eql rfl rfl) (s_val rfl (v_assign rfl) (x_nil (n_then ?_)))))
    refine x_if rfl ?_ ?_
    · intro c5
      refine x_seq ?_
      refine x_draw [(bx, 0, _)] 18 mixed rfl (sc_own sc_end) (fun hS => ?_)
      refine d_take 0 rfl rfl (by kernel_rfl) (by kernel_rfl) (by kernel_rfl) rfl hS (v_move rfl) ?_
      refine d_take 1 rfl rfl (by kernel_rfl) (by kernel_rfl) (by kernel_rfl) rfl hS (v_fieldAddr rfl Tryz.underlying33 rfl Tryz.sizeOf31 rfl (by first | exact Nat.zero_add _ | rfl)) ?_
      refine d_take 2 rfl rfl (by kernel_rfl) (by kernel_rfl) (by kernel_rfl) rfl hS (v_load Tryz.isAgg31 rfl (cell_sc0 (k := 0) rfl rfl)) ?_
      refine d_take 3 rfl rfl (by kernel_rfl) (by kernel_rfl) (by kernel_rfl) rfl hS (v_fieldAddr rfl Tryz.underlying33 rfl Tryz.sizeOf3 rfl (by first | exact Nat.zero_add _ | rfl)) ?_
      refine d_take 4 rfl rfl (by kernel_rfl) (by kernel_rfl) (by kernel_rfl) rfl hS (v_load Tryz.isAgg3 rfl (cell_sc0 (k := 0) rfl rfl)) ?_
      refine d_take 5 rfl rfl (by kernel_rfl) (by kernel_rfl) (by kernel_rfl) rfl hS (v_fieldAddr rfl Tryz.underlying33 rfl Tryz.sizeOf31 rfl (by first | exact Nat.zero_add _ | rfl)) ?_
      refine d_take 6 rfl rfl (by kernel_rfl) (by kernel_rfl) (by kernel_rfl) rfl hS (v_load Tryz.isAgg31 rfl (cell_sc0 (k := 0) rfl rfl)) ?_
      refine d_take 8 rfl rfl (by kernel_rfl) (by kernel_rfl) (by kernel_rfl) rfl hS (v_move rfl) ?_
      refine d_take 9 rfl rfl (by kernel_rfl) (by kernel_rfl) (by kernel_rfl) rfl hS (v_fieldAddr rfl Tryz.underlying33 rfl Tryz.sizeOf31 rfl (by first | exact Nat.zero_add _ | rfl)) ?_
      refine d_take 10 rfl rfl (by kernel_rfl) (by kernel_rfl) (by kernel_rfl) rfl hS (v_load Tryz.isAgg31 rfl (cell_sc0 (k := 0) rfl rfl)) ?_
      refine d_take 11 rfl rfl (by kernel_rfl) (by kernel_rfl) (by kernel_rfl) rfl hS (v_fieldAddr rfl Tryz.underlying33 rfl Tryz.sizeOf3 rfl (by first | exact Nat.zero_add _ | rfl)) ?_
      refine d_take 12 rfl rfl (by kernel_rfl) (by kernel_rfl) (by kernel_rfl) rfl hS (v_load Tryz.isAgg3 rfl (cell_sc0 (k := 0) rfl rfl)) ?_
      refine d_take 13 rfl rfl (by kernel_rfl) (by kernel_rfl) (by kernel_rfl) rfl hS (v_fieldAddr rfl Tryz.underlying33 rfl Tryz.sizeOf31 rfl (by first | exact Nat.zero_add _ | rfl)) ?_
      refine d_take 14 rfl rfl (by kernel_rfl) (by kernel_rfl) (by kernel_rfl) rfl hS (v_load Tryz.isAgg31 rfl (cell_sc0 (k := 0) rfl rfl)) ?_
      refine d_one 7 (by kernel_rfl) rfl rfl (d_call3 Tryz.call28 rfl (viSave_spec W0 _ pv ps pm d fr pg h.P h.F h.dl a.va ha1 a.width a.w ha2)) rfl ?_; clear hS
      rintro _ B_ ⟨rfl, hB_⟩
      obtain rfl := hB_.symm
      refine ⟨(sc_own sc_end), fun hS => ?_⟩
      refine d_one 15 (by kernel_rfl) rfl rfl (d_call3 Tryz.call29 rfl (rvSave_spec W0 _ qv qs qm e fr pg h.P h.F a.va ha1 a.width a.w ha2)) rfl ?_; clear hS
      rintro _ B_ ⟨rfl, hB_⟩
      obtain rfl := hB_.symm
      refine ⟨(sc_own sc_end), fun hS => ?_⟩
      refine d_take 16 rfl rfl (by kernel_rfl) (by kernel_rfl) (by kernel_rfl) rfl hS (v_eql rfl rfl) ?_
      refine d_take 17 rfl rfl (by kernel_rfl) (by kernel_rfl) (by kernel_rfl) rfl hS (v_assign rfl) ?_
      refine d_done (by kernel_rfl) ?_; clear hS
      refine n_then (x_ret (r_block (r_then (x_done (.inl rfl) (.cons (r_tmp rfl) .nil) ?_))))
      exact ⟨_, ⟨by simp; rfl, vsvD fr pg a.va a.width e, vsvD fr pg a.va a.width d, now, its, T, L, vsvF fr pg a.va a.width a.w, pg, hR, hT, h.vsv a.va a.width a.w, by omega, rfl⟩, inferInstance⟩
    · intro c5
      refine x_seq (x_region (s_val rfl (v_eql rfl rfl) (s_val rfl (v_assign rfl) (x_nil (n_then ?_)))))
      refine x_if rfl ?_ ?_
      · intro c7
        refine x_seq (x_region (s_val rfl (v_move rfl) (s_do rfl (d_call1 Tryz.call18 rfl (viMap_spec W0 _ pv ps pm d)) ?_)))
        rintro _ B_ ⟨rfl, hB_⟩
        obtain rfl := hB_.symm
        refine s_val rfl (v_move rfl) (s_do rfl (d_call1 Tryz.call37 rfl (gmDropA_spec W0 _ pm pg h.P n)) ?_)
        rintro _ B_ ⟨rfl, hB_⟩
        obtain rfl := hB_.symm
        refine s_val rfl (v_assign rfl) (x_nil (n_then (x_seq (x_region (s_val rfl (v_move rfl) (s_val rfl (v_move rfl) (s_val rfl (v_nilCheck rfl) ?_)))))))
        refine s_val rfl (v_fieldAddr rfl Tryz.underlying43 rfl Tryz.sizeOf40 rfl (by first | exact Nat.zero_add _ | rfl)) ?_
        refine s_val rfl (v_load Tryz.isAgg40 rfl (cell_own rfl)) ?_
        refine s_val rfl (v_move rfl) (s_do rfl (d_call1 Tryz.call38 rfl (rgDrop_spec W0 _ qm pg h.P n)) ?_)
        rintro _ B_ ⟨rfl, hB_⟩
        obtain rfl := hB_.symm
        refine s_val rfl (v_eql rfl rfl) (s_val rfl (v_move rfl) ?_)
        refine s_and rfl rfl rfl ?_ ?_
        · intro g9_9
          refine s_val rfl (v_move rfl) (s_yes rfl rfl (s_val rfl (v_move rfl) (s_yes rfl rfl (s_do rfl (d_call4 Tryz.call39 rfl (mmGone_spec W0 _ bm pv bt bs ps pm d its room now T L fr pg hR hT hr n h)) ?_))))
          rintro _ B_ ⟨rfl, its2, T2, L2, hB_, hR2, hT2, h2⟩
          subst hB_
          refine s_yes rfl rfl (s_val rfl (v_eql rfl rfl) (s_val rfl (v_pick_t rfl rfl) (s_val rfl (v_assign rfl) (x_nil (n_then (x_ret (r_block (r_then (x_done (.inl rfl) (.cons (r_tmp rfl) .nil) ?_)))))))))
          exact ⟨_, ⟨by simp; rfl, e, 0, now, its2, T2, L2, fr, _, hR2, hT2, h2, by omega, rfl⟩, inferInstance⟩
        · intro g9_9
          exact absurd rfl g9_9
      · intro c7
        refine x_seq (x_region (s_val rfl (v_eql rfl rfl) (s_val rfl (v_assign rfl) (x_nil (n_then ?_)))))
        refine x_if rfl ?_ ?_
        · intro c10
          refine x_seq ?_
          refine x_draw [(qv, 0, _)] 16 mixed rfl (sc_own sc_end) (fun hS => ?_)
          refine d_take 0 rfl rfl (by kernel_rfl) (by kernel_rfl) (by kernel_rfl) rfl hS (v_move rfl) ?_
          refine d_take 2 rfl rfl (by kernel_rfl) (by kernel_rfl) (by kernel_rfl) rfl hS (v_move rfl) ?_
          refine d_take 3 rfl rfl (by kernel_rfl) (by kernel_rfl) (by kernel_rfl) rfl hS (v_move rfl) ?_
          refine d_take 6 rfl rfl (by kernel_rfl) (by kernel_rfl) (by kernel_rfl) rfl hS (v_move rfl) ?_
          refine d_take 7 rfl rfl (by kernel_rfl) (by kernel_rfl) (by kernel_rfl) rfl hS (v_nilCheck rfl) ?_
          refine d_take 8 rfl rfl (by kernel_rfl) (by kernel_rfl) (by kernel_rfl) rfl hS (v_fieldAddr rfl Tryz.underlying43 rfl Tryz.sizeOf40 rfl (by first | exact Nat.zero_add _ | rfl)) ?_
          refine d_take 9 rfl rfl (by kernel_rfl) (by kernel_rfl) (by kernel_rfl) rfl hS (v_load Tryz.isAgg40 rfl (cell_sc0 (k := 0) rfl rfl)) ?_
          refine d_take 10 rfl rfl (by kernel_rfl) (by kernel_rfl) (by kernel_rfl) rfl hS (v_move rfl) ?_
          refine d_take 11 rfl rfl (by kernel_rfl) (by kernel_rfl) (by kernel_rfl) rfl hS (v_move rfl) ?_
          refine d_one 1 (by kernel_rfl) rfl rfl (d_call1 Tryz.call18 rfl (viMap_spec W0 _ pv ps pm d)) rfl ?_; clear hS
          rintro _ B_ ⟨rfl, hB_⟩
          obtain rfl := hB_.symm
          refine ⟨(sc_own sc_end), fun hS => ?_⟩
          refine d_one 4 (by kernel_rfl) rfl rfl (d_call Tryz.call25 rfl (place20_spec W0 _ n hn12)) rfl ?_; clear hS
          rintro _ B_ ⟨rfl, hB_⟩
          obtain rfl := hB_.symm
          refine ⟨(sc_own sc_end), fun hS => ?_⟩
          refine d_one 5 (by kernel_rfl) rfl rfl (d_call1 Tryz.call24 rfl (gmSet_spec W0 _ pm pg h.P n (pl20 n))) rfl ?_; clear hS
          rintro _ B_ ⟨rfl, hB_⟩
          obtain rfl := hB_.symm
          refine ⟨(sc_own sc_end), fun hS => ?_⟩
          refine d_one 12 (by kernel_rfl) rfl rfl (d_call Tryz.call25 rfl (place20_spec W0 _ n hn12)) rfl ?_; clear hS
          rintro _ B_ ⟨rfl, hB_⟩
          obtain rfl := hB_.symm
          refine ⟨(sc_own sc_end), fun hS => ?_⟩
          refine d_one 13 (by kernel_rfl) rfl rfl (d_call1 Tryz.call26 rfl (rgSet_spec W0 _ qm pg h.P n (pl20 n))) rfl ?_; clear hS
          rintro _ B_ ⟨rfl, hB_⟩
          obtain rfl := hB_.symm
          refine ⟨(sc_own sc_end), fun hS => ?_⟩
          refine d_take 14 rfl rfl (by kernel_rfl) (by kernel_rfl) (by kernel_rfl) rfl hS (v_eql rfl rfl) ?_
          refine d_take 15 rfl rfl (by kernel_rfl) (by kernel_rfl) (by kernel_rfl) rfl hS (v_assign rfl) ?_
          refine d_done (by kernel_rfl) ?_; clear hS
          refine n_then (x_ret (r_block (r_then (x_done (.inl rfl) (.cons (r_tmp rfl) .nil) ?_))))
          exact ⟨_, ⟨by simp; rfl, e, d, now, its, T, L, fr, _, hR, hT, h.come (n := n), by omega, rfl⟩, inferInstance⟩
        · intro c10
          refine x_seq (x_region (s_val rfl (v_eql rfl rfl) (s_val rfl (v_assign rfl) (x_nil (n_then ?_)))))
          refine x_if rfl ?_ ?_
          · intro c12
            refine x_region (s_val rfl (v_move rfl) (s_do rfl (d_call4 Tryz.call40 rfl (mmFlush_spec W0 _ bm pv bt bs ps pm d its room now T L fr pg hR hT hr h)) ?_))
            rintro _ B_ ⟨k2, its2, rfl, hB_, hR2, h2⟩
            subst hB_
            refine x_nil (n_block (n_then (x_seq (x_region (s_val rfl (v_assign rfl) (x_nil (n_then (x_ret (x_done (.inl rfl) (.cons (r_tmp rfl) .nil) ?_)))))))))
            exact ⟨_, ⟨rfl, e, 0, now, its2, [], [], fr, pg, hR2, Nat.zero_le _, h2, by omega, rfl⟩, inferInstance⟩
          · intro c12
            refine x_skip (n_block (n_then (x_seq (x_region (s_val rfl (v_assign rfl) (x_nil (n_then (x_ret (x_done (.inl rfl) (.cons (r_tmp rfl) .nil) ?_)))))))))
            exact ⟨_, ⟨rfl, e, d, now, its, T, L, fr, pg, hR, hT, h, by omega, rfl⟩, inferInstance⟩
end Go.Proofs.YtllkdnadmmjehaaGreatDoor
namespace Go.Proofs.YtllkdnadmmjehaaGreatDoor
open Go.RowKit
set_option linter.unusedSimpArgs false
set_option linter.unusedVariables false
set_option maxRecDepth 20000
theorem MmuFinds_walk (W0 : World) (hK : ∀ A, Cells (OwnP W0 A) 0 0 kdV) (rm : Nat) (hrm : rm < 256) (al ab : Option Addr) (cl cb : Nat) (ts : List Pt17) (as_ : List Ac) (hts : SlB W0 al 2 pt17V ts) (htok : ∀ t ∈ ts, Pt17Ok t) (hl : ts.length < 9223372036854775808) (has : SlB W0 ab 8 acV as_) (hok : ∀ a ∈ as_, AcOk a) (hla : as_.length < 9223372036854775808) :
    Spec Tryz.prog W0 4 [.int .u8 rm, .slice al ts.length cl, .slice ab as_.length cb] [] (fun v B => v = .bool true) := by
  have hm0 := mk20_ok ts
  refine spec_body Tryz.func4 Tryz.ntmps4 rfl rfl ?_
  refine x_seq (x_region (s_val rfl (v_assign rfl) (x_nil (n_then (x_seq (x_region (s_val rfl (v_move rfl) ?_)))))))
  refine s_val rfl (v_rem rfl rfl (by decide) (tmodN rm 5)) ?_
  refine s_val rfl (v_conv Tryz.underlying5 Tryz.underlying3 rfl (w64 (by omega))) ?_
  refine s_val rfl (v_move rfl) ?_
  refine s_do rfl (d_call Tryz.call6 rfl (made20_spec W0 _ (rm % 5) (by omega) al cl ts (sla_base hts) htok hl)) ?_
  rintro _ B_ ⟨bm, bt, bs, pv, ps, pm, qv, qs, qm, rfl, hB_⟩
  subst hB_
  generalize (mk20 ts).1 = fr0 at hm0
  generalize (mk20 ts).2 = d0 at hm0
  generalize pg17 0 10 = pg0 at hm0
  generalize hroom : rm % 5 = room
  have hr4 : room ≤ 4 := by omega
  refine s_val rfl (v_move rfl) (s_val rfl (v_extract rfl rfl) (s_val rfl (v_extract rfl rfl) (s_val rfl (v_extract rfl rfl) (s_val rfl (v_assign rfl) (s_val rfl (v_assign rfl) (s_val rfl (v_assign rfl) (x_nil (n_then (x_seq (x_seq (x_region (s_val rfl (v_move rfl) (s_val rfl (v_eql_ptr_nil Tryz.underlying24 rfl rfl) (s_val rfl (v_move rfl) ?_))))))))))))))
  refine s_or rfl rfl rfl ?_ ?_
  · intro g2_3
    first | cases g2_3 | exact absurd g2_3 (by simp)
  · intro g2_3
    refine s_val rfl (v_move rfl) (s_yes rfl rfl (s_val rfl (v_eql_ptr_nil Tryz.underlying26 rfl rfl) (s_val rfl (v_pick_f rfl rfl) (x_nil (n_then ?_)))))
    refine x_if rfl ?_ ?_
    · intro c2
      first | cases c2 | exact absurd c2 (by simp)
    · intro c2
      refine x_skip (n_then ?_)
      refine x_cut (fun _ : Unit => True) (fun _ => []) (fun _ => []) ?_ ?_
      · skip
        refine x_seq (x_region (s_val rfl (v_assign rfl) (x_nil (n_then (x_block ?_)))))
        refine x_loop (fun Z : Nat × List It × List It × List Ln × Nat × Nat × Nat × List Frm × List Pl => Z.1 ≤ 60 ∧ Rep Z.2.1 Z.2.2.2.2.1 Z.2.2.1 ∧ Z.2.2.1.length ≤ room ∧ MOk Z.2.2.2.2.2.2.2.1 Z.2.2.2.2.2.2.2.2 Z.2.2.2.2.2.1 Z.2.2.2.1 Z.2.2.1 ∧ Z.2.2.2.2.1 ≤ 9 * Z.1) (fun Z => [(2, .slice ab as_.length cb), (7, .pointer (some ⟨bm, 0, none⟩)), (8, .pointer (some ⟨pv, 0, none⟩)), (9, .pointer (some ⟨qv, 0, none⟩)), (10, .int .i64 Z.1)]) (fun Z => mmS bm bt bs pv ps pm qv qs qm room Z.2.2.2.2.2.2.1 Z.2.2.2.2.2.1 Z.2.2.2.2.1 Z.2.1 Z.2.2.2.1 Z.2.2.2.2.2.2.2.1 Z.2.2.2.2.2.2.2.2) (fun Z => 60 - Z.1) (0, [], [], [], 0, d0, d0, fr0, pg0) ?_ ?_ ?_ ?_
        · exact ⟨Nat.zero_le _, Rep.nil, Nat.zero_le _, hm0, Nat.le_refl _⟩
        · repeat (first | exact sub_nil | refine sub_cons rfl ?_)
        · exact inferInstance
        · intro ⟨i, its0, T0, L0, now0, d0, e0, fr0, pg0⟩ ⟨hi, hR0, hT0, h0, hn0⟩
          dsimp only at hi hR0 hT0 h0 hn0 ⊢
          refine x_seq (x_seq (x_region (s_val rfl (v_move rfl) (s_val rfl (v_move rfl) (s_val rfl (v_len_slice Tryz.underlying23 rfl) (s_val rfl (v_lss rfl rfl) (s_val rfl (v_move rfl) ?_)))))))
          refine s_and rfl rfl rfl ?_ ?_
          · intro g5_5
            refine s_val rfl (v_move rfl) (s_yes rfl rfl (s_val rfl (v_lss rfl rfl) (s_val rfl (v_pick_t rfl rfl) (x_nil (n_then ?_)))))
            refine x_if rfl ?_ ?_
            · intro c5
              refine x_skip (n_then (x_seq (x_block (x_seq ?_))))
              have hi1 : i < as_.length := by omega
              have hi60 : i < 60 := by omega
              obtain ⟨g, o, hga, hc⟩ := (sla_base (A := []) has).at_ hi1
              obtain ⟨a, ha⟩ : ∃ a, as_[i] = a := ⟨_, rfl⟩
              have haok := hok _ (List.getElem_mem hi1)
              rw [ha] at hc haok
              obtain ⟨ha1, ha2⟩ := id haok
              refine x_region (s_val rfl (v_move rfl) (s_val rfl (v_move rfl) ?_))
              refine s_val rfl (v_idxA Tryz.underlying23 Tryz.sizeOf33 rfl hga rfl rfl hi1 (by first | exact Nat.zero_add _ | rfl)) ?_
              refine s_val rfl (v_loadAgg Tryz.isAgg33 Tryz.sizeOf33 rfl hc.weak rfl) ?_
              refine s_do rfl (d_allocA Tryz.zeroValue33) ?_
              rintro _ _ ⟨bx, rfl, rfl⟩
              refine s_do0 (d_storeAll Tryz.sizeOf33 rfl rfl rfl rfl rfl) ?_
              rintro _ _ rfl
              refine x_nil (n_then (x_seq (x_seq (x_region (s_val rfl (v_move rfl) (s_val rfl (v_move rfl) (s_val rfl (v_move rfl) (s_val rfl (v_loadAll Tryz.isAgg33 Tryz.sizeOf33 rfl rfl) ?_))))))))
              refine s_do rfl (d_call9 Tryz.call12 rfl (mmDo_spec W0 hK bm bt bs pv ps pm qv qs qm room e0 d0 now0 its0 T0 L0 fr0 pg0 a haok hR0 hT0 hr4 (by omega) h0 _)) ?_
              rintro _ B_ ⟨rfl, e, d, now, its, T, L, fr, pg, hR, hT, h, hn, hB_⟩
              subst hB_
              refine s_val rfl (v_not rfl) (x_nil (n_then ?_))
              refine x_if rfl ?_ ?_
              · intro c8
                exact absurd rfl c8
              · intro c8
                refine x_skip (n_then (x_seq (x_region (s_val rfl (v_move rfl) ?_))))
                refine s_val rfl (v_fieldAddr rfl Tryz.underlying33 rfl Tryz.sizeOf30 rfl (by first | exact Nat.zero_add _ | rfl)) ?_
                refine s_val rfl (v_loadPart Tryz.isAgg30 Tryz.sizeOf30 rfl TakeL.eq rfl) ?_
                refine s_val rfl (v_fieldAddr rfl Tryz.underlying33 rfl Tryz.sizeOf31 rfl (by first | exact Nat.zero_add _ | rfl)) ?_
                refine s_val rfl (v_load Tryz.isAgg31 rfl (cell_own rfl)) ?_
                refine s_val rfl (v_fieldAddr rfl Tryz.underlying33 rfl Tryz.sizeOf3 rfl (by first | exact Nat.zero_add _ | rfl)) ?_
                refine s_val rfl (v_load Tryz.isAgg3 rfl (cell_own rfl)) ?_
                refine s_do rfl (d_call6 Tryz.call13 rfl (mmFind_spec W0 _ hK bm pv bt bs ps pm d a.on a.root a.user a.va ha1 a.kind its room now T L fr pg hR hT hr4 (by omega) h)) ?_
                rintro _ B_ ⟨fast, its2, T2, L2, now2, d2, rfl, hfast, hR2, hT2, h2, hn2, hB_⟩
                subst hB_
                replace hfast := fun q => (hfast.hit q).1
                refine s_val rfl (v_move rfl) (s_val rfl (v_extract rfl rfl) (s_val rfl (v_extract rfl rfl) (s_do rfl (d_allocA Tryz.zeroValue54) ?_)))
                rintro _ _ ⟨b12, rfl, rfl⟩
                refine s_do0 (d_storeAll Tryz.sizeOf54 rfl rfl rfl rfl rfl) ?_
                rintro _ _ rfl
                refine s_val rfl (v_assign rfl) (x_nil (n_then (x_seq (x_region (s_val rfl (v_move rfl) ?_)))))
                refine s_val rfl (v_fieldAddr rfl Tryz.underlying33 rfl Tryz.sizeOf30 rfl (by first | exact Nat.zero_add _ | rfl)) ?_
                refine s_val rfl (v_loadPart Tryz.isAgg30 Tryz.sizeOf30 rfl TakeL.eq rfl) ?_
                refine s_val rfl (v_fieldAddr rfl Tryz.underlying33 rfl Tryz.sizeOf31 rfl (by first | exact Nat.zero_add _ | rfl)) ?_
                refine s_val rfl (v_load Tryz.isAgg31 rfl (cell_own rfl)) ?_
                refine s_val rfl (v_fieldAddr rfl Tryz.underlying33 rfl Tryz.sizeOf3 rfl (by first | exact Nat.zero_add _ | rfl)) ?_
                refine s_val rfl (v_load Tryz.isAgg3 rfl (cell_own rfl)) ?_
                refine s_do rfl (d_call3 Tryz.call14 rfl (rwFind_spec W0 _ qv qs qm e fr pg h2.P h2.F a.on a.root a.user a.va ha1 a.kind)) ?_
                rintro _ B_ ⟨rfl, hB_⟩
                obtain rfl := hB_.symm
                refine s_val rfl (v_move rfl) (s_val rfl (v_extract rfl rfl) (s_val rfl (v_extract rfl rfl) (s_do rfl (d_allocA Tryz.zeroValue54) ?_)))
                rintro _ _ ⟨b14, rfl, rfl⟩
                refine s_do0 (d_storeAll Tryz.sizeOf54 rfl rfl rfl rfl rfl) ?_
                rintro _ _ rfl
                refine s_val rfl (v_assign rfl) (x_nil (n_then ?_))
                refine x_cut (fun _ : Unit => True) (fun _ => [(2, .slice ab as_.length cb), (7, .pointer (some ⟨bm, 0, none⟩)), (8, .pointer (some ⟨pv, 0, none⟩)), (9, .pointer (some ⟨qv, 0, none⟩)), (10, .int .i64 i), (11, .pointer (some ⟨bx, 0, none⟩))]) (fun _ => pt bx (cob (acV a) 33) :: mmS bm bt bs pv ps pm qv qs qm room e d2 now2 its2 L2 fr pg) ?_ ?_
                · skip
                  refine x_seq (x_region (s_val rfl (v_move rfl) (s_val rfl (v_move rfl) (s_val rfl (v_neq rfl rfl) (s_val rfl (v_move rfl) ?_)))))
                  refine s_or rfl rfl rfl ?_ ?_
                  · intro g12_4
                    exact absurd rfl g12_4
                  · intro g12_4
                    refine s_val rfl (v_fieldAddr rfl Tryz.underlying54 rfl Tryz.sizeOf3 rfl (by first | exact Nat.zero_add _ | rfl)) ?_
                    refine s_yes rfl rfl (s_val rfl (v_load Tryz.isAgg3 rfl (cell_own rfl)) ?_)
                    refine s_yes rfl rfl ?_
                    refine s_val rfl (v_fieldAddr rfl Tryz.underlying54 rfl Tryz.sizeOf3 rfl (by first | exact Nat.zero_add _ | rfl)) ?_
                    refine s_yes rfl rfl (s_val rfl (v_load Tryz.isAgg3 rfl (cell_own rfl)) ?_)
                    refine s_yes rfl rfl (s_val rfl (v_neq rfl rfl) (s_val rfl (v_pick_f rfl rfl) (s_val rfl (v_move rfl) ?_)))
                    refine s_or rfl rfl rfl ?_ ?_
                    · intro g12_11
                      exact absurd rfl g12_11
                    · intro g12_11
                      refine s_val rfl (v_fieldAddr rfl Tryz.underlying54 rfl Tryz.sizeOf3 rfl (by first | exact Nat.zero_add _ | rfl)) ?_
                      refine s_yes rfl rfl (s_val rfl (v_load Tryz.isAgg3 rfl (cell_own rfl)) ?_)
                      refine s_yes rfl rfl ?_
                      refine s_val rfl (v_fieldAddr rfl Tryz.underlying54 rfl Tryz.sizeOf3 rfl (by first | exact Nat.zero_add _ | rfl)) ?_
                      refine s_yes rfl rfl (s_val rfl (v_load Tryz.isAgg3 rfl (cell_own rfl)) ?_)
                      refine s_yes rfl rfl (s_val rfl (v_neq rfl rfl) (s_val rfl (v_pick_f rfl rfl) (s_val rfl (v_move rfl) ?_)))
                      refine s_or rfl rfl rfl ?_ ?_
                      · intro g12_18
                        exact absurd rfl g12_18
                      · intro g12_18
                        refine s_val rfl (v_fieldAddr rfl Tryz.underlying54 rfl Tryz.sizeOf3 rfl (by first | exact Nat.zero_add _ | rfl)) ?_
                        refine s_yes rfl rfl (s_val rfl (v_load Tryz.isAgg3 rfl (cell_own rfl)) ?_)
                        refine s_yes rfl rfl ?_
                        refine s_val rfl (v_fieldAddr rfl Tryz.underlying54 rfl Tryz.sizeOf3 rfl (by first | exact Nat.zero_add _ | rfl)) ?_
                        refine s_yes rfl rfl (s_val rfl (v_load Tryz.isAgg3 rfl (cell_own rfl)) ?_)
                        refine s_yes rfl rfl (s_val rfl (v_neq rfl rfl) (s_val rfl (v_pick_f rfl rfl) (s_val rfl (v_move rfl) ?_)))
                        refine s_or rfl rfl rfl ?_ ?_
                        · intro g12_25
                          exact absurd rfl g12_25
                        · intro g12_25
                          refine s_val rfl (v_fieldAddr rfl Tryz.underlying54 rfl Tryz.sizeOf4 rfl (by first | exact Nat.zero_add _ | rfl)) ?_
                          refine s_yes rfl rfl (s_val rfl (v_load Tryz.isAgg4 rfl (cell_own rfl)) ?_)
                          refine s_yes rfl rfl (s_val rfl (v_move rfl) ?_)
                          refine s_and rfl rfl rfl ?_ ?_
                          · intro g12_28
                            refine s_val rfl (v_fieldAddr rfl Tryz.underlying33 rfl Tryz.sizeOf30 rfl (by first | exact Nat.zero_add _ | rfl)) ?_
                            refine s_yes rfl rfl ?_
                            refine s_val rfl (v_fieldAddr rfl Tryz.underlying30 rfl Tryz.sizeOf4 rfl (by first | exact Nat.zero_add _ | rfl)) ?_
                            refine s_yes rfl rfl (s_val rfl (v_load Tryz.isAgg4 rfl (cell_own rfl)) ?_)
                            refine s_yes rfl rfl (s_val rfl (v_not rfl) (s_yes rfl rfl (s_val rfl (v_move rfl) ?_)))
                            refine s_or rfl rfl rfl ?_ ?_
                            · intro g12_33
                              exact absurd (hfast (by simp_all)).1 (by simp_all)
                            · intro g12_33
                              refine s_val rfl (v_move rfl) (s_yes rfl rfl (s_val rfl (v_neq rfl rfl) (s_yes rfl rfl (s_val rfl (v_pick_f rfl rfl) (s_yes rfl rfl (s_val rfl (v_pick_t rfl rfl) (s_val rfl (v_pick_f rfl rfl) (x_nil (n_then ?_)))))))))
                              refine x_if rfl ?_ ?_
                              · intro c12
                                first | cases c12 | exact absurd c12 (by decide) | exact absurd (hfast (by simp_all)).2 (by simp_all)
                              · intro c12
                                refine x_skip (n_then ?_)
                                refine mid_intro () ?_ ?_ ?_
                                · trivial
                                · repeat (first | exact sub_nil | refine sub_cons rfl ?_)
                                · exact inferInstance
                          · intro g12_28
                            refine s_no rfl rfl rfl rfl (s_no rfl rfl rfl rfl (s_no rfl rfl rfl rfl (s_no rfl rfl rfl rfl (s_nou rfl rfl rfl (s_nou rfl rfl rfl (s_no rfl rfl rfl rfl (s_yes rfl rfl (s_val rfl (v_pick_f rfl rfl) (s_val rfl (v_pick_f rfl rfl) (x_nil (n_then (x_iff rfl (x_skip (n_then ?_))))))))))))))
                            refine mid_intro () ?_ ?_ ?_
                            · trivial
                            · repeat (first | exact sub_nil | refine sub_cons rfl ?_)
                            · exact inferInstance
                · intro _ _
                  refine x_seq (x_region (s_val rfl (v_move rfl) ?_))
                  refine s_val rfl (v_fieldAddr rfl Tryz.underlying33 rfl Tryz.sizeOf30 rfl (by first | exact Nat.zero_add _ | rfl)) ?_
                  refine s_val rfl (v_loadPart Tryz.isAgg30 Tryz.sizeOf30 rfl TakeL.eq rfl) ?_
                  refine s_val rfl (v_fieldAddr rfl Tryz.underlying33 rfl Tryz.sizeOf31 rfl (by first | exact Nat.zero_add _ | rfl)) ?_
                  refine s_val rfl (v_load Tryz.isAgg31 rfl (cell_own rfl)) ?_
                  refine s_val rfl (v_fieldAddr rfl Tryz.underlying33 rfl Tryz.sizeOf3 rfl (by first | exact Nat.zero_add _ | rfl)) ?_
                  refine s_val rfl (v_load Tryz.isAgg3 rfl (cell_own rfl)) ?_
                  refine s_val rfl (v_fieldAddr rfl Tryz.underlying33 rfl Tryz.sizeOf3 rfl (by first | exact Nat.zero_add _ | rfl)) ?_
                  refine s_val rfl (v_load Tryz.isAgg3 rfl (cell_own rfl)) ?_
                  refine s_do rfl (d_call6 Tryz.call15 rfl (mmLoad_spec W0 _ hK bm pv bt bs ps pm d2 a.on a.root a.user a.va ha1 a.width a.kind its2 room now2 T2 L2 fr pg hR2 hT2 hr4 (by omega) h2)) ?_
                  rintro _ B_ ⟨rfl, its3, T3, L3, now3, d3, hR3, hT3, h3, hn3, hB_⟩
                  subst hB_
                  refine s_val rfl (v_move rfl) (s_val rfl (v_extract rfl rfl) (s_val rfl (v_extract rfl rfl) (s_val rfl (v_assign rfl) (s_val rfl (v_assign rfl) (x_nil (n_then (x_seq (x_region (s_val rfl (v_move rfl) ?_)))))))))
                  refine s_val rfl (v_fieldAddr rfl Tryz.underlying33 rfl Tryz.sizeOf30 rfl (by first | exact Nat.zero_add _ | rfl)) ?_
                  refine s_val rfl (v_loadPart Tryz.isAgg30 Tryz.sizeOf30 rfl TakeL.eq rfl) ?_
                  refine s_val rfl (v_fieldAddr rfl Tryz.underlying33 rfl Tryz.sizeOf31 rfl (by first | exact Nat.zero_add _ | rfl)) ?_
                  refine s_val rfl (v_load Tryz.isAgg31 rfl (cell_own rfl)) ?_
                  refine s_val rfl (v_fieldAddr rfl Tryz.underlying33 rfl Tryz.sizeOf3 rfl (by first | exact Nat.zero_add _ | rfl)) ?_
                  refine s_val rfl (v_load Tryz.isAgg3 rfl (cell_own rfl)) ?_
                  refine s_val rfl (v_fieldAddr rfl Tryz.underlying33 rfl Tryz.sizeOf3 rfl (by first | exact Nat.zero_add _ | rfl)) ?_
                  refine s_val rfl (v_load Tryz.isAgg3 rfl (cell_own rfl)) ?_
                  refine s_do rfl (d_call3 Tryz.call16 rfl (r20Load_spec W0 _ qv qs qm e fr pg h3.P h3.F a.on a.root a.user a.va ha1 a.width a.kind)) ?_
                  rintro _ B_ ⟨rfl, hB_⟩
                  obtain rfl := hB_.symm
                  refine s_val rfl (v_move rfl) (s_val rfl (v_extract rfl rfl) (s_val rfl (v_extract rfl rfl) (s_val rfl (v_assign rfl) (s_val rfl (v_assign rfl) (x_nil (n_then (x_seq (x_region (s_val rfl (v_move rfl) (s_val rfl (v_move rfl) (s_val rfl (v_neq rfl rfl) (s_val rfl (v_move rfl) ?_))))))))))))
                  refine s_or rfl rfl rfl ?_ ?_
                  · intro g16_4
                    exact absurd rfl g16_4
                  · intro g16_4
                    refine s_val rfl (v_move rfl) (s_yes rfl rfl (s_val rfl (v_move rfl) (s_yes rfl rfl (s_val rfl (v_neq rfl rfl) (s_val rfl (v_pick_f rfl rfl) (x_nil (n_then ?_)))))))
                    refine x_if rfl ?_ ?_
                    · intro c16
                      exact absurd rfl c16
                    · intro c16
                      refine x_skip (n_block (n_then (x_region (s_val rfl (v_move rfl) ?_))))
                      refine s_val rfl (v_add rfl rfl (by first | exact w64 (by omega) | rfl)) ?_
                      refine s_val rfl (v_assign rfl) (x_nil (n_then ?_))
                      refine inv_intro (i + 1, its3, T3, L3, now3, d3, e, fr, pg) ?_ ?_ ?_ ?_
                      · exact ⟨hi60, hR3, hT3, h3, by dsimp only; omega⟩
                      · omega
                      · repeat (first | exact sub_nil | refine sub_cons rfl ?_)
                      · exact inferInstance
            · intro c5
              refine x_exit (e_then (e_then (e_block (n_then ?_))))
              refine mid_intro () ?_ ?_ ?_
              · trivial
              · repeat (first | exact sub_nil | refine sub_cons rfl ?_)
              · exact inferInstance
          · intro g5_5
            refine s_no rfl rfl rfl rfl (s_val rfl (v_pick_f rfl rfl) (x_nil (n_then (x_iff rfl (x_exit (e_then (e_then (e_block (n_then ?_)))))))))
            refine mid_intro () ?_ ?_ ?_
            · trivial
            · repeat (first | exact sub_nil | refine sub_cons rfl ?_)
            · exact inferInstance
      · intro _ _
        refine x_seq (x_region (s_do rfl (d_call Tryz.call11 rfl (awake20_spec W0 _ hK)) ?_))
        rintro _ B_ ⟨rfl, hB_⟩
        obtain rfl := hB_.symm
        refine s_val rfl (v_assign rfl) (x_nil (n_then (x_ret (x_done (.inl rfl) (.cons (r_tmp rfl) .nil) ?_))))
        exact ⟨[], rfl, inferInstance⟩
end Go.Proofs.YtllkdnadmmjehaaGreatDoor
