/-
  Layer 23 (queue): Done, Break, Take of the program.
-/
import Derived.Test.YtechkfopkpkigaaGreatQueueC
namespace Go.Proofs.YtechkfopkpkigaaGreat
open Go.RowKit
set_option linter.unusedSimpArgs false
set_option linter.unusedVariables false
set_option maxRecDepth 20000

/-- What stays of a number in 32 bits. -/
def u32N (x : Int) : Nat := (x % 4294967296).toNat
theorem u32N_lt (x : Int) : u32N x < 4294967296 := by unfold u32N; omega
theorem wrap_u32N (x : Int) : IntKind.wrap .u32 x = ((u32N x : Nat) : Int) := by
  simp only [IntKind.wrap, IntKind.bits, IntKind.signed, u32N]; simp; omega
theorem u32N_nat {n : Nat} (h : n < 4294967296) : u32N (n : Int) = n := by unfold u32N; omega

structure DnR where
  c : Int
  s : QS
  fr : List Frm
  d : Nat
def dnA (s : QS) : Nat := s.r.used + 4 + 8 * (s.put % s.r.n.toNat)
abbrev dnF1 (fr : List Frm) (pg : List Pl) (s : QS) (h : Nat) : List Frm := wrF fr pg (dnA s) (bytesL [h])
abbrev dnD1 (fr : List Frm) (pg : List Pl) (d : Nat) (s : QS) : Nat := wrE fr pg (dnA s) d 4
abbrev dnF2 (fr : List Frm) (pg : List Pl) (s : QS) (h n : Nat) : List Frm := wrF (dnF1 fr pg s h) pg (dnA s + 4) (bytesL [n])
abbrev dnD2 (fr : List Frm) (pg : List Pl) (d : Nat) (s : QS) (h : Nat) : Nat := wrE (dnF1 fr pg s h) pg (dnA s + 4) (dnD1 fr pg d s) 4
abbrev dnF3 (fr : List Frm) (pg : List Pl) (s : QS) (h n : Nat) : List Frm := wrF (dnF2 fr pg s h n) pg s.r.used (bytesL [(s.put + 1) % 65536])
abbrev dnD3 (fr : List Frm) (pg : List Pl) (d : Nat) (s : QS) (h n : Nat) : Nat := wrE (dnF2 fr pg s h n) pg s.r.used (dnD2 fr pg d s h) 4
/-- What Done comes to. -/
def dnX (fr : List Frm) (pg : List Pl) (d : Nat) (s : QS) (h n : Nat) : DnR :=
  if s.on && decide (s.br = 0) then
    (if ownB fr.length pg (dnA s) 4 then
      (if ownB fr.length pg (dnA s + 4) 4 then
        (if ownB fr.length pg s.r.used 4 then ⟨0, { s with put := (s.put + 1) % 65536 }, dnF3 fr pg s h n, dnD3 fr pg d s h n⟩
          else ⟨5, { s with put := (s.put + 1) % 65536, br := 5 }, dnF3 fr pg s h n, dnD3 fr pg d s h n⟩)
        else ⟨5, { s with br := 5 }, dnF2 fr pg s h n, dnD2 fr pg d s h⟩)
      else ⟨5, { s with br := 5 }, dnF1 fr pg s h, dnD1 fr pg d s⟩)
    else ⟨s.br, s, fr, d⟩
theorem dnF1_ok {fr : List Frm} (hF : Frs fr) (pg : List Pl) (s : QS) (h : Nat) : Frs (dnF1 fr pg s h) ∧ (dnF1 fr pg s h).length = fr.length := wrF_ok hF
theorem dnF2_ok {fr : List Frm} (hF : Frs fr) (pg : List Pl) (s : QS) (h n : Nat) : Frs (dnF2 fr pg s h n) ∧ (dnF2 fr pg s h n).length = fr.length := by
  obtain ⟨h1, h2⟩ := dnF1_ok hF pg s h
  exact ⟨(wrF_ok h1).1, (wrF_ok h1).2.trans h2⟩
theorem dnF3_ok {fr : List Frm} (hF : Frs fr) (pg : List Pl) (s : QS) (h n : Nat) : Frs (dnF3 fr pg s h n) ∧ (dnF3 fr pg s h n).length = fr.length := by
  obtain ⟨h1, h2⟩ := dnF2_ok hF pg s h n
  exact ⟨(wrF_ok h1).1, (wrF_ok h1).2.trans h2⟩
theorem dnD_lt {fr : List Frm} {pg : List Pl} {d : Nat} {s : QS} {h n : Nat} (hd : d < 4096) : dnD1 fr pg d s < 4096 ∧ dnD2 fr pg d s h < 4096 ∧ dnD3 fr pg d s h n < 4096 :=
  ⟨wrE_lt hd, wrE_lt (wrE_lt hd), wrE_lt (wrE_lt (wrE_lt hd))⟩
/-- What a queue's state keeps. -/
theorem dnX_ok {fr : List Frm} {pg : List Pl} {d : Nat} {s : QS} {h n : Nat} (hF : Frs fr) (hd : d < 4096) (hs : QOk s) :
    Frs (dnX fr pg d s h n).fr ∧ (dnX fr pg d s h n).fr.length = fr.length ∧ (dnX fr pg d s h n).d < 4096 ∧ QOk (dnX fr pg d s h n).s := by
  obtain ⟨d1, d2, d3⟩ := dnD_lt (fr := fr) (pg := pg) (s := s) (h := h) (n := n) hd
  obtain ⟨f1, l1⟩ := dnF1_ok hF pg s h
  obtain ⟨f2, l2⟩ := dnF2_ok hF pg s h n
  obtain ⟨f3, l3⟩ := dnF3_ok hF pg s h n
  have hb : ∀ b, QOk { s with br := b } := fun b => ⟨hs.n, hs.av, hs.us, hs.last, hs.put⟩
  have hp : ∀ b, QOk { s with put := (s.put + 1) % 65536, br := b } := fun b => ⟨hs.n, hs.av, hs.us, hs.last, Nat.mod_lt _ (by decide)⟩
  unfold dnX
  split
  · split
    · split
      · split
        · exact ⟨f3, l3, d3, hp _⟩
        · exact ⟨f3, l3, d3, hp _⟩
      · exact ⟨f2, l2, d2, hb _⟩
    · exact ⟨f1, l1, d1, hb _⟩
  · exact ⟨hF, rfl, hd, hs⟩
theorem dnX_cases (fr : List Frm) (pg : List Pl) (d sd sa su n last put hh nn : Nat) :
    (¬ ownB fr.length pg (dnA ⟨⟨sd, sa, su, n⟩, true, 0, last, put⟩) 4 = true → dnX fr pg d ⟨⟨sd, sa, su, n⟩, true, 0, last, put⟩ hh nn = ⟨5, ⟨⟨sd, sa, su, n⟩, true, 5, last, put⟩, dnF1 fr pg ⟨⟨sd, sa, su, n⟩, true, 0, last, put⟩ hh, dnD1 fr pg d ⟨⟨sd, sa, su, n⟩, true, 0, last, put⟩⟩) ∧
    (ownB fr.length pg (dnA ⟨⟨sd, sa, su, n⟩, true, 0, last, put⟩) 4 = true → ¬ ownB fr.length pg (dnA ⟨⟨sd, sa, su, n⟩, true, 0, last, put⟩ + 4) 4 = true → dnX fr pg d ⟨⟨sd, sa, su, n⟩, true, 0, last, put⟩ hh nn = ⟨5, ⟨⟨sd, sa, su, n⟩, true, 5, last, put⟩, dnF2 fr pg ⟨⟨sd, sa, su, n⟩, true, 0, last, put⟩ hh nn, dnD2 fr pg d ⟨⟨sd, sa, su, n⟩, true, 0, last, put⟩ hh⟩) ∧
    (ownB fr.length pg (dnA ⟨⟨sd, sa, su, n⟩, true, 0, last, put⟩) 4 = true → ownB fr.length pg (dnA ⟨⟨sd, sa, su, n⟩, true, 0, last, put⟩ + 4) 4 = true → ∀ c : Int, c = (if ownB fr.length pg su 4 = true then 0 else 5) → dnX fr pg d ⟨⟨sd, sa, su, n⟩, true, 0, last, put⟩ hh nn = ⟨c, ⟨⟨sd, sa, su, n⟩, true, c, last, (put + 1) % 65536⟩, dnF3 fr pg ⟨⟨sd, sa, su, n⟩, true, 0, last, put⟩ hh nn, dnD3 fr pg d ⟨⟨sd, sa, su, n⟩, true, 0, last, put⟩ hh nn⟩) := by
  refine ⟨fun o1 => ?_, fun o1 o2 => ?_, fun o1 o2 c hc => ?_⟩
  · rw [dnX, if_pos (by rfl), if_neg o1]
  · rw [dnX, if_pos (by rfl), if_pos o1, if_neg o2]
  · subst hc
    rw [dnX, if_pos (by rfl), if_pos o1, if_pos o2]
    by_cases q : ownB fr.length pg su 4 = true
    · rw [if_pos q, if_pos q]
    · rw [if_neg q, if_neg q]
theorem qDone_spec (W0 : World) (R : List HP) (b pv ps pm d : Nat) (fr : List Frm) (pg : List Pl) (h : Pgs pg) (hF : Frs fr) (hd : d < 4096) (s : QS) (hs : QOk s) (x y : Int) :
    Spec Tryz.prog W0 36 [.pointer (some ⟨b, 0, none⟩), .pointer (some ⟨pv, 0, none⟩), .int .i64 x, .int .i64 y] (pt b (qO true s) :: vwW pv ps pm d fr pg R)
      (fun v B => v = .int .i64 (dnX fr pg d s (u32N x) (u32N y)).c ∧ B = pt b (qO true (dnX fr pg d s (u32N x) (u32N y)).s) :: vwW pv ps pm (dnX fr pg d s (u32N x) (u32N y)).d (dnX fr pg d s (u32N x) (u32N y)).fr pg R) := by
  obtain ⟨⟨sd, sa, su, sn⟩, on, br, last, put⟩ := s
  by_cases hu : (on && decide (br = 0)) = true
  · have hu' : on = true ∧ br = 0 := by simpa using hu
    obtain ⟨rfl, rfl⟩ := hu'
    have hN := hs.n rfl
    obtain ⟨n, rfl⟩ : ∃ n : Nat, sn = (n : Int) := ⟨sn.toNat, by dsimp only at hN; omega⟩
    have hn : n = 2 ∨ n = 4 ∨ n = 8 := by dsimp only at hN; omega
    have ha : su ≤ 1000 := hs.us rfl
    have hp : put < 65536 := hs.put
    have hm := Nat.mod_lt put (show 0 < n by omega)
    have hx := u32N_lt x
    have hy := u32N_lt y
    have hA : dnA ⟨⟨sd, sa, su, n⟩, true, 0, last, put⟩ = su + 4 + 8 * (put % n) := rfl
    obtain ⟨hX1, hX2, hX3⟩ := dnX_cases fr pg d sd sa su n last put (u32N x) (u32N y)
    obtain ⟨d1, d2, d3⟩ := dnD_lt (fr := fr) (pg := pg) (s := ⟨⟨sd, sa, su, n⟩, true, 0, last, put⟩) (h := u32N x) (n := u32N y) hd
    obtain ⟨f1, l1⟩ := dnF1_ok hF pg ⟨⟨sd, sa, su, n⟩, true, 0, last, put⟩ (u32N x)
    obtain ⟨f2, l2⟩ := dnF2_ok hF pg ⟨⟨sd, sa, su, n⟩, true, 0, last, put⟩ (u32N x) (u32N y)
    refine spec_body Tryz.func36 Tryz.ntmps36 rfl rfl ?_
    refine x_seq ?_
    refine x_region ?_
    refine s_val rfl (v_assign rfl) ?_
    refine x_nil ?_
    refine n_then ?_
    refine x_seq ?_
    refine x_block ?_
    refine x_seq ?_
    refine x_region ?_
    refine s_val rfl (v_move rfl) ?_
    refine s_do rfl (d_call1 Tryz.call94 rfl (qNone_spec W0 _ b true ⟨⟨sd, sa, su, n⟩, true, 0, last, put⟩)) ?_
    rintro _ B_ ⟨rfl, hB_⟩
    obtain rfl := hB_.symm
    refine s_val rfl (v_assign rfl) ?_
    refine x_nil ?_
    refine n_then ?_
    refine x_if rfl ?_ ?_
    · intro c1
      exact absurd c1 (by decide)
    · intro c1
      refine x_seq ?_
      refine x_region ?_
      refine s_val rfl (v_move rfl) ?_
      refine s_do rfl (d_call1 Tryz.call107 rfl (qUsable_spec W0 _ b true ⟨⟨sd, sa, su, n⟩, true, 0, last, put⟩)) ?_
      rintro _ B_ ⟨rfl, hB_⟩
      obtain rfl := hB_.symm
      refine s_val rfl (v_not rfl) ?_
      refine s_val rfl (v_assign rfl) ?_
      refine x_nil ?_
      refine n_then ?_
      refine x_if rfl ?_ ?_
      · intro c3
        exact absurd ⟨rfl, rfl⟩ c3
      · intro c3
        refine x_skip ?_
        refine n_block ?_
        refine n_then ?_
        refine x_seq ?_
        refine x_draw [(b, 0, _)] 23 mixed rfl (sc_own sc_end) (fun hS => ?_)
        refine d_take 0 rfl rfl (by kernel_rfl) (by kernel_rfl) (by kernel_rfl) rfl hS (v_move rfl) ?_
        refine d_take 1 rfl rfl (by kernel_rfl) (by kernel_rfl) (by kernel_rfl) rfl hS (v_nilCheck rfl) ?_
        refine d_take 2 rfl rfl (by kernel_rfl) (by kernel_rfl) (by kernel_rfl) rfl hS (v_fieldAddr rfl Tryz.underlying167 rfl Tryz.sizeOf59 rfl (by first | exact Nat.zero_add _ | rfl)) ?_
        refine d_take 3 rfl rfl (by kernel_rfl) (by kernel_rfl) (by kernel_rfl) rfl hS (v_fieldAddr rfl Tryz.underlying59 rfl Tryz.sizeOf55 rfl (by first | exact Nat.zero_add _ | rfl)) ?_
        refine d_take 4 rfl rfl (by kernel_rfl) (by kernel_rfl) (by kernel_rfl) rfl hS (v_fieldAddr rfl Tryz.underlying55 rfl Tryz.sizeOf53 rfl (by first | exact Nat.zero_add _ | rfl)) ?_
        refine d_take 5 rfl rfl (by kernel_rfl) (by kernel_rfl) (by kernel_rfl) rfl hS (v_load Tryz.isAgg53 rfl (cell_sc0 (k := 0) rfl rfl)) ?_
        refine d_take 6 rfl rfl (by kernel_rfl) (by kernel_rfl) (by kernel_rfl) rfl hS (v_add rfl rfl (by rw [w32u (by omega)]; omega : IntKind.wrap .u32 ((su : Int) + 4) = ((su + 4 : Nat) : Int))) ?_
        refine d_take 7 rfl rfl (by kernel_rfl) (by kernel_rfl) (by kernel_rfl) rfl hS (v_move rfl) ?_
        refine d_take 8 rfl rfl (by kernel_rfl) (by kernel_rfl) (by kernel_rfl) rfl hS (v_nilCheck rfl) ?_
        refine d_take 9 rfl rfl (by kernel_rfl) (by kernel_rfl) (by kernel_rfl) rfl hS (v_fieldAddr rfl Tryz.underlying167 rfl Tryz.sizeOf59 rfl (by first | exact Nat.zero_add _ | rfl)) ?_
        refine d_take 10 rfl rfl (by kernel_rfl) (by kernel_rfl) (by kernel_rfl) rfl hS (v_fieldAddr rfl Tryz.underlying59 rfl Tryz.sizeOf3 rfl (by first | exact Nat.zero_add _ | rfl)) ?_
        refine d_take 11 rfl rfl (by kernel_rfl) (by kernel_rfl) (by kernel_rfl) rfl hS (v_load Tryz.isAgg3 rfl (cell_sc0 (k := 0) rfl rfl)) ?_
        refine d_take 12 rfl rfl (by kernel_rfl) (by kernel_rfl) (by kernel_rfl) rfl hS (v_move rfl) ?_
        refine d_take 13 rfl rfl (by kernel_rfl) (by kernel_rfl) (by kernel_rfl) rfl hS (v_nilCheck rfl) ?_
        refine d_take 14 rfl rfl (by kernel_rfl) (by kernel_rfl) (by kernel_rfl) rfl hS (v_fieldAddr rfl Tryz.underlying167 rfl Tryz.sizeOf59 rfl (by first | exact Nat.zero_add _ | rfl)) ?_
        refine d_take 15 rfl rfl (by kernel_rfl) (by kernel_rfl) (by kernel_rfl) rfl hS (v_fieldAddr rfl Tryz.underlying59 rfl Tryz.sizeOf55 rfl (by first | exact Nat.zero_add _ | rfl)) ?_
        refine d_take 16 rfl rfl (by kernel_rfl) (by kernel_rfl) (by kernel_rfl) rfl hS (v_fieldAddr rfl Tryz.underlying55 rfl Tryz.sizeOf3 rfl (by first | exact Nat.zero_add _ | rfl)) ?_
        refine d_take 17 rfl rfl (by kernel_rfl) (by kernel_rfl) (by kernel_rfl) rfl hS (v_load Tryz.isAgg3 rfl (cell_sc0 (k := 0) rfl rfl)) ?_
        refine d_take 18 rfl rfl (by kernel_rfl) (by kernel_rfl) (by kernel_rfl) rfl hS (v_rem rfl rfl (show ((n : Nat) : Int) ≠ 0 by omega) (tmodN put n)) ?_
        refine d_take 19 rfl rfl (by kernel_rfl) (by kernel_rfl) (by kernel_rfl) rfl hS (v_conv Tryz.underlying3 Tryz.underlying53 rfl (w32u (by omega))) ?_
        refine d_take 20 rfl rfl (by kernel_rfl) (by kernel_rfl) (by kernel_rfl) rfl hS (v_mul rfl rfl (by rw [w32u (by omega)]; omega : IntKind.wrap .u32 (8 * ((put % n : Nat) : Int)) = ((8 * (put % n) : Nat) : Int))) ?_
        refine d_take 21 rfl rfl (by kernel_rfl) (by kernel_rfl) (by kernel_rfl) rfl hS (v_add rfl rfl (by rw [w32u (by omega), hA]; omega : IntKind.wrap .u32 (((su + 4 : Nat) : Int) + ((8 * (put % n) : Nat) : Int)) = ((dnA ⟨⟨sd, sa, su, n⟩, true, 0, last, put⟩ : Nat) : Int))) ?_
        refine d_take 22 rfl rfl (by kernel_rfl) (by kernel_rfl) (by kernel_rfl) rfl hS (v_assign rfl) ?_
        refine d_done (by kernel_rfl) ?_; clear hS
        refine n_then ?_
        refine x_seq ?_
        refine x_seq ?_
        refine x_region ?_
        refine s_val rfl (v_move rfl) ?_
        refine s_val rfl (v_move rfl) ?_
        refine s_val rfl (v_move rfl) ?_
        refine s_val rfl (v_conv Tryz.underlying3 Tryz.underlying53 rfl (wrap_u32N x)) ?_
        refine s_do rfl (d_call3 Tryz.call111 rfl (qPut_spec W0 _ pv ps pm d fr pg h hF hd (dnA ⟨⟨sd, sa, su, n⟩, true, 0, last, put⟩) (by omega) (u32N x) hx)) ?_
        rintro _ B_ ⟨rfl, hB_⟩
        obtain rfl := hB_.symm
        refine s_val rfl (v_not rfl) ?_
        refine s_val rfl (v_move rfl) ?_
        refine s_or rfl rfl rfl ?_ ?_
        · intro g6_7
          refine s_no rfl rfl rfl rfl ?_
          refine s_no rfl rfl rfl rfl ?_
          refine s_no rfl rfl rfl rfl ?_
          refine s_no rfl rfl rfl rfl ?_
          refine s_no rfl rfl rfl rfl ?_
          refine s_no rfl rfl rfl rfl ?_
          refine s_val rfl (v_pick_t rfl rfl) ?_
          refine x_nil ?_
          refine n_then ?_
          refine x_ift rfl ?_
          refine x_seq ?_
          refine x_region ?_
          refine s_val rfl (v_move rfl) ?_
          refine s_do rfl (d_call1 Tryz.call96 rfl (qBreaks_spec W0 _ b true ⟨⟨sd, sa, su, n⟩, true, 0, last, put⟩ 5)) ?_
          rintro _ B_ ⟨rfl, hB_⟩
          obtain rfl := hB_.symm
          refine s_val rfl (v_assign rfl) ?_
          refine x_nil ?_
          refine n_then ?_
          refine x_ret ?_
          refine r_then ?_
          refine x_done (.inl rfl) (.cons (r_tmp rfl) .nil) ?_
          first
            | (rw [hX1 (by simp_all)]; exact ⟨_, ⟨rfl, rfl⟩, inferInstance⟩)
            | (rw [hX2 (by simp_all) (by simp_all)]; exact ⟨_, ⟨rfl, rfl⟩, inferInstance⟩)
        · intro g6_7
          refine s_val rfl (v_move rfl) ?_
          refine s_yes rfl rfl ?_
          refine s_val rfl (v_move rfl) ?_
          refine s_yes rfl rfl ?_
          refine s_val rfl (v_add rfl rfl (by rw [w32u (by omega)]; omega : IntKind.wrap .u32 (((dnA ⟨⟨sd, sa, su, n⟩, true, 0, last, put⟩ : Nat) : Int) + 4) = ((dnA ⟨⟨sd, sa, su, n⟩, true, 0, last, put⟩ + 4 : Nat) : Int))) ?_
          refine s_yes rfl rfl ?_
          refine s_val rfl (v_move rfl) ?_
          refine s_yes rfl rfl ?_
          refine s_val rfl (v_conv Tryz.underlying3 Tryz.underlying53 rfl (wrap_u32N y)) ?_
          refine s_yes rfl rfl ?_
          refine s_do rfl (d_call3 Tryz.call111 rfl (qPut_spec W0 _ pv ps pm (dnD1 fr pg d ⟨⟨sd, sa, su, n⟩, true, 0, last, put⟩) (dnF1 fr pg ⟨⟨sd, sa, su, n⟩, true, 0, last, put⟩ (u32N x)) pg h f1 d1 (dnA ⟨⟨sd, sa, su, n⟩, true, 0, last, put⟩ + 4) (by omega) (u32N y) hy)) ?_
          rintro _ B_ ⟨rfl, hB_⟩
          obtain rfl := hB_.symm
          rw [l1]
          refine s_yes rfl rfl ?_
          refine s_val rfl (v_not rfl) ?_
          refine s_val rfl (v_pick_f rfl rfl) ?_
          refine x_nil ?_
          refine n_then ?_
          refine x_if rfl ?_ ?_
          · intro c6
            refine x_seq ?_
            refine x_region ?_
            refine s_val rfl (v_move rfl) ?_
            refine s_do rfl (d_call1 Tryz.call96 rfl (qBreaks_spec W0 _ b true ⟨⟨sd, sa, su, n⟩, true, 0, last, put⟩ 5)) ?_
            rintro _ B_ ⟨rfl, hB_⟩
            obtain rfl := hB_.symm
            refine s_val rfl (v_assign rfl) ?_
            refine x_nil ?_
            refine n_then ?_
            refine x_ret ?_
            refine r_then ?_
            refine x_done (.inl rfl) (.cons (r_tmp rfl) .nil) ?_
            first
              | (rw [hX1 (by simp_all)]; exact ⟨_, ⟨rfl, rfl⟩, inferInstance⟩)
              | (rw [hX2 (by simp_all) (by simp_all)]; exact ⟨_, ⟨rfl, rfl⟩, inferInstance⟩)
          · intro c6
            refine x_skip ?_
            refine n_then ?_
            refine x_seq ?_
            refine x_region ?_
            refine s_val rfl (v_move rfl) ?_
            refine s_val rfl (v_move rfl) ?_
            refine s_val rfl (v_nilCheck rfl) ?_
            refine s_val rfl (v_fieldAddr rfl Tryz.underlying167 rfl Tryz.sizeOf59 rfl (by first | exact Nat.zero_add _ | rfl)) ?_
            refine s_val rfl (v_fieldAddr rfl Tryz.underlying59 rfl Tryz.sizeOf3 rfl (by first | exact Nat.zero_add _ | rfl)) ?_
            refine s_val rfl (v_load Tryz.isAgg3 rfl (cell_own rfl)) ?_
            refine s_do rfl (d_call Tryz.call109 rfl (qOne_spec W0 _ put hp)) ?_
            rintro _ B_ ⟨rfl, hB_⟩
            obtain rfl := hB_.symm
            refine s_val rfl (v_nilCheck rfl) ?_
            refine s_val rfl (v_fieldAddr rfl Tryz.underlying167 rfl Tryz.sizeOf59 rfl (by first | exact Nat.zero_add _ | rfl)) ?_
            refine s_val rfl (v_fieldAddr rfl Tryz.underlying59 rfl Tryz.sizeOf3 rfl (by first | exact Nat.zero_add _ | rfl)) ?_
            refine s_do0 (d_store Tryz.sizeOf3 rfl rfl rfl (Nat.le_of_ble_eq_true rfl) SetL.eq) ?_
            rintro _ _ rfl
            refine x_nil ?_
            refine n_then ?_
            refine x_seq ?_
            refine x_seq ?_
            refine x_draw [(b, 0, _)] 15 mixed rfl (sc_own sc_end) (fun hS => ?_)
            refine d_take 0 rfl rfl (by kernel_rfl) (by kernel_rfl) (by kernel_rfl) rfl hS (v_move rfl) ?_
            refine d_take 1 rfl rfl (by kernel_rfl) (by kernel_rfl) (by kernel_rfl) rfl hS (v_move rfl) ?_
            refine d_take 2 rfl rfl (by kernel_rfl) (by kernel_rfl) (by kernel_rfl) rfl hS (v_nilCheck rfl) ?_
            refine d_take 3 rfl rfl (by kernel_rfl) (by kernel_rfl) (by kernel_rfl) rfl hS (v_fieldAddr rfl Tryz.underlying167 rfl Tryz.sizeOf59 rfl (by first | exact Nat.zero_add _ | rfl)) ?_
            refine d_take 4 rfl rfl (by kernel_rfl) (by kernel_rfl) (by kernel_rfl) rfl hS (v_fieldAddr rfl Tryz.underlying59 rfl Tryz.sizeOf55 rfl (by first | exact Nat.zero_add _ | rfl)) ?_
            refine d_take 5 rfl rfl (by kernel_rfl) (by kernel_rfl) (by kernel_rfl) rfl hS (v_fieldAddr rfl Tryz.underlying55 rfl Tryz.sizeOf53 rfl (by first | exact Nat.zero_add _ | rfl)) ?_
            refine d_take 6 rfl rfl (by kernel_rfl) (by kernel_rfl) (by kernel_rfl) rfl hS (v_load Tryz.isAgg53 rfl (cell_sc0 (k := 0) rfl rfl)) ?_
            refine d_take 7 rfl rfl (by kernel_rfl) (by kernel_rfl) (by kernel_rfl) rfl hS (v_move rfl) ?_
            refine d_take 8 rfl rfl (by kernel_rfl) (by kernel_rfl) (by kernel_rfl) rfl hS (v_nilCheck rfl) ?_
            refine d_take 9 rfl rfl (by kernel_rfl) (by kernel_rfl) (by kernel_rfl) rfl hS (v_fieldAddr rfl Tryz.underlying167 rfl Tryz.sizeOf59 rfl (by first | exact Nat.zero_add _ | rfl)) ?_
            refine d_take 10 rfl rfl (by kernel_rfl) (by kernel_rfl) (by kernel_rfl) rfl hS (v_fieldAddr rfl Tryz.underlying59 rfl Tryz.sizeOf3 rfl (by first | exact Nat.zero_add _ | rfl)) ?_
            refine d_take 11 rfl rfl (by kernel_rfl) (by kernel_rfl) (by kernel_rfl) rfl hS (v_load Tryz.isAgg3 rfl (cell_sc0 (k := 0) rfl rfl)) ?_
            refine d_take 12 rfl rfl (by kernel_rfl) (by kernel_rfl) (by kernel_rfl) rfl hS (v_conv Tryz.underlying3 Tryz.underlying53 rfl (w32u (by omega))) ?_
            refine d_one 13 (by kernel_rfl) rfl rfl (d_call3 Tryz.call111 rfl (qPut_spec W0 _ pv ps pm (dnD2 fr pg d ⟨⟨sd, sa, su, n⟩, true, 0, last, put⟩ (u32N x)) (dnF2 fr pg ⟨⟨sd, sa, su, n⟩, true, 0, last, put⟩ (u32N x) (u32N y)) pg h f2 d2 su (by omega) ((put + 1) % 65536) (by omega))) rfl ?_; clear hS
            rintro _ B_ ⟨rfl, hB_⟩
            obtain rfl := hB_.symm
            rw [l2]
            refine ⟨(sc_own sc_end), fun hS => ?_⟩
            refine d_take 14 rfl rfl (by kernel_rfl) (by kernel_rfl) (by kernel_rfl) rfl hS (v_not rfl) ?_
            refine d_done (by kernel_rfl) ?_; clear hS
            refine n_then ?_
            refine x_if rfl ?_ ?_
            · intro c9
              refine x_seq ?_
              refine x_region ?_
              refine s_val rfl (v_move rfl) ?_
              refine s_do rfl (d_call1 Tryz.call96 rfl (qBreaks_spec W0 _ b true ⟨⟨sd, sa, su, n⟩, true, 0, last, (put + 1) % 65536⟩ 5)) ?_
              rintro _ B_ ⟨rfl, hB_⟩
              obtain rfl := hB_.symm
              refine s_val rfl (v_assign rfl) ?_
              refine x_nil ?_
              refine n_then ?_
              refine x_ret ?_
              refine r_then ?_
              refine x_done (.inl rfl) (.cons (r_tmp rfl) .nil) ?_
              rw [hX3 (by simp_all) (by simp_all) 5 (by simp_all)]; exact ⟨_, ⟨rfl, rfl⟩, inferInstance⟩
            · intro c9
              refine x_skip ?_
              refine n_then ?_
              refine x_seq ?_
              refine x_region ?_
              refine s_val rfl (v_assign rfl) ?_
              refine x_nil ?_
              refine n_then ?_
              refine x_ret ?_
              refine x_done (.inl rfl) (.cons (r_tmp rfl) .nil) ?_
              rw [hX3 (by simp_all) (by simp_all) 0 (by simp_all)]; exact ⟨_, ⟨rfl, rfl⟩, inferInstance⟩
  · have hu' : ¬ (on = true ∧ br = 0) := by simpa using hu
    have hX : dnX fr pg d ⟨⟨sd, sa, su, sn⟩, on, br, last, put⟩ (u32N x) (u32N y) = ⟨br, ⟨⟨sd, sa, su, sn⟩, on, br, last, put⟩, fr, d⟩ := by rw [dnX, if_neg hu]
    rw [hX]
    refine spec_body Tryz.func36 Tryz.ntmps36 rfl rfl ?_
    refine x_seq ?_
    refine x_region ?_
    refine s_val rfl (v_assign rfl) ?_
    refine x_nil ?_
    refine n_then ?_
    refine x_seq ?_
    refine x_block ?_
    refine x_seq ?_
    refine x_region ?_
    refine s_val rfl (v_move rfl) ?_
    refine s_do rfl (d_call1 Tryz.call94 rfl (qNone_spec W0 _ b true ⟨⟨sd, sa, su, sn⟩, on, br, last, put⟩)) ?_
    rintro _ B_ ⟨rfl, hB_⟩
    obtain rfl := hB_.symm
    refine s_val rfl (v_assign rfl) ?_
    refine x_nil ?_
    refine n_then ?_
    refine x_if rfl ?_ ?_
    · intro c1
      exact absurd c1 (by decide)
    · intro c1
      refine x_seq ?_
      refine x_region ?_
      refine s_val rfl (v_move rfl) ?_
      refine s_do rfl (d_call1 Tryz.call107 rfl (qUsable_spec W0 _ b true ⟨⟨sd, sa, su, sn⟩, on, br, last, put⟩)) ?_
      rintro _ B_ ⟨rfl, hB_⟩
      obtain rfl := hB_.symm
      refine s_val rfl (v_not rfl) ?_
      refine s_val rfl (v_assign rfl) ?_
      refine x_nil ?_
      refine n_then ?_
      refine x_if rfl ?_ ?_
      · intro c3
        refine x_seq ?_
        refine x_region ?_
        refine s_val rfl (v_move rfl) ?_
        refine s_val rfl (v_nilCheck rfl) ?_
        refine s_val rfl (v_fieldAddr rfl Tryz.underlying167 rfl Tryz.sizeOf59 rfl (by first | exact Nat.zero_add _ | rfl)) ?_
        refine s_val rfl (v_fieldAddr rfl Tryz.underlying59 rfl Tryz.sizeOf3 rfl (by first | exact Nat.zero_add _ | rfl)) ?_
        refine s_val rfl (v_load Tryz.isAgg3 rfl (cell_own rfl)) ?_
        refine s_val rfl (v_assign rfl) ?_
        refine x_nil ?_
        refine n_then ?_
        refine x_ret ?_
        refine r_block ?_
        refine r_then ?_
        refine x_done (.inl rfl) (.cons (r_tmp rfl) .nil) ?_
        exact ⟨_, ⟨rfl, rfl⟩, inferInstance⟩
      · intro c3
        exact absurd (Decidable.not_not.1 c3) hu'
/-- What Break comes to. -/
def bkB (s : QS) (w : Int) : Bool := decide (1 ≤ w ∧ w ≤ 7) && s.on
def bkS (s : QS) (w : Int) : QS := if bkB s w then (if s.br = 0 then { s with br := w } else s) else s
theorem bkS_ok {s : QS} (hs : QOk s) (w : Int) : QOk (bkS s w) := by
  unfold bkS
  split
  · split
    · exact ⟨hs.n, hs.av, hs.us, hs.last, hs.put⟩
    · exact hs
  · exact hs
theorem bkB_iff {s : QS} {w : Int} : bkB s w = true ↔ (1 ≤ w ∧ w ≤ 7) ∧ s.on = true := by simp [bkB]
theorem qBreak_spec (W0 : World) (R : List HP) (b : Nat) (s : QS) (w : Int) : Spec Tryz.prog W0 28 [.pointer (some ⟨b, 0, none⟩), .int .i64 w] (pt b (qO true s) :: R)
    (fun v B => v = .int .i64 (if bkB s w then 0 else 1) ∧ B = pt b (qO true (bkS s w)) :: R) := by
  obtain ⟨⟨sd, sa, su, sn⟩, on, br, last, put⟩ := s
  have hB := bkB_iff (s := ⟨⟨sd, sa, su, sn⟩, on, br, last, put⟩) (w := w)
  dsimp only at hB
  have hno : ¬ ((1 ≤ w ∧ w ≤ 7) ∧ on = true) → bkB ⟨⟨sd, sa, su, sn⟩, on, br, last, put⟩ w = false := fun q => by
    rw [← Bool.not_eq_true, hB]; exact q
  have hn := fun q => show bkS ⟨⟨sd, sa, su, sn⟩, on, br, last, put⟩ w = _ by rw [bkS, hno q, if_neg (by decide)]
  refine spec_body Tryz.func28 Tryz.ntmps28 rfl rfl ?_
  refine x_seq ?_
  refine x_region ?_
  refine s_val rfl (v_assign rfl) ?_
  refine x_nil ?_
  refine n_then ?_
  refine x_seq ?_
  refine x_block ?_
  refine x_seq ?_
  refine x_region ?_
  refine s_val rfl (v_move rfl) ?_
  refine s_do rfl (d_call1 Tryz.call94 rfl (qNone_spec W0 _ b true ⟨⟨sd, sa, su, sn⟩, on, br, last, put⟩)) ?_
  rintro _ B_ ⟨rfl, hB_⟩
  obtain rfl := hB_.symm
  refine s_val rfl (v_assign rfl) ?_
  refine x_nil ?_
  refine n_then ?_
  refine x_if rfl ?_ ?_
  · intro c1
    exact absurd c1 (by decide)
  · intro c1
    refine x_seq ?_
    refine x_seq ?_
    refine x_region ?_
    refine s_val rfl (v_move rfl) ?_
    refine s_val rfl (v_lss rfl rfl) ?_
    refine s_val rfl (v_assign rfl) ?_
    refine x_nil ?_
    refine n_then ?_
    refine x_if rfl ?_ ?_
    · intro c3
      refine x_skip ?_
      refine n_then ?_
      refine x_ift rfl ?_
      refine x_seq ?_
      refine x_region ?_
      refine s_val rfl (v_assign rfl) ?_
      refine x_nil ?_
      refine n_then ?_
      refine x_ret ?_
      refine r_block ?_
      refine r_then ?_
      refine x_done (.inl rfl) (.cons (r_tmp rfl) .nil) ?_
      first
        | (rw [hn (by omega), hno (by omega)]; exact ⟨_, ⟨rfl, rfl⟩, inferInstance⟩)
        | (rw [hn (by simp_all), hno (by simp_all)]; exact ⟨_, ⟨rfl, rfl⟩, inferInstance⟩)
    · intro c3
      refine x_seq ?_
      refine x_region ?_
      refine s_val rfl (v_move rfl) ?_
      refine s_val rfl (v_gtr rfl rfl) ?_
      refine s_val rfl (v_assign rfl) ?_
      refine x_nil ?_
      refine n_then ?_
      refine x_if rfl ?_ ?_
      · intro c4
        refine x_skip ?_
        refine n_then ?_
        refine x_ift rfl ?_
        refine x_seq ?_
        refine x_region ?_
        refine s_val rfl (v_assign rfl) ?_
        refine x_nil ?_
        refine n_then ?_
        refine x_ret ?_
        refine r_block ?_
        refine r_then ?_
        refine x_done (.inl rfl) (.cons (r_tmp rfl) .nil) ?_
        first
          | (rw [hn (by omega), hno (by omega)]; exact ⟨_, ⟨rfl, rfl⟩, inferInstance⟩)
          | (rw [hn (by simp_all), hno (by simp_all)]; exact ⟨_, ⟨rfl, rfl⟩, inferInstance⟩)
      · intro c4
        refine x_region ?_
        refine s_val rfl (v_move rfl) ?_
        refine s_val rfl (v_nilCheck rfl) ?_
        refine s_val rfl (v_fieldAddr rfl Tryz.underlying167 rfl Tryz.sizeOf59 rfl (by first | exact Nat.zero_add _ | rfl)) ?_
        refine s_val rfl (v_fieldAddr rfl Tryz.underlying59 rfl Tryz.sizeOf4 rfl (by first | exact Nat.zero_add _ | rfl)) ?_
        refine s_val rfl (v_load Tryz.isAgg4 rfl (cell_own rfl)) ?_
        refine s_val rfl (v_not rfl) ?_
        refine s_val rfl (v_assign rfl) ?_
        refine x_nil ?_
        refine n_then ?_
        refine x_if rfl ?_ ?_
        · intro c5
          refine x_seq ?_
          refine x_region ?_
          refine s_val rfl (v_assign rfl) ?_
          refine x_nil ?_
          refine n_then ?_
          refine x_ret ?_
          refine r_block ?_
          refine r_then ?_
          refine x_done (.inl rfl) (.cons (r_tmp rfl) .nil) ?_
          first
            | (rw [hn (by omega), hno (by omega)]; exact ⟨_, ⟨rfl, rfl⟩, inferInstance⟩)
            | (rw [hn (by simp_all), hno (by simp_all)]; exact ⟨_, ⟨rfl, rfl⟩, inferInstance⟩)
        · intro c5
          refine x_seq ?_
          refine x_region ?_
          refine s_val rfl (v_move rfl) ?_
          refine s_val rfl (v_nilCheck rfl) ?_
          refine s_val rfl (v_fieldAddr rfl Tryz.underlying167 rfl Tryz.sizeOf59 rfl (by first | exact Nat.zero_add _ | rfl)) ?_
          refine s_val rfl (v_fieldAddr rfl Tryz.underlying59 rfl Tryz.sizeOf3 rfl (by first | exact Nat.zero_add _ | rfl)) ?_
          refine s_val rfl (v_load Tryz.isAgg3 rfl (cell_own rfl)) ?_
          refine s_val rfl (v_eql rfl rfl) ?_
          refine s_val rfl (v_assign rfl) ?_
          refine x_nil ?_
          refine n_then ?_
          refine x_if rfl ?_ ?_
          · intro c7
            refine x_region ?_
            refine s_val rfl (v_move rfl) ?_
            refine s_val rfl (v_move rfl) ?_
            refine s_do rfl (d_call1 Tryz.call96 rfl (qBreaks_spec W0 _ b true ⟨⟨sd, sa, su, sn⟩, on, br, last, put⟩ w)) ?_
            rintro _ B_ ⟨rfl, hB_⟩
            obtain rfl := hB_.symm
            refine x_nil ?_
            refine n_block ?_
            refine n_then ?_
            refine x_seq ?_
            refine x_region ?_
            refine s_val rfl (v_assign rfl) ?_
            refine x_nil ?_
            refine n_then ?_
            refine x_ret ?_
            refine x_done (.inl rfl) (.cons (r_tmp rfl) .nil) ?_
            have hb : bkB ⟨⟨sd, sa, su, sn⟩, on, br, last, put⟩ w = true := hB.2 ⟨by omega, by simp_all⟩
            have hs : bkS ⟨⟨sd, sa, su, sn⟩, on, br, last, put⟩ w = if br = 0 then ⟨⟨sd, sa, su, sn⟩, on, w, last, put⟩ else ⟨⟨sd, sa, su, sn⟩, on, br, last, put⟩ := by rw [bkS, if_pos hb]
            rw [hs, hb]
            first
              | (rw [if_pos c7]; exact ⟨_, ⟨rfl, rfl⟩, inferInstance⟩)
              | (rw [if_neg c7]; exact ⟨_, ⟨rfl, rfl⟩, inferInstance⟩)
          · intro c7
            refine x_skip ?_
            refine n_block ?_
            refine n_then ?_
            refine x_seq ?_
            refine x_region ?_
            refine s_val rfl (v_assign rfl) ?_
            refine x_nil ?_
            refine n_then ?_
            refine x_ret ?_
            refine x_done (.inl rfl) (.cons (r_tmp rfl) .nil) ?_
            have hb : bkB ⟨⟨sd, sa, su, sn⟩, on, br, last, put⟩ w = true := hB.2 ⟨by omega, by simp_all⟩
            have hs : bkS ⟨⟨sd, sa, su, sn⟩, on, br, last, put⟩ w = if br = 0 then ⟨⟨sd, sa, su, sn⟩, on, w, last, put⟩ else ⟨⟨sd, sa, su, sn⟩, on, br, last, put⟩ := by rw [bkS, if_pos hb]
            rw [hs, hb]
            first
              | (rw [if_pos c7]; exact ⟨_, ⟨rfl, rfl⟩, inferInstance⟩)
              | (rw [if_neg c7]; exact ⟨_, ⟨rfl, rfl⟩, inferInstance⟩)
/-! ### Take -/
def tkL (fr : List Frm) (pg : List Pl) (s : QS) : List Dsc × Int := wkAll fr pg s.r (nxR fr pg s).1
/-- The head, the descriptors, whether there is one, what is wrong. -/
def tkR (fr : List Frm) (pg : List Pl) (s : QS) : Nat × List Dsc × Bool × Int :=
  if (nxR fr pg s).2.1 then (if (tkL fr pg s).2 ≠ 0 then (0, [], false, (tkL fr pg s).2) else ((nxR fr pg s).1, (tkL fr pg s).1, true, 0)) else (0, [], false, (nxR fr pg s).2.2)
def tkS (fr : List Frm) (pg : List Pl) (s : QS) : QS :=
  if (nxR fr pg s).2.1 then (if (tkL fr pg s).2 ≠ 0 then { nxS fr pg s with br := (tkL fr pg s).2 } else nxS fr pg s) else nxS fr pg s
theorem nxS_r (fr : List Frm) (pg : List Pl) (s : QS) : (nxS fr pg s).r = s.r := by
  unfold nxS; split
  · split
    · rfl
    · split <;> rfl
  · rfl
theorem nxS_ok {fr : List Frm} {pg : List Pl} {s : QS} (hs : QOk s) : QOk (nxS fr pg s) := by
  unfold nxS; split
  · split
    · exact ⟨hs.n, hs.av, hs.us, hs.last, hs.put⟩
    · split
      · exact ⟨hs.n, hs.av, hs.us, Nat.mod_lt _ (by decide), hs.put⟩
      · exact hs
  · exact hs
theorem tkS_ok {fr : List Frm} {pg : List Pl} {s : QS} (hs : QOk s) : QOk (tkS fr pg s) := by
  have h := nxS_ok (fr := fr) (pg := pg) hs
  unfold tkS; split
  · split
    · exact ⟨h.n, h.av, h.us, h.last, h.put⟩
    · exact h
  · exact h
theorem qTake_spec (W0 : World) (R : List HP) (b pv ps pm d : Nat) (fr : List Frm) (pg : List Pl) (h : Pgs pg) (hF : Frs fr) (s : QS) (hs : QOk s) (hr : s.r.ok) :
    Spec Tryz.prog W0 35 [.pointer (some ⟨b, 0, none⟩), .pointer (some ⟨pv, 0, none⟩)] (pt b (qO true s) :: vwW pv ps pm d fr pg R)
      (fun v B => ∃ a c, v = .tuple #[.int .i64 ((tkR fr pg s).1 : Nat), .slice a (tkR fr pg s).2.1.length c, .bool (tkR fr pg s).2.2.1, .int .i64 (tkR fr pg s).2.2.2] ∧
        B = osl 99 4 (.slice a (tkR fr pg s).2.1.length c) ((tkR fr pg s).2.1.flatMap dsV) :: pt b (qO true (tkS fr pg s)) :: vwW pv ps pm d fr pg R) := by
  obtain ⟨x, hx⟩ : ∃ x, nxR fr pg s = x := ⟨_, rfl⟩
  obtain ⟨y, hy⟩ : ∃ y, wkAll fr pg s.r x.1 = y := ⟨_, rfl⟩
  have hq : tkL fr pg s = y := by rw [tkL, hx, hy]
  have hsr := nxS_r fr pg s
  obtain ⟨z, hz⟩ : ∃ z, nxS fr pg s = z := ⟨_, rfl⟩
  rw [hz] at hsr
  simp only [tkR, tkS, hx, hq, hz]
  refine spec_body Tryz.func35 Tryz.ntmps35 rfl rfl ?_
  refine x_seq ?_
  refine x_region ?_
  refine s_val rfl (v_assign rfl) ?_
  refine s_val rfl (v_assign rfl) ?_
  refine s_val rfl (v_assign rfl) ?_
  refine s_val rfl (v_assign rfl) ?_
  refine x_nil ?_
  refine n_then ?_
  refine x_seq ?_
  refine x_region ?_
  refine s_val rfl (v_move rfl) ?_
  refine s_val rfl (v_move rfl) ?_
  refine s_do rfl (d_call4 Tryz.call34 rfl (qNext_spec W0 _ b pv ps pm d fr pg h hF s hs)) ?_
  rintro _ B_ ⟨rfl, hB_⟩
  obtain rfl := hB_.symm
  rw [hx, hz]
  refine s_val rfl (v_move rfl) ?_
  refine s_val rfl (v_extract rfl rfl) ?_
  refine s_val rfl (v_extract rfl rfl) ?_
  refine s_val rfl (v_extract rfl rfl) ?_
  refine s_val rfl (v_assign rfl) ?_
  refine s_val rfl (v_assign rfl) ?_
  refine s_val rfl (v_assign rfl) ?_
  refine x_nil ?_
  refine n_then ?_
  refine x_seq ?_
  refine x_seq ?_
  refine x_region ?_
  refine s_val rfl (v_move rfl) ?_
  refine s_val rfl (v_not rfl) ?_
  refine x_nil ?_
  refine n_then ?_
  refine x_if rfl ?_ ?_
  · intro c2
    refine x_seq ?_
    refine x_region ?_
    refine s_val rfl (v_move rfl) ?_
    refine s_val rfl (v_assign rfl) ?_
    refine s_val rfl (v_assign rfl) ?_
    refine s_val rfl (v_assign rfl) ?_
    refine s_val rfl (v_assign rfl) ?_
    refine x_nil ?_
    refine n_then ?_
    refine x_ret ?_
    refine r_then ?_
    refine x_done (.inl rfl) (.cons (r_tmp rfl) (.cons (r_tmp rfl) (.cons (r_tmp rfl) (.cons (r_tmp rfl) .nil)))) ?_
    rw [if_neg c2, if_neg c2]
    exact ⟨_, ⟨none, 0, rfl, rfl⟩, ent_osl_nil⟩
  · intro c2
    have c2' : x.2.1 = true := Decidable.not_not.1 c2
    rw [if_pos c2', if_pos c2']
    refine x_skip ?_
    refine n_then ?_
    refine x_seq ?_
    refine x_region ?_
    refine s_val rfl (v_move rfl) ?_
    refine s_val rfl (v_move rfl) ?_
    refine s_val rfl (v_nilCheck rfl) ?_
    refine s_val rfl (v_fieldAddr rfl Tryz.underlying167 rfl Tryz.sizeOf59 rfl (by first | exact Nat.zero_add _ | rfl)) ?_
    refine s_val rfl (v_fieldAddr rfl Tryz.underlying59 rfl Tryz.sizeOf55 rfl (by first | exact Nat.zero_add _ | rfl)) ?_
    refine s_val rfl (v_loadPart Tryz.isAgg55 Tryz.sizeOf55 rfl TakeL.eq rfl) ?_
    refine s_val rfl (v_move rfl) ?_
    refine s_do rfl (d_call3 Tryz.call110 rfl (chWalk_spec W0 _ pv ps pm d fr pg h hF z.r (by rw [hsr]; exact hr) x.1)) ?_
    rintro _ B_ ⟨a, c, rfl, hB_⟩
    obtain rfl := hB_.symm
    rw [show wkAll fr pg z.r x.1 = y by rw [hsr, hy]]
    refine s_val rfl (v_move rfl) ?_
    refine s_val rfl (v_extract rfl rfl) ?_
    refine s_val rfl (v_extract rfl rfl) ?_
    refine s_val rfl (v_assign rfl) ?_
    refine s_val rfl (v_assign rfl) ?_
    refine x_nil ?_
    refine n_then ?_
    refine x_seq ?_
    refine x_seq ?_
    refine x_region ?_
    refine s_val rfl (v_move rfl) ?_
    refine s_val rfl (v_neq rfl rfl) ?_
    refine x_nil ?_
    refine n_then ?_
    refine x_if rfl ?_ ?_
    · intro c5
      rw [if_pos c5, if_pos c5]
      refine x_seq ?_
      refine x_region ?_
      refine s_val rfl (v_move rfl) ?_
      refine s_val rfl (v_move rfl) ?_
      refine s_do rfl (d_call1 Tryz.call96 rfl (qBreaks_spec W0 _ b true z y.2)) ?_
      rintro _ B_ ⟨rfl, hB_⟩
      obtain rfl := hB_.symm
      refine s_val rfl (v_assign rfl) ?_
      refine s_val rfl (v_assign rfl) ?_
      refine s_val rfl (v_assign rfl) ?_
      refine s_val rfl (v_assign rfl) ?_
      refine x_nil ?_
      refine n_then ?_
      refine x_ret ?_
      refine r_then ?_
      refine x_done (.inl rfl) (.cons (r_tmp rfl) (.cons (r_tmp rfl) (.cons (r_tmp rfl) (.cons (r_tmp rfl) .nil)))) ?_
      exact ⟨_, ⟨none, 0, rfl, rfl⟩, ent_osl_nil⟩
    · intro c5
      rw [if_neg c5, if_neg c5]
      refine x_skip ?_
      refine n_then ?_
      refine x_seq ?_
      refine x_region ?_
      refine s_val rfl (v_move rfl) ?_
      refine s_val rfl (v_move rfl) ?_
      refine s_val rfl (v_assign rfl) ?_
      refine s_val rfl (v_assign rfl) ?_
      refine s_val rfl (v_assign rfl) ?_
      refine s_val rfl (v_assign rfl) ?_
      refine x_nil ?_
      refine n_then ?_
      refine x_ret ?_
      refine x_done (.inl rfl) (.cons (r_tmp rfl) (.cons (r_tmp rfl) (.cons (r_tmp rfl) (.cons (r_tmp rfl) .nil)))) ?_
      exact ⟨_, ⟨a, c, rfl, rfl⟩, inferInstance⟩
end Go.Proofs.YtechkfopkpkigaaGreat
