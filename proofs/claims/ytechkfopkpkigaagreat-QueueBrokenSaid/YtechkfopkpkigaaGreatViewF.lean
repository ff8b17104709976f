/-
  Layer 16 (view): Read, Write, Dirty.
-/
import Derived.Test.YtechkfopkpkigaaGreatViewE
namespace Go.Proofs.YtechkfopkpkigaaGreat
open Go.RowKit
set_option linter.unusedSimpArgs false
set_option linter.unusedVariables false
set_option maxRecDepth 20000

def rdv (fr : List Frm) (pg : List Pl) (a : Nat) : Nat := ldN fr (whr pg a) ((a % 64 : Nat) : Int) 1
def rdL (fr : List Frm) (pg : List Pl) (pa n : Nat) : List Nat := (List.range n).map fun i => rdv fr pg (pa + i)
def rdO (fr : List Frm) (pg : List Pl) (pa : Nat) (n : Int) : List Nat := if ownB fr.length pg pa n then rdL fr pg pa n.toNat else []
theorem ldN_lt1 {fr : List Frm} (hF : Frs fr) (f off : Int) : ldN fr f off 1 < 256 := by
  unfold ldN; split
  · rename_i hf
    obtain ⟨i, rfl, hi⟩ := isF_nat hf
    unfold getN; split
    · have hb := (hF.get hi).2
      have := leN_lt ((hb.drop off.toNat).take (1 : Int).toNat)
      refine Nat.lt_of_lt_of_le this ?_
      have : ((List.drop off.toNat (fr.getD (i : Int).toNat [])).take (1 : Int).toNat).length ≤ 1 := by simp; omega
      exact Nat.pow_le_pow_right (by decide) this
    · decide
  · decide
theorem rdv_lt {fr : List Frm} (hF : Frs fr) (pg : List Pl) (a : Nat) : rdv fr pg a < 256 := ldN_lt1 hF _ _
theorem rdL_len (fr : List Frm) (pg : List Pl) (pa n : Nat) : (rdL fr pg pa n).length = n := by simp [rdL]
theorem rdL_by {fr : List Frm} (hF : Frs fr) (pg : List Pl) (pa n : Nat) : By (rdL fr pg pa n) := fun b hb => by
  obtain ⟨i, _, rfl⟩ := List.mem_map.1 hb
  exact rdv_lt hF _ _
theorem rdO_by {fr : List Frm} (hF : Frs fr) (pg : List Pl) (pa : Nat) (n : Int) : By (rdO fr pg pa n) := by
  unfold rdO; split
  · exact rdL_by hF _ _ _
  · exact fun b hb => by simp at hb
def outL (f : Nat → Nat) (n i : Nat) : List Nat := (List.range n).map fun j => if j < i then f j else 0
theorem outL_len (f : Nat → Nat) (n i : Nat) : (outL f n i).length = n := by simp [outL]
theorem outL_zero (f : Nat → Nat) (n : Nat) : byV (outL f n 0) = List.replicate n (bV 0) := by
  apply List.ext_getElem <;> simp [outL, byV]
theorem outL_full (f : Nat → Nat) (n : Nat) : outL f n n = (List.range n).map f := by
  apply List.ext_getElem
  · simp [outL]
  · intro i h1 h2
    have : i < n := by simpa using h2
    simp [outL, this]
theorem outL_set {f : Nat → Nat} {n i : Nat} (hi : i < n) : (byV (outL f n i)).set i (bV (f i)) = byV (outL f n (i + 1)) := by
  apply List.ext_getElem
  · simp [outL, byV]
  · intro j h1 h2
    have hj : j < n := by simpa [outL, byV] using h2
    by_cases e : i = j
    · subst e; simp [outL, byV]
    · have : (j < i + 1) ↔ j < i := by omega
      simp [outL, byV, List.getElem_set, e, this]

theorem outL_set1 {f : Nat → Nat} {n i : Nat} (hi : i < n) : (byV (outL f n i)).set (i * 1) (bV (f i)) = byV (outL f n (i + 1)) := by rw [Nat.mul_one]; exact outL_set hi

abbrev rdD (pv b1 b2 g n i : Nat) (f : Nat → Nat) : HP := grp [pt b1 (cob [.pointer (some ⟨pv, 0, none⟩)] 45), pt b2 (cob [.slice (some ⟨g, 0, none⟩) n n] 76), pt g (cob (byV (outL f n i)) 5)]
theorem viRead1_spec (W0 : World) (R : List HP) (pv ps pm d b1 b2 g n i : Nat) (fr : List Frm) (pg : List Pl) (hF : Frs fr) (pa : Nat) (hi : i < n) (hn : n ≤ 512) :
    Spec Tryz.prog W0 125 [.int .i64 (whr pg (pa + i)), .int .i64 ((pa + i) % 64 : Nat), .int .i64 (i : Nat), .pointer (some ⟨b1, 0, none⟩), .pointer (some ⟨b2, 0, none⟩)]
      (pt pv (viO ps pm d) :: stoH ps fr :: pt pm (gmO pg) :: kH 0 (rdD pv b1 b2 g n i (fun j => rdv fr pg (pa + j))) :: R)
      (fun v B => v = .tuple #[] ∧ B = pt pv (viO ps pm d) :: stoH ps fr :: pt pm (gmO pg) :: kH 0 (rdD pv b1 b2 g n (i + 1) (fun j => rdv fr pg (pa + j))) :: R) := by
  have hlt := rdv_lt hF pg (pa + i)
  refine spec_perm (perm1 (r1 := kH) (b1 := 0)) (spec_kgrp ?_)
  simp only [List.cons_append, List.nil_append]
  refine spec_body Tryz.func125 Tryz.ntmps125 rfl rfl ?_
  refine x_seq ?_
  refine x_region ?_
  refine s_val rfl (v_load Tryz.isAgg45 rfl (cell_own rfl)) ?_
  refine s_val rfl (v_nilCheck rfl) ?_
  refine s_val rfl (v_fieldAddr rfl Tryz.underlying196 rfl Tryz.sizeOf110 rfl (by first | exact Nat.zero_add _ | rfl)) ?_
  refine s_val rfl (v_load Tryz.isAgg110 rfl (cell_own rfl)) ?_
  refine s_val rfl (v_move rfl) ?_
  refine s_val rfl (v_move rfl) ?_
  refine s_do rfl (d_call1 Tryz.call126 rfl (frLoad_spec W0 _ ps fr _ _ 1 hF)) ?_
  rintro _ B_ ⟨rfl, hB_⟩
  obtain rfl := hB_.symm
  refine s_val rfl (v_move rfl) ?_
  refine s_val rfl (v_extract rfl rfl) ?_
  refine s_val rfl (v_extract rfl rfl) ?_
  refine s_val rfl (v_assign rfl) ?_
  refine s_val rfl (v_assign rfl) ?_
  refine x_nil ?_
  refine n_then ?_
  refine x_region ?_
  refine s_val rfl (v_load Tryz.isAgg76 rfl (cell_own rfl)) ?_
  refine s_val rfl (v_move rfl) ?_
  refine s_val rfl (v_move rfl) ?_
  refine s_val rfl (v_conv Tryz.underlying53 Tryz.underlying5 rfl (w8u (by rw [show ldN fr (whr pg (pa + i)) (((pa + i) % 64 : Nat) : Int) 1 = rdv fr pg (pa + i) from rfl]; omega))) ?_
  refine s_val rfl (v_idx Tryz.underlying76 Tryz.sizeOf5 rfl rfl rfl hi (by first | exact Nat.zero_add _ | rfl)) ?_
  refine s_do0 (d_store Tryz.sizeOf5 rfl rfl rfl (by rw [byV_len, outL_len]; omega) (outL_set1 (f := fun j => rdv fr pg (pa + j)) hi)) ?_
  rintro _ _ rfl
  refine x_nil ?_
  refine x_done (.inr rfl) .nil ?_
  exact ⟨_, ⟨rfl, rfl⟩, inferInstance⟩
theorem viRead_spec (W0 : World) (R : List HP) (pv ps pm d : Nat) (fr : List Frm) (pg : List Pl) (h : Pgs pg) (hF : Frs fr) (pa : Nat) (hpa : pa < 4294967296) (n : Int) :
    Spec Tryz.prog W0 44 [.pointer (some ⟨pv, 0, none⟩), .int .u32 pa, .int .i64 n] (pt pv (viO ps pm d) :: stoH ps fr :: pt pm (gmO pg) :: R)
      (fun v B => ∃ a c, v = .tuple #[.slice a (rdO fr pg pa n).length c, .bool (ownB fr.length pg pa n)] ∧ B = osl 5 1 (.slice a (rdO fr pg pa n).length c) (byV (rdO fr pg pa n)) :: pt pv (viO ps pm d) :: stoH ps fr :: pt pm (gmO pg) :: R) := by
  by_cases ho : ownB fr.length pg pa n = true
  · obtain ⟨k, rfl⟩ : ∃ k : Nat, n = (k : Int) := ⟨n.toNat, by have := (ownB_iff.1 ho).1; omega⟩
    obtain ⟨hk, _⟩ := ownB_nat.1 ho
    have hr : rdO fr pg pa (k : Int) = rdL fr pg pa k := by rw [rdO, if_pos ho]; rfl
    rw [hr, rdL_len, ho]
    refine spec_body Tryz.func44 Tryz.ntmps44 rfl rfl ?_
    refine x_seq ?_
    refine x_region ?_
    refine s_do rfl (d_box rfl rfl) ?_
    rintro _ _ ⟨b1, rfl, rfl⟩
    refine s_val rfl (v_assign rfl) ?_
    refine s_val rfl (v_assign rfl) ?_
    refine x_nil ?_
    refine n_then ?_
    refine x_seq ?_
    refine x_seq ?_
    refine x_region ?_
    refine s_val rfl (v_load Tryz.isAgg45 rfl (cell_own rfl)) ?_
    refine s_val rfl (v_move rfl) ?_
    refine s_val rfl (v_move rfl) ?_
    refine s_do rfl (d_call3 Tryz.call123 rfl (viOwn_spec W0 _ pv ps pm d fr pg h pa hpa k)) ?_
    rintro _ B_ ⟨rfl, hB_⟩
    obtain rfl := hB_.symm
    refine s_val rfl (v_not rfl) ?_
    refine x_nil ?_
    refine n_then ?_
    refine x_if rfl ?_ ?_
    · intro c1
      exact absurd ho c1
    · intro c1
      refine x_skip ?_
      refine n_then ?_
      refine x_seq ?_
      refine x_region ?_
      refine s_val rfl (v_move rfl) ?_
      refine s_do rfl (d_make (sz := 1) (by_ := 1) (info := Tryz.t5) Tryz.underlying76 (by kernel_rfl) rfl rfl rfl rfl (by decide) rfl rfl rfl rfl (by omega) (by decide)) ?_
      rintro _ _ ⟨b2, rfl, rfl⟩
      refine s_do rfl (d_alloc Tryz.zeroValue76 rfl) ?_
      rintro _ _ ⟨b3, rfl, rfl⟩
      refine s_do0 (d_store Tryz.sizeOf76 rfl rfl rfl (Nat.le_of_ble_eq_true rfl) SetL.eq) ?_
      rintro _ _ rfl
      refine x_nil ?_
      refine n_then ?_
      refine x_seq ?_
      rw [show List.replicate (k * 1) (Value.int .u8 0) = byV (outL (fun j => rdv fr pg (pa + j)) k 0) by rw [outL_zero, Nat.mul_one]; rfl]
      refine x_region ?_
      refine s_val rfl (v_load Tryz.isAgg45 rfl (cell_own rfl)) ?_
      refine s_val rfl (v_move rfl) ?_
      refine s_val rfl (v_move rfl) ?_
      refine s_val rfl (v_mkFunc rfl rfl) ?_
      refine s_do rfl (does_ent inferInstance (d_call Tryz.call124 rfl (viEach_spec W0 R pv ps pm pg h pa k hk (fun _ => d) (fun _ => fr) (fun i => rdD pv b1 b3 b2 k i (fun j => rdv fr pg (pa + j))) 125 [.pointer (some ⟨b1, 0, none⟩), .pointer (some ⟨b3, 0, none⟩)] Tryz.call125 (fun i hi R' hR => viRead1_spec W0 R' pv ps pm d b1 b3 b2 k i fr pg hF pa hi (by omega))))) ?_
      rintro _ B_ ⟨rfl, hB_⟩
      obtain rfl := hB_.symm
      refine run_kgrp ?_
      simp only [List.cons_append, List.nil_append]
      refine x_nil ?_
      refine n_then ?_
      refine x_seq ?_
      refine x_region ?_
      refine s_val rfl (v_load Tryz.isAgg76 rfl (cell_own rfl)) ?_
      refine s_val rfl (v_assign rfl) ?_
      refine s_val rfl (v_assign rfl) ?_
      refine x_nil ?_
      refine n_then ?_
      refine x_ret ?_
      refine x_done (.inl rfl) (.cons (r_tmp rfl) (.cons (r_tmp rfl) .nil)) ?_
      rw [outL_full]
      exact ⟨_, ⟨some ⟨b2, 0, none⟩, k, rfl, rfl⟩, ent_osl0 (by simp only [maxLen]; omega) (by rw [Nat.mul_one]; exact (byV_len _).trans (rdL_len fr pg pa k))⟩
  · have hr : rdO fr pg pa n = [] := by rw [rdO, if_neg ho]
    have ho' : ownB fr.length pg pa n = false := by simpa using ho
    rw [hr, ho']
    refine spec_body Tryz.func44 Tryz.ntmps44 rfl rfl ?_
    refine x_seq ?_
    refine x_region ?_
    refine s_do rfl (d_box rfl rfl) ?_
    rintro _ _ ⟨b1, rfl, rfl⟩
    refine s_val rfl (v_assign rfl) ?_
    refine s_val rfl (v_assign rfl) ?_
    refine x_nil ?_
    refine n_then ?_
    refine x_seq ?_
    refine x_seq ?_
    refine x_region ?_
    refine s_val rfl (v_load Tryz.isAgg45 rfl (cell_own rfl)) ?_
    refine s_val rfl (v_move rfl) ?_
    refine s_val rfl (v_move rfl) ?_
    refine s_do rfl (d_call3 Tryz.call123 rfl (viOwn_spec W0 _ pv ps pm d fr pg h pa hpa n)) ?_
    rintro _ B_ ⟨rfl, hB_⟩
    obtain rfl := hB_.symm
    refine s_val rfl (v_not rfl) ?_
    refine x_nil ?_
    refine n_then ?_
    refine x_if rfl ?_ ?_
    · intro c1
      refine x_seq ?_
      refine x_region ?_
      refine s_val rfl (v_assign rfl) ?_
      refine s_val rfl (v_assign rfl) ?_
      refine x_nil ?_
      refine n_then ?_
      refine x_ret ?_
      refine r_then ?_
      refine x_done (.inl rfl) (.cons (r_tmp rfl) (.cons (r_tmp rfl) .nil)) ?_
      exact ⟨_, ⟨none, 0, rfl, rfl⟩, ent_osl_nil⟩
    · intro c1
      exact absurd (by rw [ho']; decide) c1

/-! ### Write -/
def wrK (fr : List Frm) (pg : List Pl) (pa : Nat) (bs : List Nat) : Nat → List Frm
  | 0 => fr
  | k + 1 => svF (wrK fr pg pa bs k) (whr pg (pa + k)) (((pa + k) % 64 : Nat) : Int) 1 (bs.getD k 0)
def wrD (d pa : Nat) : Nat → Nat
  | 0 => d
  | k + 1 => wrD d pa k ||| 2 ^ ((pa + k) / 64)
theorem wrK_ok {fr : List Frm} {pg : List Pl} {pa : Nat} {bs : List Nat} (h : Frs fr) : ∀ k, Frs (wrK fr pg pa bs k) ∧ (wrK fr pg pa bs k).length = fr.length
  | 0 => ⟨h, rfl⟩
  | k + 1 => ⟨svF_ok (wrK_ok h k).1, svF_len.trans (wrK_ok h k).2⟩
theorem wrD_lt {d pa : Nat} (h : d < 4096) : ∀ k, pa + k ≤ 512 → wrD d pa k < 4096
  | 0, _ => h
  | k + 1, hk => Nat.or_lt_two_pow (n := 12) (wrD_lt h k (by omega)) (page_lt (by omega))
def wrF (fr : List Frm) (pg : List Pl) (pa : Nat) (bs : List Nat) : List Frm := if ownB fr.length pg pa bs.length then wrK fr pg pa bs bs.length else fr
def wrE (fr : List Frm) (pg : List Pl) (pa : Nat) (d n : Nat) : Nat := if ownB fr.length pg pa n then wrD d pa n else d
theorem wrF_ok {fr : List Frm} {pg : List Pl} {pa : Nat} {bs : List Nat} (h : Frs fr) : Frs (wrF fr pg pa bs) ∧ (wrF fr pg pa bs).length = fr.length := by
  unfold wrF; split
  · exact wrK_ok h _
  · exact ⟨h, rfl⟩
theorem wrE_lt {fr : List Frm} {pg : List Pl} {pa d n : Nat} (h : d < 4096) : wrE fr pg pa d n < 4096 := by
  unfold wrE; split
  · rename_i ho; exact wrD_lt h _ (ownB_nat.1 ho).1
  · exact h

abbrev wrH (pv pa b1 b2 b3 : Nat) (a : Option Addr) (n c : Nat) : HP := grp [pt b1 (cob [.pointer (some ⟨pv, 0, none⟩)] 45), pt b2 (cob [.int .u32 pa] 53), pt b3 (cob [.slice a n c] 76)]
theorem viWrite1_spec (W0 : World) (R : List HP) (pv ps pm d b1 b2 b3 c i : Nat) (a : Option Addr) (fr : List Frm) (pg : List Pl) (hF : Frs fr) (pa : Nat) (bs : List Nat) (hb : By bs) (hs : SlA (OwnP W0 R) a 1 (fun x => [bV x]) bs) (hi : i < bs.length) (hn : pa + bs.length ≤ 512) (hd : d < 4096) :
    Spec Tryz.prog W0 172 [.int .i64 (whr pg (pa + i)), .int .i64 ((pa + i) % 64 : Nat), .int .i64 (i : Nat), .pointer (some ⟨b1, 0, none⟩), .pointer (some ⟨b3, 0, none⟩), .pointer (some ⟨b2, 0, none⟩)]
      (pt pv (viO ps pm d) :: stoH ps fr :: pt pm (gmO pg) :: kH 0 (wrH pv pa b1 b2 b3 a bs.length c) :: R)
      (fun v B => v = .tuple #[] ∧ B = pt pv (viO ps pm (d ||| 2 ^ ((pa + i) / 64))) :: stoH ps (svF fr (whr pg (pa + i)) (((pa + i) % 64 : Nat) : Int) 1 (bs.getD i 0)) :: pt pm (gmO pg) :: kH 0 (wrH pv pa b1 b2 b3 a bs.length c) :: R) := by
  obtain ⟨gb, ob, rfl, hc⟩ := hs.at_ hi
  have hx : bs[i] < 256 := hb.get hi
  have hg : bs.getD i 0 = bs[i] := by simp [List.getD, hi]
  have hp := page_lt (n := (pa + i) / 64) (by omega)
  rw [hg]
  refine spec_perm (perm1 (r1 := kH) (b1 := 0)) (spec_kgrp ?_)
  simp only [List.cons_append, List.nil_append]
  refine spec_body Tryz.func172 Tryz.ntmps172 rfl rfl ?_
  refine x_seq ?_
  refine x_draw [(b1, 0, _), (pv, 0, _), (b3, 0, _), (gb, ob + i * 1, [bV bs[i]])] 12 mixed rfl (sc_own (sc_own (sc_own (sc_cons hc.weak sc_end)))) (fun hS => ?_)
  refine d_take 0 rfl rfl (by kernel_rfl) (by kernel_rfl) (by kernel_rfl) rfl hS (v_load Tryz.isAgg45 rfl (by first | exact cell_sc0 (k := 0) rfl rfl | exact cell_sc0 (k := 1) rfl rfl | exact cell_sc0 (k := 2) rfl rfl | exact cell_sc0 (k := 3) rfl rfl)) ?_
  refine d_take 1 rfl rfl (by kernel_rfl) (by kernel_rfl) (by kernel_rfl) rfl hS (v_nilCheck rfl) ?_
  refine d_take 2 rfl rfl (by kernel_rfl) (by kernel_rfl) (by kernel_rfl) rfl hS (v_fieldAddr rfl Tryz.underlying196 rfl Tryz.sizeOf110 rfl (by first | exact Nat.zero_add _ | rfl)) ?_
  refine d_take 3 rfl rfl (by kernel_rfl) (by kernel_rfl) (by kernel_rfl) rfl hS (v_load Tryz.isAgg110 rfl (by first | exact cell_sc0 (k := 0) rfl rfl | exact cell_sc0 (k := 1) rfl rfl | exact cell_sc0 (k := 2) rfl rfl | exact cell_sc0 (k := 3) rfl rfl)) ?_
  refine d_take 4 rfl rfl (by kernel_rfl) (by kernel_rfl) (by kernel_rfl) rfl hS (v_move rfl) ?_
  refine d_take 5 rfl rfl (by kernel_rfl) (by kernel_rfl) (by kernel_rfl) rfl hS (v_move rfl) ?_
  refine d_take 6 rfl rfl (by kernel_rfl) (by kernel_rfl) (by kernel_rfl) rfl hS (v_load Tryz.isAgg76 rfl (by first | exact cell_sc0 (k := 0) rfl rfl | exact cell_sc0 (k := 1) rfl rfl | exact cell_sc0 (k := 2) rfl rfl | exact cell_sc0 (k := 3) rfl rfl)) ?_
  refine d_take 7 rfl rfl (by kernel_rfl) (by kernel_rfl) (by kernel_rfl) rfl hS (v_move rfl) ?_
  refine d_take 8 rfl rfl (by kernel_rfl) (by kernel_rfl) (by kernel_rfl) rfl hS (v_idx Tryz.underlying76 Tryz.sizeOf5 rfl rfl rfl hi (by first | exact Nat.zero_add _ | rfl)) ?_
  refine d_take 9 rfl rfl (by kernel_rfl) (by kernel_rfl) (by kernel_rfl) rfl hS (v_load Tryz.isAgg5 rfl (cell_sc1 (k := 3) rfl)) ?_
  refine d_take 10 rfl rfl (by kernel_rfl) (by kernel_rfl) (by kernel_rfl) rfl hS (v_conv Tryz.underlying5 Tryz.underlying53 rfl (w32u (by omega))) ?_
  refine d_one 11 (by kernel_rfl) rfl rfl (d_call1 Tryz.call131 rfl (frSave_spec W0 _ ps fr _ _ 1 bs[i] (by omega) hF)) rfl ?_; clear hS
  rintro _ B_ ⟨rfl, hB_⟩
  obtain rfl := hB_.symm
  refine ⟨(sc_own (sc_own (sc_own (sc_cons hc.weak sc_end)))), fun hS => ?_⟩
  refine d_done (by kernel_rfl) ?_; clear hS
  refine n_then ?_
  refine x_draw [(b1, 0, _), (b2, 0, _)] 14 mixed rfl (sc_own (sc_own sc_end)) (fun hS => ?_)
  refine d_take 0 rfl rfl (by kernel_rfl) (by kernel_rfl) (by kernel_rfl) rfl hS (v_load Tryz.isAgg45 rfl (by first | exact cell_sc0 (k := 0) rfl rfl | exact cell_sc0 (k := 1) rfl rfl)) ?_
  refine d_take 1 rfl rfl (by kernel_rfl) (by kernel_rfl) (by kernel_rfl) rfl hS (v_nilCheck rfl) ?_
  refine d_take 2 rfl rfl (by kernel_rfl) (by kernel_rfl) (by kernel_rfl) rfl hS (v_fieldAddr rfl Tryz.underlying196 rfl Tryz.sizeOf53 rfl (by first | exact Nat.zero_add _ | rfl)) ?_
  refine d_take 4 rfl rfl (by kernel_rfl) (by kernel_rfl) (by kernel_rfl) rfl hS (v_load Tryz.isAgg53 rfl (by first | exact cell_sc0 (k := 0) rfl rfl | exact cell_sc0 (k := 1) rfl rfl)) ?_
  refine d_take 5 rfl rfl (by kernel_rfl) (by kernel_rfl) (by kernel_rfl) rfl hS (v_conv Tryz.underlying53 Tryz.underlying3 rfl (w64 (by omega))) ?_
  refine d_take 6 rfl rfl (by kernel_rfl) (by kernel_rfl) (by kernel_rfl) rfl hS (v_move rfl) ?_
  refine d_take 7 rfl rfl (by kernel_rfl) (by kernel_rfl) (by kernel_rfl) rfl hS (v_add rfl rfl (by rw [w64 (by omega)]; omega : IntKind.wrap .i64 ((pa : Int) + (i : Int)) = ((pa + i : Nat) : Int))) ?_
  refine d_take 8 rfl rfl (by kernel_rfl) (by kernel_rfl) (by kernel_rfl) rfl hS (v_quo rfl rfl (by decide) ((congrArg (IntKind.wrap .i64) (tdivN (pa + i) 64)).trans (w64 (by omega)))) ?_
  refine d_take 9 rfl rfl (by kernel_rfl) (by kernel_rfl) (by kernel_rfl) rfl hS (v_shl rfl rfl (by omega) (shl_page (by omega))) ?_
  refine d_one 3 (by kernel_rfl) rfl rfl (d_val (v_load Tryz.isAgg53 rfl (cell_own rfl))) rfl ?_; clear hS
  rintro _ _ ⟨rfl, rfl⟩
  refine ⟨(sc_own (sc_own sc_end)), fun hS => ?_⟩
  refine d_take 10 rfl rfl (by kernel_rfl) (by kernel_rfl) (by kernel_rfl) rfl hS (v_or rfl rfl (bOr_u32 (by omega) (by omega))) ?_
  refine d_take 11 rfl rfl (by kernel_rfl) (by kernel_rfl) (by kernel_rfl) rfl hS (v_nilCheck rfl) ?_
  refine d_take 12 rfl rfl (by kernel_rfl) (by kernel_rfl) (by kernel_rfl) rfl hS (v_fieldAddr rfl Tryz.underlying196 rfl Tryz.sizeOf53 rfl (by first | exact Nat.zero_add _ | rfl)) ?_
  refine d_one 13 (by kernel_rfl) rfl rfl (d_store Tryz.sizeOf53 rfl rfl rfl (Nat.le_of_ble_eq_true rfl) SetL.eq) rfl ?_; clear hS
  rintro _ _ rfl
  refine ⟨(sc_own (sc_own sc_end)), fun hS => ?_⟩
  refine d_done (by kernel_rfl) ?_; clear hS
  refine x_done (.inr rfl) .nil ?_
  exact ⟨_, ⟨rfl, rfl⟩, inferInstance⟩
theorem viWrite_spec (W0 : World) (R : List HP) (pv ps pm d c : Nat) (a : Option Addr) (fr : List Frm) (pg : List Pl) (h : Pgs pg) (hF : Frs fr) (hd : d < 4096) (pa : Nat) (hpa : pa < 4294967296) (bs : List Nat) (hb : By bs) (hs : SlA (OwnP W0 R) a 1 (fun x => [bV x]) bs) (hlen : bs.length < 9223372036854775808) :
    Spec Tryz.prog W0 92 [.pointer (some ⟨pv, 0, none⟩), .int .u32 pa, .slice a bs.length c] (pt pv (viO ps pm d) :: stoH ps fr :: pt pm (gmO pg) :: R)
      (fun v B => v = .bool (ownB fr.length pg pa bs.length) ∧ B = pt pv (viO ps pm (wrE fr pg pa d bs.length)) :: stoH ps (wrF fr pg pa bs) :: pt pm (gmO pg) :: R) := by
  by_cases ho : ownB fr.length pg pa bs.length = true
  · obtain ⟨hk, _⟩ := ownB_nat.1 ho
    rw [wrE, if_pos ho, wrF, if_pos ho, ho]
    refine spec_body Tryz.func92 Tryz.ntmps92 rfl rfl ?_
    refine x_seq ?_
    refine x_region ?_
    refine s_do rfl (d_box rfl rfl) ?_
    rintro _ _ ⟨b1, rfl, rfl⟩
    refine s_do rfl (d_box rfl rfl) ?_
    rintro _ _ ⟨b2, rfl, rfl⟩
    refine s_do rfl (d_box rfl rfl) ?_
    rintro _ _ ⟨b3, rfl, rfl⟩
    refine s_val rfl (v_assign rfl) ?_
    refine x_nil ?_
    refine n_then ?_
    refine x_seq ?_
    refine x_seq ?_
    refine x_region ?_
    refine s_val rfl (v_load Tryz.isAgg45 rfl (cell_own rfl)) ?_
    refine s_val rfl (v_load Tryz.isAgg53 rfl (cell_own rfl)) ?_
    refine s_val rfl (v_load Tryz.isAgg76 rfl (cell_own rfl)) ?_
    refine s_val rfl (v_len_slice Tryz.underlying76 rfl) ?_
    refine s_do rfl (d_call3 Tryz.call123 rfl (viOwn_spec W0 _ pv ps pm d fr pg h pa hpa bs.length)) ?_
    rintro _ B_ ⟨rfl, hB_⟩
    obtain rfl := hB_.symm
    refine s_val rfl (v_not rfl) ?_
    refine x_nil ?_
    refine n_then ?_
    refine x_if rfl ?_ ?_
    · intro c1
      exact absurd ho c1
    · intro c1
      refine x_skip ?_
      refine n_then ?_
      refine x_seq ?_
      refine x_region ?_
      refine s_val rfl (v_load Tryz.isAgg45 rfl (cell_own rfl)) ?_
      refine s_val rfl (v_load Tryz.isAgg53 rfl (cell_own rfl)) ?_
      refine s_val rfl (v_load Tryz.isAgg76 rfl (cell_own rfl)) ?_
      refine s_val rfl (v_len_slice Tryz.underlying76 rfl) ?_
      refine s_val rfl (v_mkFunc rfl rfl) ?_
      refine s_do rfl (does_ent (by simp only [wrD, wrK]; exact inferInstance) (d_call Tryz.call124 rfl (viEach_spec W0 R pv ps pm pg h pa bs.length hk (wrD d pa) (wrK fr pg pa bs) (fun _ => wrH pv pa b1 b2 b3 a bs.length c) 172 [.pointer (some ⟨b1, 0, none⟩), .pointer (some ⟨b3, 0, none⟩), .pointer (some ⟨b2, 0, none⟩)] Tryz.call172 (fun i hi R' hR => viWrite1_spec W0 R' pv ps pm _ b1 b2 b3 c i a _ pg (wrK_ok hF i).1 pa bs hb hs.weak hi hk (wrD_lt hd i (by omega)))))) ?_
      rintro _ B_ ⟨rfl, hB_⟩
      obtain rfl := hB_.symm
      refine x_nil ?_
      refine n_then ?_
      refine x_seq ?_
      refine x_region ?_
      refine s_val rfl (v_assign rfl) ?_
      refine x_nil ?_
      refine n_then ?_
      refine x_ret ?_
      refine x_done (.inl rfl) (.cons (r_tmp rfl) .nil) ?_
      exact ⟨_, ⟨rfl, rfl⟩, inferInstance⟩
  · have ho' : ownB fr.length pg pa bs.length = false := by simpa using ho
    rw [wrE, if_neg ho, wrF, if_neg ho, ho']
    refine spec_body Tryz.func92 Tryz.ntmps92 rfl rfl ?_
    refine x_seq ?_
    refine x_region ?_
    refine s_do rfl (d_box rfl rfl) ?_
    rintro _ _ ⟨b1, rfl, rfl⟩
    refine s_do rfl (d_box rfl rfl) ?_
    rintro _ _ ⟨b2, rfl, rfl⟩
    refine s_do rfl (d_box rfl rfl) ?_
    rintro _ _ ⟨b3, rfl, rfl⟩
    refine s_val rfl (v_assign rfl) ?_
    refine x_nil ?_
    refine n_then ?_
    refine x_seq ?_
    refine x_seq ?_
    refine x_region ?_
    refine s_val rfl (v_load Tryz.isAgg45 rfl (cell_own rfl)) ?_
    refine s_val rfl (v_load Tryz.isAgg53 rfl (cell_own rfl)) ?_
    refine s_val rfl (v_load Tryz.isAgg76 rfl (cell_own rfl)) ?_
    refine s_val rfl (v_len_slice Tryz.underlying76 rfl) ?_
    refine s_do rfl (d_call3 Tryz.call123 rfl (viOwn_spec W0 _ pv ps pm d fr pg h pa hpa bs.length)) ?_
    rintro _ B_ ⟨rfl, hB_⟩
    obtain rfl := hB_.symm
    refine s_val rfl (v_not rfl) ?_
    refine x_nil ?_
    refine n_then ?_
    refine x_if rfl ?_ ?_
    · intro c1
      refine x_seq ?_
      refine x_region ?_
      refine s_val rfl (v_assign rfl) ?_
      refine x_nil ?_
      refine n_then ?_
      refine x_ret ?_
      refine r_then ?_
      refine x_done (.inl rfl) (.cons (r_tmp rfl) .nil) ?_
      exact ⟨_, ⟨rfl, rfl⟩, inferInstance⟩
    · intro c1
      exact absurd (by rw [ho']; decide) c1

/-! ### Dirty -/
def drL (d n : Nat) : List Nat := (List.range n).filter fun i => Nat.testBit d i
def inV (n : Nat) : Value := .int .i64 (n : Int)
def inVs (l : List Nat) : List Value := l.map inV
theorem inVs_len (l : List Nat) : (inVs l).length = l.length := by simp [inVs]
theorem inVs_one (l : List Nat) : allOne (inVs l) = true := by simp [allOne, inVs, inV, Value.oneCell']
theorem drL_succ (d n : Nat) : drL d (n + 1) = drL d n ++ (if Nat.testBit d n then [n] else []) := by
  simp only [drL, List.range_succ, List.filter_append]
  congr 1
  by_cases h : Nat.testBit d n = true <;> simp [h]
theorem drL_len (d n : Nat) : (drL d n).length ≤ n := by
  have := List.length_filter_le (fun i => Nat.testBit d i) (List.range n)
  simpa [drL] using this
end Go.Proofs.YtechkfopkpkigaaGreat
