/-
  Layers 2 and 21: words and bytes, descriptors.
-/
import Derived.Test.YtechkfopkpkigaaGreatOctetB
import Derived.Test.YtechkfopkpkigaaGreatFar
namespace Go.Proofs.YtechkfopkpkigaaGreat
open Go.RowKit
set_option linter.unusedSimpArgs false
set_option linter.unusedVariables false
set_option maxRecDepth 20000

def wV (w : Nat) : Value := .int .u32 (w : Int)
/-- The i-th word. -/
def wdAt (l : List Nat) (i : Nat) : Nat := leN ((l.drop (4 * i)).take 4)
theorem wdAt_lt {l : List Nat} (h : By l) (i : Nat) : wdAt l i < 4294967296 := by
  have h1 := leN_lt ((h.drop (4 * i)).take 4)
  have h2 : ((l.drop (4 * i)).take 4).length ≤ 4 := by simp; omega
  exact Nat.lt_of_lt_of_le h1 (Nat.le_trans (Nat.pow_le_pow_right (by decide) h2) (by decide))
def wordsV (l : List Nat) (n : Nat) : List Value := (List.range n).map fun i => wV (wdAt l i)
theorem wordsV_succ (l : List Nat) (n : Nat) : wordsV l (n + 1) = wordsV l n ++ [wV (wdAt l n)] := by simp [wordsV, List.range_succ]
theorem gatherN_spec (W0 : World) (R : List HP) (g off c n : Nat) (l : List Nat) (hn : l.length = n) (hc : Cells (OwnP W0 R) g off (byV l)) (hl : n ≤ 4) (hb : By l) :
    Spec Tryz.prog W0 233 [.slice (some ⟨g, off, none⟩) n c] R (fun v B => v = .int .u32 (leN l : Nat) ∧ B = R) := by
  subst hn; exact gather_spec W0 R g off c l hc hl hb
theorem byV_fm : ∀ bs : List Nat, bs.flatMap (fun x => [bV x]) = byV bs
  | [] => rfl
  | b :: l => by rw [List.flatMap_cons, byV_fm l]; rfl
theorem octWords_spec (W0 : World) (R : List HP) (a : Option Addr) (c : Nat) (l : List Nat) (hs : SlA (OwnP W0 R) a 1 (fun x => [bV x]) l) (hb : By l) (hcap : l.length ≤ c) (hl : l.length ≤ 1000000) :
    Spec Tryz.prog W0 265 [.slice a l.length c] R (fun v B => ∃ a' c', v = .slice a' (l.length / 4) c' ∧ B = osl 53 1 (.slice a' (l.length / 4) c') (wordsV l (l.length / 4)) :: R) := by
  refine spec_body Tryz.func265 Tryz.ntmps265 rfl rfl ?_
  refine x_seq ?_
  refine x_region ?_
  refine s_val rfl (v_assign rfl) ?_
  refine x_nil ?_
  refine n_then ?_
  refine x_seq ?_
  refine x_region ?_
  refine s_val rfl (v_assign rfl) ?_
  refine x_nil ?_
  refine n_then ?_
  refine x_seq ?_
  refine x_seq ?_
  refine x_region ?_
  refine s_val rfl (v_move rfl) ?_
  refine s_val rfl (v_len_slice Tryz.underlying76 rfl) ?_
  refine s_val rfl (v_quo rfl rfl (by decide) ((congrArg (IntKind.wrap .i64) (tdivN l.length 4)).trans (w64 (by omega)))) ?_
  refine s_val rfl (v_move rfl) ?_
  refine x_nil ?_
  refine n_then ?_
  refine x_block ?_
  refine x_loop (fun x : Nat × Option Addr × Nat => x.1 ≤ l.length / 4) (fun x => [(0, .slice a l.length c), (3, .slice x.2.1 x.1 x.2.2), (7, .int .i64 (l.length / 4 : Nat)), (8, .int .i64 x.1)]) (fun x => osl 53 1 (.slice x.2.1 x.1 x.2.2) (wordsV l x.1) :: R) (fun x => l.length / 4 - x.1) (0, none, 0) ?_ ?_ ?_ ?_
  · simp
  · repeat (first | exact sub_nil | refine sub_cons rfl ?_)
  · exact ent_osl_nil
  · intro ⟨i, a1, c1⟩ hi
    dsimp only at hi ⊢
    refine x_seq ?_
    refine x_region ?_
    refine s_val rfl (v_lss rfl rfl) ?_
    refine x_nil ?_
    refine n_then ?_
    refine x_seq ?_
    refine x_if rfl ?_ ?_
    · intro c3
      refine x_skip ?_
      refine n_then ?_
      refine x_seq ?_
      refine x_block ?_
      refine x_seq ?_
      refine x_region ?_
      refine s_val rfl (v_move rfl) ?_
      refine s_val rfl (v_assign rfl) ?_
      refine x_nil ?_
      refine n_then ?_
      obtain ⟨g, off, rfl, hc⟩ := hs.all (by intro h0; subst h0; simp at *; omega) (fun _ => rfl)
      rw [byV_fm] at hc
      refine x_region ?_
      refine s_val rfl (v_move rfl) ?_
      refine s_val rfl (v_move rfl) ?_
      refine s_val rfl (v_move rfl) ?_
      refine s_val rfl (v_mul rfl rfl (by rw [w64 (by omega)]; omega : IntKind.wrap .i64 (4 * (i : Int)) = ((4 * i : Nat) : Int))) ?_
      refine s_val rfl (v_move rfl) ?_
      refine s_val rfl (v_mul rfl rfl (by rw [w64 (by omega)]; omega : IntKind.wrap .i64 (4 * (i : Int)) = ((4 * i : Nat) : Int))) ?_
      refine s_val rfl (v_add rfl rfl (by rw [w64 (by omega)]; omega : IntKind.wrap .i64 (((4 * i : Nat) : Int) + 4) = ((4 * i + 4 : Nat) : Int))) ?_
      refine s_val rfl (v_move rfl) ?_
      refine s_val rfl (v_mul rfl rfl (by rw [w64 (by omega)]; omega : IntKind.wrap .i64 (4 * (i : Int)) = ((4 * i : Nat) : Int))) ?_
      refine s_val rfl (v_add rfl rfl (by rw [w64 (by omega)]; omega : IntKind.wrap .i64 (((4 * i : Nat) : Int) + 4) = ((4 * i + 4 : Nat) : Int))) ?_
      refine s_val rfl (v_slice3 Tryz.underlying76 Tryz.sizeOf5 rfl rfl rfl rfl rfl rfl rfl (by omega) (by omega) (by omega) (by omega) (by first | exact Nat.zero_add _ | rfl)) ?_
      refine s_do rfl (d_call Tryz.call233 rfl (gatherN_spec W0 _ g (off + 4 * i * 1) _ _ ((l.drop (4 * i)).take 4) (by simp; omega) (by rw [Nat.mul_one]; exact Cells.part hc.weak (4 * i) 4 (by omega)) (by omega) ((hb.drop _).take _))) ?_
      rintro _ B_ ⟨rfl, hB_⟩
      obtain rfl := hB_.symm
      refine s_do rfl (d_sliceLit Tryz.underlying84 Tryz.sizeOf53 Tryz.zeroValue53 rfl rfl rfl rfl rfl (by decide) (by decide)) ?_
      rintro _ _ ⟨b1, rfl, rfl⟩
      refine s_do rfl (d_append (sz := 1) (by_ := 4) (info := Tryz.t53) Tryz.underlying84 (by kernel_rfl) rfl rfl rfl rfl (by decide) rfl rfl cells_all rfl rfl (by simp only [maxLen]; omega) (by omega)) ?_
      rintro _ _ ⟨a2, c2, rfl, rfl⟩
      refine s_val rfl (v_assign rfl) ?_
      refine x_nil ?_
      refine n_block ?_
      refine n_then ?_
      refine x_region ?_
      refine s_val rfl (v_add rfl rfl (by first | exact w64 (by omega) | rfl)) ?_
      refine s_val rfl (v_move rfl) ?_
      refine x_nil ?_
      refine n_then ?_
      refine inv_intro (i + 1, a2, c2) ?_ ?_ ?_ ?_
      · omega
      · omega
      · repeat (first | exact sub_nil | refine sub_cons rfl ?_)
      · rw [wordsV_succ]
        show Ent _ (osl 53 1 (.slice a2 (i + 1) c2) (wordsV l i ++ [.int .u32 ((leN ((l.drop (4 * i)).take 4) : Nat) : Int)]) :: R)
        exact inferInstance
    · intro c3
      refine x_exit ?_
      refine e_then ?_
      refine e_then ?_
      refine e_block ?_
      refine n_then ?_
      refine x_seq ?_
      refine x_region ?_
      refine s_val rfl (v_move rfl) ?_
      refine s_val rfl (v_assign rfl) ?_
      refine x_nil ?_
      refine n_then ?_
      refine x_ret ?_
      refine x_done (.inl rfl) (.cons (r_tmp rfl) .nil) ?_
      have e1 : i = l.length / 4 := by omega
      subst e1
      exact ⟨_, ⟨a1, c1, rfl, rfl⟩, inferInstance⟩

def bytesL (ws : List Nat) : List Nat := ws.flatMap (leB 4)
theorem bytesL_len : ∀ ws, (bytesL ws).length = 4 * ws.length
  | [] => rfl
  | w :: ws => by rw [bytesL, List.flatMap_cons, List.length_append, leB_len]; have := bytesL_len ws; rw [bytesL] at this; rw [this, List.length_cons]; omega
theorem bytesL_by (ws : List Nat) : By (bytesL ws) := fun b hb => by
  obtain ⟨w, _, hw⟩ := List.mem_flatMap.1 hb
  exact leB_by 4 w b hw
def outB (ws : List Nat) (i : Nat) : List Nat := bytesL (ws.take i) ++ List.replicate (4 * (ws.length - i)) 0
theorem outB_len {ws : List Nat} {i : Nat} (h : i ≤ ws.length) : (outB ws i).length = 4 * ws.length := by
  simp only [outB, List.length_append, bytesL_len, List.length_take, List.length_replicate]; omega
theorem outB_succ {ws : List Nat} {i : Nat} (h : i < ws.length) : putB (outB ws i) (4 * i) 4 ws[i] = outB ws (i + 1) := by
  have hl : (bytesL (ws.take i)).length = 4 * i := by rw [bytesL_len, List.length_take]; omega
  rw [putB, outB, List.take_append_of_le_length (by omega), List.take_of_length_le (by omega)]
  rw [List.drop_append, List.drop_of_length_le (by omega), List.nil_append, List.drop_replicate, hl]
  rw [outB, List.take_succ_eq_append_getElem h, bytesL, bytesL, List.flatMap_append]
  simp only [List.flatMap_cons, List.flatMap_nil, List.append_nil]
  congr 2; omega
theorem octBytes_spec (W0 : World) (R : List HP) (a : Option Addr) (c : Nat) (ws : List Nat) (hs : SlA (OwnP W0 R) a 1 (fun x => [wV x]) ws) (hw : ∀ w ∈ ws, w < 4294967296) (hl : ws.length ≤ 10000) :
    Spec Tryz.prog W0 171 [.slice a ws.length c] R (fun v B => ∃ a' c', v = .slice a' (4 * ws.length) c' ∧ B = osl 5 1 (.slice a' (4 * ws.length) c') (byV (bytesL ws)) :: R) := by
  refine spec_body Tryz.func171 Tryz.ntmps171 rfl rfl ?_
  refine x_seq ?_
  refine x_region ?_
  refine s_val rfl (v_assign rfl) ?_
  refine x_nil ?_
  refine n_then ?_
  refine x_seq ?_
  refine x_region ?_
  refine s_val rfl (v_move rfl) ?_
  refine s_val rfl (v_len_slice Tryz.underlying84 rfl) ?_
  refine s_val rfl (v_mul rfl rfl (by rw [w64 (by omega)]; omega : IntKind.wrap .i64 (4 * (ws.length : Int)) = ((4 * ws.length : Nat) : Int))) ?_
  refine s_do rfl (d_make (sz := 1) (by_ := 1) (info := Tryz.t5) Tryz.underlying76 (by kernel_rfl) rfl rfl rfl rfl (by decide) rfl rfl rfl rfl (by omega) (by decide)) ?_
  rintro _ _ ⟨b1, rfl, rfl⟩
  refine s_val rfl (v_assign rfl) ?_
  refine x_nil ?_
  refine n_then ?_
  refine x_seq ?_
  refine x_seq ?_
  rw [show List.replicate (4 * ws.length * 1) (Value.int .u8 0) = byV (outB ws 0) by simp [outB, byV, bytesL, bV]]
  refine x_region ?_
  refine s_val rfl (v_move rfl) ?_
  refine s_val rfl (v_len_slice Tryz.underlying84 rfl) ?_
  refine s_val rfl (v_move rfl) ?_
  refine x_nil ?_
  refine n_then ?_
  refine x_block ?_
  refine x_loop (fun i : Nat => i ≤ ws.length) (fun i => [(3, .slice (some ⟨b1, 0, none⟩) (4 * ws.length) (4 * ws.length)), (10, .slice a ws.length c), (11, .int .i64 ws.length), (12, .int .i64 i)]) (fun i => pt b1 (cob (byV (outB ws i)) 5) :: R) (fun i => ws.length - i) 0 ?_ ?_ ?_ ?_
  · exact Nat.zero_le _
  · repeat (first | exact sub_nil | refine sub_cons rfl ?_)
  · exact inferInstance
  · intro i hi
    refine x_seq ?_
    refine x_region ?_
    refine s_val rfl (v_lss rfl rfl) ?_
    refine x_nil ?_
    refine n_then ?_
    refine x_seq ?_
    refine x_if rfl ?_ ?_
    · intro c3
      refine x_skip ?_
      refine n_then ?_
      refine x_seq ?_
      refine x_block ?_
      refine x_seq ?_
      have hi1 : i < ws.length := by omega
      obtain ⟨g, off, rfl, hc⟩ := hs.at_ hi1
      have hwi := hw _ (List.getElem_mem hi1)
      refine x_region ?_
      refine s_val rfl (v_move rfl) ?_
      refine s_val rfl (v_idx Tryz.underlying84 Tryz.sizeOf53 rfl rfl rfl hi1 (by first | exact Nat.zero_add _ | rfl)) ?_
      refine s_val rfl (v_load Tryz.isAgg53 rfl (Cells.weak hc 0 _ rfl)) ?_
      refine s_val rfl (v_assign rfl) ?_
      refine s_val rfl (v_assign rfl) ?_
      refine x_nil ?_
      refine n_then ?_
      refine x_region ?_
      refine s_val rfl (v_move rfl) ?_
      refine s_val rfl (v_move rfl) ?_
      refine s_val rfl (v_mul rfl rfl (by rw [w64 (by omega)]; omega : IntKind.wrap .i64 (4 * (i : Int)) = ((4 * i : Nat) : Int))) ?_
      refine s_val rfl (v_move rfl) ?_
      refine s_val rfl (v_mul rfl rfl (by rw [w64 (by omega)]; omega : IntKind.wrap .i64 (4 * (i : Int)) = ((4 * i : Nat) : Int))) ?_
      refine s_val rfl (v_add rfl rfl (by rw [w64 (by omega)]; omega : IntKind.wrap .i64 (((4 * i : Nat) : Int) + 4) = ((4 * i + 4 : Nat) : Int))) ?_
      refine s_val rfl (v_move rfl) ?_
      refine s_val rfl (v_mul rfl rfl (by rw [w64 (by omega)]; omega : IntKind.wrap .i64 (4 * (i : Int)) = ((4 * i : Nat) : Int))) ?_
      refine s_val rfl (v_add rfl rfl (by rw [w64 (by omega)]; omega : IntKind.wrap .i64 (((4 * i : Nat) : Int) + 4) = ((4 * i + 4 : Nat) : Int))) ?_
      refine s_val rfl (v_slice3 Tryz.underlying76 Tryz.sizeOf5 rfl rfl rfl rfl rfl rfl rfl (by omega) (by omega) (by omega) (by omega) (by first | exact Nat.zero_add _ | rfl)) ?_
      refine s_val rfl (v_move rfl) ?_
      refine s_do rfl (d_call1 Tryz.call225 rfl (spread_spec W0 _ b1 (4 * i * 1) _ _ _ _ ws[i] hwi (by omega) (by rw [byV_len, outB_len hi]; omega))) ?_
      rintro _ B_ ⟨rfl, hB_⟩
      obtain rfl := hB_.symm
      rw [show 4 * i + 4 - 4 * i = 4 by omega, Nat.mul_one, setR_byV (by rw [outB_len hi]; omega), outB_succ hi1]
      refine x_nil ?_
      refine n_block ?_
      refine n_then ?_
      refine x_region ?_
      refine s_val rfl (v_add rfl rfl (by first | exact w64 (by omega) | rfl)) ?_
      refine s_val rfl (v_move rfl) ?_
      refine x_nil ?_
      refine n_then ?_
      refine inv_intro (i + 1) ?_ ?_ ?_ ?_
      · omega
      · omega
      · repeat (first | exact sub_nil | refine sub_cons rfl ?_)
      · exact inferInstance
    · intro c3
      refine x_exit ?_
      refine e_then ?_
      refine e_then ?_
      refine e_block ?_
      refine n_then ?_
      refine x_seq ?_
      refine x_region ?_
      refine s_val rfl (v_move rfl) ?_
      refine s_val rfl (v_assign rfl) ?_
      refine x_nil ?_
      refine n_then ?_
      refine x_ret ?_
      refine x_done (.inl rfl) (.cons (r_tmp rfl) .nil) ?_
      have e1 : i = ws.length := by omega
      subst e1
      rw [show outB ws ws.length = bytesL ws by simp [outB]]
      exact ⟨_, ⟨_, _, rfl, rfl⟩, ent_osl0 (by simp only [maxLen]; omega) (by rw [byV_len, bytesL_len, Nat.mul_one])⟩

/-! ### Descriptors -/
structure Dsc where
  addr : Nat
  len : Nat
  flags : Nat
  next : Nat
@[reducible] def dsV (d : Dsc) : List Value := [.int .u32 d.addr, .int .u32 d.len, .int .u32 d.flags, .int .u32 d.next]
structure Dsc.ok (d : Dsc) : Prop where
  addr : d.addr < 4294967296
  len : d.len < 4294967296
  flags : d.flags < 4294967296
  next : d.next < 4294967296
def dsWs (d : Dsc) : List Nat := [d.addr, d.len, d.flags, d.next]
theorem dsWs_lt {d : Dsc} (hd : d.ok) : ∀ w ∈ dsWs d, w < 4294967296 := fun w hw => by
  have h1 := hd.addr
  have h2 := hd.len
  have h3 := hd.flags
  have h4 := hd.next
  simp only [dsWs, List.mem_cons, List.not_mem_nil, or_false] at hw
  omega
def dsW (d : Dsc) (i : Nat) : Nat := (dsWs d).getD i 0
theorem dsV_range (d : Dsc) : dsV d = (List.range 4).map fun j => wV (dsW d j) := rfl
def dsOf (l : List Nat) : Dsc := ⟨wdAt l 0, wdAt l 1, wdAt l 2, wdAt l 3⟩
theorem dsOf_ok {l : List Nat} (h : By l) : (dsOf l).ok := ⟨wdAt_lt h _, wdAt_lt h _, wdAt_lt h _, wdAt_lt h _⟩
def putD (d : Dsc) : List Nat := bytesL (dsWs d)
theorem putD_len (d : Dsc) : (putD d).length = 16 := by rw [putD, bytesL_len]; rfl
def zD : Dsc := ⟨0, 0, 0, 0⟩
def ptV (b i : Nat) : Value := .pointer (some ⟨b, i, none⟩)
theorem dsFields_spec (W0 : World) (R : List HP) (b : Nat) : Spec Tryz.prog W0 170 [.pointer (some ⟨b, 0, none⟩)] R (fun v B => v = .agg ((List.range 4).map (ptV b)).toArray ∧ B = R) := by
  refine spec_body Tryz.func170 Tryz.ntmps170 rfl rfl ?_
  refine x_seq ?_
  refine x_region ?_
  refine s_do rfl (d_allocA Tryz.zeroValue243) ?_
  rintro _ _ ⟨b1, rfl, rfl⟩
  refine x_nil ?_
  refine n_then ?_
  refine x_seq ?_
  refine x_draw [] 14 mixed rfl sc_end (fun hS => ?_)
  refine d_take 0 rfl rfl (by kernel_rfl) (by kernel_rfl) (by kernel_rfl) rfl hS (v_move rfl) ?_
  refine d_take 1 rfl rfl (by kernel_rfl) (by kernel_rfl) (by kernel_rfl) rfl hS (v_nilCheck rfl) ?_
  refine d_take 2 rfl rfl (by kernel_rfl) (by kernel_rfl) (by kernel_rfl) rfl hS (v_fieldAddr rfl Tryz.underlying99 rfl Tryz.sizeOf53 rfl (by first | exact Nat.zero_add _ | rfl)) ?_
  refine d_take 3 rfl rfl (by kernel_rfl) (by kernel_rfl) (by kernel_rfl) rfl hS (v_move rfl) ?_
  refine d_take 4 rfl rfl (by kernel_rfl) (by kernel_rfl) (by kernel_rfl) rfl hS (v_nilCheck rfl) ?_
  refine d_take 5 rfl rfl (by kernel_rfl) (by kernel_rfl) (by kernel_rfl) rfl hS (v_fieldAddr rfl Tryz.underlying99 rfl Tryz.sizeOf53 rfl (by first | exact Nat.zero_add _ | rfl)) ?_
  refine d_take 6 rfl rfl (by kernel_rfl) (by kernel_rfl) (by kernel_rfl) rfl hS (v_move rfl) ?_
  refine d_take 7 rfl rfl (by kernel_rfl) (by kernel_rfl) (by kernel_rfl) rfl hS (v_nilCheck rfl) ?_
  refine d_take 8 rfl rfl (by kernel_rfl) (by kernel_rfl) (by kernel_rfl) rfl hS (v_fieldAddr rfl Tryz.underlying99 rfl Tryz.sizeOf53 rfl (by first | exact Nat.zero_add _ | rfl)) ?_
  refine d_take 9 rfl rfl (by kernel_rfl) (by kernel_rfl) (by kernel_rfl) rfl hS (v_move rfl) ?_
  refine d_take 10 rfl rfl (by kernel_rfl) (by kernel_rfl) (by kernel_rfl) rfl hS (v_nilCheck rfl) ?_
  refine d_take 11 rfl rfl (by kernel_rfl) (by kernel_rfl) (by kernel_rfl) rfl hS (v_fieldAddr rfl Tryz.underlying99 rfl Tryz.sizeOf53 rfl (by first | exact Nat.zero_add _ | rfl)) ?_
  refine d_take 12 rfl rfl (by kernel_rfl) (by kernel_rfl) (by kernel_rfl) rfl hS (v_buildArr Tryz.underlying243 Tryz.sizeOf242 Tryz.zeroValue243 rfl rfl rfl rfl) ?_
  refine d_one 13 (by kernel_rfl) rfl rfl (d_storeAll Tryz.sizeOf243 rfl rfl rfl rfl rfl) rfl ?_; clear hS
  rintro _ _ rfl
  refine ⟨sc_end, fun hS => ?_⟩
  refine d_done (by kernel_rfl) ?_; clear hS
  refine n_then ?_
  refine x_ret ?_
  refine x_done (.inl rfl) (.cons (r_all Tryz.isAgg243 Tryz.sizeOf243 rfl rfl) .nil) ?_
  exact ⟨_, ⟨rfl, rfl⟩, inferInstance⟩
theorem dsGet_spec (W0 : World) (R : List HP) (a : Option Addr) (c : Nat) (l : List Nat) (hs : SlA (OwnP W0 R) a 1 (fun x => [bV x]) l) (hb : By l) (hcap : l.length ≤ c) (hl : l.length ≤ 1000000) :
    Spec Tryz.prog W0 260 [.slice a l.length c] R (fun v B => v = .tuple #[.agg (dsV (if l.length = 16 then dsOf l else zD)).toArray, .int .i64 (if l.length = 16 then 0 else 6)] ∧ B = R) := by
  refine spec_body Tryz.func260 Tryz.ntmps260 rfl rfl ?_
  refine x_seq ?_
  refine x_region ?_
  refine s_do rfl (d_allocA Tryz.zeroValue99) ?_
  rintro _ _ ⟨b1, rfl, rfl⟩
  refine s_val rfl (v_assign rfl) ?_
  refine x_nil ?_
  refine n_then ?_
  refine x_seq ?_
  refine x_seq ?_
  refine x_region ?_
  refine s_val rfl (v_move rfl) ?_
  refine s_val rfl (v_len_slice Tryz.underlying76 rfl) ?_
  refine s_val rfl (v_neq rfl rfl) ?_
  refine x_nil ?_
  refine n_then ?_
  refine x_if rfl ?_ ?_
  · intro c1
    refine x_seq ?_
    refine x_region ?_
    refine s_val rfl (v_build Tryz.underlying99 Tryz.zeroValue99 (sized_cons Tryz.sizeOf53 (sized_cons Tryz.sizeOf53 (sized_cons Tryz.sizeOf53 (sized_cons Tryz.sizeOf53 sized_nil)))) fil_nil) ?_
    refine s_do0 (d_storeAll Tryz.sizeOf99 rfl rfl rfl rfl rfl) ?_
    rintro _ _ rfl
    refine s_val rfl (v_assign rfl) ?_
    refine x_nil ?_
    refine n_then ?_
    refine x_ret ?_
    refine r_then ?_
    refine x_done (.inl rfl) (.cons (r_all Tryz.isAgg99 Tryz.sizeOf99 rfl rfl) (.cons (r_tmp rfl) .nil)) ?_
    refine ⟨_, ⟨?_, rfl⟩, inferInstance⟩
    have h16 : ¬ l.length = 16 := by omega
    simp [pack, h16, zD]
  · intro c1
    have h16 : l.length = 16 := by omega
    refine x_skip ?_
    refine n_then ?_
    refine x_seq ?_
    refine x_region ?_
    refine s_do rfl (d_allocA Tryz.zeroValue99) ?_
    rintro _ _ ⟨b2, rfl, rfl⟩
    refine x_nil ?_
    refine n_then ?_
    refine x_seq ?_
    refine x_region ?_
    refine s_do rfl (d_call Tryz.call170 rfl (dsFields_spec W0 _ b2)) ?_
    rintro _ B_ ⟨rfl, hB_⟩
    obtain rfl := hB_.symm
    refine s_do rfl (d_allocA Tryz.zeroValue243) ?_
    rintro _ _ ⟨b3, rfl, rfl⟩
    refine s_do0 (d_storeAll Tryz.sizeOf243 rfl rfl rfl rfl rfl) ?_
    rintro _ _ rfl
    refine x_nil ?_
    refine n_then ?_
    refine x_seq ?_
    refine x_seq ?_
    refine x_region ?_
    refine s_val rfl (v_move rfl) ?_
    refine s_do rfl (d_call Tryz.call265 rfl (octWords_spec W0 _ a c l (SlA.weak hs) hb hcap hl)) ?_
    rintro _ B_ ⟨a', c', rfl, hB_⟩
    obtain rfl := hB_.symm
    rw [show l.length / 4 = 4 by rw [h16]]
    refine run_form (E := 53) (sz := 1) (a := a') (c := c') (n := 4) (fun hf => ?_)
    obtain ⟨g, rfl⟩ := form_some hf (by simp [wordsV])
    refine run_pt (b := b2) (o' := cob (outV (fun j => wV (wdAt l j)) (wV 0) 4 0) 99) rfl ?_
    refine run_pt (b := b1) (o' := cob (dsV zD) 99) rfl ?_
    refine s_val rfl (v_len_slice Tryz.underlying84 rfl) ?_
    refine s_val rfl (v_move rfl) ?_
    refine x_nil ?_
    refine n_then ?_
    refine x_block ?_
    refine x_loop (fun i : Nat => i ≤ 4) (fun i => [(2, .pointer (some ⟨b1, 0, none⟩)), (4, .pointer (some ⟨b2, 0, none⟩)), (5, .pointer (some ⟨b3, 0, none⟩)), (14, .slice (some ⟨g, 0, none⟩) 4 c'), (15, .int .i64 4), (16, .int .i64 i)]) (fun i => pt b2 (cob (outV (fun j => wV (wdAt l j)) (wV 0) 4 i) 99) :: osl 53 1 (.slice (some ⟨g, 0, none⟩) 4 c') (wordsV l 4) :: pt b3 (cob ((List.range 4).map (ptV b2)) 243) :: pt b1 (cob (dsV zD) 99) :: R) (fun i => 4 - i) 0 ?_ ?_ ?_ ?_
    · exact Nat.zero_le _
    · repeat (first | exact sub_nil | refine sub_cons rfl ?_)
    · exact inferInstance
    · intro i hi
      refine x_seq ?_
      refine x_region ?_
      refine s_val rfl (v_lss rfl rfl) ?_
      refine x_nil ?_
      refine n_then ?_
      refine x_seq ?_
      refine x_if rfl ?_ ?_
      · intro c6
        refine x_skip ?_
        refine n_then ?_
        refine x_seq ?_
        refine x_block ?_
        refine x_seq ?_
        refine x_region ?_
        refine s_val rfl (v_move rfl) ?_
        refine s_val rfl (v_idx Tryz.underlying84 Tryz.sizeOf53 rfl rfl rfl (by omega) (by first | exact Nat.zero_add _ | rfl)) ?_
        refine s_val rfl (v_load Tryz.isAgg53 rfl (cell_osl (E := 53) (sz := 1) (n := 4) (c := c') (range_get1 (by omega)))) ?_
        refine s_val rfl (v_assign rfl) ?_
        refine s_val rfl (v_assign rfl) ?_
        refine x_nil ?_
        refine n_then ?_
        refine x_region ?_
        refine s_val rfl (v_move rfl) ?_
        refine s_val rfl (v_idxArr Tryz.underlying243 Tryz.sizeOf242 rfl rfl rfl (by omega) (by first | exact Nat.zero_add _ | rfl)) ?_
        refine s_val rfl (v_load Tryz.isAgg242 rfl (cell_own (range_get1 (by omega)))) ?_
        refine s_val rfl (v_move rfl) ?_
        refine s_val rfl (v_nilCheck rfl) ?_
        refine s_do0 (d_store Tryz.sizeOf53 rfl rfl rfl (by rw [outV_len]; omega) (outV_set (by omega))) ?_
        rintro _ _ rfl
        refine x_nil ?_
        refine n_block ?_
        refine n_then ?_
        refine x_region ?_
        refine s_val rfl (v_add rfl rfl (by first | exact w64 (by omega) | rfl)) ?_
        refine s_val rfl (v_move rfl) ?_
        refine x_nil ?_
        refine n_then ?_
        refine inv_intro (i + 1) ?_ ?_ ?_ ?_
        · omega
        · omega
        · repeat (first | exact sub_nil | refine sub_cons rfl ?_)
        · exact inferInstance
      · intro c6
        refine x_exit ?_
        refine e_then ?_
        refine e_then ?_
        refine e_block ?_
        refine n_then ?_
        refine x_seq ?_
        obtain rfl : i = 4 := by omega
        rw [outV_full, show (List.range 4).map (fun j => wV (wdAt l j)) = dsV (dsOf l) from rfl]
        refine x_region ?_
        refine s_val rfl (v_loadAll Tryz.isAgg99 Tryz.sizeOf99 rfl rfl) ?_
        refine s_do0 (d_storeAll Tryz.sizeOf99 rfl rfl rfl rfl rfl) ?_
        rintro _ _ rfl
        refine s_val rfl (v_assign rfl) ?_
        refine x_nil ?_
        refine n_then ?_
        refine x_ret ?_
        refine x_done (.inl rfl) (.cons (r_all Tryz.isAgg99 Tryz.sizeOf99 rfl rfl) (.cons (r_tmp rfl) .nil)) ?_
        refine ⟨_, ⟨?_, rfl⟩, inferInstance⟩
        simp [pack, h16]
theorem dsPut_spec (W0 : World) (R : List HP) (d : Dsc) (hd : d.ok) : Spec Tryz.prog W0 91 [.agg (dsV d).toArray] R (fun v B => ∃ a' c', v = .slice a' 16 c' ∧ B = osl 5 1 (.slice a' 16 c') (byV (putD d)) :: R) := by
  refine spec_body Tryz.func91 Tryz.ntmps91 rfl rfl ?_
  refine x_seq ?_
  refine x_region ?_
  refine s_do rfl (d_boxA rfl) ?_
  rintro _ _ ⟨b1, rfl, rfl⟩
  refine s_val rfl (v_assign rfl) ?_
  refine x_nil ?_
  refine n_then ?_
  refine x_seq ?_
  refine x_region ?_
  refine s_do rfl (d_call Tryz.call170 rfl (dsFields_spec W0 _ b1)) ?_
  rintro _ B_ ⟨rfl, hB_⟩
  obtain rfl := hB_.symm
  refine s_do rfl (d_allocA Tryz.zeroValue243) ?_
  rintro _ _ ⟨b2, rfl, rfl⟩
  refine s_do0 (d_storeAll Tryz.sizeOf243 rfl rfl rfl rfl rfl) ?_
  rintro _ _ rfl
  refine x_nil ?_
  refine n_then ?_
  refine x_seq ?_
  refine x_region ?_
  refine s_do rfl (d_allocA Tryz.zeroValue246) ?_
  rintro _ _ ⟨b3, rfl, rfl⟩
  refine x_nil ?_
  refine n_then ?_
  refine x_seq ?_
  refine x_seq ?_
  refine run_pt (b := b3) (o' := cob (outV (fun j => wV (dsW d j)) (wV 0) 4 0) 246) rfl ?_
  refine x_region ?_
  refine s_val rfl (v_move rfl) ?_
  refine x_nil ?_
  refine n_then ?_
  refine x_block ?_
  refine x_loop (fun i : Nat => i ≤ 4) (fun i => [(1, .pointer (some ⟨b1, 0, none⟩)), (3, .pointer (some ⟨b2, 0, none⟩)), (4, .pointer (some ⟨b3, 0, none⟩)), (7, .int .i64 i)]) (fun i => pt b3 (cob (outV (fun j => wV (dsW d j)) (wV 0) 4 i) 246) :: pt b2 (cob ((List.range 4).map (ptV b1)) 243) :: pt b1 (cob ((List.range 4).map fun j => wV (dsW d j)) 99) :: R) (fun i => 4 - i) 0 ?_ ?_ ?_ ?_
  · exact Nat.zero_le _
  · repeat (first | exact sub_nil | refine sub_cons rfl ?_)
  · rw [← dsV_range]; exact inferInstance
  · intro i hi
    refine x_seq ?_
    refine x_region ?_
    refine s_val rfl (v_lss rfl rfl) ?_
    refine x_nil ?_
    refine n_then ?_
    refine x_seq ?_
    refine x_if rfl ?_ ?_
    · intro c4
      refine x_skip ?_
      refine n_then ?_
      refine x_seq ?_
      refine x_block ?_
      refine x_seq ?_
      refine x_region ?_
      refine s_val rfl (v_move rfl) ?_
      refine s_val rfl (v_assign rfl) ?_
      refine x_nil ?_
      refine n_then ?_
      refine x_region ?_
      refine s_val rfl (v_move rfl) ?_
      refine s_val rfl (v_move rfl) ?_
      refine s_val rfl (v_idxArr Tryz.underlying243 Tryz.sizeOf242 rfl rfl rfl (by omega) (by first | exact Nat.zero_add _ | rfl)) ?_
      refine s_val rfl (v_load Tryz.isAgg242 rfl (cell_own (range_get1 (by omega)))) ?_
      refine s_val rfl (v_nilCheck rfl) ?_
      refine s_val rfl (v_load Tryz.isAgg53 rfl (cell_own (range_get (by omega)))) ?_
      refine s_val rfl (v_idxArr Tryz.underlying246 Tryz.sizeOf53 rfl rfl rfl (by omega) (by first | exact Nat.zero_add _ | rfl)) ?_
      refine s_do0 (d_store Tryz.sizeOf53 rfl rfl rfl (by rw [outV_len]; omega) (outV_set1 (by omega))) ?_
      rintro _ _ rfl
      refine x_nil ?_
      refine n_block ?_
      refine n_then ?_
      refine x_region ?_
      refine s_val rfl (v_add rfl rfl (by first | exact w64 (by omega) | rfl)) ?_
      refine s_val rfl (v_move rfl) ?_
      refine x_nil ?_
      refine n_then ?_
      refine inv_intro (i + 1) ?_ ?_ ?_ ?_
      · omega
      · omega
      · repeat (first | exact sub_nil | refine sub_cons rfl ?_)
      · exact inferInstance
    · intro c4
      refine x_exit ?_
      refine e_then ?_
      refine e_then ?_
      refine e_block ?_
      refine n_then ?_
      refine x_seq ?_
      obtain rfl : i = 4 := by omega
      rw [outV_full]
      refine x_region ?_
      refine s_val rfl (v_sliceArr Tryz.underlying246 Tryz.sizeOf53 rfl) ?_
      refine s_do rfl (d_call Tryz.call171 rfl (octBytes_spec W0 _ _ _ (dsWs d) (sla_pt (fun _ => rfl) rfl) (dsWs_lt hd) (by simp [dsWs]))) ?_
      rintro _ B_ ⟨a', c', rfl, hB_⟩
      obtain rfl := hB_.symm
      refine s_val rfl (v_assign rfl) ?_
      refine x_nil ?_
      refine n_then ?_
      refine x_ret ?_
      refine x_done (.inl rfl) (.cons (r_tmp rfl) .nil) ?_
      exact ⟨_, ⟨a', c', rfl, rfl⟩, (inferInstance : Ent (osl 5 1 (.slice a' 16 c') (byV (putD d)) :: _) _)⟩
def chkC (d : Dsc) (n : Nat) : Int := if 4 ≤ d.flags then 3 else if 64 < d.len then 4 else if d.flags % 2 = 1 ∧ n ≤ d.next then 1 else 0
theorem andNot3 {f : Nat} (h : f < 4294967296) : bAndNot .u32 (f : Int) 3 = ((f - f % 4 : Nat) : Int) := by
  have := bAndNot_u32 (a := f) (b := 3) h (by decide)
  rw [show f &&& 3 = f % 4 from and_low (a := f) (n := 2)] at this
  exact this
theorem and1 {f : Nat} (h : f < 4294967296) : bAnd .u32 (f : Int) 1 = ((f % 2 : Nat) : Int) := by
  have := bAnd_u32 (a := f) (b := 1) h (by decide)
  rw [show f &&& 1 = f % 2 from and_low (a := f) (n := 1)] at this
  exact this
theorem and2 {f : Nat} (h : f < 4294967296) : bAnd .u32 (f : Int) 2 = ((f / 2 % 2 * 2 : Nat) : Int) := by
  have := bAnd_u32 (a := f) (b := 2) h (by decide)
  refine Eq.trans this ?_
  have e : f &&& 2 = f / 2 % 2 * 2 := by
    apply Nat.eq_of_testBit_eq
    intro i
    rw [Nat.testBit_and]
    have h2 : ∀ i, Nat.testBit 2 i = decide (i = 1) := fun i => by
      rw [show (2 : Nat) = 2 ^ 1 from rfl, Nat.testBit_two_pow]; simp [eq_comm]
    rw [h2]
    by_cases hi : i = 1
    · subst hi
      rw [Nat.mul_comm, ← Nat.pow_one 2, Nat.testBit_two_pow_mul]
      simp [Nat.testBit_eq_decide_div_mod_eq]
    · rw [Nat.mul_comm, ← Nat.pow_one 2, Nat.testBit_two_pow_mul]
      simp only [hi, decide_false, Bool.and_false]
      rcases Nat.eq_zero_or_pos i with rfl | hp
      · simp
      · have : 1 ≤ i - 1 := by omega
        have hlt : f / 2 ^ 1 % 2 ^ 1 < 2 ^ (i - 1) := Nat.lt_of_lt_of_le (Nat.mod_lt _ (by decide)) (Nat.pow_le_pow_right (by decide) this)
        simp [Nat.testBit_lt_two_pow hlt]
  rw [e]
theorem dsCheck_spec (W0 : World) (R : List HP) (d : Dsc) (hd : d.ok) (n : Nat) (hn : n < 9223372036854775808) : Spec Tryz.prog W0 254 [.agg (dsV d).toArray, .int .i64 n] R (fun v B => v = .int .i64 (chkC d n) ∧ B = R) := by
  have h1 := hd.flags
  have h2 := hd.next
  refine spec_body Tryz.func254 Tryz.ntmps254 rfl rfl ?_
  refine x_seq ?_
  refine x_region ?_
  refine s_do rfl (d_boxA rfl) ?_
  rintro _ _ ⟨b1, rfl, rfl⟩
  refine s_val rfl (v_assign rfl) ?_
  refine x_nil ?_
  refine n_then ?_
  refine x_seq ?_
  refine x_block ?_
  refine x_seq ?_
  refine x_region ?_
  refine s_val rfl (v_fieldAddr rfl Tryz.underlying99 rfl Tryz.sizeOf53 rfl (by first | exact Nat.zero_add _ | rfl)) ?_
  refine s_val rfl (v_load Tryz.isAgg53 rfl (cell_own rfl)) ?_
  refine s_val rfl (v_andNot rfl rfl (andNot3 h1)) ?_
  refine s_val rfl (v_neq rfl rfl) ?_
  refine s_val rfl (v_assign rfl) ?_
  refine x_nil ?_
  refine n_then ?_
  refine x_if rfl ?_ ?_
  · intro c1
    refine x_seq ?_
    refine x_region ?_
    refine s_val rfl (v_assign rfl) ?_
    refine x_nil ?_
    refine n_then ?_
    refine x_ret ?_
    refine r_block ?_
    refine r_then ?_
    refine x_done (.inl rfl) (.cons (r_tmp rfl) .nil) ?_
    refine ⟨_, ⟨?_, rfl⟩, inferInstance⟩
    simp only [pack, chkC]; rw [if_pos (by omega)]
  · intro c1
    refine x_seq ?_
    refine x_region ?_
    refine s_val rfl (v_fieldAddr rfl Tryz.underlying99 rfl Tryz.sizeOf53 rfl (by first | exact Nat.zero_add _ | rfl)) ?_
    refine s_val rfl (v_load Tryz.isAgg53 rfl (cell_own rfl)) ?_
    refine s_val rfl (v_gtr rfl rfl) ?_
    refine s_val rfl (v_assign rfl) ?_
    refine x_nil ?_
    refine n_then ?_
    refine x_if rfl ?_ ?_
    · intro c3
      refine x_seq ?_
      refine x_region ?_
      refine s_val rfl (v_assign rfl) ?_
      refine x_nil ?_
      refine n_then ?_
      refine x_ret ?_
      refine r_block ?_
      refine r_then ?_
      refine x_done (.inl rfl) (.cons (r_tmp rfl) .nil) ?_
      refine ⟨_, ⟨?_, rfl⟩, inferInstance⟩
      simp only [pack, chkC]; rw [if_neg (by omega), if_pos (by omega)]
    · intro c3
      refine x_seq ?_
      refine x_region ?_
      refine s_val rfl (v_fieldAddr rfl Tryz.underlying99 rfl Tryz.sizeOf53 rfl (by first | exact Nat.zero_add _ | rfl)) ?_
      refine s_val rfl (v_load Tryz.isAgg53 rfl (cell_own rfl)) ?_
      refine s_val rfl (v_and rfl rfl (and1 h1)) ?_
      refine s_val rfl (v_neq rfl rfl) ?_
      refine s_val rfl (v_move rfl) ?_
      refine s_and rfl rfl rfl ?_ ?_
      · intro g5_5
        refine s_val rfl (v_fieldAddr rfl Tryz.underlying99 rfl Tryz.sizeOf53 rfl (by first | exact Nat.zero_add _ | rfl)) ?_
        refine s_yes rfl rfl ?_
        refine s_val rfl (v_load Tryz.isAgg53 rfl (cell_own rfl)) ?_
        refine s_yes rfl rfl ?_
        refine s_val rfl (v_conv Tryz.underlying53 Tryz.underlying2 rfl (w64 (by omega))) ?_
        refine s_yes rfl rfl ?_
        refine s_val rfl (v_move rfl) ?_
        refine s_yes rfl rfl ?_
        refine s_val rfl (v_geq rfl rfl) ?_
        refine s_val rfl (v_pick_t rfl rfl) ?_
        refine s_val rfl (v_assign rfl) ?_
        refine x_nil ?_
        refine n_then ?_
        refine x_if rfl ?_ ?_
        · intro c5
          refine x_seq ?_
          refine x_region ?_
          refine s_val rfl (v_assign rfl) ?_
          refine x_nil ?_
          refine n_then ?_
          refine x_ret ?_
          refine r_block ?_
          refine r_then ?_
          refine x_done (.inl rfl) (.cons (r_tmp rfl) .nil) ?_
          refine ⟨_, ⟨?_, rfl⟩, inferInstance⟩
          simp only [pack, chkC]; rw [if_neg (by omega), if_neg (by omega), if_pos (by omega)]
        · intro c5
          refine x_skip ?_
          refine n_block ?_
          refine n_then ?_
          refine x_seq ?_
          refine x_region ?_
          refine s_val rfl (v_assign rfl) ?_
          refine x_nil ?_
          refine n_then ?_
          refine x_ret ?_
          refine x_done (.inl rfl) (.cons (r_tmp rfl) .nil) ?_
          refine ⟨_, ⟨?_, rfl⟩, inferInstance⟩
          simp only [pack, chkC]; rw [if_neg (by omega), if_neg (by omega), if_neg (by omega)]
      · intro g5_5
        refine s_no rfl rfl rfl rfl ?_
        refine s_no rfl rfl rfl rfl ?_
        refine s_no rfl rfl rfl rfl ?_
        refine s_no rfl rfl rfl rfl ?_
        refine s_val rfl (v_pick_f rfl rfl) ?_
        refine s_val rfl (v_assign rfl) ?_
        refine x_nil ?_
        refine n_then ?_
        refine x_iff rfl ?_
        refine x_skip ?_
        refine n_block ?_
        refine n_then ?_
        refine x_seq ?_
        refine x_region ?_
        refine s_val rfl (v_assign rfl) ?_
        refine x_nil ?_
        refine n_then ?_
        refine x_ret ?_
        refine x_done (.inl rfl) (.cons (r_tmp rfl) .nil) ?_
        refine ⟨_, ⟨?_, rfl⟩, inferInstance⟩
        simp only [pack, chkC]; rw [if_neg (by omega), if_neg (by omega), if_neg (by omega)]
def szd (n : Int) : Bool := decide (n = 2 ∨ n = 4 ∨ n = 8)
theorem dsSized_spec (W0 : World) (R : List HP) (n : Int) : Spec Tryz.prog W0 226 [.int .i64 n] R (fun v B => v = .bool (szd n) ∧ B = R) := by
  refine spec_body Tryz.func226 Tryz.ntmps226 rfl rfl ?_
  refine x_seq ?_
  refine x_region ?_
  refine s_val rfl (v_assign rfl) ?_
  refine x_nil ?_
  refine n_then ?_
  refine x_seq ?_
  refine x_seq ?_
  refine x_region ?_
  refine s_val rfl (v_move rfl) ?_
  refine x_nil ?_
  refine n_then ?_
  refine x_block ?_
  refine x_seq ?_
  refine x_seq ?_
  refine x_region ?_
  refine s_val rfl (v_eql rfl rfl) ?_
  refine s_val rfl (v_assign rfl) ?_
  refine x_nil ?_
  refine n_then ?_
  refine x_if rfl ?_ ?_
  · intro c2
    refine x_skip ?_
    refine n_then ?_
    refine x_ift rfl ?_
    refine x_seq ?_
    refine x_region ?_
    refine s_val rfl (v_assign rfl) ?_
    refine x_nil ?_
    refine n_then ?_
    refine x_ret ?_
    refine r_block ?_
    refine r_then ?_
    refine x_done (.inl rfl) (.cons (r_tmp rfl) .nil) ?_
    refine ⟨_, ⟨?_, rfl⟩, inferInstance⟩
    refine congrArg Value.bool (Eq.symm (decide_eq_true ?_)); omega
  · intro c2
    refine x_seq ?_
    refine x_region ?_
    refine s_val rfl (v_eql rfl rfl) ?_
    refine s_val rfl (v_assign rfl) ?_
    refine x_nil ?_
    refine n_then ?_
    refine x_if rfl ?_ ?_
    · intro c3
      refine x_skip ?_
      refine n_then ?_
      refine x_ift rfl ?_
      refine x_seq ?_
      refine x_region ?_
      refine s_val rfl (v_assign rfl) ?_
      refine x_nil ?_
      refine n_then ?_
      refine x_ret ?_
      refine r_block ?_
      refine r_then ?_
      refine x_done (.inl rfl) (.cons (r_tmp rfl) .nil) ?_
      refine ⟨_, ⟨?_, rfl⟩, inferInstance⟩
      refine congrArg Value.bool (Eq.symm (decide_eq_true ?_)); omega
    · intro c3
      refine x_region ?_
      refine s_val rfl (v_eql rfl rfl) ?_
      refine s_val rfl (v_assign rfl) ?_
      refine x_nil ?_
      refine n_then ?_
      refine x_if rfl ?_ ?_
      · intro c4
        refine x_seq ?_
        refine x_region ?_
        refine s_val rfl (v_assign rfl) ?_
        refine x_nil ?_
        refine n_then ?_
        refine x_ret ?_
        refine r_block ?_
        refine r_then ?_
        refine x_done (.inl rfl) (.cons (r_tmp rfl) .nil) ?_
        refine ⟨_, ⟨?_, rfl⟩, inferInstance⟩
        refine congrArg Value.bool (Eq.symm (decide_eq_true ?_)); omega
      · intro c4
        refine x_skip ?_
        refine n_block ?_
        refine n_then ?_
        refine x_seq ?_
        refine x_region ?_
        refine s_val rfl (v_assign rfl) ?_
        refine x_nil ?_
        refine n_then ?_
        refine x_ret ?_
        refine x_done (.inl rfl) (.cons (r_tmp rfl) .nil) ?_
        refine ⟨_, ⟨?_, rfl⟩, inferInstance⟩
        refine congrArg Value.bool (Eq.symm (decide_eq_false ?_)); omega
structure Rg3 where
  desc : Nat
  avail : Nat
  used : Nat
  n : Int
@[reducible] def rgV (r : Rg3) : List Value := [.int .u32 r.desc, .int .u32 r.avail, .int .u32 r.used, .int .i64 r.n]
structure Rg3.ok (r : Rg3) : Prop where
  desc : r.desc < 4294967296
  avail : r.avail < 4294967296
  used : r.used < 4294967296
def rgtB (r : Rg3) : Bool := decide (r.desc % 4 = 0 ∧ r.avail % 4 = 0 ∧ r.used % 4 = 0) && szd r.n
def rgAt (r : Rg3) (i : Nat) : Nat := [r.desc, r.avail, r.used].getD i 0
theorem dsRight_spec (W0 : World) (R : List HP) (r : Rg3) : Spec Tryz.prog W0 175 [.agg (rgV r).toArray] R (fun v B => v = .bool (rgtB r) ∧ B = R) := by
  refine spec_body Tryz.func175 Tryz.ntmps175 rfl rfl ?_
  refine x_seq ?_
  refine x_region ?_
  refine s_do rfl (d_boxA rfl) ?_
  rintro _ _ ⟨b1, rfl, rfl⟩
  refine s_val rfl (v_assign rfl) ?_
  refine x_nil ?_
  refine n_then ?_
  refine x_seq ?_
  refine x_seq ?_
  refine x_region ?_
  refine s_val rfl (v_fieldAddr rfl Tryz.underlying55 rfl Tryz.sizeOf53 rfl (by first | exact Nat.zero_add _ | rfl)) ?_
  refine s_val rfl (v_load Tryz.isAgg53 rfl (cell_own rfl)) ?_
  refine s_val rfl (v_fieldAddr rfl Tryz.underlying55 rfl Tryz.sizeOf53 rfl (by first | exact Nat.zero_add _ | rfl)) ?_
  refine s_val rfl (v_load Tryz.isAgg53 rfl (cell_own rfl)) ?_
  refine s_val rfl (v_fieldAddr rfl Tryz.underlying55 rfl Tryz.sizeOf53 rfl (by first | exact Nat.zero_add _ | rfl)) ?_
  refine s_val rfl (v_load Tryz.isAgg53 rfl (cell_own rfl)) ?_
  refine s_val rfl (v_buildArr Tryz.underlying250 Tryz.sizeOf53 Tryz.zeroValue250 rfl rfl rfl rfl) ?_
  refine s_val rfl (v_move rfl) ?_
  refine x_nil ?_
  refine n_then ?_
  refine x_block ?_
  refine x_loop (fun i : Nat => i ≤ 3 ∧ ∀ j, j < i → rgAt r j % 4 = 0) (fun i => [(1, .pointer (some ⟨b1, 0, none⟩)), (11, .agg ((List.range 3).map fun j => wV (rgAt r j)).toArray), (12, .int .i64 i)]) (fun i => pt b1 (cob (rgV r) 55) :: R) (fun i => 3 - i) 0 ?_ ?_ ?_ ?_
  · exact ⟨Nat.zero_le _, fun j hj => by omega⟩
  · repeat (first | exact sub_nil | refine sub_cons rfl ?_)
  · exact inferInstance
  · intro i ⟨hi, hI⟩
    refine x_seq ?_
    refine x_region ?_
    refine s_val rfl (v_lss rfl rfl) ?_
    refine x_nil ?_
    refine n_then ?_
    refine x_seq ?_
    refine x_if rfl ?_ ?_
    · intro c2
      refine x_skip ?_
      refine n_then ?_
      refine x_seq ?_
      refine x_block ?_
      refine x_seq ?_
      refine x_region ?_
      refine s_val rfl (v_index Tryz.underlying250 Tryz.sizeOf53 Tryz.isAgg53 rfl rfl rfl (by omega) (range_get (by omega))) ?_
      refine s_val rfl (v_assign rfl) ?_
      refine x_nil ?_
      refine n_then ?_
      refine x_seq ?_
      refine x_region ?_
      refine s_val rfl (v_move rfl) ?_
      refine s_val rfl (v_rem rfl rfl (by decide) (tmodN (rgAt r i) 4)) ?_
      refine s_val rfl (v_neq rfl rfl) ?_
      refine x_nil ?_
      refine n_then ?_
      refine x_if rfl ?_ ?_
      · intro c4
        refine x_seq ?_
        refine x_region ?_
        refine s_val rfl (v_assign rfl) ?_
        refine x_nil ?_
        refine n_then ?_
        refine x_ret ?_
        refine r_block ?_
        refine r_then ?_
        refine r_then ?_
        refine r_block ?_
        refine r_then ?_
        refine x_done (.inl rfl) (.cons (r_tmp rfl) .nil) ?_
        refine ⟨_, ⟨?_, rfl⟩, inferInstance⟩
        refine congrArg Value.bool (Eq.symm ?_)
        rw [rgtB, decide_eq_false, Bool.false_and]
        have h3 : i = 0 ∨ i = 1 ∨ i = 2 := by omega
        rcases h3 with rfl | rfl | rfl <;> simp [rgAt] at c4 <;> omega
      · intro c4
        refine x_skip ?_
        refine n_block ?_
        refine n_then ?_
        refine x_region ?_
        refine s_val rfl (v_add rfl rfl (by first | exact w64 (by omega) | rfl)) ?_
        refine s_val rfl (v_move rfl) ?_
        refine x_nil ?_
        refine n_then ?_
        refine inv_intro (i + 1) ?_ ?_ ?_ ?_
        · exact ⟨by omega, fun j hj => by
            rcases Nat.lt_or_ge j i with q | q
            · exact hI j q
            · rw [show j = i by omega]; omega⟩
        · omega
        · repeat (first | exact sub_nil | refine sub_cons rfl ?_)
        · exact inferInstance
    · intro c2
      refine x_exit ?_
      refine e_then ?_
      refine e_then ?_
      refine e_block ?_
      refine n_then ?_
      refine x_seq ?_
      refine x_region ?_
      refine s_val rfl (v_fieldAddr rfl Tryz.underlying55 rfl Tryz.sizeOf3 rfl (by first | exact Nat.zero_add _ | rfl)) ?_
      refine s_val rfl (v_load Tryz.isAgg3 rfl (cell_own rfl)) ?_
      refine s_do rfl (d_call Tryz.call226 rfl (dsSized_spec W0 _ r.n)) ?_
      rintro _ B_ ⟨rfl, hB_⟩
      obtain rfl := hB_.symm
      refine s_val rfl (v_assign rfl) ?_
      refine x_nil ?_
      refine n_then ?_
      refine x_ret ?_
      refine x_done (.inl rfl) (.cons (r_tmp rfl) .nil) ?_
      refine ⟨_, ⟨?_, rfl⟩, inferInstance⟩
      obtain rfl : i = 3 := by omega
      have e0 := hI 0 (by omega)
      have e1 := hI 1 (by omega)
      have e2 := hI 2 (by omega)
      simp [rgAt] at e0 e1 e2
      simp [pack, rgtB, e0, e1, e2]
end Go.Proofs.YtechkfopkpkigaaGreat
