/-
  Part 3 of the proof of BlkServes: rules, and walks of functions. Conditions: none.
-/
import Derived.Test.YtncegikenkpcmaaGreatBlkServesB
namespace Go.Proofs.YtncegikenkpcmaaGreat
open Go.RowKit
set_option linter.unusedSimpArgs false
set_option linter.unusedVariables false
set_option maxRecDepth 20000
def wV (w : Nat) : Value := .int .u32 (w : Int)
def wdAt (l : List Nat) (i : Nat) : Nat := leN ((l.drop (4 * i)).take 4)
theorem wdAt_lt {l : List Nat} (h : By l) (i : Nat) : wdAt l i < 4294967296 := by
  have h1 := leN_lt ((h.drop (4 * i)).take 4)
  have h2 : ((l.drop (4 * i)).take 4).length ≤ 4 := by simp; omega
  exact Nat.lt_of_lt_of_le h1 (Nat.le_trans (Nat.pow_le_pow_right (by decide) h2) (by decide))
def wordsV (l : List Nat) (n : Nat) : List Value := (List.range n).map fun i => wV (wdAt l i)
theorem wordsV_succ (l : List Nat) (n : Nat) : wordsV l (n + 1) = wordsV l n ++ [wV (wdAt l n)] := by simp [wordsV, List.range_succ]
theorem gatherN_spec (W0 : World) (R : List HP) (g off c n : Nat) (l : List Nat) (hn : l.length = n) (hc : Cells (OwnP W0 R) g off (byV l)) (hl : n ≤ 4) (hb : By l) :
    Spec Tryz.prog W0 240 [.slice (some ⟨g, off, none⟩) n c] R (fun v B => v = .int .u32 (leN l : Nat) ∧ B = R) := by
  subst hn; exact gather_spec W0 R g off c l hc hl hb
theorem byV_fm : ∀ bs : List Nat, bs.flatMap (fun x => [bV x]) = byV bs
  | [] => rfl
  | b :: l => by rw [List.flatMap_cons, byV_fm l]; rfl
theorem octWords_spec (W0 : World) (R : List HP) (a : Option Addr) (c : Nat) (l : List Nat) (hs : SlA (OwnP W0 R) a 1 (fun x => [bV x]) l) (hb : By l) (hcap : l.length ≤ c) (hl : l.length ≤ 1000000) :
    Spec Tryz.prog W0 212 [.slice a l.length c] R (fun v B => ∃ a' c', v = .slice a' (l.length / 4) c' ∧ B = osl 47 1 (.slice a' (l.length / 4) c') (wordsV l (l.length / 4)) :: R) := by
  refine spec_body Tryz.func212 Tryz.ntmps212 rfl rfl ?_
  refine x_seq (x_region (s_val rfl (v_assign rfl) (x_nil (n_then (x_seq (x_region (s_val rfl (v_assign rfl) (x_nil (n_then (x_seq (x_seq (x_region (s_val rfl (v_move rfl) (s_val rfl (v_len_slice Tryz.underlying44 rfl) ?_))))))))))))))
  refine s_val rfl (v_quo rfl rfl (by decide) ((congrArg (IntKind.wrap .i64) (tdivN l.length 4)).trans (w64 (by omega)))) ?_
  refine s_val rfl (v_move rfl) (x_nil (n_then (x_block ?_)))
  refine x_loop (fun x : Nat × Option Addr × Nat => x.1 ≤ l.length / 4) (fun x => [(0, .slice a l.length c), (3, .slice x.2.1 x.1 x.2.2), (7, .int .i64 (l.length / 4 : Nat)), (8, .int .i64 x.1)]) (fun x => osl 47 1 (.slice x.2.1 x.1 x.2.2) (wordsV l x.1) :: R) (fun x => l.length / 4 - x.1) (0, none, 0) ?_ ?_ ?_ ?_
  · simp
  · repeat (first | exact sub_nil | refine sub_cons rfl ?_)
  · exact ent_osl_nil
  · intro ⟨i, a1, c1⟩ hi
    dsimp only at hi ⊢
    refine x_seq (x_region (s_val rfl (v_lss rfl rfl) (x_nil (n_then (x_seq ?_)))))
    refine x_if rfl ?_ ?_
    · intro c3
      refine x_skip (n_then (x_seq (x_block (x_seq (x_region (s_val rfl (v_move rfl) (s_val rfl (v_assign rfl) (x_nil (n_then ?_)))))))))
      obtain ⟨g, off, rfl, hc⟩ := hs.all (by intro h0; subst h0; simp at *; omega) (fun _ => rfl)
      rw [byV_fm] at hc
      refine x_region (s_val rfl (v_move rfl) (s_val rfl (v_move rfl) (s_val rfl (v_move rfl) ?_)))
      refine s_val rfl (v_mul rfl rfl (by rw [w64 (by omega)]; omega : IntKind.wrap .i64 (4 * (i : Int)) = ((4 * i : Nat) : Int))) ?_
      refine s_val rfl (v_move rfl) ?_
      refine s_val rfl (v_mul rfl rfl (by rw [w64 (by omega)]; omega : IntKind.wrap .i64 (4 * (i : Int)) = ((4 * i : Nat) : Int))) ?_
      refine s_val rfl (v_add rfl rfl (by rw [w64 (by omega)]; omega : IntKind.wrap .i64 (((4 * i : Nat) : Int) + 4) = ((4 * i + 4 : Nat) : Int))) ?_
      refine s_val rfl (v_move rfl) ?_
      refine s_val rfl (v_mul rfl rfl (by rw [w64 (by omega)]; omega : IntKind.wrap .i64 (4 * (i : Int)) = ((4 * i : Nat) : Int))) ?_
      refine s_val rfl (v_add rfl rfl (by rw [w64 (by omega)]; omega : IntKind.wrap .i64 (((4 * i : Nat) : Int) + 4) = ((4 * i + 4 : Nat) : Int))) ?_
      refine s_val rfl (v_slice3 Tryz.underlying44 Tryz.sizeOf5 rfl rfl rfl rfl rfl rfl rfl (by omega) (by omega) (by omega) (by omega) (by first | exact Nat.zero_add _ | rfl)) ?_
      refine s_do rfl (d_call Tryz.call240 rfl (gatherN_spec W0 _ g (off + 4 * i * 1) _ _ ((l.drop (4 * i)).take 4) (by simp; omega) (by rw [Nat.mul_one]; exact Cells.part hc.weak (4 * i) 4 (by omega)) (by omega) ((hb.drop _).take _))) ?_
      rintro _ B_ ⟨rfl, hB_⟩
      obtain rfl := hB_.symm
      refine s_do rfl (d_sliceLit Tryz.underlying45 Tryz.sizeOf47 Tryz.zeroValue47 rfl rfl rfl rfl rfl (by decide) (by decide)) ?_
      rintro _ _ ⟨b1, rfl, rfl⟩
      refine s_do rfl (d_append (sz := 1) (by_ := 4) (info := Tryz.t47) Tryz.underlying45 (by kernel_rfl) rfl rfl rfl rfl (by decide) rfl rfl cells_all rfl rfl (by simp only [maxLen]; omega) (by omega)) ?_
      rintro _ _ ⟨a2, c2, rfl, rfl⟩
      refine s_val rfl (v_assign rfl) (x_nil (n_block (n_then (x_region ?_))))
      refine s_val rfl (v_add rfl rfl (by first | exact w64 (by omega) | rfl)) ?_
      refine s_val rfl (v_move rfl) (x_nil (n_then ?_))
      refine inv_intro (i + 1, a2, c2) ?_ ?_ ?_ ?_
      · omega
      · omega
      · repeat (first | exact sub_nil | refine sub_cons rfl ?_)
      · rw [wordsV_succ]
        show Ent _ (osl 47 1 (.slice a2 (i + 1) c2) (wordsV l i ++ [.int .u32 ((leN ((l.drop (4 * i)).take 4) : Nat) : Int)]) :: R)
        exact inferInstance
    · intro c3
      refine x_exit (e_then (e_then (e_block (n_then (x_seq (x_region (s_val rfl (v_move rfl) (s_val rfl (v_assign rfl) (x_nil (n_then (x_ret (x_done (.inl rfl) (.cons (r_tmp rfl) .nil) ?_))))))))))))
      have e1 : i = l.length / 4 := by omega
      subst e1
      exact ⟨_, ⟨a1, c1, rfl, rfl⟩, inferInstance⟩
def bytesL (ws : List Nat) : List Nat := ws.flatMap (leB 4)
theorem bytesL_len : ∀ ws, (bytesL ws).length = 4 * ws.length
  | [] => rfl
  | w :: ws => by rw [bytesL, List.flatMap_cons, List.length_append, leB_len]; have := bytesL_len ws; rw [bytesL] at this; rw [this, List.length_cons]; omega
theorem bytesL_by (ws : List Nat) : By (bytesL ws) := fun b hb => by
  obtain ⟨w, _, hw⟩ := List.mem_flatMap.1 hb
  exact leB_by 4 w b hw
def outB (ws : List Nat) (i : Nat) : List Nat := bytesL (ws.take i) ++ List.replicate (4 * (ws.length - i)) 0
theorem outB_len {ws : List Nat} {i : Nat} (h : i ≤ ws.length) : (outB ws i).length = 4 * ws.length := by
  simp only [outB, List.length_append, bytesL_len, List.length_take, List.length_replicate]; omega
theorem outB_succ {ws : List Nat} {i : Nat} (h : i < ws.length) : putB (outB ws i) (4 * i) 4 ws[i] = outB ws (i + 1) := by
  have hl : (bytesL (ws.take i)).length = 4 * i := by rw [bytesL_len, List.length_take]; omega
  rw [putB, outB, List.take_append_of_le_length (by omega), List.take_of_length_le (by omega)]
  rw [List.drop_append, List.drop_of_length_le (by omega), List.nil_append, List.drop_replicate, hl]
  rw [outB, List.take_succ_eq_append_getElem h, bytesL, bytesL, List.flatMap_append]
  simp only [List.flatMap_cons, List.flatMap_nil, List.append_nil]
  congr 2; omega
theorem octBytes_spec (W0 : World) (R : List HP) (a : Option Addr) (c : Nat) (ws : List Nat) (hs : SlA (OwnP W0 R) a 1 (fun x => [wV x]) ws) (hw : ∀ w ∈ ws, w < 4294967296) (hl : ws.length ≤ 10000) :
    Spec Tryz.prog W0 138 [.slice a ws.length c] R (fun v B => ∃ a' c', v = .slice a' (4 * ws.length) c' ∧ B = osl 5 1 (.slice a' (4 * ws.length) c') (byV (bytesL ws)) :: R) := by
  refine spec_body Tryz.func138 Tryz.ntmps138 rfl rfl ?_
  refine x_seq (x_region (s_val rfl (v_assign rfl) (x_nil (n_then (x_seq (x_region (s_val rfl (v_move rfl) (s_val rfl (v_len_slice Tryz.underlying45 rfl) ?_))))))))
  refine s_val rfl (v_mul rfl rfl (by rw [w64 (by omega)]; omega : IntKind.wrap .i64 (4 * (ws.length : Int)) = ((4 * ws.length : Nat) : Int))) ?_
  refine s_do rfl (d_make (sz := 1) (by_ := 1) (info := Tryz.t5) Tryz.underlying44 (by kernel_rfl) rfl rfl rfl rfl (by decide) rfl rfl rfl rfl (by omega) (by decide)) ?_
  rintro _ _ ⟨b1, rfl, rfl⟩
  refine s_val rfl (v_assign rfl) (x_nil (n_then (x_seq (x_seq ?_))))
  rw [show List.replicate (4 * ws.length * 1) (Value.int .u8 0) = byV (outB ws 0) by simp [outB, byV, bytesL, bV]]
  refine x_region (s_val rfl (v_move rfl) (s_val rfl (v_len_slice Tryz.underlying45 rfl) (s_val rfl (v_move rfl) (x_nil (n_then (x_block ?_))))))
  refine x_loop (fun i : Nat => i ≤ ws.length) (fun i => [(3, .slice (some ⟨b1, 0, none⟩) (4 * ws.length) (4 * ws.length)), (10, .slice a ws.length c), (11, .int .i64 ws.length), (12, .int .i64 i)]) (fun i => pt b1 (cob (byV (outB ws i)) 5) :: R) (fun i => ws.length - i) 0 ?_ ?_ ?_ ?_
  · exact Nat.zero_le _
  · repeat (first | exact sub_nil | refine sub_cons rfl ?_)
  · exact inferInstance
  · intro i hi
    refine x_seq (x_region (s_val rfl (v_lss rfl rfl) (x_nil (n_then (x_seq ?_)))))
    refine x_if rfl ?_ ?_
    · intro c3
      refine x_skip (n_then (x_seq (x_block (x_seq ?_))))
      have hi1 : i < ws.length := by omega
      obtain ⟨g, off, rfl, hc⟩ := hs.at_ hi1
      have hwi := hw _ (List.getElem_mem hi1)
      refine x_region (s_val rfl (v_move rfl) ?_)
      refine s_val rfl (v_idx Tryz.underlying45 Tryz.sizeOf47 rfl rfl rfl hi1 (by first | exact Nat.zero_add _ | rfl)) ?_
      refine s_val rfl (v_load Tryz.isAgg47 rfl (Cells.weak hc 0 _ rfl)) ?_
      refine s_val rfl (v_assign rfl) (s_val rfl (v_assign rfl) (x_nil (n_then (x_region (s_val rfl (v_move rfl) (s_val rfl (v_move rfl) ?_))))))
      refine s_val rfl (v_mul rfl rfl (by rw [w64 (by omega)]; omega : IntKind.wrap .i64 (4 * (i : Int)) = ((4 * i : Nat) : Int))) ?_
      refine s_val rfl (v_move rfl) ?_
      refine s_val rfl (v_mul rfl rfl (by rw [w64 (by omega)]; omega : IntKind.wrap .i64 (4 * (i : Int)) = ((4 * i : Nat) : Int))) ?_
      refine s_val rfl (v_add rfl rfl (by rw [w64 (by omega)]; omega : IntKind.wrap .i64 (((4 * i : Nat) : Int) + 4) = ((4 * i + 4 : Nat) : Int))) ?_
      refine s_val rfl (v_move rfl) ?_
      refine s_val rfl (v_mul rfl rfl (by rw [w64 (by omega)]; omega : IntKind.wrap .i64 (4 * (i : Int)) = ((4 * i : Nat) : Int))) ?_
      refine s_val rfl (v_add rfl rfl (by rw [w64 (by omega)]; omega : IntKind.wrap .i64 (((4 * i : Nat) : Int) + 4) = ((4 * i + 4 : Nat) : Int))) ?_
      refine s_val rfl (v_slice3 Tryz.underlying44 Tryz.sizeOf5 rfl rfl rfl rfl rfl rfl rfl (by omega) (by omega) (by omega) (by omega) (by first | exact Nat.zero_add _ | rfl)) ?_
      refine s_val rfl (v_move rfl) ?_
      refine s_do rfl (d_call1 Tryz.call197 rfl (spread_spec W0 _ b1 (4 * i * 1) _ _ _ _ ws[i] hwi (by omega) (by rw [byV_len, outB_len hi]; omega))) ?_
      rintro _ B_ ⟨rfl, hB_⟩
      obtain rfl := hB_.symm
      rw [show 4 * i + 4 - 4 * i = 4 by omega, Nat.mul_one, setR_byV (by rw [outB_len hi]; omega), outB_succ hi1]
      refine x_nil (n_block (n_then (x_region ?_)))
      refine s_val rfl (v_add rfl rfl (by first | exact w64 (by omega) | rfl)) ?_
      refine s_val rfl (v_move rfl) (x_nil (n_then ?_))
      refine inv_intro (i + 1) ?_ ?_ ?_ ?_
      · omega
      · omega
      · repeat (first | exact sub_nil | refine sub_cons rfl ?_)
      · exact inferInstance
    · intro c3
      refine x_exit (e_then (e_then (e_block (n_then (x_seq (x_region (s_val rfl (v_move rfl) (s_val rfl (v_assign rfl) (x_nil (n_then (x_ret (x_done (.inl rfl) (.cons (r_tmp rfl) .nil) ?_))))))))))))
      have e1 : i = ws.length := by omega
      subst e1
      rw [show outB ws ws.length = bytesL ws by simp [outB]]
      exact ⟨_, ⟨_, _, rfl, rfl⟩, ent_osl0 (by simp only [maxLen]; omega) (by rw [byV_len, bytesL_len, Nat.mul_one])⟩
structure Dsc where
  addr : Nat
  len : Nat
  flags : Nat
  next : Nat
@[reducible] def dsV (d : Dsc) : List Value := [.int .u32 d.addr, .int .u32 d.len, .int .u32 d.flags, .int .u32 d.next]
structure Dsc.ok (d : Dsc) : Prop where
  addr : d.addr < 4294967296
  len : d.len < 4294967296
  flags : d.flags < 4294967296
  next : d.next < 4294967296
def dsWs (d : Dsc) : List Nat := [d.addr, d.len, d.flags, d.next]
theorem dsWs_lt {d : Dsc} (hd : d.ok) : ∀ w ∈ dsWs d, w < 4294967296 := fun w hw => by
  have h1 := hd.addr
  have h2 := hd.len
  have h3 := hd.flags
  have h4 := hd.next
  simp only [dsWs, List.mem_cons, List.not_mem_nil, or_false] at hw
  omega
def dsW (d : Dsc) (i : Nat) : Nat := (dsWs d).getD i 0
theorem dsV_range (d : Dsc) : dsV d = (List.range 4).map fun j => wV (dsW d j) := rfl
def dsOf (l : List Nat) : Dsc := ⟨wdAt l 0, wdAt l 1, wdAt l 2, wdAt l 3⟩
theorem dsOf_ok {l : List Nat} (h : By l) : (dsOf l).ok := ⟨wdAt_lt h _, wdAt_lt h _, wdAt_lt h _, wdAt_lt h _⟩
def putD (d : Dsc) : List Nat := bytesL (dsWs d)
theorem putD_len (d : Dsc) : (putD d).length = 16 := by rw [putD, bytesL_len]; rfl
def zD : Dsc := ⟨0, 0, 0, 0⟩
def ptV (b i : Nat) : Value := .pointer (some ⟨b, i, none⟩)
theorem dsFields_spec (W0 : World) (R : List HP) (b : Nat) : Spec Tryz.prog W0 137 [.pointer (some ⟨b, 0, none⟩)] R (fun v B => v = .agg ((List.range 4).map (ptV b)).toArray ∧ B = R) := by
  refine spec_body Tryz.func137 Tryz.ntmps137 rfl rfl ?_
  refine x_seq (x_region (s_do rfl (d_allocA Tryz.zeroValue224) ?_))
  rintro _ _ ⟨b1, rfl, rfl⟩
  refine x_nil (n_then (x_seq ?_))
  refine x_draw [] 14 mixed rfl sc_end (fun hS => ?_)
  refine d_take 0 rfl rfl (by kernel_rfl) (by kernel_rfl) (by kernel_rfl) rfl hS (v_move rfl) ?_
  refine d_take 1 rfl rfl (by kernel_rfl) (by kernel_rfl) (by kernel_rfl) rfl hS (v_nilCheck rfl) ?_
  refine d_take 2 rfl rfl (by kernel_rfl) (by kernel_rfl) (by kernel_rfl) rfl hS (v_fieldAddr rfl Tryz.underlying139 rfl Tryz.sizeOf47 rfl (by first | exact Nat.zero_add _ | rfl)) ?_
  refine d_take 3 rfl rfl (by kernel_rfl) (by kernel_rfl) (by kernel_rfl) rfl hS (v_move rfl) ?_
  refine d_take 4 rfl rfl (by kernel_rfl) (by kernel_rfl) (by kernel_rfl) rfl hS (v_nilCheck rfl) ?_
  refine d_take 5 rfl rfl (by kernel_rfl) (by kernel_rfl) (by kernel_rfl) rfl hS (v_fieldAddr rfl Tryz.underlying139 rfl Tryz.sizeOf47 rfl (by first | exact Nat.zero_add _ | rfl)) ?_
  refine d_take 6 rfl rfl (by kernel_rfl) (by kernel_rfl) (by kernel_rfl) rfl hS (v_move rfl) ?_
  refine d_take 7 rfl rfl (by kernel_rfl) (by kernel_rfl) (by kernel_rfl) rfl hS (v_nilCheck rfl) ?_
  refine d_take 8 rfl rfl (by kernel_rfl) (by kernel_rfl) (by kernel_rfl) rfl hS (v_fieldAddr rfl Tryz.underlying139 rfl Tryz.sizeOf47 rfl (by first | exact Nat.zero_add _ | rfl)) ?_
  refine d_take 9 rfl rfl (by kernel_rfl) (by kernel_rfl) (by kernel_rfl) rfl hS (v_move rfl) ?_
  refine d_take 10 rfl rfl (by kernel_rfl) (by kernel_rfl) (by kernel_rfl) rfl hS (v_nilCheck rfl) ?_
  refine d_take 11 rfl rfl (by kernel_rfl) (by kernel_rfl) (by kernel_rfl) rfl hS (v_fieldAddr rfl Tryz.underlying139 rfl Tryz.sizeOf47 rfl (by first | exact Nat.zero_add _ | rfl)) ?_
  refine d_take 12 rfl rfl (by kernel_rfl) (by kernel_rfl) (by kernel_rfl) rfl hS (v_buildArr Tryz.underlying224 Tryz.sizeOf223 Tryz.zeroValue224 rfl rfl rfl rfl) ?_
  refine d_one 13 (by kernel_rfl) rfl rfl (d_storeAll Tryz.sizeOf224 rfl rfl rfl rfl rfl) rfl ?_; clear hS
  rintro _ _ rfl
  refine ⟨sc_end, fun hS => ?_⟩
  refine d_done (by kernel_rfl) ?_; clear hS
  refine n_then (x_ret (x_done (.inl rfl) (.cons (r_all Tryz.isAgg224 Tryz.sizeOf224 rfl rfl) .nil) ?_))
  exact ⟨_, ⟨rfl, rfl⟩, inferInstance⟩
theorem dsGet_spec (W0 : World) (R : List HP) (a : Option Addr) (c : Nat) (l : List Nat) (hs : SlA (OwnP W0 R) a 1 (fun x => [bV x]) l) (hb : By l) (hcap : l.length ≤ c) (hl : l.length ≤ 1000000) :
    Spec Tryz.prog W0 256 [.slice a l.length c] R (fun v B => v = .tuple #[.agg (dsV (if l.length = 16 then dsOf l else zD)).toArray, .int .i64 (if l.length = 16 then 0 else 6)] ∧ B = R) := by
  refine spec_body Tryz.func256 Tryz.ntmps256 rfl rfl ?_
  refine x_seq (x_region (s_do rfl (d_allocA Tryz.zeroValue139) ?_))
  rintro _ _ ⟨b1, rfl, rfl⟩
  refine s_val rfl (v_assign rfl) (x_nil (n_then (x_seq (x_seq (x_region (s_val rfl (v_move rfl) (s_val rfl (v_len_slice Tryz.underlying44 rfl) (s_val rfl (v_neq rfl rfl) (x_nil (n_then ?_))))))))))
  refine x_if rfl ?_ ?_
  · intro c1
    refine x_seq (x_region (s_val rfl (v_build Tryz.underlying139 Tryz.zeroValue139 (sized_cons Tryz.sizeOf47 (sized_cons Tryz.sizeOf47 (sized_cons Tryz.sizeOf47 (sized_cons Tryz.sizeOf47 sized_nil)))) fil_nil) ?_))
    refine s_do0 (d_storeAll Tryz.sizeOf139 rfl rfl rfl rfl rfl) ?_
    rintro _ _ rfl
    refine s_val rfl (v_assign rfl) (x_nil (n_then (x_ret (r_then (x_done (.inl rfl) (.cons (r_all Tryz.isAgg139 Tryz.sizeOf139 rfl rfl) (.cons (r_tmp rfl) .nil)) ?_)))))
    refine ⟨_, ⟨?_, rfl⟩, inferInstance⟩
    have h16 : ¬ l.length = 16 := by omega
    simp [pack, h16, zD]
  · intro c1
    have h16 : l.length = 16 := by omega
    refine x_skip (n_then (x_seq (x_region (s_do rfl (d_allocA Tryz.zeroValue139) ?_))))
    rintro _ _ ⟨b2, rfl, rfl⟩
    refine x_nil (n_then (x_seq (x_region (s_do rfl (d_call Tryz.call137 rfl (dsFields_spec W0 _ b2)) ?_))))
    rintro _ B_ ⟨rfl, hB_⟩
    obtain rfl := hB_.symm
    refine s_do rfl (d_allocA Tryz.zeroValue224) ?_
    rintro _ _ ⟨b3, rfl, rfl⟩
    refine s_do0 (d_storeAll Tryz.sizeOf224 rfl rfl rfl rfl rfl) ?_
    rintro _ _ rfl
    refine x_nil (n_then (x_seq (x_seq (x_region (s_val rfl (v_move rfl) (s_do rfl (d_call Tryz.call212 rfl (octWords_spec W0 _ a c l (SlA.weak hs) hb hcap hl)) ?_))))))
    rintro _ B_ ⟨a', c', rfl, hB_⟩
    obtain rfl := hB_.symm
    rw [show l.length / 4 = 4 by rw [h16]]
    refine run_form (E := 47) (sz := 1) (a := a') (c := c') (n := 4) (fun hf => ?_)
    obtain ⟨g, rfl⟩ := form_some hf (by simp [wordsV])
    refine run_pt (b := b2) (o' := cob (outV (fun j => wV (wdAt l j)) (wV 0) 4 0) 139) rfl ?_
    refine run_pt (b := b1) (o' := cob (dsV zD) 139) rfl ?_
    refine s_val rfl (v_len_slice Tryz.underlying45 rfl) (s_val rfl (v_move rfl) (x_nil (n_then (x_block ?_))))
    refine x_loop (fun i : Nat => i ≤ 4) (fun i => [(2, .pointer (some ⟨b1, 0, none⟩)), (4, .pointer (some ⟨b2, 0, none⟩)), (5, .pointer (some ⟨b3, 0, none⟩)), (14, .slice (some ⟨g, 0, none⟩) 4 c'), (15, .int .i64 4), (16, .int .i64 i)]) (fun i => pt b2 (cob (outV (fun j => wV (wdAt l j)) (wV 0) 4 i) 139) :: osl 47 1 (.slice (some ⟨g, 0, none⟩) 4 c') (wordsV l 4) :: pt b3 (cob ((List.range 4).map (ptV b2)) 224) :: pt b1 (cob (dsV zD) 139) :: R) (fun i => 4 - i) 0 ?_ ?_ ?_ ?_
    · exact Nat.zero_le _
    · repeat (first | exact sub_nil | refine sub_cons rfl ?_)
    · exact inferInstance
    · intro i hi
      refine x_seq (x_region (s_val rfl (v_lss rfl rfl) (x_nil (n_then (x_seq ?_)))))
      refine x_if rfl ?_ ?_
      · intro c6
        refine x_skip (n_then (x_seq (x_block (x_seq (x_region (s_val rfl (v_move rfl) ?_))))))
        refine s_val rfl (v_idx Tryz.underlying45 Tryz.sizeOf47 rfl rfl rfl (by omega) (by first | exact Nat.zero_add _ | rfl)) ?_
        refine s_val rfl (v_load Tryz.isAgg47 rfl (cell_osl (E := 47) (sz := 1) (n := 4) (c := c') (range_get1 (by omega)))) ?_
        refine s_val rfl (v_assign rfl) (s_val rfl (v_assign rfl) (x_nil (n_then (x_region (s_val rfl (v_move rfl) ?_)))))
        refine s_val rfl (v_idxArr Tryz.underlying224 Tryz.sizeOf223 rfl rfl rfl (by omega) (by first | exact Nat.zero_add _ | rfl)) ?_
        refine s_val rfl (v_load Tryz.isAgg223 rfl (cell_own (range_get1 (by omega)))) ?_
        refine s_val rfl (v_move rfl) (s_val rfl (v_nilCheck rfl) ?_)
        refine s_do0 (d_store Tryz.sizeOf47 rfl rfl rfl (by rw [outV_len]; omega) (outV_set (by omega))) ?_
        rintro _ _ rfl
        refine x_nil (n_block (n_then (x_region ?_)))
        refine s_val rfl (v_add rfl rfl (by first | exact w64 (by omega) | rfl)) ?_
        refine s_val rfl (v_move rfl) (x_nil (n_then ?_))
        refine inv_intro (i + 1) ?_ ?_ ?_ ?_
        · omega
        · omega
        · repeat (first | exact sub_nil | refine sub_cons rfl ?_)
        · exact inferInstance
      · intro c6
        refine x_exit (e_then (e_then (e_block (n_then (x_seq ?_)))))
        obtain rfl : i = 4 := by omega
        rw [outV_full, show (List.range 4).map (fun j => wV (wdAt l j)) = dsV (dsOf l) from rfl]
        refine x_region (s_val rfl (v_loadAll Tryz.isAgg139 Tryz.sizeOf139 rfl rfl) ?_)
        refine s_do0 (d_storeAll Tryz.sizeOf139 rfl rfl rfl rfl rfl) ?_
        rintro _ _ rfl
        refine s_val rfl (v_assign rfl) (x_nil (n_then (x_ret (x_done (.inl rfl) (.cons (r_all Tryz.isAgg139 Tryz.sizeOf139 rfl rfl) (.cons (r_tmp rfl) .nil)) ?_))))
        refine ⟨_, ⟨?_, rfl⟩, inferInstance⟩
        simp [pack, h16]
theorem dsPut_spec (W0 : World) (R : List HP) (d : Dsc) (hd : d.ok) : Spec Tryz.prog W0 69 [.agg (dsV d).toArray] R (fun v B => ∃ a' c', v = .slice a' 16 c' ∧ B = osl 5 1 (.slice a' 16 c') (byV (putD d)) :: R) := by
  refine spec_body Tryz.func69 Tryz.ntmps69 rfl rfl ?_
  refine x_seq (x_region (s_do rfl (d_boxA rfl) ?_))
  rintro _ _ ⟨b1, rfl, rfl⟩
  refine s_val rfl (v_assign rfl) (x_nil (n_then (x_seq (x_region (s_do rfl (d_call Tryz.call137 rfl (dsFields_spec W0 _ b1)) ?_)))))
  rintro _ B_ ⟨rfl, hB_⟩
  obtain rfl := hB_.symm
  refine s_do rfl (d_allocA Tryz.zeroValue224) ?_
  rintro _ _ ⟨b2, rfl, rfl⟩
  refine s_do0 (d_storeAll Tryz.sizeOf224 rfl rfl rfl rfl rfl) ?_
  rintro _ _ rfl
  refine x_nil (n_then (x_seq (x_region (s_do rfl (d_allocA Tryz.zeroValue227) ?_))))
  rintro _ _ ⟨b3, rfl, rfl⟩
  refine x_nil (n_then (x_seq (x_seq ?_)))
  refine run_pt (b := b3) (o' := cob (outV (fun j => wV (dsW d j)) (wV 0) 4 0) 227) rfl ?_
  refine x_region (s_val rfl (v_move rfl) (x_nil (n_then (x_block ?_))))
  refine x_loop (fun i : Nat => i ≤ 4) (fun i => [(1, .pointer (some ⟨b1, 0, none⟩)), (3, .pointer (some ⟨b2, 0, none⟩)), (4, .pointer (some ⟨b3, 0, none⟩)), (7, .int .i64 i)]) (fun i => pt b3 (cob (outV (fun j => wV (dsW d j)) (wV 0) 4 i) 227) :: pt b2 (cob ((List.range 4).map (ptV b1)) 224) :: pt b1 (cob ((List.range 4).map fun j => wV (dsW d j)) 139) :: R) (fun i => 4 - i) 0 ?_ ?_ ?_ ?_
  · exact Nat.zero_le _
  · repeat (first | exact sub_nil | refine sub_cons rfl ?_)
  · rw [← dsV_range]; exact inferInstance
  · intro i hi
    refine x_seq (x_region (s_val rfl (v_lss rfl rfl) (x_nil (n_then (x_seq ?_)))))
    refine x_if rfl ?_ ?_
    · intro c4
      refine x_skip (n_then (x_seq (x_block (x_seq (x_region (s_val rfl (v_move rfl) (s_val rfl (v_assign rfl) (x_nil (n_then (x_region (s_val rfl (v_move rfl) (s_val rfl (v_move rfl) ?_))))))))))))
      refine s_val rfl (v_idxArr Tryz.underlying224 Tryz.sizeOf223 rfl rfl rfl (by omega) (by first | exact Nat.zero_add _ | rfl)) ?_
      refine s_val rfl (v_load Tryz.isAgg223 rfl (cell_own (range_get1 (by omega)))) ?_
      refine s_val rfl (v_nilCheck rfl) ?_
      refine s_val rfl (v_load Tryz.isAgg47 rfl (cell_own (range_get (by omega)))) ?_
      refine s_val rfl (v_idxArr Tryz.underlying227 Tryz.sizeOf47 rfl rfl rfl (by omega) (by first | exact Nat.zero_add _ | rfl)) ?_
      refine s_do0 (d_store Tryz.sizeOf47 rfl rfl rfl (by rw [outV_len]; omega) (outV_set1 (by omega))) ?_
      rintro _ _ rfl
      refine x_nil (n_block (n_then (x_region ?_)))
      refine s_val rfl (v_add rfl rfl (by first | exact w64 (by omega) | rfl)) ?_
      refine s_val rfl (v_move rfl) (x_nil (n_then ?_))
      refine inv_intro (i + 1) ?_ ?_ ?_ ?_
      · omega
      · omega
      · repeat (first | exact sub_nil | refine sub_cons rfl ?_)
      · exact inferInstance
    · intro c4
      refine x_exit (e_then (e_then (e_block (n_then (x_seq ?_)))))
      obtain rfl : i = 4 := by omega
      rw [outV_full]
      refine x_region (s_val rfl (v_sliceArr Tryz.underlying227 Tryz.sizeOf47 rfl) ?_)
      refine s_do rfl (d_call Tryz.call138 rfl (octBytes_spec W0 _ _ _ (dsWs d) (sla_pt (fun _ => rfl) rfl) (dsWs_lt hd) (by simp [dsWs]))) ?_
      rintro _ B_ ⟨a', c', rfl, hB_⟩
      obtain rfl := hB_.symm
      refine s_val rfl (v_assign rfl) (x_nil (n_then (x_ret (x_done (.inl rfl) (.cons (r_tmp rfl) .nil) ?_))))
      exact ⟨_, ⟨a', c', rfl, rfl⟩, (inferInstance : Ent (osl 5 1 (.slice a' 16 c') (byV (putD d)) :: _) _)⟩
def chkC (d : Dsc) (n : Nat) : Int := if 4 ≤ d.flags then 3 else if 64 < d.len then 4 else if d.flags % 2 = 1 ∧ n ≤ d.next then 1 else 0
theorem andNot3 {f : Nat} (h : f < 4294967296) : bAndNot .u32 (f : Int) 3 = ((f - f % 4 : Nat) : Int) := by
  have := bAndNot_u32 (a := f) (b := 3) h (by decide)
  rw [show f &&& 3 = f % 4 from and_low (a := f) (n := 2)] at this
  exact this
theorem and1 {f : Nat} (h : f < 4294967296) : bAnd .u32 (f : Int) 1 = ((f % 2 : Nat) : Int) := by
  have := bAnd_u32 (a := f) (b := 1) h (by decide)
  rw [show f &&& 1 = f % 2 from and_low (a := f) (n := 1)] at this
  exact this
theorem and2 {f : Nat} (h : f < 4294967296) : bAnd .u32 (f : Int) 2 = ((f / 2 % 2 * 2 : Nat) : Int) := by
  have := bAnd_u32 (a := f) (b := 2) h (by decide)
  refine Eq.trans this ?_
  have e : f &&& 2 = f / 2 % 2 * 2 := by
    apply Nat.eq_of_testBit_eq
    intro i
    rw [Nat.testBit_and]
    have h2 : ∀ i, Nat.testBit 2 i = decide (i = 1) := fun i => by
      rw [show (2 : Nat) = 2 ^ 1 from rfl, Nat.testBit_two_pow]; simp [eq_comm]
    rw [h2]
    by_cases hi : i = 1
    · subst hi
      rw [Nat.mul_comm, ← Nat.pow_one 2, Nat.testBit_two_pow_mul]
      simp [Nat.testBit_eq_decide_div_mod_eq]
    · rw [Nat.mul_comm, ← Nat.pow_one 2, Nat.testBit_two_pow_mul]
      simp only [hi, decide_false, Bool.and_false]
      rcases Nat.eq_zero_or_pos i with rfl | hp
      · simp
      · have : 1 ≤ i - 1 := by omega
        have hlt : f / 2 ^ 1 % 2 ^ 1 < 2 ^ (i - 1) := Nat.lt_of_lt_of_le (Nat.mod_lt _ (by decide)) (Nat.pow_le_pow_right (by decide) this)
        simp [Nat.testBit_lt_two_pow hlt]
  rw [e]
theorem dsCheck_spec (W0 : World) (R : List HP) (d : Dsc) (hd : d.ok) (n : Nat) (hn : n < 9223372036854775808) : Spec Tryz.prog W0 255 [.agg (dsV d).toArray, .int .i64 n] R (fun v B => v = .int .i64 (chkC d n) ∧ B = R) := by
  have h1 := hd.flags
  have h2 := hd.next
  refine spec_body Tryz.func255 Tryz.ntmps255 rfl rfl ?_
  refine x_seq (x_region (s_do rfl (d_boxA rfl) ?_))
  rintro _ _ ⟨b1, rfl, rfl⟩
  refine s_val rfl (v_assign rfl) (x_nil (n_then (x_seq (x_block (x_seq (x_region ?_))))))
  refine s_val rfl (v_fieldAddr rfl Tryz.underlying139 rfl Tryz.sizeOf47 rfl (by first | exact Nat.zero_add _ | rfl)) ?_
  refine s_val rfl (v_load Tryz.isAgg47 rfl (cell_own rfl)) ?_
  refine s_val rfl (v_andNot rfl rfl (andNot3 h1)) ?_
  refine s_val rfl (v_neq rfl rfl) (s_val rfl (v_assign rfl) (x_nil (n_then ?_)))
  refine x_if rfl ?_ ?_
  · intro c1
    refine x_seq (x_region (s_val rfl (v_assign rfl) (x_nil (n_then (x_ret (r_block (r_then (x_done (.inl rfl) (.cons (r_tmp rfl) .nil) ?_))))))))
    refine ⟨_, ⟨?_, rfl⟩, inferInstance⟩
    simp only [pack, chkC]; rw [if_pos (by omega)]
  · intro c1
    refine x_seq (x_region ?_)
    refine s_val rfl (v_fieldAddr rfl Tryz.underlying139 rfl Tryz.sizeOf47 rfl (by first | exact Nat.zero_add _ | rfl)) ?_
    refine s_val rfl (v_load Tryz.isAgg47 rfl (cell_own rfl)) ?_
    refine s_val rfl (v_gtr rfl rfl) (s_val rfl (v_assign rfl) (x_nil (n_then ?_)))
    refine x_if rfl ?_ ?_
    · intro c3
      refine x_seq (x_region (s_val rfl (v_assign rfl) (x_nil (n_then (x_ret (r_block (r_then (x_done (.inl rfl) (.cons (r_tmp rfl) .nil) ?_))))))))
      refine ⟨_, ⟨?_, rfl⟩, inferInstance⟩
      simp only [pack, chkC]; rw [if_neg (by omega), if_pos (by omega)]
    · intro c3
      refine x_seq (x_region ?_)
      refine s_val rfl (v_fieldAddr rfl Tryz.underlying139 rfl Tryz.sizeOf47 rfl (by first | exact Nat.zero_add _ | rfl)) ?_
      refine s_val rfl (v_load Tryz.isAgg47 rfl (cell_own rfl)) ?_
      refine s_val rfl (v_and rfl rfl (and1 h1)) ?_
      refine s_val rfl (v_neq rfl rfl) (s_val rfl (v_move rfl) ?_)
      refine s_and rfl rfl rfl ?_ ?_
      · intro g5_5
        refine s_val rfl (v_fieldAddr rfl Tryz.underlying139 rfl Tryz.sizeOf47 rfl (by first | exact Nat.zero_add _ | rfl)) ?_
        refine s_yes rfl rfl (s_val rfl (v_load Tryz.isAgg47 rfl (cell_own rfl)) ?_)
        refine s_yes rfl rfl ?_
        refine s_val rfl (v_conv Tryz.underlying47 Tryz.underlying2 rfl (w64 (by omega))) ?_
        refine s_yes rfl rfl (s_val rfl (v_move rfl) (s_yes rfl rfl (s_val rfl (v_geq rfl rfl) (s_val rfl (v_pick_t rfl rfl) (s_val rfl (v_assign rfl) (x_nil (n_then ?_)))))))
        refine x_if rfl ?_ ?_
        · intro c5
          refine x_seq (x_region (s_val rfl (v_assign rfl) (x_nil (n_then (x_ret (r_block (r_then (x_done (.inl rfl) (.cons (r_tmp rfl) .nil) ?_))))))))
          refine ⟨_, ⟨?_, rfl⟩, inferInstance⟩
          simp only [pack, chkC]; rw [if_neg (by omega), if_neg (by omega), if_pos (by omega)]
        · intro c5
          refine x_skip (n_block (n_then (x_seq (x_region (s_val rfl (v_assign rfl) (x_nil (n_then (x_ret (x_done (.inl rfl) (.cons (r_tmp rfl) .nil) ?_)))))))))
          refine ⟨_, ⟨?_, rfl⟩, inferInstance⟩
          simp only [pack, chkC]; rw [if_neg (by omega), if_neg (by omega), if_neg (by omega)]
      · intro g5_5
        refine s_no rfl rfl rfl rfl (s_no rfl rfl rfl rfl (s_no rfl rfl rfl rfl (s_no rfl rfl rfl rfl (s_val rfl (v_pick_f rfl rfl) (s_val rfl (v_assign rfl) (x_nil (n_then (x_iff rfl (x_skip (n_block (n_then (x_seq (x_region (s_val rfl (v_assign rfl) (x_nil (n_then (x_ret (x_done (.inl rfl) (.cons (r_tmp rfl) .nil) ?_))))))))))))))))))
        refine ⟨_, ⟨?_, rfl⟩, inferInstance⟩
        simp only [pack, chkC]; rw [if_neg (by omega), if_neg (by omega), if_neg (by omega)]
def szd (n : Int) : Bool := decide (n = 2 ∨ n = 4 ∨ n = 8)
theorem dsSized_spec (W0 : World) (R : List HP) (n : Int) : Spec Tryz.prog W0 237 [.int .i64 n] R (fun v B => v = .bool (szd n) ∧ B = R) := by
  refine spec_body Tryz.func237 Tryz.ntmps237 rfl rfl ?_
  refine x_seq (x_region (s_val rfl (v_assign rfl) (x_nil (n_then (x_seq (x_seq (x_region (s_val rfl (v_move rfl) (x_nil (n_then (x_block (x_seq (x_seq (x_region (s_val rfl (v_eql rfl rfl) (s_val rfl (v_assign rfl) (x_nil (n_then ?_))))))))))))))))))
  refine x_if rfl ?_ ?_
  · intro c2
    refine x_skip (n_then (x_ift rfl (x_seq (x_region (s_val rfl (v_assign rfl) (x_nil (n_then (x_ret (r_block (r_then (x_done (.inl rfl) (.cons (r_tmp rfl) .nil) ?_)))))))))))
    refine ⟨_, ⟨?_, rfl⟩, inferInstance⟩
    refine congrArg Value.bool (Eq.symm (decide_eq_true ?_)); omega
  · intro c2
    refine x_seq (x_region (s_val rfl (v_eql rfl rfl) (s_val rfl (v_assign rfl) (x_nil (n_then ?_)))))
    refine x_if rfl ?_ ?_
    · intro c3
      refine x_skip (n_then (x_ift rfl (x_seq (x_region (s_val rfl (v_assign rfl) (x_nil (n_then (x_ret (r_block (r_then (x_done (.inl rfl) (.cons (r_tmp rfl) .nil) ?_)))))))))))
      refine ⟨_, ⟨?_, rfl⟩, inferInstance⟩
      refine congrArg Value.bool (Eq.symm (decide_eq_true ?_)); omega
    · intro c3
      refine x_region (s_val rfl (v_eql rfl rfl) (s_val rfl (v_assign rfl) (x_nil (n_then ?_))))
      refine x_if rfl ?_ ?_
      · intro c4
        refine x_seq (x_region (s_val rfl (v_assign rfl) (x_nil (n_then (x_ret (r_block (r_then (x_done (.inl rfl) (.cons (r_tmp rfl) .nil) ?_))))))))
        refine ⟨_, ⟨?_, rfl⟩, inferInstance⟩
        refine congrArg Value.bool (Eq.symm (decide_eq_true ?_)); omega
      · intro c4
        refine x_skip (n_block (n_then (x_seq (x_region (s_val rfl (v_assign rfl) (x_nil (n_then (x_ret (x_done (.inl rfl) (.cons (r_tmp rfl) .nil) ?_)))))))))
        refine ⟨_, ⟨?_, rfl⟩, inferInstance⟩
        refine congrArg Value.bool (Eq.symm (decide_eq_false ?_)); omega
structure Rg3 where
  desc : Nat
  avail : Nat
  used : Nat
  n : Int
@[reducible] def rgV (r : Rg3) : List Value := [.int .u32 r.desc, .int .u32 r.avail, .int .u32 r.used, .int .i64 r.n]
structure Rg3.ok (r : Rg3) : Prop where
  desc : r.desc < 4294967296
  avail : r.avail < 4294967296
  used : r.used < 4294967296
def rgtB (r : Rg3) : Bool := decide (r.desc % 4 = 0 ∧ r.avail % 4 = 0 ∧ r.used % 4 = 0) && szd r.n
def rgAt (r : Rg3) (i : Nat) : Nat := [r.desc, r.avail, r.used].getD i 0
theorem dsRight_spec (W0 : World) (R : List HP) (r : Rg3) : Spec Tryz.prog W0 199 [.agg (rgV r).toArray] R (fun v B => v = .bool (rgtB r) ∧ B = R) := by
  refine spec_body Tryz.func199 Tryz.ntmps199 rfl rfl ?_
  refine x_seq (x_region (s_do rfl (d_boxA rfl) ?_))
  rintro _ _ ⟨b1, rfl, rfl⟩
  refine s_val rfl (v_assign rfl) (x_nil (n_then (x_seq (x_seq (x_region ?_)))))
  refine s_val rfl (v_fieldAddr rfl Tryz.underlying71 rfl Tryz.sizeOf47 rfl (by first | exact Nat.zero_add _ | rfl)) ?_
  refine s_val rfl (v_load Tryz.isAgg47 rfl (cell_own rfl)) ?_
  refine s_val rfl (v_fieldAddr rfl Tryz.underlying71 rfl Tryz.sizeOf47 rfl (by first | exact Nat.zero_add _ | rfl)) ?_
  refine s_val rfl (v_load Tryz.isAgg47 rfl (cell_own rfl)) ?_
  refine s_val rfl (v_fieldAddr rfl Tryz.underlying71 rfl Tryz.sizeOf47 rfl (by first | exact Nat.zero_add _ | rfl)) ?_
  refine s_val rfl (v_load Tryz.isAgg47 rfl (cell_own rfl)) ?_
  refine s_val rfl (v_buildArr Tryz.underlying288 Tryz.sizeOf47 Tryz.zeroValue288 rfl rfl rfl rfl) ?_
  refine s_val rfl (v_move rfl) (x_nil (n_then (x_block ?_)))
  refine x_loop (fun i : Nat => i ≤ 3 ∧ ∀ j, j < i → rgAt r j % 4 = 0) (fun i => [(1, .pointer (some ⟨b1, 0, none⟩)), (11, .agg ((List.range 3).map fun j => wV (rgAt r j)).toArray), (12, .int .i64 i)]) (fun i => pt b1 (cob (rgV r) 71) :: R) (fun i => 3 - i) 0 ?_ ?_ ?_ ?_
  · exact ⟨Nat.zero_le _, fun j hj => by omega⟩
  · repeat (first | exact sub_nil | refine sub_cons rfl ?_)
  · exact inferInstance
  · intro i ⟨hi, hI⟩
    refine x_seq (x_region (s_val rfl (v_lss rfl rfl) (x_nil (n_then (x_seq ?_)))))
    refine x_if rfl ?_ ?_
    · intro c2
      refine x_skip (n_then (x_seq (x_block (x_seq (x_region ?_)))))
      refine s_val rfl (v_index Tryz.underlying288 Tryz.sizeOf47 Tryz.isAgg47 rfl rfl rfl (by omega) (range_get (by omega))) ?_
      refine s_val rfl (v_assign rfl) (x_nil (n_then (x_seq (x_region (s_val rfl (v_move rfl) ?_)))))
      refine s_val rfl (v_rem rfl rfl (by decide) (tmodN (rgAt r i) 4)) ?_
      refine s_val rfl (v_neq rfl rfl) (x_nil (n_then ?_))
      refine x_if rfl ?_ ?_
      · intro c4
        refine x_seq (x_region (s_val rfl (v_assign rfl) (x_nil (n_then (x_ret (r_block (r_then (r_then (r_block (r_then (x_done (.inl rfl) (.cons (r_tmp rfl) .nil) ?_)))))))))))
        refine ⟨_, ⟨?_, rfl⟩, inferInstance⟩
        refine congrArg Value.bool (Eq.symm ?_)
        rw [rgtB, decide_eq_false, Bool.false_and]
        have h3 : i = 0 ∨ i = 1 ∨ i = 2 := by omega
        rcases h3 with rfl | rfl | rfl <;> simp [rgAt] at c4 <;> omega
      · intro c4
        refine x_skip (n_block (n_then (x_region ?_)))
        refine s_val rfl (v_add rfl rfl (by first | exact w64 (by omega) | rfl)) ?_
        refine s_val rfl (v_move rfl) (x_nil (n_then ?_))
        refine inv_intro (i + 1) ?_ ?_ ?_ ?_
        · exact ⟨by omega, fun j hj => by
            rcases Nat.lt_or_ge j i with q | q
            · exact hI j q
            · rw [show j = i by omega]; omega⟩
        · omega
        · repeat (first | exact sub_nil | refine sub_cons rfl ?_)
        · exact inferInstance
    · intro c2
      refine x_exit (e_then (e_then (e_block (n_then (x_seq (x_region ?_))))))
      refine s_val rfl (v_fieldAddr rfl Tryz.underlying71 rfl Tryz.sizeOf3 rfl (by first | exact Nat.zero_add _ | rfl)) ?_
      refine s_val rfl (v_load Tryz.isAgg3 rfl (cell_own rfl)) ?_
      refine s_do rfl (d_call Tryz.call237 rfl (dsSized_spec W0 _ r.n)) ?_
      rintro _ B_ ⟨rfl, hB_⟩
      obtain rfl := hB_.symm
      refine s_val rfl (v_assign rfl) (x_nil (n_then (x_ret (x_done (.inl rfl) (.cons (r_tmp rfl) .nil) ?_))))
      refine ⟨_, ⟨?_, rfl⟩, inferInstance⟩
      obtain rfl : i = 3 := by omega
      have e0 := hI 0 (by omega)
      have e1 := hI 1 (by omega)
      have e2 := hI 2 (by omega)
      simp [rgAt] at e0 e1 e2
      simp [pack, rgtB, e0, e1, e2]
end Go.Proofs.YtncegikenkpcmaaGreat
namespace Go.Proofs.YtncegikenkpcmaaGreat
open Go.RowKit
set_option linter.unusedSimpArgs false
set_option linter.unusedVariables false
set_option maxRecDepth 20000
def wrB (d : Dsc) : Bool := decide (d.flags / 2 % 2 = 1)
def goB (d : Dsc) : Bool := decide (d.flags % 2 = 1)
theorem chWrites_spec (W0 : World) (R : List HP) (d : Dsc) (hd : d.ok) : Spec Tryz.prog W0 247 [.agg (dsV d).toArray] R (fun v B => v = .bool (wrB d) ∧ B = R) := by
  refine spec_body Tryz.func247 Tryz.ntmps247 rfl rfl ?_
  refine x_seq (x_region (s_do rfl (d_boxA rfl) ?_))
  rintro _ _ ⟨b1, rfl, rfl⟩
  refine s_val rfl (v_assign rfl) (x_nil (n_then (x_seq (x_region ?_))))
  refine s_val rfl (v_fieldAddr rfl Tryz.underlying139 rfl Tryz.sizeOf47 rfl (by first | exact Nat.zero_add _ | rfl)) ?_
  refine s_val rfl (v_load Tryz.isAgg47 rfl (cell_own rfl)) ?_
  refine s_val rfl (v_and rfl rfl (and2 hd.flags)) ?_
  refine s_val rfl (v_neq rfl rfl) (s_val rfl (v_assign rfl) (x_nil (n_then (x_ret (x_done (.inl rfl) (.cons (r_tmp rfl) .nil) ?_)))))
  refine ⟨_, ⟨?_, rfl⟩, inferInstance⟩
  refine congrArg Value.bool ?_
  rw [Bool.eq_iff_iff, bne_iff_ne, wrB, decide_eq_true_iff]; omega
theorem chGoes_spec (W0 : World) (R : List HP) (d : Dsc) (hd : d.ok) : Spec Tryz.prog W0 246 [.agg (dsV d).toArray] R (fun v B => v = .bool (goB d) ∧ B = R) := by
  refine spec_body Tryz.func246 Tryz.ntmps246 rfl rfl ?_
  refine x_seq (x_region (s_do rfl (d_boxA rfl) ?_))
  rintro _ _ ⟨b1, rfl, rfl⟩
  refine s_val rfl (v_assign rfl) (x_nil (n_then (x_seq (x_region ?_))))
  refine s_val rfl (v_fieldAddr rfl Tryz.underlying139 rfl Tryz.sizeOf47 rfl (by first | exact Nat.zero_add _ | rfl)) ?_
  refine s_val rfl (v_load Tryz.isAgg47 rfl (cell_own rfl)) ?_
  refine s_val rfl (v_and rfl rfl (and1 hd.flags)) ?_
  refine s_val rfl (v_neq rfl rfl) (s_val rfl (v_assign rfl) (x_nil (n_then (x_ret (x_done (.inl rfl) (.cons (r_tmp rfl) .nil) ?_)))))
  refine ⟨_, ⟨?_, rfl⟩, inferInstance⟩
  refine congrArg Value.bool ?_
  rw [Bool.eq_iff_iff, bne_iff_ne, goB, decide_eq_true_iff]; omega
abbrev wkO (pv : Nat) (r : Rg3) (wr : Bool) : Obj := cob [.pointer (some ⟨pv, 0, none⟩), .int .u32 r.desc, .int .u32 r.avail, .int .u32 r.used, .int .i64 r.n, .bool wr] 299
abbrev vw (pv ps pm d : Nat) (fr : List Frm) (pg : List Pl) (R : List HP) : List HP := pt pv (viO ps pm d) :: stoH ps fr :: pt pm (gmO pg) :: R
def dsPa (r : Rg3) (at_ : Nat) : Nat := (r.desc + 16 * at_) % 4294967296
theorem dsPa_lt (r : Rg3) (at_ : Nat) : dsPa r at_ < 4294967296 := Nat.mod_lt _ (by decide)
def dsAt (fr : List Frm) (pg : List Pl) (r : Rg3) (at_ : Nat) : Dsc := if ownB fr.length pg (dsPa r at_) 16 then dsOf (rdL fr pg (dsPa r at_) 16) else zD
theorem zD_ok : zD.ok := ⟨by decide, by decide, by decide, by decide⟩
theorem dsAt_ok {fr : List Frm} (hF : Frs fr) (pg : List Pl) (r : Rg3) (at_ : Nat) : (dsAt fr pg r at_).ok := by
  unfold dsAt; split
  · exact dsOf_ok (rdL_by hF _ _ _)
  · exact zD_ok
theorem chRead_spec (W0 : World) (R : List HP) (bw pv ps pm d : Nat) (fr : List Frm) (pg : List Pl) (h : Pgs pg) (hF : Frs fr) (r : Rg3) (hr : r.ok) (wr : Bool) (at_ : Nat) (hat : at_ < 100) :
    Spec Tryz.prog W0 254 [.pointer (some ⟨bw, 0, none⟩), .int .i64 at_] (pt bw (wkO pv r wr) :: vw pv ps pm d fr pg R)
      (fun v B => v = .tuple #[.agg (dsV (dsAt fr pg r at_)).toArray, .bool (ownB fr.length pg (dsPa r at_) 16)] ∧ B = pt bw (wkO pv r wr) :: vw pv ps pm d fr pg R) := by
  have hd := hr.desc
  refine spec_body Tryz.func254 Tryz.ntmps254 rfl rfl ?_
  refine x_seq (x_region (s_do rfl (d_allocA Tryz.zeroValue139) ?_))
  rintro _ _ ⟨b1, rfl, rfl⟩
  refine s_val rfl (v_assign rfl) (x_nil (n_then (x_seq ?_)))
  refine x_draw [(bw, 0, _)] 19 mixed rfl (sc_own sc_end) (fun hS => ?_)
  refine d_take 0 rfl rfl (by kernel_rfl) (by kernel_rfl) (by kernel_rfl) rfl hS (v_move rfl) ?_
  refine d_take 1 rfl rfl (by kernel_rfl) (by kernel_rfl) (by kernel_rfl) rfl hS (v_nilCheck rfl) ?_
  refine d_take 2 rfl rfl (by kernel_rfl) (by kernel_rfl) (by kernel_rfl) rfl hS (v_fieldAddr rfl Tryz.underlying299 rfl Tryz.sizeOf51 rfl (by first | exact Nat.zero_add _ | rfl)) ?_
  refine d_take 3 rfl rfl (by kernel_rfl) (by kernel_rfl) (by kernel_rfl) rfl hS (v_load Tryz.isAgg51 rfl (cell_sc0 (k := 0) rfl rfl)) ?_
  refine d_take 4 rfl rfl (by kernel_rfl) (by kernel_rfl) (by kernel_rfl) rfl hS (v_move rfl) ?_
  refine d_take 5 rfl rfl (by kernel_rfl) (by kernel_rfl) (by kernel_rfl) rfl hS (v_nilCheck rfl) ?_
  refine d_take 6 rfl rfl (by kernel_rfl) (by kernel_rfl) (by kernel_rfl) rfl hS (v_fieldAddr rfl Tryz.underlying299 rfl Tryz.sizeOf71 rfl (by first | exact Nat.zero_add _ | rfl)) ?_
  refine d_take 7 rfl rfl (by kernel_rfl) (by kernel_rfl) (by kernel_rfl) rfl hS (v_fieldAddr rfl Tryz.underlying71 rfl Tryz.sizeOf47 rfl (by first | exact Nat.zero_add _ | rfl)) ?_
  refine d_take 8 rfl rfl (by kernel_rfl) (by kernel_rfl) (by kernel_rfl) rfl hS (v_load Tryz.isAgg47 rfl (cell_sc0 (k := 0) rfl rfl)) ?_
  refine d_take 9 rfl rfl (by kernel_rfl) (by kernel_rfl) (by kernel_rfl) rfl hS (v_move rfl) ?_
  refine d_take 10 rfl rfl (by kernel_rfl) (by kernel_rfl) (by kernel_rfl) rfl hS (v_conv Tryz.underlying3 Tryz.underlying47 rfl (w32u (by omega))) ?_
  refine d_take 11 rfl rfl (by kernel_rfl) (by kernel_rfl) (by kernel_rfl) rfl hS (v_mul rfl rfl (by rw [w32u (by omega)]; omega : IntKind.wrap .u32 (16 * (at_ : Int)) = ((16 * at_ : Nat) : Int))) ?_
  refine d_take 12 rfl rfl (by kernel_rfl) (by kernel_rfl) (by kernel_rfl) rfl hS (v_add rfl rfl (wrapN (r.desc + 16 * at_))) ?_
  refine d_one 13 (by kernel_rfl) rfl rfl (d_call3 Tryz.call81 rfl (viRead_spec W0 _ pv ps pm d fr pg h hF (dsPa r at_) (dsPa_lt r at_) 16)) rfl ?_; clear hS
  rintro _ B_ ⟨a, c, rfl, hB_⟩
  obtain rfl := hB_.symm
  refine ⟨(sc_own sc_end), fun hS => ?_⟩
  refine d_take 14 rfl rfl (by kernel_rfl) (by kernel_rfl) (by kernel_rfl) rfl hS (v_move rfl) ?_
  refine d_take 15 rfl rfl (by kernel_rfl) (by kernel_rfl) (by kernel_rfl) rfl hS (v_extract rfl rfl) ?_
  refine d_take 16 rfl rfl (by kernel_rfl) (by kernel_rfl) (by kernel_rfl) rfl hS (v_extract rfl rfl) ?_
  refine d_take 17 rfl rfl (by kernel_rfl) (by kernel_rfl) (by kernel_rfl) rfl hS (v_assign rfl) ?_
  refine d_take 18 rfl rfl (by kernel_rfl) (by kernel_rfl) (by kernel_rfl) rfl hS (v_assign rfl) ?_
  refine d_done (by kernel_rfl) ?_; clear hS
  refine n_then (x_seq (x_seq (x_region (s_val rfl (v_move rfl) (s_val rfl (v_not rfl) (x_nil (n_then ?_)))))))
  refine x_if rfl ?_ ?_
  · intro c2
    have ho : ownB fr.length pg (dsPa r at_) 16 = false := by simpa using c2
    refine x_seq (x_region (s_val rfl (v_build Tryz.underlying139 Tryz.zeroValue139 (sized_cons Tryz.sizeOf47 (sized_cons Tryz.sizeOf47 (sized_cons Tryz.sizeOf47 (sized_cons Tryz.sizeOf47 sized_nil)))) fil_nil) ?_))
    refine s_do0 (d_storeAll Tryz.sizeOf139 rfl rfl rfl rfl rfl) ?_
    rintro _ _ rfl
    refine s_val rfl (v_assign rfl) (x_nil (n_then (x_ret (r_then (x_done (.inl rfl) (.cons (r_all Tryz.isAgg139 Tryz.sizeOf139 rfl rfl) (.cons (r_tmp rfl) .nil)) ?_)))))
    refine ⟨_, ⟨?_, rfl⟩, inferInstance⟩
    simp [pack, dsAt, ho, zD]
  · intro c2
    have ho : ownB fr.length pg (dsPa r at_) 16 = true := Decidable.not_not.1 c2
    have hrd : rdO fr pg (dsPa r at_) 16 = rdL fr pg (dsPa r at_) 16 := by rw [rdO, if_pos ho]; rfl
    have hln : (rdL fr pg (dsPa r at_) 16).length = 16 := rdL_len _ _ _ _
    rw [hrd]
    refine run_sla (E := 5) (sz := 1) (a := a) (c := c) (n := (rdL fr pg (dsPa r at_) 16).length) (fun x => [bV x]) (rdL fr pg (dsPa r at_) 16) (fun _ => rfl) (by decide) (byV_fm _).symm (fun hs1 => ?_)
    refine run_cap (E := 5) (sz := 1) (a := a) (c := c) (n := (rdL fr pg (dsPa r at_) 16).length) (fun hcap => ?_)
    refine x_skip (n_then (x_seq (x_region (s_val rfl (v_move rfl) ?_))))
    refine s_do rfl (d_call Tryz.call256 rfl (dsGet_spec W0 _ a c _ hs1 (rdL_by hF _ _ _) hcap.1 (by rw [hln]; decide))) ?_
    rintro _ B_ ⟨rfl, hB_⟩
    obtain rfl := hB_.symm
    rw [if_pos hln, if_pos hln]
    refine s_val rfl (v_move rfl) (s_val rfl (v_extract rfl rfl) (s_val rfl (v_extract rfl rfl) (s_do rfl (d_allocA Tryz.zeroValue139) ?_)))
    rintro _ _ ⟨b2, rfl, rfl⟩
    refine s_do0 (d_storeAll Tryz.sizeOf139 rfl rfl rfl rfl rfl) ?_
    rintro _ _ rfl
    refine s_val rfl (v_assign rfl) (x_nil (n_then (x_seq (x_region (s_val rfl (v_loadAll Tryz.isAgg139 Tryz.sizeOf139 rfl rfl) ?_)))))
    refine s_val rfl (v_move rfl) (s_val rfl (v_eql rfl rfl) (s_do0 (d_storeAll Tryz.sizeOf139 rfl rfl rfl rfl rfl) ?_))
    rintro _ _ rfl
    refine s_val rfl (v_assign rfl) (x_nil (n_then (x_ret (x_done (.inl rfl) (.cons (r_all Tryz.isAgg139 Tryz.sizeOf139 rfl rfl) (.cons (r_tmp rfl) .nil)) ?_))))
    refine ⟨_, ⟨?_, rfl⟩, inferInstance⟩
    simp [pack, dsAt, ho]
def lk (fr : List Frm) (pg : List Pl) (r : Rg3) (at_ : Int) (n : Nat) (wr : Bool) : Dsc × Int :=
  if at_ < 0 ∨ r.n ≤ at_ then (zD, 1) else if r.n ≤ (n : Int) then (zD, 2) else
  if ownB fr.length pg (dsPa r at_.toNat) 16 = false then (zD, 5) else
  if chkC (dsAt fr pg r at_.toNat) r.n.toNat ≠ 0 then (zD, chkC (dsAt fr pg r at_.toNat) r.n.toNat) else
  if ownB fr.length pg (dsAt fr pg r at_.toNat).addr (dsAt fr pg r at_.toNat).len = false then (zD, 5) else
  if wr = true ∧ wrB (dsAt fr pg r at_.toNat) = false then (zD, 6) else (dsAt fr pg r at_.toNat, 0)
theorem lk_ok {fr : List Frm} (hF : Frs fr) (pg : List Pl) (r : Rg3) (at_ : Int) (n : Nat) (wr : Bool) : (lk fr pg r at_ n wr).1.ok := by
  unfold lk
  repeat' split
  all_goals first | exact zD_ok | exact dsAt_ok hF _ _ _
theorem lk_n {fr : List Frm} {pg : List Pl} {r : Rg3} {at_ : Int} {n : Nat} {wr : Bool} (h : (lk fr pg r at_ n wr).2 = 0) : (n : Int) < r.n := by
  unfold lk at h
  repeat' split at h
  all_goals first | (exfalso; revert h; decide) | omega | skip
  all_goals (exfalso; rename_i q; exact q h)
theorem chLook_spec (W0 : World) (R : List HP) (bw pv ps pm d : Nat) (fr : List Frm) (pg : List Pl) (h : Pgs pg) (hF : Frs fr) (r : Rg3) (hr : r.ok) (hn8 : r.n ≤ 8) (wr : Bool) (at_ : Int) (n : Nat) :
    Spec Tryz.prog W0 245 [.pointer (some ⟨bw, 0, none⟩), .int .i64 at_, .int .i64 n] (pt bw (wkO pv r wr) :: vw pv ps pm d fr pg R)
      (fun v B => v = .tuple #[.agg (dsV (lk fr pg r at_ n wr).1).toArray, .int .i64 (lk fr pg r at_ n wr).2] ∧
        B = pt bw (wkO pv r (if (lk fr pg r at_ n wr).2 = 0 then wrB (lk fr pg r at_ n wr).1 else wr)) :: vw pv ps pm d fr pg R) := by
  refine spec_body Tryz.func245 Tryz.ntmps245 rfl rfl ?_
  refine x_seq (x_region (s_do rfl (d_allocA Tryz.zeroValue139) ?_))
  rintro _ _ ⟨b1, rfl, rfl⟩
  refine s_val rfl (v_assign rfl) (x_nil (n_then (x_seq (x_block (x_seq (x_seq (x_region (s_val rfl (v_move rfl) (s_val rfl (v_lss rfl rfl) (s_val rfl (v_assign rfl) (x_nil (n_then ?_))))))))))))
  refine x_if rfl ?_ ?_
  · intro c1
    refine x_skip (n_then (x_ift rfl (x_seq (x_region (s_val rfl (v_build Tryz.underlying139 Tryz.zeroValue139 (sized_cons Tryz.sizeOf47 (sized_cons Tryz.sizeOf47 (sized_cons Tryz.sizeOf47 (sized_cons Tryz.sizeOf47 sized_nil)))) fil_nil) ?_)))))
    refine s_do0 (d_storeAll Tryz.sizeOf139 rfl rfl rfl rfl rfl) ?_
    rintro _ _ rfl
    refine s_val rfl (v_assign rfl) (x_nil (n_then (x_ret (r_block (r_then (x_done (.inl rfl) (.cons (r_all Tryz.isAgg139 Tryz.sizeOf139 rfl rfl) (.cons (r_tmp rfl) .nil)) ?_))))))
    have hl : lk fr pg r at_ n wr = (zD, 1) := by unfold lk; rw [if_pos (by omega)]
    rw [hl, if_neg (by decide)]
    exact ⟨_, ⟨rfl, rfl⟩, inferInstance⟩
  · intro c1
    refine x_region (s_val rfl (v_move rfl) (s_val rfl (v_move rfl) (s_val rfl (v_nilCheck rfl) ?_)))
    refine s_val rfl (v_fieldAddr rfl Tryz.underlying299 rfl Tryz.sizeOf71 rfl (by first | exact Nat.zero_add _ | rfl)) ?_
    refine s_val rfl (v_fieldAddr rfl Tryz.underlying71 rfl Tryz.sizeOf3 rfl (by first | exact Nat.zero_add _ | rfl)) ?_
    refine s_val rfl (v_load Tryz.isAgg3 rfl (cell_own rfl)) ?_
    refine s_val rfl (v_geq rfl rfl) (s_val rfl (v_assign rfl) (x_nil (n_then ?_)))
    refine x_if rfl ?_ ?_
    · intro c2
      refine x_seq (x_region (s_val rfl (v_build Tryz.underlying139 Tryz.zeroValue139 (sized_cons Tryz.sizeOf47 (sized_cons Tryz.sizeOf47 (sized_cons Tryz.sizeOf47 (sized_cons Tryz.sizeOf47 sized_nil)))) fil_nil) ?_))
      refine s_do0 (d_storeAll Tryz.sizeOf139 rfl rfl rfl rfl rfl) ?_
      rintro _ _ rfl
      refine s_val rfl (v_assign rfl) (x_nil (n_then (x_ret (r_block (r_then (x_done (.inl rfl) (.cons (r_all Tryz.isAgg139 Tryz.sizeOf139 rfl rfl) (.cons (r_tmp rfl) .nil)) ?_))))))
      have hl : lk fr pg r at_ n wr = (zD, 1) := by unfold lk; rw [if_pos (by omega)]
      rw [hl, if_neg (by decide)]
      exact ⟨_, ⟨rfl, rfl⟩, inferInstance⟩
    · intro c2
      refine x_seq (x_region (s_val rfl (v_move rfl) (s_val rfl (v_move rfl) (s_val rfl (v_nilCheck rfl) ?_))))
      refine s_val rfl (v_fieldAddr rfl Tryz.underlying299 rfl Tryz.sizeOf71 rfl (by first | exact Nat.zero_add _ | rfl)) ?_
      refine s_val rfl (v_fieldAddr rfl Tryz.underlying71 rfl Tryz.sizeOf3 rfl (by first | exact Nat.zero_add _ | rfl)) ?_
      refine s_val rfl (v_load Tryz.isAgg3 rfl (cell_own rfl)) ?_
      refine s_val rfl (v_geq rfl rfl) (s_val rfl (v_assign rfl) (x_nil (n_then ?_)))
      refine x_if rfl ?_ ?_
      · intro c4
        refine x_seq (x_region (s_val rfl (v_build Tryz.underlying139 Tryz.zeroValue139 (sized_cons Tryz.sizeOf47 (sized_cons Tryz.sizeOf47 (sized_cons Tryz.sizeOf47 (sized_cons Tryz.sizeOf47 sized_nil)))) fil_nil) ?_))
        refine s_do0 (d_storeAll Tryz.sizeOf139 rfl rfl rfl rfl rfl) ?_
        rintro _ _ rfl
        refine s_val rfl (v_assign rfl) (x_nil (n_then (x_ret (r_block (r_then (x_done (.inl rfl) (.cons (r_all Tryz.isAgg139 Tryz.sizeOf139 rfl rfl) (.cons (r_tmp rfl) .nil)) ?_))))))
        have hl : lk fr pg r at_ n wr = (zD, 2) := by unfold lk; rw [if_neg (by omega), if_pos (by omega)]
        rw [hl, if_neg (by decide)]
        exact ⟨_, ⟨rfl, rfl⟩, inferInstance⟩
      · intro c4
        refine x_skip (n_block (n_then (x_seq ?_)))
        obtain ⟨k, rfl⟩ : ∃ k : Nat, at_ = (k : Int) := ⟨at_.toNat, by omega⟩
        obtain ⟨dd, hdd⟩ : ∃ x, dsAt fr pg r k = x := ⟨_, rfl⟩
        have hok := dsAt_ok hF pg r k
        rw [hdd] at hok
        obtain ⟨rn, hrn⟩ : ∃ x : Nat, r.n = (x : Int) := ⟨r.n.toNat, by omega⟩
        refine x_region (s_val rfl (v_move rfl) (s_val rfl (v_move rfl) ?_))
        refine s_do rfl (d_call4 Tryz.call254 rfl (chRead_spec W0 _ bw pv ps pm d fr pg h hF r hr wr k (by omega))) ?_
        rintro _ B_ ⟨rfl, hB_⟩
        obtain rfl := hB_.symm
        rw [hdd]
        refine s_val rfl (v_move rfl) (s_val rfl (v_extract rfl rfl) (s_val rfl (v_extract rfl rfl) (s_do rfl (d_allocA Tryz.zeroValue139) ?_)))
        rintro _ _ ⟨bd, rfl, rfl⟩
        refine s_do0 (d_storeAll Tryz.sizeOf139 rfl rfl rfl rfl rfl) ?_
        rintro _ _ rfl
        refine s_val rfl (v_assign rfl) (x_nil (n_then (x_seq (x_seq (x_region (s_val rfl (v_move rfl) (s_val rfl (v_not rfl) (x_nil (n_then ?_)))))))))
        refine x_if rfl ?_ ?_
        · intro c7
          have ho : ownB fr.length pg (dsPa r k) 16 = false := by simpa using c7
          refine x_seq (x_region (s_val rfl (v_build Tryz.underlying139 Tryz.zeroValue139 (sized_cons Tryz.sizeOf47 (sized_cons Tryz.sizeOf47 (sized_cons Tryz.sizeOf47 (sized_cons Tryz.sizeOf47 sized_nil)))) fil_nil) ?_))
          refine s_do0 (d_storeAll Tryz.sizeOf139 rfl rfl rfl rfl rfl) ?_
          rintro _ _ rfl
          refine s_val rfl (v_assign rfl) (x_nil (n_then (x_ret (r_then (x_done (.inl rfl) (.cons (r_all Tryz.isAgg139 Tryz.sizeOf139 rfl rfl) (.cons (r_tmp rfl) .nil)) ?_)))))
          have hl : lk fr pg r k n wr = (zD, 5) := by unfold lk; rw [if_neg (by omega), if_neg (by omega), Int.toNat_natCast, if_pos ho]
          rw [hl, if_neg (by decide)]
          exact ⟨_, ⟨rfl, rfl⟩, inferInstance⟩
        · intro c7
          have ho : ¬ ownB fr.length pg (dsPa r k) 16 = false := by simpa using c7
          refine x_skip (n_then (x_seq (x_seq ?_)))
          rw [show wkO pv r wr = cob [.pointer (some ⟨pv, 0, none⟩), .int .u32 r.desc, .int .u32 r.avail, .int .u32 r.used, .int .i64 rn, .bool wr] 299 by rw [← hrn]]
          refine x_draw [(bd, 0, _), (bw, 0, _)] 8 mixed rfl (sc_own (sc_own sc_end)) (fun hS => ?_)
          refine d_take 0 rfl rfl (by kernel_rfl) (by kernel_rfl) (by kernel_rfl) rfl hS (v_loadAgg Tryz.isAgg139 Tryz.sizeOf139 rfl (by first | exact cells_sc (k := 0) rfl | exact cells_sc (k := 1) rfl) rfl) ?_
          refine d_take 1 rfl rfl (by kernel_rfl) (by kernel_rfl) (by kernel_rfl) rfl hS (v_move rfl) ?_
          refine d_take 2 rfl rfl (by kernel_rfl) (by kernel_rfl) (by kernel_rfl) rfl hS (v_nilCheck rfl) ?_
          refine d_take 3 rfl rfl (by kernel_rfl) (by kernel_rfl) (by kernel_rfl) rfl hS (v_fieldAddr rfl Tryz.underlying299 rfl Tryz.sizeOf71 rfl (by first | exact Nat.zero_add _ | rfl)) ?_
          refine d_take 4 rfl rfl (by kernel_rfl) (by kernel_rfl) (by kernel_rfl) rfl hS (v_fieldAddr rfl Tryz.underlying71 rfl Tryz.sizeOf3 rfl (by first | exact Nat.zero_add _ | rfl)) ?_
          refine d_take 5 rfl rfl (by kernel_rfl) (by kernel_rfl) (by kernel_rfl) rfl hS (v_load Tryz.isAgg3 rfl (by first | exact cell_sc0 (k := 0) rfl rfl | exact cell_sc0 (k := 1) rfl rfl)) ?_
          refine d_one 6 (by kernel_rfl) rfl rfl (d_call Tryz.call255 rfl (dsCheck_spec W0 _ dd hok rn (by omega))) rfl ?_; clear hS
          rintro _ B_ ⟨rfl, hB_⟩
          obtain rfl := hB_.symm
          refine ⟨(sc_own (sc_own sc_end)), fun hS => ?_⟩
          refine d_take 7 rfl rfl (by kernel_rfl) (by kernel_rfl) (by kernel_rfl) rfl hS (v_assign rfl) ?_
          refine d_done (by kernel_rfl) ?_; clear hS
          refine n_then (x_seq ?_)
          rw [← hrn]
          refine x_region (s_val rfl (v_move rfl) (s_val rfl (v_neq rfl rfl) (x_nil (n_then ?_))))
          refine x_if rfl ?_ ?_
          · intro c10
            refine x_seq (x_region (s_val rfl (v_build Tryz.underlying139 Tryz.zeroValue139 (sized_cons Tryz.sizeOf47 (sized_cons Tryz.sizeOf47 (sized_cons Tryz.sizeOf47 (sized_cons Tryz.sizeOf47 sized_nil)))) fil_nil) ?_))
            refine s_val rfl (v_move rfl) (s_do0 (d_storeAll Tryz.sizeOf139 rfl rfl rfl rfl rfl) ?_)
            rintro _ _ rfl
            refine s_val rfl (v_assign rfl) (x_nil (n_then (x_ret (r_then (x_done (.inl rfl) (.cons (r_all Tryz.isAgg139 Tryz.sizeOf139 rfl rfl) (.cons (r_tmp rfl) .nil)) ?_)))))
            have hl : lk fr pg r k n wr = (zD, chkC dd rn) := by unfold lk; rw [if_neg (by omega), if_neg (by omega), Int.toNat_natCast, if_neg ho, hdd, show r.n.toNat = rn by omega, if_pos c10]
            rw [hl, if_neg c10]
            exact ⟨_, ⟨rfl, rfl⟩, inferInstance⟩
          · intro c10
            refine x_skip (n_then (x_seq (x_block (x_seq ?_))))
            refine x_draw [(bw, 0, _), (bd, 0, _)] 12 mixed rfl (sc_own (sc_own sc_end)) (fun hS => ?_)
            refine d_take 0 rfl rfl (by kernel_rfl) (by kernel_rfl) (by kernel_rfl) rfl hS (v_move rfl) ?_
            refine d_take 1 rfl rfl (by kernel_rfl) (by kernel_rfl) (by kernel_rfl) rfl hS (v_nilCheck rfl) ?_
            refine d_take 2 rfl rfl (by kernel_rfl) (by kernel_rfl) (by kernel_rfl) rfl hS (v_fieldAddr rfl Tryz.underlying299 rfl Tryz.sizeOf51 rfl (by first | exact Nat.zero_add _ | rfl)) ?_
            refine d_take 3 rfl rfl (by kernel_rfl) (by kernel_rfl) (by kernel_rfl) rfl hS (v_load Tryz.isAgg51 rfl (by first | exact cell_sc0 (k := 0) rfl rfl | exact cell_sc0 (k := 1) rfl rfl)) ?_
            refine d_take 4 rfl rfl (by kernel_rfl) (by kernel_rfl) (by kernel_rfl) rfl hS (v_fieldAddr rfl Tryz.underlying139 rfl Tryz.sizeOf47 rfl (by first | exact Nat.zero_add _ | rfl)) ?_
            refine d_take 5 rfl rfl (by kernel_rfl) (by kernel_rfl) (by kernel_rfl) rfl hS (v_load Tryz.isAgg47 rfl (by first | exact cell_sc0 (k := 0) rfl rfl | exact cell_sc0 (k := 1) rfl rfl)) ?_
            refine d_take 6 rfl rfl (by kernel_rfl) (by kernel_rfl) (by kernel_rfl) rfl hS (v_fieldAddr rfl Tryz.underlying139 rfl Tryz.sizeOf47 rfl (by first | exact Nat.zero_add _ | rfl)) ?_
            refine d_take 7 rfl rfl (by kernel_rfl) (by kernel_rfl) (by kernel_rfl) rfl hS (v_load Tryz.isAgg47 rfl (by first | exact cell_sc0 (k := 0) rfl rfl | exact cell_sc0 (k := 1) rfl rfl)) ?_
            refine d_take 8 rfl rfl (by kernel_rfl) (by kernel_rfl) (by kernel_rfl) rfl hS (v_conv Tryz.underlying47 Tryz.underlying3 rfl (w64 (by have := hok.len; omega))) ?_
            refine d_one 9 (by kernel_rfl) rfl rfl (d_call3 Tryz.call132 rfl (viOwn_spec W0 _ pv ps pm d fr pg h dd.addr hok.addr dd.len)) rfl ?_; clear hS
            rintro _ B_ ⟨rfl, hB_⟩
            obtain rfl := hB_.symm
            refine ⟨(sc_own (sc_own sc_end)), fun hS => ?_⟩
            refine d_take 10 rfl rfl (by kernel_rfl) (by kernel_rfl) (by kernel_rfl) rfl hS (v_not rfl) ?_
            refine d_take 11 rfl rfl (by kernel_rfl) (by kernel_rfl) (by kernel_rfl) rfl hS (v_assign rfl) ?_
            refine d_done (by kernel_rfl) ?_; clear hS
            refine n_then ?_
            refine x_if rfl ?_ ?_
            · intro c12
              have ho2 : ownB fr.length pg dd.addr dd.len = false := by simpa using c12
              refine x_seq (x_region (s_val rfl (v_build Tryz.underlying139 Tryz.zeroValue139 (sized_cons Tryz.sizeOf47 (sized_cons Tryz.sizeOf47 (sized_cons Tryz.sizeOf47 (sized_cons Tryz.sizeOf47 sized_nil)))) fil_nil) ?_))
              refine s_do0 (d_storeAll Tryz.sizeOf139 rfl rfl rfl rfl rfl) ?_
              rintro _ _ rfl
              refine s_val rfl (v_assign rfl) (x_nil (n_then (x_ret (r_block (r_then (x_done (.inl rfl) (.cons (r_all Tryz.isAgg139 Tryz.sizeOf139 rfl rfl) (.cons (r_tmp rfl) .nil)) ?_))))))
              have hl : lk fr pg r k n wr = (zD, 5) := by unfold lk; rw [if_neg (by omega), if_neg (by omega), Int.toNat_natCast, if_neg ho, hdd, show r.n.toNat = rn by omega, if_neg c10, if_pos ho2]
              rw [hl, if_neg (by decide)]
              exact ⟨_, ⟨rfl, rfl⟩, inferInstance⟩
            · intro c12
              have ho2 : ¬ ownB fr.length pg dd.addr dd.len = false := by simpa using c12
              refine x_seq (x_region (s_val rfl (v_move rfl) (s_val rfl (v_nilCheck rfl) ?_)))
              refine s_val rfl (v_fieldAddr rfl Tryz.underlying299 rfl Tryz.sizeOf4 rfl (by first | exact Nat.zero_add _ | rfl)) ?_
              refine s_val rfl (v_load Tryz.isAgg4 rfl (cell_own rfl)) ?_
              refine s_val rfl (v_move rfl) ?_
              refine s_and rfl rfl rfl ?_ ?_
              · intro g14_5
                refine s_val rfl (v_loadAll Tryz.isAgg139 Tryz.sizeOf139 rfl rfl) ?_
                refine s_yes rfl rfl (s_do rfl (d_call Tryz.call247 rfl (chWrites_spec W0 _ dd hok)) ?_)
                rintro _ B_ ⟨rfl, hB_⟩
                obtain rfl := hB_.symm
                refine s_yes rfl rfl (s_val rfl (v_not rfl) (s_val rfl (v_pick_t rfl rfl) (s_val rfl (v_assign rfl) (x_nil (n_then ?_)))))
                refine x_if rfl ?_ ?_
                · intro c14
                  refine x_seq (x_region (s_val rfl (v_build Tryz.underlying139 Tryz.zeroValue139 (sized_cons Tryz.sizeOf47 (sized_cons Tryz.sizeOf47 (sized_cons Tryz.sizeOf47 (sized_cons Tryz.sizeOf47 sized_nil)))) fil_nil) ?_))
                  refine s_do0 (d_storeAll Tryz.sizeOf139 rfl rfl rfl rfl rfl) ?_
                  rintro _ _ rfl
                  refine s_val rfl (v_assign rfl) (x_nil (n_then (x_ret (r_block (r_then (x_done (.inl rfl) (.cons (r_all Tryz.isAgg139 Tryz.sizeOf139 rfl rfl) (.cons (r_tmp rfl) .nil)) ?_))))))
                  have hl : lk fr pg r k n wr = (zD, 6) := by unfold lk; rw [if_neg (by omega), if_neg (by omega), Int.toNat_natCast, if_neg ho, hdd, show r.n.toNat = rn by omega, if_neg c10, if_neg ho2, if_pos ⟨g14_5, by simpa using c14⟩]
                  rw [hl, if_neg (by decide)]
                  exact ⟨_, ⟨rfl, rfl⟩, inferInstance⟩
                · intro c14
                  refine x_skip (n_block (n_then (x_seq (x_region (s_val rfl (v_move rfl) (s_val rfl (v_loadAll Tryz.isAgg139 Tryz.sizeOf139 rfl rfl) ?_))))))
                  refine s_do rfl (d_call Tryz.call247 rfl (chWrites_spec W0 _ dd hok)) ?_
                  rintro _ B_ ⟨rfl, hB_⟩
                  obtain rfl := hB_.symm
                  refine s_val rfl (v_nilCheck rfl) ?_
                  refine s_val rfl (v_fieldAddr rfl Tryz.underlying299 rfl Tryz.sizeOf4 rfl (by first | exact Nat.zero_add _ | rfl)) ?_
                  refine s_do0 (d_store Tryz.sizeOf4 rfl rfl rfl (Nat.le_of_ble_eq_true rfl) SetL.eq) ?_
                  rintro _ _ rfl
                  refine x_nil (n_then (x_seq (x_region (s_val rfl (v_loadAll Tryz.isAgg139 Tryz.sizeOf139 rfl rfl) ?_))))
                  refine s_do0 (d_storeAll Tryz.sizeOf139 rfl rfl rfl rfl rfl) ?_
                  rintro _ _ rfl
                  refine s_val rfl (v_assign rfl) (x_nil (n_then (x_ret (x_done (.inl rfl) (.cons (r_all Tryz.isAgg139 Tryz.sizeOf139 rfl rfl) (.cons (r_tmp rfl) .nil)) ?_))))
                  have hl : lk fr pg r k n wr = (dd, 0) := by unfold lk; rw [if_neg (by omega), if_neg (by omega), Int.toNat_natCast, if_neg ho, hdd, show r.n.toNat = rn by omega, if_neg c10, if_neg ho2, if_neg (by rintro ⟨q1, q2⟩; first | exact g14_5 q1 | exact c14 (by rw [q2]; decide))]
                  rw [hl, if_pos rfl]
                  exact ⟨_, ⟨rfl, rfl⟩, inferInstance⟩
              · intro g14_5
                refine s_no rfl rfl rfl rfl (s_no rfl rfl rfl rfl (s_val rfl (v_pick_f rfl rfl) (s_val rfl (v_assign rfl) (x_nil (n_then (x_iff rfl (x_skip (n_block (n_then (x_seq (x_region (s_val rfl (v_move rfl) (s_val rfl (v_loadAll Tryz.isAgg139 Tryz.sizeOf139 rfl rfl) ?_)))))))))))))
                refine s_do rfl (d_call Tryz.call247 rfl (chWrites_spec W0 _ dd hok)) ?_
                rintro _ B_ ⟨rfl, hB_⟩
                obtain rfl := hB_.symm
                refine s_val rfl (v_nilCheck rfl) ?_
                refine s_val rfl (v_fieldAddr rfl Tryz.underlying299 rfl Tryz.sizeOf4 rfl (by first | exact Nat.zero_add _ | rfl)) ?_
                refine s_do0 (d_store Tryz.sizeOf4 rfl rfl rfl (Nat.le_of_ble_eq_true rfl) SetL.eq) ?_
                rintro _ _ rfl
                refine x_nil (n_then (x_seq (x_region (s_val rfl (v_loadAll Tryz.isAgg139 Tryz.sizeOf139 rfl rfl) ?_))))
                refine s_do0 (d_storeAll Tryz.sizeOf139 rfl rfl rfl rfl rfl) ?_
                rintro _ _ rfl
                refine s_val rfl (v_assign rfl) (x_nil (n_then (x_ret (x_done (.inl rfl) (.cons (r_all Tryz.isAgg139 Tryz.sizeOf139 rfl rfl) (.cons (r_tmp rfl) .nil)) ?_))))
                have hl : lk fr pg r k n wr = (dd, 0) := by unfold lk; rw [if_neg (by omega), if_neg (by omega), Int.toNat_natCast, if_neg ho, hdd, show r.n.toNat = rn by omega, if_neg c10, if_neg ho2, if_neg (by rintro ⟨q1, q2⟩; first | exact g14_5 q1 | exact c14 (by rw [q2]; decide))]
                rw [hl, if_pos rfl]
                exact ⟨_, ⟨rfl, rfl⟩, inferInstance⟩
end Go.Proofs.YtncegikenkpcmaaGreat
namespace Go.Proofs.YtncegikenkpcmaaGreat
open Go.RowKit
set_option linter.unusedSimpArgs false
set_option linter.unusedVariables false
set_option maxRecDepth 20000
abbrev WkS := Int × Bool × List Dsc
def lkS (fr : List Frm) (pg : List Pl) (r : Rg3) (n : Nat) (x : WkS) : Dsc × Int := lk fr pg r x.1 n x.2.1
def wkSt (fr : List Frm) (pg : List Pl) (r : Rg3) (head : Int) : Nat → WkS
  | 0 => (head, false, [])
  | n + 1 => let d := (lkS fr pg r n (wkSt fr pg r head n)).1; ((d.next : Int), wrB d, (wkSt fr pg r head n).2.2 ++ [d])
abbrev lkN (fr : List Frm) (pg : List Pl) (r : Rg3) (head : Int) (n : Nat) : Dsc × Int := lkS fr pg r n (wkSt fr pg r head n)
def alive (fr : List Frm) (pg : List Pl) (r : Rg3) (head : Int) (n : Nat) : Prop := ∀ m, m < n → (lkN fr pg r head m).2 = 0 ∧ goB (lkN fr pg r head m).1 = true
theorem alive.succ {fr : List Frm} {pg : List Pl} {r : Rg3} {head : Int} {n : Nat} (h : alive fr pg r head n) (h1 : (lkN fr pg r head n).2 = 0) (h2 : goB (lkN fr pg r head n).1 = true) : alive fr pg r head (n + 1) := fun m hm => by
  rcases Nat.lt_or_ge m n with q | q
  · exact h m q
  · rw [show m = n by omega]; exact ⟨h1, h2⟩
theorem alive.le {fr : List Frm} {pg : List Pl} {r : Rg3} {head : Int} {n : Nat} (h : alive fr pg r head n) (h8 : 0 ≤ r.n ∧ r.n ≤ 8) : n ≤ 8 := by
  rcases Nat.eq_zero_or_pos n with q | q
  · omega
  · have := lk_n (h (n - 1) (by omega)).1; omega
theorem wkSt_len (fr : List Frm) (pg : List Pl) (r : Rg3) (head : Int) : ∀ n, (wkSt fr pg r head n).2.2.length = n
  | 0 => rfl
  | n + 1 => by rw [wkSt]; simp [wkSt_len fr pg r head n]
def wkGo (fr : List Frm) (pg : List Pl) (r : Rg3) (head : Int) : Nat → Nat → List Dsc × Int
  | 0, _ => ([], 2)
  | f + 1, n => if (lkN fr pg r head n).2 ≠ 0 then ([], (lkN fr pg r head n).2) else if goB (lkN fr pg r head n).1 then wkGo fr pg r head f (n + 1) else ((wkSt fr pg r head (n + 1)).2.2, 0)
def wkAll (fr : List Frm) (pg : List Pl) (r : Rg3) (head : Int) : List Dsc × Int := if rgtB r then wkGo fr pg r head 9 0 else ([], 5)
theorem wkGo_alive {fr : List Frm} {pg : List Pl} {r : Rg3} {head : Int} : ∀ n k, alive fr pg r head n → n ≤ k → wkGo fr pg r head k 0 = wkGo fr pg r head (k - n) n
  | 0, k, _, _ => rfl
  | n + 1, k, h, hk => by
    rw [wkGo_alive n k (fun m hm => h m (by omega)) (by omega)]
    obtain ⟨h1, h2⟩ := h n (by omega)
    obtain ⟨j, hj⟩ : ∃ j, k - n = j + 1 := ⟨k - n - 1, by omega⟩
    rw [hj, wkGo, if_neg (by rw [h1]; decide), if_pos h2, show k - (n + 1) = j by omega]
theorem wkGo_stop {fr : List Frm} {pg : List Pl} {r : Rg3} {head : Int} {n : Nat} (h : alive fr pg r head n) (h8 : n ≤ 8) (hc : (lkN fr pg r head n).2 ≠ 0) : wkGo fr pg r head 9 0 = ([], (lkN fr pg r head n).2) := by
  rw [wkGo_alive n 9 h (by omega)]
  obtain ⟨j, hj⟩ : ∃ j, 9 - n = j + 1 := ⟨9 - n - 1, by omega⟩
  rw [hj, wkGo, if_pos hc]
theorem wkGo_end {fr : List Frm} {pg : List Pl} {r : Rg3} {head : Int} {n : Nat} (h : alive fr pg r head n) (h8 : n ≤ 8) (hc : (lkN fr pg r head n).2 = 0) (hg : goB (lkN fr pg r head n).1 = false) : wkGo fr pg r head 9 0 = ((wkSt fr pg r head (n + 1)).2.2, 0) := by
  rw [wkGo_alive n 9 h (by omega)]
  obtain ⟨j, hj⟩ : ∃ j, 9 - n = j + 1 := ⟨9 - n - 1, by omega⟩
  rw [hj, wkGo, if_neg (by rw [hc]; decide), if_neg (by rw [hg]; decide)]
theorem chFollow1_spec (W0 : World) (L bh bwb bw pv ps pm d : Nat) (fr : List Frm) (pg : List Pl) (h : Pgs pg) (hF : Frs fr) (r : Rg3) (hr : r.ok) (hn8 : 0 ≤ r.n ∧ r.n ≤ 8) (head : Int) (Cc : Nat → List HP) (Stop : Nat → List HP → Prop)
    (hrd : ∀ n R', alive fr pg r head n → n ≤ 8 → Rounds Tryz.prog W0 L [.agg (dsV (lkN fr pg r head n).1).toArray, .int .i64 (lkN fr pg r head n).2] (Cc n ++ R')
      (fun v B => ∃ b B', v = .bool b ∧ B = B' ++ R' ∧ ((b = true ∧ (lkN fr pg r head n).2 = 0 ∧ B' = Cc (n + 1)) ∨ (b = false ∧ Stop n B')))) :
    Spec Tryz.prog W0 244 [.func (.yield L) #[] #[], .pointer (some ⟨bh, 0, none⟩), .pointer (some ⟨bwb, 0, none⟩)]
      (pt bh (cob [.int .i64 head] 3) :: pt bwb (cob [.pointer (some ⟨bw, 0, none⟩)] 297) :: pt bw (wkO pv r false) :: vw pv ps pm d fr pg (Cc 0))
      (fun v B => v = .tuple #[] ∧ ((∃ n, alive fr pg r head n ∧ (lkN fr pg r head n).2 = 0 ∧ goB (lkN fr pg r head n).1 = false ∧ B = vw pv ps pm d fr pg (Cc (n + 1))) ∨ (∃ n B', alive fr pg r head n ∧ Stop n B' ∧ B = vw pv ps pm d fr pg B'))) := by
  refine spec_body Tryz.func244 Tryz.ntmps244 rfl rfl ?_
  refine x_seq (x_region (s_val rfl (v_load Tryz.isAgg3 rfl (cell_own rfl)) ?_))
  refine s_val rfl (v_assign rfl) (x_nil (n_then (x_seq (x_region (s_val rfl (v_assign rfl) (x_nil (n_then (x_block ?_))))))))
  refine x_loop (fun n : Nat => alive fr pg r head n) (fun n => [(0, .func (.yield L) #[] #[]), (2, .pointer (some ⟨bwb, 0, none⟩)), (4, .int .i64 (wkSt fr pg r head n).1), (5, .int .i64 n)]) (fun n => pt bwb (cob [.pointer (some ⟨bw, 0, none⟩)] 297) :: pt bw (wkO pv r (wkSt fr pg r head n).2.1) :: vw pv ps pm d fr pg (Cc n)) (fun n => 9 - n) 0 ?_ ?_ ?_ ?_
  · exact fun m hm => by omega
  · repeat (first | exact sub_nil | refine sub_cons rfl ?_)
  · simp only [wkSt]; exact inferInstance
  · intro n hal
    have hn := hal.le hn8
    have hdok := lk_ok hF pg r (wkSt fr pg r head n).1 n (wkSt fr pg r head n).2.1
    refine x_seq (x_block (x_seq (x_region (s_val rfl (v_load Tryz.isAgg297 rfl (cell_own rfl)) ?_))))
    refine s_val rfl (v_move rfl) (s_val rfl (v_move rfl) (s_do rfl (d_call4 Tryz.call245 rfl (chLook_spec W0 _ bw pv ps pm d fr pg h hF r hr hn8.2 (wkSt fr pg r head n).2.1 (wkSt fr pg r head n).1 n)) ?_))
    rintro _ B_ ⟨rfl, hB_⟩
    obtain rfl := hB_.symm
    refine s_val rfl (v_move rfl) (s_val rfl (v_extract rfl rfl) (s_val rfl (v_extract rfl rfl) (s_do rfl (d_allocA Tryz.zeroValue139) ?_)))
    rintro _ _ ⟨b1, rfl, rfl⟩
    refine s_do0 (d_storeAll Tryz.sizeOf139 rfl rfl rfl rfl rfl) ?_
    rintro _ _ rfl
    refine s_val rfl (v_assign rfl) (x_nil (n_then (x_seq (x_seq (x_region (s_val rfl (v_move rfl) (s_val rfl (v_loadAll Tryz.isAgg139 Tryz.sizeOf139 rfl rfl) ?_)))))))
    refine s_val rfl (v_move rfl) (s_yield rfl rfl rfl (rounds_perm (List.perm_append_comm (l₁ := [_, _, _, _, _, _])) (hrd n [_, _, _, _, _, _] hal hn)) ?_)
    rintro _ B_ ⟨b, B', rfl, hB_, hb⟩
    obtain rfl := hB_.symm
    refine run_perm List.perm_append_comm ?_
    simp only [List.cons_append, List.nil_append]
    refine s_val rfl (v_not rfl) (s_val rfl (v_move rfl) ?_)
    refine s_or rfl rfl rfl ?_ ?_
    · intro g4_6
      have hs : Stop n B' := by
        rcases hb with q | q
        · exact absurd q.1 g4_6
        · exact q.2
      refine s_no rfl rfl rfl rfl (s_val rfl (v_pick_t rfl rfl) (s_val rfl (v_move rfl) (s_no rfl rfl rfl rfl (s_no rfl rfl rfl rfl (s_no rfl rfl rfl rfl (s_val rfl (v_pick_t rfl rfl) (x_nil (n_then (x_ift rfl (x_ret (r_then (r_block (r_then (r_then (r_block (x_done (.inl rfl) .nil ?_))))))))))))))))
      first
        | exact ⟨_, ⟨rfl, .inr ⟨n, B', hal, hs, rfl⟩⟩, inferInstance⟩
        | exact ⟨_, ⟨rfl, .inl ⟨n, hal, hc, by simpa using c4, rfl⟩⟩, inferInstance⟩
    · intro g4_6
      have hs : (lkN fr pg r head n).2 = 0 ∧ B' = Cc (n + 1) := by
        rcases hb with q | q
        · exact q.2
        · exact absurd (by rw [q.1]; decide) g4_6
      obtain ⟨hc, rfl⟩ := hs
      refine s_val rfl (v_move rfl) (s_yes rfl rfl (s_val rfl (v_neq rfl rfl) (s_val rfl (v_pick_f rfl rfl) (s_val rfl (v_move rfl) ?_))))
      refine s_or rfl rfl rfl ?_ ?_
      · intro g4_10
        exact absurd hc g4_10
      · intro g4_10
        refine s_val rfl (v_loadAll Tryz.isAgg139 Tryz.sizeOf139 rfl rfl) ?_
        refine s_yes rfl rfl (s_do rfl (d_call Tryz.call246 rfl (chGoes_spec W0 _ (lkN fr pg r head n).1 hdok)) ?_)
        rintro _ B_ ⟨rfl, hB_⟩
        obtain rfl := hB_.symm
        refine s_yes rfl rfl (s_val rfl (v_not rfl) (s_val rfl (v_pick_f rfl rfl) (x_nil (n_then ?_))))
        refine x_if rfl ?_ ?_
        · intro c4
          refine x_ret (r_then (r_block (r_then (r_then (r_block (x_done (.inl rfl) .nil ?_))))))
          first
            | exact ⟨_, ⟨rfl, .inr ⟨n, B', hal, hs, rfl⟩⟩, inferInstance⟩
            | exact ⟨_, ⟨rfl, .inl ⟨n, hal, hc, by simpa using c4, rfl⟩⟩, inferInstance⟩
        · intro c4
          refine x_skip (n_then ?_)
          have hgo : goB (lkN fr pg r head n).1 = true := by simpa using c4
          have hsucc := hal.succ hc hgo
          have hlt := lk_n hc
          refine x_region ?_
          refine s_val rfl (v_fieldAddr rfl Tryz.underlying139 rfl Tryz.sizeOf47 rfl (by first | exact Nat.zero_add _ | rfl)) ?_
          refine s_val rfl (v_load Tryz.isAgg47 rfl (cell_own rfl)) ?_
          refine s_val rfl (v_conv Tryz.underlying47 Tryz.underlying3 rfl (w64 (by have := hdok.next; omega))) ?_
          refine s_val rfl (v_assign rfl) (x_nil (n_block (n_then (x_region (s_val rfl (v_move rfl) ?_)))))
          refine s_val rfl (v_add rfl rfl (by first | exact w64 (by omega) | rfl)) ?_
          refine s_val rfl (v_assign rfl) (x_nil (n_then ?_))
          refine inv_intro (n + 1) ?_ ?_ ?_ ?_
          · exact hsucc
          · omega
          · repeat (first | exact sub_nil | refine sub_cons rfl ?_)
          · have e2 : (lk fr pg r (wkSt fr pg r head n).1 n (wkSt fr pg r head n).2.1).2 = 0 := hc
            rw [if_pos e2]
            show Ent _ (pt bwb (cob [.pointer (some ⟨bw, 0, none⟩)] 297) :: pt bw (wkO pv r (wrB (lk fr pg r (wkSt fr pg r head n).1 n (wkSt fr pg r head n).2.1).1)) :: vw pv ps pm d fr pg (Cc (n + 1)))
            exact inferInstance
theorem chFollow_spec (W0 : World) (R : List HP) (bw : Nat) (head : Int) : Spec Tryz.prog W0 209 [.pointer (some ⟨bw, 0, none⟩), .int .i64 head] R
    (fun v B => ∃ bh bwb, v = .func (.func 244) #[] #[.pointer (some ⟨bh, 0, none⟩), .pointer (some ⟨bwb, 0, none⟩)] ∧ B = pt bh (cob [.int .i64 head] 3) :: pt bwb (cob [.pointer (some ⟨bw, 0, none⟩)] 297) :: R) := by
  refine spec_body Tryz.func209 Tryz.ntmps209 rfl rfl ?_
  refine x_seq (x_region (s_do rfl (d_box rfl rfl) ?_))
  rintro _ _ ⟨b1, rfl, rfl⟩
  refine s_do rfl (d_box rfl rfl) ?_
  rintro _ _ ⟨b2, rfl, rfl⟩
  refine s_val rfl (v_assign rfl) (x_nil (n_then (x_seq (x_region (s_val rfl (v_mkFunc rfl rfl) ?_)))))
  refine s_val rfl (v_assign rfl) (x_nil (n_then (x_ret (x_done (.inl rfl) (.cons (r_tmp rfl) .nil) ?_))))
  exact ⟨_, ⟨b2, b1, rfl, rfl⟩, inferInstance⟩
theorem follow_range {W0 : World} {A : List HP} {e : Env} {n' L D bh bwb bw pv ps pm d : Nat} {ps' : Array Tmp} {asg body : Code} {Go Stop : List HP → Prop} (fr : List Frm) (pg : List Pl) (h : Pgs pg) (hF : Frs fr) (r : Rg3) (hr : r.ok) (hn8 : 0 ≤ r.n ∧ r.n ≤ 8) (head : Int) (Ct : Nat → List HP) (St : Nat → List HP → Prop)
    (hp : Ent A (pt bh (cob [.int .i64 head] 3) :: pt bwb (cob [.pointer (some ⟨bw, 0, none⟩)] 297) :: pt bw (wkO pv r false) :: vw pv ps pm d fr pg (Ct 0)))
    (hgo : ∀ n, alive fr pg r head n → (lkN fr pg r head n).2 = 0 → goB (lkN fr pg r head n).1 = false → Go (vw pv ps pm d fr pg (Ct (n + 1))))
    (hst : ∀ n B', alive fr pg r head n → St n B' → Stop (vw pv ps pm d fr pg B'))
    (hrd : ∀ n R', alive fr pg r head n → n ≤ 8 → Rounds Tryz.prog W0 L [.agg (dsV (lkN fr pg r head n).1).toArray, .int .i64 (lkN fr pg r head n).2] (recH L ⟨e, n', ps', asg, body, .ready, none, D⟩ :: pt D (.deferred (some [])) :: (Ct n ++ R'))
      (fun v B => (v = .bool true ∧ (lkN fr pg r head n).2 = 0 ∧ B = recH L ⟨e, n', ps', asg, body, .ready, none, D⟩ :: pt D (.deferred (some [])) :: (Ct (n + 1) ++ R')) ∨
        (v = .bool false ∧ ∃ B', St n B' ∧ B = recH L ⟨e, n', ps', asg, body, .done, some (.exit 0), D⟩ :: pt D (.deferred (some [])) :: (B' ++ R')))) :
    Spec Tryz.prog W0 244 (.func (.yield L) #[] #[] :: [.pointer (some ⟨bh, 0, none⟩), .pointer (some ⟨bwb, 0, none⟩)]) (recH L ⟨e, n', ps', asg, body, .ready, none, D⟩ :: pt D (.deferred (some [])) :: A)
      (fun _ B => (∃ C, B = recH L ⟨e, n', ps', asg, body, .ready, none, D⟩ :: pt D (.deferred (some [])) :: C ∧ Go C) ∨ (∃ C, B = recH L ⟨e, n', ps', asg, body, .done, some (.exit 0), D⟩ :: pt D (.deferred (some [])) :: C ∧ Stop C)) := by
  refine spec_ent ((Ent.cons (Ent.cons hp)).trans (inferInstance : Ent _ (pt bh (cob [.int .i64 head] 3) :: pt bwb (cob [.pointer (some ⟨bw, 0, none⟩)] 297) :: pt bw (wkO pv r false) :: vw pv ps pm d fr pg (recH L ⟨e, n', ps', asg, body, .ready, none, D⟩ :: pt D (.deferred (some [])) :: Ct 0)))) ?_
  refine spec_post (chFollow1_spec W0 L bh bwb bw pv ps pm d fr pg h hF r hr hn8 head (fun n => recH L ⟨e, n', ps', asg, body, .ready, none, D⟩ :: pt D (.deferred (some [])) :: Ct n) (fun n B => ∃ B', St n B' ∧ B = recH L ⟨e, n', ps', asg, body, .done, some (.exit 0), D⟩ :: pt D (.deferred (some [])) :: B') fun n R' hal hn w hO => ?_) ?_
  · obtain ⟨f, tmps, as_, bd, hy, hR⟩ := hrd n R' hal hn w hO
    refine ⟨f, tmps, as_, bd, hy, RoundIn.mono hR ?_⟩
    rintro _ w' ⟨v, B, rfl, hB, hO'⟩
    rcases hB with ⟨rfl, hc, rfl⟩ | ⟨rfl, B', hS, rfl⟩
    · exact ⟨_, _, rfl, ⟨true, _, rfl, rfl, .inl ⟨rfl, hc, rfl⟩⟩, hO'⟩
    · exact ⟨_, _, rfl, ⟨false, recH L ⟨e, n', ps', asg, body, .done, some (.exit 0), D⟩ :: pt D (.deferred (some [])) :: B', rfl, rfl, .inr ⟨rfl, B', hS, rfl⟩⟩, hO'⟩
  · rintro v B ⟨_, ⟨n, h1, h2, h3, rfl⟩ | ⟨n, _, h1, ⟨B', hS, rfl⟩, rfl⟩⟩
    · exact ⟨_, .inl ⟨_, rfl, hgo n h1 h2 h3⟩, inferInstance⟩
    · exact ⟨_, .inr ⟨_, rfl, hst n B' h1 hS⟩, inferInstance⟩
def osH (b : Nat) (l : List Dsc) : HP := chk (fun C => ∃ a c, C = [pt b (cob [.slice a l.length c] 43), osl 139 4 (.slice a l.length c) (l.flatMap dsV)])
section
variable {W0 : World} {N : FSz} {K : Act → World → Prop} {e : Env} {A R R1 R2 : List HP} {b n c : Nat} {l : List Dsc} {a : Option Addr} {ys : List Value}
theorem run_osH [hk : Tk osH b A l R] (h : ∀ a c, Run W0 N K e (pt b (cob [.slice a l.length c] 43) :: osl 139 4 (.slice a l.length c) (l.flatMap dsV) :: R)) : Run W0 N K e A :=
  run_tk (r := osH) (b := b) (run_chk fun C hC => by obtain ⟨a, c, rfl⟩ := hC; exact h a c)
theorem run_inOsH (l : List Dsc) [h1 : Tk pt b A (cob [.slice a n c] 43) R1] [h2 : Tk (osl 139 4) (.slice a n c) R1 ys R] (hn : n = l.length) (hy : ys = l.flatMap dsV) (k : Run W0 N K e (osH b l :: R)) : Run W0 N K e A := by
  subst hn; subst hy
  exact run_ent ((Ent.ofPerm (h1.perm.trans (h2.perm.cons _))).trans (ent_chk (R := R) (C := [_, _]) ⟨a, c, rfl⟩)) k
theorem run_newOsH [h1 : Tk pt b A (cob [.slice none 0 0] 43) R] (k : Run W0 N K e (osH b [] :: R)) : Run W0 N K e A :=
  run_ent ((Ent.ofPerm h1.perm).trans ((Ent.cons (ent_osl_nil (E := 139) (sz := 4) (B := R))).trans (ent_chk (R := R) (C := [pt b (cob [.slice none 0 0] 43), osl 139 4 (.slice none 0 0) []]) ⟨none, 0, rfl⟩))) k
end
theorem chWalk_spec (W0 : World) (R : List HP) (pv ps pm d : Nat) (fr : List Frm) (pg : List Pl) (h : Pgs pg) (hF : Frs fr) (r : Rg3) (hr : r.ok) (head : Int) :
    Spec Tryz.prog W0 150 [.pointer (some ⟨pv, 0, none⟩), .agg (rgV r).toArray, .int .i64 head] (vw pv ps pm d fr pg R)
      (fun v B => ∃ a c, v = .tuple #[.slice a (wkAll fr pg r head).1.length c, .int .i64 (wkAll fr pg r head).2] ∧ B = osl 139 4 (.slice a (wkAll fr pg r head).1.length c) ((wkAll fr pg r head).1.flatMap dsV) :: vw pv ps pm d fr pg R) := by
  refine spec_body Tryz.func150 Tryz.ntmps150 rfl rfl ?_
  refine x_seq (x_region (s_do rfl (d_boxA rfl) ?_))
  rintro _ _ ⟨b1, rfl, rfl⟩
  refine s_val rfl (v_assign rfl) (s_val rfl (v_assign rfl) (x_nil (n_then (x_scope (x_seq (x_seq (x_region (s_val rfl (v_loadAll Tryz.isAgg71 Tryz.sizeOf71 rfl rfl) ?_))))))))
  refine s_do rfl (d_call Tryz.call199 rfl (dsRight_spec W0 _ r)) ?_
  rintro _ B_ ⟨rfl, hB_⟩
  obtain rfl := hB_.symm
  refine s_val rfl (v_not rfl) (x_nil (n_then ?_))
  refine x_if rfl ?_ ?_
  · intro c1
    refine x_seq (x_region (s_val rfl (v_assign rfl) (s_val rfl (v_assign rfl) (x_nil (n_then (x_ret (r_then (r_scope (x_done (.inl rfl) (.cons (r_tmp rfl) (.cons (r_tmp rfl) .nil)) ?_)))))))))
    have hw : wkAll fr pg r head = ([], 5) := by rw [wkAll, if_neg c1]
    rw [hw]
    exact ⟨_, ⟨none, 0, rfl, rfl⟩, ent_osl_nil⟩
  · intro c1
    have hri : rgtB r = true := Decidable.not_not.1 c1
    have hn8 : 0 ≤ r.n ∧ r.n ≤ 8 := by simp only [rgtB, szd, Bool.and_eq_true, decide_eq_true_iff] at hri; omega
    have hw : wkAll fr pg r head = wkGo fr pg r head 9 0 := by rw [wkAll, if_pos hri]
    refine x_skip (n_then (x_seq (x_region (s_val rfl (v_move rfl) (s_val rfl (v_loadAll Tryz.isAgg71 Tryz.sizeOf71 rfl rfl) ?_)))))
    refine s_val rfl (v_build Tryz.underlying299 Tryz.zeroValue299 (sized_cons Tryz.sizeOf51 (sized_cons Tryz.sizeOf71 (sized_cons Tryz.sizeOf4 sized_nil))) (fil_scal rfl Tryz.sizeOf51 rfl rfl (Nat.le_of_ble_eq_true rfl) SetL.eq (fil_agg rfl Tryz.sizeOf71 rfl rfl (Nat.le_of_ble_eq_true rfl) SetRL.eq fil_nil))) ?_
    refine s_do rfl (d_boxA rfl) ?_
    rintro _ _ ⟨b2, rfl, rfl⟩
    refine s_val rfl (v_assign rfl) (x_nil (n_then (x_seq (x_region (s_do rfl (d_alloc Tryz.zeroValue43 rfl) ?_)))))
    rintro _ _ ⟨b3, rfl, rfl⟩
    refine x_nil (n_then (x_seq (x_region (s_do rfl (d_alloc Tryz.zeroValue3 rfl) ?_))))
    rintro _ _ ⟨b4, rfl, rfl⟩
    refine s_do0 (d_store Tryz.sizeOf3 rfl rfl rfl (Nat.le_of_ble_eq_true rfl) SetL.eq) ?_
    rintro _ _ rfl
    refine x_nil (n_then (x_seq (x_label (n_then (x_seq (x_seq (x_region (s_val rfl (v_move rfl) (s_val rfl (v_move rfl) (s_do rfl (d_call Tryz.call209 rfl (chFollow_spec W0 _ b2 head)) ?_))))))))))
    rintro _ B_ ⟨bh, bwb, rfl, hB_⟩
    obtain rfl := hB_.symm
    refine run_newOsH (b := b3) ?_
    refine x_nil (n_then (x_block ?_))
    refine x_rangeFuncE 0 (fun C => ∃ n, alive fr pg r head n ∧ (lkN fr pg r head n).2 = 0 ∧ goB (lkN fr pg r head n).1 = false ∧ C = vw pv ps pm d fr pg (osH b3 (wkSt fr pg r head (n + 1)).2.2 :: pt b4 (cob [.int .i64 0] 3) :: R)) (fun C => ∃ n, alive fr pg r head n ∧ (lkN fr pg r head n).2 ≠ 0 ∧ C = vw pv ps pm d fr pg (osH b3 (wkSt fr pg r head n).2.2 :: pt b4 (cob [.int .i64 (lkN fr pg r head n).2] 3) :: R)) rfl Tryz.call244 ?_ ?_ ?_
    · intro L D
      refine follow_range (bw := b2) (pv := pv) (ps := ps) (pm := pm) (d := d) fr pg h hF r hr hn8 head (fun n => osH b3 (wkSt fr pg r head n).2.2 :: pt b4 (cob [.int .i64 0] 3) :: R) (fun n B => (lkN fr pg r head n).2 ≠ 0 ∧ B = osH b3 (wkSt fr pg r head n).2.2 :: pt b4 (cob [.int .i64 (lkN fr pg r head n).2] 3) :: R) (by simp only [wkSt]; exact inferInstance) (fun n h1 h2 h3 => ⟨n, h1, h2, h3, rfl⟩) (fun n B h1 h2 => ⟨n, h1, h2.1, by rw [h2.2]⟩) ?_
      intro n R' hal hn
      simp only [List.cons_append, List.nil_append]
      refine rounds_intro rfl rfl ?_
      refine x_seq (x_region (s_do rfl (d_allocA Tryz.zeroValue139) ?_))
      rintro _ _ ⟨bd, rfl, rfl⟩
      refine s_do0 (d_storeAll Tryz.sizeOf139 rfl rfl rfl rfl rfl) ?_
      rintro _ _ rfl
      refine x_nil (n_then (x_region (s_val rfl (v_assign rfl) (x_nil (n_begin rfl ?_)))))
      refine x_block (x_seq (x_seq (x_region (s_val rfl (v_move rfl) (s_val rfl (v_neq rfl rfl) (x_nil (n_then ?_)))))))
      refine x_if rfl ?_ ?_
      · intro c9
        refine x_seq (x_region (s_val rfl (v_move rfl) (s_do0 (d_store Tryz.sizeOf3 rfl rfl rfl (Nat.le_of_ble_eq_true rfl) SetL.eq) ?_)))
        rintro _ _ rfl
        refine x_nil (n_then (x_exit (e_then (e_block_ne rfl (r_exit ?_)))))
        exact ⟨_, .inr ⟨rfl, _, ⟨c9, rfl⟩, rfl⟩, by simp only [List.cons_append]; exact inferInstance⟩
      · intro c9
        refine x_skip (n_then ?_)
        have hc : (lkN fr pg r head n).2 = 0 := Decidable.not_not.1 c9
        have hlen := wkSt_len fr pg r head n
        refine run_osH (b := b3) fun a c => ?_
        refine x_region (s_val rfl (v_load Tryz.isAgg43 rfl (cell_own rfl)) ?_)
        refine s_val rfl (v_loadAll Tryz.isAgg139 Tryz.sizeOf139 rfl rfl) ?_
        refine s_do rfl (d_sliceAgg Tryz.underlying43 Tryz.sizeOf139 Tryz.zeroValue139 rfl (elsK_cons rfl rfl elsK_nil) rfl (by decide) (by decide) (by decide)) ?_
        rintro _ _ ⟨b6, rfl, rfl⟩
        refine s_do rfl (d_append (sz := 4) (by_ := 16) (info := Tryz.t139) Tryz.underlying43 (by kernel_rfl) rfl rfl rfl rfl (by decide) rfl rfl cells_all rfl rfl (by simp only [maxLen]; omega) (by omega)) ?_
        rintro _ _ ⟨a1, c1, rfl, rfl⟩
        refine s_do0 (d_store Tryz.sizeOf43 rfl rfl rfl (Nat.le_of_ble_eq_true rfl) SetL.eq) ?_
        rintro _ _ rfl
        refine x_nil (n_block ?_)
        refine run_inOsH (b := b3) (wkSt fr pg r head (n + 1)).2.2 (by rw [wkSt]; simp) (by rw [wkSt]; simp) ?_
        refine r_go ?_
        exact ⟨_, .inl ⟨rfl, hc, rfl⟩, inferInstance⟩
    · intro D C hC
      obtain ⟨n, hal, hc, hg, rfl⟩ := hC
      have hres := wkGo_end hal (hal.le hn8) hc hg
      refine n_block (n_then (x_seq (x_seq (x_region (s_val rfl (v_load Tryz.isAgg3 rfl (cell_own rfl)) ?_)))))
      refine s_val rfl (v_neq rfl rfl) (x_nil (n_then ?_))
      refine x_if rfl ?_ ?_
      · intro c12
        refine x_seq ?_
        refine x_draw [(b4, 0, _)] 3 mixed rfl (sc_own sc_end) (fun hS => ?_)
        refine d_take 0 rfl rfl (by kernel_rfl) (by kernel_rfl) (by kernel_rfl) rfl hS (v_load Tryz.isAgg3 rfl (cell_sc0 (k := 0) rfl rfl)) ?_
        refine d_take 1 rfl rfl (by kernel_rfl) (by kernel_rfl) (by kernel_rfl) rfl hS (v_assign rfl) ?_
        refine d_take 2 rfl rfl (by kernel_rfl) (by kernel_rfl) (by kernel_rfl) rfl hS (v_assign rfl) ?_
        refine d_done (by kernel_rfl) ?_; clear hS
        refine n_then (x_ret (r_then (r_scope (x_doneM (.inl rfl) (.cons (r_tmp rfl) (.cons (r_tmp rfl) .nil)) ?_))))
        first
          | exact absurd rfl c12
          | (rw [hw, hres]; exact ⟨_, ⟨none, 0, rfl, rfl⟩, ent_osl_nil⟩)
      · intro c12
        refine x_skip (n_then (x_seq ?_))
        refine run_osH (b := b3) fun a c => ?_
        refine x_region (s_val rfl (v_load Tryz.isAgg43 rfl (cell_own rfl)) ?_)
        refine s_val rfl (v_assign rfl) (s_val rfl (v_assign rfl) (x_nil (n_then (x_ret (r_scope (x_doneM (.inl rfl) (.cons (r_tmp rfl) (.cons (r_tmp rfl) .nil)) ?_))))))
        first
          | exact absurd (Decidable.not_not.1 c12) hc
          | (rw [hw, hres]; exact ⟨_, ⟨a, c, rfl, rfl⟩, inferInstance⟩)
    · intro D C hC
      obtain ⟨n, hal, hc, rfl⟩ := hC
      have hres := wkGo_stop hal (hal.le hn8) hc
      refine e_block (n_then (x_seq (x_seq (x_region (s_val rfl (v_load Tryz.isAgg3 rfl (cell_own rfl)) ?_)))))
      refine s_val rfl (v_neq rfl rfl) (x_nil (n_then ?_))
      refine x_if rfl ?_ ?_
      · intro c12
        refine x_seq ?_
        refine x_draw [(b4, 0, _)] 3 mixed rfl (sc_own sc_end) (fun hS => ?_)
        refine d_take 0 rfl rfl (by kernel_rfl) (by kernel_rfl) (by kernel_rfl) rfl hS (v_load Tryz.isAgg3 rfl (cell_sc0 (k := 0) rfl rfl)) ?_
        refine d_take 1 rfl rfl (by kernel_rfl) (by kernel_rfl) (by kernel_rfl) rfl hS (v_assign rfl) ?_
        refine d_take 2 rfl rfl (by kernel_rfl) (by kernel_rfl) (by kernel_rfl) rfl hS (v_assign rfl) ?_
        refine d_done (by kernel_rfl) ?_; clear hS
        refine n_then (x_ret (r_then (r_scope (x_doneM (.inl rfl) (.cons (r_tmp rfl) (.cons (r_tmp rfl) .nil)) ?_))))
        first
          | exact absurd rfl c12
          | (rw [hw, hres]; exact ⟨_, ⟨none, 0, rfl, rfl⟩, ent_osl_nil⟩)
      · intro c12
        refine x_skip (n_then (x_seq ?_))
        refine run_osH (b := b3) fun a c => ?_
        refine x_region (s_val rfl (v_load Tryz.isAgg43 rfl (cell_own rfl)) ?_)
        refine s_val rfl (v_assign rfl) (s_val rfl (v_assign rfl) (x_nil (n_then (x_ret (r_scope (x_doneM (.inl rfl) (.cons (r_tmp rfl) (.cons (r_tmp rfl) .nil)) ?_))))))
        first
          | exact absurd (Decidable.not_not.1 c12) hc
          | (rw [hw, hres]; exact ⟨_, ⟨a, c, rfl, rfl⟩, inferInstance⟩)
end Go.Proofs.YtncegikenkpcmaaGreat
namespace Go.Proofs.YtncegikenkpcmaaGreat
open Go.RowKit
set_option linter.unusedSimpArgs false
set_option linter.unusedVariables false
set_option maxRecDepth 20000
def inH (p : Value × Frm) : HP := osl 5 1 p.1 (byV p.2)
def rstoH (qs : Nat) (fr : List Frm) : HP := chk (fun C => ∃ a c, ∃ vs : List Value, vs.length = fr.length ∧ C = pt qs (cob [.slice a fr.length c] 84) :: osl 44 1 (.slice a fr.length c) vs :: (vs.zip fr).map inH)
section
variable {P : Program} {W0 : World} {N : FSz} {K : Act → World → Prop} {e : Env} {A B R R1 R2 : List HP} {qs g n : Nat} {fr : List Frm} {f : FuncId} {args : List Value} {Post : Value → List HP → Prop} {l : List Value}
theorem run_rsto [hk : Tk rstoH qs A fr R] (h : ∀ a c vs, vs.length = fr.length → Run W0 N K e (pt qs (cob [.slice a fr.length c] 84) :: osl 44 1 (.slice a fr.length c) vs :: ((vs.zip fr).map inH ++ R))) : Run W0 N K e A :=
  run_tk (r := rstoH) (b := qs) (run_chk fun C hC => by obtain ⟨a, c, vs, h1, rfl⟩ := hC; exact h a c vs h1)
theorem ent_rsto {a : Option Addr} {c : Nat} {vs : List Value} [h1 : Tk pt qs A (cob [.slice a n c] 84) R1] [h2 : Tk (osl 44 1) (.slice a n c) R1 vs ((vs.zip fr).map inH ++ R2)] (hv : vs.length = fr.length) (hn : n = fr.length) [k : Ent R2 B] : Ent A (rstoH qs fr :: B) := by
  subst hn
  have e1 : A.Perm ((pt qs (cob [.slice a fr.length c] 84) :: osl 44 1 (.slice a fr.length c) vs :: (vs.zip fr).map inH) ++ R2) := h1.perm.trans (h2.perm.cons _)
  have e2 : Ent ((pt qs (cob [.slice a fr.length c] 84) :: osl 44 1 (.slice a fr.length c) vs :: (vs.zip fr).map inH) ++ R2) (rstoH qs fr :: R2) := ent_chk ⟨a, c, vs, hv, rfl⟩
  exact (Ent.ofPerm e1).trans (e2.trans (Ent.cons k))
theorem perm_erase {α : Type} : ∀ (l : List α) (i : Nat) (h : i < l.length), l.Perm (l[i] :: l.eraseIdx i)
  | x :: l, 0, h => by simp
  | x :: l, i + 1, h => by
    simp only [List.getElem_cons_succ, List.eraseIdx_cons_succ]
    exact ((perm_erase l i (by simpa using h)).cons x).trans (List.Perm.swap _ _ _)
theorem perm_set {α : Type} : ∀ (l : List α) (i : Nat) (x : α) (h : i < l.length), (x :: l.eraseIdx i).Perm (l.set i x)
  | y :: l, 0, x, h => by simp
  | y :: l, i + 1, x, h => by
    simp only [List.set_cons_succ, List.eraseIdx_cons_succ]
    exact (List.Perm.swap _ _ _).trans ((perm_set l i x (by simpa using h)).cons y)
theorem run_oslT {E sz : Nat} {v : Value} {xs : List Value} [hk : Tk (osl E sz) v A xs R] (h0 : v = .slice none 0 0 → xs = [] → Run W0 N K e R)
    (h1 : ∀ g n cap sp, v = .slice (some ⟨g, 0, none⟩) n cap → n ≤ cap → cap ≤ maxLen → xs.length = n * sz → (xs ++ sp).length = cap * sz → Run W0 N K e (pt g (cob (xs ++ sp) E) :: R)) : Run W0 N K e A :=
  run_tk (r := osl E sz) (b := v) (run_osl h0 h1)
theorem run_rstoN [hk : Tk rstoH qs A fr R] {i : Nat} (hi : i < fr.length) (h : ∀ a c vs vi, vs.length = fr.length → vs[i]? = some vi →
      Run W0 N K e (pt qs (cob [.slice a fr.length c] 84) :: osl 44 1 (.slice a fr.length c) vs :: osl 5 1 vi (byV (fr.getD i [])) :: (((vs.zip fr).map inH).eraseIdx i ++ R))) : Run W0 N K e A := by
  refine run_rsto (qs := qs) fun a c vs hv => ?_
  have hlen : ((vs.zip fr).map inH).length = fr.length := by simp [hv]
  have hiv : i < vs.length := by omega
  have hg : ((vs.zip fr).map inH)[i]'(by omega) = osl 5 1 vs[i] (byV (fr.getD i [])) := by simp [inH, List.getD, hi]
  have hp := perm_erase ((vs.zip fr).map inH) i (by omega)
  rw [hg] at hp
  exact run_perm (((hp.append_right R).cons _).cons _) (h a c vs vs[i] hv (by simp [hiv]))
theorem ent_rstoN {a : Option Addr} {c i : Nat} {vs : List Value} {vi : Value} {y : Frm} {ys : List Value} {R3 : List HP} [h1 : Tk pt qs A (cob [.slice a n c] 84) R1] [h2 : Tk (osl 44 1) (.slice a n c) R1 (vs.set i vi) R2] [h3 : Tk (osl 5 1) vi R2 ys (((vs.zip fr).map inH).eraseIdx i ++ R3)]
    (hy : ys = byV y) (hv : vs.length = fr.length) (hn : n = fr.length) (hi : i < fr.length) [k : Ent R3 B] : Ent A (rstoH qs (fr.set i y) :: B) := by
  subst hy
  have e1 : A.Perm (pt qs (cob [.slice a n c] 84) :: osl 44 1 (.slice a n c) (vs.set i vi) :: ((((vs.set i vi).zip (fr.set i y)).map inH) ++ R3)) := by
    refine h1.perm.trans ((h2.perm.trans ((h3.perm.trans ?_).cons _)).cons _)
    have hs : ((vs.set i vi).zip (fr.set i y)).map inH = ((vs.zip fr).map inH).set i (inH (vi, y)) := by
      apply List.ext_getElem
      · simp
      · intro j h1 h2
        by_cases e : j = i
        · subst e; simp
        · have e' : ¬ i = j := fun h => e h.symm
          simp [List.getElem_set, e']
    rw [hs]
    have := perm_set ((vs.zip fr).map inH) i (inH (vi, y)) (by simp [hv]; exact hi)
    exact this.append_right R3
  exact (Ent.ofPerm e1).trans (ent_rsto (vs := vs.set i vi) (by simp [hv]) (by simp [hn]))
theorem shut_rsto {c i g2 n2 c2 : Nat} {vs vs' sp sp2 ys : List Value} {y : Frm} {vi : Value} {R3 : List HP} [h1 : Tk pt qs A (cob [.slice (some ⟨g, 0, none⟩) n c] 84) R1] [h2 : Tk pt g R1 (cob (vs' ++ sp) 44) R2] [h3 : Tk pt g2 R2 (cob (ys ++ sp2) 5) R3]
    (hvs : vs' = vs.set i vi) (hvi : vi = .slice (some ⟨g2, 0, none⟩) n2 c2) (hy : ys = byV y) (hv : vs.length = fr.length) (hn : n = fr.length) (hi : i < fr.length) (a1 : n ≤ c) (a2 : c ≤ maxLen) (a3 : (vs' ++ sp).length = c * 1) (b1 : n2 ≤ c2) (b2 : c2 ≤ maxLen) (b3 : ys.length = n2 * 1) (b4 : (ys ++ sp2).length = c2 * 1) [k : Ent R3 (((vs.zip fr).map inH).eraseIdx i ++ B)] : Ent A (rstoH qs (fr.set i y) :: B) := by
  subst hvs
  subst hvi
  have e1 : A.Perm (pt qs (cob [.slice (some ⟨g, 0, none⟩) n c] 84) :: pt g (cob (vs.set i (.slice (some ⟨g2, 0, none⟩) n2 c2) ++ sp) 44) :: pt g2 (cob (ys ++ sp2) 5) :: R3) := h1.perm.trans ((h2.perm.trans (h3.perm.cons _)).cons _)
  have e2 : Ent (pt g2 (cob (ys ++ sp2) 5) :: R3) (osl 5 1 (.slice (some ⟨g2, 0, none⟩) n2 c2) ys :: (((vs.zip fr).map inH).eraseIdx i ++ B)) := ent_osl b1 b2 b3 b4
  have e3 : Ent (pt g (cob (vs.set i (.slice (some ⟨g2, 0, none⟩) n2 c2) ++ sp) 44) :: osl 5 1 (.slice (some ⟨g2, 0, none⟩) n2 c2) ys :: (((vs.zip fr).map inH).eraseIdx i ++ B)) (osl 44 1 (.slice (some ⟨g, 0, none⟩) n c) (vs.set i (.slice (some ⟨g2, 0, none⟩) n2 c2)) :: osl 5 1 (.slice (some ⟨g2, 0, none⟩) n2 c2) ys :: (((vs.zip fr).map inH).eraseIdx i ++ B)) := ent_osl a1 a2 (by simp [hv, hn]) a3
  exact (Ent.ofPerm e1).trans ((Ent.cons ((Ent.cons e2).trans e3)).trans (ent_rstoN (vi := .slice (some ⟨g2, 0, none⟩) n2 c2) hy hv hn hi))
end
theorem set_self {fr : List Frm} {i : Nat} (hi : i < fr.length) : fr.set i (fr.getD i []) = fr := by
  rw [show fr.getD i [] = fr[i] by simp [List.getD, hi]]; exact List.set_getElem_self _
theorem set_selfV {vs : List Value} {i : Nat} {v : Value} (h : vs[i]? = some v) : vs.set i v = vs := by
  have hi : i < vs.length := by
    rcases Nat.lt_or_ge i vs.length with k | k
    · exact k
    · rw [List.getElem?_eq_none k] at h; cases h
  have : vs[i] = v := by simpa [hi] using h
  rw [← this]; exact List.set_getElem_self _
theorem rfIs_spec (W0 : World) (R : List HP) (qs : Nat) (fr : List Frm) (f : Int) :
    Spec Tryz.prog W0 172 [.pointer (some ⟨qs, 0, none⟩), .int .i64 f] (rstoH qs fr :: R) (fun v B => v = .bool (isF fr.length f) ∧ B = rstoH qs fr :: R) := by
  refine spec_body Tryz.func172 Tryz.ntmps172 rfl rfl ?_
  refine x_seq (x_region (s_val rfl (v_assign rfl) (x_nil (n_then (x_seq ?_)))))
  refine run_rsto (qs := qs) fun a c vs hv => ?_
  refine x_region (s_val rfl (v_move rfl) (s_val rfl (v_geq rfl rfl) (s_val rfl (v_move rfl) ?_)))
  refine s_and rfl rfl rfl ?_ ?_
  · intro g1_3
    refine s_val rfl (v_move rfl) (s_yes rfl rfl (s_val rfl (v_move rfl) (s_yes rfl rfl (s_val rfl (v_nilCheck rfl) (s_yes rfl rfl ?_)))))
    refine s_val rfl (v_fieldAddr rfl Tryz.underlying84 rfl Tryz.sizeOf46 rfl (by first | exact Nat.zero_add _ | rfl)) ?_
    refine s_yes rfl rfl (s_val rfl (v_load Tryz.isAgg46 rfl (cell_own rfl)) ?_)
    refine s_yes rfl rfl (s_val rfl (v_len_slice Tryz.underlying46 rfl) (s_yes rfl rfl (s_val rfl (v_lss rfl rfl) (s_val rfl (v_pick_t rfl rfl) (s_val rfl (v_assign rfl) (x_nil (n_then (x_ret (x_done (.inl rfl) (.cons (r_tmp rfl) .nil) ?_)))))))))
    refine ⟨_, ⟨congrArg Value.bool ?_, rfl⟩, ent_rsto hv rfl⟩
    rw [Bool.eq_iff_iff]; simp only [isF, decide_eq_true_eq, Bool.false_eq_true, false_iff]; omega
  · intro g1_3
    refine s_no rfl rfl rfl rfl (s_no rfl rfl rfl rfl (s_no rfl rfl rfl rfl (s_no rfl rfl rfl rfl (s_no rfl rfl rfl rfl (s_no rfl rfl rfl rfl (s_val rfl (v_pick_f rfl rfl) (s_val rfl (v_assign rfl) (x_nil (n_then (x_ret (x_done (.inl rfl) (.cons (r_tmp rfl) .nil) ?_)))))))))))
    refine ⟨_, ⟨congrArg Value.bool ?_, rfl⟩, ent_rsto hv rfl⟩
    rw [Bool.eq_iff_iff]; simp only [isF, decide_eq_true_eq, Bool.false_eq_true, false_iff]; omega
theorem refGetN {W0 : World} {R : List HP} {g off c n : Nat} {l : List Nat} {at_ w : Int} (hl : l.length = n) (hc : Cells (OwnP W0 R) g off (byV l)) (hb : By l) (hn : n ≤ c) (h63 : c < 9223372036854775808) :
    Spec Tryz.prog W0 161 [.slice (some ⟨g, off, none⟩) n c, .int .i64 at_, .int .i64 w] R (fun v B => v = .tuple #[.int .u32 (getN l at_ w : Nat), .int .i64 (getE l at_ w)] ∧ B = R) := by
  subst hl; exact refGet02_spec W0 R g off c l at_ w hc hb hn h63
theorem refPutN_ok {W0 : World} {R : List HP} {g off c n : Nat} {l : List Nat} {i k w : Nat} (hl : l.length = n) (hw : w < 4294967296) (hc : Cells (OwnP W0 R) g off (byV l)) (hi : inB n i k = true) (hn : n ≤ 1000000) :
    Spec Tryz.prog W0 173 [.slice (some ⟨g, off, none⟩) n c, .int .i64 i, .int .i64 k, .int .u32 w] R (fun v B => ∃ a' c', v = putV a' n c' ∧ B = osl 5 1 (.slice a' n c') (byV (putB l i k w)) :: R) := by
  subst hl; exact refPut_ok W0 R g off c l i k w hw hc hi hn
theorem byV_front {x : Frm} {sp : List Value} (h : x.length = 64) : ((byV x ++ sp).drop 0).take 64 = byV x := by
  rw [List.drop_zero, List.take_left' (by rw [byV_len, h])]
theorem rfLoad_spec (W0 : World) (R : List HP) (qs : Nat) (fr : List Frm) (f off w : Int) (hF : Frs fr) :
    Spec Tryz.prog W0 221 [.pointer (some ⟨qs, 0, none⟩), .int .i64 f, .int .i64 off, .int .i64 w] (rstoH qs fr :: R)
      (fun v B => v = .tuple #[.int .u32 (ldN fr f off w : Nat), .int .i64 (ldE fr f off w)] ∧ B = rstoH qs fr :: R) := by
  by_cases hf : isF fr.length f = true
  · obtain ⟨i, rfl, hi⟩ := isF_nat hf
    obtain ⟨hl, hb⟩ := hF.get hi
    refine spec_body Tryz.func221 Tryz.ntmps221 rfl rfl ?_
    refine x_seq (x_region (s_val rfl (v_assign rfl) (s_val rfl (v_assign rfl) (x_nil (n_then (x_seq (x_seq (x_region (s_val rfl (v_move rfl) (s_val rfl (v_move rfl) (s_do rfl (d_call1 Tryz.call172 rfl (rfIs_spec W0 _ qs fr i)) ?_)))))))))))
    rintro _ B_ ⟨rfl, hB_⟩
    obtain rfl := hB_.symm
    refine s_val rfl (v_not rfl) (x_nil (n_then ?_))
    refine x_if rfl ?_ ?_
    · intro c1
      exact absurd c1 (by simp [hf])
    · intro c1
      refine x_skip (n_then (x_seq ?_))
      refine run_rstoN (qs := qs) hi fun a c vs vi hv hvi => ?_
      refine run_oslT (E := 5) (sz := 1) (v := vi) (fun h1 h2 => by have := congrArg List.length h2; rw [byV_len, hl] at this; cases this) fun g2 n2 c2 sp2 k1 k2 k3 k4 k5 => ?_
      obtain rfl : n2 = 64 := by rw [byV_len, hl] at k4; omega
      subst k1
      refine run_oslT (E := 44) (sz := 1) (v := .slice a fr.length c) (fun h1 h2 => by have := (Value.slice.inj h1).2.1; omega) fun g n c' sp h1 h2 h3 h4 h5 => ?_
      cases h1
      refine x_region (s_val rfl (v_move rfl) (s_val rfl (v_nilCheck rfl) ?_))
      refine s_val rfl (v_fieldAddr rfl Tryz.underlying84 rfl Tryz.sizeOf46 rfl (by first | exact Nat.zero_add _ | rfl)) ?_
      refine s_val rfl (v_load Tryz.isAgg46 rfl (cell_own rfl)) ?_
      refine s_val rfl (v_move rfl) ?_
      refine s_val rfl (v_idx Tryz.underlying46 Tryz.sizeOf44 rfl rfl rfl hi (by first | exact Nat.zero_add _ | rfl)) ?_
      refine s_val rfl (v_load Tryz.isAgg44 rfl (cell_own (by rw [Nat.mul_one, List.getElem?_append_left (by omega)]; exact hvi))) ?_
      refine s_val rfl (v_move rfl) (s_val rfl (v_move rfl) ?_)
      refine s_do rfl (d_call Tryz.call161 rfl (refGetN hl (cells_part (byV_front hl) (by rw [byV_len, hl])) hb k2 (maxLen_lt k3))) ?_
      rintro _ B_ ⟨rfl, hB_⟩
      obtain rfl := hB_.symm
      refine s_val rfl (v_extract rfl rfl) (s_val rfl (v_extract rfl rfl) (s_val rfl (v_assign rfl) (s_val rfl (v_assign rfl) (x_nil (n_then (x_ret (x_done (.inl rfl) (.cons (r_tmp rfl) (.cons (r_tmp rfl) .nil)) ?_)))))))
      refine ⟨_, ⟨by simp [pack, ldN, ldE, hf], rfl⟩, ?_⟩
      have e := set_self hi
      conv => rhs; rw [← e]
      exact shut_rsto (vs := vs) (set_selfV hvi).symm rfl rfl hv rfl hi h2 h3 h5 k2 k3 k4 k5
  · have hf' : isF fr.length f = false := by simpa using hf
    refine spec_body Tryz.func221 Tryz.ntmps221 rfl rfl ?_
    refine x_seq (x_region (s_val rfl (v_assign rfl) (s_val rfl (v_assign rfl) (x_nil (n_then (x_seq (x_seq (x_region (s_val rfl (v_move rfl) (s_val rfl (v_move rfl) (s_do rfl (d_call1 Tryz.call172 rfl (rfIs_spec W0 _ qs fr f)) ?_)))))))))))
    rintro _ B_ ⟨rfl, hB_⟩
    obtain rfl := hB_.symm
    refine s_val rfl (v_not rfl) (x_nil (n_then ?_))
    refine x_if rfl ?_ ?_
    · intro c1
      refine x_seq (x_region (s_val rfl (v_assign rfl) (s_val rfl (v_assign rfl) (x_nil (n_then (x_ret (r_then (x_done (.inl rfl) (.cons (r_tmp rfl) (.cons (r_tmp rfl) .nil)) ?_))))))))
      exact ⟨_, ⟨by simp [pack, ldN, ldE, hf'], rfl⟩, inferInstance⟩
    · intro c1
      exact absurd c1 (by simp [hf'])
theorem rfSave_spec (W0 : World) (R : List HP) (qs : Nat) (fr : List Frm) (f off w : Int) (x : Nat) (hx : x < 4294967296) (hF : Frs fr) :
    Spec Tryz.prog W0 107 [.pointer (some ⟨qs, 0, none⟩), .int .i64 f, .int .i64 off, .int .i64 w, .int .u32 x] (rstoH qs fr :: R)
      (fun v B => v = .int .i64 (if svOk fr f off w then 0 else 1) ∧ B = rstoH qs (svF fr f off w x) :: R) := by
  by_cases hf : isF fr.length f = true
  · obtain ⟨i, rfl, hi⟩ := isF_nat hf
    obtain ⟨hl, hb⟩ := hF.get hi
    by_cases hin : inB 64 off w = true
    · obtain ⟨o, k, rfl, rfl, hk, hok⟩ := inB_nat hin
      have hs : svOk fr i o k = true := by simp [svOk, hf, hin]
      have hpl : (putB (fr.getD i []) o k x).length = 64 := by rw [putB_len (by omega)]; exact hl
      refine spec_body Tryz.func107 Tryz.ntmps107 rfl rfl ?_
      refine x_seq (x_region (s_val rfl (v_assign rfl) (x_nil (n_then (x_seq (x_seq (x_region (s_val rfl (v_move rfl) (s_val rfl (v_move rfl) (s_do rfl (d_call1 Tryz.call172 rfl (rfIs_spec W0 _ qs fr i)) ?_))))))))))
      rintro _ B_ ⟨rfl, hB_⟩
      obtain rfl := hB_.symm
      refine s_val rfl (v_not rfl) (x_nil (n_then ?_))
      refine x_if rfl ?_ ?_
      · intro c1
        exact absurd c1 (by simp [hf])
      · intro c1
        refine x_skip (n_then (x_seq ?_))
        refine run_rstoN (qs := qs) hi fun a c vs vi hv hvi => ?_
        refine run_oslT (E := 5) (sz := 1) (v := vi) (fun h1 h2 => by have := congrArg List.length h2; rw [byV_len, hl] at this; cases this) fun g2 n2 c2 sp2 k1 k2 k3 k4 k5 => ?_
        obtain rfl : n2 = 64 := by rw [byV_len, hl] at k4; omega
        subst k1
        refine run_oslT (E := 44) (sz := 1) (v := .slice a fr.length c) (fun h1 h2 => by have := (Value.slice.inj h1).2.1; omega) fun g n c' sp h1 h2 h3 h4 h5 => ?_
        cases h1
        refine x_region (s_val rfl (v_move rfl) (s_val rfl (v_nilCheck rfl) ?_))
        refine s_val rfl (v_fieldAddr rfl Tryz.underlying84 rfl Tryz.sizeOf46 rfl (by first | exact Nat.zero_add _ | rfl)) ?_
        refine s_val rfl (v_load Tryz.isAgg46 rfl (cell_own rfl)) ?_
        refine s_val rfl (v_move rfl) ?_
        refine s_val rfl (v_idx Tryz.underlying46 Tryz.sizeOf44 rfl rfl rfl hi (by first | exact Nat.zero_add _ | rfl)) ?_
        refine s_val rfl (v_load Tryz.isAgg44 rfl (cell_own (by rw [Nat.mul_one, List.getElem?_append_left (by omega)]; exact hvi))) ?_
        refine s_val rfl (v_move rfl) (s_val rfl (v_move rfl) (s_val rfl (v_move rfl) ?_))
        refine s_do rfl (d_call Tryz.call173 rfl (refPutN_ok hl hx (cells_part (byV_front hl) (by rw [byV_len, hl])) hin (by decide))) ?_
        rintro _ B_ ⟨a', c', rfl, hB_⟩
        obtain rfl := hB_.symm
        refine run_oslT (E := 5) (sz := 1) (v := .slice a' 64 c') (fun h1 h2 => by have := (Value.slice.inj h1).2.1; omega) fun g3 n3 c3 sp3 q1 q2 q3 q4 q5 => ?_
        cases q1
        refine s_val rfl (v_move rfl) (s_val rfl (v_extract rfl rfl) (s_val rfl (v_extract rfl rfl) (s_val rfl (v_assign rfl) (s_val rfl (v_assign rfl) (x_nil (n_then (x_seq (x_seq (x_region (s_val rfl (v_move rfl) (s_val rfl (v_eql rfl rfl) (x_nil (n_then ?_)))))))))))))
        refine x_if rfl ?_ ?_
        · intro c4
          refine x_region (s_val rfl (v_move rfl) (s_val rfl (v_nilCheck rfl) ?_))
          refine s_val rfl (v_fieldAddr rfl Tryz.underlying84 rfl Tryz.sizeOf46 rfl (by first | exact Nat.zero_add _ | rfl)) ?_
          refine s_val rfl (v_load Tryz.isAgg46 rfl (cell_own rfl)) ?_
          refine s_val rfl (v_move rfl) (s_val rfl (v_move rfl) ?_)
          refine s_val rfl (v_idx Tryz.underlying46 Tryz.sizeOf44 rfl rfl rfl hi (by first | exact Nat.zero_add _ | rfl)) ?_
          refine s_do0 (d_store Tryz.sizeOf44 rfl rfl rfl (by rw [List.length_append]; omega) (by rw [Nat.mul_one, List.set_append_left _ _ (by omega)])) ?_
          rintro _ _ rfl
          refine x_nil (n_then (x_seq (x_region (s_val rfl (v_move rfl) (s_val rfl (v_assign rfl) (x_nil (n_then (x_ret (x_done (.inl rfl) (.cons (r_tmp rfl) .nil) ?_)))))))))
          rw [show svF fr i o k x = fr.set i (putB (fr.getD i []) o k x) by simp [svF, hs]]
          exact ⟨_, ⟨by simp [pack, hs], rfl⟩, shut_rsto (vs := vs) (vi := .slice (some ⟨g3, 0, none⟩) 64 c') rfl rfl rfl hv rfl hi h2 h3 (by rw [← h5]; simp) q2 q3 q4 q5⟩
        · intro c4
          exact absurd rfl c4
    · have hin' : inB 64 off w = false := by simpa using hin
      have hs : svOk fr i off w = false := by simp [svOk, hin']
      refine spec_body Tryz.func107 Tryz.ntmps107 rfl rfl ?_
      refine x_seq (x_region (s_val rfl (v_assign rfl) (x_nil (n_then (x_seq (x_seq (x_region (s_val rfl (v_move rfl) (s_val rfl (v_move rfl) (s_do rfl (d_call1 Tryz.call172 rfl (rfIs_spec W0 _ qs fr i)) ?_))))))))))
      rintro _ B_ ⟨rfl, hB_⟩
      obtain rfl := hB_.symm
      refine s_val rfl (v_not rfl) (x_nil (n_then ?_))
      refine x_if rfl ?_ ?_
      · intro c1
        exact absurd c1 (by simp [hf])
      · intro c1
        refine x_skip (n_then (x_seq ?_))
        refine run_rstoN (qs := qs) hi fun a c vs vi hv hvi => ?_
        refine run_oslT (E := 5) (sz := 1) (v := vi) (fun h1 h2 => by have := congrArg List.length h2; rw [byV_len, hl] at this; cases this) fun g2 n2 c2 sp2 k1 k2 k3 k4 k5 => ?_
        obtain rfl : n2 = 64 := by rw [byV_len, hl] at k4; omega
        subst k1
        refine run_oslT (E := 44) (sz := 1) (v := .slice a fr.length c) (fun h1 h2 => by have := (Value.slice.inj h1).2.1; omega) fun g n c' sp h1 h2 h3 h4 h5 => ?_
        cases h1
        refine x_region (s_val rfl (v_move rfl) (s_val rfl (v_nilCheck rfl) ?_))
        refine s_val rfl (v_fieldAddr rfl Tryz.underlying84 rfl Tryz.sizeOf46 rfl (by first | exact Nat.zero_add _ | rfl)) ?_
        refine s_val rfl (v_load Tryz.isAgg46 rfl (cell_own rfl)) ?_
        refine s_val rfl (v_move rfl) ?_
        refine s_val rfl (v_idx Tryz.underlying46 Tryz.sizeOf44 rfl rfl rfl hi (by first | exact Nat.zero_add _ | rfl)) ?_
        refine s_val rfl (v_load Tryz.isAgg44 rfl (cell_own (by rw [Nat.mul_one, List.getElem?_append_left (by omega)]; exact hvi))) ?_
        refine s_val rfl (v_move rfl) (s_val rfl (v_move rfl) (s_val rfl (v_move rfl) ?_))
        refine s_do rfl (d_call Tryz.call173 rfl (refPut_no W0 _ _ 64 c2 off w x hin' (by decide))) ?_
        rintro _ B_ ⟨rfl, hB_⟩
        obtain rfl := hB_.symm
        refine s_val rfl (v_move rfl) (s_val rfl (v_extract rfl rfl) (s_val rfl (v_extract rfl rfl) (s_val rfl (v_assign rfl) (s_val rfl (v_assign rfl) (x_nil (n_then (x_seq (x_seq (x_region (s_val rfl (v_move rfl) (s_val rfl (v_eql rfl rfl) (x_nil (n_then ?_)))))))))))))
        refine x_if rfl ?_ ?_
        · intro c4
          exact absurd c4 (by decide)
        · intro c4
          refine x_skip (n_then (x_seq (x_region (s_val rfl (v_move rfl) (s_val rfl (v_assign rfl) (x_nil (n_then (x_ret (x_done (.inl rfl) (.cons (r_tmp rfl) .nil) ?_)))))))))
          rw [show svF fr i off w x = fr by simp [svF, hs]]
          refine ⟨_, ⟨by simp [pack, hs], rfl⟩, ?_⟩
          have e := set_self hi
          conv => rhs; rw [← e]
          exact shut_rsto (vs := vs) (set_selfV hvi).symm rfl rfl hv rfl hi h2 h3 h5 k2 k3 k4 k5
  · have hf' : isF fr.length f = false := by simpa using hf
    have hs : svOk fr f off w = false := by simp [svOk, hf']
    refine spec_body Tryz.func107 Tryz.ntmps107 rfl rfl ?_
    refine x_seq (x_region (s_val rfl (v_assign rfl) (x_nil (n_then (x_seq (x_seq (x_region (s_val rfl (v_move rfl) (s_val rfl (v_move rfl) (s_do rfl (d_call1 Tryz.call172 rfl (rfIs_spec W0 _ qs fr f)) ?_))))))))))
    rintro _ B_ ⟨rfl, hB_⟩
    obtain rfl := hB_.symm
    refine s_val rfl (v_not rfl) (x_nil (n_then ?_))
    refine x_if rfl ?_ ?_
    · intro c1
      refine x_seq (x_region (s_val rfl (v_assign rfl) (x_nil (n_then (x_ret (r_then (x_done (.inl rfl) (.cons (r_tmp rfl) .nil) ?_)))))))
      rw [show svF fr f off w x = fr by simp [svF, hs]]
      exact ⟨_, ⟨by simp [pack, hs], rfl⟩, inferInstance⟩
    · intro c1
      exact absurd c1 (by simp [hf'])
end Go.Proofs.YtncegikenkpcmaaGreat
namespace Go.Proofs.YtncegikenkpcmaaGreat
open Go.RowKit
set_option linter.unusedSimpArgs false
set_option linter.unusedVariables false
set_option maxRecDepth 20000
theorem ent_rsto_snoc {A B R1 R2 R3 : List HP} {qs n c g2 : Nat} {a : Option Addr} {vs ys : List Value} {vi : Value} {fr : List Frm} {y : Frm} [h1 : Tk pt qs A (cob [.slice a n c] 84) R1] [h2 : Tk (osl 44 1) (.slice a n c) R1 (vs ++ [vi]) R2] [h3 : Tk pt g2 R2 (cob ys 5) R3]
    (hvi : vi = .slice (some ⟨g2, 0, none⟩) 64 64) (hy : ys = byV y) (hl : y.length = 64) (hv : vs.length = fr.length) (hn : n = fr.length + 1) [k : Ent R3 ((vs.zip fr).map inH ++ B)] : Ent A (rstoH qs (fr ++ [y]) :: B) := by
  subst hvi; subst hy
  have e1 : A.Perm (pt qs (cob [.slice a n c] 84) :: osl 44 1 (.slice a n c) (vs ++ [.slice (some ⟨g2, 0, none⟩) 64 64]) :: pt g2 (cob (byV y ++ []) 5) :: R3) := by
    rw [List.append_nil]; exact h1.perm.trans ((h2.perm.trans (h3.perm.cons _)).cons _)
  have e2 : Ent (pt g2 (cob (byV y ++ []) 5) :: R3) (osl 5 1 (.slice (some ⟨g2, 0, none⟩) 64 64) (byV y) :: ((vs.zip fr).map inH ++ B)) := ent_osl (Nat.le_refl _) (by simp only [maxLen]; omega) (by rw [byV_len, hl]) (by rw [List.append_nil, byV_len, hl])
  have e3 : ((vs ++ [Value.slice (some ⟨g2, 0, none⟩) 64 64]).zip (fr ++ [y])).map inH = (vs.zip fr).map inH ++ [osl 5 1 (.slice (some ⟨g2, 0, none⟩) 64 64) (byV y)] := by
    rw [List.zip_append hv, List.map_append]; rfl
  have e4 : (osl 5 1 (.slice (some ⟨g2, 0, none⟩) 64 64) (byV y) :: ((vs.zip fr).map inH ++ B)).Perm (((vs ++ [Value.slice (some ⟨g2, 0, none⟩) 64 64]).zip (fr ++ [y])).map inH ++ B) := by
    rw [e3, List.append_assoc]; exact List.perm_middle.symm
  exact (Ent.ofPerm e1).trans ((Ent.cons (Ent.cons (e2.trans (Ent.ofPerm e4)))).trans (ent_rsto (vs := vs ++ [.slice (some ⟨g2, 0, none⟩) 64 64]) (by simp [hv]) (by simp [hn])))
theorem rfNew_spec (W0 : World) (R : List HP) (n : Nat) (h : n ≤ 32) :
    Spec Tryz.prog W0 63 [.int .i64 n] R (fun v B => ∃ b, v = .tuple #[.pointer (some ⟨b, 0, none⟩), .int .i64 0] ∧ B = rstoH b (List.replicate n zeros) :: R) := by
  refine spec_body Tryz.func63 Tryz.ntmps63 rfl rfl ?_
  refine x_seq (x_region (s_val rfl (v_assign rfl) (s_val rfl (v_assign rfl) (x_nil (n_then (x_seq (x_seq (x_region (s_val rfl (v_move rfl) (s_val rfl (v_lss rfl rfl) (s_val rfl (v_move rfl) ?_)))))))))))
  refine s_or rfl rfl rfl ?_ ?_
  · intro g1_3
    omega
  · intro g1_3
    refine s_val rfl (v_move rfl) (s_yes rfl rfl (s_val rfl (v_gtr rfl rfl) (s_val rfl (v_pick_f rfl rfl) (x_nil (n_then ?_)))))
    refine x_if rfl ?_ ?_
    · intro c1
      omega
    · intro c1
      refine x_skip (n_then (x_seq (x_region (s_val rfl (v_build Tryz.underlying84 Tryz.zeroValue84 (sized_cons Tryz.sizeOf46 sized_nil) fil_nil) ?_))))
      refine s_do rfl (d_boxA rfl) ?_
      rintro _ _ ⟨b1, rfl, rfl⟩
      refine s_val rfl (v_assign rfl) (x_nil (n_then (x_seq (x_seq (x_region (s_val rfl (v_assign rfl) (x_nil (n_then (x_block ?_)))))))))
      refine x_loop (fun i : Nat => i ≤ n) (fun i => [(0, .int .i64 n), (4, .pointer (some ⟨b1, 0, none⟩)), (5, .int .i64 i)]) (fun i => rstoH b1 (List.replicate i zeros) :: R) (fun i => n - i) 0 ?_ ?_ ?_ ?_
      · exact Nat.zero_le _
      · repeat (first | exact sub_nil | refine sub_cons rfl ?_)
      · exact (Ent.cons (ent_osl_nil (B := R))).trans (ent_chk (R := R) (C := [_, _]) ⟨none, 0, [], rfl, rfl⟩)
      · intro i hi
        refine x_seq (x_seq (x_region (s_val rfl (v_move rfl) (s_val rfl (v_move rfl) (s_val rfl (v_lss rfl rfl) (x_nil (n_then ?_)))))))
        refine x_if rfl ?_ ?_
        · intro c5
          refine x_skip (n_then (x_seq (x_block ?_)))
          refine run_rsto (qs := b1) fun a c vs hv => ?_
          rw [List.length_replicate] at hv ⊢
          refine x_draw [] 11 mixed rfl sc_end (fun hS => ?_)
          refine d_take 0 rfl rfl (by kernel_rfl) (by kernel_rfl) (by kernel_rfl) rfl hS (v_move rfl) ?_
          refine d_take 1 rfl rfl (by kernel_rfl) (by kernel_rfl) (by kernel_rfl) rfl hS (v_move rfl) ?_
          refine d_take 2 rfl rfl (by kernel_rfl) (by kernel_rfl) (by kernel_rfl) rfl hS (v_nilCheck rfl) ?_
          refine d_take 3 rfl rfl (by kernel_rfl) (by kernel_rfl) (by kernel_rfl) rfl hS (v_fieldAddr rfl Tryz.underlying84 rfl Tryz.sizeOf46 rfl (by first | exact Nat.zero_add _ | rfl)) ?_
          refine d_all (is := [4, 5]) (by kernel_rfl) rfl ⟨?_, ?_, trivial⟩
          · skip
            refine dx_one rfl rfl (d_val (v_load Tryz.isAgg46 rfl (cell_own rfl))) rfl ?_; clear hS
            rintro _ _ ⟨rfl, rfl⟩
            refine ⟨sc_end, fun hS => ?_⟩
            refine d_one 5 (by kernel_rfl) rfl rfl (d_make (sz := 1) (by_ := 1) (info := Tryz.t5) Tryz.underlying44 (by kernel_rfl) rfl rfl rfl rfl (by decide) rfl rfl rfl rfl (by decide) (by decide)) rfl ?_; clear hS
            rintro _ _ ⟨b2, rfl, rfl⟩
            refine ⟨sc_end, fun hS => ?_⟩
            refine d_one 6 (by kernel_rfl) rfl rfl (d_sliceLit Tryz.underlying46 Tryz.sizeOf44 Tryz.zeroValue44 rfl rfl rfl rfl rfl (by decide) (by decide)) rfl ?_; clear hS
            rintro _ _ ⟨b3, rfl, rfl⟩
            refine ⟨sc_end, fun hS => ?_⟩
            refine d_one 7 (by kernel_rfl) rfl rfl (d_append (sz := 1) (by_ := 24) (info := Tryz.t44) Tryz.underlying46 (by kernel_rfl) rfl rfl rfl rfl (by decide) rfl rfl cells_all rfl rfl (by simp only [maxLen]; omega) (by omega)) rfl ?_; clear hS
            rintro _ B_ ⟨a1, c1, rfl, hB_⟩
            obtain rfl := hB_.symm
            refine ⟨sc_end, fun hS => ?_⟩
            refine d_take 8 rfl rfl (by kernel_rfl) (by kernel_rfl) (by kernel_rfl) rfl hS (v_nilCheck rfl) ?_
            refine d_take 9 rfl rfl (by kernel_rfl) (by kernel_rfl) (by kernel_rfl) rfl hS (v_fieldAddr rfl Tryz.underlying84 rfl Tryz.sizeOf46 rfl (by first | exact Nat.zero_add _ | rfl)) ?_
            refine d_one 10 (by kernel_rfl) rfl rfl (d_store Tryz.sizeOf46 rfl rfl rfl (Nat.le_of_ble_eq_true rfl) SetL.eq) rfl ?_; clear hS
            rintro _ _ rfl
            refine ⟨sc_end, fun hS => ?_⟩
            refine d_done (by kernel_rfl) ?_; clear hS
            refine n_block (n_then (x_region (s_val rfl (v_move rfl) ?_)))
            refine s_val rfl (v_add rfl rfl (by first | exact w64 (by omega) | rfl)) ?_
            refine s_val rfl (v_assign rfl) (x_nil (n_then ?_))
            refine inv_intro (i + 1) ?_ ?_ ?_ ?_
            · omega
            · omega
            · repeat (first | exact sub_nil | refine sub_cons rfl ?_)
            · rw [show List.replicate (i + 1) zeros = List.replicate i zeros ++ [zeros] from List.replicate_succ']; exact ent_rsto_snoc (vs := vs) (n := i + 1) (a := a1) (c := c1) (g2 := b2) (ys := List.replicate (64 * 1) (.int .u8 0)) (y := zeros) (vi := .slice (some ⟨b2, 0, none⟩) 64 64) (fr := List.replicate i zeros) rfl rfl (by simp [zeros]) (by simp [hv]) (by simp)
          · skip
            refine dx_one rfl rfl (d_make (sz := 1) (by_ := 1) (info := Tryz.t5) Tryz.underlying44 (by kernel_rfl) rfl rfl rfl rfl (by decide) rfl rfl rfl rfl (by decide) (by decide)) rfl ?_; clear hS
            rintro _ _ ⟨b2, rfl, rfl⟩
            refine ⟨sc_end, fun hS => ?_⟩
            refine d_all (is := [4, 6]) (by kernel_rfl) rfl ⟨?_, ?_, trivial⟩
            · skip
              refine dx_one rfl rfl (d_val (v_load Tryz.isAgg46 rfl (cell_own rfl))) rfl ?_; clear hS
              rintro _ _ ⟨rfl, rfl⟩
              refine ⟨sc_end, fun hS => ?_⟩
              refine d_one 6 (by kernel_rfl) rfl rfl (d_sliceLit Tryz.underlying46 Tryz.sizeOf44 Tryz.zeroValue44 rfl rfl rfl rfl rfl (by decide) (by decide)) rfl ?_; clear hS
              rintro _ _ ⟨b3, rfl, rfl⟩
              refine ⟨sc_end, fun hS => ?_⟩
              refine d_one 7 (by kernel_rfl) rfl rfl (d_append (sz := 1) (by_ := 24) (info := Tryz.t44) Tryz.underlying46 (by kernel_rfl) rfl rfl rfl rfl (by decide) rfl rfl cells_all rfl rfl (by simp only [maxLen]; omega) (by omega)) rfl ?_; clear hS
              rintro _ B_ ⟨a1, c1, rfl, hB_⟩
              obtain rfl := hB_.symm
              refine ⟨sc_end, fun hS => ?_⟩
              refine d_take 8 rfl rfl (by kernel_rfl) (by kernel_rfl) (by kernel_rfl) rfl hS (v_nilCheck rfl) ?_
              refine d_take 9 rfl rfl (by kernel_rfl) (by kernel_rfl) (by kernel_rfl) rfl hS (v_fieldAddr rfl Tryz.underlying84 rfl Tryz.sizeOf46 rfl (by first | exact Nat.zero_add _ | rfl)) ?_
              refine d_one 10 (by kernel_rfl) rfl rfl (d_store Tryz.sizeOf46 rfl rfl rfl (Nat.le_of_ble_eq_true rfl) SetL.eq) rfl ?_; clear hS
              rintro _ _ rfl
              refine ⟨sc_end, fun hS => ?_⟩
              refine d_done (by kernel_rfl) ?_; clear hS
              refine n_block (n_then (x_region (s_val rfl (v_move rfl) ?_)))
              refine s_val rfl (v_add rfl rfl (by first | exact w64 (by omega) | rfl)) ?_
              refine s_val rfl (v_assign rfl) (x_nil (n_then ?_))
              refine inv_intro (i + 1) ?_ ?_ ?_ ?_
              · omega
              · omega
              · repeat (first | exact sub_nil | refine sub_cons rfl ?_)
              · rw [show List.replicate (i + 1) zeros = List.replicate i zeros ++ [zeros] from List.replicate_succ']; exact ent_rsto_snoc (vs := vs) (n := i + 1) (a := a1) (c := c1) (g2 := b2) (ys := List.replicate (64 * 1) (.int .u8 0)) (y := zeros) (vi := .slice (some ⟨b2, 0, none⟩) 64 64) (fr := List.replicate i zeros) rfl rfl (by simp [zeros]) (by simp [hv]) (by simp)
            · skip
              refine dx_one rfl rfl (d_sliceLit Tryz.underlying46 Tryz.sizeOf44 Tryz.zeroValue44 rfl rfl rfl rfl rfl (by decide) (by decide)) rfl ?_; clear hS
              rintro _ _ ⟨b3, rfl, rfl⟩
              refine ⟨sc_end, fun hS => ?_⟩
              refine d_one 4 (by kernel_rfl) rfl rfl (d_val (v_load Tryz.isAgg46 rfl (cell_own rfl))) rfl ?_; clear hS
              rintro _ _ ⟨rfl, rfl⟩
              refine ⟨sc_end, fun hS => ?_⟩
              refine d_one 7 (by kernel_rfl) rfl rfl (d_append (sz := 1) (by_ := 24) (info := Tryz.t44) Tryz.underlying46 (by kernel_rfl) rfl rfl rfl rfl (by decide) rfl rfl cells_all rfl rfl (by simp only [maxLen]; omega) (by omega)) rfl ?_; clear hS
              rintro _ B_ ⟨a1, c1, rfl, hB_⟩
              obtain rfl := hB_.symm
              refine ⟨sc_end, fun hS => ?_⟩
              refine d_take 8 rfl rfl (by kernel_rfl) (by kernel_rfl) (by kernel_rfl) rfl hS (v_nilCheck rfl) ?_
              refine d_take 9 rfl rfl (by kernel_rfl) (by kernel_rfl) (by kernel_rfl) rfl hS (v_fieldAddr rfl Tryz.underlying84 rfl Tryz.sizeOf46 rfl (by first | exact Nat.zero_add _ | rfl)) ?_
              refine d_one 10 (by kernel_rfl) rfl rfl (d_store Tryz.sizeOf46 rfl rfl rfl (Nat.le_of_ble_eq_true rfl) SetL.eq) rfl ?_; clear hS
              rintro _ _ rfl
              refine ⟨sc_end, fun hS => ?_⟩
              refine d_done (by kernel_rfl) ?_; clear hS
              refine n_block (n_then (x_region (s_val rfl (v_move rfl) ?_)))
              refine s_val rfl (v_add rfl rfl (by first | exact w64 (by omega) | rfl)) ?_
              refine s_val rfl (v_assign rfl) (x_nil (n_then ?_))
              refine inv_intro (i + 1) ?_ ?_ ?_ ?_
              · omega
              · omega
              · repeat (first | exact sub_nil | refine sub_cons rfl ?_)
              · rw [show List.replicate (i + 1) zeros = List.replicate i zeros ++ [zeros] from List.replicate_succ']; exact ent_rsto_snoc (vs := vs) (n := i + 1) (a := a1) (c := c1) (g2 := b2) (ys := List.replicate (64 * 1) (.int .u8 0)) (y := zeros) (vi := .slice (some ⟨b2, 0, none⟩) 64 64) (fr := List.replicate i zeros) rfl rfl (by simp [zeros]) (by simp [hv]) (by simp)
        · intro c5
          refine x_exit (e_then (e_then (e_block (n_then (x_seq (x_region (s_val rfl (v_move rfl) (s_val rfl (v_assign rfl) (s_val rfl (v_assign rfl) (x_nil (n_then (x_ret (x_done (.inl rfl) (.cons (r_tmp rfl) (.cons (r_tmp rfl) .nil)) ?_)))))))))))))
          have : i = n := by omega
          subst this
          exact ⟨_, ⟨b1, rfl, rfl⟩, inferInstance⟩
end Go.Proofs.YtncegikenkpcmaaGreat
namespace Go.Proofs.YtncegikenkpcmaaGreat
open Go.RowKit
set_option linter.unusedSimpArgs false
set_option linter.unusedVariables false
set_option maxRecDepth 20000
def thV (p : Pl) : Value := .bool (decide (p ≠ (0, 0)))
abbrev rgO (pg : List Pl) : Obj := cob (pg.map thV ++ pg.flatMap plV) 131
theorem th_row {pg : List Pl} {sp : List Value} {i : Nat} (hi : i < pg.length) : ((pg.map thV ++ sp).drop (i * 1)).take 1 = [thV (plAt pg i)] := by
  rw [Nat.mul_one, List.drop_append_of_le_length (by simp; omega), ← List.map_drop, List.drop_eq_getElem_cons hi, List.map_cons, List.cons_append, List.take_succ_cons, List.take_zero]
  simp [plAt, List.getD, hi]
theorem rp_row {pg : List Pl} {i : Nat} (h : pg.length = 12) (hi : i < 12) : ((pg.map thV ++ pg.flatMap plV).drop (12 + i * 2)).take 2 = plV (plAt pg i) := by
  rw [← List.drop_drop, List.drop_left' (by simpa using h)]
  have := pg_row (pg := pg) (sp := []) (n := i) (by omega)
  rwa [List.append_nil] at this
theorem setR_back : ∀ (vs a b : List Value) (off : Nat), setR (a ++ b) (a.length + off) vs = a ++ setR b off vs
  | [], a, b, off => rfl
  | v :: vs, a, b, off => by
    rw [setR, setR, List.set_append_right _ _ (by omega), show a.length + off - a.length = off by omega, show a.length + off + 1 = a.length + (off + 1) by omega, setR_back vs]
theorem rg_set {pg : List Pl} {i : Nat} {p : Pl} (h : pg.length = 12) (hi : i < 12) (hp : okPl p = true) : setR ((pg.map thV ++ pg.flatMap plV).set (i * 1) (.bool true)) (12 + i * 2) (plV p) = (pg.set i p).map thV ++ (pg.set i p).flatMap plV := by
  have ht : thV p = .bool true := by
    have := okPl_iff.1 hp
    simp only [thV, Value.bool.injEq, decide_eq_true_eq]
    intro e; rw [e] at this; simp at this
  rw [Nat.mul_one, List.set_append_left _ _ (by simp; omega), ← ht, ← List.map_set]
  have e := setR_back (plV p) ((pg.set i p).map thV) (pg.flatMap plV) (i * 2)
  rw [show ((pg.set i p).map thV).length = 12 by simp [h]] at e
  rw [e]
  have := pg_set (pg := pg) (sp := []) (n := i) (p := p) (by omega)
  rw [List.append_nil, List.append_nil] at this
  rw [this]
theorem rgIs_spec (W0 : World) (R : List HP) (n : Int) : Spec Tryz.prog W0 129 [.int .i64 n] R (fun v B => v = .bool (isP n) ∧ B = R) := by
  refine spec_body Tryz.func129 Tryz.ntmps129 rfl rfl ?_
  refine x_seq (x_region (s_val rfl (v_assign rfl) (x_nil (n_then (x_seq (x_region (s_val rfl (v_move rfl) (s_val rfl (v_geq rfl rfl) (s_val rfl (v_move rfl) ?_)))))))))
  refine s_and rfl rfl rfl ?_ ?_
  · intro g1_3
    refine s_val rfl (v_move rfl) (s_yes rfl rfl (s_val rfl (v_lss rfl rfl) (s_val rfl (v_pick_t rfl rfl) (s_val rfl (v_assign rfl) (x_nil (n_then (x_ret (x_done (.inl rfl) (.cons (r_tmp rfl) .nil) ?_))))))))
    refine ⟨_, ⟨?_, rfl⟩, inferInstance⟩
    refine congrArg Value.bool ?_
    rw [Bool.eq_iff_iff]; simp only [isP, decide_eq_true_eq, Bool.false_eq_true, false_iff]; omega
  · intro g1_3
    refine s_no rfl rfl rfl rfl (s_val rfl (v_pick_f rfl rfl) (s_val rfl (v_assign rfl) (x_nil (n_then (x_ret (x_done (.inl rfl) (.cons (r_tmp rfl) .nil) ?_))))))
    refine ⟨_, ⟨?_, rfl⟩, inferInstance⟩
    refine congrArg Value.bool ?_
    rw [Bool.eq_iff_iff]; simp only [isP, decide_eq_true_eq, Bool.false_eq_true, false_iff]; omega
theorem rgSet_spec (W0 : World) (R : List HP) (b : Nat) (pg : List Pl) (h : Pgs pg) (n : Int) (p : Pl) : Spec Tryz.prog W0 65 [.pointer (some ⟨b, 0, none⟩), .int .i64 n, .agg (plV p).toArray] (pt b (rgO pg) :: R)
    (fun v B => v = .int .i64 (setE pg n p) ∧ B = pt b (rgO (setP pg n p)) :: R) := by
  have hl := h.len
  refine spec_body Tryz.func65 Tryz.ntmps65 rfl rfl ?_
  refine x_seq (x_region (s_do rfl (d_boxA rfl) ?_))
  rintro _ _ ⟨b1, rfl, rfl⟩
  refine s_val rfl (v_assign rfl) (x_nil (n_then (x_seq (x_seq (x_region (s_val rfl (v_move rfl) (s_do rfl (d_call Tryz.call129 rfl (rgIs_spec W0 _ n)) ?_)))))))
  rintro _ B_ ⟨rfl, hB_⟩
  obtain rfl := hB_.symm
  refine s_val rfl (v_not rfl) (s_val rfl (v_move rfl) ?_)
  refine s_or rfl rfl rfl ?_ ?_
  · intro g1_4
    refine s_no rfl rfl rfl rfl (s_no rfl rfl rfl rfl (s_val rfl (v_pick_t rfl rfl) (s_val rfl (v_move rfl) (s_no rfl rfl rfl rfl (s_no rfl rfl rfl rfl (s_no rfl rfl rfl rfl (s_val rfl (v_pick_t rfl rfl) (s_val rfl (v_move rfl) (s_no rfl rfl rfl rfl (s_no rfl rfl rfl rfl (s_no rfl rfl rfl rfl (s_val rfl (v_pick_t rfl rfl) (s_val rfl (v_move rfl) (s_no rfl rfl rfl rfl (s_no rfl rfl rfl rfl (s_no rfl rfl rfl rfl (s_val rfl (v_pick_t rfl rfl) (x_nil (n_then (x_ift rfl (x_seq (x_region (s_val rfl (v_assign rfl) ?_)))))))))))))))))))))))
    refine x_nil (n_then (x_ret (r_then (x_done (.inl rfl) (.cons (r_tmp rfl) .nil) ?_))))
    have he : setE pg n p = 1 := by
      unfold setE; rw [if_neg]
      intro hk
      have := okPl_iff.1 hk.2
      first
        | omega
        | (simp [hk.1] at g1_4)
    exact ⟨_, ⟨by simp [pack, he], by rw [setP, he, if_neg (by decide)]⟩, inferInstance⟩
  · intro g1_4
    refine s_val rfl (v_fieldAddr rfl Tryz.underlying128 rfl Tryz.sizeOf3 rfl (by first | exact Nat.zero_add _ | rfl)) ?_
    refine s_yes rfl rfl (s_val rfl (v_load Tryz.isAgg3 rfl (cell_own rfl)) ?_)
    refine s_yes rfl rfl (s_val rfl (v_lss rfl rfl) (s_val rfl (v_pick_f rfl rfl) (s_val rfl (v_move rfl) ?_)))
    refine s_or rfl rfl rfl ?_ ?_
    · intro g1_9
      refine s_no rfl rfl rfl rfl (s_no rfl rfl rfl rfl (s_val rfl (v_pick_t rfl rfl) (s_val rfl (v_move rfl) (s_no rfl rfl rfl rfl (s_no rfl rfl rfl rfl (s_no rfl rfl rfl rfl (s_val rfl (v_pick_t rfl rfl) (s_val rfl (v_move rfl) (s_no rfl rfl rfl rfl (s_no rfl rfl rfl rfl (s_no rfl rfl rfl rfl (s_val rfl (v_pick_t rfl rfl) (x_nil (n_then (x_ift rfl (x_seq (x_region (s_val rfl (v_assign rfl) (x_nil (n_then (x_ret (r_then (x_done (.inl rfl) (.cons (r_tmp rfl) .nil) ?_)))))))))))))))))))))))
      have he : setE pg n p = 1 := by
        unfold setE; rw [if_neg]
        intro hk
        have := okPl_iff.1 hk.2
        first
          | omega
          | (simp [hk.1] at g1_4)
      exact ⟨_, ⟨by simp [pack, he], by rw [setP, he, if_neg (by decide)]⟩, inferInstance⟩
    · intro g1_9
      refine s_val rfl (v_fieldAddr rfl Tryz.underlying128 rfl Tryz.sizeOf3 rfl (by first | exact Nat.zero_add _ | rfl)) ?_
      refine s_yes rfl rfl (s_val rfl (v_load Tryz.isAgg3 rfl (cell_own rfl)) ?_)
      refine s_yes rfl rfl (s_val rfl (v_geq rfl rfl) (s_val rfl (v_pick_f rfl rfl) (s_val rfl (v_move rfl) ?_)))
      refine s_or rfl rfl rfl ?_ ?_
      · intro g1_14
        refine s_no rfl rfl rfl rfl (s_no rfl rfl rfl rfl (s_val rfl (v_pick_t rfl rfl) (s_val rfl (v_move rfl) (s_no rfl rfl rfl rfl (s_no rfl rfl rfl rfl (s_no rfl rfl rfl rfl (s_val rfl (v_pick_t rfl rfl) (x_nil (n_then (x_ift rfl (x_seq (x_region (s_val rfl (v_assign rfl) (x_nil (n_then (x_ret (r_then (x_done (.inl rfl) (.cons (r_tmp rfl) .nil) ?_))))))))))))))))))
        have he : setE pg n p = 1 := by
          unfold setE; rw [if_neg]
          intro hk
          have := okPl_iff.1 hk.2
          first
            | omega
            | (simp [hk.1] at g1_4)
        exact ⟨_, ⟨by simp [pack, he], by rw [setP, he, if_neg (by decide)]⟩, inferInstance⟩
      · intro g1_14
        refine s_val rfl (v_fieldAddr rfl Tryz.underlying128 rfl Tryz.sizeOf3 rfl (by first | exact Nat.zero_add _ | rfl)) ?_
        refine s_yes rfl rfl (s_val rfl (v_load Tryz.isAgg3 rfl (cell_own rfl)) ?_)
        refine s_yes rfl rfl (s_val rfl (v_lss rfl rfl) (s_val rfl (v_pick_f rfl rfl) (s_val rfl (v_move rfl) ?_)))
        refine s_or rfl rfl rfl ?_ ?_
        · intro g1_19
          refine s_no rfl rfl rfl rfl (s_no rfl rfl rfl rfl (s_val rfl (v_pick_t rfl rfl) (x_nil (n_then (x_ift rfl (x_seq (x_region (s_val rfl (v_assign rfl) (x_nil (n_then (x_ret (r_then (x_done (.inl rfl) (.cons (r_tmp rfl) .nil) ?_)))))))))))))
          have he : setE pg n p = 1 := by
            unfold setE; rw [if_neg]
            intro hk
            have := okPl_iff.1 hk.2
            first
              | omega
              | (simp [hk.1] at g1_4)
          exact ⟨_, ⟨by simp [pack, he], by rw [setP, he, if_neg (by decide)]⟩, inferInstance⟩
        · intro g1_19
          refine s_val rfl (v_fieldAddr rfl Tryz.underlying128 rfl Tryz.sizeOf3 rfl (by first | exact Nat.zero_add _ | rfl)) ?_
          refine s_yes rfl rfl (s_val rfl (v_load Tryz.isAgg3 rfl (cell_own rfl)) ?_)
          refine s_yes rfl rfl (s_val rfl (v_gtr rfl rfl) (s_val rfl (v_pick_f rfl rfl) (x_nil (n_then ?_))))
          refine x_if rfl ?_ ?_
          · intro c1
            refine x_seq (x_region (s_val rfl (v_assign rfl) (x_nil (n_then (x_ret (r_then (x_done (.inl rfl) (.cons (r_tmp rfl) .nil) ?_)))))))
            have he : setE pg n p = 1 := by
              unfold setE; rw [if_neg]
              intro hk
              have := okPl_iff.1 hk.2
              first
                | omega
                | (simp [hk.1] at g1_4)
            exact ⟨_, ⟨by simp [pack, he], by rw [setP, he, if_neg (by decide)]⟩, inferInstance⟩
          · intro c1
            have hp : isP n = true := by simpa using g1_4
            have ho : okPl p = true := okPl_iff.2 (by omega)
            obtain ⟨i, hni, hi⟩ := isP_nat hp
            have htr := th_row (pg := pg) (sp := pg.flatMap plV) (i := i) (by omega)
            have hth : thereB pg n = decide (plAt pg i ≠ (0, 0)) := by rw [thereB, hp]; simp [hni]
            refine x_skip (n_then (x_seq (x_seq (x_region (s_val rfl (v_move rfl) (s_val rfl (v_move rfl) (s_val rfl (v_nilCheck rfl) ?_)))))))
            refine s_val rfl (v_fieldAddr rfl Tryz.underlying131 rfl Tryz.sizeOf87 rfl (by first | exact Nat.zero_add _ | rfl)) ?_
            refine s_val rfl (v_idxArr Tryz.underlying87 Tryz.sizeOf4 rfl rfl hni hi (by first | exact Nat.zero_add _ | rfl)) ?_
            refine s_val rfl (v_load Tryz.isAgg4 rfl (cells_part (vs := [thV (plAt pg i)]) htr rfl 0 _ rfl)) ?_
            refine x_nil (n_then ?_)
            refine x_if rfl ?_ ?_
            · intro c3
              have ht : thereB pg n = true := by rw [hth]; simpa using c3
              refine x_seq (x_region (s_val rfl (v_assign rfl) (x_nil (n_then (x_ret (r_then (x_done (.inl rfl) (.cons (r_tmp rfl) .nil) ?_)))))))
              have he : setE pg n p = 5 := by unfold setE; rw [if_pos ⟨hp, ho⟩, if_pos ht]
              exact ⟨_, ⟨by simp [pack, he], by rw [setP, he, if_neg (by decide)]⟩, inferInstance⟩
            · intro c3
              have ht : thereB pg n = false := by rw [hth]; simpa using c3
              have he : setE pg n p = 0 := by simp [setE, hp, ho, ht]
              refine x_skip (n_then (x_seq (x_region (s_val rfl (v_move rfl) (s_val rfl (v_move rfl) (s_val rfl (v_nilCheck rfl) ?_))))))
              refine s_val rfl (v_fieldAddr rfl Tryz.underlying131 rfl Tryz.sizeOf87 rfl (by first | exact Nat.zero_add _ | rfl)) ?_
              refine s_val rfl (v_idxArr Tryz.underlying87 Tryz.sizeOf4 rfl rfl hni hi (by first | exact Nat.zero_add _ | rfl)) ?_
              refine s_do0 (d_store Tryz.sizeOf4 rfl rfl rfl (by rw [List.length_append, List.length_map, flat_len plV_len]; omega) rfl) ?_
              rintro _ _ rfl
              refine x_nil (n_then (x_seq ?_))
              refine x_draw [(b1, 0, _)] 7 mixed rfl (sc_own sc_end) (fun hS => ?_)
              refine d_take 0 rfl rfl (by kernel_rfl) (by kernel_rfl) (by kernel_rfl) rfl hS (v_move rfl) ?_
              refine d_take 1 rfl rfl (by kernel_rfl) (by kernel_rfl) (by kernel_rfl) rfl hS (v_move rfl) ?_
              refine d_take 2 rfl rfl (by kernel_rfl) (by kernel_rfl) (by kernel_rfl) rfl hS (v_loadAgg Tryz.isAgg128 Tryz.sizeOf128 rfl (cells_sc (k := 0) rfl) rfl) ?_
              refine d_take 3 rfl rfl (by kernel_rfl) (by kernel_rfl) (by kernel_rfl) rfl hS (v_nilCheck rfl) ?_
              refine d_take 4 rfl rfl (by kernel_rfl) (by kernel_rfl) (by kernel_rfl) rfl hS (v_fieldAddr rfl Tryz.underlying131 rfl Tryz.sizeOf129 rfl (by first | exact Nat.zero_add _ | rfl)) ?_
              refine d_take 5 rfl rfl (by kernel_rfl) (by kernel_rfl) (by kernel_rfl) rfl hS (v_idxArr Tryz.underlying129 Tryz.sizeOf128 rfl rfl hni hi (by first | exact Nat.zero_add _ | rfl)) ?_
              refine d_one 6 (by kernel_rfl) rfl rfl (d_storeAgg Tryz.sizeOf128 rfl rfl rfl rfl (by rw [List.length_set, List.length_append, List.length_map, flat_len plV_len]; omega) (rg_set hl hi ho)) rfl ?_; clear hS
              rintro _ _ rfl
              refine ⟨(sc_own sc_end), fun hS => ?_⟩
              refine d_done (by kernel_rfl) ?_; clear hS
              refine n_then (x_seq (x_region (s_val rfl (v_assign rfl) (x_nil (n_then (x_ret (x_done (.inl rfl) (.cons (r_tmp rfl) .nil) ?_)))))))
              rw [show setP pg n p = pg.set i p by rw [setP, if_pos he, hni, Int.toNat_natCast]]
              exact ⟨_, ⟨by simp [pack, he], rfl⟩, inferInstance⟩
theorem rgGet_spec (W0 : World) (R : List HP) (b : Nat) (pg : List Pl) (h : Pgs pg) (n : Int) : Spec Tryz.prog W0 171 [.pointer (some ⟨b, 0, none⟩), .int .i64 n] (pt b (rgO pg) :: R)
    (fun v B => v = .tuple #[.agg (plV (gGot pg n)).toArray, .bool (thereB pg n)] ∧ B = pt b (rgO pg) :: R) := by
  have hl := h.len
  refine spec_body Tryz.func171 Tryz.ntmps171 rfl rfl ?_
  refine x_seq (x_region (s_do rfl (d_allocA Tryz.zeroValue128) ?_))
  rintro _ _ ⟨b1, rfl, rfl⟩
  refine s_val rfl (v_assign rfl) (x_nil (n_then (x_seq (x_seq (x_region (s_val rfl (v_move rfl) (s_do rfl (d_call Tryz.call129 rfl (rgIs_spec W0 _ n)) ?_)))))))
  rintro _ B_ ⟨rfl, hB_⟩
  obtain rfl := hB_.symm
  refine s_val rfl (v_not rfl) (x_nil (n_then ?_))
  refine x_if rfl ?_ ?_
  · intro c1
    refine x_seq (x_region (s_val rfl (v_build Tryz.underlying128 Tryz.zeroValue128 (sized_cons Tryz.sizeOf3 (sized_cons Tryz.sizeOf3 sized_nil)) fil_nil) ?_))
    refine s_do0 (d_storeAll Tryz.sizeOf128 rfl rfl rfl rfl rfl) ?_
    rintro _ _ rfl
    refine s_val rfl (v_assign rfl) (x_nil (n_then (x_ret (r_then (x_done (.inl rfl) (.cons (r_all Tryz.isAgg128 Tryz.sizeOf128 rfl rfl) (.cons (r_tmp rfl) .nil)) ?_)))))
    refine ⟨_, ⟨?_, rfl⟩, inferInstance⟩
    have ht : thereB pg n = false := by simp [thereB, show isP n = false by simpa using c1]
    simp [pack, gGot, ht]
  · intro c1
    have hp : isP n = true := by simpa using c1
    obtain ⟨i, hni, hi⟩ := isP_nat hp
    have htr := th_row (pg := pg) (sp := pg.flatMap plV) (i := i) (by omega)
    have hpr := rp_row (pg := pg) hl hi
    refine x_skip (n_then (x_seq ?_))
    refine x_draw [(b, 12 + i * 2, plV (plAt pg i)), (b, i * 1, [thV (plAt pg i)])] 14 mixed rfl (sc_cons (cells_part hpr rfl) (sc_cons (cells_part htr rfl) sc_end)) (fun hS => ?_)
    refine d_take 0 rfl rfl (by kernel_rfl) (by kernel_rfl) (by kernel_rfl) rfl hS (v_move rfl) ?_
    refine d_take 1 rfl rfl (by kernel_rfl) (by kernel_rfl) (by kernel_rfl) rfl hS (v_move rfl) ?_
    refine d_take 2 rfl rfl (by kernel_rfl) (by kernel_rfl) (by kernel_rfl) rfl hS (v_nilCheck rfl) ?_
    refine d_take 3 rfl rfl (by kernel_rfl) (by kernel_rfl) (by kernel_rfl) rfl hS (v_fieldAddr rfl Tryz.underlying131 rfl Tryz.sizeOf129 rfl (by first | exact Nat.zero_add _ | rfl)) ?_
    refine d_take 4 rfl rfl (by kernel_rfl) (by kernel_rfl) (by kernel_rfl) rfl hS (v_idxArr Tryz.underlying129 Tryz.sizeOf128 rfl rfl hni hi (by first | exact Nat.zero_add _ | rfl)) ?_
    refine d_take 5 rfl rfl (by kernel_rfl) (by kernel_rfl) (by kernel_rfl) rfl hS (v_loadAgg Tryz.isAgg128 Tryz.sizeOf128 rfl (cells_sc (k := 0) rfl) rfl) ?_
    refine d_take 6 rfl rfl (by kernel_rfl) (by kernel_rfl) (by kernel_rfl) rfl hS (v_move rfl) ?_
    refine d_take 7 rfl rfl (by kernel_rfl) (by kernel_rfl) (by kernel_rfl) rfl hS (v_move rfl) ?_
    refine d_take 8 rfl rfl (by kernel_rfl) (by kernel_rfl) (by kernel_rfl) rfl hS (v_nilCheck rfl) ?_
    refine d_take 9 rfl rfl (by kernel_rfl) (by kernel_rfl) (by kernel_rfl) rfl hS (v_fieldAddr rfl Tryz.underlying131 rfl Tryz.sizeOf87 rfl (by first | exact Nat.zero_add _ | rfl)) ?_
    refine d_take 10 rfl rfl (by kernel_rfl) (by kernel_rfl) (by kernel_rfl) rfl hS (v_idxArr Tryz.underlying87 Tryz.sizeOf4 rfl rfl hni hi (by first | exact Nat.zero_add _ | rfl)) ?_
    refine d_take 11 rfl rfl (by kernel_rfl) (by kernel_rfl) (by kernel_rfl) rfl hS (v_load Tryz.isAgg4 rfl (cell_sc1 (k := 1) rfl)) ?_
    refine d_one 12 (by kernel_rfl) rfl rfl (d_storeAll Tryz.sizeOf128 rfl rfl rfl rfl rfl) rfl ?_; clear hS
    rintro _ _ rfl
    refine ⟨(sc_cons (cells_part hpr rfl) (sc_cons (cells_part htr rfl) sc_end)), fun hS => ?_⟩
    refine d_take 13 rfl rfl (by kernel_rfl) (by kernel_rfl) (by kernel_rfl) rfl hS (v_assign rfl) ?_
    refine d_done (by kernel_rfl) ?_; clear hS
    refine n_then (x_ret (x_done (.inl rfl) (.cons (r_all Tryz.isAgg128 Tryz.sizeOf128 rfl rfl) (.cons (r_tmp rfl) .nil)) ?_))
    refine ⟨_, ⟨?_, rfl⟩, inferInstance⟩
    subst hni
    by_cases hz : plAt pg i = (0, 0)
    · have ht : thereB pg i = false := by simp [thereB, hz]
      simp [pack, gGot, ht, hz, thV]
    · have ht : thereB pg i = true := by simp [thereB, hz, hp]
      simp [pack, gGot, ht, hz, thV]
theorem rgAllows_spec (W0 : World) (R : List HP) (b : Nat) (pg : List Pl) (h : Pgs pg) (n kind : Int) : Spec Tryz.prog W0 170 [.pointer (some ⟨b, 0, none⟩), .int .i64 n, .int .i64 kind] (pt b (rgO pg) :: R)
    (fun v B => v = .int .i64 (alwE pg n kind) ∧ B = pt b (rgO pg) :: R) := by
  refine spec_body Tryz.func170 Tryz.ntmps170 rfl rfl ?_
  refine x_seq (x_region (s_val rfl (v_assign rfl) (x_nil (n_then (x_seq (x_region (s_val rfl (v_move rfl) (s_val rfl (v_move rfl) (s_do rfl (d_call1 Tryz.call171 rfl (rgGet_spec W0 _ b pg h n)) ?_)))))))))
  rintro _ B_ ⟨rfl, hB_⟩
  obtain rfl := hB_.symm
  refine s_val rfl (v_move rfl) (s_val rfl (v_extract rfl rfl) (s_val rfl (v_extract rfl rfl) (s_do rfl (d_allocA Tryz.zeroValue128) ?_)))
  rintro _ _ ⟨b1, rfl, rfl⟩
  refine s_do0 (d_storeAll Tryz.sizeOf128 rfl rfl rfl rfl rfl) ?_
  rintro _ _ rfl
  refine s_val rfl (v_assign rfl) (x_nil (n_then (x_seq (x_seq (x_region (s_val rfl (v_move rfl) (s_val rfl (v_not rfl) (x_nil (n_then ?_)))))))))
  refine x_if rfl ?_ ?_
  · intro c2
    refine x_seq (x_region (s_val rfl (v_assign rfl) (x_nil (n_then (x_ret (r_then (x_done (.inl rfl) (.cons (r_tmp rfl) .nil) ?_)))))))
    refine ⟨_, ⟨?_, rfl⟩, inferInstance⟩
    have ht : thereB pg n = false := by simpa using c2
    simp [pack, alwE, ht]
  · intro c2
    have ht : thereB pg n = true := by simpa using c2
    have hg := okPl_iff.1 (gGot_ok h ht)
    have hge : gGot pg n = plAt pg n.toNat := by simp [gGot, ht]
    refine x_skip (n_then (x_seq (x_seq (x_region (s_val rfl (v_move rfl) (s_val rfl (v_eql rfl rfl) (s_val rfl (v_move rfl) ?_)))))))
    refine s_and rfl rfl rfl ?_ ?_
    · intro g4_3
      refine s_val rfl (v_move rfl) (s_yes rfl rfl (s_val rfl (v_lss rfl rfl) (s_val rfl (v_pick_t rfl rfl) (s_val rfl (v_move rfl) ?_))))
      refine s_or rfl rfl rfl ?_ ?_
      · intro g4_7
        refine s_no rfl rfl rfl rfl (s_no rfl rfl rfl rfl (s_nou rfl rfl rfl (s_nou rfl rfl rfl (s_nou rfl rfl rfl (s_nou rfl rfl rfl (s_no rfl rfl rfl rfl (s_val rfl (v_pick_t rfl rfl) (s_val rfl (v_move rfl) (s_no rfl rfl rfl rfl (s_no rfl rfl rfl rfl (s_no rfl rfl rfl rfl (s_nou rfl rfl rfl (s_nou rfl rfl rfl (s_nou rfl rfl rfl (s_no rfl rfl rfl rfl (s_val rfl (v_pick_t rfl rfl) (x_nil (n_then (x_ift rfl (x_seq (x_region (s_val rfl (v_assign rfl) (x_nil ?_)))))))))))))))))))))))
        refine n_then (x_ret (r_then (x_done (.inl rfl) (.cons (r_tmp rfl) .nil) ?_)))
        refine ⟨_, ⟨?_, rfl⟩, inferInstance⟩
        have hm : mayB n (plAt pg n.toNat) kind = true := by
          rw [← hge]; simp only [mayB, decide_eq_true_eq]
          simp only [Int.tmod_eq_emod_of_nonneg (show 0 ≤ (gGot pg n).2 by omega)] at *
          omega
        simp [pack, alwE, ht, hm]
      · intro g4_7
        refine s_val rfl (v_move rfl) (s_yes rfl rfl (s_val rfl (v_eql rfl rfl) (s_yes rfl rfl (s_val rfl (v_move rfl) ?_))))
        refine s_and rfl rfl rfl ?_ ?_
        · intro g4_10
          refine s_val rfl (v_fieldAddr rfl Tryz.underlying128 rfl Tryz.sizeOf3 rfl (by first | exact Nat.zero_add _ | rfl)) ?_
          refine s_yes rfl rfl (s_val rfl (v_load Tryz.isAgg3 rfl (cell_own rfl)) ?_)
          refine s_yes rfl rfl ?_
          refine s_val rfl (v_rem rfl rfl (by decide) rfl) ?_
          refine s_yes rfl rfl (s_val rfl (v_eql rfl rfl) (s_yes rfl rfl (s_val rfl (v_pick_t rfl rfl) (s_val rfl (v_pick_f rfl rfl) (s_val rfl (v_move rfl) ?_)))))
          refine s_or rfl rfl rfl ?_ ?_
          · intro g4_17
            refine s_no rfl rfl rfl rfl (s_no rfl rfl rfl rfl (s_nou rfl rfl rfl (s_nou rfl rfl rfl (s_nou rfl rfl rfl (s_no rfl rfl rfl rfl (s_val rfl (v_pick_t rfl rfl) (x_nil (n_then (x_ift rfl (x_seq (x_region (s_val rfl (v_assign rfl) (x_nil (n_then (x_ret (r_then (x_done (.inl rfl) (.cons (r_tmp rfl) .nil) ?_)))))))))))))))))
            refine ⟨_, ⟨?_, rfl⟩, inferInstance⟩
            have hm : mayB n (plAt pg n.toNat) kind = true := by
              rw [← hge]; simp only [mayB, decide_eq_true_eq]
              simp only [Int.tmod_eq_emod_of_nonneg (show 0 ≤ (gGot pg n).2 by omega)] at *
              omega
            simp [pack, alwE, ht, hm]
          · intro g4_17
            refine s_val rfl (v_move rfl) (s_yes rfl rfl (s_val rfl (v_eql rfl rfl) (s_yes rfl rfl (s_val rfl (v_move rfl) ?_))))
            refine s_and rfl rfl rfl ?_ ?_
            · intro g4_20
              refine s_val rfl (v_fieldAddr rfl Tryz.underlying128 rfl Tryz.sizeOf3 rfl (by first | exact Nat.zero_add _ | rfl)) ?_
              refine s_yes rfl rfl (s_val rfl (v_load Tryz.isAgg3 rfl (cell_own rfl)) ?_)
              refine s_yes rfl rfl (s_val rfl (v_geq rfl rfl) (s_yes rfl rfl (s_val rfl (v_pick_t rfl rfl) (s_val rfl (v_pick_f rfl rfl) (x_nil (n_then ?_))))))
              refine x_if rfl ?_ ?_
              · intro c4
                refine x_seq (x_region (s_val rfl (v_assign rfl) (x_nil (n_then (x_ret (r_then (x_done (.inl rfl) (.cons (r_tmp rfl) .nil) ?_)))))))
                refine ⟨_, ⟨?_, rfl⟩, inferInstance⟩
                have hm : mayB n (plAt pg n.toNat) kind = true := by
                  rw [← hge]; simp only [mayB, decide_eq_true_eq]
                  simp only [Int.tmod_eq_emod_of_nonneg (show 0 ≤ (gGot pg n).2 by omega)] at *
                  omega
                simp [pack, alwE, ht, hm]
              · intro c4
                refine x_skip (n_then (x_seq (x_region (s_val rfl (v_assign rfl) (x_nil (n_then (x_ret (x_done (.inl rfl) (.cons (r_tmp rfl) .nil) ?_))))))))
                refine ⟨_, ⟨?_, rfl⟩, inferInstance⟩
                have hm : mayB n (plAt pg n.toNat) kind = false := by
                  rw [← hge, ← Bool.not_eq_true]; simp only [mayB, decide_eq_true_eq]
                  simp only [Int.tmod_eq_emod_of_nonneg (show 0 ≤ (gGot pg n).2 by omega)] at *
                  omega
                simp [pack, alwE, ht, hm]
            · intro g4_20
              refine s_no rfl rfl rfl rfl (s_no rfl rfl rfl rfl (s_yes rfl rfl (s_val rfl (v_pick_f rfl rfl) (s_val rfl (v_pick_f rfl rfl) (x_nil (n_then (x_iff rfl (x_skip (n_then (x_seq (x_region (s_val rfl (v_assign rfl) (x_nil (n_then (x_ret (x_done (.inl rfl) (.cons (r_tmp rfl) .nil) ?_))))))))))))))))
              refine ⟨_, ⟨?_, rfl⟩, inferInstance⟩
              have hm : mayB n (plAt pg n.toNat) kind = false := by
                rw [← hge, ← Bool.not_eq_true]; simp only [mayB, decide_eq_true_eq]
                simp only [Int.tmod_eq_emod_of_nonneg (show 0 ≤ (gGot pg n).2 by omega)] at *
                omega
              simp [pack, alwE, ht, hm]
        · intro g4_10
          refine s_no rfl rfl rfl rfl (s_no rfl rfl rfl rfl (s_no rfl rfl rfl rfl (s_yes rfl rfl (s_val rfl (v_pick_f rfl rfl) (s_val rfl (v_pick_f rfl rfl) (s_val rfl (v_move rfl) (s_yes rfl rfl (s_val rfl (v_move rfl) (s_yes rfl rfl (s_val rfl (v_eql rfl rfl) (s_yes rfl rfl (s_val rfl (v_move rfl) ?_))))))))))))
          refine s_and rfl rfl rfl ?_ ?_
          · intro g4_20
            refine s_val rfl (v_fieldAddr rfl Tryz.underlying128 rfl Tryz.sizeOf3 rfl (by first | exact Nat.zero_add _ | rfl)) ?_
            refine s_yes rfl rfl (s_val rfl (v_load Tryz.isAgg3 rfl (cell_own rfl)) ?_)
            refine s_yes rfl rfl (s_val rfl (v_geq rfl rfl) (s_yes rfl rfl (s_val rfl (v_pick_t rfl rfl) (s_val rfl (v_pick_f rfl rfl) (x_nil (n_then ?_))))))
            refine x_if rfl ?_ ?_
            · intro c4
              refine x_seq (x_region (s_val rfl (v_assign rfl) (x_nil (n_then (x_ret (r_then (x_done (.inl rfl) (.cons (r_tmp rfl) .nil) ?_)))))))
              refine ⟨_, ⟨?_, rfl⟩, inferInstance⟩
              have hm : mayB n (plAt pg n.toNat) kind = true := by
                rw [← hge]; simp only [mayB, decide_eq_true_eq]
                simp only [Int.tmod_eq_emod_of_nonneg (show 0 ≤ (gGot pg n).2 by omega)] at *
                omega
              simp [pack, alwE, ht, hm]
            · intro c4
              refine x_skip (n_then (x_seq (x_region (s_val rfl (v_assign rfl) (x_nil (n_then (x_ret (x_done (.inl rfl) (.cons (r_tmp rfl) .nil) ?_))))))))
              refine ⟨_, ⟨?_, rfl⟩, inferInstance⟩
              have hm : mayB n (plAt pg n.toNat) kind = false := by
                rw [← hge, ← Bool.not_eq_true]; simp only [mayB, decide_eq_true_eq]
                simp only [Int.tmod_eq_emod_of_nonneg (show 0 ≤ (gGot pg n).2 by omega)] at *
                omega
              simp [pack, alwE, ht, hm]
          · intro g4_20
            refine s_no rfl rfl rfl rfl (s_no rfl rfl rfl rfl (s_yes rfl rfl (s_val rfl (v_pick_f rfl rfl) (s_val rfl (v_pick_f rfl rfl) (x_nil (n_then (x_iff rfl (x_skip (n_then (x_seq (x_region (s_val rfl (v_assign rfl) (x_nil (n_then (x_ret (x_done (.inl rfl) (.cons (r_tmp rfl) .nil) ?_))))))))))))))))
            refine ⟨_, ⟨?_, rfl⟩, inferInstance⟩
            have hm : mayB n (plAt pg n.toNat) kind = false := by
              rw [← hge, ← Bool.not_eq_true]; simp only [mayB, decide_eq_true_eq]
              simp only [Int.tmod_eq_emod_of_nonneg (show 0 ≤ (gGot pg n).2 by omega)] at *
              omega
            simp [pack, alwE, ht, hm]
    · intro g4_3
      refine s_no rfl rfl rfl rfl (s_val rfl (v_pick_f rfl rfl) (s_val rfl (v_move rfl) (s_yes rfl rfl (s_val rfl (v_move rfl) (s_yes rfl rfl (s_val rfl (v_eql rfl rfl) (s_yes rfl rfl (s_val rfl (v_move rfl) ?_))))))))
      refine s_and rfl rfl rfl ?_ ?_
      · intro g4_10
        refine s_val rfl (v_fieldAddr rfl Tryz.underlying128 rfl Tryz.sizeOf3 rfl (by first | exact Nat.zero_add _ | rfl)) ?_
        refine s_yes rfl rfl (s_val rfl (v_load Tryz.isAgg3 rfl (cell_own rfl)) ?_)
        refine s_yes rfl rfl ?_
        refine s_val rfl (v_rem rfl rfl (by decide) rfl) ?_
        refine s_yes rfl rfl (s_val rfl (v_eql rfl rfl) (s_yes rfl rfl (s_val rfl (v_pick_t rfl rfl) (s_val rfl (v_pick_f rfl rfl) (s_val rfl (v_move rfl) ?_)))))
        refine s_or rfl rfl rfl ?_ ?_
        · intro g4_17
          refine s_no rfl rfl rfl rfl (s_no rfl rfl rfl rfl (s_nou rfl rfl rfl (s_nou rfl rfl rfl (s_nou rfl rfl rfl (s_no rfl rfl rfl rfl (s_val rfl (v_pick_t rfl rfl) (x_nil (n_then (x_ift rfl (x_seq (x_region (s_val rfl (v_assign rfl) (x_nil (n_then (x_ret (r_then (x_done (.inl rfl) (.cons (r_tmp rfl) .nil) ?_)))))))))))))))))
          refine ⟨_, ⟨?_, rfl⟩, inferInstance⟩
          have hm : mayB n (plAt pg n.toNat) kind = true := by
            rw [← hge]; simp only [mayB, decide_eq_true_eq]
            simp only [Int.tmod_eq_emod_of_nonneg (show 0 ≤ (gGot pg n).2 by omega)] at *
            omega
          simp [pack, alwE, ht, hm]
        · intro g4_17
          refine s_val rfl (v_move rfl) (s_yes rfl rfl (s_val rfl (v_eql rfl rfl) (s_yes rfl rfl (s_val rfl (v_move rfl) ?_))))
          refine s_and rfl rfl rfl ?_ ?_
          · intro g4_20
            refine s_val rfl (v_fieldAddr rfl Tryz.underlying128 rfl Tryz.sizeOf3 rfl (by first | exact Nat.zero_add _ | rfl)) ?_
            refine s_yes rfl rfl (s_val rfl (v_load Tryz.isAgg3 rfl (cell_own rfl)) ?_)
            refine s_yes rfl rfl (s_val rfl (v_geq rfl rfl) (s_yes rfl rfl (s_val rfl (v_pick_t rfl rfl) (s_val rfl (v_pick_f rfl rfl) (x_nil (n_then ?_))))))
            refine x_if rfl ?_ ?_
            · intro c4
              refine x_seq (x_region (s_val rfl (v_assign rfl) (x_nil (n_then (x_ret (r_then (x_done (.inl rfl) (.cons (r_tmp rfl) .nil) ?_)))))))
              refine ⟨_, ⟨?_, rfl⟩, inferInstance⟩
              have hm : mayB n (plAt pg n.toNat) kind = true := by
                rw [← hge]; simp only [mayB, decide_eq_true_eq]
                simp only [Int.tmod_eq_emod_of_nonneg (show 0 ≤ (gGot pg n).2 by omega)] at *
                omega
              simp [pack, alwE, ht, hm]
            · intro c4
              refine x_skip (n_then (x_seq (x_region (s_val rfl (v_assign rfl) (x_nil (n_then (x_ret (x_done (.inl rfl) (.cons (r_tmp rfl) .nil) ?_))))))))
              refine ⟨_, ⟨?_, rfl⟩, inferInstance⟩
              have hm : mayB n (plAt pg n.toNat) kind = false := by
                rw [← hge, ← Bool.not_eq_true]; simp only [mayB, decide_eq_true_eq]
                simp only [Int.tmod_eq_emod_of_nonneg (show 0 ≤ (gGot pg n).2 by omega)] at *
                omega
              simp [pack, alwE, ht, hm]
          · intro g4_20
            refine s_no rfl rfl rfl rfl (s_no rfl rfl rfl rfl (s_yes rfl rfl (s_val rfl (v_pick_f rfl rfl) (s_val rfl (v_pick_f rfl rfl) (x_nil (n_then (x_iff rfl (x_skip (n_then (x_seq (x_region (s_val rfl (v_assign rfl) (x_nil (n_then (x_ret (x_done (.inl rfl) (.cons (r_tmp rfl) .nil) ?_))))))))))))))))
            refine ⟨_, ⟨?_, rfl⟩, inferInstance⟩
            have hm : mayB n (plAt pg n.toNat) kind = false := by
              rw [← hge, ← Bool.not_eq_true]; simp only [mayB, decide_eq_true_eq]
              simp only [Int.tmod_eq_emod_of_nonneg (show 0 ≤ (gGot pg n).2 by omega)] at *
              omega
            simp [pack, alwE, ht, hm]
      · intro g4_10
        refine s_no rfl rfl rfl rfl (s_no rfl rfl rfl rfl (s_no rfl rfl rfl rfl (s_yes rfl rfl (s_val rfl (v_pick_f rfl rfl) (s_val rfl (v_pick_f rfl rfl) (s_val rfl (v_move rfl) (s_yes rfl rfl (s_val rfl (v_move rfl) (s_yes rfl rfl (s_val rfl (v_eql rfl rfl) (s_yes rfl rfl (s_val rfl (v_move rfl) ?_))))))))))))
        refine s_and rfl rfl rfl ?_ ?_
        · intro g4_20
          refine s_val rfl (v_fieldAddr rfl Tryz.underlying128 rfl Tryz.sizeOf3 rfl (by first | exact Nat.zero_add _ | rfl)) ?_
          refine s_yes rfl rfl (s_val rfl (v_load Tryz.isAgg3 rfl (cell_own rfl)) ?_)
          refine s_yes rfl rfl (s_val rfl (v_geq rfl rfl) (s_yes rfl rfl (s_val rfl (v_pick_t rfl rfl) (s_val rfl (v_pick_f rfl rfl) (x_nil (n_then ?_))))))
          refine x_if rfl ?_ ?_
          · intro c4
            refine x_seq (x_region (s_val rfl (v_assign rfl) (x_nil (n_then (x_ret (r_then (x_done (.inl rfl) (.cons (r_tmp rfl) .nil) ?_)))))))
            refine ⟨_, ⟨?_, rfl⟩, inferInstance⟩
            have hm : mayB n (plAt pg n.toNat) kind = true := by
              rw [← hge]; simp only [mayB, decide_eq_true_eq]
              simp only [Int.tmod_eq_emod_of_nonneg (show 0 ≤ (gGot pg n).2 by omega)] at *
              omega
            simp [pack, alwE, ht, hm]
          · intro c4
            refine x_skip (n_then (x_seq (x_region (s_val rfl (v_assign rfl) (x_nil (n_then (x_ret (x_done (.inl rfl) (.cons (r_tmp rfl) .nil) ?_))))))))
            refine ⟨_, ⟨?_, rfl⟩, inferInstance⟩
            have hm : mayB n (plAt pg n.toNat) kind = false := by
              rw [← hge, ← Bool.not_eq_true]; simp only [mayB, decide_eq_true_eq]
              simp only [Int.tmod_eq_emod_of_nonneg (show 0 ≤ (gGot pg n).2 by omega)] at *
              omega
            simp [pack, alwE, ht, hm]
        · intro g4_20
          refine s_no rfl rfl rfl rfl (s_no rfl rfl rfl rfl (s_yes rfl rfl (s_val rfl (v_pick_f rfl rfl) (s_val rfl (v_pick_f rfl rfl) (x_nil (n_then (x_iff rfl (x_skip (n_then (x_seq (x_region (s_val rfl (v_assign rfl) (x_nil (n_then (x_ret (x_done (.inl rfl) (.cons (r_tmp rfl) .nil) ?_))))))))))))))))
          refine ⟨_, ⟨?_, rfl⟩, inferInstance⟩
          have hm : mayB n (plAt pg n.toNat) kind = false := by
            rw [← hge, ← Bool.not_eq_true]; simp only [mayB, decide_eq_true_eq]
            simp only [Int.tmod_eq_emod_of_nonneg (show 0 ≤ (gGot pg n).2 by omega)] at *
            omega
          simp [pack, alwE, ht, hm]
end Go.Proofs.YtncegikenkpcmaaGreat
namespace Go.Proofs.YtncegikenkpcmaaGreat
open Go.RowKit
set_option linter.unusedSimpArgs false
set_option linter.unusedVariables false
set_option maxRecDepth 20000
theorem isF_iff {n : Nat} {f : Int} : isF n f = true ↔ 0 ≤ f ∧ f < n := by simp [isF]
def wrV (d : Nat) : List Value := (List.range 12).map (fun i => .bool (Nat.testBit d i))
abbrev rvO (qs qm d : Nat) : Obj := cob (.pointer (some ⟨qs, 0, none⟩) :: .pointer (some ⟨qm, 0, none⟩) :: wrV d) 89
theorem rvFind_spec (W0 : World) (R : List HP) (qv qs qm d : Nat) (fr : List Frm) (pg : List Pl) (h : Pgs pg) (pa : Nat) (hpa : pa < 4294967296) (w kind : Int) :
    Spec Tryz.prog W0 106 [.pointer (some ⟨qv, 0, none⟩), .int .u32 pa, .int .i64 w, .int .i64 kind] (pt qv (rvO qs qm d) :: rstoH qs fr :: pt qm (rgO pg) :: R)
      (fun v B => v = .tuple #[.agg (fndV fr.length pg pa w kind).toArray, .int .i64 (fndE fr.length pg pa w kind)] ∧ B = pt qv (rvO qs qm d) :: rstoH qs fr :: pt qm (rgO pg) :: R) := by
  refine spec_body Tryz.func106 Tryz.ntmps106 rfl rfl ?_
  refine x_seq (x_region (s_do rfl (d_allocA Tryz.zeroValue196) ?_))
  rintro _ _ ⟨b1, rfl, rfl⟩
  refine s_val rfl (v_assign rfl) (x_nil (n_then (x_seq (x_seq (x_region (s_val rfl (v_move rfl) (s_val rfl (v_neq rfl rfl) (s_val rfl (v_move rfl) ?_))))))))
  refine s_and rfl rfl rfl ?_ ?_
  · intro g1_3
    refine s_val rfl (v_move rfl) (s_yes rfl rfl (s_val rfl (v_neq rfl rfl) (s_val rfl (v_pick_t rfl rfl) (s_val rfl (v_move rfl) ?_))))
    refine s_and rfl rfl rfl ?_ ?_
    · intro g1_7
      refine s_val rfl (v_move rfl) (s_yes rfl rfl (s_val rfl (v_neq rfl rfl) (s_val rfl (v_pick_t rfl rfl) (s_val rfl (v_move rfl) ?_))))
      refine s_or rfl rfl rfl ?_ ?_
      · intro g1_11
        refine s_no rfl rfl rfl rfl (s_no rfl rfl rfl rfl (s_no rfl rfl rfl rfl (s_no rfl rfl rfl rfl (s_val rfl (v_pick_t rfl rfl) (x_nil (n_then (x_ift rfl (x_seq (x_region (s_val rfl (v_build Tryz.underlying196 Tryz.zeroValue196 (sized_cons Tryz.sizeOf3 (sized_cons Tryz.sizeOf3 (sized_cons Tryz.sizeOf3 (sized_cons Tryz.sizeOf4 sized_nil)))) fil_nil) ?_))))))))))
        refine s_do0 (d_storeAll Tryz.sizeOf196 rfl rfl rfl rfl rfl) ?_
        rintro _ _ rfl
        refine s_val rfl (v_assign rfl) (x_nil (n_then (x_ret (r_then (x_done (.inl rfl) (.cons (r_all Tryz.isAgg196 Tryz.sizeOf196 rfl rfl) (.cons (r_tmp rfl) .nil)) ?_)))))
        refine ⟨_, ⟨?_, rfl⟩, inferInstance⟩
        have ha : alB pa w = false := by
          rw [← Bool.not_eq_true]; simp only [alB, decide_eq_true_eq]
          rintro ⟨q1, q2⟩
          first
            | omega
            | (rcases q1 with rfl | rfl | rfl <;> omega)
        have he : fndE fr.length pg pa w kind = 1 := by simp [fndE, ha]
        simp [pack, fndV, he]
      · intro g1_11
        refine s_val rfl (v_move rfl) (s_yes rfl rfl (s_val rfl (v_move rfl) (s_yes rfl rfl ?_)))
        refine s_val rfl (v_conv Tryz.underlying3 Tryz.underlying47 rfl (w32u (by omega))) ?_
        refine s_yes rfl rfl ?_
        refine s_val rfl (v_rem rfl rfl (by omega) (Int.tmod_eq_emod_of_nonneg (by omega))) ?_
        refine s_yes rfl rfl (s_val rfl (v_neq rfl rfl) (s_val rfl (v_pick_f rfl rfl) (x_nil (n_then ?_))))
        refine x_if rfl ?_ ?_
        · intro c1
          refine x_seq (x_region (s_val rfl (v_build Tryz.underlying196 Tryz.zeroValue196 (sized_cons Tryz.sizeOf3 (sized_cons Tryz.sizeOf3 (sized_cons Tryz.sizeOf3 (sized_cons Tryz.sizeOf4 sized_nil)))) fil_nil) ?_))
          refine s_do0 (d_storeAll Tryz.sizeOf196 rfl rfl rfl rfl rfl) ?_
          rintro _ _ rfl
          refine s_val rfl (v_assign rfl) (x_nil (n_then (x_ret (r_then (x_done (.inl rfl) (.cons (r_all Tryz.isAgg196 Tryz.sizeOf196 rfl rfl) (.cons (r_tmp rfl) .nil)) ?_)))))
          refine ⟨_, ⟨?_, rfl⟩, inferInstance⟩
          have ha : alB pa w = false := by
            rw [← Bool.not_eq_true]; simp only [alB, decide_eq_true_eq]
            rintro ⟨q1, q2⟩
            first
              | omega
              | (rcases q1 with rfl | rfl | rfl <;> omega)
          have he : fndE fr.length pg pa w kind = 1 := by simp [fndE, ha]
          simp [pack, fndV, he]
        · intro c1
          have ha : alB pa w = true := by
            simp only [alB, decide_eq_true_eq]
            refine ⟨by omega, ?_⟩
            have : w = 1 ∨ w = 2 ∨ w = 4 := by omega
            rcases this with rfl | rfl | rfl <;> omega
          refine x_skip (n_then (x_seq (x_seq (x_region (s_val rfl (v_move rfl) (s_val rfl (v_geq rfl rfl) (x_nil (n_then ?_))))))))
          refine x_if rfl ?_ ?_
          · intro c3
            refine x_seq (x_region (s_val rfl (v_build Tryz.underlying196 Tryz.zeroValue196 (sized_cons Tryz.sizeOf3 (sized_cons Tryz.sizeOf3 (sized_cons Tryz.sizeOf3 (sized_cons Tryz.sizeOf4 sized_nil)))) fil_nil) ?_))
            refine s_do0 (d_storeAll Tryz.sizeOf196 rfl rfl rfl rfl rfl) ?_
            rintro _ _ rfl
            refine s_val rfl (v_assign rfl) (x_nil (n_then (x_ret (r_then (x_done (.inl rfl) (.cons (r_all Tryz.isAgg196 Tryz.sizeOf196 rfl rfl) (.cons (r_tmp rfl) .nil)) ?_)))))
            refine ⟨_, ⟨?_, rfl⟩, inferInstance⟩
            have he : fndE fr.length pg pa w kind = 2 := by unfold fndE; rw [if_pos ha, if_neg (by omega)]
            simp [pack, fndV, he]
          · intro c3
            refine x_skip (n_then (x_seq (x_region (s_val rfl (v_move rfl) ?_))))
            refine s_val rfl (v_quo rfl rfl (by decide) ((congrArg (IntKind.wrap .u32) (tdivN pa 64)).trans (w32u (by omega)))) ?_
            refine s_val rfl (v_conv Tryz.underlying47 Tryz.underlying3 rfl (w64 (by omega))) ?_
            refine s_val rfl (v_assign rfl) (x_nil (n_then (x_seq (x_region (s_val rfl (v_move rfl) (s_val rfl (v_nilCheck rfl) ?_))))))
            refine s_val rfl (v_fieldAddr rfl Tryz.underlying89 rfl Tryz.sizeOf86 rfl (by first | exact Nat.zero_add _ | rfl)) ?_
            refine s_val rfl (v_load Tryz.isAgg86 rfl (cell_own rfl)) ?_
            refine s_val rfl (v_move rfl) (s_val rfl (v_move rfl) (s_do rfl (d_call1 Tryz.call170 rfl (rgAllows_spec W0 _ qm pg h ((pa / 64 : Nat) : Int) kind)) ?_))
            rintro _ B_ ⟨rfl, hB_⟩
            obtain rfl := hB_.symm
            refine s_val rfl (v_assign rfl) (x_nil (n_then (x_seq (x_seq (x_region (s_val rfl (v_move rfl) (s_val rfl (v_neq rfl rfl) (x_nil (n_then ?_)))))))))
            refine x_if rfl ?_ ?_
            · intro c7
              refine x_seq (x_region (s_val rfl (v_build Tryz.underlying196 Tryz.zeroValue196 (sized_cons Tryz.sizeOf3 (sized_cons Tryz.sizeOf3 (sized_cons Tryz.sizeOf3 (sized_cons Tryz.sizeOf4 sized_nil)))) fil_nil) ?_))
              refine s_val rfl (v_move rfl) (s_do0 (d_storeAll Tryz.sizeOf196 rfl rfl rfl rfl rfl) ?_)
              rintro _ _ rfl
              refine s_val rfl (v_assign rfl) (x_nil (n_then (x_ret (r_then (x_done (.inl rfl) (.cons (r_all Tryz.isAgg196 Tryz.sizeOf196 rfl rfl) (.cons (r_tmp rfl) .nil)) ?_)))))
              refine ⟨_, ⟨?_, rfl⟩, inferInstance⟩
              have he : fndE fr.length pg pa w kind = alwE pg ((pa / 64 : Nat) : Int) kind := by unfold fndE; rw [if_pos ha, if_pos (by omega), if_neg c7]
              rw [fndV, if_neg (by rw [he]; exact c7), he]; rfl
            · intro c7
              have hz : alwE pg ((pa / 64 : Nat) : Int) kind = 0 := by simpa using c7
              have hth : thereB pg ((pa / 64 : Nat) : Int) = true := by
                unfold alwE at hz; split at hz
                · assumption
                · omega
              have hk := okPl_iff.1 (gGot_ok h hth)
              refine x_skip (n_then (x_seq (x_region (s_val rfl (v_move rfl) (s_val rfl (v_nilCheck rfl) ?_)))))
              refine s_val rfl (v_fieldAddr rfl Tryz.underlying89 rfl Tryz.sizeOf86 rfl (by first | exact Nat.zero_add _ | rfl)) ?_
              refine s_val rfl (v_load Tryz.isAgg86 rfl (cell_own rfl)) ?_
              refine s_val rfl (v_move rfl) (s_do rfl (d_call1 Tryz.call171 rfl (rgGet_spec W0 _ qm pg h ((pa / 64 : Nat) : Int))) ?_)
              rintro _ B_ ⟨rfl, hB_⟩
              obtain rfl := hB_.symm
              refine s_val rfl (v_move rfl) (s_val rfl (v_extract rfl rfl) (s_val rfl (v_extract rfl rfl) (s_do rfl (d_allocA Tryz.zeroValue128) ?_)))
              rintro _ _ ⟨bp, rfl, rfl⟩
              refine s_do0 (d_storeAll Tryz.sizeOf128 rfl rfl rfl rfl rfl) ?_
              rintro _ _ rfl
              refine s_val rfl (v_assign rfl) (x_nil (n_then (x_seq (x_seq ?_))))
              refine x_draw [(bp, 0, _), (qv, 0, _)] 8 mixed rfl (sc_own (sc_own sc_end)) (fun hS => ?_)
              refine d_take 0 rfl rfl (by kernel_rfl) (by kernel_rfl) (by kernel_rfl) rfl hS (v_move rfl) ?_
              refine d_take 1 rfl rfl (by kernel_rfl) (by kernel_rfl) (by kernel_rfl) rfl hS (v_nilCheck rfl) ?_
              refine d_take 2 rfl rfl (by kernel_rfl) (by kernel_rfl) (by kernel_rfl) rfl hS (v_fieldAddr rfl Tryz.underlying89 rfl Tryz.sizeOf85 rfl (by first | exact Nat.zero_add _ | rfl)) ?_
              refine d_take 3 rfl rfl (by kernel_rfl) (by kernel_rfl) (by kernel_rfl) rfl hS (v_load Tryz.isAgg85 rfl (by first | exact cell_sc0 (k := 0) rfl rfl | exact cell_sc0 (k := 1) rfl rfl)) ?_
              refine d_take 4 rfl rfl (by kernel_rfl) (by kernel_rfl) (by kernel_rfl) rfl hS (v_fieldAddr rfl Tryz.underlying128 rfl Tryz.sizeOf3 rfl (by first | exact Nat.zero_add _ | rfl)) ?_
              refine d_take 5 rfl rfl (by kernel_rfl) (by kernel_rfl) (by kernel_rfl) rfl hS (v_load Tryz.isAgg3 rfl (by first | exact cell_sc0 (k := 0) rfl rfl | exact cell_sc0 (k := 1) rfl rfl)) ?_
              refine d_one 6 (by kernel_rfl) rfl rfl (d_call1 Tryz.call172 rfl (rfIs_spec W0 _ qs fr _)) rfl ?_; clear hS
              rintro _ B_ ⟨rfl, hB_⟩
              obtain rfl := hB_.symm
              refine ⟨(sc_own (sc_own sc_end)), fun hS => ?_⟩
              refine d_take 7 rfl rfl (by kernel_rfl) (by kernel_rfl) (by kernel_rfl) rfl hS (v_not rfl) ?_
              refine d_done (by kernel_rfl) ?_; clear hS
              refine n_then ?_
              refine x_if rfl ?_ ?_
              · intro c10
                refine x_seq (x_region (s_val rfl (v_build Tryz.underlying196 Tryz.zeroValue196 (sized_cons Tryz.sizeOf3 (sized_cons Tryz.sizeOf3 (sized_cons Tryz.sizeOf3 (sized_cons Tryz.sizeOf4 sized_nil)))) fil_nil) ?_))
                refine s_do0 (d_storeAll Tryz.sizeOf196 rfl rfl rfl rfl rfl) ?_
                rintro _ _ rfl
                refine s_val rfl (v_assign rfl) (x_nil (n_then (x_ret (r_then (x_done (.inl rfl) (.cons (r_all Tryz.isAgg196 Tryz.sizeOf196 rfl rfl) (.cons (r_tmp rfl) .nil)) ?_)))))
                refine ⟨_, ⟨?_, rfl⟩, inferInstance⟩
                have hn : ¬ (gGot pg ((pa / 64 : Nat) : Int)).1 < fr.length := by
                  rw [isF_iff] at c10; omega
                have he : fndE fr.length pg pa w kind = 7 := by unfold fndE; rw [if_pos ha, if_pos (by omega), if_pos hz, if_neg hn]
                simp [pack, fndV, he]
              · intro c10
                refine x_skip (n_then (x_seq (x_region (s_val rfl (v_move rfl) ?_))))
                refine s_val rfl (v_fieldAddr rfl Tryz.underlying128 rfl Tryz.sizeOf3 rfl (by first | exact Nat.zero_add _ | rfl)) ?_
                refine s_val rfl (v_load Tryz.isAgg3 rfl (cell_own rfl)) ?_
                refine s_val rfl (v_move rfl) ?_
                refine s_val rfl (v_rem rfl rfl (by decide) (tmodN pa 64)) ?_
                refine s_val rfl (v_conv Tryz.underlying47 Tryz.underlying3 rfl (w64 (by omega))) ?_
                refine s_val rfl (v_build Tryz.underlying196 Tryz.zeroValue196 (sized_cons Tryz.sizeOf3 (sized_cons Tryz.sizeOf3 (sized_cons Tryz.sizeOf3 (sized_cons Tryz.sizeOf4 sized_nil)))) (fil_scal rfl Tryz.sizeOf3 rfl rfl (Nat.le_of_ble_eq_true rfl) SetL.eq (fil_scal rfl Tryz.sizeOf3 rfl rfl (Nat.le_of_ble_eq_true rfl) SetL.eq (fil_scal rfl Tryz.sizeOf3 rfl rfl (Nat.le_of_ble_eq_true rfl) SetL.eq fil_nil)))) ?_
                refine s_do0 (d_storeAll Tryz.sizeOf196 rfl rfl rfl rfl rfl) ?_
                rintro _ _ rfl
                refine s_val rfl (v_assign rfl) (x_nil (n_then (x_ret (x_done (.inl rfl) (.cons (r_all Tryz.isAgg196 Tryz.sizeOf196 rfl rfl) (.cons (r_tmp rfl) .nil)) ?_))))
                refine ⟨_, ⟨?_, rfl⟩, inferInstance⟩
                have hn : (gGot pg ((pa / 64 : Nat) : Int)).1 < fr.length := by
                  rw [isF_iff] at c10; omega
                have he : fndE fr.length pg pa w kind = 0 := by unfold fndE; rw [if_pos ha, if_pos (by omega), if_pos hz, if_pos hn]
                simp [pack, fndV, he]
    · intro g1_7
      refine s_no rfl rfl rfl rfl (s_val rfl (v_pick_f rfl rfl) (s_val rfl (v_move rfl) (s_yes rfl rfl (s_val rfl (v_move rfl) (s_yes rfl rfl (s_val rfl (v_move rfl) (s_yes rfl rfl ?_)))))))
      refine s_val rfl (v_conv Tryz.underlying3 Tryz.underlying47 rfl (w32u (by omega))) ?_
      refine s_yes rfl rfl ?_
      refine s_val rfl (v_rem rfl rfl (by omega) (Int.tmod_eq_emod_of_nonneg (by omega))) ?_
      refine s_yes rfl rfl (s_val rfl (v_neq rfl rfl) (s_val rfl (v_pick_f rfl rfl) (x_nil (n_then ?_))))
      refine x_if rfl ?_ ?_
      · intro c1
        refine x_seq (x_region (s_val rfl (v_build Tryz.underlying196 Tryz.zeroValue196 (sized_cons Tryz.sizeOf3 (sized_cons Tryz.sizeOf3 (sized_cons Tryz.sizeOf3 (sized_cons Tryz.sizeOf4 sized_nil)))) fil_nil) ?_))
        refine s_do0 (d_storeAll Tryz.sizeOf196 rfl rfl rfl rfl rfl) ?_
        rintro _ _ rfl
        refine s_val rfl (v_assign rfl) (x_nil (n_then (x_ret (r_then (x_done (.inl rfl) (.cons (r_all Tryz.isAgg196 Tryz.sizeOf196 rfl rfl) (.cons (r_tmp rfl) .nil)) ?_)))))
        refine ⟨_, ⟨?_, rfl⟩, inferInstance⟩
        have ha : alB pa w = false := by
          rw [← Bool.not_eq_true]; simp only [alB, decide_eq_true_eq]
          rintro ⟨q1, q2⟩
          first
            | omega
            | (rcases q1 with rfl | rfl | rfl <;> omega)
        have he : fndE fr.length pg pa w kind = 1 := by simp [fndE, ha]
        simp [pack, fndV, he]
      · intro c1
        have ha : alB pa w = true := by
          simp only [alB, decide_eq_true_eq]
          refine ⟨by omega, ?_⟩
          have : w = 1 ∨ w = 2 ∨ w = 4 := by omega
          rcases this with rfl | rfl | rfl <;> omega
        refine x_skip (n_then (x_seq (x_seq (x_region (s_val rfl (v_move rfl) (s_val rfl (v_geq rfl rfl) (x_nil (n_then ?_))))))))
        refine x_if rfl ?_ ?_
        · intro c3
          refine x_seq (x_region (s_val rfl (v_build Tryz.underlying196 Tryz.zeroValue196 (sized_cons Tryz.sizeOf3 (sized_cons Tryz.sizeOf3 (sized_cons Tryz.sizeOf3 (sized_cons Tryz.sizeOf4 sized_nil)))) fil_nil) ?_))
          refine s_do0 (d_storeAll Tryz.sizeOf196 rfl rfl rfl rfl rfl) ?_
          rintro _ _ rfl
          refine s_val rfl (v_assign rfl) (x_nil (n_then (x_ret (r_then (x_done (.inl rfl) (.cons (r_all Tryz.isAgg196 Tryz.sizeOf196 rfl rfl) (.cons (r_tmp rfl) .nil)) ?_)))))
          refine ⟨_, ⟨?_, rfl⟩, inferInstance⟩
          have he : fndE fr.length pg pa w kind = 2 := by unfold fndE; rw [if_pos ha, if_neg (by omega)]
          simp [pack, fndV, he]
        · intro c3
          refine x_skip (n_then (x_seq (x_region (s_val rfl (v_move rfl) ?_))))
          refine s_val rfl (v_quo rfl rfl (by decide) ((congrArg (IntKind.wrap .u32) (tdivN pa 64)).trans (w32u (by omega)))) ?_
          refine s_val rfl (v_conv Tryz.underlying47 Tryz.underlying3 rfl (w64 (by omega))) ?_
          refine s_val rfl (v_assign rfl) (x_nil (n_then (x_seq (x_region (s_val rfl (v_move rfl) (s_val rfl (v_nilCheck rfl) ?_))))))
          refine s_val rfl (v_fieldAddr rfl Tryz.underlying89 rfl Tryz.sizeOf86 rfl (by first | exact Nat.zero_add _ | rfl)) ?_
          refine s_val rfl (v_load Tryz.isAgg86 rfl (cell_own rfl)) ?_
          refine s_val rfl (v_move rfl) (s_val rfl (v_move rfl) (s_do rfl (d_call1 Tryz.call170 rfl (rgAllows_spec W0 _ qm pg h ((pa / 64 : Nat) : Int) kind)) ?_))
          rintro _ B_ ⟨rfl, hB_⟩
          obtain rfl := hB_.symm
          refine s_val rfl (v_assign rfl) (x_nil (n_then (x_seq (x_seq (x_region (s_val rfl (v_move rfl) (s_val rfl (v_neq rfl rfl) (x_nil (n_then ?_)))))))))
          refine x_if rfl ?_ ?_
          · intro c7
            refine x_seq (x_region (s_val rfl (v_build Tryz.underlying196 Tryz.zeroValue196 (sized_cons Tryz.sizeOf3 (sized_cons Tryz.sizeOf3 (sized_cons Tryz.sizeOf3 (sized_cons Tryz.sizeOf4 sized_nil)))) fil_nil) ?_))
            refine s_val rfl (v_move rfl) (s_do0 (d_storeAll Tryz.sizeOf196 rfl rfl rfl rfl rfl) ?_)
            rintro _ _ rfl
            refine s_val rfl (v_assign rfl) (x_nil (n_then (x_ret (r_then (x_done (.inl rfl) (.cons (r_all Tryz.isAgg196 Tryz.sizeOf196 rfl rfl) (.cons (r_tmp rfl) .nil)) ?_)))))
            refine ⟨_, ⟨?_, rfl⟩, inferInstance⟩
            have he : fndE fr.length pg pa w kind = alwE pg ((pa / 64 : Nat) : Int) kind := by unfold fndE; rw [if_pos ha, if_pos (by omega), if_neg c7]
            rw [fndV, if_neg (by rw [he]; exact c7), he]; rfl
          · intro c7
            have hz : alwE pg ((pa / 64 : Nat) : Int) kind = 0 := by simpa using c7
            have hth : thereB pg ((pa / 64 : Nat) : Int) = true := by
              unfold alwE at hz; split at hz
              · assumption
              · omega
            have hk := okPl_iff.1 (gGot_ok h hth)
            refine x_skip (n_then (x_seq (x_region (s_val rfl (v_move rfl) (s_val rfl (v_nilCheck rfl) ?_)))))
            refine s_val rfl (v_fieldAddr rfl Tryz.underlying89 rfl Tryz.sizeOf86 rfl (by first | exact Nat.zero_add _ | rfl)) ?_
            refine s_val rfl (v_load Tryz.isAgg86 rfl (cell_own rfl)) ?_
            refine s_val rfl (v_move rfl) (s_do rfl (d_call1 Tryz.call171 rfl (rgGet_spec W0 _ qm pg h ((pa / 64 : Nat) : Int))) ?_)
            rintro _ B_ ⟨rfl, hB_⟩
            obtain rfl := hB_.symm
            refine s_val rfl (v_move rfl) (s_val rfl (v_extract rfl rfl) (s_val rfl (v_extract rfl rfl) (s_do rfl (d_allocA Tryz.zeroValue128) ?_)))
            rintro _ _ ⟨bp, rfl, rfl⟩
            refine s_do0 (d_storeAll Tryz.sizeOf128 rfl rfl rfl rfl rfl) ?_
            rintro _ _ rfl
            refine s_val rfl (v_assign rfl) (x_nil (n_then (x_seq (x_seq ?_))))
            refine x_draw [(bp, 0, _), (qv, 0, _)] 8 mixed rfl (sc_own (sc_own sc_end)) (fun hS => ?_)
            refine d_take 0 rfl rfl (by kernel_rfl) (by kernel_rfl) (by kernel_rfl) rfl hS (v_move rfl) ?_
            refine d_take 1 rfl rfl (by kernel_rfl) (by kernel_rfl) (by kernel_rfl) rfl hS (v_nilCheck rfl) ?_
            refine d_take 2 rfl rfl (by kernel_rfl) (by kernel_rfl) (by kernel_rfl) rfl hS (v_fieldAddr rfl Tryz.underlying89 rfl Tryz.sizeOf85 rfl (by first | exact Nat.zero_add _ | rfl)) ?_
            refine d_take 3 rfl rfl (by kernel_rfl) (by kernel_rfl) (by kernel_rfl) rfl hS (v_load Tryz.isAgg85 rfl (by first | exact cell_sc0 (k := 0) rfl rfl | exact cell_sc0 (k := 1) rfl rfl)) ?_
            refine d_take 4 rfl rfl (by kernel_rfl) (by kernel_rfl) (by kernel_rfl) rfl hS (v_fieldAddr rfl Tryz.underlying128 rfl Tryz.sizeOf3 rfl (by first | exact Nat.zero_add _ | rfl)) ?_
            refine d_take 5 rfl rfl (by kernel_rfl) (by kernel_rfl) (by kernel_rfl) rfl hS (v_load Tryz.isAgg3 rfl (by first | exact cell_sc0 (k := 0) rfl rfl | exact cell_sc0 (k := 1) rfl rfl)) ?_
            refine d_one 6 (by kernel_rfl) rfl rfl (d_call1 Tryz.call172 rfl (rfIs_spec W0 _ qs fr _)) rfl ?_; clear hS
            rintro _ B_ ⟨rfl, hB_⟩
            obtain rfl := hB_.symm
            refine ⟨(sc_own (sc_own sc_end)), fun hS => ?_⟩
            refine d_take 7 rfl rfl (by kernel_rfl) (by kernel_rfl) (by kernel_rfl) rfl hS (v_not rfl) ?_
            refine d_done (by kernel_rfl) ?_; clear hS
            refine n_then ?_
            refine x_if rfl ?_ ?_
            · intro c10
              refine x_seq (x_region (s_val rfl (v_build Tryz.underlying196 Tryz.zeroValue196 (sized_cons Tryz.sizeOf3 (sized_cons Tryz.sizeOf3 (sized_cons Tryz.sizeOf3 (sized_cons Tryz.sizeOf4 sized_nil)))) fil_nil) ?_))
              refine s_do0 (d_storeAll Tryz.sizeOf196 rfl rfl rfl rfl rfl) ?_
              rintro _ _ rfl
              refine s_val rfl (v_assign rfl) (x_nil (n_then (x_ret (r_then (x_done (.inl rfl) (.cons (r_all Tryz.isAgg196 Tryz.sizeOf196 rfl rfl) (.cons (r_tmp rfl) .nil)) ?_)))))
              refine ⟨_, ⟨?_, rfl⟩, inferInstance⟩
              have hn : ¬ (gGot pg ((pa / 64 : Nat) : Int)).1 < fr.length := by
                rw [isF_iff] at c10; omega
              have he : fndE fr.length pg pa w kind = 7 := by unfold fndE; rw [if_pos ha, if_pos (by omega), if_pos hz, if_neg hn]
              simp [pack, fndV, he]
            · intro c10
              refine x_skip (n_then (x_seq (x_region (s_val rfl (v_move rfl) ?_))))
              refine s_val rfl (v_fieldAddr rfl Tryz.underlying128 rfl Tryz.sizeOf3 rfl (by first | exact Nat.zero_add _ | rfl)) ?_
              refine s_val rfl (v_load Tryz.isAgg3 rfl (cell_own rfl)) ?_
              refine s_val rfl (v_move rfl) ?_
              refine s_val rfl (v_rem rfl rfl (by decide) (tmodN pa 64)) ?_
              refine s_val rfl (v_conv Tryz.underlying47 Tryz.underlying3 rfl (w64 (by omega))) ?_
              refine s_val rfl (v_build Tryz.underlying196 Tryz.zeroValue196 (sized_cons Tryz.sizeOf3 (sized_cons Tryz.sizeOf3 (sized_cons Tryz.sizeOf3 (sized_cons Tryz.sizeOf4 sized_nil)))) (fil_scal rfl Tryz.sizeOf3 rfl rfl (Nat.le_of_ble_eq_true rfl) SetL.eq (fil_scal rfl Tryz.sizeOf3 rfl rfl (Nat.le_of_ble_eq_true rfl) SetL.eq (fil_scal rfl Tryz.sizeOf3 rfl rfl (Nat.le_of_ble_eq_true rfl) SetL.eq fil_nil)))) ?_
              refine s_do0 (d_storeAll Tryz.sizeOf196 rfl rfl rfl rfl rfl) ?_
              rintro _ _ rfl
              refine s_val rfl (v_assign rfl) (x_nil (n_then (x_ret (x_done (.inl rfl) (.cons (r_all Tryz.isAgg196 Tryz.sizeOf196 rfl rfl) (.cons (r_tmp rfl) .nil)) ?_))))
              refine ⟨_, ⟨?_, rfl⟩, inferInstance⟩
              have hn : (gGot pg ((pa / 64 : Nat) : Int)).1 < fr.length := by
                rw [isF_iff] at c10; omega
              have he : fndE fr.length pg pa w kind = 0 := by unfold fndE; rw [if_pos ha, if_pos (by omega), if_pos hz, if_pos hn]
              simp [pack, fndV, he]
  · intro g1_3
    refine s_no rfl rfl rfl rfl (s_val rfl (v_pick_f rfl rfl) (s_val rfl (v_move rfl) (s_no rfl rfl rfl rfl (s_no rfl rfl rfl rfl (s_val rfl (v_pick_f rfl rfl) (s_val rfl (v_move rfl) (s_yes rfl rfl (s_val rfl (v_move rfl) (s_yes rfl rfl (s_val rfl (v_move rfl) (s_yes rfl rfl ?_)))))))))))
    refine s_val rfl (v_conv Tryz.underlying3 Tryz.underlying47 rfl (w32u (by omega))) ?_
    refine s_yes rfl rfl ?_
    refine s_val rfl (v_rem rfl rfl (by omega) (Int.tmod_eq_emod_of_nonneg (by omega))) ?_
    refine s_yes rfl rfl (s_val rfl (v_neq rfl rfl) (s_val rfl (v_pick_f rfl rfl) (x_nil (n_then ?_))))
    refine x_if rfl ?_ ?_
    · intro c1
      refine x_seq (x_region (s_val rfl (v_build Tryz.underlying196 Tryz.zeroValue196 (sized_cons Tryz.sizeOf3 (sized_cons Tryz.sizeOf3 (sized_cons Tryz.sizeOf3 (sized_cons Tryz.sizeOf4 sized_nil)))) fil_nil) ?_))
      refine s_do0 (d_storeAll Tryz.sizeOf196 rfl rfl rfl rfl rfl) ?_
      rintro _ _ rfl
      refine s_val rfl (v_assign rfl) (x_nil (n_then (x_ret (r_then (x_done (.inl rfl) (.cons (r_all Tryz.isAgg196 Tryz.sizeOf196 rfl rfl) (.cons (r_tmp rfl) .nil)) ?_)))))
      refine ⟨_, ⟨?_, rfl⟩, inferInstance⟩
      have ha : alB pa w = false := by
        rw [← Bool.not_eq_true]; simp only [alB, decide_eq_true_eq]
        rintro ⟨q1, q2⟩
        first
          | omega
          | (rcases q1 with rfl | rfl | rfl <;> omega)
      have he : fndE fr.length pg pa w kind = 1 := by simp [fndE, ha]
      simp [pack, fndV, he]
    · intro c1
      have ha : alB pa w = true := by
        simp only [alB, decide_eq_true_eq]
        refine ⟨by omega, ?_⟩
        have : w = 1 ∨ w = 2 ∨ w = 4 := by omega
        rcases this with rfl | rfl | rfl <;> omega
      refine x_skip (n_then (x_seq (x_seq (x_region (s_val rfl (v_move rfl) (s_val rfl (v_geq rfl rfl) (x_nil (n_then ?_))))))))
      refine x_if rfl ?_ ?_
      · intro c3
        refine x_seq (x_region (s_val rfl (v_build Tryz.underlying196 Tryz.zeroValue196 (sized_cons Tryz.sizeOf3 (sized_cons Tryz.sizeOf3 (sized_cons Tryz.sizeOf3 (sized_cons Tryz.sizeOf4 sized_nil)))) fil_nil) ?_))
        refine s_do0 (d_storeAll Tryz.sizeOf196 rfl rfl rfl rfl rfl) ?_
        rintro _ _ rfl
        refine s_val rfl (v_assign rfl) (x_nil (n_then (x_ret (r_then (x_done (.inl rfl) (.cons (r_all Tryz.isAgg196 Tryz.sizeOf196 rfl rfl) (.cons (r_tmp rfl) .nil)) ?_)))))
        refine ⟨_, ⟨?_, rfl⟩, inferInstance⟩
        have he : fndE fr.length pg pa w kind = 2 := by unfold fndE; rw [if_pos ha, if_neg (by omega)]
        simp [pack, fndV, he]
      · intro c3
        refine x_skip (n_then (x_seq (x_region (s_val rfl (v_move rfl) ?_))))
        refine s_val rfl (v_quo rfl rfl (by decide) ((congrArg (IntKind.wrap .u32) (tdivN pa 64)).trans (w32u (by omega)))) ?_
        refine s_val rfl (v_conv Tryz.underlying47 Tryz.underlying3 rfl (w64 (by omega))) ?_
        refine s_val rfl (v_assign rfl) (x_nil (n_then (x_seq (x_region (s_val rfl (v_move rfl) (s_val rfl (v_nilCheck rfl) ?_))))))
        refine s_val rfl (v_fieldAddr rfl Tryz.underlying89 rfl Tryz.sizeOf86 rfl (by first | exact Nat.zero_add _ | rfl)) ?_
        refine s_val rfl (v_load Tryz.isAgg86 rfl (cell_own rfl)) ?_
        refine s_val rfl (v_move rfl) (s_val rfl (v_move rfl) (s_do rfl (d_call1 Tryz.call170 rfl (rgAllows_spec W0 _ qm pg h ((pa / 64 : Nat) : Int) kind)) ?_))
        rintro _ B_ ⟨rfl, hB_⟩
        obtain rfl := hB_.symm
        refine s_val rfl (v_assign rfl) (x_nil (n_then (x_seq (x_seq (x_region (s_val rfl (v_move rfl) (s_val rfl (v_neq rfl rfl) (x_nil (n_then ?_)))))))))
        refine x_if rfl ?_ ?_
        · intro c7
          refine x_seq (x_region (s_val rfl (v_build Tryz.underlying196 Tryz.zeroValue196 (sized_cons Tryz.sizeOf3 (sized_cons Tryz.sizeOf3 (sized_cons Tryz.sizeOf3 (sized_cons Tryz.sizeOf4 sized_nil)))) fil_nil) ?_))
          refine s_val rfl (v_move rfl) (s_do0 (d_storeAll Tryz.sizeOf196 rfl rfl rfl rfl rfl) ?_)
          rintro _ _ rfl
          refine s_val rfl (v_assign rfl) (x_nil (n_then (x_ret (r_then (x_done (.inl rfl) (.cons (r_all Tryz.isAgg196 Tryz.sizeOf196 rfl rfl) (.cons (r_tmp rfl) .nil)) ?_)))))
          refine ⟨_, ⟨?_, rfl⟩, inferInstance⟩
          have he : fndE fr.length pg pa w kind = alwE pg ((pa / 64 : Nat) : Int) kind := by unfold fndE; rw [if_pos ha, if_pos (by omega), if_neg c7]
          rw [fndV, if_neg (by rw [he]; exact c7), he]; rfl
        · intro c7
          have hz : alwE pg ((pa / 64 : Nat) : Int) kind = 0 := by simpa using c7
          have hth : thereB pg ((pa / 64 : Nat) : Int) = true := by
            unfold alwE at hz; split at hz
            · assumption
            · omega
          have hk := okPl_iff.1 (gGot_ok h hth)
          refine x_skip (n_then (x_seq (x_region (s_val rfl (v_move rfl) (s_val rfl (v_nilCheck rfl) ?_)))))
          refine s_val rfl (v_fieldAddr rfl Tryz.underlying89 rfl Tryz.sizeOf86 rfl (by first | exact Nat.zero_add _ | rfl)) ?_
          refine s_val rfl (v_load Tryz.isAgg86 rfl (cell_own rfl)) ?_
          refine s_val rfl (v_move rfl) (s_do rfl (d_call1 Tryz.call171 rfl (rgGet_spec W0 _ qm pg h ((pa / 64 : Nat) : Int))) ?_)
          rintro _ B_ ⟨rfl, hB_⟩
          obtain rfl := hB_.symm
          refine s_val rfl (v_move rfl) (s_val rfl (v_extract rfl rfl) (s_val rfl (v_extract rfl rfl) (s_do rfl (d_allocA Tryz.zeroValue128) ?_)))
          rintro _ _ ⟨bp, rfl, rfl⟩
          refine s_do0 (d_storeAll Tryz.sizeOf128 rfl rfl rfl rfl rfl) ?_
          rintro _ _ rfl
          refine s_val rfl (v_assign rfl) (x_nil (n_then (x_seq (x_seq ?_))))
          refine x_draw [(bp, 0, _), (qv, 0, _)] 8 mixed rfl (sc_own (sc_own sc_end)) (fun hS => ?_)
          refine d_take 0 rfl rfl (by kernel_rfl) (by kernel_rfl) (by kernel_rfl) rfl hS (v_move rfl) ?_
          refine d_take 1 rfl rfl (by kernel_rfl) (by kernel_rfl) (by kernel_rfl) rfl hS (v_nilCheck rfl) ?_
          refine d_take 2 rfl rfl (by kernel_rfl) (by kernel_rfl) (by kernel_rfl) rfl hS (v_fieldAddr rfl Tryz.underlying89 rfl Tryz.sizeOf85 rfl (by first | exact Nat.zero_add _ | rfl)) ?_
          refine d_take 3 rfl rfl (by kernel_rfl) (by kernel_rfl) (by kernel_rfl) rfl hS (v_load Tryz.isAgg85 rfl (by first | exact cell_sc0 (k := 0) rfl rfl | exact cell_sc0 (k := 1) rfl rfl)) ?_
          refine d_take 4 rfl rfl (by kernel_rfl) (by kernel_rfl) (by kernel_rfl) rfl hS (v_fieldAddr rfl Tryz.underlying128 rfl Tryz.sizeOf3 rfl (by first | exact Nat.zero_add _ | rfl)) ?_
          refine d_take 5 rfl rfl (by kernel_rfl) (by kernel_rfl) (by kernel_rfl) rfl hS (v_load Tryz.isAgg3 rfl (by first | exact cell_sc0 (k := 0) rfl rfl | exact cell_sc0 (k := 1) rfl rfl)) ?_
          refine d_one 6 (by kernel_rfl) rfl rfl (d_call1 Tryz.call172 rfl (rfIs_spec W0 _ qs fr _)) rfl ?_; clear hS
          rintro _ B_ ⟨rfl, hB_⟩
          obtain rfl := hB_.symm
          refine ⟨(sc_own (sc_own sc_end)), fun hS => ?_⟩
          refine d_take 7 rfl rfl (by kernel_rfl) (by kernel_rfl) (by kernel_rfl) rfl hS (v_not rfl) ?_
          refine d_done (by kernel_rfl) ?_; clear hS
          refine n_then ?_
          refine x_if rfl ?_ ?_
          · intro c10
            refine x_seq (x_region (s_val rfl (v_build Tryz.underlying196 Tryz.zeroValue196 (sized_cons Tryz.sizeOf3 (sized_cons Tryz.sizeOf3 (sized_cons Tryz.sizeOf3 (sized_cons Tryz.sizeOf4 sized_nil)))) fil_nil) ?_))
            refine s_do0 (d_storeAll Tryz.sizeOf196 rfl rfl rfl rfl rfl) ?_
            rintro _ _ rfl
            refine s_val rfl (v_assign rfl) (x_nil (n_then (x_ret (r_then (x_done (.inl rfl) (.cons (r_all Tryz.isAgg196 Tryz.sizeOf196 rfl rfl) (.cons (r_tmp rfl) .nil)) ?_)))))
            refine ⟨_, ⟨?_, rfl⟩, inferInstance⟩
            have hn : ¬ (gGot pg ((pa / 64 : Nat) : Int)).1 < fr.length := by
              rw [isF_iff] at c10; omega
            have he : fndE fr.length pg pa w kind = 7 := by unfold fndE; rw [if_pos ha, if_pos (by omega), if_pos hz, if_neg hn]
            simp [pack, fndV, he]
          · intro c10
            refine x_skip (n_then (x_seq (x_region (s_val rfl (v_move rfl) ?_))))
            refine s_val rfl (v_fieldAddr rfl Tryz.underlying128 rfl Tryz.sizeOf3 rfl (by first | exact Nat.zero_add _ | rfl)) ?_
            refine s_val rfl (v_load Tryz.isAgg3 rfl (cell_own rfl)) ?_
            refine s_val rfl (v_move rfl) ?_
            refine s_val rfl (v_rem rfl rfl (by decide) (tmodN pa 64)) ?_
            refine s_val rfl (v_conv Tryz.underlying47 Tryz.underlying3 rfl (w64 (by omega))) ?_
            refine s_val rfl (v_build Tryz.underlying196 Tryz.zeroValue196 (sized_cons Tryz.sizeOf3 (sized_cons Tryz.sizeOf3 (sized_cons Tryz.sizeOf3 (sized_cons Tryz.sizeOf4 sized_nil)))) (fil_scal rfl Tryz.sizeOf3 rfl rfl (Nat.le_of_ble_eq_true rfl) SetL.eq (fil_scal rfl Tryz.sizeOf3 rfl rfl (Nat.le_of_ble_eq_true rfl) SetL.eq (fil_scal rfl Tryz.sizeOf3 rfl rfl (Nat.le_of_ble_eq_true rfl) SetL.eq fil_nil)))) ?_
            refine s_do0 (d_storeAll Tryz.sizeOf196 rfl rfl rfl rfl rfl) ?_
            rintro _ _ rfl
            refine s_val rfl (v_assign rfl) (x_nil (n_then (x_ret (x_done (.inl rfl) (.cons (r_all Tryz.isAgg196 Tryz.sizeOf196 rfl rfl) (.cons (r_tmp rfl) .nil)) ?_))))
            refine ⟨_, ⟨?_, rfl⟩, inferInstance⟩
            have hn : (gGot pg ((pa / 64 : Nat) : Int)).1 < fr.length := by
              rw [isF_iff] at c10; omega
            have he : fndE fr.length pg pa w kind = 0 := by unfold fndE; rw [if_pos ha, if_pos (by omega), if_pos hz, if_pos hn]
            simp [pack, fndV, he]
end Go.Proofs.YtncegikenkpcmaaGreat
namespace Go.Proofs.YtncegikenkpcmaaGreat
open Go.RowKit
set_option linter.unusedSimpArgs false
set_option linter.unusedVariables false
set_option maxRecDepth 20000
theorem wr_set {a b : Value} {d n : Nat} (h : n < 12) : (a :: b :: wrV d).set (2 + n * 1) (.bool true) = a :: b :: wrV (d ||| 2 ^ n) := by
  rw [show 2 + n * 1 = n + 1 + 1 by omega, List.set_cons_succ, List.set_cons_succ]
  congr 2
  apply List.ext_getElem
  · simp [wrV]
  · intro i h1 h2
    have hi : i < 12 := by simpa [wrV] using h2
    by_cases e : n = i
    · subst e; simp [wrV, Nat.testBit_or, Nat.testBit_two_pow_self]
    · simp [wrV, List.getElem_set, e, Nat.testBit_or, Nat.testBit_two_pow_of_ne e]
theorem rvSave_spec (W0 : World) (R : List HP) (qv qs qm d : Nat) (fr : List Frm) (pg : List Pl) (h : Pgs pg) (hF : Frs fr) (pa : Nat) (hpa : pa < 4294967296) (w : Int) (x : Nat) (hx : x < 4294967296) :
    Spec Tryz.prog W0 34 [.pointer (some ⟨qv, 0, none⟩), .int .u32 pa, .int .i64 w, .int .u32 x] (pt qv (rvO qs qm d) :: rstoH qs fr :: pt qm (rgO pg) :: R)
      (fun v B => v = .int .i64 (fndE fr.length pg pa w 2) ∧ B = pt qv (rvO qs qm (vsvD fr pg pa w d)) :: rstoH qs (vsvF fr pg pa w x) :: pt qm (rgO pg) :: R) := by
  by_cases hz : fndE fr.length pg pa w 2 = 0
  · obtain ⟨h1, h2, hv⟩ := fnd_ok hz
    rw [vsvD, if_pos hz, vsvF, if_pos hz]
    refine spec_body Tryz.func34 Tryz.ntmps34 rfl rfl ?_
    refine x_seq (x_region (s_val rfl (v_assign rfl) (x_nil (n_then (x_seq (x_region (s_val rfl (v_move rfl) (s_val rfl (v_move rfl) (s_val rfl (v_move rfl) (s_do rfl (d_call3 Tryz.call106 rfl (rvFind_spec W0 _ qv qs qm d fr pg h pa hpa w 2)) ?_))))))))))
    rintro _ B_ ⟨rfl, hB_⟩
    obtain rfl := hB_.symm
    rw [hv, hz]
    refine s_val rfl (v_move rfl) (s_val rfl (v_extract rfl rfl) (s_val rfl (v_extract rfl rfl) (s_do rfl (d_allocA Tryz.zeroValue196) ?_)))
    rintro _ _ ⟨b1, rfl, rfl⟩
    refine s_do0 (d_storeAll Tryz.sizeOf196 rfl rfl rfl rfl rfl) ?_
    rintro _ _ rfl
    refine s_val rfl (v_assign rfl) (x_nil (n_then (x_seq (x_seq (x_region (s_val rfl (v_move rfl) (s_val rfl (v_eql rfl rfl) (x_nil (n_then ?_)))))))))
    refine x_if rfl ?_ ?_
    · intro c2
      refine x_seq ?_
      refine x_draw [(qv, 0, _), (b1, 0, _)] 11 mixed rfl (sc_own (sc_own sc_end)) (fun hS => ?_)
      refine d_take 0 rfl rfl (by kernel_rfl) (by kernel_rfl) (by kernel_rfl) rfl hS (v_move rfl) ?_
      refine d_take 1 rfl rfl (by kernel_rfl) (by kernel_rfl) (by kernel_rfl) rfl hS (v_nilCheck rfl) ?_
      refine d_take 2 rfl rfl (by kernel_rfl) (by kernel_rfl) (by kernel_rfl) rfl hS (v_fieldAddr rfl Tryz.underlying89 rfl Tryz.sizeOf85 rfl (by first | exact Nat.zero_add _ | rfl)) ?_
      refine d_take 3 rfl rfl (by kernel_rfl) (by kernel_rfl) (by kernel_rfl) rfl hS (v_load Tryz.isAgg85 rfl (by first | exact cell_sc0 (k := 0) rfl rfl | exact cell_sc0 (k := 1) rfl rfl)) ?_
      refine d_take 4 rfl rfl (by kernel_rfl) (by kernel_rfl) (by kernel_rfl) rfl hS (v_fieldAddr rfl Tryz.underlying196 rfl Tryz.sizeOf3 rfl (by first | exact Nat.zero_add _ | rfl)) ?_
      refine d_take 5 rfl rfl (by kernel_rfl) (by kernel_rfl) (by kernel_rfl) rfl hS (v_load Tryz.isAgg3 rfl (by first | exact cell_sc0 (k := 0) rfl rfl | exact cell_sc0 (k := 1) rfl rfl)) ?_
      refine d_take 6 rfl rfl (by kernel_rfl) (by kernel_rfl) (by kernel_rfl) rfl hS (v_fieldAddr rfl Tryz.underlying196 rfl Tryz.sizeOf3 rfl (by first | exact Nat.zero_add _ | rfl)) ?_
      refine d_take 7 rfl rfl (by kernel_rfl) (by kernel_rfl) (by kernel_rfl) rfl hS (v_load Tryz.isAgg3 rfl (by first | exact cell_sc0 (k := 0) rfl rfl | exact cell_sc0 (k := 1) rfl rfl)) ?_
      refine d_take 8 rfl rfl (by kernel_rfl) (by kernel_rfl) (by kernel_rfl) rfl hS (v_move rfl) ?_
      refine d_take 9 rfl rfl (by kernel_rfl) (by kernel_rfl) (by kernel_rfl) rfl hS (v_move rfl) ?_
      refine d_one 10 (by kernel_rfl) rfl rfl (d_call1 Tryz.call107 rfl (rfSave_spec W0 _ qs fr _ _ w x hx hF)) rfl ?_; clear hS
      rintro _ B_ ⟨rfl, hB_⟩
      obtain rfl := hB_.symm
      refine ⟨(sc_own (sc_own sc_end)), fun hS => ?_⟩
      refine d_done (by kernel_rfl) ?_; clear hS
      refine n_then ?_
      refine x_draw [(b1, 0, _)] 7 mixed rfl (sc_own sc_end) (fun hS => ?_)
      refine d_take 0 rfl rfl (by kernel_rfl) (by kernel_rfl) (by kernel_rfl) rfl hS (v_move rfl) ?_
      refine d_take 1 rfl rfl (by kernel_rfl) (by kernel_rfl) (by kernel_rfl) rfl hS (v_fieldAddr rfl Tryz.underlying196 rfl Tryz.sizeOf3 rfl (by first | exact Nat.zero_add _ | rfl)) ?_
      refine d_take 2 rfl rfl (by kernel_rfl) (by kernel_rfl) (by kernel_rfl) rfl hS (v_load Tryz.isAgg3 rfl (cell_sc0 (k := 0) rfl rfl)) ?_
      refine d_take 3 rfl rfl (by kernel_rfl) (by kernel_rfl) (by kernel_rfl) rfl hS (v_nilCheck rfl) ?_
      refine d_take 4 rfl rfl (by kernel_rfl) (by kernel_rfl) (by kernel_rfl) rfl hS (v_fieldAddr rfl Tryz.underlying89 rfl Tryz.sizeOf87 rfl (by first | exact Nat.zero_add _ | rfl)) ?_
      refine d_take 5 rfl rfl (by kernel_rfl) (by kernel_rfl) (by kernel_rfl) rfl hS (v_idxArr Tryz.underlying87 Tryz.sizeOf4 rfl rfl rfl (by omega) (by first | exact Nat.zero_add _ | rfl)) ?_
      refine d_one 6 (by kernel_rfl) rfl rfl (d_store Tryz.sizeOf4 rfl rfl rfl (by simp [wrV]; omega) (wr_set (by omega))) rfl ?_; clear hS
      rintro _ _ rfl
      refine ⟨(sc_own sc_end), fun hS => ?_⟩
      refine d_done (by kernel_rfl) ?_; clear hS
      refine n_then (x_seq (x_region (s_val rfl (v_move rfl) (s_val rfl (v_assign rfl) (x_nil (n_then (x_ret (x_done (.inl rfl) (.cons (r_tmp rfl) .nil) ?_))))))))
      exact ⟨_, ⟨rfl, rfl⟩, inferInstance⟩
    · intro c2
      exact absurd rfl c2
  · rw [vsvD, if_neg hz, vsvF, if_neg hz]
    refine spec_body Tryz.func34 Tryz.ntmps34 rfl rfl ?_
    refine x_seq (x_region (s_val rfl (v_assign rfl) (x_nil (n_then (x_seq (x_region (s_val rfl (v_move rfl) (s_val rfl (v_move rfl) (s_val rfl (v_move rfl) (s_do rfl (d_call3 Tryz.call106 rfl (rvFind_spec W0 _ qv qs qm d fr pg h pa hpa w 2)) ?_))))))))))
    rintro _ B_ ⟨rfl, hB_⟩
    obtain rfl := hB_.symm
    rw [fndV, if_neg hz]
    refine s_val rfl (v_move rfl) (s_val rfl (v_extract rfl rfl) (s_val rfl (v_extract rfl rfl) (s_do rfl (d_allocA Tryz.zeroValue196) ?_)))
    rintro _ _ ⟨b1, rfl, rfl⟩
    refine s_do0 (d_storeAll Tryz.sizeOf196 rfl rfl rfl rfl rfl) ?_
    rintro _ _ rfl
    refine s_val rfl (v_assign rfl) (x_nil (n_then (x_seq (x_seq (x_region (s_val rfl (v_move rfl) (s_val rfl (v_eql rfl rfl) (x_nil (n_then ?_)))))))))
    refine x_if rfl ?_ ?_
    · intro c2
      exact absurd c2 hz
    · intro c2
      refine x_skip (n_then (x_seq (x_region (s_val rfl (v_move rfl) (s_val rfl (v_assign rfl) (x_nil (n_then (x_ret (x_done (.inl rfl) (.cons (r_tmp rfl) .nil) ?_)))))))))
      exact ⟨_, ⟨rfl, rfl⟩, inferInstance⟩
end Go.Proofs.YtncegikenkpcmaaGreat
namespace Go.Proofs.YtncegikenkpcmaaGreat
open Go.RowKit
set_option linter.unusedSimpArgs false
set_option linter.unusedVariables false
set_option maxRecDepth 20000
theorem frmB_iff {len : Nat} {pg : List Pl} {n : Int} : frmB len pg n = true ↔ thereB pg n = true ∧ n < 8 ∧ (gGot pg n).1 < len := by
  unfold frmB; rw [Bool.and_eq_true, Bool.and_eq_true]
  exact ⟨fun h => ⟨h.1.1, of_decide_eq_true h.1.2, of_decide_eq_true h.2⟩, fun h => ⟨⟨h.1, decide_eq_true h.2.1⟩, decide_eq_true h.2.2⟩⟩
def plcV (len : Nat) (pg : List Pl) (a : Nat) : Value := if frmB len pg (pgI a) then .tuple #[.int .i64 (whr pg a), .int .i64 (a % 64 : Nat), .bool true] else .tuple #[.int .i64 0, .int .i64 0, .bool false]
theorem rvPlace_spec (W0 : World) (R : List HP) (qv qs qm d : Nat) (fr : List Frm) (pg : List Pl) (h : Pgs pg) (pa : Nat) (hpa : pa < 4294967296) :
    Spec Tryz.prog W0 136 [.pointer (some ⟨qv, 0, none⟩), .int .i64 pa] (pt qv (rvO qs qm d) :: rstoH qs fr :: pt qm (rgO pg) :: R)
      (fun v B => v = plcV fr.length pg pa ∧ B = pt qv (rvO qs qm d) :: rstoH qs fr :: pt qm (rgO pg) :: R) := by
  refine spec_body Tryz.func136 Tryz.ntmps136 rfl rfl ?_
  refine x_seq (x_region (s_val rfl (v_assign rfl) (s_val rfl (v_assign rfl) (s_val rfl (v_assign rfl) (x_nil (n_then (x_seq (x_region (s_val rfl (v_move rfl) ?_)))))))))
  refine s_val rfl (v_quo rfl rfl (by decide) ((congrArg (IntKind.wrap .i64) (tdivN pa 64)).trans (w64 (by omega)))) ?_
  refine s_val rfl (v_assign rfl) (x_nil (n_then (x_seq (x_seq (x_region (s_val rfl (v_move rfl) (s_val rfl (v_geq rfl rfl) (x_nil (n_then ?_)))))))))
  refine x_if rfl ?_ ?_
  · intro c2
    refine x_seq (x_region (s_val rfl (v_assign rfl) (s_val rfl (v_assign rfl) (s_val rfl (v_assign rfl) (x_nil (n_then (x_ret (r_then (x_done (.inl rfl) (.cons (r_tmp rfl) (.cons (r_tmp rfl) (.cons (r_tmp rfl) .nil))) ?_)))))))))
    refine ⟨_, ⟨?_, rfl⟩, inferInstance⟩
    have hb : frmB fr.length pg (pgI pa) = false := by
      rw [← Bool.not_eq_true]; rw [frmB_iff, pgI]; rintro ⟨_, q, _⟩; omega
    simp [pack, plcV, hb]
  · intro c2
    refine x_skip (n_then (x_seq (x_region (s_val rfl (v_move rfl) (s_val rfl (v_nilCheck rfl) ?_)))))
    refine s_val rfl (v_fieldAddr rfl Tryz.underlying89 rfl Tryz.sizeOf86 rfl (by first | exact Nat.zero_add _ | rfl)) ?_
    refine s_val rfl (v_load Tryz.isAgg86 rfl (cell_own rfl)) ?_
    refine s_val rfl (v_move rfl) (s_do rfl (d_call1 Tryz.call171 rfl (rgGet_spec W0 _ qm pg h ((pa / 64 : Nat) : Int))) ?_)
    rintro _ B_ ⟨rfl, hB_⟩
    obtain rfl := hB_.symm
    refine s_val rfl (v_move rfl) (s_val rfl (v_extract rfl rfl) (s_val rfl (v_extract rfl rfl) (s_do rfl (d_allocA Tryz.zeroValue128) ?_)))
    rintro _ _ ⟨bp, rfl, rfl⟩
    refine s_do0 (d_storeAll Tryz.sizeOf128 rfl rfl rfl rfl rfl) ?_
    rintro _ _ rfl
    refine s_val rfl (v_assign rfl) (x_nil (n_then (x_seq (x_seq ?_))))
    refine x_draw [(bp, 0, _), (qv, 0, _)] 12 mixed rfl (sc_own (sc_own sc_end)) (fun hS => ?_)
    refine d_take 0 rfl rfl (by kernel_rfl) (by kernel_rfl) (by kernel_rfl) rfl hS (v_move rfl) ?_
    refine d_take 1 rfl rfl (by kernel_rfl) (by kernel_rfl) (by kernel_rfl) rfl hS (v_not rfl) ?_
    refine d_take 2 rfl rfl (by kernel_rfl) (by kernel_rfl) (by kernel_rfl) rfl hS (v_move rfl) ?_
    refine x_split (t := 25) rfl ?_ ?_
    · intro g5_3
      refine d_skip 3 rfl rfl (by kernel_rfl) (by kernel_rfl) (by kernel_rfl) rfl hS ?_
      refine d_skip 4 rfl rfl (by kernel_rfl) (by kernel_rfl) (by kernel_rfl) rfl hS ?_
      refine d_skip 5 rfl rfl (by kernel_rfl) (by kernel_rfl) (by kernel_rfl) rfl hS ?_
      refine d_skip 6 rfl rfl (by kernel_rfl) (by kernel_rfl) (by kernel_rfl) rfl hS ?_
      refine d_skip 7 rfl rfl (by kernel_rfl) (by kernel_rfl) (by kernel_rfl) rfl hS ?_
      refine d_skip 8 rfl rfl (by kernel_rfl) (by kernel_rfl) (by kernel_rfl) rfl hS ?_
      refine d_skip 9 rfl rfl (by kernel_rfl) (by kernel_rfl) (by kernel_rfl) rfl hS ?_
      refine d_skip 10 rfl rfl (by kernel_rfl) (by kernel_rfl) (by kernel_rfl) rfl hS ?_
      refine d_take 11 rfl rfl (by kernel_rfl) (by kernel_rfl) (by kernel_rfl) rfl hS (v_pick_t rfl rfl) ?_
      refine d_done (by kernel_rfl) ?_; clear hS
      refine n_then (x_ift rfl (x_seq (x_region (s_val rfl (v_assign rfl) (s_val rfl (v_assign rfl) (s_val rfl (v_assign rfl) (x_nil (n_then (x_ret (r_then (x_done (.inl rfl) (.cons (r_tmp rfl) (.cons (r_tmp rfl) (.cons (r_tmp rfl) .nil))) ?_)))))))))))
      refine ⟨_, ⟨?_, rfl⟩, inferInstance⟩
      have hb : frmB fr.length pg (pgI pa) = false := by
        rw [← Bool.not_eq_true]; rw [frmB_iff, pgI]
        rintro ⟨q1, q2, q3⟩
        first
          | exact g5_3 q1
          | (have hk := okPl_iff.1 (gGot_ok h q1); rw [isF_iff] at c5; omega)
      simp [pack, plcV, hb]
    · intro g5_3
      refine d_take 3 rfl rfl (by kernel_rfl) (by kernel_rfl) (by kernel_rfl) rfl hS (v_move rfl) ?_
      refine d_take 4 rfl rfl (by kernel_rfl) (by kernel_rfl) (by kernel_rfl) rfl hS (v_nilCheck rfl) ?_
      refine d_take 5 rfl rfl (by kernel_rfl) (by kernel_rfl) (by kernel_rfl) rfl hS (v_fieldAddr rfl Tryz.underlying89 rfl Tryz.sizeOf85 rfl (by first | exact Nat.zero_add _ | rfl)) ?_
      refine d_take 6 rfl rfl (by kernel_rfl) (by kernel_rfl) (by kernel_rfl) rfl hS (v_load Tryz.isAgg85 rfl (by first | exact cell_sc0 (k := 0) rfl rfl | exact cell_sc0 (k := 1) rfl rfl)) ?_
      refine d_take 7 rfl rfl (by kernel_rfl) (by kernel_rfl) (by kernel_rfl) rfl hS (v_fieldAddr rfl Tryz.underlying128 rfl Tryz.sizeOf3 rfl (by first | exact Nat.zero_add _ | rfl)) ?_
      refine d_take 8 rfl rfl (by kernel_rfl) (by kernel_rfl) (by kernel_rfl) rfl hS (v_load Tryz.isAgg3 rfl (by first | exact cell_sc0 (k := 0) rfl rfl | exact cell_sc0 (k := 1) rfl rfl)) ?_
      refine d_one 9 (by kernel_rfl) rfl rfl (d_call1 Tryz.call172 rfl (rfIs_spec W0 _ qs fr _)) rfl ?_; clear hS
      rintro _ B_ ⟨rfl, hB_⟩
      obtain rfl := hB_.symm
      refine ⟨(sc_own (sc_own sc_end)), fun hS => ?_⟩
      refine d_take 10 rfl rfl (by kernel_rfl) (by kernel_rfl) (by kernel_rfl) rfl hS (v_not rfl) ?_
      refine d_take 11 rfl rfl (by kernel_rfl) (by kernel_rfl) (by kernel_rfl) rfl hS (v_pick_f rfl rfl) ?_
      refine d_done (by kernel_rfl) ?_; clear hS
      refine n_then ?_
      refine x_if rfl ?_ ?_
      · intro c5
        refine x_seq (x_region (s_val rfl (v_assign rfl) (s_val rfl (v_assign rfl) (s_val rfl (v_assign rfl) (x_nil (n_then (x_ret (r_then (x_done (.inl rfl) (.cons (r_tmp rfl) (.cons (r_tmp rfl) (.cons (r_tmp rfl) .nil))) ?_)))))))))
        refine ⟨_, ⟨?_, rfl⟩, inferInstance⟩
        have hb : frmB fr.length pg (pgI pa) = false := by
          rw [← Bool.not_eq_true]; rw [frmB_iff, pgI]
          rintro ⟨q1, q2, q3⟩
          first
            | exact g5_3 q1
            | (have hk := okPl_iff.1 (gGot_ok h q1); rw [isF_iff] at c5; omega)
        simp [pack, plcV, hb]
      · intro c5
        refine x_skip (n_then (x_seq (x_region ?_)))
        refine s_val rfl (v_fieldAddr rfl Tryz.underlying128 rfl Tryz.sizeOf3 rfl (by first | exact Nat.zero_add _ | rfl)) ?_
        refine s_val rfl (v_load Tryz.isAgg3 rfl (cell_own rfl)) ?_
        refine s_val rfl (v_move rfl) ?_
        refine s_val rfl (v_rem rfl rfl (by decide) (tmodN pa 64)) ?_
        refine s_val rfl (v_assign rfl) (s_val rfl (v_assign rfl) (s_val rfl (v_assign rfl) (x_nil (n_then (x_ret (x_done (.inl rfl) (.cons (r_tmp rfl) (.cons (r_tmp rfl) (.cons (r_tmp rfl) .nil))) ?_))))))
        refine ⟨_, ⟨?_, rfl⟩, inferInstance⟩
        have hb : frmB fr.length pg (pgI pa) = true := by
          rw [frmB_iff, pgI]
          rw [Decidable.not_not, isF_iff] at c5
          exact ⟨Decidable.not_not.1 g5_3, by omega, by omega⟩
        rw [plcV, if_pos hb]; rfl
def plF (len : Nat) (pg : List Pl) (a : Nat) : Int := if frmB len pg (pgI a) then whr pg a else 0
def plO (len : Nat) (pg : List Pl) (a : Nat) : Int := if frmB len pg (pgI a) then ((a % 64 : Nat) : Int) else 0
theorem plcV_eq {len : Nat} {pg : List Pl} {a : Nat} : plcV len pg a = .tuple #[.int .i64 (plF len pg a), .int .i64 (plO len pg a), .bool (frmB len pg (pgI a))] := by
  unfold plcV plF plO; cases frmB len pg (pgI a) <;> rfl
theorem plF_ok {len : Nat} {pg : List Pl} {a : Nat} (h : frmB len pg (pgI a) = true) : plF len pg a = whr pg a := if_pos h
theorem plO_ok {len : Nat} {pg : List Pl} {a : Nat} (h : frmB len pg (pgI a) = true) : plO len pg a = ((a % 64 : Nat) : Int) := if_pos h
theorem rvOwn_spec (W0 : World) (R : List HP) (qv qs qm d : Nat) (fr : List Frm) (pg : List Pl) (h : Pgs pg) (pa : Nat) (hpa : pa < 4294967296) (n : Int) :
    Spec Tryz.prog W0 135 [.pointer (some ⟨qv, 0, none⟩), .int .u32 pa, .int .i64 n] (pt qv (rvO qs qm d) :: rstoH qs fr :: pt qm (rgO pg) :: R)
      (fun v B => v = .bool (ownB fr.length pg pa n) ∧ B = pt qv (rvO qs qm d) :: rstoH qs fr :: pt qm (rgO pg) :: R) := by
  refine spec_body Tryz.func135 Tryz.ntmps135 rfl rfl ?_
  refine x_seq (x_region (s_val rfl (v_assign rfl) (x_nil (n_then (x_seq (x_seq (x_region (s_val rfl (v_move rfl) (s_val rfl (v_lss rfl rfl) (s_val rfl (v_move rfl) ?_))))))))))
  refine s_or rfl rfl rfl ?_ ?_
  · intro g1_3
    refine s_no rfl rfl rfl rfl (s_val rfl (v_pick_t rfl rfl) (s_val rfl (v_move rfl) (s_no rfl rfl rfl rfl (s_no rfl rfl rfl rfl (s_no rfl rfl rfl rfl (s_no rfl rfl rfl rfl (s_no rfl rfl rfl rfl (s_val rfl (v_pick_t rfl rfl) (x_nil (n_then (x_ift rfl (x_seq (x_region (s_val rfl (v_assign rfl) (x_nil (n_then (x_ret (r_then (x_done (.inl rfl) (.cons (r_tmp rfl) .nil) ?_)))))))))))))))))))
    refine ⟨_, ⟨?_, rfl⟩, inferInstance⟩
    refine congrArg Value.bool (Eq.symm ?_)
    rw [← Bool.not_eq_true, ownB_iff]; omega
  · intro g1_3
    refine s_val rfl (v_move rfl) (s_yes rfl rfl (s_val rfl (v_gtr rfl rfl) (s_val rfl (v_pick_f rfl rfl) (s_val rfl (v_move rfl) ?_))))
    refine s_or rfl rfl rfl ?_ ?_
    · intro g1_7
      refine s_no rfl rfl rfl rfl (s_no rfl rfl rfl rfl (s_no rfl rfl rfl rfl (s_no rfl rfl rfl rfl (s_val rfl (v_pick_t rfl rfl) (x_nil (n_then (x_ift rfl (x_seq (x_region (s_val rfl (v_assign rfl) (x_nil (n_then (x_ret (r_then (x_done (.inl rfl) (.cons (r_tmp rfl) .nil) ?_)))))))))))))))
      refine ⟨_, ⟨?_, rfl⟩, inferInstance⟩
      refine congrArg Value.bool (Eq.symm ?_)
      rw [← Bool.not_eq_true, ownB_iff]; omega
    · intro g1_7
      refine s_val rfl (v_move rfl) (s_yes rfl rfl (s_val rfl (v_move rfl) (s_yes rfl rfl ?_)))
      refine s_val rfl (v_conv Tryz.underlying47 Tryz.underlying3 rfl (by first | exact w64 (by omega) | rfl)) ?_
      refine s_yes rfl rfl ?_
      refine s_val rfl (v_sub rfl rfl (by first | exact w64 (by omega) | rfl)) ?_
      refine s_yes rfl rfl (s_val rfl (v_gtr rfl rfl) (s_val rfl (v_pick_f rfl rfl) (x_nil (n_then ?_))))
      refine x_if rfl ?_ ?_
      · intro c1
        refine x_seq (x_region (s_val rfl (v_assign rfl) (x_nil (n_then (x_ret (r_then (x_done (.inl rfl) (.cons (r_tmp rfl) .nil) ?_)))))))
        refine ⟨_, ⟨?_, rfl⟩, inferInstance⟩
        refine congrArg Value.bool (Eq.symm ?_)
        rw [← Bool.not_eq_true, ownB_iff]; omega
      · intro c1
        refine x_skip (n_then (x_seq (x_seq ?_)))
        obtain ⟨k, rfl⟩ : ∃ k : Nat, n = (k : Int) := ⟨n.toNat, by omega⟩
        have hk : pa + k ≤ 512 := by omega
        refine x_region (s_val rfl (v_assign rfl) (x_nil (n_then (x_block ?_))))
        refine x_loop (fun i : Nat => i ≤ k ∧ ownA fr.length pg pa i) (fun i => [(0, .pointer (some ⟨qv, 0, none⟩)), (1, .int .u32 pa), (2, .int .i64 k), (7, .int .i64 i)]) (fun i => pt qv (rvO qs qm d) :: rstoH qs fr :: pt qm (rgO pg) :: R) (fun i => k - i) 0 ?_ ?_ ?_ ?_
        · exact ⟨Nat.zero_le _, fun i hi => by omega⟩
        · repeat (first | exact sub_nil | refine sub_cons rfl ?_)
        · exact inferInstance
        · intro i ⟨hi, hI⟩
          refine x_seq (x_seq (x_region (s_val rfl (v_move rfl) (s_val rfl (v_move rfl) (s_val rfl (v_lss rfl rfl) (x_nil (n_then ?_)))))))
          refine x_if rfl ?_ ?_
          · intro c4
            refine x_skip (n_then (x_seq (x_block (x_seq (x_region (s_val rfl (v_move rfl) (s_val rfl (v_move rfl) ?_)))))))
            refine s_val rfl (v_conv Tryz.underlying47 Tryz.underlying3 rfl (w64 (by omega))) ?_
            refine s_val rfl (v_move rfl) ?_
            refine s_val rfl (v_add rfl rfl (by rw [w64 (by omega)]; omega : IntKind.wrap .i64 ((pa : Int) + (i : Int)) = ((pa + i : Nat) : Int))) ?_
            refine s_do rfl (d_call3 Tryz.call136 rfl (rvPlace_spec W0 _ qv qs qm d fr pg h (pa + i) (by omega))) ?_
            rintro _ B_ ⟨rfl, hB_⟩
            obtain rfl := hB_.symm
            rw [plcV_eq]
            refine s_val rfl (v_move rfl) (s_val rfl (v_extract rfl rfl) (s_val rfl (v_extract rfl rfl) (s_val rfl (v_extract rfl rfl) (s_val rfl (v_assign rfl) (s_val rfl (v_assign rfl) (s_val rfl (v_assign rfl) (x_nil (n_then (x_seq (x_region (s_val rfl (v_move rfl) (s_val rfl (v_not rfl) (x_nil (n_then ?_))))))))))))))
            refine x_if rfl ?_ ?_
            · intro c7
              refine x_seq (x_region (s_val rfl (v_assign rfl) (x_nil (n_then (x_ret (r_block (r_then (r_then (r_block (r_then (x_done (.inl rfl) (.cons (r_tmp rfl) .nil) ?_)))))))))))
              refine ⟨_, ⟨?_, rfl⟩, inferInstance⟩
              refine congrArg Value.bool (Eq.symm ?_)
              rw [← Bool.not_eq_true, ownB_nat]; exact fun q => c7 (q.2 i (by omega))
            · intro c7
              refine x_skip (n_block (n_then (x_region (s_val rfl (v_move rfl) ?_))))
              refine s_val rfl (v_add rfl rfl (by first | exact w64 (by omega) | rfl)) ?_
              refine s_val rfl (v_assign rfl) (x_nil (n_then ?_))
              refine inv_intro (i + 1) ?_ ?_ ?_ ?_
              · exact ⟨by omega, fun j hj => by
                  rcases Nat.lt_or_ge j i with q | q
                  · exact hI j q
                  · rw [show j = i by omega]; exact Decidable.not_not.1 c7⟩
              · omega
              · repeat (first | exact sub_nil | refine sub_cons rfl ?_)
              · exact inferInstance
          · intro c4
            refine x_exit (e_then (e_then (e_block (n_then (x_seq (x_region (s_val rfl (v_assign rfl) (x_nil (n_then (x_ret (x_done (.inl rfl) (.cons (r_tmp rfl) .nil) ?_)))))))))))
            refine ⟨_, ⟨?_, rfl⟩, inferInstance⟩
            refine congrArg Value.bool (Eq.symm ?_)
            rw [ownB_nat]; exact ⟨hk, by rw [show k = i by omega]; exact hI⟩
theorem rvRead_spec (W0 : World) (R : List HP) (qv qs qm d : Nat) (fr : List Frm) (pg : List Pl) (h : Pgs pg) (hF : Frs fr) (pa : Nat) (hpa : pa < 4294967296) (n : Int) :
    Spec Tryz.prog W0 160 [.pointer (some ⟨qv, 0, none⟩), .int .u32 pa, .int .i64 n] (pt qv (rvO qs qm d) :: rstoH qs fr :: pt qm (rgO pg) :: R)
      (fun v B => ∃ a c, v = .tuple #[.slice a (rdO fr pg pa n).length c, .bool (ownB fr.length pg pa n)] ∧ B = osl 5 1 (.slice a (rdO fr pg pa n).length c) (byV (rdO fr pg pa n)) :: pt qv (rvO qs qm d) :: rstoH qs fr :: pt qm (rgO pg) :: R) := by
  by_cases ho : ownB fr.length pg pa n = true
  · obtain ⟨k, rfl⟩ : ∃ k : Nat, n = (k : Int) := ⟨n.toNat, by have := (ownB_iff.1 ho).1; omega⟩
    obtain ⟨hk, hown⟩ := ownB_nat.1 ho
    have hr : rdO fr pg pa (k : Int) = rdL fr pg pa k := by rw [rdO, if_pos ho]; rfl
    rw [hr, rdL_len, ho]
    refine spec_body Tryz.func160 Tryz.ntmps160 rfl rfl ?_
    refine x_seq (x_region (s_val rfl (v_assign rfl) (s_val rfl (v_assign rfl) (x_nil (n_then (x_seq (x_seq (x_region (s_val rfl (v_move rfl) (s_val rfl (v_move rfl) (s_val rfl (v_move rfl) (s_do rfl (d_call3 Tryz.call135 rfl (rvOwn_spec W0 _ qv qs qm d fr pg h pa hpa k)) ?_))))))))))))
    rintro _ B_ ⟨rfl, hB_⟩
    obtain rfl := hB_.symm
    refine s_val rfl (v_not rfl) (x_nil (n_then ?_))
    refine x_if rfl ?_ ?_
    · intro c1
      exact absurd ho c1
    · intro c1
      refine x_skip (n_then (x_seq (x_region (s_val rfl (v_assign rfl) (x_nil (n_then (x_seq (x_seq (x_region (s_val rfl (v_assign rfl) (x_nil (n_then (x_block ?_)))))))))))))
      refine x_loop (fun x : Nat × Option Addr × Nat => x.1 ≤ k) (fun x => [(0, .pointer (some ⟨qv, 0, none⟩)), (1, .int .u32 pa), (2, .int .i64 k), (8, .slice x.2.1 x.1 x.2.2), (9, .int .i64 x.1)]) (fun x => osl 5 1 (.slice x.2.1 x.1 x.2.2) (byV (rdL fr pg pa x.1)) :: pt qv (rvO qs qm d) :: rstoH qs fr :: pt qm (rgO pg) :: R) (fun x => k - x.1) (0, none, 0) ?_ ?_ ?_ ?_
      · simp
      · repeat (first | exact sub_nil | refine sub_cons rfl ?_)
      · exact ent_osl_nil
      · intro ⟨i, a, c⟩ hi
        dsimp only at hi ⊢
        refine x_seq (x_seq (x_region (s_val rfl (v_move rfl) (s_val rfl (v_move rfl) (s_val rfl (v_lss rfl rfl) (x_nil (n_then ?_)))))))
        refine x_if rfl ?_ ?_
        · intro c5
          refine x_skip (n_then (x_seq (x_block (x_seq ?_))))
          have hb := hown i (by omega)
          have hv := rdv_lt hF pg (pa + i)
          refine x_region (s_val rfl (v_move rfl) (s_val rfl (v_move rfl) ?_))
          refine s_val rfl (v_conv Tryz.underlying47 Tryz.underlying3 rfl (w64 (by omega))) ?_
          refine s_val rfl (v_move rfl) ?_
          refine s_val rfl (v_add rfl rfl (by rw [w64 (by omega)]; omega : IntKind.wrap .i64 ((pa : Int) + (i : Int)) = ((pa + i : Nat) : Int))) ?_
          refine s_do rfl (d_call3 Tryz.call136 rfl (rvPlace_spec W0 _ qv qs qm d fr pg h (pa + i) (by omega))) ?_
          rintro _ B_ ⟨rfl, hB_⟩
          obtain rfl := hB_.symm
          rw [plcV_eq, plF_ok hb, plO_ok hb]
          refine s_val rfl (v_move rfl) (s_val rfl (v_extract rfl rfl) (s_val rfl (v_extract rfl rfl) (s_val rfl (v_extract rfl rfl) (s_val rfl (v_assign rfl) (s_val rfl (v_assign rfl) (s_val rfl (v_assign rfl) (x_nil (n_then (x_seq (x_region (s_val rfl (v_move rfl) (s_val rfl (v_nilCheck rfl) ?_))))))))))))
          refine s_val rfl (v_fieldAddr rfl Tryz.underlying89 rfl Tryz.sizeOf85 rfl (by first | exact Nat.zero_add _ | rfl)) ?_
          refine s_val rfl (v_load Tryz.isAgg85 rfl (cell_own rfl)) ?_
          refine s_val rfl (v_move rfl) (s_val rfl (v_move rfl) (s_do rfl (d_call1 Tryz.call221 rfl (rfLoad_spec W0 _ qs fr _ _ 1 hF)) ?_))
          rintro _ B_ ⟨rfl, hB_⟩
          obtain rfl := hB_.symm
          refine s_val rfl (v_move rfl) (s_val rfl (v_extract rfl rfl) (s_val rfl (v_extract rfl rfl) (s_val rfl (v_assign rfl) (s_val rfl (v_assign rfl) (x_nil (n_then (x_region (s_val rfl (v_move rfl) (s_val rfl (v_move rfl) ?_)))))))))
          refine s_val rfl (v_conv Tryz.underlying47 Tryz.underlying5 rfl (w8u (by rw [show ldN fr (whr pg (pa + i)) (((pa + i) % 64 : Nat) : Int) 1 = rdv fr pg (pa + i) from rfl]; omega))) ?_
          refine s_do rfl (d_sliceLit Tryz.underlying44 Tryz.sizeOf5 Tryz.zeroValue5 rfl rfl rfl rfl rfl (by decide) (by decide)) ?_
          rintro _ _ ⟨b1, rfl, rfl⟩
          refine s_do rfl (d_append (sz := 1) (by_ := 1) (info := Tryz.t5) Tryz.underlying44 (by kernel_rfl) rfl rfl rfl rfl (by decide) rfl rfl cells_all rfl rfl (by simp only [maxLen]; omega) (by omega)) ?_
          rintro _ _ ⟨a1, c1, rfl, rfl⟩
          refine s_val rfl (v_assign rfl) (x_nil (n_block (n_then (x_region (s_val rfl (v_move rfl) ?_)))))
          refine s_val rfl (v_add rfl rfl (by first | exact w64 (by omega) | rfl)) ?_
          refine s_val rfl (v_assign rfl) (x_nil (n_then ?_))
          refine inv_intro (i + 1, a1, c1) ?_ ?_ ?_ ?_
          · omega
          · omega
          · repeat (first | exact sub_nil | refine sub_cons rfl ?_)
          · rw [show rdL fr pg pa (i + 1) = rdL fr pg pa i ++ [rdv fr pg (pa + i)] by simp [rdL, List.range_succ], byV_append]; exact (inferInstanceAs (Ent _ (osl 5 1 (.slice a1 (i + 1) c1) (byV (rdL fr pg pa i) ++ [Value.int .u8 ((ldN fr (whr pg (pa + i)) (((pa + i) % 64 : Nat) : Int) 1 : Nat) : Int)]) :: pt qv (rvO qs qm d) :: rstoH qs fr :: pt qm (rgO pg) :: R)))
        · intro c5
          refine x_exit (e_then (e_then (e_block (n_then (x_seq (x_region (s_val rfl (v_move rfl) (s_val rfl (v_assign rfl) (s_val rfl (v_assign rfl) (x_nil (n_then (x_ret (x_done (.inl rfl) (.cons (r_tmp rfl) (.cons (r_tmp rfl) .nil)) ?_)))))))))))))
          have e1 : i = k := by omega
          subst e1
          exact ⟨_, ⟨a, c, rfl, rfl⟩, inferInstance⟩
  · have hr : rdO fr pg pa n = [] := by rw [rdO, if_neg ho]
    have ho' : ownB fr.length pg pa n = false := by simpa using ho
    rw [hr, ho']
    refine spec_body Tryz.func160 Tryz.ntmps160 rfl rfl ?_
    refine x_seq (x_region (s_val rfl (v_assign rfl) (s_val rfl (v_assign rfl) (x_nil (n_then (x_seq (x_seq (x_region (s_val rfl (v_move rfl) (s_val rfl (v_move rfl) (s_val rfl (v_move rfl) (s_do rfl (d_call3 Tryz.call135 rfl (rvOwn_spec W0 _ qv qs qm d fr pg h pa hpa n)) ?_))))))))))))
    rintro _ B_ ⟨rfl, hB_⟩
    obtain rfl := hB_.symm
    refine s_val rfl (v_not rfl) (x_nil (n_then ?_))
    refine x_if rfl ?_ ?_
    · intro c1
      refine x_seq (x_region (s_val rfl (v_assign rfl) (s_val rfl (v_assign rfl) (x_nil (n_then (x_ret (r_then (x_done (.inl rfl) (.cons (r_tmp rfl) (.cons (r_tmp rfl) .nil)) ?_))))))))
      exact ⟨_, ⟨none, 0, rfl, rfl⟩, ent_osl_nil⟩
    · intro c1
      exact absurd (by rw [ho']; decide) c1
theorem rvWrite_spec (W0 : World) (R : List HP) (qv qs qm d c : Nat) (a : Option Addr) (fr : List Frm) (pg : List Pl) (h : Pgs pg) (hF : Frs fr) (pa : Nat) (hpa : pa < 4294967296) (bs : List Nat) (hb : By bs) (hs : SlA (OwnP W0 R) a 1 (fun x => [bV x]) bs) (hlen : bs.length < 9223372036854775808) :
    Spec Tryz.prog W0 68 [.pointer (some ⟨qv, 0, none⟩), .int .u32 pa, .slice a bs.length c] (pt qv (rvO qs qm d) :: rstoH qs fr :: pt qm (rgO pg) :: R)
      (fun v B => v = .bool (ownB fr.length pg pa bs.length) ∧ B = pt qv (rvO qs qm (wrE fr pg pa d bs.length)) :: rstoH qs (wrF fr pg pa bs) :: pt qm (rgO pg) :: R) := by
  by_cases ho : ownB fr.length pg pa bs.length = true
  · obtain ⟨hk, hown⟩ := ownB_nat.1 ho
    rw [wrE, if_pos ho, wrF, if_pos ho, ho]
    refine spec_body Tryz.func68 Tryz.ntmps68 rfl rfl ?_
    refine x_seq (x_region (s_val rfl (v_assign rfl) (x_nil (n_then (x_seq (x_seq (x_region (s_val rfl (v_move rfl) (s_val rfl (v_move rfl) (s_val rfl (v_move rfl) (s_val rfl (v_len_slice Tryz.underlying44 rfl) (s_do rfl (d_call3 Tryz.call135 rfl (rvOwn_spec W0 _ qv qs qm d fr pg h pa hpa bs.length)) ?_))))))))))))
    rintro _ B_ ⟨rfl, hB_⟩
    obtain rfl := hB_.symm
    refine s_val rfl (v_not rfl) (x_nil (n_then ?_))
    refine x_if rfl ?_ ?_
    · intro c1
      exact absurd ho c1
    · intro c1
      refine x_skip (n_then (x_seq (x_seq (x_region (s_val rfl (v_assign rfl) (x_nil (n_then (x_block ?_))))))))
      refine x_loop (fun i : Nat => i ≤ bs.length) (fun i => [(0, .pointer (some ⟨qv, 0, none⟩)), (1, .int .u32 pa), (2, .slice a bs.length c), (7, .int .i64 i)]) (fun i => pt qv (rvO qs qm (wrD d pa i)) :: rstoH qs (wrK fr pg pa bs i) :: pt qm (rgO pg) :: R) (fun i => bs.length - i) 0 ?_ ?_ ?_ ?_
      · exact Nat.zero_le _
      · repeat (first | exact sub_nil | refine sub_cons rfl ?_)
      · simp only [wrD, wrK]; exact inferInstance
      · intro i hi
        refine x_seq (x_seq (x_region (s_val rfl (v_move rfl) (s_val rfl (v_move rfl) (s_val rfl (v_len_slice Tryz.underlying44 rfl) (s_val rfl (v_lss rfl rfl) (x_nil (n_then ?_))))))))
        refine x_if rfl ?_ ?_
        · intro c4
          refine x_skip (n_then (x_seq (x_block (x_seq ?_))))
          have hil : i < bs.length := by omega
          have hfb := hown i hil
          obtain ⟨hFi, hli⟩ := wrK_ok (pg := pg) (pa := pa) (bs := bs) hF i
          obtain ⟨gb, ob, rfl, hc⟩ := hs.at_ hil
          have hx : bs[i] < 256 := hb.get hil
          have hg : bs.getD i 0 = bs[i] := by simp [List.getD, hil]
          refine x_region (s_val rfl (v_move rfl) (s_val rfl (v_move rfl) ?_))
          refine s_val rfl (v_conv Tryz.underlying47 Tryz.underlying3 rfl (w64 (by omega))) ?_
          refine s_val rfl (v_move rfl) ?_
          refine s_val rfl (v_add rfl rfl (by rw [w64 (by omega)]; omega : IntKind.wrap .i64 ((pa : Int) + (i : Int)) = ((pa + i : Nat) : Int))) ?_
          refine s_do rfl (d_call3 Tryz.call136 rfl (rvPlace_spec W0 _ qv qs qm _ _ pg h (pa + i) (by omega))) ?_
          rintro _ B_ ⟨rfl, hB_⟩
          obtain rfl := hB_.symm
          rw [hli, plcV_eq, plF_ok hfb, plO_ok hfb]
          refine s_val rfl (v_move rfl) (s_val rfl (v_extract rfl rfl) (s_val rfl (v_extract rfl rfl) (s_val rfl (v_extract rfl rfl) (s_val rfl (v_assign rfl) (s_val rfl (v_assign rfl) (s_val rfl (v_assign rfl) (x_nil (n_then (x_seq ?_)))))))))
          refine x_draw [(qv, 0, _), (gb, ob + i * 1, [bV bs[i]])] 12 mixed rfl (sc_own (sc_cons hc.weak sc_end)) (fun hS => ?_)
          refine d_take 0 rfl rfl (by kernel_rfl) (by kernel_rfl) (by kernel_rfl) rfl hS (v_move rfl) ?_
          refine d_take 1 rfl rfl (by kernel_rfl) (by kernel_rfl) (by kernel_rfl) rfl hS (v_nilCheck rfl) ?_
          refine d_take 2 rfl rfl (by kernel_rfl) (by kernel_rfl) (by kernel_rfl) rfl hS (v_fieldAddr rfl Tryz.underlying89 rfl Tryz.sizeOf85 rfl (by first | exact Nat.zero_add _ | rfl)) ?_
          refine d_take 3 rfl rfl (by kernel_rfl) (by kernel_rfl) (by kernel_rfl) rfl hS (v_load Tryz.isAgg85 rfl (by first | exact cell_sc0 (k := 0) rfl rfl | exact cell_sc0 (k := 1) rfl rfl)) ?_
          refine d_take 4 rfl rfl (by kernel_rfl) (by kernel_rfl) (by kernel_rfl) rfl hS (v_move rfl) ?_
          refine d_take 5 rfl rfl (by kernel_rfl) (by kernel_rfl) (by kernel_rfl) rfl hS (v_move rfl) ?_
          refine d_take 6 rfl rfl (by kernel_rfl) (by kernel_rfl) (by kernel_rfl) rfl hS (v_move rfl) ?_
          refine d_take 7 rfl rfl (by kernel_rfl) (by kernel_rfl) (by kernel_rfl) rfl hS (v_move rfl) ?_
          refine d_take 8 rfl rfl (by kernel_rfl) (by kernel_rfl) (by kernel_rfl) rfl hS (v_idx Tryz.underlying44 Tryz.sizeOf5 rfl rfl rfl hil (by first | exact Nat.zero_add _ | rfl)) ?_
          refine d_take 9 rfl rfl (by kernel_rfl) (by kernel_rfl) (by kernel_rfl) rfl hS (v_load Tryz.isAgg5 rfl (cell_sc1 (k := 1) rfl)) ?_
          refine d_take 10 rfl rfl (by kernel_rfl) (by kernel_rfl) (by kernel_rfl) rfl hS (v_conv Tryz.underlying5 Tryz.underlying47 rfl (w32u (by omega))) ?_
          refine d_one 11 (by kernel_rfl) rfl rfl (d_call1 Tryz.call107 rfl (rfSave_spec W0 _ qs _ _ _ 1 bs[i] (by omega) hFi)) rfl ?_; clear hS
          rintro _ B_ ⟨rfl, hB_⟩
          obtain rfl := hB_.symm
          refine ⟨(sc_own (sc_cons hc.weak sc_end)), fun hS => ?_⟩
          refine d_done (by kernel_rfl) ?_; clear hS
          refine n_then (x_region (s_val rfl (v_move rfl) (s_val rfl (v_move rfl) ?_)))
          refine s_val rfl (v_conv Tryz.underlying47 Tryz.underlying3 rfl (w64 (by omega))) ?_
          refine s_val rfl (v_move rfl) ?_
          refine s_val rfl (v_add rfl rfl (by rw [w64 (by omega)]; omega : IntKind.wrap .i64 ((pa : Int) + (i : Int)) = ((pa + i : Nat) : Int))) ?_
          refine s_val rfl (v_quo rfl rfl (by decide) ((congrArg (IntKind.wrap .i64) (tdivN (pa + i) 64)).trans (w64 (by omega)))) ?_
          refine s_val rfl (v_nilCheck rfl) ?_
          refine s_val rfl (v_fieldAddr rfl Tryz.underlying89 rfl Tryz.sizeOf87 rfl (by first | exact Nat.zero_add _ | rfl)) ?_
          refine s_val rfl (v_idxArr Tryz.underlying87 Tryz.sizeOf4 rfl rfl rfl (by omega) (by first | exact Nat.zero_add _ | rfl)) ?_
          refine s_do0 (d_store Tryz.sizeOf4 rfl rfl rfl (by simp [wrV]; omega) (wr_set (by omega))) ?_
          rintro _ _ rfl
          refine x_nil (n_block (n_then (x_region (s_val rfl (v_move rfl) ?_))))
          refine s_val rfl (v_add rfl rfl (by first | exact w64 (by omega) | rfl)) ?_
          refine s_val rfl (v_assign rfl) (x_nil (n_then ?_))
          refine inv_intro (i + 1) ?_ ?_ ?_ ?_
          · omega
          · omega
          · repeat (first | exact sub_nil | refine sub_cons rfl ?_)
          · simp only [wrD, wrK, hg]; exact inferInstance
        · intro c4
          refine x_exit (e_then (e_then (e_block (n_then (x_seq (x_region (s_val rfl (v_assign rfl) (x_nil (n_then (x_ret (x_done (.inl rfl) (.cons (r_tmp rfl) .nil) ?_)))))))))))
          have e1 : i = bs.length := by omega
          subst e1
          exact ⟨_, ⟨rfl, rfl⟩, inferInstance⟩
  · have ho' : ownB fr.length pg pa bs.length = false := by simpa using ho
    rw [wrE, if_neg ho, wrF, if_neg ho, ho']
    refine spec_body Tryz.func68 Tryz.ntmps68 rfl rfl ?_
    refine x_seq (x_region (s_val rfl (v_assign rfl) (x_nil (n_then (x_seq (x_seq (x_region (s_val rfl (v_move rfl) (s_val rfl (v_move rfl) (s_val rfl (v_move rfl) (s_val rfl (v_len_slice Tryz.underlying44 rfl) (s_do rfl (d_call3 Tryz.call135 rfl (rvOwn_spec W0 _ qv qs qm d fr pg h pa hpa bs.length)) ?_))))))))))))
    rintro _ B_ ⟨rfl, hB_⟩
    obtain rfl := hB_.symm
    refine s_val rfl (v_not rfl) (x_nil (n_then ?_))
    refine x_if rfl ?_ ?_
    · intro c1
      refine x_seq (x_region (s_val rfl (v_assign rfl) (x_nil (n_then (x_ret (r_then (x_done (.inl rfl) (.cons (r_tmp rfl) .nil) ?_)))))))
      exact ⟨_, ⟨rfl, rfl⟩, inferInstance⟩
    · intro c1
      exact absurd (by rw [ho']; decide) c1
end Go.Proofs.YtncegikenkpcmaaGreat
namespace Go.Proofs.YtncegikenkpcmaaGreat
open Go.RowKit
set_option linter.unusedSimpArgs false
set_option linter.unusedVariables false
set_option maxRecDepth 20000
def lenW (l : List Dsc) (w : Bool) : Nat := (l.map fun d => if wrB d = w then d.len else 0).sum
theorem lenW_snoc (l : List Dsc) (d : Dsc) (w : Bool) : lenW (l ++ [d]) w = lenW l w + (if wrB d = w then d.len else 0) := by simp [lenW]
theorem lenW_take {l : List Dsc} {i : Nat} (h : i < l.length) (w : Bool) : lenW (l.take (i + 1)) w = lenW (l.take i) w + (if wrB l[i] = w then l[i].len else 0) := by
  rw [List.take_succ_eq_append_getElem h, lenW_snoc]
theorem lenW_le {l : List Dsc} (hl : ∀ d ∈ l, d.ok) (w : Bool) : lenW l w ≤ l.length * 4294967296 := by
  induction l with
  | nil => simp [lenW]
  | cons d l ih =>
    have h1 := (hl d (by simp)).len
    have h2 := ih (fun x hx => hl x (by simp [hx]))
    simp only [lenW, List.map_cons, List.sum_cons, List.length_cons] at h2 ⊢
    split <;> omega
theorem chLen_sla (W0 : World) (R : List HP) (a : Option Addr) (c : Nat) (l : List Dsc) (w : Bool) (hl : ∀ d ∈ l, d.ok) (hn : l.length ≤ 1000) (hs : SlA (OwnP W0 R) a 4 dsV l) :
    Spec Tryz.prog W0 211 [.slice a l.length c, .bool w] R (fun v B => v = .int .i64 (lenW l w : Nat) ∧ B = R) := by
  refine spec_body Tryz.func211 Tryz.ntmps211 rfl rfl ?_
  refine x_seq (x_region (s_val rfl (v_assign rfl) (x_nil (n_then (x_seq (x_region (s_val rfl (v_assign rfl) (x_nil (n_then (x_seq (x_seq (x_region (s_val rfl (v_move rfl) (s_val rfl (v_len_slice Tryz.underlying43 rfl) (s_val rfl (v_move rfl) (x_nil (n_then (x_block ?_))))))))))))))))))
  refine x_loop (fun i : Nat => i ≤ l.length) (fun i => [(1, .bool w), (5, .int .i64 (lenW (l.take i) w : Nat)), (8, .slice a l.length c), (9, .int .i64 l.length), (10, .int .i64 i)]) (fun i => R) (fun i => l.length - i) 0 ?_ ?_ ?_ ?_
  · exact Nat.zero_le _
  · repeat (first | exact sub_nil | refine sub_cons rfl ?_)
  · exact inferInstance
  · intro i hi
    refine x_seq (x_region (s_val rfl (v_lss rfl rfl) (x_nil (n_then (x_seq ?_)))))
    refine x_if rfl ?_ ?_
    · intro c3
      refine x_skip (n_then (x_seq (x_block (x_seq ?_))))
      have hi1 : i < l.length := by omega
      obtain ⟨g, o, rfl, hc⟩ := hs.at_ hi1
      have hd := hl _ (List.getElem_mem hi1)
      have htk := lenW_take hi1 w
      have hle := lenW_le (fun d hd => hl d (List.mem_of_mem_take hd) : ∀ d ∈ l.take i, d.ok) w
      have hti : (l.take i).length = i := by rw [List.length_take]; omega
      have hdl := hd.len
      refine x_region ?_
      refine s_val rfl (v_idx Tryz.underlying43 Tryz.sizeOf139 rfl rfl rfl hi1 (by first | exact Nat.zero_add _ | rfl)) ?_
      refine s_val rfl (v_loadAgg Tryz.isAgg139 Tryz.sizeOf139 rfl hc.weak rfl) ?_
      refine s_do rfl (d_allocA Tryz.zeroValue139) ?_
      rintro _ _ ⟨b1, rfl, rfl⟩
      refine s_do0 (d_storeAll Tryz.sizeOf139 rfl rfl rfl rfl rfl) ?_
      rintro _ _ rfl
      refine x_nil (n_then (x_seq (x_region (s_val rfl (v_loadAll Tryz.isAgg139 Tryz.sizeOf139 rfl rfl) ?_))))
      refine s_do rfl (d_call Tryz.call247 rfl (chWrites_spec W0 _ l[i] hd)) ?_
      rintro _ B_ ⟨rfl, hB_⟩
      obtain rfl := hB_.symm
      refine s_val rfl (v_move rfl) (s_val rfl (v_eql_bool Tryz.underlying4 rfl rfl) ?_)
      refine x_nil (n_then ?_)
      refine x_if rfl ?_ ?_
      · intro c5
        rw [if_pos c5] at htk
        refine x_region (s_val rfl (v_move rfl) ?_)
        refine s_val rfl (v_fieldAddr rfl Tryz.underlying139 rfl Tryz.sizeOf47 rfl (by first | exact Nat.zero_add _ | rfl)) ?_
        refine s_val rfl (v_load Tryz.isAgg47 rfl (cell_own rfl)) ?_
        refine s_val rfl (v_conv Tryz.underlying47 Tryz.underlying3 rfl (w64 (by omega))) ?_
        refine s_val rfl (v_add rfl rfl (by rw [w64 (by omega)]; omega : IntKind.wrap .i64 (((lenW (l.take i) w : Nat) : Int) + ((l[i].len : Nat) : Int)) = ((lenW (l.take i) w + l[i].len : Nat) : Int))) ?_
        refine s_val rfl (v_assign rfl) (x_nil (n_block (n_then (x_region ?_))))
        refine s_val rfl (v_add rfl rfl (by first | exact w64 (by omega) | rfl)) ?_
        refine s_val rfl (v_move rfl) (x_nil (n_then ?_))
        refine inv_intro (i + 1) ?_ ?_ ?_ ?_
        · omega
        · omega
        · rw [htk]; repeat (first | exact sub_nil | refine sub_cons rfl ?_)
        · exact inferInstance
      · intro c5
        rw [if_neg c5, Nat.add_zero] at htk
        refine x_skip (n_block (n_then (x_region ?_)))
        refine s_val rfl (v_add rfl rfl (by first | exact w64 (by omega) | rfl)) ?_
        refine s_val rfl (v_move rfl) (x_nil (n_then ?_))
        refine inv_intro (i + 1) ?_ ?_ ?_ ?_
        · omega
        · omega
        · rw [htk]; repeat (first | exact sub_nil | refine sub_cons rfl ?_)
        · exact inferInstance
    · intro c3
      refine x_exit (e_then (e_then (e_block (n_then (x_seq (x_region (s_val rfl (v_move rfl) (s_val rfl (v_assign rfl) (x_nil (n_then (x_ret (x_done (.inl rfl) (.cons (r_tmp rfl) .nil) ?_))))))))))))
      refine ⟨_, ⟨?_, rfl⟩, inferInstance⟩
      obtain rfl : i = l.length := by omega
      rw [List.take_of_length_le (Nat.le_refl _)]; rfl
theorem chLen_spec (W0 : World) (R : List HP) (a : Option Addr) (c : Nat) (l : List Dsc) (w : Bool) (hl : ∀ d ∈ l, d.ok) (hn : l.length ≤ 1000) :
    Spec Tryz.prog W0 211 [.slice a l.length c, .bool w] (osl 139 4 (.slice a l.length c) (l.flatMap dsV) :: R) (fun v B => v = .int .i64 (lenW l w : Nat) ∧ B = osl 139 4 (.slice a l.length c) (l.flatMap dsV) :: R) :=
  spec_sla (h := tk_here) dsV l (fun _ => rfl) (by decide) rfl (fun hs => chLen_sla W0 _ a c l w hl hn hs)
theorem rcWrites_spec (W0 : World) (R : List HP) (d : Dsc) (hd : d.ok) : Spec Tryz.prog W0 159 [.agg (dsV d).toArray] R (fun v B => v = .bool (wrB d) ∧ B = R) := by
  have h1 := hd.flags
  refine spec_body Tryz.func159 Tryz.ntmps159 rfl rfl ?_
  refine x_seq (x_region (s_do rfl (d_boxA rfl) ?_))
  rintro _ _ ⟨b1, rfl, rfl⟩
  refine s_val rfl (v_assign rfl) (x_nil (n_then (x_seq (x_region ?_))))
  refine s_val rfl (v_fieldAddr rfl Tryz.underlying139 rfl Tryz.sizeOf47 rfl (by first | exact Nat.zero_add _ | rfl)) ?_
  refine s_val rfl (v_load Tryz.isAgg47 rfl (cell_own rfl)) ?_
  refine s_val rfl (v_quo rfl rfl (by decide) ((congrArg (IntKind.wrap .u32) (tdivN d.flags 2)).trans (w32u (by omega)))) ?_
  refine s_val rfl (v_rem rfl rfl (by decide) (tmodN (d.flags / 2) 2)) ?_
  refine s_val rfl (v_eql rfl rfl) (s_val rfl (v_assign rfl) (x_nil (n_then (x_ret (x_done (.inl rfl) (.cons (r_tmp rfl) .nil) ?_)))))
  refine ⟨_, ⟨?_, rfl⟩, inferInstance⟩
  refine congrArg Value.bool ?_
  rw [Bool.eq_iff_iff, beq_iff_eq, wrB, decide_eq_true_iff]; omega
theorem rcLen_sla (W0 : World) (R : List HP) (a : Option Addr) (c : Nat) (l : List Dsc) (w : Bool) (hl : ∀ d ∈ l, d.ok) (hn : l.length ≤ 1000) (hs : SlA (OwnP W0 R) a 4 dsV l) :
    Spec Tryz.prog W0 92 [.slice a l.length c, .bool w] R (fun v B => v = .int .i64 (lenW l w : Nat) ∧ B = R) := by
  refine spec_body Tryz.func92 Tryz.ntmps92 rfl rfl ?_
  refine x_seq (x_region (s_val rfl (v_assign rfl) (x_nil (n_then (x_seq (x_region (s_val rfl (v_assign rfl) (x_nil (n_then (x_seq (x_seq (x_region (s_val rfl (v_assign rfl) (x_nil (n_then (x_block ?_))))))))))))))))
  refine x_loop (fun i : Nat => i ≤ l.length) (fun i => [(0, .slice a l.length c), (1, .bool w), (5, .int .i64 (lenW (l.take i) w : Nat)), (6, .int .i64 i)]) (fun i => R) (fun i => l.length - i) 0 ?_ ?_ ?_ ?_
  · exact Nat.zero_le _
  · repeat (first | exact sub_nil | refine sub_cons rfl ?_)
  · exact inferInstance
  · intro i hi
    refine x_seq (x_seq (x_region (s_val rfl (v_move rfl) (s_val rfl (v_move rfl) (s_val rfl (v_len_slice Tryz.underlying43 rfl) (s_val rfl (v_lss rfl rfl) (x_nil (n_then ?_))))))))
    refine x_if rfl ?_ ?_
    · intro c3
      refine x_skip (n_then (x_seq (x_block (x_seq ?_))))
      have hi1 : i < l.length := by omega
      obtain ⟨g, o, rfl, hc⟩ := hs.at_ hi1
      have hd := hl _ (List.getElem_mem hi1)
      have htk := lenW_take hi1 w
      have hle := lenW_le (fun d hd => hl d (List.mem_of_mem_take hd) : ∀ d ∈ l.take i, d.ok) w
      have hti : (l.take i).length = i := by rw [List.length_take]; omega
      have hdl := hd.len
      refine x_region (s_val rfl (v_move rfl) (s_val rfl (v_move rfl) ?_))
      refine s_val rfl (v_idx Tryz.underlying43 Tryz.sizeOf139 rfl rfl rfl hi1 (by first | exact Nat.zero_add _ | rfl)) ?_
      refine s_val rfl (v_loadAgg Tryz.isAgg139 Tryz.sizeOf139 rfl hc.weak rfl) ?_
      refine s_do rfl (d_call Tryz.call159 rfl (rcWrites_spec W0 _ l[i] hd)) ?_
      rintro _ B_ ⟨rfl, hB_⟩
      obtain rfl := hB_.symm
      refine s_val rfl (v_move rfl) (s_val rfl (v_eql_bool Tryz.underlying4 rfl rfl) ?_)
      refine x_nil (n_then ?_)
      refine x_if rfl ?_ ?_
      · intro c5
        rw [if_pos c5] at htk
        refine x_region (s_val rfl (v_move rfl) (s_val rfl (v_move rfl) (s_val rfl (v_move rfl) ?_)))
        refine s_val rfl (v_idx Tryz.underlying43 Tryz.sizeOf139 rfl rfl rfl hi1 (by first | exact Nat.zero_add _ | rfl)) ?_
        refine s_val rfl (v_fieldAddr rfl Tryz.underlying139 rfl Tryz.sizeOf47 rfl (by first | exact Nat.zero_add _ | rfl)) ?_
        refine s_val rfl (v_load Tryz.isAgg47 rfl (Cells.weak hc 1 _ rfl)) ?_
        refine s_val rfl (v_conv Tryz.underlying47 Tryz.underlying3 rfl (w64 (by omega))) ?_
        refine s_val rfl (v_add rfl rfl (by rw [w64 (by omega)]; omega : IntKind.wrap .i64 (((lenW (l.take i) w : Nat) : Int) + ((l[i].len : Nat) : Int)) = ((lenW (l.take i) w + l[i].len : Nat) : Int))) ?_
        refine s_val rfl (v_assign rfl) (x_nil (n_block (n_then (x_region (s_val rfl (v_move rfl) ?_)))))
        refine s_val rfl (v_add rfl rfl (by first | exact w64 (by omega) | rfl)) ?_
        refine s_val rfl (v_assign rfl) (x_nil (n_then ?_))
        refine inv_intro (i + 1) ?_ ?_ ?_ ?_
        · omega
        · omega
        · rw [htk]; repeat (first | exact sub_nil | refine sub_cons rfl ?_)
        · exact inferInstance
      · intro c5
        rw [if_neg c5, Nat.add_zero] at htk
        refine x_skip (n_block (n_then (x_region (s_val rfl (v_move rfl) ?_))))
        refine s_val rfl (v_add rfl rfl (by first | exact w64 (by omega) | rfl)) ?_
        refine s_val rfl (v_assign rfl) (x_nil (n_then ?_))
        refine inv_intro (i + 1) ?_ ?_ ?_ ?_
        · omega
        · omega
        · rw [htk]; repeat (first | exact sub_nil | refine sub_cons rfl ?_)
        · exact inferInstance
    · intro c3
      refine x_exit (e_then (e_then (e_block (n_then (x_seq (x_region (s_val rfl (v_move rfl) (s_val rfl (v_assign rfl) (x_nil (n_then (x_ret (x_done (.inl rfl) (.cons (r_tmp rfl) .nil) ?_))))))))))))
      refine ⟨_, ⟨?_, rfl⟩, inferInstance⟩
      obtain rfl : i = l.length := by omega
      rw [List.take_of_length_le (Nat.le_refl _)]; rfl
theorem rcLen_spec (W0 : World) (R : List HP) (a : Option Addr) (c : Nat) (l : List Dsc) (w : Bool) (hl : ∀ d ∈ l, d.ok) (hn : l.length ≤ 1000) :
    Spec Tryz.prog W0 92 [.slice a l.length c, .bool w] (osl 139 4 (.slice a l.length c) (l.flatMap dsV) :: R) (fun v B => v = .int .i64 (lenW l w : Nat) ∧ B = osl 139 4 (.slice a l.length c) (l.flatMap dsV) :: R) :=
  spec_sla (h := tk_here) dsV l (fun _ => rfl) (by decide) rfl (fun hs => rcLen_sla W0 _ a c l w hl hn hs)
theorem wkSt_ok {fr : List Frm} (hF : Frs fr) (pg : List Pl) (r : Rg3) (head : Int) : ∀ n, ∀ d ∈ (wkSt fr pg r head n).2.2, d.ok
  | 0, d, hd => by simp [wkSt] at hd
  | n + 1, d, hd => by
    rw [wkSt] at hd
    rcases List.mem_append.1 hd with h | h
    · exact wkSt_ok hF pg r head n d h
    · obtain rfl := List.mem_singleton.1 h
      exact lk_ok hF _ _ _ _ _
theorem wkGo_or {fr : List Frm} {pg : List Pl} {r : Rg3} {head : Int} : ∀ f n, (∃ c, wkGo fr pg r head f n = ([], c) ∧ c ≠ 0) ∨ ∃ m, m < n + f ∧ wkGo fr pg r head f n = ((wkSt fr pg r head (m + 1)).2.2, 0) ∧ (lkN fr pg r head m).2 = 0 ∧ goB (lkN fr pg r head m).1 = false ∧ ∀ k, n ≤ k → k < m → (lkN fr pg r head k).2 = 0 ∧ goB (lkN fr pg r head k).1 = true
  | 0, n => .inl ⟨2, rfl, by decide⟩
  | f + 1, n => by
    rw [wkGo]
    by_cases h1 : (lkN fr pg r head n).2 ≠ 0
    · rw [if_pos h1]; exact .inl ⟨_, rfl, h1⟩
    rw [if_neg h1]
    by_cases h2 : goB (lkN fr pg r head n).1 = true
    · rw [if_pos h2]
      rcases wkGo_or f (n + 1) with h | ⟨m, hm, he, h3, h4, h5⟩
      · exact .inl h
      · refine .inr ⟨m, by omega, he, h3, h4, fun k hk hkm => ?_⟩
        rcases Nat.lt_or_ge n k with q | q
        · exact h5 k (by omega) hkm
        · rw [show k = n by omega]; exact ⟨Decidable.not_not.1 h1, h2⟩
    · rw [if_neg h2]
      exact .inr ⟨n, by omega, rfl, Decidable.not_not.1 h1, by simpa using h2, fun k hk hkm => by omega⟩
theorem wkAll_or (fr : List Frm) (pg : List Pl) (r : Rg3) (head : Int) : (∃ c, wkAll fr pg r head = ([], c) ∧ c ≠ 0) ∨ ∃ m, m < 9 ∧ wkAll fr pg r head = ((wkSt fr pg r head (m + 1)).2.2, 0) ∧ alive fr pg r head m ∧ (lkN fr pg r head m).2 = 0 ∧ goB (lkN fr pg r head m).1 = false := by
  unfold wkAll; split
  · rcases wkGo_or (fr := fr) (pg := pg) (r := r) (head := head) 9 0 with h | ⟨m, hm, he, h3, h4, h5⟩
    · exact .inl h
    · exact .inr ⟨m, by omega, he, fun k hk => h5 k (Nat.zero_le _) hk, h3, h4⟩
  · exact .inl ⟨5, rfl, by decide⟩
theorem wkAll_ok {fr : List Frm} (hF : Frs fr) (pg : List Pl) (r : Rg3) (head : Int) : (∀ d ∈ (wkAll fr pg r head).1, d.ok) ∧ (wkAll fr pg r head).1.length ≤ 9 := by
  rcases wkAll_or fr pg r head with ⟨c, h, _⟩ | ⟨m, hm, h, _⟩
  · rw [h]; exact ⟨fun d hd => by simp at hd, by simp⟩
  · rw [h]; exact ⟨wkSt_ok hF _ _ _ _, by rw [wkSt_len]; omega⟩
end Go.Proofs.YtncegikenkpcmaaGreat
namespace Go.Proofs.YtncegikenkpcmaaGreat
open Go.RowKit
set_option linter.unusedSimpArgs false
set_option linter.unusedVariables false
set_option maxRecDepth 20000
abbrev prH (pv ps pm qv qs qm d : Nat) (fr : List Frm) (pg : List Pl) (R : List HP) : List HP :=
  pt pv (viO ps pm d) :: stoH ps fr :: pt pm (gmO pg) :: pt qv (rvO qs qm d) :: rstoH qs fr :: pt qm (rgO pg) :: R
theorem vsvF_ok {fr : List Frm} {pg : List Pl} {pa : Nat} {w : Int} {x : Nat} (h : Frs fr) : Frs (vsvF fr pg pa w x) ∧ (vsvF fr pg pa w x).length = fr.length := by
  unfold vsvF; split
  · exact ⟨svF_ok h, svF_len⟩
  · exact ⟨h, rfl⟩
theorem vsvD_lt {fr : List Frm} {pg : List Pl} {pa d : Nat} {w : Int} (h : d < 4096) : vsvD fr pg pa w d < 4096 := by
  unfold vsvD; split
  · rename_i hs; exact Nat.or_lt_two_pow (n := 12) h (page_lt (by have := (fnd_ok hs).1; omega))
  · exact h
end Go.Proofs.YtncegikenkpcmaaGreat
namespace Go.Proofs.YtncegikenkpcmaaGreat
open Go.RowKit
set_option linter.unusedSimpArgs false
set_option linter.unusedVariables false
theorem byV_flat : ∀ bs : List Nat, bs.flatMap (fun x => [bV x]) = byV bs
  | [] => rfl
  | b :: l => by rw [List.flatMap_cons, byV_flat l]; rfl
theorem byV_map : ∀ bs : List Nat, (bs.map fun b : Nat => (b : Int)).map (Value.int .u8) = byV bs
  | [] => rfl
  | b :: l => by rw [List.map_cons, List.map_cons, byV_map l]; rfl
def strB (l : List Nat) : ByteArray := (l.map fun b : Nat => (b : Int)).foldl (fun r n => r.push (UInt8.ofNat n.toNat)) ByteArray.empty
section
variable {P : Program} {S : World → Prop} {W0 : World} {N : FSz} {e : Env} {A R : List HP} {t t' : TypeId} {x : Operand} {bs : List Nat} {a : Option Addr} {c n : Nat}
theorem v_bstrS {E : TypeId} (hs : P.underlying t = some (.slice E)) (he : P.underlying E = some (.int .u8)) (hd : P.underlying t' = some .string) (hx : ev e x = some (.slice a bs.length c)) (h : SlA S a 1 (fun x => [bV x]) bs) :
    Val P S N e (.convert t t' x) (.string (strB bs)) := fun act w _ _ _ _ _ hF hO => by
  have hr : (Conv.bytesToString (.slice a bs.length c)).run P w = .ok (.string (strB bs)) w := by
    cases a with
    | none =>
      have : bs = [] := by
        cases bs with
        | nil => rfl
        | cons b l => obtain ⟨_, _, h0, _⟩ := h 0 b rfl; cases h0
      subst this
      simp [Conv.bytesToString, strB]
    | some ad =>
      have hl : (loadCells ad bs.length).run P w = .ok ((bs.map fun b : Nat => (b : Int)).map (Value.int .u8)).toArray w := by
        by_cases hb : bs = []
        · subst hb; simp [loadCells, loadCellsFrom]
        · obtain ⟨b, off, hae, hc⟩ := h.all hb (fun _ => rfl)
          cases hae
          rw [byV_flat] at hc
          have := run_loadCells (P := P) (w := w) (vs := byV bs) (fun i v hi => hc i v hi w hO) bs.length 0 #[] (by simp [byV_len])
          simp only [loadCells, this, List.drop_zero, Array.empty_append, byV_map]
      exact run_bytesToString w ad bs.length c _ hl
  simp only [execOp, hF.eval hx, Sem.run_bind, run_convert_bytes_string w t t' E a bs.length c hs he hd, hr, Result.andThen_ok, Sem.run_pure]
theorem v_bstrSN {E : TypeId} (hs : P.underlying t = some (.slice E)) (he : P.underlying E = some (.int .u8)) (hd : P.underlying t' = some .string) (hx : ev e x = some (.slice a n c)) (hn : bs.length = n) (h : SlA S a 1 (fun x => [bV x]) bs) :
    Val P S N e (.convert t t' x) (.string (strB bs)) := by subst hn; exact v_bstrS hs he hd hx h
end
end Go.Proofs.YtncegikenkpcmaaGreat
namespace Go.Proofs.YtncegikenkpcmaaGreat
open Go.ChangeShapes Go.WideShapes Go.ChangeAt Go.RowKit
set_option linter.unusedSimpArgs false
set_option linter.unusedVariables false
def InT (P : Program) (w : World) : Nat → TypeId → List Value → Prop
  | 0, _, _ => False
  | fuel + 1, t, cs =>
    match P.underlying t with
    | some .bool => ∃ b, cs = [.bool b]
    | some (.int k) => ∃ n, cs = [.int k n] ∧ (Lit.int k n).wf = true
    | some .string => ∃ s, cs = [.string s] ∧ s.size ≤ maxLen
    | some (.slice e) => cs = [.slice none 0 0] ∨ ∃ a len cap, cs = [.slice (some a) len cap] ∧ len ≤ cap ∧ cap ≤ maxLen ∧
        ∀ i, i < len → ∃ cs', w.cells? 0 (a.add (i * P.cellsOf e)) (P.cellsOf e) = some cs' ∧ InT P w fuel e cs'
    | some (.struct fs) => cs.length = P.cellsOf t ∧ ∀ f : Field, f ∈ fs.toList → InT P w fuel f.type ((cs.drop f.offset).take (P.cellsOf f.type))
    | some (.array n e) => cs.length = P.cellsOf t ∧ ∀ i, i < n → InT P w fuel e ((cs.drop (i * P.cellsOf e)).take (P.cellsOf e))
    | _ => True
section
variable {H : Type} {enc : TypeId × Value → H} {P : Program} {w W : World}
theorem inT_of_trod {sp : Nat → Bool} : ∀ (fuel : Nat) (t : TypeId) (cs : List Value) (x : DataW H × List MemPlace), DataW.trod enc P w 0 sp true fuel t cs = some x → InT P w fuel t cs
  | 0, t, cs, x, h => by simp [DataW.trod] at h
  | fuel + 1, t, cs, x, h => by
    unfold InT
    cases hu : P.underlying t with
    | none => trivial
    | some d =>
      cases d with
      | bool =>
        simp only []
        unfold DataW.trod at h; simp only [hu] at h
        split at h <;> simp_all
      | int k =>
        simp only []
        obtain ⟨n, hc, _, hw⟩ := DataW.trod_int hu h
        exact ⟨n, hc, hw⟩
      | string =>
        simp only []
        unfold DataW.trod at h; simp only [hu] at h
        split at h <;> simp_all
      | slice e =>
        simp only []
        rcases DataW.trod_slice hu h with ⟨hc, _⟩ | ⟨a, len, cap, elems, rest, n, hf, hc, _, _, hl, hm, hle, hel, _⟩
        · exact .inl hc
        · refine .inr ⟨a, len, cap, hc, hl, hm, fun i hi => ?_⟩
          obtain rfl : fuel = n := by omega
          have h1 := hel i hi
          have h2 : elems[i]? = some elems[i] := by simp
          rw [h2] at h1
          cases hcs : w.cells? 0 (a.add (i * P.cellsOf e)) (P.cellsOf e) with
          | none => rw [hcs] at h1; cases h1
          | some cs' =>
            rw [hcs] at h1
            exact ⟨cs', rfl, inT_of_trod fuel e cs' _ h1⟩
      | struct fs =>
        simp only []
        obtain ⟨xs, n, hf, _, hlen, hxs, hel⟩ := DataW.trod_struct hu h
        obtain rfl : fuel = n := by omega
        refine ⟨hlen, fun f hm => ?_⟩
        obtain ⟨i, hi, hfi⟩ := List.getElem_of_mem hm
        have h1 := hel i f (by simp at hi; simp [← hfi, hi])
        have h2 : xs[i]? = some (xs[i]'(by simp at hi; omega)) := by simp at hi; simp [hxs, hi]
        rw [h2] at h1
        exact inT_of_trod fuel _ _ _ h1
      | array n e =>
        simp only []
        obtain ⟨xs, m, hf, _, hlen, hxs, hel⟩ := DataW.trod_array hu h
        obtain rfl : fuel = m := by omega
        refine ⟨hlen, fun i hi => ?_⟩
        have h1 := hel i hi
        have h2 : xs[i]? = some (xs[i]'(by omega)) := by simp [hxs, hi]
        rw [h2] at h1
        exact inT_of_trod fuel _ _ _ h1
      | _ => trivial
def Ty (P : Program) (W : World) (t : TypeId) (v : Value) : Prop := (∃ (r : Reach) (b : Nat), Value.okWide P W r b t v) ∧ ∃ fuel, InT P W fuel t v.cells.toList
theorem ty_mk {t : TypeId} {v : Value} {d : DataW H} {p : List MemPlace} {sp : Nat → Bool} {r : Reach} {b : Nat} (h : Value.okWide P W r b t v) (k : DataW.Trod enc P W 0 sp true t v d p) : Ty P W t v := by
  obtain ⟨fuel, hf⟩ := k
  exact ⟨⟨r, b, h⟩, fuel, inT_of_trod fuel t _ _ hf⟩
variable {t : TypeId} {v : Value}
theorem inT_int {k : IntKind} {fuel : Nat} {cs : List Value} (hu : P.underlying t = some (.int k)) (h : InT P W fuel t cs) : ∃ n, cs = [.int k n] ∧ (Lit.int k n).wf = true := by
  cases fuel with
  | zero => exact h.elim
  | succ f => unfold InT at h; simpa only [hu] using h
theorem inT_str {fuel : Nat} {cs : List Value} (hu : P.underlying t = some .string) (h : InT P W fuel t cs) : ∃ s, cs = [.string s] ∧ s.size ≤ maxLen := by
  cases fuel with
  | zero => exact h.elim
  | succ f => unfold InT at h; simpa only [hu] using h
theorem inT_struct {fs : Array Field} {fuel : Nat} {cs : List Value} (hu : P.underlying t = some (.struct fs)) (h : InT P W fuel t cs) : cs.length = P.cellsOf t ∧ ∃ f', ∀ f : Field, f ∈ fs.toList → InT P W f' f.type ((cs.drop f.offset).take (P.cellsOf f.type)) := by
  cases fuel with
  | zero => exact h.elim
  | succ f => unfold InT at h; simp only [hu] at h; exact ⟨h.1, f, h.2⟩
theorem inT_slice {e : TypeId} {fuel : Nat} {cs : List Value} (hu : P.underlying t = some (.slice e)) (h : InT P W fuel t cs) : cs = [.slice none 0 0] ∨ ∃ a len cap, cs = [.slice (some a) len cap] ∧ len ≤ cap ∧ cap ≤ maxLen ∧
        ∃ f', ∀ i, i < len → ∃ cs', W.cells? 0 (a.add (i * P.cellsOf e)) (P.cellsOf e) = some cs' ∧ InT P W f' e cs' := by
  cases fuel with
  | zero => exact h.elim
  | succ f =>
    unfold InT at h; simp only [hu] at h
    rcases h with h | ⟨a, l, c, h1, h2, h3, h4⟩
    · exact .inl h
    · exact .inr ⟨a, l, c, h1, h2, h3, f, h4⟩
theorem ty_int {k : IntKind} (hu : P.underlying t = some (.int k)) (h : Ty P W t v) : ∃ n, v = .int k n ∧ (Lit.int k n).wf = true := by
  obtain ⟨⟨r, b, h1⟩, fuel, h2⟩ := h
  obtain ⟨n, rfl⟩ := okWide_int hu h1
  obtain ⟨m, hm, hw⟩ := inT_int hu h2
  simp only [Value.cells, List.cons.injEq, Value.int.injEq, true_and, and_true] at hm
  subst hm; exact ⟨n, rfl, hw⟩
theorem ty_struct {fs : Array Field} (hu : P.underlying t = some (.struct fs)) (h : Ty P W t v) : ∃ l : List Value, v = .agg l.toArray ∧ ∃ fuel, InT P W fuel t l := by
  obtain ⟨⟨r, b, h1⟩, fuel, h2⟩ := h
  obtain ⟨cs, rfl, _⟩ := okWide_struct hu h1
  exact ⟨cs.toList, by simp, fuel, h2⟩
theorem choose_list {α : Type} {Q : Nat → α → Prop} : ∀ (n : Nat), (∀ i, i < n → ∃ x, Q i x) → ∃ l : List α, l.length = n ∧ ∀ i x, l[i]? = some x → Q i x
  | 0, _ => ⟨[], rfl, fun i x h => by simp at h⟩
  | n + 1, h => by
    obtain ⟨l, hl, hq⟩ := choose_list n (fun i hi => h i (by omega))
    obtain ⟨x, hx⟩ := h n (by omega)
    refine ⟨l ++ [x], by simp [hl], fun i y hy => ?_⟩
    by_cases hi : i < n
    · rw [List.getElem?_append_left (by omega)] at hy; exact hq i y hy
    · by_cases he : i = n
      · subst he; subst hl; simp at hy; subst hy; exact hx
      · rw [List.getElem?_eq_none (by simp; omega)] at hy; cases hy
def Rows0 (S : World → Prop) (a : Option Addr) (sz : Nat) (rows : List (List Value)) : Prop :=
  ∀ i r, rows[i]? = some r → r.length = sz ∧ ∃ b off, a = some ⟨b, off, none⟩ ∧ Cells S b (off + i * sz) r
theorem mapM_spec {α β : Type} {f : α → Option β} : ∀ {l : List α} {r : List β}, l.mapM f = some r → r.length = l.length ∧ ∀ (i : Nat) (x : α), l[i]? = some x → f x = r[i]?
  | [], r, h => by
    simp only [List.mapM_nil] at h
    obtain rfl : [] = r := Option.some.inj h
    exact ⟨rfl, fun i x hx => by simp at hx⟩
  | a :: l, r, h => by
    rw [List.mapM_cons] at h
    cases ha : f a with
    | none => simp [ha] at h
    | some y =>
      cases hl : l.mapM f with
      | none => simp [ha, hl] at h
      | some ys =>
        simp only [ha, hl, Option.bind_eq_bind, Option.bind_some, Option.pure_def, Option.some.injEq] at h
        subst h
        obtain ⟨h1, h2⟩ := mapM_spec hl
        refine ⟨by simp [h1], fun i x hx => ?_⟩
        cases i with
        | zero => simp only [List.getElem?_cons_zero, Option.some.injEq] at hx ⊢; subst hx; exact ha
        | succ i => simpa using h2 i x (by simpa using hx)
theorem cells?_spec {a : Addr} {n : Nat} {cs : List Value} (hn : 0 < n) (h : W.cells? 0 a n = some cs) : a.spot = none ∧ cs.length = n ∧ ∀ i v, cs[i]? = some v → W.cell? ⟨a.block, a.off + i, none⟩ = some v := by
  simp only [World.cells?, Nat.zero_le, if_true] at h
  obtain ⟨h1, h2⟩ := mapM_spec h
  simp only [List.length_range] at h1
  have hs : a.spot = none := by
    have h0 := h2 0 0 (by simp [hn])
    have : cs[0]? = some (cs[0]'(by omega)) := by simp [h1, hn]
    rw [this] at h0
    simp only [Addr.add, if_true] at h0
    unfold World.cell? at h0
    split at h0
    · split at h0
      · cases h0
      · rename_i hk; simpa using hk
    · cases h0
  refine ⟨hs, h1, fun i v hv => ?_⟩
  have hi : i < n := by
    rcases Nat.lt_or_ge i n with k | k
    · exact k
    · rw [List.getElem?_eq_none (by omega)] at hv; cases hv
  have h3 := h2 i i (by simp [hi])
  rw [hv] at h3
  obtain ⟨b, o, s⟩ := a
  simp only at hs
  subst hs
  rwa [add_none] at h3
theorem ty_slice {e : TypeId} {A : List HP} (hu : P.underlying t = some (.slice e)) (hc : 0 < P.cellsOf e) (h : Ty P W t v) : ∃ a n c rows, v = .slice a n c ∧ n ≤ c ∧ c ≤ maxLen ∧ rows.length = n ∧ Rows0 (OwnP W A) a (P.cellsOf e) rows ∧
    ∃ fuel, ∀ r ∈ rows, InT P W fuel e r := by
  obtain ⟨⟨r, b, h1⟩, fuel, h2⟩ := h
  obtain ⟨a, n, c, rfl⟩ := okWide_slice hu h1
  rcases inT_slice hu h2 with h3 | ⟨a', n', c', h3, hl, hm, f', hr⟩
  · simp only [Value.cells, List.cons.injEq, Value.slice.injEq, and_true] at h3
    obtain ⟨rfl, rfl, rfl⟩ := h3
    exact ⟨none, 0, 0, [], rfl, by omega, by omega, rfl, fun i r h => by simp at h, 0, fun r h => nomatch h⟩
  · simp only [Value.cells, List.cons.injEq, Value.slice.injEq, and_true] at h3
    obtain ⟨rfl, rfl, rfl⟩ := h3
    obtain ⟨rows, hlen, hq⟩ := choose_list n hr
    refine ⟨_, _, _, rows, rfl, hl, hm, hlen, fun i r hi => ?_, f', fun r hr => ?_⟩
    · obtain ⟨h4, _⟩ := hq i r hi
      obtain ⟨hs, hlr, hcell⟩ := cells?_spec hc h4
      have hi' : i < rows.length := by
        rcases Nat.lt_or_ge i rows.length with k | k
        · exact k
        · rw [List.getElem?_eq_none k] at hi; cases hi
      obtain ⟨h5, _⟩ := hq 0 rows[0] (by simp)
      obtain ⟨hs0, _⟩ := cells?_spec hc h5
      obtain ⟨b, o, s⟩ := a'
      simp only [Nat.zero_mul, Addr.add, if_true] at hs0
      subst hs0
      refine ⟨hlr, b, o, rfl, fun j v hv => ?_⟩
      have := hcell j v hv
      rw [add_none] at this
      exact cell_base this
    · obtain ⟨i, hi, rfl⟩ := List.getElem_of_mem hr
      exact (hq i _ (by simp)).2
def SlB {α : Type} (W : World) (a : Option Addr) (sz : Nat) (f : α → List Value) (xs : List α) : Prop :=
  ∀ i x, xs[i]? = some x → ∃ b off, a = some ⟨b, off, none⟩ ∧ ∀ A, Cells (OwnP W A) b (off + i * sz) (f x)
theorem rows_map {α : Type} {f : α → List Value} {Q : α → Prop} : ∀ {rows : List (List Value)}, (∀ r ∈ rows, ∃ x, r = f x ∧ Q x) → ∃ xs : List α, rows = xs.map f ∧ ∀ x ∈ xs, Q x
  | [], _ => ⟨[], rfl, fun _ h => by simp at h⟩
  | r :: rows, h => by
    obtain ⟨x, rfl, hq⟩ := h r (by simp)
    obtain ⟨xs, rfl, hqs⟩ := rows_map (rows := rows) fun r hr => h r (by simp [hr])
    exact ⟨x :: xs, rfl, fun y hy => by
      rcases List.mem_cons.1 hy with rfl | hy
      · exact hq
      · exact hqs y hy⟩
theorem ty_sliceF {α : Type} {f : α → List Value} {Q : α → Prop} {e : TypeId} (sz : Nat) (hu : P.underlying t = some (.slice e)) (hsz : P.cellsOf e = sz) (hc : 0 < sz) (hdec : ∀ fuel r, InT P W fuel e r → ∃ x, r = f x ∧ Q x) (h : Ty P W t v) :
    ∃ a c xs, v = .slice a (List.length (α := α) xs) c ∧ xs.length ≤ c ∧ c ≤ maxLen ∧ SlB W a sz f xs ∧ ∀ x ∈ xs, Q x := by
  subst hsz
  obtain ⟨⟨r, b, h1⟩, fuel, h2⟩ := h
  obtain ⟨a, n, c, rfl⟩ := okWide_slice hu h1
  have h0 : Ty P W t (.slice a n c) := ⟨⟨r, b, h1⟩, fuel, h2⟩
  obtain ⟨a', n', c', rows, he, hl, hm, hn, hr, fu, hi⟩ := ty_slice (A := []) hu hc h0
  cases he
  obtain ⟨xs, rfl, hq⟩ := rows_map (f := f) (Q := Q) fun r hr => hdec _ r (hi r hr)
  rw [List.length_map] at hn
  subst hn
  refine ⟨a, c, xs, rfl, hl, hm, fun i x hx => ?_, hq⟩
  obtain ⟨h3, b, off, rfl, hcs⟩ := hr i (f x) (by simp [hx])
  refine ⟨b, off, rfl, fun A j u hu => ?_⟩
  have h4 := hcs j u hu W (Own.refl W)
  exact cell_base h4
theorem list_cons {α : Type} {l : List α} {n : Nat} (h : n + 1 = l.length) : ∃ a l', l = a :: l' ∧ n = l'.length := by
  cases l with
  | nil => cases h
  | cons a l => exact ⟨a, l, rfl, by simpa using h⟩
theorem list_nil {α : Type} {l : List α} (h : 0 = l.length) : l = [] := List.length_eq_zero_iff.1 h.symm
theorem below_trodAll (hl : laidOutB P = true) {W' : World} (hb : Below W.heap.size W W') : ∀ (ts : List TypeId) (vs : List Value) (ds : List (DataW H)) (p : List MemPlace), (ts.all fun t => P.readableRec t && decide (t < P.types.size)) = true →
    DataW.TrodAll enc P W 0 (fun _ => true) true ts vs ds p → DataW.TrodAll enc P W' 0 (fun b => decide (b < W.heap.size)) true ts vs ds p
  | [], [], [], p, _, h => h
  | [], _ :: _, _, p, _, h => by cases h
  | [], [], _ :: _, p, _, h => by cases h
  | _ :: _, [], _, p, _, h => by cases h
  | _ :: _, _ :: _, [], p, _, h => by cases h
  | t :: ts, v :: vs, d :: ds, p, hr, h => by
    obtain ⟨q, q', h1, h2, rfl⟩ := h
    simp only [List.all_cons, Bool.and_eq_true, decide_eq_true_eq] at hr
    have lt : ∀ x ∈ q, x.block < W.heap.size := by obtain ⟨m, hm⟩ := h1; exact DataW.trod_lt m _ _ _ hm
    exact ⟨q, q', Below.trod hl hr.1.1 hr.1.2 h1 hb lt, below_trodAll hl hb ts vs ds q' hr.2 h2, rfl⟩
theorem ty_all {sp : Nat → Bool} {r : Reach} {b : Nat} : ∀ (ts : List TypeId) (vs : List Value) (ds : List (DataW H)) (p : List MemPlace), (∀ (j : Nat) t v, ts[j]? = some t → vs[j]? = some v → Value.okWide P W r b t v) →
    DataW.TrodAll enc P W 0 sp true ts vs ds p → ts.length = vs.length ∧ ts.length = ds.length ∧ ∀ (j : Nat) t v, ts[j]? = some t → vs[j]? = some v → Ty P W t v
  | [], [], [], p, _, h => ⟨rfl, rfl, fun j t v h => by simp at h⟩
  | [], _ :: _, _, p, _, h => by cases h
  | [], [], _ :: _, p, _, h => by cases h
  | _ :: _, [], _, p, _, h => by cases h
  | _ :: _, _ :: _, [], p, _, h => by cases h
  | t :: ts, v :: vs, d :: ds, p, hok, h => by
    obtain ⟨q, q', h1, h2, rfl⟩ := h
    obtain ⟨k1, k2, k3⟩ := ty_all ts vs ds q' (fun j t v ht hv => hok (j + 1) t v (by simpa using ht) (by simpa using hv)) h2
    refine ⟨by simp [k1], by simp [k2], fun j t' v' ht hv => ?_⟩
    cases j with
    | zero =>
      simp only [List.getElem?_cons_zero, Option.some.injEq] at ht hv
      subst ht; subst hv
      exact ty_mk (hok 0 t v rfl rfl) h1
    | succ j => exact k3 j t' v' (by simpa using ht) (by simpa using hv)
end
end Go.Proofs.YtncegikenkpcmaaGreat
namespace Go.Proofs.YtncegikenkpcmaaGreat
open Go.ChangeShapes Go.WideShapes Go.ChangeAt Go.RowKit
set_option linter.unusedSimpArgs false
set_option linter.unusedVariables false
variable {P : Program} {w W : World} {t : TypeId} {v : Value}
theorem inT_sliceF {α : Type} {f : α → List Value} {Q : α → Prop} {e : TypeId} {fuel : Nat} {cs : List Value} (sz : Nat) (hu : P.underlying t = some (.slice e)) (hsz : P.cellsOf e = sz) (hc : 0 < sz) (hdec : ∀ fuel r, InT P W fuel e r → ∃ x, r = f x ∧ Q x) (h : InT P W fuel t cs) :
    ∃ a c xs, cs = [.slice a (List.length (α := α) xs) c] ∧ xs.length ≤ c ∧ c ≤ maxLen ∧ SlB W a sz f xs ∧ ∀ x ∈ xs, Q x := by
  subst hsz
  rcases inT_slice hu h with rfl | ⟨a', n', c', rfl, hl, hm, f', hr⟩
  · exact ⟨none, 0, [], rfl, by simp, by omega, fun i x hx => by simp at hx, fun x hx => by simp at hx⟩
  · obtain ⟨rows, hlen, hq⟩ := choose_list n' hr
    obtain ⟨xs, rfl, hQ⟩ := rows_map (rows := rows) (f := f) (Q := Q) fun r hr => by
      obtain ⟨i, hi, rfl⟩ := List.getElem_of_mem hr
      exact hdec _ _ (hq i rows[i] (by simp)).2
    rw [List.length_map] at hlen
    subst hlen
    refine ⟨some a', c', xs, rfl, hl, hm, fun i x hx => ?_, hQ⟩
    obtain ⟨h4, _⟩ := hq i (f x) (by simp [hx])
    obtain ⟨hs, hlr, hcell⟩ := cells?_spec hc h4
    have hpos : 0 < xs.length := by
      rcases Nat.eq_zero_or_pos xs.length with q | q
      · have := List.eq_nil_of_length_eq_zero q; subst this; simp at hx
      · exact q
    obtain ⟨h5, _⟩ := hq 0 (f xs[0]) (by simp [hpos])
    obtain ⟨hs0, _⟩ := cells?_spec hc h5
    obtain ⟨b, o, s⟩ := a'
    simp only [Nat.zero_mul, Addr.add, if_true] at hs0
    subst hs0
    refine ⟨b, o, rfl, fun A j v hv => ?_⟩
    have := hcell j v hv
    rw [add_none] at this
    exact cell_base this
theorem sla_base {α : Type} {W : World} {A : List HP} {a : Option Addr} {sz : Nat} {f : α → List Value} {xs : List α} (h : SlB W a sz f xs) : SlA (OwnP W A) a sz f xs := fun i x hi => by
  obtain ⟨b, off, rfl, hc⟩ := h i x hi
  exact ⟨b, off, rfl, hc A⟩
end Go.Proofs.YtncegikenkpcmaaGreat
namespace Go.Proofs.YtncegikenkpcmaaGreat
open Go.RowKit
set_option linter.unusedSimpArgs false
set_option linter.unusedVariables false
set_option maxRecDepth 20000
theorem viWriteN_spec (W0 : World) (R : List HP) (pv ps pm d c n : Nat) (a : Option Addr) (fr : List Frm) (pg : List Pl) (h : Pgs pg) (hF : Frs fr) (hd : d < 4096) (pa : Nat) (hpa : pa < 4294967296) (bs : List Nat) (hn : bs.length = n) (hb : By bs) (hs : SlA (OwnP W0 R) a 1 (fun x => [bV x]) bs) (hlen : n < 9223372036854775808) :
    Spec Tryz.prog W0 67 [.pointer (some ⟨pv, 0, none⟩), .int .u32 pa, .slice a n c] (pt pv (viO ps pm d) :: stoH ps fr :: pt pm (gmO pg) :: R)
      (fun v B => v = .bool (ownB fr.length pg pa n) ∧ B = pt pv (viO ps pm (wrE fr pg pa d n)) :: stoH ps (wrF fr pg pa bs) :: pt pm (gmO pg) :: R) := by
  subst hn; exact viWrite_spec W0 R pv ps pm d c a fr pg h hF hd pa hpa bs hb hs hlen
theorem rvWriteN_spec (W0 : World) (R : List HP) (qv qs qm d c n : Nat) (a : Option Addr) (fr : List Frm) (pg : List Pl) (h : Pgs pg) (hF : Frs fr) (pa : Nat) (hpa : pa < 4294967296) (bs : List Nat) (hn : bs.length = n) (hb : By bs) (hs : SlA (OwnP W0 R) a 1 (fun x => [bV x]) bs) (hlen : n < 9223372036854775808) :
    Spec Tryz.prog W0 68 [.pointer (some ⟨qv, 0, none⟩), .int .u32 pa, .slice a n c] (pt qv (rvO qs qm d) :: rstoH qs fr :: pt qm (rgO pg) :: R)
      (fun v B => v = .bool (ownB fr.length pg pa n) ∧ B = pt qv (rvO qs qm (wrE fr pg pa d n)) :: rstoH qs (wrF fr pg pa bs) :: pt qm (rgO pg) :: R) := by
  subst hn; exact rvWrite_spec W0 R qv qs qm d c a fr pg h hF pa hpa bs hb hs hlen
theorem pgz : Pgs (List.replicate 12 (0, 0)) := ⟨rfl, fun n hn hne => absurd (by
  unfold plAt; rw [List.getD_eq_getElem?_getD, List.getElem?_replicate]; split <;> rfl) hne⟩
end Go.Proofs.YtncegikenkpcmaaGreat
namespace Go.Proofs.YtncegikenkpcmaaGreat
open Go.RowKit
set_option linter.unusedSimpArgs false
set_option linter.unusedVariables false
set_option maxRecDepth 20000
end Go.Proofs.YtncegikenkpcmaaGreat
namespace Go.Proofs.YtncegikenkpcmaaGreat
open Go.RowKit
set_option linter.unusedSimpArgs false
set_option linter.unusedVariables false
set_option maxRecDepth 20000
abbrev vwW (pv ps pm d : Nat) (fr : List Frm) (pg : List Pl) (R : List HP) : List HP := pt pv (viO ps pm d) :: stoH ps fr :: pt pm (gmO pg) :: R
abbrev rvwW (qv qs qm d : Nat) (fr : List Frm) (pg : List Pl) (R : List HP) : List HP := pt qv (rvO qs qm d) :: rstoH qs fr :: pt qm (rgO pg) :: R
theorem getN_all {l : List Nat} (h : l.length = 4) : getN l 0 4 = leN l ∧ getE l 0 4 = 0 := by
  have hi : inB l.length 0 4 = true := inB_iff.2 (by omega)
  constructor
  · rw [getN, if_pos hi]
    show leN ((l.drop 0).take 4) = leN l
    rw [List.drop_zero, List.take_of_length_le (by omega)]
  · rw [getE, if_pos hi]
theorem rvWord_spec (W0 : World) (R : List HP) (qv qs qm d : Nat) (fr : List Frm) (pg : List Pl) (h : Pgs pg) (hF : Frs fr) (pa : Nat) (hpa : pa < 4294967296) :
    Spec Tryz.prog W0 218 [.pointer (some ⟨qv, 0, none⟩), .int .u32 pa] (rvwW qv qs qm d fr pg R)
      (fun v B => v = .tuple #[.int .u32 ((if ownB fr.length pg pa 4 then leN (rdL fr pg pa 4) else 0 : Nat)), .bool (ownB fr.length pg pa 4)] ∧ B = rvwW qv qs qm d fr pg R) := by
  refine spec_body Tryz.func218 Tryz.ntmps218 rfl rfl ?_
  refine x_seq (x_region (s_val rfl (v_assign rfl) (s_val rfl (v_assign rfl) (x_nil (n_then (x_seq (x_region (s_val rfl (v_move rfl) (s_val rfl (v_move rfl) (s_do rfl (d_call3 Tryz.call160 rfl (rvRead_spec W0 _ qv qs qm d fr pg h hF pa hpa 4)) ?_))))))))))
  rintro _ B_ ⟨a, c, rfl, hB_⟩
  obtain rfl := hB_.symm
  refine s_val rfl (v_move rfl) (s_val rfl (v_extract rfl rfl) (s_val rfl (v_extract rfl rfl) (s_val rfl (v_assign rfl) (s_val rfl (v_assign rfl) (x_nil (n_then (x_seq (x_seq (x_region (s_val rfl (v_move rfl) (s_val rfl (v_not rfl) (x_nil (n_then ?_)))))))))))))
  refine x_if rfl ?_ ?_
  · intro c2
    refine x_seq (x_region (s_val rfl (v_assign rfl) (s_val rfl (v_assign rfl) (x_nil (n_then (x_ret (r_then (x_done (.inl rfl) (.cons (r_tmp rfl) (.cons (r_tmp rfl) .nil)) ?_))))))))
    refine ⟨_, ⟨?_, rfl⟩, inferInstance⟩
    have ho : ownB fr.length pg pa 4 = false := by simpa using c2
    simp [pack, ho]
  · intro c2
    have ho : ownB fr.length pg pa 4 = true := Decidable.not_not.1 c2
    have hrd : rdO fr pg pa 4 = rdL fr pg pa 4 := by rw [rdO, if_pos ho]; rfl
    have hln : (rdL fr pg pa 4).length = 4 := rdL_len _ _ _ _
    obtain ⟨hg1, hg2⟩ := getN_all hln
    rw [hrd]
    refine run_form (E := 5) (sz := 1) (a := a) (c := c) (n := (rdL fr pg pa 4).length) (fun hf => ?_)
    obtain ⟨g, rfl⟩ := form_some hf (by intro h0; have := congrArg List.length h0; rw [byV_len, hln] at this; simp at this)
    refine run_cap (E := 5) (sz := 1) (a := some ⟨g, 0, none⟩) (c := c) (n := (rdL fr pg pa 4).length) (fun hcap => ?_)
    refine x_skip (n_then (x_seq (x_region (s_val rfl (v_move rfl) (s_do rfl (d_call Tryz.call161 rfl (refGet02_spec W0 _ g 0 c (rdL fr pg pa 4) 0 4 (cells_osl (E := 5) (sz := 1) (a := some ⟨g, 0, none⟩) (c := c) (n := (rdL fr pg pa 4).length)) (rdL_by hF _ _ _) hcap.1 (maxLen_lt hcap.2))) ?_)))))
    rintro _ B_ ⟨rfl, hB_⟩
    obtain rfl := hB_.symm
    rw [hg1, hg2]
    refine s_val rfl (v_move rfl) (s_val rfl (v_extract rfl rfl) (s_val rfl (v_extract rfl rfl) (s_val rfl (v_assign rfl) (s_val rfl (v_assign rfl) (x_nil (n_then (x_seq (x_region (s_val rfl (v_move rfl) (s_val rfl (v_assign rfl) (s_val rfl (v_assign rfl) (x_nil (n_then (x_ret (x_done (.inl rfl) (.cons (r_tmp rfl) (.cons (r_tmp rfl) .nil)) ?_)))))))))))))))
    refine ⟨_, ⟨?_, rfl⟩, inferInstance⟩
    simp [pack, ho]
end Go.Proofs.YtncegikenkpcmaaGreat
