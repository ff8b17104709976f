/-
  Part 6 of the proof of BlkServes: rules, and walks of functions. Conditions: none.
-/
import Derived.Test.YtncegikenkpcmaaGreatBlkServesE
namespace Go.Proofs.YtncegikenkpcmaaGreat
open Go.RowKit
set_option linter.unusedSimpArgs false
set_option linter.unusedVariables false
set_option maxRecDepth 20000
theorem refWords_spec (W0 : World) (R : List HP) (g off c n : Nat) (l : List Nat) (hn : l.length = n) (hc : Cells (OwnP W0 R) g off (byV l)) (hb : By l) (hcap : n ≤ c) (hl : n ≤ 1000000) (h63 : c < 9223372036854775808) :
    Spec Tryz.prog W0 94 [.slice (some ⟨g, off, none⟩) n c] R (fun v B => ∃ a' c', v = .slice a' (l.length / 4) c' ∧ B = osl 47 1 (.slice a' (l.length / 4) c') (wordsV l (l.length / 4)) :: R) := by
  subst hn
  refine spec_body Tryz.func94 Tryz.ntmps94 rfl rfl ?_
  refine x_seq (x_region (s_val rfl (v_assign rfl) (x_nil (n_then (x_seq (x_region (s_val rfl (v_assign rfl) (x_nil (n_then (x_seq (x_seq (x_region (s_val rfl (v_assign rfl) (x_nil (n_then (x_block ?_))))))))))))))))
  refine x_loop (fun x : Nat × Option Addr × Nat => 4 * x.1 ≤ l.length) (fun x => [(0, .slice (some ⟨g, off, none⟩) l.length c), (3, .slice x.2.1 x.1 x.2.2), (4, .int .i64 (4 * x.1 : Nat))]) (fun x => osl 47 1 (.slice x.2.1 x.1 x.2.2) (wordsV l x.1) :: R) (fun x => l.length - 4 * x.1) (0, none, 0) ?_ ?_ ?_ ?_
  · exact Nat.zero_le _
  · repeat (first | exact sub_nil | refine sub_cons rfl ?_)
  · exact ent_osl_nil
  · intro ⟨i, a, c1⟩ hi
    dsimp only at hi ⊢
    refine x_seq (x_seq (x_region (s_val rfl (v_move rfl) ?_)))
    refine s_val rfl (v_add rfl rfl (by rw [w64 (by omega)]; omega : IntKind.wrap .i64 (((4 * i : Nat) : Int) + 4) = ((4 * (i + 1) : Nat) : Int))) ?_
    refine s_val rfl (v_move rfl) (s_val rfl (v_len_slice Tryz.underlying44 rfl) (s_val rfl (v_leq rfl rfl) (x_nil (n_then ?_))))
    refine x_if rfl ?_ ?_
    · intro c3
      refine x_skip (n_then (x_seq (x_block (x_seq ?_))))
      have hi1 : 4 * (i + 1) ≤ l.length := by omega
      have hg : getN l ((4 * i : Nat) : Int) 4 = wdAt l i := by
        rw [getN, if_pos (inB_iff.2 ⟨by omega, by omega, by omega, by omega⟩), Int.toNat_natCast]; rfl
      have hwl := wdAt_lt hb i
      refine x_region (s_val rfl (v_move rfl) (s_val rfl (v_move rfl) (s_do rfl (d_call Tryz.call161 rfl (refGet02_spec W0 _ g off c l ((4 * i : Nat) : Int) 4 hc.weak hb hcap h63)) ?_)))
      rintro _ B_ ⟨rfl, hB_⟩
      obtain rfl := hB_.symm
      rw [hg]
      refine s_val rfl (v_move rfl) (s_val rfl (v_extract rfl rfl) (s_val rfl (v_extract rfl rfl) (s_val rfl (v_assign rfl) (s_val rfl (v_assign rfl) (x_nil (n_then (x_region (s_val rfl (v_move rfl) (s_val rfl (v_move rfl) ?_)))))))))
      refine s_do rfl (d_sliceLit Tryz.underlying45 Tryz.sizeOf47 Tryz.zeroValue47 rfl rfl rfl rfl rfl (by decide) (by decide)) ?_
      rintro _ _ ⟨b1, rfl, rfl⟩
      refine s_do rfl (d_append (sz := 1) (by_ := 4) (info := Tryz.t47) Tryz.underlying45 (by kernel_rfl) rfl rfl rfl rfl (by decide) rfl rfl cells_all rfl rfl (by simp only [maxLen]; omega) (by omega)) ?_
      rintro _ _ ⟨a3, c3, rfl, rfl⟩
      rw [show wordsV l i ++ [Value.int .u32 (wdAt l i : Nat)] = wordsV l (i + 1) from (wordsV_succ l i).symm]
      refine s_val rfl (v_assign rfl) (x_nil (n_block (n_then (x_region (s_val rfl (v_move rfl) ?_)))))
      refine s_val rfl (v_add rfl rfl (by rw [w64 (by omega)]; omega : IntKind.wrap .i64 (((4 * i : Nat) : Int) + 4) = ((4 * (i + 1) : Nat) : Int))) ?_
      refine s_val rfl (v_assign rfl) (x_nil (n_then ?_))
      refine inv_intro (i + 1, a3, c3) ?_ ?_ ?_ ?_
      · omega
      · omega
      · repeat (first | exact sub_nil | refine sub_cons rfl ?_)
      · exact inferInstance
    · intro c3
      refine x_exit (e_then (e_then (e_block (n_then (x_seq (x_region (s_val rfl (v_move rfl) (s_val rfl (v_assign rfl) (x_nil (n_then (x_ret (x_done (.inl rfl) (.cons (r_tmp rfl) .nil) ?_))))))))))))
      obtain rfl : i = l.length / 4 := by omega
      exact ⟨_, ⟨a, c1, rfl, rfl⟩, inferInstance⟩
def rbR (x : Dk) (who at_ : Int) (n : Nat) : List Nat × Nat := if n % 16 = 0 then (match rdG x who at_ (n / 16) with | none => ([], 1) | some l => (l, 0)) else ([], 1)
theorem rbR_ok {x : Dk} (hx : DkOk x) (who at_ : Int) (n : Nat) : (rbR x who at_ n).1.length ≤ 512 ∧ By (rbR x who at_ n).1 ∧ (rbR x who at_ n).2 ≤ 1 := by
  have h0 : By [] := fun x hx => by simp at hx
  unfold rbR; split
  · split
    · exact ⟨Nat.zero_le _, h0, Nat.le_refl _⟩
    · rename_i l e; exact ⟨rdG_len hx e, (rdG_ok hx e).2, Nat.zero_le _⟩
  · exact ⟨Nat.zero_le _, h0, Nat.le_refl _⟩
theorem scK_nil (fr : List Frm) (pg : List Pl) (d : Nat) (l : List Dsc) : ∀ k, (scK fr pg d l 0 [] k).2 = (0, fr, d)
  | 0 => rfl
  | k + 1 => by
    have ih := scK_nil fr pg d l k
    obtain ⟨s1, s2⟩ : ∃ s1, scK fr pg d l 0 [] k = (s1, 0, fr, d) := ⟨(scK fr pg d l 0 [] k).1, Prod.ext rfl ih⟩
    rw [scK, s2, scStep]
    split
    · simp [wrF, wrE, wrK, wrD]
    · rfl
theorem rbR_bk (pg : List Pl) (who at_ : Int) (room : Nat) (l : List Dsc) (x : Dk) (fr : List Frm) (d : Nat) :
    bkRd pg who at_ room l x fr d = ⟨(rbR x who at_ (room - 1)).2, (scK fr pg d l 0 (rbR x who at_ (room - 1)).1 l.length).2.1, (scK fr pg d l 0 (rbR x who at_ (room - 1)).1 l.length).2.1, (scK fr pg d l 0 (rbR x who at_ (room - 1)).1 l.length).2.2.1, (scK fr pg d l 0 (rbR x who at_ (room - 1)).1 l.length).2.2.2, x⟩ := by
  unfold bkRd rbR
  by_cases hw : (room - 1) % 16 = 0
  · rw [if_pos hw, if_pos hw]
    cases e : rdG x who at_ ((room - 1) / 16) with
    | none => dsimp only; rw [scK_nil]
    | some all => rfl
  · rw [if_neg hw, if_neg hw]
    dsimp only
    rw [scK_nil]
theorem rbRead_spec (W0 : World) (R : List HP) (d : Nat) (x : Dk) (hx : DkOk x) (who : Int) (at_ : Nat) (hat : at_ < 4294967296) (n : Nat) (hn : n ≤ 38654705664) :
    Spec Tryz.prog W0 95 [.pointer (some ⟨d, 0, none⟩), .int .i64 who, .int .i64 at_, .int .i64 n] (rdkH d x :: R)
      (fun v B => ∃ a c, v = .tuple #[.slice a (rbR x who at_ n).1.length c, .int .i64 ((rbR x who at_ n).2 : Nat)] ∧ B = osl 5 1 (.slice a (rbR x who at_ n).1.length c) (byV (rbR x who at_ n).1) :: rdkH d x :: R) := by
  refine spec_body Tryz.func95 Tryz.ntmps95 rfl rfl ?_
  refine x_seq (x_region (s_val rfl (v_assign rfl) (s_val rfl (v_assign rfl) (x_nil (n_then (x_seq (x_seq (x_region (s_val rfl (v_move rfl) ?_)))))))))
  refine s_val rfl (v_rem rfl rfl (by decide) (tmodN n 16)) ?_
  refine s_val rfl (v_neq rfl rfl) (x_nil (n_then ?_))
  refine x_if rfl ?_ ?_
  · intro c1
    refine x_seq (x_region (s_val rfl (v_assign rfl) (s_val rfl (v_assign rfl) (x_nil (n_then (x_ret (r_then (x_done (.inl rfl) (.cons (r_tmp rfl) (.cons (r_tmp rfl) .nil)) ?_))))))))
    have hB : rbR x who at_ n = ([], 1) := by rw [rbR, if_neg (by omega)]
    rw [hB]
    exact ⟨_, ⟨none, 0, rfl, rfl⟩, ent_osl_nil⟩
  · intro c1
    refine x_skip (n_then (x_seq ?_))
    have hw : n % 16 = 0 := by omega
    refine x_region (s_val rfl (v_assign rfl) (x_nil (n_then (x_seq (x_seq (x_region (s_val rfl (v_assign rfl) (x_nil (n_then (x_block ?_))))))))))
    refine x_loop (fun X : Nat × Option Addr × Nat × List Nat => X.1 ≤ n / 16 ∧ rdG x who at_ X.1 = some X.2.2.2 ∧ X.2.2.2.length ≤ 512) (fun X => [(0, .pointer (some ⟨d, 0, none⟩)), (1, .int .i64 who), (2, .int .i64 at_), (3, .int .i64 n), (10, .slice X.2.1 X.2.2.2.length X.2.2.1), (11, .int .i64 X.1)]) (fun X => osl 5 1 (.slice X.2.1 X.2.2.2.length X.2.2.1) (byV X.2.2.2) :: rdkH d x :: R) (fun X => n / 16 - X.1) (0, none, 0, []) ?_ ?_ ?_ ?_
    · exact ⟨Nat.zero_le _, rfl, Nat.zero_le _⟩
    · repeat (first | exact sub_nil | refine sub_cons rfl ?_)
    · exact ent_osl_nil
    · intro ⟨i, a0, c0, all⟩ ⟨hi, hall, hlen⟩
      dsimp only at hi hall hlen ⊢
      obtain ⟨hl16, hby⟩ := rdG_ok hx hall
      refine x_seq (x_seq (x_region (s_val rfl (v_move rfl) (s_val rfl (v_move rfl) ?_))))
      refine s_val rfl (v_quo rfl rfl (by decide) ((congrArg (IntKind.wrap .i64) (tdivN n 16)).trans (w64 (by omega)))) ?_
      refine s_val rfl (v_lss rfl rfl) (x_nil (n_then ?_))
      refine x_if rfl ?_ ?_
      · intro c5
        refine x_skip (n_then (x_seq (x_block (x_seq (x_region (s_val rfl (v_move rfl) (s_val rfl (v_move rfl) (s_val rfl (v_move rfl) (s_val rfl (v_move rfl) ?_)))))))))
        refine s_val rfl (v_add rfl rfl (w64 (by omega))) ?_
        refine s_do rfl (d_call1 Tryz.call162 rfl (rdRead_spec W0 _ d x hx who ((at_ : Int) + (i : Int)))) ?_
        rintro _ B_ ⟨a2, n2, c2', rfl, hn2, hB_⟩
        obtain rfl := hB_.symm
        subst hn2
        refine s_val rfl (v_move rfl) (s_val rfl (v_extract rfl rfl) (s_val rfl (v_extract rfl rfl) (s_val rfl (v_assign rfl) (s_val rfl (v_assign rfl) (x_nil (n_then (x_seq (x_seq (x_region (s_val rfl (v_move rfl) (s_val rfl (v_neq rfl rfl) (x_nil (n_then ?_)))))))))))))
        refine x_if rfl ?_ ?_
        · intro c8
          refine x_seq (x_region (s_val rfl (v_assign rfl) (s_val rfl (v_assign rfl) (x_nil (n_then (x_ret (r_then (r_block (r_then (r_then (r_block (r_then (x_done (.inl rfl) (.cons (r_tmp rfl) (.cons (r_tmp rfl) .nil)) ?_)))))))))))))
          have hq : ¬ rdE x who (at_ + i) = 0 := by first | exact c8 | simpa using c8
          have hs : rdG x who at_ (i + 1) = none := by
            rw [rdG, hall]; exact if_neg hq
          have hB : rbR x who at_ n = ([], 1) := by rw [rbR, if_pos hw, rdG_stop hs (by omega)]
          rw [hB]
          exact ⟨_, ⟨none, 0, rfl, rfl⟩, ent_osl_nil⟩
        · intro c8
          refine x_skip (n_then ?_)
          have hq : rdE x who (at_ + i) = 0 := by first | exact Decidable.not_not.1 c8 | simpa using c8
          have hlt := rdE_lt hq
          have hs : rdG x who at_ (i + 1) = some (all ++ secD x.ss ((at_ : Int) + (i : Int)).toNat) := by
            rw [rdG, hall]; exact if_pos hq
          have hsl := rdG_len hx hs
          rw [List.length_append] at hsl
          obtain ⟨s1, s2⟩ := hx.sec ((at_ : Int) + (i : Int)).toNat
          rw [hq]
          simp only [if_true]
          refine run_where (E := 5) (sz := 1) (vi := .slice a2 (secD x.ss ((at_ : Int) + (i : Int)).toNat).length c2') (ys := byV (secD x.ss ((at_ : Int) + (i : Int)).toNat)) (byV_ne (by omega)) (fun g n3 c3 e3 _ => ?_)
          cases e3
          refine x_region (s_val rfl (v_move rfl) (s_val rfl (v_move rfl) ?_))
          refine s_do rfl (d_append (sz := 1) (by_ := 1) (info := Tryz.t5) Tryz.underlying44 (by kernel_rfl) rfl rfl rfl rfl (by decide) rfl rfl (cells_osl (E := 5) (sz := 1) (a := some ⟨g, 0, none⟩) (c := c2') (n := (secD x.ss ((at_ : Int) + (i : Int)).toNat).length)) (by rw [byV_len, Nat.mul_one]) (byV_one _) (by simp only [maxLen]; omega) (by omega)) ?_
          rintro _ _ ⟨a4, c4', rfl, rfl⟩
          rw [← byV_append, ← List.length_append]
          refine s_val rfl (v_assign rfl) (x_nil (n_block (n_then (x_region (s_val rfl (v_move rfl) ?_)))))
          refine s_val rfl (v_add rfl rfl (by first | exact w64 (by omega) | rfl)) ?_
          refine s_val rfl (v_assign rfl) (x_nil (n_then ?_))
          refine inv_intro (i + 1, a4, c4', all ++ secD x.ss ((at_ : Int) + (i : Int)).toNat) ?_ ?_ ?_ ?_
          · exact ⟨by omega, hs, by rw [List.length_append]; exact hsl⟩
          · omega
          · repeat (first | exact sub_nil | refine sub_cons rfl ?_)
          · exact inferInstance
      · intro c5
        refine x_exit (e_then (e_then (e_block (n_then (x_seq (x_region (s_val rfl (v_move rfl) (s_val rfl (v_assign rfl) (s_val rfl (v_assign rfl) (x_nil (n_then (x_ret (x_done (.inl rfl) (.cons (r_tmp rfl) (.cons (r_tmp rfl) .nil)) ?_)))))))))))))
        obtain rfl : i = n / 16 := by omega
        have hB : rbR x who at_ n = (all, 0) := by rw [rbR, if_pos hw, hall]
        rw [hB]
        exact ⟨_, ⟨a0, c0, rfl, rfl⟩, inferInstance⟩
theorem rbWrite_spec (W0 : World) (R : List HP) (dd : Nat) (x : Dk) (hx : DkOk x) (who : Int) (at_ : Nat) (hat : at_ < 4294967296) (a : Option Addr) (n c : Nat) (D : List Nat) (hnl : D.length = n) (hD : By D) (hn : n ≤ 512) (hcap : n ≤ c) (hs : SlA (OwnP W0 R) a 1 (fun x => [bV x]) D) (fr : List Frm) (d : Nat) :
    Spec Tryz.prog W0 97 [.pointer (some ⟨dd, 0, none⟩), .int .i64 who, .int .i64 at_, .slice a n c] (rdkH dd x :: R)
      (fun v B => v = .tuple #[.int .i64 ((bkWr who at_ D x fr d).m : Nat), .int .i64 ((bkWr who at_ D x fr d).how : Nat)] ∧ B = rdkH dd (bkWr who at_ D x fr d).x :: R) := by
  subst hnl
  refine spec_body Tryz.func97 Tryz.ntmps97 rfl rfl ?_
  refine x_seq (x_region (s_val rfl (v_assign rfl) (s_val rfl (v_assign rfl) (x_nil (n_then (x_seq (x_seq (x_region (s_val rfl (v_move rfl) (s_val rfl (v_len_slice Tryz.underlying44 rfl) ?_))))))))))
  refine s_val rfl (v_rem rfl rfl (by decide) (tmodN D.length 16)) ?_
  refine s_val rfl (v_neq rfl rfl) (x_nil (n_then ?_))
  refine x_if rfl ?_ ?_
  · intro c1
    refine x_seq (x_region (s_val rfl (v_assign rfl) (s_val rfl (v_assign rfl) (x_nil (n_then (x_ret (r_then (x_done (.inl rfl) (.cons (r_tmp rfl) (.cons (r_tmp rfl) .nil)) ?_))))))))
    have hB : bkWr who at_ D x fr d = ⟨1, 0, 0, fr, d, x⟩ := by rw [bkWr, if_neg (by omega)]
    rw [hB]
    exact ⟨_, ⟨rfl, rfl⟩, inferInstance⟩
  · intro c1
    refine x_skip (n_then (x_seq (x_seq ?_)))
    have hw : D.length % 16 = 0 := by omega
    refine x_region (s_val rfl (v_assign rfl) (x_nil (n_then (x_block ?_))))
    refine x_loop (fun X : Nat × Dk => 16 * X.1 ≤ D.length ∧ wrG x who at_ D X.1 = (X.2, none)) (fun X => [(0, .pointer (some ⟨dd, 0, none⟩)), (1, .int .i64 who), (2, .int .i64 at_), (3, .slice a D.length c), (10, .int .i64 (16 * X.1 : Nat))]) (fun X => rdkH dd X.2 :: R) (fun X => D.length - 16 * X.1) (0, x) ?_ ?_ ?_ ?_
    · exact ⟨Nat.zero_le _, rfl⟩
    · repeat (first | exact sub_nil | refine sub_cons rfl ?_)
    · exact inferInstance
    · intro ⟨k, y⟩ ⟨hk, hg⟩
      dsimp only at hk hg ⊢
      have hy := (wrG_ok hx who at_ hD k).1
      rw [hg] at hy
      refine x_seq (x_seq (x_region (s_val rfl (v_move rfl) (s_val rfl (v_move rfl) (s_val rfl (v_len_slice Tryz.underlying44 rfl) (s_val rfl (v_lss rfl rfl) (x_nil (n_then ?_))))))))
      refine x_if rfl ?_ ?_
      · intro c4
        refine x_skip (n_then (x_seq (x_block (x_seq ?_))))
        have hk1 : 16 * k + 16 ≤ D.length := by omega
        have htl : ((D.drop (16 * k)).take 16).length = 16 * k + 16 - 16 * k := by rw [List.length_take, List.length_drop]; omega
        have hst : wrG x who at_ D (k + 1) = if wrDE y who (at_ + k) ((D.drop (16 * k)).take 16).length = 0 then (wrDk y who (at_ + k) ((D.drop (16 * k)).take 16), none) else (y, some (16 * k)) := by
          rw [wrG, hg]
        refine x_region (s_val rfl (v_move rfl) (s_val rfl (v_move rfl) (s_val rfl (v_move rfl) (s_val rfl (v_move rfl) ?_))))
        refine s_val rfl (v_quo rfl rfl (by decide) ((congrArg (IntKind.wrap .i64) (tdivN (16 * k) 16)).trans (by rw [Nat.mul_div_cancel_left k (by decide), w64 (by omega)]))) ?_
        refine s_val rfl (v_add rfl rfl (w64 (by omega))) ?_
        refine s_val rfl (v_move rfl) (s_val rfl (v_move rfl) (s_val rfl (v_move rfl) ?_))
        refine s_val rfl (v_add rfl rfl (by rw [w64 (by omega)]; omega : IntKind.wrap .i64 (((16 * k : Nat) : Int) + 16) = ((16 * k + 16 : Nat) : Int))) ?_
        refine s_val rfl (v_sliceLHg Tryz.underlying44 Tryz.sizeOf5 rfl rfl rfl (i := 16 * k) (h := 16 * k + 16) rfl rfl (by omega) (by omega)) ?_
        refine s_do rfl (d_call1 Tryz.call163 rfl (rdWrite_spec W0 _ dd y hy who ((at_ : Int) + (k : Int)) (sliA a c (16 * k) 1) _ _ ((D.drop (16 * k)).take 16) htl ((hD.drop _).take _) (by omega) (SlA.weak (hs.sub hk1 hcap)))) ?_
        rintro _ B_ ⟨rfl, hB_⟩
        obtain rfl := hB_.symm
        refine s_val rfl (v_neq rfl rfl) (x_nil (n_then ?_))
        refine x_if rfl ?_ ?_
        · intro c6
          refine x_seq (x_region (s_val rfl (v_move rfl) (s_val rfl (v_assign rfl) (s_val rfl (v_assign rfl) (x_nil (n_then (x_ret (r_block (r_then (r_then (r_block (r_then (x_done (.inl rfl) (.cons (r_tmp rfl) (.cons (r_tmp rfl) .nil)) ?_)))))))))))))
          have hq : ¬ wrDE y who (at_ + k) ((D.drop (16 * k)).take 16).length = 0 := by first | exact c6 | simpa using c6
          rw [if_neg hq] at hst
          have hB : bkWr who at_ D x fr d = ⟨1, 16 * k, 0, fr, d, y⟩ := by rw [bkWr, if_pos hw, wrG_stop hst (by omega)]
          rw [hB, wrDk, if_neg hq]
          exact ⟨_, ⟨rfl, rfl⟩, inferInstance⟩
        · intro c6
          refine x_skip (n_block (n_then ?_))
          have hq : wrDE y who (at_ + k) ((D.drop (16 * k)).take 16).length = 0 := by first | exact Decidable.not_not.1 c6 | simpa using c6
          rw [if_pos hq] at hst
          refine x_region (s_val rfl (v_move rfl) ?_)
          refine s_val rfl (v_add rfl rfl (by rw [w64 (by omega)]; omega : IntKind.wrap .i64 (((16 * k : Nat) : Int) + 16) = ((16 * (k + 1) : Nat) : Int))) ?_
          refine s_val rfl (v_assign rfl) (x_nil (n_then ?_))
          refine inv_intro (k + 1, wrDk y who (at_ + k) ((D.drop (16 * k)).take 16)) ?_ ?_ ?_ ?_
          · exact ⟨by omega, hst⟩
          · omega
          · repeat (first | exact sub_nil | refine sub_cons rfl ?_)
          · exact inferInstance
      · intro c4
        refine x_exit (e_then (e_then (e_block (n_then (x_seq (x_region (s_val rfl (v_move rfl) (s_val rfl (v_len_slice Tryz.underlying44 rfl) (s_val rfl (v_assign rfl) (s_val rfl (v_assign rfl) (x_nil (n_then (x_ret (x_done (.inl rfl) (.cons (r_tmp rfl) (.cons (r_tmp rfl) .nil)) ?_))))))))))))))
        obtain rfl : k = D.length / 16 := by omega
        have hB : bkWr who at_ D x fr d = ⟨0, D.length, 0, fr, d, y⟩ := by rw [bkWr, if_pos hw, hg]
        rw [hB]
        exact ⟨_, ⟨rfl, rfl⟩, inferInstance⟩
theorem bkWr_same (who at_ : Int) (D : List Nat) (x : Dk) (fr : List Frm) (d : Nat) : bkWr who at_ D x fr d = ⟨(bkWr who at_ D x fr d).how, (bkWr who at_ D x fr d).m, 0, fr, d, (bkWr who at_ D x fr d).x⟩ := by
  unfold bkWr; split
  · split <;> rfl
  · rfl
theorem rbServe_spec (W0 : World) (R : List HP) (br dd qv qs qm : Nat) (pg : List Pl) (h : Pgs pg) (who : Int)
    (x0 : SbS) (n : Nat) (len : Nat) (sd sa su : Nat) (hn : n ≤ 8) (hr : Rg3.ok ⟨sd, sa, su, n⟩) (hx : SbOk len ⟨sd, sa, su, n⟩ x0) (h0 : x0.c = 0 ∧ x0.n = 0 ∧ x0.b = 0 ∧ x0.w = 0) :
    Spec Tryz.prog W0 27 [.pointer (some ⟨qv, 0, none⟩), .pointer (some ⟨br, 0, none⟩), .pointer (some ⟨dd, 0, none⟩), .int .i64 who]
      (pt br (rqO x0.s) :: rdkH dd x0.x :: pt qv (rvO qs qm x0.d) :: rstoH qs x0.fr :: pt qm (rgO pg) :: R)
      (fun v B => ∃ y, y = sbGo pg who n x0 ∧ v = .agg (SbS.v y).toArray ∧ B = pt br (rqO y.s) :: rdkH dd y.x :: pt qv (rvO qs qm y.d) :: rstoH qs y.fr :: pt qm (rgO pg) :: R) := by
  obtain ⟨i1, i2, i3, i4⟩ := h0
  refine spec_body Tryz.func27 Tryz.ntmps27 rfl rfl ?_
  refine x_seq (x_region (s_do rfl (d_allocA Tryz.zeroValue67) ?_))
  rintro _ _ ⟨b8, rfl, rfl⟩
  refine x_nil (n_then (x_seq (x_region (s_val rfl (v_build Tryz.underlying67 Tryz.zeroValue67 (sized_cons Tryz.sizeOf3 (sized_cons Tryz.sizeOf3 (sized_cons Tryz.sizeOf3 (sized_cons Tryz.sizeOf3 sized_nil)))) fil_nil) ?_))))
  refine s_do rfl (d_allocA Tryz.zeroValue67) ?_
  rintro _ _ ⟨b9, rfl, rfl⟩
  refine s_do0 (d_storeAll Tryz.sizeOf67 rfl rfl rfl rfl rfl) ?_
  rintro _ _ rfl
  refine x_nil (n_then (x_seq (x_seq (x_region (s_val rfl (v_assign rfl) (x_nil (n_then (x_block ?_))))))))
  refine x_loop (fun X : Nat × SbS => X.1 ≤ n ∧ sbGo pg who (n - X.1) X.2 = sbGo pg who n x0 ∧ SbOk len ⟨sd, sa, su, n⟩ X.2 ∧ X.2.c ≤ X.1 ∧ X.2.n ≤ 9 * X.1 ∧ X.2.b ≤ 512 * X.1 ∧ X.2.w = 0) (fun X => [(0, .pointer (some ⟨qv, 0, none⟩)), (1, .pointer (some ⟨br, 0, none⟩)), (2, .pointer (some ⟨dd, 0, none⟩)), (3, .int .i64 who), (8, .pointer (some ⟨b8, 0, none⟩)), (9, .pointer (some ⟨b9, 0, none⟩)), (10, .int .i64 X.1)]) (fun X => pt b9 (cob X.2.v 67) :: pt b8 (cob [.int .i64 0, .int .i64 0, .int .i64 0, .int .i64 0] 67) :: pt br (rqO X.2.s) :: rdkH dd X.2.x :: pt qv (rvO qs qm X.2.d) :: rstoH qs X.2.fr :: pt qm (rgO pg) :: R) (fun X => n - X.1) (0, x0) ?_ ?_ ?_ ?_
  · exact ⟨Nat.zero_le _, rfl, hx, by show x0.c ≤ _; omega, by show x0.n ≤ _; omega, by show x0.b ≤ _; omega, i4⟩
  · repeat (first | exact sub_nil | refine sub_cons rfl ?_)
  · obtain ⟨f0, d0, s0, p0, c0, n0, b0, w0⟩ := x0
    dsimp only at i1 i2 i3 i4
    subst i1; subst i2; subst i3; subst i4
    exact inferInstance
  · intro ⟨i, x⟩ ⟨hi, hgo, hok, hc, hnn, hb, hw⟩
    dsimp only at hi hgo hok hc hnn hb hw ⊢
    obtain ⟨fx, dx, ⟨⟨qd, qa, qu, qn⟩, qon, qbr, qlast, qput⟩, px, cx, nx, bx, wx⟩ := x
    obtain ⟨hF, hlen, hd, hs, hsr, hps⟩ := hok
    dsimp only at hF hlen hd hs hsr hps hc hnn hb hw ⊢
    subst hw
    cases hsr
    obtain ⟨sx, hsx⟩ : ∃ sx : QS, sx = ⟨⟨sd, sa, su, n⟩, qon, qbr, qlast, qput⟩ := ⟨_, rfl⟩
    have hsr : sx.r = ⟨sd, sa, su, n⟩ := by rw [hsx]
    have hst1 := sbSt_eq pg who ⟨fx, dx, sx, px, cx, nx, bx, 0⟩
    have hokn := sbSt_ok (pg := pg) (who := who) (X := ⟨fx, dx, sx, px, cx, nx, bx, 0⟩) (len := len) (r := ⟨sd, sa, su, n⟩) ⟨hF, hlen, hd, by rw [hsx]; exact hs, hsr, hps⟩
    dsimp only [sbO] at hst1
    obtain ⟨hl9, hl8⟩ := tkR_ok hF pg sx
    have hown := tk_own (fr := fx) (pg := pg) (s := sx)
    have hton := fun q => tk_on (fr := fx) (pg := pg) (s := sx) q
    have htln := fun q => tk_len (fr := fx) (pg := pg) (s := sx) q
    rw [← hsx] at hgo hs
    refine x_seq (x_seq (x_region (s_val rfl (v_move rfl) (s_val rfl (v_move rfl) (s_val rfl (v_nilCheck rfl) ?_)))))
    refine s_val rfl (v_fieldAddr rfl Tryz.underlying76 rfl Tryz.sizeOf73 rfl (by first | exact Nat.zero_add _ | rfl)) ?_
    refine s_val rfl (v_fieldAddr rfl Tryz.underlying73 rfl Tryz.sizeOf71 rfl (by first | exact Nat.zero_add _ | rfl)) ?_
    refine s_val rfl (v_fieldAddr rfl Tryz.underlying71 rfl Tryz.sizeOf3 rfl (by first | exact Nat.zero_add _ | rfl)) ?_
    refine s_val rfl (v_load Tryz.isAgg3 rfl (cell_own rfl)) ?_
    refine s_val rfl (v_lss rfl rfl) (x_nil (n_then ?_))
    refine x_if rfl ?_ ?_
    · intro c3
      dsimp only at c3
      refine x_skip (n_then (x_seq (x_block (x_seq ?_))))
      refine run_pt (b := br) (o' := rqO sx) (by rw [hsx]) ?_
      refine x_region (s_val rfl (v_move rfl) (s_val rfl (v_move rfl) ?_))
      refine s_do rfl (d_call4 Tryz.call90 rfl (rqTake_spec W0 _ br qv qs qm dx fx pg h hF sx hs (by rw [hsr]; exact hr))) ?_
      rintro _ B_ ⟨a, c, rfl, hB_⟩
      obtain rfl := hB_.symm
      obtain ⟨r, hr⟩ : ∃ r, tkR fx pg sx = r := ⟨_, rfl⟩
      rw [hr] at hl9 hl8 hst1 hown hton htln ⊢
      refine s_val rfl (v_move rfl) (s_val rfl (v_extract rfl rfl) (s_val rfl (v_extract rfl rfl) (s_val rfl (v_extract rfl rfl) (s_val rfl (v_extract rfl rfl) (s_val rfl (v_assign rfl) (s_val rfl (v_assign rfl) (s_val rfl (v_assign rfl) (s_val rfl (v_assign rfl) (x_nil (n_then (x_seq (x_seq (x_region (s_val rfl (v_move rfl) (s_val rfl (v_not rfl) (x_nil (n_then ?_)))))))))))))))))
      refine x_if rfl ?_ ?_
      · intro c6
        have ht : ¬ r.2.2.1 = true := by simpa using c6
        rw [if_neg ht] at hst1
        rw [sbGo_stop (by omega) (by rw [hst1]), hst1] at hgo
        have hfin := hgo
        refine x_seq (x_region (s_val rfl (v_move rfl) ?_))
        refine s_val rfl (v_fieldAddr rfl Tryz.underlying67 rfl Tryz.sizeOf3 rfl (by first | exact Nat.zero_add _ | rfl)) ?_
        refine s_do0 (d_store Tryz.sizeOf3 rfl rfl rfl (Nat.le_of_ble_eq_true rfl) SetL.eq) ?_
        rintro _ _ rfl
        refine x_nil (n_then (x_seq (x_region (s_val rfl (v_loadAll Tryz.isAgg67 Tryz.sizeOf67 rfl rfl) ?_))))
        refine s_do0 (d_storeAll Tryz.sizeOf67 rfl rfl rfl rfl rfl) ?_
        rintro _ _ rfl
        refine x_nil (n_then (x_ret (r_then (r_block (r_then (r_then (r_block (r_then (x_done (.inl rfl) (.cons (r_all Tryz.isAgg67 Tryz.sizeOf67 rfl rfl) .nil) ?_)))))))))
        exact ⟨_, ⟨_, hfin, rfl, rfl⟩, inferInstance⟩
      · intro c6
        have ht : r.2.2.1 = true := by simpa using c6
        rw [if_pos ht] at hst1
        have hW := (hton ht).2.2
        have hL := (htln ht).2
        rw [hsr] at hL
        have hsum := len_sum fun i hi => (hW.own i hi).2.1
        obtain ⟨G, hG⟩ : ∃ G, gthK fx pg r.2.1 100000 r.2.1.length = G := ⟨_, rfl⟩
        have hGb : By G := by rw [← hG]; exact gthK_by hF pg r.2.1 100000 _
        have htot : totK r.2.1 r.2.1.length ≤ 512 := by
          rw [totK_all]
          have : (r.2.1.length : Int) ≤ max (n : Int) 0 := hL
          omega
        have hGG := gth_all hown 512 100000 r.2.1.length (Nat.le_refl _) htot (by omega)
        have hbG : bkG fx pg r.2.1 = G := by rw [← hG, bkG]; exact hGG.2
        have hGl : G.length ≤ 512 := by rw [← hbG, bkG]; rw [show ((512 : Nat) : Int) = 512 from rfl] at hGG; omega
        have hX : bkB_ fx pg r.2.1 = decide (8 ≤ G.length ∧ 1 ≤ lenW r.2.1 true) := by rw [bkB_, hbG]
        have hlw : lenW r.2.1 true ≤ 38654705664 := by omega
        obtain ⟨o, ho⟩ : ∃ o, bkOne pg who r.1 r.2.1 (tkS fx pg sx) px fx dx = o := ⟨_, rfl⟩
        have hdo := bkOne_ok (pg := pg) (who := who) (h := r.1) (l := r.2.1) (tkS_ok (fr := fx) (pg := pg) hs) hps hF hd
        rw [ho] at hst1 hdo
        refine x_skip (n_then (x_seq (x_region ?_)))
        refine s_val rfl (v_fieldAddr rfl Tryz.underlying67 rfl Tryz.sizeOf3 rfl (by first | exact Nat.zero_add _ | rfl)) ?_
        refine s_val rfl (v_load Tryz.isAgg3 rfl (cell_own rfl)) ?_
        refine s_val rfl (v_add rfl rfl (by rw [w64 (by omega)]; omega : IntKind.wrap .i64 ((cx : Int) + 1) = ((cx + 1 : Nat) : Int))) ?_
        refine s_val rfl (v_fieldAddr rfl Tryz.underlying67 rfl Tryz.sizeOf3 rfl (by first | exact Nat.zero_add _ | rfl)) ?_
        refine s_do0 (d_store Tryz.sizeOf3 rfl rfl rfl (Nat.le_of_ble_eq_true rfl) SetL.eq) ?_
        rintro _ _ rfl
        refine x_nil (n_then (x_seq (x_region ?_)))
        refine s_val rfl (v_fieldAddr rfl Tryz.underlying67 rfl Tryz.sizeOf3 rfl (by first | exact Nat.zero_add _ | rfl)) ?_
        refine s_val rfl (v_load Tryz.isAgg3 rfl (cell_own rfl)) ?_
        refine s_val rfl (v_move rfl) (s_val rfl (v_len_slice Tryz.underlying43 rfl) ?_)
        refine s_val rfl (v_add rfl rfl (by rw [w64 (by omega)]; omega : IntKind.wrap .i64 ((nx : Int) + (r.2.1.length : Int)) = ((nx + r.2.1.length : Nat) : Int))) ?_
        refine s_val rfl (v_fieldAddr rfl Tryz.underlying67 rfl Tryz.sizeOf3 rfl (by first | exact Nat.zero_add _ | rfl)) ?_
        refine s_do0 (d_store Tryz.sizeOf3 rfl rfl rfl (Nat.le_of_ble_eq_true rfl) SetL.eq) ?_
        rintro _ _ rfl
        refine x_nil (n_then (x_seq ?_))
        refine run_form (E := 139) (sz := 4) (a := a) (c := c) (n := r.2.1.length) (ys := r.2.1.flatMap dsV) (fun hf1 => ?_)
        refine x_region (s_val rfl (v_move rfl) (s_val rfl (v_move rfl) ?_))
        refine s_do rfl (d_call3 Tryz.call91 rfl (rcGather_spec W0 _ qv qs qm dx c a fx pg h hF r.2.1 (sla_cells hf1 (cells_osl (E := 139) (sz := 4) (a := a) (n := r.2.1.length) (c := c)) (fun _ => rfl) rfl (by decide)) hl9 (by omega) 100000 (by decide))) ?_
        rintro _ B_ ⟨a2, cc, rfl, hB_⟩
        obtain rfl := hB_.symm
        rw [hG]
        refine s_val rfl (v_assign rfl) (x_nil (n_then (x_seq (x_region (s_val rfl (v_move rfl) ?_)))))
        refine s_do rfl (d_call1 Tryz.call92 rfl (rcLen_spec W0 _ a c r.2.1 true hl9 (by omega))) ?_
        rintro _ B_ ⟨rfl, hB_⟩
        obtain rfl := hB_.symm
        refine s_val rfl (v_assign rfl) (x_nil (n_then (x_seq (x_seq (x_region (s_val rfl (v_move rfl) (s_val rfl (v_len_slice Tryz.underlying44 rfl) (s_val rfl (v_lss rfl rfl) (s_val rfl (v_move rfl) ?_)))))))))
        refine s_or rfl rfl rfl ?_ ?_
        · intro g13_4
          refine s_no rfl rfl rfl rfl (s_val rfl (v_pick_t rfl rfl) (x_nil (n_then (x_ift rfl (x_seq ?_)))))
          have hq : bkB_ fx pg r.2.1 = false := by rw [hX]; exact decide_eq_false (by omega)
          have hO : o = ⟨0, 4, fx, dx, bkS (tkS fx pg sx) 4, px⟩ := by rw [← ho, bkOne, hq]; rfl
          subst hO
          rw [sbGo_stop (by omega) (by rw [hst1]; rfl), hst1] at hgo
          have hfin := hgo
          refine x_region (s_val rfl (v_move rfl) (s_do rfl (d_call1 Tryz.call93 rfl (rqBreak_spec W0 _ br (tkS fx pg sx) 4)) ?_))
          rintro _ B_ ⟨rfl, hB_⟩
          obtain rfl := hB_.symm
          refine x_nil (n_then (x_seq (x_region ?_)))
          refine s_val rfl (v_fieldAddr rfl Tryz.underlying67 rfl Tryz.sizeOf3 rfl (by first | exact Nat.zero_add _ | rfl)) ?_
          refine s_do0 (d_store Tryz.sizeOf3 rfl rfl rfl (Nat.le_of_ble_eq_true rfl) SetL.eq) ?_
          rintro _ _ rfl
          refine x_nil (n_then (x_seq (x_region (s_val rfl (v_loadAll Tryz.isAgg67 Tryz.sizeOf67 rfl rfl) ?_))))
          refine s_do0 (d_storeAll Tryz.sizeOf67 rfl rfl rfl rfl rfl) ?_
          rintro _ _ rfl
          refine x_nil (n_then (x_ret (r_then (r_block (r_then (r_then (r_block (r_then (x_done (.inl rfl) (.cons (r_all Tryz.isAgg67 Tryz.sizeOf67 rfl rfl) .nil) ?_)))))))))
          exact ⟨_, ⟨_, hfin, rfl, rfl⟩, inferInstance⟩
        · intro g13_4
          refine s_val rfl (v_move rfl) (s_yes rfl rfl (s_val rfl (v_lss rfl rfl) (s_val rfl (v_pick_f rfl rfl) (x_nil (n_then ?_)))))
          refine x_if rfl ?_ ?_
          · intro c13
            refine x_seq ?_
            have hq : bkB_ fx pg r.2.1 = false := by rw [hX]; exact decide_eq_false (by omega)
            have hO : o = ⟨0, 4, fx, dx, bkS (tkS fx pg sx) 4, px⟩ := by rw [← ho, bkOne, hq]; rfl
            subst hO
            rw [sbGo_stop (by omega) (by rw [hst1]; rfl), hst1] at hgo
            have hfin := hgo
            refine x_region (s_val rfl (v_move rfl) (s_do rfl (d_call1 Tryz.call93 rfl (rqBreak_spec W0 _ br (tkS fx pg sx) 4)) ?_))
            rintro _ B_ ⟨rfl, hB_⟩
            obtain rfl := hB_.symm
            refine x_nil (n_then (x_seq (x_region ?_)))
            refine s_val rfl (v_fieldAddr rfl Tryz.underlying67 rfl Tryz.sizeOf3 rfl (by first | exact Nat.zero_add _ | rfl)) ?_
            refine s_do0 (d_store Tryz.sizeOf3 rfl rfl rfl (Nat.le_of_ble_eq_true rfl) SetL.eq) ?_
            rintro _ _ rfl
            refine x_nil (n_then (x_seq (x_region (s_val rfl (v_loadAll Tryz.isAgg67 Tryz.sizeOf67 rfl rfl) ?_))))
            refine s_do0 (d_storeAll Tryz.sizeOf67 rfl rfl rfl rfl rfl) ?_
            rintro _ _ rfl
            refine x_nil (n_then (x_ret (r_then (r_block (r_then (r_then (r_block (r_then (x_done (.inl rfl) (.cons (r_all Tryz.isAgg67 Tryz.sizeOf67 rfl rfl) .nil) ?_)))))))))
            exact ⟨_, ⟨_, hfin, rfl, rfl⟩, inferInstance⟩
          · intro c13
            have hbb : 8 ≤ G.length ∧ 1 ≤ lenW r.2.1 true := by omega
            have hq : bkB_ fx pg r.2.1 = true := by rw [hX]; exact decide_eq_true hbb
            have e8 : (G.take 8).length = 8 := by rw [List.length_take]; omega
            have hw0 := wdAt_lt (hGb.take 8) 0
            have hw1 := wdAt_lt (hGb.take 8) 1
            obtain ⟨y0, hy0⟩ : ∃ y, bkDo pg who (wdAt (G.take 8) 1 : Nat) (wdAt (G.take 8) 0) (lenW r.2.1 true) r.2.1 (G.drop 8) px fx dx = y := ⟨_, rfl⟩
            have hO : o = ⟨y0.m, (bkO3 pg r.1 r.2.1 y0 (tkS fx pg sx)).c, (bkO3 pg r.1 r.2.1 y0 (tkS fx pg sx)).fr, (bkO3 pg r.1 r.2.1 y0 (tkS fx pg sx)).d, (bkO3 pg r.1 r.2.1 y0 (tkS fx pg sx)).s, y0.x⟩ := by
              rw [← ho, bkOne, if_pos hq]; unfold bkO1; rw [hbG, hy0]
            have hbk : BlOk fx y0 := by rw [← hy0]; exact bkDo_ok hps hF hd (hGb.drop 8) (by rw [List.length_drop]; omega)
            obtain ⟨w0, hw0e⟩ : ∃ w, wdAt (G.take 8) 0 = w := ⟨_, rfl⟩
            obtain ⟨w1, hw1e⟩ : ∃ w, wdAt (G.take 8) 1 = w := ⟨_, rfl⟩
            rw [hw0e] at hw0 hy0
            rw [hw1e] at hw1 hy0
            refine x_skip (n_then (x_seq ?_))
            refine run_form (E := 5) (sz := 1) (a := a2) (c := cc) (n := G.length) (ys := byV G) (fun hf2 => ?_)
            refine run_cap (E := 5) (sz := 1) (a := a2) (c := cc) (n := G.length) (fun hcap => ?_)
            obtain ⟨g, rfl⟩ := form_some hf2 (byV_ne (by omega))
            refine x_region (s_val rfl (v_move rfl) ?_)
            refine s_val rfl (v_sliceH Tryz.underlying44 Tryz.sizeOf5 rfl rfl (h := 8) rfl (by omega)) ?_
            refine s_do rfl (d_call Tryz.call94 rfl (refWords_spec W0 _ g 0 cc 8 (G.take 8) e8 (Cells.part (l := G) (cells_osl (E := 5) (sz := 1) (a := some ⟨g, 0, none⟩) (n := G.length) (c := cc)) 0 8 (by omega)) (hGb.take 8) (by omega) (by decide) (maxLen_lt hcap.2))) ?_
            rintro _ B_ ⟨aw, cw, rfl, hB_⟩
            obtain rfl := hB_.symm
            rw [e8, show 8 / 4 = 2 from rfl, show wordsV (G.take 8) 2 = [.int .u32 (w0 : Nat), .int .u32 (w1 : Nat)] by rw [← hw0e, ← hw1e]; rfl]
            refine run_form (E := 47) (sz := 1) (a := aw) (c := cw) (n := 2) (fun hf3 => ?_)
            obtain ⟨gw, rfl⟩ := form_some hf3 (by simp)
            refine s_val rfl (v_assign rfl) (x_nil (n_then (x_seq (x_region (s_val rfl (v_assign rfl) (x_nil (n_then (x_seq (x_region (s_val rfl (v_assign rfl) (x_nil (n_then ?_))))))))))))
            refine x_cut (fun y : BlR => y = y0) (fun y => [(0, .pointer (some ⟨qv, 0, none⟩)), (1, .pointer (some ⟨br, 0, none⟩)), (2, .pointer (some ⟨dd, 0, none⟩)), (3, .int .i64 who), (8, .pointer (some ⟨b8, 0, none⟩)), (9, .pointer (some ⟨b9, 0, none⟩)), (10, .int .i64 i), (11, .int .i64 (r.1 : Nat)), (12, .slice a r.2.1.length c), (16, .int .i64 (lenW r.2.1 true : Nat)), (18, .int .i64 (y.how : Nat)), (19, .int .i64 (y.t : Nat))]) (fun y => osl 139 4 (.slice a r.2.1.length c) (r.2.1.flatMap dsV) :: pt b9 (cob [.int .i64 (cx + 1 : Nat), .int .i64 (nx + r.2.1.length : Nat), .int .i64 (bx + y.m : Nat), .int .i64 0] 67) :: pt b8 (cob [.int .i64 0, .int .i64 0, .int .i64 0, .int .i64 0] 67) :: pt br (rqO (tkS fx pg sx)) :: rdkH dd y.x :: pt qv (rvO qs qm y.d) :: rstoH qs y.fr :: pt qm (rgO pg) :: R) ?_ ?_
            · skip
              refine x_seq (x_region (s_val rfl (v_move rfl) ?_))
              refine s_val rfl (v_idx Tryz.underlying45 Tryz.sizeOf47 rfl rfl (j := 0) rfl (by decide) (by first | exact Nat.zero_add _ | rfl)) ?_
              refine s_val rfl (v_load Tryz.isAgg47 rfl (cells_osl (E := 47) (sz := 1) (a := some ⟨gw, 0, none⟩) (n := 2) (c := cw) 0 _ rfl)) ?_
              refine x_nil (n_then (x_block (x_seq (x_region (s_val rfl (v_eql rfl rfl) (s_val rfl (v_assign rfl) (x_nil (n_then ?_))))))))
              refine x_if rfl ?_ ?_
              · intro c22
                obtain rfl : w0 = 0 := by omega
                have hyr := rbR_bk pg who (w1 : Nat) (lenW r.2.1 true) r.2.1 px fx dx
                rw [show bkRd pg who (w1 : Nat) (lenW r.2.1 true) r.2.1 px fx dx = y0 by rw [← hy0, bkDo, if_pos rfl]] at hyr
                obtain ⟨hrb1, hrb2, hrb3⟩ := rbR_ok hps who (w1 : Nat) (lenW r.2.1 true - 1)
                obtain ⟨q, hqq⟩ : ∃ q, rbR px who (w1 : Nat) (lenW r.2.1 true - 1) = q := ⟨_, rfl⟩
                rw [hqq] at hyr hrb1 hrb2 hrb3
                have hscq := scK_ok (pg := pg) (l := r.2.1) (from_ := 0) (bs := q.1) hF hd r.2.1.length
                have hsm := hscq.dn
                refine x_seq (x_region (s_val rfl (v_move rfl) (s_val rfl (v_move rfl) (s_val rfl (v_move rfl) ?_))))
                refine s_val rfl (v_idx Tryz.underlying45 Tryz.sizeOf47 rfl rfl (j := 1) rfl (by decide) (by first | exact Nat.zero_add _ | rfl)) ?_
                refine s_val rfl (v_load Tryz.isAgg47 rfl (cells_osl (E := 47) (sz := 1) (a := some ⟨gw, 0, none⟩) (n := 2) (c := cw) 1 _ rfl)) ?_
                refine s_val rfl (v_conv Tryz.underlying47 Tryz.underlying3 rfl (w64 (by omega))) ?_
                refine s_val rfl (v_move rfl) ?_
                refine s_val rfl (v_sub rfl rfl (by rw [w64 (by omega)]; omega : IntKind.wrap .i64 ((lenW r.2.1 true : Int) - 1) = ((lenW r.2.1 true - 1 : Nat) : Int))) ?_
                refine s_do rfl (d_call1 Tryz.call95 rfl (rbRead_spec W0 _ dd px hps who w1 hw1 (lenW r.2.1 true - 1) (by omega))) ?_
                rintro _ B_ ⟨ar, cr, rfl, hB_⟩
                obtain rfl := hB_.symm
                rw [hqq]
                refine s_val rfl (v_move rfl) (s_val rfl (v_extract rfl rfl) (s_val rfl (v_extract rfl rfl) (s_val rfl (v_assign rfl) (s_val rfl (v_assign rfl) (x_nil (n_then (x_seq (x_region (s_val rfl (v_move rfl) (s_val rfl (v_assign rfl) (x_nil (n_then (x_seq ?_)))))))))))))
                refine run_form (E := 5) (sz := 1) (a := ar) (c := cr) (n := q.1.length) (ys := byV q.1) (fun hf4 => ?_)
                refine run_form (E := 139) (sz := 4) (a := a) (c := c) (n := r.2.1.length) (ys := r.2.1.flatMap dsV) (fun hf5 => ?_)
                refine x_region (s_val rfl (v_move rfl) (s_val rfl (v_move rfl) (s_val rfl (v_move rfl) ?_)))
                refine s_do rfl (d_call3 Tryz.call96 rfl (rcScatter_spec W0 _ qv qs qm dx c cr a ar fx pg h hF hd r.2.1 (sla_cells hf5 (cells_osl (E := 139) (sz := 4) (a := a) (n := r.2.1.length) (c := c)) (fun _ => rfl) rfl (by decide)) hl9 (by omega) 0 (by decide) q.1 hrb2 (sla_cells hf4 (cells_osl (E := 5) (sz := 1) (a := ar) (n := q.1.length) (c := cr)) (fun _ => rfl) (byV_fm q.1).symm (by decide)) (by omega))) ?_
                rintro _ B_ ⟨rfl, hB_⟩
                obtain rfl := hB_.symm
                refine s_val rfl (v_assign rfl) (x_nil (n_then (x_region ?_)))
                refine s_val rfl (v_fieldAddr rfl Tryz.underlying67 rfl Tryz.sizeOf3 rfl (by first | exact Nat.zero_add _ | rfl)) ?_
                refine s_val rfl (v_load Tryz.isAgg3 rfl (cell_own rfl)) ?_
                refine s_val rfl (v_move rfl) ?_
                refine s_val rfl (v_add rfl rfl (by rw [w64 (by omega)]; omega : IntKind.wrap .i64 ((bx : Int) + ((scK fx pg dx r.2.1 0 q.1 r.2.1.length).2.1 : Int)) = ((bx + (scK fx pg dx r.2.1 0 q.1 r.2.1.length).2.1 : Nat) : Int))) ?_
                refine s_val rfl (v_fieldAddr rfl Tryz.underlying67 rfl Tryz.sizeOf3 rfl (by first | exact Nat.zero_add _ | rfl)) ?_
                refine s_do0 (d_store Tryz.sizeOf3 rfl rfl rfl (Nat.le_of_ble_eq_true rfl) SetL.eq) ?_
                rintro _ _ rfl
                refine x_nil (n_block (n_then ?_))
                refine mid_intro y0 ?_ ?_ ?_
                · rfl
                · rw [hyr]
                  repeat (first | exact sub_nil | refine sub_cons rfl ?_)
                · rw [hyr]
                  exact inferInstance
              · intro c22
                have hn0 : ¬ w0 = 0 := by omega
                rw [bkDo, if_neg hn0] at hy0
                refine x_seq (x_region (s_val rfl (v_eql rfl rfl) (s_val rfl (v_assign rfl) (x_nil (n_then ?_)))))
                refine x_if rfl ?_ ?_
                · intro c27
                  obtain rfl : w0 = 1 := by omega
                  rw [if_pos rfl] at hy0
                  have hys := bkWr_same who (w1 : Nat) (G.drop 8) px fx dx
                  rw [hy0] at hys
                  have hym := hbk.m
                  refine x_seq ?_
                  refine x_draw [(gw, 0, [.int .u32 ((1 : Nat) : Int), .int .u32 (w1 : Nat)])] 14 mixed rfl (sc_cons (cells_osl (E := 47) (sz := 1) (a := some ⟨gw, 0, none⟩) (n := 2) (c := cw)) sc_end) (fun hS => ?_)
                  refine d_take 0 rfl rfl (by kernel_rfl) (by kernel_rfl) (by kernel_rfl) rfl hS (v_move rfl) ?_
                  refine d_take 1 rfl rfl (by kernel_rfl) (by kernel_rfl) (by kernel_rfl) rfl hS (v_move rfl) ?_
                  refine d_take 2 rfl rfl (by kernel_rfl) (by kernel_rfl) (by kernel_rfl) rfl hS (v_move rfl) ?_
                  refine d_take 3 rfl rfl (by kernel_rfl) (by kernel_rfl) (by kernel_rfl) rfl hS (v_idx Tryz.underlying45 Tryz.sizeOf47 rfl rfl (j := 1) rfl (by decide) (by first | exact Nat.zero_add _ | rfl)) ?_
                  refine d_take 4 rfl rfl (by kernel_rfl) (by kernel_rfl) (by kernel_rfl) rfl hS (v_load Tryz.isAgg47 rfl (by first | exact cell_sc0 (k := 0) rfl rfl | exact cell_sc0 (k := 1) rfl rfl | exact cell_sc0 (k := 2) rfl rfl | exact cell_sc0 (k := 3) rfl rfl)) ?_
                  refine d_take 5 rfl rfl (by kernel_rfl) (by kernel_rfl) (by kernel_rfl) rfl hS (v_conv Tryz.underlying47 Tryz.underlying3 rfl (w64 (by omega))) ?_
                  refine d_take 6 rfl rfl (by kernel_rfl) (by kernel_rfl) (by kernel_rfl) rfl hS (v_move rfl) ?_
                  refine d_take 7 rfl rfl (by kernel_rfl) (by kernel_rfl) (by kernel_rfl) rfl hS (v_sliceLg Tryz.underlying44 Tryz.sizeOf5 rfl (i := 8) rfl rfl (by omega) rfl) ?_
                  refine d_one 8 (by kernel_rfl) rfl rfl (d_call1 Tryz.call97 rfl (rbWrite_spec W0 _ dd px hps who w1 hw1 (sliA (some ⟨g, 0, none⟩) cc 8 1) (G.length - 8) (cc - 8) (G.drop 8) (List.length_drop ..) (hGb.drop 8) (by omega) (by omega) (sla_tail (sla_cells hf2 (cells_osl (E := 5) (sz := 1) (a := some ⟨g, 0, none⟩) (n := G.length) (c := cc)) (fun _ => rfl) (byV_fm G).symm (by decide)) hcap.1 (by omega)) fx dx)) rfl ?_; clear hS
                  rintro _ B_ ⟨rfl, hB_⟩
                  obtain rfl := hB_.symm
                  rw [hy0]
                  refine ⟨(sc_cons (cells_osl (E := 47) (sz := 1) (a := some ⟨gw, 0, none⟩) (n := 2) (c := cw)) sc_end), fun hS => ?_⟩
                  refine d_take 9 rfl rfl (by kernel_rfl) (by kernel_rfl) (by kernel_rfl) rfl hS (v_move rfl) ?_
                  refine d_take 10 rfl rfl (by kernel_rfl) (by kernel_rfl) (by kernel_rfl) rfl hS (v_extract rfl rfl) ?_
                  refine d_take 11 rfl rfl (by kernel_rfl) (by kernel_rfl) (by kernel_rfl) rfl hS (v_extract rfl rfl) ?_
                  refine d_take 12 rfl rfl (by kernel_rfl) (by kernel_rfl) (by kernel_rfl) rfl hS (v_assign rfl) ?_
                  refine d_take 13 rfl rfl (by kernel_rfl) (by kernel_rfl) (by kernel_rfl) rfl hS (v_assign rfl) ?_
                  refine d_done (by kernel_rfl) ?_; clear hS
                  refine n_then (x_seq (x_region (s_val rfl (v_move rfl) (s_val rfl (v_assign rfl) (x_nil (n_then (x_region ?_)))))))
                  refine s_val rfl (v_fieldAddr rfl Tryz.underlying67 rfl Tryz.sizeOf3 rfl (by first | exact Nat.zero_add _ | rfl)) ?_
                  refine s_val rfl (v_load Tryz.isAgg3 rfl (cell_own rfl)) ?_
                  refine s_val rfl (v_move rfl) ?_
                  refine s_val rfl (v_add rfl rfl (by rw [w64 (by omega)]; omega : IntKind.wrap .i64 ((bx : Int) + (y0.m : Int)) = ((bx + y0.m : Nat) : Int))) ?_
                  refine s_val rfl (v_fieldAddr rfl Tryz.underlying67 rfl Tryz.sizeOf3 rfl (by first | exact Nat.zero_add _ | rfl)) ?_
                  refine s_do0 (d_store Tryz.sizeOf3 rfl rfl rfl (Nat.le_of_ble_eq_true rfl) SetL.eq) ?_
                  rintro _ _ rfl
                  refine x_nil (n_block (n_then ?_))
                  refine mid_intro y0 ?_ ?_ ?_
                  · rfl
                  · rw [hys]
                    repeat (first | exact sub_nil | refine sub_cons rfl ?_)
                  · rw [hys]
                    exact inferInstance
                · intro c27
                  have hn1 : ¬ w0 = 1 := by omega
                  rw [if_neg hn1] at hy0
                  refine x_region (s_val rfl (v_assign rfl) (x_nil (n_block (n_then ?_))))
                  refine mid_intro y0 ?_ ?_ ?_
                  · rfl
                  · rw [← hy0]
                    repeat (first | exact sub_nil | refine sub_cons rfl ?_)
                  · rw [← hy0]
                    exact inferInstance
            · intro y hy
              subst hy
              clear hy0
              have hhow := hbk.how
              have hyt := hbk.t
              have hsc := scK_ok (pg := pg) (l := r.2.1) (from_ := ((lenW r.2.1 true - 1 : Nat) : Int)) (bs := [y.how]) hbk.frs hbk.d r.2.1.length
              refine x_seq ?_
              refine run_form (E := 139) (sz := 4) (a := a) (c := c) (n := r.2.1.length) (ys := r.2.1.flatMap dsV) (fun hf5 => ?_)
              refine x_region (s_val rfl (v_move rfl) (s_val rfl (v_move rfl) (s_val rfl (v_move rfl) ?_)))
              refine s_val rfl (v_sub rfl rfl (by rw [w64 (by omega)]; omega : IntKind.wrap .i64 ((lenW r.2.1 true : Int) - 1) = ((lenW r.2.1 true - 1 : Nat) : Int))) ?_
              refine s_val rfl (v_move rfl) ?_
              refine s_val rfl (v_conv Tryz.underlying3 Tryz.underlying5 rfl (w8u (by omega))) ?_
              refine s_do rfl (d_sliceLit Tryz.underlying44 Tryz.sizeOf5 Tryz.zeroValue5 rfl rfl rfl rfl rfl (by decide) (by decide)) ?_
              rintro _ _ ⟨bz, rfl, rfl⟩
              refine s_do rfl (d_call3 Tryz.call96 rfl (rcScatter_spec W0 _ qv qs qm y.d c 1 a (some ⟨bz, 0, none⟩) y.fr pg h hbk.frs hbk.d r.2.1 (sla_cells hf5 (cells_osl (E := 139) (sz := 4) (a := a) (n := r.2.1.length) (c := c)) (fun _ => rfl) rfl (by decide)) hl9 (by omega) ((lenW r.2.1 true - 1 : Nat) : Int) (by omega) [y.how] (fun z hz => by simp at hz; omega) (sla_cells (.inr ⟨bz, rfl⟩) (cells_all (b := bz)) (fun _ => rfl) rfl (by decide)) (by simp))) ?_
              rintro _ B_ ⟨rfl, hB_⟩
              obtain rfl := hB_.symm
              refine x_nil (n_then (x_seq (x_region (s_val rfl (v_move rfl) (s_val rfl (v_move rfl) (s_val rfl (v_move rfl) (s_val rfl (v_move rfl) ?_)))))))
              refine s_val rfl (v_add rfl rfl (by rw [w64 (by omega)]; omega : IntKind.wrap .i64 ((y.t : Int) + 1) = ((y.t + 1 : Nat) : Int))) ?_
              refine s_do rfl (d_call4 Tryz.call98 rfl (rqDone_spec W0 _ br qv qs qm (bkO2 pg r.2.1 y).2.2.2 (bkO2 pg r.2.1 y).2.2.1 pg h hsc.frs hsc.d (tkS fx pg sx) (tkS_ok hs) (r.1 : Nat) ((y.t + 1 : Nat) : Int))) ?_
              rintro _ B_ ⟨rfl, hB_⟩
              obtain rfl := hB_.symm
              have hzz : bkO3 pg r.1 r.2.1 y (tkS fx pg sx) = dnX (bkO2 pg r.2.1 y).2.2.1 pg (bkO2 pg r.2.1 y).2.2.2 (tkS fx pg sx) (u32N (r.1 : Nat)) (u32N ((y.t + 1 : Nat) : Int)) := rfl
              rw [← hzz]
              clear hzz
              generalize bkO3 pg r.1 r.2.1 y (tkS fx pg sx) = z at hO ⊢
              subst hO
              dsimp only at hst1
              refine s_val rfl (v_assign rfl) (x_nil (n_then (x_seq (x_region (s_val rfl (v_move rfl) (s_val rfl (v_neq rfl rfl) (x_nil (n_then ?_))))))))
              refine x_if rfl ?_ ?_
              · intro c33
                have hzc : zB z.c = false := decide_eq_false c33
                rw [hzc] at hst1
                rw [sbGo_stop (by omega) (by rw [hst1]), hst1] at hgo
                have hfin := hgo
                refine x_seq (x_region (s_val rfl (v_move rfl) ?_))
                refine s_val rfl (v_fieldAddr rfl Tryz.underlying67 rfl Tryz.sizeOf3 rfl (by first | exact Nat.zero_add _ | rfl)) ?_
                refine s_do0 (d_store Tryz.sizeOf3 rfl rfl rfl (Nat.le_of_ble_eq_true rfl) SetL.eq) ?_
                rintro _ _ rfl
                refine x_nil (n_then (x_seq (x_region (s_val rfl (v_loadAll Tryz.isAgg67 Tryz.sizeOf67 rfl rfl) ?_))))
                refine s_do0 (d_storeAll Tryz.sizeOf67 rfl rfl rfl rfl rfl) ?_
                rintro _ _ rfl
                refine x_nil (n_then (x_ret (r_block (r_then (r_then (r_block (r_then (x_done (.inl rfl) (.cons (r_all Tryz.isAgg67 Tryz.sizeOf67 rfl rfl) .nil) ?_))))))))
                exact ⟨_, ⟨_, hfin, rfl, rfl⟩, inferInstance⟩
              · intro c33
                have hz0 : z.c = 0 := Decidable.not_not.1 c33
                have hzc : zB z.c = true := decide_eq_true hz0
                rw [hzc] at hst1
                rw [sbGo_go (by omega) (by rw [hst1]), hst1] at hgo
                rw [hst1] at hokn
                have hym := hbk.m
                refine x_skip (n_block (n_then (x_region (s_val rfl (v_move rfl) ?_))))
                refine s_val rfl (v_add rfl rfl (by first | exact w64 (by omega) | rfl)) ?_
                refine s_val rfl (v_assign rfl) (x_nil (n_then ?_))
                refine inv_intro (i + 1, ⟨z.fr, z.d, z.s, y.x, cx + 1, nx + r.2.1.length, bx + y.m, z.c⟩) ?_ ?_ ?_ ?_
                · refine ⟨by omega, ?_, hokn.1, by show cx + 1 ≤ i + 1; omega, by show nx + r.2.1.length ≤ 9 * (i + 1); omega, by show bx + y.m ≤ 512 * (i + 1); omega, hz0⟩
                  rw [show n - (i + 1) = n - i - 1 by omega]; exact hgo
                · omega
                · repeat (first | exact sub_nil | refine sub_cons rfl ?_)
                · dsimp only [SbS.v]
                  rw [hz0]; exact inferInstance
    · intro c3
      dsimp only at c3
      refine x_exit (e_then (e_then (e_block (n_then (x_seq (x_region (s_val rfl (v_loadAll Tryz.isAgg67 Tryz.sizeOf67 rfl rfl) ?_)))))))
      refine s_do0 (d_storeAll Tryz.sizeOf67 rfl rfl rfl rfl rfl) ?_
      rintro _ _ rfl
      refine x_nil (n_then (x_ret (x_done (.inl rfl) (.cons (r_all Tryz.isAgg67 Tryz.sizeOf67 rfl rfl) .nil) ?_)))
      obtain rfl : i = n := by omega
      rw [Nat.sub_self, sbGo] at hgo
      subst hsx
      exact ⟨_, ⟨_, hgo, rfl, rfl⟩, inferInstance⟩
end Go.Proofs.YtncegikenkpcmaaGreat
namespace Go.Proofs.YtncegikenkpcmaaGreat
open Go.RowKit
set_option linter.unusedSimpArgs false
set_option linter.unusedVariables false
set_option maxRecDepth 20000
@[reducible] def g25 (b1 b2 : Nat) : Gst := ⟨some ⟨b1, 0, none⟩, 2, [⟨320, 8, 1, 1⟩, ⟨384, 17, 2, 0⟩], some ⟨b2, 0, none⟩, 1, [0], none, 0, [], none, 0, [], 1⟩
@[reducible] def h25 (b1 b2 : Nat) (R : List HP) : List HP := pt b2 (cob [.int .u8 0] 5) :: pt b1 (cob [.int .u32 320, .int .u32 8, .int .u32 1, .int .u32 1, .int .u32 384, .int .u32 17, .int .u32 2, .int .u32 0] 139) :: R
theorem asks25_spec (W0 : World) (R : List HP) : Spec Tryz.prog W0 80 [] R
    (fun v B => ∃ b1 b2, v = .agg (gstV (g25 b1 b2)).toArray ∧ B = h25 b1 b2 R) := by
  refine spec_body Tryz.func80 Tryz.ntmps80 rfl rfl ?_
  refine x_seq (x_region (s_do rfl (d_allocA Tryz.zeroValue49) ?_))
  rintro _ _ ⟨b0, rfl, rfl⟩
  refine x_nil (n_then (x_seq (x_region (s_val rfl (v_build Tryz.underlying139 Tryz.zeroValue139 (sized_cons Tryz.sizeOf47 (sized_cons Tryz.sizeOf47 (sized_cons Tryz.sizeOf47 (sized_cons Tryz.sizeOf47 sized_nil)))) (fil_scal rfl Tryz.sizeOf47 rfl rfl (Nat.le_of_ble_eq_true rfl) SetL.eq (fil_scal rfl Tryz.sizeOf47 rfl rfl (Nat.le_of_ble_eq_true rfl) SetL.eq (fil_scal rfl Tryz.sizeOf47 rfl rfl (Nat.le_of_ble_eq_true rfl) SetL.eq (fil_scal rfl Tryz.sizeOf47 rfl rfl (Nat.le_of_ble_eq_true rfl) SetL.eq fil_nil))))) ?_))))
  refine s_val rfl (v_build Tryz.underlying139 Tryz.zeroValue139 (sized_cons Tryz.sizeOf47 (sized_cons Tryz.sizeOf47 (sized_cons Tryz.sizeOf47 (sized_cons Tryz.sizeOf47 sized_nil)))) (fil_scal rfl Tryz.sizeOf47 rfl rfl (Nat.le_of_ble_eq_true rfl) SetL.eq (fil_scal rfl Tryz.sizeOf47 rfl rfl (Nat.le_of_ble_eq_true rfl) SetL.eq (fil_scal rfl Tryz.sizeOf47 rfl rfl (Nat.le_of_ble_eq_true rfl) SetL.eq fil_nil)))) ?_
  refine s_do rfl (d_sliceAgg Tryz.underlying43 Tryz.sizeOf139 Tryz.zeroValue139 rfl (elsK_cons rfl rfl (elsK_cons rfl rfl elsK_nil)) rfl (by decide) (by decide) (by decide)) ?_
  rintro _ _ ⟨b1, rfl, rfl⟩
  refine s_do rfl (d_sliceLit Tryz.underlying44 Tryz.sizeOf5 Tryz.zeroValue5 rfl rfl rfl rfl rfl (by decide) (by decide)) ?_
  rintro _ _ ⟨b2, rfl, rfl⟩
  refine s_val rfl (v_build Tryz.underlying49 Tryz.zeroValue49 (sized_cons Tryz.sizeOf43 (sized_cons Tryz.sizeOf44 (sized_cons Tryz.sizeOf45 (sized_cons Tryz.sizeOf46 (sized_cons Tryz.sizeOf47 sized_nil))))) (fil_scal rfl Tryz.sizeOf43 rfl rfl (Nat.le_of_ble_eq_true rfl) SetL.eq (fil_scal rfl Tryz.sizeOf44 rfl rfl (Nat.le_of_ble_eq_true rfl) SetL.eq (fil_scal rfl Tryz.sizeOf47 rfl rfl (Nat.le_of_ble_eq_true rfl) SetL.eq fil_nil)))) ?_
  refine s_do0 (d_storeAll Tryz.sizeOf49 rfl rfl rfl rfl rfl) ?_
  rintro _ _ rfl
  refine x_nil (n_then (x_ret (run_pt (b := b1) (o' := cob [.int .u32 320, .int .u32 8, .int .u32 1, .int .u32 1, .int .u32 384, .int .u32 17, .int .u32 2, .int .u32 0] 139) rfl ?_)))
  refine x_done (.inl rfl) (.cons (r_all Tryz.isAgg49 Tryz.sizeOf49 rfl rfl) .nil) ?_
  exact ⟨_, ⟨b1, b2, rfl, rfl⟩, inferInstance⟩
theorem gok25 {W0 : World} {R : List HP} {b1 b2 : Nat} : GOk (OwnP W0 (h25 b1 b2 R)) (g25 b1 b2) := by
  refine ⟨sla_cells (.inr ⟨b1, rfl⟩) (cells_all (b := b1)) (fun _ => rfl) rfl (by decide), fun d hd => ?_, sla_cells (.inr ⟨b2, rfl⟩) (cells_all (b := b2)) (fun _ => rfl) rfl (by decide), fun x hx => ?_,
    sla_nil, fun x hx => ?_, sla_nil, fun y hy => ?_, by show (1 : Nat) < _; decide, ⟨by show (2 : Nat) < _; decide, by show (1 : Nat) < _; decide, by show (0 : Nat) < _; decide, by show (0 : Nat) < _; decide⟩⟩
  · simp at hd
    rcases hd with rfl | rfl
    · exact ⟨by show (320 : Nat) < _; decide, by show (8 : Nat) < _; decide, by show (1 : Nat) < _; decide, by show (1 : Nat) < _; decide⟩
    · exact ⟨by show (384 : Nat) < _; decide, by show (17 : Nat) < _; decide, by show (2 : Nat) < _; decide, by show (0 : Nat) < _; decide⟩
  · simp at hx; subst hx; decide
  · simp at hx
  · simp at hy
@[reducible] def sb25 (x : List Frm × Nat) (k : Dk) : SbS := ⟨x.1, x.2, q27, k, 0, 0, 0, 0⟩
theorem sb_start {x : List Frm × Nat} {k : Dk} (hM : Mem8 x) (hk : DkOk k) : SbOk 8 r27 (sb25 x k) := ⟨hM.1, hM.2.1, hM.2.2, q27_ok, rfl, hk⟩
theorem bkServe25 (W0 : World) (R : List HP) (bq pv dd ps_ pm : Nat) (who : Int) (x : List Frm × Nat) (hx : Mem8 x) (k : Dk) (hk : DkOk k) :
    Spec Tryz.prog W0 26 [.pointer (some ⟨pv, 0, none⟩), .pointer (some ⟨bq, 0, none⟩), .pointer (some ⟨dd, 0, none⟩), .int .i64 who]
      (pt bq (qO true q27) :: dkH dd k :: vwW pv ps_ pm x.2 x.1 (pg23 8) R)
      (fun v B => ∃ y, y = sbGo (pg23 8) who 4 (sb25 x k) ∧ v = .agg (SbS.v y).toArray ∧ B = pt bq (qO true y.s) :: dkH dd y.x :: vwW pv ps_ pm y.d y.fr (pg23 8) R) :=
  bkServe_spec W0 R bq pv dd ps_ pm (pg23 8) (pg23_ok 8) who x.1 x.2 0 128 192 4 0 0 true 0 k (by decide) r27_ok 8 (sb_start hx hk)
def k25 : Dk := ⟨[(0, 1, 0)], [0], List.replicate 32 z16⟩
theorem dk25 : dkNew [(0, 0, 1)] = some k25 := by
  have h : dnK [(0, 0, 1)] 1 = some ([(0, 1, 0)], [0]) := by decide +kernel
  show (if 8 < 1 then none else (dnK [(0, 0, 1)] 1).map _) = _
  rw [h]; rfl
def aw25Y : SbS := sbGo (pg23 8) 0 4 (sb25 (mk27 (g25 0 0)) (flD k25 0 ⟨#[97]⟩))
theorem aw25 : aw25Y.c = 1 ∧ aw25Y.n = 2 ∧ aw25Y.b = 16 ∧ aw25Y.w = 0 ∧ rdO aw25Y.fr (pg23 8) 384 1 = [97] := by decide +kernel
theorem lb25 : (lbW k25 0).isSome = true := by decide +kernel
theorem awake25_spec (W0 : World) (R : List HP) : Spec Tryz.prog W0 23 [] R (fun v B => v = .bool true ∧ B = R) := by
  refine spec_body Tryz.func23 Tryz.ntmps23 rfl rfl ?_
  refine x_seq (x_region (s_val rfl (v_assign rfl) (x_nil (n_then (x_seq (x_region (s_do rfl (d_call Tryz.call80 rfl (asks25_spec W0 _)) ?_)))))))
  rintro _ B_ ⟨b1, b2, rfl, hB_⟩
  obtain rfl := hB_.symm
  refine s_do rfl (d_call Tryz.call20 rfl (made25_spec W0 _ (g25 b1 b2) gok25 fit27)) ?_
  rintro _ B_ ⟨pv, ps, pm, qv, qs, qm, bq, br, rfl, hB_⟩
  obtain rfl := hB_.symm
  have hM := mk27_ok (g25 b1 b2)
  have hE : mk27 (g25 b1 b2) = mk27 (g25 0 0) := mk27_cong rfl rfl rfl rfl rfl
  rw [hE] at hM ⊢
  obtain ⟨x, hx⟩ : ∃ x, mk27 (g25 0 0) = x := ⟨_, rfl⟩
  have hA := aw25
  rw [aw25Y, hx] at hA
  rw [hx] at hM ⊢
  refine s_val rfl (v_move rfl) (s_val rfl (v_extract rfl rfl) (s_val rfl (v_extract rfl rfl) (s_val rfl (v_extract rfl rfl) (s_val rfl (v_extract rfl rfl) (s_val rfl (v_assign rfl) (s_val rfl (v_assign rfl) (s_val rfl (v_assign rfl) (s_val rfl (v_assign rfl) (x_nil (n_then (x_seq (x_region (s_val rfl (v_build Tryz.underlying151 Tryz.zeroValue151 (sized_cons Tryz.sizeOf3 (sized_cons Tryz.sizeOf3 (sized_cons Tryz.sizeOf3 sized_nil))) (fil_scal rfl Tryz.sizeOf3 rfl rfl (Nat.le_of_ble_eq_true rfl) SetL.eq (fil_scal rfl Tryz.sizeOf3 rfl rfl (Nat.le_of_ble_eq_true rfl) SetL.eq fil_nil))) ?_)))))))))))))
  refine s_do rfl (d_sliceAgg Tryz.underlying23 Tryz.sizeOf151 Tryz.zeroValue151 rfl (elsK_cons rfl rfl elsK_nil) rfl (by decide) (by decide) (by decide)) ?_
  rintro _ _ ⟨bl, rfl, rfl⟩
  refine s_do rfl (d_call Tryz.call21 rfl (dkNew_spec W0 _ (some ⟨bl, 0, none⟩) 1 [(0, 0, 1)] (sla_cells (.inr ⟨bl, rfl⟩) (cells_all (b := bl)) (fun _ => rfl) rfl (by decide)) (by decide))) ?_
  rintro _ B_ ⟨p, Y, rfl, hB_, _, hye⟩
  obtain rfl := hB_.symm
  have hk0 := dkNew_ok dk25
  obtain ⟨d, rfl, rfl⟩ := hye _ dk25
  rw [dk25]
  simp only [List.cons_append, List.nil_append, Option.isSome_some, if_true]
  refine s_val rfl (v_move rfl) (s_val rfl (v_extract rfl rfl) (s_val rfl (v_extract rfl rfl) (s_val rfl (v_assign rfl) (s_val rfl (v_assign rfl) (x_nil (n_then (x_seq (x_seq (x_region (s_val rfl (v_move rfl) (s_val rfl (v_eql_ptr_nil Tryz.underlying51 rfl rfl) (s_val rfl (v_move rfl) ?_))))))))))))
  refine s_or rfl rfl rfl ?_ ?_
  · intro g3_3
    cases g3_3
  · intro g3_3
    refine s_val rfl (v_move rfl) (s_yes rfl rfl (s_val rfl (v_eql_ptr_nil Tryz.underlying57 rfl rfl) (s_val rfl (v_pick_f rfl rfl) (s_val rfl (v_move rfl) ?_))))
    refine s_or rfl rfl rfl ?_ ?_
    · intro g3_7
      cases g3_7
    · intro g3_7
      refine s_val rfl (v_move rfl) (s_yes rfl rfl (s_do rfl (d_call1 Tryz.call24 rfl (dkFill_spec W0 _ d k25 hk0 0 ⟨#[97]⟩)) ?_))
      rintro _ B_ ⟨rfl, hB_⟩
      obtain rfl := hB_.symm
      rw [if_pos lb25]
      have hk1 := flD_ok hk0 0 ⟨#[97]⟩
      refine s_yes rfl rfl (s_val rfl (v_neq rfl rfl) (s_val rfl (v_pick_f rfl rfl) (x_nil (n_then ?_))))
      refine x_if rfl ?_ ?_
      · intro c3
        exact absurd c3 (by decide)
      · intro c3
        refine x_skip (n_then (x_seq (x_region (s_val rfl (v_move rfl) (s_val rfl (v_move rfl) (s_val rfl (v_move rfl) (s_do rfl (d_call5 Tryz.call26 rfl (bkServe25 W0 _ bq pv d ps pm 0 x hM _ hk1)) ?_)))))))
        rintro _ B_ ⟨y, hy, rfl, hB_⟩
        obtain rfl := hB_.symm
        rw [← hy] at hA
        have hyo := sbGo_ok (pg := pg23 8) (who := 0) 4 (sb_start hM hk1)
        rw [← hy] at hyo
        obtain ⟨h1, h2, h3, h4, h5⟩ := hA
        have hv : SbS.v y = [.int .i64 1, .int .i64 2, .int .i64 16, .int .i64 0] := by rw [SbS.v, h1, h2, h3, h4]; rfl
        rw [hv]
        refine s_do rfl (d_allocA Tryz.zeroValue67) ?_
        rintro _ _ ⟨b2, rfl, rfl⟩
        refine s_do0 (d_storeAll Tryz.sizeOf67 rfl rfl rfl rfl rfl) ?_
        rintro _ _ rfl
        refine x_nil (n_then (x_seq (x_region (s_val rfl (v_move rfl) ?_))))
        refine s_do rfl (d_call3 Tryz.call81 rfl (viRead_spec W0 _ pv ps pm y.d y.fr (pg23 8) (pg23_ok 8) hyo.frs 384 (by decide) 1)) ?_
        rintro _ B_ ⟨ar, cr, rfl, hB_⟩
        obtain rfl := hB_.symm
        rw [h5]
        refine s_val rfl (v_move rfl) (s_val rfl (v_extract rfl rfl) (s_val rfl (v_extract rfl rfl) (s_val rfl (v_assign rfl) (s_val rfl (v_assign rfl) (x_nil (n_then (x_seq ?_)))))))
        refine run_form (E := 5) (sz := 1) (a := ar) (c := cr) (n := [97].length) (ys := byV [97]) (fun hf => ?_)
        refine x_region (s_val rfl (v_loadAll Tryz.isAgg67 Tryz.sizeOf67 rfl rfl) ?_)
        refine s_val rfl (v_build Tryz.underlying67 Tryz.zeroValue67 (sized_cons Tryz.sizeOf3 (sized_cons Tryz.sizeOf3 (sized_cons Tryz.sizeOf3 (sized_cons Tryz.sizeOf3 sized_nil)))) (fil_scal rfl Tryz.sizeOf3 rfl rfl (Nat.le_of_ble_eq_true rfl) SetL.eq (fil_scal rfl Tryz.sizeOf3 rfl rfl (Nat.le_of_ble_eq_true rfl) SetL.eq (fil_scal rfl Tryz.sizeOf3 rfl rfl (Nat.le_of_ble_eq_true rfl) SetL.eq fil_nil)))) ?_
        refine s_val rfl (v_eql_agg Tryz.eqGuardType67 rfl rfl (q_struct Tryz.underlying67 Tryz.stoodInHeld67 (qf_scal rfl Tryz.isAgg3 rfl rfl (q_int Tryz.underlying3) (qf_scal rfl Tryz.isAgg3 rfl rfl (q_int Tryz.underlying3) (qf_scal rfl Tryz.isAgg3 rfl rfl (q_int Tryz.underlying3) (qf_scal rfl Tryz.isAgg3 rfl rfl (q_int Tryz.underlying3) qf_nil)))))) ?_
        refine s_val rfl (v_move rfl) ?_
        refine s_and rfl rfl rfl ?_ ?_
        · intro g7_4
          refine s_val rfl (v_move rfl) (s_yes rfl rfl ?_)
          refine s_val rfl (v_bstrSN (bs := [97]) Tryz.underlying44 Tryz.underlying5 Tryz.underlying9 rfl rfl (sla_cells hf (cells_osl (E := 5) (sz := 1) (a := ar) (n := [97].length) (c := cr)) (fun _ => rfl) (byV_fm [97]).symm (by decide))) ?_
          refine s_yes rfl rfl (s_val rfl (v_eql_str rfl rfl) (s_val rfl (v_pick_t rfl rfl) (s_val rfl (v_assign rfl) (x_nil (n_then (x_ret (x_done (.inl rfl) (.cons (r_tmp rfl) .nil) ?_)))))))
          rw [show strB [97] = (⟨#[97]⟩ : ByteArray) from rfl, beq_self_eq_true]
          exact ⟨_, ⟨rfl, rfl⟩, inferInstance⟩
        · intro g7_4
          exact absurd (by decide) g7_4
end Go.Proofs.YtncegikenkpcmaaGreat
namespace Go.Proofs.YtncegikenkpcmaaGreat
open Go.RowKit
set_option linter.unusedSimpArgs false
set_option linter.unusedVariables false
set_option maxRecDepth 20000
theorem frBytes_spec (W0 : World) (R : List HP) (ps : Nat) (fr : List Frm) (hF : Frs fr) (f : Nat) (hf : f < fr.length) :
    Spec Tryz.prog W0 32 [.pointer (some ⟨ps, 0, none⟩), .int .i64 f] (stoH ps fr :: R)
      (fun v B => ∃ a c, v = .tuple #[.slice a 64 c, .int .i64 0] ∧ B = osl 5 1 (.slice a 64 c) (byV (fr.getD f [])) :: stoH ps fr :: R) := by
  have hif : isF fr.length (f : Int) = true := by simp only [isF, decide_eq_true_iff]; omega
  obtain ⟨hl, hb⟩ := hF.get hf
  refine spec_body Tryz.func32 Tryz.ntmps32 rfl rfl ?_
  refine x_seq (x_region (s_val rfl (v_assign rfl) (s_val rfl (v_assign rfl) (x_nil (n_then (x_seq (x_seq (x_region (s_val rfl (v_move rfl) (s_val rfl (v_move rfl) (s_do rfl (d_call1 Tryz.call103 rfl (frMay_spec W0 _ ps fr f)) ?_)))))))))))
  rintro _ B_ ⟨rfl, hB_⟩
  obtain rfl := hB_.symm
  refine s_val rfl (v_assign rfl) (x_nil (n_then (x_seq (x_region (s_val rfl (v_move rfl) (s_val rfl (v_neq rfl rfl) (x_nil (n_then ?_))))))))
  refine x_if rfl ?_ ?_
  · intro c2
    exact absurd c2 (by simp [hif])
  · intro c2
    refine x_skip (n_then (x_seq (x_region ?_)))
    refine s_do rfl (d_make (sz := 1) (by_ := 1) (info := Tryz.t5) Tryz.underlying44 (by kernel_rfl) rfl rfl rfl rfl (by decide) rfl rfl rfl rfl (by decide) (by decide)) ?_
    rintro _ _ ⟨b1, rfl, rfl⟩
    refine s_val rfl (v_assign rfl) (x_nil (n_then (x_seq ?_)))
    refine run_sto (ps := ps) fun g => ?_
    refine x_region (s_val rfl (v_move rfl) (s_val rfl (v_move rfl) (s_val rfl (v_nilCheck rfl) ?_)))
    refine s_val rfl (v_fieldAddr rfl Tryz.underlying194 rfl Tryz.sizeOf192 rfl (by first | exact Nat.zero_add _ | rfl)) ?_
    refine s_val rfl (v_load Tryz.isAgg192 rfl (cell_own rfl)) ?_
    refine s_val rfl (v_move rfl) ?_
    refine s_val rfl (v_idx Tryz.underlying192 Tryz.sizeOf191 rfl rfl rfl hf (by first | exact Nat.zero_add _ | rfl)) ?_
    refine s_val rfl (v_sliceArr Tryz.underlying191 Tryz.sizeOf5 rfl) ?_
    refine s_do rfl (d_copy Tryz.underlying44 Tryz.sizeOf5 rfl rfl (m := 64) (vs := byV (fr.getD f [])) rfl (cells_part (fr_row hF hf) (by rw [byV_len, hl])) (by rw [byV_len, hl]) (byV_one _) (by decide) (by
  have := setR_all (byV (fr.getD f [])) (List.replicate (64 * 1) (.int .u8 0)) [] (by rw [byV_len, hl]; simp)
  simpa using this)) ?_
    rintro _ B_ ⟨rfl, hB_⟩
    obtain rfl := hB_.symm
    refine x_nil (n_then (x_seq (x_region (s_val rfl (v_move rfl) (s_val rfl (v_assign rfl) (s_val rfl (v_assign rfl) (x_nil (n_then (x_ret (x_done (.inl rfl) (.cons (r_tmp rfl) (.cons (r_tmp rfl) .nil)) ?_))))))))))
    exact ⟨_, ⟨some ⟨b1, 0, none⟩, 64, rfl, rfl⟩, (ent_osl0 (k := ent_sto rfl rfl) (by simp only [maxLen]; omega) (by rw [byV_len, hl]))⟩
section
variable {P : Program} {W0 : World} {N : FSz} {K : Act → World → Prop} {e : Env} {A B R R1 R2 R3 : List HP} {qs n : Nat} {fr : List Frm}
theorem run_rstoG [hk : Tk rstoH qs A fr R] {i : Nat} (hi : i < fr.length) (h : ∀ a c vs vi, vs.length = fr.length → vs[i]? = some vi →
      Run W0 N K e (pt qs (cob [.slice a fr.length c] 84) :: osl 44 1 (.slice a fr.length c) vs :: osl 5 1 vi (byV (fr.getD i [])) :: kH 2 (grp (((vs.zip fr).map inH).eraseIdx i)) :: R)) : Run W0 N K e A :=
  run_rstoN (qs := qs) hi fun a c vs vi h1 h2 => run_ent (Ent.cons (Ent.cons (Ent.cons ent_shut))) (h a c vs vi h1 h2)
theorem run_rstoU {i c : Nat} {a : Option Addr} {vs : List Value} {vi : Value} {ys : List Value} [h1 : Tk pt qs A (cob [.slice a n c] 84) R1] [h2 : Tk (osl 44 1) (.slice a n c) R1 vs R2] [h3 : Tk (osl 5 1) vi R2 ys R3]
    [h4 : Tk kH 2 R3 (grp (((vs.zip fr).map inH).eraseIdx i)) R] (hvi : vs[i]? = some vi) (hy : ys = byV (fr.getD i [])) (hv : vs.length = fr.length) (hn : n = fr.length) (hi : i < fr.length) (k : Run W0 N K e (rstoH qs fr :: R)) : Run W0 N K e A := by
  have hset : vs.set i vi = vs := by
    apply List.ext_getElem?
    intro j
    by_cases e : i = j
    · subst e; rw [List.getElem?_set_self (by omega), hvi]
    · rw [List.getElem?_set_ne e]
  have hfs : fr.set i (fr.getD i []) = fr := by
    apply List.ext_getElem?
    intro j
    by_cases e : i = j
    · subst e; rw [List.getElem?_set_self hi]; simp [List.getD, hi]
    · rw [List.getElem?_set_ne e]
  refine run_perm (h1.perm.trans ((h2.perm.trans ((h3.perm.trans (h4.perm.cons _)).cons _)).cons _)) ?_
  have e1 : Ent (pt qs (cob [.slice a n c] 84) :: osl 44 1 (.slice a n c) vs :: osl 5 1 vi ys :: kH 2 (grp (((vs.zip fr).map inH).eraseIdx i)) :: R) (rstoH qs fr :: R) := by
    refine (Ent.cons (Ent.cons (Ent.cons ent_open))).trans ?_
    have := @ent_rstoN (pt qs (cob [.slice a n c] 84) :: osl 44 1 (.slice a n c) vs :: osl 5 1 vi ys :: (((vs.zip fr).map inH).eraseIdx i ++ R)) R _ _ qs n fr a c i vs vi (fr.getD i []) ys R tk_here (by rw [hset]; exact tk_here) tk_here hy hv hn hi ent_refl
    rwa [hfs] at this
  exact run_ent e1 k
theorem run_some {E sz : Nat} {vi : Value} {ys : List Value} [h : Tk (osl E sz) vi A ys R] (hne : ys ≠ []) (k : ∀ g n c, vi = .slice (some ⟨g, 0, none⟩) n c → ys.length = n * sz → Run W0 N K e A) : Run W0 N K e A := fun act w hF hO => by
  rcases (hO.tk (r := osl E sz) (b := vi)).osl with ⟨_, k2, _⟩ | ⟨g, n', cap, sp, k1, _, _, k4, _, _⟩
  · exact absurd k2 hne
  · exact k g n' cap k1 k4 act w hF hO
end
end Go.Proofs.YtncegikenkpcmaaGreat
namespace Go.Proofs.YtncegikenkpcmaaGreat
open Go.RowKit
set_option linter.unusedSimpArgs false
set_option linter.unusedVariables false
set_option maxRecDepth 20000
def flK (k : Dk) (fs : List ByteArray) : Nat → Dk
  | 0 => k
  | i + 1 => flD (flK k fs i) (i : Int) (fs.getD i ByteArray.empty)
theorem flK_ok {k : Dk} (h : DkOk k) (fs : List ByteArray) : ∀ i, DkOk (flK k fs i)
  | 0 => h
  | i + 1 => flD_ok (flK_ok h fs i) _ _
theorem BlkServes_none (W0 : World) (g : Gst) (hg : ∀ A, GOk (OwnP W0 A) g) (ar : Option Addr) (cr : Nat) (rs : List Rn) (hrs : SlB W0 ar 3 rgnV rs) (hrl : rs.length < 9223372036854775808) (hrb : ∀ x ∈ rs, -9223372036854775808 ≤ x.2.1 ∧ x.2.1 < 9223372036854775808)
    (af ag : Option Addr) (cf cg : Nat) (nf ng : Nat) (who : Int) (hk : dkNew rs = none) :
    Spec Tryz.prog W0 4 [.agg (gstV g).toArray, .slice ar rs.length cr, .slice af nf cf, .int .i64 who, .slice ag ng cg] [] (fun v B => v = .bool true ∧ B = []) := by
  refine spec_body Tryz.func4 Tryz.ntmps4 rfl rfl ?_
  refine x_seq (x_region (s_do rfl (d_boxA rfl) ?_))
  rintro _ _ ⟨b3, rfl, rfl⟩
  refine s_val rfl (v_assign rfl) (x_nil (n_then (x_seq (x_region (s_val rfl (v_loadAll Tryz.isAgg49 Tryz.sizeOf49 rfl rfl) ?_)))))
  refine s_do rfl (d_call Tryz.call20 rfl (made25_spec W0 _ g (hg _) fit27)) ?_
  rintro _ B_ ⟨pv, ps, pm, qv, qs, qm, bq, br, rfl, hB_⟩
  obtain rfl := hB_.symm
  refine s_val rfl (v_move rfl) (s_val rfl (v_extract rfl rfl) (s_val rfl (v_extract rfl rfl) (s_val rfl (v_extract rfl rfl) (s_val rfl (v_extract rfl rfl) (s_val rfl (v_assign rfl) (s_val rfl (v_assign rfl) (s_val rfl (v_assign rfl) (s_val rfl (v_assign rfl) (x_nil (n_then (x_seq (x_seq (x_region (s_val rfl (v_move rfl) (s_val rfl (v_eql_ptr_nil Tryz.underlying51 rfl rfl) (s_val rfl (v_move rfl) ?_))))))))))))))))
  refine s_or rfl rfl rfl ?_ ?_
  · intro g2_3
    cases g2_3
  · intro g2_3
    refine s_val rfl (v_move rfl) (s_yes rfl rfl (s_val rfl (v_eql_ptr_nil Tryz.underlying53 rfl rfl) (s_val rfl (v_pick_f rfl rfl) (x_nil (n_then ?_)))))
    refine x_if rfl ?_ ?_
    · intro c2
      cases c2
    · intro c2
      refine x_skip (n_then (x_seq (x_region (s_val rfl (v_move rfl) (s_do rfl (d_call Tryz.call21 rfl (dkNew_spec W0 _ ar cr rs (sla_base hrs) hrl)) ?_)))))
      rintro _ B_ ⟨p1, Y1, rfl, hB_, hno, _⟩
      obtain rfl := hB_.symm
      obtain ⟨rfl, rfl⟩ := hno hk
      rw [hk]
      simp only [List.nil_append]
      refine s_val rfl (v_move rfl) (s_val rfl (v_extract rfl rfl) (s_val rfl (v_extract rfl rfl) (s_val rfl (v_assign rfl) (s_val rfl (v_assign rfl) (x_nil (n_then (x_seq (x_region (s_val rfl (v_move rfl) (s_do rfl (d_call Tryz.call22 rfl (rdNew_spec W0 _ ar cr rs (sla_base hrs) hrl hrb)) ?_))))))))))
      rintro _ B_ ⟨p2, Y2, rfl, hB_, hno, _⟩
      obtain rfl := hB_.symm
      obtain ⟨rfl, rfl⟩ := hno hk
      rw [hk]
      simp only [List.nil_append]
      refine s_val rfl (v_move rfl) (s_val rfl (v_extract rfl rfl) (s_val rfl (v_extract rfl rfl) (s_val rfl (v_assign rfl) (s_val rfl (v_assign rfl) (x_nil (n_then (x_seq (x_seq (x_region (s_val rfl (v_move rfl) (s_val rfl (v_move rfl) (s_val rfl (v_neq rfl rfl) (x_nil (n_then ?_))))))))))))))
      refine x_if rfl ?_ ?_
      · intro c6
        exact absurd rfl c6
      · intro c6
        refine x_skip (n_then (x_seq (x_seq (x_region (s_val rfl (v_move rfl) (s_val rfl (v_neq rfl rfl) (x_nil (n_then ?_))))))))
        refine x_if rfl ?_ ?_
        · intro c8
          refine x_seq (x_region (s_do rfl (d_call Tryz.call23 rfl (awake25_spec W0 _)) ?_))
          rintro _ B_ ⟨rfl, hB_⟩
          obtain rfl := hB_.symm
          refine s_val rfl (v_assign rfl) (x_nil (n_then (x_ret (r_then (x_done (.inl rfl) (.cons (r_tmp rfl) .nil) ?_)))))
          exact ⟨_, ⟨rfl, rfl⟩, inferInstance⟩
        · intro c8
          exact absurd (by decide) c8
theorem BlkServes_some (W0 : World) (g : Gst) (hg : ∀ A, GOk (OwnP W0 A) g) (ar : Option Addr) (cr : Nat) (rs : List Rn) (hrs : SlB W0 ar 3 rgnV rs) (hrl : rs.length < 9223372036854775808) (hrb : ∀ x ∈ rs, -9223372036854775808 ≤ x.2.1 ∧ x.2.1 < 9223372036854775808)
    (af : Option Addr) (cf : Nat) (fs : List ByteArray) (hfs : SlB W0 af 1 (fun s => [sV s]) fs) (hfl : fs.length < 9223372036854775808) (hfz : ∀ s ∈ fs, s.size < 9223372036854775808) (who : Int)
    (ag : Option Addr) (cg : Nat) (ags : List Nat) (hag : SlB W0 ag 1 (fun x => [wV x]) ags) (hab : ∀ x ∈ ags, x < 4294967296) (hagl : ags.length < 9223372036854775808) (k0 : Dk) (hk : dkNew rs = some k0) :
    Spec Tryz.prog W0 4 [.agg (gstV g).toArray, .slice ar rs.length cr, .slice af fs.length cf, .int .i64 who, .slice ag ags.length cg] [] (fun v B => v = .bool true ∧ B = []) := by
  have hP := pg23_ok 8
  have hk0 := dkNew_ok hk
  refine spec_body Tryz.func4 Tryz.ntmps4 rfl rfl ?_
  refine x_seq (x_region (s_do rfl (d_boxA rfl) ?_))
  rintro _ _ ⟨b3, rfl, rfl⟩
  refine s_val rfl (v_assign rfl) (x_nil (n_then (x_seq (x_region (s_val rfl (v_loadAll Tryz.isAgg49 Tryz.sizeOf49 rfl rfl) ?_)))))
  refine s_do rfl (d_call Tryz.call20 rfl (made25_spec W0 _ g (hg _) fit27)) ?_
  rintro _ B_ ⟨pv, ps, pm, qv, qs, qm, bq, br, rfl, hB_⟩
  obtain rfl := hB_.symm
  have hM := mk27_ok g
  generalize mk27 g = x at hM ⊢
  obtain ⟨f0, d0⟩ := x
  obtain ⟨hM1, hM2, hM3⟩ := hM
  dsimp only at hM1 hM2 hM3 ⊢
  refine s_val rfl (v_move rfl) (s_val rfl (v_extract rfl rfl) (s_val rfl (v_extract rfl rfl) (s_val rfl (v_extract rfl rfl) (s_val rfl (v_extract rfl rfl) (s_val rfl (v_assign rfl) (s_val rfl (v_assign rfl) (s_val rfl (v_assign rfl) (s_val rfl (v_assign rfl) (x_nil (n_then (x_seq (x_seq (x_region (s_val rfl (v_move rfl) (s_val rfl (v_eql_ptr_nil Tryz.underlying51 rfl rfl) (s_val rfl (v_move rfl) ?_))))))))))))))))
  refine s_or rfl rfl rfl ?_ ?_
  · intro g2_3
    cases g2_3
  · intro g2_3
    refine s_val rfl (v_move rfl) (s_yes rfl rfl (s_val rfl (v_eql_ptr_nil Tryz.underlying53 rfl rfl) (s_val rfl (v_pick_f rfl rfl) (x_nil (n_then ?_)))))
    refine x_if rfl ?_ ?_
    · intro c2
      cases c2
    · intro c2
      refine x_skip (n_then (x_seq (x_region (s_val rfl (v_move rfl) (s_do rfl (d_call Tryz.call21 rfl (dkNew_spec W0 _ ar cr rs (sla_base hrs) hrl)) ?_)))))
      rintro _ B_ ⟨p1, Y1, rfl, hB_, _, hye⟩
      obtain rfl := hB_.symm
      obtain ⟨dd, rfl, rfl⟩ := hye _ hk
      rw [hk]
      simp only [List.cons_append, List.nil_append, Option.isSome_some, if_true]
      refine s_val rfl (v_move rfl) (s_val rfl (v_extract rfl rfl) (s_val rfl (v_extract rfl rfl) (s_val rfl (v_assign rfl) (s_val rfl (v_assign rfl) (x_nil (n_then (x_seq (x_region (s_val rfl (v_move rfl) (s_do rfl (d_call Tryz.call22 rfl (rdNew_spec W0 _ ar cr rs (sla_base hrs) hrl hrb)) ?_))))))))))
      rintro _ B_ ⟨p2, Y2, rfl, hB_, _, hye⟩
      obtain rfl := hB_.symm
      obtain ⟨rd, rfl, rfl⟩ := hye _ hk
      rw [hk]
      simp only [List.cons_append, List.nil_append, Option.isSome_some, if_true]
      refine s_val rfl (v_move rfl) (s_val rfl (v_extract rfl rfl) (s_val rfl (v_extract rfl rfl) (s_val rfl (v_assign rfl) (s_val rfl (v_assign rfl) (x_nil (n_then (x_seq (x_seq (x_region (s_val rfl (v_move rfl) (s_val rfl (v_move rfl) (s_val rfl (v_neq rfl rfl) (x_nil (n_then ?_))))))))))))))
      refine x_if rfl ?_ ?_
      · intro c6
        exact absurd rfl c6
      · intro c6
        refine x_skip (n_then (x_seq (x_seq (x_region (s_val rfl (v_move rfl) (s_val rfl (v_neq rfl rfl) (x_nil (n_then ?_))))))))
        refine x_if rfl ?_ ?_
        · intro c8
          exact absurd rfl c8
        · intro c8
          refine x_skip (n_then ?_)
          refine x_cut (fun q : Dk => DkOk q) (fun _ => [(3, .int .i64 who), (4, .slice ag ags.length cg), (11, .pointer (some ⟨pv, 0, none⟩)), (12, .pointer (some ⟨bq, 0, none⟩)), (13, .pointer (some ⟨qv, 0, none⟩)), (14, .pointer (some ⟨br, 0, none⟩)), (15, .pointer (some ⟨dd, 0, none⟩)), (17, .pointer (some ⟨rd, 0, none⟩))]) (fun q => pt bq (qO true q27) :: pt br (rqO q27) :: dkH dd q :: rdkH rd q :: prH pv ps pm qv qs qm d0 f0 (pg23 8) []) ?_ ?_
          · skip
            refine x_seq (x_region (s_val rfl (v_assign rfl) (x_nil (n_then (x_block ?_)))))
            refine x_loop (fun i : Nat => i ≤ fs.length) (fun i => [(2, .slice af fs.length cf), (3, .int .i64 who), (4, .slice ag ags.length cg), (11, .pointer (some ⟨pv, 0, none⟩)), (12, .pointer (some ⟨bq, 0, none⟩)), (13, .pointer (some ⟨qv, 0, none⟩)), (14, .pointer (some ⟨br, 0, none⟩)), (15, .pointer (some ⟨dd, 0, none⟩)), (17, .pointer (some ⟨rd, 0, none⟩)), (19, .int .i64 i)]) (fun i => pt bq (qO true q27) :: pt br (rqO q27) :: dkH dd (flK k0 fs i) :: rdkH rd (flK k0 fs i) :: prH pv ps pm qv qs qm d0 f0 (pg23 8) []) (fun i => 32 - i) 0 ?_ ?_ ?_ ?_
            · exact Nat.zero_le _
            · repeat (first | exact sub_nil | refine sub_cons rfl ?_)
            · simp only [flK]; exact inferInstance
            · intro i hi
              have hKi := flK_ok hk0 fs i
              refine x_seq (x_seq (x_region (s_val rfl (v_move rfl) (s_val rfl (v_move rfl) (s_val rfl (v_len_slice Tryz.underlying50 rfl) (s_val rfl (v_lss rfl rfl) (s_val rfl (v_move rfl) ?_)))))))
              refine s_and rfl rfl rfl ?_ ?_
              · intro g11_5
                refine s_val rfl (v_move rfl) (s_yes rfl rfl (s_val rfl (v_lss rfl rfl) (s_val rfl (v_pick_t rfl rfl) (x_nil (n_then ?_)))))
                refine x_if rfl ?_ ?_
                · intro c11
                  refine x_skip (n_then (x_seq (x_block (x_seq ?_))))
                  have hi1 : i < fs.length := by omega
                  obtain ⟨gp, op, rfl, hcp⟩ := hfs i fs[i] (by simp [hi1])
                  have hgd : fs.getD i ByteArray.empty = fs[i] := by simp [List.getD, hi1]
                  refine x_region (s_val rfl (v_move rfl) (s_val rfl (v_move rfl) (s_val rfl (v_move rfl) (s_val rfl (v_move rfl) ?_))))
                  refine s_val rfl (v_idx Tryz.underlying50 Tryz.sizeOf9 rfl rfl rfl hi1 (by first | exact Nat.zero_add _ | rfl)) ?_
                  refine s_val rfl (v_load Tryz.isAgg9 rfl (Cells.weak (hcp []) 0 _ rfl)) ?_
                  refine s_do rfl (d_call1 Tryz.call24 rfl (dkFill_spec W0 _ dd (flK k0 fs i) hKi (i : Int) fs[i])) ?_
                  rintro _ B_ ⟨rfl, hB_⟩
                  obtain rfl := hB_.symm
                  refine x_nil (n_then (x_region (s_val rfl (v_move rfl) (s_val rfl (v_move rfl) (s_val rfl (v_move rfl) (s_val rfl (v_move rfl) ?_))))))
                  refine s_val rfl (v_idx Tryz.underlying50 Tryz.sizeOf9 rfl rfl rfl hi1 (by first | exact Nat.zero_add _ | rfl)) ?_
                  refine s_val rfl (v_load Tryz.isAgg9 rfl (Cells.weak (hcp []) 0 _ rfl)) ?_
                  refine s_do rfl (d_call1 Tryz.call25 rfl (rdFill_spec W0 _ rd (flK k0 fs i) hKi (i : Int) fs[i] (hfz _ (List.getElem_mem hi1)))) ?_
                  rintro _ B_ ⟨rfl, hB_⟩
                  obtain rfl := hB_.symm
                  refine x_nil (n_block (n_then (x_region (s_val rfl (v_move rfl) ?_))))
                  refine s_val rfl (v_add rfl rfl (by first | exact w64 (by omega) | rfl)) ?_
                  refine s_val rfl (v_assign rfl) (x_nil (n_then ?_))
                  refine inv_intro (i + 1) ?_ ?_ ?_ ?_
                  · omega
                  · omega
                  · repeat (first | exact sub_nil | refine sub_cons rfl ?_)
                  · simp only [flK, hgd]; exact inferInstance
                · intro c11
                  refine x_exit (e_then (e_then (e_block (n_then ?_))))
                  refine mid_intro (flK k0 fs i) ?_ ?_ ?_
                  · exact hKi
                  · repeat (first | exact sub_nil | refine sub_cons rfl ?_)
                  · exact inferInstance
              · intro g11_5
                refine s_no rfl rfl rfl rfl (s_val rfl (v_pick_f rfl rfl) (x_nil (n_then (x_iff rfl (x_exit (e_then (e_then (e_block (n_then ?_)))))))))
                refine mid_intro (flK k0 fs i) ?_ ?_ ?_
                · exact hKi
                · repeat (first | exact sub_nil | refine sub_cons rfl ?_)
                · exact inferInstance
          · intro q hq
            refine x_seq (x_seq (x_region (s_val rfl (v_assign rfl) (x_nil (n_then (x_block ?_))))))
            refine x_loop (fun X : Nat × SbS => X.1 ≤ ags.length + 1 ∧ SbOk 8 r27 X.2) (fun X => [(3, .int .i64 who), (4, .slice ag ags.length cg), (11, .pointer (some ⟨pv, 0, none⟩)), (12, .pointer (some ⟨bq, 0, none⟩)), (13, .pointer (some ⟨qv, 0, none⟩)), (14, .pointer (some ⟨br, 0, none⟩)), (15, .pointer (some ⟨dd, 0, none⟩)), (17, .pointer (some ⟨rd, 0, none⟩)), (20, .int .i64 X.1)]) (fun X => pt bq (qO true X.2.s) :: pt br (rqO X.2.s) :: dkH dd X.2.x :: rdkH rd X.2.x :: prH pv ps pm qv qs qm X.2.d X.2.fr (pg23 8) []) (fun X => 5 - X.1) (0, ⟨f0, d0, q27, q, 0, 0, 0, 0⟩) ?_ ?_ ?_ ?_
            · exact ⟨Nat.zero_le _, ⟨hM1, hM2, hM3, q27_ok, rfl, hq⟩⟩
            · repeat (first | exact sub_nil | refine sub_cons rfl ?_)
            · exact inferInstance
            · intro ⟨k, x⟩ ⟨hk, hok1⟩
              dsimp only at hk hok1 ⊢
              obtain ⟨fx, dx, ⟨⟨qd, qa, qu, qn⟩, qon, qbr, qlast, qput⟩, kx, cx, nx, bx, wx⟩ := x
              obtain ⟨hF, hlen, hd, hs, hsr, hkx⟩ := hok1
              dsimp only at hF hlen hd hs hsr hkx ⊢
              cases hsr
              have hx0 : SbOk 8 ⟨0, 128, 192, ((4 : Nat) : Int)⟩ ⟨fx, dx, ⟨⟨0, 128, 192, ((4 : Nat) : Int)⟩, qon, qbr, qlast, qput⟩, kx, 0, 0, 0, 0⟩ := ⟨hF, hlen, hd, hs, rfl, hkx⟩
              have hyT := sbGo_ok (pg := pg23 8) (who := who) 4 hx0
              refine x_seq (x_seq (x_region (s_val rfl (v_move rfl) (s_val rfl (v_move rfl) (s_val rfl (v_len_slice Tryz.underlying45 rfl) (s_val rfl (v_leq rfl rfl) (s_val rfl (v_move rfl) ?_)))))))
              refine s_and rfl rfl rfl ?_ ?_
              · intro g16_5
                refine s_val rfl (v_move rfl) (s_yes rfl rfl (s_val rfl (v_leq rfl rfl) (s_val rfl (v_pick_t rfl rfl) (x_nil (n_then ?_)))))
                refine x_if rfl ?_ ?_
                · intro c16
                  refine x_skip (n_then ?_)
                  refine x_cut (fun z : SbS => SbOk 8 ⟨0, 128, 192, ((4 : Nat) : Int)⟩ z) (fun _ => [(3, .int .i64 who), (4, .slice ag ags.length cg), (11, .pointer (some ⟨pv, 0, none⟩)), (12, .pointer (some ⟨bq, 0, none⟩)), (13, .pointer (some ⟨qv, 0, none⟩)), (14, .pointer (some ⟨br, 0, none⟩)), (15, .pointer (some ⟨dd, 0, none⟩)), (17, .pointer (some ⟨rd, 0, none⟩)), (20, .int .i64 k)]) (fun z => pt bq (qO true z.s) :: pt br (rqO z.s) :: dkH dd z.x :: rdkH rd z.x :: prH pv ps pm qv qs qm z.d z.fr (pg23 8) []) ?_ ?_
                  · skip
                    refine x_block ?_
                    refine x_cut (fun y : SbS => SbOk 8 ⟨0, 128, 192, ((4 : Nat) : Int)⟩ y) (fun _ => [(3, .int .i64 who), (4, .slice ag ags.length cg), (11, .pointer (some ⟨pv, 0, none⟩)), (12, .pointer (some ⟨bq, 0, none⟩)), (13, .pointer (some ⟨qv, 0, none⟩)), (14, .pointer (some ⟨br, 0, none⟩)), (15, .pointer (some ⟨dd, 0, none⟩)), (17, .pointer (some ⟨rd, 0, none⟩)), (20, .int .i64 k)]) (fun y => pt bq (qO true y.s) :: pt br (rqO y.s) :: dkH dd y.x :: rdkH rd y.x :: prH pv ps pm qv qs qm y.d y.fr (pg23 8) []) ?_ ?_
                    · skip
                      refine x_seq ?_
                      refine x_draw [] 20 mixed rfl sc_end (fun hS => ?_)
                      refine d_take 0 rfl rfl (by kernel_rfl) (by kernel_rfl) (by kernel_rfl) rfl hS (v_move rfl) ?_
                      refine d_take 1 rfl rfl (by kernel_rfl) (by kernel_rfl) (by kernel_rfl) rfl hS (v_move rfl) ?_
                      refine d_take 2 rfl rfl (by kernel_rfl) (by kernel_rfl) (by kernel_rfl) rfl hS (v_move rfl) ?_
                      refine d_take 3 rfl rfl (by kernel_rfl) (by kernel_rfl) (by kernel_rfl) rfl hS (v_move rfl) ?_
                      refine d_take 5 rfl rfl (by kernel_rfl) (by kernel_rfl) (by kernel_rfl) rfl hS (v_move rfl) ?_
                      refine d_take 6 rfl rfl (by kernel_rfl) (by kernel_rfl) (by kernel_rfl) rfl hS (v_move rfl) ?_
                      refine d_take 7 rfl rfl (by kernel_rfl) (by kernel_rfl) (by kernel_rfl) rfl hS (v_move rfl) ?_
                      refine d_take 8 rfl rfl (by kernel_rfl) (by kernel_rfl) (by kernel_rfl) rfl hS (v_move rfl) ?_
                      refine d_one 4 (by kernel_rfl) rfl rfl (d_call5 Tryz.call26 rfl (bkServe_spec W0 _ bq pv dd ps pm (pg23 8) hP who fx dx 0 128 192 4 qlast qput qon qbr kx (by decide) r27_ok 8 hx0)) rfl ?_; clear hS
                      rintro _ B_ ⟨y, hy, rfl, hB_⟩
                      obtain rfl := hB_.symm
                      rw [← hy] at hyT
                      refine ⟨sc_end, fun hS => ?_⟩
                      refine d_one 9 (by kernel_rfl) rfl rfl (d_call5 Tryz.call27 rfl (rbServe_spec W0 _ br rd qv qs qm (pg23 8) hP who ⟨fx, dx, ⟨⟨0, 128, 192, ((4 : Nat) : Int)⟩, qon, qbr, qlast, qput⟩, kx, 0, 0, 0, 0⟩ 4 8 0 128 192 (by decide) r27_ok hx0 ⟨rfl, rfl, rfl, rfl⟩)) rfl ?_; clear hS
                      rintro _ B_ ⟨y2, hy2, rfl, hB_⟩
                      obtain rfl := hB_.symm
                      obtain rfl : y2 = y := hy2.trans hy.symm
                      refine ⟨sc_end, fun hS => ?_⟩
                      refine d_take 10 rfl rfl (by kernel_rfl) (by kernel_rfl) (by kernel_rfl) rfl hS (v_neq_agg Tryz.eqGuardType67 rfl rfl (q_struct Tryz.underlying67 Tryz.stoodInHeld67 (qf_scal rfl Tryz.isAgg3 rfl rfl (q_int Tryz.underlying3) (qf_scal rfl Tryz.isAgg3 rfl rfl (q_int Tryz.underlying3) (qf_scal rfl Tryz.isAgg3 rfl rfl (q_int Tryz.underlying3) (qf_scal rfl Tryz.isAgg3 rfl rfl (q_int Tryz.underlying3) qf_nil)))))) ?_
                      refine d_take 11 rfl rfl (by kernel_rfl) (by kernel_rfl) (by kernel_rfl) rfl hS (v_move rfl) ?_
                      refine x_split (t := 103) rfl ?_ ?_
                      · intro g18_12
                        first | exact absurd rfl g18_12 | exact absurd (by simp) g18_12
                      · intro g18_12
                        refine d_take 12 rfl rfl (by kernel_rfl) (by kernel_rfl) (by kernel_rfl) rfl hS (v_move rfl) ?_
                        refine d_take 14 rfl rfl (by kernel_rfl) (by kernel_rfl) (by kernel_rfl) rfl hS (v_move rfl) ?_
                        refine d_take 15 rfl rfl (by kernel_rfl) (by kernel_rfl) (by kernel_rfl) rfl hS (v_nilCheck rfl) ?_
                        refine d_take 16 rfl rfl (by kernel_rfl) (by kernel_rfl) (by kernel_rfl) rfl hS (v_fieldAddr rfl Tryz.underlying76 rfl Tryz.sizeOf73 rfl (by first | exact Nat.zero_add _ | rfl)) ?_
                        refine d_all (is := [13, 17]) (by kernel_rfl) rfl ⟨?_, ?_, trivial⟩
                        · skip
                          refine dx_one rfl rfl (d_call1 Tryz.call28 rfl (qState_spec W0 _ bq _)) rfl ?_; clear hS
                          rintro _ B_ ⟨rfl, hB_⟩
                          obtain rfl := hB_.symm
                          refine ⟨sc_end, fun hS => ?_⟩
                          refine d_one 17 (by kernel_rfl) rfl rfl (d_val (v_loadAll Tryz.isAgg73 Tryz.sizeOf73 rfl rfl)) rfl ?_; clear hS
                          rintro _ _ ⟨rfl, rfl⟩
                          refine ⟨sc_end, fun hS => ?_⟩
                          refine d_take 18 rfl rfl (by kernel_rfl) (by kernel_rfl) (by kernel_rfl) rfl hS (v_neq_agg Tryz.eqGuardType73 rfl rfl (q_struct Tryz.underlying73 Tryz.stoodInHeld73 (qf_gen rfl (part_agg Tryz.isAgg71 Tryz.sizeOf71 TakeL.eq) (part_agg Tryz.isAgg71 Tryz.sizeOf71 TakeL.eq) (q_struct Tryz.underlying71 Tryz.stoodInHeld71 (qf_scal rfl Tryz.isAgg47 rfl rfl (q_int Tryz.underlying47) (qf_scal rfl Tryz.isAgg47 rfl rfl (q_int Tryz.underlying47) (qf_scal rfl Tryz.isAgg47 rfl rfl (q_int Tryz.underlying47) (qf_scal rfl Tryz.isAgg3 rfl rfl (q_int Tryz.underlying3) qf_nil))))) (qf_scal rfl Tryz.isAgg4 rfl rfl (q_bool Tryz.underlying4) (qf_scal rfl Tryz.isAgg3 rfl rfl (q_int Tryz.underlying3) (qf_scal rfl Tryz.isAgg3 rfl rfl (q_int Tryz.underlying3) (qf_scal rfl Tryz.isAgg3 rfl rfl (q_int Tryz.underlying3) qf_nil))))))) ?_
                          refine d_take 19 rfl rfl (by kernel_rfl) (by kernel_rfl) (by kernel_rfl) rfl hS (v_pick_f rfl rfl) ?_
                          refine d_done (by kernel_rfl) ?_; clear hS
                          refine n_then ?_
                          refine x_if rfl ?_ ?_
                          · intro c18
                            first | exact absurd rfl c18 | exact absurd (by simp) c18
                          · intro c18
                            refine x_skip (n_then ?_)
                            refine mid_intro y2 ?_ ?_ ?_
                            · exact hyT
                            · repeat (first | exact sub_nil | refine sub_cons rfl ?_)
                            · exact inferInstance
                        · skip
                          refine dx_one rfl rfl (d_val (v_loadAll Tryz.isAgg73 Tryz.sizeOf73 rfl rfl)) rfl ?_; clear hS
                          rintro _ _ ⟨rfl, rfl⟩
                          refine ⟨sc_end, fun hS => ?_⟩
                          refine d_one 13 (by kernel_rfl) rfl rfl (d_call1 Tryz.call28 rfl (qState_spec W0 _ bq _)) rfl ?_; clear hS
                          rintro _ B_ ⟨rfl, hB_⟩
                          obtain rfl := hB_.symm
                          refine ⟨sc_end, fun hS => ?_⟩
                          refine d_take 18 rfl rfl (by kernel_rfl) (by kernel_rfl) (by kernel_rfl) rfl hS (v_neq_agg Tryz.eqGuardType73 rfl rfl (q_struct Tryz.underlying73 Tryz.stoodInHeld73 (qf_gen rfl (part_agg Tryz.isAgg71 Tryz.sizeOf71 TakeL.eq) (part_agg Tryz.isAgg71 Tryz.sizeOf71 TakeL.eq) (q_struct Tryz.underlying71 Tryz.stoodInHeld71 (qf_scal rfl Tryz.isAgg47 rfl rfl (q_int Tryz.underlying47) (qf_scal rfl Tryz.isAgg47 rfl rfl (q_int Tryz.underlying47) (qf_scal rfl Tryz.isAgg47 rfl rfl (q_int Tryz.underlying47) (qf_scal rfl Tryz.isAgg3 rfl rfl (q_int Tryz.underlying3) qf_nil))))) (qf_scal rfl Tryz.isAgg4 rfl rfl (q_bool Tryz.underlying4) (qf_scal rfl Tryz.isAgg3 rfl rfl (q_int Tryz.underlying3) (qf_scal rfl Tryz.isAgg3 rfl rfl (q_int Tryz.underlying3) (qf_scal rfl Tryz.isAgg3 rfl rfl (q_int Tryz.underlying3) qf_nil))))))) ?_
                          refine d_take 19 rfl rfl (by kernel_rfl) (by kernel_rfl) (by kernel_rfl) rfl hS (v_pick_f rfl rfl) ?_
                          refine d_done (by kernel_rfl) ?_; clear hS
                          refine n_then ?_
                          refine x_if rfl ?_ ?_
                          · intro c18
                            first | exact absurd rfl c18 | exact absurd (by simp) c18
                          · intro c18
                            refine x_skip (n_then ?_)
                            refine mid_intro y2 ?_ ?_ ?_
                            · exact hyT
                            · repeat (first | exact sub_nil | refine sub_cons rfl ?_)
                            · exact inferInstance
                    · intro y hyo
                      refine x_seq (x_seq ?_)
                      obtain ⟨fg, dg, sg, pz, cy, ny, wb, wy⟩ := y
                      obtain ⟨hG, hGl, hGd, hGs, hGr, hGp⟩ := hyo
                      dsimp only at hG hGl hGd hGs hGr hGp ⊢
                      refine x_region (s_val rfl (v_assign rfl) (x_nil (n_then (x_block ?_))))
                      refine x_loop (fun i : Nat => i ≤ 32) (fun i => [(3, .int .i64 who), (4, .slice ag ags.length cg), (11, .pointer (some ⟨pv, 0, none⟩)), (12, .pointer (some ⟨bq, 0, none⟩)), (13, .pointer (some ⟨qv, 0, none⟩)), (14, .pointer (some ⟨br, 0, none⟩)), (15, .pointer (some ⟨dd, 0, none⟩)), (17, .pointer (some ⟨rd, 0, none⟩)), (20, .int .i64 k), (21, .int .i64 i)]) (fun i => dkH dd pz :: rdkH rd pz :: prH pv ps pm qv qs qm dg fg (pg23 8) (pt bq (qO true sg) :: pt br (rqO sg) :: [])) (fun i => 32 - i) 0 ?_ ?_ ?_ ?_
                      · exact Nat.zero_le _
                      · repeat (first | exact sub_nil | refine sub_cons rfl ?_)
                      · exact inferInstance
                      · intro i hi
                        refine x_seq (x_seq (x_region (s_val rfl (v_move rfl) (s_val rfl (v_lss rfl rfl) (x_nil (n_then ?_))))))
                        refine x_if rfl ?_ ?_
                        · intro c21
                          refine x_skip (n_then (x_seq (x_block (x_seq (x_region (s_val rfl (v_move rfl) (s_val rfl (v_move rfl) ?_)))))))
                          refine s_do rfl (d_call1 Tryz.call29 rfl (dkBytes_spec W0 _ dd pz hGp i (by omega))) ?_
                          rintro _ B_ ⟨bb, rfl, hB_⟩
                          obtain rfl := hB_.symm
                          have hsec := hGp.sec i
                          refine s_val rfl (v_move rfl) (s_val rfl (v_extract rfl rfl) (s_val rfl (v_extract rfl rfl) (s_val rfl (v_assign rfl) (s_val rfl (v_assign rfl) (x_nil (n_then (x_seq (x_region (s_val rfl (v_move rfl) (s_val rfl (v_move rfl) ?_))))))))))
                          refine s_do rfl (d_call1 Tryz.call30 rfl (rdBytes_spec W0 _ rd pz hGp i (by omega))) ?_
                          rintro _ B_ ⟨aw, cw, rfl, hB_⟩
                          obtain rfl := hB_.symm
                          refine run_form (E := 5) (sz := 1) (a := aw) (c := cw) (n := 16) (fun hf => ?_)
                          refine s_val rfl (v_move rfl) (s_val rfl (v_extract rfl rfl) (s_val rfl (v_extract rfl rfl) (s_val rfl (v_assign rfl) (s_val rfl (v_assign rfl) (x_nil (n_then (x_seq (x_region (s_val rfl (v_move rfl) ?_)))))))))
                          refine s_val rfl (v_bstrSN (bs := secD pz.ss i) Tryz.underlying44 Tryz.underlying5 Tryz.underlying9 rfl hsec.1 (sla_cells (.inr ⟨bb, rfl⟩) (cells_osl (E := 5) (sz := 1) (a := some ⟨bb, 0, none⟩) (n := 16) (c := 16)) (fun _ => rfl) (byV_fm _).symm (by decide))) ?_
                          refine s_val rfl (v_move rfl) ?_
                          refine s_val rfl (v_bstrSN (bs := secD pz.ss i) Tryz.underlying44 Tryz.underlying5 Tryz.underlying9 rfl hsec.1 (sla_cells hf (cells_osl (E := 5) (sz := 1) (a := aw) (n := 16) (c := cw)) (fun _ => rfl) (byV_fm _).symm (by decide))) ?_
                          refine s_val rfl (v_neq_str rfl rfl) (x_nil (n_then ?_))
                          refine x_if rfl ?_ ?_
                          · intro c25
                            exact absurd (by simp) c25
                          · intro c25
                            refine x_skip (n_block (n_then (x_region (s_val rfl (v_move rfl) ?_))))
                            refine s_val rfl (v_add rfl rfl (by first | exact w64 (by omega) | rfl)) ?_
                            refine s_val rfl (v_assign rfl) (x_nil (n_then ?_))
                            refine inv_intro (i + 1) ?_ ?_ ?_ ?_
                            · omega
                            · omega
                            · repeat (first | exact sub_nil | refine sub_cons rfl ?_)
                            · exact inferInstance
                        · intro c21
                          refine x_exit (e_then (e_then (e_block (n_then (x_seq (x_seq (x_region (s_val rfl (v_assign rfl) (x_nil (n_then (x_block ?_)))))))))))
                          refine x_loop (fun i : Nat => i ≤ 8) (fun i => [(3, .int .i64 who), (4, .slice ag ags.length cg), (11, .pointer (some ⟨pv, 0, none⟩)), (12, .pointer (some ⟨bq, 0, none⟩)), (13, .pointer (some ⟨qv, 0, none⟩)), (14, .pointer (some ⟨br, 0, none⟩)), (15, .pointer (some ⟨dd, 0, none⟩)), (17, .pointer (some ⟨rd, 0, none⟩)), (20, .int .i64 k), (26, .int .i64 i)]) (fun i => prH pv ps pm qv qs qm dg fg (pg23 8) (pt bq (qO true sg) :: pt br (rqO sg) :: dkH dd pz :: rdkH rd pz :: [])) (fun i => 8 - i) 0 ?_ ?_ ?_ ?_
                          · exact Nat.zero_le _
                          · repeat (first | exact sub_nil | refine sub_cons rfl ?_)
                          · exact inferInstance
                          · intro i hi
                            refine x_seq (x_seq (x_region (s_val rfl (v_move rfl) (s_val rfl (v_lss rfl rfl) (x_nil (n_then ?_))))))
                            refine x_if rfl ?_ ?_
                            · intro c28
                              refine x_skip (n_then (x_seq (x_block (x_seq (x_region (s_val rfl (v_move rfl) (s_do rfl (d_call1 Tryz.call31 rfl (viStore_spec W0 _ pv ps pm dg)) ?_)))))))
                              rintro _ B_ ⟨rfl, hB_⟩
                              obtain rfl := hB_.symm
                              refine s_val rfl (v_move rfl) ?_
                              refine s_do rfl (d_call1 Tryz.call32 rfl (frBytes_spec W0 _ ps fg hG i (by omega))) ?_
                              rintro _ B_ ⟨a3, k3, rfl, hB_⟩
                              obtain rfl := hB_.symm
                              refine s_val rfl (v_move rfl) (s_val rfl (v_extract rfl rfl) (s_val rfl (v_extract rfl rfl) (s_val rfl (v_assign rfl) (s_val rfl (v_assign rfl) (x_nil (n_then (x_seq ?_)))))))
                              have hY := (hG.get (f := i) (by omega))
                              refine run_form (E := 5) (sz := 1) (a := a3) (c := k3) (n := 64) (fun hf3 => ?_)
                              refine run_rstoG (qs := qs) (i := i) (by omega) fun a4 k4 vs vi hv hvi => ?_
                              refine run_some (E := 5) (sz := 1) (vi := vi) (byV_ne (by omega)) fun g5 n5 k5 hvie hn5 => ?_
                              subst hvie
                              obtain rfl : n5 = 64 := by rw [byV_len, hY.1] at hn5; omega
                              refine run_some (E := 44) (sz := 1) (vi := .slice a4 fg.length k4) (by intro h0; rw [h0] at hv; simp at hv; omega) fun g6 n6 k6 he6 hn6 => ?_
                              obtain ⟨rfl, _, rfl⟩ := Value.slice.inj he6
                              generalize hYe : fg.getD i [] = Y at hY hf3 ⊢
                              refine x_draw [(qv, 0, _), (qs, 0, _), (g6, 0, vs), (g5, 0, byV Y), (obk a3, 0, byV Y)] 18 mixed rfl (sc_own (sc_own (sc_cons (cells_osl (E := 44) (sz := 1) (a := some ⟨g6, 0, none⟩) (n := fg.length) (c := k4)) (sc_cons (cells_osl (E := 5) (sz := 1) (a := some ⟨g5, 0, none⟩) (n := 64) (c := k5)) (sc_cons (cells_osl (E := 5) (sz := 1) (a := a3) (n := 64) (c := k3)) sc_end))))) (fun hS => ?_)
                              refine d_take 0 rfl rfl (by kernel_rfl) (by kernel_rfl) (by kernel_rfl) rfl hS (v_move rfl) ?_
                              refine d_take 1 rfl rfl (by kernel_rfl) (by kernel_rfl) (by kernel_rfl) rfl hS (v_neq rfl rfl) ?_
                              refine d_take 2 rfl rfl (by kernel_rfl) (by kernel_rfl) (by kernel_rfl) rfl hS (v_move rfl) ?_
                              refine x_split (t := 146) rfl ?_ ?_
                              · intro g31_3
                                exact absurd rfl g31_3
                              · intro g31_3
                                refine d_take 3 rfl rfl (by kernel_rfl) (by kernel_rfl) (by kernel_rfl) rfl hS (v_move rfl) ?_
                                refine d_take 4 rfl rfl (by kernel_rfl) (by kernel_rfl) (by kernel_rfl) rfl hS (v_bstrSN Tryz.underlying44 Tryz.underlying5 Tryz.underlying9 rfl hY.1 (sla_cells hf3 (cells_sc (k := 4) rfl) (fun _ => rfl) (byV_fm _).symm (by decide))) ?_
                                refine d_take 5 rfl rfl (by kernel_rfl) (by kernel_rfl) (by kernel_rfl) rfl hS (v_move rfl) ?_
                                refine d_take 6 rfl rfl (by kernel_rfl) (by kernel_rfl) (by kernel_rfl) rfl hS (v_nilCheck rfl) ?_
                                refine d_take 7 rfl rfl (by kernel_rfl) (by kernel_rfl) (by kernel_rfl) rfl hS (v_fieldAddr rfl Tryz.underlying89 rfl Tryz.sizeOf85 rfl (by first | exact Nat.zero_add _ | rfl)) ?_
                                refine d_take 8 rfl rfl (by kernel_rfl) (by kernel_rfl) (by kernel_rfl) rfl hS (v_load Tryz.isAgg85 rfl (by first | exact cell_sc0 (k := 0) rfl rfl | exact cell_sc0 (k := 1) rfl rfl | exact cell_sc0 (k := 2) rfl rfl | exact cell_sc0 (k := 3) rfl rfl | exact cell_sc0 (k := 4) rfl rfl)) ?_
                                refine d_take 9 rfl rfl (by kernel_rfl) (by kernel_rfl) (by kernel_rfl) rfl hS (v_nilCheck rfl) ?_
                                refine d_take 10 rfl rfl (by kernel_rfl) (by kernel_rfl) (by kernel_rfl) rfl hS (v_fieldAddr rfl Tryz.underlying84 rfl Tryz.sizeOf46 rfl (by first | exact Nat.zero_add _ | rfl)) ?_
                                refine d_take 11 rfl rfl (by kernel_rfl) (by kernel_rfl) (by kernel_rfl) rfl hS (v_load Tryz.isAgg46 rfl (by first | exact cell_sc0 (k := 0) rfl rfl | exact cell_sc0 (k := 1) rfl rfl | exact cell_sc0 (k := 2) rfl rfl | exact cell_sc0 (k := 3) rfl rfl | exact cell_sc0 (k := 4) rfl rfl)) ?_
                                refine d_take 12 rfl rfl (by kernel_rfl) (by kernel_rfl) (by kernel_rfl) rfl hS (v_move rfl) ?_
                                refine d_take 13 rfl rfl (by kernel_rfl) (by kernel_rfl) (by kernel_rfl) rfl hS (v_idx Tryz.underlying46 Tryz.sizeOf44 rfl rfl rfl (by omega) (by first | exact Nat.zero_add _ | rfl)) ?_
                                refine d_take 14 rfl rfl (by kernel_rfl) (by kernel_rfl) (by kernel_rfl) rfl hS (v_load Tryz.isAgg44 rfl (cell_sc0 (k := 2) rfl (by rw [Nat.mul_one]; exact hvi))) ?_
                                refine d_take 15 rfl rfl (by kernel_rfl) (by kernel_rfl) (by kernel_rfl) rfl hS (v_bstrSN Tryz.underlying44 Tryz.underlying5 Tryz.underlying9 rfl hY.1 (sla_cells (.inr ⟨g5, rfl⟩) (cells_sc (k := 3) rfl) (fun _ => rfl) (byV_fm _).symm (by decide))) ?_
                                refine d_take 16 rfl rfl (by kernel_rfl) (by kernel_rfl) (by kernel_rfl) rfl hS (v_neq_str rfl rfl) ?_
                                refine d_take 17 rfl rfl (by kernel_rfl) (by kernel_rfl) (by kernel_rfl) rfl hS (v_pick_f rfl rfl) ?_
                                refine d_done (by kernel_rfl) ?_; clear hS
                                refine n_then ?_
                                refine x_if rfl ?_ ?_
                                · intro c31
                                  exact absurd (by simp) c31
                                · intro c31
                                  refine x_skip (n_block (n_then ?_))
                                  refine run_rstoU (qs := qs) (fr := fg) (i := i) (n := fg.length) (c := k4) (a := some ⟨g6, 0, none⟩) (vs := vs) (vi := .slice (some ⟨g5, 0, none⟩) 64 k5) hvi (by rw [hYe]) hv rfl (by omega) ?_
                                  refine x_region (s_val rfl (v_move rfl) ?_)
                                  refine s_val rfl (v_add rfl rfl (by first | exact w64 (by omega) | rfl)) ?_
                                  refine s_val rfl (v_assign rfl) (x_nil (n_then ?_))
                                  refine inv_intro (i + 1) ?_ ?_ ?_ ?_
                                  · omega
                                  · omega
                                  · repeat (first | exact sub_nil | refine sub_cons rfl ?_)
                                  · exact inferInstance
                            · intro c28
                              refine x_exit (e_then (e_then (e_block (n_then (x_seq (x_region (s_val rfl (v_move rfl) (s_val rfl (v_move rfl) (s_val rfl (v_len_slice Tryz.underlying45 rfl) (s_val rfl (v_lss rfl rfl) (x_nil (n_then ?_))))))))))))
                              refine x_if rfl ?_ ?_
                              · intro c33
                                refine x_seq ?_
                                have hk2 : k < ags.length := by omega
                                obtain ⟨gg, og, rfl, hcg⟩ := (sla_base (A := []) hag).at_ hk2
                                have hgw := hab _ (List.getElem_mem hk2)
                                generalize ags[k] = gw at hcg hgw
                                refine x_region (s_val rfl (v_move rfl) (s_val rfl (v_move rfl) (s_val rfl (v_move rfl) ?_)))
                                refine s_val rfl (v_idx Tryz.underlying45 Tryz.sizeOf47 rfl rfl rfl hk2 (by first | exact Nat.zero_add _ | rfl)) ?_
                                refine s_val rfl (v_load Tryz.isAgg47 rfl (Cells.weak hcg 0 _ rfl)) ?_
                                refine s_do rfl (d_call3 Tryz.call33 rfl (viSave_spec W0 _ pv ps pm dg fg (pg23 8) hP hG hGd 128 (by decide) 4 gw hgw)) ?_
                                rintro _ B_ ⟨rfl, hB_⟩
                                obtain rfl := hB_.symm
                                refine x_nil (n_then (x_region (s_val rfl (v_move rfl) (s_val rfl (v_move rfl) (s_val rfl (v_move rfl) ?_)))))
                                refine s_val rfl (v_idx Tryz.underlying45 Tryz.sizeOf47 rfl rfl rfl hk2 (by first | exact Nat.zero_add _ | rfl)) ?_
                                refine s_val rfl (v_load Tryz.isAgg47 rfl (Cells.weak hcg 0 _ rfl)) ?_
                                refine s_do rfl (d_call3 Tryz.call34 rfl (rvSave_spec W0 _ qv qs qm dg fg (pg23 8) hP hG 128 (by decide) 4 gw hgw)) ?_
                                rintro _ B_ ⟨rfl, hB_⟩
                                obtain rfl := hB_.symm
                                refine x_nil (n_block (n_then ?_))
                                refine mid_intro ⟨vsvF fg (pg23 8) 128 4 gw, vsvD fg (pg23 8) 128 4 dg, sg, pz, 0, 0, 0, 0⟩ ?_ ?_ ?_
                                · exact ⟨(vsvF_ok hG).1, (vsvF_ok hG).2.trans hGl, vsvD_lt hGd, hGs, hGr, hGp⟩
                                · repeat (first | exact sub_nil | refine sub_cons rfl ?_)
                                · exact inferInstance
                              · intro c33
                                refine x_skip (n_block (n_then ?_))
                                refine mid_intro ⟨fg, dg, sg, pz, 0, 0, 0, 0⟩ ?_ ?_ ?_
                                · exact ⟨hG, hGl, hGd, hGs, hGr, hGp⟩
                                · repeat (first | exact sub_nil | refine sub_cons rfl ?_)
                                · exact inferInstance
                  · intro z hz
                    refine x_region (s_val rfl (v_move rfl) ?_)
                    refine s_val rfl (v_add rfl rfl (by first | exact w64 (by omega) | rfl)) ?_
                    refine s_val rfl (v_assign rfl) (x_nil (n_then ?_))
                    refine inv_intro (k + 1, z) ?_ ?_ ?_ ?_
                    · exact ⟨by omega, hz⟩
                    · omega
                    · repeat (first | exact sub_nil | refine sub_cons rfl ?_)
                    · exact inferInstance
                · intro c16
                  refine x_exit (e_then (e_then (e_block (n_then (x_seq (x_region (s_do rfl (d_call Tryz.call23 rfl (awake25_spec W0 _)) ?_)))))))
                  rintro _ B_ ⟨rfl, hB_⟩
                  obtain rfl := hB_.symm
                  refine s_val rfl (v_assign rfl) (x_nil (n_then (x_ret (x_done (.inl rfl) (.cons (r_tmp rfl) .nil) ?_))))
                  exact ⟨_, ⟨rfl, rfl⟩, inferInstance⟩
              · intro g16_5
                refine s_no rfl rfl rfl rfl (s_val rfl (v_pick_f rfl rfl) (x_nil (n_then (x_iff rfl (x_exit (e_then (e_then (e_block (n_then (x_seq (x_region (s_do rfl (d_call Tryz.call23 rfl (awake25_spec W0 _)) ?_))))))))))))
                rintro _ B_ ⟨rfl, hB_⟩
                obtain rfl := hB_.symm
                refine s_val rfl (v_assign rfl) (x_nil (n_then (x_ret (x_done (.inl rfl) (.cons (r_tmp rfl) .nil) ?_))))
                exact ⟨_, ⟨rfl, rfl⟩, inferInstance⟩
end Go.Proofs.YtncegikenkpcmaaGreat
namespace Go.Proofs.YtncegikenkpcmaaGreat
open Go.ChangeShapes Go.WideShapes Go.ChangeAt Go.RowKit
set_option linter.unusedSimpArgs false
set_option linter.unusedVariables false
theorem own : ownKnob Tryz.prog.godebug = none := by kernel_rfl
theorem laidOut : laidOutB Tryz.prog = true := by kernel_rfl
variable {W : World} {v : Value}
theorem wf_u32 {n : Int} (h : (Lit.int .u32 n).wf = true) : ∃ w : Nat, n = (w : Int) ∧ w < 4294967296 := by
  simp [Lit.wf, IntKind.min, IntKind.max, IntKind.signed, IntKind.bits] at h
  exact ⟨n.toNat, by omega, by omega⟩
theorem wf_u8 {n : Int} (h : (Lit.int .u8 n).wf = true) : ∃ w : Nat, n = (w : Int) ∧ w < 256 := by
  simp [Lit.wf, IntKind.min, IntKind.max, IntKind.signed, IntKind.bits] at h
  exact ⟨n.toNat, by omega, by omega⟩
end Go.Proofs.YtncegikenkpcmaaGreat
namespace Go.Proofs.YtncegikenkpcmaaGreat
open Go.ChangeShapes Go.WideShapes Go.ChangeAt Go.RowKit
set_option linter.unusedSimpArgs false
set_option linter.unusedVariables false
variable {W : World} {v : Value}
theorem inT_byteB {fuel : Nat} {l : List Value} (h : InT Tryz.prog W fuel 5 l) : ∃ x : Nat, l = [bV x] ∧ x < 256 := by
  obtain ⟨n, rfl, hw⟩ := inT_int Tryz.underlying5 h
  obtain ⟨w, rfl, h'⟩ := wf_u8 hw
  exact ⟨w, rfl, h'⟩
theorem inT_bytesB {fuel : Nat} {l : List Value} (h : InT Tryz.prog W fuel 44 l) : ∃ a c xs, l = [.slice a (List.length (α := Nat) xs) c] ∧ xs.length < 9223372036854775808 ∧ SlB W a 1 (fun x => [bV x]) xs ∧ By xs := by
  obtain ⟨a, c, xs, rfl, h1, h2, h3, h4⟩ := inT_sliceF (f := fun x => [bV x]) (Q := fun x => x < 256) 1 Tryz.underlying44 (by kernel_rfl) (by decide) (fun fuel r h => inT_byteB h) h
  exact ⟨a, c, xs, rfl, by simp only [maxLen] at h2; omega, h3, h4⟩
theorem wf_i64 {n : Int} (h : (Lit.int .i64 n).wf = true) : -9223372036854775808 ≤ n ∧ n < 9223372036854775808 := by
  simp [Lit.wf, IntKind.min, IntKind.max, IntKind.signed, IntKind.bits] at h
  omega
theorem ty_i64 (h : Ty Tryz.prog W 3 v) : ∃ n : Int, v = .int .i64 n ∧ -9223372036854775808 ≤ n ∧ n < 9223372036854775808 := by
  obtain ⟨n, rfl, hw⟩ := ty_int Tryz.underlying3 h
  exact ⟨n, rfl, wf_i64 hw⟩
end Go.Proofs.YtncegikenkpcmaaGreat
namespace Go.Proofs.YtncegikenkpcmaaGreat
open Go.ChangeShapes Go.WideShapes Go.ChangeAt Go.RowKit
set_option linter.unusedSimpArgs false
set_option linter.unusedVariables false
variable {W : World} {v : Value}
theorem list4 {l : List Value} (h : l.length = 4) : ∃ a b c d, l = [a, b, c, d] := by
  match l, h with
  | [a, b, c, d], _ => exact ⟨a, b, c, d, rfl⟩
theorem inT_u32c {fuel : Nat} {l : List Value} (h : InT Tryz.prog W fuel 47 l) : ∃ x : Nat, l = [.int .u32 x] ∧ x < 4294967296 := by
  obtain ⟨n, rfl, hw⟩ := inT_int Tryz.underlying47 h
  obtain ⟨w, rfl, h'⟩ := wf_u32 hw
  exact ⟨w, rfl, h'⟩
theorem inT_desc {fuel : Nat} {l : List Value} (h : InT Tryz.prog W fuel 139 l) : ∃ d : Dsc, l = dsV d ∧ d.ok := by
  obtain ⟨hl, f', hf⟩ := inT_struct Tryz.underlying139 h
  obtain ⟨x0, x1, x2, x3, rfl⟩ := list4 (hl.trans (by kernel_rfl))
  have h0 := hf _ (List.mem_cons_self ..)
  have h1 := hf _ (List.mem_cons_of_mem _ (List.mem_cons_self ..))
  have h2 := hf _ (List.mem_cons_of_mem _ (List.mem_cons_of_mem _ (List.mem_cons_self ..)))
  have h3 := hf _ (List.mem_cons_of_mem _ (List.mem_cons_of_mem _ (List.mem_cons_of_mem _ (List.mem_cons_self ..))))
  rw [show Tryz.prog.cellsOf 47 = 1 by kernel_rfl] at h0 h1 h2 h3
  obtain ⟨y0, e0, g0⟩ := inT_u32c h0
  obtain ⟨y1, e1, g1⟩ := inT_u32c h1
  obtain ⟨y2, e2, g2⟩ := inT_u32c h2
  obtain ⟨y3, e3, g3⟩ := inT_u32c h3
  simp at e0 e1 e2 e3
  exact ⟨⟨y0, y1, y2, y3⟩, by rw [e0, e1, e2, e3], g0, g1, g2, g3⟩
end Go.Proofs.YtncegikenkpcmaaGreat
namespace Go.Proofs.YtncegikenkpcmaaGreat
open Go.ChangeShapes Go.WideShapes Go.ChangeAt Go.RowKit
set_option linter.unusedSimpArgs false
set_option linter.unusedVariables false
variable {W : World} {v : Value}
theorem inT_strs {fuel : Nat} {l : List Value} (h : InT Tryz.prog W fuel 9 l) : ∃ s : ByteArray, l = [sV s] ∧ s.size < 9223372036854775808 := by
  obtain ⟨s, rfl, h1⟩ := inT_str Tryz.underlying9 h
  exact ⟨s, rfl, by simp only [maxLen] at h1; omega⟩
theorem ty_strs (h : Ty Tryz.prog W 50 v) : ∃ a c xs, v = .slice a (List.length (α := ByteArray) xs) c ∧ xs.length < 9223372036854775808 ∧ SlB W a 1 (fun s => [sV s]) xs ∧ ∀ s ∈ xs, s.size < 9223372036854775808 := by
  obtain ⟨a, c, xs, rfl, h1, h2, h3, h4⟩ := ty_sliceF (f := fun s => [sV s]) (Q := fun s => s.size < 9223372036854775808) 1 Tryz.underlying50 (by kernel_rfl) (by decide) (fun fuel r h => inT_strs h) h
  exact ⟨a, c, xs, rfl, by simp only [maxLen] at h2; omega, h3, h4⟩
theorem list5n {l : List Value} (h : l.length = 5) : ∃ a b c d e, l = [a, b, c, d, e] := by
  match l, h with
  | [a, b, c, d, e], _ => exact ⟨a, b, c, d, e, rfl⟩
def BtOk (W : World) (y : Bts) : Prop := SlB W y.1 1 (fun x => [bV x]) y.2.2 ∧ By y.2.2 ∧ y.2.2.length < 9223372036854775808
theorem inT_bts {fuel : Nat} {l : List Value} (h : InT Tryz.prog W fuel 44 l) : ∃ y : Bts, l = btV y ∧ BtOk W y := by
  obtain ⟨a, c, xs, rfl, h1, h2, h3⟩ := inT_bytesB h
  exact ⟨(a, c, xs), rfl, h2, h3, h1⟩
end Go.Proofs.YtncegikenkpcmaaGreat
namespace Go.Proofs.YtncegikenkpcmaaGreat
open Go.ChangeShapes Go.WideShapes Go.ChangeAt Go.RowKit
set_option linter.unusedSimpArgs false
set_option linter.unusedVariables false
variable {W : World} {v : Value}
theorem list3b {l : List Value} (h : l.length = 3) : ∃ a b c, l = [a, b, c] := by
  match l, h with
  | [a, b, c], _ => exact ⟨a, b, c, rfl⟩
theorem ty_guest25 (h : Ty Tryz.prog W 49 v) : ∃ g : Gst, v = .agg (gstV g).toArray ∧ ∀ A, GOk (OwnP W A) g := by
  obtain ⟨l, rfl, fuel, hI⟩ := ty_struct Tryz.underlying49 h
  obtain ⟨hl, f', hf⟩ := inT_struct Tryz.underlying49 hI
  obtain ⟨x0, x1, x2, x3, x4, rfl⟩ := list5n (hl.trans (by kernel_rfl))
  have h0 := hf _ (List.mem_cons_self ..)
  have h1 := hf _ (List.mem_cons_of_mem _ (List.mem_cons_self ..))
  have h2 := hf _ (List.mem_cons_of_mem _ (List.mem_cons_of_mem _ (List.mem_cons_self ..)))
  have h3 := hf _ (List.mem_cons_of_mem _ (List.mem_cons_of_mem _ (List.mem_cons_of_mem _ (List.mem_cons_self ..))))
  have h4 := hf _ (List.mem_cons_of_mem _ (List.mem_cons_of_mem _ (List.mem_cons_of_mem _ (List.mem_cons_of_mem _ (List.mem_cons_self ..)))))
  rw [show Tryz.prog.cellsOf 43 = 1 by kernel_rfl] at h0
  rw [show Tryz.prog.cellsOf 44 = 1 by kernel_rfl] at h1
  rw [show Tryz.prog.cellsOf 45 = 1 by kernel_rfl] at h2
  rw [show Tryz.prog.cellsOf 46 = 1 by kernel_rfl] at h3
  rw [show Tryz.prog.cellsOf 47 = 1 by kernel_rfl] at h4
  obtain ⟨a0, c0, L, e0, p0, q0, r0, s0⟩ := inT_sliceF (f := dsV) (Q := Dsc.ok) 4 Tryz.underlying43 (by kernel_rfl) (by decide) (fun fuel r h => inT_desc h) h0
  obtain ⟨a1, c1, H, e1, q1, r1, s1⟩ := inT_bytesB h1
  obtain ⟨a2, c2, A, e2, p2, q2, r2, s2⟩ := inT_sliceF (f := fun x => [wV x]) (Q := fun x => x < 4294967296) 1 Tryz.underlying45 (by kernel_rfl) (by decide) (fun fuel r h => inT_u32c h) h2
  obtain ⟨a3, c3, B, e3, p3, q3, r3, s3⟩ := inT_sliceF (f := btV) (Q := BtOk W) 1 Tryz.underlying46 (by kernel_rfl) (by decide) (fun fuel r h => inT_bts h) h3
  obtain ⟨w, e4, s4⟩ := inT_u32c h4
  simp at e0 e1 e2 e3 e4
  refine ⟨⟨a0, c0, L, a1, c1, H, a2, c2, A, a3, c3, B, w⟩, by rw [e0, e1, e2, e3, e4], fun R => ⟨sla_base r0, s0, sla_base r1, s1, sla_base r2, s2, sla_base r3, fun y hy => ?_, s4, ?_, q1, ?_, ?_⟩⟩
  · obtain ⟨k1, k2, k3⟩ := s3 y hy
    exact ⟨sla_base k1, k2, k3⟩
  · simp only [maxLen] at q0; show L.length < _; omega
  · simp only [maxLen] at q2; show A.length < _; omega
  · simp only [maxLen] at q3; show B.length < _; omega
end Go.Proofs.YtncegikenkpcmaaGreat
namespace Go.Proofs.YtncegikenkpcmaaGreat
open Go.ChangeShapes Go.WideShapes Go.ChangeAt Go.RowKit
set_option linter.unusedSimpArgs false
set_option linter.unusedVariables false
variable {W : World} {v : Value}
theorem ty_u32n (h : Ty Tryz.prog W 45 v) : ∃ a c xs, v = .slice a (List.length (α := Nat) xs) c ∧ xs.length < 9223372036854775808 ∧ SlB W a 1 (fun x => [wV x]) xs ∧ ∀ x ∈ xs, x < 4294967296 := by
  obtain ⟨a, c, xs, rfl, h1, h2, h3, h4⟩ := ty_sliceF (f := fun x => [wV x]) (Q := fun x => x < 4294967296) 1 Tryz.underlying45 (by kernel_rfl) (by decide) (fun fuel r h => inT_u32c h) h
  exact ⟨a, c, xs, rfl, by simp only [maxLen] at h2; omega, h3, h4⟩
end Go.Proofs.YtncegikenkpcmaaGreat
