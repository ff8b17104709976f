/-
  Part 5 of the proof of NicCarries: rules, and walks of functions. Conditions: none.
-/
import Derived.Test.YtechkfopkpkigaaGreatNicCarriesD
namespace Go.Proofs.YtechkfopkpkigaaGreat
open Go.RowKit
set_option linter.unusedSimpArgs false
set_option linter.unusedVariables false
set_option maxRecDepth 20000
theorem wdAt_mid {p q : List Nat} {i x : Nat} (hp : p.length = 4 * i) (hx : x < 4294967296) : wdAt (p ++ (leB 4 x ++ q)) i = x := by
  rw [wdAt, List.drop_left' hp, List.take_left' (leB_len 4 x), leN_leB]; exact Nat.mod_eq_of_lt (by simpa using hx)
theorem dsOf_put {d : Dsc} (h : d.ok) : dsOf (putD d) = d := by
  obtain ⟨a, b, c, e⟩ := d
  obtain ⟨h1, h2, h3, h4⟩ := h
  dsimp only at h1 h2 h3 h4
  have e0 : putD ⟨a, b, c, e⟩ = leB 4 a ++ (leB 4 b ++ (leB 4 c ++ (leB 4 e ++ []))) := rfl
  have k0 : wdAt (putD ⟨a, b, c, e⟩) 0 = a := by rw [e0]; exact wdAt_mid (p := []) rfl h1
  have k1 : wdAt (putD ⟨a, b, c, e⟩) 1 = b := by rw [e0]; exact wdAt_mid (leB_len 4 a) h2
  have k2 : wdAt (putD ⟨a, b, c, e⟩) 2 = c := by
    rw [e0, ← List.append_assoc]; exact wdAt_mid (by rw [List.length_append, leB_len, leB_len]) h3
  have k3 : wdAt (putD ⟨a, b, c, e⟩) 3 = e := by
    rw [e0, ← List.append_assoc, ← List.append_assoc]; exact wdAt_mid (by rw [List.length_append, List.length_append, leB_len, leB_len, leB_len]) h4
  rw [dsOf, k0, k1, k2, k3]
theorem dW_ok {n f : Nat} (hn : n < 4294967296) (hf : f < 4294967296) : (dW n f).ok := ⟨by show (320 : Nat) < _; decide, hn, hf, by show (0 : Nat) < _; decide⟩
theorem mk_one (b1 b2 b3 b4 c n f : Nat) (a : Option Addr) (bs : List Nat) : (mk27 (g27 b1 b2 b3 b4 c n f a bs)).1 = vsvF (vsvF (wrF (wrF fZ (pg23 8) 320 bs) (pg23 8) 0 (putD (dW n f))) (pg23 8) 132 4 0) (pg23 8) 128 4 1 := by
  obtain ⟨g, hg⟩ : ∃ g, g27 b1 b2 b3 b4 c n f a bs = g := ⟨_, rfl⟩
  have hA : g.A = [320] := by rw [← hg]
  have hB : g.B = [(a, c, bs)] := by rw [← hg]
  have hL : g.L = [dW n f] := by rw [← hg]
  have hH : g.H = [0] := by rw [← hg]
  have hp : g.p = 1 := by rw [← hg]
  rw [hg, mk27, mgP, hH, hp, show min [0].length 4 = 0 + 1 from rfl, mgH, mgH, hH, hL, show min [dW n f].length 8 = 0 + 1 from rfl, mgD, mgD, hL, mgN, hA, hB, show min (min [(a, c, bs)].length [320].length) 20 = 0 + 1 from rfl, mgA, mgA, hA, hB]
  simp only [List.getD_cons_zero, Nat.mul_zero, Nat.add_zero]
  rfl
theorem wdZ4 : ∀ k, k < 4 → wd fZ (33 + k) = 0 := by decide +kernel
theorem mem_one {b1 b2 b3 b4 c n f : Nat} {a : Option Addr} {bs : List Nat} (hn : n < 4294967296) (hf : f < 4294967296) (hb : By bs) (hl : bs.length ≤ 64) :
    WMem (dW n f) (mk27 (g27 b1 b2 b3 b4 c n f a bs)).1 1 ∧ ∀ i, i < bs.length → rdv (mk27 (g27 b1 b2 b3 b4 c n f a bs)).1 (pg23 8) (320 + i) = bs.getD i 0 := by
  have hF0 : Frs fZ := fZ_ok
  have hl0 : fZ.length = 8 := rfl
  have hpl : (putD (dW n f)).length = 16 := putD_len _
  have hpb : By (putD (dW n f)) := bytesL_by _
  obtain ⟨hF1, l1⟩ := wrF_ok (pg := pg23 8) (pa := 320) (bs := bs) hF0
  rw [hl0] at l1
  obtain ⟨hF2, l2⟩ := wrF_ok (pg := pg23 8) (pa := 0) (bs := putD (dW n f)) hF1
  rw [l1] at l2
  have r2 : ∀ a', a' < 512 → rdv (wrF (wrF fZ (pg23 8) 320 bs) (pg23 8) 0 (putD (dW n f))) (pg23 8) a' = if a' < 16 then (putD (dW n f)).getD a' 0 else if 320 ≤ a' ∧ a' < 320 + bs.length then bs.getD (a' - 320) 0 else rdv fZ (pg23 8) a' := fun a' ha => by
    rw [rdv_wrF hF1 l1 hpb (by rw [hpl]; omega) ha, hpl, rdv_wrF hF0 hl0 hb (by omega) ha]
    by_cases q : a' < 16
    · rw [if_pos ⟨by omega, by omega⟩, if_pos q, Nat.sub_zero]
    · rw [if_neg (by omega), if_neg q]
  rw [mk_one]
  generalize wrF (wrF fZ (pg23 8) 320 bs) (pg23 8) 0 (putD (dW n f)) = f2 at hF2 l2 r2
  have e3 : vsvF f2 (pg23 8) 132 4 0 = vsvF f2 (pg23 8) (4 * 33) 4 0 := rfl
  obtain ⟨hF3, l3⟩ := vsvF_ok (pg := pg23 8) (pa := 4 * 33) (w := 4) (x := 0) hF2
  rw [l2] at l3
  rw [e3]
  have r3 : ∀ a', a' < 512 → ¬ (132 ≤ a' ∧ a' < 136) → rdv (vsvF f2 (pg23 8) (4 * 33) 4 0) (pg23 8) a' = rdv f2 (pg23 8) a' := fun a' ha hc => by
    rw [rdv_save hF2 l2 (by decide) ha, if_neg (by omega)]
  have w3 : ∀ k, k < 4 → wd (vsvF f2 (pg23 8) (4 * 33) 4 0) (33 + k) = 0 := fun k hk => by
    rw [wd_save hF2 l2 (by decide) (by omega) (by decide)]
    split
    · rfl
    · rw [← wdZ4 k hk]
      exact wd_congr hl0 l2 (by omega) fun i hi => by rw [r2 _ (by omega), if_neg (by omega), if_neg (by omega)]
  generalize vsvF f2 (pg23 8) (4 * 33) 4 0 = f3 at hF3 l3 r3 w3
  have e4 : vsvF f3 (pg23 8) 128 4 1 = vsvF f3 (pg23 8) (4 * 32) 4 1 := rfl
  rw [e4]
  have r4 : ∀ a', a' < 512 → ¬ (128 ≤ a' ∧ a' < 132) → rdv (vsvF f3 (pg23 8) (4 * 32) 4 1) (pg23 8) a' = rdv f3 (pg23 8) a' := fun a' ha hc => by
    rw [rdv_save hF3 l3 (by decide) ha, if_neg (by omega)]
  refine ⟨⟨(vsvF_ok hF3).1, (vsvF_ok hF3).2.trans l3, fun a' ha => ?_, fun k hk => ?_, ?_⟩, fun i hi => ?_⟩
  · rw [r4 _ (by omega) (by omega), r3 _ (by omega) (by omega), r2 _ (by omega), if_pos ha]
  · rw [wd_save hF3 l3 (by decide) (by omega) (by decide), if_neg (by omega), w3 k hk]
  · rw [wd_save hF3 l3 (by decide) (by decide) (by decide), if_pos rfl]
  · rw [r4 _ (by omega) (by omega), r3 _ (by omega) (by omega), r2 _ (by omega), if_neg (by omega), if_pos ⟨by omega, by omega⟩, show 320 + i - 320 = i by omega]
theorem rd_320b {fr : List Frm} (hl : fr.length = 8) {bs : List Nat} (h : bs.length ≤ 64) (hr : ∀ i, i < bs.length → rdv fr (pg23 8) (320 + i) = bs.getD i 0) : rdO fr (pg23 8) 320 (bs.length : Int) = bs := by
  rw [rdO, hl, if_pos (own_any (by omega))]
  apply List.ext_getElem
  · rw [rdL_len]; simp
  · intro i h1 h2
    simp only [rdL, List.getElem_map, List.getElem_range]
    rw [hr i h2, List.getD_eq_getElem?_getD, List.getElem?_eq_getElem h2]; rfl
@[reducible] def p2 (x y : Int) (l : List ByteArray) : List Prt := [⟨x, 0, []⟩, ⟨y, 1, l⟩]
theorem p2_in1 (x y : Int) (l : List ByteArray) : isIn (p2 x y l) 1 = true := by simp [isIn, inR, pAt]
theorem p2_wt (x y : Int) (l : List ByteArray) : wtP (p2 x y l) 1 = l.length := by rw [wtP, if_pos (p2_in1 x y l)]; rfl
theorem p2_tkB (x y : Int) (l : List ByteArray) : tkB (p2 x y l) 1 = decide (l ≠ []) := by rw [tkB, p2_in1]; rfl
theorem p2_tkV (x y : Int) (s : ByteArray) (l : List ByteArray) : tkV (p2 x y (s :: l)) 1 = s := by rw [tkV, p2_tkB, if_pos (by simp)]; rfl
theorem p2_tkP (x y : Int) (s : ByteArray) (l : List ByteArray) : tkP (p2 x y (s :: l)) 1 = p2 x y l := by rw [tkP, p2_tkB, if_pos (by simp)]; rfl
theorem p2_snd {x y : Int} {s : ByteArray} (hs : s.size ≤ 32) : sndP (p2 x y []) 0 1 s = p2 x y (if flB x y then [s] else []) := by
  have hb : sndB (p2 x y []) 0 1 s = flB x y := by
    rw [sndB, decide_eq_true hs]
    show (true && true && true && flB x y) = flB x y
    simp
  rw [sndP, hb]
  by_cases q : flB x y = true
  · rw [if_pos q, if_pos q]
    show [(⟨x, 0, []⟩ : Prt), putPr ⟨y, 1, []⟩ s] = _
    have hfp : fullP ⟨y, 1, []⟩ = false := by rw [fullP, mostP, if_neg (by show ¬ (1 : Int) = -1; decide)]; rfl
    rw [putPr, hfp]; rfl
  · rw [if_neg q, if_neg q]
theorem tx_one {fr : List Frm} {d : Nat} {x y : Int} {bs : List Nat} (hb : By bs) (hl : bs.length ≤ 32) (hd : d < 4096) (h : WMem (dW (4 + bs.length) 0) fr 1) (hr : ∀ i, i < 4 + bs.length → rdv fr (pg23 8) (320 + i) = ([1, 0, 0, 0] ++ bs).getD i 0) :
    ∃ fr' d', svGo true (pg23 8) 0 4 ⟨fr, d, q27, p2 x y [], 0, 0, 0, 0⟩ = ⟨fr', d', tq 4 1 1, p2 x y (if flB x y then [strB bs] else []), 1, 1, 4 + bs.length, 0⟩ := by
  have hD := dsOf_put (dW_ok (n := 4 + bs.length) (f := 0) (by omega) (by decide))
  obtain ⟨t1, t2⟩ := tk_W (n := 4 + bs.length) (f := 0) (i := 0) (j := 1) (by omega) (.inl rfl) hD h rfl ⟨by decide, by decide⟩ (by decide) 0
  have hwr : wrB (dW (4 + bs.length) 0) = false := by rw [wrB, decide_eq_false_iff_not]; show ¬ (0 : Nat) / 2 % 2 = 1; decide
  have hrd : rdO fr (pg23 8) 320 ((4 + bs.length : Nat) : Int) = [1, 0, 0, 0] ++ bs := by
    rw [rdO, h.len, if_pos (own_any (by omega))]
    apply List.ext_getElem
    · rw [rdL_len, List.length_append, Int.toNat_natCast]; rfl
    · intro i h1 h2
      rw [rdL_len, Int.toNat_natCast] at h1
      simp only [rdL, List.getElem_map, List.getElem_range]
      rw [hr i h1, List.getD_eq_getElem?_getD, List.getElem?_eq_getElem h2]; rfl
  have hG : pkG fr (pg23 8) [dW (4 + bs.length) 0] = [1, 0, 0, 0] ++ bs := by
    rw [pkG, show [dW (4 + bs.length) 0].length = 1 from rfl, gthK]
    simp only [List.getD_cons_zero]
    rw [hwr, if_neg (by decide)]
    show ([] : List Nat) ++ (rdO fr (pg23 8) 320 ((4 + bs.length : Nat) : Int)).take (roomN 36 0) = _
    rw [hrd, List.nil_append, show roomN 36 0 = 36 from rfl, List.take_of_length_le (by rw [List.length_append]; show 4 + bs.length ≤ 36; omega)]
  have hL : lenW [dW (4 + bs.length) 0] false = 4 + bs.length := by
    simp only [lenW, List.map_cons, List.map_nil, List.sum_cons, List.sum_nil]
    rw [hwr, if_pos rfl]; rfl
  have hGl : ([1, 0, 0, 0] ++ bs : List Nat).length = 4 + bs.length := by rw [List.length_append]; rfl
  have hB : pkB fr (pg23 8) [dW (4 + bs.length) 0] = true := by
    rw [pkB, hL, hG, hGl, decide_eq_true_iff]; omega
  have hT : pkT fr (pg23 8) [dW (4 + bs.length) 0] = 1 := by rw [pkT, hB, if_pos rfl, hG]; rfl
  have hS : pkS fr (pg23 8) [dW (4 + bs.length) 0] = strB bs := by rw [pkS, hB, if_pos rfl, hG]; rfl
  have hsz : (strB bs).size = bs.length := strB_size bs
  have hdo : doR true (pg23 8) 0 (p2 x y []) fr d [dW (4 + bs.length) 0] = ⟨4 + bs.length, 0, fr, d, p2 x y (if flB x y then [strB bs] else [])⟩ := by
    rw [doR, if_pos rfl, hB, if_pos rfl, hT, hS, hsz, ← p2_snd (x := x) (y := y) (s := strB bs) (by omega)]; rfl
  obtain ⟨Q, hQ⟩ : ∃ Q, (if flB x y = true then [strB bs] else []) = Q := ⟨_, rfl⟩
  rw [hQ] at hdo ⊢
  obtain ⟨fr', d', e1, e2, e3, e4, e5, e6, _⟩ := doneV (fr := fr) h.frs h.len (i := 0) (h := u32N ((0 : Nat) : Int)) (t := u32N ((0 : Nat) : Int)) (by decide) hd
  have hst := svSt_mo (tx := true) (pg := pg23 8) (port := 0) (x := ⟨fr, d, q27, p2 x y [], 0, 0, 0, 0⟩) rfl
  dsimp only [svY, svZ] at hst
  rw [show q27 = tq 4 0 0 from rfl] at hst ⊢
  rw [t1, t2, if_pos rfl] at hst
  rw [hdo] at hst
  dsimp only at hst
  rw [e1] at hst
  have hW2 := h.keep e2 e3 e5
  obtain ⟨u1, u2⟩ := tk_W0 (i := 1) hW2 (by decide) 1
  have hst2 := svSt_mo (tx := true) (pg := pg23 8) (port := 0) (x := ⟨fr', d', tq 4 1 1, p2 x y Q, 0 + 1, 0 + 1, 0 + (4 + bs.length), 0⟩) rfl
  dsimp only [svY, svZ] at hst2
  rw [u1, u2, if_neg (by decide)] at hst2
  refine ⟨fr', d', ?_⟩
  rw [svGo_go (by decide) (by rw [hst]; rfl), hst]
  show svGo true (pg23 8) 0 3 ⟨fr', d', tq 4 1 1, p2 x y Q, 0 + 1, 0 + 1, 0 + (4 + bs.length), 0⟩ = _
  rw [svGo_stop (by decide) (by rw [hst2]), hst2]
  rw [Nat.zero_add, Nat.zero_add]
theorem sc_two {n d : Nat} {fr : List Frm} {bs : List Nat} (hl : fr.length = 8) (hn : n ≤ 64) : (scK fr (pg23 8) d [dW n 2] 0 bs 1).2.1 = min n bs.length ∧ (scK fr (pg23 8) d [dW n 2] 0 bs 1).2.2.1 = wrF fr (pg23 8) 320 (bs.take (min n bs.length)) := by
  have o2 : ownB fr.length (pg23 8) 320 (n : Int) = true := by rw [hl]; exact own_any (by omega)
  have h1 : wrB (dW n 2) = true := by
    rw [wrB, decide_eq_true_iff]; show (2 : Nat) / 2 % 2 = 1; rfl
  have hs : scK fr (pg23 8) d [dW n 2] 0 bs 1 = scStep (pg23 8) bs (dW n 2) (0, 0, fr, d) := rfl
  rw [hs, scStep, if_pos ⟨h1, o2⟩]
  have e : min (n - min 0 n) (bs.length - 0) = min n bs.length := by omega
  constructor
  · show 0 + min (n - min 0 n) (bs.length - 0) = _; omega
  · show wrF fr (pg23 8) (320 + min 0 n) ((bs.drop 0).take (min (n - min 0 n) (bs.length - 0))) = _
    rw [e, List.drop_zero, show 320 + min 0 n = 320 by omega]
theorem rx_none {fr : List Frm} {d : Nat} {x y : Int} : svGo false (pg23 8) 1 4 ⟨fr, d, q27, p2 x y [], 0, 0, 0, 0⟩ = ⟨fr, d, q27, p2 x y [], 0, 0, 0, 0⟩ := by
  have hm : ¬ moB false (p2 x y []) 1 = true := by rw [moB, p2_wt]; simp
  have hst : svSt false (pg23 8) 1 ⟨fr, d, q27, p2 x y [], 0, 0, 0, 0⟩ = (false, ⟨fr, d, q27, p2 x y [], 0, 0, 0, 0⟩) := by rw [svSt, if_neg hm]
  rw [svGo_stop (by decide) (by rw [hst]), hst]
theorem rx_two {fr : List Frm} {d n k : Nat} {x y : Int} {s : ByteArray} (hn : n ≤ 64) (hs : s.size ≤ 32) (hk : min n s.size = k) (hd : d < 4096) (h : WMem (dW n 2) fr 1) :
    ∃ fr' d', svGo false (pg23 8) 1 4 ⟨fr, d, q27, p2 x y [s], 0, 0, 0, 0⟩ = ⟨fr', d', tq 4 1 1, p2 x y [], 1, 1, k, 0⟩ ∧ Frs fr' ∧ fr'.length = 8 ∧ d' < 4096 ∧ rdO fr' (pg23 8) 320 (k : Int) = (bL s).take k ∧ wd fr' 50 = k := by
  have hbl := bL_len s
  have hD := dsOf_put (dW_ok (n := n) (f := 2) (by omega) (by decide))
  obtain ⟨t1, t2⟩ := tk_W (n := n) (f := 2) (i := 0) (j := 1) hn (.inr rfl) hD h rfl ⟨by decide, by decide⟩ (by decide) 0
  obtain ⟨s1, s2⟩ := sc_two (d := d) (bs := bL s) h.len hn
  rw [hbl, hk] at s1 s2
  have htk : ((bL s).take k).length = k := by rw [List.length_take, hbl]; omega
  have htb : By ((bL s).take k) := (bL_by s).take k
  have hdk : (scK fr (pg23 8) d [dW n 2] 0 (bL s) 1).2.2.2 < 4096 := (scK_ok (pg := pg23 8) (l := [dW n 2]) (from_ := 0) (bs := bL s) h.frs hd 1).d
  have hdo : doR false (pg23 8) 1 (p2 x y [s]) fr d [dW n 2] = ⟨k, k, wrF fr (pg23 8) 320 ((bL s).take k), (scK fr (pg23 8) d [dW n 2] 0 (bL s) 1).2.2.2, p2 x y []⟩ := by
    rw [doR, if_neg (by decide), p2_tkV, p2_tkP, show [dW n 2].length = 1 from rfl, s1, s2]
  generalize (scK fr (pg23 8) d [dW n 2] 0 (bL s) 1).2.2.2 = dk at hdk hdo
  obtain ⟨hwF, hwl⟩ := wrF_ok (pg := pg23 8) (pa := 320) (bs := (bL s).take k) h.frs
  rw [h.len] at hwl
  obtain ⟨fr', d', e1, e2, e3, e4, e5, e6, e7⟩ := doneV (fr := wrF fr (pg23 8) 320 ((bL s).take k)) hwF hwl (i := 0) (h := u32N ((0 : Nat) : Int)) (t := u32N ((k : Nat) : Int)) (by decide) hdk
  have hm : moB false (p2 x y [s]) 1 = true := by rw [moB, p2_wt]; rfl
  have hst := svSt_mo (pg := pg23 8) (x := ⟨fr, d, q27, p2 x y [s], 0, 0, 0, 0⟩) hm
  dsimp only [svY, svZ] at hst
  rw [show q27 = tq 4 0 0 from rfl] at hst ⊢
  rw [t1, t2, if_pos rfl] at hst
  rw [hdo] at hst
  dsimp only at hst
  rw [e1] at hst
  have hm2 : ¬ moB false (p2 x y []) 1 = true := by rw [moB, p2_wt]; simp
  have hst2 : svSt false (pg23 8) 1 ⟨fr', d', tq 4 1 1, p2 x y [], 0 + 1, 0 + 1, 0 + k, 0⟩ = (false, ⟨fr', d', tq 4 1 1, p2 x y [], 0 + 1, 0 + 1, 0 + k, 0⟩) := by rw [svSt, if_neg hm2]
  have hn4 : ∀ x : Nat, (bytesL [x]).length = 4 := fun x => by rw [bytesL_len]; rfl
  refine ⟨fr', d', ?_, e2, e3, e4, ?_, ?_⟩
  · rw [svGo_go (by decide) (by rw [hst]; rfl), hst]
    show svGo false (pg23 8) 1 3 ⟨fr', d', tq 4 1 1, p2 x y [], 0 + 1, 0 + 1, 0 + k, 0⟩ = _
    rw [svGo_stop (by decide) (by rw [hst2]), hst2, Nat.zero_add, Nat.zero_add]
  · have hr := rd_320b e3 (bs := (bL s).take k) (by rw [htk]; omega) fun i hi => by
      rw [htk] at hi
      rw [e6 _ (by omega) (by omega), rdv_wrF h.frs h.len htb (by rw [htk]; omega) (by omega), if_pos (by rw [htk]; omega), show 320 + i - 320 = i by omega]
    rw [htk] at hr; exact hr
  · obtain ⟨f1, l1⟩ := wrF_ok (pg := pg23 8) (pa := 4 * (49 + 2 * (0 % 4))) (bs := bytesL [u32N ((0 : Nat) : Int)]) hwF
    rw [hwl] at l1
    obtain ⟨f2, l2⟩ := wrF_ok (pg := pg23 8) (pa := 4 * (50 + 2 * (0 % 4))) (bs := bytesL [u32N ((k : Nat) : Int)]) f1
    rw [l1] at l2
    rw [e7, wd_write f2 l2 (by decide) (by decide) (by decide), if_neg (by decide), wd_write f1 l1 (by decide) (by decide) (u32N_lt _), if_pos (by decide), u32N_nat (by omega)]
end Go.Proofs.YtechkfopkpkigaaGreat
namespace Go.Proofs.YtechkfopkpkigaaGreat
open Go.RowKit
set_option linter.unusedSimpArgs false
set_option linter.unusedVariables false
set_option maxRecDepth 20000
theorem byV_all1 (l : List Nat) : allOne (byV l) = true := by simp [byV, allOne, bV, Value.oneCell']
theorem NicCarries_walk (W0 : World) (sa : Option Addr) (cs : Nat) (bs : List Nat) (hsb : SlB W0 sa 1 (fun x => [bV x]) bs) (hb : By bs) (hbl : bs.length < 9223372036854775808) (hcs : bs.length ≤ cs) (room a b : Nat) (hro : room < 256) (ha : a < 256) (hbb : b < 256) :
    Spec Tryz.prog W0 5 [.slice sa bs.length cs, .int .u8 room, .int .u8 a, .int .u8 b] [] (fun v B => v = .bool true ∧ B = []) := by
  have hP := pg23_ok 8
  obtain ⟨X, hX⟩ : ∃ X, a % 4 = X := ⟨_, rfl⟩
  obtain ⟨Y, hY⟩ : ∃ Y, b % 4 = Y := ⟨_, rfl⟩
  obtain ⟨n, hn⟩ : ∃ n, room % 40 = n := ⟨_, rfl⟩
  have hfl : flB (X : Int) (Y : Int) = decide (X - (X &&& Y) = 0) := by
    rw [flB, isL_iff.2 ⟨by omega, by omega⟩, isL_iff.2 ⟨by omega, by omega⟩, Int.toNat_natCast, Int.toNat_natCast]; simp
  obtain ⟨gs, os, hcell, hsla⟩ := base_cells hsb
  have hsrc := (sla_base (A := []) hsb).src (fun _ => rfl) (fun _ => trivial)
  have hlen : ([1, 0, 0, 0] ++ bs : List Nat).length = 4 + bs.length := by rw [List.length_append]; rfl
  have hby4 : By ([1, 0, 0, 0] ++ bs : List Nat) := By.append (fun x hx => by simp at hx; omega) hb
  obtain ⟨k, hk⟩ : ∃ k, min n bs.length = k := ⟨_, rfl⟩
  have hkl : (bs.take k).length = k := by rw [List.length_take]; omega
  refine spec_body Tryz.func5 Tryz.ntmps5 rfl rfl ?_
  refine x_seq ?_
  refine x_region ?_
  refine s_val rfl (v_assign rfl) ?_
  refine x_nil ?_
  refine n_then ?_
  refine x_seq ?_
  refine x_region ?_
  refine s_val rfl (v_move rfl) ?_
  refine s_val rfl (v_rem rfl rfl (by decide) ((tmodN a 4).trans (congrArg Int.ofNat hX))) ?_
  refine s_val rfl (v_conv Tryz.underlying5 Tryz.underlying3 rfl (w64 (by simp only [Int.ofNat_eq_natCast]; omega))) ?_
  refine s_val rfl (v_assign rfl) ?_
  refine x_nil ?_
  refine n_then ?_
  refine x_seq ?_
  simp only [Int.ofNat_eq_natCast]
  refine x_region ?_
  refine s_val rfl (v_move rfl) ?_
  refine s_val rfl (v_rem rfl rfl (by decide) ((tmodN b 4).trans (congrArg Int.ofNat hY))) ?_
  refine s_val rfl (v_conv Tryz.underlying5 Tryz.underlying3 rfl (w64 (by simp only [Int.ofNat_eq_natCast]; omega))) ?_
  refine s_val rfl (v_assign rfl) ?_
  refine x_nil ?_
  refine n_then ?_
  refine x_seq ?_
  refine x_seq ?_
  simp only [Int.ofNat_eq_natCast]
  refine x_region ?_
  refine s_val rfl (v_move rfl) ?_
  refine s_val rfl (v_len_slice Tryz.underlying76 rfl) ?_
  refine s_val rfl (v_gtr rfl rfl) ?_
  refine x_nil ?_
  refine n_then ?_
  refine x_if rfl ?_ ?_
  · intro c3
    refine x_seq ?_
    refine x_region ?_
    refine s_do rfl (d_call Tryz.call38 rfl (awake27_spec W0 _)) ?_
    rintro _ B_ ⟨rfl, hB_⟩
    obtain rfl := hB_.symm
    refine s_val rfl (v_assign rfl) ?_
    refine x_nil ?_
    refine n_then ?_
    refine x_ret ?_
    refine r_then ?_
    refine x_done (.inl rfl) (.cons (r_tmp rfl) .nil) ?_
    exact ⟨_, ⟨rfl, rfl⟩, inferInstance⟩
  · intro c3
    refine x_skip ?_
    refine n_then ?_
    refine x_seq ?_
    refine x_region ?_
    refine s_val rfl (v_move rfl) ?_
    refine s_val rfl (v_rem rfl rfl (by decide) ((tmodN room 40).trans (congrArg Int.ofNat hn))) ?_
    refine s_val rfl (v_conv Tryz.underlying5 Tryz.underlying3 rfl (w64 (by simp only [Int.ofNat_eq_natCast]; omega))) ?_
    refine s_val rfl (v_assign rfl) ?_
    refine x_nil ?_
    refine n_then ?_
    refine x_seq ?_
    simp only [Int.ofNat_eq_natCast]
    refine x_region ?_
    refine s_val rfl (v_move rfl) ?_
    refine s_val rfl (v_build Tryz.underlying81 Tryz.zeroValue81 (sized_cons Tryz.sizeOf3 (sized_cons Tryz.sizeOf3 sized_nil)) (fil_scal rfl Tryz.sizeOf3 rfl rfl (Nat.le_of_ble_eq_true rfl) SetL.eq (fil_scal rfl Tryz.sizeOf3 rfl rfl (Nat.le_of_ble_eq_true rfl) SetL.eq fil_nil))) ?_
    refine s_val rfl (v_move rfl) ?_
    refine s_val rfl (v_build Tryz.underlying81 Tryz.zeroValue81 (sized_cons Tryz.sizeOf3 (sized_cons Tryz.sizeOf3 sized_nil)) (fil_scal rfl Tryz.sizeOf3 rfl rfl (Nat.le_of_ble_eq_true rfl) SetL.eq (fil_scal rfl Tryz.sizeOf3 rfl rfl (Nat.le_of_ble_eq_true rfl) SetL.eq fil_nil))) ?_
    refine s_do rfl (d_sliceAgg Tryz.underlying24 Tryz.sizeOf81 Tryz.zeroValue81 rfl (elsK_cons rfl rfl (elsK_cons rfl rfl elsK_nil)) rfl (by decide) (by decide) (by decide)) ?_
    rintro _ _ ⟨bl, rfl, rfl⟩
    refine s_do rfl (d_call Tryz.call39 rfl (prNew_spec W0 _ [((X : Int), 0), ((Y : Int), 1)] (some ⟨bl, 0, none⟩) 2 2 rfl (by decide) (sla_cells (.inr ⟨bl, rfl⟩) (cells_all (b := bl)) (fun _ => rfl) rfl (by decide)) (fun x hx => by
  simp at hx
  rcases hx with rfl | rfl
  · exact isL_iff.2 ⟨by show (0 : Int) ≤ (X : Int); omega, by show (X : Int) < 256; omega⟩
  · exact isL_iff.2 ⟨by show (0 : Int) ≤ (Y : Int); omega, by show (Y : Int) < 256; omega⟩))) ?_
    rintro _ B_ ⟨p, rfl, hB_⟩
    obtain rfl := hB_.symm
    have hP0 := newP_okS (l := [((X : Int), 0), ((Y : Int), 1)]) (by show 2 ≤ 8; decide)
    rw [show newP [((X : Int), 0), ((Y : Int), 1)] = p2 X Y [] from rfl] at hP0 ⊢
    refine s_val rfl (v_move rfl) ?_
    refine s_val rfl (v_extract rfl rfl) ?_
    refine s_val rfl (v_extract rfl rfl) ?_
    refine s_val rfl (v_assign rfl) ?_
    refine s_val rfl (v_assign rfl) ?_
    refine x_nil ?_
    refine n_then ?_
    refine x_seq ?_
    refine x_seq ?_
    refine x_region ?_
    refine s_val rfl (v_move rfl) ?_
    refine s_val rfl (v_eql_ptr_nil Tryz.underlying77 rfl rfl) ?_
    refine s_val rfl (v_move rfl) ?_
    refine s_or rfl rfl rfl ?_ ?_
    · intro g7_3
      first | cases g7_3 | exact absurd rfl g7_3
    · intro g7_3
      refine s_val rfl (v_move rfl) ?_
      refine s_yes rfl rfl ?_
      refine s_val rfl (v_neq rfl rfl) ?_
      refine s_val rfl (v_pick_f rfl rfl) ?_
      refine x_nil ?_
      refine n_then ?_
      refine x_if rfl ?_ ?_
      · intro c7
        first | cases c7 | exact absurd rfl c7
      · intro c7
        refine x_skip ?_
        refine n_then ?_
        refine x_seq ?_
        refine x_region ?_
        refine s_do rfl (d_sliceLit Tryz.underlying76 Tryz.sizeOf5 Tryz.zeroValue5 rfl rfl rfl rfl rfl (by decide) (by decide)) ?_
        rintro _ _ ⟨bb, rfl, rfl⟩
        refine run_ent (A := pt bb (cob (byV [1, 0, 0, 0] ++ []) 5) :: portsH p (p2 X Y []) :: pt bl (cob [.int .i64 X, .int .i64 0, .int .i64 Y, .int .i64 1] 81) :: []) (B := osl 5 1 (.slice (some ⟨bb, 0, none⟩) 4 4) (byV [1, 0, 0, 0]) :: portsH p (p2 X Y []) :: []) (ent_osl (E := 5) (sz := 1) (g := bb) (n := 4) (cap := 4) (xs := byV [1, 0, 0, 0]) (sp := []) (by decide) (by decide) rfl rfl) ?_
        refine s_val rfl (v_move rfl) ?_
        refine s_do rfl (d_appendS (sz := 1) (by_ := 1) (info := Tryz.t5) Tryz.underlying76 (by kernel_rfl) rfl rfl rfl rfl (by decide) rfl rfl (news := byV bs) (by
  rcases hsrc with h | ⟨bx, ox, h1, h2⟩
  · left; rw [h]; rfl
  · right; rw [byV_fm] at h2; exact ⟨bx, ox, h1, h2.weak⟩) (by rw [byV_len]; omega) (byV_all1 bs) (by simp only [maxLen]; omega) (by omega)) ?_
        rintro _ _ ⟨a3, c3, rfl, rfl⟩
        rw [show byV [1, 0, 0, 0] ++ byV bs = byV ([1, 0, 0, 0] ++ bs) by simp [byV]]
        refine run_sla (E := 5) (sz := 1) (a := a3) (n := 4 + bs.length) (c := c3) (fun x => [bV x]) ([1, 0, 0, 0] ++ bs) (fun _ => rfl) (by decide) (byV_fm _).symm (fun hs3 => ?_)
        refine s_val rfl (v_move rfl) ?_
        refine s_val rfl (v_len_slice Tryz.underlying76 rfl) ?_
        refine s_val rfl (v_add rfl rfl (by rw [w64 (by omega)]; omega : IntKind.wrap .i64 (4 + (bs.length : Int)) = ((4 + bs.length : Nat) : Int))) ?_
        refine s_do rfl (d_call Tryz.call41 rfl (one27_spec W0 _ a3 c3 (4 + bs.length) (4 + bs.length) 0 (by omega))) ?_
        rintro _ B_ ⟨b1, b2, b3, b4, rfl, hB_⟩
        obtain rfl := hB_.symm
        refine s_do rfl (d_call Tryz.call40 rfl (made27_spec W0 _ (g27 b1 b2 b3 b4 c3 (4 + bs.length) 0 a3 ([1, 0, 0, 0] ++ bs)) (gok27 hlen (by omega) (by decide) hs3 hby4 (by omega)) fit27)) ?_
        rintro _ B_ ⟨pv, ps, pm, qv, qs, qm, bq, br, rfl, hB_⟩
        obtain rfl := hB_.symm
        have hM1 := mk27_ok (g27 b1 b2 b3 b4 c3 (4 + bs.length) 0 a3 ([1, 0, 0, 0] ++ bs))
        obtain ⟨hW1, hr1⟩ := mem_one (b1 := b1) (b2 := b2) (b3 := b3) (b4 := b4) (c := c3) (a := a3) (n := 4 + bs.length) (f := 0) (bs := [1, 0, 0, 0] ++ bs) (by omega) (by decide) hby4 (by rw [hlen]; omega)
        rw [hlen] at hr1
        generalize mk27 (g27 b1 b2 b3 b4 c3 (4 + bs.length) 0 a3 ([1, 0, 0, 0] ++ bs)) = x1 at hM1 hW1 hr1 ⊢
        refine s_val rfl (v_move rfl) ?_
        refine s_val rfl (v_extract rfl rfl) ?_
        refine s_val rfl (v_extract rfl rfl) ?_
        refine s_val rfl (v_extract rfl rfl) ?_
        refine s_val rfl (v_extract rfl rfl) ?_
        refine s_val rfl (v_assign rfl) ?_
        refine s_val rfl (v_assign rfl) ?_
        refine s_val rfl (v_assign rfl) ?_
        refine s_val rfl (v_assign rfl) ?_
        refine x_nil ?_
        refine n_then ?_
        refine x_seq ?_
        refine x_region ?_
        refine s_val rfl (v_move rfl) ?_
        refine s_do rfl (d_call Tryz.call41 rfl (one27_spec W0 _ none 0 0 n 2 (by omega))) ?_
        rintro _ B_ ⟨b5, b6, b7, b8, rfl, hB_⟩
        obtain rfl := hB_.symm
        refine s_do rfl (d_call Tryz.call40 rfl (made27_spec W0 _ (g27 b5 b6 b7 b8 0 n 2 none []) (gok27 rfl (by omega) (by decide) sla_nil (fun x hx => by simp at hx) (by decide)) fit27)) ?_
        rintro _ B_ ⟨pv2, ps2, pm2, qv2, qs2, qm2, bq2, br2, rfl, hB_⟩
        obtain rfl := hB_.symm
        have hM2 := mk27_ok (g27 b5 b6 b7 b8 0 n 2 none [])
        obtain ⟨hW2, _⟩ := mem_one (b1 := b5) (b2 := b6) (b3 := b7) (b4 := b8) (c := 0) (a := none) (n := n) (f := 2) (bs := []) (by omega) (by decide) (fun x hx => by simp at hx) (by decide)
        generalize mk27 (g27 b5 b6 b7 b8 0 n 2 none []) = x2 at hM2 hW2 ⊢
        refine s_val rfl (v_move rfl) ?_
        refine s_val rfl (v_extract rfl rfl) ?_
        refine s_val rfl (v_extract rfl rfl) ?_
        refine s_val rfl (v_extract rfl rfl) ?_
        refine s_val rfl (v_extract rfl rfl) ?_
        refine s_val rfl (v_assign rfl) ?_
        refine s_val rfl (v_assign rfl) ?_
        refine s_val rfl (v_assign rfl) ?_
        refine s_val rfl (v_assign rfl) ?_
        refine x_nil ?_
        refine n_then ?_
        refine x_seq ?_
        refine x_seq ?_
        refine x_region ?_
        refine s_val rfl (v_move rfl) ?_
        refine s_val rfl (v_eql_ptr_nil Tryz.underlying45 rfl rfl) ?_
        refine s_val rfl (v_move rfl) ?_
        refine s_or rfl rfl rfl ?_ ?_
        · intro g11_3
          first | cases g11_3 | exact absurd rfl g11_3
        · intro g11_3
          refine s_val rfl (v_move rfl) ?_
          refine s_yes rfl rfl ?_
          refine s_val rfl (v_eql_ptr_nil Tryz.underlying45 rfl rfl) ?_
          refine s_val rfl (v_pick_f rfl rfl) ?_
          refine s_val rfl (v_move rfl) ?_
          refine s_or rfl rfl rfl ?_ ?_
          · intro g11_7
            first | cases g11_7 | exact absurd rfl g11_7
          · intro g11_7
            refine s_val rfl (v_move rfl) ?_
            refine s_yes rfl rfl ?_
            refine s_val rfl (v_move rfl) ?_
            refine s_yes rfl rfl ?_
            refine s_val rfl (v_move rfl) ?_
            refine s_yes rfl rfl ?_
            refine s_do rfl (d_call5 Tryz.call42 rfl (nicTx27 W0 _ bq p pv ps pm 0 x1 hM1 (p2 X Y []) hP0)) ?_
            rintro _ B_ ⟨y, hy, rfl, hB_⟩
            obtain rfl := hB_.symm
            obtain ⟨f1, d1, e1⟩ := tx_one (x := X) (y := Y) hb (by omega) hM1.2.2 hW1 hr1
            have hyo := svGo_ok (tx := true) (pg := pg23 8) (port := 0) 4 (sv_start q27_ok rfl hM1.1 hM1.2.1 hM1.2.2 hP0)
            rw [e1] at hyo
            obtain ⟨L, hL⟩ : ∃ L, (if flB (X : Int) (Y : Int) = true then [strB bs] else []) = L := ⟨_, rfl⟩
            rw [hL] at e1 hyo
            obtain rfl : y = ⟨f1, d1, tq 4 1 1, p2 X Y L, 1, 1, 4 + bs.length, 0⟩ := hy.trans e1
            dsimp only [SvS.v]
            refine s_yes rfl rfl ?_
            refine s_val rfl (v_move rfl) ?_
            refine s_yes rfl rfl ?_
            refine s_val rfl (v_len_slice Tryz.underlying76 rfl) ?_
            refine s_yes rfl rfl ?_
            refine s_val rfl (v_add rfl rfl (by rw [w64 (by omega)]; omega : IntKind.wrap .i64 (4 + (bs.length : Int)) = ((4 + bs.length : Nat) : Int))) ?_
            refine s_yes rfl rfl ?_
            refine s_val rfl (v_build Tryz.underlying90 Tryz.zeroValue90 (sized_cons Tryz.sizeOf3 (sized_cons Tryz.sizeOf3 (sized_cons Tryz.sizeOf3 (sized_cons Tryz.sizeOf3 sized_nil)))) (fil_scal rfl Tryz.sizeOf3 rfl rfl (Nat.le_of_ble_eq_true rfl) SetL.eq (fil_scal rfl Tryz.sizeOf3 rfl rfl (Nat.le_of_ble_eq_true rfl) SetL.eq (fil_scal rfl Tryz.sizeOf3 rfl rfl (Nat.le_of_ble_eq_true rfl) SetL.eq fil_nil)))) ?_
            refine s_yes rfl rfl ?_
            refine s_val rfl (v_neq_agg Tryz.eqGuardType90 rfl rfl (q_struct Tryz.underlying90 Tryz.stoodInHeld90 (qf_scal rfl Tryz.isAgg3 rfl rfl (q_int Tryz.underlying3) (qf_scal rfl Tryz.isAgg3 rfl rfl (q_int Tryz.underlying3) (qf_scal rfl Tryz.isAgg3 rfl rfl (q_int Tryz.underlying3) (qf_scal rfl Tryz.isAgg3 rfl rfl (q_int Tryz.underlying3) qf_nil)))))) ?_
            refine s_val rfl (v_pick_f rfl rfl) ?_
            refine x_nil ?_
            refine n_then ?_
            refine x_if rfl ?_ ?_
            · intro c11
              exact absurd c11 (by simp)
            · intro c11
              refine x_skip ?_
              refine n_then ?_
              refine x_seq ?_
              refine x_region ?_
              refine s_val rfl (v_move rfl) ?_
              refine s_val rfl (v_move rfl) ?_
              refine s_val rfl (v_move rfl) ?_
              refine s_do rfl (d_call5 Tryz.call43 rfl (nicRx27 W0 _ bq2 p pv2 ps2 pm2 1 x2 hM2 (p2 X Y L) hyo.ps)) ?_
              rintro _ B_ ⟨y2, hy2, rfl, hB_⟩
              obtain rfl := hB_.symm
              refine s_do rfl (d_allocA Tryz.zeroValue90) ?_
              rintro _ _ ⟨b22, rfl, rfl⟩
              refine s_do0 (d_storeAll Tryz.sizeOf90 rfl rfl rfl rfl rfl) ?_
              rintro _ _ rfl
              refine x_nil ?_
              refine n_then ?_
              refine x_seq ?_
              refine x_seq ?_
              refine x_region ?_
              refine s_val rfl (v_move rfl) ?_
              refine s_val rfl (v_move rfl) ?_
              refine s_val rfl (v_andNot rfl rfl (bAndNot_i64 (by omega) (by omega))) ?_
              refine s_val rfl (v_neq rfl rfl) ?_
              refine x_nil ?_
              refine n_then ?_
              refine x_if rfl ?_ ?_
              · intro c14
                have hf : flB (X : Int) (Y : Int) = false := by rw [hfl, decide_eq_false_iff_not]; omega
                rw [hf, if_neg (by decide)] at hL
                subst hL
                obtain rfl : y2 = ⟨x2.1, x2.2, q27, p2 X Y [], 0, 0, 0, 0⟩ := hy2.trans rx_none
                dsimp only [SvS.v]
                refine x_seq ?_
                refine x_region ?_
                refine s_val rfl (v_loadAll Tryz.isAgg90 Tryz.sizeOf90 rfl rfl) ?_
                refine s_val rfl (v_build Tryz.underlying90 Tryz.zeroValue90 (sized_cons Tryz.sizeOf3 (sized_cons Tryz.sizeOf3 (sized_cons Tryz.sizeOf3 (sized_cons Tryz.sizeOf3 sized_nil)))) fil_nil) ?_
                refine s_val rfl (v_eql_agg Tryz.eqGuardType90 rfl rfl (q_struct Tryz.underlying90 Tryz.stoodInHeld90 (qf_scal rfl Tryz.isAgg3 rfl rfl (q_int Tryz.underlying3) (qf_scal rfl Tryz.isAgg3 rfl rfl (q_int Tryz.underlying3) (qf_scal rfl Tryz.isAgg3 rfl rfl (q_int Tryz.underlying3) (qf_scal rfl Tryz.isAgg3 rfl rfl (q_int Tryz.underlying3) qf_nil)))))) ?_
                refine s_val rfl (v_move rfl) ?_
                refine s_and rfl rfl rfl ?_ ?_
                · intro g15_4
                  refine s_val rfl (v_move rfl) ?_
                  refine s_yes rfl rfl ?_
                  refine s_do rfl (d_call1 Tryz.call29 rfl (qState_spec W0 _ bq2 q27)) ?_
                  rintro _ B_ ⟨rfl, hB_⟩
                  obtain rfl := hB_.symm
                  refine s_yes rfl rfl ?_
                  refine s_val rfl (v_fieldV rfl Tryz.underlying59 rfl Tryz.isAgg3 rfl) ?_
                  refine s_yes rfl rfl ?_
                  refine s_val rfl (v_eql rfl rfl) ?_
                  refine s_val rfl (v_pick_t rfl rfl) ?_
                  refine s_val rfl (v_move rfl) ?_
                  refine s_and rfl rfl rfl ?_ ?_
                  · intro g15_10
                    refine s_do rfl (d_call Tryz.call38 rfl (awake27_spec W0 _)) ?_
                    rintro _ B_ ⟨rfl, hB_⟩
                    obtain rfl := hB_.symm
                    refine s_val rfl (v_pick_t rfl rfl) ?_
                    refine s_val rfl (v_assign rfl) ?_
                    refine x_nil ?_
                    refine n_then ?_
                    refine x_ret ?_
                    refine r_then ?_
                    refine x_done (.inl rfl) (.cons (r_tmp rfl) .nil) ?_
                    exact ⟨_, ⟨rfl, rfl⟩, inferInstance⟩
                  · intro g15_10
                    exact absurd rfl g15_10
                · intro g15_4
                  exact absurd (by decide) g15_4
              · intro c14
                have hf : flB (X : Int) (Y : Int) = true := by rw [hfl, decide_eq_true_iff]; omega
                rw [hf, if_pos rfl] at hL
                subst hL
                obtain ⟨f3, d3, e3, hF3, hl3, hd3, hrd3, hwd3⟩ := rx_two (x := X) (y := Y) (n := n) (k := k) (s := strB bs) (by omega) (by rw [strB_size]; omega) (by rw [strB_size]; exact hk) hM2.2.2 hW2
                rw [bL_strB hb] at hrd3
                obtain rfl : y2 = ⟨f3, d3, tq 4 1 1, p2 X Y [], 1, 1, k, 0⟩ := hy2.trans e3
                dsimp only [SvS.v]
                refine x_skip ?_
                refine n_then ?_
                refine x_seq ?_
                refine x_region ?_
                refine s_val rfl (v_move rfl) ?_
                refine s_val rfl (v_move rfl) ?_
                refine s_val rfl (v_len_slice Tryz.underlying76 rfl) ?_
                refine s_val rfl (v_min rfl rfl (by split <;> omega : (if ((bs.length : Nat) : Int) < ((n : Nat) : Int) then ((bs.length : Nat) : Int) else ((n : Nat) : Int)) = ((k : Nat) : Int))) ?_
                refine s_val rfl (v_assign rfl) ?_
                refine x_nil ?_
                refine n_then ?_
                refine x_seq ?_
                refine x_region ?_
                refine s_val rfl (v_move rfl) ?_
                refine s_val rfl (v_move rfl) ?_
                refine s_do rfl (d_call3 Tryz.call44 rfl (viRead_spec W0 _ pv2 ps2 pm2 d3 f3 (pg23 8) hP hF3 320 (by decide) (k : Nat))) ?_
                rintro _ B_ ⟨a5, c5, rfl, hB_⟩
                obtain rfl := hB_.symm
                rw [hrd3, show ownB f3.length (pg23 8) 320 (k : Int) = true by rw [hl3]; exact own_any (by omega)]
                refine s_val rfl (v_move rfl) ?_
                refine s_val rfl (v_extract rfl rfl) ?_
                refine s_val rfl (v_extract rfl rfl) ?_
                refine s_val rfl (v_assign rfl) ?_
                refine s_val rfl (v_assign rfl) ?_
                refine x_nil ?_
                refine n_then ?_
                refine x_seq ?_
                refine x_region ?_
                refine s_val rfl (v_move rfl) ?_
                refine s_do rfl (d_call3 Tryz.call45 rfl (viLoad_spec W0 _ pv2 ps2 pm2 d3 f3 (pg23 8) hP hF3 200 (by decide) 4)) ?_
                rintro _ B_ ⟨rfl, hB_⟩
                obtain rfl := hB_.symm
                rw [show vldN f3 (pg23 8) 200 4 = k from (ld_wd (k := 50) hF3 hl3 (by decide)).trans hwd3]
                refine s_val rfl (v_move rfl) ?_
                refine s_val rfl (v_extract rfl rfl) ?_
                refine s_val rfl (v_extract rfl rfl) ?_
                refine s_val rfl (v_assign rfl) ?_
                refine s_val rfl (v_assign rfl) ?_
                refine x_nil ?_
                refine n_then ?_
                refine x_seq ?_
                refine run_form (E := 5) (sz := 1) (a := a5) (c := c5) (n := (bs.take k).length) (ys := byV (bs.take k)) (fun hf5 => ?_)
                refine x_draw [(b22, 0, _), (obk a5, 0, byV (bs.take k)), (gs, os, byV bs)] 31 mixed rfl (sc_own (sc_cons (cells_osl (E := 5) (sz := 1) (a := a5) (c := c5) (n := (bs.take k).length)) (sc_cons (hcell _) sc_end))) (fun hS => ?_)
                refine d_take 0 rfl rfl (by kernel_rfl) (by kernel_rfl) (by kernel_rfl) rfl hS (v_loadAgg Tryz.isAgg90 Tryz.sizeOf90 rfl (by first | exact cells_sc (k := 0) rfl | exact cells_sc (k := 1) rfl | exact cells_sc (k := 2) rfl | exact cells_sc (k := 3) rfl) rfl) ?_
                refine d_take 1 rfl rfl (by kernel_rfl) (by kernel_rfl) (by kernel_rfl) rfl hS (v_move rfl) ?_
                refine d_take 2 rfl rfl (by kernel_rfl) (by kernel_rfl) (by kernel_rfl) rfl hS (v_build Tryz.underlying90 Tryz.zeroValue90 (sized_cons Tryz.sizeOf3 (sized_cons Tryz.sizeOf3 (sized_cons Tryz.sizeOf3 (sized_cons Tryz.sizeOf3 sized_nil)))) (fil_scal rfl Tryz.sizeOf3 rfl rfl (Nat.le_of_ble_eq_true rfl) SetL.eq (fil_scal rfl Tryz.sizeOf3 rfl rfl (Nat.le_of_ble_eq_true rfl) SetL.eq (fil_scal rfl Tryz.sizeOf3 rfl rfl (Nat.le_of_ble_eq_true rfl) SetL.eq fil_nil)))) ?_
                refine d_take 3 rfl rfl (by kernel_rfl) (by kernel_rfl) (by kernel_rfl) rfl hS (v_eql_agg Tryz.eqGuardType90 rfl rfl (q_struct Tryz.underlying90 Tryz.stoodInHeld90 (qf_scal rfl Tryz.isAgg3 rfl rfl (q_int Tryz.underlying3) (qf_scal rfl Tryz.isAgg3 rfl rfl (q_int Tryz.underlying3) (qf_scal rfl Tryz.isAgg3 rfl rfl (q_int Tryz.underlying3) (qf_scal rfl Tryz.isAgg3 rfl rfl (q_int Tryz.underlying3) qf_nil)))))) ?_
                refine d_take 4 rfl rfl (by kernel_rfl) (by kernel_rfl) (by kernel_rfl) rfl hS (v_move rfl) ?_
                refine x_split (t := 133) rfl ?_ ?_
                · intro g19_5
                  refine d_take 5 rfl rfl (by kernel_rfl) (by kernel_rfl) (by kernel_rfl) rfl hS (v_move rfl) ?_
                  refine d_take 6 rfl rfl (by kernel_rfl) (by kernel_rfl) (by kernel_rfl) rfl hS (v_pick_t rfl rfl) ?_
                  refine d_take 7 rfl rfl (by kernel_rfl) (by kernel_rfl) (by kernel_rfl) rfl hS (v_move rfl) ?_
                  refine x_split (t := 136) rfl ?_ ?_
                  · intro g19_8
                    refine d_take 8 rfl rfl (by kernel_rfl) (by kernel_rfl) (by kernel_rfl) rfl hS (v_move rfl) ?_
                    refine d_take 9 rfl rfl (by kernel_rfl) (by kernel_rfl) (by kernel_rfl) rfl hS (v_bstrS Tryz.underlying76 Tryz.underlying5 Tryz.underlying9 rfl (sla_cells hf5 (cells_sc (k := 1) rfl) (fun _ => rfl) (byV_fm _).symm (by decide))) ?_
                    refine d_take 10 rfl rfl (by kernel_rfl) (by kernel_rfl) (by kernel_rfl) rfl hS (v_move rfl) ?_
                    refine d_take 11 rfl rfl (by kernel_rfl) (by kernel_rfl) (by kernel_rfl) rfl hS (v_move rfl) ?_
                    refine d_take 12 rfl rfl (by kernel_rfl) (by kernel_rfl) (by kernel_rfl) rfl hS (v_sliceH Tryz.underlying76 Tryz.sizeOf5 rfl rfl rfl (by omega)) ?_
                    refine d_take 13 rfl rfl (by kernel_rfl) (by kernel_rfl) (by kernel_rfl) rfl hS (v_bstrSN Tryz.underlying76 Tryz.underlying5 Tryz.underlying9 rfl hkl ((hsla _ (cells_sc (k := 2) rfl)).take k)) ?_
                    refine d_take 14 rfl rfl (by kernel_rfl) (by kernel_rfl) (by kernel_rfl) rfl hS (v_eql_str rfl rfl) ?_
                    refine d_take 15 rfl rfl (by kernel_rfl) (by kernel_rfl) (by kernel_rfl) rfl hS (v_pick_t rfl rfl) ?_
                    refine d_take 16 rfl rfl (by kernel_rfl) (by kernel_rfl) (by kernel_rfl) rfl hS (v_move rfl) ?_
                    refine x_split (t := 145) rfl ?_ ?_
                    · intro g19_17
                      refine d_take 17 rfl rfl (by kernel_rfl) (by kernel_rfl) (by kernel_rfl) rfl hS (v_move rfl) ?_
                      refine d_take 18 rfl rfl (by kernel_rfl) (by kernel_rfl) (by kernel_rfl) rfl hS (v_move rfl) ?_
                      refine d_take 19 rfl rfl (by kernel_rfl) (by kernel_rfl) (by kernel_rfl) rfl hS (v_conv Tryz.underlying3 Tryz.underlying53 rfl (w32u (by omega))) ?_
                      refine d_take 20 rfl rfl (by kernel_rfl) (by kernel_rfl) (by kernel_rfl) rfl hS (v_eql rfl rfl) ?_
                      refine d_take 21 rfl rfl (by kernel_rfl) (by kernel_rfl) (by kernel_rfl) rfl hS (v_pick_t rfl rfl) ?_
                      refine d_take 22 rfl rfl (by kernel_rfl) (by kernel_rfl) (by kernel_rfl) rfl hS (v_move rfl) ?_
                      refine x_split (t := 151) rfl ?_ ?_
                      · intro g19_23
                        refine d_take 23 rfl rfl (by kernel_rfl) (by kernel_rfl) (by kernel_rfl) rfl hS (v_move rfl) ?_
                        refine d_one 24 (by kernel_rfl) rfl rfl (d_call1 Tryz.call46 rfl (prWaits_spec W0 _ p (p2 X Y []) 1)) rfl ?_; clear hS
                        rintro _ B_ ⟨rfl, hB_⟩
                        obtain rfl := hB_.symm
                        rw [p2_wt]
                        refine ⟨(sc_own (sc_cons (cells_osl (E := 5) (sz := 1) (a := a5) (c := c5) (n := (bs.take k).length)) (sc_cons (hcell _) sc_end))), fun hS => ?_⟩
                        refine d_take 25 rfl rfl (by kernel_rfl) (by kernel_rfl) (by kernel_rfl) rfl hS (v_eql rfl rfl) ?_
                        refine d_take 26 rfl rfl (by kernel_rfl) (by kernel_rfl) (by kernel_rfl) rfl hS (v_pick_t rfl rfl) ?_
                        refine d_take 27 rfl rfl (by kernel_rfl) (by kernel_rfl) (by kernel_rfl) rfl hS (v_move rfl) ?_
                        refine x_split (t := 156) rfl ?_ ?_
                        · intro g19_28
                          refine d_one 28 (by kernel_rfl) rfl rfl (d_call Tryz.call38 rfl (awake27_spec W0 _)) rfl ?_; clear hS
                          rintro _ B_ ⟨rfl, hB_⟩
                          obtain rfl := hB_.symm
                          refine ⟨(sc_own (sc_cons (cells_osl (E := 5) (sz := 1) (a := a5) (c := c5) (n := (bs.take k).length)) (sc_cons (hcell _) sc_end))), fun hS => ?_⟩
                          refine d_take 29 rfl rfl (by kernel_rfl) (by kernel_rfl) (by kernel_rfl) rfl hS (v_pick_t rfl rfl) ?_
                          refine d_take 30 rfl rfl (by kernel_rfl) (by kernel_rfl) (by kernel_rfl) rfl hS (v_assign rfl) ?_
                          refine d_done (by kernel_rfl) ?_; clear hS
                          refine n_then ?_
                          refine x_ret ?_
                          refine x_done (.inl rfl) (.cons (r_tmp rfl) .nil) ?_
                          exact ⟨_, ⟨rfl, rfl⟩, inferInstance⟩
                        · intro g19_28
                          exact absurd rfl g19_28
                      · intro g19_23
                        exact absurd rfl g19_23
                    · intro g19_17
                      exact absurd (beq_self_eq_true _) g19_17
                  · intro g19_8
                    exact absurd rfl g19_8
                · intro g19_5
                  exact absurd (by simp) g19_5
end Go.Proofs.YtechkfopkpkigaaGreat
namespace Go.Proofs.YtechkfopkpkigaaGreat
open Go.ChangeShapes Go.WideShapes Go.ChangeAt Go.RowKit
set_option linter.unusedSimpArgs false
set_option linter.unusedVariables false
theorem own : ownKnob Tryz.prog.godebug = none := by kernel_rfl
theorem laidOut : laidOutB Tryz.prog = true := by kernel_rfl
variable {W : World} {v : Value}
theorem wf_u8 {n : Int} (h : (Lit.int .u8 n).wf = true) : ∃ w : Nat, n = (w : Int) ∧ w < 256 := by
  simp [Lit.wf, IntKind.min, IntKind.max, IntKind.signed, IntKind.bits] at h
  exact ⟨n.toNat, by omega, by omega⟩
theorem ty_u8 (h : Ty Tryz.prog W 5 v) : ∃ w : Nat, v = .int .u8 w ∧ w < 256 := by
  obtain ⟨n, rfl, hw⟩ := ty_int Tryz.underlying5 h
  obtain ⟨w, rfl, h'⟩ := wf_u8 hw
  exact ⟨w, rfl, h'⟩
end Go.Proofs.YtechkfopkpkigaaGreat
namespace Go.Proofs.YtechkfopkpkigaaGreat
open Go.ChangeShapes Go.WideShapes Go.ChangeAt Go.RowKit
set_option linter.unusedSimpArgs false
set_option linter.unusedVariables false
variable {W : World} {v : Value}
theorem inT_byteB {fuel : Nat} {l : List Value} (h : InT Tryz.prog W fuel 5 l) : ∃ x : Nat, l = [bV x] ∧ x < 256 := by
  obtain ⟨n, rfl, hw⟩ := inT_int Tryz.underlying5 h
  obtain ⟨w, rfl, h'⟩ := wf_u8 hw
  exact ⟨w, rfl, h'⟩
theorem ty_bytesB (h : Ty Tryz.prog W 76 v) : ∃ a c xs, v = .slice a (List.length (α := Nat) xs) c ∧ xs.length < 9223372036854775808 ∧ xs.length ≤ c ∧ SlB W a 1 (fun x => [bV x]) xs ∧ By xs := by
  obtain ⟨a, c, xs, rfl, h1, h2, h3, h4⟩ := ty_sliceF (f := fun x => [bV x]) (Q := fun x => x < 256) 1 Tryz.underlying76 (by kernel_rfl) (by decide) (fun fuel r h => inT_byteB h) h
  exact ⟨a, c, xs, rfl, by simp only [maxLen] at h2; omega, h1, h3, h4⟩
end Go.Proofs.YtechkfopkpkigaaGreat
namespace Go.Proofs.YtechkfopkpkigaaGreat
open Go.ChangeShapes Go.WideShapes Go.ChangeAt Go.RowKit
set_option linter.unusedSimpArgs false
set_option linter.unusedVariables false
variable {W : World} {v : Value}
end Go.Proofs.YtechkfopkpkigaaGreat
namespace Go.Proofs.YtechkfopkpkigaaGreat
open Go.ChangeShapes Go.WideShapes Go.ChangeAt Go.RowKit
set_option linter.unusedSimpArgs false
set_option linter.unusedVariables false
variable {W : World} {v : Value}
end Go.Proofs.YtechkfopkpkigaaGreat
