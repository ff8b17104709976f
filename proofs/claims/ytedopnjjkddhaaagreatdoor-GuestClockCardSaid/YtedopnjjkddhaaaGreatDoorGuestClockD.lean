/-
  Part 4 of the proof of GuestClock: rules, and walks of functions. Conditions: none.
-/
import Derived.Test.YtedopnjjkddhaaaGreatDoorGuestClockC
namespace Go.Proofs.YtedopnjjkddhaaaGreatDoor
open Go.Proofs.Tryz
set_option linter.unusedSimpArgs false
set_option linter.unusedVariables false
set_option maxRecDepth 20000
set_option linter.defProp false
set_option synthInstance.maxSize 8192
set_option synthInstance.maxHeartbeats 2000000
variable {W0 : World} {R : List HP}
section
open Go.RowKit
theorem Bw (b : Nat) (its : List It) (tl : List Value) (i : Nat) (hN : its.length < 1000) (hi : i < its.length) (hH : hQ its i its.length) : sP W0 380 [li b, .int .i64 i] (aQ b (its, tl) :: R) (fun v B => v = .tuple #[] ∧ ∃ its', B = aQ b (its', tl) :: R ∧ its'.Perm its ∧ Heap its' its.length) := by
 refine ai 5 func380 ntmps380 ?_
 refine aM (e8 rfl ((fun w => vw w _)) qB rfl (oQ b its tl)) ?_
 refine aB rfl (ao wx rfl (tc W0 _ b its tl i its.length (Nat.le_refl _) hN (by omega) hH)) ?_
 rintro _ _ ⟨l, m, rfl, rfl, hD⟩
 refine au 3 ?_
 refine a8 rfl (fun c0 => ?_) fun c0 => ?_
 ·have hm : m = false := by simpa using c0
  obtain ⟨rfl, hmin⟩ := hD.no hm
  refine au 3 ?_
  refine aB rfl (ao zx rfl (t9 W0 _ b l tl i l.length (Nat.le_refl _) hN hi (xE hH hmin))) ?_
  rintro _ _ ⟨rfl, l', rfl, hp, hh, _⟩
  refine bX (bT (.inr rfl) .nil ?_)
  exact ⟨_, ⟨rfl, l', rfl, hp, hh⟩, inferInstance⟩
 refine iF (bT (.inr rfl) .nil ?_)
 exact ⟨_, ⟨rfl, l, rfl, hD.perm, hD.yes (by simpa using c0)⟩, inferInstance⟩
theorem B2 {its : List It} {x : It} (h : Heap its its.length) : Up (its ++ [x]) its.length (its.length + 1) := by
 have e : ∀ c, c < its.length → us (its ++ [x]) c = us its c := fun c hc => by
  unfold us; simp only [List.getD_eq_getElem?_getD]; rw [List.getElem?_append_left hc]
 intro c hc h0
 refine ⟨fun h1 => ?_, fun h1 h2 => by omega⟩
 rw [e c (by omega), e _ (by omega)]; exact h c (by omega) h0
theorem heapPush_spec (b : Nat) (its : List It) (x : It) (tl : List Value) (hN : its.length < 900) (hh : Heap its its.length) : sP W0 66 [li b, .iface 385 (.agg (bH x).toArray)] (aQ b (its, tl) :: R) (fun v B => v = .tuple #[] ∧ ∃ its', B = aQ b (its', tl) :: R ∧ its'.Perm (its ++ [x]) ∧ Heap its' its'.length) := by
 have hl : (its ++ [x]).length = its.length + 1 := by simp
 refine ai 4 func66 ntmps66 ?_
 refine ar 5 (e8 rfl ((fun w => TF w _)) call507 rfl (TE b its x tl (by omega))) ?_
 refine aM (e8 rfl ((fun w => vw w _)) qB rfl (oQ b (its ++ [x]) tl)) ?_
 refine a7 rfl (cZ rfl rfl (by rw [aG (by omega)]; omega : IntKind.wrap .i64 (((its ++ [x]).length : Nat) - 1 : Int) = ((its.length : Nat) : Int))) ?_
 refine aB rfl (ao zx rfl (t9 W0 _ b (its ++ [x]) tl its.length (its.length + 1) (by omega) (by omega) (by omega) (B2 hh))) ?_
 rintro _ _ ⟨rfl, l', rfl, hp, hh', _⟩
 refine bX (bT (.inr rfl) .nil ?_)
 exact ⟨_, ⟨rfl, l', rfl, hp, by rw [hp.length_eq, hl]; exact hh'⟩, inferInstance⟩
theorem vg {l : List It} {n : Nat} (h : l.length = n + 1) : ∃ l' x, l = l' ++ [x] ∧ l'.length = n ∧ x = l.getD n default := by
 have hne : l ≠ [] := fun e => by rw [e] at h; simp at h
 refine ⟨l.dropLast, l.getLast hne, (List.dropLast_concat_getLast hne).symm, by simp [h], ?_⟩
 rw [List.getLast_eq_getElem]
 simp [List.getD, h]
theorem vh {l : List It} {x : It} {n : Nat} (h : Heap (l ++ [x]) n) (hn : n ≤ l.length) : Heap l n :=
 AU (fun i hi => by simp only [List.getD_eq_getElem?_getD]; rw [List.getElem?_append_left (by omega)]) h
theorem heapPop_spec (b : Nat) (its : List It) (tl : List Value) (hN : its.length < 900) (h0 : its ≠ []) (hh : Heap its its.length) : sP W0 113 [li b] (aQ b (its, tl) :: R) (fun v B => ∃ x its', v = .iface 385 (.agg (bH x).toArray) ∧ B = aQ b (its', tl) :: R ∧ (its' ++ [x]).Perm its ∧ Heap its' its'.length ∧ ∀ y ∈ its, x.u ≤ y.u) := by
 obtain ⟨n, hn⟩ : ∃ n, its.length = n + 1 := ⟨its.length - 1, by have := List.length_pos_iff.2 h0; omega⟩
 have hs : hQ (swapL its 0 n) 0 n := fun c hc h0 => ⟨fun h1 h2 => by
  rw [j6 (by omega) (by omega), j6 (by omega) (by omega), if_neg h2, if_neg h1, if_neg (by omega), if_neg (by omega)]
  exact hh c (by omega) h0, fun _ h => by omega⟩
 have hsl := v6 its 0 n
 refine ai 8 func113 ntmps113 ?_
 refine aM (e8 rfl ((fun w => vw w _)) qB rfl (oQ b its tl)) ?_
 refine ap 7 (cZ rfl rfl (by rw [aG (by omega)]; omega : IntKind.wrap .i64 ((its.length : Nat) - 1 : Int) = ((n : Nat) : Int))) ?_
 refine ar 6 (e8 rfl ((fun w => vy w _)) zI rfl (vv b its tl 0 n (by omega) (by omega))) ?_
 refine aB rfl (ao wx rfl (tc W0 _ b (swapL its 0 n) tl 0 n (by omega) (by omega) (by omega) hs)) ?_
 rintro _ _ ⟨l, m, rfl, rfl, hD⟩
 have hll := hD.perm.length_eq
 obtain ⟨l', x, rfl, hl', hx⟩ := vg (l := l) (n := n) (by omega)
 have hx0 : x = its.getD 0 default := by
  rw [hx, hD.tail n (Nat.le_refl _), oH (by omega) (by omega)]; split
  ·rename_i e; subst e; rfl
  rw [if_pos rfl]
 have hp : (l' ++ [x]).Perm its := hD.perm.trans (iP (by omega) (by omega))
 have hH : Heap (l' ++ [x]) n := by
  cases m with
  | true => exact hD.yes rfl
  | false =>
   obtain ⟨e, hmin⟩ := hD.no rfl
   rw [e]; exact v7 hs hmin (fun h => absurd h (by omega))
 refine au 5 ?_
 refine ar 4 (e8 rfl ((fun w => yj w _)) D8 rfl (yi b l' x tl)) ?_
 refine ae ?_
 refine ⟨_, ⟨x, l', rfl, rfl, hp, by rw [hl']; exact vh hH (by omega), fun y hy => ?_⟩, inferInstance⟩
 obtain ⟨c, hc, rfl⟩ := List.mem_iff_getElem.1 hy
 have := heap_min hh c hc
 rw [us_eq hc] at this
 rw [hx0]; exact this
theorem heapRemove_spec (b : Nat) (its : List It) (tl : List Value) (i : Nat) (hN : its.length < 900) (hi : i < its.length) (hh : Heap its its.length) : sP W0 189 [li b, .int .i64 i] (aQ b (its, tl) :: R) (fun v B => ∃ its', v = .iface 385 (.agg (bH (its.getD i default)).toArray) ∧ B = aQ b (its', tl) :: R ∧ (its' ++ [its.getD i default]).Perm its ∧ Heap its' its'.length) := by
 obtain ⟨n, hn⟩ : ∃ n, its.length = n + 1 := ⟨its.length - 1, by omega⟩
 have hs : i ≠ n → hQ (swapL its i n) i n := fun hin c hc h0 => ⟨fun h1 h2 => by
  rw [j6 (by omega) (by omega), j6 (by omega) (by omega), if_neg h2, if_neg h1, if_neg (by omega), if_neg (by omega)]
  exact hh c (by omega) h0, fun h1 h2 => by
  rw [j6 (by omega) (by omega), j6 (by omega) (by omega), if_neg (by omega), if_neg (by omega), if_neg (by omega), if_neg (by omega)]
  have k1 := hh c (by omega) h0
  have k2 := hh i (by omega) h2
  rw [h1] at k1; omega⟩
 have hsl := v6 its i n
 have fin : ∀ l : List It, l.Perm its → Heap l n → l.getD n default = its.getD i default → ∃ l', l = l' ++ [its.getD i default] ∧ l'.length = n ∧ Heap l' l'.length := fun l hp hH hx => by
  have := hp.length_eq
  obtain ⟨l', x, rfl, hl', hx'⟩ := vg (l := l) (n := n) (by omega)
  rw [hx] at hx'; subst hx'
  exact ⟨l', rfl, hl', by rw [hl']; exact vh hH (by omega)⟩
 have hend : i ≠ n → (swapL its i n).getD n default = its.getD i default := fun h => by
  rw [oH (by omega) (by omega), if_neg (by omega), if_pos rfl]
 refine ai 8 func189 ntmps189 ?_
 refine aM (e8 rfl ((fun w => vw w _)) qB rfl (oQ b its tl)) ?_
 refine ap 11 (cZ rfl rfl (by rw [aG (by omega)]; omega : IntKind.wrap .i64 ((its.length : Nat) - 1 : Int) = ((n : Nat) : Int))) ?_
 refine a8 rfl (fun c2 => ?_) fun c2 => ?_
 ·have hin : i ≠ n := by omega
  refine au 5 ?_
  refine ar 7 (e8 rfl ((fun w => vy w _)) zI rfl (vv b its tl i n (by omega) (by omega))) ?_
  refine aB rfl (ao wx rfl (tc W0 _ b (swapL its i n) tl i n (by omega) (by omega) (by omega) (hs hin))) ?_
  rintro _ _ ⟨l, m, rfl, rfl, hD⟩
  have hll := hD.perm.length_eq
  refine au 3 ?_
  refine a8 rfl (fun c4 => ?_) fun c4 => ?_
  ·have hm : m = false := by simpa using c4
   obtain ⟨rfl, hmin⟩ := hD.no hm
   refine au 3 ?_
   refine aB rfl (ao zx rfl (t9 W0 _ b (swapL its i n) tl i n (by omega) (by omega) (by omega) (xE (hs hin) hmin))) ?_
   rintro _ _ ⟨rfl, l, rfl, hp, hH, ht⟩
   obtain ⟨l', rfl, hl', hH⟩ := fin l (hp.trans (iP (by omega) (by omega))) hH ((ht n (Nat.le_refl _)).trans (hend hin))
   replace hp := hp.trans (iP (by omega) (by omega))
   generalize its.getD i default = x at hp ⊢
   refine au 5 ?_
   refine ar 4 (e8 rfl ((fun w => yj w _)) D8 rfl (yi b l' x tl)) ?_
   refine ae ?_
   exact ⟨_, ⟨l', rfl, rfl, by first | exact hp | exact List.Perm.refl _, hH⟩, inferInstance⟩
  have hm : m = true := by simpa using c4
  obtain ⟨l', rfl, hl', hH⟩ := fin l (hD.perm.trans (iP (by omega) (by omega))) (hD.yes hm) ((hD.tail n (Nat.le_refl _)).trans (hend hin))
  have hp := hD.perm.trans (iP (l := its) (i := i) (j := n) (by omega) (by omega))
  generalize its.getD i default = x at hp ⊢
  refine au 5 ?_
  refine ar 4 (e8 rfl ((fun w => yj w _)) D8 rfl (yi b l' x tl)) ?_
  refine ae ?_
  exact ⟨_, ⟨l', rfl, rfl, by first | exact hp | exact List.Perm.refl _, hH⟩, inferInstance⟩
 obtain rfl : n = i := by omega
 obtain ⟨l', hl, hl', hH⟩ := fin its (List.Perm.refl _) (AV hh (by omega)) rfl
 have hp : (l' ++ [its.getD n default]).Perm its := by rw [← hl]
 generalize hx : its.getD n default = x at hl hp ⊢
 rw [hl]
 refine au 5 ?_
 refine ar 4 (e8 rfl ((fun w => yj w _)) D8 rfl (yi b l' x tl)) ?_
 refine ae ?_
 exact ⟨_, ⟨l', rfl, rfl, by first | exact hp | exact List.Perm.refl _, hH⟩, inferInstance⟩
@[reducible] def fH (k : Int × Int) : List Value := [.int .i64 k.1, .int .i64 k.2]
@[reducible] def mb (e : Int × Int × Int) : List Value := [.int .i64 e.1, .int .i64 e.2.1, .int .i64 e.2.2]
theorem TG (x : It) (bk : Nat) (k : Int × Int) : sQ W0 330 [.agg (bH x).toArray, .pointer (some ⟨bk, 0, none⟩)] (pt bk (ac (fH k) 314) :: R) (.bool (decide (x.key = k))) (pt bk (ac (fH k) 314) :: R) := by
 refine ai 2 func330 ntmps330 ?_
 refine ax (aV rfl) fun b1 => ?_
 refine au 7 ?_
 refine a7 rfl (b0 jP g8 rfl (cC (vs := [.int .i64 x.kr, .int .i64 x.kp]) rfl rfl) rfl) ?_
 refine a7 rfl (b0 jP g8 rfl (cC (vs := [.int .i64 k.1, .int .i64 k.2]) rfl rfl) rfl) ?_
 refine ap 4 (uw Tryz.eqGuardType314 rfl rfl (uv zJ Tryz.stoodInHeld314 (ng rfl aX rfl rfl (nf cW) (ng rfl aX rfl rfl (nf cW) uu)))) ?_
 refine ae ?_
 refine aR ?_
 simp [bz, It.key, Prod.ext_iff]; rw [Bool.eq_iff_iff]; simp
def Gj (its : List It) (k : Int × Int) (r : Int) : Prop := (r = -1 ∧ ∀ x ∈ its, x.key ≠ k) ∨ ∃ i : Nat, r = (i : Int) ∧ i < its.length ∧ (its.getD i default).key = k
theorem TH {its : List It} {k : Int × Int} (h : ∀ i, i < its.length → (its.getD i default).key ≠ k) : ∀ x ∈ its, x.key ≠ k := fun x hx => by
 obtain ⟨c, hc, rfl⟩ := List.mem_iff_getElem.1 hx
 have := h c hc
 simpa [List.getD, hc] using this
theorem TJ (its : List It) (a : Option Addr) (c bk : Nat) (k : Int × Int) (hN : its.length < 1000) : sP W0 329 [.slice a its.length c, .func (.func 330) #[] #[.pointer (some ⟨bk, 0, none⟩)]] (osl 385 6 (.slice a its.length c) (its.flatMap bH) :: pt bk (ac (fH k) 314) :: R) (fun v B => ∃ r, v = .int .i64 r ∧ B = osl 385 6 (.slice a its.length c) (its.flatMap bH) :: pt bk (ac (fH k) 314) :: R ∧ Gj its k r) := by
 refine uG (fun h1 h2 => ?_) fun g n cap sp h1 h2 h3 h4 h5 => ?_
 ·have h0 : its.length = 0 := by have := cz eQ its; rw [h2] at this; simp at this; omega
  obtain rfl : its = [] := List.eq_nil_of_length_eq_zero h0
  cases h1
  refine ai 14 D9 ntmps329 ?_
  refine cY (fun X : Nat => True) (fun X => [(7, .int .i64 0), (8, .int .i64 X)]) (fun X => pt bk (ac (fH k) 314) :: R) (fun X => X) 0 ?_ ?_
  ·trivial
  intro j hj
  refine au 6 ?_
  refine a8 rfl (fun c2 => ?_) fun c2 => ?_
  ·omega
  refine au 11 ?_
  refine ae ?_
  exact ⟨_, ⟨-1, rfl, rfl, .inl ⟨rfl, by simp⟩⟩, fR⟩
 cases h1
 refine ai 14 D9 ntmps329 ?_
 refine cY (fun X : Nat => X ≤ its.length ∧ ∀ i, i < X → (its.getD i default).key ≠ k) (fun X => [(0, .slice (some ⟨g, 0, none⟩) its.length c), (1, .func (.func 330) #[] #[.pointer (some ⟨bk, 0, none⟩)]), (7, .int .i64 (its.length : Nat)), (8, .int .i64 X)]) (fun X => pt g (ac (its.flatMap bH ++ sp) 385) :: pt bk (ac (fH k) 314) :: R) (fun X => its.length - X) 0 ?_ ?_
 ·exact ⟨Nat.zero_le _, fun i h => absurd h (Nat.not_lt_zero _)⟩
 intro j ⟨hj, hno⟩
 refine au 6 ?_
 refine a8 rfl (fun c2 => ?_) fun c2 => ?_
 ·refine au 15 ?_
  refine a7 rfl (bc dD bM rfl rfl rfl (by omega) (by first | exact Nat.zero_add _ | rfl)) ?_
  refine a7 rfl (b0 fp bM rfl (cC (iz its sp j (by omega)) rfl) rfl) ?_
  refine ar 2 (qL rfl call330 rfl (TG (its.getD j default) bk k)) ?_
  refine a8 rfl (fun c4 => ?_) fun c4 => ?_
  ·replace c4 : (its.getD j default).key = k := by simpa using c4
   refine au 12 ?_
   refine ae ?_
   exact ⟨_, ⟨_, rfl, rfl, .inr ⟨j, rfl, by omega, c4⟩⟩, eB h2 h3 h4 h5⟩
  refine au 4 ?_
  refine ap 3 (cM rfl rfl) ?_
  refine bZ (j + 1) ?_
  ·refine ⟨by omega, fun i hi => ?_⟩
   by_cases e : i = j
   ·subst e; simpa using c4
   exact hno i (by omega)
 refine au 11 ?_
 refine ae ?_
 exact ⟨_, ⟨-1, rfl, rfl, .inl ⟨rfl, TH fun i hi => hno i (by omega)⟩⟩, eB h2 h3 h4 h5⟩
theorem tE (b : Nat) (its : List It) (rm nw : Value) : sQ W0 276 [.pointer (some ⟨b, 0, none⟩)] (aQ b (its, [rm, nw, .bool true]) :: R) (.bool false) (aQ b (its, [rm, nw, .bool true]) :: R) := by
 refine tD fun a c => ?_
 refine ai 10 func276 ntmps276 ?_
 refine bB rfl rfl rfl (fun g1_3 => ?_) fun g1_3 => ?_
 ·cases g1_3
 refine au 14 ?_
 refine ae ?_
 exact ⟨_, ⟨by simp [bz], rfl⟩, oN rfl⟩
theorem Gk (b : Nat) (v0 rm : Value) (now : Nat) (hn : now < 1000000) : sQ W0 379 [.pointer (some ⟨b, 0, none⟩)] (pt b (ac [v0, rm, .int .i64 now, .bool true] 391) :: R) (.int .i64 (now + 1 : Nat)) (pt b (ac [v0, rm, .int .i64 (now + 1 : Nat), .bool true] 391) :: R) := by
 refine ai 11 func379 ntmps379 ?_
 refine ap 2 (bO rfl rfl (by rw [aG (by omega)]; omega : IntKind.wrap .i64 ((now : Int) + 1) = ((now + 1 : Nat) : Int))) ?_
 refine aE 12 (bA aj rfl rfl rfl (Nat.le_of_ble_eq_true rfl) SetL.eq) ?_
 exact ae aL
theorem Gl (b : Nat) (its : List It) (rm : Value) (now : Nat) (hn : now < 1000000) : sQ W0 379 [.pointer (some ⟨b, 0, none⟩)] (aQ b (its, [rm, .int .i64 now, .bool true]) :: R) (.int .i64 (now + 1 : Nat)) (aQ b (its, [rm, .int .i64 (now + 1 : Nat), .bool true]) :: R) := by
 refine tD fun a c => hJ (Gk b _ rm now hn) ?_
 rintro _ _ ⟨rfl, rfl⟩
 exact ⟨_, ⟨rfl, rfl⟩, oN rfl⟩
theorem yk (b : Nat) (its : List It) (tl : List Value) (k : Int × Int) (hN : its.length < 1000) : sP W0 277 [.pointer (some ⟨b, 0, none⟩), .agg (fH k).toArray] (aQ b (its, tl) :: R) (fun v B => ∃ r, v = .int .i64 r ∧ B = aQ b (its, tl) :: R ∧ Gj its k r) := by
 refine tD fun a c => ?_
 refine ai 2 func277 ntmps277 ?_
 refine ax (aV rfl) fun b1 => ?_
 refine au 10 ?_
 refine a7 rfl (dM rfl rfl) ?_
 refine aB rfl (cK call329 rfl (TJ its a c b1 k hN)) ?_
 rintro _ _ ⟨r, rfl, rfl, hf⟩
 refine au 4 ?_
 refine ae ?_
 exact ⟨_, ⟨r, rfl, rfl, hf⟩, oN rfl⟩
theorem TK (room : Nat) (h : room ≤ 4) : sP W0 201 [.int .i64 room] R (fun v B => ∃ b, v = .tuple #[.pointer (some ⟨b, 0, none⟩), .int .i64 0] ∧ B = aQ b ([], [.int .i64 room, .int .i64 0, .bool true]) :: R) := by
 refine ai 12 func201 ntmps201 ?_
 refine bB rfl rfl rfl (fun g1_3 => ?_) fun g1_3 => ?_
 ·omega
 refine au 6 ?_
 refine a8 rfl (fun c1 => ?_) fun c1 => ?_
 ·omega
 refine au 5 ?_
 refine a7 rfl (bq ZV zeroValue391 (am sizeOf389 (am aj (am aj (am bI bj)))) (aI rfl aj rfl rfl (Nat.le_of_ble_eq_true rfl) SetL.eq (aI rfl bI rfl rfl (Nat.le_of_ble_eq_true rfl) SetL.eq bi))) ?_
 refine ax (aV rfl) fun b1 => ?_
 refine au 5 ?_
 refine aJ ?_
 exact ⟨_, ⟨b1, rfl, rfl⟩, (Ent.cons (fR (B := R))).trans (fC (R := R) (C := [_, _]) ⟨none, 0, rfl⟩)⟩
abbrev tF (pv bt bs : Nat) : Obj := ac [.pointer (some ⟨pv, 0, none⟩), .pointer (some ⟨bt, 0, none⟩), .pointer (some ⟨bs, 0, none⟩)] 242
theorem TM : sP W0 202 [] R (fun v B => ∃ b, v = .pointer (some ⟨b, 0, none⟩) ∧ B = pt b (ac [gK, .bool true] 394) :: R) := by
 refine ai 7 func202 ntmps202 ?_
 refine a7 rfl (bq ZW zeroValue394 (am uc (am bI bj)) (aI rfl bI rfl rfl (Nat.le_of_ble_eq_true rfl) SetL.eq bi)) ?_
 refine ax (aV rfl) fun b1 => ?_
 refine au 4 ?_
 refine ae ?_
 exact ⟨_, ⟨_, rfl, rfl⟩, ent_refl⟩
theorem TN (pv ps pm d room : Nat) (hr : room ≤ 4) : sP W0 124 [.pointer (some ⟨pv, 0, none⟩), .int .i64 room] (pt pv (cr ps pm d) :: R) (fun v B => ∃ bm bt bs, v = .tuple #[.pointer (some ⟨bm, 0, none⟩), .int .i64 0] ∧ B = pt bm (tF pv bt bs) :: aQ bt ([], [.int .i64 room, .int .i64 0, .bool true]) :: pt bs (ac [gK, .bool true] 394) :: pt pv (cr ps pm d) :: R) := by
 refine ai 10 func124 ntmps124 ?_
 refine ar 3 (ao s4 rfl (pK pv ps pm d)) ?_
 refine a8 rfl (fun c1 => ?_) fun c1 => ?_
 ·exact absurd c1 (by simp)
 refine au 5 ?_
 refine aB rfl (aD call201 rfl (TK room hr)) ?_
 rintro _ B_ ⟨bt, rfl, hB_⟩
 subst hB_
 refine au 14 ?_
 refine a8 rfl (fun c4 => ?_) fun c4 => ?_
 ·exact absurd rfl c4
 refine au 6 ?_
 refine aB rfl (aD call202 rfl (TM)) ?_
 rintro _ B_ ⟨bs, rfl, hB_⟩
 subst hB_
 refine a7 rfl (bq Jo zeroValue242 (am rV (am Jb (am Jc bj))) (aI rfl rV rfl rfl (Nat.le_of_ble_eq_true rfl) SetL.eq (aI rfl Jb rfl rfl (Nat.le_of_ble_eq_true rfl) SetL.eq (aI rfl Jc rfl rfl (Nat.le_of_ble_eq_true rfl) SetL.eq bi)))) ?_
 refine ax (aV rfl) fun bm => ?_
 refine au 5 ?_
 refine aJ ?_
 exact ⟨_, ⟨bm, bt, bs, rfl, rfl⟩, inferInstance⟩
abbrev pV (b : Nat) : Value := .pointer (some ⟨b, 0, none⟩)
structure Bd where
  r : Nat
  c : Nat
  m : Nat
  v : Nat
  t : Nat
@[reducible] def rC (x : Bd) (qs : List Nat) : List Value := [pV x.r, pV x.c, pV x.m] ++ (qs.map pV ++ List.replicate (3 - qs.length) (.pointer none)) ++ [pV x.v, pV x.t, .bool false, .int .u32 0, .int .u32 0, .int .u32 0, .int .u32 0]
theorem TO {x : Bd} {q : Nat} : ∀ {qs : List Nat}, qs.length < 3 → (rC x qs).set (3 + qs.length * 1) (pV q) = rC x (qs ++ [q])
 | [], _ => rfl
 | [a], _ => rfl
 | [a, b], _ => rfl
theorem TP {x : Bd} {qs : List Nat} (h : qs.length ≤ 3) : (rC x qs).length = 13 := by
 simp [rC]; omega
abbrev qd (x : Bd) (i bt bs pv : Nat) (T : List HP) : List HP := pt x.r (dq (List.replicate 16 0) 0) :: pt x.c (Gh i) :: pt x.m (tF pv bt bs) :: aQ bt ([], [.int .i64 ((4 : Nat) : Int), .int .i64 0, .bool true]) :: pt bs (ac [gK, .bool true] 394) :: pt x.v pX :: pt x.t pY :: T
theorem TQ {l : List HP} {x : HP} {R : List HP} : Ent (x :: kH 6 (cn l) :: R) (kH 6 (cn (l ++ [x])) :: R) :=
 (Ent.cons (px (A := l) (R := R))).trans ((Ent.ofPerm (by
  show (x :: (l ++ R)).Perm ((l ++ [x]) ++ R)
  rw [List.append_assoc]
  exact (List.perm_middle).symm)).trans py)
@[reducible] def yl (x : Bd) (q0 q1 q2 : Nat) : List Value := [pV x.r, pV x.c, pV x.m, pV q0, pV q1, pV q2, pV x.v, pV x.t, .bool false, .int .u32 0, .int .u32 0, .int .u32 0, .int .u32 0]
theorem Bz (i pv ps pm d : Nat) (hi : i < 4) : sP W0 57 [.int .i64 i, pV pv] (pt pv (cr ps pm d) :: R) (fun v B => ∃ x bt bs q0 q1 q2, v = .tuple #[.agg (yl x q0 q1 q2).toArray, .int .i64 0] ∧ B = qd x i bt bs pv (kH 6 (cn [pt q0 (qO true d5), pt q1 (qO true d5), pt q2 (qO true d5)]) :: pt pv (cr ps pm d) :: R)) := by
 refine ai 2 func57 ntmps57 ?_
 refine ax (aS wE) fun b4 => ?_
 refine au 6 ?_
 refine aB rfl (aD call123 rfl (Tt i hi)) ?_
 rintro _ B_ ⟨cb, rfl, hB_⟩
 obtain rfl := hB_.symm
 refine au 14 ?_
 refine a8 rfl (fun c2 => ?_) fun c2 => ?_
 ·exact absurd c2 (by decide)
 refine au 5 ?_
 refine aB rfl (ao call124 rfl (TN pv ps pm d 4 (by decide))) ?_
 rintro _ B_ ⟨bm, bt, bs, rfl, hB_⟩
 obtain rfl := hB_.symm
 refine au 14 ?_
 refine a8 rfl (fun c5 => ?_) fun c5 => ?_
 ·exact absurd c5 (by decide)
 refine au 4 ?_
 refine aB rfl (aD call125 rfl (Tq)) ?_
 rintro _ B_ ⟨rb, rfl, hB_⟩
 obtain rfl := hB_.symm
 refine au 2 ?_
 refine aB rfl (aD call126 rfl (Tu)) ?_
 rintro _ B_ ⟨vb, rfl, hB_⟩
 obtain rfl := hB_.symm
 refine aB rfl (aD call127 rfl (Tv)) ?_
 rintro _ B_ ⟨tb, rfl, hB_⟩
 obtain rfl := hB_.symm
 refine a7 rfl (bq Jx wE (am nT (am nU (am zl (am Jl (am Jh (am Ji (am bI (am CG bj)))))))) (aI rfl nT rfl rfl (Nat.le_of_ble_eq_true rfl) SetL.eq (aI rfl nU rfl rfl (Nat.le_of_ble_eq_true rfl) SetL.eq (aI rfl zl rfl rfl (Nat.le_of_ble_eq_true rfl) SetL.eq (aI rfl Jh rfl rfl (Nat.le_of_ble_eq_true rfl) SetL.eq (aI rfl Ji rfl rfl (Nat.le_of_ble_eq_true rfl) SetL.eq bi)))))) ?_
 refine ax (aS wE) fun b9 => ?_
 refine aE 9 (aF mj rfl rfl rfl rfl rfl) ?_
 refine ge (fun qs : List Nat => qs.length ≤ 3) (fun qs => [(4, pV b4), (9, pV b9), (35, .int .i64 qs.length)]) (fun qs => pt b9 (ac (rC ⟨rb, cb, bm, vb, tb⟩ qs) 99) :: kH 6 (cn (qs.map fun q => pt q (qO true d5))) :: pt b4 (ac [.pointer none, .pointer none, .pointer none, .pointer none, .pointer none, .pointer none, .pointer none, .pointer none, .bool false, .int .u32 0, .int .u32 0, .int .u32 0, .int .u32 0] 99) :: qd ⟨rb, cb, bm, vb, tb⟩ i bt bs pv (pt pv (cr ps pm d) :: R)) (fun qs => 3 - qs.length) [] ?_ ?_ ?_ ?_
 ·exact Nat.zero_le _
 ·repeat (first | exact dy | refine db rfl ?_)
 ·refine Ent.trans (B := pt b9 (ac (rC ⟨rb, cb, bm, vb, tb⟩ []) 99) :: pt b4 (ac [.pointer none, .pointer none, .pointer none, .pointer none, .pointer none, .pointer none, .pointer none, .pointer none, .bool false, .int .u32 0, .int .u32 0, .int .u32 0, .int .u32 0] 99) :: qd ⟨rb, cb, bm, vb, tb⟩ i bt bs pv (pt pv (cr ps pm d) :: R)) ?_ ?_
  ·rw [show rC ⟨rb, cb, bm, vb, tb⟩ [] = [pV rb, pV cb, pV bm, .pointer none, .pointer none, .pointer none, pV vb, pV tb, .bool false, .int .u32 0, .int .u32 0, .int .u32 0, .int .u32 0] from rfl]
   exact inferInstance
  exact Ent.cons (py (A := []))
 intro qs hq
 refine au 6 ?_
 refine a8 rfl (fun c9 => ?_) fun c9 => ?_
 ·refine au 10 ?_
  have hq3 : qs.length < 3 := by omega
  refine au 2 ?_
  refine aB rfl (aD call128 rfl (S6)) ?_
  rintro _ B_ ⟨q, rfl, hB_⟩
  obtain rfl := hB_.symm
  refine a7 rfl (jV Jx Jl) ?_
  refine a7 rfl (dI underlying96 sizeOf95 rfl rfl rfl hq3 (by first | exact Nat.zero_add _ | rfl)) ?_
  refine aE 4 (bA sizeOf95 rfl rfl rfl (by rw [TP hq]; omega) (TO hq3)) ?_
  refine ap 3 (cM rfl rfl) ?_
  refine uq (qs ++ [q]) ?_ ?_ ?_ ?_
  ·show (qs ++ [q]).length ≤ 3; simp; omega
  ·show 3 - (qs ++ [q]).length < 3 - qs.length; simp; omega
  ·rw [show ((qs ++ [q]).length : Int) = ((qs.length : Nat) : Int) + 1 by simp]
   repeat (first | exact dy | refine db rfl ?_)
  rw [List.map_append]
  exact Ent.cons TQ
 refine au 6 ?_
 have hq3 : qs.length = 3 := by omega
 obtain ⟨q0, q1, q2, rfl⟩ : ∃ q0 q1 q2, qs = [q0, q1, q2] := by
  match qs, hq3 with
  | [a, b, c], _ => exact ⟨a, b, c, rfl⟩
 refine bQ (a7 rfl (kS CB mj rfl rfl) ?_)
 refine eI (aF mj rfl rfl rfl rfl rfl) ?_
 rintro _ _ rfl
 refine a7 rfl (bR rfl) (au 3 ?_)
 refine bY (.cons (cg CB mj rfl rfl) (.cons (bK rfl) .nil)) ?_
 refine ⟨_, ⟨⟨rb, cb, bm, vb, tb⟩, bt, bs, q0, q1, q2, rfl, rfl⟩, ?_⟩
 rw [show [q0, q1, q2].map (fun q => pt q (qO true d5)) = [pt q0 (qO true d5), pt q1 (qO true d5), pt q2 (qO true d5)] from rfl]
 exact inferInstance
def mK (r : Int × Int) (i : Int) : Int := if i = r.1 then 3 else if i = r.2 then 1 else 0
theorem TR (r : Int × Int) (i : Int) : sQ W0 185 [.agg (fM r).toArray, .int .i64 i] R (.int .i64 (mK r i)) R := by
 refine ai 2 func185 ntmps185 ?_
 refine ax (aV rfl) fun b2 => ?_
 refine au 18 ?_
 refine a8 rfl (fun c2 => ?_) fun c2 => ?_
 ·refine au 8 ?_
  refine ae ?_
  rw [mK, if_pos (by simpa using c2)]
  exact ⟨_, ⟨rfl, rfl⟩, inferInstance⟩
 refine au 8 ?_
 refine a8 rfl (fun c4 => ?_) fun c4 => ?_
 ·refine au 8 ?_
  refine ae ?_
  rw [mK, if_neg (by simpa using c2), if_pos (by simpa using c4)]
  exact ⟨_, ⟨rfl, rfl⟩, inferInstance⟩
 refine au 9 ?_
 refine ae ?_
 rw [mK, if_neg (by simpa using c2), if_neg (by simpa using c4)]
 exact ⟨_, ⟨rfl, rfl⟩, inferInstance⟩
def rD (c : Cfg) (k : Nat) : Int × Int := c.nl.getD k (0, 0)
def gL (c : Cfg) (i : Int) : Nat → List Pl → List Pl
  | 0, pg => pg
  | k + 1, pg => if mK (rD c k) i = 0 then gL c i k pg else dJ (gL c i k pg) ((8 + k : Nat) : Int) (lh c k, mK (rD c k) i)
theorem ym {c : Cfg} {i : Int} {pg : List Pl} (h : Pgs pg) : ∀ k, Pgs (gL c i k pg)
 | 0 => h
 | k + 1 => by
  rw [gL]; split
  ·exact ym h k
  exact qX (ym h k)
theorem TS (c : Cfg) (h : CfK W0 c) (i : Int) (pm : Nat) (pg : List Pl) (hp : Pgs pg) (hn : c.nl.length ≤ 4) : sQ W0 100 [.agg (di c).toArray, .int .i64 i, pV pm] (pt pm (bJ pg) :: R) (.tuple #[]) (pt pm (bJ (gL c i c.nl.length pg)) :: R) := by
 refine ai 2 func100 ntmps100 ?_
 refine ax (aV rfl) fun b3 => ?_
 refine au 11 ?_
 refine ge (fun k : Nat => k ≤ c.nl.length) (fun k => [(1, .int .i64 i), (2, pV pm), (3, pV b3), (10, .slice c.na c.nl.length c.nc), (11, .int .i64 (c.nl.length : Nat)), (12, .int .i64 k)]) (fun k => pt b3 (fz c) :: pt pm (bJ (gL c i k pg)) :: R) (fun k => c.nl.length - k) 0 ?_ ?_ ?_ ?_
 ·exact Nat.zero_le _
 ·repeat (first | exact dy | refine db rfl ?_)
 ·rw [show gL c i 0 pg = pg from rfl]
  exact inferInstance
 intro k hk
 refine au 6 ?_
 refine a8 rfl (fun c2 => ?_) fun c2 => ?_
 ·refine au 2 ?_
  refine dU (fun _ : Unit => k < c.nl.length) (fun _ => [(1, .int .i64 i), (2, pV pm), (3, pV b3), (10, .slice c.na c.nl.length c.nc), (11, .int .i64 (c.nl.length : Nat)), (12, .int .i64 k)]) (fun _ => pt b3 (fz c) :: pt pm (bJ (gL c i (k + 1) pg)) :: R) ?_ ?_
  ·skip
   refine au 2 ?_
   have hk1 : k < c.nl.length := by omega
   obtain ⟨g, o, hga, hc⟩ := (h.ok.n []).at_ hk1
   obtain ⟨x, hx⟩ : ∃ x, c.nl[k] = x := ⟨_, rfl⟩
   rw [hx] at hc
   have hA : rD c k = x := by simp [rD, List.getD, hk1, hx]
   have hpk := ym (c := c) (i := i) hp k
   refine au 2 ?_
   refine a7 rfl (dW rW kN rfl hga rfl rfl hk1 (by first | exact Nat.zero_add _ | rfl)) ?_
   refine a7 rfl (b0 zg kN rfl hc.weak rfl) ?_
   refine ax (aS wz) fun b7 => ?_
   refine a7 rfl (bR rfl) (aE 6 (aF kN rfl rfl rfl rfl rfl) ?_)
   refine ar 9 (aD call185 rfl (TR x i)) ?_
   refine a8 rfl (fun c5 => ?_) fun c5 => ?_
   ·refine au 3 ?_
    refine ap 2 (bO rfl rfl (by rw [aG (by omega)]; omega : IntKind.wrap .i64 (8 + (k : Int)) = ((8 + k : Nat) : Int))) ?_
    refine aM (aD call186 rfl (Te c h k)) ?_
    refine a7 rfl (aH rfl) (a7 rfl (bq mX jh (am aj (am aj bj)) (aI rfl aj rfl rfl (Nat.le_of_ble_eq_true rfl) SetL.eq (aI rfl aj rfl rfl (Nat.le_of_ble_eq_true rfl) SetL.eq bi))) ?_)
    refine ar 3 (ao JN rfl (AD pm (gL c i k pg) hpk (8 + k : Nat) (lh c k, mK x i))) ?_
    refine cj () ?_ (he := ?_)
    ·exact hk1
    rw [gL, hA, if_neg (by simpa using c5)]
    exact inferInstance
   refine au 3 ?_
   refine cj () ?_ (he := ?_)
   ·exact hk1
   rw [gL, hA, if_pos (by simpa using c5)]
   exact inferInstance
  intro _ hk1
  refine bQ (ap 3 (cM rfl rfl) ?_)
  exact bZ (k + 1) (by omega)
 refine au 4 ?_
 refine bT (.inr rfl) .nil ?_
 obtain rfl : k = c.nl.length := by omega
 exact ⟨_, ⟨rfl, rfl⟩, inferInstance⟩
theorem TT {ws : List Nat} {n : Nat} (h : n ≤ 8) : bC (bC ws 8) n = bC ws n := by
 rw [bC, bC, bC, List.take_take, Nat.min_eq_left (by omega)]
abbrev gn : List Pl := List.replicate 12 (0, 0)
theorem vz : Pgs gn := ⟨rfl, fun n hn h => absurd (by
 have : n = 0 ∨ n = 1 ∨ n = 2 ∨ n = 3 ∨ n = 4 ∨ n = 5 ∨ n = 6 ∨ n = 7 ∨ n = 8 ∨ n = 9 ∨ n = 10 ∨ n = 11 := by omega
 rcases this with rfl | rfl | rfl | rfl | rfl | rfl | rfl | rfl | rfl | rfl | rfl | rfl <;> rfl) h⟩
theorem BA : oI gn 0 8 := fun i _ hi => by
 have : i = 0 ∨ i = 1 ∨ i = 2 ∨ i = 3 ∨ i = 4 ∨ i = 5 ∨ i = 6 ∨ i = 7 := by omega
 rcases this with rfl | rfl | rfl | rfl | rfl | rfl | rfl | rfl <;> decide
@[reducible] def yn (x : Bd) (q0 q1 q2 : Nat) (c : Cfg) (i : Nat) (wv : Value) (pb pv bx tr : Nat) : List Value :=
  [pV x.r, pV x.c, pV x.m, pV q0, pV q1, pV q2, pV x.v, pV x.t, .bool false, .int .u32 0, .int .u32 0, .int .u32 0, .int .u32 0] ++ di c ++ [.int .i64 i, wv, pV pb, pV pv, pV bx, pV tr, .int .i64 0]
theorem TU {S : World → Prop} {N : FSz} {e : aW} {o0 o1 o2 o3 o4 o5 o6 o7 : Operand} {x : Bd} {q0 q1 q2 i pb pv bx tr : Nat} {c : Cfg} {wv : Value} (hw : wv.oneCell' = true) (h0 : ev e o0 = some (.agg (yl x q0 q1 q2).toArray)) (h1 : ev e o1 = some (.agg (di c).toArray)) (h2 : ev e o2 = some (.int .i64 i)) (h3 : ev e o3 = some wv) (h4 : ev e o4 = some (pV pb)) (h5 : ev e o5 = some (pV pv)) (h6 : ev e o6 = some (pV bx)) (h7 : ev e o7 = some (pV tr)) :
  cy Tryz.prog S N e (.build 102 #[(0, o0), (1, o1), (2, o2), (3, o3), (4, o4), (5, o5), (6, o6), (7, o7)]) (.agg (yn x q0 q1 q2 c i wv pb pv bx tr).toArray) :=
 bq (l' := yn x q0 q1 q2 c i wv pb pv bx tr) ZB zeroValue102 (am mj (am mi (am aj (am wh (am Jj (am rV (am sizeOf100 (am Jg (am aj bj)))))))))
  (iJ (l' := [pV x.r, pV x.c, pV x.m, pV q0, pV q1, pV q2, pV x.v, pV x.t, .bool false, .int .u32 0, .int .u32 0, .int .u32 0, .int .u32 0, .int .i64 0, .slice none 0 0, .slice none 0 0, .slice none 0 0, .slice none 0 0, .slice none 0 0, .int .i64 0, .int .i64 0, .int .i64 0, .slice none 0 0, .pointer none, .pointer none, .pointer none, .pointer none, .int .i64 0]) rfl mj h0 rfl (Nat.le_of_ble_eq_true rfl) rfl
  (iJ (l' := [pV x.r, pV x.c, pV x.m, pV q0, pV q1, pV q2, pV x.v, pV x.t, .bool false, .int .u32 0, .int .u32 0, .int .u32 0, .int .u32 0, .int .i64 c.cats, .slice c.ga c.gl.length c.gc, .slice c.ra c.rl.length c.rc, .slice c.pa c.pl.length c.pc, .slice c.na c.nl.length c.nc, .slice c.sa c.sl.length c.sc, .int .i64 c.gate, .int .i64 c.quota, .int .i64 0, .slice none 0 0, .pointer none, .pointer none, .pointer none, .pointer none, .int .i64 0]) rfl mi h1 rfl (Nat.le_of_ble_eq_true rfl) rfl
  (aI (l' := [pV x.r, pV x.c, pV x.m, pV q0, pV q1, pV q2, pV x.v, pV x.t, .bool false, .int .u32 0, .int .u32 0, .int .u32 0, .int .u32 0, .int .i64 c.cats, .slice c.ga c.gl.length c.gc, .slice c.ra c.rl.length c.rc, .slice c.pa c.pl.length c.pc, .slice c.na c.nl.length c.nc, .slice c.sa c.sl.length c.sc, .int .i64 c.gate, .int .i64 c.quota, .int .i64 i, .slice none 0 0, .pointer none, .pointer none, .pointer none, .pointer none, .int .i64 0]) rfl aj h2 rfl (Nat.le_of_ble_eq_true rfl) rfl
  (aI (l' := [pV x.r, pV x.c, pV x.m, pV q0, pV q1, pV q2, pV x.v, pV x.t, .bool false, .int .u32 0, .int .u32 0, .int .u32 0, .int .u32 0, .int .i64 c.cats, .slice c.ga c.gl.length c.gc, .slice c.ra c.rl.length c.rc, .slice c.pa c.pl.length c.pc, .slice c.na c.nl.length c.nc, .slice c.sa c.sl.length c.sc, .int .i64 c.gate, .int .i64 c.quota, .int .i64 i, wv, .pointer none, .pointer none, .pointer none, .pointer none, .int .i64 0]) rfl wh h3 hw (Nat.le_of_ble_eq_true rfl) rfl
  (aI (l' := [pV x.r, pV x.c, pV x.m, pV q0, pV q1, pV q2, pV x.v, pV x.t, .bool false, .int .u32 0, .int .u32 0, .int .u32 0, .int .u32 0, .int .i64 c.cats, .slice c.ga c.gl.length c.gc, .slice c.ra c.rl.length c.rc, .slice c.pa c.pl.length c.pc, .slice c.na c.nl.length c.nc, .slice c.sa c.sl.length c.sc, .int .i64 c.gate, .int .i64 c.quota, .int .i64 i, wv, pV pb, .pointer none, .pointer none, .pointer none, .int .i64 0]) rfl Jj h4 rfl (Nat.le_of_ble_eq_true rfl) rfl
  (aI (l' := [pV x.r, pV x.c, pV x.m, pV q0, pV q1, pV q2, pV x.v, pV x.t, .bool false, .int .u32 0, .int .u32 0, .int .u32 0, .int .u32 0, .int .i64 c.cats, .slice c.ga c.gl.length c.gc, .slice c.ra c.rl.length c.rc, .slice c.pa c.pl.length c.pc, .slice c.na c.nl.length c.nc, .slice c.sa c.sl.length c.sc, .int .i64 c.gate, .int .i64 c.quota, .int .i64 i, wv, pV pb, pV pv, .pointer none, .pointer none, .int .i64 0]) rfl rV h5 rfl (Nat.le_of_ble_eq_true rfl) rfl
  (aI (l' := [pV x.r, pV x.c, pV x.m, pV q0, pV q1, pV q2, pV x.v, pV x.t, .bool false, .int .u32 0, .int .u32 0, .int .u32 0, .int .u32 0, .int .i64 c.cats, .slice c.ga c.gl.length c.gc, .slice c.ra c.rl.length c.rc, .slice c.pa c.pl.length c.pc, .slice c.na c.nl.length c.nc, .slice c.sa c.sl.length c.sc, .int .i64 c.gate, .int .i64 c.quota, .int .i64 i, wv, pV pb, pV pv, pV bx, .pointer none, .int .i64 0]) rfl sizeOf100 h6 rfl (Nat.le_of_ble_eq_true rfl) rfl
  (aI (l' := [pV x.r, pV x.c, pV x.m, pV q0, pV q1, pV q2, pV x.v, pV x.t, .bool false, .int .u32 0, .int .u32 0, .int .u32 0, .int .u32 0, .int .i64 c.cats, .slice c.ga c.gl.length c.gc, .slice c.ra c.rl.length c.rc, .slice c.pa c.pl.length c.pc, .slice c.na c.nl.length c.nc, .slice c.sa c.sl.length c.sc, .int .i64 c.gate, .int .i64 c.quota, .int .i64 i, wv, pV pb, pV pv, pV bx, pV tr, .int .i64 0]) rfl Jg h7 rfl (Nat.le_of_ble_eq_true rfl) rfl
  bi))))))))
def laid (c : Cfg) (i : Nat) (ws : List Nat) (fr : List aC) (po : Po) : Im := d6 i (bC ws (cQ c i).2.1.toNat) (cQ c i).2.1.toNat ⟨fr, po, gn⟩
theorem TV (c : Cfg) (h : CfK W0 c) (hr : rt c = true) (i : Nat) (hi : i < c.gl.length) (ps pb : Nat) (fr : List aC) (po : Po) (hF : cH fr) (hP : PoOk po) (hl : po.length = fr.length) (h0 : 0 < fr.length) (hfre : (cQ c i).2.1 ≤ ((bP po i).length : Int)) (a : Option Addr) (cap : Nat) (ws : List Nat) (hs : ∀ A, cG (aO W0 A) a 1 i3 ws) (hb : ∀ y ∈ ws, y < 4294967296) (hn : ws.length < 9223372036854775808) : sP W0 37 [.agg (di c).toArray, .int .i64 i, pV ps, pV pb, .slice a ws.length cap] (cJ pb (ps, po) :: bu ps fr :: R) (fun v B => ∃ gb x bt bs q0 q1 q2 wg pv pm bx tr, v = .tuple #[pV gb, .int .i64 0] ∧ B = pt gb (ac (yn x q0 q1 q2 c i (.slice (some ⟨wg, 0, none⟩) (bC ws 8).length (bC ws 8).length) pb pv bx tr) 102) :: qd x i bt bs pv (kH 6 (cn [pt q0 (qO true d5), pt q1 (qO true d5), pt q2 (qO true d5)]) :: pt pv (cr ps pm 0) :: pt bx tC :: eN tr [] :: pt wg (ac ((bC ws 8).map wV) 37) :: pt pm (bJ (gL c i c.nl.length (laid c i ws fr po).pg)) :: cJ pb (ps, (laid c i ws fr po).po) :: bu ps (laid c i ws fr po).fr :: R)) := by
 have hck : lO c = 0 := of_decide_eq_true hr
 have hR := lg hr
 have hg4 := hR.g4
 have hgs := hR.gs i hi
 obtain ⟨g, o, hga, hc⟩ := (h.ok.g []).at_ hi
 obtain ⟨x, hx⟩ : ∃ x, c.gl[i] = x := ⟨_, rfl⟩
 have hA : cQ c i = x := by simp [cQ, List.getD, hi, hx]
 obtain ⟨n, hxn⟩ : ∃ n : Nat, x.2.1 = (n : Int) := ⟨x.2.1.toNat, by rw [hA] at hgs; omega⟩
 have hln : (cQ c i).2.1.toNat = n := by rw [hA, hxn]; rfl
 have hlaid : laid c i ws fr po = d6 i (bC (bC ws 8) n) n ⟨fr, po, gn⟩ := by rw [laid, hln, TT (by rw [hA] at hgs; omega)]
 rw [hlaid]
 rw [hx] at hc
 rw [hA, hxn] at hgs hfre
 have hok : ImOk ⟨fr, po, gn⟩ := ⟨hF, hP, vz, hl⟩
 have hok1 := rn (who := i) (words := bC (bC ws 8) n) (n := n) (by omega) hok
 have hcl := tx ws 8
 have hpo1 := hok1.len
 have hfr1 : 0 < (d6 i (bC (bC ws 8) n) n ⟨fr, po, gn⟩).fr.length := by
  have : ∀ k, (d6 i (bC (bC ws 8) n) k ⟨fr, po, gn⟩).fr.length = fr.length := fun k => by
   induction k with
   | zero => rfl
   | succ k ih =>
    rw [d6, iQ]
    split
    ·rw [(rk (rn (by omega) hok).fr).2]; exact ih
    exact ih
  rw [this]; exact h0
 refine ai 2 func37 ntmps37 ?_
 refine ax (aV rfl) fun b5 => ?_
 refine au 8 ?_
 refine aB rfl (aD call97 rfl (FR c h.ok)) ?_
 rintro _ B_ ⟨at_, rfl, hB_⟩
 obtain rfl := hB_.symm
 rw [hck]
 refine au 12 ?_
 refine bB rfl rfl rfl (fun g2_3 => ?_) fun g2_3 => ?_
 ·exact absurd g2_3 (by decide)
 refine au 5 ?_
 refine bB rfl rfl rfl (fun g2_7 => ?_) fun g2_7 => ?_
 ·omega
 refine au 12 ?_
 refine a8 rfl (fun c2 => ?_) fun c2 => ?_
 ·omega
 refine au 4 ?_
 refine aB rfl (aD call98 rfl (Pw)) ?_
 rintro _ B_ ⟨pm, rfl, hB_⟩
 obtain rfl := hB_.symm
 refine au 7 ?_
 refine ar 2 (ao uh rfl (qU ps fr)) ?_
 refine bB rfl rfl rfl (fun g5_4 => ?_) fun g5_4 => ?_
 ·omega
 refine au 6 ?_
 refine a8 rfl (fun c5 => ?_) fun c5 => ?_
 ·cases c5
 refine au 5 ?_
 refine aB rfl (aD call99 rfl (FX a cap 8 ws (hs _) (by decide) hn)) ?_
 rintro _ B_ ⟨wg, rfl, hB_⟩
 obtain rfl := hB_.symm
 refine au 13 ?_
 refine a7 rfl (dW iX fQ rfl hga rfl rfl hi (by first | exact Nat.zero_add _ | rfl)) ?_
 refine a7 rfl (jV jg aj) ?_
 refine a7 rfl (aA aX rfl (hc.weak 1 _ (by rw [← hxn]; rfl : (fF x)[1]? = some (.int .i64 (n : Int))))) ?_
 refine a7 rfl (aH rfl) ?_
 refine ar 9 (du call54 rfl (G0 pb ps pm i n ⟨fr, po, gn⟩ hok h0 (some ⟨wg, 0, none⟩) (bC ws 8).length (bC ws 8) (by omega) (by omega) (by omega) BA (by show n ≤ (bP po i).length; omega) (by intro A hA; exact (pG (b := wg) Bh (Bi _).symm).weak (k := hA)) (fun y hy => hb y (List.mem_of_mem_take hy)) (by omega))) ?_
 refine a8 rfl (fun c9 => ?_) fun c9 => ?_
 ·exact absurd c9 (by decide)
 refine au 7 ?_
 refine ar 6 (ao call100 rfl (TS c h i pm _ hok1.pg hR.nn)) ?_
 refine aB rfl (cK call101 rfl (PI ps pm _ _ (ym hok1.pg _) hfr1)) ?_
 rintro _ B_ ⟨pv, rfl, hB_⟩
 obtain rfl := hB_.symm
 refine au 14 ?_
 refine a8 rfl (fun c13 => ?_) fun c13 => ?_
 ·exact absurd c13 (by decide)
 refine au 6 ?_
 refine aB rfl (ao JX rfl (Bz i pv ps pm 0 (by omega))) ?_
 rintro _ B_ ⟨x_, bt, bs, q0, q1, q2, rfl, hB_⟩
 obtain rfl := hB_.symm
 refine au 3 ?_
 refine ax (aS wE) fun b19 => ?_
 refine aE 10 (aF mj rfl rfl rfl rfl rfl) ?_
 refine a8 rfl (fun c16 => ?_) fun c16 => ?_
 ·exact absurd c16 (by decide)
 refine au 3 ?_
 refine aU [(b19, 0, _), (b5, 0, _)] 12 aT rfl (aa (aa ag)) (fun hS => ?_)
 refine av 0 rfl rfl rfl hS (b0 CB mj rfl (by first | exact co (k := 0) rfl | exact co (k := 1) rfl) rfl) ?_
 refine av 1 rfl rfl rfl hS (b0 rU mi rfl (by first | exact co (k := 0) rfl | exact co (k := 1) rfl) rfl) ?_
 refine ah 2 4 hS ?_
 refine bS 6 (by kernel_rfl) rfl rfl (aD call102 rfl (Tw)) rfl ?_; clear hS
 rintro _ B_ ⟨bx, rfl, hB_⟩
 obtain rfl := hB_.symm
 refine ⟨(aa (aa ag)), fun hS => ?_⟩
 refine bS 7 (by kernel_rfl) rfl rfl (aD call103 rfl (TA)) rfl ?_; clear hS
 rintro _ B_ ⟨tr, rfl, hB_⟩
 obtain rfl := hB_.symm
 refine ⟨(aa (aa ag)), fun hS => ?_⟩
 refine av 8 rfl rfl rfl hS (TU rfl rfl rfl rfl rfl rfl rfl rfl rfl) ?_
 refine bS 9 (by kernel_rfl) rfl rfl (aV rfl) rfl ?_; clear hS
 rintro _ _ ⟨gb, rfl, rfl⟩
 refine ⟨(aa (aa ag)), fun hS => ?_⟩
 refine ah 10 2 hS ?_
 refine aK ?_
 refine au 2 ?_
 refine aJ ?_
 refine ⟨_, ⟨gb, x_, bt, bs, q0, q1, q2, wg, pv, pm, bx, tr, rfl, rfl⟩, inferInstance⟩
theorem BB : ∀ (vs l : List Value) (i j : Nat), j < i → (setR l i vs)[j]? = l[j]?
 | [], l, i, j, h => rfl
 | v :: vs, l, i, j, h => by
  rw [setR, BB vs _ _ _ (by omega), List.getElem?_set_ne (by omega)]
theorem Gm : ∀ (vs l : List Value) (i : Nat), (setR l i vs).length = l.length
 | [], l, i => rfl
 | v :: vs, l, i => by rw [setR, Gm vs, List.length_set]
structure RgC (i : Nat) (pv : Nat) (cs : List Value) : Prop where
  len : cs.length = 48
  ci : cs[8]? = some (.int .i64 i)
  cv : cs[13]? = some (pV pv)
theorem RgC.set {i pv : Nat} {cs : List Value} (h : RgC i pv cs) {k : Nat} {v : Value} (h1 : k ≠ 8) (h2 : k ≠ 13) : RgC i pv (cs.set k v) :=
 ⟨by rw [List.length_set]; exact h.len, by rw [List.getElem?_set_ne h1]; exact h.ci, by rw [List.getElem?_set_ne h2]; exact h.cv⟩
theorem RgC.setR {i pv : Nat} {cs : List Value} (h : RgC i pv cs) {k : Nat} {vs : List Value} (h1 : 13 < k) : RgC i pv (setR cs k vs) :=
 ⟨by rw [Gm]; exact h.len, by rw [BB _ _ _ _ (by omega)]; exact h.ci, by rw [BB _ _ _ _ (by omega)]; exact h.cv⟩
section
variable {W0 : World} {N : FSz} {K : Act → World → Prop} {e : aW} {A R : List HP} {b : Nat} {l : List Value} {T : TypeId}
theorem rE [hk : Tk pt b A (ac l T) R] (p : List Value → Prop) (h : p l) (k : ∀ cs, p cs → az W0 N K e (pt b (ac cs T) :: R)) : az W0 N K e A := fK (r := pt) (b := b) (k l h)
end
theorem TW (b i : Nat) : sQ W0 274 [pV b] (pt b (ac [.int .u32 0, .int .u32 0, .int .u32 0, .int .u32 0, .int .u32 0, .int .u32 0, .int .u32 0, .int .i64 i] 182) :: R) (.tuple #[]) (pt b (ac [.int .u32 0, .int .u32 0, .int .u32 0, .int .u32 0, .int .u32 0, .int .u32 4, .int .u32 0, .int .i64 i] 182) :: R) := by
 refine ai 3 func274 ntmps274 ?_
 refine ap 2 (uJ kt bE zG rfl) ?_
 refine aE 6 (ed pi rfl rfl rfl rfl (Nat.le_of_ble_eq_true rfl) SetRL.eq) ?_
 refine a7 rfl (dI kt bE rfl rfl rfl (by decide) (by first | exact Nat.zero_add _ | rfl)) ?_
 refine o9 (bA bE rfl rfl rfl (Nat.le_of_ble_eq_true rfl) SetL.eq) ?_
 refine bX (bT (.inr rfl) .nil ?_)
 exact ⟨_, ⟨rfl, rfl⟩, inferInstance⟩
theorem TX (i : Nat) (hi : i < 4) : sP W0 188 [.int .i64 i] R (fun v B => ∃ b, v = .tuple #[pV b, .int .i64 0] ∧ B = pt b (ac [.int .u32 0, .int .u32 0, .int .u32 0, .int .u32 0, .int .u32 0, .int .u32 4, .int .u32 0, .int .i64 i] 182) :: R) := by
 refine ai 12 func188 ntmps188 ?_
 refine bB rfl rfl rfl (fun g1_3 => ?_) fun g1_3 => ?_
 ·omega
 refine au 6 ?_
 refine a8 rfl (fun c1 => ?_) fun c1 => ?_
 ·omega
 refine au 5 ?_
 refine a7 rfl (bq ZI zeroValue182 (am pi (am aj bj)) (aI rfl aj rfl rfl (Nat.le_of_ble_eq_true rfl) SetL.eq bi)) ?_
 refine ax (aV rfl) fun b => ?_
 refine au 6 ?_
 refine ar 10 (ao call274 rfl (TW b i)) ?_
 refine aJ ?_
 exact ⟨_, ⟨_, rfl, rfl⟩, inferInstance⟩
theorem TY (c : Cfg) (h : CfK W0 c) (hr : rt c = true) (i : Nat) (hi : i < c.gl.length) (gb pv pm pb qs : Nat) (fr : List aC) (po : Po) (hF : cH fr) (hP : PoOk po) (hl : po.length = fr.length) (h0 : 0 < fr.length) (hfre : (cQ c i).2.1 ≤ ((bP po i).length : Int)) (a : Option Addr) (cap : Nat) (ws : List Nat) (hs : ∀ A, cG (aO W0 A) a 1 i3 ws) (hb : ∀ y ∈ ws, y < 4294967296) (hn : ws.length < 9223372036854775808) (hcap : ws.length ≤ cap) (cs : List Value) (hc : RgC i pv cs) (h1 : cs[1]? = some (.slice c.ga c.gl.length c.gc)) (h9 : cs[9]? = some (.slice a ws.length cap)) (h10 : cs[10]? = some (pV pb)) : sP W0 104 [pV gb] (pt gb (ac cs 169) :: pt pv (sX qs pm 0) :: eh pb (qs, po) :: dN qs fr :: pt pm (jE gn) :: R) (fun v B => v = .int .i64 0 ∧ ∃ cs', RgC i pv cs' ∧ B = pt gb (ac cs' 169) :: pt pv (sX qs pm 0) :: eh pb (qs, (laid c i ws fr po).po) :: dN qs (laid c i ws fr po).fr :: pt pm (jE (laid c i ws fr po).pg) :: R) := by
 have hR := lg hr
 have hg4 := hR.g4
 have hgs := hR.gs i hi
 obtain ⟨g, o, hga, hcc⟩ := (h.ok.g []).at_ hi
 obtain ⟨x, hx⟩ : ∃ x, c.gl[i] = x := ⟨_, rfl⟩
 have hA : cQ c i = x := by simp [cQ, List.getD, hi, hx]
 obtain ⟨n, hxn⟩ : ∃ n : Nat, x.2.1 = (n : Int) := ⟨x.2.1.toNat, by rw [hA] at hgs; omega⟩
 have hln : (cQ c i).2.1.toNat = n := by rw [hA, hxn]; rfl
 have hlaid : laid c i ws fr po = d6 i (bC ws n) n ⟨fr, po, gn⟩ := by rw [laid, hln]
 rw [hlaid]
 rw [hx] at hcc
 rw [hA, hxn] at hgs hfre
 have hok : ImOk ⟨fr, po, gn⟩ := ⟨hF, hP, vz, hl⟩
 have hlen := hc.len
 refine ai 6 func104 ntmps104 ?_
 refine aU [(gb, 0, cs), (pv, 0, _), (g, o + i * 3, fF x)] 40 aT rfl (aa (aa (cR hcc.weak ag))) (fun hS => ?_)
 refine ah 0 3 hS ?_
 refine av 3 rfl rfl rfl hS (aA isAgg74 rfl (dv (k := 0) rfl h10)) ?_
 refine ah 4 3 hS ?_
 refine av 7 rfl rfl rfl hS (aA Da rfl (dv (k := 0) rfl hc.cv)) ?_
 refine ah 8 6 hS ?_
 refine av 14 rfl rfl rfl hS (aA Da rfl (dv (k := 0) rfl hc.cv)) ?_
 refine ah 15 6 hS ?_
 refine av 21 rfl rfl rfl hS (aA aX rfl (dv (k := 0) rfl hc.ci)) ?_
 refine ah 22 4 hS ?_
 refine av 26 rfl rfl rfl hS (aA isAgg29 rfl (dv (k := 0) rfl h1)) ?_
 refine ah 27 3 hS ?_
 refine av 30 rfl rfl rfl hS (aA aX rfl (dv (k := 0) rfl hc.ci)) ?_
 refine av 31 rfl rfl rfl hS (dW iX fQ rfl hga rfl rfl hi (by first | exact Nat.zero_add _ | rfl)) ?_
 refine ah 32 1 hS ?_
 refine av 33 rfl rfl rfl hS (aA aX rfl (io (k := 2) (j := 1) rfl (by rw [← hxn]; rfl : (fF x)[1]? = some (.int .i64 (n : Int))))) ?_
 refine ah 34 3 hS ?_
 refine av 37 rfl rfl rfl hS (aA IT rfl (dv (k := 0) rfl h9)) ?_
 refine bF 38 rfl rfl (du call187 rfl (SE pb qs pm i n ⟨fr, po, gn⟩ hok h0 a cap ws (by omega) (by omega) (by omega) BA (by show n ≤ (bP po i).length; omega) (fun A _ => hs A) hb hn hcap)) (aa (aa (cR hcc.weak ag))) fun hS => ?_
 refine ah 39 1 hS ?_
 refine aK ?_
 refine au 8 ?_
 refine a8 rfl (fun c2 => ?_) fun c2 => ?_
 ·exact absurd c2 (by decide)
 refine au 5 ?_
 refine a7 rfl (bq underlying178 zeroValue178 (am mW (am bE bj)) bi) ?_
 refine ax (aV rfl) fun b1 => ?_
 refine au 2 ?_
 refine aE 3 (bA IY rfl rfl rfl (by rw [hlen]; decide) rfl) ?_
 refine rE (b := gb) (RgC i pv) (hc.set (by decide) (by decide)) fun cs2 hc2 => ?_
 refine au 4 ?_
 refine a7 rfl (aA aX rfl (aN hc2.ci)) ?_
 refine aB rfl (aD call188 rfl (TX i (by omega))) ?_
 rintro _ B_ ⟨cb, rfl, hB_⟩
 obtain rfl := hB_.symm
 refine au 13 ?_
 refine aE 3 (bA IZ rfl rfl rfl (by rw [hc2.len]; decide) rfl) ?_
 refine rE (b := gb) (RgC i pv) (hc2.set (by decide) (by decide)) fun cs3 hc3 => ?_
 refine au 2 ?_
 refine ap 2 (uJ underlying164 sizeOf163 zeroValue164 rfl) ?_
 refine aE 3 (ed J1 rfl rfl rfl rfl (by rw [hc3.len]; decide) rfl) ?_
 refine rE (b := gb) (RgC i pv) (hc3.setR (by decide)) fun cs4 hc4 => ?_
 refine au 2 ?_
 refine a7 rfl (bq underlying284 zeroValue284 (am pf (am sizeOf281 (am sizeOf282 bj))) bi) ?_
 refine ax (aV rfl) fun b2 => ?_
 refine au 2 ?_
 refine aE 3 (bA J2 rfl rfl rfl (by rw [hc4.len]; decide) rfl) ?_
 refine rE (b := gb) (RgC i pv) (hc4.set (by decide) (by decide)) fun cs5 hc5 => ?_
 refine au 2 ?_
 refine a7 rfl (bq underlying290 zeroValue290 (am sizeOf288 bj) bi) ?_
 refine ax (aV rfl) fun b3 => ?_
 refine au 2 ?_
 refine aE 3 (bA J3 rfl rfl rfl (by rw [hc5.len]; decide) rfl) ?_
 refine rE (b := gb) (RgC i pv) (hc5.set (by decide) (by decide)) fun cs6 hc6 => ?_
 refine au 4 ?_
 refine aE 3 (bA bI rfl rfl rfl (by rw [hc6.len]; decide) rfl) ?_
 refine rE (b := gb) (RgC i pv) (hc6.set (by decide) (by decide)) fun cs7 hc7 => ?_
 refine au 2 ?_
 refine ap 2 (uJ underlying97 bE zeroValue97 rfl) ?_
 refine aE 3 (ed CG rfl rfl rfl rfl (by rw [hc7.len]; decide) rfl) ?_
 refine rE (b := gb) (RgC i pv) (hc7.setR (by decide)) fun cs8 hc8 => ?_
 refine au 5 ?_
 refine ae ?_
 exact ⟨_, ⟨rfl, cs8, hc8, rfl⟩, inferInstance⟩
@[reducible] def BC (c : Cfg) (i : Nat) (wv : Value) (pb bb : Nat) : List Value := [.int .i64 c.cats, .slice c.ga c.gl.length c.gc, .slice c.ra c.rl.length c.rc, .slice c.pa c.pl.length c.pc, .slice c.na c.nl.length c.nc, .slice c.sa c.sl.length c.sc, .int .i64 c.gate, .int .i64 c.quota, .int .i64 i, wv, pV pb, .pointer none, .pointer none, .pointer none, .int .u32 0, .int .u32 0, .int .u32 0, .int .i64 0, .bool false, .int .i64 0, .int .i64 0, .int .i64 0, .int .u32 0, .int .u32 0, .int .u32 0, .int .i64 0, .bool false, .int .i64 0, .int .i64 0, .int .i64 0, .int .u32 0, .int .u32 0, .int .u32 0, .int .i64 0, .bool false, .int .i64 0, .int .i64 0, .int .i64 0, .pointer none, .pointer none, pV bb, .slice none 0 0, .int .i64 0, .bool false, .int .u32 0, .int .u32 0, .int .u32 0, .int .u32 0]
theorem TZ {S : World → Prop} {N : FSz} {e : aW} {o0 o1 o2 o3 o4 : Operand} {i pb bb : Nat} {c : Cfg} {wv : Value} (hw : wv.oneCell' = true) (h0 : ev e o0 = some (.agg (di c).toArray)) (h1 : ev e o1 = some (.int .i64 i)) (h2 : ev e o2 = some wv) (h3 : ev e o3 = some (pV pb)) (h4 : ev e o4 = some (pV bb)) :
  cy Tryz.prog S N e (.build 169 #[(0, o0), (1, o1), (2, o2), (3, o3), (10, o4)]) (.agg (BC c i wv pb bb).toArray) :=
 bq (l' := BC c i wv pb bb) ZH zeroValue169 (am mi (am aj (am wh (am Jk (am IY (am IZ (am J0 (am J1 (am J2 (am J3 (am sizeOf167 (am zh (am aj (am bI (am CG bj)))))))))))))))
  (iJ (l' := [.int .i64 c.cats, .slice c.ga c.gl.length c.gc, .slice c.ra c.rl.length c.rc, .slice c.pa c.pl.length c.pc, .slice c.na c.nl.length c.nc, .slice c.sa c.sl.length c.sc, .int .i64 c.gate, .int .i64 c.quota, .int .i64 0, .slice none 0 0, .pointer none, .pointer none, .pointer none, .pointer none, .int .u32 0, .int .u32 0, .int .u32 0, .int .i64 0, .bool false, .int .i64 0, .int .i64 0, .int .i64 0, .int .u32 0, .int .u32 0, .int .u32 0, .int .i64 0, .bool false, .int .i64 0, .int .i64 0, .int .i64 0, .int .u32 0, .int .u32 0, .int .u32 0, .int .i64 0, .bool false, .int .i64 0, .int .i64 0, .int .i64 0, .pointer none, .pointer none, .pointer none, .slice none 0 0, .int .i64 0, .bool false, .int .u32 0, .int .u32 0, .int .u32 0, .int .u32 0]) rfl mi h0 rfl (Nat.le_of_ble_eq_true rfl) rfl
  (aI (l' := [.int .i64 c.cats, .slice c.ga c.gl.length c.gc, .slice c.ra c.rl.length c.rc, .slice c.pa c.pl.length c.pc, .slice c.na c.nl.length c.nc, .slice c.sa c.sl.length c.sc, .int .i64 c.gate, .int .i64 c.quota, .int .i64 i, .slice none 0 0, .pointer none, .pointer none, .pointer none, .pointer none, .int .u32 0, .int .u32 0, .int .u32 0, .int .i64 0, .bool false, .int .i64 0, .int .i64 0, .int .i64 0, .int .u32 0, .int .u32 0, .int .u32 0, .int .i64 0, .bool false, .int .i64 0, .int .i64 0, .int .i64 0, .int .u32 0, .int .u32 0, .int .u32 0, .int .i64 0, .bool false, .int .i64 0, .int .i64 0, .int .i64 0, .pointer none, .pointer none, .pointer none, .slice none 0 0, .int .i64 0, .bool false, .int .u32 0, .int .u32 0, .int .u32 0, .int .u32 0]) rfl aj h1 rfl (Nat.le_of_ble_eq_true rfl) rfl
  (aI (l' := [.int .i64 c.cats, .slice c.ga c.gl.length c.gc, .slice c.ra c.rl.length c.rc, .slice c.pa c.pl.length c.pc, .slice c.na c.nl.length c.nc, .slice c.sa c.sl.length c.sc, .int .i64 c.gate, .int .i64 c.quota, .int .i64 i, wv, .pointer none, .pointer none, .pointer none, .pointer none, .int .u32 0, .int .u32 0, .int .u32 0, .int .i64 0, .bool false, .int .i64 0, .int .i64 0, .int .i64 0, .int .u32 0, .int .u32 0, .int .u32 0, .int .i64 0, .bool false, .int .i64 0, .int .i64 0, .int .i64 0, .int .u32 0, .int .u32 0, .int .u32 0, .int .i64 0, .bool false, .int .i64 0, .int .i64 0, .int .i64 0, .pointer none, .pointer none, .pointer none, .slice none 0 0, .int .i64 0, .bool false, .int .u32 0, .int .u32 0, .int .u32 0, .int .u32 0]) rfl wh h2 hw (Nat.le_of_ble_eq_true rfl) rfl
  (aI (l' := [.int .i64 c.cats, .slice c.ga c.gl.length c.gc, .slice c.ra c.rl.length c.rc, .slice c.pa c.pl.length c.pc, .slice c.na c.nl.length c.nc, .slice c.sa c.sl.length c.sc, .int .i64 c.gate, .int .i64 c.quota, .int .i64 i, wv, pV pb, .pointer none, .pointer none, .pointer none, .int .u32 0, .int .u32 0, .int .u32 0, .int .i64 0, .bool false, .int .i64 0, .int .i64 0, .int .i64 0, .int .u32 0, .int .u32 0, .int .u32 0, .int .i64 0, .bool false, .int .i64 0, .int .i64 0, .int .i64 0, .int .u32 0, .int .u32 0, .int .u32 0, .int .i64 0, .bool false, .int .i64 0, .int .i64 0, .int .i64 0, .pointer none, .pointer none, .pointer none, .slice none 0 0, .int .i64 0, .bool false, .int .u32 0, .int .u32 0, .int .u32 0, .int .u32 0]) rfl Jk h3 rfl (Nat.le_of_ble_eq_true rfl) rfl
  (aI (l' := [.int .i64 c.cats, .slice c.ga c.gl.length c.gc, .slice c.ra c.rl.length c.rc, .slice c.pa c.pl.length c.pc, .slice c.na c.nl.length c.nc, .slice c.sa c.sl.length c.sc, .int .i64 c.gate, .int .i64 c.quota, .int .i64 i, wv, pV pb, .pointer none, .pointer none, .pointer none, .int .u32 0, .int .u32 0, .int .u32 0, .int .i64 0, .bool false, .int .i64 0, .int .i64 0, .int .i64 0, .int .u32 0, .int .u32 0, .int .u32 0, .int .i64 0, .bool false, .int .i64 0, .int .i64 0, .int .i64 0, .int .u32 0, .int .u32 0, .int .u32 0, .int .i64 0, .bool false, .int .i64 0, .int .i64 0, .int .i64 0, .pointer none, .pointer none, pV bb, .slice none 0 0, .int .i64 0, .bool false, .int .u32 0, .int .u32 0, .int .u32 0, .int .u32 0]) rfl sizeOf167 h4 rfl (Nat.le_of_ble_eq_true rfl) rfl
  bi)))))
theorem U0 {R : List HP} {qs c : Nat} {a : Option Addr} {fr : List aC} {vs : List Value} (hv : vs.length = fr.length) : Ent (pt qs (ac [.slice a fr.length c] 195) :: osl 196 1 (.slice a fr.length c) vs :: ((vs.zip fr).map eX ++ R)) (dN qs fr :: R) := qZ (vs := vs) hv rfl
theorem U1 (c : Cfg) (h : CfK W0 c) (hr : rt c = true) (i : Nat) (hi : i < c.gl.length) (qs pb : Nat) (fr : List aC) (po : Po) (hF : cH fr) (hP : PoOk po) (hl : po.length = fr.length) (h0 : 0 < fr.length) (hfre : (cQ c i).2.1 ≤ ((bP po i).length : Int)) (a : Option Addr) (cap : Nat) (ws : List Nat) (hs : ∀ A, cG (aO W0 A) a 1 i3 ws) (hb : ∀ y ∈ ws, y < 4294967296) (hn : ws.length < 9223372036854775808) (hcap : ws.length ≤ cap) : sP W0 38 [.agg (di c).toArray, .int .i64 i, pV qs, pV pb, .slice a ws.length cap] (eh pb (qs, po) :: dN qs fr :: R) (fun v B => ∃ gb, v = .tuple #[pV gb, .int .i64 0] ∧ B = eh pb (qs, (laid c i ws fr po).po) :: dN qs (laid c i ws fr po).fr :: R) := by
 have hR := lg hr
 have hg4 := hR.g4
 have hnn := hR.nn
 have hok1 : ImOk (laid c i ws fr po) := rn (by omega) ⟨hF, hP, vz, hl⟩
 refine ai 2 func38 ntmps38 ?_
 refine ax (aV rfl) fun b5 => ?_
 refine au 8 ?_
 refine aM (aD D3 rfl (y6 c h.ok)) ?_
 rw [hr]
 refine au 2 ?_
 refine bB rfl rfl rfl (fun g1_4 => ?_) fun g1_4 => ?_
 ·exact absurd g1_4 (by decide)
 refine au 5 ?_
 refine bB rfl rfl rfl (fun g1_8 => ?_) fun g1_8 => ?_
 ·omega
 refine au 12 ?_
 refine a8 rfl (fun c1 => ?_) fun c1 => ?_
 ·omega
 refine au 4 ?_
 refine sV (qs := qs) fun a2 c2 vs hv => ?_
 refine au 4 ?_
 refine bB rfl rfl rfl (fun g3_3 => ?_) fun g3_3 => ?_
 ·cases g3_3
 refine au 13 ?_
 refine bB rfl rfl rfl (fun g3_11 => ?_) fun g3_11 => ?_
 ·omega
 refine au 6 ?_
 refine a8 rfl (fun c3 => ?_) fun c3 => ?_
 ·cases c3
 refine au 3 ?_
 refine gD (U0 hv) ?_
 refine au 5 ?_
 refine a7 rfl (bq underlying188 zeroValue188 (am sizeOf186 bj) bi) ?_
 refine ax (aV rfl) fun bb => ?_
 refine a7 rfl (TZ rfl rfl rfl rfl rfl rfl) ?_
 refine ax (aV rfl) fun gb => ?_
 refine au 7 ?_
 refine a7 rfl (bq ZO zeroValue222 (am J5 (am J9 bj)) bi) ?_
 refine ax (aV rfl) fun pm => ?_
 refine a7 rfl (bq ZJ zeroValue192 (am zk (am J4 (am J5 bj))) (aI rfl zk rfl rfl (Nat.le_of_ble_eq_true rfl) SetL.eq (aI rfl J4 rfl rfl (Nat.le_of_ble_eq_true rfl) SetL.eq bi))) ?_
 refine ax (aV rfl) fun pv => ?_
 refine au 2 ?_
 refine aE 3 (bA J0 rfl rfl rfl (Nat.le_of_ble_eq_true rfl) SetL.eq) ?_
 refine lz (b := pm) (o' := jE gn) rfl ?_
 refine lz (b := pv) (o' := sX qs pm 0) rfl ?_
 refine lz (b := gb) (o' := ac ((BC c i (.slice a ws.length cap) pb bb).set 13 (pV pv)) 169) rfl ?_
 refine au 2 ?_
 refine aB rfl (Eb call104 rfl (TY c h hr i hi gb pv pm pb qs fr po hF hP hl h0 hfre a cap ws hs hb hn hcap _ ⟨rfl, rfl, rfl⟩ rfl rfl rfl)) ?_
 rintro _ _ ⟨rfl, cs, hcs, rfl⟩
 refine au 10 ?_
 refine a8 rfl (fun c8 => ?_) fun c8 => ?_
 ·exact absurd c8 (by decide)
 refine au 9 ?_
 refine cY (fun X : Nat × List Pl => X.1 ≤ c.nl.length ∧ Pgs X.2) (fun X => [(1, .int .i64 i), (5, pV b5), (12, pV gb), (14, .int .i64 X.1)]) (fun X => pt b5 (fz c) :: pt gb (ac cs 169) :: pt pv (sX qs pm 0) :: pt pm (jE X.2) :: eh pb (qs, (laid c i ws fr po).po) :: dN qs (laid c i ws fr po).fr :: R) (fun X => c.nl.length - X.1) (0, (laid c i ws fr po).pg) ?_ ?_
 ·exact ⟨Nat.zero_le _, hok1.pg⟩
 intro ⟨k, pg⟩ ⟨hk, hpg⟩
 dsimp only at hk hpg ⊢
 refine au 10 ?_
 refine a8 rfl (fun c11 => ?_) fun c11 => ?_
 ·refine au 2 ?_
  refine dU (fun pg3 : List Pl => Pgs pg3 ∧ k < c.nl.length) (fun _ => [(1, .int .i64 i), (5, pV b5), (12, pV gb), (14, .int .i64 k)]) (fun pg3 => pt b5 (fz c) :: pt gb (ac cs 169) :: pt pv (sX qs pm 0) :: pt pm (jE pg3) :: eh pb (qs, (laid c i ws fr po).po) :: dN qs (laid c i ws fr po).fr :: R) ?_ ?_
  ·skip
   refine au 2 ?_
   have hk1 : k < c.nl.length := by omega
   obtain ⟨g, o, hga, hc⟩ := (h.ok.n []).at_ hk1
   obtain ⟨x, hx⟩ : ∃ x, c.nl[k] = x := ⟨_, rfl⟩
   rw [hx] at hc
   refine au 3 ?_
   refine ar 3 (aD call105 rfl (Ti c h.ok hr k (by omega) (by omega))) ?_
   refine dU (fun pg2 : List Pl => Pgs pg2 ∧ k < c.nl.length) (fun _ => [(1, .int .i64 i), (5, pV b5), (12, pV gb), (14, .int .i64 k), (15, .int .i64 (lh c k))]) (fun pg2 => pt b5 (fz c) :: pt gb (ac cs 169) :: pt pv (sX qs pm 0) :: pt pm (jE pg2) :: eh pb (qs, (laid c i ws fr po).po) :: dN qs (laid c i ws fr po).fr :: R) ?_ ?_
   ·skip
    refine au 5 ?_
    refine a7 rfl (dW rW kN rfl hga rfl rfl hk1 (by first | exact Nat.zero_add _ | rfl)) ?_
    refine a7 rfl (jV CL aj) ?_
    refine ap 4 (aA aX rfl (hc.weak 0 _ rfl)) ?_
    refine a8 rfl (fun c14 => ?_) fun c14 => ?_
    ·refine au 4 ?_
     refine ap 4 (aA Da rfl (aN hcs.cv)) ?_
     refine a7 rfl (bO rfl rfl (by rw [aG (by omega)]; omega : IntKind.wrap .i64 (8 + (k : Int)) = ((8 + k : Nat) : Int))) ?_
     refine a7 rfl (aH rfl) (a7 rfl (bq mX jh (am aj (am aj bj)) (aI rfl aj rfl rfl (Nat.le_of_ble_eq_true rfl) SetL.eq (aI rfl aj rfl rfl (Nat.le_of_ble_eq_true rfl) SetL.eq bi))) ?_)
     refine ar 2 (ao JO rfl (AJ pm pg hpg (8 + k : Nat) (lh c k, 3))) ?_
     exact cj (dJ pg ((8 + k : Nat) : Int) (lh c k, 3)) (⟨qX hpg, hk1⟩)
    refine au 2 ?_
    exact cj pg (⟨hpg, hk1⟩)
   intro pg2 ⟨hpg2, hk1⟩
   refine bD ?_
   obtain ⟨g, o, hga, hc⟩ := (h.ok.n []).at_ hk1
   obtain ⟨x, hx⟩ : ∃ x, c.nl[k] = x := ⟨_, rfl⟩
   rw [hx] at hc
   refine au 4 ?_
   refine a7 rfl (dW rW kN rfl hga rfl rfl hk1 (by first | exact Nat.zero_add _ | rfl)) ?_
   refine a7 rfl (jV CL aj) ?_
   refine ap 4 (aA aX rfl (hc.weak 1 _ rfl)) ?_
   refine a8 rfl (fun c16 => ?_) fun c16 => ?_
   ·refine au 4 ?_
    refine ap 4 (aA Da rfl (aN hcs.cv)) ?_
    refine a7 rfl (bO rfl rfl (by rw [aG (by omega)]; omega : IntKind.wrap .i64 (8 + (k : Int)) = ((8 + k : Nat) : Int))) ?_
    refine a7 rfl (aH rfl) (a7 rfl (bq mX jh (am aj (am aj bj)) (aI rfl aj rfl rfl (Nat.le_of_ble_eq_true rfl) SetL.eq (aI rfl aj rfl rfl (Nat.le_of_ble_eq_true rfl) SetL.eq bi))) ?_)
    refine ar 3 (ao JO rfl (AJ pm pg2 hpg2 (8 + k : Nat) (lh c k, 1))) ?_
    exact cj (dJ pg2 ((8 + k : Nat) : Int) (lh c k, 1)) (⟨qX hpg2, hk1⟩)
   refine au 3 ?_
   exact cj pg2 (⟨hpg2, hk1⟩)
  intro pg3 ⟨hpg3, hk1⟩
  refine au 2 ?_
  refine ap 3 (cM rfl rfl) ?_
  refine bZ (k + 1, pg3) ?_ (hμ := ?_)
  ·exact ⟨by omega, hpg3⟩
  show c.nl.length - (k + 1) < c.nl.length - k; omega
 refine au 13 ?_
 refine aJ ?_
 exact ⟨_, ⟨gb, rfl, rfl⟩, inferInstance⟩
theorem Gn {P : Program} {S : World → Prop} {N : FSz} {e : aW} {x : Operand} {v : Value} {l : List Value} {T : TypeId} {fs : Array Field} {nm : String} {i ft fo : Nat} {em : Bool} {tg pk : String} {bo : Nat} (hx : ev e x = some (.agg l.toArray)) (hu : P.underlying T = some (.struct fs)) (hf : fs.toList[i]? = some ⟨nm, ft, fo, em, tg, pk, bo⟩)
  (ha : ∀ w, (isAgg ft).run P w = .ok false w) (hl : l[fo]? = some v) : cy P S N e (.field T x i) v := fun a w _ _ _ _ _ hF _ => by
 have hf' : fs[i]? = some ⟨nm, ft, fo, em, tg, pk, bo⟩ := by simpa using hf
 simp only [execOp, Instr.field, hF.eval hx, Sem.run_bind, e7 hu, hf', Result.andThen_ok, asAgg, Sem.run_pure]
 rw [sf ha hl]; rfl
section
variable {W0 : World} {N : FSz} {K : Act → World → Prop} {e : aW} {A B R R1 R2 R3 : List HP} {g n c : Nat} {a : Option Addr} {v : Value} {ls : List (List ByteArray)}
end
section
variable {W0 : World} {N : FSz} {K : Act → World → Prop} {e : aW} {A B R R1 R2 R3 R4 R5 R6 : List HP} {p n : Nat} {ps : List Prt}
end
theorem Gp {n f : Nat} : (List.replicate n cI).set f cI = List.replicate n cI := by
 apply List.ext_getElem
 ·simp
 intro i h1 h2; rw [List.getElem_set]; simp
theorem BD {c : Cfg} {f i : Nat} (hr : rt c = true) (hf : f < cF c) (h : jt c f = some i) : pU c f = (1, (i : Int)) := by
 rw [pU, if_pos ⟨hr, by omega, by have := (lg hr).nd; rw [cF] at hf; omega⟩, h]; rfl
theorem U2 {c : Cfg} {f : Nat} (hr : rt c = true) (hf : f < cF c) (h : jt c f = none) : (pU c f).1 = 2 := by
 rw [pU, if_pos ⟨hr, by omega, by have := (lg hr).nd; rw [cF] at hf; omega⟩, h]; rfl
def f16 (b : List Nat) : List Value := (List.range 16).map fun i => bV (b.getD i 0)
section
variable {W0 : World} {N : FSz} {K : Act → World → Prop} {e : aW} {A B R R1 R2 R3 : List HP} {d : Nat} {x : Dk}
end
section
variable {rb vb pv tr : Nat} {cs : List Value}
theorem BE (b : Nat) (rl : List Nat) (pc i : Nat) (hl : rl.length = 16) (hi : i < 16) : sQ W0 59 [pV b, .int .i64 i] (pt b (dq rl pc) :: R) (.tuple #[wV (rl.getD i 0), .int .i64 0]) (pt b (dq rl pc) :: R) := by
 have hir : j9 i = true := by simp only [j9, decide_eq_true_eq]; omega
 have hg : (rl.map wV ++ [Value.bool true, wV pc])[i * 1]? = some (wV (rl.getD i 0)) := by
  rw [Nat.mul_one, List.getElem?_append_left (by rw [List.length_map, hl]; exact hi)]
  simp [List.getD, show i < rl.length by omega]
 refine ai 13 func59 ntmps59 ?_
 refine a8 rfl (fun c1 => ?_) fun c1 => ?_
 ·cases c1
 refine au 9 ?_
 refine ar 9 (ao D7 rfl (ya b rl pc hl i)) ?_
 refine a8 rfl (fun c4 => ?_) fun c4 => ?_
 ·exact absurd c4 (by rw [hir]; decide)
 refine au 9 ?_
 refine a7 rfl (dI D6 bE rfl rfl rfl hi (by first | exact Nat.zero_add _ | rfl)) ?_
 refine ap 5 (aA ia rfl (aN hg)) ?_
 exact aJ aL
theorem U3 (k ck : Int) (a b d : Nat) (rl : List Nat) (h : rl.length = 16) (zs : List Value) (hz : zs.length = 16) : setR ([.int .i64 k, .int .i64 ck, wV a, wV b, wV d] ++ zs) 5 (rl.map wV) = [.int .i64 k, .int .i64 ck, wV a, wV b, wV d] ++ rl.map wV :=
 wT (rl.map wV) zs [.int .i64 k, .int .i64 ck, wV a, wV b, wV d] (by rw [List.length_map, h, hz])
theorem U4 {S : World → Prop} {N : FSz} {e : aW} {o0 o1 o2 o3 o4 o5 : Operand} {k ck : Int} {a b d : Nat} {rl : List Nat} (hl : rl.length = 16) (h0 : ev e o0 = some (.int .i64 k)) (h1 : ev e o1 = some (.int .i64 ck)) (h2 : ev e o2 = some (wV a)) (h3 : ev e o3 = some (wV b)) (h4 : ev e o4 = some (wV d)) (h5 : ev e o5 = some (.agg (rl.map wV).toArray)) :
  cy Tryz.prog S N e (.build 253 #[(0, o0), (1, o1), (2, o2), (3, o3), (4, o4), (5, o5)]) (.agg ([Value.int .i64 k, .int .i64 ck, wV a, wV b, wV d] ++ rl.map wV).toArray) :=
 bq (l' := [Value.int .i64 k, .int .i64 ck, wV a, wV b, wV d] ++ rl.map wV) underlying253 JW (am aj (am aj (am bE (am bE (am bE (am mW bj))))))
  (aI (l' := [.int .i64 k, .int .i64 0, .int .u32 0, .int .u32 0, .int .u32 0] ++ List.replicate 16 (.int .u32 0)) rfl aj h0 rfl (Nat.le_of_ble_eq_true rfl) rfl
  (aI (l' := [.int .i64 k, .int .i64 ck, .int .u32 0, .int .u32 0, .int .u32 0] ++ List.replicate 16 (.int .u32 0)) rfl aj h1 rfl (Nat.le_of_ble_eq_true rfl) rfl
  (aI (l' := [.int .i64 k, .int .i64 ck, wV a, .int .u32 0, .int .u32 0] ++ List.replicate 16 (.int .u32 0)) rfl bE h2 rfl (Nat.le_of_ble_eq_true rfl) rfl
  (aI (l' := [.int .i64 k, .int .i64 ck, wV a, wV b, .int .u32 0] ++ List.replicate 16 (.int .u32 0)) rfl bE h3 rfl (Nat.le_of_ble_eq_true rfl) rfl
  (aI (l' := [.int .i64 k, .int .i64 ck, wV a, wV b, wV d] ++ List.replicate 16 (.int .u32 0)) rfl bE h4 rfl (Nat.le_of_ble_eq_true rfl) rfl
  (iJ rfl mW h5 (by rw [List.length_map, hl]) (by simp) (U3 k ck a b d rl hl _ (by simp)) bi))))))
theorem U5 (b : Nat) (es : List Evt) (k ck : Int) (x y z : Nat) (rl : List Nat) (hl : rl.length = 16) (hn : es.length < 4096) : sQ W0 129 [pV b, .agg ([Value.int .i64 k, .int .i64 ck, wV x, wV y, wV z] ++ rl.map wV).toArray] (eN b es :: R) (.int .i64 0) (eN b (es ++ [⟨k, ck, x, y, z, rl⟩]) :: R) := by
 have := TB W0 R b es ⟨k, ck, x, y, z, rl⟩ hn
 rwa [Tz (e := ⟨k, ck, x, y, z, rl⟩) hl] at this
def vA (rl : List Nat) (e w : Nat) : List Nat := (rl.set 1 e).set 2 w
end
end
section
abbrev cT := Int × Int
abbrev iA := Int × Int × Int
def iT (k : cT) (e : iA) (u : Int) : It := ⟨k.1, k.2, e.1, e.2.1, e.2.2, u⟩
def i4 (k : cT) (l : List It) : List It := l.filter (fun x => decide (x.key ≠ k))
theorem qe {k : cT} {l : List It} {x : It} : x ∈ i4 k l ↔ x ∈ l ∧ x.key ≠ k := by simp [i4]
theorem yo {k : cT} {l : List It} (h : ∀ x ∈ l, x.key ≠ k) : i4 k l = l := List.filter_eq_self.2 fun x hx => by simpa using h x hx
structure Rep (its : List It) (now : Nat) (L : List It) : Prop where
  perm : its.Perm L
  heap : Heap its its.length
  sort : L.Pairwise (fun x y => x.u < y.u)
  le : ∀ x ∈ L, x.u ≤ (now : Int)
  keys : (L.map It.key).Nodup
theorem Rep.nil : Rep [] 0 [] := ⟨List.Perm.nil, fun c hc => by simp at hc, List.Pairwise.nil, fun _ h => by simp at h, List.nodup_nil⟩
theorem Rep.length {its L : List It} {now : Nat} (h : Rep its now L) : its.length = L.length := h.perm.length_eq
theorem Rep.keysI {its L : List It} {now : Nat} (h : Rep its now L) : (its.map It.key).Nodup := (h.perm.map It.key).symm.nodup h.keys
def jK (k : cT) (x : It) (L : List It) : List It := i4 k L ++ [x]
theorem Gq {L : List It} {k : cT} {x : It} {now : Nat} (hs : L.Pairwise (fun x y => x.u < y.u)) (hl : ∀ x ∈ L, x.u ≤ (now : Int)) (hx : x.u = (now : Int) + 1) : (jK k x L).Pairwise (fun x y => x.u < y.u) := by
 refine List.pairwise_append.2 ⟨hs.filter _, List.pairwise_singleton _ _, fun y hy z hz => ?_⟩
 obtain rfl : z = x := by simpa using hz
 have := hl y (qe.1 hy).1; omega
theorem Gr {L : List It} {k : cT} {x : It} (h : (L.map It.key).Nodup) (hx : x.key = k) : ((jK k x L).map It.key).Nodup := by
 unfold jK
 rw [List.map_append]
 refine List.nodup_append.2 ⟨?_, by simp, fun a ha b hb => ?_⟩
 ·exact List.Sublist.nodup (List.Sublist.map _ List.filter_sublist) h
 obtain rfl : b = x.key := by simpa using hb
 obtain ⟨y, hy, rfl⟩ := List.mem_map.1 ha
 rw [hx]; exact (qe.1 hy).2
theorem Gs {L : List It} {k : cT} {x : It} {now : Nat} (hl : ∀ x ∈ L, x.u ≤ (now : Int)) (hx : x.u = (now : Int) + 1) : ∀ y ∈ jK k x L, y.u ≤ ((now + 1 : Nat) : Int) := fun y hy => by
 rcases List.mem_append.1 hy with h | h
 ·have := hl y (qe.1 h).1; omega
 obtain rfl : y = x := by simpa using h
 omega
theorem U6 {its : List It} {k : cT} {i : Nat} {x : It} (hk : (its.map It.key).Nodup) (hi : i < its.length) (he : (its.getD i default).key = k) : (its.set i x).Perm (jK k x its) := by
 have hg : its.getD i default = its[i] := by simp [List.getD, hi]
 rw [hg] at he
 have e : its = its.take i ++ its[i] :: its.drop (i + 1) := by rw [← List.drop_eq_getElem_cons hi, List.take_append_drop]
 have hs : its.set i x = its.take i ++ x :: its.drop (i + 1) := by rw [List.set_eq_take_append_cons_drop, if_pos hi]
 have hw : i4 k its = its.take i ++ its.drop (i + 1) := by
  have hn := hk
  rw [e, List.map_append, List.map_cons] at hn
  have hnn := List.nodup_append.1 hn
  have h2 := List.nodup_cons.1 hnn.2.1
  conv => lhs; rw [e]
  unfold i4
  rw [List.filter_append, List.filter_cons_of_neg (by simp [he])]
  have h3 := yo (k := k) (l := its.take i) (fun y hy h => hnn.2.2 y.key (List.mem_map_of_mem hy) its[i].key (by simp) (by rw [h, he]))
  have h4 := yo (k := k) (l := its.drop (i + 1)) (fun y hy h => h2.1 (by rw [he, ← h]; exact List.mem_map_of_mem hy))
  unfold i4 at h3 h4
  rw [h3, h4]
 rw [hs, jK, hw]
 exact List.perm_middle.trans (List.perm_append_singleton x _).symm
theorem Rep.setI {its its' L : List It} {now i : Nat} {k : cT} {x : It} (h : Rep its now L) (hi : i < its.length) (he : (its.getD i default).key = k) (hx : x.key = k) (hu : x.u = (now : Int) + 1)
  (hp : its'.Perm (its.set i x)) (hh : Heap its' its'.length) : Rep its' (now + 1) (jK k x L) :=
 ⟨hp.trans ((U6 h.keysI hi he).trans ((h.perm.filter _).append_right _)), hh, Gq h.sort h.le hu, Gs h.le hu, Gr h.keys hx⟩
def lj (k : cT) (L : List It) : Option It := L.find? (fun x => decide (x.key = k))
theorem Rep.noneI {its L : List It} {now : Nat} {k : cT} (h : Rep its now L) (hn : ∀ x ∈ its, x.key ≠ k) : lj k L = none ∧ i4 k L = L :=
 ⟨List.find?_eq_none.2 fun x hx => by simpa using hn x (h.perm.mem_iff.2 hx), yo fun x hx => hn x (h.perm.mem_iff.2 hx)⟩
theorem tG {L : List It} {k : cT} {y : It} (h : lj k L = some y) : y ∈ L ∧ y.key = k := ⟨List.mem_of_find?_eq_some h, by simpa using List.find?_some h⟩
theorem U7 {L : List It} {k : cT} {y : It} (hk : (L.map It.key).Nodup) (hy : y ∈ L) (he : y.key = k) : lj k L = some y := by
 cases hf : lj k L with
 | none => exact absurd he (by simpa using List.find?_eq_none.1 hf y hy)
 | some z =>
  obtain ⟨hz, hz'⟩ := tG hf
  have : z = y := by
   clear hf
   induction L with
   | nil => simp at hy
   | cons a L ih =>
    simp only [List.map_cons, List.nodup_cons] at hk
    rcases List.mem_cons.1 hy with e1 | hy1
    ·rcases List.mem_cons.1 hz with e2 | hz1
     ·rw [e1, e2]
     subst e1; exact absurd (List.mem_map_of_mem (f := It.key) hz1) (by rw [hz', ← he]; exact hk.1)
    rcases List.mem_cons.1 hz with e2 | hz1
    ·subst e2; exact absurd (List.mem_map_of_mem (f := It.key) hy1) (by rw [he, ← hz']; exact hk.1)
    exact ih hk.2 hy1 hz1
  rw [this]
theorem Rep.someI {its L : List It} {now i : Nat} {k : cT} (h : Rep its now L) (hi : i < its.length) (he : (its.getD i default).key = k) : lj k L = some (its.getD i default) := by
 have hg : its.getD i default = its[i] := by simp [List.getD, hi]
 refine U7 h.keys (h.perm.mem_iff.1 ?_) he
 rw [hg]; exact List.getElem_mem hi
theorem Rep.dropI {its its' L : List It} {now : Nat} {k : cT} {y : It} (h : Rep its now L) (he : y.key = k) (hp : (its' ++ [y]).Perm its) (hh : Heap its' its'.length) : Rep its' now (i4 k L) := by
 have hn : ((its' ++ [y]).map It.key).Nodup := (hp.map _).symm.nodup h.keysI
 rw [List.map_append] at hn
 have h1 := List.nodup_append.1 hn
 have e : i4 k (its' ++ [y]) = its' := by
  unfold i4
  rw [List.filter_append, List.filter_cons_of_neg (by simp [he])]
  have := yo (k := k) (l := its') (fun x hx h => h1.2.2 x.key (List.mem_map_of_mem hx) y.key (by simp) (by rw [h, he]))
  unfold i4 at this
  rw [this]; simp
 refine ⟨?_, hh, h.sort.filter _, fun x hx => h.le x (qe.1 hx).1, List.Sublist.nodup (List.Sublist.map _ List.filter_sublist) h.keys⟩
 have := (hp.trans h.perm).filter (fun x => decide (x.key ≠ k))
 rw [← e]; exact this
theorem Rep.pushI {its its' L : List It} {now : Nat} {k : cT} {x : It} (h : Rep its now L) (hn : ∀ y ∈ its, y.key ≠ k) (hx : x.key = k) (hu : x.u = (now : Int) + 1) (hp : its'.Perm (its ++ [x])) (hh : Heap its' its'.length) : Rep its' (now + 1) (jK k x L) :=
 ⟨by unfold jK; rw [(h.noneI hn).2]; exact hp.trans (h.perm.append_right _), hh, Gq h.sort h.le hu, Gs h.le hu, Gr h.keys hx⟩
theorem Rep.popI {its its' L : List It} {now : Nat} {y : It} (h : Rep its now L) (hp : (its' ++ [y]).Perm its) (hh : Heap its' its'.length) (hmin : ∀ z ∈ its, y.u ≤ z.u) : Rep its' now L.tail := by
 have hyL : y ∈ L := (hp.trans h.perm).mem_iff.1 (by simp)
 cases L with
 | nil => simp at hyL
 | cons z T =>
  have hs := List.pairwise_cons.1 h.sort
  have hyz : y = z := by
   rcases List.mem_cons.1 hyL with e | hy
   ·exact e
   have h1 := hs.1 y hy
   have h2 := hmin z (h.perm.mem_iff.2 (by simp))
   omega
  subst hyz
  have hpT : (y :: its').Perm (y :: T) := (List.perm_append_singleton y its').symm.trans (hp.trans h.perm)
  exact ⟨List.Perm.cons_inv hpT, hh, hs.2, fun x hx => h.le x (List.mem_cons_of_mem _ hx), (List.nodup_cons.1 (by simpa using h.keys)).2⟩
def ju (room now : Nat) (k : cT) (e : iA) (L : List It) : List It :=
  if room < (jK k (iT k e (now + 1 : Nat)) L).length then (jK k (iT k e (now + 1 : Nat)) L).tail else jK k (iT k e (now + 1 : Nat)) L
def rF (now : Nat) (k : cT) (L : List It) : List It := match lj k L with | none => L | some y => jK k (iT k y.ent (now + 1 : Nat)) L
theorem yp (k : cT) (L : List It) : (i4 k L).length ≤ L.length := List.length_filter_le _ _
theorem yq (k : cT) (x : It) (L : List It) : (jK k x L).length = (i4 k L).length + 1 := by simp [jK]
theorem BF {k : cT} {L : List It} {y : It} (h : lj k L = some y) : (i4 k L).length < L.length := by
 obtain ⟨h1, h2⟩ := tG h
 exact List.length_filter_lt_length_iff_exists.2 ⟨y, h1, by simpa using h2⟩
theorem tH {room now : Nat} {k : cT} {e : iA} {L : List It} (h : L.length ≤ room) : (ju room now k e L).length ≤ room := by
 have h1 := yp k L
 unfold ju; split
 ·rw [List.length_tail, yq]; omega
 rename_i h2; omega
theorem U8 {now : Nat} {k : cT} {L : List It} : (rF now k L).length ≤ L.length := by
 unfold rF; split
 ·exact Nat.le_refl _
 rename_i y hy; rw [yq]; exact BF hy
end
section
open Go.RowKit
@[reducible] def d3 (room now : Nat) : List Value := [.int .i64 room, .int .i64 now, .bool true]
theorem tI (b : Nat) (its : List It) (room now : Nat) (L : List It) (k : cT) (e : iA) (hR : Rep its now L) (hL : L.length ≤ room) (hr : room ≤ 4) (hn : now < 1000000) : sP W0 338 [.pointer (some ⟨b, 0, none⟩), .agg (fH k).toArray, .agg (mb e).toArray] (aQ b (its, d3 room now) :: R) (fun v B => v = .int .i64 0 ∧ ∃ its', B = aQ b (its', d3 room (now + 1)) :: R ∧ Rep its' (now + 1) (ju room now k e L)) := by
 have hlen := hR.length
 refine ai 2 func338 ntmps338 ?_
 refine ax (aV rfl) fun b1 => ?_
 refine ax (aV rfl) fun b2 => ?_
 refine au 7 ?_
 refine ar 2 (ao wF rfl (tE b its _ _)) ?_
 refine a8 rfl (fun c1 => ?_) fun c1 => ?_
 ·exact absurd c1 (by decide)
 refine au 3 ?_
 refine aU [(b1, 0, _), (b2, 0, _)] 8 aT rfl (aa (aa ag)) (fun hS => ?_)
 refine av 0 rfl rfl rfl hS (b0 jP g8 rfl (by first | exact co (k := 0) rfl | exact co (k := 1) rfl) rfl) ?_
 refine av 1 rfl rfl rfl hS (b0 kM dX rfl (by first | exact co (k := 0) rfl | exact co (k := 1) rfl) rfl) ?_
 refine av 2 rfl rfl rfl hS (bq Js Db (am g8 (am dX bj)) (iJ rfl g8 rfl rfl (Nat.le_of_ble_eq_true rfl) SetRL.eq (iJ rfl dX rfl rfl (Nat.le_of_ble_eq_true rfl) SetRL.eq bi))) ?_
 refine ah 3 1 hS ?_
 refine eJ (is := [4, 6]) (by kernel_rfl) rfl ⟨?_, ?_, trivial⟩
 ·skip
  refine cV rfl rfl (ao JY rfl (Gl b its _ now hn)) rfl ?_; clear hS
  rintro _ B_ ⟨rfl, hB_⟩
  obtain rfl := hB_.symm
  refine ⟨(aa (aa ag)), fun hS => ?_⟩
  refine av 5 rfl rfl rfl hS (bq pj lU (am mT (am aj bj)) (iJ rfl mT rfl rfl (Nat.le_of_ble_eq_true rfl) SetRL.eq (aI rfl aj rfl rfl (Nat.le_of_ble_eq_true rfl) SetL.eq bi))) ?_
  refine bS 6 (by kernel_rfl) rfl rfl (aS lU) rfl ?_; clear hS
  rintro _ _ ⟨b3, rfl, rfl⟩
  refine ⟨(aa (aa ag)), fun hS => ?_⟩
  refine bU 7 rfl rfl (aF bM rfl rfl rfl rfl rfl) (aa (aa ag)) fun hS => ?_
  refine aK ?_
  refine au 6 ?_
  refine aB rfl (ao Dc rfl (yk b its _ k (by omega))) ?_
  rintro _ _ ⟨r, rfl, rfl, hf⟩
  refine au 9 ?_
  refine a8 rfl (fun c5 => ?_) fun c5 => ?_
  ·obtain ⟨i, rfl, hi, hk⟩ : ∃ i : Nat, r = (i : Int) ∧ i < its.length ∧ (its.getD i default).key = k := by
    rcases hf with ⟨h, _⟩ | h
    ·omega
    exact h
   refine bD ?_
   refine yg (b := b) (q9 hi) fun g c sp h1 h2 h3 => ?_
   refine aU [(b, 0, _), (b3, 0, _)] 9 aT rfl (aa (aa ag)) (fun hS => ?_)
   refine ah 0 6 hS ?_
   refine av 6 rfl rfl rfl hS (b0 fp bM rfl (by first | exact co (k := 0) rfl | exact co (k := 1) rfl) rfl) ?_
   refine av 7 rfl rfl rfl hS (bc dD bM rfl rfl rfl hi (by first | exact Nat.zero_add _ | rfl)) ?_
   refine bU 8 rfl rfl (ed bM rfl rfl rfl rfl (jJ its sp i hi) (kJ its sp i (iT k e (now + 1 : Nat)) hi)) (aa (aa ag)) fun hS => ?_
   refine aK ?_
   refine au 2 ?_
   refine Bv (b := b) (its := its.set i (iT k e (now + 1 : Nat))) rfl (by simp) h1 h2 (by simpa [cz eQ] using h3) ?_
   refine au 4 ?_
   refine a7 rfl (fY qC (fun _ h => nomatch h) rfl) ?_
   refine a7 rfl (aH rfl) ?_
   refine aB rfl (ao JZ rfl (Bw b (its.set i (iT k e (now + 1 : Nat))) _ i (by simp; omega) (by simpa using hi) (by rw [List.length_set]; exact xF hR.heap hi))) ?_
   rintro _ _ ⟨rfl, its', rfl, hp, hh⟩
   refine au 9 ?_
   refine ae ?_
   refine ⟨_, ⟨rfl, its', rfl, ?_⟩, inferInstance⟩
   have hlt := BF (hR.someI hi hk)
   rw [ju, if_neg (by rw [yq]; omega)]
   exact hR.setI hi hk rfl (by simp [iT]) hp (by rw [hp.length_eq]; exact hh)
  have hno : ∀ x ∈ its, x.key ≠ k := by
   rcases hf with ⟨_, h⟩ | ⟨i, h, _⟩
   ·exact h
   omega
  refine au 3 ?_
  refine aU [(b3, 0, _)] 7 aT rfl (aa ag) (fun hS => ?_)
  refine ah 0 3 hS ?_
  refine av 3 rfl rfl rfl hS (fY qC (fun _ h => nomatch h) rfl) ?_
  refine av 4 rfl rfl rfl hS (b0 fp bM rfl (co (k := 0) rfl) rfl) ?_
  refine av 5 rfl rfl rfl hS (fY pj (fun _ h => nomatch h) rfl) ?_
  refine bS 6 (by kernel_rfl) rfl rfl (ao zB rfl (heapPush_spec b its (iT k e (now + 1 : Nat)) _ (by omega) hR.heap)) rfl ?_; clear hS
  rintro _ _ ⟨rfl, its1, rfl, hp, hh⟩
  have hR1 := hR.pushI hno (x := iT k e (now + 1 : Nat)) rfl (by simp [iT]) hp hh
  have hlen1 := hR1.length
  have hpl : its1.length = its.length + 1 := by rw [hp.length_eq]; simp
  refine ⟨(aa ag), fun hS => ?_⟩
  refine aK ?_
  refine au 3 ?_
  refine aU [(b, 1, d3 room (now + 1))] 9 aT rfl (cR yh ag) (fun hS => ?_)
  refine ah 0 3 hS ?_
  refine ah 4 3 hS ?_
  refine av 7 rfl rfl rfl hS (aA aX rfl (io (k := 0) (j := 0) rfl rfl)) ?_
  refine bF 3 rfl rfl (ao qB rfl (oQ b its1 _)) (cR yh ag) fun hS => ?_
  refine ah 8 1 hS ?_
  refine aK ?_
  refine aY ?_
  refine a8 rfl (fun c10 => ?_) fun c10 => ?_
  ·refine au 4 ?_
   refine a7 rfl (fY qC (fun _ h => nomatch h) rfl) ?_
   refine aB rfl (ao zC rfl (heapPop_spec b its1 _ (by omega) (q9 (i := 0) (by omega)) hh)) ?_
   rintro _ _ ⟨y, its2, rfl, rfl, hp2, hh2, hmin⟩
   have hfin : Rep its2 (now + 1) (ju room now k e L) := by
    rw [ju, if_pos (by omega)]; exact hR1.popI hp2 hh2 hmin
   refine au 8 ?_
   refine ae ?_
   exact ⟨_, ⟨rfl, _, rfl, hfin⟩, inferInstance⟩
  have hfin : Rep its1 (now + 1) (ju room now k e L) := by
   rw [ju, if_neg (by omega)]; exact hR1
  refine au 8 ?_
  refine ae ?_
  exact ⟨_, ⟨rfl, _, rfl, hfin⟩, inferInstance⟩
 skip
 refine cV rfl rfl (aS lU) rfl ?_; clear hS
 rintro _ _ ⟨b3, rfl, rfl⟩
 refine ⟨(aa (aa ag)), fun hS => ?_⟩
 refine bF 4 rfl rfl (ao JY rfl (Gl b its _ now hn)) (aa (aa ag)) fun hS => ?_
 refine av 5 rfl rfl rfl hS (bq pj lU (am mT (am aj bj)) (iJ rfl mT rfl rfl (Nat.le_of_ble_eq_true rfl) SetRL.eq (aI rfl aj rfl rfl (Nat.le_of_ble_eq_true rfl) SetL.eq bi))) ?_
 refine bU 7 rfl rfl (aF bM rfl rfl rfl rfl rfl) (aa (aa ag)) fun hS => ?_
 refine aK ?_
 refine au 6 ?_
 refine aB rfl (ao Dc rfl (yk b its _ k (by omega))) ?_
 rintro _ _ ⟨r, rfl, rfl, hf⟩
 refine au 9 ?_
 refine a8 rfl (fun c5 => ?_) fun c5 => ?_
 ·obtain ⟨i, rfl, hi, hk⟩ : ∃ i : Nat, r = (i : Int) ∧ i < its.length ∧ (its.getD i default).key = k := by
   rcases hf with ⟨h, _⟩ | h
   ·omega
   exact h
  refine bD ?_
  refine yg (b := b) (q9 hi) fun g c sp h1 h2 h3 => ?_
  refine aU [(b, 0, _), (b3, 0, _)] 9 aT rfl (aa (aa ag)) (fun hS => ?_)
  refine ah 0 6 hS ?_
  refine av 6 rfl rfl rfl hS (b0 fp bM rfl (by first | exact co (k := 0) rfl | exact co (k := 1) rfl) rfl) ?_
  refine av 7 rfl rfl rfl hS (bc dD bM rfl rfl rfl hi (by first | exact Nat.zero_add _ | rfl)) ?_
  refine bU 8 rfl rfl (ed bM rfl rfl rfl rfl (jJ its sp i hi) (kJ its sp i (iT k e (now + 1 : Nat)) hi)) (aa (aa ag)) fun hS => ?_
  refine aK ?_
  refine au 2 ?_
  refine Bv (b := b) (its := its.set i (iT k e (now + 1 : Nat))) rfl (by simp) h1 h2 (by simpa [cz eQ] using h3) ?_
  refine au 4 ?_
  refine a7 rfl (fY qC (fun _ h => nomatch h) rfl) ?_
  refine a7 rfl (aH rfl) ?_
  refine aB rfl (ao JZ rfl (Bw b (its.set i (iT k e (now + 1 : Nat))) _ i (by simp; omega) (by simpa using hi) (by rw [List.length_set]; exact xF hR.heap hi))) ?_
  rintro _ _ ⟨rfl, its', rfl, hp, hh⟩
  refine au 9 ?_
  refine ae ?_
  refine ⟨_, ⟨rfl, its', rfl, ?_⟩, inferInstance⟩
  have hlt := BF (hR.someI hi hk)
  rw [ju, if_neg (by rw [yq]; omega)]
  exact hR.setI hi hk rfl (by simp [iT]) hp (by rw [hp.length_eq]; exact hh)
 have hno : ∀ x ∈ its, x.key ≠ k := by
  rcases hf with ⟨_, h⟩ | ⟨i, h, _⟩
  ·exact h
  omega
 refine au 3 ?_
 refine aU [(b3, 0, _)] 7 aT rfl (aa ag) (fun hS => ?_)
 refine ah 0 3 hS ?_
 refine av 3 rfl rfl rfl hS (fY qC (fun _ h => nomatch h) rfl) ?_
 refine av 4 rfl rfl rfl hS (b0 fp bM rfl (co (k := 0) rfl) rfl) ?_
 refine av 5 rfl rfl rfl hS (fY pj (fun _ h => nomatch h) rfl) ?_
 refine bS 6 (by kernel_rfl) rfl rfl (ao zB rfl (heapPush_spec b its (iT k e (now + 1 : Nat)) _ (by omega) hR.heap)) rfl ?_; clear hS
 rintro _ _ ⟨rfl, its1, rfl, hp, hh⟩
 have hR1 := hR.pushI hno (x := iT k e (now + 1 : Nat)) rfl (by simp [iT]) hp hh
 have hlen1 := hR1.length
 have hpl : its1.length = its.length + 1 := by rw [hp.length_eq]; simp
 refine ⟨(aa ag), fun hS => ?_⟩
 refine aK ?_
 refine au 3 ?_
 refine aU [(b, 1, d3 room (now + 1))] 9 aT rfl (cR yh ag) (fun hS => ?_)
 refine ah 0 3 hS ?_
 refine ah 4 3 hS ?_
 refine av 7 rfl rfl rfl hS (aA aX rfl (io (k := 0) (j := 0) rfl rfl)) ?_
 refine bF 3 rfl rfl (ao qB rfl (oQ b its1 _)) (cR yh ag) fun hS => ?_
 refine ah 8 1 hS ?_
 refine aK ?_
 refine aY ?_
 refine a8 rfl (fun c10 => ?_) fun c10 => ?_
 ·refine au 4 ?_
  refine a7 rfl (fY qC (fun _ h => nomatch h) rfl) ?_
  refine aB rfl (ao zC rfl (heapPop_spec b its1 _ (by omega) (q9 (i := 0) (by omega)) hh)) ?_
  rintro _ _ ⟨y, its2, rfl, rfl, hp2, hh2, hmin⟩
  have hfin : Rep its2 (now + 1) (ju room now k e L) := by
   rw [ju, if_pos (by omega)]; exact hR1.popI hp2 hh2 hmin
  refine au 8 ?_
  refine ae ?_
  exact ⟨_, ⟨rfl, _, rfl, hfin⟩, inferInstance⟩
 have hfin : Rep its1 (now + 1) (ju room now k e L) := by
  rw [ju, if_neg (by omega)]; exact hR1
 refine au 8 ?_
 refine ae ?_
 exact ⟨_, ⟨rfl, _, rfl, hfin⟩, inferInstance⟩
def vB (k : cT) (L : List It) : Value := match lj k L with
  | none => .tuple #[.agg (mb (0, 0, 0)).toArray, .bool false]
  | some y => .tuple #[.agg (mb y.ent).toArray, .bool true]
theorem BG (b : Nat) (its : List It) (room now : Nat) (L : List It) (k : cT) (hR : Rep its now L) (hL : L.length ≤ room) (hr : room ≤ 4) (hn : now < 1000000) : sP W0 333 [.pointer (some ⟨b, 0, none⟩), .agg (fH k).toArray] (aQ b (its, d3 room now) :: R) (fun v B => v = vB k L ∧ ∃ its' now', now' ≤ now + 1 ∧ B = aQ b (its', d3 room now') :: R ∧ Rep its' now' (rF now k L)) := by
 have hlen := hR.length
 refine ai 2 func333 ntmps333 ?_
 refine ax (aV rfl) fun b1 => ?_
 refine ax (aS ji) fun b2 => ?_
 refine au 7 ?_
 refine ar 2 (ao wF rfl (tE b its _ _)) ?_
 refine a8 rfl (fun c1 => ?_) fun c1 => ?_
 ·exact absurd c1 (by decide)
 refine au 6 ?_
 refine aB rfl (ao Dc rfl (yk b its _ k (by omega))) ?_
 rintro _ _ ⟨r, rfl, rfl, hf⟩
 refine au 10 ?_
 refine a8 rfl (fun c4 => ?_) fun c4 => ?_
 ·have hno : ∀ x ∈ its, x.key ≠ k := by
   rcases hf with ⟨_, h⟩ | ⟨i, h, _⟩
   ·exact h
   omega
  refine au 2 ?_
  refine a7 rfl (bq zn ji (am aj (am aj (am aj bj))) bi) ?_
  refine aE 5 (aF dX rfl rfl rfl rfl rfl) ?_
  refine bY (.cons (cg kM dX rfl rfl) (.cons (bK rfl) .nil)) ?_
  refine ⟨_, ⟨?_, its, now, by omega, rfl, ?_⟩, inferInstance⟩
  ·simp [bz, vB, (hR.noneI hno).1]
  rw [rF, (hR.noneI hno).1]; exact hR
 obtain ⟨i, rfl, hi, hk⟩ : ∃ i : Nat, r = (i : Int) ∧ i < its.length ∧ (its.getD i default).key = k := by
  rcases hf with ⟨h, _⟩ | h
  ·omega
  exact h
 refine au 3 ?_
 refine yg (b := b) (q9 hi) fun g c sp h1 h2 h3 => ?_
 refine au 7 ?_
 refine ap 2 (bc dD bM rfl rfl rfl hi (by first | exact Nat.zero_add _ | rfl)) ?_
 refine a7 rfl (b0 kM dX rfl (cC (TC its sp i hi) rfl) rfl) ?_
 refine ax (aS ji) fun b3 => ?_
 refine aE 3 (aF dX rfl rfl rfl rfl rfl) ?_
 refine aU [(b, 0, [.slice (some ⟨g, 0, none⟩) its.length c])] 11 aT rfl (cR (nh rfl) ag) (fun hS => ?_)
 refine ah 0 7 hS ?_
 refine bF 7 rfl rfl (ao JY rfl (Gk b _ _ now hn)) (cR (nh rfl) ag) fun hS => ?_
 refine av 8 rfl rfl rfl hS (bc dD bM rfl rfl rfl hi (by first | exact Nat.zero_add _ | rfl)) ?_
 refine ah 9 1 hS ?_
 refine bU 10 rfl rfl (bA aj rfl rfl rfl (by have := jJ its sp i hi; omega) (TD its sp i _ hi)) (cR (nh rfl) ag) fun hS => ?_
 refine aK ?_
 refine au 2 ?_
 refine Bv (b := b) (its := its.set i { its.getD i default with u := (now + 1 : Nat) }) rfl (by simp) h1 h2 (by simpa [cz eQ] using h3) ?_
 refine au 4 ?_
 refine a7 rfl (fY qC (fun _ h => nomatch h) rfl) ?_
 refine a7 rfl (aH rfl) ?_
 refine aB rfl (ao JZ rfl (Bw b (its.set i { its.getD i default with u := (now + 1 : Nat) }) _ i (by simp; omega) (by simpa using hi) (by rw [List.length_set]; exact xF hR.heap hi))) ?_
 rintro _ _ ⟨rfl, its', rfl, hp, hh⟩
 refine au 5 ?_
 refine aE 4 (aF dX rfl rfl rfl rfl rfl) ?_
 refine bY (.cons (cg kM dX rfl rfl) (.cons (bK rfl) .nil)) ?_
 have hsm := hR.someI hi hk
 refine ⟨_, ⟨?_, its', now + 1, by omega, rfl, ?_⟩, inferInstance⟩
 ·simp [bz, vB, hsm, It.ent]
 rw [rF, hsm]; subst hk
 exact hR.setI hi rfl rfl (by simp [iT]) hp (by rw [hp.length_eq]; exact hh)
theorem BH (b : Nat) (its : List It) (tr : Value) (now : Nat) (L : List It) (k : cT) (hR : Rep its now L) (hL : L.length ≤ 100) (tw : Value) : sP W0 192 [.pointer (some ⟨b, 0, none⟩), .agg (fH k).toArray] (aQ b (its, [tr, tw, .bool true]) :: R) (fun v B => v = .bool (lj k L).isSome ∧ ∃ its', B = aQ b (its', [tr, tw, .bool true]) :: R ∧ Rep its' now (i4 k L)) := by
 have hlen := hR.length
 refine ai 2 func192 ntmps192 ?_
 refine ax (aV rfl) fun b1 => ?_
 refine au 7 ?_
 refine ar 2 (ao wF rfl (tE b its _ _)) ?_
 refine a8 rfl (fun c1 => ?_) fun c1 => ?_
 ·exact absurd c1 (by decide)
 refine au 6 ?_
 refine aB rfl (ao Dc rfl (yk b its _ k (by omega))) ?_
 rintro _ _ ⟨r, rfl, rfl, hf⟩
 refine au 10 ?_
 refine a8 rfl (fun c4 => ?_) fun c4 => ?_
 ·have hno : ∀ x ∈ its, x.key ≠ k := by
   rcases hf with ⟨_, h⟩ | ⟨i, h, _⟩
   ·exact h
   omega
  refine au 7 ?_
  refine ae ?_
  refine ⟨_, ⟨?_, its, rfl, ?_⟩, inferInstance⟩
  ·simp [bz, (hR.noneI hno).1]
  rw [(hR.noneI hno).2]; exact hR
 obtain ⟨i, rfl, hi, hk⟩ : ∃ i : Nat, r = (i : Int) ∧ i < its.length ∧ (its.getD i default).key = k := by
  rcases hf with ⟨h, _⟩ | h
  ·omega
  exact h
 refine au 7 ?_
 refine a7 rfl (fY qC (fun _ h => nomatch h) rfl) ?_
 refine a7 rfl (aH rfl) ?_
 refine aB rfl (ao call189 rfl (heapRemove_spec b its _ i (by omega) hi hR.heap)) ?_
 rintro _ _ ⟨its', rfl, rfl, hp, hh⟩
 refine a7 rfl (pE pj (fun _ h => nomatch h) rfl) ?_
 refine ax (aS lU) fun b2 => ?_
 refine aE 6 (aF bM rfl rfl rfl rfl rfl) ?_
 refine a7 rfl (b0 jP g8 rfl (cC (vs := [.int .i64 (its.getD i default).kr, .int .i64 (its.getD i default).kp]) rfl rfl) rfl) ?_
 refine a7 rfl (kS jP g8 rfl rfl) ?_
 refine ap 4 (uw Tryz.eqGuardType314 rfl rfl (uv zJ Tryz.stoodInHeld314 (ng rfl aX rfl rfl (nf cW) (ng rfl aX rfl rfl (nf cW) uu)))) ?_
 refine ae ?_
 have hsm := hR.someI hi hk
 refine ⟨_, ⟨?_, its', rfl, hR.dropI hk hp hh⟩, inferInstance⟩
 rw [hsm]; subst hk
 simp [bz, It.key]
def yr (lo : Nat) (l : List It) (n : Nat) : Prop := ∀ c, c < n → 0 < c → lo ≤ (c - 1) / 2 → us l ((c - 1) / 2) ≤ us l c
def tJ (lo : Nat) (l : List It) (i n : Nat) : Prop := ∀ c, c < n → 0 < c → (lo ≤ (c - 1) / 2 → c ≠ i → (c - 1) / 2 ≠ i → us l ((c - 1) / 2) ≤ us l c) ∧ ((c - 1) / 2 = i → lo < i → us l ((i - 1) / 2) ≤ us l c)
theorem U9 {lo : Nat} {l : List It} {i j n : Nat} (h : tJ lo l i n) (hlo : lo ≤ i) (hn : n ≤ l.length) (hj : j < n) (hc : (j - 1) / 2 = i) (h0 : 0 < j) (hlt : us l j < us l i)
  (hmin : ∀ c, c < n → 0 < c → (c - 1) / 2 = i → us l j ≤ us l c) : tJ lo (swapL l i j) j n ∧ us (swapL l i j) ((j - 1) / 2) ≤ us (swapL l i j) j := by
 have hij : i < j := by omega
 have sw := j6 (l := l) (i := i) (j := j) (by omega) (by omega)
 refine ⟨fun c hcn hc0 => ⟨fun h3 h1 h2 => ?_, fun h1 h2 => ?_⟩, ?_⟩
 ·rw [sw, sw]
  by_cases e1 : c = i
  ·subst e1
   have := (h j hj h0).2 hc (by omega)
   rw [if_neg (by omega), if_neg (by omega), if_pos rfl]; exact this
  by_cases e2 : (c - 1) / 2 = i
  ·rw [if_pos e2, if_neg e1, if_neg h1]; exact hmin c hcn hc0 e2
  rw [if_neg e2, if_neg h2, if_neg e1, if_neg h1]; exact (h c hcn hc0).1 h3 e1 e2
 ·rw [hc, sw, sw, if_pos rfl, if_neg (by omega), if_neg (by omega)]
  rw [← h1]; exact (h c hcn hc0).1 (by omega) (by omega) (by omega)
 rw [hc, sw, sw, if_pos rfl, if_neg (by omega), if_pos rfl]; omega
theorem Gt {lo : Nat} {l : List It} {i n : Nat} (h : tJ lo l i n) (hmin : ∀ c, c < n → 0 < c → (c - 1) / 2 = i → us l i ≤ us l c) (hp : lo < i → us l ((i - 1) / 2) ≤ us l i) : yr lo l n := fun c hc h0 h3 => by
 by_cases e1 : (c - 1) / 2 = i
 ·rw [e1]; exact hmin c hc h0 e1
 by_cases e2 : c = i
 ·subst e2; exact hp (by omega)
 exact (h c hc h0).1 h3 e2 e1
theorem Ua {lo : Nat} {l : List It} {n : Nat} (h : yr (lo + 1) l n) : tJ lo l lo n := fun c hc h0 => ⟨fun h3 _ h2 => h c hc h0 (by omega), fun _ h => absurd h (Nat.lt_irrefl _)⟩
theorem Ub (b : Nat) (its : List It) (tl : List Value) (i0 n : Nat) (hn : n ≤ its.length) (hN : n < 1000) (hi : i0 ≤ n) (hH : tJ i0 its i0 n) : sP W0 190 [li b, .int .i64 i0, .int .i64 n] (aQ b (its, tl) :: R) (fun v B => ∃ l m, v = .bool m ∧ B = aQ b (l, tl) :: R ∧ l.Perm its ∧ yr i0 l n) := by
 refine ai 13 JG ntmps190 ?_
 refine cY (fun X : List It × Nat => X.1.Perm its ∧ i0 ≤ X.2 ∧ tJ i0 X.1 X.2 n ∧ (i0 < X.2 → us X.1 ((X.2 - 1) / 2) ≤ us X.1 X.2) ∧ X.2 ≤ n) (fun X => [(0, li b), (1, .int .i64 i0), (2, .int .i64 n), (7, .int .i64 X.2)]) (fun X => aQ b (X.1, tl) :: R) (fun X => n - X.2) (its, i0) ?_ ?_
 ·exact ⟨List.Perm.refl _, Nat.le_refl _, hH, fun h => absurd h (Nat.lt_irrefl _), hi⟩
 intro ⟨l, i⟩ ⟨hp, hi0, hl, hg, hin⟩
 have hlen := hp.length_eq
 simp only at hp hi0 hl hg hin hlen ⊢
 refine au 4 ?_
 refine a7 rfl (iH rfl rfl (by first | exact aG (by omega) | rfl)) ?_
 refine ap 10 (bO rfl rfl (by rw [aG (by omega)]; omega : IntKind.wrap .i64 (2 * (i : Int) + 1) = ((2 * i + 1 : Nat) : Int))) ?_
 refine bB rfl rfl rfl (fun g3_4 => ?_) fun g3_4 => ?_
 ·refine au 20 ?_
  refine ae ?_
  refine ⟨_, ⟨l, decide (i0 < i), by simp [bz], rfl, hp, Gt hl ?_ hg⟩, inferInstance⟩
  first | (intro c hc h0 h1; exfalso; omega) | (intro c hc h0 h1; have := hmin c hc h0 h1; simp at c8; omega)
 refine au 6 ?_
 refine a8 rfl (fun c3 => ?_) fun c3 => ?_
 ·omega
 refine au 8 ?_
 refine dU (fun j : Nat => (j - 1) / 2 = i ∧ 0 < j ∧ j < n ∧ ∀ c, c < n → 0 < c → (c - 1) / 2 = i → us l j ≤ us l c) (fun j => [(0, li b), (1, .int .i64 i0), (2, .int .i64 n), (7, .int .i64 i), (9, .int .i64 j)]) (fun j => aQ b (l, tl) :: R) ?_ ?_
 ·skip
  refine au 3 ?_
  refine ap 9 (bO rfl rfl (by rw [aG (by omega)]; omega : IntKind.wrap .i64 (((2 * i + 1 : Nat) : Int) + 1) = ((2 * i + 2 : Nat) : Int))) ?_
  refine cp rfl rfl rfl (fun g6_4 => ?_) fun g6_4 => ?_
  ·refine au 6 ?_
   refine ar 3 (e8 rfl ((fun w => vx w _)) zH rfl (vu b l tl (2 * i + 2) (2 * i + 1) (by omega) (by omega))) ?_
   refine a8 rfl (fun c6 => ?_) fun c6 => ?_
   ·refine au 5 ?_
    refine cj (2 * i + 2) ?_
    ·refine ⟨by omega, by omega, by omega, fun c hc h0 h1 => ?_⟩
     have : c = 2 * i + 1 ∨ c = 2 * i + 2 := by omega
     rcases this with rfl | rfl <;> omega
   refine au 2 ?_
   refine cj (2 * i + 1) ?_
   ·refine ⟨by omega, by omega, by omega, fun c hc h0 h1 => ?_⟩
    have : c = 2 * i + 1 ∨ c = 2 * i + 2 := by omega
    rcases this with rfl | rfl <;> omega
  refine au 9 ?_
  refine cj (2 * i + 1) ?_
  ·refine ⟨by omega, by omega, by omega, fun c hc h0 h1 => ?_⟩
   have : c = 2 * i + 1 ∨ c = 2 * i + 2 := by omega
   rcases this with rfl | rfl <;> omega
 intro j ⟨hj, hj0, hjn, hmin⟩
 refine au 6 ?_
 refine ar 3 (e8 rfl ((fun w => vx w _)) zH rfl (vu b l tl j i (by omega) (by omega))) ?_
 refine a8 rfl (fun c8 => ?_) fun c8 => ?_
 ·refine au 15 ?_
  refine ae ?_
  refine ⟨_, ⟨l, decide (i0 < i), by simp [bz], rfl, hp, Gt hl ?_ hg⟩, inferInstance⟩
  first | (intro c hc h0 h1; exfalso; omega) | (intro c hc h0 h1; have := hmin c hc h0 h1; simp at c8; omega)
 replace c8 : us l j < us l i := by simpa using c8
 refine au 7 ?_
 refine ar 8 (e8 rfl ((fun w => vy w _)) zI rfl (vv b l tl i j (by omega) (by omega))) ?_
 refine bZ (swapL l i j, j) ?_ (hμ := ?_)
 ·have hs := U9 hl hi0 (by omega) hjn hj hj0 c8 hmin
  exact ⟨(iP (by omega) (by omega)).trans hp, by show i0 ≤ j; omega, hs.1, fun _ => hs.2, by show j ≤ n; omega⟩
 show n - j < n - i; omega
theorem Uc (b : Nat) (its : List It) (tl : List Value) (hN : its.length < 1000) : sP W0 422 [li b] (aQ b (its, tl) :: R) (fun v B => ∃ l, v = .tuple #[] ∧ B = aQ b (l, tl) :: R ∧ l.Perm its ∧ Heap l l.length) := by
 refine ai 3 func422 ntmps422 ?_
 refine ar 6 (e8 rfl ((fun w => vw w _)) qB rfl (oQ b its tl)) ?_
 refine a7 rfl (qE rfl rfl (by decide) ((congrArg (IntKind.wrap .i64) (uL its.length 2)).trans (aG (by omega)))) ?_
 refine ap 4 (cZ rfl rfl (aG (by omega))) ?_
 refine cY (fun X : List It × Nat => X.1.Perm its ∧ X.2 ≤ its.length / 2 ∧ yr X.2 X.1 its.length) (fun X => [(0, li b), (2, .int .i64 (its.length : Nat)), (3, .int .i64 ((X.2 : Int) - 1))]) (fun X => aQ b (X.1, tl) :: R) (fun X => X.2) (its, its.length / 2) ?_ ?_
 ·exact ⟨List.Perm.refl _, Nat.le_refl _, fun c hc h0 h1 => by dsimp only at h1; omega⟩
 intro ⟨l, k⟩ ⟨hp, hk, hh⟩
 dsimp only at hp hk hh ⊢
 have hlen := hp.length_eq
 refine au 7 ?_
 refine a8 rfl (fun c2 => ?_) fun c2 => ?_
 ·refine au 4 ?_
  obtain ⟨i, rfl⟩ : ∃ i, k = i + 1 := ⟨k - 1, by omega⟩
  have hki : (((i + 1 : Nat) : Int) - 1) = (i : Int) := by omega
  rw [hki]
  refine au 4 ?_
  refine aB rfl (ao wx rfl (Ub b l tl i its.length (by omega) hN (by omega) (Ua hh))) ?_
  rintro _ _ ⟨l2, m, rfl, rfl, hp2, hh2⟩
  refine au 5 ?_
  refine ap 3 (cZ rfl rfl (aG (by omega))) ?_
  refine bZ (l2, i) ?_ (hμ := ?_)
  ·exact ⟨hp2.trans hp, by show i ≤ its.length / 2; omega, hh2⟩
  show i < i + 1; omega
 refine au 4 ?_
 refine bT (.inr rfl) .nil ?_
 obtain rfl : k = 0 := by omega
 exact ⟨_, ⟨l, rfl, rfl, hp, fun c hc h0 => hh c (by omega) h0 (Nat.zero_le _)⟩, inferInstance⟩
structure PF (W0 : World) (f : FuncId) (cs : List Value) (C : HP) (p : It → Bool) : Prop where
  call : ∀ args w, (callFunc f args).run Tryz.prog w = .ok (.enter f args) w
  spec : ∀ x R, bN Tryz.prog W0 f ([] ++ [.agg (bH x).toArray] ++ cs) (kH 0 C :: R) (fun v B => v = .bool (p x) ∧ B = kH 0 C :: R)
theorem BI {α : Type} {f : α → List Value} (h : ∀ x, fw (f x) = true) : ∀ l : List α, fw (l.flatMap f) = true
 | [] => rfl
 | x :: l => by
  have h1 := h x
  have h2 := BI h l
  simp only [fw, List.flatMap_cons, List.all_append, Bool.and_eq_true] at h1 h2 ⊢
  exact ⟨h1, h2⟩
theorem Ud (x : It) : fw (bH x) = true := rfl
theorem Ue (its : List It) (a : Option Addr) (c : Nat) (hN : its.length < 1000) (hs : cG (aO W0 R) a 6 bH its) : sP W0 421 [.slice a its.length c] R (fun v B => ∃ a' c', v = .slice a' its.length c' ∧ B = osl 385 6 (.slice a' its.length c') (its.flatMap bH) :: R) := by
 refine ai 9 func421 ntmps421 ?_
 refine ap 2 (xi dD rfl rfl) ?_
 refine a8 rfl (fun c1 => ?_) fun c1 => ?_
 ·refine au 7 ?_
  refine ae ?_
  have h0 : its = [] := by
   rcases its with _ | ⟨x, l⟩
   ·rfl
   obtain ⟨b, o, h, _⟩ := hs 0 x rfl
   rw [c1] at h; cases h
  subst h0
  exact ⟨_, ⟨none, 0, rfl, rfl⟩, fR⟩
 have hsrc := hs.src eQ (fun _ => trivial)
 refine au 4 ?_
 refine aB rfl (sF dD bM rfl) ?_
 rintro _ _ ⟨b1, rfl, rfl⟩
 refine a7 rfl (aH rfl) ?_
 refine aB rfl (B4 (sz := 6) (by_ := 48) (info := Tryz.t385) dD (by kernel_rfl) rfl rfl rfl rfl (by decide) rfl rfl (news := its.flatMap bH) (by
 rcases hsrc with h | ⟨bs, os, h1, h2⟩
 ·left; rw [h]; rfl
 right; exact ⟨bs, os, h1, h2.weak⟩) (cz eQ its) (BI Ud its) (by simp only [maxLen]; omega) (by omega)) ?_
 rintro _ _ ⟨a1, c1, rfl, rfl⟩
 refine au 4 ?_
 refine ae ?_
 rw [Nat.zero_add, List.nil_append]
 exact ⟨_, ⟨a1, c1, rfl, rfl⟩, inferInstance⟩
def Uf (its : List It) (p : It → Bool) (r : Int) : Prop := (r = -1 ∧ ∀ i, i < its.length → p (its.getD i default) = false) ∨ ∃ i : Nat, r = (i : Int) ∧ i < its.length ∧ p (its.getD i default) = true ∧ ∀ j, j < i → p (its.getD j default) = false
theorem Ug (its : List It) (a : Option Addr) (c : Nat) (f : FuncId) (cs : List Value) (C : HP) (p : It → Bool) (hp : PF W0 f cs C p) (hN : its.length < 1000) : sP W0 329 [.slice a its.length c, .func (.func f) #[] cs.toArray] (osl 385 6 (.slice a its.length c) (its.flatMap bH) :: kH 0 C :: R) (fun v B => ∃ r, v = .int .i64 r ∧ B = osl 385 6 (.slice a its.length c) (its.flatMap bH) :: kH 0 C :: R ∧ Uf its p r) := by
 refine uG (fun h1 h2 => ?_) fun g n cap sp h1 h2 h3 h4 h5 => ?_
 ·have h0 : its.length = 0 := by have := cz eQ its; rw [h2] at this; simp at this; omega
  obtain rfl : its = [] := List.eq_nil_of_length_eq_zero h0
  cases h1
  refine ai 14 D9 ntmps329 ?_
  refine cY (fun X : Nat => True) (fun X => [(7, .int .i64 0), (8, .int .i64 X)]) (fun X => kH 0 C :: R) (fun X => X) 0 ?_ ?_
  ·trivial
  intro j hj
  refine au 6 ?_
  refine a8 rfl (fun c2 => ?_) fun c2 => ?_
  ·omega
  refine au 11 ?_
  refine ae ?_
  exact ⟨_, ⟨-1, rfl, rfl, .inl ⟨rfl, by simp⟩⟩, fR⟩
 cases h1
 refine ai 14 D9 ntmps329 ?_
 refine cY (fun X : Nat => X ≤ its.length ∧ ∀ i, i < X → p (its.getD i default) = false) (fun X => [(0, .slice (some ⟨g, 0, none⟩) its.length c), (1, .func (.func f) #[] cs.toArray), (7, .int .i64 (its.length : Nat)), (8, .int .i64 X)]) (fun X => pt g (ac (its.flatMap bH ++ sp) 385) :: kH 0 C :: R) (fun X => its.length - X) 0 ?_ ?_
 ·exact ⟨Nat.zero_le _, fun i h => absurd h (Nat.not_lt_zero _)⟩
 intro j ⟨hj, hno⟩
 refine au 6 ?_
 refine a8 rfl (fun c2 => ?_) fun c2 => ?_
 ·refine au 15 ?_
  refine a7 rfl (bc dD bM rfl rfl rfl (by omega) (by first | exact Nat.zero_add _ | rfl)) ?_
  refine a7 rfl (b0 fp bM rfl (cC (iz its sp j (by omega)) rfl) rfl) ?_
  refine ar 2 (qL (us := []) (cs := cs) rfl hp.call rfl (hp.spec (its.getD j default) _)) ?_
  refine a8 rfl (fun c4 => ?_) fun c4 => ?_
  ·refine au 12 ?_
   refine ae ?_
   exact ⟨_, ⟨_, rfl, rfl, .inr ⟨j, rfl, by omega, c4, hno⟩⟩, eB h2 h3 h4 h5⟩
  refine au 4 ?_
  refine ap 3 (cM rfl rfl) ?_
  refine bZ (j + 1) ?_
  ·refine ⟨by omega, fun i hi => ?_⟩
   by_cases e : i = j
   ·subst e; simpa using c4
   exact hno i (by omega)
 refine au 11 ?_
 refine ae ?_
 exact ⟨_, ⟨-1, rfl, rfl, .inl ⟨rfl, fun i hi => hno i (by omega)⟩⟩, eB h2 h3 h4 h5⟩
def i5 (p : It → Bool) (l : List It) : List It := l.filter (fun x => !p x)
theorem Gv {p : It → Bool} {l : List It} (h : ∀ i, i < l.length → p (l.getD i default) = false) : i5 p l = l := List.filter_eq_self.2 fun x hx => by
 obtain ⟨i, hi, rfl⟩ := List.mem_iff_getElem.1 hx
 have := h i hi
 simpa [List.getD, hi] using this
theorem BJ {p : It → Bool} {l : List It} {j : Nat} (h : j < l.length) : i5 p (l.take (j + 1)) = i5 p (l.take j) ++ (if p (l.getD j default) then [] else [l.getD j default]) := by
 rw [List.take_succ_eq_append_getElem h, i5, List.filter_append, show l.getD j default = l[j] by simp [List.getD, h]]
 cases hp : p l[j] <;> simp [i5, hp]
structure DelI (p : It → Bool) (its l : List It) (i j : Nat) : Prop where
  len : l.length = its.length
  ij : i < j
  jl : j ≤ its.length
  front : l.take i = i5 p (its.take j)
  back : ∀ k, j ≤ k → l.getD k default = its.getD k default
theorem Uh {p : It → Bool} {l : List It} {i : Nat} (h : i < l.length) (hp : p (l.getD i default) = true) (hno : ∀ j, j < i → p (l.getD j default) = false) : i5 p (l.take (i + 1)) = l.take i := by
 rw [BJ h, hp, if_pos rfl, List.append_nil]
 refine Gv fun j hj => ?_
 rw [List.length_take] at hj
 have := hno j (by omega)
 simpa [List.getD, List.getElem?_take, show j < i by omega] using this
theorem DelI.skip {p : It → Bool} {its l : List It} {i j : Nat} (h : DelI p its l i j) (hj : j < its.length) (hp : p (l.getD j default) = true) : DelI p its l i (j + 1) := by
 refine ⟨h.len, by have := h.ij; omega, by omega, ?_, fun k hk => h.back k (by omega)⟩
 rw [h.back j (Nat.le_refl _)] at hp
 rw [BJ hj, hp, if_pos rfl, List.append_nil]; exact h.front
theorem DelI.move {p : It → Bool} {its l : List It} {i j : Nat} (h : DelI p its l i j) (hj : j < its.length) (hp : p (l.getD j default) = false) : DelI p its (l.set i (l.getD j default)) (i + 1) (j + 1) := by
 have hij := h.ij
 have hl := h.len
 have hb := h.back j (Nat.le_refl _)
 rw [hb] at hp ⊢
 refine ⟨by rw [List.length_set]; exact hl, by omega, by omega, ?_, fun k hk => ?_⟩
 ·rw [BJ hj, hp, if_neg (by decide), ← h.front, List.take_succ_eq_append_getElem (by rw [List.length_set]; omega), List.getElem_set_self, List.take_set_of_le (Nat.le_refl _)]
 rw [← h.back k (by omega)]
 simp only [List.getD_eq_getElem?_getD]
 rw [List.getElem?_set_ne (by omega)]
theorem Ui (its : List It) (a : Option Addr) (c : Nat) (f : FuncId) (cs : List Value) (C : HP) (p : It → Bool) (hp : PF W0 f cs C p) (hN : its.length < 1000) : sP W0 420 [.slice a its.length c, .func (.func f) #[] cs.toArray] (osl 385 6 (.slice a its.length c) (its.flatMap bH) :: kH 0 C :: R) (fun v B => ∃ a' c', v = .slice a' (i5 p its).length c' ∧ B = osl 385 6 (.slice a' (i5 p its).length c') ((i5 p its).flatMap bH) :: kH 0 C :: R) := by
 refine ai 9 func420 ntmps420 ?_
 refine aB rfl (cK call329 rfl (Ug its a c f cs C p hp hN)) ?_
 rintro _ B_ ⟨r, rfl, hB_, hf⟩
 obtain rfl := hB_.symm
 refine au 10 ?_
 refine a8 rfl (fun c2 => ?_) fun c2 => ?_
 ·refine au 8 ?_
  refine ae ?_
  have hno : ∀ i, i < its.length → p (its.getD i default) = false := by
   rcases hf with ⟨_, h⟩ | ⟨i, h, _⟩
   ·exact h
   omega
  rw [Gv hno]
  exact ⟨_, ⟨a, c, rfl, rfl⟩, inferInstance⟩
 obtain ⟨i, rfl, hi, hpi, hno⟩ : ∃ i : Nat, r = (i : Int) ∧ i < its.length ∧ p (its.getD i default) = true ∧ ∀ j, j < i → p (its.getD j default) = false := by
  rcases hf with ⟨h, _⟩ | h
  ·omega
  exact h
 refine fK (r := osl 385 6) (b := .slice a its.length c) ?_
 refine jW (fun h1 _ => by have := (Value.slice.inj h1).2.1; omega) fun g n cap sp h1 h2 h3 h4 h5 => ?_
 cases h1
 refine au 6 ?_
 refine ap 4 (bO rfl rfl (by rw [aG (by omega)]; omega : IntKind.wrap .i64 ((i : Int) + 1) = ((i + 1 : Nat) : Int))) ?_
 refine cY (fun X : List It × Nat × Nat => DelI p its X.1 X.2.1 X.2.2) (fun X => [(0, .slice (some ⟨g, 0, none⟩) its.length c), (1, .func (.func f) #[] cs.toArray), (5, .int .i64 X.2.1), (6, .int .i64 X.2.2)]) (fun X => pt g (ac (X.1.flatMap bH ++ sp) 385) :: kH 0 C :: R) (fun X => its.length - X.2.2) (its, i, i + 1) ?_ ?_
 ·exact ⟨rfl, Nat.lt_succ_self _, by show i + 1 ≤ its.length; omega, (Uh hi hpi hno).symm, fun _ _ => rfl⟩
 intro ⟨l, m, j⟩ hD
 dsimp only at hD ⊢
 have hl := hD.len
 have hmj := hD.ij
 have hjl := hD.jl
 refine au 9 ?_
 refine a8 rfl (fun c5 => ?_) fun c5 => ?_
 ·refine au 2 ?_
  refine dU (fun Z : List It × Nat => DelI p its Z.1 Z.2 (j + 1)) (fun Z => [(0, .slice (some ⟨g, 0, none⟩) its.length c), (1, .func (.func f) #[] cs.toArray), (5, .int .i64 Z.2), (6, .int .i64 j)]) (fun Z => pt g (ac (Z.1.flatMap bH ++ sp) 385) :: kH 0 C :: R) ?_ ?_
  ·skip
   refine au 5 ?_
   refine a7 rfl (bc dD bM rfl rfl rfl (by omega) (by first | exact Nat.zero_add _ | rfl)) ?_
   refine a7 rfl (b0 fp bM rfl (cC (iz l sp j (by omega)) rfl) rfl) ?_
   refine ax (aS lU) fun bx => ?_
   refine eI (aF bM rfl rfl rfl rfl rfl) ?_
   rintro _ _ rfl
   refine au 4 ?_
   refine a7 rfl (aH rfl) (a7 rfl (kS fp bM rfl rfl) ?_)
   refine aB rfl (qL (us := []) (cs := cs) rfl hp.call rfl (hp.spec (l.getD j default) _)) ?_
   rintro _ B_ ⟨rfl, hB_⟩
   obtain rfl := hB_.symm
   refine a7 rfl (lZ rfl) (au 2 ?_)
   refine a8 rfl (fun c8 => ?_) fun c8 => ?_
   ·have hpj : p (l.getD j default) = false := by simpa using c8
    refine au 2 ?_
    refine a7 rfl (aH rfl) (a7 rfl (aH rfl) (a7 rfl (kS fp bM rfl rfl) ?_))
    refine a7 rfl (bc dD bM rfl rfl rfl (by omega) (by first | exact Nat.zero_add _ | rfl)) ?_
    refine aE 4 (ed bM rfl rfl rfl rfl (jJ l sp m (by omega)) (kJ l sp m (l.getD j default) (by omega))) ?_
    refine ap 4 (bO rfl rfl (by rw [aG (by omega)]; omega : IntKind.wrap .i64 ((m : Int) + 1) = ((m + 1 : Nat) : Int))) ?_
    exact cj (l.set m (l.getD j default), m + 1) (hD.move (by omega) hpj)
   have hpj : p (l.getD j default) = true := by simpa using c8
   refine au 3 ?_
   exact cj (l, m) (hD.skip (by omega) hpj)
  intro ⟨l2, m2⟩ hD2
  refine au 2 ?_
  refine ap 3 (bO rfl rfl (by rw [aG (by omega)]; omega : IntKind.wrap .i64 ((j : Int) + 1) = ((j + 1 : Nat) : Int))) ?_
  refine bZ (l2, m2, j + 1) ?_ (hμ := ?_)
  ·exact hD2
  show its.length - (j + 1) < its.length - j; omega
 refine au 6 ?_
 obtain rfl : j = its.length := by omega
 have hfr := hD.front
 rw [List.take_of_length_le (Nat.le_refl _)] at hfr
 have hk : (i5 p its).length = m := by rw [← hfr, List.length_take]; omega
 refine au 3 ?_
 refine a7 rfl (td dD bM rfl rfl rfl (by omega) (by omega) (Nat.zero_add _)) ?_
 refine eI (B5 dD lU (by simp [Value.cells, Value.oneCell']) rfl (by omega) (by rw [List.length_append, cz eQ]; show m * 6 + (its.length - m) * 6 ≤ _; omega)) ?_
 rintro _ B_ ⟨vs, hvs, rfl, hB_⟩
 obtain rfl := hB_.symm
 replace hvs : vs.length = (its.length - m) * 6 := hvs
 have hset : setR (l.flatMap bH ++ sp) (m * 6) vs = (i5 p its).flatMap bH ++ (vs ++ sp) := by
  rw [pD _ _ _ (by rw [List.length_append, cz eQ]; omega), Ad eQ l m sp (by omega), hfr, show m * 6 + vs.length = l.length * 6 by omega, uF eQ l l.length sp (Nat.le_refl _)]
  simp
 rw [hset]
 refine au 6 ?_
 refine ap 4 (m0 dD bM rfl rfl rfl (by omega)) ?_
 refine ae ?_
 rw [hk]
 exact ⟨_, ⟨_, _, rfl, rfl⟩, eB (by omega) h3 (by rw [cz eQ, hk]) (by rw [← h5]; simp only [List.length_append, cz eQ, hk, hvs]; omega)⟩
def i64 (r : Int) : Prop := -9223372036854775808 ≤ r ∧ r < 9223372036854775808
theorem Gw (r : Int) : ((BitVec.ofInt 64 r).toNat : Int) = r % 18446744073709551616 := by
 rw [BitVec.toNat_ofInt]; omega
theorem Gx (n : Nat) : n &&& 2 = 2 * (n / 2 % 2) := by
 apply Nat.eq_of_testBit_eq
 intro i
 rw [Nat.testBit_and, show (2 : Nat) = 2 ^ 1 from rfl, Nat.testBit_two_pow, Nat.testBit_two_pow_mul]
 by_cases h : i = 1
 ·subst h
  simp only [Nat.testBit, Nat.shiftRight_eq_div_pow]
  simp
 by_cases h1 : 1 ≤ i
 ·have h2 : n / 2 ^ 1 % 2 ^ 1 < 2 ^ (i - 1) := Nat.lt_of_lt_of_le (Nat.mod_lt _ (by decide)) (Nat.pow_le_pow_right (by decide) (by omega))
  simp [Nat.testBit_lt_two_pow h2, show ¬ 1 = i by omega]
 simp [h1, show ¬ 1 = i by omega]
theorem Uj {r : Int} (h : i64 r) : fq .i64 r 2 = 2 * (r / 2 % 2) := by
 have hn := Gw r
 show IntKind.wrap .i64 ((BitVec.ofInt 64 r &&& BitVec.ofInt 64 2).toNat : Int) = _
 rw [BitVec.toNat_and, show (BitVec.ofInt 64 2).toNat = 2 from rfl, Gx, aG (by omega)]
 push_cast
 omega
theorem Uk {r : Int} (h : i64 r) : nX .i64 r 2 = r - 2 * (r / 2 % 2) := by
 have hn := Gw r
 generalize hx : BitVec.ofInt 64 r = x at hn
 have e : (x &&& ~~~ BitVec.ofInt 64 2).toNat = x.toNat - (x.toNat &&& 2) := by
  have hz : (x &&& ~~~ BitVec.ofInt 64 2) &&& (x &&& BitVec.ofInt 64 2) = 0#64 := by
   ext i hi
   simp only [BitVec.getElem_and, BitVec.getElem_not, BitVec.getElem_zero]
   cases x[i] <;> cases (BitVec.ofInt 64 2)[i] <;> rfl
  have h1 : (x &&& ~~~ BitVec.ofInt 64 2) + (x &&& BitVec.ofInt 64 2) = x := by
   rw [BitVec.add_eq_or_of_and_eq_zero _ _ hz]
   ext i hi
   simp only [BitVec.getElem_or, BitVec.getElem_and, BitVec.getElem_not]
   cases x[i] <;> cases (BitVec.ofInt 64 2)[i] <;> rfl
  have h2 := congrArg BitVec.toNat h1
  rw [BitVec.toNat_add_of_and_eq_zero hz, BitVec.toNat_and x (BitVec.ofInt 64 2), show (BitVec.ofInt 64 2).toNat = 2 from rfl] at h2
  omega
 show IntKind.wrap .i64 ((BitVec.ofInt 64 r &&& ~~~ BitVec.ofInt 64 2).toNat : Int) = _
 rw [hx, e, Gx]
 have hlt := x.isLt
 obtain ⟨h1, h2⟩ := h
 simp only [IntKind.wrap, IntKind.bits, IntKind.signed]
 simp
 omega
def wB (r : Int) : Bool := decide (r / 2 % 2 = 1)
theorem yt {r : Int} (h : i64 r) : (fq .i64 r 2 ≠ 0) ↔ wB r = true := by rw [Uj h, wB, decide_eq_true_iff]; omega
theorem Gy {r : Int} (h : i64 r) : nX .i64 r 2 = if wB r then r - 2 else r := by
 rw [Uk h, wB]; split <;> simp_all <;> omega
def hit (page : Int) (x : It) : Bool := decide (x.ep = page) && wB x.er
def i6 (page : Int) (x : It) : It := if hit page x then { x with er := x.er - 2 } else x
theorem GA (page : Int) (x : It) : (i6 page x).key = x.key := by unfold i6; split <;> rfl
theorem vC (page : Int) (x : It) : (i6 page x).u = x.u := by unfold i6; split <;> rfl
theorem Ul {page : Int} {x : It} (h : i64 x.er) : i64 (i6 page x).er := by
 unfold i6; split
 ·rename_i hh
  simp only [hit, wB, Bool.and_eq_true, decide_eq_true_iff] at hh
  obtain ⟨h1, h2⟩ := h
  refine ⟨?_, ?_⟩
  ·show -9223372036854775808 ≤ x.er - 2; omega
  show x.er - 2 < 9223372036854775808; omega
 exact h
theorem Um (its : List It) (sp : List Value) (i : Nat) (r : Int) (hi : i < its.length) : (its.flatMap bH ++ sp).set (i * 6 + 4) (.int .i64 r) = (its.set i { its.getD i default with er := r }).flatMap bH ++ sp :=
 ni eQ its i 4 _ _ sp hi (by decide) (by simp [List.getD, hi, bH])
structure NarI (page : Int) (its l : List It) (i n : Nat) : Prop where
  len : l.length = its.length
  il : i ≤ its.length
  front : l.take i = (its.take i).map (i6 page)
  back : ∀ k, i ≤ k → l.getD k default = its.getD k default
  cnt : n = ((its.take i).filter (hit page)).length
theorem NarI.step {page : Int} {its l : List It} {i n : Nat} (h : NarI page its l i n) (hi : i < its.length) : NarI page its (l.set i (i6 page (l.getD i default))) (i + 1) (n + if hit page (l.getD i default) then 1 else 0) := by
 have hl := h.len
 have hb := h.back i (Nat.le_refl _)
 have hg : its.getD i default = its[i] := by simp [List.getD, hi]
 refine ⟨by rw [List.length_set]; exact hl, by omega, ?_, fun k hk => ?_, ?_⟩
 ·rw [List.take_succ_eq_append_getElem (by rw [List.length_set]; omega), List.getElem_set_self, List.take_set_of_le (Nat.le_refl _), h.front, List.take_succ_eq_append_getElem hi, List.map_append, hb, hg]; rfl
 ·rw [← h.back k (by omega)]
  simp only [List.getD_eq_getElem?_getD]
  rw [List.getElem?_set_ne (by omega)]
 rw [List.take_succ_eq_append_getElem hi, List.filter_append, List.length_append, ← h.cnt, hb, hg]
 cases hh : hit page its[i] <;> simp [hh]
theorem NarI.skip {page : Int} {its l : List It} {i n : Nat} (h : NarI page its l i n) (hi : i < its.length) (hh : hit page (l.getD i default) = false) : NarI page its l (i + 1) n := by
 have := h.step hi
 rw [i6, hh, if_neg (by decide), if_neg (by decide), Nat.add_zero] at this
 have hs : l.set i (l.getD i default) = l := by
  have hl : i < l.length := by rw [h.len]; exact hi
  rw [show l.getD i default = l[i] by simp [List.getD, hl], List.set_getElem_self]
 rwa [hs] at this
theorem NarI.hits {page : Int} {its l : List It} {i n : Nat} (h : NarI page its l i n) (hi : i < its.length) (hh : hit page (l.getD i default) = true) : NarI page its (l.set i { l.getD i default with er := (l.getD i default).er - 2 }) (i + 1) (n + 1) := by
 have := h.step hi
 rw [i6, hh, if_pos rfl, if_pos rfl] at this
 exact this
def Un (page : Int) (L : List It) : Nat := (L.filter (hit page)).length
theorem GB {l : List It} {f : It → It} (hf : ∀ x, (f x).u = x.u) {i : Nat} (hi : i < l.length) : us (l.map f) i = us l i := by
 rw [us_eq (by simpa using hi), us_eq hi]; simp [hf]
theorem Rep.nar {its L : List It} {now : Nat} (h : Rep its now L) (page : Int) : Rep (its.map (i6 page)) now (L.map (i6 page)) := by
 refine ⟨h.perm.map _, fun c hc h0 => ?_, ?_, fun x hx => ?_, ?_⟩
 ·rw [List.length_map] at hc
  rw [GB (vC page) (by omega), GB (vC page) hc]
  exact h.heap c hc h0
 ·rw [List.pairwise_map]
  exact h.sort.imp fun {a b} hab => by rw [vC, vC]; exact hab
 ·obtain ⟨y, hy, rfl⟩ := List.mem_map.1 hx
  rw [vC]; exact h.le y hy
 rw [List.map_map, show It.key ∘ i6 page = It.key from funext fun x => GA page x]
 exact h.keys
theorem Uo (b : Nat) (its : List It) (rm nw : Value) (page : Int) (hN : its.length < 1000) (hr : ∀ x ∈ its, i64 x.er) : sQ W0 384 [.pointer (some ⟨b, 0, none⟩), .int .i64 page] (aQ b (its, [rm, nw, .bool true]) :: R) (.int .i64 (Un page its : Nat)) (aQ b (its.map (i6 page), [rm, nw, .bool true]) :: R) := by
  refine ai 9 func384 ntmps384 ?_
  refine ar 2 (ao wF rfl (tE b its rm nw)) ?_
  refine a8 rfl (fun c1 => ?_) fun c1 => ?_
  · exact absurd c1 (by decide)
  refine au 9 ?_
  refine yf (b := b) fun a0 c0 => ?_
  refine au 11 ?_
  refine ge (fun X : List It × Nat × Nat => NarI page its X.1 X.2.1 X.2.2) (fun X => [(0, .pointer (some ⟨b, 0, none⟩)), (1, .int .i64 page), (5, .int .i64 X.2.2), (15, .int .i64 (its.length : Nat)), (16, .int .i64 X.2.1)]) (fun X => aQ b (X.1, [rm, nw, .bool true]) :: R) (fun X => its.length - X.2.1) (its, 0, 0) ?_ ?_ ?_ ?_
  · exact ⟨rfl, Nat.zero_le _, by simp, fun _ _ => rfl, by simp⟩
  · repeat (first | exact dy | refine db rfl ?_)
  · exact oN rfl
  intro ⟨l, i, n⟩ hD
  dsimp only at hD ⊢
  have hl := hD.len
  have hil := hD.il
  have hcn : n ≤ its.length := by
    rw [hD.cnt]
    exact Nat.le_trans (List.length_filter_le _ _) (by rw [List.length_take]; omega)
  refine au 6 ?_
  refine a8 rfl (fun c5 => ?_) fun c5 => ?_
  · have hil1 : i < l.length := by omega
    have hei : i64 (l.getD i default).er := by
      rw [hD.back i (Nat.le_refl _)]
      have hi2 : i < its.length := by omega
      have := hr _ (List.getElem_mem hi2)
      rwa [show its.getD i default = its[i] by simp [List.getD, hi2]]
    refine yg (b := b) (q9 hil1) fun g c sp k1 k2 k3 => ?_
    refine au 2 ?_
    refine dU (fun Z : List It × Nat => NarI page its Z.1 (i + 1) Z.2) (fun Z => [(0, .pointer (some ⟨b, 0, none⟩)), (1, .int .i64 page), (5, .int .i64 Z.2), (15, .int .i64 (its.length : Nat)), (16, .int .i64 i)]) (fun Z => aQ b (Z.1, [rm, nw, .bool true]) :: R) ?_ ?_
    · skip
      refine au 15 ?_
      refine ap 10 (bc dD bM rfl rfl rfl hil1 (by first | exact Nat.zero_add _ | rfl)) ?_
      refine ap 3 (aA aX rfl (aN ((vt l sp i 2 hil1 (by decide)).trans rfl))) ?_
      refine cp rfl rfl rfl (fun g8_7 => ?_) fun g8_7 => ?_
      · refine au 6 ?_
        refine a7 rfl (aA aX rfl (aN ((vt l sp i 4 hil1 (by decide)).trans rfl))) ?_
        refine cP rfl rfl (ap 5 (fJ rfl rfl rfl) ?_)
        refine a8 rfl (fun c8 => ?_) fun c8 => ?_
        · refine au 5 ?_
          refine a7 rfl (aA aX rfl (aN ((vt l sp i 4 hil1 (by decide)).trans rfl))) ?_
          refine ap 2 (wR rfl rfl (by rw [Gy hei, if_pos ((yt hei).1 (by simpa using c8))] : nX .i64 (l.getD i default).er 2 = (l.getD i default).er - 2)) ?_
          refine aE 4 (bA aj rfl rfl rfl (by have := jJ l sp i hil1; omega) (Um l sp i ((l.getD i default).er - 2) hil1)) ?_
          refine ap 4 (bO rfl rfl (by rw [aG (by omega)]; omega : IntKind.wrap .i64 ((n : Int) + 1) = ((n + 1 : Nat) : Int))) ?_
          refine cj (l.set i { l.getD i default with er := (l.getD i default).er - 2 }, n + 1) ?_ (he := ?_)
          · have hw := (yt hei).1 (by simpa using c8)
            exact hD.hits (by omega) (by simp only [hit, Bool.and_eq_true, decide_eq_true_iff]; exact ⟨by omega, hw⟩)
          exact pZ (b := b) rfl (by rw [List.length_set]) (by omega) k2 (by rw [← k3]; simp [cz eQ])
        refine au 3 ?_
        refine cj (l, n) ?_ (he := ?_)
        · refine hD.skip (by omega) ?_
          first
            | (have hne : ¬ (l.getD i default).ep = page := by omega
               rw [hit, decide_eq_false hne]; rfl)
            | (have hw : ¬ wB (l.getD i default).er = true := fun q => absurd ((yt hei).2 q) (by simpa using c8)
               have hw' : wB (l.getD i default).er = false := by simpa using hw
               rw [hit, hw', Bool.and_false])
        exact pZ (b := b) rfl rfl (by omega) k2 k3
      refine au 12 ?_
      refine cj (l, n) ?_ (he := ?_)
      · refine hD.skip (by omega) ?_
        first
          | (have hne : ¬ (l.getD i default).ep = page := by omega
             rw [hit, decide_eq_false hne]; rfl)
          | (have hw : ¬ wB (l.getD i default).er = true := fun q => absurd ((yt hei).2 q) (by simpa using c8)
             have hw' : wB (l.getD i default).er = false := by simpa using hw
             rw [hit, hw', Bool.and_false])
      exact pZ (b := b) rfl rfl (by omega) k2 k3
    intro ⟨l2, n2⟩ hD2
    refine bQ (ap 3 (cM rfl rfl) ?_)
    refine bZ (l2, i + 1, n2) ?_ (hμ := ?_)
    · exact hD2
    show its.length - (i + 1) < its.length - i; omega
  refine au 12 ?_
  refine ae ?_
  obtain rfl : i = its.length := by omega
  have hfr := hD.front
  have hct := hD.cnt
  rw [List.take_of_length_le (by omega), List.take_of_length_le (Nat.le_refl _)] at hfr
  rw [List.take_of_length_le (Nat.le_refl _)] at hct
  rw [hct, hfr]
  exact ⟨_, ⟨rfl, rfl⟩, inferInstance⟩
theorem Rep.keep {its its' L : List It} {now : Nat} {p : It → Bool} (h : Rep its now L) (hp : its'.Perm (i5 p its)) (hh : Heap its' its'.length) : Rep its' now (i5 p L) :=
 ⟨hp.trans (h.perm.filter _), hh, h.sort.filter _, fun x hx => h.le x (List.mem_filter.1 hx).1, List.Sublist.nodup (List.Sublist.map _ List.filter_sublist) h.keys⟩
theorem Uq (p : It → Bool) (l : List It) : (i5 p l).length ≤ l.length := List.length_filter_le _ _
theorem Ur (b : Nat) (its : List It) (tl : List Value) (f : FuncId) (cs : List Value) (C : HP) (p : It → Bool) (hp : PF W0 f cs C p) (hN : its.length < 1000) : sP W0 392 [.pointer (some ⟨b, 0, none⟩), .func (.func f) #[] cs.toArray] (aQ b (its, tl) :: kH 0 C :: R) (fun v B => ∃ l, v = .int .i64 (its.length - (i5 p its).length : Nat) ∧ B = aQ b (l, tl) :: kH 0 C :: R ∧ l.Perm (i5 p its) ∧ Heap l l.length) := by
 have hkl := Uq p its
 refine ai 10 func392 ntmps392 ?_
 refine ar 4 (ao qB rfl (oQ b its tl)) ?_
 refine yf (b := b) fun a c => ?_
 refine lB (E := 385) (sz := 6) (a := a) (n := its.length) (c := c) bH its eQ (by decide) rfl (fun hs => ?_)
 refine au 7 ?_
 refine aB rfl (aD call421 rfl (Ue its a c hN hs)) ?_
 rintro _ B_ ⟨a2, c2, rfl, hB_⟩
 obtain rfl := hB_.symm
 refine a7 rfl (aH rfl) (aB rfl (cK call420 rfl (Ui its a2 c2 f cs C p hp hN)) ?_)
 rintro _ B_ ⟨a3, c3, rfl, hB_⟩
 obtain rfl := hB_.symm
 refine au 3 ?_
 refine aE 3 (bA wi rfl rfl rfl (Nat.le_of_ble_eq_true rfl) SetL.eq) ?_
 refine gD (B := aQ b (i5 p its, tl) :: kH 0 C :: R) (oN rfl) ?_
 refine au 4 ?_
 refine a7 rfl (fY qC (fun _ h => nomatch h) rfl) ?_
 refine aB rfl (ao call422 rfl (Uc b (i5 p its) tl (by omega))) ?_
 rintro _ B_ ⟨l, rfl, hB_, hp2, hh⟩
 obtain rfl := hB_.symm
 have hll := hp2.length_eq
 refine au 8 ?_
 refine aM (ao qB rfl (oQ b l tl)) ?_
 refine ap 4 (cZ rfl rfl (by rw [aG (by omega)]; omega : IntKind.wrap .i64 ((its.length : Int) - (l.length : Int)) = ((its.length - (i5 p its).length : Nat) : Int))) ?_
 refine ae ?_
 exact ⟨_, ⟨l, rfl, rfl, hp2, hh⟩, inferInstance⟩
theorem Us (W0 : World) : PF W0 393 [] (cn []) (fun _ => true) := ⟨call393, fun x R => by
 refine ai 2 func393 ntmps393 ?_
 refine ax (aV rfl) fun b1 => ?_
 refine au 9 ?_
 exact ae aL
 ⟩
theorem yu (l : List It) : i5 (fun _ => true) l = [] := by simp [i5]
theorem Ut (b : Nat) (its : List It) (rm nw : Value) (now : Nat) (L : List It) (hR : Rep its now L) (hN : its.length < 1000) : sP W0 357 [.pointer (some ⟨b, 0, none⟩)] (aQ b (its, [rm, nw, .bool true]) :: R) (fun v B => v = .int .i64 (L.length : Nat) ∧ ∃ its', B = aQ b (its', [rm, nw, .bool true]) :: R ∧ Rep its' now []) := by
 have hlen := hR.length
 refine ai 9 func357 ntmps357 ?_
 refine ar 2 (ao wF rfl (tE b its rm nw)) ?_
 refine a8 rfl (fun c1 => ?_) fun c1 => ?_
 ·exact absurd c1 (by decide)
 refine au 3 ?_
 refine gD (B := aQ b (its, [rm, nw, .bool true]) :: kH 0 (cn []) :: R) inferInstance ?_
 refine au 2 ?_
 refine aB rfl (cK call392 rfl (Ur b its _ 393 [] _ _ (Us W0) hN)) ?_
 rintro _ B_ ⟨l, rfl, hB_, hp, hh⟩
 obtain rfl := hB_.symm
 rw [yu] at hp
 rw [yu, hlen]
 refine au 4 ?_
 refine ae ?_
 have hk := hR.keep (p := fun _ => true) (by rw [yu]; exact hp) hh
 rw [yu] at hk
 exact ⟨_, ⟨rfl, l, rfl, hk⟩, inferInstance⟩
structure Ln where
  k : cT
  e : iA
  rt : Int
  lf : Int
instance : Inhabited Ln := ⟨⟨(0, 0), (0, 0, 0), 0, 0⟩⟩
@[reducible] def cA (x : Ln) : List Value := [.int .i64 x.k.1, .int .i64 x.k.2, .int .i64 x.e.1, .int .i64 x.e.2.1, .int .i64 x.e.2.2, .int .i64 x.rt, .int .i64 x.lf]
theorem lk (x : Ln) : (cA x).length = 7 := rfl
theorem GC (x : Ln) : fw (cA x) = true := rfl
def Ln.thr (x : Ln) (p : Int) : Bool := decide (x.rt = p) || decide (x.lf = p)
theorem qf {x : Ln} {p : Int} : x.thr p = true ↔ x.rt = p ∨ x.lf = p := by simp [Ln.thr]
def fi (L : List Ln) (p : Int) : Bool := L.any fun x => x.thr p
theorem rG {L : List Ln} {p : Int} : fi L p = true ↔ ∃ x ∈ L, x.thr p = true := by simp [fi]
def et (r : Int) : Int := if wB r then r - 2 else r
theorem yw (r : Int) : wB (et r) = false := by
 unfold et; split
 ·rename_i h
  simp only [wB, decide_eq_true_iff] at h
  simp only [wB, decide_eq_false_iff_not]; omega
 rename_i h; simpa using h
def Ln.nar (x : Ln) : Ln := { x with e := (x.e.1, x.e.2.1, et x.e.2.2) }
theorem GD {x : Ln} (h : wB x.e.2.2 = false) : x.nar = x := by
 obtain ⟨k, ⟨e1, e2, e3⟩, r, l⟩ := x
 simp only [Ln.nar, et] at h ⊢
 rw [h]; rfl
def kd (L : List Ln) (r l : Int) : List Int := (if r = l then [r] else [min r l, max r l]).filter fun p => !fi L p
theorem GE {L : List Ln} {r l p : Int} : p ∈ kd L r l ↔ (p = r ∨ p = l) ∧ fi L p = false := by
 unfold kd
 rw [List.mem_filter]
 have : p ∈ (if r = l then [r] else [min r l, max r l]) ↔ (p = r ∨ p = l) := by
  split
  ·rename_i h; subst h; simp
  simp only [List.mem_cons, List.not_mem_nil, or_false]; omega
 rw [this]; simp
def dr (r l : Int) (x : Ln) : Ln := if x.e.1 = r ∨ x.e.1 = l then x.nar else x
def tK (L : List Ln) : List Ln := match L.getLast? with
  | none => []
  | some y => L.dropLast ++ [if fi L y.e.1 then y.nar else y]
def vD (k : cT) (e : iA) (r l : Int) (L : List Ln) : List Ln := L.filter (fun x => decide (x.k ≠ k)) ++ [⟨k, e, r, l⟩]
def vE (L : List Ln) : List Ln := if 32 < L.length then L.tail else L
def ke (k : cT) (e : iA) (r l : Int) (L : List Ln) : List Ln := tK ((vE (vD k e r l L)).map (dr r l))
def ja (k : cT) (L : List Ln) : Option Ln := L.find? fun x => decide (x.k = k)
theorem GF (L : List Ln) (y : Ln) : tK (L ++ [y]) = L ++ [if fi (L ++ [y]) y.e.1 then y.nar else y] := by
 unfold tK
 rw [List.getLast?_append]; simp
theorem Uu (x : Ln) (p : Int) : x.nar.thr p = x.thr p := rfl
theorem GG (r l : Int) (x : Ln) (p : Int) : (dr r l x).thr p = x.thr p := by unfold dr; split <;> rfl
theorem GH (r l : Int) (x : Ln) : (dr r l x).k = x.k := by unfold dr; split <;> rfl
theorem GI (r l : Int) (x : Ln) : (dr r l x).e.1 = x.e.1 := by unfold dr; split <;> rfl
theorem GJ {f : Ln → Ln} (h : ∀ x p, (f x).thr p = x.thr p) (L : List Ln) (p : Int) : fi (L.map f) p = fi L p := by
 unfold fi; rw [List.any_map]; congr 1; funext x; exact h x p
theorem GK (A B : List Ln) (p : Int) : fi (A ++ B) p = (fi A p || fi B p) := by simp [fi]
def iB (k : cT) (L : List Ln) : List Ln := if 31 < (L.filter fun x => decide (x.k ≠ k)).length then (L.filter fun x => decide (x.k ≠ k)).tail else L.filter fun x => decide (x.k ≠ k)
theorem GL (k : cT) (L : List Ln) : (iB k L).Sublist (L.filter fun x => decide (x.k ≠ k)) := by
 unfold iB; split
 ·exact List.tail_sublist _
 exact List.Sublist.refl _
theorem BK {k : cT} {L : List Ln} {x : Ln} (h : x ∈ iB k L) : x ∈ L ∧ x.k ≠ k := by
 have := (GL k L).subset h
 rw [List.mem_filter] at this
 exact ⟨this.1, of_decide_eq_true this.2⟩
theorem GM {k : cT} {L : List Ln} (h : L.length ≤ 32) : (iB k L).length ≤ 31 := by
 have hf := List.length_filter_le (fun x : Ln => decide (x.k ≠ k)) L
 unfold iB; split
 ·rw [List.length_tail]; omega
 omega
def jb (k : cT) (e : iA) (r l : Int) (L : List Ln) : Ln :=
  if fi (iB k L) e.1 || (⟨k, e, r, l⟩ : Ln).thr e.1 then (⟨k, e, r, l⟩ : Ln).nar else ⟨k, e, r, l⟩
theorem Uv (x : Ln) : x.nar.nar = x.nar := GD (yw _)
theorem BL (k : cT) (e : iA) (r l : Int) (L : List Ln) (h : L.length ≤ 32) : ke k e r l L = (iB k L).map (dr r l) ++ [jb k e r l L] := by
 have hc : vE (vD k e r l L) = iB k L ++ [⟨k, e, r, l⟩] := by
  unfold vE vD iB
  rw [List.length_append, List.length_singleton]
  by_cases q : 31 < (L.filter fun x => decide (x.k ≠ k)).length
  ·rw [if_pos (by omega), if_pos q]
   cases e1 : (L.filter fun x => decide (x.k ≠ k)) with
   | nil => rw [e1] at q; simp at q
   | cons a t => rfl
  rw [if_neg (by omega), if_neg q]
 unfold ke
 rw [hc, List.map_append, List.map_singleton, GF]
 congr 1
 rw [← List.map_singleton (f := dr r l), ← List.map_append, GJ (GG r l), GK, GI]
 have ht : fi [(⟨k, e, r, l⟩ : Ln)] e.1 = (⟨k, e, r, l⟩ : Ln).thr e.1 := by simp [fi]
 rw [ht]
 unfold jb
 by_cases q : e.1 = r ∨ e.1 = l
 ·have h1 : dr r l ⟨k, e, r, l⟩ = (⟨k, e, r, l⟩ : Ln).nar := if_pos q
  have h2 : (⟨k, e, r, l⟩ : Ln).thr e.1 = true := by
   rw [qf]; exact q.imp Eq.symm Eq.symm
  rw [h1, h2, Bool.or_true, if_pos rfl, if_pos rfl, Uv]
 have h1 : dr r l ⟨k, e, r, l⟩ = ⟨k, e, r, l⟩ := if_neg q
 rw [h1]
theorem yx (k : cT) (e : iA) (r l : Int) (L : List Ln) : (jb k e r l L).k = k := by unfold jb; split <;> rfl
theorem BM (k : cT) (e : iA) (r l : Int) (L : List Ln) : jb k e r l L = ⟨k, e, r, l⟩ ∨ jb k e r l L = (⟨k, e, r, l⟩ : Ln).nar := by unfold jb; split <;> simp
structure TI (L : List Ln) (TL : List It) : Prop where
  keys : (L.map Ln.k).Nodup
  len : L.length ≤ 32
  nowr : ∀ x ∈ L, wB x.e.2.2 = true → fi L x.e.1 = false
  sub : ∀ y ∈ TL, ∃ x ∈ L, x.k = y.key ∧ x.e = y.ent
theorem TI.nil : TI [] [] := ⟨List.nodup_nil, Nat.zero_le _, fun x hx => by simp at hx, fun y hy => by simp at hy⟩
theorem tL {k : cT} {L : List Ln} {x : Ln} (h : ja k L = some x) : x ∈ L ∧ x.k = k := ⟨List.mem_of_find?_eq_some h, by simpa using List.find?_some h⟩
theorem GN {L : List Ln} (h : (L.map Ln.k).Nodup) {x y : Ln} (hx : x ∈ L) (hy : y ∈ L) (e : x.k = y.k) : x = y := by
 induction L with
 | nil => simp at hx
 | cons a L ih =>
  simp only [List.map_cons, List.nodup_cons] at h
  rcases List.mem_cons.1 hx with rfl | hx1
  ·rcases List.mem_cons.1 hy with rfl | hy1
   ·rfl
   exact absurd (List.mem_map_of_mem (f := Ln.k) hy1) (by rw [← e]; exact h.1)
  rcases List.mem_cons.1 hy with rfl | hy1
  ·exact absurd (List.mem_map_of_mem (f := Ln.k) hx1) (by rw [e]; exact h.1)
  exact ih h.2 hx1 hy1
theorem rH {L : List Ln} (h : (L.map Ln.k).Nodup) {x : Ln} (hx : x ∈ L) : ja x.k L = some x := by
 cases hf : ja x.k L with
 | none =>
  have := List.find?_eq_none.1 hf x hx
  simp at this
 | some z =>
  obtain ⟨h1, h2⟩ := tL hf
  rw [GN h h1 hx h2]
theorem TI.drop {L : List Ln} {TL TL' : List It} (h : TI L TL) (f : Ln → Bool) (hs : ∀ y ∈ TL', y ∈ TL ∧ ∀ x ∈ L, f x = true → y.key ≠ x.k) : TI (L.filter fun x => !f x) TL' := by
 refine ⟨List.Sublist.nodup (List.Sublist.map _ List.filter_sublist) h.keys, Nat.le_trans (List.length_filter_le _ _) h.len, fun x hx hw => ?_, fun y hy => ?_⟩
 ·have hx := (List.mem_filter.1 hx).1
  have := h.nowr x hx hw
  rw [← Bool.not_eq_true, rG] at this ⊢
  rintro ⟨z, hz, hz2⟩
  exact this ⟨z, (List.mem_filter.1 hz).1, hz2⟩
 obtain ⟨h1, h2⟩ := hs y hy
 obtain ⟨x, hx, e1, e2⟩ := h.sub y h1
 refine ⟨x, List.mem_filter.2 ⟨hx, ?_⟩, e1, e2⟩
 cases hf : f x with
 | false => rfl
 | true => exact absurd e1.symm (h2 x hx hf)
theorem BN {k : cT} {x y : It} {L : List It} : y ∈ jK k x L ↔ (y ∈ L ∧ y.key ≠ k) ∨ y = x := by simp [jK, qe]
theorem TI.getT {L : List Ln} {TL : List It} (h : TI L TL) (now : Nat) (k : cT) : TI L (rF now k TL) := by
 refine ⟨h.keys, h.len, h.nowr, fun y hy => ?_⟩
 unfold rF at hy
 cases hf : lj k TL with
 | none => rw [hf] at hy; exact h.sub y hy
 | some z =>
  rw [hf] at hy
  obtain ⟨h1, h2⟩ := tG hf
  rcases BN.1 hy with ⟨q, _⟩ | rfl
  ·exact h.sub y q
  obtain ⟨x, hx, e1, e2⟩ := h.sub z h1
  exact ⟨x, hx, by rw [e1, h2]; rfl, by rw [e2]; rfl⟩
theorem GO {room now : Nat} {k : cT} {e : iA} {L : List It} {y : It} (h : y ∈ ju room now k e L) : (y ∈ L ∧ y.key ≠ k) ∨ y = iT k e (now + 1 : Nat) := by
 unfold ju at h
 split at h
 ·exact BN.1 (List.mem_of_mem_tail h)
 exact BN.1 h
theorem TI.putT {L : List Ln} {TL : List It} (h : TI L TL) (room now : Nat) {x : Ln} (hx : x ∈ L) : TI L (ju room now x.k x.e TL) := by
 refine ⟨h.keys, h.len, h.nowr, fun y hy => ?_⟩
 rcases GO hy with ⟨q, _⟩ | rfl
 ·exact h.sub y q
 exact ⟨x, hx, rfl, rfl⟩
def gr (l : List Int) (TL : List It) : List It := l.foldl (fun A p => A.map (i6 p)) TL
theorem Uw (p : Int) (y : It) : (i6 p y).ent = if y.ep = p then (y.ent.1, y.ent.2.1, et y.ent.2.2) else y.ent := by
 unfold i6 hit et
 by_cases q : y.ep = p
 ·rw [decide_eq_true q, Bool.true_and, if_pos q]
  show _ = (y.ep, y.ef, if wB y.er = true then y.er - 2 else y.er)
  cases hw : wB y.er <;> rfl
 rw [decide_eq_false q, Bool.false_and, if_neg q]; rfl
theorem Ux {l : List Int} : ∀ {TL : List It} {y : It}, y ∈ gr l TL → ∃ z ∈ TL, y.key = z.key ∧ y.ent = if z.ep ∈ l then (z.ent.1, z.ent.2.1, et z.ent.2.2) else z.ent := by
 induction l with
 | nil => intro TL y h; exact ⟨y, h, rfl, by simp⟩
 | cons p l ih =>
  intro TL y h
  obtain ⟨z, hz, h1, h2⟩ := ih (TL := TL.map (i6 p)) h
  obtain ⟨w, hw, rfl⟩ := List.mem_map.1 hz
  refine ⟨w, hw, by rw [h1, GA], ?_⟩
  have hep : (i6 p w).ep = w.ep := by unfold i6; split <;> rfl
  rw [h2, hep, Uw]
  by_cases q1 : w.ep = p
  ·rw [if_pos q1, if_pos (List.mem_cons.2 (.inl q1))]
   split
   ·have := yw w.ent.2.2
    show (w.ent.1, w.ent.2.1, et (et w.ent.2.2)) = _
    rw [show et (et w.ent.2.2) = et w.ent.2.2 by rw [et, this]; rfl]
   rfl
  rw [if_neg q1]
  by_cases q2 : w.ep ∈ l
  ·rw [if_pos q2, if_pos (List.mem_cons.2 (.inr q2))]
  rw [if_neg q2, if_neg (fun h => (List.mem_cons.1 h).elim q1 q2)]
theorem TI.fill {L : List Ln} {TL : List It} (h : TI L TL) (k : cT) (e : iA) (r l : Int) (room now : Nat) :
  TI (ke k e r l L) ((ju room now k (jb k e r l L).e (gr (kd L r l) TL)).filter fun y => (ja y.key (ke k e r l L)).isSome) := by
 have hE := BL k e r l L h.len
 have hold : ∀ x ∈ iB k L, x ∈ L ∧ x.k ≠ k := fun x hx => BK hx
 have hTo : ∀ p, fi (ke k e r l L) p = (fi (iB k L) p || (⟨k, e, r, l⟩ : Ln).thr p) := fun p => by
  rw [hE, GK, GJ (GG r l)]
  congr 1
  rcases BM k e r l L with q | q <;> rw [q] <;> simp [fi, Uu]
 have hkeys : ((ke k e r l L).map Ln.k).Nodup := by
  rw [hE, List.map_append, List.map_map, show Ln.k ∘ dr r l = Ln.k from funext fun x => GH r l x, List.map_singleton, yx]
  refine List.nodup_append.2 ⟨List.Sublist.nodup (List.Sublist.map _ ((GL k L).trans List.filter_sublist)) h.keys, by simp, fun a ha b hb => ?_⟩
  obtain rfl : b = k := by simpa using hb
  obtain ⟨x, hx, rfl⟩ := List.mem_map.1 ha
  exact (hold x hx).2
 have hnew : jb k e r l L ∈ ke k e r l L := by rw [hE]; simp
 refine ⟨hkeys, ?_, fun x hx hw => ?_, fun y hy => ?_⟩
 ·rw [hE, List.length_append, List.length_map, List.length_singleton]
  have := GM (k := k) h.len; omega
 ·rw [hTo]
  rw [hE] at hx
  rcases List.mem_append.1 hx with hx | hx
  ·obtain ⟨z, hz, rfl⟩ := List.mem_map.1 hx
   obtain ⟨hzL, _⟩ := hold z hz
   rw [GI]
   by_cases q : z.e.1 = r ∨ z.e.1 = l
   ·rw [dr, if_pos q] at hw
    rw [show z.nar.e.2.2 = et z.e.2.2 from rfl, yw] at hw; cases hw
   rw [dr, if_neg q] at hw
   have h1 := h.nowr z hzL hw
   rw [Bool.or_eq_false_iff]
   refine ⟨?_, ?_⟩
   ·rw [← Bool.not_eq_true, rG] at h1 ⊢
    rintro ⟨u, hu, hu2⟩
    exact h1 ⟨u, (hold u hu).1, hu2⟩
   rw [← Bool.not_eq_true, qf]
   rintro (e1 | e1)
   ·exact q (.inl e1.symm)
   exact q (.inr e1.symm)
  obtain rfl : x = jb k e r l L := by simpa using hx
  unfold jb at hw ⊢
  split at hw
  ·rw [show (Ln.nar ⟨k, e, r, l⟩).e.2.2 = et e.2.2 from rfl, yw] at hw; cases hw
  rename_i q
  rw [if_neg q]
  exact (by simpa using q)
 obtain ⟨hy1, hy2⟩ := List.mem_filter.1 hy
 rcases GO hy1 with ⟨q, hne⟩ | rfl
 ·obtain ⟨z, hz, k1, k2⟩ := Ux q
  obtain ⟨x, hx, e1, e2⟩ := h.sub z hz
  cases hg : ja y.key (ke k e r l L) with
  | none => rw [hg] at hy2; cases hy2
  | some x' =>
   obtain ⟨m1, m2⟩ := tL hg
   refine ⟨x', m1, m2, ?_⟩
   rw [hE] at m1
   rcases List.mem_append.1 m1 with m1 | m1
   ·obtain ⟨u, hu, rfl⟩ := List.mem_map.1 m1
    obtain ⟨huL, _⟩ := hold u hu
    rw [GH] at m2
    have hux : u = x := GN h.keys huL hx (by rw [m2, e1, k1])
    subst hux
    have hzp : z.ep = u.e.1 := by rw [e2]; rfl
    rw [k2, hzp]
    by_cases q1 : u.e.1 = r ∨ u.e.1 = l
    ·rw [dr, if_pos q1]
     by_cases q2 : u.e.1 ∈ kd L r l
     ·rw [if_pos q2, ← e2]; rfl
     rw [if_neg q2]
     have ht : fi L u.e.1 = true := by
      rw [← Bool.not_eq_false]; intro q3
      exact q2 (GE.2 ⟨q1, q3⟩)
     have hw : wB u.e.2.2 = false := by
      rw [← Bool.not_eq_true]; intro q3
      rw [h.nowr u huL q3] at ht; cases ht
     rw [GD hw, e2]
    rw [dr, if_neg q1, if_neg (fun q2 => q1 (GE.1 q2).1), e2]
   obtain rfl : x' = jb k e r l L := by simpa using m1
   rw [yx] at m2
   exact absurd m2.symm hne
 exact ⟨_, hnew, yx k e r l L, rfl⟩
def bL (b : Nat) (L : List Ln) : HP := chk (fun C => ∃ a c, C = [pt b (ac [.slice a L.length c, .bool true] 394), osl 323 7 (.slice a L.length c) (L.flatMap cA)])
section
variable {P : Program} {W0 : World} {R A : List HP} {b : Nat} {L : List Ln} {f : FuncId} {args : List Value} {Post : Value → List HP → Prop}
theorem oR {a : Option Addr} {c n : Nat} {R1 R2 B : List HP} [h1 : Tk pt b A (ac [.slice a n c, .bool true] 394) R1] [h2 : Tk (osl 323 7) (.slice a n c) R1 (L.flatMap cA) R2] (hn : n = L.length) [k : Ent R2 B] : Ent A (bL b L :: B) := by
 subst hn
 exact (Ent.ofPerm (h1.perm.trans (h2.perm.cons _))).trans ((Ent.cons (Ent.cons k)).trans (fC (R := B) (C := [_, _]) ⟨a, c, rfl⟩))
theorem vF {N : FSz} {K : Act → World → Prop} {e : aW} [hk : Tk bL b A L R] (h : ∀ a c, az W0 N K e (pt b (ac [.slice a L.length c, .bool true] 394) :: osl 323 7 (.slice a L.length c) (L.flatMap cA) :: R)) : az W0 N K e A :=
 fK (r := bL) (b := b) (mt fun C hC => by obtain ⟨a, c, rfl⟩ := hC; exact h a c)
theorem Uy {N : FSz} {K : Act → World → Prop} {e : aW} [hk : Tk bL b A L R] (h0 : L ≠ []) (h : ∀ g c sp, L.length ≤ c → c ≤ maxLen → (L.flatMap cA ++ sp).length = c * 7 → az W0 N K e (pt b (ac [.slice (some ⟨g, 0, none⟩) L.length c, .bool true] 394) :: pt g (ac (L.flatMap cA ++ sp) 323) :: R)) : az W0 N K e A :=
 vF (b := b) fun a c => mZ (List.Perm.swap _ _ _) (jW (fun h1 h2 => by
   have := cz lk L
   rw [h2] at this
   exact absurd (List.eq_nil_of_length_eq_zero (by simp at this; omega)) h0)
  (fun g n cap sp h1 h2 h3 h4 h5 => by
   cases h1
   exact mZ (List.Perm.swap _ _ _) (h g _ sp h2 h3 h5)))
theorem GP {g c n : Nat} {xs sp : List Value} {R1 R2 B : List HP} [h1 : Tk pt b A (ac [.slice (some ⟨g, 0, none⟩) n c, .bool true] 394) R1] [h2 : Tk pt g R1 (ac (xs ++ sp) 323) R2] (hx : xs = L.flatMap cA) (hn : n = L.length) (hc : n ≤ c) (hm : c ≤ maxLen) (hl : (xs ++ sp).length = c * 7) [k : Ent R2 B] : Ent A (bL b L :: B) := by
 subst hn
 subst hx
 have e : Ent R1 (osl 323 7 (.slice (some ⟨g, 0, none⟩) L.length c) (L.flatMap cA) :: B) := eB hc hm (cz lk L) hl
 exact (Ent.ofPerm h1.perm).trans ((Ent.cons e).trans (fC (R := B) (C := [_, _]) ⟨_, c, rfl⟩))
theorem Uz [hk : Tk bL b A L R] : jk (aO W0 A) b 1 (.bool true) := fun w (hO : Own W0 w A) => by
 obtain ⟨C, ⟨a, c, rfl⟩, hO'⟩ := (hO.tk (r := bL) (b := b)).chk
 have h2 : jk (aO W0 (pt b (ac [.slice a L.length c, .bool true] 394) :: (osl 323 7 (.slice a L.length c) (L.flatMap cA) :: R))) b 1 (.bool true) := aN rfl
 exact h2 w hO'
end
theorem tM (b : Nat) (L : List Ln) : sQ W0 193 [.pointer (some ⟨b, 0, none⟩)] (bL b L :: R) (.bool false) (bL b L :: R) := by
 refine ai 10 func193 ntmps193 ?_
 refine bB rfl rfl rfl (fun g1_3 => ?_) fun g1_3 => ?_
 ·cases g1_3
 refine au 6 ?_
 refine ap 7 (aA gz rfl Uz) ?_
 exact ae aL
def rI (p : Int) : Bool := decide (0 ≤ p ∧ p < 8)
theorem GQ (p : Int) : sQ W0 402 [.int .i64 p] R (.bool (rI p)) R := by
  refine ai 10 func402 ntmps402 ?_
  refine cp rfl rfl rfl (fun g1_3 => ?_) fun g1_3 => ?_
  · refine au 8 ?_
    refine ae ?_
    refine aR ?_
    refine congrArg Value.bool ?_
    rw [Bool.eq_iff_iff, rI, decide_eq_true_iff]
    first
      | (rw [decide_eq_true_iff]; constructor <;> (intro q; omega))
      | (constructor
         · intro q; first | omega | (cases q)
         intro q; omega)
  refine au 6 ?_
  refine ae ?_
  refine aR ?_
  refine congrArg Value.bool ?_
  rw [Bool.eq_iff_iff, rI, decide_eq_true_iff]
  first
    | (rw [decide_eq_true_iff]; constructor <;> (intro q; omega))
    | (constructor
       · intro q; first | omega | (cases q)
       intro q; omega)
theorem yy (g o : Nat) (x : Ln) (hc : bG (aO W0 R) g o (cA x)) (p : Int) : sQ W0 196 [.pointer (some ⟨g, o, none⟩), .int .i64 p] R (.bool (x.thr p)) R := by
 refine ai 10 func196 ntmps196 ?_
 refine ap 3 (aA aX rfl (bG.weak hc 5 _ rfl)) ?_
 refine bB rfl rfl rfl (fun g1_7 => ?_) fun g1_7 => ?_
 ·refine au 10 ?_
  refine ae ?_
  refine aR ?_
  refine congrArg Value.bool ?_
  rw [Bool.eq_iff_iff, qf]
  first
   | (simp; omega)
   | (simp only [beq_iff_eq, true_iff]; omega)
   | simp_all
 refine au 6 ?_
 refine ap 9 (aA aX rfl (bG.weak hc 6 _ rfl)) ?_
 refine ae ?_
 refine aR ?_
 refine congrArg Value.bool ?_
 rw [Bool.eq_iff_iff, qf]
 first
  | (simp; omega)
  | (simp only [beq_iff_eq, true_iff]; omega)
  | simp_all
theorem BO (g o : Nat) (vs : List Value) (r : Int) (hr : i64 r) (hv : vs[o + 4]? = some (.int .i64 r)) : sQ W0 431 [.pointer (some ⟨g, o, none⟩)] (pt g (ac vs 323) :: R) (.tuple #[]) (pt g (ac (vs.set (o + 4) (.int .i64 (et r))) 323) :: R) := by
 refine ai 6 func431 ntmps431 ?_
 refine a7 rfl (aA aX rfl (aN hv)) ?_
 refine ap 4 (wR rfl rfl (Gy hr : nX .i64 r 2 = et r)) ?_
 refine o9 (bA aj rfl rfl rfl (by have := (List.getElem?_eq_some_iff.1 hv).1; omega) (rfl : vs.set (o + 4) (.int .i64 (if wB r then r - 2 else r)) = vs.set (o + 4) (.int .i64 (et r)))) ?_
 refine bX (bT (.inr rfl) .nil ?_)
 rw [show et r = if wB r then r - 2 else r from rfl]
 exact ⟨_, ⟨rfl, rfl⟩, inferInstance⟩
theorem UA (b : Nat) (L : List Ln) (hl : L.length ≤ 1000) (p : Int) : sQ W0 430 [.pointer (some ⟨b, 0, none⟩), .int .i64 p] (bL b L :: R) (.bool (fi L p)) (bL b L :: R) := by
 refine ai 9 func430 ntmps430 ?_
 refine ar 2 (ao um rfl (tM b L)) ?_
 refine a8 rfl (fun c1 => ?_) fun c1 => ?_
 ·exact absurd c1 (by decide)
 refine au 4 ?_
 refine vF (b := b) fun a c => ?_
 refine au 10 ?_
 refine cY (fun i : Nat => i ≤ L.length ∧ ∀ j (hj : j < L.length), j < i → L[j].thr p = false) (fun i => [(0, .pointer (some ⟨b, 0, none⟩)), (1, .int .i64 p), (12, .int .i64 (L.length : Nat)), (13, .int .i64 i)]) (fun _ => pt b (ac [.slice a L.length c, .bool true] 394) :: osl 323 7 (.slice a L.length c) (L.flatMap cA) :: R) (fun i => L.length - i) 0 ?_ ?_
 ·exact ⟨Nat.zero_le _, fun j hj h0 => absurd h0 (Nat.not_lt_zero _)⟩
 intro i ⟨hi, hI⟩
 refine au 6 ?_
 refine a8 rfl (fun c4 => ?_) fun c4 => ?_
 ·refine au 11 ?_
  have hi1 : i < L.length := by omega
  refine lB (E := 323) (sz := 7) (a := a) (c := c) (n := L.length) cA L lk (by decide) rfl (fun hs => ?_)
  obtain ⟨g, o, hga, hc⟩ := hs.at_ hi1
  obtain ⟨x, hx⟩ : ∃ x, L[i] = x := ⟨_, rfl⟩
  have hyes : x.thr p = true → fi L p = true := fun q => rG.2 ⟨x, by rw [← hx]; exact List.getElem_mem hi1, q⟩
  have hno : x.thr p = false → ∀ j (hj : j < L.length), j < i + 1 → L[j].thr p = false := fun q j hj hji => by
   rcases Nat.lt_or_ge j i with q2 | q2
   ·exact hI j hj q2
   obtain rfl : j = i := by omega
   rw [hx]; exact q
  rw [hx] at hc
  refine au 6 ?_
  refine a7 rfl (dW jf jz rfl hga rfl rfl hi1 (by first | exact Nat.zero_add _ | rfl)) ?_
  refine a7 rfl (aH rfl) (ar 2 (aD Dd rfl (yy g (o + i * 7) x hc p)) ?_)
  refine a8 rfl (fun c6 => ?_) fun c6 => ?_
  ·refine au 11 ?_
   refine ae ?_
   rw [hyes c6]
   exact ⟨_, ⟨rfl, rfl⟩, oR (b := b) rfl⟩
  refine au 4 ?_
  refine ap 3 (cM rfl rfl) ?_
  exact bZ (i + 1) (⟨by omega, hno (by simpa using c6)⟩)
 refine au 11 ?_
 refine ae ?_
 have ht : fi L p = false := by
  rw [← Bool.not_eq_true, rG]
  rintro ⟨x, hx, q⟩
  obtain ⟨j, hj, rfl⟩ := List.getElem_of_mem hx
  rw [hI j hj (by omega)] at q; cases q
 rw [ht]
 exact ⟨_, ⟨rfl, rfl⟩, oR (b := b) rfl⟩
theorem vG {S : World → Prop} {b off : Nat} {us ws vs : List Value} (h : bG S b off vs) (e : vs = us ++ ws) : bG S b off us := fun i v hi => h i v (by rw [e, List.getElem?_append_left (List.getElem?_eq_some_iff.1 hi).1]; exact hi)
structure PLn (W0 : World) (fn : FuncId) (cs : List Value) (C : HP) (p : Ln → Bool) : Prop where
  call : ∀ args w, (callFunc fn args).run Tryz.prog w = .ok (.enter fn args) w
  spec : ∀ x b R, bN Tryz.prog W0 fn ([] ++ [.pointer (some ⟨b, 0, none⟩)] ++ cs) (pt b (ac (cA x) 323) :: kH 0 C :: R) (fun v B => v = .bool (p x) ∧ B = pt b (ac (cA x) 323) :: kH 0 C :: R)
theorem UB (W0 : World) (bk : Nat) (k : cT) : PLn W0 404 [.pointer (some ⟨bk, 0, none⟩)] (cn [pt bk (ac (fH k) 314)]) (fun x => decide (x.k = k)) := ⟨call404, fun x b R => by
 refine kU (qK (r1 := kH) (b1 := 0)) (mu ?_)
 simp only [List.cons_append, List.nil_append]
 refine ai 6 func404 ntmps404 ?_
 refine aU [(b, 0, _), (bk, 0, _)] 8 aT rfl (aa (aa ag)) (fun hS => ?_)
 refine ah 0 4 hS ?_
 refine av 4 rfl rfl rfl hS (b0 jP g8 rfl (vG (us := fH x.k) (ws := [.int .i64 x.e.1, .int .i64 x.e.2.1, .int .i64 x.e.2.2, .int .i64 x.rt, .int .i64 x.lf]) (co (k := 0) rfl) rfl) rfl) ?_
 refine av 5 rfl rfl rfl hS (b0 jP g8 rfl (by first | exact co (k := 0) rfl | exact co (k := 1) rfl) rfl) ?_
 refine av 6 rfl rfl rfl hS (uw Tryz.eqGuardType314 rfl rfl (uv zJ Tryz.stoodInHeld314 (ng rfl aX rfl rfl (nf cW) (ng rfl aX rfl rfl (nf cW) uu)))) ?_
 refine ah 7 1 hS ?_
 refine aK ?_
 refine au 2 ?_
 refine ae ?_
 refine aR ?_
 refine congrArg Value.bool ?_
 rw [Bool.eq_iff_iff]; simp [Prod.ext_iff]
 ⟩
theorem UC (W0 : World) (bp : Nat) (page : Int) : PLn W0 275 [.pointer (some ⟨bp, 0, none⟩)] (cn [pt bp (ac [.int .i64 page] 3)]) (fun x => x.thr page) := ⟨call275, fun x b R => by
 refine kU (qK (r1 := kH) (b1 := 0)) (mu ?_)
 simp only [List.cons_append, List.nil_append]
 refine ai 9 func275 ntmps275 ?_
 refine ar 4 (aD Dd rfl (yy b 0 x eC page)) ?_
 exact ae aL
 ⟩
def kK (page : Int) (x : Ln) : Bool := x.thr page || decide (x.e.1 = page)
theorem UD (W0 : World) (bp : Nat) (page : Int) : PLn W0 195 [.pointer (some ⟨bp, 0, none⟩)] (cn [pt bp (ac [.int .i64 page] 3)]) (kK page) := ⟨call195, fun x b R => by
 refine kU (qK (r1 := kH) (b1 := 0)) (mu ?_)
 simp only [List.cons_append, List.nil_append]
 obtain ⟨q, hq⟩ : ∃ q, x.thr page = q := ⟨_, rfl⟩
 rw [show kK page x = (q || decide (x.e.1 = page)) by rw [kK, hq]]
 refine ai 6 func195 ntmps195 ?_
 refine aU [(b, 0, _), (bp, 0, _)] 14 aT rfl (aa (aa ag)) (fun hS => ?_)
 refine ah 0 2 hS ?_
 refine bS 2 (by kernel_rfl) rfl rfl (aD Dd rfl (yy b 0 x eC page)) rfl ?_; clear hS
 rintro _ B_ ⟨rfl, hB_⟩
 obtain rfl := hB_.symm
 rw [hq]
 refine ⟨(aa (aa ag)), fun hS => ?_⟩
 refine ah 3 1 hS ?_
 refine ip (t := 7) rfl ?_ ?_
 ·intro g1_4
  refine ah 4 10 hS ?_
  refine aK ?_
  refine au 2 ?_
  refine ae ?_
  refine aR ?_
  refine congrArg Value.bool ?_
  rw [Bool.eq_iff_iff]
  simp_all
 ·intro g1_4
  refine ah 4 10 hS ?_
  refine aK ?_
  refine au 2 ?_
  refine ae ?_
  refine aR ?_
  refine congrArg Value.bool ?_
  rw [Bool.eq_iff_iff]
  simp_all
 ⟩
theorem UE (W0 : World) : PLn W0 394 [] (cn []) (fun _ => true) := ⟨call394, fun x b R => by
 refine ai 11 func394 ntmps394 ?_
 exact ae aL
 ⟩
theorem GR {α : Type} {p : α → Bool} {l : List α} {i : Nat} {x : α} (hi : i < l.length) (hx : l[i] = x) (h : p x = true) : (l.take (i + 1)).filter p = (l.take i).filter p ++ [x] := by
 rw [List.take_succ_eq_append_getElem hi, List.filter_append, hx, List.filter_cons_of_pos h]; rfl
theorem GT {α : Type} {p : α → Bool} {l : List α} {i : Nat} {x : α} (hi : i < l.length) (hx : l[i] = x) (h : ¬ p x = true) : (l.take (i + 1)).filter p = (l.take i).filter p := by
 rw [List.take_succ_eq_append_getElem hi, List.filter_append, hx, List.filter_cons_of_neg h]; simp
theorem GU {α : Type} {p : α → Bool} {l : List α} {i : Nat} : ((l.take i).filter p).length ≤ i :=
 Nat.le_trans (List.length_filter_le _ _) (by rw [List.length_take]; omega)
@[reducible] def rJ (x : Ln) : List Value := fH x.k
theorem yz (b : Nat) (L : List Ln) (hl : L.length ≤ 1000) (fn : FuncId) (cs : List Value) (C : HP) (p : Ln → Bool) (hp : PLn W0 fn cs C p) : sP W0 194 [.pointer (some ⟨b, 0, none⟩), .func (.func fn) #[] cs.toArray] (bL b L :: kH 0 C :: R) (fun v B => ∃ a c, v = .slice a (L.filter p).length c ∧ B = osl 314 2 (.slice a (L.filter p).length c) ((L.filter p).flatMap rJ) :: bL b (L.filter fun x => !p x) :: kH 0 C :: R) := by
 obtain ⟨n, hn⟩ : ∃ n : Ln → Bool, (fun x => !p x) = n := ⟨_, rfl⟩
 have hnx : ∀ x, n x = !p x := fun x => by rw [← hn]
 rw [hn]
 refine ai 17 func194 ntmps194 ?_
 refine vF (b := b) fun a c => ?_
 refine au 10 ?_
 refine ge (fun X : Nat × (Option Addr × Nat) × Option Addr × Nat => X.1 ≤ L.length) (fun X => [(0, .pointer (some ⟨b, 0, none⟩)), (1, .func (.func fn) #[] cs.toArray), (5, .slice X.2.1.1 ((L.take X.1).filter p).length X.2.1.2), (6, .slice X.2.2.1 ((L.take X.1).filter n).length X.2.2.2), (13, .int .i64 (L.length : Nat)), (14, .int .i64 X.1)]) (fun X => osl 314 2 (.slice X.2.1.1 ((L.take X.1).filter p).length X.2.1.2) (((L.take X.1).filter p).flatMap rJ) :: osl 323 7 (.slice X.2.2.1 ((L.take X.1).filter n).length X.2.2.2) (((L.take X.1).filter n).flatMap cA) :: pt b (ac [.slice a L.length c, .bool true] 394) :: osl 323 7 (.slice a L.length c) (L.flatMap cA) :: kH 0 C :: R) (fun X => L.length - X.1) (0, (none, 0), none, 0) ?_ ?_ ?_ ?_
 ·exact Nat.zero_le _
 ·repeat (first | exact dy | refine db rfl ?_)
 ·show Ent _ (osl 314 2 (.slice none 0 0) [] :: osl 323 7 (.slice none 0 0) [] :: pt b (ac [.slice a L.length c, .bool true] 394) :: osl 323 7 (.slice a L.length c) (L.flatMap cA) :: kH 0 C :: R)
  exact fR (k := fR)
 intro ⟨i, ⟨a1, c1⟩, a2, c2⟩ hi
 dsimp only at hi ⊢
 have hlp := GU (p := p) (l := L) (i := i)
 have hln := GU (p := n) (l := L) (i := i)
 refine au 6 ?_
 refine a8 rfl (fun c4 => ?_) fun c4 => ?_
 ·refine au 2 ?_
  refine dU (fun X : (Option Addr × Nat) × Option Addr × Nat => True) (fun X => [(0, .pointer (some ⟨b, 0, none⟩)), (1, .func (.func fn) #[] cs.toArray), (5, .slice X.1.1 ((L.take (i + 1)).filter p).length X.1.2), (6, .slice X.2.1 ((L.take (i + 1)).filter n).length X.2.2), (13, .int .i64 (L.length : Nat)), (14, .int .i64 i)]) (fun X => osl 314 2 (.slice X.1.1 ((L.take (i + 1)).filter p).length X.1.2) (((L.take (i + 1)).filter p).flatMap rJ) :: osl 323 7 (.slice X.2.1 ((L.take (i + 1)).filter n).length X.2.2) (((L.take (i + 1)).filter n).flatMap cA) :: pt b (ac [.slice a L.length c, .bool true] 394) :: osl 323 7 (.slice a L.length c) (L.flatMap cA) :: kH 0 C :: R) ?_ ?_
  ·skip
   refine au 8 ?_
   have hi1 : i < L.length := by omega
   refine lB (E := 323) (sz := 7) (a := a) (c := c) (n := L.length) cA L lk (by decide) rfl (fun hs => ?_)
   obtain ⟨g, o, hga, hc⟩ := hs.at_ hi1
   obtain ⟨x, hx⟩ : ∃ x, L[i] = x := ⟨_, rfl⟩
   rw [hx] at hc
   refine au 6 ?_
   refine a7 rfl (dW jf jz rfl hga rfl rfl hi1 (by first | exact Nat.zero_add _ | rfl)) ?_
   refine a7 rfl (b0 IU jz rfl hc.weak rfl) ?_
   refine ax (aS wG) fun bx => ?_
   refine aE 6 (aF jz rfl rfl rfl rfl rfl) ?_
   refine ar 2 (OL (us := []) (cs := cs) rfl hp.call rfl (hp.spec x bx _)) ?_
   refine a8 rfl (fun c7 => ?_) fun c7 => ?_
   ·have e1 := GR (p := p) hi1 hx c7
    have e2 := GT (p := n) hi1 hx (by rw [hnx, c7]; decide)
    refine au 5 ?_
    refine a7 rfl (qF jP g8 rfl TakeL.eq rfl) ?_
    refine ax (iM CH g8 De rfl (eW rfl rfl gZ) rfl (by decide) (by decide) (by decide)) fun bb => ?_
    rw [show ([fH x.k] : List (List Value)).flatten = fH x.k from List.append_nil _]
    refine aB rfl (eV (sz := 2) (by_ := 16) (info := Tryz.t314) CH (by kernel_rfl) rfl rfl rfl rfl (by decide) rfl rfl eC rfl rfl (by simp only [maxLen]; omega) (by omega)) ?_
    rintro _ _ ⟨a3, c3, rfl, rfl⟩
    refine au 7 ?_
    refine iG ((a3, c3), a2, c2) ?_ ?_ ?_
    ·trivial
    ·rw [e1, e2, List.length_append]
     repeat (first | exact dy | refine db rfl ?_)
    dsimp only
    rw [e1, e2, List.length_append, List.length_singleton, List.flatMap_append, List.flatMap_singleton]
    exact inferInstance
   have e1 := GT (p := p) hi1 hx c7
   have e2 := GR (p := n) hi1 hx (by rw [hnx]; simpa using c7)
   refine au 5 ?_
   refine ax (iM jf jz wG rfl (eW rfl rfl gZ) rfl (by decide) (by decide) (by decide)) fun bb => ?_
   rw [show ([cA x] : List (List Value)).flatten = cA x from List.append_nil _]
   refine aB rfl (eV (sz := 7) (by_ := 56) (info := Tryz.t323) jf (by kernel_rfl) rfl rfl rfl rfl (by decide) rfl rfl eC rfl (by first | exact GC x | rfl) (by simp only [maxLen]; omega) (by omega)) ?_
   rintro _ _ ⟨a3, c3, rfl, rfl⟩
   refine au 4 ?_
   refine iG ((a1, c1), a3, c3) ?_ ?_ ?_
   ·trivial
   ·rw [e1, e2, List.length_append]
    repeat (first | exact dy | refine db rfl ?_)
   dsimp only
   rw [e1, e2, List.length_append, List.length_singleton, List.flatMap_append, List.flatMap_singleton]
   exact inferInstance
  intro ⟨⟨a4, c4⟩, a5, c5⟩ _
  refine bQ (ap 3 (cM rfl rfl) ?_)
  exact bZ (i + 1, (a4, c4), a5, c5) (by omega)
 refine au 11 ?_
 refine aE 9 (bA uc rfl rfl rfl (Nat.le_of_ble_eq_true rfl) SetL.eq) ?_
 refine ae ?_
 obtain rfl : i = L.length := by omega
 rw [List.take_length]
 exact ⟨_, ⟨a1, c1, rfl, rfl⟩, Ent.trans (B := osl 314 2 (.slice a1 (L.filter p).length c1) ((L.filter p).flatMap rJ) :: pt b (ac [.slice a2 (L.filter n).length c2, .bool true] 394) :: osl 323 7 (.slice a2 (L.filter n).length c2) ((L.filter n).flatMap cA) :: kH 0 C :: R) inferInstance (Ent.cons (oR (b := b) rfl))⟩
theorem UF (a : Option Addr) (n c : Nat) : sP W0 433 [.slice a n c] R (fun v B => ∃ bs, v = .func (.func 444) #[] #[.pointer (some ⟨bs, 0, none⟩)] ∧ B = pt bs (ac [.slice a n c] 387) :: R) := by
 refine ai 2 func433 ntmps433 ?_
 refine ax (ik rfl rfl) fun b1 => ?_
 refine au 5 ?_
 refine ap 4 (dM rfl rfl) ?_
 refine ae ?_
 exact ⟨_, ⟨b1, rfl, rfl⟩, inferInstance⟩
theorem UG (W0 : World) (bs L c : Nat) (a : Option Addr) (its : List It) (hN : its.length < 1000) (C : Nat → List HP) (hr : ∀ i R, i < its.length → nj Tryz.prog W0 L [.agg (bH (its.getD i default)).toArray] (C i ++ R) (fun v B => v = .bool true ∧ B = C (i + 1) ++ R)) : sQ W0 444 [.func (.yield L) #[] #[], .pointer (some ⟨bs, 0, none⟩)] (pt bs (ac [.slice a its.length c] 387) :: osl 385 6 (.slice a its.length c) (its.flatMap bH) :: C 0) (.tuple #[]) (pt bs (ac [.slice a its.length c] 387) :: osl 385 6 (.slice a its.length c) (its.flatMap bH) :: C its.length) := by
 refine ai 8 func444 ntmps444 ?_
 refine cY (fun i : Nat => i ≤ its.length) (fun i => [(0, .func (.yield L) #[] #[]), (5, .slice a its.length c), (6, .int .i64 (its.length : Nat)), (7, .int .i64 i)]) (fun i => pt bs (ac [.slice a its.length c] 387) :: osl 385 6 (.slice a its.length c) (its.flatMap bH) :: C i) (fun i => its.length - i) 0 ?_ ?_
 ·exact Nat.zero_le _
 intro i hi
 refine au 6 ?_
 refine a8 rfl (fun c1 => ?_) fun c1 => ?_
 ·have hi1 : i < its.length := by omega
  refine lB (E := 385) (sz := 6) (a := a) (n := its.length) (c := c) bH its eQ (by decide) rfl (fun hs => ?_)
  obtain ⟨g, o, rfl, hc⟩ := hs.at_ hi1
  have hgi : its.getD i default = its[i] := by simp [List.getD, hi1]
  refine au 6 ?_
  refine a7 rfl (bc dD bM rfl rfl rfl hi1 (by first | exact Nat.zero_add _ | rfl)) ?_
  refine a7 rfl (b0 fp bM rfl hc rfl) ?_
  refine ax (aS lU) fun bx => ?_
  refine eI (aF bM rfl rfl rfl rfl rfl) ?_
  rintro _ _ rfl
  refine au 4 ?_
  refine a7 rfl (aH rfl) (a7 rfl (kS fp bM rfl rfl) ?_)
  refine Af rfl rfl rfl (Aj (List.perm_append_comm (l₁ := [_, _, _])) (hgi ▸ hr i [_, _, _] hi1)) ?_
  rintro _ B_ ⟨rfl, hB_⟩
  obtain rfl := hB_.symm
  refine mZ List.perm_append_comm ?_
  simp only [List.cons_append, List.nil_append]
  refine au 3 ?_
  refine a8 rfl (fun c3 => ?_) fun c3 => ?_
  ·exact absurd rfl c3
  refine au 4 ?_
  refine ap 3 (cM rfl rfl) ?_
  exact bZ (i + 1) (by omega)
 refine au 4 ?_
 refine bT (.inr rfl) .nil ?_
 obtain rfl : i = its.length := by omega
 exact ⟨_, ⟨rfl, rfl⟩, inferInstance⟩
theorem UH {W0 : World} {A : List HP} {e : aW} {n' L D bs c : Nat} {a : Option Addr} {ps : Array Tmp} {asg body : Code} {Go Stop : List HP → Prop} (its : List It) (hN : its.length < 1000) (C : Nat → List HP)
  (hp : A.Perm (pt bs (ac [.slice a its.length c] 387) :: osl 385 6 (.slice a its.length c) (its.flatMap bH) :: C 0))
  (hgo : Go (pt bs (ac [.slice a its.length c] 387) :: osl 385 6 (.slice a its.length c) (its.flatMap bH) :: C its.length))
  (hr : ∀ i R, i < its.length → nj Tryz.prog W0 L [.agg (bH (its.getD i default)).toArray] (df L ⟨e, n', ps, asg, body, .ready, none, D⟩ :: pt D (.deferred (some [])) :: (C i ++ R))
   (fun v B => v = .bool true ∧ B = df L ⟨e, n', ps, asg, body, .ready, none, D⟩ :: pt D (.deferred (some [])) :: (C (i + 1) ++ R))) :
  bN Tryz.prog W0 444 (.func (.yield L) #[] #[] :: [.pointer (some ⟨bs, 0, none⟩)]) (df L ⟨e, n', ps, asg, body, .ready, none, D⟩ :: pt D (.deferred (some [])) :: A)
   (fun _ B => (∃ C, B = df L ⟨e, n', ps, asg, body, .ready, none, D⟩ :: pt D (.deferred (some [])) :: C ∧ Go C) ∨ (∃ C, B = df L ⟨e, n', ps, asg, body, .done, some .ret, D⟩ :: pt D (.deferred (some [])) :: C ∧ Stop C)) := by
 have sw : ∀ (x y p q : HP) (Z : List HP), (x :: y :: p :: q :: Z).Perm (p :: q :: x :: y :: Z) := fun x y p q Z =>
  (((List.Perm.swap _ _ _).trans ((List.Perm.swap _ _ _).cons _)).cons _).trans ((List.Perm.swap _ _ _).trans ((List.Perm.swap _ _ _).cons _))
 refine kU (((hp.cons _).cons _).trans (sw _ _ _ _ _)) (hJ (UG W0 bs L c a its hN (fun i => df L ⟨e, n', ps, asg, body, .ready, none, D⟩ :: pt D (.deferred (some [])) :: C i) (fun i R hi => hr i R hi)) ?_)
 rintro v B ⟨_, rfl⟩
 exact ⟨_, .inl ⟨_, rfl, hgo⟩, Ent.ofPerm (sw _ _ _ _ _)⟩
def rK (b : Nat) (l : List It) : HP := chk (fun C => ∃ a c, C = [pt b (ac [.slice a l.length c] 387), osl 385 6 (.slice a l.length c) (l.flatMap bH)])
section
variable {W0 : World} {N : FSz} {K : Act → World → Prop} {e : aW} {A R R1 R2 : List HP} {b n c : Nat} {l : List It} {a : Option Addr} {ys : List Value}
theorem GV [hk : Tk rK b A l R] (h : ∀ a c, az W0 N K e (pt b (ac [.slice a l.length c] 387) :: osl 385 6 (.slice a l.length c) (l.flatMap bH) :: R)) : az W0 N K e A :=
 fK (r := rK) (b := b) (mt fun C hC => by obtain ⟨a, c, rfl⟩ := hC; exact h a c)
theorem UI (l : List It) [h1 : Tk pt b A (ac [.slice a n c] 387) R1] [h2 : Tk (osl 385 6) (.slice a n c) R1 ys R] (hn : n = l.length) (hy : ys = l.flatMap bH) (k : az W0 N K e (rK b l :: R)) : az W0 N K e A := by
 subst hn; subst hy
 exact gD ((Ent.ofPerm (h1.perm.trans (h2.perm.cons _))).trans (fC (R := R) (C := [_, _]) ⟨a, c, rfl⟩)) k
theorem UJ [h1 : Tk pt b A (ac [.slice none 0 0] 387) R] (k : az W0 N K e (rK b [] :: R)) : az W0 N K e A :=
 gD ((Ent.ofPerm h1.perm).trans ((Ent.cons (fR (E := 385) (sz := 6) (B := R))).trans (fC (R := R) (C := [pt b (ac [.slice none 0 0] 387), osl 385 6 (.slice none 0 0) []]) ⟨none, 0, rfl⟩))) k
end
theorem UK (bs c : Nat) (a : Option Addr) (its : List It) (hN : its.length < 900) : sP W0 448 [.slice none 0 0, .func (.func 444) #[] #[.pointer (some ⟨bs, 0, none⟩)]] (pt bs (ac [.slice a its.length c] 387) :: osl 385 6 (.slice a its.length c) (its.flatMap bH) :: R) (fun v B => ∃ a' c', v = .slice a' its.length c' ∧ B = osl 385 6 (.slice a' its.length c') (its.flatMap bH) :: osl 385 6 (.slice a its.length c) (its.flatMap bH) :: R) := by
 refine ai 2 func448 ntmps448 ?_
 refine ax (ik rfl rfl) fun b1 => ?_
 refine au 5 ?_
 refine UJ (b := b1) ?_
 refine au 5 ?_
 refine Ag (fun C => C = pt bs (ac [.slice a its.length c] 387) :: osl 385 6 (.slice a its.length c) (its.flatMap bH) :: rK b1 its :: R) (fun C => False) rfl call444 ?_ ?_ ?_
 ·intro L D
  refine UH its (by omega) (fun i => rK b1 (its.take i) :: R) (by rw [List.take_zero]; exact pF (r1 := pt) (b1 := bs) (r2 := osl 385 6) (b2 := .slice a its.length c) (r3 := rK) (b3 := b1)) (by rw [List.take_of_length_le (Nat.le_refl _)]) ?_
  intro i R' hi
  simp only [List.cons_append, List.nil_append]
  have htk : its.take (i + 1) = its.take i ++ [its.getD i default] := by rw [List.take_succ_eq_append_getElem hi]; simp [List.getD, hi]
  have htl : (its.take i).length = i := by rw [List.length_take]; omega
  refine xh rfl rfl ?_
  refine bQ ?_
  refine ax (aS lU) fun bd => ?_
  refine o9 (aF bM rfl rfl rfl rfl rfl) ?_
  refine bX (xf rfl ?_)
  refine jS ?_
  refine GV (b := b1) fun a2 c2 => ?_
  refine bQ (a7 rfl (aA ze rfl (aN rfl)) ?_)
  refine a7 rfl (kS fp bM rfl rfl) ?_
  refine aB rfl (iM dD bM lU rfl (eW rfl rfl gZ) rfl (by decide) (by decide) (by decide)) ?_
  rintro _ _ ⟨b3, rfl, rfl⟩
  refine aB rfl (eV (sz := 6) (by_ := 48) (info := Tryz.t385) dD (by kernel_rfl) rfl rfl rfl rfl (by decide) rfl rfl eC rfl rfl (by simp only [maxLen]; omega) (by omega)) ?_
  rintro _ _ ⟨a1, c1, rfl, rfl⟩
  refine aE 2 (bA wi rfl rfl rfl (Nat.le_of_ble_eq_true rfl) SetL.eq) ?_
  refine UI (b := b1) (its.take (i + 1)) (by rw [htk]; simp) (by rw [htk]; simp) ?_
  refine xg ?_
  exact ⟨_, ⟨rfl, rfl⟩, inferInstance⟩
 ·intro D C hC
  subst hC
  refine au 3 ?_
  refine GV (b := b1) fun a2 c2 => ?_
  refine bQ (a7 rfl (aA ze rfl (aN rfl)) ?_)
  refine a7 rfl (bR rfl) (au 3 ?_)
  refine sk (.inl rfl) (.cons (bK rfl) .nil) ?_
  exact ⟨_, ⟨a2, c2, rfl, rfl⟩, inferInstance⟩
 intro D C hC
 exact hC.elim
theorem UL (bs c : Nat) (a : Option Addr) (its : List It) (hN : its.length < 900) : sP W0 442 [.func (.func 444) #[] #[.pointer (some ⟨bs, 0, none⟩)]] (pt bs (ac [.slice a its.length c] 387) :: osl 385 6 (.slice a its.length c) (its.flatMap bH) :: R) (fun v B => ∃ a' c', v = .slice a' its.length c' ∧ B = osl 385 6 (.slice a' its.length c') (its.flatMap bH) :: osl 385 6 (.slice a its.length c) (its.flatMap bH) :: R) := by
 refine ai 8 func442 ntmps442 ?_
 refine aB rfl (cK call448 rfl (UK bs c a its hN)) ?_
 rintro _ B_ ⟨a2, c2, rfl, hB_⟩
 obtain rfl := hB_.symm
 refine au 4 ?_
 refine ae ?_
 exact ⟨_, ⟨a2, c2, rfl, rfl⟩, inferInstance⟩
theorem GW (x : Int) : sQ W0 445 [.int .i64 x] R (.bool false) R := by
 refine ai 14 func445 ntmps445 ?_
 refine ae ?_
 refine aR ?_
 simp [bz]
def mc (x y : Int) : Int := if x < y then -1 else if x > y then 1 else 0
theorem UM (x y : Int) : bN Tryz.prog W0 435 [.int .i64 x, .int .i64 y] R (fun v B => v = .int .i64 (mc x y) ∧ B = R) := by
 refine gY func435 ntmps435 rfl rfl ?_
 refine bD (bQ (a7 rfl (bR rfl) (bX (aY (bD (bQ (a7 rfl (aH rfl) (aB rfl (aD call445 rfl (GW x)) ?_))))))))
 rintro _ B_ ⟨rfl, hB_⟩
 obtain rfl := hB_.symm
 refine a7 rfl (bR rfl) (bX (aY (bD (bQ (a7 rfl (aH rfl) (aB rfl (aD call445 rfl (GW y)) ?_))))))
 rintro _ B_ ⟨rfl, hB_⟩
 obtain rfl := hB_.symm
 refine a7 rfl (bR rfl) (bX (aY (bD (bD (bQ (a7 rfl (aH rfl) (bX (aY ?_))))))))
 refine a8 rfl (fun c3 => ?_) fun c3 => ?_
 ·cases c3
 refine iF (aY (bD (bD (bQ (a7 rfl (aH rfl) (bX (aY ?_)))))))
 refine a8 rfl (fun c7 => ?_) fun c7 => ?_
 ·cases c7
 refine iF (aY (bD (bD (bQ (a7 rfl (aH rfl) (a7 rfl (aH rfl) (a7 rfl (kR rfl rfl) (bX (aY ?_)))))))))
 refine a8 rfl (fun c9 => ?_) fun c9 => ?_
 ·refine bD ?_
  refine bQ (a7 rfl (bR rfl) (bX (aY (gE (kO (bT (.inl rfl) (.cons (bK rfl) .nil) ?_))))))
  refine ⟨_, ⟨?_, rfl⟩, inferInstance⟩
  rw [mc, if_pos c9]; rfl
 refine iF (aY (bD (bD (bQ (a7 rfl (aH rfl) (a7 rfl (aH rfl) (a7 rfl (nZ rfl rfl) (bX (aY ?_)))))))))
 refine a8 rfl (fun c11 => ?_) fun c11 => ?_
 ·refine bD ?_
  refine bQ (a7 rfl (bR rfl) (bX (aY (gE (kO (bT (.inl rfl) (.cons (bK rfl) .nil) ?_))))))
  refine ⟨_, ⟨?_, rfl⟩, inferInstance⟩
  rw [mc, if_neg c9, if_pos (by omega)]; rfl
 refine iF (aY (bD (bQ (a7 rfl (bR rfl) (bX (aY (gE (bT (.inl rfl) (.cons (bK rfl) .nil) ?_))))))))
 refine ⟨_, ⟨?_, rfl⟩, inferInstance⟩
 rw [mc, if_neg c9, if_neg (by omega)]; rfl
theorem GX (x y : It) : sQ W0 434 [.agg (bH x).toArray, .agg (bH y).toArray] R (.int .i64 (mc x.u y.u)) R := by
 refine ai 2 func434 ntmps434 ?_
 refine ax (aV rfl) fun b1 => ?_
 refine ax (aV rfl) fun b2 => ?_
 refine a7 rfl (bR rfl) (au 4 ?_)
 refine a7 rfl (dp rfl pj rfl aj rfl (by first | exact Nat.zero_add _ | rfl)) ?_
 refine a7 rfl (aA aX rfl (aN rfl)) ?_
 refine a7 rfl (dp rfl pj rfl aj rfl (by first | exact Nat.zero_add _ | rfl)) ?_
 refine a7 rfl (aA aX rfl (aN rfl)) ?_
 refine aB rfl (aD call435 rfl (UM x.u y.u)) ?_
 rintro _ B_ ⟨rfl, hB_⟩
 obtain rfl := hB_.symm
 refine a7 rfl (bR rfl) (au 3 ?_)
 exact ae aL
def yA (l : List It) (j i : Nat) : Prop := ∀ p q, p < q → q ≤ i → q ≠ j → us l p ≤ us l q
theorem yB {l : List It} {j i : Nat} (h : yA l j i) (hj : 0 < j) (hji : j ≤ i) (hi : i < l.length) (hlt : us l j < us l (j - 1)) : yA (swapL l j (j - 1)) (j - 1) i := by
 have sw := j6 (l := l) (i := j) (j := j - 1) (by omega) (by omega)
 intro p q hpq hq hne
 rw [sw, sw]
 have hjj : ¬ j - 1 = j := by omega
 by_cases e1 : q = j
 ·subst e1
  rw [if_pos (rfl : q = q)]
  by_cases e2 : p = q - 1
  ·rw [if_neg (by omega), if_pos e2]; omega
  rw [if_neg (by omega), if_neg e2]; exact h p (q - 1) (by omega) (by omega) (by omega)
 rw [if_neg e1, if_neg hne]
 by_cases e2 : p = j
 ·rw [if_pos e2]; exact h (j - 1) q (by omega) hq e1
 rw [if_neg e2]
 by_cases e3 : p = j - 1
 ·rw [if_pos e3]; exact h j q (by omega) hq e1
 rw [if_neg e3]; exact h p q hpq hq e1
theorem BQ {l : List It} {j i : Nat} (h : yA l j i) (hd : j = 0 ∨ us l (j - 1) ≤ us l j) : ∀ p q, p < q → q ≤ i → us l p ≤ us l q := fun p q hpq hq => by
 by_cases e : q = j
 ·subst e
  rcases hd with h0 | h1
  ·omega
  by_cases e2 : p = q - 1
  ·subst e2; exact h1
  have := h p (q - 1) (by omega) (by omega) (by omega); omega
 exact h p q hpq hq e
theorem UN (g c : Nat) (its : List It) (sp : List Value) (hN : its.length < 900) (h0 : 0 < its.length) : sP W0 452 [.slice (some ⟨g, 0, none⟩) its.length c, .int .i64 0, .int .i64 (its.length : Nat), .func (.func 434) #[] #[]] (pt g (ac (its.flatMap bH ++ sp) 385) :: R) (fun v B => ∃ l : List It, v = .tuple #[] ∧ B = pt g (ac (l.flatMap bH ++ sp) 385) :: R ∧ l.Perm its ∧ ∀ p q, p < q → q < its.length → us l p ≤ us l q) := by
  refine ai 3 func452 ntmps452 ?_
  refine ap 4 (bO rfl rfl (aG (by omega))) ?_
  refine cY (fun X : List It × Nat => X.1.Perm its ∧ 0 < X.2 ∧ X.2 ≤ its.length ∧ ∀ p q, p < q → q < X.2 → us X.1 p ≤ us X.1 q) (fun X => [(0, .slice (some ⟨g, 0, none⟩) its.length c), (1, .int .i64 0), (2, .int .i64 (its.length : Nat)), (3, .func (.func 434) #[] #[]), (8, .int .i64 X.2)]) (fun X => pt g (ac (X.1.flatMap bH ++ sp) 385) :: R) (fun X => its.length - X.2) (its, 1) ?_ ?_
  · exact ⟨List.Perm.refl _, Nat.one_pos, h0, fun p q h1 h2 => by dsimp only at h2; omega⟩
  intro ⟨l, i⟩ ⟨hp, hi0, hi, hS⟩
  dsimp only at hp hi0 hi hS ⊢
  refine au 8 ?_
  refine a8 rfl (fun c1 => ?_) fun c1 => ?_
  · refine au 11 ?_
    refine cY (fun X : List It × Nat => X.1.Perm its ∧ X.2 ≤ i ∧ yA X.1 X.2 i) (fun X => [(0, .slice (some ⟨g, 0, none⟩) its.length c), (1, .int .i64 0), (2, .int .i64 (its.length : Nat)), (3, .func (.func 434) #[] #[]), (8, .int .i64 i), (9, .int .i64 X.2)]) (fun X => pt g (ac (X.1.flatMap bH ++ sp) 385) :: R) (fun X => X.2) (l, i) ?_ ?_
    · exact ⟨hp, Nat.le_refl _, fun p q h1 h2 h3 => hS p q h1 (by dsimp only at h3; omega)⟩
    intro ⟨l2, j⟩ ⟨hp2, hj, hS2⟩
    dsimp only at hp2 hj hS2 ⊢
    have hl2 := hp2.length_eq
    refine au 2 ?_
    refine aU [(g, 0, _)] 17 aT rfl (aa ag) (fun hS => ?_)
    refine ah 0 4 hS ?_
    refine ip (t := 21) rfl ?_ ?_
    · intro c4g
      have hj0 : 0 < j := by omega
      have hjl : j < l2.length := by omega
      have hjm : (j : Int) - 1 = ((j - 1 : Nat) : Int) := by omega
      refine ah 4 3 hS ?_
      refine av 7 rfl rfl rfl hS (bc dD bM rfl rfl rfl (by omega) (by first | exact Nat.zero_add _ | rfl)) ?_
      refine ah 9 2 hS ?_
      refine av 11 rfl rfl rfl hS (cZ rfl rfl (by rw [aG (by omega)]; omega : IntKind.wrap .i64 ((j : Int) - 1) = ((j - 1 : Nat) : Int))) ?_
      refine av 12 rfl rfl rfl hS (bc dD bM rfl rfl rfl (by omega) (by first | exact Nat.zero_add _ | rfl)) ?_
      refine eJ (is := [8, 13]) (by kernel_rfl) rfl ⟨?_, ?_, trivial⟩
      · skip
        refine cV rfl rfl (dC (b0 fp bM rfl (cC (iz l2 sp j hjl) rfl) rfl)) rfl ?_; clear hS
        rintro _ _ ⟨rfl, rfl⟩
        refine ⟨(aa ag), fun hS => ?_⟩
        refine bF 13 rfl rfl (dC (b0 fp bM rfl (cC (iz l2 sp (j - 1) (by omega)) rfl) rfl)) (aa ag) fun hS => ?_
        refine bF 14 rfl rfl (gF rfl call434 rfl (GX (l2.getD j default) (l2.getD (j - 1) default))) (aa ag) fun hS => ?_
        refine ah 15 2 hS ?_
        refine aK ?_
        refine aY ?_
        refine a8 rfl (fun c4 => ?_) fun c4 => ?_
        · refine au 4 ?_
          refine aU [] 18 aT rfl ag (fun hS => ?_)
          refine ah 0 4 hS ?_
          refine av 4 rfl rfl rfl hS (cZ rfl rfl (by rw [aG (by omega)]; omega : IntKind.wrap .i64 ((j : Int) - 1) = ((j - 1 : Nat) : Int))) ?_
          refine ah 5 2 hS ?_
          refine av 7 rfl rfl rfl hS (cZ rfl rfl (by rw [aG (by omega)]; omega : IntKind.wrap .i64 ((j : Int) - 1) = ((j - 1 : Nat) : Int))) ?_
          refine av 8 rfl rfl rfl hS (bc dD bM rfl rfl rfl (by omega) (by first | exact Nat.zero_add _ | rfl)) ?_
          refine ah 10 2 hS ?_
          refine av 12 rfl rfl rfl hS (bc dD bM rfl rfl rfl (by omega) (by first | exact Nat.zero_add _ | rfl)) ?_
          refine eJ (is := [9, 13]) (by kernel_rfl) rfl ⟨?_, ?_, trivial⟩
          · skip
            refine cV rfl rfl (dC (b0 fp bM rfl (cC (iz l2 sp (j - 1) (by omega)) rfl) rfl)) rfl ?_; clear hS
            rintro _ _ ⟨rfl, rfl⟩
            refine ⟨ag, fun hS => ?_⟩
            refine bF 13 rfl rfl (dC (b0 fp bM rfl (cC (iz l2 sp j hjl) rfl) rfl)) ag fun hS => ?_
            refine av 14 rfl rfl rfl hS (bc dD bM rfl rfl rfl (by omega) (by first | exact Nat.zero_add _ | rfl)) ?_
            refine bU 15 rfl rfl (ed bM rfl rfl rfl rfl (jJ l2 sp j hjl) (kJ l2 sp j (l2.getD (j - 1) default) hjl)) ag fun hS => ?_
            refine av 16 rfl rfl rfl hS (bc dD bM rfl rfl rfl (by omega) (by first | exact Nat.zero_add _ | rfl)) ?_
            refine bU 17 rfl rfl (ed bM rfl rfl rfl rfl (jJ (l2.set j (l2.getD (j - 1) default)) sp (j - 1) (by rw [List.length_set]; omega)) (kJ (l2.set j (l2.getD (j - 1) default)) sp (j - 1) (l2.getD j default) (by rw [List.length_set]; omega))) ag fun hS => ?_
            refine aK ?_
            refine au 4 ?_
            refine ap 3 (cZ rfl rfl (by rw [aG (by omega)]; omega : IntKind.wrap .i64 ((j : Int) - 1) = ((j - 1 : Nat) : Int))) ?_
            refine bZ (swapL l2 j (j - 1), j - 1) ?_ (hμ := ?_) (he := ?_)
            · have hlt : us l2 j < us l2 (j - 1) := by
                unfold us
                unfold mc at c4
                split at c4
                · assumption
                split at c4 <;> omega
              exact ⟨(iP hjl (by omega)).trans hp2, by show j - 1 ≤ i; omega, yB hS2 hj0 hj (by omega) hlt⟩
            · show j - 1 < j; omega
            show Ent _ (pt g (ac ((swapL l2 j (j - 1)).flatMap bH ++ sp) 385) :: R)
            unfold swapL
            exact inferInstance
          skip
          refine cV rfl rfl (dC (b0 fp bM rfl (cC (iz l2 sp j hjl) rfl) rfl)) rfl ?_; clear hS
          rintro _ _ ⟨rfl, rfl⟩
          refine ⟨ag, fun hS => ?_⟩
          refine bF 9 rfl rfl (dC (b0 fp bM rfl (cC (iz l2 sp (j - 1) (by omega)) rfl) rfl)) ag fun hS => ?_
          refine av 14 rfl rfl rfl hS (bc dD bM rfl rfl rfl (by omega) (by first | exact Nat.zero_add _ | rfl)) ?_
          refine bU 15 rfl rfl (ed bM rfl rfl rfl rfl (jJ l2 sp j hjl) (kJ l2 sp j (l2.getD (j - 1) default) hjl)) ag fun hS => ?_
          refine av 16 rfl rfl rfl hS (bc dD bM rfl rfl rfl (by omega) (by first | exact Nat.zero_add _ | rfl)) ?_
          refine bU 17 rfl rfl (ed bM rfl rfl rfl rfl (jJ (l2.set j (l2.getD (j - 1) default)) sp (j - 1) (by rw [List.length_set]; omega)) (kJ (l2.set j (l2.getD (j - 1) default)) sp (j - 1) (l2.getD j default) (by rw [List.length_set]; omega))) ag fun hS => ?_
          refine aK ?_
          refine au 4 ?_
          refine ap 3 (cZ rfl rfl (by rw [aG (by omega)]; omega : IntKind.wrap .i64 ((j : Int) - 1) = ((j - 1 : Nat) : Int))) ?_
          refine bZ (swapL l2 j (j - 1), j - 1) ?_ (hμ := ?_) (he := ?_)
          · have hlt : us l2 j < us l2 (j - 1) := by
              unfold us
              unfold mc at c4
              split at c4
              · assumption
              split at c4 <;> omega
            exact ⟨(iP hjl (by omega)).trans hp2, by show j - 1 ≤ i; omega, yB hS2 hj0 hj (by omega) hlt⟩
          · show j - 1 < j; omega
          show Ent _ (pt g (ac ((swapL l2 j (j - 1)).flatMap bH ++ sp) 385) :: R)
          unfold swapL
          exact inferInstance
        refine au 6 ?_
        have hS3 : ∀ p q, p < q → q ≤ i → us l2 p ≤ us l2 q := BQ hS2 (by
          first
            | (left; omega)
            | (right
               unfold us
               unfold mc at c4
               split at c4
               · omega
               omega))
        refine au 2 ?_
        refine ap 3 (bO rfl rfl (by rw [aG (by omega)]; omega : IntKind.wrap .i64 ((i : Int) + 1) = ((i + 1 : Nat) : Int))) ?_
        refine bZ (l2, i + 1) ?_ (hμ := ?_)
        · exact ⟨hp2, Nat.succ_pos _, by show i + 1 ≤ its.length; omega, fun p q h1 h2 => hS3 p q h1 (by dsimp only at h2; omega)⟩
        show its.length - (i + 1) < its.length - i; omega
      skip
      refine cV rfl rfl (dC (b0 fp bM rfl (cC (iz l2 sp (j - 1) (by omega)) rfl) rfl)) rfl ?_; clear hS
      rintro _ _ ⟨rfl, rfl⟩
      refine ⟨(aa ag), fun hS => ?_⟩
      refine bF 8 rfl rfl (dC (b0 fp bM rfl (cC (iz l2 sp j hjl) rfl) rfl)) (aa ag) fun hS => ?_
      refine bF 14 rfl rfl (gF rfl call434 rfl (GX (l2.getD j default) (l2.getD (j - 1) default))) (aa ag) fun hS => ?_
      refine ah 15 2 hS ?_
      refine aK ?_
      refine aY ?_
      refine a8 rfl (fun c4 => ?_) fun c4 => ?_
      · refine au 4 ?_
        refine aU [] 18 aT rfl ag (fun hS => ?_)
        refine ah 0 4 hS ?_
        refine av 4 rfl rfl rfl hS (cZ rfl rfl (by rw [aG (by omega)]; omega : IntKind.wrap .i64 ((j : Int) - 1) = ((j - 1 : Nat) : Int))) ?_
        refine ah 5 2 hS ?_
        refine av 7 rfl rfl rfl hS (cZ rfl rfl (by rw [aG (by omega)]; omega : IntKind.wrap .i64 ((j : Int) - 1) = ((j - 1 : Nat) : Int))) ?_
        refine av 8 rfl rfl rfl hS (bc dD bM rfl rfl rfl (by omega) (by first | exact Nat.zero_add _ | rfl)) ?_
        refine ah 10 2 hS ?_
        refine av 12 rfl rfl rfl hS (bc dD bM rfl rfl rfl (by omega) (by first | exact Nat.zero_add _ | rfl)) ?_
        refine eJ (is := [9, 13]) (by kernel_rfl) rfl ⟨?_, ?_, trivial⟩
        · skip
          refine cV rfl rfl (dC (b0 fp bM rfl (cC (iz l2 sp (j - 1) (by omega)) rfl) rfl)) rfl ?_; clear hS
          rintro _ _ ⟨rfl, rfl⟩
          refine ⟨ag, fun hS => ?_⟩
          refine bF 13 rfl rfl (dC (b0 fp bM rfl (cC (iz l2 sp j hjl) rfl) rfl)) ag fun hS => ?_
          refine av 14 rfl rfl rfl hS (bc dD bM rfl rfl rfl (by omega) (by first | exact Nat.zero_add _ | rfl)) ?_
          refine bU 15 rfl rfl (ed bM rfl rfl rfl rfl (jJ l2 sp j hjl) (kJ l2 sp j (l2.getD (j - 1) default) hjl)) ag fun hS => ?_
          refine av 16 rfl rfl rfl hS (bc dD bM rfl rfl rfl (by omega) (by first | exact Nat.zero_add _ | rfl)) ?_
          refine bU 17 rfl rfl (ed bM rfl rfl rfl rfl (jJ (l2.set j (l2.getD (j - 1) default)) sp (j - 1) (by rw [List.length_set]; omega)) (kJ (l2.set j (l2.getD (j - 1) default)) sp (j - 1) (l2.getD j default) (by rw [List.length_set]; omega))) ag fun hS => ?_
          refine aK ?_
          refine au 4 ?_
          refine ap 3 (cZ rfl rfl (by rw [aG (by omega)]; omega : IntKind.wrap .i64 ((j : Int) - 1) = ((j - 1 : Nat) : Int))) ?_
          refine bZ (swapL l2 j (j - 1), j - 1) ?_ (hμ := ?_) (he := ?_)
          · have hlt : us l2 j < us l2 (j - 1) := by
              unfold us
              unfold mc at c4
              split at c4
              · assumption
              split at c4 <;> omega
            exact ⟨(iP hjl (by omega)).trans hp2, by show j - 1 ≤ i; omega, yB hS2 hj0 hj (by omega) hlt⟩
          · show j - 1 < j; omega
          show Ent _ (pt g (ac ((swapL l2 j (j - 1)).flatMap bH ++ sp) 385) :: R)
          unfold swapL
          exact inferInstance
        skip
        refine cV rfl rfl (dC (b0 fp bM rfl (cC (iz l2 sp j hjl) rfl) rfl)) rfl ?_; clear hS
        rintro _ _ ⟨rfl, rfl⟩
        refine ⟨ag, fun hS => ?_⟩
        refine bF 9 rfl rfl (dC (b0 fp bM rfl (cC (iz l2 sp (j - 1) (by omega)) rfl) rfl)) ag fun hS => ?_
        refine av 14 rfl rfl rfl hS (bc dD bM rfl rfl rfl (by omega) (by first | exact Nat.zero_add _ | rfl)) ?_
        refine bU 15 rfl rfl (ed bM rfl rfl rfl rfl (jJ l2 sp j hjl) (kJ l2 sp j (l2.getD (j - 1) default) hjl)) ag fun hS => ?_
        refine av 16 rfl rfl rfl hS (bc dD bM rfl rfl rfl (by omega) (by first | exact Nat.zero_add _ | rfl)) ?_
        refine bU 17 rfl rfl (ed bM rfl rfl rfl rfl (jJ (l2.set j (l2.getD (j - 1) default)) sp (j - 1) (by rw [List.length_set]; omega)) (kJ (l2.set j (l2.getD (j - 1) default)) sp (j - 1) (l2.getD j default) (by rw [List.length_set]; omega))) ag fun hS => ?_
        refine aK ?_
        refine au 4 ?_
        refine ap 3 (cZ rfl rfl (by rw [aG (by omega)]; omega : IntKind.wrap .i64 ((j : Int) - 1) = ((j - 1 : Nat) : Int))) ?_
        refine bZ (swapL l2 j (j - 1), j - 1) ?_ (hμ := ?_) (he := ?_)
        · have hlt : us l2 j < us l2 (j - 1) := by
            unfold us
            unfold mc at c4
            split at c4
            · assumption
            split at c4 <;> omega
          exact ⟨(iP hjl (by omega)).trans hp2, by show j - 1 ≤ i; omega, yB hS2 hj0 hj (by omega) hlt⟩
        · show j - 1 < j; omega
        show Ent _ (pt g (ac ((swapL l2 j (j - 1)).flatMap bH ++ sp) 385) :: R)
        unfold swapL
        exact inferInstance
      refine au 6 ?_
      have hS3 : ∀ p q, p < q → q ≤ i → us l2 p ≤ us l2 q := BQ hS2 (by
        first
          | (left; omega)
          | (right
             unfold us
             unfold mc at c4
             split at c4
             · omega
             omega))
      refine au 2 ?_
      refine ap 3 (bO rfl rfl (by rw [aG (by omega)]; omega : IntKind.wrap .i64 ((i : Int) + 1) = ((i + 1 : Nat) : Int))) ?_
      refine bZ (l2, i + 1) ?_ (hμ := ?_)
      · exact ⟨hp2, Nat.succ_pos _, by show i + 1 ≤ its.length; omega, fun p q h1 h2 => hS3 p q h1 (by dsimp only at h2; omega)⟩
      show its.length - (i + 1) < its.length - i; omega
    intro c4g
    refine ah 4 13 hS ?_
    refine aK ?_
    refine au 8 ?_
    have hS3 : ∀ p q, p < q → q ≤ i → us l2 p ≤ us l2 q := BQ hS2 (by
      first
        | (left; omega)
        | (right
           unfold us
           unfold mc at c4
           split at c4
           · omega
           omega))
    refine au 2 ?_
    refine ap 3 (bO rfl rfl (by rw [aG (by omega)]; omega : IntKind.wrap .i64 ((i : Int) + 1) = ((i + 1 : Nat) : Int))) ?_
    refine bZ (l2, i + 1) ?_ (hμ := ?_)
    · exact ⟨hp2, Nat.succ_pos _, by show i + 1 ≤ its.length; omega, fun p q h1 h2 => hS3 p q h1 (by dsimp only at h2; omega)⟩
    show its.length - (i + 1) < its.length - i; omega
  refine au 4 ?_
  refine bT (.inr rfl) .nil ?_
  obtain rfl : i = its.length := by omega
  exact ⟨_, ⟨l, rfl, rfl, hp, hS⟩, inferInstance⟩
theorem UO (x : Nat) (hx : x < 60000) : sP W0 461 [.int .u64 x] R (fun v B => ∃ r : Nat, v = .int .i64 r ∧ B = R) := by
 refine ai 12 func461 ntmps461 ?_
 refine a8 rfl (fun c1 => ?_) fun c1 => ?_
 ·omega
 refine au 9 ?_
 refine a8 rfl (fun c4 => ?_) fun c4 => ?_
 ·omega
 refine au 2 ?_
 refine dU (fun z : Nat × Nat => z.1 < 256 ∧ z.2 ≤ 8) (fun z => [(0, .int .u64 z.1), (2, .int .i64 z.2)]) (fun _ => R) ?_ ?_
 ·skip
  refine au 6 ?_
  refine a8 rfl (fun c7 => ?_) fun c7 => ?_
  ·refine au 3 ?_
   refine ap 5 (jC rfl rfl (by decide) (lE (s := 8) (by decide))) ?_
   refine ap 3 (cM rfl rfl) ?_
   exact cj (x / 2 ^ 8, 8) (⟨by show x / 256 < 256; omega, Nat.le_refl _⟩)
  refine au 2 ?_
  exact cj (x, 0) (⟨by show x < 256; omega, Nat.zero_le _⟩)
 intro ⟨y, n⟩ ⟨hy, hn⟩
 dsimp only at hy hn ⊢
 refine au 4 ?_
 refine a7 rfl (cX underlying534 rY rfl (DN (by omega))) ?_
 refine QH (j := y) rfl underlying9 rfl rfl rfl (by show y < 256; exact hy) fun m hm => ?_
 refine a7 rfl (cX rY cW rfl (aG (by omega))) ?_
 refine ap 4 (bO rfl rfl (by rw [aG (by omega)]; omega : IntKind.wrap .i64 ((n : Int) + (m : Int)) = ((n + m : Nat) : Int))) ?_
 refine ae ?_
 exact ⟨_, ⟨n + m, rfl, rfl⟩, inferInstance⟩
theorem BR (x : Nat) (hx : x < 60000) : sP W0 450 [.int .u64 x] R (fun v B => ∃ r : Nat, v = .int .i64 r ∧ B = R) := by
 refine ai 6 func450 ntmps450 ?_
 refine QF ?_
 refine au 5 ?_
 refine aB rfl (aD call461 rfl (UO x hx)) ?_
 rintro _ B_ ⟨r, rfl, hB_⟩
 obtain rfl := hB_.symm
 refine au 4 ?_
 refine ae ?_
 exact ⟨_, ⟨r, rfl, rfl⟩, inferInstance⟩
theorem UP (g c : Nat) (its : List It) (sp : List Value) (k : Int) (hN : its.length ≤ 12) (h0 : 0 < its.length) : sP W0 449 [.slice (some ⟨g, 0, none⟩) its.length c, .int .i64 0, .int .i64 (its.length : Nat), .int .i64 k, .func (.func 434) #[] #[]] (pt g (ac (its.flatMap bH ++ sp) 385) :: R) (fun v B => ∃ l : List It, v = .tuple #[] ∧ B = pt g (ac (l.flatMap bH ++ sp) 385) :: R ∧ l.Perm its ∧ ∀ p q, p < q → q < its.length → us l p ≤ us l q) := by
 refine ai 11 func449 ntmps449 ?_
 refine cY (fun _ : Unit => True) (fun _ => [(0, .slice (some ⟨g, 0, none⟩) its.length c), (1, .int .i64 0), (2, .int .i64 (its.length : Nat)), (3, .int .i64 k), (4, .func (.func 434) #[] #[])]) (fun _ => pt g (ac (its.flatMap bH ++ sp) 385) :: R) (fun _ => 0) () ?_ ?_
 ·trivial
 intro u hu
 refine au 5 ?_
 refine ap 10 (cZ rfl rfl (by rw [aG (by omega)]; omega : IntKind.wrap .i64 ((its.length : Int) - 0) = ((its.length : Nat) : Int))) ?_
 refine a8 rfl (fun c3 => ?_) fun c3 => ?_
 ·refine au 6 ?_
  refine aB rfl (ao call452 rfl (UN g c its sp (by omega) h0)) ?_
  rintro _ B_ ⟨l, rfl, hB_, hp, hS⟩
  obtain rfl := hB_.symm
  refine au 7 ?_
  refine bT (.inl rfl) .nil ?_
  exact ⟨_, ⟨l, rfl, rfl, hp, hS⟩, inferInstance⟩
 omega
theorem GY (a : Option Addr) (c : Nat) (k : Int) : sQ W0 449 [.slice a 0 c, .int .i64 0, .int .i64 0, .int .i64 k, .func (.func 434) #[] #[]] R (.tuple #[]) R := by
 have hi : bN Tryz.prog W0 452 [.slice a 0 c, .int .i64 0, .int .i64 0, .func (.func 434) #[] #[]] R (fun v B => v = .tuple #[] ∧ B = R) := by
  refine ai 3 func452 ntmps452 ?_
  refine ap 4 (bO rfl rfl (aG (by omega))) ?_
  refine cY (fun _ : Unit => True) (fun _ => [(2, .int .i64 0), (8, .int .i64 1)]) (fun _ => R) (fun _ => 0) () ?_ ?_
  ·trivial
  intro u hu
  refine au 8 ?_
  refine a8 rfl (fun c1 => ?_) fun c1 => ?_
  ·omega
  refine au 4 ?_
  refine bT (.inr rfl) .nil ?_
  exact ⟨_, ⟨rfl, rfl⟩, inferInstance⟩
 refine ai 11 func449 ntmps449 ?_
 refine cY (fun _ : Unit => True) (fun _ => [(0, .slice a 0 c), (1, .int .i64 0), (2, .int .i64 0), (3, .int .i64 k), (4, .func (.func 434) #[] #[])]) (fun _ => R) (fun _ => 0) () ?_ ?_
 ·trivial
 intro u hu
 refine au 5 ?_
 refine ap 10 (cZ rfl rfl (aG (by omega))) ?_
 refine a8 rfl (fun c3 => ?_) fun c3 => ?_
 ·refine au 6 ?_
  refine ar 7 (aD call452 rfl (hi)) ?_
  refine bT (.inl rfl) .nil ?_
  exact ⟨_, ⟨rfl, rfl⟩, inferInstance⟩
 omega
theorem UQ (a : Option Addr) (c : Nat) (its : List It) (hN : its.length ≤ 12) : sP W0 443 [.slice a its.length c, .func (.func 434) #[] #[]] (osl 385 6 (.slice a its.length c) (its.flatMap bH) :: R) (fun v B => ∃ l : List It, v = .tuple #[] ∧ B = osl 385 6 (.slice a its.length c) (l.flatMap bH) :: R ∧ l.Perm its ∧ ∀ p q, p < q → q < its.length → us l p ≤ us l q) := by
 refine uG (fun h1 h2 => ?_) fun g n cap sp h1 h2 h3 h4 h5 => ?_
 ·have h0 : its.length = 0 := by have := cz eQ its; rw [h2] at this; simp at this; omega
  obtain rfl : its = [] := List.eq_nil_of_length_eq_zero h0
  cases h1
  refine ai 11 K0 ntmps443 ?_
  refine a7 rfl (cX cW K9 rfl (show IntKind.wrap .u64 ((0 : Nat) : Int) = ((0 : Nat) : Int) from rfl)) ?_
  refine aB rfl (aD Ka rfl (BR 0 (by decide))) ?_
  rintro _ B_ ⟨r, rfl, hB_⟩
  obtain rfl := hB_.symm
  refine a7 rfl (aH rfl) (aM (aD Kb rfl (GY none 0 r)) ?_)
  refine bX (bT (.inr rfl) .nil ?_)
  exact ⟨_, ⟨[], rfl, rfl, List.Perm.refl _, fun p q _ hq => by simp at hq⟩, fR⟩
 cases h1
 by_cases hz : its.length = 0
 ·obtain rfl : its = [] := List.eq_nil_of_length_eq_zero hz
  refine ai 11 K0 ntmps443 ?_
  refine a7 rfl (cX cW K9 rfl (show IntKind.wrap .u64 ((0 : Nat) : Int) = ((0 : Nat) : Int) from rfl)) ?_
  refine aB rfl (aD Ka rfl (BR 0 (by decide))) ?_
  rintro _ B_ ⟨r, rfl, hB_⟩
  obtain rfl := hB_.symm
  refine a7 rfl (aH rfl) (aM (aD Kb rfl (GY _ c r)) ?_)
  refine bX (bT (.inr rfl) .nil ?_)
  exact ⟨_, ⟨[], rfl, rfl, List.Perm.refl _, fun p q _ hq => by simp at hq⟩, eB h2 h3 h4 h5⟩
 skip
 refine ai 11 K0 ntmps443 ?_
 refine a7 rfl (cX cW K9 rfl (show IntKind.wrap .u64 ((its.length : Nat) : Int) = ((its.length : Nat) : Int) from by simp only [IntKind.wrap, IntKind.bits, IntKind.signed]; simp; omega)) ?_
 refine aB rfl (aD Ka rfl (BR its.length (by omega))) ?_
 rintro _ B_ ⟨r, rfl, hB_⟩
 obtain rfl := hB_.symm
 refine a7 rfl (aH rfl) ?_
 refine aB rfl (ao Kb rfl (UP g c its sp r hN (by omega))) ?_
 rintro _ B_ ⟨l, rfl, hB_, hp, hS⟩
 obtain rfl := hB_.symm
 have hll := hp.length_eq
 refine bX (bT (.inr rfl) .nil ?_)
 exact ⟨_, ⟨l, rfl, rfl, hp, hS⟩, eB h2 h3 (by rw [cz eQ, hll]) (by rw [← h5]; simp only [List.length_append, cz eQ, hll])⟩
theorem UR (bs c : Nat) (a : Option Addr) (its : List It) (hN : its.length ≤ 12) : sP W0 432 [.func (.func 444) #[] #[.pointer (some ⟨bs, 0, none⟩)], .func (.func 434) #[] #[]] (pt bs (ac [.slice a its.length c] 387) :: osl 385 6 (.slice a its.length c) (its.flatMap bH) :: R) (fun v B => ∃ (l : List It) (a' : Option Addr) (c' : Nat), v = .slice a' l.length c' ∧ B = osl 385 6 (.slice a' l.length c') (l.flatMap bH) :: osl 385 6 (.slice a its.length c) (its.flatMap bH) :: R ∧ l.Perm its ∧ ∀ p q, p < q → q < its.length → us l p ≤ us l q) := by
 refine ai 8 func432 ntmps432 ?_
 refine aB rfl (cK call442 rfl (UL bs c a its (by omega))) ?_
 rintro _ B_ ⟨a2, c2, rfl, hB_⟩
 obtain rfl := hB_.symm
 refine au 7 ?_
 refine aB rfl (ao call443 rfl (UQ a2 c2 its hN)) ?_
 rintro _ B_ ⟨l, rfl, hB_, hp, hS⟩
 obtain rfl := hB_.symm
 have hll := hp.length_eq
 refine au 9 ?_
 refine ae ?_
 rw [← hll] at hS ⊢
 exact ⟨_, ⟨l, a2, c2, rfl, rfl, hp, hS⟩, inferInstance⟩
theorem GZ : ∀ {l L : List It}, l.Perm L → (∀ p q, p < q → q < l.length → us l p ≤ us l q) → L.Pairwise (fun x y => x.u < y.u) → l = L
 | [], L, hp, _, _ => hp.nil_eq
 | x :: l, [], hp, _, _ => by have := hp.length_eq; simp at this
 | x :: l, y :: L, hp, hs, hw => by
  have h1 : ∀ z ∈ l, x.u ≤ z.u := fun z hz => by
   obtain ⟨i, hi, rfl⟩ := List.mem_iff_getElem.1 hz
   have := hs 0 (i + 1) (by omega) (by simp; omega)
   simpa [us, hi] using this
  obtain ⟨hw1, hw2⟩ := List.pairwise_cons.1 hw
  have hx : x ∈ y :: L := hp.subset (List.mem_cons_self ..)
  have hy : y ∈ x :: l := hp.symm.subset (List.mem_cons_self ..)
  have e : x = y := by
   rcases List.mem_cons.1 hx with h | h
   ·exact h
   rcases List.mem_cons.1 hy with h' | h'
   ·exact h'.symm
   have := hw1 x h; have := h1 y h'; omega
  subst e
  rw [GZ (hp.cons_inv) (fun p q hpq hq => by
   have := hs (p + 1) (q + 1) (by omega) (by simp; omega)
   simpa [us] using this) hw2]
def rL (x : It) : List Value := [.int .i64 x.kr, .int .i64 x.kp, .int .i64 x.ep, .int .i64 x.ef, .int .i64 x.er]
theorem US (x : It) : (rL x).length = 5 := rfl
theorem UT (b : Nat) (its : List It) (rm nw : Value) (now : Nat) (L : List It) (hR : Rep its now L) (hN : L.length ≤ 12) : sP W0 407 [.pointer (some ⟨b, 0, none⟩)] (aQ b (its, [rm, nw, .bool true]) :: R) (fun v B => ∃ a c, v = .slice a L.length c ∧ B = osl 321 5 (.slice a L.length c) (L.flatMap rL) :: aQ b (its, [rm, nw, .bool true]) :: R) := by
 have hlen := hR.length
 refine ai 9 func407 ntmps407 ?_
 refine ar 2 (ao wF rfl (tE b its rm nw)) ?_
 refine a8 rfl (fun c1 => ?_) fun c1 => ?_
 ·exact absurd c1 (by decide)
 refine au 3 ?_
 refine yf (b := b) fun a0 c0 => ?_
 refine au 6 ?_
 refine aB rfl (aD call433 rfl (UF a0 its.length c0)) ?_
 rintro _ B_ ⟨bs, rfl, hB_⟩
 obtain rfl := hB_.symm
 refine aB rfl (cK call432 rfl (UR bs c0 a0 its (by omega))) ?_
 rintro _ B_ ⟨l, a1, c1, rfl, hB_, hp, hS⟩
 obtain rfl := hB_.symm
 have hll := hp.length_eq
 obtain rfl : l = L := GZ (hp.trans hR.perm) (fun p q h1 h2 => hS p q h1 (by omega)) hR.sort
 refine gD (B := aQ b (its, [rm, nw, .bool true]) :: osl 385 6 (.slice a1 l.length c1) (l.flatMap bH) :: R) (oN rfl) ?_
 refine au 17 ?_
 refine ge (fun X : Nat × Option Addr × Nat => X.1 ≤ l.length) (fun X => [(4, .slice X.2.1 X.1 X.2.2), (16, .slice a1 l.length c1), (17, .int .i64 (l.length : Nat)), (18, .int .i64 X.1)]) (fun X => osl 321 5 (.slice X.2.1 X.1 X.2.2) ((l.take X.1).flatMap rL) :: aQ b (its, [rm, nw, .bool true]) :: osl 385 6 (.slice a1 l.length c1) (l.flatMap bH) :: R) (fun X => l.length - X.1) (0, none, 0) ?_ ?_ ?_ ?_
 ·exact Nat.zero_le _
 ·repeat (first | exact dy | refine db rfl ?_)
 ·exact fR
 intro ⟨i, a2, c2⟩ hi
 dsimp only at hi ⊢
 refine au 6 ?_
 refine a8 rfl (fun c6 => ?_) fun c6 => ?_
 ·have hi1 : i < l.length := by omega
  refine lB (E := 385) (sz := 6) (a := a1) (n := l.length) (c := c1) bH l eQ (by decide) rfl (fun hs => ?_)
  obtain ⟨g, o, rfl, hc⟩ := hs.at_ hi1
  have htk : l.take (i + 1) = l.take i ++ [l[i]] := List.take_succ_eq_append_getElem hi1
  refine au 6 ?_
  refine a7 rfl (bc dD bM rfl rfl rfl hi1 (by first | exact Nat.zero_add _ | rfl)) ?_
  refine a7 rfl (b0 fp bM rfl hc rfl) ?_
  refine ax (aS lU) fun bx => ?_
  refine aE 2 (aF bM rfl rfl rfl rfl rfl) ?_
  refine lz (b := bx) (o' := ac [.int .i64 l[i].kr, .int .i64 l[i].kp, .int .i64 l[i].ep, .int .i64 l[i].ef, .int .i64 l[i].er, .int .i64 l[i].u] 385) rfl ?_
  refine au 3 ?_
  refine a7 rfl (qF isAgg321 mT rfl TakeL.eq rfl) ?_
  refine ax (iM CK mT Db rfl (eW rfl rfl gZ) rfl (by decide) (by decide) (by decide)) fun b2 => ?_
  refine aB rfl (eV (sz := 5) (by_ := 40) (info := Tryz.t321) CK (by kernel_rfl) rfl rfl rfl rfl (by decide) rfl rfl eC rfl rfl (by simp only [maxLen]; omega) (by omega)) ?_
  rintro _ _ ⟨a3, c3, rfl, rfl⟩
  refine au 5 ?_
  refine ap 3 (cM rfl rfl) ?_
  refine bZ (i + 1, a3, c3) ?_ (he := ?_)
  ·omega
  dsimp only
  rw [htk, List.flatMap_append]
  show Ent _ (osl 321 5 (.slice a3 (i + 1) c3) ((l.take i).flatMap rL ++ [[.int .i64 l[i].kr, .int .i64 l[i].kp, .int .i64 l[i].ep, .int .i64 l[i].ef, .int .i64 l[i].er]].flatten) :: _)
  exact inferInstance
 refine au 12 ?_
 refine ae ?_
 obtain rfl : i = l.length := by omega
 rw [List.take_of_length_le (Nat.le_refl _)]
 exact ⟨_, ⟨a2, c2, rfl, rfl⟩, inferInstance⟩
theorem UU (b : Nat) (L : List Ln) (hl : L.length ≤ 1000) (page : Int) : sP W0 191 [.pointer (some ⟨b, 0, none⟩), .int .i64 page] (bL b L :: R) (fun v B => ∃ a c, v = .slice a (L.filter fun x => x.thr page).length c ∧ B = osl 314 2 (.slice a (L.filter fun x => x.thr page).length c) ((L.filter fun x => x.thr page).flatMap rJ) :: bL b (L.filter fun x => !x.thr page) :: R) := by
 refine ai 2 func191 ntmps191 ?_
 refine ax (ik rfl rfl) fun bp => ?_
 refine au 7 ?_
 refine ar 2 (ao um rfl (tM b L)) ?_
 refine a8 rfl (fun c1 => ?_) fun c1 => ?_
 ·exact absurd c1 (by decide)
 refine au 5 ?_
 refine a7 rfl (dM rfl rfl) ?_
 refine aB rfl (od (B := bL b L :: kH 0 (cn [pt bp (ac [.int .i64 page] 3)]) :: R) inferInstance (aD Df rfl (yz b L hl 275 [.pointer (some ⟨bp, 0, none⟩)] _ _ (UC W0 bp page)))) ?_
 rintro _ B_ ⟨a, c, rfl, hB_⟩
 obtain rfl := hB_.symm
 refine au 4 ?_
 refine ae ?_
 exact ⟨_, ⟨a, c, rfl, rfl⟩, inferInstance⟩
theorem UV (b : Nat) (L : List Ln) (hl : L.length ≤ 1000) (page : Int) : sP W0 119 [.pointer (some ⟨b, 0, none⟩), .int .i64 page] (bL b L :: R) (fun v B => ∃ a c, v = .slice a (L.filter (kK page)).length c ∧ B = osl 314 2 (.slice a (L.filter (kK page)).length c) ((L.filter (kK page)).flatMap rJ) :: bL b (L.filter fun x => !kK page x) :: R) := by
 refine ai 2 func119 ntmps119 ?_
 refine ax (ik rfl rfl) fun bp => ?_
 refine au 7 ?_
 refine ar 2 (ao um rfl (tM b L)) ?_
 refine a8 rfl (fun c1 => ?_) fun c1 => ?_
 ·exact absurd c1 (by decide)
 refine au 5 ?_
 refine a7 rfl (dM rfl rfl) ?_
 refine aB rfl (od (B := bL b L :: kH 0 (cn [pt bp (ac [.int .i64 page] 3)]) :: R) inferInstance (aD Df rfl (yz b L hl 195 [.pointer (some ⟨bp, 0, none⟩)] _ _ (UD W0 bp page)))) ?_
 rintro _ B_ ⟨a, c, rfl, hB_⟩
 obtain rfl := hB_.symm
 refine au 4 ?_
 refine ae ?_
 exact ⟨_, ⟨a, c, rfl, rfl⟩, inferInstance⟩
theorem UW (b : Nat) (L : List Ln) (hl : L.length ≤ 1000) : sQ W0 358 [.pointer (some ⟨b, 0, none⟩)] (bL b L :: R) (.int .i64 (L.length : Nat)) (bL b [] :: R) := by
 have e1 : L.filter (fun _ => true) = L := List.filter_eq_self.2 fun _ _ => rfl
 have e2 : L.filter (fun x => !(fun _ => true) x) = [] := by simp
 refine ai 9 func358 ntmps358 ?_
 refine ar 2 (ao um rfl (tM b L)) ?_
 refine a8 rfl (fun c1 => ?_) fun c1 => ?_
 ·exact absurd c1 (by decide)
 refine au 5 ?_
 refine aB rfl (od (B := bL b L :: kH 0 (cn []) :: R) inferInstance (aD Df rfl (yz b L hl 394 [] _ _ (UE W0)))) ?_
 rintro _ B_ ⟨a, c, rfl, hB_⟩
 obtain rfl := hB_.symm
 rw [e1, e2]
 refine au 5 ?_
 exact ae aL
def vH (k : cT) (L : List Ln) : Value := match ja k L with
  | none => .tuple #[.agg (mb (0, 0, 0)).toArray, .bool false]
  | some x => .tuple #[.agg (mb x.e).toArray, .bool true]
theorem UX {k : cT} {L : List Ln} (h : ∀ j (hj : j < L.length), L[j].k ≠ k) : ja k L = none := List.find?_eq_none.2 fun x hx => by
 obtain ⟨j, hj, rfl⟩ := List.getElem_of_mem hx
 simpa using h j hj
theorem UY {k : cT} {L : List Ln} {i : Nat} (hi : i < L.length) (h : L[i].k = k) (hj : ∀ j (hj : j < L.length), j < i → L[j].k ≠ k) : ja k L = some L[i] := by
 rw [ja, List.find?_eq_some_iff_getElem]
 exact ⟨by simpa using h, i, hi, rfl, fun j h2 => by simpa using hj j (by omega) h2⟩
theorem qg (b : Nat) (L : List Ln) (hl : L.length ≤ 1000) (k : cT) : sQ W0 337 [.pointer (some ⟨b, 0, none⟩), .agg (fH k).toArray] (bL b L :: R) (vH k L) (bL b L :: R) := by
 refine ai 2 func337 ntmps337 ?_
 refine ax (aV rfl) fun b3 => ?_
 refine ax (aS ji) fun b4 => ?_
 refine au 7 ?_
 refine ar 2 (ao um rfl (tM b L)) ?_
 refine a8 rfl (fun c1 => ?_) fun c1 => ?_
 ·exact absurd c1 (by decide)
 refine au 4 ?_
 refine vF (b := b) fun a c => ?_
 refine au 10 ?_
 refine cY (fun i : Nat => i ≤ L.length ∧ ∀ j (hj : j < L.length), j < i → L[j].k ≠ k) (fun i => [(3, .pointer (some ⟨b3, 0, none⟩)), (4, .pointer (some ⟨b4, 0, none⟩)), (14, .slice a L.length c), (15, .int .i64 (L.length : Nat)), (16, .int .i64 i)]) (fun _ => pt b (ac [.slice a L.length c, .bool true] 394) :: osl 323 7 (.slice a L.length c) (L.flatMap cA) :: pt b3 (ac (fH k) 314) :: pt b4 (ac (mb (0, 0, 0)) 319) :: R) (fun i => L.length - i) 0 ?_ ?_
 ·exact ⟨Nat.zero_le _, fun j hj h0 => absurd h0 (Nat.not_lt_zero _)⟩
 intro i ⟨hi, hI⟩
 refine au 6 ?_
 refine a8 rfl (fun c4 => ?_) fun c4 => ?_
 ·refine au 5 ?_
  have hi1 : i < L.length := by omega
  refine lB (E := 323) (sz := 7) (a := a) (c := c) (n := L.length) cA L lk (by decide) rfl (fun hs => ?_)
  obtain ⟨g, o, hga, hc⟩ := hs.at_ hi1
  have hat := fun q => UY (k := k) hi1 q hI
  have hno : L[i].k ≠ k → ∀ j (hj : j < L.length), j < i + 1 → L[j].k ≠ k := fun q j hj hji => by
   rcases Nat.lt_or_ge j i with q2 | q2
   ·exact hI j hj q2
   obtain rfl : j = i := by omega
   exact q
  obtain ⟨x, hx⟩ : ∃ x, L[i] = x := ⟨_, rfl⟩
  rw [hx] at hc hat hno
  refine bQ ?_
  refine a7 rfl (dW jf jz rfl hga rfl rfl hi1 (by first | exact Nat.zero_add _ | rfl)) ?_
  refine a7 rfl (b0 IU jz rfl hc.weak rfl) ?_
  refine ax (aS wG) fun bx => ?_
  refine aE 6 (aF jz rfl rfl rfl rfl rfl) ?_
  refine a7 rfl (qF jP g8 rfl TakeL.eq rfl) ?_
  refine a7 rfl (kS jP g8 rfl rfl) ?_
  refine ap 2 (uw Tryz.eqGuardType314 rfl rfl (uv zJ Tryz.stoodInHeld314 (ng rfl aX rfl rfl (nf cW) (ng rfl aX rfl rfl (nf cW) uu)))) ?_
  refine a8 rfl (fun c6 => ?_) fun c6 => ?_
  ·have hk : x.k = k := by simpa [Prod.ext_iff] using c6
   refine au 4 ?_
   refine a7 rfl (qF kM dX rfl TakeL.eq rfl) ?_
   refine aE 9 (aF dX rfl rfl rfl rfl rfl) ?_
   refine bY (.cons (cg kM dX rfl rfl) (.cons (bK rfl) .nil)) ?_
   rw [vH, hat hk]
   exact ⟨_, ⟨rfl, rfl⟩, Ent.trans (B := pt b (ac [.slice a L.length c, .bool true] 394) :: osl 323 7 (.slice a L.length c) (L.flatMap cA) :: R) inferInstance (oR (b := b) rfl)⟩
  have hk : x.k ≠ k := by simpa [Prod.ext_iff] using c6
  refine au 4 ?_
  refine ap 3 (cM rfl rfl) ?_
  exact bZ (i + 1) (⟨by omega, hno hk⟩)
 refine au 7 ?_
 refine a7 rfl (bq zn ji (am aj (am aj (am aj bj))) bi) ?_
 refine aE 4 (aF dX rfl rfl rfl rfl rfl) ?_
 refine bY (.cons (cg kM dX rfl rfl) (.cons (bK rfl) .nil)) ?_
 rw [vH, UX fun j hj => hI j hj (by omega)]
 exact ⟨_, ⟨rfl, rfl⟩, Ent.trans (B := pt b (ac [.slice a L.length c, .bool true] 394) :: osl 323 7 (.slice a L.length c) (L.flatMap cA) :: R) inferInstance (oR (b := b) rfl)⟩
@[reducible] def iI (x : Int) : List Value := [.int .i64 x]
theorem nL (x : Int) : (iI x).length = 1 := rfl
theorem H0 (l : List Int) (sp : List Value) (i : Nat) (h : i < l.length) : (l.flatMap iI ++ sp)[i * 1]? = some (.int .i64 (l.getD i 0)) := by
 have := ly nL l i 0 sp h (by decide)
 rw [Nat.add_zero] at this
 rw [this]; simp [List.getD, h]
theorem UZ (l : List Int) (sp : List Value) (i : Nat) (x : Int) (h : i < l.length) : (l.flatMap iI ++ sp).set (i * 1) (.int .i64 x) = (l.set i x).flatMap iI ++ sp :=
 ni nL l i 0 _ _ sp h (by decide) (by simp)
structure PFI (W0 : World) (fn : FuncId) (us cs : List Value) (C : HP) (p : Int → Bool) : Prop where
  call : ∀ args w, (callFunc fn args).run Tryz.prog w = .ok (.enter fn args) w
  spec : ∀ x R, bN Tryz.prog W0 fn (us ++ [.int .i64 x] ++ cs) (kH 0 C :: R) (fun v B => v = .bool (p x) ∧ B = kH 0 C :: R)
def V0 (l : List Int) (p : Int → Bool) (r : Int) : Prop := (r = -1 ∧ ∀ i, i < l.length → p (l.getD i 0) = false) ∨ ∃ i : Nat, r = (i : Int) ∧ i < l.length ∧ p (l.getD i 0) = true ∧ ∀ j, j < i → p (l.getD j 0) = false
theorem V1 (l : List Int) (g c : Nat) (sp : List Value) (f : FuncId) (us cs : List Value) (C : HP) (p : Int → Bool) (hp : PFI W0 f us cs C p) (hN : l.length < 1000) : sP W0 441 [.slice (some ⟨g, 0, none⟩) l.length c, .func (.func f) us.toArray cs.toArray] (pt g (ac (l.flatMap iI ++ sp) 3) :: kH 0 C :: R) (fun v B => ∃ r, v = .int .i64 r ∧ B = pt g (ac (l.flatMap iI ++ sp) 3) :: kH 0 C :: R ∧ V0 l p r) := by
 refine ai 14 func441 ntmps441 ?_
 refine cY (fun X : Nat => X ≤ l.length ∧ ∀ i, i < X → p (l.getD i 0) = false) (fun X => [(0, .slice (some ⟨g, 0, none⟩) l.length c), (1, .func (.func f) us.toArray cs.toArray), (7, .int .i64 (l.length : Nat)), (8, .int .i64 X)]) (fun X => pt g (ac (l.flatMap iI ++ sp) 3) :: kH 0 C :: R) (fun X => l.length - X) 0 ?_ ?_
 ·exact ⟨Nat.zero_le _, fun i h => absurd h (Nat.not_lt_zero _)⟩
 intro j ⟨hj, hno⟩
 refine au 6 ?_
 refine a8 rfl (fun c2 => ?_) fun c2 => ?_
 ·refine au 15 ?_
  refine a7 rfl (bc dB aj rfl rfl rfl (by omega) (by first | exact Nat.zero_add _ | rfl)) ?_
  refine a7 rfl (aA aX rfl (aN (H0 l sp j (by omega)))) ?_
  refine ar 2 (qL (us := us) (cs := cs) rfl hp.call rfl (hp.spec (l.getD j 0) _)) ?_
  refine a8 rfl (fun c4 => ?_) fun c4 => ?_
  ·refine au 12 ?_
   refine ae ?_
   exact ⟨_, ⟨_, rfl, rfl, .inr ⟨j, rfl, by omega, c4, hno⟩⟩, inferInstance⟩
  refine au 4 ?_
  refine ap 3 (cM rfl rfl) ?_
  refine bZ (j + 1) ?_
  ·refine ⟨by omega, fun i hi => ?_⟩
   by_cases e : i = j
   ·subst e; simpa using c4
   exact hno i (by omega)
 refine au 11 ?_
 refine ae ?_
 exact ⟨_, ⟨-1, rfl, rfl, .inl ⟨rfl, fun i hi => hno i (by omega)⟩⟩, inferInstance⟩
def ll (p : Int → Bool) (l : List Int) : List Int := l.filter (fun x => !p x)
theorem H1 {p : Int → Bool} {l : List Int} (h : ∀ i, i < l.length → p (l.getD i 0) = false) : ll p l = l := List.filter_eq_self.2 fun x hx => by
 obtain ⟨i, hi, rfl⟩ := List.mem_iff_getElem.1 hx
 have := h i hi
 simpa [List.getD, hi] using this
theorem BS {p : Int → Bool} {l : List Int} {j : Nat} (h : j < l.length) : ll p (l.take (j + 1)) = ll p (l.take j) ++ (if p (l.getD j 0) then [] else [l.getD j 0]) := by
 rw [List.take_succ_eq_append_getElem h, ll, List.filter_append, show l.getD j 0 = l[j] by simp [List.getD, h]]
 cases hp : p l[j] <;> simp [ll, hp]
structure DelN (p : Int → Bool) (its l : List Int) (i j : Nat) : Prop where
  len : l.length = its.length
  ij : i < j
  jl : j ≤ its.length
  front : l.take i = ll p (its.take j)
  back : ∀ k, j ≤ k → l.getD k 0 = its.getD k 0
theorem V2 {p : Int → Bool} {l : List Int} {i : Nat} (h : i < l.length) (hp : p (l.getD i 0) = true) (hno : ∀ j, j < i → p (l.getD j 0) = false) : ll p (l.take (i + 1)) = l.take i := by
 rw [BS h, hp, if_pos rfl, List.append_nil]
 refine H1 fun j hj => ?_
 rw [List.length_take] at hj
 have := hno j (by omega)
 simpa [List.getD, List.getElem?_take, show j < i by omega] using this
theorem DelN.skip {p : Int → Bool} {its l : List Int} {i j : Nat} (h : DelN p its l i j) (hj : j < its.length) (hp : p (l.getD j 0) = true) : DelN p its l i (j + 1) := by
 refine ⟨h.len, by have := h.ij; omega, by omega, ?_, fun k hk => h.back k (by omega)⟩
 rw [h.back j (Nat.le_refl _)] at hp
 rw [BS hj, hp, if_pos rfl, List.append_nil]; exact h.front
theorem DelN.move {p : Int → Bool} {its l : List Int} {i j : Nat} (h : DelN p its l i j) (hj : j < its.length) (hp : p (l.getD j 0) = false) : DelN p its (l.set i (l.getD j 0)) (i + 1) (j + 1) := by
 have hij := h.ij
 have hl := h.len
 have hb := h.back j (Nat.le_refl _)
 rw [hb] at hp ⊢
 refine ⟨by rw [List.length_set]; exact hl, by omega, by omega, ?_, fun k hk => ?_⟩
 ·rw [BS hj, hp, if_neg (by decide), ← h.front, List.take_succ_eq_append_getElem (by rw [List.length_set]; omega), List.getElem_set_self, List.take_set_of_le (Nat.le_refl _)]
 rw [← h.back k (by omega)]
 simp only [List.getD_eq_getElem?_getD]
 rw [List.getElem?_set_ne (by omega)]
theorem V3 (its : List Int) (g c : Nat) (sp : List Value) (f : FuncId) (us cs : List Value) (C : HP) (p : Int → Bool) (hp : PFI W0 f us cs C p) (hN : its.length < 1000) (h2 : its.length ≤ c) (h3 : c ≤ maxLen) (h5 : (its.flatMap iI ++ sp).length = c * 1) : sP W0 428 [.slice (some ⟨g, 0, none⟩) its.length c, .func (.func f) us.toArray cs.toArray] (pt g (ac (its.flatMap iI ++ sp) 3) :: kH 0 C :: R) (fun v B => ∃ a' c', v = .slice a' (ll p its).length c' ∧ B = osl 3 1 (.slice a' (ll p its).length c') ((ll p its).flatMap iI) :: kH 0 C :: R) := by
 refine ai 9 func428 ntmps428 ?_
 refine aB rfl (cK call441 rfl (V1 its g c sp f us cs C p hp hN)) ?_
 rintro _ B_ ⟨r, rfl, hB_, hf⟩
 obtain rfl := hB_.symm
 refine au 10 ?_
 refine a8 rfl (fun c2 => ?_) fun c2 => ?_
 ·refine au 8 ?_
  refine ae ?_
  have hno : ∀ i, i < its.length → p (its.getD i 0) = false := by
   rcases hf with ⟨_, h⟩ | ⟨i, h, _⟩
   ·exact h
   omega
  rw [H1 hno]
  exact ⟨_, ⟨_, c, rfl, rfl⟩, eB h2 h3 (cz nL its) h5⟩
 obtain ⟨i, rfl, hi, hpi, hno⟩ : ∃ i : Nat, r = (i : Int) ∧ i < its.length ∧ p (its.getD i 0) = true ∧ ∀ j, j < i → p (its.getD j 0) = false := by
  rcases hf with ⟨h, _⟩ | h
  ·omega
  exact h
 refine au 6 ?_
 refine ap 4 (bO rfl rfl (by rw [aG (by omega)]; omega : IntKind.wrap .i64 ((i : Int) + 1) = ((i + 1 : Nat) : Int))) ?_
 refine cY (fun X : List Int × Nat × Nat => DelN p its X.1 X.2.1 X.2.2) (fun X => [(0, .slice (some ⟨g, 0, none⟩) its.length c), (1, .func (.func f) us.toArray cs.toArray), (5, .int .i64 X.2.1), (6, .int .i64 X.2.2)]) (fun X => pt g (ac (X.1.flatMap iI ++ sp) 3) :: kH 0 C :: R) (fun X => its.length - X.2.2) (its, i, i + 1) ?_ ?_
 ·exact ⟨rfl, Nat.lt_succ_self _, by show i + 1 ≤ its.length; omega, (V2 hi hpi hno).symm, fun _ _ => rfl⟩
 intro ⟨l, m, j⟩ hD
 dsimp only at hD ⊢
 have hl := hD.len
 have hmj := hD.ij
 have hjl := hD.jl
 refine au 9 ?_
 refine a8 rfl (fun c5 => ?_) fun c5 => ?_
 ·refine au 2 ?_
  refine dU (fun Z : List Int × Nat => DelN p its Z.1 Z.2 (j + 1)) (fun Z => [(0, .slice (some ⟨g, 0, none⟩) its.length c), (1, .func (.func f) us.toArray cs.toArray), (5, .int .i64 Z.2), (6, .int .i64 j)]) (fun Z => pt g (ac (Z.1.flatMap iI ++ sp) 3) :: kH 0 C :: R) ?_ ?_
  ·skip
   refine au 5 ?_
   refine a7 rfl (bc dB aj rfl rfl rfl (by omega) (by first | exact Nat.zero_add _ | rfl)) ?_
   refine ap 7 (aA aX rfl (aN (H0 l sp j (by omega)))) ?_
   refine ar 3 (qL (us := us) (cs := cs) rfl hp.call rfl (hp.spec (l.getD j 0) _)) ?_
   refine a8 rfl (fun c8 => ?_) fun c8 => ?_
   ·have hpj : p (l.getD j 0) = false := by simpa using c8
    refine au 5 ?_
    refine a7 rfl (bc dB aj rfl rfl rfl (by omega) (by first | exact Nat.zero_add _ | rfl)) ?_
    refine aE 4 (bA aj rfl rfl rfl (by rw [List.length_append, cz nL]; omega) (UZ l sp m (l.getD j 0) (by omega))) ?_
    refine ap 4 (bO rfl rfl (by rw [aG (by omega)]; omega : IntKind.wrap .i64 ((m : Int) + 1) = ((m + 1 : Nat) : Int))) ?_
    exact cj (l.set m (l.getD j 0), m + 1) (hD.move (by omega) hpj)
   have hpj : p (l.getD j 0) = true := by simpa using c8
   refine au 3 ?_
   exact cj (l, m) (hD.skip (by omega) hpj)
  intro ⟨l2, m2⟩ hD2
  refine au 2 ?_
  refine ap 3 (bO rfl rfl (by rw [aG (by omega)]; omega : IntKind.wrap .i64 ((j : Int) + 1) = ((j + 1 : Nat) : Int))) ?_
  refine bZ (l2, m2, j + 1) ?_ (hμ := ?_)
  ·exact hD2
  show its.length - (j + 1) < its.length - j; omega
 refine au 6 ?_
 obtain rfl : j = its.length := by omega
 have hfr := hD.front
 rw [List.take_of_length_le (Nat.le_refl _)] at hfr
 have hk : (ll p its).length = m := by rw [← hfr, List.length_take]; omega
 refine au 3 ?_
 refine a7 rfl (td dB aj rfl rfl rfl (by omega) (by omega) (Nat.zero_add _)) ?_
 refine eI (B5 dB ml (by simp [Value.cells, Value.oneCell']) rfl (by omega) (by rw [List.length_append, cz nL]; show m * 1 + (its.length - m) * 1 ≤ _; omega)) ?_
 rintro _ B_ ⟨vs, hvs, rfl, hB_⟩
 obtain rfl := hB_.symm
 replace hvs : vs.length = (its.length - m) * 1 := hvs
 have hset : setR (l.flatMap iI ++ sp) (m * 1) vs = (ll p its).flatMap iI ++ (vs ++ sp) := by
  rw [pD _ _ _ (by rw [List.length_append, cz nL]; omega), Ad nL l m sp (by omega), hfr, show m * 1 + vs.length = l.length * 1 by omega, uF nL l l.length sp (Nat.le_refl _)]
  simp
 rw [hset]
 refine au 6 ?_
 refine ap 4 (m0 dB aj rfl rfl rfl (by omega)) ?_
 refine ae ?_
 rw [hk]
 exact ⟨_, ⟨_, _, rfl, rfl⟩, eB (by omega) h3 (by rw [cz nL, hk]) (by rw [← h5]; simp only [List.length_append, cz nL, hk, hvs]; omega)⟩
theorem V4 (g : Nat) (x y : Int) : sP W0 429 [.slice (some ⟨g, 0, none⟩) 2 2] (pt g (ac [.int .i64 x, .int .i64 y] 3) :: R) (fun v B => ∃ (l : List Int) (sp : List Value), v = .slice (some ⟨g, 0, none⟩) l.length 2 ∧ l = (if x = y then [x] else [x, y]) ∧ (l.flatMap iI ++ sp).length = 2 ∧ B = pt g (ac (l.flatMap iI ++ sp) 3) :: R) := by
 refine ai 13 func429 ntmps429 ?_
 refine a8 rfl (fun c1 => ?_) fun c1 => ?_
 ·exact absurd c1 (by decide)
 refine au 9 ?_
 refine cY (fun k : Nat => k = 1 ∨ (k = 2 ∧ x ≠ y)) (fun k => [(0, .slice (some ⟨g, 0, none⟩) 2 2), (3, .int .i64 k)]) (fun k => pt g (ac [.int .i64 x, .int .i64 y] 3) :: R) (fun k => 2 - k) 1 ?_ ?_
 ·exact .inl rfl
 intro k hk
 refine au 9 ?_
 refine a8 rfl (fun c4 => ?_) fun c4 => ?_
 ·refine au 5 ?_
  obtain rfl : k = 1 := by
   rcases hk with h | h
   ·exact h
   omega
  refine aU [(g, 0, _)] 10 aT rfl (aa ag) (fun hS => ?_)
  refine ah 0 2 hS ?_
  refine av 2 rfl rfl rfl hS (bc dB aj rfl rfl (j := 1) rfl (by decide) (by first | exact Nat.zero_add _ | rfl)) ?_
  refine ah 3 3 hS ?_
  refine av 6 rfl rfl rfl hS (cZ rfl rfl (by first | exact aG (by omega) | rfl)) ?_
  refine av 7 rfl rfl rfl hS (bc dB aj rfl rfl (j := 0) rfl (by decide) (by first | exact Nat.zero_add _ | rfl)) ?_
  refine ah 8 2 hS ?_
  refine aK ?_
  refine aY ?_
  refine a8 rfl (fun c6 => ?_) fun c6 => ?_
  ·refine au 4 ?_
   refine ap 10 (td dB aj rfl rfl (i := 1) rfl (by decide) (by decide) (Nat.zero_add _)) ?_
   refine cY (fun j : Nat => j = 1) (fun j => [(0, .slice (some ⟨g, 0, none⟩) 2 2), (3, .int .i64 1), (4, .slice (some ⟨g, 1, none⟩) 1 1), (5, .int .i64 j)]) (fun j => pt g (ac [.int .i64 x, .int .i64 y] 3) :: R) (fun j => 2 - j) 1 ?_ ?_
   ·rfl
   intro j hj
   refine au 9 ?_
   refine a8 rfl (fun c9 => ?_) fun c9 => ?_
   ·omega
   refine au 9 ?_
   refine a7 rfl (td dB aj rfl rfl (i := 1) rfl (by decide) (by decide) (Nat.zero_add _)) ?_
   refine eI (B5 dB ml (by simp [Value.cells, Value.oneCell']) rfl (by decide) (Nat.le_of_ble_eq_true rfl)) ?_
   rintro _ B_ ⟨vs, hvs, rfl, hB_⟩
   obtain rfl := hB_.symm
   obtain ⟨v, rfl⟩ : ∃ v, vs = [v] := by
    rcases vs with _ | ⟨v, _ | ⟨w, vs⟩⟩
    ·exact absurd hvs (by decide)
    ·exact ⟨v, rfl⟩
    exact absurd hvs (by simp [Value.cells])
   refine au 6 ?_
   refine ap 9 (m0 dB aj rfl rfl (h := 1) rfl (by decide)) ?_
   refine ae ?_
   have hxy : x = y := by omega
   exact ⟨_, ⟨[x], [v], rfl, by rw [if_pos hxy], rfl, rfl⟩, (inferInstance : Ent (pt g (ac [.int .i64 x, v] 3) :: R) (pt g (ac [.int .i64 x, v] 3) :: R))⟩
  refine au 5 ?_
  refine ap 3 (bO rfl rfl (by rw [aG (by omega)]; rfl : IntKind.wrap .i64 (1 + 1) = ((2 : Nat) : Int))) ?_
  exact bZ 2 (.inr ⟨rfl, by omega⟩)
 refine au 12 ?_
 refine ae ?_
 have hxy : x ≠ y := by
  rcases hk with h | h
  ·omega
  exact h.2
 exact ⟨_, ⟨[x, y], [], rfl, by rw [if_neg hxy], rfl, rfl⟩, (inferInstance : Ent (pt g (ac [.int .i64 x, .int .i64 y] 3) :: R) (pt g (ac [.int .i64 x, .int .i64 y] 3) :: R))⟩
theorem V5 (W0 : World) (b : Nat) (L : List Ln) (hl : L.length ≤ 1000) : PFI W0 430 [.pointer (some ⟨b, 0, none⟩)] [] (cn [bL b L]) (fi L) := ⟨call430, fun x R => by
 refine mu ?_
 simp only [List.cons_append, List.nil_append]
 refine hJ (UA b L hl x) fun v B hB => ?_
 obtain ⟨rfl, rfl⟩ := hB
 exact ⟨_, ⟨rfl, rfl⟩, inferInstance⟩⟩
theorem V6 (b : Nat) (L : List Ln) (hl : L.length ≤ 1000) (r l : Int) : sP W0 403 [.pointer (some ⟨b, 0, none⟩), .int .i64 r, .int .i64 l] (bL b L :: R) (fun v B => ∃ a c, v = .slice a (kd L r l).length c ∧ B = osl 3 1 (.slice a (kd L r l).length c) ((kd L r l).flatMap iI) :: bL b L :: R) := by
 refine ai 9 func403 ntmps403 ?_
 refine ap 2 (qP rfl rfl (r := min r l) (by split <;> omega)) ?_
 refine a7 rfl (xL rfl rfl (r := max r l) (by split <;> omega)) ?_
 refine ax (jT dB aj ml rfl rfl rfl rfl rfl (by decide) (by decide)) fun g => ?_
 refine au 6 ?_
 refine aB rfl (ao call429 rfl (V4 g (min r l) (max r l))) ?_
 rintro _ B_ ⟨xs, sp, rfl, hxs, hlen, hB_⟩
 obtain rfl := hB_.symm
 have hfr : ll (fi L) xs = kd L r l := by
  rw [hxs, kd, ll]
  congr 1
  by_cases q : r = l
  ·subst q; simp
  rw [if_neg q, if_neg (by omega)]
 have h2 : xs.length ≤ 2 := by rw [hxs]; split <;> simp
 refine a7 rfl (aH rfl) (a7 rfl (dM rfl rfl) ?_)
 refine aB rfl (od (B := pt g (ac (xs.flatMap iI ++ sp) 3) :: kH 0 (cn [bL b L]) :: R) inferInstance (aD call428 rfl (V3 xs g 2 sp 430 [.pointer (some ⟨b, 0, none⟩)] [] _ _ (V5 W0 b L hl) (by omega) h2 (by simp only [maxLen]; omega) hlen))) ?_
 rintro _ B_ ⟨a, c, rfl, hB_⟩
 obtain rfl := hB_.symm
 rw [hfr]
 refine xm ?_
 simp only [List.cons_append, List.nil_append]
 refine au 4 ?_
 refine ae ?_
 exact ⟨_, ⟨a, c, rfl, rfl⟩, inferInstance⟩
theorem V7 (L : List Ln) (sp : List Value) (i : Nat) (hi : i < L.length) : ((L.flatMap cA ++ sp).drop (i * 7)).take 7 = cA L[i] := pC lk L i sp hi
theorem H2 (L : List Ln) (sp : List Value) (i j : Nat) (hi : i < L.length) (hj : j < 7) : (L.flatMap cA ++ sp)[i * 7 + j]? = (cA L[i])[j]? := ly lk L i j sp hi hj
theorem H3 (L : List Ln) (sp : List Value) (i : Nat) (hi : i < L.length) : (L.flatMap cA ++ sp).set (i * 7 + 4) (.int .i64 (et L[i].e.2.2)) = (L.set i L[i].nar).flatMap cA ++ sp :=
 ni lk L i 4 _ _ sp hi (by decide) rfl
theorem V8 {W0 : World} {A R : List HP} {g : Nat} {L : List Ln} {sp : List Value} [h : Tk pt g A (ac (L.flatMap cA ++ sp) 323) R] : cG (aO W0 A) (some ⟨g, 0, none⟩) 7 cA L := fun i x hx => by
 obtain ⟨hi, rfl⟩ := List.getElem?_eq_some_iff.1 hx
 refine ⟨g, 0, rfl, ?_⟩
 rw [Nat.zero_add]
 exact cC (V7 L sp i hi) rfl
theorem V9 (b : Nat) (v0 : Value) : sQ W0 193 [.pointer (some ⟨b, 0, none⟩)] (pt b (ac [v0, .bool true] 394) :: R) (.bool false) (pt b (ac [v0, .bool true] 394) :: R) := by
 refine ai 10 func193 ntmps193 ?_
 refine bB rfl rfl rfl (fun g1_3 => ?_) fun g1_3 => ?_
 ·cases g1_3
 refine au 14 ?_
 exact ae aL
theorem Va (b : Nat) (L : List Ln) (hl : L.length ≤ 1000) (a : Option Addr) (n c : Nat) (hn : L.length = n) (hs : cG (aO W0 (pt b (ac [.slice a n c, .bool true] 394) :: R)) a 7 cA L) (p : Int) : sQ W0 430 [.pointer (some ⟨b, 0, none⟩), .int .i64 p] (pt b (ac [.slice a n c, .bool true] 394) :: R) (.bool (fi L p)) (pt b (ac [.slice a n c, .bool true] 394) :: R) := by
 subst hn
 refine ai 9 func430 ntmps430 ?_
 refine ar 2 (ao um rfl (V9 b _)) ?_
 refine a8 rfl (fun c1 => ?_) fun c1 => ?_
 ·exact absurd c1 (by decide)
 refine au 14 ?_
 refine cY (fun i : Nat => i ≤ L.length ∧ ∀ j (hj : j < L.length), j < i → L[j].thr p = false) (fun i => [(0, .pointer (some ⟨b, 0, none⟩)), (1, .int .i64 p), (12, .int .i64 (L.length : Nat)), (13, .int .i64 i)]) (fun _ => pt b (ac [.slice a L.length c, .bool true] 394) :: R) (fun i => L.length - i) 0 ?_ ?_
 ·exact ⟨Nat.zero_le _, fun j hj h0 => absurd h0 (Nat.not_lt_zero _)⟩
 intro i ⟨hi, hI⟩
 refine au 6 ?_
 refine a8 rfl (fun c4 => ?_) fun c4 => ?_
 ·refine au 11 ?_
  have hi1 : i < L.length := by omega
  obtain ⟨g, o, hga, hc⟩ := hs.at_ hi1
  obtain ⟨x, hx⟩ : ∃ x, L[i] = x := ⟨_, rfl⟩
  have hyes : x.thr p = true → fi L p = true := fun q => rG.2 ⟨x, by rw [← hx]; exact List.getElem_mem hi1, q⟩
  have hno : x.thr p = false → ∀ j (hj : j < L.length), j < i + 1 → L[j].thr p = false := fun q j hj hji => by
   rcases Nat.lt_or_ge j i with q2 | q2
   ·exact hI j hj q2
   obtain rfl : j = i := by omega
   rw [hx]; exact q
  rw [hx] at hc
  refine au 6 ?_
  refine a7 rfl (dW jf jz rfl hga rfl rfl hi1 (by first | exact Nat.zero_add _ | rfl)) ?_
  refine a7 rfl (aH rfl) (ar 2 (aD Dd rfl (yy g (o + i * 7) x hc p)) ?_)
  refine a8 rfl (fun c6 => ?_) fun c6 => ?_
  ·refine au 11 ?_
   refine ae ?_
   rw [hyes c6]
   exact ⟨_, ⟨rfl, rfl⟩, inferInstance⟩
  refine au 4 ?_
  refine ap 3 (cM rfl rfl) ?_
  exact bZ (i + 1) (⟨by omega, hno (by simpa using c6)⟩)
 refine au 11 ?_
 refine ae ?_
 have ht : fi L p = false := by
  rw [← Bool.not_eq_true, rG]
  rintro ⟨x, hx, q⟩
  obtain ⟨j, hj, rfl⟩ := List.getElem_of_mem hx
  rw [hI j hj (by omega)] at q; cases q
 rw [ht]
 exact ⟨_, ⟨rfl, rfl⟩, inferInstance⟩
def iU (r l : Int) (L : List Ln) (i : Nat) : List Ln := (L.take i).map (dr r l) ++ L.drop i
theorem H4 (r l : Int) (L : List Ln) (i : Nat) (hi : i ≤ L.length) : (iU r l L i).length = L.length := by simp [iU]; omega
theorem Vb {r l : Int} {L : List Ln} {i : Nat} (hi : i < L.length) : (iU r l L i)[i]'(by rw [H4 _ _ _ _ (by omega)]; exact hi) = L[i] := by
 simp only [iU]
 rw [List.getElem_append_right (by simp; omega)]
 simp [show min i L.length = i by omega]
theorem Vd {r l : Int} {L : List Ln} {i : Nat} (hi : i < L.length) : iU r l L (i + 1) = (iU r l L i).set i (dr r l L[i]) := by
 have h1 : ((L.take i).map (dr r l)).length = i := by simp; omega
 unfold iU
 rw [List.take_succ_eq_append_getElem hi, List.map_append, List.map_singleton, List.drop_eq_getElem_cons hi (l := L), List.set_append_right _ _ (by omega), h1, Nat.sub_self, List.set_cons_zero]
 simp
theorem H5 (b : Nat) (L : List Ln) (z : Ln) (hl : (L ++ [z]).length ≤ 1000) (hr : ∀ x ∈ L ++ [z], i64 x.e.2.2) (r l : Int) : sQ W0 406 [.pointer (some ⟨b, 0, none⟩), .int .i64 r, .int .i64 l] (bL b (L ++ [z]) :: R) (.tuple #[]) (bL b (tK ((L ++ [z]).map (dr r l))) :: R) := by
 have hres : tK ((L ++ [z]).map (dr r l)) = L.map (dr r l) ++ [if fi ((L ++ [z]).map (dr r l)) (dr r l z).e.1 then (dr r l z).nar else dr r l z] := by
  rw [List.map_append, List.map_singleton, GF]
 have hfull : iU r l (L ++ [z]) (L ++ [z]).length = (L ++ [z]).map (dr r l) := by unfold iU; rw [List.take_length, List.drop_length, List.append_nil]
 obtain ⟨M, hM⟩ : ∃ M, L ++ [z] = M := ⟨_, rfl⟩
 have hMl : M.length = L.length + 1 := by rw [← hM]; simp
 rw [hM] at hres hfull hl hr ⊢
 have hr2 : i64 (dr r l z).e.2.2 := by
  have := hr z (by rw [← hM]; simp)
  unfold dr; split
  ·show i64 (et z.e.2.2)
   obtain ⟨h1, h2⟩ := this
   unfold et; split
   ·rename_i hw
    have := of_decide_eq_true hw
    exact ⟨by omega, by omega⟩
   exact ⟨h1, h2⟩
  exact this
 refine ai 2 func406 ntmps406 ?_
 refine Uy (b := b) (by intro q; rw [q] at hMl; simp at hMl) fun g c sp k1 k2 k3 => ?_
 refine au 10 ?_
 refine ge (fun i : Nat => i ≤ M.length) (fun i => [(0, .pointer (some ⟨b, 0, none⟩)), (1, .int .i64 r), (2, .int .i64 l), (13, .int .i64 (M.length : Nat)), (14, .int .i64 i)]) (fun i => pt b (ac [.slice (some ⟨g, 0, none⟩) M.length c, .bool true] 394) :: pt g (ac ((iU r l M i).flatMap cA ++ sp) 323) :: R) (fun i => M.length - i) 0 ?_ ?_ ?_ ?_
 ·exact Nat.zero_le _
 ·repeat (first | exact dy | refine db rfl ?_)
 ·rw [show iU r l M 0 = M by simp [iU]]
  exact inferInstance
 intro i hi
 refine au 6 ?_
 refine a8 rfl (fun c1 => ?_) fun c1 => ?_
 ·refine au 2 ?_
  refine dU (fun _ : Unit => True) (fun _ => [(0, .pointer (some ⟨b, 0, none⟩)), (1, .int .i64 r), (2, .int .i64 l), (13, .int .i64 (M.length : Nat)), (14, .int .i64 i)]) (fun _ => pt b (ac [.slice (some ⟨g, 0, none⟩) M.length c, .bool true] 394) :: pt g (ac ((iU r l M (i + 1)).flatMap cA ++ sp) 323) :: R) ?_ ?_
  ·skip
   refine au 8 ?_
   have hi1 : i < M.length := by omega
   have hpl := H4 r l M i hi
   have hat : (iU r l M i)[i]'(by rw [hpl]; exact hi1) = M[i] := Vb hi1
   have hsu := Vd (r := r) (l := l) hi1
   have hri := hr _ (List.getElem_mem hi1)
   have hge := fun j hj => H2 (iU r l M i) sp i j (by rw [hpl]; exact hi1) hj
   have hse := H3 (iU r l M i) sp i (by rw [hpl]; exact hi1)
   rw [hat] at hge hse
   obtain ⟨x, hx⟩ : ∃ x, M[i] = x := ⟨_, rfl⟩
   rw [hx] at hsu hri hge hse
   refine au 6 ?_
   refine ap 3 (bc jf jz rfl rfl rfl hi1 (by first | exact Nat.zero_add _ | rfl)) ?_
   refine ap 9 (aA aX rfl (aN ((hge 2 (by decide)).trans rfl))) ?_
   refine bB rfl rfl rfl (fun g4_4 => ?_) fun g4_4 => ?_
   ·refine au 12 ?_
    refine a7 rfl (bc jf jz rfl rfl rfl hi1 (by first | exact Nat.zero_add _ | rfl)) ?_
    refine aM (ao Kc rfl (BO g (i * 7) ((iU r l M i).flatMap cA ++ sp) x.e.2.2 hri ((hge 4 (by decide)).trans rfl))) ?_
    rw [hse]
    refine au 3 ?_
    refine cj () ?_ (he := ?_)
    ·trivial
    rw [hsu, show dr r l x = x.nar from if_pos (by omega)]
    exact inferInstance
   refine au 8 ?_
   refine a8 rfl (fun c4 => ?_) fun c4 => ?_
   ·refine au 6 ?_
    refine a7 rfl (bc jf jz rfl rfl rfl hi1 (by first | exact Nat.zero_add _ | rfl)) ?_
    refine aM (ao Kc rfl (BO g (i * 7) ((iU r l M i).flatMap cA ++ sp) x.e.2.2 hri ((hge 4 (by decide)).trans rfl))) ?_
    rw [hse]
    refine au 3 ?_
    refine cj () ?_ (he := ?_)
    ·trivial
    rw [hsu, show dr r l x = x.nar from if_pos (by omega)]
    exact inferInstance
   refine au 3 ?_
   refine cj () ?_ (he := ?_)
   ·trivial
   rw [hsu, show dr r l x = x from if_neg (by omega), show (iU r l M i).set i x = iU r l M i by rw [← hx, ← hat, List.set_getElem_self]]
   exact inferInstance
  intro _ _
  refine bQ (ap 3 (cM rfl rfl) ?_)
  exact bZ (i + 1) (by omega)
 refine au 6 ?_
 obtain rfl : i = M.length := by omega
 rw [hfull]
 have hml : (M.map (dr r l)).length = M.length := List.length_map _
 have hln : L.length < (M.map (dr r l)).length := by omega
 have hat : (M.map (dr r l))[L.length] = dr r l z := by simp [← hM]
 have hge := fun j hj => H2 (M.map (dr r l)) sp L.length j hln hj
 have hse := H3 (M.map (dr r l)) sp L.length hln
 have hst : (M.map (dr r l)).set L.length (dr r l z).nar = L.map (dr r l) ++ [(dr r l z).nar] := by
  rw [← hM, List.map_append, List.set_append_right _ _ (by simp)]; simp
 have hst2 : M.map (dr r l) = L.map (dr r l) ++ [dr r l z] := by rw [← hM, List.map_append]; rfl
 rw [hat] at hge hse
 refine aU [(b, 0, _)] 12 aT rfl (aa ag) (fun hS => ?_)
 refine ah 0 9 hS ?_
 refine av 9 rfl rfl rfl hS (cZ rfl rfl (by rw [aG (by omega)]; omega : IntKind.wrap .i64 ((M.length : Int) - 1) = ((L.length : Nat) : Int))) ?_
 refine av 10 rfl rfl rfl hS (bc jf jz rfl rfl rfl (by omega) (by first | exact Nat.zero_add _ | rfl)) ?_
 refine ah 11 1 hS ?_
 refine aK ?_
 refine au 9 ?_
 refine a7 rfl (aA aX rfl (aN ((hge 2 (by decide)).trans rfl))) ?_
 refine ar 2 (ao call430 rfl (Va b (M.map (dr r l)) (by omega) (some ⟨g, 0, none⟩) M.length c hml (V8 (g := g) (sp := sp)) (dr r l z).e.1)) ?_
 refine a8 rfl (fun c8 => ?_) fun c8 => ?_
 ·refine au 2 ?_
  refine aM (ao Kc rfl (BO g (L.length * 7) ((M.map (dr r l)).flatMap cA ++ sp) (dr r l z).e.2.2 hr2 ((hge 4 (by decide)).trans rfl))) ?_
  rw [hse, hst]
  refine bX (bT (.inr rfl) .nil ?_)
  rw [hres, if_pos c8]
  exact ⟨_, ⟨rfl, rfl⟩, GP (b := b) rfl (by simp; omega) (by omega) k2 (by rw [← k3]; simp only [List.length_append, cz lk, List.length_map, List.length_singleton]; omega)⟩
 refine iF (bT (.inr rfl) .nil ?_)
 rw [hres, if_neg c8, ← hst2]
 exact ⟨_, ⟨rfl, rfl⟩, GP (b := b) rfl hml.symm (by omega) k2 (by rw [← k3]; simp only [List.length_append, cz lk, List.length_map])⟩
theorem H6 (l : List Ln) (a : Option Addr) (n c : Nat) (hl : l.length = n) (hN : n ≤ 1000) (hs : cG (aO W0 R) a 7 cA l) : sP W0 405 [.slice a n c] R (fun v B => ∃ a' c', v = .slice a' n c' ∧ B = osl 323 7 (.slice a' n c') (l.flatMap cA) :: R) := by
 subst hl
 refine ai 9 func405 ntmps405 ?_
 refine ap 2 (xi jf rfl rfl) ?_
 refine a8 rfl (fun c1 => ?_) fun c1 => ?_
 ·refine au 7 ?_
  refine ae ?_
  have h0 : l = [] := by
   rcases l with _ | ⟨x, l⟩
   ·rfl
   obtain ⟨b, o, h, _⟩ := hs 0 x rfl
   rw [c1] at h; cases h
  subst h0
  exact ⟨_, ⟨none, 0, rfl, rfl⟩, fR⟩
 have hsrc := hs.src lk (fun _ => trivial)
 refine au 4 ?_
 refine aB rfl (sF jf jz rfl) ?_
 rintro _ _ ⟨be, rfl, rfl⟩
 refine a7 rfl (aH rfl) ?_
 refine aB rfl (B4 (sz := 7) (by_ := 56) (info := Tryz.t323) jf (by kernel_rfl) rfl rfl rfl rfl (by decide) rfl rfl (news := l.flatMap cA) (by
 rcases hsrc with h | ⟨bs, os, h1, h2⟩
 ·left; rw [h]; rfl
 right; exact ⟨bs, os, h1, h2.weak⟩) (cz lk l) (BI GC l) (by simp only [maxLen]; omega) (by omega)) ?_
 rintro _ _ ⟨a1, c1, rfl, rfl⟩
 refine au 4 ?_
 refine ae ?_
 rw [Nat.zero_add, List.nil_append]
 exact ⟨_, ⟨a1, c1, rfl, rfl⟩, inferInstance⟩
theorem Ve (k : cT) (e : iA) (r l : Int) (L : List Ln) : vE (vD k e r l L) = iB k L ++ [⟨k, e, r, l⟩] := by
 unfold vE vD iB
 rw [List.length_append, List.length_singleton]
 by_cases q : 31 < (L.filter fun x => decide (x.k ≠ k)).length
 ·rw [if_pos (by omega), if_pos q]
  cases e1 : (L.filter fun x => decide (x.k ≠ k)) with
  | nil => rw [e1] at q; simp at q
  | cons a t => rfl
 rw [if_neg (by omega), if_neg q]
theorem H7 {α : Type} {S : World → Prop} {a : Option Addr} {g o sz : Nat} {f : α → List Value} {xs : List α} (h : cG S a sz f xs) (ha : a = some ⟨g, o, none⟩) : cG S (some ⟨g, o + sz, none⟩) sz f xs.tail := fun i x hx => by
 obtain ⟨b, off, e, hc⟩ := h (i + 1) x (by rw [← hx]; simp)
 rw [ha] at e; cases e
 exact ⟨g, o + sz, rfl, by rw [show o + sz + i * sz = o + (i + 1) * sz by rw [Nat.succ_mul]; omega]; exact hc⟩
theorem Vf (b : Nat) (L : List Ln) (hl : L.length ≤ 32) (hr : ∀ x ∈ L, i64 x.e.2.2) (k : cT) (e : iA) (he : i64 e.2.2) (r l : Int) (h1 : rI r = true) (h2 : rI l = true) : sP W0 383 [.pointer (some ⟨b, 0, none⟩), .agg (fH k).toArray, .agg (mb e).toArray, .int .i64 r, .int .i64 l] (bL b L :: R) (fun v B => ∃ a c, v = .tuple #[.slice a (kd L r l).length c, .int .i64 0] ∧ B = osl 3 1 (.slice a (kd L r l).length c) ((kd L r l).flatMap iI) :: bL b (ke k e r l L) :: R) := by
 have hflt : L.filter (fun x => !(decide (x.k = k))) = L.filter fun x => decide (x.k ≠ k) := by
  apply List.filter_congr; intro x _; simp
 obtain ⟨M, hM⟩ : ∃ M, (L.filter fun x => decide (x.k ≠ k)) = M := ⟨_, rfl⟩
 have hMl : M.length ≤ 32 := by rw [← hM]; exact Nat.le_trans (List.length_filter_le _ _) hl
 have hO : iB k L = if 31 < M.length then M.tail else M := by rw [iB, hM]
 have hOl := GM (k := k) hl
 have hOm : ∀ x ∈ iB k L ++ [(⟨k, e, r, l⟩ : Ln)], i64 x.e.2.2 := fun x hx => by
  rcases List.mem_append.1 hx with q | q
  ·exact hr x (BK q).1
  obtain rfl : x = (⟨k, e, r, l⟩ : Ln) := by simpa using q
  exact he
 have hF : ke k e r l L = tK ((iB k L ++ [(⟨k, e, r, l⟩ : Ln)]).map (dr r l)) := by rw [ke, Ve]
 obtain ⟨fr, hfr⟩ : ∃ f, kd L r l = f := ⟨_, rfl⟩
 rw [hfr, hF]
 refine ai 2 func383 ntmps383 ?_
 refine ax (aV rfl) fun b6 => ?_
 refine ax (aV rfl) fun b7 => ?_
 refine au 9 ?_
 refine ar 3 (ao um rfl (tM b L)) ?_
 refine a8 rfl (fun c1 => ?_) fun c1 => ?_
 ·exact absurd c1 (by decide)
 refine au 4 ?_
 refine aM (aD call402 rfl (GQ r)) ?_
 rw [h1]
 refine au 4 ?_
 refine a8 rfl (fun c3 => ?_) fun c3 => ?_
 ·exact absurd rfl c3
 refine au 2 ?_
 refine aM (aD call402 rfl (GQ l)) ?_
 rw [h2]
 refine au 4 ?_
 refine a8 rfl (fun c4 => ?_) fun c4 => ?_
 ·exact absurd rfl c4
 refine au 8 ?_
 refine aB rfl (ao call403 rfl (V6 b L (by omega) r l)) ?_
 rintro _ B_ ⟨af, cf, rfl, hB_⟩
 obtain rfl := hB_.symm
 rw [hfr]
 refine au 6 ?_
 refine a7 rfl (dM rfl rfl) ?_
 refine aB rfl (od (B := bL b L :: kH 0 (cn [pt b6 (ac (fH k) 314)]) :: osl 3 1 (.slice af fr.length cf) (fr.flatMap iI) :: pt b7 (ac (mb e) 319) :: R) inferInstance (aD Df rfl (yz b L (by omega) 404 [.pointer (some ⟨b6, 0, none⟩)] _ _ (UB W0 b6 k)))) ?_
 rintro _ B_ ⟨ak, ck, rfl, hB_⟩
 obtain rfl := hB_.symm
 rw [hflt, hM]
 refine xm ?_
 simp only [List.cons_append, List.nil_append]
 refine vF (b := b) fun a c => ?_
 refine au 3 ?_
 refine aU [(b6, 0, _), (b7, 0, _)] 16 aT rfl (aa (aa ag)) (fun hS => ?_)
 refine ah 0 4 hS ?_
 refine av 5 rfl rfl rfl hS (b0 jP g8 rfl (by first | exact co (k := 0) rfl | exact co (k := 1) rfl) rfl) ?_
 refine av 6 rfl rfl rfl hS (b0 kM dX rfl (by first | exact co (k := 0) rfl | exact co (k := 1) rfl) rfl) ?_
 refine av 7 rfl rfl rfl hS (bq Js Db (am g8 (am dX bj)) (iJ rfl g8 rfl rfl (Nat.le_of_ble_eq_true rfl) SetRL.eq (iJ rfl dX rfl rfl (Nat.le_of_ble_eq_true rfl) SetRL.eq bi))) ?_
 refine ah 8 2 hS ?_
 refine av 10 rfl rfl rfl hS (bq ZS wG (am mT (am aj (am aj bj))) (iJ rfl mT rfl rfl (Nat.le_of_ble_eq_true rfl) SetRL.eq (aI rfl aj rfl rfl (Nat.le_of_ble_eq_true rfl) SetL.eq (aI rfl aj rfl rfl (Nat.le_of_ble_eq_true rfl) SetL.eq bi)))) ?_
 refine eJ (is := [4, 11]) (by kernel_rfl) rfl ⟨?_, ?_, trivial⟩
 ·skip
  refine cV rfl rfl (dC (aA IV rfl (aN rfl))) rfl ?_; clear hS
  rintro _ _ ⟨rfl, rfl⟩
  refine ⟨(aa (aa ag)), fun hS => ?_⟩
  refine bS 11 (by kernel_rfl) rfl rfl (iM jf jz wG rfl (eW rfl rfl gZ) rfl (by decide) (by decide) (by decide)) rfl ?_; clear hS
  rintro _ _ ⟨bb, rfl, rfl⟩
  rw [show ([cA (⟨k, e, r, l⟩ : Ln)] : List (List Value)).flatten = cA (⟨k, e, r, l⟩ : Ln) from List.append_nil _]
  refine ⟨(aa (aa ag)), fun hS => ?_⟩
  refine bS 12 (by kernel_rfl) rfl rfl (eV (sz := 7) (by_ := 56) (info := Tryz.t323) jf (by kernel_rfl) rfl rfl rfl rfl (by decide) rfl rfl eC rfl rfl (by simp only [maxLen]; omega) (by omega)) rfl ?_; clear hS
  rintro _ _ ⟨a3, c3, rfl, rfl⟩
  refine ⟨(aa (aa ag)), fun hS => ?_⟩
  refine ah 13 2 hS ?_
  refine bU 15 rfl rfl (bA uc rfl rfl rfl (Nat.le_of_ble_eq_true rfl) SetL.eq) (aa (aa ag)) fun hS => ?_
  refine aK ?_
  refine aY ?_
  refine dU (fun _ : Unit => True) (fun _ => [(0, .pointer (some ⟨b, 0, none⟩)), (3, .int .i64 r), (4, .int .i64 l), (12, .slice af fr.length cf)]) (fun _ => bL b (iB k L ++ [(⟨k, e, r, l⟩ : Ln)]) :: osl 3 1 (.slice af fr.length cf) (fr.flatMap iI) :: R) ?_ ?_
  ·skip
   refine au 10 ?_
   refine a8 rfl (fun c9 => ?_) fun c9 => ?_
   ·have hfm : (M.flatMap cA ++ cA (⟨k, e, r, l⟩ : Ln)) = (M ++ [(⟨k, e, r, l⟩ : Ln)]).flatMap cA := by rw [List.flatMap_append, List.flatMap_singleton]
    refine sI (E := 323) (sz := 7) (a := a3) (c := c3) (n := M.length + 1) (ys := M.flatMap cA ++ cA (⟨k, e, r, l⟩ : Ln)) (fun hf => ?_)
    obtain ⟨g, rfl⟩ := sZ hf (by simp [cA])
    refine xw (E := 323) (sz := 7) (a := some ⟨g, 0, none⟩) (c := c3) (n := M.length + 1) (fun hcap => ?_)
    refine lB (E := 323) (sz := 7) (a := some ⟨g, 0, none⟩) (c := c3) (n := M.length + 1) cA (M ++ [(⟨k, e, r, l⟩ : Ln)]) lk (by decide) hfm (fun hs => ?_)
    refine au 6 ?_
    refine a7 rfl (td (o' := 0 + 7) jf jz rfl rfl (i := 1) rfl (by omega) (by omega) rfl) ?_
    refine aB rfl (aD call405 rfl (H6 ((M ++ [(⟨k, e, r, l⟩ : Ln)]).tail) (some ⟨g, 0 + 7, none⟩) (M.length + 1 - 1) (c3 - 1) (by simp) (by omega) (H7 hs rfl))) ?_
    rintro _ B_ ⟨a4, c4, rfl, hB_⟩
    obtain rfl := hB_.symm
    refine au 2 ?_
    refine aE 2 (bA uc rfl rfl rfl (Nat.le_of_ble_eq_true rfl) SetL.eq) ?_
    refine cj () ?_ (he := ?_)
    ·trivial
    have hne : M ≠ [] := by intro q; rw [q] at c9; simp at c9
    have htl : (M ++ [(⟨k, e, r, l⟩ : Ln)]).tail = M.tail ++ [(⟨k, e, r, l⟩ : Ln)] := List.tail_append_of_ne_nil hne
    rw [hO, if_pos (by omega), ← htl]
    exact Ent.trans (B := pt b (ac [.slice a4 (M.length + 1 - 1) c4, .bool true] 394) :: osl 323 7 (.slice a4 (M.length + 1 - 1) c4) ((M ++ [(⟨k, e, r, l⟩ : Ln)]).tail.flatMap cA) :: osl 3 1 (.slice af fr.length cf) (fr.flatMap iI) :: R) inferInstance (oR (b := b) (by simp))
   refine au 2 ?_
   refine cj () ?_ (he := ?_)
   ·trivial
   rw [hO, if_neg (by omega)]
   have hfm : (M.flatMap cA ++ cA (⟨k, e, r, l⟩ : Ln)) = (M ++ [(⟨k, e, r, l⟩ : Ln)]).flatMap cA := by rw [List.flatMap_append, List.flatMap_singleton]
   rw [hfm]
   exact Ent.trans (B := pt b (ac [.slice a3 (M.length + 1) c3, .bool true] 394) :: osl 323 7 (.slice a3 (M.length + 1) c3) ((M ++ [(⟨k, e, r, l⟩ : Ln)]).flatMap cA) :: osl 3 1 (.slice af fr.length cf) (fr.flatMap iI) :: R) inferInstance (oR (b := b) (by simp))
  intro _ _
  refine au 5 ?_
  refine ar 10 (ao call406 rfl (H5 b (iB k L) (⟨k, e, r, l⟩ : Ln) (by simp; omega) hOm r l)) ?_
  refine aJ ?_
  exact ⟨_, ⟨af, cf, rfl, rfl⟩, inferInstance⟩
 skip
 refine cV rfl rfl (iM jf jz wG rfl (eW rfl rfl gZ) rfl (by decide) (by decide) (by decide)) rfl ?_; clear hS
 rintro _ _ ⟨bb, rfl, rfl⟩
 rw [show ([cA (⟨k, e, r, l⟩ : Ln)] : List (List Value)).flatten = cA (⟨k, e, r, l⟩ : Ln) from List.append_nil _]
 refine ⟨(aa (aa ag)), fun hS => ?_⟩
 refine bF 4 rfl rfl (dC (aA IV rfl (aN rfl))) (aa (aa ag)) fun hS => ?_
 refine bS 12 (by kernel_rfl) rfl rfl (eV (sz := 7) (by_ := 56) (info := Tryz.t323) jf (by kernel_rfl) rfl rfl rfl rfl (by decide) rfl rfl eC rfl rfl (by simp only [maxLen]; omega) (by omega)) rfl ?_; clear hS
 rintro _ _ ⟨a3, c3, rfl, rfl⟩
 refine ⟨(aa (aa ag)), fun hS => ?_⟩
 refine ah 13 2 hS ?_
 refine bU 15 rfl rfl (bA uc rfl rfl rfl (Nat.le_of_ble_eq_true rfl) SetL.eq) (aa (aa ag)) fun hS => ?_
 refine aK ?_
 refine aY ?_
 refine dU (fun _ : Unit => True) (fun _ => [(0, .pointer (some ⟨b, 0, none⟩)), (3, .int .i64 r), (4, .int .i64 l), (12, .slice af fr.length cf)]) (fun _ => bL b (iB k L ++ [(⟨k, e, r, l⟩ : Ln)]) :: osl 3 1 (.slice af fr.length cf) (fr.flatMap iI) :: R) ?_ ?_
 ·skip
  refine au 10 ?_
  refine a8 rfl (fun c9 => ?_) fun c9 => ?_
  ·have hfm : (M.flatMap cA ++ cA (⟨k, e, r, l⟩ : Ln)) = (M ++ [(⟨k, e, r, l⟩ : Ln)]).flatMap cA := by rw [List.flatMap_append, List.flatMap_singleton]
   refine sI (E := 323) (sz := 7) (a := a3) (c := c3) (n := M.length + 1) (ys := M.flatMap cA ++ cA (⟨k, e, r, l⟩ : Ln)) (fun hf => ?_)
   obtain ⟨g, rfl⟩ := sZ hf (by simp [cA])
   refine xw (E := 323) (sz := 7) (a := some ⟨g, 0, none⟩) (c := c3) (n := M.length + 1) (fun hcap => ?_)
   refine lB (E := 323) (sz := 7) (a := some ⟨g, 0, none⟩) (c := c3) (n := M.length + 1) cA (M ++ [(⟨k, e, r, l⟩ : Ln)]) lk (by decide) hfm (fun hs => ?_)
   refine au 6 ?_
   refine a7 rfl (td (o' := 0 + 7) jf jz rfl rfl (i := 1) rfl (by omega) (by omega) rfl) ?_
   refine aB rfl (aD call405 rfl (H6 ((M ++ [(⟨k, e, r, l⟩ : Ln)]).tail) (some ⟨g, 0 + 7, none⟩) (M.length + 1 - 1) (c3 - 1) (by simp) (by omega) (H7 hs rfl))) ?_
   rintro _ B_ ⟨a4, c4, rfl, hB_⟩
   obtain rfl := hB_.symm
   refine au 2 ?_
   refine aE 2 (bA uc rfl rfl rfl (Nat.le_of_ble_eq_true rfl) SetL.eq) ?_
   refine cj () ?_ (he := ?_)
   ·trivial
   have hne : M ≠ [] := by intro q; rw [q] at c9; simp at c9
   have htl : (M ++ [(⟨k, e, r, l⟩ : Ln)]).tail = M.tail ++ [(⟨k, e, r, l⟩ : Ln)] := List.tail_append_of_ne_nil hne
   rw [hO, if_pos (by omega), ← htl]
   exact Ent.trans (B := pt b (ac [.slice a4 (M.length + 1 - 1) c4, .bool true] 394) :: osl 323 7 (.slice a4 (M.length + 1 - 1) c4) ((M ++ [(⟨k, e, r, l⟩ : Ln)]).tail.flatMap cA) :: osl 3 1 (.slice af fr.length cf) (fr.flatMap iI) :: R) inferInstance (oR (b := b) (by simp))
  refine au 2 ?_
  refine cj () ?_ (he := ?_)
  ·trivial
  rw [hO, if_neg (by omega)]
  have hfm : (M.flatMap cA ++ cA (⟨k, e, r, l⟩ : Ln)) = (M ++ [(⟨k, e, r, l⟩ : Ln)]).flatMap cA := by rw [List.flatMap_append, List.flatMap_singleton]
  rw [hfm]
  exact Ent.trans (B := pt b (ac [.slice a3 (M.length + 1) c3, .bool true] 394) :: osl 323 7 (.slice a3 (M.length + 1) c3) ((M ++ [(⟨k, e, r, l⟩ : Ln)]).flatMap cA) :: osl 3 1 (.slice af fr.length cf) (fr.flatMap iI) :: R) inferInstance (oR (b := b) (by simp))
 intro _ _
 refine au 5 ?_
 refine ar 10 (ao call406 rfl (H5 b (iB k L) (⟨k, e, r, l⟩ : Ln) (by simp; omega) hOm r l)) ?_
 refine aJ ?_
 exact ⟨_, ⟨af, cf, rfl, rfl⟩, inferInstance⟩
def tN (pg : List Pl) (n : Int) : Int := if gG n then (if aP pg n then 0 else 3) else 1
def fA (pg : List Pl) (n : Int) : List Pl := if aP pg n then pg.set n.toNat (0, 0) else pg
theorem H8 {pg : List Pl} {n : Int} (h : aP pg n = true) : gG n = true := by
 simp only [aP, Bool.and_eq_true] at h; exact h.1
theorem H9 {pg : List Pl} {n : Int} (h : Pgs pg) : Pgs (fA pg n) := by
 unfold fA; split
 ·refine ⟨by simp [h.len], fun m hm hne => ?_⟩
  unfold eL at hne ⊢
  by_cases e : n.toNat = m
  ·subst e
   simp only [List.getD_eq_getElem?_getD, List.getElem?_set, if_true] at hne
   rw [if_pos (by rw [h.len]; exact hm)] at hne
   exact absurd rfl hne
  simp only [List.getD_eq_getElem?_getD, List.getElem?_set_ne e] at hne ⊢
  have := h.ok m hm
  unfold eL at this
  simp only [List.getD_eq_getElem?_getD] at this
  exact this hne
 exact h
theorem Ha (b : Nat) (pg : List Pl) (h : Pgs pg) (n : Int) : sQ W0 50 [.pointer (some ⟨b, 0, none⟩), .int .i64 n] (pt b (bJ pg) :: R) (.int .i64 (tN pg n)) (pt b (bJ (fA pg n)) :: R) := by
 have hl := h.len
 refine ai 10 JA ntmps50 ?_
 refine ar 3 (ao zr rfl (uQ b pg h)) ?_
 refine a8 rfl (fun c1 => ?_) fun c1 => ?_
 ·exact absurd c1 (by decide)
 refine au 3 ?_
 refine ar 4 (aD zq rfl (uR n)) ?_
 refine a8 rfl (fun c3 => ?_) fun c3 => ?_
 ·refine au 8 ?_
  refine ae ?_
  have hp : gG n = false := by simpa using c3
  have ht : aP pg n = false := by simp [aP, hp]
  exact ⟨_, ⟨by simp [bz, tN, hp], by rw [fA, ht, if_neg (by decide)]⟩, inferInstance⟩
 have hp : gG n = true := by simpa using c3
 refine au 4 ?_
 refine ar 4 (ao Jz rfl (AC b pg h n)) ?_
 refine a8 rfl (fun c5 => ?_) fun c5 => ?_
 ·refine au 8 ?_
  refine ae ?_
  have ht : aP pg n = false := by simpa using c5
  exact ⟨_, ⟨by simp [bz, tN, hp, ht], by rw [fA, ht, if_neg (by decide)]⟩, inferInstance⟩
 have ht : aP pg n = true := by simpa using c5
 obtain ⟨i, rfl, hi⟩ := jq hp
 refine au 7 ?_
 refine ap 2 (bq mX jh (am aj (am aj bj)) bi) ?_
 refine a7 rfl (dI ww fm rfl rfl rfl hi (by first | exact Nat.zero_add _ | rfl)) ?_
 refine aE 8 (ed fm rfl rfl rfl rfl (by rw [EE, hl]; omega) (AB (p := (0, 0)) (by omega))) ?_
 refine ae ?_
 rw [show fA pg i = pg.set i (0, 0) by rw [fA, if_pos ht, Int.toNat_natCast]]
 exact ⟨_, ⟨by simp [bz, tN, hp, ht], rfl⟩, inferInstance⟩
theorem yC {fr : List aC} {pg : List Pl} {va : Nat} {a : Int} : j5 fr pg va a = true ↔ eY fr.length pg a (va / 1024) = true ∧ qS (eM fr pg a (va / 1024)) = 0 := by simp [j5]
structure WkOkM (fr : List aC) (pg : List Pl) (root : Int) (va : Nat) : Prop where
  lim : va < 16384
  rb : j5 fr pg va root = true
  lt : eY fr.length pg (fy fr pg va root) (va / 64) = true
  eq : cu fr pg root va = ⟨oi (eM fr pg (fy fr pg va root) (va / 64)), oj (eM fr pg (fy fr pg va root) (va / 64)), ol (eM fr pg (fy fr pg va root) (va / 64)), 0, root, fy fr pg va root⟩
  lf : om (eM fr pg (fy fr pg va root) (va / 64)) = 0
theorem yD {fr : List aC} {pg : List Pl} {root : Int} {va : Nat} (h : (cu fr pg root va).fault = 0) : WkOkM fr pg root va := by
 unfold cu at h
 by_cases h1 : va < 16384
 ·rw [if_pos h1] at h
  by_cases h2 : j5 fr pg va root = true
  ·rw [if_pos h2] at h
   have hb := yC.1 h2
   simp only [eZ, oz] at h
   by_cases h3 : eY fr.length pg (fy fr pg va root) (va / 64) = true
   ·rw [if_pos h3] at h
    refine ⟨h1, h2, h3, ?_, h⟩
    rw [cu, if_pos h1, if_pos h2]
    simp only [eZ, oz]
    rw [if_pos h3, kB, if_pos hb.1]
    simp only [oy]
    rw [show om (eM fr pg (fy fr pg va root) (va / 64)) = 0 from h]
   rw [if_neg h3] at h
   exact absurd h (by show ¬ (3 : Int) = 0; decide)
  rw [if_neg h2] at h
  simp only [eZ, kB] at h
  by_cases h3 : eY fr.length pg root (va / 1024) = true
  ·rw [if_pos h3] at h
   exact absurd (yC.2 ⟨h3, h⟩) h2
  rw [if_neg h3] at h
  exact absurd h (by show ¬ (3 : Int) = 0; decide)
 rw [if_neg h1] at h
 simp only [eZ] at h
 rw [if_neg h1] at h
 exact absurd h (by show ¬ (2 : Int) = 0; decide)
def vI (fr : List aC) (pg : List Pl) (fr' : List aC) (pg' : List Pl) (t : Int) : Prop := ∀ i, eY fr'.length pg' t i = eY fr.length pg t i ∧ eM fr' pg' t i = eM fr pg t i
theorem Vg {fr fr' : List aC} {pg pg' : List Pl} {root : Int} {va : Nat} (h : WkOkM fr pg root va) (h1 : vI fr pg fr' pg' root) (h2 : vI fr pg fr' pg' (fy fr pg va root)) : cu fr' pg' root va = cu fr pg root va := by
 have ea : fy fr' pg' va root = fy fr pg va root := by unfold fy; rw [(h1 _).1, (h1 _).2]
 have eb : j5 fr' pg' va root = j5 fr pg va root := by unfold j5; rw [(h1 _).1, (h1 _).2]
 have es : ∀ s, kB fr' pg' va root s = kB fr pg va root s := fun s => by unfold kB; rw [(h1 _).1, (h1 _).2]
 rw [cu, cu, if_pos h.lim, if_pos h.lim, eb, h.rb, if_pos rfl, if_pos rfl]
 simp only [eZ]
 rw [ea, es]
 unfold oz
 rw [(h2 _).1, (h2 _).2]
theorem Hb {t i j : Nat} (h : j < 4) : (64 * t + 4 * (i % 16) + j) / 64 = t := by omega
theorem BU {fr : List aC} {pg : List Pl} {t : Int} {i : Nat} (h : eY fr.length pg t i = true) : aP pg t = true := by
 obtain ⟨h1, h2⟩ := r9.1 h
 obtain ⟨k, rfl⟩ : ∃ k : Nat, t = (k : Int) := ⟨t.toNat, by omega⟩
 have := (xt.1 h2).2 0 (by decide)
 rw [show mz (fV (k : Int) i + 0) = (k : Int) by rw [show fV (k : Int) i = 64 * k + 4 * (i % 16) from rfl, mz, Hb (by decide)]] at this
 exact (Q6.1 this).1
theorem BV {fr fr' : List aC} {pg pg' : List Pl} {t : Int} (hl : fr'.length = fr.length) (ht : aP pg' t = aP pg t) (hg : cm pg' t = cm pg t) (hd : aP pg t = true → ∀ o : Nat, o < 64 → kx fr' (cm pg t).1 o 1 = kx fr (cm pg t).1 o 1) : vI fr pg fr' pg' t := by
 intro i
 by_cases h0 : 0 ≤ t ∧ t < 8
 ·obtain ⟨k, rfl⟩ : ∃ k : Nat, t = (k : Int) := ⟨t.toNat, by omega⟩
  have hpa : fV (k : Int) i = 64 * k + 4 * (i % 16) := rfl
  have hpg : ∀ j, j < 4 → mz (fV (k : Int) i + j) = (k : Int) := fun j hj => by
   rw [hpa, mz, Hb hj]
  have hown : kz fr'.length pg' (fV (k : Int) i) 4 = kz fr.length pg (fV (k : Int) i) 4 := by
   have e : ∀ j, j < 4 → m4 fr'.length pg' (mz (fV (k : Int) i + j)) = m4 fr.length pg (mz (fV (k : Int) i + j)) := fun j hj => by
    rw [hpg j hj, m4, m4, ht, hg, hl]
   unfold kz
   congr 1
   apply decide_eq_decide.2
   unfold mB
   constructor
   ·intro q j hj; rw [← e j hj]; exact q j hj
   intro q j hj; rw [e j hj]; exact q j hj
  have hb : eY fr'.length pg' (k : Int) i = eY fr.length pg (k : Int) i := by unfold eY; rw [hown]
  refine ⟨hb, ?_⟩
  unfold eM
  rw [hb]
  by_cases hbt : eY fr.length pg (k : Int) i = true
  case neg => rw [if_neg hbt, if_neg hbt]
  have hr : kA fr' pg' (fV (k : Int) i) 4 = kA fr pg (fV (k : Int) i) 4 := by
   unfold kA
   apply List.map_congr_left
   intro j hj
   have hj := List.mem_range.1 hj
   unfold ot oq
   rw [hpg j hj, hg]
   exact hd (BU hbt) _ (Nat.mod_lt _ (by decide))
  rw [hr]
 have h1 : ∀ n p, eY n p t i = false := fun n p => by unfold eY; rw [decide_eq_false h0, Bool.false_and]
 refine ⟨by rw [h1, h1], ?_⟩
 unfold eM; rw [h1, h1, if_neg (by decide), if_neg (by decide)]
theorem Vh {fr : List aC} {f f' off w o k : Int} {x : Nat} (h : f' ≠ f) : kx (eK fr f off w x) f' o k = kx fr f' o k := by
 unfold eK
 split
 ·rename_i hs
  simp only [jo, Bool.and_eq_true] at hs
  obtain ⟨i, rfl, hi⟩ := oo hs.1
  unfold kx
  rw [List.length_set]
  split
  ·rename_i hf
   obtain ⟨j, rfl, hj⟩ := oo hf
   rw [Int.toNat_natCast, Int.toNat_natCast]
   congr 1
   simp only [List.getD_eq_getElem?_getD]
   rw [List.getElem?_set_ne (by omega)]
  rfl
 rfl
structure LOk (fr : List aC) (pg : List Pl) (d : Nat) (x : Ln) : Prop where
  own : (0 ≤ x.rt ∧ x.rt < 8) ∧ (0 ≤ x.lf ∧ x.lf < 8)
  at_ : aP pg x.e.1 = true ∧ (cm pg x.e.1).1 = x.e.2.1
  al : ∀ k, mw k = true → ee x.e.2.2 (j4 k) = true → fZ pg x.e.1 k = 0
  r : 0 ≤ x.e.2.2 ∧ x.e.2.2 < 16
  wk : Nat.testBit d x.rt.toNat = false → Nat.testBit d x.lf.toNat = false → ∀ va, va < 16384 → ((va / 64 : Nat) : Int) = x.k.2 → WkOkM fr pg x.k.1 va ∧ x.k.1 = x.rt ∧ fy fr pg va x.k.1 = x.lf ∧ (cu fr pg x.k.1 va).on = true ∧ (cu fr pg x.k.1 va).p = x.e.1 ∧ ∀ c, c = 1 ∨ c = 2 ∨ c = 4 ∨ c = 8 → ee x.e.2.2 c = true → ee (cu fr pg x.k.1 va).r c = true
theorem Vi {pg pg' : List Pl} {n : Int} (ht : aP pg n = true) (ht' : aP pg' n = true) (hg : cm pg' n = cm pg n) (k : Int) : fZ pg' n k = fZ pg n k := by
 rw [cm, cm, if_pos ht, if_pos ht'] at hg
 rw [fZ, fZ, ht, ht', if_pos rfl, if_pos rfl, hg]
theorem LOk.move {fr fr' : List aC} {pg pg' : List Pl} {d d' : Nat} {x : Ln} (h : LOk fr pg d x) (ht : aP pg' x.e.1 = true) (hg : cm pg' x.e.1 = cm pg x.e.1)
  (hs : ∀ t, t = x.rt ∨ t = x.lf → Nat.testBit d' t.toNat = false → Nat.testBit d t.toNat = false ∧ (aP pg t = true → vI fr pg fr' pg' t)) : LOk fr' pg' d' x := by
 refine ⟨h.own, ⟨ht, by rw [hg]; exact h.at_.2⟩, fun k hk hb => ?_, h.r, fun h1 h2 va hva hk => ?_⟩
 ·rw [Vi h.at_.1 ht hg]; exact h.al k hk hb
 obtain ⟨a1, b1⟩ := hs x.rt (.inl rfl) h1
 obtain ⟨a2, b2⟩ := hs x.lf (.inr rfl) h2
 obtain ⟨q1, q2, q3, q4, q5, q6⟩ := h.wk a1 a2 va hva hk
 have e := Vg q1 (by rw [q2]; exact b1 (by rw [← q2]; exact BU (yC.1 q1.rb).1)) (by rw [q3]; exact b2 (by rw [← q3]; exact BU q1.lt))
 have ef : (cu fr' pg' x.k.1 va).fault = 0 := by rw [e, q1.eq]
 refine ⟨yD ef, q2, ?_, by rw [e]; exact q4, by rw [e]; exact q5, fun c hc hb => by rw [e]; exact q6 c hc hb⟩
 have e2 := (yD ef).eq
 rw [e, q1.eq] at e2
 have := congrArg WS.leaf e2
 rw [← q3]; exact this.symm
theorem LOk.clean {fr : List aC} {pg : List Pl} {d : Nat} {x : Ln} (h : LOk fr pg d x) (hc : ∀ n ∈ gH d 12, x.thr ((n : Nat) : Int) = false) : LOk fr pg 0 x := by
 refine ⟨h.own, h.at_, h.al, h.r, fun _ _ => h.wk ?_ ?_⟩
 ·rw [← Bool.not_eq_true]; intro q
  have := hc x.rt.toNat (by rw [gH, List.mem_filter, List.mem_range]; exact ⟨by have := h.own; omega, q⟩)
  rw [← Bool.not_eq_true, qf] at this
  exact this (.inl (by have := h.own; omega))
 rw [← Bool.not_eq_true]; intro q
 have := hc x.lf.toNat (by rw [gH, List.mem_filter, List.mem_range]; exact ⟨by have := h.own; omega, q⟩)
 rw [← Bool.not_eq_true, qf] at this
 exact this (.inr (by have := h.own; omega))
theorem LOk.nar {fr : List aC} {pg : List Pl} {d : Nat} {x : Ln} (h : LOk fr pg d x) : LOk fr pg d x.nar := by
 have hb : ∀ c, c = 1 ∨ c = 2 ∨ c = 4 ∨ c = 8 → ee x.nar.e.2.2 c = true → ee x.e.2.2 c = true := fun c hc hq => by
  obtain ⟨n, hn⟩ : ∃ n : Nat, x.e.2.2 = (n : Int) := ⟨x.e.2.2.toNat, by have := h.r; omega⟩
  have hlt : n < 16 := by have := h.r; omega
  have e1 : x.nar.e.2.2 = et x.e.2.2 := rfl
  rw [e1, hn] at hq
  rw [hn]
  have key : ∀ n : Nat, n < 16 → ∀ c : Int, c = 1 ∨ c = 2 ∨ c = 4 ∨ c = 8 → ee (et (n : Int)) c = true → ee (n : Int) c = true := by
   intro n hn c hc
   have : n = 0 ∨ n = 1 ∨ n = 2 ∨ n = 3 ∨ n = 4 ∨ n = 5 ∨ n = 6 ∨ n = 7 ∨ n = 8 ∨ n = 9 ∨ n = 10 ∨ n = 11 ∨ n = 12 ∨ n = 13 ∨ n = 14 ∨ n = 15 := by omega
   rcases this with rfl | rfl | rfl | rfl | rfl | rfl | rfl | rfl | rfl | rfl | rfl | rfl | rfl | rfl | rfl | rfl <;> rcases hc with rfl | rfl | rfl | rfl <;> decide
  exact key n hlt c hc hq
 refine ⟨h.own, h.at_, fun k hk hq => h.al k hk (hb _ ?_ hq), ?_, fun h1 h2 va hva hk => ?_⟩
 ·unfold j4
  have := of_decide_eq_true hk
  rcases this with rfl | rfl | rfl
  ·exact .inr (.inr (.inl rfl))
  ·exact .inl rfl
  exact .inr (.inl rfl)
 ·show 0 ≤ et x.e.2.2 ∧ et x.e.2.2 < 16
  have := h.r
  unfold et; split
  ·rename_i hw
   have := of_decide_eq_true hw
   omega
  exact h.r
 obtain ⟨q1, q2, q3, q4, q5, q6⟩ := h.wk h1 h2 va hva hk
 exact ⟨q1, q2, q3, q4, q5, fun c hc hq => q6 c hc (hb c hc hq)⟩
structure PlOk (n : Nat) (pg : List Pl) : Prop where
  rng : ∀ t, aP pg t = true → (cm pg t).1 < (n : Int)
  inj : ∀ s t, aP pg s = true → aP pg t = true → (cm pg s).1 = (cm pg t).1 → s = t
structure MOk (fr : List aC) (pg : List Pl) (d : Nat) (L : List Ln) (TL : List It) : Prop where
  F : cH fr
  dl : d < 4096
  P : Pgs pg
  pl : PlOk fr.length pg
  ti : TI L TL
  ln : ∀ x ∈ L, LOk fr pg d x
theorem MOk.save {fr : List aC} {pg : List Pl} {d d' : Nat} {L : List Ln} {TL : List It} (h : MOk fr pg d L TL) {p : Int} (hp : aP pg p = true) (off w : Int) (x : Nat) (hd' : d' < 4096)
  (hk : ∀ t : Nat, Nat.testBit d' t = false → Nat.testBit d t = false) (hno : ∀ y ∈ L, ∀ t, t = y.rt ∨ t = y.lf → Nat.testBit d' t.toNat = false → t ≠ p) : MOk (eK fr (cm pg p).1 off w x) pg d' L TL := by
 refine ⟨xo h.F, hd', h.P, by rw [uP]; exact h.pl, h.ti, fun y hy => ?_⟩
 have hl := h.ln y hy
 by_cases hc : Nat.testBit d' y.rt.toNat = false ∧ Nat.testBit d' y.lf.toNat = false
 ·refine hl.move hl.at_.1 rfl fun t ht hb => ⟨hk _ hb, fun _ => ?_⟩
  refine BV uP rfl rfl fun q o ho => ?_
  apply Vh
  intro e
  exact hno y hy t ht hb (h.pl.inj _ _ q hp e)
 refine ⟨hl.own, hl.at_, hl.al, hl.r, fun h1 h2 => absurd ⟨h1, h2⟩ hc⟩
abbrev cN (pv bt bs : Nat) : Obj := ac [.pointer (some ⟨pv, 0, none⟩), .pointer (some ⟨bt, 0, none⟩), .pointer (some ⟨bs, 0, none⟩)] 242
theorem vJ (bm pv bt bs : Nat) : sQ W0 116 [.pointer (some ⟨bm, 0, none⟩)] (pt bm (cN pv bt bs) :: R) (.bool false) (pt bm (cN pv bt bs) :: R) := by
 refine ai 10 func116 ntmps116 ?_
 refine bB rfl rfl rfl (fun g1_3 => ?_) fun g1_3 => ?_
 ·cases g1_3
 refine au 14 ?_
 exact ae aL
def lm (ks : List cT) (T : List It) : List It := ks.foldl (fun T k => i4 k T) T
theorem Hc {ks : List cT} : ∀ {T : List It} {y : It}, y ∈ lm ks T → y ∈ T ∧ y.key ∉ ks := by
 induction ks with
 | nil => intro T y h; exact ⟨h, by simp⟩
 | cons k ks ih =>
  intro T y h
  obtain ⟨h1, h2⟩ := ih (T := i4 k T) h
  obtain ⟨h3, h4⟩ := qe.1 h1
  refine ⟨h3, fun q => ?_⟩
  rcases List.mem_cons.1 q with q | q
  ·exact h4 q
  exact h2 q
theorem BW {ks : List cT} : ∀ {T : List It}, (lm ks T).length ≤ T.length := by
 induction ks with
 | nil => intro T; exact Nat.le_refl _
 | cons k ks ih => intro T; exact Nat.le_trans (ih (T := i4 k T)) (yp k T)
theorem Vj (ks : List cT) (k : cT) (T : List It) : lm (ks ++ [k]) T = i4 k (lm ks T) := by simp [lm, List.foldl_append]
theorem Hd (bm pv bt bs : Nat) (its : List It) (tr tw : Value) (now : Nat) (T : List It) (hR : Rep its now T) (hT : T.length ≤ 100) (a : Option Addr) (c : Nat) (ks : List cT) (hk : ks.length ≤ 1000) : sP W0 118 [.pointer (some ⟨bm, 0, none⟩), .slice a ks.length c] (pt bm (cN pv bt bs) :: aQ bt (its, [tr, tw, .bool true]) :: osl 314 2 (.slice a ks.length c) (ks.flatMap fH) :: R) (fun v B => v = .tuple #[] ∧ ∃ its', B = pt bm (cN pv bt bs) :: aQ bt (its', [tr, tw, .bool true]) :: osl 314 2 (.slice a ks.length c) (ks.flatMap fH) :: R ∧ Rep its' now (lm ks T)) := by
 refine ai 8 func118 ntmps118 ?_
 refine cY (fun X : Nat × List It => X.1 ≤ ks.length ∧ Rep X.2 now (lm (ks.take X.1) T)) (fun X => [(0, .pointer (some ⟨bm, 0, none⟩)), (6, .slice a ks.length c), (7, .int .i64 (ks.length : Nat)), (8, .int .i64 X.1)]) (fun X => pt bm (cN pv bt bs) :: aQ bt (X.2, [tr, tw, .bool true]) :: osl 314 2 (.slice a ks.length c) (ks.flatMap fH) :: R) (fun X => ks.length - X.1) (0, its) ?_ ?_
 ·exact ⟨Nat.zero_le _, hR⟩
 intro ⟨i, its1⟩ ⟨hi, hI⟩
 dsimp only at hi hI ⊢
 refine au 6 ?_
 refine a8 rfl (fun c1 => ?_) fun c1 => ?_
 ·refine au 5 ?_
  have hi1 : i < ks.length := by omega
  refine lB (E := 314) (sz := 2) (a := a) (c := c) (n := ks.length) fH ks (fun _ => rfl) (by decide) rfl (fun hs => ?_)
  obtain ⟨g, o, hga, hc⟩ := hs.at_ hi1
  obtain ⟨k, hk1⟩ : ∃ k, ks[i] = k := ⟨_, rfl⟩
  have htk : ks.take (i + 1) = ks.take i ++ [k] := by rw [List.take_succ_eq_append_getElem hi1, hk1]
  have hdl := BW (ks := ks.take i) (T := T)
  rw [hk1] at hc
  refine bQ ?_
  refine a7 rfl (dW CH g8 rfl hga rfl rfl hi1 (by first | exact Nat.zero_add _ | rfl)) ?_
  refine a7 rfl (b0 jP g8 rfl hc.weak rfl) ?_
  refine ax (aS De) fun bk => ?_
  refine aE 2 (aF g8 rfl rfl rfl rfl rfl) ?_
  refine aU [(bm, 0, _), (bk, 0, _)] 6 aT rfl (aa (aa ag)) (fun hS => ?_)
  refine ah 0 4 hS ?_
  refine av 4 rfl rfl rfl hS (b0 jP g8 rfl (by first | exact co (k := 0) rfl | exact co (k := 1) rfl) rfl) ?_
  refine bS 5 (by kernel_rfl) rfl rfl (ao Kd rfl (BH bt its1 tr now (lm (ks.take i) T) k hI (by omega) tw)) rfl ?_; clear hS
  rintro _ B_ ⟨rfl, its2, hB_, hR2⟩
  subst hB_
  refine ⟨(aa (aa ag)), fun hS => ?_⟩
  refine aK ?_
  refine au 3 ?_
  refine ap 3 (cM rfl rfl) ?_
  exact bZ (i + 1, its2) (⟨by omega, by rw [htk, Vj]; exact hR2⟩)
 refine au 4 ?_
 refine bT (.inr rfl) .nil ?_
 obtain rfl : i = ks.length := by omega
 rw [List.take_length] at hI
 exact ⟨_, ⟨rfl, its1, rfl, hI⟩, inferInstance⟩
@[reducible] def Vk (bm : Nat) (on : Bool) (root : Int) (user : Bool) (va : Nat) (kind : Int) : List Value := [.pointer (some ⟨bm, 0, none⟩), .bool on, .int .i64 root, .bool user, .int .u32 va, .int .i64 kind]
abbrev gO (bm : Nat) (on : Bool) (root : Int) (user : Bool) (va : Nat) (kind : Int) : Obj := ac (Vk bm on root user va kind) 399
def dw (root : Int) (va : Nat) : cT := (root, ((va / 64 : Nat) : Int))
theorem lQ (ba bm : Nat) (on : Bool) (root : Int) (user : Bool) (va : Nat) (hva : va < 4294967296) (kind : Int) : sQ W0 334 [.pointer (some ⟨ba, 0, none⟩)] (pt ba (gO bm on root user va kind) :: R) (.agg (fH (dw root va)).toArray) (pt ba (gO bm on root user va kind) :: R) := by
 refine ai 2 func334 ntmps334 ?_
 refine ax (aS De) fun b2 => ?_
 refine au 3 ?_
 refine aU [(ba, 0, _)] 13 aT rfl (aa ag) (fun hS => ?_)
 refine ah 0 9 hS ?_
 refine av 9 rfl rfl rfl hS (qE rfl rfl (by decide) ((congrArg (IntKind.wrap .u32) (uL va 64)).trans (eA (by omega)))) ?_
 refine av 10 rfl rfl rfl hS (cX dk cW rfl (aG (by omega))) ?_
 refine av 11 rfl rfl rfl hS (bq zJ De (am aj (am aj bj)) (aI rfl aj rfl rfl (Nat.le_of_ble_eq_true rfl) SetL.eq (aI rfl aj rfl rfl (Nat.le_of_ble_eq_true rfl) SetL.eq bi))) ?_
 refine bU 12 rfl rfl (aF g8 rfl rfl rfl rfl rfl) (aa ag) fun hS => ?_
 refine aK ?_
 refine au 2 ?_
 exact bY (.cons (cg jP g8 rfl rfl) .nil) aL
def kf (e : iA) (kind : Int) (user : Bool) : Bool := mw kind && (ee e.2.2 (j4 kind) && (!user || ee e.2.2 8)) && true
theorem tO (ba bm : Nat) (on : Bool) (root : Int) (user : Bool) (va : Nat) (kind : Int) (e : iA) : sQ W0 335 [.pointer (some ⟨ba, 0, none⟩), .agg (mb e).toArray] (pt ba (gO bm on root user va kind) :: R) (.bool (kf e kind user)) (pt ba (gO bm on root user va kind) :: R) := by
 refine ai 2 func335 ntmps335 ?_
 refine ax (aV rfl) fun b3 => ?_
 refine au 4 ?_
 refine aU [(b3, 0, _), (ba, 0, _)] 16 aT rfl (aa (aa ag)) (fun hS => ?_)
 refine ah 0 4 hS ?_
 refine av 4 rfl rfl rfl hS (bq wq pn (am bI (am aj (am aj bj))) (aI rfl bI rfl rfl (Nat.le_of_ble_eq_true rfl) SetL.eq (aI rfl aj rfl rfl (Nat.le_of_ble_eq_true rfl) SetL.eq (aI rfl aj rfl rfl (Nat.le_of_ble_eq_true rfl) SetL.eq bi)))) ?_
 refine ah 5 9 hS ?_
 refine bF 14 rfl rfl (aD call332 rfl (Ep true e.2.2 e.1 kind user)) (aa (aa ag)) fun hS => ?_
 refine ah 15 1 hS ?_
 refine aK ?_
 refine au 2 ?_
 exact ae aL
@[reducible] def yE (p f : Int) (o : Nat) (fast : Bool) : List Value := [.int .i64 p, .int .i64 f, .int .i64 (o : Nat), .bool fast]
theorem tP (ba bm : Nat) (on : Bool) (root : Int) (user : Bool) (va : Nat) (hva : va < 4294967296) (kind : Int) (e : iA) (fast : Bool) : sQ W0 336 [.pointer (some ⟨ba, 0, none⟩), .agg (mb e).toArray, .bool fast] (pt ba (gO bm on root user va kind) :: R) (.agg (yE e.1 e.2.1 (va % 64) fast).toArray) (pt ba (gO bm on root user va kind) :: R) := by
 refine ai 2 func336 ntmps336 ?_
 refine ax (aV rfl) fun b4 => ?_
 refine ax (aS ez) fun b6 => ?_
 refine au 3 ?_
 refine aU [(b4, 0, _), (ba, 0, _)] 13 aT rfl (aa (aa ag)) (fun hS => ?_)
 refine ah 0 8 hS ?_
 refine av 8 rfl rfl rfl hS (fJ rfl rfl (F7 hva)) ?_
 refine av 9 rfl rfl rfl hS (cX dk cW rfl (aG (by omega))) ?_
 refine ah 10 1 hS ?_
 refine av 11 rfl rfl rfl hS (bq ib ez (am aj (am aj (am aj (am bI bj)))) (aI rfl aj rfl rfl (Nat.le_of_ble_eq_true rfl) SetL.eq (aI rfl aj rfl rfl (Nat.le_of_ble_eq_true rfl) SetL.eq (aI rfl aj rfl rfl (Nat.le_of_ble_eq_true rfl) SetL.eq (aI rfl bI rfl rfl (Nat.le_of_ble_eq_true rfl) SetL.eq bi))))) ?_
 refine bU 12 rfl rfl (aF cB rfl rfl rfl rfl rfl) (aa (aa ag)) fun hS => ?_
 refine aK ?_
 refine au 2 ?_
 exact bY (.cons (cg ew cB rfl rfl) .nil) aL
end
end Go.Proofs.YtedopnjjkddhaaaGreatDoor
