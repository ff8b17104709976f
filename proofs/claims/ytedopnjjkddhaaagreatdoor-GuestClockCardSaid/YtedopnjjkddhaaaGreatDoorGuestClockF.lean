/-
  Part 6 of the proof of GuestClock: rules, and walks of functions. Conditions: none.
-/
import Derived.Test.YtedopnjjkddhaaaGreatDoorGuestClockE
namespace Go.Proofs.YtedopnjjkddhaaaGreatDoor
open Go.Proofs.Tryz
set_option linter.unusedSimpArgs false
set_option linter.unusedVariables false
set_option maxRecDepth 20000
set_option linter.defProp false
set_option synthInstance.maxSize 8192
set_option synthInstance.maxHeartbeats 2000000
variable {W0 : World} {R : List HP}
section
open Go.RowKit
structure TIt where
  d : Int
  s : Int
  i : Int
  hs : 0 ≤ s ∧ s < 10000000000000000000
instance : Hk TIt where
  default := ⟨0, 0, 0, by decide⟩
  ky := fun x => x.s + x.d * 100000000000000000000
@[reducible] def fB (x : TIt) : List Value := [.int .i64 x.d, .int .i64 x.s, .int .i64 x.i]
theorem jM (x : TIt) : (fB x).length = 3 := rfl
theorem Xp (its : List TIt) (sp : List Value) (i j : Nat) (hi : i < its.length) (hj : j < 3) : (its.flatMap fB ++ sp)[i * 3 + j]? = (fB (its.getD i default))[j]? := by
 rw [ly jM its i j sp hi hj]; simp [List.getD, hi]
theorem rQ (its : List TIt) (sp : List Value) (i : Nat) (hi : i < its.length) : ((its.flatMap fB ++ sp).drop (i * 3)).take 3 = fB (its.getD i default) := by
 rw [pC jM its i sp hi]; simp [List.getD, hi]
theorem yQ (its : List TIt) (sp : List Value) (i : Nat) (x : TIt) (hi : i < its.length) : setR (its.flatMap fB ++ sp) (i * 3) (fB x) = (its.set i x).flatMap fB ++ sp := sB jM its i x sp hi
theorem yR (its : List TIt) (sp : List Value) (i : Nat) (hi : i < its.length) : i * 3 + 3 ≤ (its.flatMap fB ++ sp).length := by
 rw [List.length_append, cz jM]; omega
theorem I5 {its : List TIt} {i : Nat} (h : i < its.length) : its ≠ [] := fun e => by rw [e] at h; simp at h
abbrev dZ : Nat → List TIt × List Value → HP := l5 148 154 3 fB 0
abbrev jy (b : Nat) : Value := .pointer (some ⟨b, 0, none⟩)
theorem I6 (b : Nat) (its : List TIt) (cs : List Value) : sQ W0 207 [jy b] (dZ b (its, cs) :: R) (.int .i64 (its.length : Nat)) (dZ b (its, cs) :: R) := by
 refine pQ fun a c ho => ?_
 refine ai 10 func207 ntmps207 ?_
 refine ap 5 (aA mp rfl (aN (dP ho))) ?_
 refine ae ?_
 exact ⟨_, ⟨rfl, rfl⟩, l6 rfl rfl ho rfl⟩
theorem I7 (x y : TIt) : sQ W0 491 [.agg #[.int .i64 x.d, .int .i64 x.s], .agg #[.int .i64 y.d, .int .i64 y.s]] R (.bool (decide (Hk.ky x < Hk.ky y))) R := by
 have e1 : Hk.ky x = x.s + x.d * 100000000000000000000 := rfl
 have e2 : Hk.ky y = y.s + y.d * 100000000000000000000 := rfl
 have b1 := x.hs
 have b2 := y.hs
 refine ai 2 func491 ntmps491 ?_
 refine ax (aV rfl) fun b1 => ?_
 refine ax (aV rfl) fun b2 => ?_
 refine au 13 ?_
 refine a8 rfl (fun c1 => ?_) fun c1 => ?_
 ·refine au 12 ?_
  refine ae ?_
  rw [e1, e2]
  refine ⟨_, ⟨congrArg Value.bool ?_, rfl⟩, inferInstance⟩
  rw [Bool.eq_iff_iff, decide_eq_true_iff, decide_eq_true_iff]
  have : x.d ≠ y.d := by simpa using c1
  omega
 refine au 13 ?_
 refine ae ?_
 rw [e1, e2]
 refine ⟨_, ⟨congrArg Value.bool ?_, rfl⟩, inferInstance⟩
 rw [Bool.eq_iff_iff, decide_eq_true_iff, decide_eq_true_iff]
 have : x.d = y.d := by simpa using c1
 omega
theorem Xq (b : Nat) (its : List TIt) (cs : List Value) (i k : Nat) (hi : i < its.length) (hk : k < its.length) : sQ W0 487 [jy b, .int .i64 i, .int .i64 k] (dZ b (its, cs) :: R) (.bool (decide (Hp.us its i < Hp.us its k))) (dZ b (its, cs) :: R) := by
 refine nz jM (I5 hi) (by decide) fun g c sp ho h1 h2 h3 => ?_
 obtain ⟨x, hx⟩ : ∃ x, its.getD i default = x := ⟨_, rfl⟩
 obtain ⟨y, hy⟩ : ∃ y, its.getD k default = y := ⟨_, rfl⟩
 have rx := congrArg (fun l => l.take 2) (rQ its sp i hi)
 have ry := congrArg (fun l => l.take 2) (rQ its sp k hk)
 rw [hx, List.take_take] at rx
 rw [hy, List.take_take] at ry
 rw [show Hp.us its i = Hk.ky x by rw [Hp.us, hx], show Hp.us its k = Hk.ky y by rw [Hp.us, hy]]
 refine ai 6 func487 ntmps487 ?_
 refine aU [(b, 0, _), (g, 0, _)] 18 aT rfl (aa (aa ag)) (fun hS => ?_)
 refine ah 0 3 hS ?_
 refine av 3 rfl rfl rfl hS (aA mp rfl (dv (k := 0) rfl (dP ho))) ?_
 refine ah 4 1 hS ?_
 refine av 5 rfl rfl rfl hS (bc ko gB rfl rfl rfl hi (by first | exact Nat.zero_add _ | rfl)) ?_
 refine ah 6 1 hS ?_
 refine ah 8 3 hS ?_
 refine av 11 rfl rfl rfl hS (aA mp rfl (dv (k := 0) rfl (dP ho))) ?_
 refine ah 12 1 hS ?_
 refine av 13 rfl rfl rfl hS (bc ko gB rfl rfl rfl hk (by first | exact Nat.zero_add _ | rfl)) ?_
 refine ah 14 1 hS ?_
 refine eJ (is := [7, 15]) (by kernel_rfl) rfl ⟨?_, ?_, trivial⟩
 ·skip
  refine cV rfl rfl (dC (b0 Do ub rfl (cC (vs := [.int .i64 x.d, .int .i64 x.s]) rx rfl) rfl)) rfl ?_; clear hS
  rintro _ _ ⟨rfl, rfl⟩
  refine ⟨(aa (aa ag)), fun hS => ?_⟩
  refine bF 15 rfl rfl (dC (b0 Do ub rfl (cC (vs := [.int .i64 y.d, .int .i64 y.s]) ry rfl) rfl)) (aa (aa ag)) fun hS => ?_
  refine bF 16 rfl rfl (aD call491 rfl (I7 x y)) (aa (aa ag)) fun hS => ?_
  refine ah 17 1 hS ?_
  refine aK ?_
  refine au 2 ?_
  refine ae ?_
  exact ⟨_, ⟨rfl, rfl⟩, iR jM rfl rfl ho rfl h1 h2 h3⟩
 skip
 refine cV rfl rfl (dC (b0 Do ub rfl (cC (vs := [.int .i64 y.d, .int .i64 y.s]) ry rfl) rfl)) rfl ?_; clear hS
 rintro _ _ ⟨rfl, rfl⟩
 refine ⟨(aa (aa ag)), fun hS => ?_⟩
 refine bF 7 rfl rfl (dC (b0 Do ub rfl (cC (vs := [.int .i64 x.d, .int .i64 x.s]) rx rfl) rfl)) (aa (aa ag)) fun hS => ?_
 refine bF 16 rfl rfl (aD call491 rfl (I7 x y)) (aa (aa ag)) fun hS => ?_
 refine ah 17 1 hS ?_
 refine aK ?_
 refine au 2 ?_
 refine ae ?_
 exact ⟨_, ⟨rfl, rfl⟩, iR jM rfl rfl ho rfl h1 h2 h3⟩
theorem Xr (b : Nat) (its : List TIt) (cs : List Value) (i k : Nat) (hi : i < its.length) (hk : k < its.length) : sQ W0 490 [jy b, .int .i64 i, .int .i64 k] (dZ b (its, cs) :: R) (.tuple #[]) (dZ b (Hp.swapL its i k, cs) :: R) := by
 refine nz jM (I5 hi) (by decide) fun g c sp ho h1 h2 h3 => ?_
 refine gY func490 ntmps490 rfl rfl ?_
 refine aU [(b, 0, _)] 28 aT rfl (aa ag) (fun hS => ?_)
 refine ah 0 3 hS ?_
 refine av 3 rfl rfl rfl hS (aA mp rfl (dv (k := 0) rfl (dP ho))) ?_
 refine ah 4 4 hS ?_
 refine av 8 rfl rfl rfl hS (aA mp rfl (dv (k := 0) rfl (dP ho))) ?_
 refine ah 9 4 hS ?_
 refine av 13 rfl rfl rfl hS (aA mp rfl (dv (k := 0) rfl (dP ho))) ?_
 refine ah 14 1 hS ?_
 refine av 15 rfl rfl rfl hS (bc ko gB rfl rfl rfl hk (by first | exact Nat.zero_add _ | rfl)) ?_
 refine ah 17 3 hS ?_
 refine av 20 rfl rfl rfl hS (aA mp rfl (dv (k := 0) rfl (dP ho))) ?_
 refine ah 21 1 hS ?_
 refine av 22 rfl rfl rfl hS (bc ko gB rfl rfl rfl hi (by first | exact Nat.zero_add _ | rfl)) ?_
 refine eJ (is := [16, 23]) (by kernel_rfl) rfl ⟨?_, ?_, trivial⟩
 ·skip
  refine cV rfl rfl (dC (b0 wd gB rfl (cC (rQ its sp k hk) rfl) rfl)) rfl ?_; clear hS
  rintro _ _ ⟨rfl, rfl⟩
  refine ⟨(aa ag), fun hS => ?_⟩
  refine bF 23 rfl rfl (dC (b0 wd gB rfl (cC (rQ its sp i hi) rfl) rfl)) (aa ag) fun hS => ?_
  refine av 24 rfl rfl rfl hS (bc ko gB rfl rfl rfl hi (by first | exact Nat.zero_add _ | rfl)) ?_
  refine bU 25 rfl rfl (ed gB rfl rfl rfl rfl (yR its sp i hi) (yQ its sp i (its.getD k default) hi)) (aa ag) fun hS => ?_
  refine av 26 rfl rfl rfl hS (bc ko gB rfl rfl rfl hk (by first | exact Nat.zero_add _ | rfl)) ?_
  refine bU 27 rfl rfl (ed gB rfl rfl rfl rfl (yR (its.set i (its.getD k default)) sp k (by simpa using hk)) (yQ (its.set i (its.getD k default)) sp k (its.getD i default) (by simpa using hk))) (aa ag) fun hS => ?_
  refine aK ?_
  refine bT (.inr rfl) .nil ?_
  exact ⟨_, ⟨rfl, rfl⟩, iR jM rfl rfl ho (by simp [Hp.swapL]) (by simpa [Hp.swapL] using h1) h2 (by rw [List.length_append, cz jM] at h3 ⊢; simpa [Hp.swapL] using h3)⟩
 skip
 refine cV rfl rfl (dC (b0 wd gB rfl (cC (rQ its sp i hi) rfl) rfl)) rfl ?_; clear hS
 rintro _ _ ⟨rfl, rfl⟩
 refine ⟨(aa ag), fun hS => ?_⟩
 refine bF 16 rfl rfl (dC (b0 wd gB rfl (cC (rQ its sp k hk) rfl) rfl)) (aa ag) fun hS => ?_
 refine av 24 rfl rfl rfl hS (bc ko gB rfl rfl rfl hi (by first | exact Nat.zero_add _ | rfl)) ?_
 refine bU 25 rfl rfl (ed gB rfl rfl rfl rfl (yR its sp i hi) (yQ its sp i (its.getD k default) hi)) (aa ag) fun hS => ?_
 refine av 26 rfl rfl rfl hS (bc ko gB rfl rfl rfl hk (by first | exact Nat.zero_add _ | rfl)) ?_
 refine bU 27 rfl rfl (ed gB rfl rfl rfl rfl (yR (its.set i (its.getD k default)) sp k (by simpa using hk)) (yQ (its.set i (its.getD k default)) sp k (its.getD i default) (by simpa using hk))) (aa ag) fun hS => ?_
 refine aK ?_
 refine bT (.inr rfl) .nil ?_
 exact ⟨_, ⟨rfl, rfl⟩, iR jM rfl rfl ho (by simp [Hp.swapL]) (by simpa [Hp.swapL] using h1) h2 (by rw [List.length_append, cz jM] at h3 ⊢; simpa [Hp.swapL] using h3)⟩
theorem Xs (b : Nat) (its : List TIt) (x : TIt) (cs : List Value) : sQ W0 488 [jy b] (dZ b (its ++ [x], cs) :: R) (.iface 154 (.agg (fB x).toArray)) (dZ b (its, cs) :: R) := by
 refine nz jM (by simp) (by decide) fun g c sp ho h1 h2 h3 => ?_
 have hl : (its ++ [x]).length = its.length + 1 := by simp
 rw [hl] at h1 ⊢
 have hg : (its ++ [x]).getD its.length default = x := by simp [List.getD]
 have hr := rQ (its ++ [x]) sp its.length (by omega)
 rw [hg] at hr
 have he : (its ++ [x]).flatMap fB ++ sp = its.flatMap fB ++ (fB x ++ sp) := by simp
 refine ai 10 func488 ntmps488 ?_
 refine a7 rfl (aA mp rfl (aN (dP ho))) ?_
 refine a7 rfl (sg ko rfl) ?_
 refine ap 8 (cZ rfl rfl (by rw [aG (by simp only [maxLen] at h2; omega)]; omega : IntKind.wrap .i64 (((its.length + 1 : Nat) : Int) - 1) = ((its.length : Nat) : Int))) ?_
 refine a7 rfl (aA mp rfl (aN (dP ho))) ?_
 refine a7 rfl (aH rfl) ?_
 refine a7 rfl (bc ko gB rfl rfl rfl (by omega) (by first | exact Nat.zero_add _ | rfl)) ?_
 refine a7 rfl (b0 wd gB rfl (cC hr rfl) rfl) ?_
 refine ax (aS zT) fun b1 => ?_
 refine aE 8 (aF gB rfl rfl rfl rfl rfl) ?_
 refine a7 rfl (aA mp rfl (aN (dP ho))) ?_
 refine a7 rfl (aH rfl) ?_
 refine ap 2 (m0 ko gB rfl rfl rfl (by omega)) ?_
 refine aE 5 (bA CE rfl rfl rfl (by rw [List.length_set]; exact ho) set_set) ?_
 refine ap 4 (fY wj (fun _ h => nomatch h) rfl) ?_
 refine ae ?_
 rw [he]
 exact ⟨_, ⟨rfl, rfl⟩, iR (sp := fB x ++ sp) jM rfl rfl ho rfl (by omega) h2 (by rw [← he]; exact h3)⟩
theorem Xt (b : Nat) (its : List TIt) (x : TIt) (cs : List Value) (hn : its.length < 1000) : sQ W0 489 [jy b, .iface 154 (.agg (fB x).toArray)] (dZ b (its, cs) :: R) (.tuple #[]) (dZ b (its ++ [x], cs) :: R) := by
 refine pQ fun a c ho => ?_
 have he : its.flatMap fB ++ [fB x].flatten = (its ++ [x]).flatMap fB := by simp
 refine gY func489 ntmps489 rfl rfl ?_
 refine aU [] 12 aT rfl ag (fun hS => ?_)
 refine ah 0 4 hS ?_
 refine ah 5 1 hS ?_
 refine av 6 rfl rfl rfl hS (pE wj (fun _ h => nomatch h) rfl) ?_
 refine eJ (is := [4, 7]) (by kernel_rfl) rfl ⟨?_, ?_, trivial⟩
 ·skip
  refine cV rfl rfl (dC (aA mp rfl (aN (dP ho)))) rfl ?_; clear hS
  rintro _ _ ⟨rfl, rfl⟩
  refine ⟨ag, fun hS => ?_⟩
  refine bS 7 (by kernel_rfl) rfl rfl (iM ko gB zT rfl (eW rfl rfl gZ) rfl (by decide) (by decide) (by decide)) rfl ?_; clear hS
  rintro _ _ ⟨b1, rfl, rfl⟩
  refine ⟨ag, fun hS => ?_⟩
  refine bS 8 (by kernel_rfl) rfl rfl (eV (sz := 3) (by_ := 24) (info := Tryz.t154) ko (by kernel_rfl) rfl rfl rfl rfl (by decide) rfl rfl eC rfl rfl (by simp only [maxLen]; omega) (by omega)) rfl ?_; clear hS
  rintro _ _ ⟨a1, c1, rfl, rfl⟩
  refine ⟨ag, fun hS => ?_⟩
  refine ah 9 2 hS ?_
  refine bU 11 rfl rfl (bA CE rfl rfl rfl (by rw [List.length_set]; exact ho) set_set) ag fun hS => ?_
  refine aK ?_
  refine bT (.inr rfl) .nil ?_
  exact ⟨_, ⟨rfl, rfl⟩, l6 (its := its ++ [x]) he rfl ho (by simp)⟩
 skip
 refine cV rfl rfl (iM ko gB zT rfl (eW rfl rfl gZ) rfl (by decide) (by decide) (by decide)) rfl ?_; clear hS
 rintro _ _ ⟨b1, rfl, rfl⟩
 refine ⟨ag, fun hS => ?_⟩
 refine bF 4 rfl rfl (dC (aA mp rfl (aN (dP ho)))) ag fun hS => ?_
 refine bS 8 (by kernel_rfl) rfl rfl (eV (sz := 3) (by_ := 24) (info := Tryz.t154) ko (by kernel_rfl) rfl rfl rfl rfl (by decide) rfl rfl eC rfl rfl (by simp only [maxLen]; omega) (by omega)) rfl ?_; clear hS
 rintro _ _ ⟨a1, c1, rfl, rfl⟩
 refine ⟨ag, fun hS => ?_⟩
 refine ah 9 2 hS ?_
 refine bU 11 rfl rfl (bA CE rfl rfl rfl (by rw [List.length_set]; exact ho) set_set) ag fun hS => ?_
 refine aK ?_
 refine bT (.inr rfl) .nil ?_
 exact ⟨_, ⟨rfl, rfl⟩, l6 (its := its ++ [x]) he rfl ho (by simp)⟩
section
variable (w : World) (a : Addr)
theorem Xu : (method (Tryz.prog.types.size + Made.depth) 150 (.pointer (some a)) "Len").run Tryz.prog w = .ok (207, .pointer (some a)) w := by kernel_rfl
theorem Xv : (method (Tryz.prog.types.size + Made.depth) 150 (.pointer (some a)) "Less").run Tryz.prog w = .ok (487, .pointer (some a)) w := by kernel_rfl
theorem Xw : (method (Tryz.prog.types.size + Made.depth) 150 (.pointer (some a)) "Swap").run Tryz.prog w = .ok (490, .pointer (some a)) w := by kernel_rfl
theorem Xx : (method (Tryz.prog.types.size + Made.depth) 150 (.pointer (some a)) "Push").run Tryz.prog w = .ok (489, .pointer (some a)) w := by kernel_rfl
theorem Xy : (method (Tryz.prog.types.size + Made.depth) 150 (.pointer (some a)) "Pop").run Tryz.prog w = .ok (488, .pointer (some a)) w := by kernel_rfl
end
def I8 (W0 : World) (b : Nat) (cs : List Value) : HpO W0 TIt where
  T := 150
  p := jy b
  el := fun x => .iface 154 (.agg (fB x).toArray)
  H := fun l => dZ b (l, cs)
  fL := 207
  fE := 487
  fS := 490
  fU := 489
  fO := 488
  mL := fun u => Xu u _
  mE := fun u => Xv u _
  mS := fun u => Xw u _
  mU := fun u => Xx u _
  mO := fun u => Xy u _
  cL := call207
  cE := call487
  cS := call490
  cU := call489
  cO := call488
  sL := fun R l => I6 b l cs
  sE := fun R l i j hi hj => Xq b l cs i j hi hj
  sS := fun R l i j hi hj => Xr b l cs i j hi hj
  sU := fun R l x hl => Xt b l x cs hl
  sO := fun R l x => Xs b l x cs
theorem Xz (b : Nat) (its : List TIt) (x : TIt) (cs : List Value) (hN : its.length < 900) (hh : Hp.Heap its its.length) : sP W0 66 [.iface 150 (jy b), .iface 154 (.agg (fB x).toArray)] (dZ b (its, cs) :: R) (fun v B => v = .tuple #[] ∧ ∃ its', B = dZ b (its', cs) :: R ∧ its'.Perm (its ++ [x]) ∧ Hp.Heap its' its'.length) :=
 Hp.heapPush_spec (I8 W0 b cs) R its x hN hh
theorem XA (b : Nat) (its : List TIt) (cs : List Value) (hN : its.length < 900) (h0 : its ≠ []) (hh : Hp.Heap its its.length) : sP W0 113 [.iface 150 (jy b)] (dZ b (its, cs) :: R) (fun v B => ∃ x its', v = .iface 154 (.agg (fB x).toArray) ∧ B = dZ b (its', cs) :: R ∧ (its' ++ [x]).Perm its ∧ Hp.Heap its' its'.length ∧ ∀ y ∈ its, Hk.ky x ≤ Hk.ky y) :=
 Hp.heapPop_spec (I8 W0 b cs) R its hN h0 hh
def e6 (us : List Bool) (now : Int) : List Value := .slice none 0 0 :: (us.map Value.bool ++ [.int .i64 now, .bool true])
theorem vR {us : List Bool} {now : Int} (h : us.length = 4) : (e6 us now).length = 7 := by
 simp [e6, h]
theorem XB {us : List Bool} {now : Int} (h : us.length = 4) : (e6 us now)[6]? = some (.bool true) := by
 obtain ⟨a, b, c, d, rfl⟩ : ∃ a b c d, us = [a, b, c, d] := by
  match us, h with
  | [a, b, c, d], _ => exact ⟨a, b, c, d, rfl⟩
 rfl
theorem I9 {us : List Bool} {now : Int} (h : us.length = 4) : (e6 us now)[5]? = some (.int .i64 now) := by
 obtain ⟨a, b, c, d, rfl⟩ : ∃ a b c d, us = [a, b, c, d] := by
  match us, h with
  | [a, b, c, d], _ => exact ⟨a, b, c, d, rfl⟩
 rfl
theorem XC {us : List Bool} {now : Int} (h : us.length = 4) (j : Nat) (v : Value) (hv : (us.map Value.bool)[j]? = some v) : (e6 us now)[1 + j]? = some v := by
 obtain ⟨a, b, c, d, rfl⟩ : ∃ a b c d, us = [a, b, c, d] := by
  match us, h with
  | [a, b, c, d], _ => exact ⟨a, b, c, d, rfl⟩
 match j, hv with
 | 0, hv => exact hv
 | 1, hv => exact hv
 | 2, hv => exact hv
 | 3, hv => exact hv
 | j + 4, hv => cases hv
theorem XD {us : List Bool} {now x : Int} {v : Value} (h : us.length = 4) : ((e6 us now).set 0 v).set 5 (.int .i64 x) = (e6 us x).set 0 v := by
 obtain ⟨a, b, c, d, rfl⟩ : ∃ a b c d, us = [a, b, c, d] := by
  match us, h with
  | [a, b, c, d], _ => exact ⟨a, b, c, d, rfl⟩
 rfl
theorem Ia {us : List Bool} {now : Int} {v : Value} {u : Bool} {n : Nat} (h : us.length = 4) (hn : n < 4) : ((e6 us now).set 0 v).set (1 + n * 1) (.bool u) = (e6 (us.set n u) now).set 0 v := by
 obtain ⟨a, b, c, d, rfl⟩ : ∃ a b c d, us = [a, b, c, d] := by
  match us, h with
  | [a, b, c, d], _ => exact ⟨a, b, c, d, rfl⟩
 match n, hn with
 | 0, _ => rfl
 | 1, _ => rfl
 | 2, _ => rfl
 | 3, _ => rfl
theorem yS (b : Nat) (its : List TIt) (us : List Bool) (now : Int) (h : us.length = 4) : sQ W0 64 [jy b] (dZ b (its, e6 us now) :: R) (.bool false) (dZ b (its, e6 us now) :: R) := by
 refine ai 10 func64 ntmps64 ?_
 refine bB rfl rfl rfl (fun g1_3 => ?_) fun g1_3 => ?_
 ·cases g1_3
 refine au 6 ?_
 refine ap 7 (aA gz rfl (vf (b := b) (T := 148) (E := 154) (sz := 3) (f := fB) (o := 0) (by decide) (XB h))) ?_
 exact ae aL
def jN : List Bool → Option Nat
  | [] => none
  | u :: us => if u then (jN us).map (· + 1) else some 0
theorem XE {us : List Bool} {k : Nat} (hk : k < us.length) (h1 : ∀ j, j < k → us.getD j false = true) (h2 : us.getD k false = false) : jN us = some k := by
 induction us generalizing k with
 | nil => exact absurd hk (Nat.not_lt_zero k)
 | cons u us ih =>
  match k with
  | 0 => rw [jN, if_neg (by simpa using h2)]
  | k + 1 =>
   have h0 : u = true := h1 0 (Nat.succ_pos k)
   rw [jN, if_pos h0, ih (by simpa using hk) (fun j hj => by simpa using h1 (j + 1) (by omega)) (by simpa using h2)]
   rfl
theorem XF {us : List Bool} (h1 : ∀ j, j < us.length → us.getD j false = true) : jN us = none := by
 induction us with
 | nil => rfl
 | cons u us ih =>
  have h0 : u = true := h1 0 (by simp)
  rw [jN, if_pos h0, ih (fun j hj => by simpa using h1 (j + 1) (by simpa using hj))]
  rfl
theorem Ib {us : List Bool} {k : Nat} (h : jN us = some k) : k < us.length := by
 induction us generalizing k with
 | nil => cases h
 | cons u us ih =>
  rw [jN] at h
  by_cases hu : u = true
  ·rw [if_pos hu] at h
   cases hq : jN us with
   | none => rw [hq] at h; cases h
   | some q => rw [hq] at h; have := ih hq; cases h; simpa using this
  rw [if_neg hu] at h; cases h; simp
theorem Ic (b : Nat) (its : List TIt) (us : List Bool) (now : Int) (h : us.length = 4) : sQ W0 65 [jy b] (dZ b (its, e6 us now) :: R) (.tuple #[.int .i64 (((jN us).getD 0 : Nat) : Int), .bool (jN us).isSome]) (dZ b (its, e6 us now) :: R) := by
 obtain ⟨u0, u1, u2, u3, rfl⟩ : ∃ a b c d, us = [a, b, c, d] := by
  match us, h with
  | [a, b, c, d], _ => exact ⟨a, b, c, d, rfl⟩
 refine ai 12 func65 ntmps65 ?_
 refine ap 4 (b0 isAgg146 IX rfl (HW (T := 148) (E := 154) (sz := 3) (f := fB) (o := 0) (vs := [.bool u0, .bool u1, .bool u2, .bool u3]) fun j v hv => ⟨by omega, XC h j v hv⟩) rfl) ?_
 refine cY (fun k : Nat => k ≤ 4 ∧ ∀ j, j < k → [u0, u1, u2, u3].getD j false = true) (fun k => [(0, jy b), (9, .agg ([u0, u1, u2, u3].map Value.bool).toArray), (10, .int .i64 k)]) (fun _ => dZ b (its, e6 [u0, u1, u2, u3] now) :: R) (fun k => 4 - k) 0 ?_ ?_
 ·exact ⟨by decide, fun j hj => absurd hj (Nat.not_lt_zero j)⟩
 intro k ⟨hk, hj⟩
 refine au 6 ?_
 refine a8 rfl (fun c2 => ?_) fun c2 => ?_
 ·refine au 5 ?_
  have hk1 : k < 4 := by omega
  obtain ⟨u, hu⟩ : ∃ u, [u0, u1, u2, u3].getD k false = u := ⟨_, rfl⟩
  have hu1 : ([u0, u1, u2, u3].map Value.bool)[k]? = some (.bool u) := by
   rw [List.getElem?_map, List.getElem?_eq_getElem (by omega), ← hu, List.getD_eq_getElem?_getD, List.getElem?_eq_getElem (by omega)]; rfl
  refine au 2 ?_
  refine ap 10 (EX Kq bI gz rfl rfl rfl hk1 hu1) ?_
  refine a8 rfl (fun c4 => ?_) fun c4 => ?_
  ·refine au 13 ?_
   refine aJ ?_
   have e := XE (us := [u0, u1, u2, u3]) (k := k) (by simpa using hk1) hj (by rw [hu]; simpa using c4)
   refine aR ?_
   rw [e]; rfl
  refine au 4 ?_
  refine ap 3 (cM rfl rfl) ?_
  refine bZ (k + 1) ?_
  ·refine ⟨by omega, fun j hj1 => ?_⟩
   rcases Nat.lt_or_ge j k with q | q
   ·exact hj j q
   rw [show j = k by omega, hu]; simpa using c4
 refine au 12 ?_
 refine aJ ?_
 have e := XF (us := [u0, u1, u2, u3]) fun j hj1 => hj j (by simp at hj1; omega)
 refine aR ?_
 rw [e]; rfl
theorem XG (b : Nat) (its : List TIt) (us : List Bool) (now : Int) (h : us.length = 4) (d : Int) (hd : d < 0) : sQ W0 23 [jy b, .int .i64 d] (dZ b (its, e6 us now) :: R) (.tuple #[.int .i64 0, .int .i64 1]) (dZ b (its, e6 us now) :: R) := by
 refine ai 11 Kr ntmps23 ?_
 refine ar 3 (ao Dp rfl (yS b its us now h)) ?_
 refine a8 rfl (fun c1 => ?_) fun c1 => ?_
 ·exact absurd c1 (by decide)
 refine au 7 ?_
 refine a8 rfl (fun c3 => ?_) fun c3 => ?_
 ·refine au 9 ?_
  exact aJ aL
 omega
theorem XH (b : Nat) (its : List TIt) (us : List Bool) (now : Int) (h : us.length = 4) (d : Int) (hd : 0 ≤ d) (hf : jN us = none) : sQ W0 23 [jy b, .int .i64 d] (dZ b (its, e6 us now) :: R) (.tuple #[.int .i64 0, .int .i64 2]) (dZ b (its, e6 us now) :: R) := by
 refine ai 11 Kr ntmps23 ?_
 refine ar 3 (ao Dp rfl (yS b its us now h)) ?_
 refine a8 rfl (fun c1 => ?_) fun c1 => ?_
 ·exact absurd c1 (by decide)
 refine au 7 ?_
 refine a8 rfl (fun c3 => ?_) fun c3 => ?_
 ·omega
 refine au 6 ?_
 refine aM (ao call65 rfl (Ic b its us now h)) ?_
 rw [hf]
 refine au 14 ?_
 refine a8 rfl (fun c6 => ?_) fun c6 => ?_
 ·refine au 8 ?_
  exact aJ aL
 exact absurd (by decide) c6
theorem XI (b : Nat) (its : List TIt) (us : List Bool) (now : Int) (h : us.length = 4) (d : Int) (hd : 0 ≤ d) (k : Nat) (hf : jN us = some k) (hN : its.length < 800) (hh : Hp.Heap its its.length) (hb : 0 ≤ now + 1 ∧ now + 1 < 10000000000000000000) (hb2 : 0 ≤ now ∧ now < 4611686018427387904) : sP W0 23 [jy b, .int .i64 d] (dZ b (its, e6 us now) :: R) (fun v B => v = .tuple #[.int .i64 k, .int .i64 0] ∧ ∃ its', B = dZ b (its', e6 (us.set k true) (now + 1)) :: R ∧ its'.Perm (its ++ [⟨d, now + 1, k, hb⟩]) ∧ Hp.Heap its' its'.length) := by
 have hk4 : k < 4 := by rw [← h]; exact Ib hf
 refine ai 11 Kr ntmps23 ?_
 refine ar 3 (ao Dp rfl (yS b its us now h)) ?_
 refine a8 rfl (fun c1 => ?_) fun c1 => ?_
 ·exact absurd c1 (by decide)
 refine au 7 ?_
 refine a8 rfl (fun c3 => ?_) fun c3 => ?_
 ·omega
 refine au 6 ?_
 refine aM (ao call65 rfl (Ic b its us now h)) ?_
 rw [hf, Option.getD_some, Option.isSome_some]
 refine au 14 ?_
 refine a8 rfl (fun c6 => ?_) fun c6 => ?_
 ·exact absurd c6 (by decide)
 refine au 3 ?_
 refine ve (b := b) (T := 148) (E := 154) (sz := 3) (f := fB) (o := 0) fun a c ho => ?_
 refine au 4 ?_
 refine a7 rfl (aA aX rfl (aN (by rw [List.getElem?_set_ne (by decide)]; exact I9 h))) ?_
 refine ap 2 (bO rfl rfl (aG (by omega))) ?_
 refine aE 8 (bA aj rfl rfl rfl (by rw [List.length_set, vR h]; decide) (XD h)) ?_
 refine a7 rfl (dI Kq bI rfl rfl rfl hk4 (by first | exact Nat.zero_add _ | rfl)) ?_
 refine aE 3 (bA bI rfl rfl rfl (by rw [List.length_set, vR h]; omega) (Ia h hk4)) ?_
 refine gD (B := dZ b (its, e6 (us.set k true) (now + 1)) :: R) (l6 rfl rfl (by rw [vR (by simp [h])]; decide) rfl) ?_
 have hnow : ∀ l : List TIt, bG (aO W0 (dZ b (l, e6 (us.set k true) (now + 1)) :: R)) b 5 [.int .i64 (now + 1)] := fun l => AZ (its := l) (T := 148) (E := 154) (sz := 3) (f := fB) (o := 0) (by decide) (I9 (by simp [h]))
 refine aU [(b, 5, [.int .i64 (now + 1)])] 14 aT rfl (cR (hnow _) ag) (fun hS => ?_)
 refine ah 0 3 hS ?_
 refine av 3 rfl rfl rfl hS (fY a0k (fun _ h => nomatch h) rfl) ?_
 refine ah 4 4 hS ?_
 refine av 8 rfl rfl rfl hS (aA aX rfl (A8 (k := 0) rfl)) ?_
 refine av 9 rfl rfl rfl hS (bq ZG zeroValue152 (am aj (am aj bj)) (aI rfl aj rfl rfl (Nat.le_of_ble_eq_true rfl) SetL.eq (aI rfl aj rfl rfl (Nat.le_of_ble_eq_true rfl) SetL.eq bi))) ?_
 refine ah 10 1 hS ?_
 refine av 11 rfl rfl rfl hS (bq wj zT (am ub (am aj bj)) (iJ rfl ub rfl rfl (Nat.le_of_ble_eq_true rfl) SetRL.eq (aI rfl aj rfl rfl (Nat.le_of_ble_eq_true rfl) SetL.eq bi))) ?_
 refine av 12 rfl rfl rfl hS (fY wj (fun _ h => nomatch h) rfl) ?_
 refine bS 13 (by kernel_rfl) rfl rfl (ao zB rfl (Xz b its ⟨d, now + 1, k, hb⟩ (e6 (us.set k true) (now + 1)) (by omega) hh)) rfl ?_; clear hS
 rintro _ B_ ⟨rfl, its2, hB_, hp2, hH2⟩
 obtain rfl := hB_.symm
 refine ⟨(cR (hnow _) ag), fun hS => ?_⟩
 refine aK ?_
 refine au 9 ?_
 refine aJ ?_
 exact ⟨_, ⟨rfl, its2, rfl, hp2, hH2⟩, inferInstance⟩
theorem XJ {W0 : World} {N : FSz} {K : Act → World → Prop} {e : aW} {R A : List HP} {T E : TypeId} {sz o b : Nat} {α : Type} {f : α → List Value} {its : List α} {cs : List Value} [hk : Tk (l5 T E sz f o) b A (its, cs) R] (hf : ∀ x, (f x).length = sz) (h0 : its ≠ []) (hz : 0 < sz)
  (h : ∀ g c sp, o < cs.length → its.length ≤ c → c ≤ maxLen → (its.flatMap f ++ sp).length = c * sz → az W0 N K e (pt b (ac (cs.set o (.slice (some ⟨g, 0, none⟩) its.length c)) T) :: pt g (ac (its.flatMap f ++ sp) E) :: R)) : az W0 N K e A :=
 ve (b := b) (T := T) (E := E) (sz := sz) (f := f) (o := o) fun a c ho => fK (r := osl E sz) (b := .slice a its.length c) (jW (fun _ h2 => by
   have := cz hf its
   rw [h2] at this
   have h3 : its.length = 0 := by
    rcases Nat.mul_eq_zero.1 this.symm with k | k
    ·exact k
    omega
   exact absurd (List.length_eq_zero_iff.1 h3) h0) fun g n cap sp h1 h2 h3 h4 h5 => by
  cases h1
  exact mZ (List.Perm.swap _ _ _) (h g c sp ho h2 h3 h5))
structure TOk (us : List Bool) (now : Int) (ti : List TIt) : Prop where
  len : us.length = 4
  nn : (ti.length : Int) ≤ now
  id : ∀ x ∈ ti, 0 ≤ x.i ∧ x.i < 4
structure Tm where
  us : List Bool
  now : Int
  ti : List TIt
def lr (b : Nat) (x : Tm) : HP := chk (fun C => ∃ its : List TIt, its.Perm x.ti ∧ Hp.Heap its its.length ∧ TOk x.us x.now x.ti ∧ C = [dZ b (its, e6 x.us x.now)])
section
variable {P : Program} {W0 : World} {N : FSz} {K : Act → World → Prop} {e : aW} {A R B : List HP} {b : Nat} {x : Tm} {f : FuncId} {args : List Value} {Post : Value → List HP → Prop}
theorem Ie (h : ∀ its : List TIt, its.Perm x.ti → Hp.Heap its its.length → TOk x.us x.now x.ti → bN P W0 f args (dZ b (its, e6 x.us x.now) :: R) Post) : bN P W0 f args (lr b x :: R) Post :=
 qM fun C hC => by obtain ⟨its, h1, h2, h3, rfl⟩ := hC; exact h its h1 h2 h3
theorem vS {its ti : List TIt} {us : List Bool} {now : Int} [h : Tk dZ b A (its, e6 us now) R] (h1 : its.Perm ti) (h2 : Hp.Heap its its.length) (h3 : TOk us now ti) [k : Ent R B] : Ent A (lr b ⟨us, now, ti⟩ :: B) :=
 (Ent.ofPerm h.perm).trans ((Ent.cons k).trans (fC (R := B) (C := [_]) ⟨its, h1, h2, h3, rfl⟩))
theorem XK : Ent (pt b (ac ((e6 [false, false, false, false] 0).set 0 gK) 148) :: R) (lr b ⟨[false, false, false, false], 0, []⟩ :: R) := by
 have e : Ent (pt b (ac ((e6 [false, false, false, false] 0).set 0 gK) 148) :: R) (dZ b ([], e6 [false, false, false, false] 0) :: R) :=
  (Ent.cons (fR (E := 154) (sz := 3) (A := R) (B := R))).trans (fC (R := R) (C := [_, _]) ⟨by decide, none, 0, rfl⟩)
 exact e.trans (fC (R := R) (C := [_]) ⟨[], List.Perm.refl _, fun c hc => absurd hc (Nat.not_lt_zero c), ⟨rfl, Int.le_refl _, fun x hx => by cases hx⟩, rfl⟩)
end
def Cg (x : Tm) (d : Int) : Int := if d < 0 then 1 else if jN x.us = none then 2 else 0
def Ch (x : Tm) (d : Int) : Nat := if d < 0 then 0 else (jN x.us).getD 0
def tZ (x : Tm) (d : Int) : Tm :=
  if h : 0 ≤ d ∧ 0 ≤ x.now + 1 ∧ x.now + 1 < 10000000000000000000 then (match jN x.us with | some k => ⟨x.us.set k true, x.now + 1, x.ti ++ [⟨d, x.now + 1, k, h.2⟩]⟩ | none => x) else x
theorem XL (b : Nat) (x : Tm) (d : Int) (hb : x.now < 700) : sQ W0 23 [jy b, .int .i64 d] (lr b x :: R) (.tuple #[.int .i64 ((Ch x d : Nat) : Int), .int .i64 (Cg x d)]) (lr b (tZ x d) :: R) := by
 obtain ⟨us, now, ti⟩ := x
 refine Ie fun its h1 h2 h3 => ?_
 dsimp only at h1 h2 h3 hb ⊢
 have hn0 : 0 ≤ now := by have := h3.nn; omega
 have hl := h1.length_eq
 by_cases hd : d < 0
 ·rw [Cg, Ch, tZ, if_pos hd, if_pos hd, dif_neg (by omega)]
  refine hJ (XG b its us now h3.len d hd) fun v B hB => ?_
  obtain ⟨rfl, rfl⟩ := hB
  exact ⟨_, ⟨rfl, rfl⟩, vS h1 h2 h3⟩
 have hs : 0 ≤ d ∧ 0 ≤ now + 1 ∧ now + 1 < 10000000000000000000 := by omega
 rw [Cg, Ch, tZ, if_neg hd, if_neg hd, dif_pos hs]
 dsimp only
 cases hf : jN us with
 | none =>
  refine hJ (XH b its us now h3.len d (by omega) hf) fun v B hB => ?_
  obtain ⟨rfl, rfl⟩ := hB
  exact ⟨_, ⟨rfl, rfl⟩, vS h1 h2 h3⟩
 | some k =>
  have hk4 : k < 4 := by rw [← h3.len]; exact Ib hf
  have := h3.nn
  refine hJ (XI b its us now h3.len d (by omega) k hf (by omega) h2 hs.2 (by omega)) fun v B hB => ?_
  obtain ⟨rfl, its', rfl, hp, hH⟩ := hB
  refine ⟨_, ⟨rfl, rfl⟩, vS (hp.trans (h1.append_right _)) hH ⟨by rw [List.length_set]; exact h3.len, ?_, fun y hy => ?_⟩⟩
  ·rw [List.length_append]; simp only [List.length_cons, List.length_nil]; omega
  rcases List.mem_append.1 hy with q | q
  ·exact h3.id y q
  rw [List.mem_singleton] at q; subst q; dsimp only; omega
def iC (us : List Bool) (F : List TIt) : List Bool := us.mapIdx fun j u => u && !(F.any fun x => x.i == (j : Int))
theorem u6 (us : List Bool) (F : List TIt) : (iC us F).length = us.length := by simp [iC]
theorem XM (us : List Bool) : iC us [] = us := by
 apply List.ext_getElem (by simp [iC])
 intro i h1 h2
 simp [iC]
theorem If (us : List Bool) (F : List TIt) (i : Nat) (h : i < us.length) : (iC us F)[i]'(by rw [u6]; exact h) = (us[i] && !(F.any fun x => x.i == (i : Int))) := by simp [iC]
theorem XN {us : List Bool} {F : List TIt} {x : TIt} {k : Nat} (hx : x.i = (k : Int)) : (iC us F).set k false = iC us (F ++ [x]) := by
 apply List.ext_getElem (by simp [iC])
 intro i h1 h2
 have hi : i < us.length := by rw [u6] at h2; exact h2
 have ha : ((F ++ [x]).any fun y => y.i == (i : Int)) = ((F.any fun y => y.i == (i : Int)) || decide (k = i)) := by
  rw [List.any_append]
  congr 1
  simp only [List.any_cons, List.any_nil, Bool.or_false]
  rw [hx, Bool.eq_iff_iff, beq_iff_eq, decide_eq_true_iff]
  omega
 rw [List.getElem_set, If us (F ++ [x]) i hi, If us F i hi, ha]
 by_cases q : k = i
 ·rw [if_pos q, decide_eq_true q]; simp
 rw [if_neg q, decide_eq_false q]; simp
theorem Ig {us : List Bool} {F F' : List TIt} (h : F.Perm F') : iC us F = iC us F' := by
 unfold iC
 congr 1
 funext j u
 congr 2
 rw [Bool.eq_iff_iff, List.any_eq_true, List.any_eq_true]
 exact ⟨fun ⟨y, hy, e⟩ => ⟨y, h.mem_iff.1 hy, e⟩, fun ⟨y, hy, e⟩ => ⟨y, h.mem_iff.2 hy, e⟩⟩
def lT (now : Int) (x : TIt) : Bool := decide (x.d ≤ now)
def u7 (x : Tm) (now : Int) : Tm := ⟨iC x.us (x.ti.filter (lT now)), x.now, x.ti.filter fun y => !lT now y⟩
def qo (x : Tm) (now : Int) : Nat := (x.ti.filter (lT now)).length
theorem Ih {its F ti : List TIt} {now : Int} (hp : (its ++ F).Perm ti) (h1 : ∀ y ∈ F, lT now y = true) (h2 : ∀ y ∈ its, lT now y = false) : F.Perm (ti.filter (lT now)) ∧ its.Perm (ti.filter fun y => !lT now y) := by
 have a := hp.filter (lT now)
 have b := hp.filter (fun y => !lT now y)
 rw [List.filter_append, List.filter_eq_nil_iff.2 (fun y hy => by rw [h2 y hy]; decide), List.filter_eq_self.2 h1, List.nil_append] at a
 rw [List.filter_append, List.filter_eq_self.2 (fun y hy => by rw [h2 y hy]; rfl), List.filter_eq_nil_iff.2 (fun y hy => by rw [h1 y hy]; decide), List.append_nil] at b
 exact ⟨a, b⟩
theorem Ii {x y : TIt} (h : Hk.ky x ≤ Hk.ky y) : x.d ≤ y.d := by
 have e1 : Hk.ky x = x.s + x.d * 100000000000000000000 := rfl
 have e2 : Hk.ky y = y.s + y.d * 100000000000000000000 := rfl
 have b1 := x.hs
 have b2 := y.hs
 omega
structure Fr29 where
  its : List TIt
  F : List TIt
  a : Option Addr
  c : Nat
theorem XO (b : Nat) (x : Tm) (now : Int) (hb : x.now < 700) : sP W0 138 [jy b, .int .i64 now] (lr b x :: R) (fun v B => ∃ a c, v = .slice a (qo x now) c ∧ B = lr b (u7 x now) :: R) := by
 obtain ⟨us, tn, ti⟩ := x
 refine Ie fun its h1 h2 h3 => ?_
 dsimp only at h1 h2 h3 hb ⊢
 have hlen : ti.length < 800 := by have := h3.nn; omega
 refine ai 9 func138 ntmps138 ?_
 refine ar 2 (ao Dp rfl (yS b its us tn h3.len)) ?_
 refine a8 rfl (fun c1 => ?_) fun c1 => ?_
 ·exact absurd c1 (by decide)
 refine au 9 ?_
 refine ge (fun X : Fr29 => (X.its ++ X.F).Perm ti ∧ Hp.Heap X.its X.its.length ∧ ∀ y ∈ X.F, lT now y = true) (fun X => [(0, jy b), (1, .int .i64 now), (5, .slice X.a X.F.length X.c)]) (fun X => dZ b (X.its, e6 (iC us X.F) tn) :: osl 3 1 (.slice X.a X.F.length X.c) (X.F.map fun y => Value.int .i64 y.i) :: R) (fun X => X.its.length) ⟨its, [], none, 0⟩ ?_ ?_ ?_ ?_
 ·exact ⟨by simpa using h1, h2, fun y hy => by cases hy⟩
 ·repeat (first | exact dy | refine db rfl ?_)
 ·rw [XM]
  exact Ent.cons fR
 intro ⟨l, F, a, c⟩ ⟨hp, hH, hF⟩
 dsimp only at hp hH hF ⊢
 have hul : (iC us F).length = 4 := by rw [u6]; exact h3.len
 have hpl := hp.length_eq
 rw [List.length_append] at hpl
 refine au 6 ?_
 refine ar 2 (ao call207 rfl (I6 b l (e6 (iC us F) tn))) ?_
 refine cp rfl rfl rfl (fun g4_6 => ?_) fun g4_6 => ?_
 ·have hl0 : l ≠ [] := fun e => by rw [e] at g4_6; exact absurd g4_6 (by decide)
  have hl1 : 0 < l.length := List.length_pos_iff.2 hl0
  have hrow := Xp l
  refine XJ (b := b) (T := 148) (E := 154) (sz := 3) (f := fB) (o := 0) jM hl0 (by decide) fun g cc sp ho k1 k2 k3 => ?_
  refine au 8 ?_
  refine a7 rfl (aA mp rfl (aN (dP ho))) ?_
  refine cP rfl rfl ?_
  refine ap 5 (bc ko gB rfl rfl (i := 0) rfl hl1 (by first | exact Nat.zero_add _ | rfl)) ?_
  refine ap 7 (aA aX rfl (aN (hrow sp 0 0 hl1 (by decide)))) ?_
  refine a8 rfl (fun c4 => ?_) fun c4 => ?_
  ·refine au 4 ?_
   refine gD (B := dZ b (l, e6 (iC us F) tn) :: osl 3 1 (.slice a F.length c) (F.map fun y => Value.int .i64 y.i) :: R) (iR jM rfl rfl ho rfl k1 k2 k3) ?_
   refine au 4 ?_
   refine a7 rfl (fY a0k (fun _ h => nomatch h) rfl) ?_
   refine aB rfl (ao zC rfl (XA b l (e6 (iC us F) tn) (by omega) hl0 hH)) ?_
   rintro _ B_ ⟨y, l', rfl, hB_, hp2, hH2, hmin⟩
   obtain rfl := hB_.symm
   have hyl : y ∈ l := hp2.mem_iff.1 (by simp)
   have hyt : y ∈ ti := hp.mem_iff.1 (List.mem_append_left _ hyl)
   have hyi := h3.id y hyt
   obtain ⟨k, hk⟩ : ∃ k : Nat, y.i = (k : Int) := ⟨y.i.toNat, by omega⟩
   have hk4 : k < 4 := by omega
   have hdue : lT now y = true := by
    have := hmin (l.getD 0 default) (by
     rw [List.getD_eq_getElem?_getD, List.getElem?_eq_getElem hl1]
     exact List.getElem_mem hl1)
    exact decide_eq_true (Int.le_trans (Ii this) c4)
   refine a7 rfl (pE wj (fun _ h => nomatch h) rfl) ?_
   refine ax (aS zT) fun b6 => ?_
   refine aE 3 (aF gB rfl rfl rfl rfl rfl) ?_
   refine ve (b := b) (T := 148) (E := 154) (sz := 3) (f := fB) (o := 0) fun a2 c2 ho2 => ?_
   refine aU [(b6, 0, _)] 7 aT rfl (aa ag) (fun hS => ?_)
   refine ah 0 5 hS ?_
   refine av 5 rfl rfl rfl hS (dI Kq bI rfl rfl hk hk4 (by first | exact Nat.zero_add _ | rfl)) ?_
   refine bU 6 rfl rfl (bA bI rfl rfl rfl (by rw [List.length_set, vR hul]; omega) ((Ia hul hk4).trans (by rw [XN hk]))) (aa ag) fun hS => ?_
   refine aK ?_
   refine aY ?_
   refine gD (B := dZ b (l', e6 (iC us (F ++ [y])) tn) :: pt b6 (ac (fB y) 154) :: osl 3 1 (.slice a F.length c) (F.map fun y => Value.int .i64 y.i) :: R) (l6 rfl rfl (by rw [vR (by rw [u6]; exact h3.len)]; decide) rfl) ?_
   refine au 4 ?_
   refine ax (jT dB aj ml rfl rfl rfl rfl rfl (by decide) (by decide)) fun b2 => ?_
   refine aB rfl (eV (sz := 1) (by_ := 8) (info := Tryz.t3) dB (by kernel_rfl) rfl rfl rfl rfl (by decide) rfl rfl eC rfl rfl (by simp only [maxLen]; omega) (by omega)) ?_
   rintro _ _ ⟨a3, c3, rfl, rfl⟩
   refine au 4 ?_
   refine uq ⟨l', F ++ [y], a3, c3⟩ ?_ ?_ ?_ ?_
   ·refine ⟨?_, hH2, fun z hz => ?_⟩
    ·refine List.Perm.trans ?_ hp
     show (l' ++ (F ++ [y])).Perm (l ++ F)
     refine List.Perm.trans ?_ (hp2.append_right F)
     rw [List.append_assoc]
     exact List.perm_append_comm.append_left l'
    rcases List.mem_append.1 hz with q | q
    ·exact hF z q
    rw [List.mem_singleton] at q; rw [q]; exact hdue
   ·show l'.length < l.length
    have := hp2.length_eq
    rw [List.length_append] at this
    simp only [List.length_cons, List.length_nil] at this
    omega
   ·dsimp only
    rw [show (F ++ [y]).length = F.length + 1 by simp]
    repeat (first | exact dy | refine db rfl ?_)
   dsimp only
   rw [show (F ++ [y]).length = F.length + 1 by simp, List.map_append, List.map_cons, List.map_nil]
   exact inferInstance
  refine au 12 ?_
  refine ae ?_
  obtain ⟨q1, q2⟩ := Ih (now := now) hp hF (fun y hy => by
   refine decide_eq_false fun q => c4 ?_
   obtain ⟨j, hj, rfl⟩ := List.mem_iff_getElem.1 hy
   have := Hp.heap_min hH j hj
   rw [Hp.us, Hp.us_eq hj] at this
   exact Int.le_trans (Ii this) q)
  refine ⟨_, ⟨a, c, ?_, rfl⟩, ?_⟩
  ·show Value.slice a _ c = Value.slice a (ti.filter (lT now)).length c
   rw [q1.length_eq]
  rw [u7, ← Ig q1]
  refine Ent.trans (B := dZ b (l, e6 (iC us F) tn) :: R) (iR jM rfl rfl ho rfl k1 k2 k3) ?_
  exact vS q2 hH ⟨by rw [u6]; exact h3.len, by have := h3.nn; have := q2.length_eq; dsimp only; omega, fun z hz => h3.id z (List.mem_filter.1 hz).1⟩
 refine au 26 ?_
 refine ae ?_
 have hl0 : l = [] := List.length_eq_zero_iff.1 (by omega)
 subst hl0
 obtain ⟨q1, q2⟩ := Ih hp hF (fun y hy => by cases hy)
 refine ⟨_, ⟨a, c, ?_, rfl⟩, ?_⟩
 ·show Value.slice a _ c = Value.slice a (ti.filter (lT now)).length c
  rw [q1.length_eq]
 rw [u7, ← Ig q1]
 exact vS q2 hH ⟨by rw [u6]; exact h3.len, by have := h3.nn; have := q2.length_eq; dsimp only; omega, fun z hz => h3.id z (List.mem_filter.1 hz).1⟩
structure Gu where
  c : Cpu
  qa : QS
  qb : QS
  qc : QS
  ls : List Li
  ln : Int
  tm : Tm
  halted : Bool
  rd : List Nat
  clock : Nat
  es : List Evt
  bud : Nat
structure Gz where
  x : Bd
  q0 : Nat
  q1 : Nat
  q2 : Nat
  pv : Nat
  ps : Nat
  pm : Nat
  pb : Nat
  bx : Nat
  tr : Nat
  wv : Value
  i : Nat
  c : Cfg
@[reducible] def kj (z : Gz) (g : Gu) : List Value := [pV z.x.r, pV z.x.c, pV z.x.m, pV z.q0, pV z.q1, pV z.q2, pV z.x.v, pV z.x.t, .bool g.halted, wV (dh g.rd 0), wV (dh g.rd 1), wV (dh g.rd 2), wV (dh g.rd 3)] ++ di z.c ++ [.int .i64 z.i, z.wv, pV z.pb, pV z.pv, pV z.bx, pV z.tr, .int .i64 g.clock]
abbrev d9 (z : Gz) (g : Gu) : Obj := ac (kj z g) 102
def gx (n : Nat) : Nat := n - 1
def yT (es : List Evt) (e : Evt) : List Evt := if es.length < 4096 then es ++ [e] else es
abbrev me (g : Gu) (k : Int) (a b p : Nat) : Gu := { g with es := yT g.es ⟨k, ((gx g.clock : Nat) : Int), a, b, p, g.c.rl⟩ }
abbrev qp (g : Gu) (pc : Nat) : Gu := { g with c := ⟨g.c.rl, pc, g.c.cs⟩ }
abbrev lu (g : Gu) : Gu := { g with halted := true }
abbrev iD (g : Gu) : Gu := { g with bud := g.bud + 3 }
abbrev yU (g : Gu) (cause tval : Nat) : Gu := { g with c := ⟨g.c.rl, dO g.c.cs 1, ri g.c.cs g.c.pc cause tval⟩ }
def eE (g : Gu) (cause tval : Nat) : Int × Gu :=
  if dO g.c.cs 1 = 0 then (4, me (lu g) 6 cause tval g.c.pc) else (1, me (yU g cause tval) 1 cause tval g.c.pc)
def rR (c : Nat) (f : Int) : Nat := u32 ((c : Int) + ((u32 (16 * ((u32 f : Nat) : Int)) : Nat) : Int))
def oX (w : Nat) (n : Int) : Nat := if n = 1 then u32 (IntKind.wrap .i32 (IntKind.wrap .i8 (w : Int))) else if n = 2 then u32 (IntKind.wrap .i32 (IntKind.wrap .i16 (w : Int))) else w
theorem XP {w : Nat} {n : Int} (h : w < 4294967296) : oX w n < 4294967296 := by
 unfold oX
 split
 ·exact dF _
 split
 ·exact dF _
 exact h
abbrev nQ (g : Gu) (fr : List aC) (pg : List Pl) (a : Nat) (w k : Int) : Nat := qk fr pg (jZ g.c.cs) (k0 g.c.cs) (!ec g.c.cs) a w k
abbrev oY (g : Gu) (fr : List aC) (pg : List Pl) (a : Nat) (w k : Int) : Int := nP fr pg (jZ g.c.cs) (k0 g.c.cs) (!ec g.c.cs) a w k
abbrev yV (g : Gu) (fr : List aC) (pg : List Pl) (a : Nat) (w : Int) (x : Nat) : List aC := lp fr pg (jZ g.c.cs) (k0 g.c.cs) (!ec g.c.cs) a w x
abbrev Ij (g : Gu) (d v pc : Nat) : Gu := { g with c := ⟨kC g.c.rl d v, pc, g.c.cs⟩ }
def oZ (g : Gu) (fr : List aC) (pg : List Pl) (e : Eff) : Int × Gu :=
  if oY g fr pg e.addr e.width 1 ≠ 0 then eE (iD g) (rR 4 (oY g fr pg e.addr e.width 1)) e.addr
  else (0, Ij (iD g) e.d (if e.signed then oX (nQ g fr pg e.addr e.width 1) e.width else nQ g fr pg e.addr e.width 1) e.pc)
def p7 (g : Gu) (fr : List aC) (pg : List Pl) (e : Eff) : Int × Gu :=
  if oY g fr pg e.addr e.width 2 ≠ 0 then eE (iD g) (rR 5 (oY g fr pg e.addr e.width 2)) e.addr else (0, qp (iD g) e.pc)
def iW (g : Gu) (fr : List aC) (pg : List Pl) (e : Eff) : (Int × Gu) × List aC :=
  if e.k = 1 then (oZ g fr pg e, fr)
  else if e.k = 2 then (p7 g fr pg e, yV g fr pg e.addr e.width e.val)
  else if e.k = 3 then (eE g e.cause e.tval, fr)
  else if e.k = 6 then ((0, qp g e.pc), fr)
  else if e.k = 5 then ((4, me (qp (lu g) e.pc) 4 0 0 g.c.pc), fr)
  else if e.k = 4 then ((3, g), fr)
  else ((0, g), fr)
abbrev u9 (g : Gu) (c : Cpu) : Gu := { g with c := c }
def iE (i : Nat) (g : Gu) (fr : List aC) (pg : List Pl) : (Int × Gu) × List aC :=
  if oY g fr pg g.c.pc 4 0 ≠ 0 then (eE (iD g) (rR 3 (oY g fr pg g.c.pc 4 0)) g.c.pc, fr)
  else if jH (g6 (nQ g fr pg g.c.pc 4 0)) = false then (eE (iD g) 1 (nQ g fr pg g.c.pc 4 0), fr)
  else iW (u9 (iD g) (m7 i (gx g.clock) (g6 (nQ g fr pg g.c.pc 4 0)) g.c).2) fr pg (m7 i (gx g.clock) (g6 (nQ g fr pg g.c.pc 4 0)) g.c).1
abbrev jO (g : Gu) : Gu := { g with tm := u7 g.tm ((gx g.clock : Nat) : Int), ls := if qo g.tm ((gx g.clock : Nat) : Int) = 0 then g.ls else mP g.ls g.ln 7, ln := if qo g.tm ((gx g.clock : Nat) : Int) = 0 then g.ln else kh g.ls g.ln 7 }
abbrev XQ (g : Gu) : Gu := { g with ls := mQ g.ls }
def i9 (g : Gu) : Bool × Gu :=
  if rh g.c.cs then (match jx g.ls with
    | some n => (true, me (yU (XQ g) (256 + n) 0) 3 (256 + n) 0 g.c.pc)
    | none => (false, g)) else (false, g)
abbrev fX (g : Gu) : Gu := { g with clock := g.clock + 1 }
def eS (i : Nat) (g : Gu) (fr : List aC) (pg : List Pl) : (Int × Gu) × List aC :=
  if g.halted then ((5, fX g), fr)
  else if (i9 (jO (fX g))).1 then ((2, (i9 (jO (fX g))).2), fr)
  else iE i (i9 (jO (fX g))).2 fr pg
theorem XR (b : Nat) (es : List Evt) (k ck : Int) (x y z : Nat) (rl : List Nat) (hl : rl.length = 16) : sP W0 129 [pV b, .agg ([Value.int .i64 k, .int .i64 ck, wV x, wV y, wV z] ++ rl.map wV).toArray] (eN b es :: R) (fun v B => ∃ q, v = .int .i64 q ∧ B = eN b (yT es ⟨k, ck, x, y, z, rl⟩) :: R) := by
 by_cases hn : es.length < 4096
 ·rw [yT, if_pos hn]
  refine hJ (U5 b es k ck x y z rl hl hn) fun v B hB => ?_
  obtain ⟨rfl, rfl⟩ := hB
  exact ⟨_, ⟨0, rfl, rfl⟩, ent_refl⟩
 rw [yT, if_neg hn]
 refine ai 2 func129 ntmps129 ?_
 refine ax (aV rfl) fun b1 => ?_
 refine au 8 ?_
 refine ar 3 (ao JU rfl (Bt b es)) ?_
 refine a8 rfl (fun c1 => ?_) fun c1 => ?_
 ·exact absurd c1 (by decide)
 refine bD ?_
 refine yd (b := b) fun a c => ?_
 refine au 10 ?_
 refine a8 rfl (fun c3 => ?_) fun c3 => ?_
 ·refine au 8 ?_
  refine ae ?_
  exact ⟨_, ⟨2, rfl, rfl⟩, vr rfl rfl⟩
 omega
structure GOk (z : Gz) (g : Gu) (N : Nat) : Prop where
  c : CpOk g.c
  i : z.i < 4
  clk : g.clock ≤ N
  bud : g.bud ≤ 16 * N
  ln : g.ln ≤ 16 * N
  tn : g.tm.now ≤ N
theorem GOk.k {z : Gz} {g : Gu} {N : Nat} (h : GOk z g N) (hN : N ≤ 700) : g.clock < 1000000000 := by have := h.clk; omega
theorem GOk.cpu {z : Gz} {g g' : Gu} {N : Nat} (h : GOk z g N) (hc : CpOk g'.c) (h1 : g'.clock = g.clock) (h2 : g'.bud ≤ g.bud + 6) (h3 : g'.ln = g.ln) (h4 : g'.tm = g.tm) : GOk z g' (N + 1) :=
 ⟨hc, h.i, by have := h.clk; omega, by have := h.bud; omega, by have := h.ln; omega, by rw [h4]; have := h.tn; omega⟩
abbrev gN (gb : Nat) (z : Gz) (g : Gu) (R : List HP) : List HP := pt gb (d9 z g) :: pt z.x.r (dq g.c.rl g.c.pc) :: eN z.tr g.es :: R
abbrev gT (gb : Nat) (z : Gz) (g : Gu) (R : List HP) : List HP := pt gb (d9 z g) :: pt z.x.r (dq g.c.rl g.c.pc) :: pt z.x.c (dH g.c.cs z.i) :: eN z.tr g.es :: R
abbrev gM (gb : Nat) (z : Gz) (g : Gu) (fr : List aC) (pg : List Pl) (R : List HP) : List HP := pt gb (d9 z g) :: pt z.x.r (dq g.c.rl g.c.pc) :: pt z.x.c (dH g.c.cs z.i) :: eN z.tr g.es :: i7 z.x.m ⟨z.pv, z.ps, z.pm, g.bud, fr, pg⟩ :: bu z.ps fr :: R
section
variable (W0 : World) (R : List HP) (gb : Nat) (z : Gz) (g : Gu) (N : Nat) (fr : List aC) (pg : List Pl)
theorem kL : sQ W0 39 [pV gb] (pt gb (d9 z g) :: R) (.bool false) (pt gb (d9 z g) :: R) := by
 refine ai 10 func39 ntmps39 ?_
 refine bB rfl rfl rfl (fun g1_3 => ?_) fun g1_3 => ?_
 ·cases g1_3
 refine au 14 ?_
 exact ae aL
theorem yW (hk : g.clock < 1000000000) : sQ W0 130 [pV gb] (pt gb (d9 z g) :: R) (.int .i64 ((gx g.clock : Nat) : Int)) (pt gb (d9 z g) :: R) := by
 refine ai 11 func130 ntmps130 ?_
 refine a7 rfl (cZ rfl rfl (aG (by omega))) ?_
 refine ap 4 (xL rfl rfl (show _ = ((gx g.clock : Nat) : Int) by unfold gx; split <;> omega)) ?_
 exact ae aL
theorem qq (hk : g.clock < 1000000000) (hl : g.c.rl.length = 16) (k : Int) (x y w : Nat) : sQ W0 58 [pV gb, .int .i64 k, wV x, wV y, wV w] (gN gb z g R) (.tuple #[]) (gN gb z (me g k x y w) R) := by
 refine gY func58 ntmps58 rfl rfl ?_
 refine aU [(gb, 0, _)] 18 aT rfl (aa ag) (fun hS => ?_)
 refine ah 0 6 hS ?_
 refine ah 7 8 hS ?_
 refine bF 6 rfl rfl (ao Dq rfl (yW W0 _ gb z g hk)) (aa ag) fun hS => ?_
 refine bF 15 rfl rfl (ao call40 rfl (Gg z.x.r g.c.rl g.c.pc hl)) (aa ag) fun hS => ?_
 refine av 16 rfl rfl rfl hS (U4 hl rfl rfl rfl rfl rfl rfl) ?_
 refine bS 17 (by kernel_rfl) rfl rfl (ao call129 rfl (XR z.tr g.es k ((gx g.clock : Nat) : Int) x y w g.c.rl hl)) rfl ?_; clear hS
 rintro _ B_ ⟨q, rfl, hB_⟩
 obtain rfl := hB_.symm
 refine ⟨(aa ag), fun hS => ?_⟩
 refine aK ?_
 refine bT (.inr rfl) .nil ?_
 exact ⟨_, ⟨rfl, rfl⟩, inferInstance⟩
theorem vT (h : GOk z g N) (hN : N ≤ 700) (cause tval : Nat) (h1 : cause < 4294967296) (h2 : tval < 4294967296) : sQ W0 144 [pV gb, wV cause, wV tval] (gT gb z g R) (.int .i64 (eE g cause tval).1) (gT gb z (eE g cause tval).2 R) := by
 obtain ⟨tv, htv⟩ : ∃ t, (dO g.c.cs 1 != 0) = t := ⟨_, rfl⟩
 have hz : dO g.c.cs 1 = 0 ↔ tv = false := by rw [← htv]; simp
 rw [eE]
 refine ai 12 func144 ntmps144 ?_
 refine ar 11 (ao pr rfl (nK z.x.r g.c.rl g.c.pc h.c.r.len)) ?_
 refine aM (ao call208 rfl (Hn z.x.c h.c.cs)) ?_
 rw [htv]
 refine au 3 ?_
 refine a8 rfl (fun c2 => ?_) fun c2 => ?_
 ·refine bD ?_
  rw [if_pos (hz.2 (by simpa using c2))]
  refine au 5 ?_
  refine aE 8 (bA bI rfl rfl rfl (Nat.le_of_ble_eq_true rfl) (by exact rfl : (kj z g).set 8 (.bool true) = kj z (lu g))) ?_
  refine ar 9 (du s7 rfl (qq W0 _ gb z (lu g) (h.k hN) h.c.r.len 6 cause tval g.c.pc)) ?_
  exact ae aL
 refine au 3 ?_
 rw [if_neg (fun q => by have := hz.1 q; simp_all)]
 refine au 9 ?_
 refine ar 15 (ao call141 rfl (Hq z.x.c g.c.pc cause tval h.c.cs h.c.pc h1 h2)) ?_
 refine ar 8 (ao zN rfl (vq z.x.r g.c.rl g.c.pc (dO g.c.cs 1) h.c.r.len)) ?_
 refine ar 8 (du s7 rfl (qq W0 _ gb z (yU g cause tval) (h.k hN) h.c.r.len 1 cause tval g.c.pc)) ?_
 exact ae aL
theorem Ik (g : Gu) (a b : Nat) : (eE g a b).2.bud = g.bud := by unfold eE; split <;> rfl
theorem Ci {W0 : World} {R : List HP} (c : Nat) (f : Int) : sQ W0 145 [wV c, .int .i64 f] R (wV (rR c f)) R := by
 refine ai 9 func145 ntmps145 ?_
 refine a7 rfl (cX cW dk rfl (eD f)) ?_
 refine a7 rfl (iH rfl rfl (eD _)) ?_
 refine ap 4 (bO rfl rfl (eD _)) ?_
 exact ae aL
theorem yX (hl : g.c.rl.length = 16) (pc : Nat) : sQ W0 297 [pV gb, wV pc] (pt gb (d9 z g) :: pt z.x.r (dq g.c.rl g.c.pc) :: R) (.int .i64 0) (pt gb (d9 z g) :: pt z.x.r (dq g.c.rl pc) :: R) := by
 refine ai 13 func297 ntmps297 ?_
 refine ar 8 (ao zN rfl (vq z.x.r g.c.rl g.c.pc pc hl)) ?_
 exact ae aL
theorem XS {W0 : World} {R : List HP} (w : Nat) (n : Int) : sQ W0 296 [wV w, .int .i64 n] R (wV (oX w n)) R := by
 refine ai 18 func296 ntmps296 ?_
 refine a8 rfl (fun c2 => ?_) fun c2 => ?_
 ·refine au 3 ?_
  refine a7 rfl (cX dk a0l rfl rfl) ?_
  refine a7 rfl (cX a0l pq rfl rfl) ?_
  refine ap 6 (cX pq dk rfl (eD _)) ?_
  refine ae ?_
  rw [oX, if_pos (by omega)]
  exact ⟨_, ⟨rfl, rfl⟩, inferInstance⟩
 refine au 6 ?_
 refine a8 rfl (fun c4 => ?_) fun c4 => ?_
 ·refine au 3 ?_
  refine a7 rfl (cX dk a0m rfl rfl) ?_
  refine a7 rfl (cX a0m pq rfl rfl) ?_
  refine ap 6 (cX pq dk rfl (eD _)) ?_
  refine ae ?_
  rw [oX, if_neg (by omega), if_pos (by omega)]
  exact ⟨_, ⟨rfl, rfl⟩, inferInstance⟩
 refine au 10 ?_
 refine ae ?_
 rw [oX, if_neg (by omega), if_neg (by omega)]
 exact ⟨_, ⟨rfl, rfl⟩, inferInstance⟩
theorem GOk.tick {z : Gz} {g : Gu} {N : Nat} (h : GOk z g N) : GOk z (iD g) (N + 1) := h.cpu h.c rfl (by show g.bud + 3 ≤ g.bud + 6; omega) rfl rfl
theorem vU {fr : List aC} {pg : List Pl} {on : Bool} {root : Int} {user : Bool} {va : Nat} {w kind : Int} (hF : cH fr) : qk fr pg on root user va w kind < 4294967296 := by
 unfold qk
 split
 ·split
  ·unfold kx
   split
   ·rename_i hf
    obtain ⟨i, hi, hlt⟩ := oo hf
    rw [hi, Int.toNat_natCast]
    exact Pi (hF.get hlt).2
   decide
  decide
 decide
theorem Il {fr : List aC} {pg : List Pl} {on : Bool} {root : Int} {user : Bool} {va : Nat} {w : Int} {x : Nat} (hF : cH fr) : cH (lp fr pg on root user va w x) := by
 unfold lp
 split
 ·split
  ·exact xo hF
  exact hF
 exact hF
theorem Io {fr : List aC} {pg : List Pl} {on : Bool} {root : Int} {user : Bool} {va : Nat} {w : Int} {x : Nat} : (lp fr pg on root user va w x).length = fr.length := by
 unfold lp
 split
 ·split
  ·exact uP
  rfl
 rfl
theorem XT (hK : ∀ A, bG (aO W0 A) 1 0 gQ) (h : GOk z g N) (hN : N ≤ 690) (hF : cH fr) (e : Eff) (he : EfOk e) : sQ W0 223 [pV gb, .agg (dA e).toArray] (gM gb z g fr pg R) (.int .i64 (oZ g fr pg e).1) (gM gb z (oZ g fr pg e).2 fr pg R) := by
 obtain ⟨F, hF1⟩ : ∃ F, oY g fr pg e.addr e.width 1 = F := ⟨_, rfl⟩
 obtain ⟨w, hw1⟩ : ∃ w, nQ g fr pg e.addr e.width 1 = w := ⟨_, rfl⟩
 have hw : w < 4294967296 := by rw [← hw1]; exact vU hF
 have ht := h.tick
 have hbd := h.bud
 rw [oZ, hF1, hw1]
 refine ai 2 func223 ntmps223 ?_
 refine ax (aV rfl) fun b3 => ?_
 refine au 4 ?_
 refine aU [(gb, 0, _), (b3, 0, _)] 21 aT rfl (aa (aa ag)) (fun hS => ?_)
 refine ah 0 10 hS ?_
 refine ah 11 4 hS ?_
 refine bF 10 rfl rfl (ao zR rfl (vM z.x.c h.c.cs)) (aa (aa ag)) fun hS => ?_
 refine bS 15 (by kernel_rfl) rfl rfl (cK call142 rfl (HS W0 _ z.x.m z.pv z.ps z.pm g.bud fr pg hK (by omega) (jZ g.c.cs) (k0 g.c.cs) (!ec g.c.cs) e.addr he.addr e.width 1)) rfl ?_; clear hS
 rintro _ B_ ⟨rfl, hB_⟩
 obtain rfl := hB_.symm
 rw [show nP fr pg (jZ g.c.cs) (k0 g.c.cs) (!ec g.c.cs) e.addr e.width 1 = F from hF1, show qk fr pg (jZ g.c.cs) (k0 g.c.cs) (!ec g.c.cs) e.addr e.width 1 = w from hw1]
 refine ⟨(aa (aa ag)), fun hS => ?_⟩
 refine ah 16 5 hS ?_
 refine aK ?_
 refine au 8 ?_
 refine a8 rfl (fun c2 => ?_) fun c2 => ?_
 ·refine bD ?_
  refine aU [(b3, 0, _)] 7 aT rfl (aa ag) (fun hS => ?_)
  refine ah 0 2 hS ?_
  refine ah 3 2 hS ?_
  refine bF 2 rfl rfl (aD Ks rfl (Ci 4 F)) (aa ag) fun hS => ?_
  refine bF 5 rfl rfl (kV zU rfl (vT W0 _ gb z (iD g) (N + 1) ht (by omega) (rR 4 F) e.addr (dF _) he.addr)) (aa ag) fun hS => ?_
  refine ah 6 1 hS ?_
  refine aK ?_
  refine au 3 ?_
  refine ae ?_
  rw [if_pos c2]
  unfold gM
  rw [Ik]
  exact ⟨_, ⟨rfl, rfl⟩, inferInstance⟩
 refine au 2 ?_
 refine dU (fun _ : Unit => True) (fun _ => [(0, pV gb), (3, pV b3), (5, wV (if e.signed then oX w e.width else w))]) (fun _ => pt b3 (ac (dA e) 276) :: gM gb z (iD g) fr pg R) ?_ ?_
 ·skip
  refine au 6 ?_
  refine a8 rfl (fun c4 => ?_) fun c4 => ?_
  ·refine au 4 ?_
   refine ar 3 (aD call296 rfl (XS w e.width)) ?_
   refine iG () ?_ ?_ ?_
   ·trivial
   ·rw [if_pos c4]
    repeat (first | exact dy | refine db rfl ?_)
   exact inferInstance
  refine au 2 ?_
  refine iG () ?_ ?_ ?_
  ·trivial
  ·rw [if_neg c4]
   repeat (first | exact dy | refine db rfl ?_)
  exact inferInstance
 intro _ _
 rw [if_neg c2]
 obtain ⟨y, hy⟩ : ∃ y, (if e.signed then oX w e.width else w) = y := ⟨_, rfl⟩
 rw [hy]
 have hir : j9 (e.d : Int) = true := by have := he.d; simp only [j9, decide_eq_true_eq]; omega
 refine bD ?_
 refine aU [(gb, 0, _), (b3, 0, _)] 9 aT rfl (aa (aa ag)) (fun hS => ?_)
 refine ah 0 8 hS ?_
 refine bS 8 (by kernel_rfl) rfl rfl (ao zO rfl (C1 z.x.r g.c.rl g.c.pc y e.d h.c.r.len)) rfl ?_; clear hS
 rintro _ B_ ⟨rfl, hB_⟩
 obtain rfl := hB_.symm
 rw [if_pos hir, if_pos hir, Int.toNat_natCast]
 refine ⟨(aa (aa ag)), fun hS => ?_⟩
 refine aK ?_
 refine au 6 ?_
 refine ar 4 (cK Dr rfl (yX W0 _ gb z (Ij (iD g) e.d y g.c.pc) (by show (kC g.c.rl e.d y).length = 16; unfold kC; split <;> simp [h.c.r.len]) e.pc)) ?_
 exact ae aL
theorem XU (hK : ∀ A, bG (aO W0 A) 1 0 gQ) (h : GOk z g N) (hN : N ≤ 690) (hF : cH fr) (e : Eff) (he : EfOk e) : sQ W0 224 [pV gb, .agg (dA e).toArray] (gM gb z g fr pg R) (.int .i64 (p7 g fr pg e).1) (gM gb z (p7 g fr pg e).2 (yV g fr pg e.addr e.width e.val) pg R) := by
 obtain ⟨F, hF1⟩ : ∃ F, oY g fr pg e.addr e.width 2 = F := ⟨_, rfl⟩
 obtain ⟨fr2, hfr2⟩ : ∃ f, yV g fr pg e.addr e.width e.val = f := ⟨_, rfl⟩
 have ht := h.tick
 have hbd := h.bud
 rw [p7, hF1, hfr2]
 refine ai 2 func224 ntmps224 ?_
 refine ax (aV rfl) fun b3 => ?_
 refine au 5 ?_
 refine aU [(gb, 0, _), (b3, 0, _)] 19 aT rfl (aa (aa ag)) (fun hS => ?_)
 refine ah 0 10 hS ?_
 refine ah 11 6 hS ?_
 refine bF 10 rfl rfl (ao zR rfl (vM z.x.c h.c.cs)) (aa (aa ag)) fun hS => ?_
 refine bS 17 (by kernel_rfl) rfl rfl (cK call298 rfl (WH W0 _ z.x.m z.pv z.ps z.pm g.bud fr pg hK (by omega) (jZ g.c.cs) (k0 g.c.cs) (!ec g.c.cs) e.addr he.addr e.width e.val he.val)) rfl ?_; clear hS
 rintro _ B_ ⟨rfl, hB_⟩
 obtain rfl := hB_.symm
 rw [show nP fr pg (jZ g.c.cs) (k0 g.c.cs) (!ec g.c.cs) e.addr e.width 2 = F from hF1, show lp fr pg (jZ g.c.cs) (k0 g.c.cs) (!ec g.c.cs) e.addr e.width e.val = fr2 from hfr2]
 refine ⟨(aa (aa ag)), fun hS => ?_⟩
 refine ah 18 1 hS ?_
 refine aK ?_
 refine au 7 ?_
 refine a8 rfl (fun c2 => ?_) fun c2 => ?_
 ·refine bD ?_
  refine aU [(b3, 0, _)] 7 aT rfl (aa ag) (fun hS => ?_)
  refine ah 0 2 hS ?_
  refine ah 3 2 hS ?_
  refine bF 2 rfl rfl (aD Ks rfl (Ci 5 F)) (aa ag) fun hS => ?_
  refine bF 5 rfl rfl (kV zU rfl (vT W0 _ gb z (iD g) (N + 1) ht (by omega) (rR 5 F) e.addr (dF _) he.addr)) (aa ag) fun hS => ?_
  refine ah 6 1 hS ?_
  refine aK ?_
  refine au 3 ?_
  refine ae ?_
  rw [if_pos c2]
  unfold gM
  rw [Ik]
  exact ⟨_, ⟨rfl, rfl⟩, inferInstance⟩
 refine au 7 ?_
 refine ar 4 (cK Dr rfl (yX W0 _ gb z (iD g) h.c.r.len e.pc)) ?_
 refine ae ?_
 rw [if_neg c2]
 exact ⟨_, ⟨rfl, rfl⟩, inferInstance⟩
theorem XV (h : GOk z g N) (hN : N ≤ 690) (e : Eff) (he : EfOk e) : sQ W0 225 [pV gb, .agg (dA e).toArray] (gM gb z g fr pg R) (.int .i64 (eE g e.cause e.tval).1) (gM gb z (eE g e.cause e.tval).2 fr pg R) := by
 have hbud : (eE g e.cause e.tval).2.bud = g.bud := by unfold eE; split <;> rfl
 refine ai 2 func225 ntmps225 ?_
 refine ax (aV rfl) fun b3 => ?_
 refine au 10 ?_
 refine ar 4 (kV zU rfl (vT W0 _ gb z g N h (by omega) e.cause e.tval (by have := he.cause; omega) he.tval)) ?_
 refine ae ?_
 unfold gM
 rw [hbud]
 exact ⟨_, ⟨rfl, rfl⟩, inferInstance⟩
theorem XW (hl : g.c.rl.length = 16) (e : Eff) : sQ W0 226 [pV gb, .agg (dA e).toArray] (gM gb z g fr pg R) (.int .i64 0) (gM gb z (qp g e.pc) fr pg R) := by
 refine ai 2 func226 ntmps226 ?_
 refine ax (aV rfl) fun b3 => ?_
 refine au 10 ?_
 refine aB rfl (ao call299 rfl (WI W0 _ z.x.m z.pv z.ps z.pm g.bud fr pg)) ?_
 rintro _ B_ ⟨q, rfl, hB_⟩
 obtain rfl := hB_.symm
 refine au 7 ?_
 refine ar 4 (cK Dr rfl (yX W0 _ gb z g hl e.pc)) ?_
 exact ae aL
theorem XX (hk : g.clock < 1000000000) (hl : g.c.rl.length = 16) (e : Eff) : sQ W0 227 [pV gb, .agg (dA e).toArray] (gM gb z g fr pg R) (.int .i64 4) (gM gb z (me (qp (lu g) e.pc) 4 0 0 g.c.pc) fr pg R) := by
 refine ai 2 func227 ntmps227 ?_
 refine ax (aV rfl) fun b3 => ?_
 refine au 10 ?_
 refine ar 9 (ao pr rfl (nK z.x.r g.c.rl g.c.pc hl)) ?_
 refine aE 7 (bA bI rfl rfl rfl (Nat.le_of_ble_eq_true rfl) (by exact rfl : (kj z g).set 8 (.bool true) = kj z (lu g))) ?_
 refine ar 6 (cK Dr rfl (yX W0 _ gb z (lu g) hl e.pc)) ?_
 refine ar 8 (du s7 rfl (qq W0 _ gb z (qp (lu g) e.pc) hk hl 4 0 0 g.c.pc)) ?_
 exact ae aL
def Ip (f : FuncId) (e : Eff) (o : (Int × Gu) × List aC) : Prop := (∀ args w, (callFunc f args).run Tryz.prog w = .ok (.enter f args) w) ∧ ∀ R, bN Tryz.prog W0 f ([pV gb] ++ [.agg (dA e).toArray] ++ []) (gM gb z g fr pg R) (fun v B => v = .int .i64 o.1.1 ∧ B = gM gb z o.1.2 o.2 pg R)
theorem rS {f : FuncId} {e : Eff} {o o' : (Int × Gu) × List aC} (hc : ∀ args w, (callFunc f args).run Tryz.prog w = .ok (.enter f args) w) (eo : o = o') (h : ∀ R, bN Tryz.prog W0 f [pV gb, .agg (dA e).toArray] (gM gb z g fr pg R) (fun v B => v = .int .i64 o'.1.1 ∧ B = gM gb z o'.1.2 o'.2 pg R)) : Ip W0 gb z g fr pg f e o := ⟨hc, by rw [eo]; exact h⟩
theorem XY (e : Eff) : sQ W0 228 [pV gb, .agg (dA e).toArray] R (.int .i64 3) R := by
 refine ai 2 func228 ntmps228 ?_
 refine ax (aV rfl) fun b3 => ?_
 refine au 9 ?_
 exact ae aL
theorem XZ (e : Eff) : sQ W0 229 [pV gb, .agg (dA e).toArray] R (.int .i64 0) R := by
 refine ai 2 func229 ntmps229 ?_
 refine ax (aV rfl) fun b3 => ?_
 refine au 9 ?_
 exact ae aL
theorem Cj (hK : ∀ A, bG (aO W0 A) 1 0 gQ) (h : GOk z g N) (hN : N ≤ 690) (hF : cH fr) (e : Eff) (he : EfOk e) : sP W0 148 [pV gb, .int .i64 e.k] R (fun v B => ∃ f, v = .func (.func f) #[pV gb] #[] ∧ B = R ∧ Ip W0 gb z g fr pg f e (iW g fr pg e)) := by
 refine ai 18 func148 ntmps148 ?_
 refine a8 rfl (fun c2 => ?_) fun c2 => ?_
 ·refine au 3 ?_
  refine ap 6 (dM rfl rfl) ?_
  refine ae ?_
  refine ⟨_, ⟨_, rfl, rfl, rS W0 gb z g fr pg (o' := (oZ g fr pg e, fr)) call223 ?_ fun R => XT W0 R gb z g N fr pg hK h hN hF e he⟩, inferInstance⟩
  rw [iW, if_pos (by omega)]
 refine au 6 ?_
 refine a8 rfl (fun c4 => ?_) fun c4 => ?_
 ·refine au 3 ?_
  refine ap 6 (dM rfl rfl) ?_
  refine ae ?_
  refine ⟨_, ⟨_, rfl, rfl, rS W0 gb z g fr pg (o' := (p7 g fr pg e, yV g fr pg e.addr e.width e.val)) call224 ?_ fun R => XU W0 R gb z g N fr pg hK h hN hF e he⟩, inferInstance⟩
  rw [iW, if_neg (by omega), if_pos (by omega)]
 refine au 6 ?_
 refine a8 rfl (fun c6 => ?_) fun c6 => ?_
 ·refine au 3 ?_
  refine ap 6 (dM rfl rfl) ?_
  refine ae ?_
  refine ⟨_, ⟨_, rfl, rfl, rS W0 gb z g fr pg (o' := (eE g e.cause e.tval, fr)) call225 ?_ fun R => XV W0 R gb z g N fr pg h hN e he⟩, inferInstance⟩
  rw [iW, if_neg (by omega), if_neg (by omega), if_pos (by omega)]
 refine au 6 ?_
 refine a8 rfl (fun c8 => ?_) fun c8 => ?_
 ·refine au 3 ?_
  refine ap 6 (dM rfl rfl) ?_
  refine ae ?_
  refine ⟨_, ⟨_, rfl, rfl, rS W0 gb z g fr pg (o' := ((0, qp g e.pc), fr)) call226 ?_ fun R => XW W0 R gb z g fr pg h.c.r.len e⟩, inferInstance⟩
  rw [iW, if_neg (by omega), if_neg (by omega), if_neg (by omega), if_pos (by omega)]
 refine au 6 ?_
 refine a8 rfl (fun c10 => ?_) fun c10 => ?_
 ·refine au 3 ?_
  refine ap 6 (dM rfl rfl) ?_
  refine ae ?_
  refine ⟨_, ⟨_, rfl, rfl, rS W0 gb z g fr pg (o' := ((4, me (qp (lu g) e.pc) 4 0 0 g.c.pc), fr)) call227 ?_ fun R => XX W0 R gb z g fr pg (h.k (by omega)) h.c.r.len e⟩, inferInstance⟩
  rw [iW, if_neg (by omega), if_neg (by omega), if_neg (by omega), if_neg (by omega), if_pos (by omega)]
 refine au 6 ?_
 refine a8 rfl (fun c12 => ?_) fun c12 => ?_
 ·refine au 3 ?_
  refine ap 6 (dM rfl rfl) ?_
  refine ae ?_
  refine ⟨_, ⟨_, rfl, rfl, rS W0 gb z g fr pg (o' := ((3, g), fr)) call228 ?_ fun R => XY W0 _ gb e⟩, inferInstance⟩
  rw [iW, if_neg (by omega), if_neg (by omega), if_neg (by omega), if_neg (by omega), if_neg (by omega), if_pos (by omega)]
 refine au 6 ?_
 refine ap 4 (dM rfl rfl) ?_
 refine ae ?_
 refine ⟨_, ⟨_, rfl, rfl, rS W0 gb z g fr pg (o' := ((0, g), fr)) call229 ?_ fun R => XZ W0 _ gb e⟩, inferInstance⟩
 rw [iW, if_neg (by omega), if_neg (by omega), if_neg (by omega), if_neg (by omega), if_neg (by omega), if_neg (by omega)]
theorem Y0 (hK : ∀ A, bG (aO W0 A) 1 0 gQ) (hH : ∀ A, bG (aO W0 A) 0 0 jv) (h : GOk z g N) (hN : N ≤ 680) (hF : cH fr) : sQ W0 68 [pV gb] (gM gb z g fr pg R) (.int .i64 (iE z.i g fr pg).1.1) (gM gb z (iE z.i g fr pg).1.2 (iE z.i g fr pg).2 pg R) := by
 obtain ⟨F, hF1⟩ : ∃ F, oY g fr pg g.c.pc 4 0 = F := ⟨_, rfl⟩
 obtain ⟨w, hw1⟩ : ∃ w, nQ g fr pg g.c.pc 4 0 = w := ⟨_, rfl⟩
 have hw : w < 4294967296 := by rw [← hw1]; exact vU hF
 have ht := h.tick
 have hbd := h.bud
 obtain ⟨vb, hvb⟩ : ∃ b, jH (g6 w) = b := ⟨_, rfl⟩
 have hd16 := F9 w
 obtain ⟨o, ho⟩ : ∃ o, m7 z.i (gx g.clock) (g6 w) g.c = o := ⟨_, rfl⟩
 have hok : EfOk o.1 ∧ CpOk o.2 := by rw [← ho]; exact Fc h.c hd16.2.1 h.i
 have hcp : GOk z (u9 (iD g) o.2) (N + 1) := ⟨hok.2, ht.i, ht.clk, ht.bud, ht.ln, ht.tn⟩
 have hbud : ∀ (a b : Nat), (eE (iD g) a b).2.bud = g.bud + 3 := fun a b => by unfold eE; split <;> rfl
 rw [iE, hF1, hw1, hvb, ho]
 refine ai 12 func68 ntmps68 ?_
 refine ar 4 (ao pr rfl (nK z.x.r g.c.rl g.c.pc h.c.r.len)) ?_
 refine aU [(gb, 0, _)] 18 aT rfl (aa ag) (fun hS => ?_)
 refine ah 0 10 hS ?_
 refine ah 11 1 hS ?_
 refine bF 10 rfl rfl (ao zR rfl (vM z.x.c h.c.cs)) (aa ag) fun hS => ?_
 refine bS 12 (by kernel_rfl) rfl rfl (cK call142 rfl (HS W0 _ z.x.m z.pv z.ps z.pm g.bud fr pg hK (by omega) (jZ g.c.cs) (k0 g.c.cs) (!ec g.c.cs) g.c.pc h.c.pc 4 0)) rfl ?_; clear hS
 rintro _ B_ ⟨rfl, hB_⟩
 obtain rfl := hB_.symm
 rw [show nP fr pg (jZ g.c.cs) (k0 g.c.cs) (!ec g.c.cs) g.c.pc 4 0 = F from hF1, show qk fr pg (jZ g.c.cs) (k0 g.c.cs) (!ec g.c.cs) g.c.pc 4 0 = w from hw1]
 refine ⟨(aa ag), fun hS => ?_⟩
 refine ah 13 5 hS ?_
 refine aK ?_
 refine au 8 ?_
 refine a8 rfl (fun c3 => ?_) fun c3 => ?_
 ·refine au 4 ?_
  refine aM (aD Ks rfl (Ci 3 F)) ?_
  refine a7 rfl (aH rfl) ?_
  refine ar 5 (kV zU rfl (vT W0 _ gb z (iD g) (N + 1) ht (by omega) (rR 3 F) g.c.pc (dF _) h.c.pc)) ?_
  refine ae ?_
  rw [if_pos c3]
  unfold gM
  rw [hbud]
  exact ⟨_, ⟨rfl, rfl⟩, inferInstance⟩
 refine au 3 ?_
 rw [if_neg c3]
 refine au 2 ?_
 refine aM (aD call146 rfl (VY hH w hw)) ?_
 rw [hvb]
 refine au 3 ?_
 refine ax (aS zM) fun b6 => ?_
 refine aE 10 (aF kl rfl rfl rfl rfl rfl) ?_
 refine a8 rfl (fun c6 => ?_) fun c6 => ?_
 ·refine au 4 ?_
  refine ar 5 (kV zU rfl (vT W0 _ gb z (iD g) (N + 1) ht (by omega) 1 w (by decide) hw)) ?_
  refine ae ?_
  rw [if_pos (by simpa using c6)]
  unfold gM
  rw [hbud]
  exact ⟨_, ⟨rfl, rfl⟩, inferInstance⟩
 refine au 3 ?_
 obtain rfl : vb = true := by simpa using c6
 rw [if_neg (by decide)]
 refine aU [(gb, 0, _), (b6, 0, _)] 20 aT rfl (aa (aa ag)) (fun hS => ?_)
 refine av 0 rfl rfl rfl hS (b0 zd kl rfl (by first | exact co (k := 0) rfl | exact co (k := 1) rfl) rfl) ?_
 refine ah 1 11 hS ?_
 refine eJ (is := [12, 17]) (by kernel_rfl) rfl ⟨?_, ?_, trivial⟩
 ·skip
  refine cV rfl rfl (ao Dq rfl (yW W0 _ gb z g (h.k (by omega)))) rfl ?_; clear hS
  rintro _ B_ ⟨rfl, hB_⟩
  obtain rfl := hB_.symm
  refine ⟨(aa (aa ag)), fun hS => ?_⟩
  refine eJ (is := [13, 17]) (by kernel_rfl) rfl ⟨?_, ?_, trivial⟩
  ·skip
   refine cV rfl rfl (cK Ku rfl (C8 W0 _ (g6 w) z.x.r z.x.c ((gx g.clock : Nat) : Int) g.c z.i hH h.c hvb h.i (by omega))) rfl ?_; clear hS
   rintro _ B_ ⟨rfl, hB_⟩
   obtain rfl := hB_.symm
   rw [Int.toNat_natCast, ho]
   refine ⟨(aa (aa ag)), fun hS => ?_⟩
   refine ah 14 3 hS ?_
   refine bS 17 (by kernel_rfl) rfl rfl (aS ie) rfl ?_; clear hS
   rintro _ _ ⟨b8, rfl, rfl⟩
   refine ⟨(aa (aa ag)), fun hS => ?_⟩
   refine bU 18 rfl rfl (aF dm rfl rfl rfl rfl rfl) (aa (aa ag)) fun hS => ?_
   refine ah 19 1 hS ?_
   refine aK ?_
   refine au 8 ?_
   refine a8 rfl (fun c9 => ?_) fun c9 => ?_
   ·exact absurd rfl c9
   refine au 7 ?_
   refine aB rfl (aD Kv rfl (Cj W0 _ gb z (u9 (iD g) o.2) (N + 1) fr pg hK hcp (by omega) hF o.1 hok.1)) ?_
   rintro _ B_ ⟨f, rfl, hB_, hf⟩
   obtain rfl := hB_.symm
   refine au 7 ?_
   refine ar 4 (iK uI (gF (us := [pV gb]) (cs := []) rfl hf.1 rfl (hf.2 _))) ?_
   exact ae aL
  skip
  refine cV rfl rfl (aS ie) rfl ?_; clear hS
  rintro _ _ ⟨b8, rfl, rfl⟩
  refine ⟨(aa (aa ag)), fun hS => ?_⟩
  refine bS 13 (by kernel_rfl) rfl rfl (cK Ku rfl (C8 W0 _ (g6 w) z.x.r z.x.c ((gx g.clock : Nat) : Int) g.c z.i hH h.c hvb h.i (by omega))) rfl ?_; clear hS
  rintro _ B_ ⟨rfl, hB_⟩
  obtain rfl := hB_.symm
  rw [Int.toNat_natCast, ho]
  refine ⟨(aa (aa ag)), fun hS => ?_⟩
  refine ah 14 3 hS ?_
  refine bU 18 rfl rfl (aF dm rfl rfl rfl rfl rfl) (aa (aa ag)) fun hS => ?_
  refine ah 19 1 hS ?_
  refine aK ?_
  refine au 8 ?_
  refine a8 rfl (fun c9 => ?_) fun c9 => ?_
  ·exact absurd rfl c9
  refine au 7 ?_
  refine aB rfl (aD Kv rfl (Cj W0 _ gb z (u9 (iD g) o.2) (N + 1) fr pg hK hcp (by omega) hF o.1 hok.1)) ?_
  rintro _ B_ ⟨f, rfl, hB_, hf⟩
  obtain rfl := hB_.symm
  refine au 7 ?_
  refine ar 4 (iK uI (gF (us := [pV gb]) (cs := []) rfl hf.1 rfl (hf.2 _))) ?_
  exact ae aL
 skip
 refine cV rfl rfl (aS ie) rfl ?_; clear hS
 rintro _ _ ⟨b8, rfl, rfl⟩
 refine ⟨(aa (aa ag)), fun hS => ?_⟩
 refine bF 12 rfl rfl (ao Dq rfl (yW W0 _ gb z g (h.k (by omega)))) (aa (aa ag)) fun hS => ?_
 refine bS 13 (by kernel_rfl) rfl rfl (cK Ku rfl (C8 W0 _ (g6 w) z.x.r z.x.c ((gx g.clock : Nat) : Int) g.c z.i hH h.c hvb h.i (by omega))) rfl ?_; clear hS
 rintro _ B_ ⟨rfl, hB_⟩
 obtain rfl := hB_.symm
 rw [Int.toNat_natCast, ho]
 refine ⟨(aa (aa ag)), fun hS => ?_⟩
 refine ah 14 3 hS ?_
 refine bU 18 rfl rfl (aF dm rfl rfl rfl rfl rfl) (aa (aa ag)) fun hS => ?_
 refine ah 19 1 hS ?_
 refine aK ?_
 refine au 8 ?_
 refine a8 rfl (fun c9 => ?_) fun c9 => ?_
 ·exact absurd rfl c9
 refine au 7 ?_
 refine aB rfl (aD Kv rfl (Cj W0 _ gb z (u9 (iD g) o.2) (N + 1) fr pg hK hcp (by omega) hF o.1 hok.1)) ?_
 rintro _ B_ ⟨f, rfl, hB_, hf⟩
 obtain rfl := hB_.symm
 refine au 7 ?_
 refine ar 4 (iK uI (gF (us := [pV gb]) (cs := []) rfl hf.1 rfl (hf.2 _))) ?_
 exact ae aL
end
abbrev gI (gb : Nat) (z : Gz) (g : Gu) (R : List HP) : List HP := pt gb (d9 z g) :: pt z.x.r (dq g.c.rl g.c.pc) :: pt z.x.c (dH g.c.cs z.i) :: eN z.tr g.es :: lq z.x.v (g.ls, g.ln) :: lr z.x.t g.tm :: R
abbrev gS (gb : Nat) (z : Gz) (g : Gu) (fr : List aC) (pg : List Pl) (R : List HP) : List HP := pt gb (d9 z g) :: pt z.x.r (dq g.c.rl g.c.pc) :: pt z.x.c (dH g.c.cs z.i) :: eN z.tr g.es :: lq z.x.v (g.ls, g.ln) :: lr z.x.t g.tm :: i7 z.x.m ⟨z.pv, z.ps, z.pm, g.bud, fr, pg⟩ :: bu z.ps fr :: R
theorem CpOk.enter {g : Gu} (h : CpOk g.c) {cause tval : Nat} (h1 : cause < 4294967296) (h2 : tval < 4294967296) : CpOk (yU g cause tval).c := ⟨h.r, h.cs.at_ 1, h.cs.enter h.pc h1 h2⟩
theorem Ck (ls : List Li) (n : Int) (k : Nat) : kh ls n k ≤ n + 1 := by unfold kh; split <;> omega
theorem GOk.fired {z : Gz} {g : Gu} {N : Nat} (h : GOk z g N) : GOk z (jO g) (N + 1) := by
 refine ⟨h.c, h.i, by have := h.clk; show g.clock ≤ N + 1; omega, by have := h.bud; show g.bud ≤ _; omega, ?_, by have := h.tn; show g.tm.now ≤ _; omega⟩
 have := h.ln
 have := Ck g.ls g.ln 7
 show (if _ then g.ln else kh g.ls g.ln 7) ≤ _
 split <;> omega
theorem GOk.le {z : Gz} {g : Gu} {N M : Nat} (h : GOk z g N) (hM : N ≤ M) : GOk z g M := ⟨h.c, h.i, by have := h.clk; omega, by have := h.bud; omega, by have := h.ln; omega, by have := h.tn; omega⟩
theorem GOk.int {z : Gz} {g : Gu} {N : Nat} (h : GOk z g N) : GOk z (i9 g).2 (N + 1) := by
 unfold i9
 split
 ·cases q : jx g.ls with
  | none => exact h.le (Nat.le_succ N)
  | some n =>
   have := (yP q).1
   exact ⟨h.c.enter (by omega) (by decide), h.i, by have := h.clk; show g.clock ≤ _; omega, by have := h.bud; show g.bud ≤ _; omega, by have := h.ln; show g.ln ≤ _; omega, by have := h.tn; show g.tm.now ≤ _; omega⟩
 exact h.le (Nat.le_succ N)
theorem GOk.clock {z : Gz} {g : Gu} {N : Nat} (h : GOk z g N) : GOk z (fX g) (N + 1) := ⟨h.c, h.i, by have := h.clk; show g.clock + 1 ≤ _; omega, by have := h.bud; show g.bud ≤ _; omega, by have := h.ln; show g.ln ≤ _; omega, by have := h.tn; show g.tm.now ≤ _; omega⟩
theorem vV (g : Gu) (a b : Nat) : (eE g a b).2.ls = g.ls ∧ (eE g a b).2.ln = g.ln ∧ (eE g a b).2.tm = g.tm := by
 unfold eE; split <;> exact ⟨rfl, rfl, rfl⟩
theorem Iq (i : Nat) (g : Gu) (fr : List aC) (pg : List Pl) : (iE i g fr pg).1.2.ls = g.ls ∧ (iE i g fr pg).1.2.ln = g.ln ∧ (iE i g fr pg).1.2.tm = g.tm := by
 unfold iE
 split; · exact vV _ _ _
 split; · exact vV _ _ _
 unfold iW
 split
 ·unfold oZ
  split
  ·exact vV _ _ _
  exact ⟨rfl, rfl, rfl⟩
 split
 ·unfold p7
  split
  ·exact vV _ _ _
  exact ⟨rfl, rfl, rfl⟩
 split; · exact vV _ _ _
 split; · exact ⟨rfl, rfl, rfl⟩
 split; · exact ⟨rfl, rfl, rfl⟩
 split; · exact ⟨rfl, rfl, rfl⟩
 exact ⟨rfl, rfl, rfl⟩
section
variable (W0 : World) (R : List HP) (gb : Nat) (z : Gz) (g : Gu) (N : Nat) (fr : List aC) (pg : List Pl)
theorem Y1 (h : GOk z g N) (hN : N ≤ 690) : sQ W0 67 [pV gb] (gI gb z g R) (.bool (i9 (jO g)).1) (gI gb z (i9 (jO g)).2 R) := by
 have htn := h.tn
 have hln := h.ln
 obtain ⟨ob, hob⟩ : ∃ b, rh g.c.cs = b := ⟨_, rfl⟩
 obtain ⟨K, hK⟩ : ∃ K, qo g.tm ((gx g.clock : Nat) : Int) = K := ⟨_, rfl⟩
 obtain ⟨q, hq⟩ : ∃ q, jO g = q := ⟨_, rfl⟩
 have hqc : q.c = g.c := by rw [← hq]
 have hqo : kj z q = kj z g := by rw [← hq]
 have hqe : q.es = g.es := by rw [← hq]
 have hqk : q.clock = g.clock := by rw [← hq]
 rw [hq, i9, hqc, hob]
 refine ai 5 func67 ntmps67 ?_
 refine dU (fun _ : Unit => True) (fun _ => [(0, pV gb)]) (fun _ => pt gb (d9 z q) :: pt z.x.r (dq q.c.rl q.c.pc) :: pt z.x.c (dH q.c.cs z.i) :: eN z.tr q.es :: lq z.x.v (q.ls, q.ln) :: lr z.x.t q.tm :: R) ?_ ?_
 ·skip
  refine bD ?_
  refine aU [(gb, 0, _)] 10 aT rfl (aa ag) (fun hS => ?_)
  refine ah 0 6 hS ?_
  refine bF 6 rfl rfl (ao Dq rfl (yW W0 _ gb z g (h.k (by omega)))) (aa ag) fun hS => ?_
  refine bS 7 (by kernel_rfl) rfl rfl (ao call138 rfl (XO z.x.t g.tm ((gx g.clock : Nat) : Int) (by omega))) rfl ?_; clear hS
  rintro _ B_ ⟨fa, fc, rfl, hB_⟩
  obtain rfl := hB_.symm
  rw [hK]
  refine ⟨(aa ag), fun hS => ?_⟩
  refine ah 8 2 hS ?_
  refine aK ?_
  refine aY ?_
  refine a8 rfl (fun c1 => ?_) fun c1 => ?_
  ·refine au 6 ?_
   refine aM (ao call14 rfl (I4 z.x.v g.ls g.ln 7 (by omega))) ?_
   rw [if_pos (show jc 7 = true by decide), if_pos (show jc 7 = true by decide), if_pos (show jc 7 = true by decide), show (7 : Int).toNat = 7 from rfl]
   refine au 2 ?_
   refine cj () ?_ (he := ?_)
   ·trivial
   rw [← hq]
   show Ent _ (pt gb (d9 z g) :: pt z.x.r (dq g.c.rl g.c.pc) :: pt z.x.c (dH g.c.cs z.i) :: eN z.tr g.es :: lq z.x.v (if qo g.tm ((gx g.clock : Nat) : Int) = 0 then g.ls else mP g.ls g.ln 7, if qo g.tm ((gx g.clock : Nat) : Int) = 0 then g.ln else kh g.ls g.ln 7) :: lr z.x.t (u7 g.tm ((gx g.clock : Nat) : Int)) :: R)
   rw [hK, if_neg (by omega), if_neg (by omega)]
   exact inferInstance
  refine au 2 ?_
  refine cj () ?_ (he := ?_)
  ·trivial
  rw [← hq]
  show Ent _ (pt gb (d9 z g) :: pt z.x.r (dq g.c.rl g.c.pc) :: pt z.x.c (dH g.c.cs z.i) :: eN z.tr g.es :: lq z.x.v (if qo g.tm ((gx g.clock : Nat) : Int) = 0 then g.ls else mP g.ls g.ln 7, if qo g.tm ((gx g.clock : Nat) : Int) = 0 then g.ln else kh g.ls g.ln 7) :: lr z.x.t (u7 g.tm ((gx g.clock : Nat) : Int)) :: R)
  rw [hK, if_pos (by omega), if_pos (by omega)]
  exact inferInstance
 intro _ _
 clear hq
 obtain ⟨qc, qa, qb, qcc, qls, qln, qtm, qh, qrd, qclk, qes, qbud⟩ := q
 dsimp only at hqc hqo hqe hqk ⊢
 subst hqc; subst hqe; subst hqk
 have hcs := h.c
 refine au 8 ?_
 refine aM (ao call139 rfl (Vt z.x.c h.c.cs)) ?_
 rw [hob]
 refine au 3 ?_
 refine a8 rfl (fun c3 => ?_) fun c3 => ?_
 ·refine au 7 ?_
  refine ae ?_
  rw [if_neg (by simpa using c3)]
  exact ⟨_, ⟨rfl, rfl⟩, inferInstance⟩
 refine au 3 ?_
 rw [if_pos (by simpa using c3)]
 refine au 6 ?_
 refine aM (ao call140 rfl (Xo z.x.v qls qln)) ?_
 obtain ⟨bo, hbo⟩ : ∃ b, jx qls = b := ⟨_, rfl⟩
 rw [hbo]
 have htk : bo = none → mQ qls = qls := fun e => by unfold mQ; rw [hbo, e]
 have hlt : ∀ n, bo = some n → n < 8 := fun n e => (yP (hbo.trans e)).1
 refine au 14 ?_
 refine a8 rfl (fun c6 => ?_) fun c6 => ?_
 ·refine au 7 ?_
  refine ae ?_
  cases bo with
  | some n => exact absurd rfl c6
  | none =>
   rw [htk rfl]
   exact ⟨_, ⟨rfl, rfl⟩, inferInstance⟩
 refine au 3 ?_
 obtain ⟨n, rfl⟩ : ∃ n, bo = some n := by
  cases bo with
  | some n => exact ⟨n, rfl⟩
  | none => simp at c6
 have hn8 := hlt n rfl
 rw [Option.getD_some]
 refine au 6 ?_
 refine aM (ao pr rfl (nK z.x.r g.c.rl g.c.pc h.c.r.len)) ?_
 refine a7 rfl (aH rfl) ?_
 refine a7 rfl (cX cW dk rfl (eA (by omega))) ?_
 refine ap 13 (bO rfl rfl (by rw [eA (by omega)]; omega : IntKind.wrap .u32 (256 + (n : Int)) = ((256 + n : Nat) : Int))) ?_
 refine ar 15 (ao call141 rfl (Hq z.x.c g.c.pc (256 + n) 0 h.c.cs h.c.pc (by omega) (by decide))) ?_
 refine ar 7 (ao zN rfl (vq z.x.r g.c.rl g.c.pc (dO g.c.cs 1) h.c.r.len)) ?_
 refine ar 8 (du s7 rfl (qq W0 _ gb z ⟨⟨g.c.rl, dO g.c.cs 1, ri g.c.cs g.c.pc (256 + n) 0⟩, qa, qb, qcc, mQ qls, qln, qtm, qh, qrd, g.clock, g.es, qbud⟩ (h.k (by omega)) h.c.r.len 3 (256 + n) 0 g.c.pc)) ?_
 exact ae aL
theorem yY (hK : ∀ A, bG (aO W0 A) 1 0 gQ) (hH : ∀ A, bG (aO W0 A) 0 0 jv) (h : GOk z g N) (hN : N ≤ 600) (hF : cH fr) : sQ W0 25 [pV gb] (gS gb z g fr pg R) (.int .i64 (eS z.i g fr pg).1.1) (gS gb z (eS z.i g fr pg).1.2 (eS z.i g fr pg).2 pg R) := by
 have hck := h.clk
 have h1 := h.clock
 have h2 := (h1.fired).int
 obtain ⟨q, hq⟩ : ∃ q, i9 (jO (fX g)) = q := ⟨_, rfl⟩
 have hqb : q.2.bud = g.bud := by
  rw [← hq]; unfold i9
  split
  ·cases jx (jO (fX g)).ls <;> rfl
  rfl
 rw [hq] at h2
 rw [eS, hq]
 refine ai 9 func25 ntmps25 ?_
 refine ar 2 (ao lx rfl (kL W0 _ gb z g)) ?_
 refine a8 rfl (fun c1 => ?_) fun c1 => ?_
 ·exact absurd c1 (by decide)
 refine au 8 ?_
 refine ap 2 (bO rfl rfl (by rw [aG (by omega)]; omega : IntKind.wrap .i64 ((g.clock : Int) + 1) = ((g.clock + 1 : Nat) : Int))) ?_
 refine aE 14 (bA aj rfl rfl rfl (Nat.le_of_ble_eq_true rfl) (by exact rfl : (kj z g).set 27 (.int .i64 ((g.clock + 1 : Nat) : Int)) = kj z (fX g))) ?_
 refine a8 rfl (fun c4 => ?_) fun c4 => ?_
 ·refine au 8 ?_
  refine ae ?_
  rw [if_pos c4]
  exact ⟨_, ⟨rfl, rfl⟩, inferInstance⟩
 refine bD ?_
 rw [if_neg c4]
 refine au 2 ?_
 refine aM (xk call67 rfl (Y1 W0 _ gb z (fX g) (N + 1) h1 (by omega))) ?_
 rw [hq]
 refine au 3 ?_
 refine a8 rfl (fun c6 => ?_) fun c6 => ?_
 ·refine au 8 ?_
  refine ae ?_
  rw [if_pos c6]
  unfold gS
  rw [← hqb]
  exact ⟨_, ⟨rfl, rfl⟩, inferInstance⟩
 refine au 4 ?_
 rw [if_neg c6, ← hqb]
 refine au 2 ?_
 refine aM (xk call68 rfl (Y0 W0 _ gb z q.2 (N + 1 + 1 + 1) fr pg hK hH h2 (by omega) hF)) ?_
 have hxv := Iq z.i q.2 fr pg
 refine au 4 ?_
 refine ae ?_
 refine ⟨_, ⟨rfl, rfl⟩, ?_⟩
 unfold gS
 rw [hxv.1, hxv.2.1, hxv.2.2]
 exact inferInstance
end
theorem Y2 {po : Po} {Ls : List (List Nat)} {f w : Nat} (h : LsOk po Ls) (hf : f < po.length) (ha : cD po f = ((w : Int), true)) : LsOk (po.set f (-1, false)) Ls := by
 refine ⟨h.len, fun u hu => ?_⟩
 rw [AW hf (by rw [ha]; intro e; have := (Prod.mk.inj e).2; cases this) (by intro e; have := (Prod.mk.inj e).1; omega)]
 exact h.row u hu
theorem Ir (pb ps : Nat) (po : Po) (fr : List aC) (f w : Nat) (hf : f < po.length) (hff : f < fr.length) (hw : w < 16) (hP : PoOk po) (ha : cD po f = ((w : Int), true)) : sQ W0 52 [pV pb, .int .i64 f] (cJ pb (ps, po) :: bu ps fr :: R) (.int .i64 0) (cJ pb (ps, po.set f ((w : Int), false)) :: bu ps (fr.set f cI) :: R) := by
 refine ai 10 func52 ntmps52 ?_
 refine ar 3 (ao wy rfl (tj pb ps po (by omega))) ?_
 refine a8 rfl (fun c1 => ?_) fun c1 => ?_
 ·exact absurd c1 (by decide)
 refine au 4 ?_
 refine ar 4 (ao JI rfl (B8 pb ps po (f : Int))) ?_
 refine a8 rfl (fun c3 => ?_) fun c3 => ?_
 ·exact absurd c3 (by rw [show dY po.length (f : Int) = true from by simp [dY]; omega]; decide)
 refine bD ?_
 refine te (pb := pb) fun a c vs Ls hv hL => ?_
 refine fK (r := osl 210 2) (b := .slice a po.length c) (jW (fun h1 h2 => by have := congrArg List.length h2; rw [l8] at this; simp at this; omega) fun g n cap sp h1 h2 h3 h4 h5 => ?_)
 cases h1
 have hst := B7 po sp f 1 hf (by decide)
 rw [ha] at hst
 refine au 6 ?_
 refine a7 rfl (bc qx ui rfl rfl rfl hf (by first | exact Nat.zero_add _ | rfl)) ?_
 refine a7 rfl (jV ue bI) ?_
 refine ap 4 (aA gz rfl (aN hst)) ?_
 refine a8 rfl (fun c5 => ?_) fun c5 => ?_
 ·simp at c5
 refine au 4 ?_
 refine gD (B := pt pb (ac (ek ps (.slice (some ⟨g, 0, none⟩) po.length c) vs) 208) :: osl 210 2 (.slice (some ⟨g, 0, none⟩) po.length c) (po.flatMap dS) :: kH 2 (cn ((vs.zip Ls).map dK)) :: bu ps fr :: R) ?_ ?_
 ·refine Ent.trans (B := pt g (ac (po.flatMap dS ++ sp) 210) :: pt pb (ac (ek ps (.slice (some ⟨g, 0, none⟩) po.length c) vs) 208) :: kH 2 (cn ((vs.zip Ls).map dK)) :: bu ps fr :: R) inferInstance ?_
  refine (eB (g := g) (E := 210) (sz := 2) (B := pt pb (ac (ek ps (.slice (some ⟨g, 0, none⟩) po.length c) vs) 208) :: kH 2 (cn ((vs.zip Ls).map dK)) :: bu ps fr :: R) h2 h3 (l8 po) h5).trans inferInstance
 refine au 3 ?_
 refine ar 4 (kV call94 rfl (Fw pb ps po fr f w true hf hff hw hP ha (some ⟨g, 0, none⟩) c vs Ls hv (Y2 hL hf ha))) ?_
 exact ae aL
theorem Y3 (pb ps : Nat) (po : Po) (w : Nat) (h0 : 0 < po.length) (hw : w < 16) (hP : PoOk po) (he : bP po w = []) : sQ W0 48 [pV pb, .int .i64 w] (cJ pb (ps, po) :: R) (.tuple #[.int .i64 0, .int .i64 2]) (cJ pb (ps, po) :: R) := by
 have hw' : mG w = true := by simp only [mG, decide_eq_true_eq]; omega
 refine ai 11 func48 ntmps48 ?_
 refine ar 3 (ao wy rfl (tj pb ps po h0)) ?_
 refine a8 rfl (fun c1 => ?_) fun c1 => ?_
 ·exact absurd c1 (by decide)
 refine au 3 ?_
 refine ar 4 (aD CW rfl (xT w)) ?_
 refine a8 rfl (fun c3 => ?_) fun c3 => ?_
 ·exact absurd c3 (by simp [hw'])
 refine bD ?_
 refine te (pb := pb) fun a c vs Ls hv hL => ?_
 have hrow := hL.row w hw
 refine gD (B := gj w pb (Ls.getD w [], ek ps (.slice a po.length c) vs) :: kH 3 (cn (((vs.zip Ls).map dK).eraseIdx w)) :: osl 210 2 (.slice a po.length c) (po.flatMap dS) :: R) ?_ ?_
 ·exact (Ent.cons (Ent.ofPerm (List.Perm.swap _ _ _))).trans (xO hw hv hL.len)
 refine au 5 ?_
 refine a7 rfl (dI zy zA rfl rfl rfl hw (by first | exact Nat.zero_add _ | rfl)) ?_
 refine ar 4 (ao CV rfl (xS pb w (Ls.getD w []) (ek ps (.slice a po.length c) vs))) ?_
 refine a8 rfl (fun c5 => ?_) fun c5 => ?_
 ·refine au 9 ?_
  refine aJ ?_
  refine ⟨_, ⟨rfl, rfl⟩, ?_⟩
  have hset : Ls.set w (Ls.getD w []) = Ls := by
   apply List.ext_getElem (by simp)
   intro i h1 h2
   rw [List.getElem_set]
   split
   ·rename_i e; subst e; simp [List.getD, h2]
   rfl
  exact Ent.trans (B := gj w pb (Ls.getD w [], ek ps (.slice a po.length c) vs) :: osl 210 2 (.slice a po.length c) (po.flatMap dS) :: kH 3 (cn (((vs.zip Ls).map dK).eraseIdx w)) :: R) inferInstance (xP hw hv rfl rfl hL.len (by rw [hset]; exact hL))
 exact absurd (by rw [hrow.1.length_eq, he]; rfl) c5
structure Mm where
  fr : List aC
  pg : List Pl
  po : Po
structure GMem (i : Nat) (x : Mm) : Prop where
  fr : cH x.fr
  po : PoOk x.po
  pg : Pgs x.pg
  len : x.po.length = x.fr.length
  pl : PlOk x.fr.length x.pg
  own : ∀ t : Nat, t < 8 → aP x.pg t = true → cD x.po (cm x.pg t).1.toNat = ((i : Int), true)
  all : ∀ f, f < x.po.length → cD x.po f = ((i : Int), true) → ∃ t : Nat, t < 8 ∧ aP x.pg t = true ∧ (cm x.pg t).1 = (f : Int)
  far : ∀ t : Nat, 8 ≤ t → aP x.pg t = true → (cD x.po (cm x.pg t).1.toNat).1 ≠ (i : Int)
  nul : ∀ f, f < x.po.length → cD x.po f = ((i : Int), false) → x.fr.getD f [] = cI
theorem MOk.frame {fr fr' : List aC} {pg : List Pl} {d : Nat} {L : List Ln} {T : List It} (h : MOk fr pg d L T) (hl : fr'.length = fr.length) (hF : cH fr') (hs : ∀ t : Nat, t < 8 → aP pg t = true → fr'.getD (cm pg t).1.toNat [] = fr.getD (cm pg t).1.toNat []) : MOk fr' pg d L T := by
 refine ⟨hF, h.dl, h.P, by rw [hl]; exact h.pl, h.ti, fun x hx => ?_⟩
 have hx1 := h.ln x hx
 refine hx1.move hx1.at_.1 rfl fun t ht hb => ⟨hb, fun q => BV hl rfl rfl fun _ o ho => ?_⟩
 have ho2 := hx1.own
 obtain ⟨k, rfl⟩ : ∃ k : Nat, t = (k : Int) := ⟨t.toNat, by rcases ht with rfl | rfl <;> omega⟩
 have hk : k < 8 := by rcases ht with e | e <;> omega
 have := hs k hk q
 unfold kx
 rw [hl, this]
theorem vW {pg : List Pl} (h : Pgs pg) {t : Int} (ht : aP pg t = true) : 0 ≤ (cm pg t).1 ∧ (cm pg t).1 < 32 := by
 have ht2 := ht
 simp only [aP, Bool.and_eq_true, decide_eq_true_eq] at ht2
 obtain ⟨i, rfl, hi⟩ := jq ht2.1
 rw [Int.toNat_natCast] at ht2
 rw [cm, if_pos ht, Int.toNat_natCast]
 have := h.ok i hi ht2.2
 simp only [jp, decide_eq_true_eq] at this
 omega
theorem GMem.at_ {i : Nat} {x : Mm} (h : GMem i x) {t : Int} (ht : aP x.pg t = true) : ∃ f : Nat, (cm x.pg t).1 = (f : Int) ∧ f < x.fr.length ∧ f < x.po.length := by
 have h1 := vW h.pg ht
 have h2 := h.pl.rng t ht
 exact ⟨(cm x.pg t).1.toNat, by omega, by omega, by rw [h.len]; omega⟩
def mR (i n : Nat) (x : Mm) : Mm := ⟨x.fr.set (cm x.pg n).1.toNat cI, fA x.pg n, x.po.set (cm x.pg n).1.toNat ((i : Int), false)⟩
theorem Iu {fr : List aC} (h : cH fr) (f : Nat) : cH (fr.set f cI) := fun y hy => by
 rcases List.mem_or_eq_of_mem_set hy with q | q
 ·exact h y q
 rw [q]; exact EA
theorem yZ {pg : List Pl} {n : Nat} (hl : pg.length = 12) {t : Int} : aP (fA pg n) t = (aP pg t && decide (t ≠ (n : Int))) := by
 unfold fA
 by_cases hn : aP pg n = true
 ·rw [if_pos hn, Int.toNat_natCast]
  by_cases e : t = (n : Int)
  ·subst e
   rw [decide_eq_false (by simp), Bool.and_false]
   unfold aP
   rw [Int.toNat_natCast]
   have hi := H8 hn
   obtain ⟨j, hj, hj2⟩ := jq hi
   have : eL (pg.set n (0, 0)) n = (0, 0) := by unfold eL; simp [List.getD, hl, show n < 12 by omega]
   rw [this]; simp
  rw [(eR e).1, decide_eq_true e, Bool.and_true]
 rw [if_neg hn]
 by_cases e : t = (n : Int)
 ·subst e; rw [show aP pg n = false by simpa using hn]; rfl
 rw [decide_eq_true e, Bool.and_true]
theorem Cl {pg : List Pl} {n : Nat} {t : Int} (e : t ≠ (n : Int)) : cm (fA pg n) t = cm pg t := by
 unfold fA
 split
 ·rw [Int.toNat_natCast]; exact (eR e).2
 rfl
theorem z3 {α : Type} {l : List α} {n k : Nat} {x d : α} (h : k ≠ n) : (l.set n x).getD k d = l.getD k d := by
 simp only [List.getD_eq_getElem?_getD]
 rw [List.getElem?_set_ne (fun e => h e.symm)]
theorem Y4 {α : Type} {l : List α} {n : Nat} {x d : α} (h : n < l.length) : (l.set n x).getD n d = x := by
 simp [List.getD, h]
theorem GMem.give {i n : Nat} {x : Mm} (h : GMem i x) (hn : n < 8) (ht : aP x.pg n = true) (hi : i < 16) : GMem i (mR i n x) := by
 obtain ⟨f, hf, hff, hfp⟩ := h.at_ ht
 have ho := h.own n hn ht
 rw [hf, Int.toNat_natCast] at ho
 have hg : mR i n x = ⟨x.fr.set f cI, fA x.pg n, x.po.set f ((i : Int), false)⟩ := by unfold mR; rw [hf, Int.toNat_natCast]
 rw [hg]
 have ne : ∀ t : Nat, aP (fA x.pg n) t = true → aP x.pg t = true ∧ t ≠ n ∧ cm (fA x.pg n) t = cm x.pg t ∧ (cm x.pg t).1.toNat ≠ f := fun t q => by
  rw [yZ h.pg.len, Bool.and_eq_true, decide_eq_true_iff] at q
  have e : (t : Int) ≠ (n : Int) := q.2
  refine ⟨q.1, fun e2 => e (by rw [e2]), Cl e, fun e2 => e ?_⟩
  have h1 := vW h.pg q.1
  exact h.pl.inj _ _ q.1 ht (by rw [hf]; omega)
 refine ⟨Iu h.fr f, h.po.set hfp (by simp) (by simp; omega), H9 h.pg, by rw [List.length_set, List.length_set]; exact h.len, ?_, fun t h8 q => ?_, fun k hk q => ?_, fun t h8 q => ?_, fun k hk q => ?_⟩
 ·rw [List.length_set]
  exact HQ (n := n) h.pg.len h.pl
 ·obtain ⟨q1, q2, q3, q4⟩ := ne t q
  dsimp only at q ⊢
  rw [q3, ir hfp, if_neg q4]
  exact h.own t h8 q1
 ·dsimp only at hk q ⊢
  rw [List.length_set] at hk
  rw [ir hfp] at q
  split at q
  ·have := (Prod.mk.inj q).2; cases this
  rename_i e
  obtain ⟨t, h8, h1, h2⟩ := h.all k hk q
  have hne : t ≠ n := fun e2 => e (by rw [e2, hf] at h2; omega)
  refine ⟨t, h8, ?_, ?_⟩
  ·rw [yZ h.pg.len, h1, Bool.true_and, decide_eq_true_iff]
   intro e2; exact hne (by omega)
  rw [Cl (fun e2 => hne (by omega))]; exact h2
 ·obtain ⟨q1, q2, q3, q4⟩ := ne t q
  dsimp only at q ⊢
  rw [q3, ir hfp, if_neg q4]
  exact h.far t h8 q1
 dsimp only at hk q ⊢
 rw [List.length_set] at hk
 rw [ir hfp] at q
 by_cases e : k = f
 ·subst e; exact Y4 hff
 rw [if_neg e] at q
 rw [z3 e]
 exact h.nul k hk q
def mf (i n : Nat) (x : Mm) : Mm := if aP x.pg n then mR i n x else x
def dx (i : Nat) : Nat → Mm → Mm
  | 0, x => x
  | n + 1, x => mf i n (dx i n x)
theorem GMem.strip {i : Nat} {x : Mm} (h : GMem i x) (hi : i < 16) : ∀ n, n ≤ 8 → GMem i (dx i n x)
 | 0, _ => h
 | n + 1, hn => by
  have h1 := h.strip hi n (by omega)
  rw [dx, mf]
  split
  ·rename_i q; exact h1.give (by omega) q hi
  exact h1
theorem Y5 {pg : List Pl} {n : Nat} (h : aP pg n = true) : tN pg n = 0 := by rw [tN, if_pos (H8 h), if_pos h]
theorem Y6 (pb ps pm i : Nat) (x : Mm) (h : GMem i x) (hi : i < 16) : sP W0 53 [pV pb, pV pm] (cJ pb (ps, x.po) :: bu ps x.fr :: pt pm (bJ x.pg) :: R) (fun v B => ∃ k : Nat, v = .int .i64 k ∧ B = cJ pb (ps, (dx i 8 x).po) :: bu ps (dx i 8 x).fr :: pt pm (bJ (dx i 8 x).pg) :: R) := by
 refine ai 17 func53 ntmps53 ?_
 refine cY (fun X : Nat × Nat => X.1 ≤ 8 ∧ X.2 ≤ X.1) (fun X => [(0, pV pb), (1, pV pm), (5, .int .i64 X.2), (9, .int .i64 X.1)]) (fun X => cJ pb (ps, (dx i X.1 x).po) :: bu ps (dx i X.1 x).fr :: pt pm (bJ (dx i X.1 x).pg) :: R) (fun X => 8 - X.1) (0, 0) ?_ ?_
 ·exact ⟨Nat.zero_le _, Nat.le_refl _⟩
 intro ⟨n, m⟩ ⟨hn, hm⟩
 dsimp only at hn hm ⊢
 have hg := h.strip hi n hn
 have hs : dx i (n + 1) x = mf i n (dx i n x) := rfl
 obtain ⟨y, hy⟩ : ∃ y, dx i n x = y := ⟨_, rfl⟩
 rw [hy] at hg hs ⊢
 refine au 6 ?_
 refine a8 rfl (fun c3 => ?_) fun c3 => ?_
 ·refine au 2 ?_
  refine dU (fun X : Nat => n < 8 ∧ X ≤ n + 1) (fun X => [(0, pV pb), (1, pV pm), (5, .int .i64 X), (9, .int .i64 n)]) (fun X => cJ pb (ps, (mf i n y).po) :: bu ps (mf i n y).fr :: pt pm (bJ (mf i n y).pg) :: R) ?_ ?_
  ·skip
   refine au 11 ?_
   refine ar 3 (ao ug rfl (qW pm y.pg hg.pg n)) ?_
   refine ax (aS jh) fun b1 => ?_
   refine aE 9 (aF fm rfl rfl rfl rfl rfl) ?_
   refine bB rfl rfl rfl (fun g6_3 => ?_) fun g6_3 => ?_
   ·have hth : aP y.pg n = false := by simpa using g6_3
    have e1 : mf i n y = y := by rw [mf, if_neg (by rw [hth]; decide)]
    refine au 11 ?_
    refine cj m ?_ (he := ?_)
    ·omega
    rw [e1]
    exact inferInstance
   have hth : aP y.pg n = true := by simpa using g6_3
   obtain ⟨f, hf, hff, hfp⟩ := hg.at_ hth
   have ho := hg.own n (by omega) hth
   rw [hf, Int.toNat_natCast] at ho
   have e1 : mf i n y = ⟨y.fr.set f cI, fA y.pg n, y.po.set f ((i : Int), false)⟩ := by
    rw [mf, if_pos hth, mR, hf, Int.toNat_natCast]
   refine au 4 ?_
   refine ar 5 (ao CO rfl (Ha pm y.pg hg.pg n)) ?_
   refine a8 rfl (fun c6 => ?_) fun c6 => ?_
   ·exact absurd c6 (by rw [Y5 hth]; decide)
   refine au 6 ?_
   refine a7 rfl (aA aX rfl (aN (v := .int .i64 f) (by rw [← hf]; rfl))) ?_
   refine ar 4 (cK call52 rfl (Ir pb ps y.po y.fr f i hfp hff hi hg.po ho)) ?_
   refine ap 4 (bO rfl rfl (by rw [aG (by omega)]; omega : IntKind.wrap .i64 ((m : Int) + 1) = ((m + 1 : Nat) : Int))) ?_
   refine cj (m + 1) ?_ (he := ?_)
   ·omega
   rw [e1]
   exact inferInstance
  intro X ⟨hn8, hX⟩
  refine bQ (ap 3 (cM rfl rfl) ?_)
  refine bZ (n + 1, X) ?_ (he := ?_)
  ·omega
  show Ent _ (cJ pb (ps, (dx i (n + 1) x).po) :: bu ps (dx i (n + 1) x).fr :: pt pm (bJ (dx i (n + 1) x).pg) :: R)
  rw [hs]
  exact inferInstance
 refine au 12 ?_
 refine ae ?_
 obtain rfl : n = 8 := by omega
 rw [hy]
 exact ⟨_, ⟨m, rfl, rfl⟩, inferInstance⟩
theorem z4 {pg : List Pl} {n f : Nat} (hl : pg.length = 12) (hn : n < 8) {t : Int} : aP (pg.set n ((f : Int), 3)) t = (aP pg t || decide (t = (n : Int))) := by
 by_cases e : t = (n : Int)
 ·subst e
  rw [(yL hl (by omega) (by intro q; have := (Prod.mk.inj q).2; omega)).1, decide_eq_true rfl, Bool.or_true]
 rw [(eR e).1, decide_eq_false e, Bool.or_false]
theorem GMem.come {i n f : Nat} {x : Mm} (h : GMem i x) (hi : i < 16) (hn : n < 8) (ht : aP x.pg n = false) (hf : f < x.po.length) (hfo : cD x.po f = ((i : Int), false)) (fr' : List aC) (hF : cH fr') (hl : fr'.length = x.fr.length) (hs : ∀ k, k ≠ f → fr'.getD k [] = x.fr.getD k []) :
  GMem i ⟨fr', dJ x.pg n ((f : Int), 3), x.po.set f ((i : Int), true)⟩ ∧ ej x.pg n ((f : Int), 3) = 0 := by
 have hf32 : f < 32 := by have := h.po.len; omega
 have hE := FZ hn hf32 ht
 have hP : dJ x.pg n ((f : Int), 3) = x.pg.set n ((f : Int), 3) := by rw [dJ, if_pos hE, Int.toNat_natCast]
 have hpl := h.pg.len
 have hgn := (yL (p := ((f : Int), 3)) hpl (show n < 12 by omega) (by intro q; have := (Prod.mk.inj q).2; omega)).2
 have hne : ∀ t : Int, aP x.pg t = true → (cm x.pg t).1 ≠ (f : Int) := fun t q e => by
  have ht2 := q
  simp only [aP, Bool.and_eq_true] at ht2
  obtain ⟨k, rfl, hk⟩ := jq ht2.1
  rcases Nat.lt_or_ge k 8 with h8 | h8
  ·have := h.own k h8 q
   rw [e, Int.toNat_natCast, hfo] at this
   have := (Prod.mk.inj this).2; cases this
  have := h.far k h8 q
  rw [e, Int.toNat_natCast, hfo] at this
  exact this rfl
 refine ⟨?_, hE⟩
 rw [hP]
 refine ⟨hF, h.po.set hf (by simp) (by simp; omega), ?_, by rw [List.length_set, hl]; exact h.len, ?_, fun t h8 q => ?_, fun k hk q => ?_, fun t h8 q => ?_, fun k hk q => ?_⟩
 ·have := qX (n := (n : Int)) (p := ((f : Int), 3)) h.pg
  rwa [hP] at this
 ·rw [hl]
  exact h.pl.set hpl (by omega) (by intro q; have := (Prod.mk.inj q).2; omega) (by have := h.len; omega) fun t q e => hne t q e
 ·dsimp only at q ⊢
  rw [z4 hpl hn] at q
  by_cases e : (t : Int) = (n : Int)
  ·rw [e, hgn, Int.toNat_natCast, ir hf, if_pos rfl]
  rw [decide_eq_false e, Bool.or_false] at q
  have h1 := vW h.pg q
  rw [(eR e).2, ir hf, if_neg (fun e2 => hne t q (by omega))]
  exact h.own t h8 q
 ·dsimp only at hk q ⊢
  rw [List.length_set] at hk
  rw [ir hf] at q
  by_cases e : k = f
  ·subst e
   exact ⟨n, hn, by rw [z4 hpl hn, decide_eq_true rfl, Bool.or_true], by rw [hgn]⟩
  rw [if_neg e] at q
  obtain ⟨t, h8, h1, h2⟩ := h.all k hk q
  have e2 : (t : Int) ≠ (n : Int) := fun e2 => by rw [e2, ht] at h1; cases h1
  exact ⟨t, h8, by rw [z4 hpl hn, h1, Bool.true_or], by rw [(eR e2).2]; exact h2⟩
 ·dsimp only at q ⊢
  rw [z4 hpl hn] at q
  have e : (t : Int) ≠ (n : Int) := by omega
  rw [decide_eq_false e, Bool.or_false] at q
  have h1 := vW h.pg q
  rw [(eR e).2, ir hf, if_neg (fun e2 => hne t q (by omega))]
  exact h.far t h8 q
 dsimp only at hk q ⊢
 rw [List.length_set] at hk
 rw [ir hf] at q
 by_cases e : k = f
 ·subst e; rw [if_pos rfl] at q; have := (Prod.mk.inj q).2; cases this
 rw [if_neg e] at q
 rw [hs k e]
 exact h.nul k hk q
theorem Y7 {fr : List aC} {f : Nat} {o w : Int} {x : Nat} {k : Nat} (hk : k ≠ f) : (eK fr f o w x).getD k [] = fr.getD k [] := by
 unfold eK
 split
 ·rw [Int.toNat_natCast]; exact z3 hk
 rfl
theorem Iv {f : Nat} : ∀ {l : List Nat} {j : Nat} {fr : List aC} {k : Nat}, k ≠ f → (g7 f l j fr).getD k [] = fr.getD k []
 | [], _, _, _, _ => rfl
 | y :: t, j, fr, k, h => by rw [g7, Iv h, Y7 h]
def z5 (x : Im) : Mm := ⟨x.fr, x.pg, x.po⟩
theorem GMem.lay {i : Nat} {words : List Nat} {x : Im} (h : GMem i (z5 x)) (hi : i < 16) (hf : oI x.pg 0 8) : ∀ n, n ≤ 8 → n ≤ (bP x.po i).length → GMem i (z5 (d6 i words n x))
 | 0, _, _ => h
 | n + 1, hn, hl => by
  have h1 := h.lay (words := words) hi hf n (by omega) (by omega)
  have h2 := (xI (who := i) (words := words) hf h.pg.len n (by omega)).1 n (Nat.le_refl _) (by omega)
  have h3 := xH (who := i) (words := words) (x := x) n
  rw [d6, iQ]
  cases e : bP (d6 i words n x).po i with
  | nil => rw [e] at h3; simp at h3; omega
  | cons f l =>
   have hm := jr.1 (show f ∈ bP (d6 i words n x).po i by rw [e]; simp)
   obtain ⟨k1, k2⟩ := rk (f := f) (l := dE words n) (k := 0) h1.fr
   exact (h1.come hi (by omega) h2 hm.1 hm.2 _ k1 k2 (fun k hk => Iv hk)).1
abbrev Iw (g : Gu) (e w : Nat) : Gu := { g with c := ⟨vA g.c.rl e w, d8 g.c.pc, g.c.cs⟩ }
abbrev Cm (g : Gu) (e w : Nat) : Gu := me (Iw g e w) 2 (dh g.c.rl 1) e g.c.pc
section
variable (W0 : World) (R : List HP) (gb : Nat) (z : Gz) (g : Gu) (N : Nat)
theorem Y8 (hk : g.clock < 1000000000) (hl : g.c.rl.length = 16) : sQ W0 18 [pV gb] (gN gb z g R) (.int .i64 0) (gN gb z (me (lu g) 4 0 0 g.c.pc) R) := by
 refine ai 9 func18 ntmps18 ?_
 refine ar 2 (ao lx rfl (kL W0 _ gb z g)) ?_
 refine a8 rfl (fun c1 => ?_) fun c1 => ?_
 ·exact absurd c1 (by decide)
 refine au 8 ?_
 refine aE 10 (bA bI rfl rfl rfl (Nat.le_of_ble_eq_true rfl) (by exact rfl : (kj z g).set 8 (.bool true) = kj z (lu g))) ?_
 refine aM (ao pr rfl (nK z.x.r g.c.rl g.c.pc hl)) ?_
 refine ar 8 (du s7 rfl (qq W0 _ gb z (lu g) hk hl 4 0 0 g.c.pc)) ?_
 exact ae aL
theorem Y9 (hk : g.clock < 1000000000) (hl : g.c.rl.length = 16) (e w : Nat) (he : e < 4294967296) : sQ W0 19 [pV gb, .int .i64 e, wV w] (gN gb z g R) (.int .i64 0) (gN gb z (Cm g e w) R) := by
 have hl2 : (vA g.c.rl e w).length = 16 := by simp [vA, hl]
 refine ai 9 func19 ntmps19 ?_
 refine ar 2 (ao lx rfl (kL W0 _ gb z g)) ?_
 refine a8 rfl (fun c1 => ?_) fun c1 => ?_
 ·exact absurd c1 (by decide)
 refine au 9 ?_
 refine ar 14 (ao Ki rfl (BE z.x.r g.c.rl g.c.pc 1 hl (by decide))) ?_
 refine ar 11 (ao pr rfl (nK z.x.r g.c.rl g.c.pc hl)) ?_
 refine a7 rfl (cX a0n dk rfl (eA (by omega))) ?_
 refine ar 10 (ao zO rfl (Bs z.x.r g.c.rl g.c.pc 1 e hl (by decide) (by decide))) ?_
 refine ar 10 (ao zO rfl (Bs z.x.r (g.c.rl.set 1 e) g.c.pc 2 w (by simp [hl]) (by decide) (by decide))) ?_
 refine a7 rfl (bO rfl rfl (eD _)) ?_
 refine ar 7 (ao zN rfl (vq z.x.r (vA g.c.rl e w) g.c.pc (d8 g.c.pc) hl2)) ?_
 refine a7 rfl (cX a0n dk rfl (eA (by omega))) ?_
 refine a7 rfl (aH rfl) (ar 8 (du s7 rfl (qq W0 _ gb z (Iw g e w) hk hl2 2 (dh g.c.rl 1) e g.c.pc)) ?_)
 exact ae aL
theorem Cn (hl : g.c.rl.length = 16) : sQ W0 9 [pV gb] (pt gb (d9 z g) :: pt z.x.r (dq g.c.rl g.c.pc) :: R) (.agg (g.c.rl.map wV).toArray) (pt gb (d9 z g) :: pt z.x.r (dq g.c.rl g.c.pc) :: R) := by
 refine ai 2 func9 ntmps9 ?_
 refine ax (aS JQ) fun b1 => ?_
 refine au 6 ?_
 refine ar 2 (ao lx rfl (kL W0 _ gb z g)) ?_
 refine a8 rfl (fun c1 => ?_) fun c1 => ?_
 ·exact absurd c1 (by decide)
 refine au 9 ?_
 refine aM (ao call40 rfl (Gg z.x.r g.c.rl g.c.pc hl)) ?_
 refine aE 3 (aF mW rfl rfl (by rw [List.length_map, hl]) (y9 g.c.rl) rfl) ?_
 exact bY (.cons (cg D5 mW rfl (by rw [List.length_map, hl])) .nil) aL
theorem Ya (hl : g.c.rl.length = 16) (i : Int) (x : Nat) : sQ W0 24 [pV gb, .int .i64 i, wV x] (pt gb (d9 z g) :: pt z.x.r (dq g.c.rl g.c.pc) :: R) (.int .i64 (if j9 i then 0 else 1)) (pt gb (d9 z g) :: pt z.x.r (dq (if j9 i then kC g.c.rl i.toNat x else g.c.rl) g.c.pc) :: R) := by
 refine ai 9 func24 ntmps24 ?_
 refine ar 2 (ao lx rfl (kL W0 _ gb z g)) ?_
 refine a8 rfl (fun c1 => ?_) fun c1 => ?_
 ·exact absurd c1 (by decide)
 refine au 11 ?_
 refine ar 4 (ao zO rfl (C1 z.x.r g.c.rl g.c.pc x i hl)) ?_
 exact ae aL
theorem Yb : sQ W0 20 [pV gb] (pt gb (d9 z g) :: R) (pV z.pv) (pt gb (d9 z g) :: R) := by
 refine ai 9 func20 ntmps20 ?_
 refine ar 2 (ao lx rfl (kL W0 _ gb z g)) ?_
 refine a8 rfl (fun c1 => ?_) fun c1 => ?_
 ·exact absurd c1 (by decide)
 refine au 12 ?_
 exact ae aL
theorem Yc : bN Tryz.prog W0 13 [pV gb] (pt gb (d9 z g) :: R) (fun v B => v = pV z.x.v ∧ B = pt gb (d9 z g) :: R) := by
 refine ai 9 func13 ntmps13 ?_
 refine ar 2 (ao lx rfl (kL W0 _ gb z g)) ?_
 refine a8 rfl (fun c1 => ?_) fun c1 => ?_
 ·exact absurd c1 (by decide)
 refine au 13 ?_
 exact ae aL
theorem Yd : sQ W0 22 [pV gb] (pt gb (d9 z g) :: R) (jy z.x.t) (pt gb (d9 z g) :: R) := by
 refine ai 9 func22 ntmps22 ?_
 refine ar 2 (ao lx rfl (kL W0 _ gb z g)) ?_
 refine a8 rfl (fun c1 => ?_) fun c1 => ?_
 ·exact absurd c1 (by decide)
 refine au 13 ?_
 exact ae aL
theorem Ix : sQ W0 11 [pV gb] (pt gb (d9 z g) :: R) (pV z.tr) (pt gb (d9 z g) :: R) := by
 refine ai 9 func11 ntmps11 ?_
 refine ar 2 (ao lx rfl (kL W0 _ gb z g)) ?_
 refine a8 rfl (fun c1 => ?_) fun c1 => ?_
 ·exact absurd c1 (by decide)
 refine au 12 ?_
 exact ae aL
theorem z6 : sQ W0 7 [pV gb] (pt gb (d9 z g) :: R) (.int .i64 g.clock) (pt gb (d9 z g) :: R) := by
 refine ai 9 func7 ntmps7 ?_
 refine ar 2 (ao lx rfl (kL W0 _ gb z g)) ?_
 refine a8 rfl (fun c1 => ?_) fun c1 => ?_
 ·exact absurd c1 (by decide)
 refine au 12 ?_
 exact ae aL
theorem Iy : sQ W0 8 [pV gb] (pt gb (d9 z g) :: R) (.bool g.halted) (pt gb (d9 z g) :: R) := by
 refine ai 8 func8 ntmps8 ?_
 refine ar 2 (ao lx rfl (kL W0 _ gb z g)) ?_
 refine cp rfl rfl rfl (fun g1_4 => ?_) fun g1_4 => ?_
 ·refine au 14 ?_
  exact ae aL
 first | exact absurd rfl g1_4 | exact absurd (by decide) g1_4 | simp at g1_4
theorem Co (hl : g.c.rl.length = 16) : sQ W0 10 [pV gb] (pt gb (d9 z g) :: pt z.x.r (dq g.c.rl g.c.pc) :: R) (wV g.c.pc) (pt gb (d9 z g) :: pt z.x.r (dq g.c.rl g.c.pc) :: R) := by
 refine ai 9 func10 ntmps10 ?_
 refine ar 2 (ao lx rfl (kL W0 _ gb z g)) ?_
 refine a8 rfl (fun c1 => ?_) fun c1 => ?_
 ·exact absurd c1 (by decide)
 refine au 9 ?_
 refine ar 4 (ao pr rfl (nK z.x.r g.c.rl g.c.pc hl)) ?_
 exact ae aL
theorem Iz {W0 : World} {R : List HP} (p : Int) : sQ W0 45 [.int .i64 p] R (.bool (decide (0 ≤ p ∧ p < 8))) R := by
 refine ai 10 func45 ntmps45 ?_
 refine cp rfl rfl rfl (fun g1_3 => ?_) fun g1_3 => ?_
 ·rw [show decide (0 ≤ p ∧ p < 8) = decide (p < 8) by apply decide_eq_decide.2; omega]
  refine au 8 ?_
  exact ae aL
 rw [show decide (0 ≤ p ∧ p < 8) = false by apply decide_eq_false; omega]
 refine au 6 ?_
 exact ae aL
end
def rT (p : Int) : Bool := decide (0 ≤ p ∧ p < 8)
theorem vX {p : Int} (h : rT p = true) : ∃ n : Nat, p = (n : Int) ∧ n < 8 := by
 have := of_decide_eq_true h
 exact ⟨p.toNat, by omega, by omega⟩
def IA (i : Nat) (p : Int) (x : Mm) : Int := if rT p then (if aP x.pg p then 5 else (if bP x.po i = [] then 2 else 0)) else 1
def mg (i : Nat) (p : Int) (x : Mm) : Mm :=
  if rT p && !aP x.pg p then (match bP x.po i with | f :: _ => ⟨x.fr, dJ x.pg p ((f : Int), 3), x.po.set f ((i : Int), true)⟩ | [] => x) else x
def IB (p : Int) (x : Mm) : Int := if rT p then (if aP x.pg p then 0 else 3) else 1
def nR (i : Nat) (p : Int) (x : Mm) : Mm := if rT p && aP x.pg p then mR i p.toNat x else x
theorem GMem.take {i : Nat} {p : Int} {x : Mm} (h : GMem i x) (hi : i < 16) : GMem i (mg i p x) := by
 unfold mg
 split
 ·rename_i q
  simp only [Bool.and_eq_true, Bool.not_eq_true'] at q
  obtain ⟨n, rfl, hn⟩ := vX q.1
  cases e : bP x.po i with
  | nil => exact h
  | cons f l =>
   have hm := jr.1 (show f ∈ bP x.po i by rw [e]; simp)
   exact (h.come hi hn q.2 hm.1 hm.2 x.fr h.fr rfl (fun _ _ => rfl)).1
 exact h
theorem GMem.gave {i : Nat} {p : Int} {x : Mm} (h : GMem i x) (hi : i < 16) : GMem i (nR i p x) := by
 unfold nR
 split
 ·rename_i q
  simp only [Bool.and_eq_true] at q
  obtain ⟨n, rfl, hn⟩ := vX q.1
  rw [Int.toNat_natCast]
  exact h.give hn q.2 hi
 exact h
section
variable (W0 : World) (R : List HP) (gb : Nat) (z : Gz) (g : Gu) (N : Nat)
theorem Ye (hi : z.i < 4) (p : Int) (x : Mm) (h : GMem z.i x) (h0 : 0 < x.po.length) : sQ W0 15 [pV gb, .int .i64 p] (pt gb (d9 z g) :: i7 z.x.m ⟨z.pv, z.ps, z.pm, g.bud, x.fr, x.pg⟩ :: cJ z.pb (z.ps, x.po) :: R) (.int .i64 (IA z.i p x)) (pt gb (d9 z g) :: i7 z.x.m ⟨z.pv, z.ps, z.pm, g.bud, (mg z.i p x).fr, (mg z.i p x).pg⟩ :: cJ z.pb (z.ps, (mg z.i p x).po) :: R) := by
 obtain ⟨th, hth⟩ : ∃ b, aP x.pg p = b := ⟨_, rfl⟩
 obtain ⟨ow, how⟩ : ∃ b, rT p = b := ⟨_, rfl⟩
 have how2 : decide (0 ≤ p ∧ p < 8) = ow := how
 rw [IA, mg, how, hth]
 refine kU (List.Perm.swap _ _ _) (rO fun bt bs its T L now d h1 h2 h3 h4 => ?_)
 have hclose : ∀ X : List HP, Ent (pt gb (d9 z g) :: pt z.x.m (cN z.pv bt bs) :: aQ bt (its, d3 4 now) :: bL bs L :: pt z.pv (cr z.ps z.pm d) :: pt z.pm (bJ x.pg) :: X) (pt gb (d9 z g) :: i7 z.x.m ⟨z.pv, z.ps, z.pm, g.bud, x.fr, x.pg⟩ :: X) := fun X => Ent.cons (oT h1 h2 h3 h4)
 refine ai 10 func15 ntmps15 ?_
 refine ar 3 (ao lx rfl (kL W0 _ gb z g)) ?_
 refine a8 rfl (fun c1 => ?_) fun c1 => ?_
 ·exact absurd c1 (by decide)
 refine au 3 ?_
 refine aM (aD call45 rfl (Iz p)) ?_
 rw [how2]
 refine au 4 ?_
 refine a8 rfl (fun c3 => ?_) fun c3 => ?_
 ·refine au 8 ?_
  refine ae ?_
  rw [show ow = false by simpa using c3]
  exact ⟨_, ⟨rfl, rfl⟩, Ent.trans (B := pt gb (d9 z g) :: pt z.x.m (cN z.pv bt bs) :: aQ bt (its, d3 4 now) :: bL bs L :: pt z.pv (cr z.ps z.pm d) :: pt z.pm (bJ x.pg) :: cJ z.pb (z.ps, x.po) :: R) inferInstance (hclose _)⟩
 refine au 5 ?_
 have ho : ow = true := by simpa using c3
 rw [ho]
 obtain ⟨n, rfl, hn⟩ := vX (how.trans ho)
 refine au 5 ?_
 refine aM (ao s4 rfl (pK z.pv z.ps z.pm d)) ?_
 refine a7 rfl (aH rfl) (aM (ao ug rfl (qW z.pm x.pg h.pg n)) ?_)
 rw [hth]
 refine au 3 ?_
 refine ax (aS jh) fun b5 => ?_
 refine aE 8 (aF fm rfl rfl rfl rfl rfl) ?_
 refine a8 rfl (fun c6 => ?_) fun c6 => ?_
 ·refine au 7 ?_
  refine ae ?_
  rw [c6]
  exact ⟨_, ⟨rfl, rfl⟩, Ent.trans (B := pt gb (d9 z g) :: pt z.x.m (cN z.pv bt bs) :: aQ bt (its, d3 4 now) :: bL bs L :: pt z.pv (cr z.ps z.pm d) :: pt z.pm (bJ x.pg) :: cJ z.pb (z.ps, x.po) :: R) inferInstance (hclose _)⟩
 refine au 3 ?_
 have ht0 : th = false := by simpa using c6
 rw [ht0]
 rw [ht0] at hth
 obtain ⟨fl, hfl⟩ : ∃ l, bP x.po z.i = l := ⟨_, rfl⟩
 rw [hfl]
 obtain ⟨e, f, hef⟩ : ∃ e f, (∀ R, bN Tryz.prog W0 48 [pV z.pb, .int .i64 z.i] (cJ z.pb (z.ps, x.po) :: R) (fun v B => v = .tuple #[.int .i64 ((f : Nat) : Int), .int .i64 e] ∧ B = cJ z.pb (z.ps, if e = 0 then x.po.set f ((z.i : Int), true) else x.po) :: R)) ∧ (e = 0 ∧ (∃ l, fl = f :: l) ∨ e = 2 ∧ fl = []) := by
  cases fl with
  | nil => exact ⟨2, 0, fun R => by rw [if_neg (by decide)]; exact Y3 z.pb z.ps x.po z.i h0 (by omega) h.po hfl, .inr ⟨rfl, rfl⟩⟩
  | cons f l => exact ⟨0, f, fun R => by rw [if_pos rfl]; exact Fx z.pb z.ps x.po z.i f l (by omega) h.po hfl, .inl ⟨rfl, l, rfl⟩⟩
 obtain ⟨hsp, hcs⟩ := hef
 refine aU [(gb, 0, _)] 14 aT rfl (aa ag) (fun hS => ?_)
 refine ah 0 8 hS ?_
 refine bF 8 rfl rfl (ao call48 rfl (hsp _)) (aa ag) fun hS => ?_
 refine ah 9 5 hS ?_
 refine aK ?_
 refine au 8 ?_
 refine a8 rfl (fun c9 => ?_) fun c9 => ?_
 ·refine au 8 ?_
  refine ae ?_
  rcases hcs with ⟨q, _⟩ | ⟨rfl, rfl⟩
  ·exact absurd q c9
  rw [if_neg (show ¬((2 : Int) = 0) by decide)]
  exact ⟨_, ⟨rfl, rfl⟩, Ent.trans (B := pt gb (d9 z g) :: pt z.x.m (cN z.pv bt bs) :: aQ bt (its, d3 4 now) :: bL bs L :: pt z.pv (cr z.ps z.pm d) :: pt z.pm (bJ x.pg) :: cJ z.pb (z.ps, x.po) :: R) inferInstance (hclose _)⟩
 refine au 3 ?_
 obtain ⟨rfl, l, rfl⟩ : e = 0 ∧ ∃ l, fl = f :: l := by
  rcases hcs with q | ⟨rfl, _⟩
  ·exact q
  exact absurd (by decide) c9
 rw [if_pos (show (0 : Int) = 0 from rfl)]
 have hm := jr.1 (show f ∈ bP x.po z.i by rw [hfl]; simp)
 obtain ⟨hG, hE⟩ := h.come (by omega) hn hth hm.1 hm.2 x.fr h.fr rfl (fun _ _ => rfl)
 have hmok := h4.come (n := n) (p := ((f : Int), 3)) (by have := hm.1; have := h.len; show (f : Int) < _; omega) fun t q e => by
  have ht2 := q
  simp only [aP, Bool.and_eq_true] at ht2
  obtain ⟨k, rfl, hk⟩ := jq ht2.1
  rcases Nat.lt_or_ge k 8 with h8 | h8
  ·have := h.own k h8 q
   rw [e, Int.toNat_natCast, hm.2] at this
   have := (Prod.mk.inj this).2; cases this
  have := h.far k h8 q
  rw [e, Int.toNat_natCast, hm.2] at this
  exact this rfl
 refine au 5 ?_
 refine ar 2 (ao s4 rfl (pK z.pv z.ps z.pm d)) ?_
 refine a7 rfl (bq mX jh (am aj (am aj bj)) (aI rfl aj rfl rfl (Nat.le_of_ble_eq_true rfl) SetL.eq (aI rfl aj rfl rfl (Nat.le_of_ble_eq_true rfl) SetL.eq bi))) ?_
 refine aM (ao JN rfl (AD z.pm x.pg h.pg n ((f : Int), 3))) ?_
 rw [hE]
 refine au 4 ?_
 refine ae ?_
 refine ⟨_, ⟨rfl, rfl⟩, ?_⟩
 exact Ent.trans (B := pt gb (d9 z g) :: pt z.x.m (cN z.pv bt bs) :: aQ bt (its, d3 4 now) :: bL bs L :: pt z.pv (cr z.ps z.pm d) :: pt z.pm (bJ (dJ x.pg n ((f : Int), 3))) :: cJ z.pb (z.ps, x.po.set f ((z.i : Int), true)) :: R) inferInstance (Ent.cons (oT h1 h2 h3 hmok))
theorem Yf (hi : z.i < 4) (p : Int) (x : Mm) (h : GMem z.i x) : sQ W0 16 [pV gb, .int .i64 p] (pt gb (d9 z g) :: i7 z.x.m ⟨z.pv, z.ps, z.pm, g.bud, x.fr, x.pg⟩ :: cJ z.pb (z.ps, x.po) :: bu z.ps x.fr :: R) (.int .i64 (IB p x)) (pt gb (d9 z g) :: i7 z.x.m ⟨z.pv, z.ps, z.pm, g.bud, (nR z.i p x).fr, (nR z.i p x).pg⟩ :: cJ z.pb (z.ps, (nR z.i p x).po) :: bu z.ps (nR z.i p x).fr :: R) := by
 obtain ⟨th, hth⟩ : ∃ b, aP x.pg p = b := ⟨_, rfl⟩
 obtain ⟨ow, how⟩ : ∃ b, rT p = b := ⟨_, rfl⟩
 have how2 : decide (0 ≤ p ∧ p < 8) = ow := how
 rw [IB, nR, how, hth]
 refine kU (List.Perm.swap _ _ _) (rO fun bt bs its T L now d h1 h2 h3 h4 => ?_)
 have hclose : ∀ X : List HP, Ent (pt gb (d9 z g) :: pt z.x.m (cN z.pv bt bs) :: aQ bt (its, d3 4 now) :: bL bs L :: pt z.pv (cr z.ps z.pm d) :: pt z.pm (bJ x.pg) :: X) (pt gb (d9 z g) :: i7 z.x.m ⟨z.pv, z.ps, z.pm, g.bud, x.fr, x.pg⟩ :: X) := fun X => Ent.cons (oT h1 h2 h3 h4)
 refine ai 10 func16 ntmps16 ?_
 refine ar 3 (ao lx rfl (kL W0 _ gb z g)) ?_
 refine a8 rfl (fun c1 => ?_) fun c1 => ?_
 ·exact absurd c1 (by decide)
 refine au 3 ?_
 refine aM (aD call45 rfl (Iz p)) ?_
 rw [how2]
 refine au 4 ?_
 refine a8 rfl (fun c3 => ?_) fun c3 => ?_
 ·refine au 8 ?_
  refine ae ?_
  rw [show ow = false by simpa using c3]
  exact ⟨_, ⟨rfl, rfl⟩, Ent.trans (B := pt gb (d9 z g) :: pt z.x.m (cN z.pv bt bs) :: aQ bt (its, d3 4 now) :: bL bs L :: pt z.pv (cr z.ps z.pm d) :: pt z.pm (bJ x.pg) :: cJ z.pb (z.ps, x.po) :: bu z.ps x.fr :: R) inferInstance (hclose _)⟩
 refine au 4 ?_
 have ho : ow = true := by simpa using c3
 rw [ho]
 obtain ⟨n, rfl, hn⟩ := vX (how.trans ho)
 refine au 5 ?_
 refine aM (ao s4 rfl (pK z.pv z.ps z.pm d)) ?_
 refine a7 rfl (aH rfl) (aM (ao ug rfl (qW z.pm x.pg h.pg n)) ?_)
 rw [hth]
 refine au 3 ?_
 refine ax (aS jh) fun b5 => ?_
 refine aE 10 (aF fm rfl rfl rfl rfl rfl) ?_
 refine a8 rfl (fun c6 => ?_) fun c6 => ?_
 ·refine au 7 ?_
  refine ae ?_
  rw [show th = false by simpa using c6]
  exact ⟨_, ⟨rfl, rfl⟩, Ent.trans (B := pt gb (d9 z g) :: pt z.x.m (cN z.pv bt bs) :: aQ bt (its, d3 4 now) :: bL bs L :: pt z.pv (cr z.ps z.pm d) :: pt z.pm (bJ x.pg) :: cJ z.pb (z.ps, x.po) :: bu z.ps x.fr :: R) inferInstance (hclose _)⟩
 refine au 3 ?_
 have ht1 : th = true := by simpa using c6
 rw [ht1]
 rw [ht1] at hth
 obtain ⟨f, hf, hff, hfp⟩ := h.at_ hth
 have hown := h.own n hn hth
 rw [hf, Int.toNat_natCast] at hown
 have hgv : mR z.i n x = ⟨x.fr.set f cI, fA x.pg n, x.po.set f ((z.i : Int), false)⟩ := by rw [mR, hf, Int.toNat_natCast]
 have hne : ∀ t : Nat, t < 8 → aP (fA x.pg n) t = true → (x.fr.set f cI).getD (cm (fA x.pg n) t).1.toNat [] = x.fr.getD (cm (fA x.pg n) t).1.toNat [] := fun t h8 q => by
  rw [yZ h.pg.len, Bool.and_eq_true, decide_eq_true_iff] at q
  have h5 := vW h.pg q.1
  rw [Cl q.2]
  exact z3 fun e2 => q.2 (h.pl.inj _ _ q.1 hth (by rw [hf]; omega))
 refine au 5 ?_
 refine aM (ao s4 rfl (pK z.pv z.ps z.pm d)) ?_
 refine a7 rfl (aH rfl) (ar 10 (ao CO rfl (Ha z.pm x.pg h.pg n)) ?_)
 refine aB rfl (kV call51 rfl (WE z.x.m z.pv bt bs z.ps z.pm d its 4 now T L x.fr x.pg h1 h2 (by decide) n h4)) ?_
 rintro _ B_ ⟨rfl, its2, T2, L2, hB_, k1, k2, k3⟩
 obtain rfl := hB_.symm
 have k4 := k3.frame (fr' := x.fr.set f cI) (by simp) (Iu h.fr f) hne
 refine au 3 ?_
 refine aU [(gb, 0, _), (b5, 0, _)] 8 aT rfl (aa (aa ag)) (fun hS => ?_)
 refine ah 0 5 hS ?_
 refine av 5 rfl rfl rfl hS (aA aX rfl (dv (j := 0) (k := 1) (v := .int .i64 f) rfl (by rw [← hf]; rfl))) ?_
 refine bF 6 rfl rfl (cK call52 rfl (Ir z.pb z.ps x.po x.fr f z.i hfp hff (by omega) h.po hown)) (aa (aa ag)) fun hS => ?_
 refine ah 7 1 hS ?_
 refine aK ?_
 refine au 2 ?_
 refine ae ?_
 rw [if_pos rfl, if_pos (by rfl), Int.toNat_natCast, hgv]
 refine ⟨_, ⟨rfl, rfl⟩, ?_⟩
 exact Ent.trans (B := pt gb (d9 z g) :: pt z.x.m (cN z.pv bt bs) :: aQ bt (its2, d3 4 now) :: bL bs L2 :: pt z.pv (cr z.ps z.pm 0) :: pt z.pm (bJ (fA x.pg n)) :: cJ z.pb (z.ps, x.po.set f ((z.i : Int), false)) :: bu z.ps (x.fr.set f cI) :: R) inferInstance (Ent.cons (oT k1 k2 h3 k4))
end
abbrev Cp : Tm := ⟨[false, false, false, false], 0, []⟩
abbrev Cq : List Nat := [0, 0, 0, 0, 0, 4, 0]
abbrev z7 : List Li := List.replicate 8 default
theorem Yg {b : Nat} {R : List HP} : Ent (pt b (ac [gK, .bool true] 394) :: R) (bL b [] :: R) :=
 (Ent.cons (fR (E := 323) (sz := 7) (A := R) (B := R))).trans (fC (R := R) (C := [_, _]) ⟨none, 0, rfl⟩)
theorem Cr {fr : List aC} {pg : List Pl} (hF : cH fr) (hP : Pgs pg) (hp : PlOk fr.length pg) : MOk fr pg 0 [] [] := ⟨hF, by decide, hP, hp, TI.nil, fun x hx => by simp at hx⟩
abbrev Cs (x : Bd) (q0 q1 q2 i pv ps pm : Nat) (fr : List aC) (pg : List Pl) (R : List HP) : List HP := pt x.r (dq (List.replicate 16 0) 0) :: pt x.c (dH Cq i) :: i7 x.m ⟨pv, ps, pm, 0, fr, pg⟩ :: lq x.v (z7, 0) :: lr x.t Cp :: pt q0 (qO true d5) :: pt q1 (qO true d5) :: pt q2 (qO true d5) :: R
theorem Cu {x : Bd} {bt bs q0 q1 q2 i pv ps pm : Nat} {fr : List aC} {pg : List Pl} {R : List HP} (h : MOk fr pg 0 [] []) : Ent (qd x i bt bs pv (kH 6 (cn [pt q0 (qO true d5), pt q1 (qO true d5), pt q2 (qO true d5)]) :: pt pv (cr ps pm 0) :: pt pm (bJ pg) :: R)) (Cs x q0 q1 q2 i pv ps pm fr pg R) := by
 refine Ent.cons (Ent.cons ?_)
 show Ent (pt x.m (tF pv bt bs) :: aQ bt ([], d3 4 0) :: pt bs (ac [gK, .bool true] 394) :: pt x.v pX :: pt x.t pY :: kH 6 (cn [pt q0 (qO true d5), pt q1 (qO true d5), pt q2 (qO true d5)]) :: pt pv (cr ps pm 0) :: pt pm (bJ pg) :: R) _
 have e1 : Ent (pt x.m (tF pv bt bs) :: aQ bt ([], d3 4 0) :: pt bs (ac [gK, .bool true] 394) :: pt x.v pX :: pt x.t pY :: kH 6 (cn [pt q0 (qO true d5), pt q1 (qO true d5), pt q2 (qO true d5)]) :: pt pv (cr ps pm 0) :: pt pm (bJ pg) :: R)
   (kH 6 (cn [pt q0 (qO true d5), pt q1 (qO true d5), pt q2 (qO true d5)]) :: pt bs (ac [gK, .bool true] 394) :: pt x.m (tF pv bt bs) :: aQ bt ([], d3 4 0) :: pt pv (cr ps pm 0) :: pt pm (bJ pg) :: pt x.v pX :: pt x.t pY :: R) := inferInstance
 refine e1.trans ((px (A := [pt q0 (qO true d5), pt q1 (qO true d5), pt q2 (qO true d5)])).trans ?_)
 refine Ent.trans (B := pt q0 (qO true d5) :: pt q1 (qO true d5) :: pt q2 (qO true d5) :: bL bs [] :: pt x.m (tF pv bt bs) :: aQ bt ([], d3 4 0) :: pt pv (cr ps pm 0) :: pt pm (bJ pg) :: pt x.v pX :: pt x.t pY :: R) (Ent.cons (Ent.cons (Ent.cons Yg))) ?_
 refine Ent.trans (B := pt x.m (cN pv bt bs) :: aQ bt ([], d3 4 0) :: bL bs [] :: pt pv (cr ps pm 0) :: pt pm (bJ pg) :: pt q0 (qO true d5) :: pt q1 (qO true d5) :: pt q2 (qO true d5) :: pt x.v pX :: pt x.t pY :: R) inferInstance ?_
 refine (oT (bud := 0) Rep.nil (Nat.zero_le _) (Nat.le_refl _) h).trans (Ent.cons ?_)
 refine Ent.trans (B := pt x.v (ac ((dt z7 0).set 32 gK) 113) :: pt x.t (ac ((e6 [false, false, false, false] 0).set 0 gK) 148) :: pt q0 (qO true d5) :: pt q1 (qO true d5) :: pt q2 (qO true d5) :: R) ?_ ?_
 ·exact Ent.trans (B := pt x.v pX :: pt x.t pY :: pt q0 (qO true d5) :: pt q1 (qO true d5) :: pt q2 (qO true d5) :: R) inferInstance ent_refl
 exact Xl.trans (Ent.cons XK)
abbrev vY (g : Gu) : Gu := ⟨⟨List.replicate 16 0, 0, Cq⟩, d5, d5, d5, z7, 0, Cp, false, [0, 0, 0, 0], g.clock, g.es, 0⟩
abbrev qt (g : Gu) : Gu := me (vY g) 5 0 0 0
def p8 (i n : Nat) (ws : List Nat) (x : Mm) : Mm := z5 (d6 i (bC ws n) n ⟨(dx i 8 x).fr, (dx i 8 x).po, (dx i 8 x).pg⟩)
theorem Cv {i : Nat} {x : Mm} (h : GMem i x) (hi : i < 16) : ∀ n, n ≤ 8 → ∀ t, t < n → aP (dx i n x).pg (t : Nat) = false
 | 0, _, t, ht => absurd ht (Nat.not_lt_zero t)
 | n + 1, hn, t, ht => by
  have hg := h.strip hi n (by omega)
  rw [dx, mf]
  by_cases q : aP (dx i n x).pg n = true
  ·rw [if_pos q]
   show aP (fA (dx i n x).pg n) (t : Nat) = false
   rw [yZ hg.pg.len]
   by_cases e : t = n
   ·subst e; simp
   rw [Cv h hi n (by omega) t (by omega)]; rfl
  rw [if_neg q]
  by_cases e : t = n
  ·subst e; simpa using q
  exact Cv h hi n (by omega) t (by omega)
theorem Cw {i : Nat} {x : Mm} (h : GMem i x) (hi : i < 16) : oI (dx i 8 x).pg 0 8 := fun t _ h8 => Cv h hi 8 (Nat.le_refl _) t h8
def p9 (i : Nat) (po : Po) : Nat := ((List.range po.length).filter fun f => (cD po f).1 == (i : Int)).length
theorem z8 {i : Nat} {x : Mm} (h : GMem i x) (hi : i < 16) : ∀ n, n ≤ 8 → (dx i n x).po.length = x.po.length ∧ ∀ f, (cD (dx i n x).po f).1 = (cD x.po f).1
 | 0, _ => ⟨rfl, fun _ => rfl⟩
 | n + 1, hn => by
  obtain ⟨h1, h2⟩ := z8 h hi n (by omega)
  have hg := h.strip hi n (by omega)
  rw [dx, mf]
  split
  ·rename_i q
   obtain ⟨f, hf, hff, hfp⟩ := hg.at_ q
   have ho := hg.own n (by omega) q
   rw [hf, Int.toNat_natCast] at ho
   have hgv : (mR i n (dx i n x)).po = (dx i n x).po.set f ((i : Int), false) := by unfold mR; rw [hf, Int.toNat_natCast]
   rw [hgv]
   refine ⟨by rw [List.length_set]; exact h1, fun k => ?_⟩
   rw [ir hfp]
   split
   ·rename_i e; rw [e, ← h2 f, ho]
   exact h2 k
  exact ⟨h1, h2⟩
attribute [local irreducible] dx
theorem IC {i : Nat} {x : Mm} (h : GMem i x) (hi : i < 16) : (bP (dx i 8 x).po i).length = p9 i x.po := by
 have hg := h.strip hi 8 (Nat.le_refl _)
 obtain ⟨h1, h2⟩ := z8 h hi 8 (Nat.le_refl _)
 have hf := Cw h hi
 unfold p9 bP
 rw [h1]
 refine congrArg List.length (List.filter_congr fun f hm => ?_)
 have hfl : f < (dx i 8 x).po.length := by rw [h1]; simpa using hm
 rw [← h2 f, Bool.eq_iff_iff, beq_iff_eq, beq_iff_eq]
 constructor
 ·intro e; rw [e]
 intro e
 cases hb : (cD (dx i 8 x).po f).2 with
 | false => rw [← e, ← hb]
 | true =>
  obtain ⟨t, h8, q, _⟩ := hg.all f hfl (by rw [← e, ← hb])
  rw [hf t (Nat.zero_le _) h8] at q
  cases q
theorem GMem.anew {i n : Nat} {ws : List Nat} {x : Mm} (h : GMem i x) (hi : i < 16) (hn : n ≤ 8) (hl : n ≤ p9 i x.po) : GMem i (p8 i n ws x) := by
 have hg := h.strip hi 8 (Nat.le_refl _)
 exact GMem.lay (x := ⟨(dx i 8 x).fr, (dx i 8 x).po, (dx i 8 x).pg⟩) hg hi (Cw h hi) n hn (by rw [IC h hi]; exact hl)
section
variable (W0 : World) (R : List HP) (gb : Nat) (z : Gz) (g : Gu) (N : Nat)
theorem Yh (hc : CfK W0 z.c) (hr : rt z.c = true) (hi : z.i < z.c.gl.length) (hk : g.clock < 1000000000) (x : Mm) (h : GMem z.i x) (h0 : 0 < x.po.length) (n : Nat) (hn : (cQ z.c z.i).2.1 = (n : Int)) (hpar : n ≤ p9 z.i x.po) (a : Option Addr) (cap : Nat) (ws : List Nat) (hw : z.wv = .slice a ws.length cap) (hs : ∀ A, Ent A R → cG (aO W0 A) a 1 i3 ws) (hb : ∀ y ∈ ws, y < 4294967296) (hwl : ws.length ≤ 128) : sP W0 17 [pV gb] (pt gb (d9 z g) :: eN z.tr g.es :: i7 z.x.m ⟨z.pv, z.ps, z.pm, g.bud, x.fr, x.pg⟩ :: cJ z.pb (z.ps, x.po) :: bu z.ps x.fr :: R) (fun v B => ∃ y q0 q1 q2, v = .int .i64 0 ∧ B = pt gb (d9 { z with x := y, q0 := q0, q1 := q1, q2 := q2 } (qt g)) :: eN z.tr (qt g).es :: cJ z.pb (z.ps, (p8 z.i n ws x).po) :: bu z.ps (p8 z.i n ws x).fr :: Cs y q0 q1 q2 z.i z.pv z.ps z.pm (p8 z.i n ws x).fr (p8 z.i n ws x).pg R) := by
 have hR := lg hr
 have hg4 := hR.g4
 have hgs := hR.gs z.i hi
 rw [hn] at hgs
 obtain ⟨ga, o, hga, hcc⟩ := (hc.ok.g []).at_ hi
 obtain ⟨u, hu⟩ : ∃ u, z.c.gl[z.i] = u := ⟨_, rfl⟩
 have hA : cQ z.c z.i = u := by simp [cQ, List.getD, hi, hu]
 rw [hu] at hcc
 have hun : u.2.1 = (n : Int) := by rw [← hA]; exact hn
 have hst := h.strip (show z.i < 16 by omega) 8 (Nat.le_refl _)
 have hfree := Cw h (show z.i < 16 by omega)
 have hfre := IC h (show z.i < 16 by omega)
 have hand := h.anew (n := n) (ws := ws) (show z.i < 16 by omega) (by omega) hpar
 have hIm : ImOk ⟨(dx z.i 8 x).fr, (dx z.i 8 x).po, (dx z.i 8 x).pg⟩ := ⟨hst.fr, hst.po, hst.pg, hst.len⟩
 have hsl := (z8 h (show z.i < 16 by omega) 8 (Nat.le_refl _)).1
 obtain ⟨y2, hy2⟩ : ∃ y, d6 z.i (bC ws n) n ⟨(dx z.i 8 x).fr, (dx z.i 8 x).po, (dx z.i 8 x).pg⟩ = y := ⟨_, rfl⟩
 have hy3 : p8 z.i n ws x = z5 y2 := by rw [p8, hy2]
 rw [hy3] at hand ⊢
 refine kU (B := i7 z.x.m ⟨z.pv, z.ps, z.pm, g.bud, x.fr, x.pg⟩ :: pt gb (d9 z g) :: eN z.tr g.es :: cJ z.pb (z.ps, x.po) :: bu z.ps x.fr :: R) qK (rO fun bt bs its T L now d h1 h2 h3 h4 => ?_)
 have hx : bG (aO W0 (pt gb (d9 z g) :: R)) ga (o + z.i * 3) (fF u) := hcc.weak
 refine ai 9 func17 ntmps17 ?_
 refine ar 2 (ao lx rfl (kL W0 _ gb z g)) ?_
 refine a8 rfl (fun c1 => ?_) fun c1 => ?_
 ·exact absurd c1 (by decide)
 refine au 3 ?_
 refine aU [(gb, 0, _)] 10 aT rfl (aa ag) (fun hS => ?_)
 refine ah 0 8 hS ?_
 refine bF 8 rfl rfl (ao s4 rfl (pK z.pv z.ps z.pm d)) (aa ag) fun hS => ?_
 refine bS 9 (by kernel_rfl) rfl rfl (du call53 rfl (Y6 z.pb z.ps z.pm z.i x h (by omega))) rfl ?_; clear hS
 rintro _ B_ ⟨q, rfl, hB_⟩
 obtain rfl := hB_.symm
 refine ⟨(aa ag), fun hS => ?_⟩
 refine aK ?_
 refine au 2 ?_
 refine aU [(gb, 0, kj z g), (ga, o + z.i * 3, fF u)] 36 aT rfl (aa (cR hcc.weak ag)) (fun hS => ?_)
 refine ah 0 8 hS ?_
 refine ah 9 4 hS ?_
 refine ah 14 13 hS ?_
 refine av 27 rfl rfl rfl hS (dW iX fQ rfl hga rfl rfl hi (by first | exact Nat.zero_add _ | rfl)) ?_
 refine ah 28 1 hS ?_
 refine av 29 rfl rfl rfl hS (aA aX rfl (io (j := 1) (k := 1) (v := .int .i64 n) rfl (by rw [← hun]; rfl))) ?_
 refine ah 30 3 hS ?_
 refine av 33 rfl rfl rfl hS (aA IT rfl (dv (k := 0) (v := .slice a ws.length cap) rfl (by rw [← hw]; rfl))) ?_
 refine bF 8 rfl rfl (ao Km rfl (AF z.pv z.ps z.pm d)) (aa (cR hcc.weak ag)) fun hS => ?_
 refine bF 13 rfl rfl (ao s4 rfl (pK z.pv z.ps z.pm d)) (aa (cR hcc.weak ag)) fun hS => ?_
 refine bS 34 (by kernel_rfl) rfl rfl (du call54 rfl (G0 z.pb z.ps z.pm z.i n ⟨(dx z.i 8 x).fr, (dx z.i 8 x).po, (dx z.i 8 x).pg⟩ hIm (by have := hst.len; show 0 < (dx z.i 8 x).fr.length; omega) a cap ws (by omega) (by omega) (by omega) hfree (by show n ≤ (bP (dx z.i 8 x).po z.i).length; omega) (by intro A hA; exact hs A (hA.trans inferInstance)) hb (by omega))) rfl ?_; clear hS
 rintro _ B_ ⟨rfl, hB_⟩
 obtain rfl := hB_.symm
 rw [hy2]
 refine ⟨(aa (cR hcc.weak ag)), fun hS => ?_⟩
 refine ah 35 1 hS ?_
 refine aK ?_
 refine au 8 ?_
 refine a8 rfl (fun c5 => ?_) fun c5 => ?_
 ·exact absurd rfl c5
 refine au 8 ?_
 refine aB rfl (ao call56 rfl (EW z.pv z.ps z.pm d h4.dl)) ?_
 rintro _ B_ ⟨da, dc, rfl, hB_⟩
 obtain rfl := hB_.symm
 refine au 3 ?_
 refine aU [(gb, 0, _)] 15 aT rfl (aa ag) (fun hS => ?_)
 refine ah 0 8 hS ?_
 refine eJ (is := [8, 12]) (by kernel_rfl) rfl ⟨?_, ?_, trivial⟩
 ·skip
  refine cV rfl rfl (ao JX rfl (Bz z.i z.pv z.ps z.pm 0 (by omega))) rfl ?_; clear hS
  rintro _ B_ ⟨y, bt2, bs2, q0, q1, q2, rfl, hB_⟩
  obtain rfl := hB_.symm
  refine ⟨(aa ag), fun hS => ?_⟩
  refine ah 9 3 hS ?_
  refine bS 12 (by kernel_rfl) rfl rfl (aS wE) rfl ?_; clear hS
  rintro _ _ ⟨b4, rfl, rfl⟩
  refine ⟨(aa ag), fun hS => ?_⟩
  refine bU 13 rfl rfl (aF mj rfl rfl rfl rfl rfl) (aa ag) fun hS => ?_
  refine ah 14 1 hS ?_
  refine aK ?_
  refine au 8 ?_
  refine a8 rfl (fun c9 => ?_) fun c9 => ?_
  ·exact absurd rfl c9
  refine au 8 ?_
  refine aE 5 (ed mj rfl rfl rfl rfl (Nat.le_of_ble_eq_true rfl) (by exact rfl : setR (kj z g) 0 (yl y q0 q1 q2) = kj { z with x := y, q0 := q0, q1 := q1, q2 := q2 } (vY g))) ?_
  refine ar 8 (du s7 rfl (qq W0 _ gb { z with x := y, q0 := q0, q1 := q1, q2 := q2 } (vY g) hk rfl 5 0 0 0)) ?_
  refine ae ?_
  refine ⟨_, ⟨y, q0, q1, q2, rfl, rfl⟩, ?_⟩
  have hm := Cr hand.fr hand.pg hand.pl
  refine Ent.trans (B := pt gb (d9 { z with x := y, q0 := q0, q1 := q1, q2 := q2 } (qt g)) :: eN z.tr (qt g).es :: cJ z.pb (z.ps, y2.po) :: bu z.ps y2.fr :: qd y z.i bt2 bs2 z.pv (kH 6 (cn [pt q0 (qO true d5), pt q1 (qO true d5), pt q2 (qO true d5)]) :: pt z.pv (cr z.ps z.pm 0) :: pt z.pm (bJ y2.pg) :: R)) inferInstance ?_
  exact Ent.cons (Ent.cons (Ent.cons (Ent.cons (Cu hm))))
 skip
 refine cV rfl rfl (aS wE) rfl ?_; clear hS
 rintro _ _ ⟨b4, rfl, rfl⟩
 refine ⟨(aa ag), fun hS => ?_⟩
 refine bS 8 (by kernel_rfl) rfl rfl (ao JX rfl (Bz z.i z.pv z.ps z.pm 0 (by omega))) rfl ?_; clear hS
 rintro _ B_ ⟨y, bt2, bs2, q0, q1, q2, rfl, hB_⟩
 obtain rfl := hB_.symm
 refine ⟨(aa ag), fun hS => ?_⟩
 refine ah 9 3 hS ?_
 refine bU 13 rfl rfl (aF mj rfl rfl rfl rfl rfl) (aa ag) fun hS => ?_
 refine ah 14 1 hS ?_
 refine aK ?_
 refine au 8 ?_
 refine a8 rfl (fun c9 => ?_) fun c9 => ?_
 ·exact absurd rfl c9
 refine au 8 ?_
 refine aE 5 (ed mj rfl rfl rfl rfl (Nat.le_of_ble_eq_true rfl) (by exact rfl : setR (kj z g) 0 (yl y q0 q1 q2) = kj { z with x := y, q0 := q0, q1 := q1, q2 := q2 } (vY g))) ?_
 refine ar 8 (du s7 rfl (qq W0 _ gb { z with x := y, q0 := q0, q1 := q1, q2 := q2 } (vY g) hk rfl 5 0 0 0)) ?_
 refine ae ?_
 refine ⟨_, ⟨y, q0, q1, q2, rfl, rfl⟩, ?_⟩
 have hm := Cr hand.fr hand.pg hand.pl
 refine Ent.trans (B := pt gb (d9 { z with x := y, q0 := q0, q1 := q1, q2 := q2 } (qt g)) :: eN z.tr (qt g).es :: cJ z.pb (z.ps, y2.po) :: bu z.ps y2.fr :: qd y z.i bt2 bs2 z.pv (kH 6 (cn [pt q0 (qO true d5), pt q1 (qO true d5), pt q2 (qO true d5)]) :: pt z.pv (cr z.ps z.pm 0) :: pt z.pm (bJ y2.pg) :: R)) inferInstance ?_
 exact Ent.cons (Ent.cons (Ent.cons (Ent.cons (Cu hm))))
end
theorem vZ (t : Int) : aP gn t = false := by
 cases q : aP gn t with
 | false => rfl
 | true =>
  have h := q
  simp only [aP, Bool.and_eq_true] at h
  obtain ⟨k, rfl, hk⟩ := jq h.1
  have : k = 0 ∨ k = 1 ∨ k = 2 ∨ k = 3 ∨ k = 4 ∨ k = 5 ∨ k = 6 ∨ k = 7 ∨ k = 8 ∨ k = 9 ∨ k = 10 ∨ k = 11 := by omega
  rcases this with rfl | rfl | rfl | rfl | rfl | rfl | rfl | rfl | rfl | rfl | rfl | rfl <;> exact absurd q (by decide)
theorem GMem.none {i : Nat} {fr : List aC} {po : Po} (hF : cH fr) (hP : PoOk po) (hl : po.length = fr.length) (h1 : ∀ f, f < po.length → cD po f ≠ ((i : Int), true)) (h2 : ∀ f, f < po.length → cD po f = ((i : Int), false) → fr.getD f [] = cI) : GMem i ⟨fr, gn, po⟩ :=
 ⟨hF, hP, vz, hl, ⟨fun t ht => absurd ht (by rw [vZ]; decide), fun s t hs => absurd hs (by rw [vZ]; decide)⟩, fun t _ ht => absurd ht (by rw [vZ]; decide), fun f hf e => absurd e (h1 f hf), fun t _ ht => absurd ht (by rw [vZ]; decide), h2⟩
theorem Yi {who i : Nat} {words : List Nat} {x : Im} : (iQ who words x i).po.length = x.po.length ∧ (∀ f, (cD (iQ who words x i).po f).1 = (cD x.po f).1) := by
 unfold iQ
 cases e : bP x.po who with
 | nil => exact ⟨rfl, fun _ => rfl⟩
 | cons f l =>
  have hf := jr.1 (show f ∈ bP x.po who by rw [e]; simp)
  refine ⟨List.length_set .., fun k => ?_⟩
  dsimp only
  rw [ir hf.1]
  split
  ·rename_i q; rw [q, hf.2]
  rfl
theorem w0 {who : Nat} {words : List Nat} {x : Im} : ∀ n, (d6 who words n x).po.length = x.po.length ∧ (∀ f, (cD (d6 who words n x).po f).1 = (cD x.po f).1)
 | 0 => ⟨rfl, fun _ => rfl⟩
 | n + 1 => by
  obtain ⟨h1, h2⟩ := w0 (who := who) (words := words) (x := x) n
  obtain ⟨h3, h4⟩ := Yi (who := who) (i := n) (words := words) (x := d6 who words n x)
  exact ⟨h3.trans h1, fun f => (h4 f).trans (h2 f)⟩
theorem z9 {who : Nat} {words : List Nat} {x : Im} : ∀ n, n ≤ 8 → ∀ t : Nat, 8 ≤ t → aP (d6 who words n x).pg t = aP x.pg t
 | 0, _, _, _ => rfl
 | n + 1, hn, t, ht => by
  rw [d6, iQ]
  cases e : bP (d6 who words n x).po who with
  | nil => exact z9 n (by omega) t ht
  | cons f l =>
   dsimp only
   unfold dJ
   split
   ·rw [Int.toNat_natCast, (eR (by omega)).1]
    exact z9 n (by omega) t ht
   exact z9 n (by omega) t ht
theorem GMem.ring {i k : Nat} {fr : List aC} {pg : List Pl} {po : Po} {f : Nat} {r : Int} (h : GMem i ⟨fr, pg, po⟩) (hk : k < 4) (hno : aP pg ((8 + k : Nat) : Int) = false) (hf : f < fr.length) (hr : 1 ≤ r ∧ r ≤ 3) (ho : (cD po f).1 ≠ (i : Int)) (hd : ∀ t, aP pg t = true → (cm pg t).1 ≠ (f : Int)) :
  GMem i ⟨fr, dJ pg ((8 + k : Nat) : Int) ((f : Int), r), po⟩ ∧ (∀ t, aP (dJ pg ((8 + k : Nat) : Int) ((f : Int), r)) t = (aP pg t || decide (t = ((8 + k : Nat) : Int)))) ∧ (∀ t, t ≠ ((8 + k : Nat) : Int) → cm (dJ pg ((8 + k : Nat) : Int) ((f : Int), r)) t = cm pg t) ∧ cm (dJ pg ((8 + k : Nat) : Int) ((f : Int), r)) ((8 + k : Nat) : Int) = ((f : Int), r) := by
 have hf32 : f < 32 := by have := h.po.len; have := h.len; dsimp only at *; omega
 have hE : ej pg ((8 + k : Nat) : Int) ((f : Int), r) = 0 := by
  rw [ej, if_pos ⟨decide_eq_true (by omega), decide_eq_true (by dsimp only; omega)⟩, hno]; rfl
 have hP : dJ pg ((8 + k : Nat) : Int) ((f : Int), r) = pg.set (8 + k) ((f : Int), r) := by rw [dJ, if_pos hE, Int.toNat_natCast]
 have hne : (((f : Int), r) : Pl) ≠ (0, 0) := fun e => by have := (Prod.mk.inj e).2; omega
 have hg := yL (p := ((f : Int), r)) h.pg.len (show 8 + k < 12 by omega) hne
 have hth : ∀ t, aP (pg.set (8 + k) ((f : Int), r)) t = (aP pg t || decide (t = ((8 + k : Nat) : Int))) := fun t => by
  by_cases e : t = ((8 + k : Nat) : Int)
  ·rw [e, hg.1, decide_eq_true rfl, Bool.or_true]
  rw [(eR e).1, decide_eq_false e, Bool.or_false]
 rw [hP]
 refine ⟨⟨h.fr, h.po, ?_, h.len, h.pl.set h.pg.len (by omega) hne (by show (f : Int) < _; dsimp only; omega) hd, fun t h8 q => ?_, fun g hgl q => ?_, fun t h8 q => ?_, h.nul⟩, hth, fun t e => (eR e).2, hg.2⟩
 ·have := qX (n := ((8 + k : Nat) : Int)) (p := ((f : Int), r)) h.pg
  rwa [hP] at this
 ·have e : (t : Int) ≠ ((8 + k : Nat) : Int) := by omega
  dsimp only at q ⊢
  rw [hth, decide_eq_false e, Bool.or_false] at q
  rw [(eR e).2]
  exact h.own t h8 q
 ·obtain ⟨t, h8, h1, h2⟩ := h.all g hgl q
  have e : (t : Int) ≠ ((8 + k : Nat) : Int) := by omega
  exact ⟨t, h8, by dsimp only; rw [hth]; dsimp only at h1; rw [h1]; rfl, by dsimp only; rw [(eR e).2]; exact h2⟩
 dsimp only at q ⊢
 by_cases e : (t : Int) = ((8 + k : Nat) : Int)
 ·rw [e, hg.2, Int.toNat_natCast]; exact ho
 rw [hth, decide_eq_false e, Bool.or_false] at q
 rw [(eR e).2]
 exact h.far t h8 q
theorem GMem.rings {c : Cfg} {i : Nat} {fr : List aC} {pg : List Pl} {po : Po} (hr : rt c = true) (h : GMem i ⟨fr, pg, po⟩) (hfree : ∀ t : Nat, 8 ≤ t → aP pg t = false) (b : Nat) (hb : dG c c.gl.length = (b : Int)) (ho : ∀ k, k < c.nl.length → (cD po (b + k)).1 ≠ (i : Int)) (hl : b + c.nl.length ≤ fr.length) :
  ∀ k, k ≤ c.nl.length → GMem i ⟨fr, gL c i k pg, po⟩ ∧ (∀ t : Nat, 8 ≤ t → aP (gL c i k pg) t = true → t < 8 + k ∧ (cm (gL c i k pg) t).1 = ((b + (t - 8) : Nat) : Int)) ∧ (∀ t : Nat, t < 8 → aP (gL c i k pg) t = aP pg t ∧ cm (gL c i k pg) t = cm pg t)
 | 0, _ => ⟨h, fun t h8 q => absurd (show aP pg t = true from q) (by rw [hfree t h8]; decide), fun t _ => ⟨rfl, rfl⟩⟩
 | k + 1, hk => by
  obtain ⟨g1, g2, g3⟩ := h.rings hr hfree b hb ho hl k (by omega)
  have hn4 := (lg hr).nn
  rw [gL]
  split
  ·exact ⟨g1, fun t h8 q => ⟨by have := (g2 t h8 q).1; omega, (g2 t h8 q).2⟩, g3⟩
  rename_i hx
  have hrg : lh c (k : Int) = ((b + k : Nat) : Int) := by rw [lh, if_pos ⟨hr, by omega, by omega⟩, hb]; omega
  have hxr : 1 ≤ mK (rD c k) i ∧ mK (rD c k) i ≤ 3 := by
   revert hx
   unfold mK
   split
   ·intro _; decide
   split
   ·intro _; decide
   intro q; exact absurd rfl q
  have hno : aP (gL c i k pg) ((8 + k : Nat) : Int) = false := by
   cases q : aP (gL c i k pg) ((8 + k : Nat) : Int) with
   | false => rfl
   | true => have := (g2 (8 + k) (by omega) q).1; omega
  rw [hrg]
  obtain ⟨r1, r2, r3, r4⟩ := g1.ring (k := k) (f := b + k) (r := mK (rD c k) i) (by omega) hno (by omega) hxr (ho k (by omega)) fun t q e => by
   have h2 := q
   simp only [aP, Bool.and_eq_true] at h2
   obtain ⟨s, rfl, hs⟩ := jq h2.1
   rcases Nat.lt_or_ge s 8 with h8 | h8
   ·have := g1.own s h8 q
    dsimp only at this
    rw [e, Int.toNat_natCast] at this
    exact ho k (by omega) (by rw [this])
   have := g2 s h8 q
   omega
  refine ⟨r1, fun t h8 q => ?_, fun t h8 => ?_⟩
  ·rw [r2] at q
   by_cases e : (t : Int) = ((8 + k : Nat) : Int)
   ·rw [e, r4]; exact ⟨by omega, by show ((b + k : Nat) : Int) = _; omega⟩
   rw [decide_eq_false e, Bool.or_false] at q
   rw [r3 _ e]
   exact ⟨by have := (g2 t h8 q).1; omega, (g2 t h8 q).2⟩
  have e : (t : Int) ≠ ((8 + k : Nat) : Int) := by omega
  exact ⟨by rw [r2, decide_eq_false e, Bool.or_false]; exact (g3 t h8).1, by rw [r3 _ e]; exact (g3 t h8).2⟩
def lv (c : Cfg) (i : Nat) (ws : List Nat) (fr : List aC) (po : Po) : Mm := ⟨(laid c i ws fr po).fr, gL c i c.nl.length (laid c i ws fr po).pg, (laid c i ws fr po).po⟩
theorem Yj {c : Cfg} {i : Nat} {ws : List Nat} {fr : List aC} {po : Po} (hF : cH fr) (hP : PoOk po) (hl : po.length = fr.length) (hi : i < 16) : (laid c i ws fr po).fr.length = fr.length := by
 have h1 := (rn (who := i) (words := bC ws (cQ c i).2.1.toNat) (x := ⟨fr, po, gn⟩) hi (n := (cQ c i).2.1.toNat) ⟨hF, hP, vz, hl⟩).len
 have h2 := (w0 (who := i) (words := bC ws (cQ c i).2.1.toNat) (x := ⟨fr, po, gn⟩) (cQ c i).2.1.toNat).1
 have h3 : (d6 i (bC ws (cQ c i).2.1.toNat) (cQ c i).2.1.toNat ⟨fr, po, gn⟩).po.length = po.length := h2
 unfold laid
 omega
theorem GMem.made {c : Cfg} {i : Nat} {ws : List Nat} {fr : List aC} {po : Po} (hr : rt c = true) (hi : i < c.gl.length) (hF : cH fr) (hP : PoOk po) (hl : po.length = fr.length) (hfre : (cQ c i).2.1 ≤ ((bP po i).length : Int)) (h1 : ∀ f, f < po.length → cD po f ≠ ((i : Int), true)) (h2 : ∀ f, f < po.length → cD po f = ((i : Int), false) → fr.getD f [] = cI)
  (ho : ∀ b k : Nat, dG c c.gl.length = (b : Int) → k < c.nl.length → (cD po (b + k)).1 ≠ (i : Int)) (hn : fr.length = cF c) : GMem i (lv c i ws fr po) := by
 have hR := lg hr
 have hg4 := hR.g4
 have hgs := hR.gs i hi
 have h0 := GMem.none hF hP hl h1 h2
 have hl1 := GMem.lay (words := bC ws (cQ c i).2.1.toNat) (x := ⟨fr, po, gn⟩) h0 (show i < 16 by omega) BA (cQ c i).2.1.toNat (by omega) (by show _ ≤ (bP po i).length; omega)
 have hbm := pW hR.gs c.gl.length (Nat.le_refl _)
 obtain ⟨b, hb⟩ : ∃ b : Nat, dG c c.gl.length = (b : Int) := ⟨(dG c c.gl.length).toNat, by omega⟩
 have hll := Yj (ws := ws) (c := c) hF hP hl (show i < 16 by omega)
 have hnd := rA c c.gl.length
 have hnf : b + c.nl.length ≤ (laid c i ws fr po).fr.length := by rw [hll, hn, cF, hnd, hb]; omega
 exact (hl1.rings hr (fun t h8 => by
  show aP (d6 i (bC ws (cQ c i).2.1.toNat) (cQ c i).2.1.toNat ⟨fr, po, gn⟩).pg t = false
  rw [z9 _ (by omega) t h8]; exact vZ _) b hb (fun k hk => by
  show (cD (d6 i (bC ws (cQ c i).2.1.toNat) (cQ c i).2.1.toNat ⟨fr, po, gn⟩).po (b + k)).1 ≠ _
  rw [(w0 _).2]; exact ho b k hb hk) hnf c.nl.length (Nat.le_refl _)).1
abbrev g0 : Gu := ⟨⟨List.replicate 16 0, 0, Cq⟩, d5, d5, d5, z7, 0, Cp, false, [0, 0, 0, 0], 0, [], 0⟩
abbrev gA (gb : Nat) (z : Gz) (g : Gu) (x : Mm) (R : List HP) : List HP := pt gb (d9 z g) :: pt z.x.r (dq g.c.rl g.c.pc) :: pt z.x.c (dH g.c.cs z.i) :: eN z.tr g.es :: lq z.x.v (g.ls, g.ln) :: lr z.x.t g.tm :: i7 z.x.m ⟨z.pv, z.ps, z.pm, g.bud, x.fr, x.pg⟩ :: pt z.q0 (qO true g.qa) :: pt z.q1 (qO true g.qb) :: pt z.q2 (qO true g.qc) :: R
theorem Yk (W0 : World) (R : List HP) (c : Cfg) (h : CfK W0 c) (hr : rt c = true) (i : Nat) (hi : i < c.gl.length) (ps pb : Nat) (fr : List aC) (po : Po) (hF : cH fr) (hP : PoOk po) (hl : po.length = fr.length) (h0 : 0 < fr.length) (hfre : (cQ c i).2.1 ≤ ((bP po i).length : Int))
  (a : Option Addr) (cap : Nat) (ws : List Nat) (hs : ∀ A, cG (aO W0 A) a 1 i3 ws) (hb : ∀ y ∈ ws, y < 4294967296) (hn : ws.length < 9223372036854775808) (hM : GMem i (lv c i ws fr po)) :
  bN Tryz.prog W0 37 [.agg (di c).toArray, .int .i64 i, pV ps, pV pb, .slice a ws.length cap] (cJ pb (ps, po) :: bu ps fr :: R)
   (fun v B => ∃ gb z wg, v = .tuple #[pV gb, .int .i64 0] ∧ z.c = c ∧ z.i = i ∧ z.ps = ps ∧ z.pb = pb ∧ z.wv = .slice (some ⟨wg, 0, none⟩) (bC ws 8).length (bC ws 8).length ∧ B = gA gb z g0 (lv c i ws fr po) (pt z.bx tC :: pt wg (ac ((bC ws 8).map wV) 37) :: cJ pb (ps, (lv c i ws fr po).po) :: bu ps (lv c i ws fr po).fr :: R)) := by
 refine hJ (TV c h hr i hi ps pb fr po hF hP hl h0 hfre a cap ws hs hb hn) fun v B hB => ?_
 obtain ⟨gb, x, bt, bs, q0, q1, q2, wg, pv, pm, bx, tr, rfl, rfl⟩ := hB
 refine ⟨_, ⟨gb, ⟨x, q0, q1, q2, pv, ps, pm, pb, bx, tr, .slice (some ⟨wg, 0, none⟩) (bC ws 8).length (bC ws 8).length, i, c⟩, wg, rfl, rfl, rfl, rfl, rfl, rfl, rfl⟩, ?_⟩
 have hm := Cr hM.fr hM.pg hM.pl
 refine Ent.trans (B := pt gb (ac (yn x q0 q1 q2 c i (.slice (some ⟨wg, 0, none⟩) (bC ws 8).length (bC ws 8).length) pb pv bx tr) 102) :: qd x i bt bs pv (kH 6 (cn [pt q0 (qO true d5), pt q1 (qO true d5), pt q2 (qO true d5)]) :: pt pv (cr ps pm 0) :: pt pm (bJ (gL c i c.nl.length (laid c i ws fr po).pg)) :: pt bx tC :: eN tr [] :: pt wg (ac ((bC ws 8).map wV) 37) :: cJ pb (ps, (laid c i ws fr po).po) :: bu ps (laid c i ws fr po).fr :: R)) inferInstance ?_
 refine (Ent.cons (Cu hm)).trans ?_
 obtain ⟨m, hm2⟩ : ∃ m, lv c i ws fr po = m := ⟨_, rfl⟩
 have e1 : (laid c i ws fr po).fr = m.fr := by rw [← hm2]; rfl
 have e2 : gL c i c.nl.length (laid c i ws fr po).pg = m.pg := by rw [← hm2]; rfl
 have e3 : (laid c i ws fr po).po = m.po := by rw [← hm2]; rfl
 rw [hm2, e1]
 try rw [e2]
 try rw [e3]
 exact Ent.trans (B := pt gb (d9 ⟨x, q0, q1, q2, pv, ps, pm, pb, bx, tr, .slice (some ⟨wg, 0, none⟩) (bC ws 8).length (bC ws 8).length, i, c⟩ g0) :: Cs x q0 q1 q2 i pv ps pm m.fr m.pg (pt bx tC :: eN tr [] :: pt wg (ac ((bC ws 8).map wV) 37) :: cJ pb (ps, m.po) :: bu ps m.fr :: R)) ent_refl inferInstance
@[reducible] def fk (p s b1 b2 b3 : Nat) : Cfg := ⟨1, some ⟨b1, 0, none⟩, 2, [(0, (p : Int), (s : Int)), (1, 2, 0)], none, 0, [], none, 0, [], some ⟨b2, 0, none⟩, 1, [(0, 1)], some ⟨b3, 0, none⟩, 1, [(0, 1)], -1, 0⟩
abbrev ID (p s b1 b2 b3 : Nat) (R : List HP) : List HP := pt b1 (ac ([(0, (p : Int), (s : Int)), (1, 2, 0)].flatMap fF) 87) :: pt b2 (ac ([((0 : Int), (1 : Int))].flatMap fM) 89) :: pt b3 (ac ([((0 : Int), (1 : Int))].flatMap fM) 91) :: R
def lw (pages : Nat) : Nat := 2 + pages % 6
def w3 (pages spare : Nat) : Nat := spare % (8 - lw pages + 1)
theorem Yl (n : Nat) : 2 ≤ lw n ∧ lw n ≤ 7 := by unfold lw; omega
theorem IE : ∀ p, p < 8 → 2 ≤ p → ∀ s, s < 8 → s ≤ 8 - p → ∀ b1 b2 b3, rt (fk p s b1 b2 b3) = true := by
 intro p hp h2 s hs h8 b1 b2 b3
 have hp' : p = 2 ∨ p = 3 ∨ p = 4 ∨ p = 5 ∨ p = 6 ∨ p = 7 := by omega
 have hs' : s = 0 ∨ s = 1 ∨ s = 2 ∨ s = 3 ∨ s = 4 ∨ s = 5 ∨ s = 6 := by omega
 rcases hp' with rfl | rfl | rfl | rfl | rfl | rfl <;> rcases hs' with rfl | rfl | rfl | rfl | rfl | rfl | rfl <;> first | (exfalso; omega) | (show rt _ = true; kernel_rfl)
theorem IF (pages spare : Nat) (hp : pages < 256) (hs : spare < 256) : sP W0 6 [.int .u8 pages, .int .u8 spare] R (fun v B => ∃ b1 b2 b3, v = .agg (di (fk (lw pages) (w3 pages spare) b1 b2 b3)).toArray ∧ B = ID (lw pages) (w3 pages spare) b1 b2 b3 R) := by
 have h1 := Yl pages
 refine ai 2 func6 ntmps6 ?_
 refine ax (aS a0o) fun b1 => ?_
 refine au 5 ?_
 refine a7 rfl (ku rfl rfl (by decide) (oe pages 6)) ?_
 refine a7 rfl (cX rY cW rfl (aG (by omega))) ?_
 refine ap 7 (bO rfl rfl (by rw [aG (by omega)]; unfold lw; omega : IntKind.wrap .i64 (2 + ((pages % 6 : Nat) : Int)) = ((lw pages : Nat) : Int))) ?_
 refine a7 rfl (cX rY cW rfl (aG (by omega))) ?_
 refine a7 rfl (aH rfl) ?_
 refine a7 rfl (cZ rfl rfl (aG (by omega))) ?_
 refine a7 rfl (bO rfl rfl (by rw [aG (by omega)]; omega : IntKind.wrap .i64 ((8 - ((lw pages : Nat) : Int)) + 1) = ((8 - lw pages + 1 : Nat) : Int))) ?_
 refine a7 rfl (ku rfl rfl (by omega) (oe spare (8 - lw pages + 1))) ?_
 refine a7 rfl (bq jg uj (am aj (am aj (am aj bj))) (aI rfl aj rfl rfl (Nat.le_of_ble_eq_true rfl) SetL.eq (aI rfl aj rfl rfl (Nat.le_of_ble_eq_true rfl) SetL.eq bi))) ?_
 refine a7 rfl (bq jg uj (am aj (am aj (am aj bj))) (aI rfl aj rfl rfl (Nat.le_of_ble_eq_true rfl) SetL.eq (aI rfl aj rfl rfl (Nat.le_of_ble_eq_true rfl) SetL.eq bi))) ?_
 refine ax (iM iX fQ uj rfl (eW rfl rfl (eW rfl rfl gZ)) rfl (by decide) (by decide) (by decide)) fun b1 => ?_
 refine a7 rfl (bq CL wz (am aj (am aj bj)) (aI rfl aj rfl rfl (Nat.le_of_ble_eq_true rfl) SetL.eq (aI rfl aj rfl rfl (Nat.le_of_ble_eq_true rfl) SetL.eq bi))) ?_
 refine ax (iM rW kN wz rfl (eW rfl rfl gZ) rfl (by decide) (by decide) (by decide)) fun b2 => ?_
 refine a7 rfl (bq a0c CY (am aj (am aj bj)) (aI rfl aj rfl rfl (Nat.le_of_ble_eq_true rfl) SetL.eq bi)) ?_
 refine ax (iM CJ uk CY rfl (eW rfl rfl gZ) rfl (by decide) (by decide) (by decide)) fun b3 => ?_
 refine a7 rfl (bq wo a0o (am aj (am Jd (am sizeOf30 (am sizeOf31 (am Je (am Jf (am aj (am aj bj)))))))) (aI rfl aj rfl rfl (Nat.le_of_ble_eq_true rfl) SetL.eq (aI rfl Jd rfl rfl (Nat.le_of_ble_eq_true rfl) SetL.eq (aI rfl Je rfl rfl (Nat.le_of_ble_eq_true rfl) SetL.eq (aI rfl Jf rfl rfl (Nat.le_of_ble_eq_true rfl) SetL.eq (aI rfl aj rfl rfl (Nat.le_of_ble_eq_true rfl) SetL.eq bi)))))) ?_
 refine aE 3 (aF mi rfl rfl rfl rfl rfl) ?_
 refine lz (b := b1) (o' := ac ([(0, ((lw pages : Nat) : Int), ((w3 pages spare : Nat) : Int)), (1, 2, 0)].flatMap fF) 87) rfl ?_
 refine lz (b := b2) (o' := ac ([((0 : Int), (1 : Int))].flatMap fM) 89) rfl ?_
 refine lz (b := b3) (o' := ac ([((0 : Int), (1 : Int))].flatMap fM) 91) rfl ?_
 refine bY (.cons (cg rU mi rfl rfl) .nil) ?_
 exact ⟨_, ⟨b1, b2, b3, rfl, rfl⟩, inferInstance⟩
theorem IG {W0 W : World} {p s b1 b2 b3 : Nat} {R : List HP} (hO : Own W0 W (ID p s b1 b2 b3 R)) : CfK W (fk p s b1 b2 b3) :=
 ⟨⟨tu hO (pG (b := b1) (fun _ => rfl) rfl), fun _ => Al, fun _ => Al, tu hO (pG (b := b2) (fun _ => rfl) rfl), tu hO (pG (b := b3) (fun _ => rfl) rfl), Nat.le_refl _⟩, Nat.le_refl _⟩
theorem Cx {c : Cfg} (hr : rt c = true) {i : Nat} (hi : i < c.gl.length) (ws : List Nat) : GMem i (lv c i ws (List.replicate (cF c) cI) (dQ c (cF c))) := by
 have hR := lg hr
 have hlr : (List.replicate (cF c) cI).length = cF c := by simp
 refine GMem.made hr hi (cH.new _) (y8 hR _) (by rw [nJ, hlr]) ?_ (fun f hf e => ?_) (fun f hf _ => ?_) (fun b k hb hk e => ?_) hlr
 ·have h1 := Gc hR hi
  have h2 := (hR.gs i hi).2.2.1
  omega
 ·rw [nJ] at hf
  rw [tA hf, if_pos hf] at e
  cases q : jt c f with
  | some j => rw [q] at e; have := (Prod.mk.inj e).2; cases this
  | none => rw [q] at e; have := (Prod.mk.inj e).2; cases this
 ·rw [nJ] at hf
  simp [List.getD, hf]
 have hnd := rA c c.gl.length
 have hf : b + k < cF c := by rw [cF, hnd, hb]; omega
 rw [tA hf, if_pos hf] at e
 cases q : jt c ((b + k : Nat) : Int) with
 | some j =>
  have h1 := (y7 hR).1 q
  have h2 := Bq hR (show j + 1 ≤ c.gl.length by omega) (Nat.le_refl _)
  omega
 | none => rw [q] at e; simp [rB] at e
theorem IH (c : Cfg) (h : CfK W0 c) (hr : rt c = true) (i : Nat) (hi : i < c.gl.length) (a : Option Addr) (cap : Nat) (ws : List Nat) (hs : ∀ A, cG (aO W0 A) a 1 i3 ws) (hb : ∀ y ∈ ws, y < 4294967296) (hn : ws.length < 9223372036854775808) (hcap : ws.length ≤ cap) : sP W0 5 [.agg (di c).toArray, .int .i64 i, .slice a ws.length cap] R (fun v B => ∃ gb z wg wb, v = .tuple #[pV gb, pV wb, .int .i64 0, .int .i64 0] ∧ z.c = c ∧ z.i = i ∧ z.wv = .slice (some ⟨wg, 0, none⟩) (bC ws 8).length (bC ws 8).length ∧ B = gA gb z g0 (lv c i ws (List.replicate (cF c) cI) (dQ c (cF c))) (pt z.bx tC :: pt wg (ac ((bC ws 8).map wV) 37) :: cJ z.pb (z.ps, (lv c i ws (List.replicate (cF c) cI) (dQ c (cF c))).po) :: bu z.ps (lv c i ws (List.replicate (cF c) cI) (dQ c (cF c))).fr :: R)) := by
 have hR := lg hr
 have hnd := hR.nd
 have hg4 := hR.g4
 have hn1 : 0 < cF c ∧ cF c ≤ 32 := by rw [cF]; omega
 have hlr : (List.replicate (cF c) cI).length = cF c := by simp
 have hfn : tB c = cF c := by rw [tB, if_pos hr]
 have hM := Cx hr hi ws
 have hfre : (cQ c i).2.1 ≤ ((bP (dQ c (cF c)) i).length : Int) := by
  have h1 := Gc hR hi
  have h2 := (hR.gs i hi).2.2.1
  omega
 refine ai 2 func5 ntmps5 ?_
 refine ax (aV rfl) fun b3 => ?_
 refine au 9 ?_
 refine aM (aD call29 rfl (Tf c h.ok)) ?_
 rw [hfn]
 refine ap 6 (xL rfl rfl (show _ = ((cF c : Nat) : Int) by split <;> omega)) ?_
 refine aB rfl (aD call30 rfl (Pu (cF c) (by omega))) ?_
 rintro _ B_ ⟨ps, rfl, hB_⟩
 obtain rfl := hB_.symm
 refine au 10 ?_
 refine aB rfl (aD call31 rfl (PQ (cF c) (by omega))) ?_
 rintro _ B_ ⟨qs, rfl, hB_⟩
 obtain rfl := hB_.symm
 refine au 10 ?_
 refine aB rfl (ao call32 rfl (R9 ps (List.replicate (cF c) cI) (by rw [hlr]; omega) (by rw [hlr]; omega))) ?_
 rintro _ B_ ⟨pb, rfl, hB_⟩
 obtain rfl := hB_.symm
 rw [hlr, ← Ga]
 refine au 10 ?_
 refine aB rfl (ao call33 rfl (Sr qs (List.replicate (cF c) cI) (by rw [hlr]; omega) (by rw [hlr]; omega))) ?_
 rintro _ B_ ⟨qb, rfl, hB_⟩
 obtain rfl := hB_.symm
 rw [hlr, ← Ga]
 refine au 14 ?_
 refine cY (fun f : Nat => f ≤ cF c) (fun f => [(1, .int .i64 i), (2, .slice a ws.length cap), (3, pV b3), (10, .int .i64 (cF c : Nat)), (11, pV ps), (13, pV qs), (15, pV pb), (17, pV qb), (19, .int .i64 f)]) (fun f => pt b3 (fz c) :: cJ pb (ps, dQ c f) :: bu ps (List.replicate (cF c) cI) :: eh qb (qs, dQ c f) :: dN qs (List.replicate (cF c) cI) :: R) (fun f => cF c - f) 0 ?_ ?_
 ·exact Nat.zero_le _
 intro f hf
 refine au 8 ?_
 refine a8 rfl (fun c7 => ?_) fun c7 => ?_
 ·refine au 2 ?_
  refine dU (fun _ : Unit => f < cF c) (fun _ => [(1, .int .i64 i), (2, .slice a ws.length cap), (3, pV b3), (10, .int .i64 (cF c : Nat)), (11, pV ps), (13, pV qs), (15, pV pb), (17, pV qb), (19, .int .i64 f)]) (fun _ => pt b3 (fz c) :: cJ pb (ps, dQ c (f + 1)) :: bu ps (List.replicate (cF c) cI) :: eh qb (qs, dQ c (f + 1)) :: dN qs (List.replicate (cF c) cI) :: R) ?_ ?_
  ·skip
   refine au 2 ?_
   have hf1 : f < cF c := by omega
   have hos := BD (i := (jt c f).getD 0) hr hf1
   have hon := U2 hr hf1
   refine au 3 ?_
   refine aM (aD call34 rfl (Tg c h f hr (by rw [cF] at hf1; omega))) ?_
   refine ax (aS D4) fun b20 => ?_
   refine aE 9 (aF zF rfl rfl rfl rfl rfl) ?_
   refine a8 rfl (fun c10 => ?_) fun c10 => ?_
   ·obtain ⟨j, hj⟩ : ∃ j, jt c f = some j := by
     cases e : jt c f with
     | some j => exact ⟨j, rfl⟩
     | none => have := hon e; rw [this] at c10; exact absurd c10 (by decide)
    have hov := BD hr hf1 hj
    have hj4 := ((y7 hR).1 hj).1
    have hps := T9 hf1 hj
    refine au 5 ?_
    refine a7 rfl (aA aX rfl (aN (by rw [hov]; rfl : (Br (pU c f))[1]? = some (.int .i64 (j : Int))))) ?_
    refine aM (cK call35 rfl (Ra pb ps (dQ c f) (List.replicate (cF c) cI) f j (by rw [nJ]; exact hf1) (by rw [hlr]; exact hf1) (by omega) (y8 hR f) (by rw [tA hf1, if_neg (by omega)]))) ?_
    rw [Gp, ← hps]
    refine au 6 ?_
    refine a7 rfl (aA aX rfl (aN (by rw [hov]; rfl : (Br (pU c f))[1]? = some (.int .i64 (j : Int))))) ?_
    refine aM (cK call36 rfl (Sv qb qs (dQ c f) (List.replicate (cF c) cI) f j (by rw [nJ]; exact hf1) (by rw [hlr]; exact hf1) (by omega) (by rw [tA hf1, if_neg (by omega)]))) ?_
    rw [Gp, ← hps]
    refine au 3 ?_
    exact cj () (hf1)
   have hps : dQ c (f + 1) = dQ c f := by
    cases e : jt c f with
    | none => exact Ta e
    | some j => have := BD hr hf1 e; rw [this] at c10; exact absurd rfl c10
   refine au 3 ?_
   refine cj () ?_ (he := ?_)
   ·exact hf1
   rw [hps]
   exact inferInstance
  intro _ hf1
  refine au 2 ?_
  refine ap 3 (cM rfl rfl) ?_
  exact bZ (f + 1) (by omega)
 refine au 6 ?_
 obtain rfl : f = cF c := by omega
 refine au 6 ?_
 refine aB rfl (cK call37 rfl (Yk W0 _ c h hr i hi ps pb (List.replicate (cF c) cI) (dQ c (cF c)) (cH.new _) (y8 hR _) (by rw [nJ, hlr]) (by rw [hlr]; omega) hfre a cap ws hs hb hn hM)) ?_
 rintro _ B_ ⟨gb, z, wg, rfl, hz1, hz2, hz3, hz4, hz5, hB_⟩
 obtain rfl := hB_.symm
 obtain rfl := hz3
 obtain rfl := hz4
 refine au 14 ?_
 refine aB rfl (cK call38 rfl (U1 c h hr i hi qs qb (List.replicate (cF c) cI) (dQ c (cF c)) (cH.new _) (y8 hR _) (by rw [nJ, hlr]) (by rw [hlr]; omega) hfre a cap ws hs hb hn hcap)) ?_
 rintro _ B_ ⟨wb, rfl, hB_⟩
 obtain rfl := hB_.symm
 refine au 20 ?_
 refine bY (.cons (bK rfl) (.cons (bK rfl) (.cons (bK rfl) (.cons (bK rfl) .nil)))) ?_
 exact ⟨_, ⟨gb, z, wg, wb, rfl, hz1, hz2, hz5, rfl⟩, inferInstance⟩
theorem w4 {F : Fence} {n : Nat} {P : Program} {fn : Func} {tmps : Array Value} {R R' : Ending → World → Prop} (hR : ∀ e w, R e w → R' e w) :
  ∀ (ds : List Deferred) (u : FrameMode) (w : World), LeavesInM F n P fn tmps R ds u w → LeavesInM F n P fn tmps R' ds u w
 | [], .returning, w, h => by
  obtain ⟨v, h1, h2⟩ := (show ∃ v, (results fn tmps).run P w = .ok v w ∧ R (.returned v) w from h)
  exact ⟨v, h1, hR _ _ h2⟩
 | [], .panicking c, w, h => hR _ _ h
 | [], .run, w, h => h
 | d :: ds, u, w, h => by
  obtain ⟨hu, h⟩ := h
  refine ⟨hu, ?_⟩
  rcases h with ⟨r, w', h1, h2, h3⟩ | ⟨h0, fv, cap, f, args, h1, h2, h3, h4⟩
  ·exact .inl ⟨r, w', h1, h2, w4 hR ds u w' h3⟩
  refine .inr ⟨h0, fv, cap, f, args, h1, h2, h3, h4.mono ?_⟩
  intro e u' w' he
  cases e with
  | returned v => exact w4 hR ds _ _ he
  | panicked c => exact w4 hR ds _ _ he
  | outgrown => exact hR _ _ he
theorem Ym {P : Program} {o : Oper} {a : Act} {K K' : Act → World → Prop} {Q Q' : Exit → Act → World → Prop} (hk : ∀ a w, K a w → K' a w) (hq : ∀ e a w, Q e a w → Q' e a w) :
  ∀ {r : Result Next}, o.upon P a K Q r → o.upon P a K' Q' r
 | .ok (.value v) w, h => hk _ _ h
 | .ok .skip w, h => hk _ _ h
 | .ok (.defer d) w, h => hk _ _ h
 | .ok (.enter f args) w, h => Calls.mono (show Calls P f args w _ from h) (by
   intro e w' he
   cases e with
   | returned v => exact hk _ _ he
   | panicked c => exact hq _ _ _ he
   | outgrown => exact Exists.elim he fun a h => Exists.elim h fun w h => ⟨a, w, hq _ _ _ h⟩)
 | .ok (.row row args) w, h => Rows.mono (show Rows P row args w _ from h) (fun v w' he => hk _ _ he)
 | .halt (.panic v) w, h => hq _ _ _ h
theorem Yn {rd : Option Nat} {P : Program} {o : Oper} {a : Act} {K K' : Act → World → Prop} {Q Q' : Exit → Act → World → Prop} (hk : ∀ a w, K a w → K' a w) (hq : ∀ e a w, Q e a w → Q' e a w) :
  ∀ {r : Result Next}, o.uponIn (FW rd) 0 P a K Q r → o.uponIn (FW rd) 0 P a K' Q' r
 | .ok (.value v) w, h => hk _ _ h
 | .ok .skip w, h => hk _ _ h
 | .ok (.defer d) w, h => hk _ _ h
 | .ok (.enter f args) w, h => ⟨h.1, CallsIn.mono h.2 (by
   intro e w' he
   cases e with
   | returned v => exact hk _ _ he
   | panicked c => exact hq _ _ _ he
   | outgrown => exact Exists.elim he fun a h => Exists.elim h fun w h => ⟨a, w, hq _ _ _ h⟩)⟩
 | .ok (.row row args) w, h => ⟨h.1, RowsIn.mono h.2 (fun v w' he => hk _ _ he)⟩
 | .ok (.round l f tmps assign body) w, h => ⟨h.1, RoundIn.mono h.2 (by
   intro e w' he
   cases e with
   | returned v => exact hk _ _ he
   | panicked c => exact hq _ _ _ he
   | outgrown => exact Exists.elim he fun a h => Exists.elim h fun w h => ⟨a, w, hq _ _ _ h⟩)⟩
 | .halt (.panic v) w, h => hq _ _ _ h
theorem za {rd : Option Nat} {P : Program} {ops : Array Oper} {Q Q' : Exit → Act → World → Prop} (hq : ∀ e a w, Q e a w → Q' e a w) : ∀ (l : List Oper) (a : Act) (w : World), aZ rd P ops Q l a w → aZ rd P ops Q' l a w
 | [], a, w, h => hq _ _ _ h
 | o :: l, a, w, h => by
  simp only [aZ] at h ⊢
  split at h
  ·rename_i hw
   rw [if_pos hw]
   rcases h with h | h
   ·exact .inl (Ym (fun a w k => za hq l a w k) hq h)
   exact .inr ⟨h.1, Yn (fun a w k => za hq l a w k) hq h.2⟩
  rename_i hw
  rw [if_neg hw]
  exact za hq l _ _ h
theorem Yo {P : Program} {W0 w : World} {fn : Func} {Post Post' : Value → List HP → Prop} {A : List HP} (hO : Own W0 w A) (hP : ∀ v B, Post' v B → ∃ B', Post v B' ∧ Ent (B ++ A) B') :
  ∀ (ex : Exit) (a : Act) (w' : World), jU P w fn Post' ex a w' → jU P W0 fn Post ex a w' := by
 have hR : ∀ (e : Ending) (w' : World), (∃ v B, e = .returned v ∧ Post' v B ∧ Own w w' B) → ∃ v B, e = .returned v ∧ Post v B ∧ Own W0 w' B := by
  rintro e w' ⟨v, B, rfl, hp, hO'⟩
  obtain ⟨B', h1, h2⟩ := hP v B hp
  exact ⟨v, B', rfl, h1, (hO.step hO').ent h2⟩
 intro ex a w' h
 cases ex with
 | normal => exact w4 hR _ _ _ h
 | ret => exact w4 hR _ _ _ h
 | exit id => exact h
 | goto l => exact h
 | panic c => exact h
 | outgrown => exact h
theorem II {P : Program} {W0 : World} {N : FSz} {ops : Array Oper} {l : List Oper} {y : Code} {fn : Func} {Post : Value → List HP → Prop} (Post' : Value → List HP → Prop) {e : aW} {A : List HP}
  (hP : ∀ v B, Post' v B → ∃ B', Post v B' ∧ Ent (B ++ A) B') (h : ∀ W, Own W0 W A → az W N (aZ none P ops (Exit.then (y.wpR none P (jU P W fn Post')) (jU P W fn Post')) l) e []) :
  az W0 N (aZ none P ops (Exit.then (y.wpR none P (jU P W0 fn Post)) (jU P W0 fn Post)) l) e A := by
 intro a w hF hO
 have hm := Yo (P := P) (fn := fn) hO hP
 refine za ?_ _ _ _ (h w hO a w hF (Own.refl w))
 intro ex a' w' hq
 cases ex with
 | normal => exact Code.wpIn_mono hm hq
 | ret => exact hm .ret a' w' hq
 | exit id => exact hm (.exit id) a' w' hq
 | goto l => exact hm (.goto l) a' w' hq
 | panic c => exact hm (.panic c) a' w' hq
 | outgrown => exact hm .outgrown a' w' hq
theorem GOk.more {z : Gz} {g g' : Gu} {N : Nat} (h : GOk z g N) (hc : CpOk g'.c) (h1 : g'.clock ≤ g.clock + 1) (h2 : g'.bud ≤ g.bud + 6) (h3 : g'.ln ≤ g.ln + 2) (h4 : g'.tm.now ≤ g.tm.now + 1) : GOk z g' (N + 1) :=
 ⟨hc, h.i, by have := h.clk; omega, by have := h.bud; omega, by have := h.ln; omega, by have := h.tn; omega⟩
theorem Yp {rl : List Nat} {e w : Nat} (h : RlOk rl) (he : e < 4294967296) (hw : w < 4294967296) : RlOk (vA rl e w) := by
 have h1 := (h.set 1 e he).set 2 w hw
 rw [kC, kC, if_neg (by decide), if_neg (by decide)] at h1
 exact h1
theorem w5 {g : Gu} {a b : Nat} (h : CpOk g.c) (ha : a < 4294967296) (hb : b < 4294967296) : CpOk (eE g a b).2.c := by
 unfold eE
 split
 ·exact h
 exact h.enter ha hb
theorem nS (g : Gu) (a b : Nat) : (eE g a b).2.bud = g.bud ∧ (eE g a b).2.clock = g.clock := by unfold eE; split <;> exact ⟨rfl, rfl⟩
theorem Yq {g : Gu} {fr : List aC} {pg : List Pl} {e : Eff} (h : CpOk g.c) (he : EfOk e) (hF : cH fr) : CpOk (iW g fr pg e).1.2.c ∧ cH (iW g fr pg e).2 ∧ (iW g fr pg e).2.length = fr.length ∧ (iW g fr pg e).1.2.bud ≤ g.bud + 3 ∧ (iW g fr pg e).1.2.clock = g.clock := by
 unfold iW
 split
 ·unfold oZ
  split
  ·exact ⟨w5 h (dF _) he.addr, hF, rfl, by rw [(nS _ _ _).1]; exact Nat.le_refl _, (nS _ _ _).2⟩
  refine ⟨⟨h.r.set _ _ ?_, he.pc, h.cs⟩, hF, rfl, Nat.le_refl _, rfl⟩
  split
  ·exact XP (vU hF)
  exact vU hF
 split
 ·unfold p7
  split
  ·exact ⟨w5 h (dF _) he.addr, Il hF, Io, by rw [(nS _ _ _).1]; exact Nat.le_refl _, (nS _ _ _).2⟩
  exact ⟨⟨h.r, he.pc, h.cs⟩, Il hF, Io, Nat.le_refl _, rfl⟩
 split
 ·exact ⟨w5 h (by have := he.cause; omega) he.tval, hF, rfl, by rw [(nS _ _ _).1]; omega, (nS _ _ _).2⟩
 split; · exact ⟨⟨h.r, he.pc, h.cs⟩, hF, rfl, by show g.bud ≤ _; omega, rfl⟩
 split; · exact ⟨⟨h.r, he.pc, h.cs⟩, hF, rfl, by show g.bud ≤ _; omega, rfl⟩
 split; · exact ⟨h, hF, rfl, by show g.bud ≤ _; omega, rfl⟩
 exact ⟨h, hF, rfl, by show g.bud ≤ _; omega, rfl⟩
theorem Yr {i : Nat} {g : Gu} {fr : List aC} {pg : List Pl} (h : CpOk g.c) (hi : i < 4) (hF : cH fr) : CpOk (iE i g fr pg).1.2.c ∧ cH (iE i g fr pg).2 ∧ (iE i g fr pg).2.length = fr.length ∧ (iE i g fr pg).1.2.bud ≤ g.bud + 6 ∧ (iE i g fr pg).1.2.clock = g.clock := by
 unfold iE
 split
 ·exact ⟨w5 h (dF _) h.pc, hF, rfl, by rw [(nS _ _ _).1]; show g.bud + 3 ≤ _; omega, (nS _ _ _).2⟩
 split
 ·exact ⟨w5 h (by decide) (vU hF), hF, rfl, by rw [(nS _ _ _).1]; show g.bud + 3 ≤ _; omega, (nS _ _ _).2⟩
 have ho := Fc (id := i) (clock := gx g.clock) (i := g6 (nQ g fr pg g.c.pc 4 0)) h (F9 _).2.1 hi
 obtain ⟨h1, h2, h3, h4, h5⟩ := Yq (g := u9 (iD g) (m7 i (gx g.clock) (g6 (nQ g fr pg g.c.pc 4 0)) g.c).2) (fr := fr) (pg := pg) ho.2 ho.1 hF
 exact ⟨h1, h2, h3, by have h4 : _ ≤ g.bud + 3 + 3 := h4; omega, h5⟩
theorem Ys {g : Gu} (h : CpOk g.c) : CpOk (i9 g).2.c ∧ (i9 g).2.clock = g.clock ∧ (i9 g).2.bud = g.bud ∧ (i9 g).2.ln = g.ln ∧ (i9 g).2.tm = g.tm := by
 unfold i9
 split
 ·cases q : jx g.ls with
  | none => exact ⟨h, rfl, rfl, rfl, rfl⟩
  | some n =>
   have := (yP q).1
   exact ⟨h.enter (by omega) (by decide), rfl, rfl, rfl, rfl⟩
 exact ⟨h, rfl, rfl, rfl, rfl⟩
theorem Yt (g : Gu) : (jO g).ln ≤ g.ln + 1 := by
 have := Ck g.ls g.ln 7
 show (if _ then g.ln else kh g.ls g.ln 7) ≤ _
 split <;> omega
theorem w6 {i : Nat} {g : Gu} {fr : List aC} {pg : List Pl} (h : CpOk g.c) (hi : i < 4) (hF : cH fr) : CpOk (eS i g fr pg).1.2.c ∧ cH (eS i g fr pg).2 ∧ (eS i g fr pg).2.length = fr.length ∧ (eS i g fr pg).1.2.bud ≤ g.bud + 6 ∧ (eS i g fr pg).1.2.clock = g.clock + 1 ∧ (eS i g fr pg).1.2.ln ≤ g.ln + 1 ∧ (eS i g fr pg).1.2.tm.now = g.tm.now := by
 have hf := Yt (fX g)
 unfold eS
 split; · exact ⟨h, hF, rfl, by show g.bud ≤ _; omega, rfl, by show g.ln ≤ _; omega, rfl⟩
 have hI := Ys (g := jO (fX g)) h
 split
 ·exact ⟨hI.1, hF, rfl, by rw [hI.2.2.1]; show g.bud ≤ _; omega, by rw [hI.2.1], by rw [hI.2.2.2.1]; exact hf, by rw [hI.2.2.2.2]; rfl⟩
 obtain ⟨e1, e2, e3, e4, e5⟩ := Yr (i := i) (fr := fr) (pg := pg) hI.1 hi hF
 obtain ⟨k1, k2, k3⟩ := Iq i (i9 (jO (fX g))).2 fr pg
 exact ⟨e1, e2, e3, by rw [hI.2.2.1] at e4; exact e4, by rw [e5, hI.2.1], by rw [k2, hI.2.2.2.1]; exact hf, by rw [k3, hI.2.2.2.2]; rfl⟩
theorem GMem.saved {i : Nat} {fr fr' : List aC} {pg : List Pl} {po : Po} (h : GMem i ⟨fr, pg, po⟩) (hF : cH fr') (hl : fr'.length = fr.length) (hs : ∀ f : Nat, f < fr.length → (∀ t, aP pg t = true → (cm pg t).1 ≠ (f : Int)) → fr'.getD f [] = fr.getD f []) : GMem i ⟨fr', pg, po⟩ := by
 refine ⟨hF, h.po, h.pg, h.len.trans hl.symm, by show PlOk fr'.length pg; rw [hl]; exact h.pl, h.own, h.all, h.far, fun f hf e => ?_⟩
 have hfl : f < fr.length := by have := h.len; dsimp only at this hf; omega
 dsimp only
 rw [hs f hfl fun t q e2 => ?_]
 ·exact h.nul f hf e
 have h2 := q
 simp only [aP, Bool.and_eq_true] at h2
 obtain ⟨k, rfl, hk⟩ := jq h2.1
 rcases Nat.lt_or_ge k 8 with h8 | h8
 ·have := h.own k h8 q
  dsimp only at this e
  rw [e2, Int.toNat_natCast, e] at this
  have := (Prod.mk.inj this).2; cases this
 have := h.far k h8 q
 dsimp only at this e
 rw [e2, Int.toNat_natCast, e] at this
 exact this rfl
theorem IJ {fr : List aC} {a : Int} {o w : Int} {x f : Nat} (h : a ≠ (f : Int)) : (eK fr a o w x).getD f [] = fr.getD f [] := by
 unfold eK
 split
 ·rename_i q
  simp only [jo, Bool.and_eq_true] at q
  obtain ⟨k, rfl, hk⟩ := oo q.1
  rw [Int.toNat_natCast]
  exact z3 (fun e => h (by rw [e]))
 rfl
theorem Yu {fr : List aC} {pg : List Pl} {on : Bool} {root : Int} {user : Bool} {va : Nat} {w : Int} {x f : Nat} (h : ∀ t, aP pg t = true → (cm pg t).1 ≠ (f : Int)) : (lp fr pg on root user va w x).getD f [] = fr.getD f [] := by
 unfold lp
 split
 ·split
  ·rename_i q
   obtain ⟨pa, p1, p2, p3, p4, p5, p6⟩ := HK q
   rw [p5]
   exact IJ (h _ (HM p3))
  rfl
 rfl
theorem Yv {fr : List aC} {pg : List Pl} {pa : Nat} {w : Int} {x f : Nat} (h : ∀ t, aP pg t = true → (cm pg t).1 ≠ (f : Int)) : (jX fr pg pa w x).getD f [] = fr.getD f [] := by
 unfold jX
 split
 ·rename_i q
  exact IJ (h _ (HR q))
 rfl
theorem Yw {g : Gu} {fr : List aC} {pg : List Pl} {e : Eff} {f : Nat} (h : ∀ t, aP pg t = true → (cm pg t).1 ≠ (f : Int)) : (iW g fr pg e).2.getD f [] = fr.getD f [] := by
 unfold iW
 split; · rfl
 split; · exact Yu h
 split; · rfl
 split; · rfl
 split; · rfl
 split <;> rfl
theorem Yx {i : Nat} {g : Gu} {fr : List aC} {pg : List Pl} {f : Nat} (h : ∀ t, aP pg t = true → (cm pg t).1 ≠ (f : Int)) : (eS i g fr pg).2.getD f [] = fr.getD f [] := by
 unfold eS
 split; · rfl
 split; · rfl
 unfold iE
 split; · rfl
 split; · rfl
 exact Yw h
theorem GMem.step {i j : Nat} {x : Mm} {g : Gu} (h : GMem i x) (hc : CpOk g.c) (hj : j < 4) : GMem i ⟨(eS j g x.fr x.pg).2, x.pg, x.po⟩ := by
 obtain ⟨_, h2, h3, _⟩ := w6 (i := j) (pg := x.pg) hc hj h.fr
 exact GMem.saved (fr := x.fr) h h2 h3 fun f _ q => Yx q
theorem GMem.vsave {i : Nat} {x : Mm} {pa : Nat} {w : Int} {v : Nat} (h : GMem i x) : GMem i ⟨jX x.fr x.pg pa w v, x.pg, x.po⟩ :=
 GMem.saved (fr := x.fr) h (F4 h.fr).1 (F4 h.fr).2 fun f _ q => Yv q
theorem IK {B A R : List HP} : Ent (B ++ (A ++ R)) R := by
 rw [← List.append_assoc]
 exact (Ent.ofPerm List.perm_append_comm).trans ent_app
abbrev mI (c : Cfg) (i : Nat) (ws : List Nat) : Mm := lv c i ws (List.replicate (cF c) cI) (dQ c (cF c))
abbrev w7 (b1 b2 b3 : Nat) : Mm := mI (fk 2 0 b1 b2 b3) 0 [1310798, 40]
def zb (b1 b2 b3 : Nat) : (Int × Gu) × List aC := eS 0 g0 (w7 b1 b2 b3).fr (w7 b1 b2 b3).pg
def zc (b1 b2 b3 : Nat) : (Int × Gu) × List aC := eS 0 (zb b1 b2 b3).1.2 (zb b1 b2 b3).2 (w7 b1 b2 b3).pg
def w8 (b1 b2 b3 : Nat) : (Int × Gu) × List aC := eS 0 (zc b1 b2 b3).1.2 (zc b1 b2 b3).2 (w7 b1 b2 b3).pg
theorem Yy (b1 b2 b3 : Nat) : (zb b1 b2 b3).1.1 = 0 := by kernel_rfl
theorem Yz (b1 b2 b3 : Nat) : (zc b1 b2 b3).1.1 = 4 := by kernel_rfl
theorem YA (b1 b2 b3 : Nat) : (w8 b1 b2 b3).1.1 = 5 := by kernel_rfl
theorem YB (b1 b2 b3 : Nat) : (w8 b1 b2 b3).1.2.c.rl = [0, 5, 0, 0, 0, 0, 0, 0, 0, 0, 0, 0, 0, 0, 0, 0] := by kernel_rfl
theorem YC (b1 b2 b3 : Nat) : (w8 b1 b2 b3).1.2.c.pc = 8 := by kernel_rfl
theorem YD (b1 b2 b3 : Nat) : (w8 b1 b2 b3).1.2.clock = 3 := by kernel_rfl
theorem IL : CpOk g0.c := ⟨⟨rfl, fun x hx => by
 have := List.eq_of_mem_replicate hx
 omega⟩, by decide, ⟨rfl, by decide⟩⟩
theorem GOk.new {z : Gz} (hi : z.i < 4) : GOk z g0 0 := ⟨IL, hi, Nat.le_refl _, Nat.le_refl _, by decide, by decide⟩
theorem GOk.step {z : Gz} {g : Gu} {N : Nat} {fr : List aC} {pg : List Pl} (h : GOk z g N) (hF : cH fr) : GOk z (eS z.i g fr pg).1.2 (N + 1) := by
 obtain ⟨h1, _, _, h4, h5, h6, h7⟩ := w6 (i := z.i) (pg := pg) h.c h.i hF
 exact h.more h1 (by omega) h4 (by omega) (by omega)
theorem YE (hK : ∀ A, bG (aO W0 A) 1 0 gQ) (hH : ∀ A, bG (aO W0 A) 0 0 jv) : sQ W0 26 [] R (.bool true) R := by
 refine ai 7 func26 ntmps26 ?_
 refine aB rfl (aD call6 rfl (IF 0 0 (by decide) (by decide))) ?_
 rintro _ B_ ⟨b1, b2, b3, rfl, hB_⟩
 obtain rfl := hB_.symm
 rw [show lw 0 = 2 from rfl, show w3 0 0 = 0 from rfl]
 refine ax (jT qy bE a0i rfl rfl rfl rfl rfl (by decide) (by decide)) fun bw => ?_
 refine lz (b := bw) (o' := ac ([1310798, 40].flatMap i3) 37) rfl ?_
 refine II (fun v _ => v = .bool true) (fun v B hv => ⟨R, ⟨hv, rfl⟩, IK (A := [_, _, _, _])⟩) fun W hW => ?_
 have hrt := IE 2 (by decide) (by decide) 0 (by decide) (by decide) b1 b2 b3
 have hok : CfK W (fk 2 0 b1 b2 b3) := IG (hW.ent Ent.drop)
 have hws : ∀ A, cG (aO W A) (some ⟨bw, 0, none⟩) 1 i3 [1310798, 40] := tu hW (pG (b := bw) (fun _ => rfl) rfl)
 have hK1 := vl hW (hK _)
 have hH1 := vl hW (hH _)
 clear hW
 have hM := Cx hrt (i := 0) (show 0 < 2 by decide) [1310798, 40]
 refine aB rfl (aD call5 rfl (IH (fk 2 0 b1 b2 b3) hok hrt 0 (show 0 < 2 by decide) (some ⟨bw, 0, none⟩) 2 [1310798, 40] hws (by decide) (by decide) (by decide))) ?_
 rintro _ B_ ⟨gb, z, wg, wb, rfl, hz1, hz2, hz3, hB_⟩
 obtain rfl := hB_.symm
 have hg0 : GOk z g0 0 := GOk.new (by omega)
 obtain ⟨x, hx⟩ : ∃ x, w7 b1 b2 b3 = x := ⟨_, rfl⟩
 rw [show lv (fk 2 0 b1 b2 b3) 0 [1310798, 40] (List.replicate (cF (fk 2 0 b1 b2 b3)) cI) (dQ (fk 2 0 b1 b2 b3) (cF (fk 2 0 b1 b2 b3))) = x from hx] at hM ⊢
 obtain ⟨s1, hs1⟩ : ∃ s, eS z.i g0 x.fr x.pg = s := ⟨_, rfl⟩
 obtain ⟨s2, hs2⟩ : ∃ s, eS z.i s1.1.2 s1.2 x.pg = s := ⟨_, rfl⟩
 obtain ⟨s3, hs3⟩ : ∃ s, eS z.i s2.1.2 s2.2 x.pg = s := ⟨_, rfl⟩
 have e1 : s1 = zb b1 b2 b3 := by rw [← hs1, hz2, ← hx]; rfl
 have e2 : s2 = zc b1 b2 b3 := by rw [← hs2, hz2, e1, ← hx]; rfl
 have e3 : s3 = w8 b1 b2 b3 := by rw [← hs3, hz2, e2, ← hx]; rfl
 have k1 : s1.1.1 = 0 := by rw [e1]; exact Yy b1 b2 b3
 have k2 : s2.1.1 = 4 := by rw [e2]; exact Yz b1 b2 b3
 have k3 : s3.1.1 = 5 := by rw [e3]; exact YA b1 b2 b3
 have kr : s3.1.2.c.rl = [0, 5, 0, 0, 0, 0, 0, 0, 0, 0, 0, 0, 0, 0, 0, 0] := by rw [e3]; exact YB b1 b2 b3
 have kp : s3.1.2.c.pc = 8 := by rw [e3]; exact YC b1 b2 b3
 have kk : s3.1.2.clock = 3 := by rw [e3]; exact YD b1 b2 b3
 clear e1 e2 e3
 have hF1 : cH s1.2 := by rw [← hs1]; exact (w6 (i := z.i) (pg := x.pg) hg0.c (by omega) hM.fr).2.1
 have hg1 : GOk z s1.1.2 1 := by rw [← hs1]; exact hg0.step hM.fr
 have hF2 : cH s2.2 := by rw [← hs2]; exact (w6 (i := z.i) (pg := x.pg) hg1.c (by omega) hF1).2.1
 have hg2 : GOk z s2.1.2 2 := by rw [← hs2]; exact hg1.step hF1
 have hg3 : GOk z s3.1.2 3 := by rw [← hs3]; exact hg2.step hF2
 refine au 16 ?_
 refine cp rfl rfl rfl (fun g2_3 => ?_) fun g2_3 => ?_
 ·refine au 2 ?_
  refine aM (xM Ds rfl (yY W _ gb z g0 0 x.fr x.pg hK1 hH1 hg0 (by decide) hM.fr)) ?_
  rw [hs1, k1]
  refine au 4 ?_
  refine cp rfl rfl rfl (fun g2_8 => ?_) fun g2_8 => ?_
  ·refine au 2 ?_
   refine aM (xM Ds rfl (yY W _ gb z s1.1.2 1 s1.2 x.pg hK1 hH1 hg1 (by decide) hF1)) ?_
   rw [hs2, k2]
   refine au 4 ?_
   refine cp rfl rfl rfl (fun g2_13 => ?_) fun g2_13 => ?_
   ·refine au 2 ?_
    refine aM (xM Ds rfl (yY W _ gb z s2.1.2 2 s2.2 x.pg hK1 hH1 hg2 (by decide) hF2)) ?_
    rw [hs3, k3]
    refine au 4 ?_
    refine cp rfl rfl rfl (fun g2_18 => ?_) fun g2_18 => ?_
    ·refine au 2 ?_
     refine aM (cK Kw rfl (Cn W _ gb z s3.1.2 hg3.c.r.len)) ?_
     refine cP rfl rfl ?_
     refine a7 rfl (EX D6 bE ia rfl rfl rfl (by decide) (by rw [kr]; rfl)) ?_
     refine cP rfl rfl (a7 rfl (lY rfl rfl) (a7 rfl (kP rfl rfl) (a7 rfl (aH rfl) ?_)))
     refine cp rfl rfl rfl (fun g2_24 => ?_) fun g2_24 => ?_
     ·refine au 2 ?_
      refine aM (cK Kx rfl (Co W _ gb z s3.1.2 hg3.c.r.len)) ?_
      rw [kp]
      refine cP rfl rfl (a7 rfl (lY rfl rfl) (a7 rfl (kP rfl rfl) (a7 rfl (aH rfl) ?_)))
      refine cp rfl rfl rfl (fun g2_29 => ?_) fun g2_29 => ?_
      ·refine au 2 ?_
       refine aM (ao Dt rfl (z6 W _ gb z s3.1.2)) ?_
       rw [kk]
       refine au 7 ?_
       refine ae ?_
       exact ⟨_, rfl, ent_refl⟩
      first | exact absurd rfl g2_29 | exact absurd (by decide) g2_29 | simp at g2_29
     first | exact absurd rfl g2_24 | exact absurd (by decide) g2_24 | simp at g2_24
    first | exact absurd rfl g2_18 | exact absurd (by decide) g2_18 | simp at g2_18
   first | exact absurd rfl g2_13 | exact absurd (by decide) g2_13 | simp at g2_13
  first | exact absurd rfl g2_8 | exact absurd (by decide) g2_8 | simp at g2_8
 first | exact absurd rfl g2_3 | exact absurd (by decide) g2_3 | simp at g2_3
structure Ak where
  k : Int
  n : Int
  w : Nat
@[reducible] def ua (a : Ak) : List Value := [.int .i64 a.k, .int .i64 a.n, wV a.w]
abbrev IM (g : Gu) (n : Int) : Gu := { g with ls := if jc n then mP g.ls g.ln n.toNat else g.ls, ln := if jc n then kh g.ls g.ln n.toNat else g.ln }
abbrev IN (g : Gu) (n : Int) : Gu := { g with tm := tZ g.tm n }
abbrev IP (g : Gu) (n : Int) (w : Nat) : Gu := { g with c := ⟨if j9 n then kC g.c.rl n.toNat w else g.c.rl, g.c.pc, g.c.cs⟩ }
abbrev YF (x : Mm) (n : Int) (w : Nat) : Mm := ⟨jX x.fr x.pg (u32 n) 4 w, x.pg, x.po⟩
attribute [local irreducible] d6
def jd (x0 x : Mm) : Prop := x.po.length = x0.po.length ∧ ∀ f, (cD x.po f).1 = (cD x0.po f).1
theorem jd.rfl' (x : Mm) : jd x x := ⟨rfl, fun _ => rfl⟩
theorem jd.par {x0 x : Mm} {i : Nat} (h : jd x0 x) : p9 i x.po = p9 i x0.po := by
 unfold p9
 rw [h.1]
 exact congrArg List.length (List.filter_congr fun f _ => by rw [h.2 f])
theorem jd.set {x0 x : Mm} (h : jd x0 x) {f i : Nat} {b c : Bool} {fr : List aC} {pg : List Pl} (hf : f < x.po.length) (ho : cD x.po f = ((i : Int), b)) : jd x0 ⟨fr, pg, x.po.set f ((i : Int), c)⟩ := by
 refine ⟨by rw [List.length_set]; exact h.1, fun k => ?_⟩
 dsimp only
 rw [ir hf]
 split
 ·rename_i e; rw [e, ← h.2 f, ho]
 exact h.2 k
theorem jd.take {x0 x : Mm} (h : jd x0 x) {i : Nat} {p : Int} : jd x0 (mg i p x) := by
 unfold mg
 split
 ·cases e : bP x.po i with
  | nil => exact h
  | cons f l =>
   have hm := jr.1 (show f ∈ bP x.po i by rw [e]; simp)
   exact h.set hm.1 hm.2
 exact h
theorem YG (i : Nat) (p : Int) (x : Mm) : (mg i p x).fr = x.fr := by
 unfold mg
 split
 ·cases bP x.po i <;> rfl
 rfl
theorem jd.gave {x0 x : Mm} (h : jd x0 x) {i : Nat} {p : Int} (hM : GMem i x) : jd x0 (nR i p x) := by
 unfold nR
 split
 ·rename_i q
  simp only [Bool.and_eq_true] at q
  obtain ⟨n, rfl, hn⟩ := vX q.1
  obtain ⟨f, hf, hff, hfp⟩ := hM.at_ q.2
  have ho := hM.own n hn q.2
  rw [hf, Int.toNat_natCast] at ho
  rw [Int.toNat_natCast, mR, hf, Int.toNat_natCast]
  exact h.set hfp ho
 exact h
theorem jd.anew {x0 x : Mm} (h : jd x0 x) {i n : Nat} {ws : List Nat} (hM : GMem i x) (hi : i < 16) : jd x0 (p8 i n ws x) := by
 obtain ⟨h1, h2⟩ := z8 hM hi 8 (Nat.le_refl _)
 obtain ⟨h3, h4⟩ := w0 (who := i) (words := bC ws n) (x := ⟨(dx i 8 x).fr, (dx i 8 x).po, (dx i 8 x).pg⟩) n
 exact ⟨h3.trans (h1.trans h.1), fun f => (h4 f).trans ((h2 f).trans (h.2 f))⟩
theorem GOk.raise {z : Gz} {g : Gu} {N : Nat} (h : GOk z g N) (n : Int) : GOk z (IM g n) (N + 1) := by
 refine h.more h.c (Nat.le_succ _) (by show g.bud ≤ _; omega) ?_ (by show g.tm.now ≤ _; omega)
 have := Ck g.ls g.ln n.toNat
 show (if _ then kh g.ls g.ln n.toNat else g.ln) ≤ _
 split <;> omega
theorem GOk.arm {z : Gz} {g : Gu} {N : Nat} (h : GOk z g N) (n : Int) : GOk z (IN g n) (N + 1) := by
 refine h.more h.c (Nat.le_succ _) (by show g.bud ≤ _; omega) (by show g.ln ≤ _; omega) ?_
 show (tZ g.tm n).now ≤ _
 unfold tZ
 split
 ·split
  ·exact Int.le_refl _
  omega
 omega
theorem GOk.setr {z : Gz} {g : Gu} {N : Nat} (h : GOk z g N) (n : Int) {w : Nat} (hw : w < 4294967296) : GOk z (IP g n w) (N + 1) := by
 refine h.more ⟨?_, h.c.pc, h.c.cs⟩ (Nat.le_succ _) (by show g.bud ≤ _; omega) (by show g.ln ≤ _; omega) (by show g.tm.now ≤ _; omega)
 show RlOk (if j9 n then kC g.c.rl n.toNat w else g.c.rl)
 split
 ·exact h.c.r.set _ _ hw
 exact h.c.r
theorem GOk.answer {z : Gz} {g : Gu} {N e w : Nat} (h : GOk z g N) (he : e < 4294967296) (hw : w < 4294967296) : GOk z (Cm g e w) (N + 1) :=
 h.more ⟨Yp h.c.r he hw, by show d8 g.c.pc < _; unfold d8; exact dF _, h.c.cs⟩ (Nat.le_succ _) (by show g.bud ≤ _; omega) (by show g.ln ≤ _; omega) (by show g.tm.now ≤ _; omega)
theorem GOk.halt {z : Gz} {g : Gu} {N : Nat} (h : GOk z g N) (k : Int) (a b p : Nat) : GOk z (me (lu g) k a b p) (N + 1) :=
 h.more h.c (Nat.le_succ _) (by show g.bud ≤ _; omega) (by show g.ln ≤ _; omega) (by show g.tm.now ≤ _; omega)
theorem GOk.anew {z z' : Gz} {g : Gu} {N : Nat} (h : GOk z g N) (hi : z'.i < 4) : GOk z' (qt g) (N + 1) :=
 ⟨IL, hi, Nat.le_succ_of_le h.clk, Nat.zero_le _, by show (0 : Int) ≤ _; omega, by show (0 : Int) ≤ _; omega⟩
theorem w9 (g : Gu) (a b : Nat) : (eE g a b).1 ≠ 5 := by unfold eE; split <;> (dsimp only; decide)
theorem YH {i : Nat} {g : Gu} {fr : List aC} {pg : List Pl} (h : g.halted = false) : (eS i g fr pg).1.1 ≠ 5 := by
 unfold eS
 rw [h, if_neg (by decide)]
 split; · dsimp only; decide
 unfold iE
 split; · exact w9 _ _ _
 split; · exact w9 _ _ _
 unfold iW
 split
 ·unfold oZ
  split
  ·exact w9 _ _ _
  dsimp only; decide
 split
 ·unfold p7
  split
  ·exact w9 _ _ _
  dsimp only; decide
 split; · exact w9 _ _ _
 split; · dsimp only; decide
 split; · dsimp only; decide
 split <;> (dsimp only; decide)
theorem YI {i : Nat} {g : Gu} {fr : List aC} {pg : List Pl} (h : g.halted = true) : eS i g fr pg = ((5, fX g), fr) := by
 unfold eS
 rw [h, if_pos rfl]
theorem wa (g : Gu) (a b : Nat) : (eE g a b).2.qa = g.qa ∧ (eE g a b).2.qb = g.qb ∧ (eE g a b).2.qc = g.qc := by unfold eE; split <;> exact ⟨rfl, rfl, rfl⟩
theorem YJ {i : Nat} {g : Gu} {fr : List aC} {pg : List Pl} : (eS i g fr pg).1.2.qa = g.qa ∧ (eS i g fr pg).1.2.qb = g.qb ∧ (eS i g fr pg).1.2.qc = g.qc := by
 unfold eS
 split; · exact ⟨rfl, rfl, rfl⟩
 have hI : (i9 (jO (fX g))).2.qa = g.qa ∧ (i9 (jO (fX g))).2.qb = g.qb ∧ (i9 (jO (fX g))).2.qc = g.qc := by
  unfold i9
  split
  ·cases jx (jO (fX g)).ls <;> exact ⟨rfl, rfl, rfl⟩
  exact ⟨rfl, rfl, rfl⟩
 split; · exact hI
 generalize (i9 (jO (fX g))).2 = q at hI
 suffices h : (iE i q fr pg).1.2.qa = q.qa ∧ (iE i q fr pg).1.2.qb = q.qb ∧ (iE i q fr pg).1.2.qc = q.qc by rw [h.1, h.2.1, h.2.2]; exact hI
 unfold iE
 split; · exact wa _ _ _
 split; · exact wa _ _ _
 unfold iW
 split
 ·unfold oZ
  split
  ·exact wa _ _ _
  exact ⟨rfl, rfl, rfl⟩
 split
 ·unfold p7
  split
  ·exact wa _ _ _
  exact ⟨rfl, rfl, rfl⟩
 split; · exact wa _ _ _
 split; · exact ⟨rfl, rfl, rfl⟩
 split; · exact ⟨rfl, rfl, rfl⟩
 split <;> exact ⟨rfl, rfl, rfl⟩
theorem YK (c : Cfg) (i : Nat) (ws : List Nat) (fr : List aC) (po : Po) : jd ⟨fr, gn, po⟩ (lv c i ws fr po) := by
 obtain ⟨h1, h2⟩ := w0 (who := i) (words := bC ws (cQ c i).2.1.toNat) (x := ⟨fr, po, gn⟩) (cQ c i).2.1.toNat
 exact ⟨h1, h2⟩
theorem YL (b1 b2 b3 : Nat) (ws : List Nat) : p9 0 (mI (fk 5 2 b1 b2 b3) 0 ws).po = 7 ∧ 0 < (mI (fk 5 2 b1 b2 b3) 0 ws).po.length := by
 have h := YK (fk 5 2 b1 b2 b3) 0 ws (List.replicate (cF (fk 5 2 b1 b2 b3)) cI) (dQ (fk 5 2 b1 b2 b3) (cF (fk 5 2 b1 b2 b3)))
 have h1 : p9 0 (dQ (fk 5 2 b1 b2 b3) (cF (fk 5 2 b1 b2 b3))) = 7 := by kernel_rfl
 have h2 : (dQ (fk 5 2 b1 b2 b3) (cF (fk 5 2 b1 b2 b3))).length = 10 := by kernel_rfl
 exact ⟨h.par.trans h1, by rw [h.1, h2]; decide⟩
abbrev gW (gb wg : Nat) (z : Gz) (g : Gu) (x : Mm) (wl : List Nat) : List HP := gA gb z g x [cJ z.pb (z.ps, x.po), bu z.ps x.fr, pt wg (ac (wl.map wV) 37)]
structure GInv (c : Cfg) (wg : Nat) (wl : List Nat) (x0 : Mm) (N : Nat) (z : Gz) (g : Gu) (x : Mm) : Prop where
  c : z.c = c
  i : z.i = 0
  w : z.wv = .slice (some ⟨wg, 0, none⟩) wl.length wl.length
  ok : GOk z g N
  m : GMem z.i x
  s : jd x0 x
theorem YM (W0 : World) (hK : ∀ A, bG (aO W0 A) 1 0 gQ) (hH : ∀ A, bG (aO W0 A) 0 0 jv) (aw ab : Option Addr) (cw cb : Nat) (ws : List Nat) (as_ : List Ak) (hws : sy W0 aw 1 i3 ws) (hwb : ∀ y ∈ ws, y < 4294967296) (hwl : ws.length < 9223372036854775808) (hwc : ws.length ≤ cw) (has : sy W0 ab 3 ua as_) (hab : ∀ a ∈ as_, a.w < 4294967296) (hal : as_.length < 9223372036854775808) : sP W0 3 [.slice aw ws.length cw, .slice ab as_.length cb] [] (fun v B => v = .bool true) := by
 refine ai 7 Ky ntmps3 ?_
 refine aB rfl (aD call6 rfl (IF 3 2 (by decide) (by decide))) ?_
 rintro _ B_ ⟨b1, b2, b3, rfl, hB_⟩
 obtain rfl := hB_.symm
 rw [show lw 3 = 5 from rfl, show w3 3 2 = 2 from rfl]
 refine II (fun v _ => v = .bool true) (fun v B hv => ⟨[], hv, IK (A := [_, _, _])⟩) fun W hW => ?_
 have hrt := IE 5 (by decide) (by decide) 2 (by decide) (by decide) b1 b2 b3
 have hok : CfK W (fk 5 2 b1 b2 b3) := IG hW
 have hws1 : ∀ A, cG (aO W A) aw 1 i3 ws := tu hW (Ed hws)
 have has1 : ∀ A, cG (aO W A) ab 3 ua as_ := tu hW (Ed has)
 have hK1 := vl hW (hK _)
 have hH1 := vl hW (hH _)
 clear hW
 have hM := Cx hrt (i := 0) (show 0 < 2 by decide) ws
 obtain ⟨hpar, hpo⟩ := YL b1 b2 b3 ws
 have hgl : (cQ (fk 5 2 b1 b2 b3) 0).2.1 = ((5 : Nat) : Int) := rfl
 have hgn : 0 < (fk 5 2 b1 b2 b3).gl.length := by show 0 < 2; decide
 refine a7 rfl (aH rfl) (aB rfl (aD call5 rfl (IH (fk 5 2 b1 b2 b3) hok hrt 0 hgn aw cw ws hws1 hwb hwl hwc)) ?_)
 rintro _ B_ ⟨gb, z0, wg, wb, rfl, hz1, hz2, hz3, hB_⟩
 obtain rfl := hB_.symm
 have hwb8 : ∀ y ∈ bC ws 8, y < 4294967296 := fun y hy => hwb y (List.mem_of_mem_take hy)
 have hwl8 : (bC ws 8).length ≤ 128 := by rw [tx]; omega
 obtain ⟨x0, hx0⟩ : ∃ x, mI (fk 5 2 b1 b2 b3) 0 ws = x := ⟨_, rfl⟩
 obtain ⟨c0, hc0⟩ : ∃ c, fk 5 2 b1 b2 b3 = c := ⟨_, rfl⟩
 obtain ⟨wl, hwl0⟩ : ∃ l, bC ws 8 = l := ⟨_, rfl⟩
 rw [show lv (fk 5 2 b1 b2 b3) 0 ws (List.replicate (cF (fk 5 2 b1 b2 b3)) cI) (dQ (fk 5 2 b1 b2 b3) (cF (fk 5 2 b1 b2 b3))) = x0 from hx0] at hM ⊢
 rw [hx0] at hpar hpo
 rw [hc0] at hz1 hok hrt hgl hgn
 rw [hwl0] at hz3 hwb8 hwl8
 refine gD (B := gW gb wg z0 g0 x0 wl) (by rw [hwl0]; exact inferInstance) ?_
 have hI0 : GInv c0 wg wl x0 0 z0 g0 x0 := ⟨hz1, hz2, hz3, GOk.new (by omega), by rw [hz2]; exact hM, jd.rfl' x0⟩
 clear hx0 hc0 hwl0 hws1
 refine au 17 ?_
 refine bB rfl rfl rfl (fun g2_3 => ?_) fun g2_3 => ?_
 ·first | cases g2_3 | exact absurd g2_3 (by simp)
 refine au 6 ?_
 refine a8 rfl (fun c2 => ?_) fun c2 => ?_
 ·first | cases c2 | exact absurd c2 (by simp)
 refine au 2 ?_
 refine dU (fun _ : Unit => True) (fun _ => []) (fun _ => []) ?_ ?_
 ·skip
  refine au 6 ?_
  refine cY (fun Z : Nat × Gz × Gu × Mm => Z.1 ≤ 60 ∧ GInv c0 wg wl x0 Z.1 Z.2.1 Z.2.2.1 Z.2.2.2) (fun Z => [(1, .slice ab as_.length cb), (5, pV gb), (9, .int .i64 Z.1)]) (fun Z => gW gb wg Z.2.1 Z.2.2.1 Z.2.2.2 wl) (fun Z => 60 - Z.1) (0, z0, g0, x0) ?_ ?_
  ·exact ⟨Nat.zero_le _, hI0⟩
  intro ⟨k, z, g, x⟩ ⟨hk, hI⟩
  dsimp only at hk hI ⊢
  refine au 8 ?_
  refine cp rfl rfl rfl (fun g5_5 => ?_) fun g5_5 => ?_
  ·refine au 6 ?_
   refine a8 rfl (fun c5 => ?_) fun c5 => ?_
   ·refine au 5 ?_
    have hk1 : k < as_.length := by omega
    have hk60 : k < 60 := by omega
    obtain ⟨ga, o, hga, hc⟩ := (has1 []).at_ hk1
    obtain ⟨a, ha⟩ : ∃ a, as_[k] = a := ⟨_, rfl⟩
    have haw := hab _ (List.getElem_mem hk1)
    rw [ha] at hc haw
    have hi4 : z.i < 4 := hI.ok.i
    have hck := hI.ok.clk
    have hcln := hI.ok.ln
    have hctn := hI.ok.tn
    have hck9 : g.clock < 1000000000 := by omega
    have hrl : g.c.rl.length = 16 := hI.ok.c.r.len
    refine au 3 ?_
    refine a7 rfl (dW Jn Kz rfl hga rfl rfl hk1 (by first | exact Nat.zero_add _ | rfl)) ?_
    refine a7 rfl (b0 isAgg39 Kz rfl hc.weak rfl) ?_
    refine ax (aS zeroValue39) fun ba => ?_
    refine aE 5 (aF Kz rfl rfl rfl rfl rfl) ?_
    refine ar 6 (ao Dt rfl (z6 W _ gb z g)) ?_
    refine ar 6 (ao call8 rfl (Iy W _ gb z g)) ?_
    refine aM (cK Kw rfl (Cn W _ gb z g hrl)) ?_
    refine ax (aS JQ) fun br => ?_
    refine aE 5 (aF mW rfl rfl (by rw [List.length_map, hrl]) (y9 g.c.rl) rfl) ?_
    refine ar 4 (cK Kx rfl (Co W _ gb z g hrl)) ?_
    obtain ⟨st, hst⟩ : ∃ b, decide (a.k < 0 ∨ 7 < a.k ∧ a.k ≠ 9) = b := ⟨_, rfl⟩
    refine au 2 ?_
    refine aM (ao call11 rfl (Ix W _ gb z g)) ?_
    refine ar 3 (ao call12 rfl (Gi z.tr g.es)) ?_
    refine dU (fun _ : Unit => True) (fun _ => [(1, .slice ab as_.length cb), (5, pV gb), (9, .int .i64 k), (10, pV ba), (11, .int .i64 g.clock), (12, .bool g.halted), (13, pV br), (14, wV g.c.pc), (15, .int .i64 g.es.length), (16, .bool st)]) (fun _ => pt ba (ac (ua a) 39) :: pt br (ac (g.c.rl.map wV) 42) :: gW gb wg z g x wl) ?_ ?_
    ·skip
     refine au 5 ?_
     refine bB rfl rfl rfl (fun g13_4 => ?_) fun g13_4 => ?_
     ·obtain rfl : st = true := by rw [← hst]; exact decide_eq_true (by omega)
      refine au 11 ?_
      exact cj () trivial
     refine au 7 ?_
     refine cp rfl rfl rfl (fun g13_8 => ?_) fun g13_8 => ?_
     ·obtain rfl : st = (a.k != 9) := by rw [← hst, Bool.eq_iff_iff]; simp; omega
      refine au 11 ?_
      exact cj () trivial
     obtain rfl : st = false := by rw [← hst]; exact decide_eq_false (by omega)
     refine au 8 ?_
     exact cj () trivial
    intro _ _
    refine dU (fun Y : Gz × Gu × Mm => GInv c0 wg wl x0 (k + 1) Y.1 Y.2.1 Y.2.2 ∧ Y.2.1.clock = g.clock + (if st then 1 else 0)) (fun _ => [(1, .slice ab as_.length cb), (5, pV gb), (9, .int .i64 k), (11, .int .i64 g.clock), (16, .bool st)]) (fun Y => gW gb wg Y.1 Y.2.1 Y.2.2 wl) ?_ ?_
    ·skip
     refine au 13 ?_
     refine a8 rfl (fun c18 => ?_) fun c18 => ?_
     ·refine aU [(ba, 0, _)] 5 aT rfl (aa ag) (fun hS => ?_)
      refine ah 0 1 hS ?_
      refine ah 2 2 hS ?_
      refine bF 1 rfl rfl (ao call13 rfl (Yc W _ gb z g)) (aa ag) fun hS => ?_
      refine bF 4 rfl rfl (ao call14 rfl (I4 z.x.v g.ls g.ln a.n (by omega))) (aa ag) fun hS => ?_
      refine aK ?_
      refine au 2 ?_
      exact cj (z, IM g a.n, x) (⟨⟨hI.c, hI.i, hI.w, hI.ok.raise a.n, hI.m, hI.s⟩, by rw [← hst, decide_eq_false (by omega)]; rfl⟩)
     refine au 6 ?_
     refine a8 rfl (fun c20 => ?_) fun c20 => ?_
     ·refine au 4 ?_
      refine ar 3 (du call15 rfl (Ye W _ gb z g hi4 a.n x hI.m (by rw [hI.s.1]; exact hpo))) ?_
      refine cj (z, g, mg z.i a.n x) ?_ (he := ?_)
      ·exact ⟨⟨hI.c, hI.i, hI.w, hI.ok.le (Nat.le_succ k), hI.m.take (by omega), hI.s.take⟩, by rw [← hst, decide_eq_false (by omega)]; rfl⟩
      show Ent _ (gW gb wg z g (mg z.i a.n x) wl)
      unfold gW gA
      rw [YG]
      exact inferInstance
     refine au 6 ?_
     refine a8 rfl (fun c22 => ?_) fun c22 => ?_
     ·refine au 4 ?_
      refine ar 3 (kV call16 rfl (Yf W _ gb z g hi4 a.n x hI.m)) ?_
      exact cj (z, g, nR z.i a.n x) (⟨⟨hI.c, hI.i, hI.w, hI.ok.le (Nat.le_succ k), hI.m.gave (by omega), hI.s.gave hI.m⟩, by rw [← hst, decide_eq_false (by omega)]; rfl⟩)
     refine au 6 ?_
     refine a8 rfl (fun c24 => ?_) fun c24 => ?_
     ·refine au 2 ?_
      refine aB rfl (Eb call17 rfl (Yh W _ gb z g (by rw [hI.c]; exact hok) (by rw [hI.c]; exact hrt) (by rw [hI.c, hI.i]; exact hgn) hck9 x hI.m (by rw [hI.s.1]; exact hpo) 5 (by rw [hI.c, hI.i]; exact hgl) (by rw [hI.i, hI.s.par, hpar]; decide) (some ⟨wg, 0, none⟩) wl.length wl hI.w (by intro A hA; refine cG.weak (k := hA) ?_; exact pG (b := wg) (fun _ => rfl) (S8 wl).symm) hwb8 hwl8)) ?_
      rintro _ B_ ⟨y, q0, q1, q2, rfl, hB_⟩
      obtain rfl := hB_.symm
      refine au 3 ?_
      exact cj ({ z with x := y, q0 := q0, q1 := q1, q2 := q2 }, qt g, p8 z.i 5 wl x) (⟨⟨hI.c, hI.i, hI.w, hI.ok.anew hi4, hI.m.anew (by omega) (by decide) (by rw [hI.i, hI.s.par, hpar]; decide), hI.s.anew hI.m (by omega)⟩, by rw [← hst, decide_eq_false (by omega)]; rfl⟩)
     refine au 6 ?_
     refine a8 rfl (fun c26 => ?_) fun c26 => ?_
     ·refine au 2 ?_
      refine ar 3 (du call18 rfl (Y8 W _ gb z g hck9 hrl)) ?_
      exact cj (z, me (lu g) 4 0 0 g.c.pc, x) (⟨⟨hI.c, hI.i, hI.w, hI.ok.halt 4 0 0 g.c.pc, hI.m, hI.s⟩, by rw [← hst, decide_eq_false (by omega)]; rfl⟩)
     refine au 6 ?_
     refine a8 rfl (fun c28 => ?_) fun c28 => ?_
     ·refine au 4 ?_
      refine ar 3 (du call19 rfl (Y9 W _ gb z g hck9 hrl 0 a.w (by decide))) ?_
      exact cj (z, Cm g 0 a.w, x) (⟨⟨hI.c, hI.i, hI.w, hI.ok.answer (by decide) haw, hI.m, hI.s⟩, by rw [← hst, decide_eq_false (by omega)]; rfl⟩)
     refine au 6 ?_
     refine a8 rfl (fun c30 => ?_) fun c30 => ?_
     ·refine aU [(ba, 0, _)] 8 aT rfl (aa ag) (fun hS => ?_)
      refine ah 0 1 hS ?_
      refine ah 2 2 hS ?_
      refine av 4 rfl rfl rfl hS (cX cW dk rfl (eD _)) ?_
      refine ah 5 2 hS ?_
      refine bF 1 rfl rfl (ao call20 rfl (Yb W _ gb z g)) (aa ag) fun hS => ?_
      refine bF 7 rfl rfl (cK call21 rfl (WJ W _ z.x.m z.pv z.ps z.pm g.bud x.fr x.pg (u32 a.n) (dF _) 4 a.w haw)) (aa ag) fun hS => ?_
      refine aK ?_
      refine au 2 ?_
      exact cj (z, g, YF x a.n a.w) (⟨⟨hI.c, hI.i, hI.w, hI.ok.le (Nat.le_succ k), hI.m.vsave, hI.s⟩, by rw [← hst, decide_eq_false (by omega)]; rfl⟩)
     refine au 6 ?_
     refine a8 rfl (fun c32 => ?_) fun c32 => ?_
     ·refine aU [(ba, 0, _)] 5 aT rfl (aa ag) (fun hS => ?_)
      refine ah 0 1 hS ?_
      refine ah 2 2 hS ?_
      refine bF 1 rfl rfl (ao call22 rfl (Yd W _ gb z g)) (aa ag) fun hS => ?_
      refine bF 4 rfl rfl (ao call23 rfl (XL z.x.t g.tm a.n (by omega))) (aa ag) fun hS => ?_
      refine aK ?_
      refine au 2 ?_
      exact cj (z, IN g a.n, x) (⟨⟨hI.c, hI.i, hI.w, hI.ok.arm a.n, hI.m, hI.s⟩, by rw [← hst, decide_eq_false (by omega)]; rfl⟩)
     refine au 6 ?_
     refine a8 rfl (fun c34 => ?_) fun c34 => ?_
     ·refine au 6 ?_
      refine ar 3 (cK call24 rfl (Ya W _ gb z g hrl a.n a.w)) ?_
      exact cj (z, IP g a.n a.w, x) (⟨⟨hI.c, hI.i, hI.w, hI.ok.setr a.n haw, hI.m, hI.s⟩, by rw [← hst, decide_eq_false (by omega)]; rfl⟩)
     refine bD ?_
     have hst2 : st = true := by
      rw [← hst]
      refine decide_eq_true ?_
      omega
     obtain ⟨s, hs⟩ : ∃ s, eS z.i g x.fr x.pg = s := ⟨_, rfl⟩
     obtain ⟨hd, hhd⟩ : ∃ b, g.halted = b := ⟨_, rfl⟩
     have hs1 : hd = true → s = ((5, fX g), x.fr) := fun e => by rw [← hs]; exact YI (hhd.trans e)
     have hs2 : hd = false → s.1.1 ≠ 5 := fun e => by rw [← hs]; exact YH (hhd.trans e)
     have hsI : GInv c0 wg wl x0 (k + 1) z s.1.2 ⟨s.2, x.pg, x.po⟩ := ⟨hI.c, hI.i, hI.w, by rw [← hs]; exact hI.ok.step hI.m.fr, by rw [← hs]; exact hI.m.step hI.ok.c hi4, hI.s⟩
     have hq : s.1.2.qa = g.qa ∧ s.1.2.qb = g.qb ∧ s.1.2.qc = g.qc := by rw [← hs]; exact YJ
     have hsK : s.1.2.clock = g.clock + 1 := by rw [← hs]; exact (w6 (i := z.i) (pg := x.pg) hI.ok.c hi4 hI.m.fr).2.2.2.2.1
     rw [hhd]
     refine au 2 ?_
     refine aM (xM Ds rfl (yY W _ gb z g k x.fr x.pg hK1 hH1 hI.ok (by omega) hI.m.fr)) ?_
     rw [hs]
     refine au 4 ?_
     refine aU [(br, 0, _)] 37 aT rfl (aa ag) (fun hS => ?_)
     refine ah 0 2 hS ?_
     refine ip (t := 75) rfl ?_ ?_
     ·intro g16_2
      obtain rfl : hd = true := by simpa using g16_2
      obtain rfl := hs1 rfl
      refine ah 2 3 hS ?_
      refine ip (t := 78) rfl ?_ ?_
      ·intro g16_5
       exact absurd g16_5 (by simp)
      intro g16_5
      refine ah 5 1 hS ?_
      refine av 7 rfl rfl rfl hS (b0 D5 mW rfl (co (k := 0) rfl) (by rw [List.length_map, hrl])) ?_
      refine bF 6 rfl rfl (cK Kw rfl (Cn W _ gb z (fX g) hrl)) (aa ag) fun hS => ?_
      refine av 8 rfl rfl rfl hS (DG Tryz.eqGuardType42 rfl rfl (FU (i := Tryz.t37) (ms := g.c.rl.map Int.ofNat) (ns := g.c.rl.map Int.ofNat) D6 (by kernel_rfl) (by kernel_rfl) dk ia (by rw [List.map_map]; rfl) (by rw [List.map_map]; rfl) (by rw [List.length_map]; exact hrl) (by rw [List.length_map]; exact hrl))) ?_
      refine ah 9 2 hS ?_
      refine ip (t := 84) rfl ?_ ?_
      ·intro g16_11
       exact absurd g16_11 (by simp)
      intro g16_11
      refine ah 11 1 hS ?_
      refine ah 13 1 hS ?_
      refine bF 12 rfl rfl (cK Kx rfl (Co W _ gb z (fX g) hrl)) (aa ag) fun hS => ?_
      refine av 14 rfl rfl rfl hS (n1 rfl rfl) ?_
      refine av 15 rfl rfl rfl hS (iY rfl rfl) ?_
      refine av 16 rfl rfl rfl hS (aH rfl) ?_
      refine ip (t := 90) rfl ?_ ?_
      ·intro g16_17
       exact absurd g16_17 (by simp)
      intro g16_17
      refine ah 17 1 hS ?_
      refine ah 20 1 hS ?_
      refine bF 18 rfl rfl (ao call11 rfl (Ix W _ gb z (fX g))) (aa ag) fun hS => ?_
      refine bF 19 rfl rfl (ao call12 rfl (Gi z.tr g.es)) (aa ag) fun hS => ?_
      refine ah 21 3 hS ?_
      refine ip (t := 97) rfl ?_ ?_
      ·intro g16_24
       exact absurd g16_24 (by simp)
      intro g16_24
      refine ah 24 1 hS ?_
      refine bS 25 (by kernel_rfl) rfl rfl (ao call8 rfl (Iy W _ gb z (fX g))) rfl ?_; clear hS
      rintro _ B_ ⟨rfl, hB_⟩
      obtain rfl := hB_.symm
      rw [show (fX g).halted = true from hhd]
      refine ⟨(aa ag), fun hS => ?_⟩
      refine ah 26 4 hS ?_
      refine ip (t := 103) rfl ?_ ?_
      ·intro g16_30
       exact absurd g16_30 (by simp)
      intro g16_30
      refine ah 30 3 hS ?_
      refine ip (t := 106) rfl ?_ ?_
      ·intro g16_33
       exact absurd g16_33 (by simp)
      intro g16_33
      refine ah 33 4 hS ?_
      refine aK ?_
      refine au 5 ?_
      refine cj (z, fX g, ⟨x.fr, x.pg, x.po⟩) ?_ (he := ?_)
      ·exact ⟨hsI, by rw [hst2]; exact hsK⟩
      show Ent _ (gW gb wg z (fX g) ⟨x.fr, x.pg, x.po⟩ wl)
      exact inferInstance
     intro g16_2
     obtain rfl : hd = false := by simpa using g16_2
     have hs3 := hs2 rfl
     refine ah 2 31 hS ?_
     refine ip (t := 106) rfl ?_ ?_
     ·intro g16_33
      refine ah 33 4 hS ?_
      refine aK ?_
      refine aY ?_
      refine a8 rfl (fun c16 => ?_) fun c16 => ?_
      ·first | exact absurd c16 (by simp) | exact absurd c16 (by simp [hs3])
      refine au 3 ?_
      refine cj (z, s.1.2, ⟨s.2, x.pg, x.po⟩) ?_ (he := ?_)
      ·exact ⟨hsI, by rw [hst2]; exact hsK⟩
      show Ent _ (gW gb wg z s.1.2 ⟨s.2, x.pg, x.po⟩ wl)
      unfold gW gA
      rw [hq.1, hq.2.1, hq.2.2]
      exact inferInstance
     intro g16_33
     exact absurd g16_33 (by simp)
    intro ⟨z2, g2, x2⟩ ⟨hI2, hk2⟩
    dsimp only at hI2 hk2 ⊢
    have hc2 := hI2.ok.clk
    refine au 4 ?_
    refine cp rfl rfl rfl (fun g36_2 => ?_) fun g36_2 => ?_
    ·obtain rfl : st = true := by simpa using g36_2
     rw [if_pos rfl] at hk2
     refine au 2 ?_
     refine ar 3 (ao Dt rfl (z6 W _ gb z2 g2)) ?_
     refine ap 4 (bO rfl rfl (aG (by omega))) ?_
     refine bB rfl rfl rfl (fun g36_9 => ?_) fun g36_9 => ?_
     ·exfalso; omega
     refine au 5 ?_
     refine cp rfl rfl rfl (fun g36_12 => ?_) fun g36_12 => ?_
     ·exact absurd rfl g36_12
     refine au 14 ?_
     refine ap 3 (cM rfl rfl) ?_
     exact bZ (k + 1, z2, g2, x2) (⟨by omega, hI2⟩)
    obtain rfl : st = false := by simpa using g36_2
    rw [if_neg (by decide)] at hk2
    refine au 12 ?_
    refine cp rfl rfl rfl (fun g36_12 => ?_) fun g36_12 => ?_
    ·refine au 2 ?_
     refine ar 9 (ao Dt rfl (z6 W _ gb z2 g2)) ?_
     refine a8 rfl (fun c36 => ?_) fun c36 => ?_
     ·first | (exfalso; omega) | exact absurd c36 (by simp)
     refine au 5 ?_
     refine ap 3 (cM rfl rfl) ?_
     exact bZ (k + 1, z2, g2, x2) (⟨by omega, hI2⟩)
    simp at g36_12
   refine au 5 ?_
   exact cj () trivial
  refine au 10 ?_
  exact cj () trivial
 intro _ _
 refine au 2 ?_
 refine ar 4 (aD call26 rfl (YE hK1 hH1)) ?_
 refine ae ?_
 exact ⟨[], rfl, inferInstance⟩
end
section
open Go.ChangeShapes Go.WideShapes Go.ChangeAt Go.RowKit
set_option linter.unusedSimpArgs false
set_option linter.unusedVariables false
variable {W : World} {v : Value}
theorem YN {l : List Value} (h : l.length = 3) : ∃ a b c, l = [a, b, c] := by
 match l, h with
 | [a, b, c], _ => exact ⟨a, b, c, rfl⟩
theorem YO {fuel : Nat} {l : List Value} (h : j0 Tryz.prog W fuel 39 l) : ∃ x : Ak, l = ua x ∧ x.w < 4294967296 := by
 obtain ⟨hl, f', hf⟩ := OD ZU h
 obtain ⟨a, b, c, rfl⟩ := YN (hl.trans (by kernel_rfl))
 have h0 := hf _ (List.mem_cons_self ..)
 have h1 := hf _ (List.mem_cons_of_mem _ (List.mem_cons_self ..))
 have h2 := hf _ (List.mem_cons_of_mem _ (List.mem_cons_of_mem _ (List.mem_cons_self ..)))
 rw [show Tryz.prog.cellsOf 3 = 1 by kernel_rfl] at h0 h1
 rw [show Tryz.prog.cellsOf 37 = 1 by kernel_rfl] at h2
 obtain ⟨x0, e0, _⟩ := Ac cW h0
 obtain ⟨x1, e1, _⟩ := Ac cW h1
 obtain ⟨x2, e2, q2⟩ := F8 h2
 simp at e0 e1 e2
 exact ⟨⟨x0, x1, x2⟩, by rw [e0, e1, e2]; rfl, q2⟩
theorem YP (h : Ty Tryz.prog W 23 v) : ∃ a c, ∃ as_ : List Ak, v = .slice a as_.length c ∧ as_.length < 9223372036854775808 ∧ sy W a 3 ua as_ ∧ ∀ t ∈ as_, t.w < 4294967296 := by
 obtain ⟨a, c, xs, rfl, h1, h2, h3, h4⟩ := E4 (f := ua) (Q := fun t : Ak => t.w < 4294967296) 3 Jn (by kernel_rfl) (by decide) (fun fuel r h => YO h) h
 exact ⟨a, c, xs, rfl, by simp only [maxLen] at h2; omega, h3, h4⟩
theorem YQ {fuel : Nat} {l : List Value} (h : j0 Tryz.prog W fuel 37 l) : ∃ x : Nat, l = i3 x ∧ x < 4294967296 := by
 obtain ⟨x, rfl, hx⟩ := F8 h
 exact ⟨x, rfl, hx⟩
theorem YR (h : Ty Tryz.prog W 22 v) : ∃ a c xs, v = .slice a (List.length (α := Nat) xs) c ∧ xs.length < 9223372036854775808 ∧ xs.length ≤ c ∧ sy W a 1 i3 xs ∧ ∀ x ∈ xs, x < 4294967296 := by
 obtain ⟨a, c, xs, rfl, h1, h2, h3, h4⟩ := E4 (f := i3) (Q := fun x => x < 4294967296) 1 qy (by kernel_rfl) (by decide) (fun fuel r h => YQ h) h
 exact ⟨a, c, xs, rfl, by simp only [maxLen] at h2; omega, h1, h3, h4⟩
end
section
open Go.RowKit
section
variable {P : Program} {w : World} {enc : TypeId × Value → Unit} {base : Nat} {sp : Nat → Bool} {held : Bool}
theorem Cy {fuel : Nat} {t : TypeId} {cs : List Value} {a b : Int} {f0 f1 : Field} {p : List MemPlace} (hs : P.underlying t = some (.struct #[f0, f1])) (h0 : P.underlying f0.type = some (.int .i64)) (h1 : P.underlying f1.type = some (.int .i64)) (o0 : f0.offset = 0) (o1 : f1.offset = 1) (c0 : P.cellsOf f0.type = 1) (c1 : P.cellsOf f1.type = 1) (ct : P.cellsOf t = 2)
  (h : DataW.trod enc P w base sp held fuel t cs = some (.agg [.lit (.int .i64 a), .lit (.int .i64 b)], p)) : cs = [.int .i64 a, .int .i64 b] := by
 cases fuel with
 | zero => simp [DataW.trod] at h
 | succ fuel =>
  simp only [DataW.trod, hs] at h
  split at h
  ·rename_i hl
   rw [ct] at hl
   obtain ⟨xs, hm, hx⟩ := Option.map_eq_some_iff.1 h
   obtain ⟨y0, e0, g0⟩ := Go.Lib.mapM_at hm 0 f0 rfl
   obtain ⟨y1, e1, g1⟩ := Go.Lib.mapM_at hm 1 f1 rfl
   obtain ⟨z0, q0, rfl, _⟩ := DataW.trod_int h0 g0
   obtain ⟨z1, q1, rfl, _⟩ := DataW.trod_int h1 g1
   rw [o0, c0] at q0
   rw [o1, c1] at q1
   match cs, hl with
   | [u, v], _ =>
    simp at q0 q1
    have hxs := congrArg Prod.fst hx
    have hlen := Go.Lib.mapM_length hm
    match xs, hlen with
    | [x0, x1], _ =>
     simp at e0 e1
     subst e0; subst e1
     simp at hxs
     rw [q0, q1, hxs.1, hxs.2]
  cases h
theorem YS {fuel : Nat} {t e : TypeId} {cs : List Value} {f0 f1 : Field} {p : List MemPlace} (ht : P.underlying t = some (.array 3 e)) (hs : P.underlying e = some (.struct #[f0, f1])) (h0 : P.underlying f0.type = some (.int .i64)) (h1 : P.underlying f1.type = some (.int .i64)) (o0 : f0.offset = 0) (o1 : f1.offset = 1) (c0 : P.cellsOf f0.type = 1) (c1 : P.cellsOf f1.type = 1) (ce : P.cellsOf e = 2) (ct : P.cellsOf t = 6)
  (h : DataW.trod enc P w base sp held fuel t cs = some (.agg [.agg [.lit (.int .i64 0), .lit (.int .i64 4)], .agg [.lit (.int .i64 1), .lit (.int .i64 1)], .agg [.lit (.int .i64 2), .lit (.int .i64 2)]], p)) : cs = gQ := by
 cases fuel with
 | zero => simp [DataW.trod] at h
 | succ fuel =>
  simp only [DataW.trod, ht] at h
  split at h
  ·rename_i hl
   rw [ct] at hl
   obtain ⟨xs, hm, hx⟩ := Option.map_eq_some_iff.1 h
   obtain ⟨⟨d0, p0⟩, e0, g0⟩ := Go.Lib.mapM_at hm 0 0 rfl
   obtain ⟨⟨d1, p1⟩, e1, g1⟩ := Go.Lib.mapM_at hm 1 1 rfl
   obtain ⟨⟨d2, p2⟩, e2, g2⟩ := Go.Lib.mapM_at hm 2 2 rfl
   have hxs := congrArg Prod.fst hx
   have hlen := Go.Lib.mapM_length hm
   match xs, hlen with
   | [x0, x1, x2], _ =>
    simp at e0 e1 e2
    subst e0; subst e1; subst e2
    simp at hxs
    obtain ⟨rfl, rfl, rfl⟩ := hxs
    have r0 := Cy hs h0 h1 o0 o1 c0 c1 ce g0
    have r1 := Cy hs h0 h1 o0 o1 c0 c1 ce g1
    have r2 := Cy hs h0 h1 o0 o1 c0 c1 ce g2
    rw [ce] at r0 r1 r2
    match cs, hl with
    | [u0, u1, u2, u3, u4, u5], _ =>
     simp at r0 r1 r2
     rw [r0.1, r0.2, r1.1, r1.2, r2.1, r2.2]
     rfl
  cases h
end
theorem YT {W : World} {ps : List MemPlace} (h : DataW.LaidVars Tryz.prog W [("hermitage/mmu.kinds", (.agg [.agg [.lit (.int .i64 0), .lit (.int .i64 4)], .agg [.lit (.int .i64 1), .lit (.int .i64 1)], .agg [.lit (.int .i64 2), .lit (.int .i64 2)]] : DataW Unit))] ps) : ∀ A, bG (aO W A) 1 0 gQ := by
 obtain ⟨g', t', cs, fuel, p, q, hg', ht', hvar, hd, _, _⟩ := h
 have hg : Tryz.prog.globalNamed "hermitage/mmu.kinds" = some 1 := by kernel_rfl
 obtain rfl := Option.some.inj (hg.symm.trans hg')
 have hty : (Tryz.prog.globals[1]?).map (·.type) = some 491 := by kernel_rfl
 obtain rfl := Option.some.inj (hty.symm.trans ht')
 have hc : cs.toList = gQ := YS a0g a0b cW cW rfl rfl (by kernel_rfl) (by kernel_rfl) (by kernel_rfl) (by kernel_rfl) hd
 intro A i v hi
 refine uy ?_
 have := World.var?_cell hg hvar i
 rw [Nat.zero_add, this, ← Array.getElem?_toList, hc]; exact hi
section
variable {P : Program} {w : World} {enc : TypeId × Value → Unit} {base : Nat} {sp : Nat → Bool} {held : Bool}
theorem YU {fuel n : Nat} {t e : TypeId} {cs : List Value} {ls : List Nat} {p : List MemPlace} (ht : P.underlying t = some (.array n e)) (he : P.underlying e = some (.int .i64)) (ce : P.cellsOf e = 1) (ct : P.cellsOf t = n)
  (h : DataW.trod enc P w base sp held fuel t cs = some (.agg (ls.map fun z => .lit (.int .i64 ((z : Nat) : Int))), p)) : cs = ls.map fun z => .int .i64 ((z : Nat) : Int) := by
 cases fuel with
 | zero => simp [DataW.trod] at h
 | succ fuel =>
  simp only [DataW.trod, ht] at h
  split at h
  ·rename_i hl
   rw [ct] at hl
   obtain ⟨xs, hm, hx⟩ := Option.map_eq_some_iff.1 h
   have hxs : xs.map (·.1) = ls.map fun z => (.lit (.int .i64 ((z : Nat) : Int)) : DataW Unit) := by
    have := congrArg Prod.fst hx
    simpa using this
   have hlen := Go.Lib.mapM_length hm
   rw [List.length_range] at hlen
   have hll : ls.length = n := by
    have := congrArg List.length hxs
    simp at this; omega
   apply List.ext_getElem (by simp; omega)
   intro i h1 h2
   have hi : i < n := by omega
   obtain ⟨⟨d, q⟩, e0, g0⟩ := Go.Lib.mapM_at hm i i (by simp [hi])
   obtain ⟨m, q0, q1, _⟩ := DataW.trod_int he g0
   have h3 : (xs.map (·.1))[i]? = some d := by rw [List.getElem?_map, e0]; rfl
   rw [hxs, List.getElem?_map, List.getElem?_eq_getElem (show i < ls.length by omega)] at h3
   have h4 : d = .lit (.int .i64 m) := congrArg Prod.fst q1
   rw [h4] at h3
   simp at h3
   rw [ce, Nat.mul_one, List.drop_eq_getElem_cons h1] at q0
   rw [(List.cons.inj q0).1, List.getElem_map, h3]
  cases h
end
theorem YV {W : World} {ps : List MemPlace} {r : List (String × DataW Unit)} (h : DataW.LaidVars Tryz.prog W (("hermitage/isa.has", (.agg (uY.map fun z => .lit (.int .i64 ((z : Nat) : Int))) : DataW Unit)) :: r) ps) : (∀ A, bG (aO W A) 0 0 jv) ∧ ∃ q, DataW.LaidVars Tryz.prog W r q := by
 obtain ⟨g', t', cs, fuel, p, q, hg', ht', hvar, hd, hr, _⟩ := h
 refine ⟨?_, q, hr⟩
 have hg : Tryz.prog.globalNamed "hermitage/isa.has" = some 0 := by kernel_rfl
 obtain rfl := Option.some.inj (hg.symm.trans hg')
 have hty : (Tryz.prog.globals[0]?).map (·.type) = some 405 := by kernel_rfl
 obtain rfl := Option.some.inj (hty.symm.trans ht')
 have hc : cs.toList = jv := YU Kg cW (by kernel_rfl) (by kernel_rfl) hd
 intro A i v hi
 refine uy ?_
 have := World.var?_cell hg hvar i
 rw [Nat.zero_add, this, ← Array.getElem?_toList, hc]; exact hi
theorem YW {W : World} (h : laidMet Tryz.prog [("hermitage/isa.has", (.agg (uY.map fun z => .lit (.int .i64 ((z : Nat) : Int))) : DataW Unit)), ("hermitage/mmu.kinds", (.agg [.agg [.lit (.int .i64 0), .lit (.int .i64 4)], .agg [.lit (.int .i64 1), .lit (.int .i64 1)], .agg [.lit (.int .i64 2), .lit (.int .i64 2)]] : DataW Unit))] W) :
  (∀ A, bG (aO W A) 0 0 jv) ∧ ∀ A, bG (aO W A) 1 0 gQ := by
 obtain ⟨ps, h, _⟩ := h
 obtain ⟨h1, q, h2⟩ := YV h
 exact ⟨h1, YT h2⟩
end
end Go.Proofs.YtedopnjjkddhaaaGreatDoor
