/-
  Part 5 of the proof of GuestClock: rules, and walks of functions. Conditions: none.
-/
import Derived.Test.YtedopnjjkddhaaaGreatDoorGuestClockD
namespace Go.Proofs.YtedopnjjkddhaaaGreatDoor
open Go.Proofs.Tryz
set_option linter.unusedSimpArgs false
set_option linter.unusedVariables false
set_option maxRecDepth 20000
set_option linter.defProp false
set_option synthInstance.maxSize 8192
set_option synthInstance.maxHeartbeats 2000000
variable {W0 : World} {R : List HP}
section
open Go.RowKit
theorem He (l : List Ln) : l.flatMap rJ = (l.map Ln.k).flatMap fH := by rw [List.flatMap_map]
theorem MOk.drop {fr : List aC} {pg : List Pl} {d : Nat} {L : List Ln} {T : List It} (h : MOk fr pg d L T) (p : Ln → Bool) : MOk fr pg d (L.filter fun x => !p x) (lm ((L.filter p).map Ln.k) T) :=
 ⟨h.F, h.dl, h.P, h.pl, h.ti.drop p fun y hy => by
  obtain ⟨h1, h2⟩ := Hc hy
  exact ⟨h1, fun x hx hf e => h2 (List.mem_map.2 ⟨x, List.mem_filter.2 ⟨hx, hf⟩, e.symm⟩)⟩, fun x hx => h.ln x (List.mem_filter.1 hx).1⟩
theorem MOk.clean {fr : List aC} {pg : List Pl} {d : Nat} {L : List Ln} {T : List It} (h : MOk fr pg d L T) (hc : ∀ x ∈ L, ∀ n ∈ gH d 12, x.thr ((n : Nat) : Int) = false) : MOk fr pg 0 L T :=
 ⟨h.F, by decide, h.P, h.pl, h.ti, fun x hx => (h.ln x hx).clean (hc x hx)⟩
theorem Vl (l : List Nat) : sY l = l.flatMap fun n => [uV n] := by
 induction l with
 | nil => rfl
 | cons n l ih => rw [List.flatMap_cons, ← ih]; rfl
theorem Hf (bm pv bt bs ps pm d : Nat) (its : List It) (tr tw : Value) (now room : Nat) (T : List It) (L : List Ln) (hR : Rep its now T) (hT : T.length ≤ room) (hr : room ≤ 4) (hd : d < 4096) (I : List Ln → List It → Prop) (hIl : ∀ L T, I L T → L.length ≤ 1000) (hId : ∀ L T p, I L T → I (L.filter fun x => !p x) (lm ((L.filter p).map Ln.k) T)) (h : I L T) : sP W0 117 [.pointer (some ⟨bm, 0, none⟩)] (pt bm (cN pv bt bs) :: aQ bt (its, [tr, tw, .bool true]) :: bL bs L :: pt pv (cr ps pm d) :: R) (fun v B => v = .tuple #[] ∧ ∃ its' T' L', B = pt bm (cN pv bt bs) :: aQ bt (its', [tr, tw, .bool true]) :: bL bs L' :: pt pv (cr ps pm 0) :: R ∧ Rep its' now T' ∧ T'.length ≤ room ∧ I L' T' ∧ (∀ x ∈ L', ∀ n ∈ gH d 12, x.thr ((n : Nat) : Int) = false) ∧ (∀ x ∈ L', x ∈ L) ∧ (gH d 12 = [] → L' = L)) := by
 obtain ⟨ds, hds⟩ : ∃ l, gH d 12 = l := ⟨_, rfl⟩
 have hdl : ds.length ≤ 12 := by rw [← hds]; exact EV d 12
 refine ai 6 func117 ntmps117 ?_
 refine aB rfl (ao call56 rfl (EW pv ps pm d hd)) ?_
 rintro _ B_ ⟨ad, cd, rfl, hB_⟩
 subst hB_
 rw [hds]
 refine au 5 ?_
 refine cY (fun X : Nat × List It × List It × List Ln => X.1 ≤ ds.length ∧ Rep X.2.1 now X.2.2.1 ∧ X.2.2.1.length ≤ room ∧ I X.2.2.2 X.2.2.1 ∧ (∀ x ∈ X.2.2.2, ∀ n ∈ ds.take X.1, x.thr ((n : Nat) : Int) = false) ∧ (∀ x ∈ X.2.2.2, x ∈ L) ∧ (X.1 = 0 → X.2.2.2 = L)) (fun X => [(0, .pointer (some ⟨bm, 0, none⟩)), (8, .slice ad ds.length cd), (9, .int .i64 (ds.length : Nat)), (10, .int .i64 X.1)]) (fun X => pt bm (cN pv bt bs) :: aQ bt (X.2.1, [tr, tw, .bool true]) :: bL bs X.2.2.2 :: pt pv (cr ps pm 0) :: osl 3 1 (.slice ad ds.length cd) (sY ds) :: R) (fun X => ds.length - X.1) (0, its, T, L) ?_ ?_
 ·exact ⟨Nat.zero_le _, hR, hT, h, fun x _ n hn => by simp at hn, fun x hx => hx, fun _ => rfl⟩
 intro ⟨i, its1, T1, L1⟩ ⟨hi, hR1, hT1, h1, hc1, hs1, hz1⟩
 dsimp only at hi hR1 hT1 h1 hc1 hs1 hz1 ⊢
 refine au 6 ?_
 refine a8 rfl (fun c1 => ?_) fun c1 => ?_
 ·refine au 5 ?_
  have hi1 : i < ds.length := by omega
  refine lB (E := 3) (sz := 1) (a := ad) (c := cd) (n := ds.length) (fun n => [uV n]) ds (fun _ => rfl) (by decide) (Vl ds) (fun hs => ?_)
  obtain ⟨g, o, hga, hc⟩ := hs.at_ hi1
  obtain ⟨q, hq⟩ : ∃ q, ds[i] = q := ⟨_, rfl⟩
  have htk : ds.take (i + 1) = ds.take i ++ [q] := by rw [List.take_succ_eq_append_getElem hi1, hq]
  have hll := hIl L1 T1 h1
  obtain ⟨ks, hks⟩ : ∃ ks, (L1.filter fun x => x.thr (q : Int)).map Ln.k = ks := ⟨_, rfl⟩
  have hkl : (L1.filter fun x => x.thr (q : Int)).length = ks.length := by rw [← hks, List.length_map]
  have hkn : ks.length ≤ 1000 := by rw [← hkl]; exact Nat.le_trans (List.length_filter_le _ _) (by omega)
  have hdr := hId L1 T1 (fun x => x.thr (q : Int)) h1
  rw [hks] at hdr
  rw [hq] at hc
  refine bQ ?_
  refine a7 rfl (dW dB aj rfl hga rfl rfl hi1 (by first | exact Nat.zero_add _ | rfl)) ?_
  refine ap 10 (aA aX rfl (bG.weak hc 0 _ rfl)) ?_
  refine aB rfl (ao call191 rfl (UU bs L1 (by omega) (q : Int))) ?_
  rintro _ B_ ⟨aw, cw, rfl, hB_⟩
  subst hB_
  rw [He, hks, hkl]
  refine aB rfl (du call118 rfl (Hd bm pv bt bs its1 tr tw now T1 hR1 (by omega) aw cw ks hkn)) ?_
  rintro _ B_ ⟨rfl, its2, hB_, hR2⟩
  subst hB_
  refine au 4 ?_
  refine ap 3 (cM rfl rfl) ?_
  refine bZ (i + 1, its2, lm ks T1, L1.filter fun x => !x.thr (q : Int)) ?_
  ·refine ⟨by omega, hR2, Nat.le_trans BW hT1, hdr, fun x hx n hn => ?_, fun x hx => hs1 x (List.mem_filter.1 hx).1, fun q => absurd q (Nat.succ_ne_zero _)⟩
   obtain ⟨hx1, hx2⟩ := List.mem_filter.1 hx
   dsimp only at hn
   rw [htk] at hn
   rcases List.mem_append.1 hn with z | z
   ·exact hc1 x hx1 n z
   obtain rfl : n = q := by simpa using z
   simpa using hx2
 refine au 4 ?_
 refine bT (.inr rfl) .nil ?_
 obtain rfl : i = ds.length := by omega
 rw [List.take_length] at hc1
 exact ⟨_, ⟨rfl, its1, T1, L1, rfl, hR1, hT1, h1, hc1, hs1, fun q => hz1 (by rw [q]; rfl)⟩, inferInstance⟩
theorem Hg (bm pv bt bs ps pm d : Nat) (its : List It) (tr tw : Value) (now room : Nat) (T : List It) (L : List Ln) (fr : List aC) (pg : List Pl) (hR : Rep its now T) (hT : T.length ≤ room) (hr : room ≤ 4) (h : MOk fr pg d L T) : sP W0 117 [.pointer (some ⟨bm, 0, none⟩)] (pt bm (cN pv bt bs) :: aQ bt (its, [tr, tw, .bool true]) :: bL bs L :: pt pv (cr ps pm d) :: R) (fun v B => v = .tuple #[] ∧ ∃ its' T' L', B = pt bm (cN pv bt bs) :: aQ bt (its', [tr, tw, .bool true]) :: bL bs L' :: pt pv (cr ps pm 0) :: R ∧ Rep its' now T' ∧ T'.length ≤ room ∧ MOk fr pg 0 L' T' ∧ (∀ x ∈ L', x ∈ L) ∧ (gH d 12 = [] → L' = L)) :=
 hJ (Hf bm pv bt bs ps pm d its tr tw now room T L hR hT hr h.dl (MOk fr pg d) (fun L T h => Nat.le_trans h.ti.len (by decide)) (fun L T p h => h.drop p) h) fun v B hB => by
  obtain ⟨rfl, its1, T1, L1, rfl, h1, h2, h3, h4, h5⟩ := hB
  exact ⟨_, ⟨rfl, its1, T1, L1, rfl, h1, h2, h3.clean h4, h5⟩, ent_refl⟩
def kg : Option Ln → iA
  | none => (0, 0, 0)
  | some x => x.e
theorem qi (k : cT) (L : List Ln) : vH k L = .tuple #[.agg (mb (kg (ja k L))).toArray, .bool (ja k L).isSome] := by
 unfold vH
 cases ja k L <;> rfl
theorem TI.sub' {L : List Ln} {T T' : List It} (h : TI L T) (hs : ∀ y ∈ T', y ∈ T) : TI L T' := ⟨h.keys, h.len, h.nowr, fun y hy => h.sub y (hs y hy)⟩
theorem BX (bm pv bt bs : Nat) (its : List It) (tr tw : Value) (now room : Nat) (T : List It) (L : List Ln) (hR : Rep its now T) (hT : T.length ≤ room) (hr : room ≤ 4) (hl : L.length ≤ 32) : sP W0 385 [.pointer (some ⟨bm, 0, none⟩)] (pt bm (cN pv bt bs) :: aQ bt (its, [tr, tw, .bool true]) :: bL bs L :: R) (fun v B => v = .tuple #[] ∧ ∃ its' T', B = pt bm (cN pv bt bs) :: aQ bt (its', [tr, tw, .bool true]) :: bL bs L :: R ∧ Rep its' now T' ∧ T'.length ≤ room ∧ ∀ y ∈ T', y ∈ T ∧ (ja y.key L).isSome = true) := by
 refine ai 6 func385 ntmps385 ?_
 refine aB rfl (ao call407 rfl (UT bt its tr tw now T hR (by omega))) ?_
 rintro _ B_ ⟨ad, cd, rfl, hB_⟩
 subst hB_
 refine au 5 ?_
 refine cY (fun X : Nat × List It × List It => X.1 ≤ T.length ∧ Rep X.2.1 now X.2.2 ∧ X.2.2.length ≤ room ∧ ∀ y ∈ X.2.2, y ∈ T ∧ (y ∈ T.take X.1 → (ja y.key L).isSome = true)) (fun X => [(0, .pointer (some ⟨bm, 0, none⟩)), (10, .slice ad T.length cd), (11, .int .i64 (T.length : Nat)), (12, .int .i64 X.1)]) (fun X => pt bm (cN pv bt bs) :: aQ bt (X.2.1, [tr, tw, .bool true]) :: bL bs L :: osl 321 5 (.slice ad T.length cd) (T.flatMap rL) :: R) (fun X => T.length - X.1) (0, its, T) ?_ ?_
 ·exact ⟨Nat.zero_le _, hR, hT, fun y hy => ⟨hy, fun q => by simp at q⟩⟩
 intro ⟨i, its1, T1⟩ ⟨hi, hR1, hT1, hI⟩
 dsimp only at hi hR1 hT1 hI ⊢
 refine au 6 ?_
 refine a8 rfl (fun c1 => ?_) fun c1 => ?_
 ·refine au 2 ?_
  refine dU (fun X : List It × List It => Rep X.1 now X.2 ∧ X.2.length ≤ room ∧ ∀ y ∈ X.2, y ∈ T ∧ (y ∈ T.take (i + 1) → (ja y.key L).isSome = true)) (fun X => [(0, .pointer (some ⟨bm, 0, none⟩)), (10, .slice ad T.length cd), (11, .int .i64 (T.length : Nat)), (12, .int .i64 i)]) (fun X => pt bm (cN pv bt bs) :: aQ bt (X.1, [tr, tw, .bool true]) :: bL bs L :: osl 321 5 (.slice ad T.length cd) (T.flatMap rL) :: R) ?_ ?_
  ·skip
   refine au 2 ?_
   have hi1 : i < T.length := by omega
   refine lB (E := 321) (sz := 5) (a := ad) (c := cd) (n := T.length) rL T US (by decide) rfl (fun hs => ?_)
   obtain ⟨g, o, hga, hc⟩ := hs.at_ hi1
   obtain ⟨x, hx⟩ : ∃ x, T[i] = x := ⟨_, rfl⟩
   have htk : T.take (i + 1) = T.take i ++ [x] := by rw [List.take_succ_eq_append_getElem hi1, hx]
   rw [hx] at hc
   obtain ⟨gt, hgt⟩ : ∃ o, ja x.key L = o := ⟨_, rfl⟩
   refine bQ ?_
   refine a7 rfl (dW CK mT rfl hga rfl rfl hi1 (by first | exact Nat.zero_add _ | rfl)) ?_
   refine a7 rfl (b0 isAgg321 mT rfl hc.weak rfl) ?_
   refine ax (aS Db) fun bk => ?_
   refine aE 3 (aF mT rfl rfl rfl rfl rfl) ?_
   refine aU [(bm, 0, _), (bk, 0, _)] 13 aT rfl (aa (aa ag)) (fun hS => ?_)
   refine ah 0 5 hS ?_
   refine av 5 rfl rfl rfl hS (b0 jP g8 rfl (vG (us := fH x.key) (ws := [.int .i64 x.ep, .int .i64 x.ef, .int .i64 x.er]) (co (k := 1) rfl) rfl) rfl) ?_
   refine eJ (is := [6, 10]) (by kernel_rfl) rfl ⟨?_, ?_, trivial⟩
   ·skip
    refine cV rfl rfl (ao s5 rfl (qg bs L (by omega) x.key)) rfl ?_; clear hS
    rintro _ B_ ⟨rfl, hB_⟩
    subst hB_
    rw [qi, hgt]
    refine ⟨(aa (aa ag)), fun hS => ?_⟩
    refine ah 7 3 hS ?_
    refine bS 10 (by kernel_rfl) rfl rfl (aS ji) rfl ?_; clear hS
    rintro _ _ ⟨b2, rfl, rfl⟩
    refine ⟨(aa (aa ag)), fun hS => ?_⟩
    refine bU 11 rfl rfl (aF dX rfl rfl rfl rfl rfl) (aa (aa ag)) fun hS => ?_
    refine ah 12 1 hS ?_
    refine aK ?_
    refine au 7 ?_
    refine a8 rfl (fun c4 => ?_) fun c4 => ?_
    ·refine aU [(bm, 0, _), (bk, 0, _)] 7 aT rfl (aa (aa ag)) (fun hS => ?_)
     refine ah 0 5 hS ?_
     refine av 5 rfl rfl rfl hS (b0 jP g8 rfl (vG (us := fH x.key) (ws := [.int .i64 x.ep, .int .i64 x.ef, .int .i64 x.er]) (co (k := 1) rfl) rfl) rfl) ?_
     refine bS 6 (by kernel_rfl) rfl rfl (ao Kd rfl (BH bt its1 tr now T1 x.key hR1 (by omega) tw)) rfl ?_; clear hS
     rintro _ B_ ⟨rfl, its2, hB_, hR2⟩
     subst hB_
     refine ⟨(aa (aa ag)), fun hS => ?_⟩
     refine aK ?_
     refine au 2 ?_
     refine cj (its2, i4 x.key T1) ?_
     ·refine ⟨hR2, Nat.le_trans (yp _ _) hT1, fun y hy => ?_⟩
      obtain ⟨h1, h2⟩ := qe.1 hy
      refine ⟨(hI y h1).1, fun q => ?_⟩
      rw [htk] at q
      rcases List.mem_append.1 q with z | z
      ·exact (hI y h1).2 z
      obtain rfl : y = x := by simpa using z
      exact absurd rfl h2
    refine au 3 ?_
    refine cj (its1, T1) ?_
    ·refine ⟨hR1, hT1, fun y hy => ⟨(hI y hy).1, fun q => ?_⟩⟩
     rw [htk] at q
     rcases List.mem_append.1 q with z | z
     ·exact (hI y hy).2 z
     obtain rfl : y = x := by simpa using z
     rw [hgt]; first | exact Decidable.not_not.1 c4 | (cases gt <;> simp_all)
   skip
   refine cV rfl rfl (aS ji) rfl ?_; clear hS
   rintro _ _ ⟨b2, rfl, rfl⟩
   refine ⟨(aa (aa ag)), fun hS => ?_⟩
   refine bS 6 (by kernel_rfl) rfl rfl (ao s5 rfl (qg bs L (by omega) x.key)) rfl ?_; clear hS
   rintro _ B_ ⟨rfl, hB_⟩
   subst hB_
   rw [qi, hgt]
   refine ⟨(aa (aa ag)), fun hS => ?_⟩
   refine ah 7 3 hS ?_
   refine bU 11 rfl rfl (aF dX rfl rfl rfl rfl rfl) (aa (aa ag)) fun hS => ?_
   refine ah 12 1 hS ?_
   refine aK ?_
   refine au 7 ?_
   refine a8 rfl (fun c4 => ?_) fun c4 => ?_
   ·refine aU [(bm, 0, _), (bk, 0, _)] 7 aT rfl (aa (aa ag)) (fun hS => ?_)
    refine ah 0 5 hS ?_
    refine av 5 rfl rfl rfl hS (b0 jP g8 rfl (vG (us := fH x.key) (ws := [.int .i64 x.ep, .int .i64 x.ef, .int .i64 x.er]) (co (k := 1) rfl) rfl) rfl) ?_
    refine bS 6 (by kernel_rfl) rfl rfl (ao Kd rfl (BH bt its1 tr now T1 x.key hR1 (by omega) tw)) rfl ?_; clear hS
    rintro _ B_ ⟨rfl, its2, hB_, hR2⟩
    subst hB_
    refine ⟨(aa (aa ag)), fun hS => ?_⟩
    refine aK ?_
    refine au 2 ?_
    refine cj (its2, i4 x.key T1) ?_
    ·refine ⟨hR2, Nat.le_trans (yp _ _) hT1, fun y hy => ?_⟩
     obtain ⟨h1, h2⟩ := qe.1 hy
     refine ⟨(hI y h1).1, fun q => ?_⟩
     rw [htk] at q
     rcases List.mem_append.1 q with z | z
     ·exact (hI y h1).2 z
     obtain rfl : y = x := by simpa using z
     exact absurd rfl h2
   refine au 3 ?_
   refine cj (its1, T1) ?_
   ·refine ⟨hR1, hT1, fun y hy => ⟨(hI y hy).1, fun q => ?_⟩⟩
    rw [htk] at q
    rcases List.mem_append.1 q with z | z
    ·exact (hI y hy).2 z
    obtain rfl : y = x := by simpa using z
    rw [hgt]; first | exact Decidable.not_not.1 c4 | (cases gt <;> simp_all)
  intro ⟨its2, T2⟩ ⟨hR2, hT2, hI2⟩
  refine bQ (ap 3 (cM rfl rfl) ?_)
  exact bZ (i + 1, its2, T2) (⟨by omega, hR2, hT2, hI2⟩)
 refine au 4 ?_
 refine bT (.inr rfl) .nil ?_
 obtain rfl : i = T.length := by omega
 rw [List.take_length] at hI
 exact ⟨_, ⟨rfl, its1, T1, rfl, hR1, hT1, fun y hy => ⟨(hI y hy).1, (hI y hy).2 (hI y hy).1⟩⟩, inferInstance⟩
def nM : Option It → iA
  | none => (0, 0, 0)
  | some y => y.ent
theorem BY (k : cT) (T : List It) : vB k T = .tuple #[.agg (mb (nM (lj k T))).toArray, .bool (lj k T).isSome] := by
 unfold vB
 cases lj k T <;> rfl
def oP : Option Ln → Int
  | none => 0
  | some x => x.e.1
def oF : Option Ln → Int
  | none => 0
  | some x => x.e.2.1
def oO (o : Option Ln) (va : Nat) : Nat := match o with
  | none => 0
  | some _ => va % 64
@[reducible] def BZ (o : Option Ln) (va : Nat) : List Value := [.int .i64 (oP o), .int .i64 (oF o), .int .i64 (oO o va : Nat), .bool o.isSome]
def C0 (L : List Ln) (k : cT) (kind : Int) (user : Bool) (o : Option Ln) : Prop := ∀ x, o = some x → x ∈ L ∧ x.k = k ∧ kf x.e kind user = true
theorem Vm (ba bm pv bt bs : Nat) (on : Bool) (root : Int) (user : Bool) (va : Nat) (hva : va < 4294967296) (kind : Int) (its : List It) (room now : Nat) (T : List It) (L : List Ln) (hR : Rep its now T) (hT : T.length ≤ room) (hr : room ≤ 4) (hn : now < 1000000) (hi : TI L T) : sP W0 280 [.pointer (some ⟨ba, 0, none⟩)] (pt ba (gO bm on root user va kind) :: pt bm (cN pv bt bs) :: aQ bt (its, d3 room now) :: bL bs L :: R) (fun v B => ∃ o its' T' now', v = .tuple #[.agg (BZ o va).toArray, .bool o.isSome] ∧ C0 L (dw root va) kind user o ∧ Rep its' now' T' ∧ T'.length ≤ room ∧ TI L T' ∧ now' ≤ now + 1 ∧ B = pt ba (gO bm on root user va kind) :: pt bm (cN pv bt bs) :: aQ bt (its', d3 room now') :: bL bs L :: R) := by
 obtain ⟨y, hy⟩ : ∃ y, lj (dw root va) T = y := ⟨_, rfl⟩
 have hgl := U8 (now := now) (k := dw root va) (L := T)
 have htg := hi.getT now (dw root va)
 refine ai 2 func280 ntmps280 ?_
 refine ax (aS ez) fun b2 => ?_
 refine au 4 ?_
 refine aU [(ba, 0, _), (bm, 0, _)] 16 aT rfl (aa (aa ag)) (fun hS => ?_)
 refine ah 0 8 hS ?_
 refine eJ (is := [8, 13]) (by kernel_rfl) rfl ⟨?_, ?_, trivial⟩
 ·skip
  refine cV rfl rfl (ao mo rfl (lQ ba bm on root user va hva kind)) rfl ?_; clear hS
  rintro _ B_ ⟨rfl, hB_⟩
  obtain rfl := hB_.symm
  refine ⟨(aa (aa ag)), fun hS => ?_⟩
  refine eJ (is := [9, 13]) (by kernel_rfl) rfl ⟨?_, ?_, trivial⟩
  ·skip
   refine cV rfl rfl (ao Ke rfl (BG bt its room now T (dw root va) hR hT hr hn)) rfl ?_; clear hS
   rintro _ B_ ⟨rfl, its2, now2, hn2, hB_, hR2⟩
   subst hB_
   rw [BY, hy]
   refine ⟨(aa (aa ag)), fun hS => ?_⟩
   refine ah 10 3 hS ?_
   refine bS 13 (by kernel_rfl) rfl rfl (aS ji) rfl ?_; clear hS
   rintro _ _ ⟨b4, rfl, rfl⟩
   refine ⟨(aa (aa ag)), fun hS => ?_⟩
   refine bU 14 rfl rfl (aF dX rfl rfl rfl rfl rfl) (aa (aa ag)) fun hS => ?_
   refine ah 15 1 hS ?_
   refine aK ?_
   refine au 7 ?_
   refine bB rfl rfl rfl (fun g2_3 => ?_) fun g2_3 => ?_
   ·refine au 9 ?_
    refine a7 rfl (bq ib ez (am aj (am aj (am aj (am bI bj)))) bi) ?_
    refine aE 5 (aF cB rfl rfl rfl rfl rfl) ?_
    refine bY (.cons (cg ew cB rfl rfl) (.cons (bK rfl) .nil)) ?_
    exact ⟨_, ⟨none, its2, _, now2, rfl, fun x q => (by cases q), hR2, Nat.le_trans hgl hT, htg, hn2, rfl⟩, inferInstance⟩
   refine au 4 ?_
   refine ar 5 (ao wH rfl (tO ba bm on root user va kind (nM y))) ?_
   refine a8 rfl (fun c2 => ?_) fun c2 => ?_
   ·refine au 2 ?_
    refine a7 rfl (bq ib ez (am aj (am aj (am aj (am bI bj)))) bi) ?_
    refine aE 5 (aF cB rfl rfl rfl rfl rfl) ?_
    refine bY (.cons (cg ew cB rfl rfl) (.cons (bK rfl) .nil)) ?_
    exact ⟨_, ⟨none, its2, _, now2, rfl, fun x q => (by cases q), hR2, Nat.le_trans hgl hT, htg, hn2, rfl⟩, inferInstance⟩
   refine au 6 ?_
   refine aM (ao wI rfl (tP ba bm on root user va hva kind (nM y) true)) ?_
   refine aE 4 (aF cB rfl rfl rfl rfl rfl) ?_
   refine bY (.cons (cg ew cB rfl rfl) (.cons (bK rfl) .nil)) ?_
   obtain ⟨z, rfl⟩ : ∃ z, y = some z := by cases y <;> simp_all
   have hm : kf z.ent kind user = true := by simp_all [nM]
   obtain ⟨q1, q2⟩ := tG hy
   obtain ⟨x, hx, e1, e2⟩ := hi.sub z q1
   refine ⟨_, ⟨some x, its2, _, now2, ?_, fun x' q => ?_, hR2, Nat.le_trans hgl hT, htg, hn2, rfl⟩, inferInstance⟩
   ·show _ = Value.tuple #[.agg (yE x.e.1 x.e.2.1 (va % 64) true).toArray, .bool true]
    rw [e2]; rfl
   cases q
   exact ⟨hx, e1.trans q2, by rw [e2]; exact hm⟩
  skip
  refine cV rfl rfl (aS ji) rfl ?_; clear hS
  rintro _ _ ⟨b4, rfl, rfl⟩
  refine ⟨(aa (aa ag)), fun hS => ?_⟩
  refine bS 9 (by kernel_rfl) rfl rfl (ao Ke rfl (BG bt its room now T (dw root va) hR hT hr hn)) rfl ?_; clear hS
  rintro _ B_ ⟨rfl, its2, now2, hn2, hB_, hR2⟩
  subst hB_
  rw [BY, hy]
  refine ⟨(aa (aa ag)), fun hS => ?_⟩
  refine ah 10 3 hS ?_
  refine bU 14 rfl rfl (aF dX rfl rfl rfl rfl rfl) (aa (aa ag)) fun hS => ?_
  refine ah 15 1 hS ?_
  refine aK ?_
  refine au 7 ?_
  refine bB rfl rfl rfl (fun g2_3 => ?_) fun g2_3 => ?_
  ·refine au 9 ?_
   refine a7 rfl (bq ib ez (am aj (am aj (am aj (am bI bj)))) bi) ?_
   refine aE 5 (aF cB rfl rfl rfl rfl rfl) ?_
   refine bY (.cons (cg ew cB rfl rfl) (.cons (bK rfl) .nil)) ?_
   exact ⟨_, ⟨none, its2, _, now2, rfl, fun x q => (by cases q), hR2, Nat.le_trans hgl hT, htg, hn2, rfl⟩, inferInstance⟩
  refine au 4 ?_
  refine ar 5 (ao wH rfl (tO ba bm on root user va kind (nM y))) ?_
  refine a8 rfl (fun c2 => ?_) fun c2 => ?_
  ·refine au 2 ?_
   refine a7 rfl (bq ib ez (am aj (am aj (am aj (am bI bj)))) bi) ?_
   refine aE 5 (aF cB rfl rfl rfl rfl rfl) ?_
   refine bY (.cons (cg ew cB rfl rfl) (.cons (bK rfl) .nil)) ?_
   exact ⟨_, ⟨none, its2, _, now2, rfl, fun x q => (by cases q), hR2, Nat.le_trans hgl hT, htg, hn2, rfl⟩, inferInstance⟩
  refine au 6 ?_
  refine aM (ao wI rfl (tP ba bm on root user va hva kind (nM y) true)) ?_
  refine aE 4 (aF cB rfl rfl rfl rfl rfl) ?_
  refine bY (.cons (cg ew cB rfl rfl) (.cons (bK rfl) .nil)) ?_
  obtain ⟨z, rfl⟩ : ∃ z, y = some z := by cases y <;> simp_all
  have hm : kf z.ent kind user = true := by simp_all [nM]
  obtain ⟨q1, q2⟩ := tG hy
  obtain ⟨x, hx, e1, e2⟩ := hi.sub z q1
  refine ⟨_, ⟨some x, its2, _, now2, ?_, fun x' q => ?_, hR2, Nat.le_trans hgl hT, htg, hn2, rfl⟩, inferInstance⟩
  ·show _ = Value.tuple #[.agg (yE x.e.1 x.e.2.1 (va % 64) true).toArray, .bool true]
   rw [e2]; rfl
  cases q
  exact ⟨hx, e1.trans q2, by rw [e2]; exact hm⟩
 skip
 refine cV rfl rfl (aS ji) rfl ?_; clear hS
 rintro _ _ ⟨b4, rfl, rfl⟩
 refine ⟨(aa (aa ag)), fun hS => ?_⟩
 refine bF 8 rfl rfl (ao mo rfl (lQ ba bm on root user va hva kind)) (aa (aa ag)) fun hS => ?_
 refine bS 9 (by kernel_rfl) rfl rfl (ao Ke rfl (BG bt its room now T (dw root va) hR hT hr hn)) rfl ?_; clear hS
 rintro _ B_ ⟨rfl, its2, now2, hn2, hB_, hR2⟩
 subst hB_
 rw [BY, hy]
 refine ⟨(aa (aa ag)), fun hS => ?_⟩
 refine ah 10 3 hS ?_
 refine bU 14 rfl rfl (aF dX rfl rfl rfl rfl rfl) (aa (aa ag)) fun hS => ?_
 refine ah 15 1 hS ?_
 refine aK ?_
 refine au 7 ?_
 refine bB rfl rfl rfl (fun g2_3 => ?_) fun g2_3 => ?_
 ·refine au 9 ?_
  refine a7 rfl (bq ib ez (am aj (am aj (am aj (am bI bj)))) bi) ?_
  refine aE 5 (aF cB rfl rfl rfl rfl rfl) ?_
  refine bY (.cons (cg ew cB rfl rfl) (.cons (bK rfl) .nil)) ?_
  exact ⟨_, ⟨none, its2, _, now2, rfl, fun x q => (by cases q), hR2, Nat.le_trans hgl hT, htg, hn2, rfl⟩, inferInstance⟩
 refine au 4 ?_
 refine ar 5 (ao wH rfl (tO ba bm on root user va kind (nM y))) ?_
 refine a8 rfl (fun c2 => ?_) fun c2 => ?_
 ·refine au 2 ?_
  refine a7 rfl (bq ib ez (am aj (am aj (am aj (am bI bj)))) bi) ?_
  refine aE 5 (aF cB rfl rfl rfl rfl rfl) ?_
  refine bY (.cons (cg ew cB rfl rfl) (.cons (bK rfl) .nil)) ?_
  exact ⟨_, ⟨none, its2, _, now2, rfl, fun x q => (by cases q), hR2, Nat.le_trans hgl hT, htg, hn2, rfl⟩, inferInstance⟩
 refine au 6 ?_
 refine aM (ao wI rfl (tP ba bm on root user va hva kind (nM y) true)) ?_
 refine aE 4 (aF cB rfl rfl rfl rfl rfl) ?_
 refine bY (.cons (cg ew cB rfl rfl) (.cons (bK rfl) .nil)) ?_
 obtain ⟨z, rfl⟩ : ∃ z, y = some z := by cases y <;> simp_all
 have hm : kf z.ent kind user = true := by simp_all [nM]
 obtain ⟨q1, q2⟩ := tG hy
 obtain ⟨x, hx, e1, e2⟩ := hi.sub z q1
 refine ⟨_, ⟨some x, its2, _, now2, ?_, fun x' q => ?_, hR2, Nat.le_trans hgl hT, htg, hn2, rfl⟩, inferInstance⟩
 ·show _ = Value.tuple #[.agg (yE x.e.1 x.e.2.1 (va % 64) true).toArray, .bool true]
  rw [e2]; rfl
 cases q
 exact ⟨hx, e1.trans q2, by rw [e2]; exact hm⟩
theorem Vn (ba bm pv bt bs : Nat) (on : Bool) (root : Int) (user : Bool) (va : Nat) (hva : va < 4294967296) (kind : Int) (its : List It) (room now : Nat) (T : List It) (L : List Ln) (hR : Rep its now T) (hT : T.length ≤ room) (hr : room ≤ 4) (hn : now < 1000000) (hi : TI L T) : sP W0 281 [.pointer (some ⟨ba, 0, none⟩)] (pt ba (gO bm on root user va kind) :: pt bm (cN pv bt bs) :: aQ bt (its, d3 room now) :: bL bs L :: R) (fun v B => ∃ o its' T' now', v = .tuple #[.agg (BZ o va).toArray, .bool o.isSome] ∧ C0 L (dw root va) kind user o ∧ (o = none → ∀ x ∈ L, x.k = dw root va → kf x.e kind user = false) ∧ Rep its' now' T' ∧ T'.length ≤ room ∧ TI L T' ∧ now' ≤ now + 1 ∧ B = pt ba (gO bm on root user va kind) :: pt bm (cN pv bt bs) :: aQ bt (its', d3 room now') :: bL bs L :: R) := by
 obtain ⟨y, hy⟩ : ∃ y, ja (dw root va) L = y := ⟨_, rfl⟩
 have hll := hi.len
 refine ai 2 func281 ntmps281 ?_
 refine ax (aS ez) fun b2 => ?_
 refine au 4 ?_
 refine aU [(ba, 0, _), (bm, 0, _)] 16 aT rfl (aa (aa ag)) (fun hS => ?_)
 refine ah 0 8 hS ?_
 refine eJ (is := [8, 13]) (by kernel_rfl) rfl ⟨?_, ?_, trivial⟩
 ·skip
  refine cV rfl rfl (ao mo rfl (lQ ba bm on root user va hva kind)) rfl ?_; clear hS
  rintro _ B_ ⟨rfl, hB_⟩
  obtain rfl := hB_.symm
  refine ⟨(aa (aa ag)), fun hS => ?_⟩
  refine eJ (is := [9, 13]) (by kernel_rfl) rfl ⟨?_, ?_, trivial⟩
  ·skip
   refine cV rfl rfl (ao s5 rfl (qg bs L (by omega) (dw root va))) rfl ?_; clear hS
   rintro _ B_ ⟨rfl, hB_⟩
   subst hB_
   rw [qi, hy]
   refine ⟨(aa (aa ag)), fun hS => ?_⟩
   refine ah 10 3 hS ?_
   refine bS 13 (by kernel_rfl) rfl rfl (aS ji) rfl ?_; clear hS
   rintro _ _ ⟨b4, rfl, rfl⟩
   refine ⟨(aa (aa ag)), fun hS => ?_⟩
   refine bU 14 rfl rfl (aF dX rfl rfl rfl rfl rfl) (aa (aa ag)) fun hS => ?_
   refine ah 15 1 hS ?_
   refine aK ?_
   refine au 7 ?_
   refine bB rfl rfl rfl (fun g2_3 => ?_) fun g2_3 => ?_
   ·refine au 9 ?_
    refine a7 rfl (bq ib ez (am aj (am aj (am aj (am bI bj)))) bi) ?_
    refine aE 5 (aF cB rfl rfl rfl rfl rfl) ?_
    refine bY (.cons (cg ew cB rfl rfl) (.cons (bK rfl) .nil)) ?_
    exact ⟨_, ⟨none, its, T, now, rfl, fun x q => (by cases q), fun _ x hx hk => (by
     have hg := rH hi.keys hx
     rw [hk, hy] at hg
     subst hg
     simp_all [kg]), hR, hT, hi, by omega, rfl⟩, inferInstance⟩
   refine au 4 ?_
   refine ar 5 (ao wH rfl (tO ba bm on root user va kind (kg y))) ?_
   refine a8 rfl (fun c2 => ?_) fun c2 => ?_
   ·refine au 2 ?_
    refine a7 rfl (bq ib ez (am aj (am aj (am aj (am bI bj)))) bi) ?_
    refine aE 5 (aF cB rfl rfl rfl rfl rfl) ?_
    refine bY (.cons (cg ew cB rfl rfl) (.cons (bK rfl) .nil)) ?_
    exact ⟨_, ⟨none, its, T, now, rfl, fun x q => (by cases q), fun _ x hx hk => (by
     have hg := rH hi.keys hx
     rw [hk, hy] at hg
     subst hg
     simp_all [kg]), hR, hT, hi, by omega, rfl⟩, inferInstance⟩
   refine au 3 ?_
   obtain ⟨x, rfl⟩ : ∃ x, y = some x := by cases y <;> simp_all
   have hm : kf x.e kind user = true := by simp_all [kg]
   obtain ⟨q1, q2⟩ := tL hy
   have hpt := hi.putT room now q1
   have hpl := tH (now := now) (k := x.k) (e := x.e) hT
   rw [q2] at hpt hpl
   rw [show kg (some x) = x.e from rfl]
   refine aU [(ba, 0, _), (bm, 0, _), (b4, 0, _)] 11 aT rfl (aa (aa (aa ag))) (fun hS => ?_)
   refine ah 0 8 hS ?_
   refine av 9 rfl rfl rfl hS (b0 kM dX rfl (by first | exact co (k := 0) rfl | exact co (k := 1) rfl | exact co (k := 2) rfl) rfl) ?_
   refine bF 8 rfl rfl (ao mo rfl (lQ ba bm on root user va hva kind)) (aa (aa (aa ag))) fun hS => ?_
   refine bS 10 (by kernel_rfl) rfl rfl (ao wJ rfl (tI bt its room now T (dw root va) x.e hR hT hr hn)) rfl ?_; clear hS
   rintro _ B_ ⟨rfl, its2, hB_, hR2⟩
   subst hB_
   refine ⟨(aa (aa (aa ag))), fun hS => ?_⟩
   refine aK ?_
   refine au 5 ?_
   refine aM (ao wI rfl (tP ba bm on root user va hva kind x.e true)) ?_
   refine aE 4 (aF cB rfl rfl rfl rfl rfl) ?_
   refine bY (.cons (cg ew cB rfl rfl) (.cons (bK rfl) .nil)) ?_
   refine ⟨_, ⟨some x, its2, _, now + 1, rfl, fun x' q => ?_, fun q => (by cases q), hR2, hpl, hpt, by omega, rfl⟩, inferInstance⟩
   cases q
   exact ⟨q1, q2, hm⟩
  skip
  refine cV rfl rfl (aS ji) rfl ?_; clear hS
  rintro _ _ ⟨b4, rfl, rfl⟩
  refine ⟨(aa (aa ag)), fun hS => ?_⟩
  refine bS 9 (by kernel_rfl) rfl rfl (ao s5 rfl (qg bs L (by omega) (dw root va))) rfl ?_; clear hS
  rintro _ B_ ⟨rfl, hB_⟩
  subst hB_
  rw [qi, hy]
  refine ⟨(aa (aa ag)), fun hS => ?_⟩
  refine ah 10 3 hS ?_
  refine bU 14 rfl rfl (aF dX rfl rfl rfl rfl rfl) (aa (aa ag)) fun hS => ?_
  refine ah 15 1 hS ?_
  refine aK ?_
  refine au 7 ?_
  refine bB rfl rfl rfl (fun g2_3 => ?_) fun g2_3 => ?_
  ·refine au 9 ?_
   refine a7 rfl (bq ib ez (am aj (am aj (am aj (am bI bj)))) bi) ?_
   refine aE 5 (aF cB rfl rfl rfl rfl rfl) ?_
   refine bY (.cons (cg ew cB rfl rfl) (.cons (bK rfl) .nil)) ?_
   exact ⟨_, ⟨none, its, T, now, rfl, fun x q => (by cases q), fun _ x hx hk => (by
    have hg := rH hi.keys hx
    rw [hk, hy] at hg
    subst hg
    simp_all [kg]), hR, hT, hi, by omega, rfl⟩, inferInstance⟩
  refine au 4 ?_
  refine ar 5 (ao wH rfl (tO ba bm on root user va kind (kg y))) ?_
  refine a8 rfl (fun c2 => ?_) fun c2 => ?_
  ·refine au 2 ?_
   refine a7 rfl (bq ib ez (am aj (am aj (am aj (am bI bj)))) bi) ?_
   refine aE 5 (aF cB rfl rfl rfl rfl rfl) ?_
   refine bY (.cons (cg ew cB rfl rfl) (.cons (bK rfl) .nil)) ?_
   exact ⟨_, ⟨none, its, T, now, rfl, fun x q => (by cases q), fun _ x hx hk => (by
    have hg := rH hi.keys hx
    rw [hk, hy] at hg
    subst hg
    simp_all [kg]), hR, hT, hi, by omega, rfl⟩, inferInstance⟩
  refine au 3 ?_
  obtain ⟨x, rfl⟩ : ∃ x, y = some x := by cases y <;> simp_all
  have hm : kf x.e kind user = true := by simp_all [kg]
  obtain ⟨q1, q2⟩ := tL hy
  have hpt := hi.putT room now q1
  have hpl := tH (now := now) (k := x.k) (e := x.e) hT
  rw [q2] at hpt hpl
  rw [show kg (some x) = x.e from rfl]
  refine aU [(ba, 0, _), (bm, 0, _), (b4, 0, _)] 11 aT rfl (aa (aa (aa ag))) (fun hS => ?_)
  refine ah 0 8 hS ?_
  refine av 9 rfl rfl rfl hS (b0 kM dX rfl (by first | exact co (k := 0) rfl | exact co (k := 1) rfl | exact co (k := 2) rfl) rfl) ?_
  refine bF 8 rfl rfl (ao mo rfl (lQ ba bm on root user va hva kind)) (aa (aa (aa ag))) fun hS => ?_
  refine bS 10 (by kernel_rfl) rfl rfl (ao wJ rfl (tI bt its room now T (dw root va) x.e hR hT hr hn)) rfl ?_; clear hS
  rintro _ B_ ⟨rfl, its2, hB_, hR2⟩
  subst hB_
  refine ⟨(aa (aa (aa ag))), fun hS => ?_⟩
  refine aK ?_
  refine au 5 ?_
  refine aM (ao wI rfl (tP ba bm on root user va hva kind x.e true)) ?_
  refine aE 4 (aF cB rfl rfl rfl rfl rfl) ?_
  refine bY (.cons (cg ew cB rfl rfl) (.cons (bK rfl) .nil)) ?_
  refine ⟨_, ⟨some x, its2, _, now + 1, rfl, fun x' q => ?_, fun q => (by cases q), hR2, hpl, hpt, by omega, rfl⟩, inferInstance⟩
  cases q
  exact ⟨q1, q2, hm⟩
 skip
 refine cV rfl rfl (aS ji) rfl ?_; clear hS
 rintro _ _ ⟨b4, rfl, rfl⟩
 refine ⟨(aa (aa ag)), fun hS => ?_⟩
 refine bF 8 rfl rfl (ao mo rfl (lQ ba bm on root user va hva kind)) (aa (aa ag)) fun hS => ?_
 refine bS 9 (by kernel_rfl) rfl rfl (ao s5 rfl (qg bs L (by omega) (dw root va))) rfl ?_; clear hS
 rintro _ B_ ⟨rfl, hB_⟩
 subst hB_
 rw [qi, hy]
 refine ⟨(aa (aa ag)), fun hS => ?_⟩
 refine ah 10 3 hS ?_
 refine bU 14 rfl rfl (aF dX rfl rfl rfl rfl rfl) (aa (aa ag)) fun hS => ?_
 refine ah 15 1 hS ?_
 refine aK ?_
 refine au 7 ?_
 refine bB rfl rfl rfl (fun g2_3 => ?_) fun g2_3 => ?_
 ·refine au 9 ?_
  refine a7 rfl (bq ib ez (am aj (am aj (am aj (am bI bj)))) bi) ?_
  refine aE 5 (aF cB rfl rfl rfl rfl rfl) ?_
  refine bY (.cons (cg ew cB rfl rfl) (.cons (bK rfl) .nil)) ?_
  exact ⟨_, ⟨none, its, T, now, rfl, fun x q => (by cases q), fun _ x hx hk => (by
   have hg := rH hi.keys hx
   rw [hk, hy] at hg
   subst hg
   simp_all [kg]), hR, hT, hi, by omega, rfl⟩, inferInstance⟩
 refine au 4 ?_
 refine ar 5 (ao wH rfl (tO ba bm on root user va kind (kg y))) ?_
 refine a8 rfl (fun c2 => ?_) fun c2 => ?_
 ·refine au 2 ?_
  refine a7 rfl (bq ib ez (am aj (am aj (am aj (am bI bj)))) bi) ?_
  refine aE 5 (aF cB rfl rfl rfl rfl rfl) ?_
  refine bY (.cons (cg ew cB rfl rfl) (.cons (bK rfl) .nil)) ?_
  exact ⟨_, ⟨none, its, T, now, rfl, fun x q => (by cases q), fun _ x hx hk => (by
   have hg := rH hi.keys hx
   rw [hk, hy] at hg
   subst hg
   simp_all [kg]), hR, hT, hi, by omega, rfl⟩, inferInstance⟩
 refine au 3 ?_
 obtain ⟨x, rfl⟩ : ∃ x, y = some x := by cases y <;> simp_all
 have hm : kf x.e kind user = true := by simp_all [kg]
 obtain ⟨q1, q2⟩ := tL hy
 have hpt := hi.putT room now q1
 have hpl := tH (now := now) (k := x.k) (e := x.e) hT
 rw [q2] at hpt hpl
 rw [show kg (some x) = x.e from rfl]
 refine aU [(ba, 0, _), (bm, 0, _), (b4, 0, _)] 11 aT rfl (aa (aa (aa ag))) (fun hS => ?_)
 refine ah 0 8 hS ?_
 refine av 9 rfl rfl rfl hS (b0 kM dX rfl (by first | exact co (k := 0) rfl | exact co (k := 1) rfl | exact co (k := 2) rfl) rfl) ?_
 refine bF 8 rfl rfl (ao mo rfl (lQ ba bm on root user va hva kind)) (aa (aa (aa ag))) fun hS => ?_
 refine bS 10 (by kernel_rfl) rfl rfl (ao wJ rfl (tI bt its room now T (dw root va) x.e hR hT hr hn)) rfl ?_; clear hS
 rintro _ B_ ⟨rfl, its2, hB_, hR2⟩
 subst hB_
 refine ⟨(aa (aa (aa ag))), fun hS => ?_⟩
 refine aK ?_
 refine au 5 ?_
 refine aM (ao wI rfl (tP ba bm on root user va hva kind x.e true)) ?_
 refine aE 4 (aF cB rfl rfl rfl rfl rfl) ?_
 refine bY (.cons (cg ew cB rfl rfl) (.cons (bK rfl) .nil)) ?_
 refine ⟨_, ⟨some x, its2, _, now + 1, rfl, fun x' q => ?_, fun q => (by cases q), hR2, hpl, hpt, by omega, rfl⟩, inferInstance⟩
 cases q
 exact ⟨q1, q2, hm⟩
section
variable {P : Program} {S : World → Prop} {N : FSz} {e : aW} {t : TypeId} {x y : Operand}
theorem Hh {E len sz j : Nat} {k : IntKind} {i : Int} {cs : Array Value} {us : List Value} (hu : P.underlying t = some (.array len E)) (ha : ∀ w, (isAgg E).run P w = .ok true w) (hs : ∀ w, (sizeOf E).run P w = .ok sz w) (hx : ev e x = some (.agg cs)) (hy : ev e y = some (.int k i))
  (hi : i = (j : Int)) (hj : j < len) (hv : cs.extract (j * sz) (j * sz + sz) = us.toArray) : cy P S N e (.index t x y) (.agg us.toArray) := fun a w _ _ _ _ _ hF _ => by
 subst hi
 have h1 : (0 : Int) ≤ (j : Int) ∧ (j : Int) < (len : Int) := by omega
 simp only [execOp, Instr.index, Sem.run_bind, hF.eval hx, hF.eval hy, asIntOf, Sem.run_pure, Result.andThen_ok, e7 hu, if_pos h1, Int.toNat_natCast, hs, part, ha, hv, if_true]
end
def gQ : List Value := [.int .i64 0, .int .i64 4, .int .i64 1, .int .i64 1, .int .i64 2, .int .i64 2]
def nN (i : Nat) : Int × Int := if i = 0 then (0, 4) else if i = 1 then (1, 1) else (2, 2)
def fP (pg : List Pl) (r p : Int) : Nat → Int
  | 0 => fq .i64 r 8
  | i + 1 => if fq .i64 r (nN i).2 ≠ 0 ∧ fZ pg p (nN i).1 = 0 then iZ .i64 (fP pg r p i) (nN i).2 else fP pg r p i
theorem Hi (hK : ∀ A, bG (aO W0 A) 1 0 gQ) (bm pv bt bs ps pm d : Nat) (on : Bool) (r p : Int) (pg : List Pl) (hP : Pgs pg) : sQ W0 382 [.pointer (some ⟨bm, 0, none⟩), .agg #[.bool on, .int .i64 r, .int .i64 p]] (pt bm (cN pv bt bs) :: pt pv (cr ps pm d) :: pt pm (bJ pg) :: R) (.int .i64 (fP pg r p 3)) (pt bm (cN pv bt bs) :: pt pv (cr ps pm d) :: pt pm (bJ pg) :: R) := by
 refine ai 2 func382 ntmps382 ?_
 refine ax (aV rfl) fun b3 => ?_
 refine au 7 ?_
 refine ap 6 (fJ rfl rfl rfl) ?_
 refine ap 4 (b0 isAgg491 sizeOf491 rfl (hK _) rfl) ?_
 refine cY (fun i : Nat => i ≤ 3) (fun i => [(0, .pointer (some ⟨bm, 0, none⟩)), (3, .pointer (some ⟨b3, 0, none⟩)), (5, .int .i64 (fP pg r p i)), (11, .agg gQ.toArray), (12, .int .i64 i)]) (fun i => pt b3 (ac [.bool on, .int .i64 r, .int .i64 p] 414) :: pt bm (cN pv bt bs) :: pt pv (cr ps pm d) :: pt pm (bJ pg) :: R) (fun i => 3 - i) 0 ?_ ?_
 ·exact Nat.zero_le _
 intro i hi
 refine au 6 ?_
 refine a8 rfl (fun c3 => ?_) fun c3 => ?_
 ·refine au 2 ?_
  refine dU (fun _ : Unit => True) (fun _ => [(0, .pointer (some ⟨bm, 0, none⟩)), (3, .pointer (some ⟨b3, 0, none⟩)), (5, .int .i64 (fP pg r p (i + 1))), (11, .agg gQ.toArray), (12, .int .i64 i)]) (fun _ => pt b3 (ac [.bool on, .int .i64 r, .int .i64 p] 414) :: pt bm (cN pv bt bs) :: pt pv (cr ps pm d) :: pt pm (bJ pg) :: R) ?_ ?_
  ·skip
   refine au 2 ?_
   have hi3 : i < 3 := by omega
   have hkv : gQ.toArray.extract (i * 2) (i * 2 + 2) = ([.int .i64 (nN i).1, .int .i64 (nN i).2] : List Value).toArray := by
    have : i = 0 ∨ i = 1 ∨ i = 2 := by omega
    rcases this with rfl | rfl | rfl <;> rfl
   have hst : fP pg r p (i + 1) = if fq .i64 r (nN i).2 ≠ 0 ∧ fZ pg p (nN i).1 = 0 then iZ .i64 (fP pg r p i) (nN i).2 else fP pg r p i := rfl
   obtain ⟨⟨k, c⟩, hkc⟩ : ∃ q, nN i = q := ⟨_, rfl⟩
   rw [hkc] at hkv hst
   dsimp only at hkv hst
   refine bQ (a7 rfl (Hh a0g isAgg490 sizeOf490 rfl rfl rfl hi3 hkv) ?_)
   refine ax (aS zeroValue490) fun b7 => ?_
   refine aE 3 (aF sizeOf490 rfl rfl rfl rfl rfl) ?_
   refine aU [(b3, 0, _), (b7, 0, _), (bm, 0, _)] 19 aT rfl (aa (aa (aa ag))) (fun hS => ?_)
   refine ah 0 4 hS ?_
   refine av 4 rfl rfl rfl hS (fJ rfl rfl rfl) ?_
   refine ah 5 2 hS ?_
   refine ip (t := 21) rfl ?_ ?_
   ·intro g5_7
    refine ah 7 4 hS ?_
    refine ah 12 4 hS ?_
    refine bF 11 rfl rfl (ao s4 rfl (pK pv ps pm d)) (aa (aa (aa ag))) fun hS => ?_
    refine bF 16 rfl rfl (ao call134 rfl (EF pm pg hP p k)) (aa (aa (aa ag))) fun hS => ?_
    refine ah 17 2 hS ?_
    refine aK ?_
    refine aY ?_
    refine a8 rfl (fun c5 => ?_) fun c5 => ?_
    ·refine au 4 ?_
     refine ap 4 (nY rfl rfl rfl) ?_
     refine iG () ?_ ?_ ?_
     ·trivial
     ·rw [hst, if_pos (by first | assumption | simp_all)]
      repeat (first | exact dy | refine db rfl ?_)
     exact inferInstance
    refine au 3 ?_
    refine iG () ?_ ?_ ?_
    ·trivial
    ·rw [hst, if_neg (by first | (intro q; simp_all; done) | (rintro ⟨q1, q2⟩; contradiction))]
     repeat (first | exact dy | refine db rfl ?_)
    exact inferInstance
   intro g5_7
   refine ah 7 12 hS ?_
   refine aK ?_
   refine au 5 ?_
   refine iG () ?_ ?_ ?_
   ·trivial
   ·rw [hst, if_neg (by first | (intro q; simp_all; done) | (rintro ⟨q1, q2⟩; contradiction))]
    repeat (first | exact dy | refine db rfl ?_)
   exact inferInstance
  intro _ _
  refine bQ (ap 3 (cM rfl rfl) ?_)
  exact bZ (i + 1) (by omega)
 refine au 12 ?_
 refine ae ?_
 obtain rfl : i = 3 := by omega
 exact ⟨_, ⟨rfl, rfl⟩, inferInstance⟩
section
variable {P : Program} {S : World → Prop} {N : FSz} {e : aW} {t : TypeId} {l : List Value} {v : Value}
theorem Hj {E n k : Nat} {ps : Array (Nat × Operand)} {rs : List (List Value)} (hu : P.underlying t = some (.array n E)) (hs : ∀ w, (sizeOf E).run P w = .ok k w) (hz : ∀ w, (zeroValue t).run P w = .ok (.agg l.toArray) w)
  (hel : qJ k e 0 ps.toList rs) (hl : l.length = rs.length * k) : cy P S N e (.build t ps) (.agg rs.flatten.toArray) := fun a w _ _ _ _ _ hF _ => by
 have hfl := Ae (k := k) (fun x v h => hF.eval h) ps.toList rs [] l 0 (by simp) hel hl
 simp only [List.nil_append] at hfl
 have hb : Instr.build t (ps.map fun (i, x) => (i, a.eval x)) = (do
   let zero := (← zeroValue t).cells
   match ← underlying t with
   | .struct fields =>
    let places ← fields.mapM pA
    let some cells := Instr.fill (places[·]?) zero (ps.map fun (i, x) => (i, a.eval x)).toList | stuck "build: no such field, or a part of the wrong size"
    pure (.agg cells)
   | .array _ elem =>
    let size ← sizeOf elem
    let some cells := Instr.fill (fun i => some (i * size, size)) zero (ps.map fun (i, x) => (i, a.eval x)).toList | stuck "build: a part of the wrong size"
    pure (.agg cells)
   | _ => stuck "build: struct or array type expected") := rfl
 simp only [execOp, hb, Sem.run_bind, hz, e7 hu, hs, Result.andThen_ok, Value.cells, Sem.run_pure, Array.toList_map]
 rw [hfl]; rfl
end
theorem yF (n : Nat) : (((n : Nat) : Int) != 0) = (n != 0) := by
 rw [Bool.eq_iff_iff, bne_iff_ne, bne_iff_ne]; omega
theorem C1 (b : Nat) (rl : List Nat) (pc x : Nat) (i : Int) (hl : rl.length = 16) : sQ W0 60 [.pointer (some ⟨b, 0, none⟩), .int .i64 i, wV x] (pt b (dq rl pc) :: R) (.int .i64 (if j9 i then 0 else 1)) (pt b (dq (if j9 i then kC rl i.toNat x else rl) pc) :: R) := by
 by_cases hi : j9 i = true
 ·have hi2 : 0 ≤ i ∧ i < 16 := of_decide_eq_true hi
  obtain ⟨n, rfl⟩ : ∃ n : Nat, i = (n : Int) := ⟨i.toNat, by omega⟩
  rw [if_pos hi, if_pos hi, Int.toNat_natCast]
  by_cases h0 : n = 0
  ·subst h0
   rw [kC, if_pos rfl]
   have hput : ∀ R, bN Tryz.prog W0 132 [.pointer (some ⟨b, 0, none⟩), .int .i64 ((0 : Nat) : Int), wV x] (pt b (dq rl pc) :: R) (fun v B => v = .tuple #[] ∧ B = pt b (dq rl pc) :: R) := fun R => by
    refine ai 6 func132 ntmps132 ?_
    refine a8 rfl (fun c0 => ?_) fun c0 => ?_
    ·exact absurd rfl c0
    refine iF (bT (.inr rfl) .nil ?_)
    exact ⟨_, ⟨rfl, rfl⟩, inferInstance⟩
   refine ai 12 JR ntmps60 ?_
   refine a8 rfl (fun c1 => ?_) fun c1 => ?_
   ·cases c1
   refine au 8 ?_
   refine ar 10 (ao D7 rfl (ya b rl pc hl ((0 : Nat) : Int))) ?_
   refine a8 rfl (fun c4 => ?_) fun c4 => ?_
   ·refine au 6 ?_
    refine ar 9 (ao call132 rfl (hput _)) ?_
    refine ae ?_
    rw [hi]
    exact ⟨_, ⟨rfl, rfl⟩, inferInstance⟩
   exact absurd (by rw [hi]; rfl) c4
  rw [kC, if_neg h0]
  exact Bs b rl pc n x hl (by omega) h0
 rw [if_neg hi, if_neg hi]
 refine ai 12 JR ntmps60 ?_
 refine a8 rfl (fun c1 => ?_) fun c1 => ?_
 ·cases c1
 refine au 8 ?_
 refine ar 10 (ao D7 rfl (ya b rl pc hl i)) ?_
 refine a8 rfl (fun c4 => ?_) fun c4 => ?_
 ·exact absurd c4 (by rw [if_neg hi]; decide)
 refine au 9 ?_
 refine ae ?_
 rw [if_neg hi]
 exact ⟨_, ⟨rfl, rfl⟩, inferInstance⟩
abbrev dH (cs : List Nat) (id : Nat) : Obj := ac (cs.map wV ++ [.int .i64 id, .bool true]) 328
section
variable {cs : List Nat} {id : Nat}
theorem vK (h : CsOk cs) : (cs.map wV ++ [Value.int .i64 id, .bool true]).length = 9 := by simp [h.len]
theorem rM (h : CsOk cs) {n : Nat} (hn : n < 7) : (cs.map wV ++ [Value.int .i64 id, .bool true])[n * 1]? = some (wV (dO cs n)) := by
 have : n < cs.length := by rw [h.len]; exact hn
 rw [Nat.mul_one, List.getElem?_append_left (by rw [List.length_map]; exact this)]
 simp [dO, List.getD, this]
theorem Vo (h : CsOk cs) : (cs.map wV ++ [Value.int .i64 id, .bool true])[8]? = some (.bool true) := by
 rw [List.getElem?_append_right (by rw [List.length_map, h.len]; decide), List.length_map, h.len]; rfl
theorem Vp (h : CsOk cs) : (cs.map wV ++ [Value.int .i64 id, .bool true])[7]? = some (.int .i64 id) := by
 rw [List.getElem?_append_right (by rw [List.length_map, h.len]; decide), List.length_map, h.len]; rfl
theorem vL (h : cs.length = 7) {n v : Nat} (hn : n < 7) : (cs.map wV ++ [Value.int .i64 id, .bool true]).set (n * 1) (wV v) = (cs.set n v).map wV ++ [.int .i64 id, .bool true] := by
 rw [Nat.mul_one, List.set_append_left _ _ (by rw [List.length_map, h]; exact hn), List.map_set]
theorem Vq (h : CsOk cs) : ((cs.map wV ++ [Value.int .i64 id, .bool true]).drop 0).take 7 = cs.map wV := by
 rw [List.drop_zero, List.take_left' (by rw [List.length_map, h.len])]
theorem tQ (b : Nat) (h : CsOk cs) : sQ W0 211 [pV b] (pt b (dH cs id) :: R) (.bool false) (pt b (dH cs id) :: R) := by
 refine ai 10 func211 ntmps211 ?_
 refine bB rfl rfl rfl (fun g1_3 => ?_) fun g1_3 => ?_
 ·cases g1_3
 refine au 6 ?_
 refine ap 7 (aA gz rfl (aN (Vo h))) ?_
 exact ae aL
theorem yG (b : Nat) (h : CsOk cs) (k : Nat) (hk : k < 4294967296) : sQ W0 209 [pV b, wV k] (pt b (dH cs id) :: R) (.bool (pN cs k)) (pt b (dH cs id) :: R) := by
 refine ai 10 func209 ntmps209 ?_
 refine a7 rfl (dI kt bE rfl rfl (i := 5) rfl (by decide) (by first | exact Nat.zero_add _ | rfl)) ?_
 refine a7 rfl (aA ia rfl (aN (rM h (n := 5) (by decide)))) ?_
 refine a7 rfl (aH rfl) (ap 5 (fJ rfl rfl (lD (h.at_ 5) hk)) ?_)
 refine ae ?_
 exact ⟨_, ⟨congrArg Value.bool (yF _), rfl⟩, inferInstance⟩
theorem Hl (b : Nat) (h : CsOk cs) : sQ W0 341 [pV b] (pt b (dH cs id) :: R) (.int .i64 (if ec cs then 0 else 4)) (pt b (dH cs id) :: R) := by
 refine ai 10 func341 ntmps341 ?_
 refine ar 3 (ao wK rfl (tQ b h)) ?_
 refine a8 rfl (fun c1 => ?_) fun c1 => ?_
 ·exact absurd c1 (by decide)
 refine au 3 ?_
 refine ar 4 (ao Dg rfl (yG b h 4 (by decide))) ?_
 refine a8 rfl (fun c3 => ?_) fun c3 => ?_
 ·refine au 8 ?_
  refine ae ?_
  rw [ec, if_neg (by simpa using c3)]
  exact ⟨_, ⟨rfl, rfl⟩, inferInstance⟩
 refine au 9 ?_
 refine ae ?_
 rw [ec, if_pos (by simpa using c3)]
 exact ⟨_, ⟨rfl, rfl⟩, inferInstance⟩
theorem Hm (b : Nat) (h : CsOk cs) (hid : id < 4) (n : Nat) (hn : n < 9) (clock : Int) (hc : 0 ≤ clock) : sQ W0 287 [pV b, .int .i64 n, .int .i64 clock] (pt b (dH cs id) :: R) (.tuple #[wV (if ec cs then pP cs id clock.toNat n else 0), .int .i64 (if ec cs then 0 else 4)]) (pt b (dH cs id) :: R) := by
 obtain ⟨q, rfl⟩ : ∃ q : Nat, clock = (q : Int) := ⟨clock.toNat, by omega⟩
 rw [Int.toNat_natCast]
 refine ai 10 func287 ntmps287 ?_
 refine ar 9 (ao call341 rfl (Hl b h)) ?_
 refine a8 rfl (fun c2 => ?_) fun c2 => ?_
 ·refine au 9 ?_
  refine aJ ?_
  have hk : ec cs = false := by
   cases hq : ec cs with
   | false => rfl
   | true => exact absurd (by rw [hq]; rfl) c2
  rw [hk]
  exact ⟨_, ⟨rfl, rfl⟩, inferInstance⟩
 refine au 6 ?_
 have hk : ec cs = true := by
  cases hq : ec cs with
  | true => rfl
  | false => rw [hq] at c2; exact absurd (by decide) c2
 rw [hk]
 refine au 6 ?_
 refine a8 rfl (fun c4 => ?_) fun c4 => ?_
 ·omega
 refine au 6 ?_
 refine a8 rfl (fun c5 => ?_) fun c5 => ?_
 ·omega
 refine au 7 ?_
 refine a8 rfl (fun c7 => ?_) fun c7 => ?_
 ·refine au 3 ?_
  refine ap 7 (cX cW dk rfl (eD (q : Int))) ?_
  refine aJ ?_
  obtain rfl : n = 7 := by omega
  exact ⟨_, ⟨rfl, rfl⟩, inferInstance⟩
 refine au 7 ?_
 refine a8 rfl (fun c9 => ?_) fun c9 => ?_
 ·refine au 5 ?_
  refine a7 rfl (aA aX rfl (aN (Vp h))) ?_
  refine ap 7 (cX cW dk rfl (eA (by omega))) ?_
  refine aJ ?_
  obtain rfl : n = 8 := by omega
  exact ⟨_, ⟨rfl, rfl⟩, inferInstance⟩
 refine au 9 ?_
 refine a7 rfl (dI kt bE rfl rfl rfl (by omega) (by first | exact Nat.zero_add _ | rfl)) ?_
 refine ap 5 (aA ia rfl (aN (rM h (n := n) (by omega)))) ?_
 refine aJ ?_
 rw [if_pos rfl, pP, if_neg (by omega), if_neg (by omega)]
 exact ⟨_, ⟨rfl, rfl⟩, inferInstance⟩
theorem Vr (b : Nat) (h : CsOk cs) (n v : Nat) (hn : n < 9) (hv : v < 4294967296) (hk : ec cs = true) : sP W0 391 [pV b, .int .i64 n, wV v] (pt b (dH cs id) :: R) (fun r B => r = .int .i64 (if n ≤ 6 then 0 else 1) ∧ B = pt b (dH (if n ≤ 6 then cs.set n (kZ n v) else cs) id) :: R) := by
 refine ai 9 func391 ntmps391 ?_
 refine aM (ao call341 rfl (Hl b h)) ?_
 rw [hk, if_pos rfl]
 refine au 9 ?_
 refine a8 rfl (fun c2 => ?_) fun c2 => ?_
 ·exact absurd rfl c2
 refine au 2 ?_
 refine dU (fun _ : Unit => n ≤ 6) (fun _ => [(0, pV b), (1, .int .i64 n), (2, wV (kZ n v))]) (fun _ => pt b (dH cs id) :: R) ?_ ?_
 ·skip
  refine au 12 ?_
  refine a8 rfl (fun c6 => ?_) fun c6 => ?_
  ·refine au 2 ?_
   refine ap 4 (fJ rfl rfl (lD hv (by decide))) ?_
   refine iG () ?_ ?_ ?_
   ·omega
   ·rw [kZ, if_pos (by omega)]
    repeat (first | exact dy | refine db rfl ?_)
   exact inferInstance
  refine au 6 ?_
  refine a8 rfl (fun c8 => ?_) fun c8 => ?_
  ·refine au 2 ?_
   refine ap 4 (fJ rfl rfl (lD hv (by decide))) ?_
   refine iG () ?_ ?_ ?_
   ·omega
   ·rw [kZ, if_neg (by omega), if_pos (by omega)]
    repeat (first | exact dy | refine db rfl ?_)
   exact inferInstance
  refine au 7 ?_
  refine a8 rfl (fun c10 => ?_) fun c10 => ?_
  ·refine au 6 ?_
   refine iG () ?_ ?_ ?_
   ·omega
   ·rw [kZ, if_neg (by omega), if_neg (by omega)]
    repeat (first | exact dy | refine db rfl ?_)
   exact inferInstance
  refine au 6 ?_
  refine a8 rfl (fun c11 => ?_) fun c11 => ?_
  ·refine au 6 ?_
   refine iG () ?_ ?_ ?_
   ·omega
   ·rw [kZ, if_neg (by omega), if_neg (by omega)]
    repeat (first | exact dy | refine db rfl ?_)
   exact inferInstance
  refine au 6 ?_
  refine a8 rfl (fun c12 => ?_) fun c12 => ?_
  ·refine au 6 ?_
   refine iG () ?_ ?_ ?_
   ·omega
   ·rw [kZ, if_neg (by omega), if_neg (by omega)]
    repeat (first | exact dy | refine db rfl ?_)
   exact inferInstance
  refine au 6 ?_
  refine a8 rfl (fun c13 => ?_) fun c13 => ?_
  ·refine au 6 ?_
   refine iG () ?_ ?_ ?_
   ·omega
   ·rw [kZ, if_neg (by omega), if_neg (by omega)]
    repeat (first | exact dy | refine db rfl ?_)
   exact inferInstance
  refine au 5 ?_
  refine a8 rfl (fun c14 => ?_) fun c14 => ?_
  ·refine au 3 ?_
   refine iG () ?_ ?_ ?_
   ·omega
   ·rw [kZ, if_neg (by omega), if_neg (by omega)]
    repeat (first | exact dy | refine db rfl ?_)
   exact inferInstance
  refine au 8 ?_
  refine ae ?_
  rw [if_neg (by omega), if_neg (by omega)]
  exact ⟨_, ⟨rfl, rfl⟩, inferInstance⟩
 intro _ hn6
 rw [if_pos hn6, if_pos hn6]
 refine au 7 ?_
 refine a7 rfl (dI kt bE rfl rfl rfl (by omega) (by first | exact Nat.zero_add _ | rfl)) ?_
 refine aE 8 (bA bE rfl rfl rfl (by rw [vK h]; omega) (vL h.len (by omega))) ?_
 exact ae aL
theorem Vs (b : Nat) (h : CsOk cs) : sQ W0 168 [pV b] (pt b (dH cs id) :: R) (.agg (cs.map wV).toArray) (pt b (dH cs id) :: R) := by
 refine ai 2 func168 ntmps168 ?_
 refine ax (aS zG) fun b1 => ?_
 refine au 6 ?_
 refine ar 2 (ao wK rfl (tQ b h)) ?_
 refine a8 rfl (fun c1 => ?_) fun c1 => ?_
 ·exact absurd c1 (by decide)
 refine au 7 ?_
 refine a7 rfl (b0 JS pi rfl (cC (b := b) (Vq h) (by rw [List.length_map, h.len])) (by rw [List.length_map, h.len])) ?_
 refine aE 3 (aF pi rfl rfl (by rw [List.length_map, h.len]) (y9 cs) rfl) ?_
 exact bY (.cons (cg JS pi rfl (by rw [List.length_map, h.len])) .nil) aL
@[reducible] def tT (cs : List Nat) : List Value := [.bool (jZ cs), .int .i64 (k0 cs), .bool (!ec cs)]
theorem vM (b : Nat) (h : CsOk cs) : sQ W0 143 [pV b] (pt b (dH cs id) :: R) (.agg (tT cs).toArray) (pt b (dH cs id) :: R) := by
 have h0 := h.at_ 0
 have hd : dO cs 0 / 256 < 4294967296 := by omega
 obtain ⟨rr, hrr⟩ : ∃ r, dO cs 0 / 256 &&& 31 = r := ⟨_, rfl⟩
 have ha : rr < 4294967296 := by rw [← hrr]; exact Nat.lt_of_le_of_lt Nat.and_le_left hd
 refine ai 2 func143 ntmps143 ?_
 refine ax (aS a0h) fun b1 => ?_
 refine au 6 ?_
 refine ar 2 (ao wK rfl (tQ b h)) ?_
 refine a8 rfl (fun c1 => ?_) fun c1 => ?_
 ·exact absurd c1 (by decide)
 refine au 7 ?_
 refine a7 rfl (dI kt bE rfl rfl (i := 0) rfl (by decide) (by first | exact Nat.zero_add _ | rfl)) ?_
 refine ap 6 (aA ia rfl (aN (rM h (n := 0) (by decide)))) ?_
 refine ap 2 (fJ rfl rfl (lD h0 (by decide) (b := 1))) ?_
 refine a7 rfl (jC rfl rfl (by decide) (lE (k := .u32) (s := 8) (by decide))) ?_
 refine a7 rfl (fJ rfl rfl (show _ = ((rr : Nat) : Int) by rw [← hrr]; exact lD hd (by decide) (b := 31))) ?_
 refine a7 rfl (cX dk cW rfl (aG (by omega))) ?_
 refine a7 rfl (aH rfl) ?_
 refine aM (ao Dg rfl (yG b h 4 (by decide))) ?_
 refine a7 rfl (lZ rfl) (a7 rfl (bq CI a0h (am bI (am aj (am bI bj))) (aI rfl bI rfl rfl (Nat.le_of_ble_eq_true rfl) SetL.eq (aI rfl aj rfl rfl (Nat.le_of_ble_eq_true rfl) SetL.eq (aI rfl bI rfl rfl (Nat.le_of_ble_eq_true rfl) SetL.eq bi)))) ?_)
 refine aE 3 (aF qw rfl rfl rfl rfl rfl) ?_
 refine bY (.cons (cg we qw rfl rfl) .nil) ?_
 refine aR ?_
 rw [tT, jZ, k0, hrr, ec, ← yF]
 rfl
theorem Hn (b : Nat) (h : CsOk cs) : sQ W0 208 [pV b] (pt b (dH cs id) :: R) (.bool (dO cs 1 != 0)) (pt b (dH cs id) :: R) := by
 refine ai 8 func208 ntmps208 ?_
 refine ar 2 (ao wK rfl (tQ b h)) ?_
 refine cp rfl rfl rfl (fun g1_4 => ?_) fun g1_4 => ?_
 ·refine au 6 ?_
  refine a7 rfl (dI kt bE rfl rfl (i := 1) rfl (by decide) (by first | exact Nat.zero_add _ | rfl)) ?_
  refine cP rfl rfl ?_
  refine a7 rfl (aA ia rfl (aN (rM h (n := 1) (by decide)))) ?_
  refine cP rfl rfl (a7 rfl (n1 rfl rfl) (a7 rfl (kP rfl rfl) (a7 rfl (bR rfl) (au 3 ?_))))
  refine bT (.inl rfl) (.cons (bK rfl) .nil) ?_
  exact ⟨_, ⟨congrArg Value.bool (yF _), rfl⟩, inferInstance⟩
 exact absurd (by decide) g1_4
theorem Vt (b : Nat) (h : CsOk cs) : sQ W0 139 [pV b] (pt b (dH cs id) :: R) (.bool (rh cs)) (pt b (dH cs id) :: R) := by
 obtain ⟨z, hz⟩ : ∃ z, (dO cs 1 != 0) = z := ⟨_, rfl⟩
 refine ai 8 func139 ntmps139 ?_
 refine aM (ao call208 rfl (Hn b h)) ?_
 rw [hz]
 refine a7 rfl (aH rfl) ?_
 refine cp rfl rfl rfl (fun g1_3 => ?_) fun g1_3 => ?_
 ·rw [show rh cs = pN cs 1 by rw [rh, hz, g1_3, Bool.true_and]]
  refine au 2 ?_
  refine ar 5 (ao Dg rfl (yG b h 1 (by decide))) ?_
  exact ae aL
 rw [show rh cs = false by rw [rh, hz, show z = false by simpa using g1_3, Bool.false_and]]
 refine au 6 ?_
 exact ae aL
def C2 (f0 t0 f1 t1 : Nat) : List Value := [wV f0, wV t0, wV f1, wV t1]
theorem Vu (b b3 b6 s f t : Nat) (h : CsOk cs) (hf : f < 4294967296) (hs : s < 4294967296) (ht : t < 4294967296) : sQ W0 278 [wV f, wV t, pV b3, pV b6] (pt b3 (ac [pV b] 93) :: pt b6 (ac [wV s] 37) :: pt b (dH cs id) :: R) (.tuple #[]) (pt b3 (ac [pV b] 93) :: pt b6 (ac [wV (nt cs s f t)] 37) :: pt b (dH cs id) :: R) := by
 refine ai 4 func278 ntmps278 ?_
 refine ar 2 (ao Dg rfl (yG b h f hf)) ?_
 refine a8 rfl (fun c0 => ?_) fun c0 => ?_
 ·rw [nt, if_pos c0]
  refine au 3 ?_
  refine a7 rfl (show cy _ _ _ _ _ (wV (s ||| t)) from nY rfl rfl (uK hs ht)) ?_
  refine o9 (bA bE rfl rfl rfl (Nat.le_of_ble_eq_true rfl) SetL.eq) ?_
  refine bX (bT (.inr rfl) .nil ?_)
  exact ⟨_, ⟨rfl, rfl⟩, inferInstance⟩
 rw [nt, if_neg c0]
 refine iF (bT (.inr rfl) .nil ?_)
 exact ⟨_, ⟨rfl, rfl⟩, inferInstance⟩
def tU (cs : List Nat) (s f0 t0 f1 t1 : Nat) : Nat → Nat
  | 0 => s
  | 1 => nt cs s f0 t0
  | _ => nu cs s f0 t0 f1 t1
theorem Ho (W0 : World) (R : List HP) (b s f0 t0 f1 t1 : Nat) (h : CsOk cs) (hs : s < 4294967296) (h0 : f0 < 4294967296) (h1 : t0 < 4294967296) (h2 : f1 < 4294967296) (h3 : t1 < 4294967296) : sQ W0 212 [pV b, wV s, .agg (C2 f0 t0 f1 t1).toArray] (pt b (dH cs id) :: R) (.tuple #[]) (pt b (dH (cs.set 5 (nu cs s f0 t0 f1 t1)) id) :: R) := by
 have hlt : ∀ k, tU cs s f0 t0 f1 t1 k < 4294967296 := fun k => by
  match k with
  | 0 => exact hs
  | 1 => exact AO hs h1
  | k + 2 => exact AP hs h1 h3
 refine ai 2 func212 ntmps212 ?_
 refine ax (ik rfl rfl) fun b3 => ?_
 refine ax (aV rfl) fun b5 => ?_
 refine au 5 ?_
 refine ax (o8 a0i rfl) fun b6 => ?_
 refine aE 4 (bA bE rfl rfl rfl (Nat.le_of_ble_eq_true rfl) SetL.eq) ?_
 refine a7 rfl (dM rfl rfl) ?_
 refine a7 rfl (bR rfl) (au 5 ?_)
 refine a7 rfl (kS isAgg344 sizeOf344 rfl rfl) ?_
 refine a7 rfl (aH rfl) (au 3 ?_)
 refine ge (fun k : Nat => k ≤ 2) (fun k => [(3, pV b3), (6, pV b6), (7, .func (.func 278) #[] #[pV b3, pV b6]), (12, .agg (C2 f0 t0 f1 t1).toArray), (13, .int .i64 k)]) (fun k => pt b3 (ac [pV b] 93) :: pt b6 (ac [wV (tU cs s f0 t0 f1 t1 k)] 37) :: pt b (dH cs id) :: R) (fun k => 2 - k) 0 ?_ ?_ ?_ ?_
 ·exact Nat.zero_le _
 ·repeat (first | exact dy | refine db rfl ?_)
 ·exact (show Ent _ (pt b3 (ac [pV b] 93) :: pt b6 (ac [wV s] 37) :: pt b (dH cs id) :: R) from inferInstance)
 intro k hk
 refine au 6 ?_
 refine a8 rfl (fun c4 => ?_) fun c4 => ?_
 ·refine au 5 ?_
  have hk2 : k < 2 := by omega
  obtain ⟨x, y, hx, hy, hxy, hstep⟩ : ∃ x y, x < 4294967296 ∧ y < 4294967296 ∧ ((C2 f0 t0 f1 t1).toArray.extract (k * 2) (k * 2 + 2) = [wV x, wV y].toArray) ∧ nt cs (tU cs s f0 t0 f1 t1 k) x y = tU cs s f0 t0 f1 t1 (k + 1) := by
   match k, hk2 with
   | 0, _ => exact ⟨f0, t0, h0, h1, rfl, rfl⟩
   | 1, _ => exact ⟨f1, t1, h2, h3, rfl, rfl⟩
  refine bQ (a7 rfl (Hh Kf isAgg343 Dh rfl rfl rfl hk2 hxy) ?_)
  refine ax (aS zK) fun b9 => ?_
  refine aE 4 (aF Dh rfl rfl rfl rfl rfl) ?_
  refine a7 rfl (dI wL bE rfl rfl (i := 0) rfl (by decide) (by first | exact Nat.zero_add _ | rfl)) ?_
  refine a7 rfl (aA ia rfl (aN rfl)) ?_
  refine a7 rfl (dI wL bE rfl rfl (i := 1) rfl (by decide) (by first | exact Nat.zero_add _ | rfl)) ?_
  refine a7 rfl (aA ia rfl (aN rfl)) ?_
  refine aM (iK pF (gF (us := []) (cs := [pV b3, pV b6]) rfl call278 rfl (Vu b b3 b6 (tU cs s f0 t0 f1 t1 k) x y h hx (hlt k) hy))) ?_
  rw [hstep]
  refine au 4 ?_
  refine ap 3 (cM rfl rfl) ?_
  exact bZ (k + 1) (by omega)
 refine au 5 ?_
 obtain rfl : k = 2 := by omega
 refine aU [(b3, 0, _), (b6, 0, _)] 6 aT rfl (aa (aa ag)) (fun hS => ?_)
 refine ah 0 4 hS ?_
 refine av 4 rfl rfl rfl hS (dI kt bE rfl rfl (i := 5) rfl (by decide) (by first | exact Nat.zero_add _ | rfl)) ?_
 refine bU 5 rfl rfl (bA bE rfl rfl rfl (by rw [vK h]; decide) (vL (n := 5) h.len (by decide))) (aa (aa ag)) fun hS => ?_
 refine aK ?_
 refine bT (.inr rfl) .nil ?_
 exact ⟨_, ⟨rfl, rfl⟩, (show Ent _ (pt b (dH (cs.set 5 (tU cs s f0 t0 f1 t1 2)) id) :: R) from inferInstance)⟩
theorem Hq (b pc cause tval : Nat) (h : CsOk cs) (h1 : pc < 4294967296) (h2 : cause < 4294967296) (h3 : tval < 4294967296) : sQ W0 141 [pV b, wV pc, wV cause, wV tval] (pt b (dH cs id) :: R) (.tuple #[wV (dO cs 1), .int .i64 0]) (pt b (dH (ri cs pc cause tval) id) :: R) := by
 have ht := h.trap h1 h2 h3
 have he := h.enter h1 h2 h3
 have e1 : dO (ri cs pc cause tval) 1 = dO cs 1 := by simp [ri, oE, dO, List.getD_eq_getElem?_getD]
 refine ai 10 func141 ntmps141 ?_
 refine ar 2 (ao wK rfl (tQ b h)) ?_
 refine a8 rfl (fun c1 => ?_) fun c1 => ?_
 ·exact absurd c1 (by decide)
 refine au 3 ?_
 refine aU [] 18 aT rfl ag (fun hS => ?_)
 refine ah 0 8 hS ?_
 refine av 8 rfl rfl rfl hS (dI kt bE rfl rfl (i := 2) rfl (by decide) (by first | exact Nat.zero_add _ | rfl)) ?_
 refine ah 10 2 hS ?_
 refine ah 14 2 hS ?_
 refine bU 9 rfl rfl (bA bE rfl rfl rfl (by rw [vK h]; decide) (vL (n := 2) h.len (by decide))) ag fun hS => ?_
 refine av 12 rfl rfl rfl hS (dI kt bE rfl rfl (i := 3) rfl (by decide) (by first | exact Nat.zero_add _ | rfl)) ?_
 refine bU 13 rfl rfl (bA bE rfl rfl rfl (by rw [vK (h.set 2 pc h1)]; decide) (vL (n := 3) (h.set 2 pc h1).len (by decide))) ag fun hS => ?_
 refine av 16 rfl rfl rfl hS (dI kt bE rfl rfl (i := 4) rfl (by decide) (by first | exact Nat.zero_add _ | rfl)) ?_
 refine bU 17 rfl rfl (bA bE rfl rfl rfl (by rw [vK ((h.set 2 pc h1).set 3 cause h2)]; decide) (vL (n := 4) ((h.set 2 pc h1).set 3 cause h2).len (by decide))) ag fun hS => ?_
 refine aK ?_
 refine au 4 ?_
 refine a7 rfl (xv wL bE zK rfl rfl rfl rfl) ?_
 refine a7 rfl (xv wL bE zK rfl rfl rfl rfl) ?_
 refine a7 rfl (Hj (rs := [[wV 1, wV 2], [wV 4, wV 8]]) Kf Dh a0j (eW rfl rfl (eW rfl rfl gZ)) rfl) ?_
 refine aM (ao call212 rfl (Ho (cs := oE cs pc cause tval) W0 _ b 4 1 2 4 8 ht (by decide) (by decide) (by decide) (by decide) (by decide))) ?_
 rw [Qo, show (oE cs pc cause tval).set 5 (nu cs 4 1 2 4 8) = ri cs pc cause tval from rfl]
 refine au 7 ?_
 refine a7 rfl (dI kt bE rfl rfl (i := 1) rfl (by decide) (by first | exact Nat.zero_add _ | rfl)) ?_
 refine ap 5 (aA ia rfl (aN (rM he (n := 1) (by decide)))) ?_
 refine aJ ?_
 rw [e1]
 exact ⟨_, ⟨rfl, rfl⟩, inferInstance⟩
theorem Vv (b : Nat) (h : CsOk cs) : sQ W0 390 [pV b] (pt b (dH cs id) :: R) (.tuple #[wV (dO cs 2), .int .i64 0]) (pt b (dH (pO cs) id) :: R) := by
 have hl := h.leave
 have e1 : dO (pO cs) 2 = dO cs 2 := by simp [pO, dO, List.getD_eq_getElem?_getD]
 have hs : dO cs 5 &&& 10 < 4294967296 := Nat.lt_of_le_of_lt Nat.and_le_left (h.at_ 5)
 refine ai 10 func390 ntmps390 ?_
 refine ar 2 (ao wK rfl (tQ b h)) ?_
 refine a8 rfl (fun c1 => ?_) fun c1 => ?_
 ·exact absurd c1 (by decide)
 refine au 7 ?_
 refine a7 rfl (dI kt bE rfl rfl (i := 5) rfl (by decide) (by first | exact Nat.zero_add _ | rfl)) ?_
 refine a7 rfl (aA ia rfl (aN (rM h (n := 5) (by decide)))) ?_
 refine ap 7 (fJ rfl rfl (lD (h.at_ 5) (by decide) (b := 10))) ?_
 refine a7 rfl (xv wL bE zK rfl rfl rfl rfl) ?_
 refine a7 rfl (xv wL bE zK rfl rfl rfl rfl) ?_
 refine a7 rfl (Hj (rs := [[wV 2, wV 1], [wV 8, wV 4]]) Kf Dh a0j (eW rfl rfl (eW rfl rfl gZ)) rfl) ?_
 refine aM (ao call212 rfl (Ho W0 _ b (dO cs 5 &&& 10) 2 1 8 4 h hs (by decide) (by decide) (by decide) (by decide))) ?_
 rw [show cs.set 5 (nu cs (dO cs 5 &&& 10) 2 1 8 4) = pO cs from rfl]
 refine au 7 ?_
 refine a7 rfl (dI kt bE rfl rfl (i := 2) rfl (by decide) (by first | exact Nat.zero_add _ | rfl)) ?_
 refine ap 5 (aA ia rfl (aN (rM hl (n := 2) (by decide)))) ?_
 refine aJ ?_
 rw [e1]
 exact ⟨_, ⟨rfl, rfl⟩, inferInstance⟩
end
theorem C3 (a : Nat) : IntKind.wrap .i32 (a : Int) = mD a := rfl
section
variable (W0 : World) (R : List HP) (a b : Nat)
theorem Vw : sQ W0 414 [.agg #[wV a, wV b]] R (wV (u32 ((a : Int) + b))) R := by
 refine ai 2 func414 ntmps414 ?_
 refine ax (aV rfl) fun b1 => ?_
 refine au 9 ?_
 refine ap 4 (bO rfl rfl (eD _)) ?_
 exact ae aL
theorem Vx : sQ W0 415 [.agg #[wV a, wV b]] R (wV (u32 ((a : Int) - b))) R := by
 refine ai 2 func415 ntmps415 ?_
 refine ax (aV rfl) fun b1 => ?_
 refine au 9 ?_
 refine ap 4 (cZ rfl rfl (eD _)) ?_
 exact ae aL
theorem Vy (ha : a < 4294967296) (hb : b < 4294967296) : sQ W0 408 [.agg #[wV a, wV b]] R (wV (a &&& b)) R := by
 refine ai 2 func408 ntmps408 ?_
 refine ax (aV rfl) fun b1 => ?_
 refine au 9 ?_
 refine ap 4 (fJ rfl rfl (lD ha hb)) ?_
 exact ae aL
theorem Vz (ha : a < 4294967296) (hb : b < 4294967296) : sQ W0 409 [.agg #[wV a, wV b]] R (wV (a ||| b)) R := by
 refine ai 2 func409 ntmps409 ?_
 refine ax (aV rfl) fun b1 => ?_
 refine au 9 ?_
 refine ap 4 (nY rfl rfl (uK ha hb)) ?_
 exact ae aL
theorem VA : nW .u32 (a : Int) (b : Int) = ((u32 (nW .u32 (a : Int) (b : Int)) : Nat) : Int) := by
 have : nW .u32 (a : Int) (b : Int) = IntKind.wrap .u32 (nW .u32 (a : Int) (b : Int)) := by
  unfold nW
  rw [eD, eD]
  have := dF ((BitVec.ofInt (IntKind.bits .u32) (a : Int) ^^^ BitVec.ofInt (IntKind.bits .u32) (b : Int)).toNat : Int)
  rw [t6 this]
 rw [this, eD, t6 (dF _)]
theorem VB : sQ W0 410 [.agg #[wV a, wV b]] R (wV (u32 (nW .u32 (a : Int) (b : Int)))) R := by
 refine ai 2 func410 ntmps410 ?_
 refine ax (aV rfl) fun b1 => ?_
 refine au 9 ?_
 refine ap 4 (KF rfl rfl (VA a b)) ?_
 exact ae aL
theorem Hr (x n : Int) : ig .u32 x n = ((u32 (ig .u32 x n) : Nat) : Int) := by
 have : ig .u32 x n = IntKind.wrap .u32 (ig .u32 x n) := by
  unfold ig
  rw [eD, eD, t6 (dF _)]
 rw [this, eD, t6 (dF _)]
theorem VC : sQ W0 411 [.agg #[wV a, wV b]] R (wV (u32 (ig .u32 (a : Int) ((b % 32 : Nat) : Int)))) R := by
 refine ai 2 func411 ntmps411 ?_
 refine ax (aV rfl) fun b1 => ?_
 refine au 9 ?_
 refine a7 rfl (ku rfl rfl (by decide) (oe b 32)) ?_
 refine ap 4 (n0 rfl rfl (by omega) (Hr _ _)) ?_
 exact ae aL
theorem VD : sQ W0 412 [.agg #[wV a, wV b]] R (wV (a / 2 ^ (b % 32))) R := by
 have h32 : b % 32 ≤ (IntKind.bits .u32) := by
  have := Nat.mod_lt b (show 0 < 32 by decide)
  show b % 32 ≤ 32
  omega
 refine ai 2 func412 ntmps412 ?_
 refine ax (aV rfl) fun b1 => ?_
 refine au 9 ?_
 refine a7 rfl (ku rfl rfl (by decide) (oe b 32)) ?_
 refine ap 4 (jC rfl rfl (by omega) (lE (k := .u32) (s := b % 32) h32)) ?_
 exact ae aL
theorem VE : sQ W0 413 [.agg #[wV a, wV b]] R (wV (u32 (kQ .i32 (mD a) ((b % 32 : Nat) : Int)))) R := by
 refine ai 2 func413 ntmps413 ?_
 refine ax (aV rfl) fun b1 => ?_
 refine au 7 ?_
 refine ap 2 (cX dk pq rfl (C3 a)) ?_
 refine a7 rfl (ku rfl rfl (by decide) (oe b 32)) ?_
 refine a7 rfl (jC rfl rfl (by omega) rfl) ?_
 refine ap 4 (cX pq dk rfl (eD _)) ?_
 exact ae aL
theorem VF : sQ W0 416 [.agg #[wV a, wV b]] R (wV (u32 ((a : Int) * b))) R := by
 refine ai 2 func416 ntmps416 ?_
 refine ax (aV rfl) fun b1 => ?_
 refine au 9 ?_
 refine ap 4 (iH rfl rfl (eD _)) ?_
 exact ae aL
theorem Hs (x : Bool) : sQ W0 419 [.bool x] R (wV (oD x)) R := by
 refine ai 11 func419 ntmps419 ?_
 refine a8 rfl (fun c1 => ?_) fun c1 => ?_
 ·rw [show oD x = 1 by rw [c1]; rfl]
  refine au 7 ?_
  exact ae aL
 rw [show oD x = 0 by rw [show x = false by simpa using c1]; rfl]
 refine au 8 ?_
 exact ae aL
theorem Ht : sQ W0 388 [.agg #[wV a, wV b]] R (wV (oD (decide (mD a < mD b)))) R := by
 refine ai 2 func388 ntmps388 ?_
 refine ax (aV rfl) fun b1 => ?_
 refine au 7 ?_
 refine ap 2 (cX dk pq rfl (C3 a)) ?_
 refine a7 rfl (cX dk pq rfl (C3 b)) ?_
 refine a7 rfl (kR rfl rfl) (ar 4 (aD call419 rfl (Hs W0 _ (decide (mD a < mD b)))) ?_)
 exact ae aL
theorem Hu : (decide ((a : Int) < (b : Int))) = decide (a < b) := by
 apply decide_eq_decide.2; omega
theorem Hv : sQ W0 389 [.agg #[wV a, wV b]] R (wV (oD (decide (a < b)))) R := by
 rw [← Hu]
 refine ai 2 func389 ntmps389 ?_
 refine ax (aV rfl) fun b1 => ?_
 refine a7 rfl (bR rfl) (au 4 ?_)
 refine a7 rfl (dp rfl qA rfl bE rfl (by first | exact Nat.zero_add _ | rfl)) ?_
 refine a7 rfl (aA ia rfl (aN rfl)) ?_
 refine a7 rfl (dp rfl qA rfl bE rfl (by first | exact Nat.zero_add _ | rfl)) ?_
 refine a7 rfl (aA ia rfl (aN rfl)) ?_
 refine a7 rfl (kR rfl rfl) (aB rfl (aD call419 rfl (Hs W0 _ (decide ((a : Int) < (b : Int))))) ?_)
 rintro _ B_ ⟨rfl, hB_⟩
 obtain rfl := hB_.symm
 refine a7 rfl (bR rfl) (au 3 ?_)
 exact ae aL
theorem VG (ha : a < 4294967296) : sQ W0 417 [.agg #[wV a, wV b]] R (wV (if b = 0 then 4294967295 else a / b)) R := by
 have hq : a / b < 4294967296 := Nat.lt_of_le_of_lt (Nat.div_le_self _ _) ha
 refine ai 2 func417 ntmps417 ?_
 refine ax (aV rfl) fun b1 => ?_
 refine a7 rfl (bR rfl) (au 5 ?_)
 refine a7 rfl (dp rfl qA rfl bE rfl (by first | exact Nat.zero_add _ | rfl)) ?_
 refine a7 rfl (aA ia rfl (aN rfl)) ?_
 refine a7 rfl (lY rfl rfl) (au 2 ?_)
 refine a8 rfl (fun c1 => ?_) fun c1 => ?_
 ·refine au 7 ?_
  refine ae ?_
  rw [if_pos (by omega)]
  exact ⟨_, ⟨rfl, rfl⟩, inferInstance⟩
 refine au 3 ?_
 have hb0 : b ≠ 0 := by omega
 rw [if_neg hb0]
 refine au 5 ?_
 refine ap 4 (qE rfl rfl (by omega) (by rw [uL]; exact eA ⟨Int.natCast_nonneg _, Int.ofNat_lt.2 hq⟩ : IntKind.wrap .u32 (Int.tdiv (a : Int) (b : Int)) = ((a / b : Nat) : Int))) ?_
 exact ae aL
theorem VH (ha : a < 4294967296) : sQ W0 418 [.agg #[wV a, wV b]] R (wV (if b = 0 then a else a % b)) R := by
 refine ai 2 func418 ntmps418 ?_
 refine ax (aV rfl) fun b1 => ?_
 refine a7 rfl (bR rfl) (au 5 ?_)
 refine a7 rfl (dp rfl qA rfl bE rfl (by first | exact Nat.zero_add _ | rfl)) ?_
 refine a7 rfl (aA ia rfl (aN rfl)) ?_
 refine a7 rfl (lY rfl rfl) (au 2 ?_)
 refine a8 rfl (fun c1 => ?_) fun c1 => ?_
 ·refine au 9 ?_
  refine ae ?_
  rw [if_pos (by omega)]
  exact ⟨_, ⟨rfl, rfl⟩, inferInstance⟩
 refine au 3 ?_
 have hb0 : b ≠ 0 := by omega
 rw [if_neg hb0]
 refine au 5 ?_
 refine ap 4 (ku rfl rfl (by omega) (oe a b)) ?_
 exact ae aL
def C4 (f : FuncId) (op : Nat) : Prop := (∀ args w, (callFunc f args).run Tryz.prog w = .ok (.enter f args) w) ∧ ∀ R, bN Tryz.prog W0 f ([] ++ [.agg #[wV a, wV b]] ++ []) R (fun v B => v = wV (lH op a b) ∧ B = R)
theorem lR {f : FuncId} {op n : Nat} (hc : ∀ args w, (callFunc f args).run Tryz.prog w = .ok (.enter f args) w) (e : lH op a b = n) (h : ∀ R, bN Tryz.prog W0 f [.agg #[wV a, wV b]] R (fun v B => v = wV n ∧ B = R)) : C4 W0 a b f op := ⟨hc, by rw [e]; exact h⟩
theorem VI (op : Nat) (h : 3 ≤ op ∧ op ≤ 8) (ha : a < 4294967296) (hb : b < 4294967296) : sP W0 386 [.int .i64 op] R (fun v B => ∃ f, v = .func (.func f) #[] #[] ∧ B = R ∧ C4 W0 a b f op) := by
 refine ai 18 func386 ntmps386 ?_
 refine a8 rfl (fun c2 => ?_) fun c2 => ?_
 ·refine au 8 ?_
  refine ae ?_
  obtain rfl : op = 3 := by omega
  exact ⟨_, ⟨_, rfl, rfl, lR W0 a b call408 rfl fun R => Vy W0 R a b ha hb⟩, inferInstance⟩
 refine au 6 ?_
 refine a8 rfl (fun c4 => ?_) fun c4 => ?_
 ·refine au 8 ?_
  refine ae ?_
  obtain rfl : op = 4 := by omega
  exact ⟨_, ⟨_, rfl, rfl, lR W0 a b call409 rfl fun R => Vz W0 R a b ha hb⟩, inferInstance⟩
 refine au 6 ?_
 refine a8 rfl (fun c6 => ?_) fun c6 => ?_
 ·refine au 8 ?_
  refine ae ?_
  obtain rfl : op = 5 := by omega
  exact ⟨_, ⟨_, rfl, rfl, lR W0 a b call410 rfl fun R => VB W0 R a b⟩, inferInstance⟩
 refine au 6 ?_
 refine a8 rfl (fun c8 => ?_) fun c8 => ?_
 ·refine au 8 ?_
  refine ae ?_
  obtain rfl : op = 6 := by omega
  exact ⟨_, ⟨_, rfl, rfl, lR W0 a b call411 rfl fun R => VC W0 R a b⟩, inferInstance⟩
 refine au 6 ?_
 refine a8 rfl (fun c10 => ?_) fun c10 => ?_
 ·refine au 8 ?_
  refine ae ?_
  obtain rfl : op = 7 := by omega
  exact ⟨_, ⟨_, rfl, rfl, lR W0 a b call412 rfl fun R => VD W0 R a b⟩, inferInstance⟩
 refine au 9 ?_
 refine ae ?_
 obtain rfl : op = 8 := by omega
 exact ⟨_, ⟨_, rfl, rfl, lR W0 a b call413 rfl fun R => VE W0 R a b⟩, inferInstance⟩
theorem Hw (op : Nat) (h : 1 ≤ op ∧ op ≤ 13 ∧ (op < 3 ∨ 8 < op)) (ha : a < 4294967296) : sP W0 387 [.int .i64 op] R (fun v B => ∃ f, v = .func (.func f) #[] #[] ∧ B = R ∧ C4 W0 a b f op) := by
 refine ai 18 func387 ntmps387 ?_
 refine a8 rfl (fun c2 => ?_) fun c2 => ?_
 ·refine au 8 ?_
  refine ae ?_
  obtain rfl : op = 1 := by omega
  exact ⟨_, ⟨_, rfl, rfl, lR W0 a b call414 rfl fun R => Vw W0 R a b⟩, inferInstance⟩
 refine au 6 ?_
 refine a8 rfl (fun c4 => ?_) fun c4 => ?_
 ·refine au 8 ?_
  refine ae ?_
  obtain rfl : op = 2 := by omega
  exact ⟨_, ⟨_, rfl, rfl, lR W0 a b call415 rfl fun R => Vx W0 R a b⟩, inferInstance⟩
 refine au 6 ?_
 refine a8 rfl (fun c6 => ?_) fun c6 => ?_
 ·refine au 8 ?_
  refine ae ?_
  obtain rfl : op = 9 := by omega
  exact ⟨_, ⟨_, rfl, rfl, lR W0 a b call388 rfl fun R => Ht W0 R a b⟩, inferInstance⟩
 refine au 6 ?_
 refine a8 rfl (fun c8 => ?_) fun c8 => ?_
 ·refine au 8 ?_
  refine ae ?_
  obtain rfl : op = 10 := by omega
  exact ⟨_, ⟨_, rfl, rfl, lR W0 a b call389 rfl fun R => Hv W0 R a b⟩, inferInstance⟩
 refine au 6 ?_
 refine a8 rfl (fun c10 => ?_) fun c10 => ?_
 ·refine au 8 ?_
  refine ae ?_
  obtain rfl : op = 11 := by omega
  exact ⟨_, ⟨_, rfl, rfl, lR W0 a b call416 rfl fun R => VF W0 R a b⟩, inferInstance⟩
 refine au 6 ?_
 refine a8 rfl (fun c12 => ?_) fun c12 => ?_
 ·refine au 8 ?_
  refine ae ?_
  obtain rfl : op = 12 := by omega
  exact ⟨_, ⟨_, rfl, rfl, lR W0 a b call417 rfl fun R => VG W0 R a b ha⟩, inferInstance⟩
 refine au 9 ?_
 refine ae ?_
 obtain rfl : op = 13 := by omega
 exact ⟨_, ⟨_, rfl, rfl, lR W0 a b call418 rfl fun R => VH W0 R a b ha⟩, inferInstance⟩
theorem Hy (op : Nat) (h : 1 ≤ op ∧ op ≤ 13) (ha : a < 4294967296) (hb : b < 4294967296) : sQ W0 342 [.int .i64 op, wV a, wV b] R (.tuple #[wV (lH op a b), .int .i64 0]) R := by
 refine ai 16 func342 ntmps342 ?_
 refine a8 rfl (fun c1 => ?_) fun c1 => ?_
 ·omega
 refine au 6 ?_
 refine a8 rfl (fun c2 => ?_) fun c2 => ?_
 ·omega
 refine au 5 ?_
 refine cp rfl rfl rfl (fun g4_3 => ?_) fun g4_3 => ?_
 ·refine au 7 ?_
  refine a8 rfl (fun c4 => ?_) fun c4 => ?_
  ·refine au 3 ?_
   refine aB rfl (aD call386 rfl (VI W0 _ a b op (by omega) ha hb)) ?_
   rintro _ B_ ⟨f, rfl, hB_, hf⟩
   obtain rfl := hB_.symm
   refine au 2 ?_
   refine a7 rfl (bq qA zL (am bE (am bE bj)) (aI rfl bE rfl rfl (Nat.le_of_ble_eq_true rfl) SetL.eq (aI rfl bE rfl rfl (Nat.le_of_ble_eq_true rfl) SetL.eq bi))) ?_
   refine ar 7 (gF (us := []) (cs := []) rfl hf.1 rfl (hf.2 _)) ?_
   exact aJ aL
  refine au 6 ?_
  refine aB rfl (aD call387 rfl (Hw W0 _ a b op (by omega) ha)) ?_
  rintro _ B_ ⟨f, rfl, hB_, hf⟩
  obtain rfl := hB_.symm
  refine au 2 ?_
  refine a7 rfl (bq qA zL (am bE (am bE bj)) (aI rfl bE rfl rfl (Nat.le_of_ble_eq_true rfl) SetL.eq (aI rfl bE rfl rfl (Nat.le_of_ble_eq_true rfl) SetL.eq bi))) ?_
  refine ar 5 (gF (us := []) (cs := []) rfl hf.1 rfl (hf.2 _)) ?_
  exact aJ aL
 refine au 12 ?_
 refine aB rfl (aD call387 rfl (Hw W0 _ a b op (by omega) ha)) ?_
 rintro _ B_ ⟨f, rfl, hB_, hf⟩
 obtain rfl := hB_.symm
 refine au 2 ?_
 refine a7 rfl (bq qA zL (am bE (am bE bj)) (aI rfl bE rfl rfl (Nat.le_of_ble_eq_true rfl) SetL.eq (aI rfl bE rfl rfl (Nat.le_of_ble_eq_true rfl) SetL.eq bi))) ?_
 refine ar 5 (gF (us := []) (cs := []) rfl hf.1 rfl (hf.2 _)) ?_
 exact aJ aL
theorem Hz (p : Bool) : (((oD p : Nat) : Int) == 1) = p := by cases p <;> rfl
theorem HA : (((a : Nat) : Int) == ((b : Nat) : Int)) = decide (a = b) := by
 rw [Bool.eq_iff_iff, beq_iff_eq, decide_eq_true_iff]; omega
theorem VJ : (((a : Nat) : Int) != ((b : Nat) : Int)) = decide (a ≠ b) := by
 rw [Bool.eq_iff_iff, bne_iff_ne, decide_eq_true_iff]; omega
theorem VK (op : Nat) (h : 28 ≤ op ∧ op ≤ 31) : sQ W0 349 [.int .i64 op, wV a, wV b] R (.tuple #[.bool (uZ op a b), .int .i64 0]) R := by
 refine ai 10 func349 ntmps349 ?_
 refine a7 rfl (bq qA zL (am bE (am bE bj)) (aI rfl bE rfl rfl (Nat.le_of_ble_eq_true rfl) SetL.eq (aI rfl bE rfl rfl (Nat.le_of_ble_eq_true rfl) SetL.eq bi))) ?_
 refine ax (aS zL) fun b8 => ?_
 refine aE 15 (aF sizeOf484 rfl rfl rfl rfl rfl) ?_
 refine a8 rfl (fun c3 => ?_) fun c3 => ?_
 ·refine au 2 ?_
  refine a7 rfl (aH rfl) (a7 rfl (aH rfl) (a7 rfl (lY rfl rfl) (a7 rfl (bR rfl) (a7 rfl (bR rfl) (au 5 ?_)))))
  refine bT (.inl rfl) (.cons (bK rfl) (.cons (bK rfl) .nil)) ?_
  obtain rfl : op = 28 := by omega
  exact ⟨_, ⟨by rw [HA]; rfl, rfl⟩, inferInstance⟩
 refine au 6 ?_
 refine a8 rfl (fun c5 => ?_) fun c5 => ?_
 ·refine au 2 ?_
  refine a7 rfl (aH rfl) (a7 rfl (aH rfl) (a7 rfl (n1 rfl rfl) (a7 rfl (bR rfl) (a7 rfl (bR rfl) (au 5 ?_)))))
  refine bT (.inl rfl) (.cons (bK rfl) (.cons (bK rfl) .nil)) ?_
  obtain rfl : op = 29 := by omega
  exact ⟨_, ⟨by rw [VJ]; rfl, rfl⟩, inferInstance⟩
 refine au 6 ?_
 refine a8 rfl (fun c7 => ?_) fun c7 => ?_
 ·refine au 3 ?_
  refine aB rfl (aD call388 rfl (Ht W0 _ a b)) ?_
  rintro _ B_ ⟨rfl, hB_⟩
  obtain rfl := hB_.symm
  refine a7 rfl (lY rfl rfl) (a7 rfl (bR rfl) (a7 rfl (bR rfl) (au 5 ?_)))
  refine bT (.inl rfl) (.cons (bK rfl) (.cons (bK rfl) .nil)) ?_
  obtain rfl : op = 30 := by omega
  exact ⟨_, ⟨by rw [Hz]; rfl, rfl⟩, inferInstance⟩
 refine au 6 ?_
 refine a8 rfl (fun c9 => ?_) fun c9 => ?_
 ·refine au 3 ?_
  refine aB rfl (aD call389 rfl (Hv W0 _ a b)) ?_
  rintro _ B_ ⟨rfl, hB_⟩
  obtain rfl := hB_.symm
  refine a7 rfl (lY rfl rfl) (a7 rfl (bR rfl) (a7 rfl (bR rfl) (au 5 ?_)))
  refine bT (.inl rfl) (.cons (bK rfl) (.cons (bK rfl) .nil)) ?_
  obtain rfl : op = 31 := by omega
  exact ⟨_, ⟨by rw [Hz]; rfl, rfl⟩, inferInstance⟩
 omega
theorem VL (op : Nat) (h : 14 ≤ op ∧ op ≤ 21) : sQ W0 346 [.int .i64 op] R (.tuple #[.int .i64 (iq op), .bool true]) R := by
 refine ai 19 func346 ntmps346 ?_
 refine a8 rfl (fun c2 => ?_) fun c2 => ?_
 ·refine au 9 ?_
  refine aJ ?_
  obtain rfl : op = 14 := by omega
  exact ⟨_, ⟨rfl, rfl⟩, inferInstance⟩
 refine au 6 ?_
 refine a8 rfl (fun c4 => ?_) fun c4 => ?_
 ·refine au 9 ?_
  refine aJ ?_
  obtain rfl : op = 21 := by omega
  exact ⟨_, ⟨rfl, rfl⟩, inferInstance⟩
 refine au 7 ?_
 refine a8 rfl (fun c6 => ?_) fun c6 => ?_
 ·refine au 6 ?_
  refine a7 rfl (cZ rfl rfl (aG (by omega))) ?_
  refine ap 7 (bO rfl rfl (by rw [aG (by omega), iq, if_neg (by omega), if_neg (by omega)]; omega : IntKind.wrap .i64 (((op : Int) - 15) + 3) = ((iq op : Nat) : Int))) ?_
  exact aJ aL
 refine au 6 ?_
 refine a8 rfl (fun c7 => ?_) fun c7 => ?_
 ·refine au 6 ?_
  refine a7 rfl (cZ rfl rfl (aG (by omega))) ?_
  refine ap 7 (bO rfl rfl (by rw [aG (by omega), iq, if_neg (by omega), if_neg (by omega)]; omega : IntKind.wrap .i64 (((op : Int) - 15) + 3) = ((iq op : Nat) : Int))) ?_
  exact aJ aL
 refine au 6 ?_
 refine a8 rfl (fun c8 => ?_) fun c8 => ?_
 ·refine au 6 ?_
  refine a7 rfl (cZ rfl rfl (aG (by omega))) ?_
  refine ap 7 (bO rfl rfl (by rw [aG (by omega), iq, if_neg (by omega), if_neg (by omega)]; omega : IntKind.wrap .i64 (((op : Int) - 15) + 3) = ((iq op : Nat) : Int))) ?_
  exact aJ aL
 refine au 6 ?_
 refine a8 rfl (fun c9 => ?_) fun c9 => ?_
 ·refine au 6 ?_
  refine a7 rfl (cZ rfl rfl (aG (by omega))) ?_
  refine ap 7 (bO rfl rfl (by rw [aG (by omega), iq, if_neg (by omega), if_neg (by omega)]; omega : IntKind.wrap .i64 (((op : Int) - 15) + 3) = ((iq op : Nat) : Int))) ?_
  exact aJ aL
 refine au 6 ?_
 refine a8 rfl (fun c10 => ?_) fun c10 => ?_
 ·refine au 6 ?_
  refine a7 rfl (cZ rfl rfl (aG (by omega))) ?_
  refine ap 7 (bO rfl rfl (by rw [aG (by omega), iq, if_neg (by omega), if_neg (by omega)]; omega : IntKind.wrap .i64 (((op : Int) - 15) + 3) = ((iq op : Nat) : Int))) ?_
  exact aJ aL
 refine au 5 ?_
 refine a8 rfl (fun c11 => ?_) fun c11 => ?_
 ·refine au 3 ?_
  refine a7 rfl (cZ rfl rfl (aG (by omega))) ?_
  refine ap 7 (bO rfl rfl (by rw [aG (by omega), iq, if_neg (by omega), if_neg (by omega)]; omega : IntKind.wrap .i64 (((op : Int) - 15) + 3) = ((iq op : Nat) : Int))) ?_
  exact aJ aL
 omega
theorem VM (im : Int) : sQ W0 347 [.int .i64 im] R (wV (v2 im)) R := by
 refine ai 8 func347 ntmps347 ?_
 refine a7 rfl (cX cW dk rfl (eD im)) ?_
 refine ap 4 (n0 rfl rfl (by decide) (Hr _ _)) ?_
 exact ae aL
end
@[reducible] def rN (i : Ins) : List Value := [.int .i64 i.op, .int .i64 i.d, .int .i64 i.a, .int .i64 i.b, .int .i64 i.im]
def jv : List Value := uY.map fun n => .int .i64 ((n : Nat) : Int)
section
variable {W0 : World}
theorem HB {R : List HP} (hH : ∀ A, bG (aO W0 A) 0 0 jv) {op : Nat} (h : op < 42) : jk (aO W0 R) 0 (op * 1) (.int .i64 ((m6 op : Nat) : Int)) := by
 have h2 : op < uY.length := h
 have := hH R op (.int .i64 ((m6 op : Nat) : Int)) (by
  unfold jv
  rw [List.getElem?_map, List.getElem?_eq_getElem h2]
  simp [m6, List.getD, h2])
 rw [Nat.zero_add] at this
 rw [Nat.mul_one]
 exact this
theorem VN {W0 : World} {R : List HP} (op : Nat) : sQ W0 284 [.int .i64 op] R (.bool (oB op)) R := by
 refine ai 10 func284 ntmps284 ?_
 refine cp rfl rfl rfl (fun g1_3 => ?_) fun g1_3 => ?_
 ·rw [show oB op = decide ((op : Int) ≤ 41) by unfold oB; apply decide_eq_decide.2; omega]
  refine au 8 ?_
  exact ae aL
 rw [show oB op = false by unfold oB; apply decide_eq_false; omega]
 refine au 6 ?_
 exact ae aL
theorem C5 {W0 : World} {R : List HP} (may : Bool) (n : Nat) : sQ W0 285 [.bool may, .int .i64 n] R (.bool (oC may n)) R := by
 cases may with
 | false =>
  refine ai 12 func285 ntmps285 ?_
  refine a8 rfl ?_ ?_
  ·intro c1
   refine au 9 ?_
   refine ae ?_
   exact ⟨_, ⟨congrArg Value.bool (HA n 0), rfl⟩, inferInstance⟩
  ·intro c1
   exact absurd (by decide) c1
 | true =>
  refine ai 12 func285 ntmps285 ?_
  refine a8 rfl (fun c1 => ?_) fun c1 => ?_
  ·exact absurd c1 (by decide)
  refine au 7 ?_
  refine cp rfl rfl rfl (fun g3_3 => ?_) fun g3_3 => ?_
  ·refine au 8 ?_
   refine ae ?_
   exact ⟨_, ⟨congrArg Value.bool (Hu n 16), rfl⟩, inferInstance⟩
  omega
theorem VO : ∀ n, n < 16 → fq .i64 ((n : Nat) : Int) 8 = ((n / 8 % 2 * 8 : Nat) : Int) := by decide +kernel
theorem VP : ∀ n, n < 16 → fq .i64 ((n : Nat) : Int) 1 = ((n % 2 : Nat) : Int) := by decide +kernel
theorem VR : ∀ n, n < 16 → fq .i64 ((n : Nat) : Int) 2 = ((n / 2 % 2 * 2 : Nat) : Int) := by decide +kernel
theorem VS : ∀ n, n < 16 → fq .i64 ((n : Nat) : Int) 4 = ((n / 4 % 2 * 4 : Nat) : Int) := by decide +kernel
theorem VT (n : Nat) : (((n / 2 % 2 * 2 : Nat) : Int) != 0) = (n / 2 % 2 != 0) := by
 rw [Bool.eq_iff_iff, bne_iff_ne, bne_iff_ne]; omega
theorem VU (n : Nat) : (((n / 4 % 2 * 4 : Nat) : Int) != 0) = (n / 4 % 2 != 0) := by
 rw [Bool.eq_iff_iff, bne_iff_ne, bne_iff_ne]; omega
theorem HC : ∀ op, op < 42 → m6 op < 16 := by decide +kernel
theorem VV {W0 : World} {R : List HP} (hH : ∀ A, bG (aO W0 A) 0 0 jv) (op : Nat) (h : op < 42) (n : Int) : sQ W0 286 [.int .i64 op, .int .i64 n] R (.bool (fg op n)) R := by
 have hl := HC op h
 have ha := HB (R := R) hH h
 refine ai 19 func286 ntmps286 ?_
 refine a8 rfl (fun c2 => ?_) fun c2 => ?_
 ·refine au 8 ?_
  refine cp rfl rfl rfl (fun g5_3 => ?_) fun g5_3 => ?_
  ·rw [show fg op n = decide (n ≤ 31) by rw [fg, if_pos (by omega)]; apply decide_eq_decide.2; omega]
   refine au 10 ?_
   exact ae aL
  rw [show fg op n = false by rw [fg, if_pos (by omega)]; apply decide_eq_false; omega]
  refine au 8 ?_
  exact ae aL
 refine au 6 ?_
 refine a8 rfl (fun c3 => ?_) fun c3 => ?_
 ·refine au 8 ?_
  refine cp rfl rfl rfl (fun g5_3 => ?_) fun g5_3 => ?_
  ·rw [show fg op n = decide (n ≤ 31) by rw [fg, if_pos (by omega)]; apply decide_eq_decide.2; omega]
   refine au 10 ?_
   exact ae aL
  rw [show fg op n = false by rw [fg, if_pos (by omega)]; apply decide_eq_false; omega]
  refine au 8 ?_
  exact ae aL
 refine au 5 ?_
 refine a8 rfl (fun c4 => ?_) fun c4 => ?_
 ·refine au 5 ?_
  refine cp rfl rfl rfl (fun g5_3 => ?_) fun g5_3 => ?_
  ·rw [show fg op n = decide (n ≤ 31) by rw [fg, if_pos (by omega)]; apply decide_eq_decide.2; omega]
   refine au 10 ?_
   exact ae aL
  rw [show fg op n = false by rw [fg, if_pos (by omega)]; apply decide_eq_false; omega]
  refine au 8 ?_
  exact ae aL
 refine au 7 ?_
 refine a8 rfl (fun c6 => ?_) fun c6 => ?_
 ·refine au 8 ?_
  refine cp rfl rfl rfl (fun g8_3 => ?_) fun g8_3 => ?_
  ·rw [show fg op n = decide (n < 9) by rw [fg, if_neg (by omega), if_pos (by omega)]; apply decide_eq_decide.2; omega]
   refine au 10 ?_
   exact ae aL
  rw [show fg op n = false by rw [fg, if_neg (by omega), if_pos (by omega)]; apply decide_eq_false; omega]
  refine au 8 ?_
  exact ae aL
 refine au 5 ?_
 refine a8 rfl (fun c7 => ?_) fun c7 => ?_
 ·refine au 5 ?_
  refine cp rfl rfl rfl (fun g8_3 => ?_) fun g8_3 => ?_
  ·rw [show fg op n = decide (n < 9) by rw [fg, if_neg (by omega), if_pos (by omega)]; apply decide_eq_decide.2; omega]
   refine au 10 ?_
   exact ae aL
  rw [show fg op n = false by rw [fg, if_neg (by omega), if_pos (by omega)]; apply decide_eq_false; omega]
  refine au 8 ?_
  exact ae aL
 refine au 7 ?_
 refine a7 rfl (dI Kg aj rfl rfl rfl h (by first | exact Nat.zero_add _ | rfl)) ?_
 refine a7 rfl (aA aX rfl ha) ?_
 refine ap 3 (fJ rfl rfl (VO _ hl)) ?_
 refine a8 rfl (fun c9 => ?_) fun c9 => ?_
 ·refine au 9 ?_
  refine ae ?_
  rw [fg, if_neg (by omega), if_neg (by omega), if_pos (by omega)]
  exact ⟨_, ⟨congrArg Value.bool (by rw [Bool.eq_iff_iff, beq_iff_eq, decide_eq_true_iff]), rfl⟩, inferInstance⟩
 refine au 7 ?_
 refine cp rfl rfl rfl (fun g11_3 => ?_) fun g11_3 => ?_
 ·rw [show fg op n = decide (n ≤ 8191) by rw [fg, if_neg (by omega), if_neg (by omega), if_neg (by omega)]; apply decide_eq_decide.2; omega]
  refine au 8 ?_
  exact ae aL
 rw [show fg op n = false by rw [fg, if_neg (by omega), if_neg (by omega), if_neg (by omega)]; apply decide_eq_false; omega]
 refine au 6 ?_
 exact ae aL
theorem yH {W0 : World} {R : List HP} (hH : ∀ A, bG (aO W0 A) 0 0 jv) (i : Ins) : sQ W0 217 [.agg (rN i).toArray] R (.bool (jH i)) R := by
 obtain ⟨x, hx⟩ : ∃ x, m6 i.op = x := ⟨_, rfl⟩
 obtain ⟨p1, e1⟩ : ∃ p, (m6 i.op % 2 != 0) = p := ⟨_, rfl⟩
 obtain ⟨p2, e2⟩ : ∃ p, (m6 i.op / 2 % 2 != 0) = p := ⟨_, rfl⟩
 obtain ⟨p3, e3⟩ : ∃ p, (m6 i.op / 4 % 2 != 0) = p := ⟨_, rfl⟩
 obtain ⟨q1, f1⟩ : ∃ p, oC p1 i.d = p := ⟨_, rfl⟩
 obtain ⟨q2, f2⟩ : ∃ p, oC p2 i.a = p := ⟨_, rfl⟩
 obtain ⟨q3, f3⟩ : ∃ p, oC p3 i.b = p := ⟨_, rfl⟩
 have hall : jH i = (oB i.op && q1 && q2 && q3 && fg i.op i.im) := by
  unfold jH; rw [e1, e2, e3, f1, f2, f3]
 rw [hall]
 refine ai 2 func217 ntmps217 ?_
 refine ax (aV rfl) fun b1 => ?_
 refine au 8 ?_
 refine ar 3 (aD call284 rfl (VN i.op)) ?_
 refine a8 rfl (fun c1 => ?_) fun c1 => ?_
 ·refine au 7 ?_
  refine ae ?_
  rw [show oB i.op = false by simpa using c1]
  exact ⟨_, ⟨rfl, rfl⟩, inferInstance⟩
 refine au 3 ?_
 have hr : oB i.op = true := by simpa using c1
 have ho := of_decide_eq_true hr
 have h42 : i.op < 42 := by omega
 have hl := HC i.op h42
 rw [hr, Bool.true_and]
 refine au 3 ?_
 refine a7 rfl (dI Kg aj rfl rfl rfl h42 (by first | exact Nat.zero_add _ | rfl)) ?_
 refine ap 9 (aA aX rfl (HB hH h42)) ?_
 refine ap 3 (fJ rfl rfl (VP _ hl)) ?_
 refine aM (aD Kh rfl (C5 _ i.d)) ?_
 rw [yF, e1, f1]
 refine au 4 ?_
 refine a8 rfl (fun c4 => ?_) fun c4 => ?_
 ·refine au 11 ?_
  refine ae ?_
  rw [show q1 = false by simpa using c4]
  exact ⟨_, ⟨rfl, rfl⟩, inferInstance⟩
 refine au 3 ?_
 refine ap 3 (fJ rfl rfl (VR _ hl)) ?_
 refine aM (aD Kh rfl (C5 _ i.a)) ?_
 rw [VT, e2, f2]
 refine au 4 ?_
 refine a8 rfl (fun c5 => ?_) fun c5 => ?_
 ·refine au 11 ?_
  refine ae ?_
  rw [show q1 = true by simpa using c4, show q2 = false by simpa using c5]
  exact ⟨_, ⟨rfl, rfl⟩, inferInstance⟩
 refine au 2 ?_
 refine ap 3 (fJ rfl rfl (VS _ hl)) ?_
 refine aM (aD Kh rfl (C5 _ i.b)) ?_
 rw [VU, e3, f3]
 refine au 4 ?_
 refine a8 rfl (fun c6 => ?_) fun c6 => ?_
 ·refine au 8 ?_
  refine ae ?_
  rw [show q1 = true by simpa using c4, show q2 = true by simpa using c5, show q3 = false by simpa using c6]
  exact ⟨_, ⟨rfl, rfl⟩, inferInstance⟩
 refine au 9 ?_
 refine ar 4 (aD call286 rfl (VV hH i.op h42 i.im)) ?_
 refine ae ?_
 rw [show q1 = true by simpa using c4, show q2 = true by simpa using c5, show q3 = true by simpa using c6]
 exact ⟨_, ⟨rfl, rfl⟩, inferInstance⟩
theorem yI {W0 : World} {R : List HP} (w k n : Nat) (hw : w < 4294967296) (hk : k ≤ 32) (hn : n < 32) : sQ W0 216 [wV w, .int .i64 k, .int .i64 n] R (.int .i64 ((w / 2 ^ k % 2 ^ n : Nat) : Int)) R := by
 have hp : 2 ^ n < 4294967296 := Nat.pow_lt_pow_right (by decide) (show n < 32 from hn) (a := 2)
 have hp0 : 0 < 2 ^ n := Nat.two_pow_pos n
 have hd : w / 2 ^ k < 4294967296 := Nat.lt_of_le_of_lt (Nat.div_le_self _ _) hw
 have hm : w / 2 ^ k % 2 ^ n < 2 ^ n := Nat.mod_lt _ hp0
 have hsh : ig .u32 1 ((n : Nat) : Int) = ((2 ^ n : Nat) : Int) := by
  unfold ig
  rw [Int.toNat_natCast, Nat.min_eq_left (show n ≤ IntKind.bits .u32 by show n ≤ 32; omega), Int.one_mul]
  rw [show ((2 : Int) ^ n) = ((2 ^ n : Nat) : Int) by push_cast; rfl]
  exact eA (by omega)
 refine ai 6 func216 ntmps216 ?_
 refine aU [] 9 aT rfl ag (fun hS => ?_)
 refine ah 0 2 hS ?_
 refine av 2 rfl rfl rfl hS (jC rfl rfl (by omega) (lE (k := .u32) hk)) ?_
 refine ah 3 1 hS ?_
 refine av 4 rfl rfl rfl hS (n0 rfl rfl (by omega) hsh) ?_
 refine av 5 rfl rfl rfl hS (cZ rfl rfl (by rw [show ((2 ^ n : Nat) : Int) - 1 = ((2 ^ n - 1 : Nat) : Int) by omega]; exact eA (by omega) : IntKind.wrap .u32 (((2 ^ n : Nat) : Int) - 1) = ((2 ^ n - 1 : Nat) : Int))) ?_
 refine av 6 rfl rfl rfl hS (fJ rfl rfl (by rw [lD hd (by omega), qQ])) ?_
 refine av 7 rfl rfl rfl hS (cX dk cW rfl (aG (by omega))) ?_
 refine ah 8 1 hS ?_
 refine aK ?_
 refine au 2 ?_
 exact ae aL
theorem VW {w : Nat} (hw : w < 4294967296) : kQ .i32 (IntKind.wrap .i32 (w : Int)) 18 = rf w := by
 have e : IntKind.wrap .i32 (w : Int) = if w < 2147483648 then (w : Int) else (w : Int) - 4294967296 := by
  simp only [IntKind.wrap, IntKind.bits, IntKind.signed]
  simp
  omega
 rw [e]
 unfold kQ rf
 rw [show min (18 : Int).toNat (IntKind.bits .i32) = 18 by decide]
 rw [Int.fdiv_eq_ediv_of_nonneg _ (by decide)]
 split
 ·rw [if_pos (by omega)]; omega
 rw [if_neg (by omega)]; omega
abbrev VX : Ins := ⟨0, 0, 0, 0, 0⟩
theorem VY {W0 : World} {R : List HP} (hH : ∀ A, bG (aO W0 A) 0 0 jv) (w : Nat) (hw : w < 4294967296) : sQ W0 146 [wV w] R (.tuple #[.agg (rN (if jH (g6 w) then g6 w else VX)).toArray, .bool (jH (g6 w))]) R := by
 have e0 : w / 2 ^ 0 % 2 ^ 6 = (g6 w).op := by simp [g6]
 have e1 : w / 2 ^ 6 % 2 ^ 4 = (g6 w).d := rfl
 have e2 : w / 2 ^ 10 % 2 ^ 4 = (g6 w).a := rfl
 have e3 : w / 2 ^ 14 % 2 ^ 4 = (g6 w).b := rfl
 have e4 : rf w = (g6 w).im := rfl
 have hi := Qk hw
 obtain ⟨i, hI⟩ : ∃ i, g6 w = i := ⟨_, rfl⟩
 rw [hI] at e0 e1 e2 e3 e4 ⊢
 obtain ⟨z, hz⟩ : ∃ z, jH i = z := ⟨_, rfl⟩
 refine ai 2 func146 ntmps146 ?_
 refine ax (aS zM) fun b2 => ?_
 refine au 6 ?_
 refine aM (aD Di rfl (yI w 0 6 hw (by decide) (by decide))) ?_
 rw [e0]
 refine a7 rfl (aH rfl) ?_
 refine aM (aD Di rfl (yI w 6 4 hw (by decide) (by decide))) ?_
 rw [e1]
 refine a7 rfl (aH rfl) ?_
 refine aM (aD Di rfl (yI w 10 4 hw (by decide) (by decide))) ?_
 rw [e2]
 refine a7 rfl (aH rfl) ?_
 refine aM (aD Di rfl (yI w 14 4 hw (by decide) (by decide))) ?_
 rw [e3]
 refine a7 rfl (aH rfl) (a7 rfl (cX dk pq rfl rfl) ?_)
 refine a7 rfl (jC rfl rfl (by decide) ((VW hw).trans e4)) ?_
 refine a7 rfl (cX pq cW rfl (aG (by omega))) ?_
 refine a7 rfl (bq Jp zM (am aj (am aj (am aj (am aj (am aj bj))))) (aI rfl aj rfl rfl (Nat.le_of_ble_eq_true rfl) SetL.eq (aI rfl aj rfl rfl (Nat.le_of_ble_eq_true rfl) SetL.eq (aI rfl aj rfl rfl (Nat.le_of_ble_eq_true rfl) SetL.eq (aI rfl aj rfl rfl (Nat.le_of_ble_eq_true rfl) SetL.eq (aI rfl aj rfl rfl (Nat.le_of_ble_eq_true rfl) SetL.eq bi)))))) ?_
 refine ax (aS zM) fun b4 => ?_
 refine aE 6 (aF kl rfl rfl rfl rfl rfl) ?_
 refine aM (aD Dj rfl (yH hH i)) ?_
 rw [hz]
 refine au 3 ?_
 refine a8 rfl (fun c2 => ?_) fun c2 => ?_
 ·refine au 2 ?_
  refine a7 rfl (bq Jp zM (am aj (am aj (am aj (am aj (am aj bj))))) bi) ?_
  refine aE 5 (aF kl rfl rfl rfl rfl rfl) ?_
  refine bY (.cons (cg zd kl rfl rfl) (.cons (bK rfl) .nil)) ?_
  rw [show z = false by simpa using c2]
  exact ⟨_, ⟨rfl, rfl⟩, inferInstance⟩
 refine au 5 ?_
 refine aE 4 (aF kl rfl rfl rfl rfl rfl) ?_
 refine bY (.cons (cg zd kl rfl rfl) (.cons (bK rfl) .nil)) ?_
 rw [show z = true by simpa using c2]
 exact ⟨_, ⟨rfl, rfl⟩, inferInstance⟩
theorem HD {W0 : World} {R : List HP} (op : Nat) : sQ W0 219 [.int .i64 op] R (.bool (k7 op)) R := by
 refine ai 19 func219 ntmps219 ?_
 refine a8 rfl (fun c2 => ?_) fun c2 => ?_
 ·refine au 11 ?_
  refine ae ?_
  rw [show k7 op = true from decide_eq_true (by omega)]
  exact ⟨_, ⟨rfl, rfl⟩, inferInstance⟩
 refine au 6 ?_
 refine a8 rfl (fun c3 => ?_) fun c3 => ?_
 ·refine au 11 ?_
  refine ae ?_
  rw [show k7 op = true from decide_eq_true (by omega)]
  exact ⟨_, ⟨rfl, rfl⟩, inferInstance⟩
 refine au 6 ?_
 refine a8 rfl (fun c4 => ?_) fun c4 => ?_
 ·refine au 11 ?_
  refine ae ?_
  rw [show k7 op = true from decide_eq_true (by omega)]
  exact ⟨_, ⟨rfl, rfl⟩, inferInstance⟩
 refine au 6 ?_
 refine a8 rfl (fun c5 => ?_) fun c5 => ?_
 ·refine au 11 ?_
  refine ae ?_
  rw [show k7 op = true from decide_eq_true (by omega)]
  exact ⟨_, ⟨rfl, rfl⟩, inferInstance⟩
 refine au 6 ?_
 refine a8 rfl (fun c6 => ?_) fun c6 => ?_
 ·refine au 11 ?_
  refine ae ?_
  rw [show k7 op = true from decide_eq_true (by omega)]
  exact ⟨_, ⟨rfl, rfl⟩, inferInstance⟩
 refine au 5 ?_
 refine a8 rfl (fun c7 => ?_) fun c7 => ?_
 ·refine au 8 ?_
  refine ae ?_
  rw [show k7 op = true from decide_eq_true (by omega)]
  exact ⟨_, ⟨rfl, rfl⟩, inferInstance⟩
 refine au 9 ?_
 refine ae ?_
 rw [show k7 op = false from decide_eq_false (by omega)]
 exact ⟨_, ⟨rfl, rfl⟩, inferInstance⟩
theorem VZ (x y : Int) : iZ .u32 x y = ((u32 (iZ .u32 x y) : Nat) : Int) := by
 have : iZ .u32 x y = IntKind.wrap .u32 (iZ .u32 x y) := by
  unfold iZ
  rw [eD, eD, t6 (dF _)]
 rw [this, eD, t6 (dF _)]
theorem W2 {W0 : World} {R : List HP} (hH : ∀ A, bG (aO W0 A) 0 0 jv) (i : Ins) (hi : jH i = true) : sQ W0 288 [.agg (rN i).toArray] R (.tuple #[wV (oG i), .int .i64 0]) R := by
 obtain ⟨h1, h2, h3, h4, h5⟩ := xB hi
 refine ai 2 func288 ntmps288 ?_
 refine ax (aV rfl) fun b1 => ?_
 refine au 8 ?_
 refine ar 3 (aD Dj rfl (yH hH i)) ?_
 refine a8 rfl (fun c1 => ?_) fun c1 => ?_
 ·rw [hi] at c1; exact absurd c1 (by decide)
 refine au 6 ?_
 refine ap 2 (cX cW dk rfl (eA (by omega))) ?_
 refine a7 rfl (cX cW dk rfl (eA (by omega))) ?_
 refine a7 rfl (n0 rfl rfl (by decide) rfl) ?_
 refine ap 2 (nY rfl rfl rfl) ?_
 refine a7 rfl (cX cW dk rfl (eA (by omega))) ?_
 refine a7 rfl (n0 rfl rfl (by decide) rfl) ?_
 refine ap 2 (nY rfl rfl rfl) ?_
 refine a7 rfl (cX cW dk rfl (eA (by omega))) ?_
 refine a7 rfl (n0 rfl rfl (by decide) rfl) ?_
 refine ap 8 (nY rfl rfl rfl) ?_
 refine a7 rfl (cX cW dk rfl (eD i.im)) ?_
 refine a7 rfl (n0 rfl rfl (by decide) rfl) ?_
 refine ap 5 (nY rfl rfl (VZ _ _)) ?_
 exact aJ aL
end
@[reducible] def dA (e : Eff) : List Value := [.int .i64 e.k, wV e.pc, wV e.addr, .int .i64 e.width, .bool e.signed, .int .i64 e.d, wV e.val, wV e.cause, wV e.tval]
@[reducible] def W3 (i : Ins) (rb cb : Nat) (clock : Int) : List Value := rN i ++ [pV rb, pV cb, .int .i64 clock]
abbrev lS (i : Ins) (rb cb : Nat) (clock : Int) : Obj := ac (W3 i rb cb clock) 355
abbrev eu (sb : Nat) (i : Ins) (rb cb : Nat) (clock : Int) (x : Cpu) (id : Nat) (R : List HP) : List HP := pt sb (lS i rb cb clock) :: pt rb (dq x.rl x.pc) :: pt cb (dH x.cs id) :: R
section
variable (W0 : World) (R : List HP) (sb : Nat) (i : Ins) (rb cb : Nat) (clock : Int) (x : Cpu) (id : Nat)
theorem nO (hx : CpOk x) (n : Nat) (hn : n < 16) : sQ W0 343 [pV sb, .int .i64 n] (pt sb (lS i rb cb clock) :: pt rb (dq x.rl x.pc) :: R) (wV (dh x.rl n)) (pt sb (lS i rb cb clock) :: pt rb (dq x.rl x.pc) :: R) := by
 refine ai 12 func343 ntmps343 ?_
 refine ar 14 (ao Ki rfl (BE rb x.rl x.pc n hx.r.len hn)) ?_
 exact ae aL
theorem oS (hx : CpOk x) : sQ W0 345 [pV sb] (pt sb (lS i rb cb clock) :: pt rb (dq x.rl x.pc) :: R) (wV (d8 x.pc)) (pt sb (lS i rb cb clock) :: pt rb (dq x.rl x.pc) :: R) := by
 refine ai 11 func345 ntmps345 ?_
 refine aM (ao pr rfl (nK rb x.rl x.pc hx.r.len)) ?_
 refine ap 4 (bO rfl rfl (eD _)) ?_
 exact ae aL
theorem HE (hx : CpOk x) : sQ W0 351 [pV sb] (pt sb (lS i rb cb clock) :: pt rb (dq x.rl x.pc) :: R) (wV (nv x.pc i.im)) (pt sb (lS i rb cb clock) :: pt rb (dq x.rl x.pc) :: R) := by
 refine ai 6 func351 ntmps351 ?_
 refine aU [(sb, 0, _)] 14 aT rfl (aa ag) (fun hS => ?_)
 refine ah 0 4 hS ?_
 refine ah 5 5 hS ?_
 refine av 10 rfl rfl rfl hS (cX cW dk rfl (eD i.im)) ?_
 refine av 11 rfl rfl rfl hS (iH rfl rfl (eD _)) ?_
 refine bF 4 rfl rfl (ao pr rfl (nK rb x.rl x.pc hx.r.len)) (aa ag) fun hS => ?_
 refine av 12 rfl rfl rfl hS (bO rfl rfl (eD _)) ?_
 refine ah 13 1 hS ?_
 refine aK ?_
 refine au 2 ?_
 exact ae aL
theorem vN (hx : CpOk x) (pc : Nat) : sQ W0 350 [pV sb, wV pc] (pt sb (lS i rb cb clock) :: pt rb (dq x.rl x.pc) :: R) (.agg (dA (kE x pc).1).toArray) (pt sb (lS i rb cb clock) :: pt rb (dq (kE x pc).2.rl (kE x pc).2.pc) :: R) := by
 refine ai 2 func350 ntmps350 ?_
 refine ax (aS ie) fun b1 => ?_
 refine au 9 ?_
 refine ar 5 (ao zN rfl (vq rb x.rl x.pc pc hx.r.len)) ?_
 refine a7 rfl (bq qz ie (am aj (am bE (am bE (am aj (am bI (am aj (am bE (am bE (am bE bj))))))))) (aI rfl aj rfl rfl (Nat.le_of_ble_eq_true rfl) SetL.eq (aI rfl bE rfl rfl (Nat.le_of_ble_eq_true rfl) SetL.eq bi))) ?_
 refine aE 3 (aF dm rfl rfl rfl rfl rfl) ?_
 exact bY (.cons (cg gy dm rfl rfl) .nil) aL
theorem vO (hx : CpOk x) (hi : i.d < 16) (v pc : Nat) (hv : v < 4294967296) : sP W0 344 [pV sb, wV v, wV pc] (pt sb (lS i rb cb clock) :: pt rb (dq x.rl x.pc) :: R) (fun r B => r = .agg (dA (iO i x v pc).1).toArray ∧ B = pt sb (lS i rb cb clock) :: pt rb (dq (iO i x v pc).2.rl (iO i x v pc).2.pc) :: R) := by
 have hir : j9 (i.d : Int) = true := by simp only [j9, decide_eq_true_eq]; omega
 refine ai 2 func344 ntmps344 ?_
 refine ax (aS ie) fun b1 => ?_
 refine au 3 ?_
 refine aU [(sb, 0, _)] 11 aT rfl (aa ag) (fun hS => ?_)
 refine ah 0 10 hS ?_
 refine bS 10 (by kernel_rfl) rfl rfl (ao zO rfl (C1 rb x.rl x.pc v i.d hx.r.len)) rfl ?_; clear hS
 rintro _ B_ ⟨rfl, hB_⟩
 obtain rfl := hB_.symm
 rw [if_pos hir, if_pos hir, Int.toNat_natCast]
 refine ⟨(aa ag), fun hS => ?_⟩
 refine aK ?_
 refine au 5 ?_
 refine aM (cK zP rfl (vN W0 _ sb i rb cb clock { x with rl := kC x.rl i.d v } ⟨hx.r.set i.d v hv, hx.pc, hx.cs⟩ pc)) ?_
 refine aE 3 (aF dm rfl rfl rfl rfl rfl) ?_
 exact bY (.cons (cg gy dm rfl rfl) .nil) aL
theorem tV {W0 : World} {R : List HP} (c t : Nat) : sQ W0 220 [wV c, wV t] R (.agg (dA (kD c t)).toArray) R := by
 refine ai 2 func220 ntmps220 ?_
 refine ax (aS ie) fun b1 => ?_
 refine au 6 ?_
 refine a7 rfl (bq qz ie (am aj (am bE (am bE (am aj (am bI (am aj (am bE (am bE (am bE bj))))))))) (aI rfl aj rfl rfl (Nat.le_of_ble_eq_true rfl) SetL.eq (aI rfl bE rfl rfl (Nat.le_of_ble_eq_true rfl) SetL.eq (aI rfl bE rfl rfl (Nat.le_of_ble_eq_true rfl) SetL.eq bi)))) ?_
 refine aE 3 (aF dm rfl rfl rfl rfl rfl) ?_
 exact bY (.cons (cg gy dm rfl rfl) .nil) aL
theorem W4 : sQ W0 348 [pV sb] (pt sb (lS i rb cb clock) :: R) (.int .i64 ((lI i.op : Nat) : Int)) (pt sb (lS i rb cb clock) :: R) := by
 refine ai 15 func348 ntmps348 ?_
 refine bB rfl rfl rfl (fun g1_7 => ?_) fun g1_7 => ?_
 ·refine au 16 ?_
  refine ae ?_
  rw [lI, if_pos (by omega)]
  exact ⟨_, ⟨rfl, rfl⟩, inferInstance⟩
 refine au 14 ?_
 refine a8 rfl (fun c1 => ?_) fun c1 => ?_
 ·refine au 7 ?_
  refine ae ?_
  rw [lI, if_pos (by omega)]
  exact ⟨_, ⟨rfl, rfl⟩, inferInstance⟩
 refine au 8 ?_
 refine ae ?_
 rw [lI, if_neg (by omega)]
 exact ⟨_, ⟨rfl, rfl⟩, inferInstance⟩
def C6 (f : FuncId) (o : Eff × Cpu) : Prop := (∀ args w, (callFunc f args).run Tryz.prog w = .ok (.enter f args) w) ∧ ∀ R, bN Tryz.prog W0 f ([pV sb] ++ [] ++ []) (eu sb i rb cb clock x id R) (fun v B => v = .agg (dA o.1).toArray ∧ B = eu sb i rb cb clock o.2 id R)
theorem W5 (hx : CpOk x) (hi : i.d < 16) (ha : i.a < 16) (hb : i.b < 16) (h : 1 ≤ i.op ∧ i.op ≤ 13) : sQ W0 289 [pV sb] (eu sb i rb cb clock x id R) (.agg (dA (iO i x (lH i.op (dh x.rl i.a) (dh x.rl i.b)) (d8 x.pc)).1).toArray) (eu sb i rb cb clock (iO i x (lH i.op (dh x.rl i.a) (dh x.rl i.b)) (d8 x.pc)).2 id R) := by
 have h1 := hx.r.at_ i.a
 have h2 := hx.r.at_ i.b
 refine ai 2 func289 ntmps289 ?_
 refine ax (aS ie) fun b1 => ?_
 refine au 3 ?_
 refine aU [(sb, 0, _)] 25 aT rfl (aa ag) (fun hS => ?_)
 refine ah 0 11 hS ?_
 refine ah 12 6 hS ?_
 refine bF 11 rfl rfl (cK pu rfl (nO W0 _ sb i rb cb clock x hx i.a ha)) (aa ag) fun hS => ?_
 refine bF 18 rfl rfl (cK pu rfl (nO W0 _ sb i rb cb clock x hx i.b hb)) (aa ag) fun hS => ?_
 refine bF 19 rfl rfl (aD call342 rfl (Hy W0 _ (dh x.rl i.a) (dh x.rl i.b) i.op h h1 h2)) (aa ag) fun hS => ?_
 refine ah 20 5 hS ?_
 refine aK ?_
 refine au 6 ?_
 refine aM (cK qD rfl (oS W0 _ sb i rb cb clock x hx)) ?_
 refine aM (cK zQ rfl (vO W0 _ sb i rb cb clock x hx hi (lH i.op (dh x.rl i.a) (dh x.rl i.b)) (d8 x.pc) (xC h1 h2))) ?_
 refine aE 3 (aF dm rfl rfl rfl rfl rfl) ?_
 exact bY (.cons (cg gy dm rfl rfl) .nil) aL
theorem W6 (hx : CpOk x) (hi : i.d < 16) (ha : i.a < 16) (h : 14 ≤ i.op ∧ i.op ≤ 21) : sQ W0 290 [pV sb] (eu sb i rb cb clock x id R) (.agg (dA (iO i x (lH (iq i.op) (dh x.rl i.a) (u32 i.im)) (d8 x.pc)).1).toArray) (eu sb i rb cb clock (iO i x (lH (iq i.op) (dh x.rl i.a) (u32 i.im)) (d8 x.pc)).2 id R) := by
 have h1 := hx.r.at_ i.a
 have hp : 1 ≤ iq i.op ∧ iq i.op ≤ 13 := by
  unfold iq; split
  ·decide
  split
  ·decide
  omega
 refine ai 2 func290 ntmps290 ?_
 refine ax (aS ie) fun b1 => ?_
 refine au 9 ?_
 refine ar 8 (aD call346 rfl (VL W0 _ i.op h)) ?_
 refine aU [(sb, 0, _)] 20 aT rfl (aa ag) (fun hS => ?_)
 refine ah 0 7 hS ?_
 refine ah 8 5 hS ?_
 refine av 13 rfl rfl rfl hS (cX cW dk rfl (eD i.im)) ?_
 refine bF 7 rfl rfl (cK pu rfl (nO W0 _ sb i rb cb clock x hx i.a ha)) (aa ag) fun hS => ?_
 refine bF 14 rfl rfl (aD call342 rfl (Hy W0 _ (dh x.rl i.a) (u32 i.im) (iq i.op) hp h1 (dF _))) (aa ag) fun hS => ?_
 refine ah 15 5 hS ?_
 refine aK ?_
 refine au 6 ?_
 refine aM (cK qD rfl (oS W0 _ sb i rb cb clock x hx)) ?_
 refine aM (cK zQ rfl (vO W0 _ sb i rb cb clock x hx hi (lH (iq i.op) (dh x.rl i.a) (u32 i.im)) (d8 x.pc) (xC h1 (dF _)))) ?_
 refine aE 3 (aF dm rfl rfl rfl rfl rfl) ?_
 exact bY (.cons (cg gy dm rfl rfl) .nil) aL
theorem W7 (hx : CpOk x) (hi : i.d < 16) : sQ W0 291 [pV sb] (eu sb i rb cb clock x id R) (.agg (dA (iO i x (v2 i.im) (d8 x.pc)).1).toArray) (eu sb i rb cb clock (iO i x (v2 i.im) (d8 x.pc)).2 id R) := by
 refine ai 2 func291 ntmps291 ?_
 refine ax (aS ie) fun b1 => ?_
 refine au 10 ?_
 refine aM (aD call347 rfl (VM W0 _ i.im)) ?_
 refine a7 rfl (aH rfl) (aM (cK qD rfl (oS W0 _ sb i rb cb clock x hx)) ?_)
 refine aM (cK zQ rfl (vO W0 _ sb i rb cb clock x hx hi (v2 i.im) (d8 x.pc) (dF _))) ?_
 refine aE 3 (aF dm rfl rfl rfl rfl rfl) ?_
 exact bY (.cons (cg gy dm rfl rfl) .nil) aL
theorem W8 (hx : CpOk x) (ha : i.a < 16) (hb : i.b < 16) (h : 23 ≤ i.op ∧ i.op ≤ 27) : sQ W0 292 [pV sb] (eu sb i rb cb clock x id R) (.agg (dA (t8 i x)).toArray) (eu sb i rb cb clock x id R) := by
 have hw : lI i.op < 4294967296 := by have := AQ i.op; omega
 have hw0 : lI i.op ≠ 0 := by unfold lI; split <;> decide
 obtain ⟨at_, hat⟩ : ∃ a, nx (dh x.rl i.a) i.im = a := ⟨_, rfl⟩
 obtain ⟨m, hm⟩ : ∃ m, lI i.op = m := ⟨_, rfl⟩
 rw [t8, hat, hm]
 rw [hm] at hw hw0
 refine ai 2 func292 ntmps292 ?_
 refine ax (aS ie) fun b2 => ?_
 refine au 3 ?_
 refine lz (b := b2) (o' := ac (dA t7) 276) rfl ?_
 refine aU [(sb, 0, _)] 18 aT rfl (aa ag) (fun hS => ?_)
 refine ah 0 6 hS ?_
 refine ah 7 5 hS ?_
 refine av 12 rfl rfl rfl hS (cX cW dk rfl (eD i.im)) ?_
 refine ah 14 1 hS ?_
 refine bF 6 rfl rfl (cK pu rfl (nO W0 _ sb i rb cb clock x hx i.a ha)) (aa ag) fun hS => ?_
 refine av 13 rfl rfl rfl hS (bO rfl rfl (show _ = ((at_ : Nat) : Int) by rw [← hat]; exact eD _)) ?_
 refine bS 15 (by kernel_rfl) rfl rfl (ao call348 rfl (W4 W0 _ sb i rb cb clock)) rfl ?_; clear hS
 rintro _ B_ ⟨rfl, hB_⟩
 obtain rfl := hB_.symm
 rw [hm]
 refine ⟨(aa ag), fun hS => ?_⟩
 refine ah 16 2 hS ?_
 refine aK ?_
 refine au 6 ?_
 refine a7 rfl (cX cW dk rfl (eA (by omega))) ?_
 refine ap 3 (ku rfl rfl (by omega) (oe at_ m)) ?_
 refine a8 rfl (fun c2 => ?_) fun c2 => ?_
 ·refine au 3 ?_
  refine aB rfl (aD wM rfl (tV 2 at_)) ?_
  rintro _ B_ ⟨rfl, hB_⟩
  obtain rfl := hB_.symm
  refine aE 4 (aF dm rfl rfl rfl rfl rfl) ?_
  refine bY (.cons (cg gy dm rfl rfl) .nil) ?_
  rw [if_pos (by omega)]
  exact ⟨_, ⟨rfl, rfl⟩, inferInstance⟩
 refine au 3 ?_
 rw [if_neg (by omega)]
 refine au 4 ?_
 refine aM (cK qD rfl (oS W0 _ sb i rb cb clock x hx)) ?_
 refine a7 rfl (bq qz ie (am aj (am bE (am bE (am aj (am bI (am aj (am bE (am bE (am bE bj))))))))) (aI rfl aj rfl rfl (Nat.le_of_ble_eq_true rfl) SetL.eq (aI rfl bE rfl rfl (Nat.le_of_ble_eq_true rfl) SetL.eq (aI rfl aj rfl rfl (Nat.le_of_ble_eq_true rfl) SetL.eq (aI rfl bE rfl rfl (Nat.le_of_ble_eq_true rfl) SetL.eq bi))))) ?_
 refine ax (aS ie) fun b5 => ?_
 refine aE 2 (aF dm rfl rfl rfl rfl rfl) ?_
 refine dU (fun _ : Unit => True) (fun _ => [(2, pV b2), (5, pV b5)]) (fun _ => pt b2 (ac (dA t7) 276) :: pt b5 (ac (dA (if i.op = 26 ∨ i.op = 27 then ⟨2, d8 x.pc, at_, m, false, 0, dh x.rl i.b, 0, 0⟩ else ⟨1, d8 x.pc, at_, m, decide (i.op = 24), i.d, 0, 0, 0⟩)) 276) :: eu sb i rb cb clock x id R) ?_ ?_
 ·skip
  refine bD (lz (b := b5) (o' := ac (dA ⟨1, d8 x.pc, at_, m, false, 0, 0, 0, 0⟩) 276) rfl ?_)
  refine au 24 ?_
  refine a8 rfl (fun c6 => ?_) fun c6 => ?_
  ·refine au 14 ?_
   refine aM (cK pu rfl (nO W0 _ sb i rb cb clock x hx i.b hb)) ?_
   refine a7 rfl (jV qz aj) ?_
   refine o9 (bA aj rfl rfl rfl (Nat.le_of_ble_eq_true rfl) (by exact rfl : (dA ⟨1, d8 x.pc, at_, m, false, 0, 0, 0, 0⟩).set 0 (.int .i64 2) = dA ⟨2, d8 x.pc, at_, m, false, 0, 0, 0, 0⟩)) ?_
   refine a7 rfl (jV qz bE) ?_
   refine aE 9 (bA bE rfl rfl rfl (Nat.le_of_ble_eq_true rfl) (by exact rfl : (dA ⟨2, d8 x.pc, at_, m, false, 0, 0, 0, 0⟩).set 6 (wV (dh x.rl i.b)) = dA ⟨2, d8 x.pc, at_, m, false, 0, dh x.rl i.b, 0, 0⟩)) ?_
   refine cj () ?_ (he := ?_)
   ·trivial
   rw [if_pos (by omega)]
   exact inferInstance
  refine au 9 ?_
  refine a8 rfl (fun c7 => ?_) fun c7 => ?_
  ·refine au 14 ?_
   refine aM (cK pu rfl (nO W0 _ sb i rb cb clock x hx i.b hb)) ?_
   refine a7 rfl (jV qz aj) ?_
   refine o9 (bA aj rfl rfl rfl (Nat.le_of_ble_eq_true rfl) (by exact rfl : (dA ⟨1, d8 x.pc, at_, m, false, 0, 0, 0, 0⟩).set 0 (.int .i64 2) = dA ⟨2, d8 x.pc, at_, m, false, 0, 0, 0, 0⟩)) ?_
   refine a7 rfl (jV qz bE) ?_
   refine aE 9 (bA bE rfl rfl rfl (Nat.le_of_ble_eq_true rfl) (by exact rfl : (dA ⟨2, d8 x.pc, at_, m, false, 0, 0, 0, 0⟩).set 6 (wV (dh x.rl i.b)) = dA ⟨2, d8 x.pc, at_, m, false, 0, dh x.rl i.b, 0, 0⟩)) ?_
   refine cj () ?_ (he := ?_)
   ·trivial
   rw [if_pos (by omega)]
   exact inferInstance
  refine au 8 ?_
  refine a8 rfl (fun c8 => ?_) fun c8 => ?_
  ·refine au 9 ?_
   refine aE 11 (bA bI rfl rfl rfl (Nat.le_of_ble_eq_true rfl) (by exact rfl : (dA ⟨1, d8 x.pc, at_, m, false, 0, 0, 0, 0⟩).set 4 (.bool true) = dA ⟨1, d8 x.pc, at_, m, true, 0, 0, 0, 0⟩)) ?_
   refine aE 5 (bA aj rfl rfl rfl (Nat.le_of_ble_eq_true rfl) (by exact rfl : (dA ⟨1, d8 x.pc, at_, m, true, 0, 0, 0, 0⟩).set 5 (.int .i64 i.d) = dA ⟨1, d8 x.pc, at_, m, true, i.d, 0, 0, 0⟩)) ?_
   refine cj () ?_ (he := ?_)
   ·trivial
   rw [if_neg (by omega), decide_eq_true (by omega)]
   exact inferInstance
  refine au 18 ?_
  refine aE 5 (bA aj rfl rfl rfl (Nat.le_of_ble_eq_true rfl) (by exact rfl : (dA ⟨1, d8 x.pc, at_, m, false, 0, 0, 0, 0⟩).set 5 (.int .i64 i.d) = dA ⟨1, d8 x.pc, at_, m, false, i.d, 0, 0, 0⟩)) ?_
  refine cj () ?_ (he := ?_)
  ·trivial
  rw [if_neg (by omega), decide_eq_false (by omega)]
  exact inferInstance
 intro _ _
 refine au 3 ?_
 refine aE 3 (aF dm rfl rfl rfl rfl rfl) ?_
 exact bY (.cons (cg gy dm rfl rfl) .nil) aL
theorem W9 (hx : CpOk x) (ha : i.a < 16) (hb : i.b < 16) (h : 28 ≤ i.op ∧ i.op ≤ 31) : sQ W0 293 [pV sb] (eu sb i rb cb clock x id R) (.agg (dA (kE x (if uZ i.op (dh x.rl i.a) (dh x.rl i.b) then nv x.pc i.im else d8 x.pc)).1).toArray) (eu sb i rb cb clock (kE x (if uZ i.op (dh x.rl i.a) (dh x.rl i.b) then nv x.pc i.im else d8 x.pc)).2 id R) := by
 obtain ⟨z, hz⟩ : ∃ z, uZ i.op (dh x.rl i.a) (dh x.rl i.b) = z := ⟨_, rfl⟩
 refine ai 2 func293 ntmps293 ?_
 refine ax (aS ie) fun b1 => ?_
 refine au 4 ?_
 refine aU [(sb, 0, _)] 25 aT rfl (aa ag) (fun hS => ?_)
 refine ah 0 11 hS ?_
 refine ah 12 6 hS ?_
 refine bF 11 rfl rfl (cK pu rfl (nO W0 _ sb i rb cb clock x hx i.a ha)) (aa ag) fun hS => ?_
 refine bF 18 rfl rfl (cK pu rfl (nO W0 _ sb i rb cb clock x hx i.b hb)) (aa ag) fun hS => ?_
 refine bS 19 (by kernel_rfl) rfl rfl (aD call349 rfl (VK W0 _ (dh x.rl i.a) (dh x.rl i.b) i.op h)) rfl ?_; clear hS
 rintro _ B_ ⟨rfl, hB_⟩
 obtain rfl := hB_.symm
 rw [hz]
 refine ⟨(aa ag), fun hS => ?_⟩
 refine ah 20 5 hS ?_
 refine aK ?_
 refine au 6 ?_
 refine a8 rfl (fun c2 => ?_) fun c2 => ?_
 ·rw [if_pos c2]
  refine au 4 ?_
  refine aM (cK call351 rfl (HE W0 _ sb i rb cb clock x hx)) ?_
  refine aM (cK zP rfl (vN W0 _ sb i rb cb clock x hx (nv x.pc i.im))) ?_
  refine aE 4 (aF dm rfl rfl rfl rfl rfl) ?_
  exact bY (.cons (cg gy dm rfl rfl) .nil) aL
 rw [if_neg c2]
 refine au 6 ?_
 refine aM (cK qD rfl (oS W0 _ sb i rb cb clock x hx)) ?_
 refine aM (cK zP rfl (vN W0 _ sb i rb cb clock x hx (d8 x.pc))) ?_
 refine aE 3 (aF dm rfl rfl rfl rfl rfl) ?_
 exact bY (.cons (cg gy dm rfl rfl) .nil) aL
theorem Wa (hx : CpOk x) (hi : i.d < 16) (ha : i.a < 16) : sQ W0 294 [pV sb] (eu sb i rb cb clock x id R) (.agg (dA (iO i x (d8 x.pc) (if i.op = 33 then nx (dh x.rl i.a) i.im else nv x.pc i.im)).1).toArray) (eu sb i rb cb clock (iO i x (d8 x.pc) (if i.op = 33 then nx (dh x.rl i.a) i.im else nv x.pc i.im)).2 id R) := by
 refine ai 2 func294 ntmps294 ?_
 refine ax (aS ie) fun b2 => ?_
 refine au 3 ?_
 refine lz (b := b2) (o' := ac (dA t7) 276) rfl ?_
 refine au 2 ?_
 refine ar 3 (cK call351 rfl (HE W0 _ sb i rb cb clock x hx)) ?_
 refine dU (fun _ : Unit => True) (fun _ => [(0, pV sb), (2, pV b2), (3, wV (if i.op = 33 then nx (dh x.rl i.a) i.im else nv x.pc i.im))]) (fun _ => pt b2 (ac (dA t7) 276) :: eu sb i rb cb clock x id R) ?_ ?_
 ·skip
  refine au 10 ?_
  refine a8 rfl (fun c2 => ?_) fun c2 => ?_
  ·refine aU [(sb, 0, _)] 15 aT rfl (aa ag) (fun hS => ?_)
   refine ah 0 6 hS ?_
   refine ah 7 5 hS ?_
   refine av 12 rfl rfl rfl hS (cX cW dk rfl (eD i.im)) ?_
   refine bF 6 rfl rfl (cK pu rfl (nO W0 _ sb i rb cb clock x hx i.a ha)) (aa ag) fun hS => ?_
   refine av 13 rfl rfl rfl hS (bO rfl rfl (eD _)) ?_
   refine ah 14 1 hS ?_
   refine aK ?_
   refine aY ?_
   refine iG () ?_ ?_ ?_
   ·trivial
   ·rw [if_pos (by omega)]
    repeat (first | exact dy | refine db rfl ?_)
   exact inferInstance
  refine au 2 ?_
  refine iG () ?_ ?_ ?_
  ·trivial
  ·rw [if_neg (by omega)]
   repeat (first | exact dy | refine db rfl ?_)
  exact inferInstance
 intro _ _
 refine au 4 ?_
 refine aM (cK qD rfl (oS W0 _ sb i rb cb clock x hx)) ?_
 refine a7 rfl (aH rfl) (aM (cK zQ rfl (vO W0 _ sb i rb cb clock x hx hi (d8 x.pc) (if i.op = 33 then nx (dh x.rl i.a) i.im else nv x.pc i.im) (dF _))) ?_)
 refine aE 3 (aF dm rfl rfl rfl rfl rfl) ?_
 exact bY (.cons (cg gy dm rfl rfl) .nil) aL
theorem Wb (hx : CpOk x) : sQ W0 356 [pV sb] (eu sb i rb cb clock x id R) (.agg (dA ⟨rj i.op, d8 x.pc, 0, 0, false, 0, 0, 0, 0⟩).toArray) (eu sb i rb cb clock x id R) := by
 refine ai 2 func356 ntmps356 ?_
 refine ax (aS ie) fun b2 => ?_
 refine au 3 ?_
 refine lz (b := b2) (o' := ac (dA t7) 276) rfl ?_
 refine au 4 ?_
 refine dU (fun _ : Unit => True) (fun _ => [(0, pV sb), (2, pV b2), (3, .int .i64 ((rj i.op : Nat) : Int))]) (fun _ => pt b2 (ac (dA t7) 276) :: eu sb i rb cb clock x id R) ?_ ?_
 ·skip
  refine au 16 ?_
  refine a8 rfl (fun c3 => ?_) fun c3 => ?_
  ·refine au 5 ?_
   refine iG () ?_ ?_ ?_
   ·trivial
   ·rw [rj, if_pos (by omega)]
    repeat (first | exact dy | refine db rfl ?_)
   exact inferInstance
  refine au 6 ?_
  refine a8 rfl (fun c5 => ?_) fun c5 => ?_
  ·refine au 5 ?_
   refine iG () ?_ ?_ ?_
   ·trivial
   ·rw [rj, if_neg (by omega), if_pos (by omega)]
    repeat (first | exact dy | refine db rfl ?_)
   exact inferInstance
  refine au 3 ?_
  refine iG () ?_ ?_ ?_
  ·trivial
  ·rw [rj, if_neg (by omega), if_neg (by omega)]
   repeat (first | exact dy | refine db rfl ?_)
  exact inferInstance
 intro _ _
 refine au 4 ?_
 refine aM (cK qD rfl (oS W0 _ sb i rb cb clock x hx)) ?_
 refine a7 rfl (bq qz ie (am aj (am bE (am bE (am aj (am bI (am aj (am bE (am bE (am bE bj))))))))) (aI rfl aj rfl rfl (Nat.le_of_ble_eq_true rfl) SetL.eq (aI rfl bE rfl rfl (Nat.le_of_ble_eq_true rfl) SetL.eq bi))) ?_
 refine aE 3 (aF dm rfl rfl rfl rfl rfl) ?_
 exact bY (.cons (cg gy dm rfl rfl) .nil) aL
theorem HF (hx : CpOk x) (h : i.op = 34 ∨ i.op = 41) : sQ W0 352 [pV sb] (eu sb i rb cb clock x id R) (.agg (dA (if i.op = 34 then kD 6 0 else kD 8 x.pc)).toArray) (eu sb i rb cb clock x id R) := by
 refine ai 2 func352 ntmps352 ?_
 refine ax (aS ie) fun b1 => ?_
 refine au 13 ?_
 refine a8 rfl (fun c1 => ?_) fun c1 => ?_
 ·refine au 6 ?_
  refine aM (ao pr rfl (nK rb x.rl x.pc hx.r.len)) ?_
  refine aB rfl (aD wM rfl (tV 8 x.pc)) ?_
  rintro _ B_ ⟨rfl, hB_⟩
  obtain rfl := hB_.symm
  refine aE 4 (aF dm rfl rfl rfl rfl rfl) ?_
  refine bY (.cons (cg gy dm rfl rfl) .nil) ?_
  rw [if_neg (by omega)]
  exact ⟨_, ⟨rfl, rfl⟩, inferInstance⟩
 refine au 4 ?_
 refine aB rfl (aD wM rfl (tV 6 0)) ?_
 rintro _ B_ ⟨rfl, hB_⟩
 obtain rfl := hB_.symm
 refine aE 3 (aF dm rfl rfl rfl rfl rfl) ?_
 refine bY (.cons (cg gy dm rfl rfl) .nil) ?_
 rw [if_pos (by omega)]
 exact ⟨_, ⟨rfl, rfl⟩, inferInstance⟩
theorem Wc (hx : CpOk x) : sQ W0 353 [pV sb] (eu sb i rb cb clock x id R) (.agg (dA (kE { x with cs := pO x.cs } (dO x.cs 2)).1).toArray) (eu sb i rb cb clock (kE { x with cs := pO x.cs } (dO x.cs 2)).2 id R) := by
 refine ai 2 func353 ntmps353 ?_
 refine ax (aS ie) fun b1 => ?_
 refine au 8 ?_
 refine ar 11 (ao call390 rfl (Vv cb hx.cs)) ?_
 refine aM (cK zP rfl (vN W0 _ sb i rb cb clock x hx (dO x.cs 2))) ?_
 refine aE 3 (aF dm rfl rfl rfl rfl rfl) ?_
 exact bY (.cons (cg gy dm rfl rfl) .nil) aL
theorem Wd (hx : CpOk x) (hi : i.d < 16) (hid : id < 4) (hc : 0 ≤ clock) (hk : ec x.cs = true) (n : Nat) (hn : i.im = (n : Int)) (h9 : n < 9) : sQ W0 354 [pV sb] (eu sb i rb cb clock x id R) (.agg (dA (iO i x (pP x.cs id clock.toNat n) (d8 x.pc)).1).toArray) (eu sb i rb cb clock (iO i x (pP x.cs id clock.toNat n) (d8 x.pc)).2 id R) := by
 obtain ⟨op, d, a, b, im⟩ := i
 dsimp only at hn hi
 subst hn
 refine ai 2 func354 ntmps354 ?_
 refine ax (aS ie) fun b1 => ?_
 refine au 3 ?_
 refine aU [(sb, 0, _)] 19 aT rfl (aa ag) (fun hS => ?_)
 refine ah 0 13 hS ?_
 refine bS 13 (by kernel_rfl) rfl rfl (ao call287 rfl (Hm cb hx.cs hid n h9 clock hc)) rfl ?_; clear hS
 rintro _ B_ ⟨rfl, hB_⟩
 obtain rfl := hB_.symm
 rw [hk, if_pos rfl]
 refine ⟨(aa ag), fun hS => ?_⟩
 refine ah 14 5 hS ?_
 refine aK ?_
 refine au 6 ?_
 refine aM (cK qD rfl (oS W0 _ sb ⟨op, d, a, b, n⟩ rb cb clock x hx)) ?_
 refine aM (cK zQ rfl (vO W0 _ sb ⟨op, d, a, b, n⟩ rb cb clock x hx hi (pP x.cs id clock.toNat n) (d8 x.pc) (Fb hx.cs hid))) ?_
 refine aE 3 (aF dm rfl rfl rfl rfl rfl) ?_
 exact bY (.cons (cg gy dm rfl rfl) .nil) aL
theorem C7 {W0 : World} {R : List HP} (hH : ∀ A, bG (aO W0 A) 0 0 jv) (i : Ins) (hv : jH i = true) : sQ W0 221 [.agg (rN i).toArray] R (wV (oG i)) R := by
 refine ai 2 func221 ntmps221 ?_
 refine ax (aV rfl) fun b1 => ?_
 refine au 6 ?_
 refine ar 14 (aD call288 rfl (W2 hH i hv)) ?_
 exact ae aL
theorem We (hH : ∀ A, bG (aO W0 A) 0 0 jv) (hx : CpOk x) (hv : jH i = true) (ha : i.a < 16) (hk : ec x.cs = true) (n : Nat) (hn : i.im = (n : Int)) (h9 : n < 9) : sQ W0 355 [pV sb] (eu sb i rb cb clock x id R) (.agg (dA (if n ≤ 6 then kE { x with cs := x.cs.set n (kZ n (dh x.rl i.a)) } (d8 x.pc) else (kD 1 (oG i), x)).1).toArray) (eu sb i rb cb clock (if n ≤ 6 then kE { x with cs := x.cs.set n (kZ n (dh x.rl i.a)) } (d8 x.pc) else (kD 1 (oG i), x)).2 id R) := by
 obtain ⟨op, d, a, b, im⟩ := i
 dsimp only at hn ha ⊢
 subst hn
 refine ai 2 func355 ntmps355 ?_
 refine ax (aS ie) fun b1 => ?_
 refine au 4 ?_
 refine aU [(sb, 0, _)] 18 aT rfl (aa ag) (fun hS => ?_)
 refine ah 0 15 hS ?_
 refine bF 15 rfl rfl (cK pu rfl (nO W0 _ sb ⟨op, d, a, b, n⟩ rb cb clock x hx a ha)) (aa ag) fun hS => ?_
 refine bF 16 rfl rfl (ao call391 rfl (Vr cb hx.cs n (dh x.rl a) h9 (hx.r.at_ a) hk)) (aa ag) fun hS => ?_
 refine ah 17 1 hS ?_
 refine aK ?_
 refine au 7 ?_
 refine a8 rfl (fun c2 => ?_) fun c2 => ?_
 ·have h6 : ¬ n ≤ 6 := fun q => by rw [if_pos q] at c2; exact absurd rfl c2
  simp only [if_neg h6]
  refine au 5 ?_
  refine a7 rfl (b0 zd kl rfl (nh (vs := rN ⟨op, d, a, b, n⟩) rfl) rfl) ?_
  refine aB rfl (aD Kj rfl (C7 hH ⟨op, d, a, b, n⟩ hv)) ?_
  rintro _ B_ ⟨rfl, hB_⟩
  obtain rfl := hB_.symm
  refine aM (aD wM rfl (tV 1 (oG ⟨op, d, a, b, n⟩))) ?_
  refine aE 4 (aF dm rfl rfl rfl rfl rfl) ?_
  exact bY (.cons (cg gy dm rfl rfl) .nil) aL
 have h6 : n ≤ 6 := by
  rcases Nat.lt_or_ge 6 n with q | q
  ·rw [if_neg (by omega)] at c2; exact absurd (by decide) c2
  exact q
 simp only [if_pos h6]
 refine au 6 ?_
 refine aM (cK qD rfl (oS W0 _ sb ⟨op, d, a, b, n⟩ rb cb clock x hx)) ?_
 refine aM (cK zP rfl (vN W0 _ sb ⟨op, d, a, b, n⟩ rb cb clock x hx (d8 x.pc))) ?_
 refine aE 3 (aF dm rfl rfl rfl rfl rfl) ?_
 exact bY (.cons (cg gy dm rfl rfl) .nil) aL
theorem md {f : FuncId} {o o' : Eff × Cpu} (hc : ∀ args w, (callFunc f args).run Tryz.prog w = .ok (.enter f args) w) (e : o = o') (h : ∀ R, bN Tryz.prog W0 f [pV sb] (eu sb i rb cb clock x id R) (fun v B => v = .agg (dA o'.1).toArray ∧ B = eu sb i rb cb clock o'.2 id R)) : C6 W0 sb i rb cb clock x id f o := ⟨hc, by rw [e]; exact h⟩
theorem HG {i : Ins} (hv : jH i = true) (h : i.op = 37 ∨ i.op = 38) : ∃ n : Nat, i.im = (n : Int) ∧ n < 9 := by
 have := (xB hv).2.2.2.2
 rw [fg, if_neg (by omega), if_pos h] at this
 have := of_decide_eq_true this
 exact ⟨i.im.toNat, by omega, by omega⟩
theorem Wg (hH : ∀ A, bG (aO W0 A) 0 0 jv) (hx : CpOk x) (hv : jH i = true) (hid : id < 4) (hc : 0 ≤ clock) (h : 34 ≤ i.op) (hk : k7 i.op = true → ec x.cs = true) : sP W0 295 [pV sb] (eu sb i rb cb clock x id R) (fun v B => ∃ f, v = .func (.func f) #[pV sb] #[] ∧ B = eu sb i rb cb clock x id R ∧ C6 W0 sb i rb cb clock x id f (ny id clock.toNat i x)) := by
 obtain ⟨h1, hd, ha, hb, him⟩ := xB hv
 refine ai 23 func295 ntmps295 ?_
 refine a8 rfl (fun c2 => ?_) fun c2 => ?_
 ·refine au 6 ?_
  refine ap 6 (dM rfl rfl) ?_
  refine ae ?_
  refine ⟨_, ⟨_, rfl, rfl, md W0 sb i rb cb clock x id (o' := (if i.op = 34 then kD 6 0 else kD 8 x.pc, x)) call352 ?_ fun R => HF W0 R sb i rb cb clock x id hx (by omega)⟩, inferInstance⟩
  unfold ny
  split
  ·rfl
  rw [if_pos (by omega)]
 refine au 5 ?_
 refine a8 rfl (fun c3 => ?_) fun c3 => ?_
 ·refine au 3 ?_
  refine ap 6 (dM rfl rfl) ?_
  refine ae ?_
  refine ⟨_, ⟨_, rfl, rfl, md W0 sb i rb cb clock x id (o' := (if i.op = 34 then kD 6 0 else kD 8 x.pc, x)) call352 ?_ fun R => HF W0 R sb i rb cb clock x id hx (by omega)⟩, inferInstance⟩
  unfold ny
  split
  ·rfl
  rw [if_pos (by omega)]
 refine au 6 ?_
 refine a8 rfl (fun c5 => ?_) fun c5 => ?_
 ·refine au 3 ?_
  refine ap 6 (dM rfl rfl) ?_
  refine ae ?_
  refine ⟨_, ⟨_, rfl, rfl, md W0 sb i rb cb clock x id call353 ?_ fun R => Wc W0 R sb i rb cb clock x id hx⟩, inferInstance⟩
  rw [ny, if_neg (by omega), if_neg (by omega), if_pos (by omega)]
 refine au 6 ?_
 refine a8 rfl (fun c7 => ?_) fun c7 => ?_
 ·refine au 3 ?_
  refine ap 6 (dM rfl rfl) ?_
  refine ae ?_
  obtain ⟨n, hn, h9⟩ := HG hv (by omega)
  refine ⟨_, ⟨_, rfl, rfl, md W0 sb i rb cb clock x id call354 ?_ fun R => Wd W0 R sb i rb cb clock x id hx hd hid hc (hk (decide_eq_true (by omega))) n hn h9⟩, inferInstance⟩
  rw [ny, if_neg (by omega), if_neg (by omega), if_neg (by omega), if_pos (by omega), hn, Int.toNat_natCast]
 refine au 6 ?_
 refine a8 rfl (fun c9 => ?_) fun c9 => ?_
 ·refine au 3 ?_
  refine ap 6 (dM rfl rfl) ?_
  refine ae ?_
  obtain ⟨n, hn, h9⟩ := HG hv (by omega)
  refine ⟨_, ⟨_, rfl, rfl, md W0 sb i rb cb clock x id call355 ?_ fun R => We W0 R sb i rb cb clock x id hH hx hv ha (hk (decide_eq_true (by omega))) n hn h9⟩, inferInstance⟩
  rw [ny, if_neg (by omega), if_neg (by omega), if_neg (by omega), if_neg (by omega), if_pos (by omega), hn, Int.toNat_natCast]
 refine au 6 ?_
 refine ap 4 (dM rfl rfl) ?_
 refine ae ?_
 refine ⟨_, ⟨_, rfl, rfl, md W0 sb i rb cb clock x id (o' := (⟨rj i.op, d8 x.pc, 0, 0, false, 0, 0, 0, 0⟩, x)) call356 ?_ fun R => Wb W0 R sb i rb cb clock x id hx⟩, inferInstance⟩
 rw [ny, if_neg (by omega), if_neg (by omega), if_neg (by omega), if_neg (by omega), if_neg (by omega)]
theorem yJ (hH : ∀ A, bG (aO W0 A) 0 0 jv) (hx : CpOk x) (hv : jH i = true) (hid : id < 4) (hc : 0 ≤ clock) (hk : k7 i.op = true → ec x.cs = true) : sP W0 222 [pV sb] (eu sb i rb cb clock x id R) (fun v B => ∃ f, v = .func (.func f) #[pV sb] #[] ∧ B = eu sb i rb cb clock x id R ∧ C6 W0 sb i rb cb clock x id f (mF id clock.toNat i x)) := by
 obtain ⟨h1, hd, ha, hb, him⟩ := xB hv
 refine ai 24 func222 ntmps222 ?_
 refine a8 rfl (fun c2 => ?_) fun c2 => ?_
 ·refine au 3 ?_
  refine ap 6 (dM rfl rfl) ?_
  refine ae ?_
  refine ⟨_, ⟨_, rfl, rfl, md W0 sb i rb cb clock x id call289 ?_ fun R => W5 W0 R sb i rb cb clock x id hx hd ha hb (by omega)⟩, inferInstance⟩
  rw [mF, if_pos (by omega)]
 refine au 7 ?_
 refine a8 rfl (fun c4 => ?_) fun c4 => ?_
 ·refine au 3 ?_
  refine ap 6 (dM rfl rfl) ?_
  refine ae ?_
  refine ⟨_, ⟨_, rfl, rfl, md W0 sb i rb cb clock x id call290 ?_ fun R => W6 W0 R sb i rb cb clock x id hx hd ha (by omega)⟩, inferInstance⟩
  rw [mF, if_neg (by omega), if_pos (by omega)]
 refine au 7 ?_
 refine a8 rfl (fun c6 => ?_) fun c6 => ?_
 ·refine au 3 ?_
  refine ap 6 (dM rfl rfl) ?_
  refine ae ?_
  refine ⟨_, ⟨_, rfl, rfl, md W0 sb i rb cb clock x id call291 ?_ fun R => W7 W0 R sb i rb cb clock x id hx hd⟩, inferInstance⟩
  rw [mF, if_neg (by omega), if_neg (by omega), if_pos (by omega)]
 refine au 7 ?_
 refine a8 rfl (fun c8 => ?_) fun c8 => ?_
 ·refine au 3 ?_
  refine ap 6 (dM rfl rfl) ?_
  refine ae ?_
  refine ⟨_, ⟨_, rfl, rfl, md W0 sb i rb cb clock x id (o' := (t8 i x, x)) call292 ?_ fun R => W8 W0 R sb i rb cb clock x id hx ha hb (by omega)⟩, inferInstance⟩
  rw [mF, if_neg (by omega), if_neg (by omega), if_neg (by omega), if_pos (by omega)]
 refine au 7 ?_
 refine a8 rfl (fun c10 => ?_) fun c10 => ?_
 ·refine au 3 ?_
  refine ap 6 (dM rfl rfl) ?_
  refine ae ?_
  refine ⟨_, ⟨_, rfl, rfl, md W0 sb i rb cb clock x id call293 ?_ fun R => W9 W0 R sb i rb cb clock x id hx ha hb (by omega)⟩, inferInstance⟩
  rw [mF, if_neg (by omega), if_neg (by omega), if_neg (by omega), if_neg (by omega), if_pos (by omega)]
 refine au 7 ?_
 refine a8 rfl (fun c12 => ?_) fun c12 => ?_
 ·refine au 3 ?_
  refine ap 6 (dM rfl rfl) ?_
  refine ae ?_
  refine ⟨_, ⟨_, rfl, rfl, md W0 sb i rb cb clock x id call294 ?_ fun R => Wa W0 R sb i rb cb clock x id hx hd ha⟩, inferInstance⟩
  rw [mF, if_neg (by omega), if_neg (by omega), if_neg (by omega), if_neg (by omega), if_neg (by omega), if_pos (by omega)]
 refine au 6 ?_
 refine aB rfl (du call295 rfl (Wg W0 _ sb i rb cb clock x id hH hx hv hid hc (by omega) hk)) ?_
 rintro _ B_ ⟨f, rfl, hB_, hf⟩
 obtain rfl := hB_.symm
 rw [show ny id clock.toNat i x = mF id clock.toNat i x by rw [mF, if_neg (by omega), if_neg (by omega), if_neg (by omega), if_neg (by omega), if_neg (by omega), if_neg (by omega)]] at hf
 refine au 4 ?_
 refine ae ?_
 exact ⟨_, ⟨f, rfl, rfl, hf⟩, inferInstance⟩
theorem Wh {W0 : World} {R : List HP} (cb : Nat) (cs : List Nat) (id : Nat) (h : CsOk cs) (hid : id < 4) : sQ W0 218 [pV cb] (pt cb (dH cs id) :: R) (.bool false) (pt cb (dH cs id) :: R) := by
 refine ai 8 func218 ntmps218 ?_
 refine ar 15 (ao call287 rfl (Hm cb h hid 0 (by decide) 0 (by decide))) ?_
 refine ae ?_
 refine aR ?_
 cases ec cs <;> rfl
theorem C8 (hH : ∀ A, bG (aO W0 A) 0 0 jv) (hx : CpOk x) (hv : jH i = true) (hid : id < 4) (hc : 0 ≤ clock) : sQ W0 147 [.agg (rN i).toArray, pV rb, pV cb, .int .i64 clock] (pt rb (dq x.rl x.pc) :: pt cb (dH x.cs id) :: R) (.tuple #[.agg (dA (m7 id clock.toNat i x).1).toArray, .int .i64 0]) (pt rb (dq (m7 id clock.toNat i x).2.rl (m7 id clock.toNat i x).2.pc) :: pt cb (dH (m7 id clock.toNat i x).2.cs id) :: R) := by
 obtain ⟨kb, hkb⟩ : ∃ k, ec x.cs = k := ⟨_, rfl⟩
 obtain ⟨ki, hki⟩ : ∃ k, k7 i.op = k := ⟨_, rfl⟩
 have hz : ∀ z : Bool, (z && false) = false := fun z => by cases z <;> rfl
 rw [m7, hkb, hki]
 refine ai 2 func147 ntmps147 ?_
 refine ax (aV rfl) fun b4 => ?_
 refine ax (aS ie) fun b8 => ?_
 refine au 7 ?_
 refine ar 13 (ao Ki rfl (BE rb x.rl x.pc 0 hx.r.len (by decide))) ?_
 refine a8 rfl (fun c2 => ?_) fun c2 => ?_
 ·exact absurd rfl c2
 refine au 6 ?_
 refine aM (ao call168 rfl (Vs cb hx.cs)) ?_
 refine a7 rfl (uJ kt bE zG rfl) ?_
 refine a7 rfl (uw Tryz.eqGuardType179 rfl rfl (FU (i := Tryz.t37) (ms := x.cs.map Int.ofNat) (ns := [0, 0, 0, 0, 0, 0, 0]) kt (by kernel_rfl) (by kernel_rfl) dk ia (by rw [List.map_map]; rfl) rfl (by rw [List.length_map]; exact hx.cs.len) rfl)) ?_
 refine a7 rfl (aH rfl) ?_
 refine cp rfl rfl rfl (fun g4_5 => ?_) fun g4_5 => ?_
 ·refine au 2 ?_
  refine aB rfl (ao call218 rfl (Wh cb x.cs id hx.cs hid)) ?_
  rintro _ B_ ⟨rfl, hB_⟩
  obtain rfl := hB_.symm
  refine a7 rfl (kP rfl rfl) (au 2 ?_)
  refine a8 rfl (fun c4 => ?_) fun c4 => ?_
  ·first | exact absurd c4 (by decide) | (cases c4)
  refine au 6 ?_
  refine ar 3 (aD Dj rfl (yH hH i)) ?_
  refine a8 rfl (fun c6 => ?_) fun c6 => ?_
  ·rw [hv] at c6; exact absurd c6 (by decide)
  refine au 7 ?_
  refine aM (aD call219 rfl (HD i.op)) ?_
  rw [hki]
  refine a7 rfl (aH rfl) ?_
  refine cp rfl rfl rfl (fun g8_4 => ?_) fun g8_4 => ?_
  ·refine au 2 ?_
   refine aM (ao zR rfl (vM cb hx.cs)) ?_
   rw [show tT x.cs = [.bool (jZ x.cs), .int .i64 (k0 x.cs), .bool (!kb)] by rw [tT, hkb]]
   refine cP rfl rfl (ap 3 (Gn rfl CI rfl gz rfl) ?_)
   refine a8 rfl (fun c8 => ?_) fun c8 => ?_
   ·refine au 3 ?_
    refine aM (aD Kj rfl (C7 hH i hv)) ?_
    refine aM (aD wM rfl (tV 7 (oG i))) ?_
    refine aE 5 (aF dm rfl rfl rfl rfl rfl) ?_
    refine bY (.cons (cg gy dm rfl rfl) (.cons (bK rfl) .nil)) ?_
    rw [if_pos (by rw [show ki = true from g8_4]; first | exact c8 | (rw [Bool.true_and]; exact c8) | (cases kb; rfl; exact absurd rfl c8))]
    exact ⟨_, ⟨rfl, rfl⟩, inferInstance⟩
   refine au 3 ?_
   have hnk : k7 i.op = true → ec x.cs = true := fun q => by
    rw [hki] at q
    rw [hkb]
    first | (simpa using c8) | (subst q; exact absurd rfl g8_4) | exact absurd q g8_4
   have hno : (ki && !kb) = false := by
    rw [hki, hkb] at hnk
    cases ki <;> cases kb <;> first | rfl | exact absurd (hnk rfl) (by decide)
   rw [hno, if_neg (by decide)]
   refine au 5 ?_
   refine a7 rfl (bq zo Dl (am kl (am nT (am nU (am aj bj)))) (iJ rfl kl rfl rfl (Nat.le_of_ble_eq_true rfl) SetRL.eq (aI rfl nT rfl rfl (Nat.le_of_ble_eq_true rfl) SetL.eq (aI rfl nU rfl rfl (Nat.le_of_ble_eq_true rfl) SetL.eq (aI rfl aj rfl rfl (Nat.le_of_ble_eq_true rfl) SetL.eq bi))))) ?_
   refine ax (aV rfl) fun sb => ?_
   refine au 6 ?_
   refine aB rfl (du Dm rfl (yJ W0 _ sb i rb cb clock x id hH hx hv hid hc hnk)) ?_
   rintro _ B_ ⟨f, rfl, hB_, hf⟩
   obtain rfl := hB_.symm
   refine au 6 ?_
   refine aM (iK pF (gF (us := [pV sb]) (cs := []) rfl hf.1 rfl (hf.2 _))) ?_
   refine aE 4 (aF dm rfl rfl rfl rfl rfl) ?_
   exact bY (.cons (cg gy dm rfl rfl) (.cons (bK rfl) .nil)) aL
  refine au 9 ?_
  have hnk : k7 i.op = true → ec x.cs = true := fun q => by
   rw [hki] at q
   rw [hkb]
   first | (simpa using c8) | (subst q; exact absurd rfl g8_4) | exact absurd q g8_4
  have hno : (ki && !kb) = false := by
   rw [hki, hkb] at hnk
   cases ki <;> cases kb <;> first | rfl | exact absurd (hnk rfl) (by decide)
  rw [hno, if_neg (by decide)]
  refine au 5 ?_
  refine a7 rfl (bq zo Dl (am kl (am nT (am nU (am aj bj)))) (iJ rfl kl rfl rfl (Nat.le_of_ble_eq_true rfl) SetRL.eq (aI rfl nT rfl rfl (Nat.le_of_ble_eq_true rfl) SetL.eq (aI rfl nU rfl rfl (Nat.le_of_ble_eq_true rfl) SetL.eq (aI rfl aj rfl rfl (Nat.le_of_ble_eq_true rfl) SetL.eq bi))))) ?_
  refine ax (aV rfl) fun sb => ?_
  refine au 6 ?_
  refine aB rfl (du Dm rfl (yJ W0 _ sb i rb cb clock x id hH hx hv hid hc hnk)) ?_
  rintro _ B_ ⟨f, rfl, hB_, hf⟩
  obtain rfl := hB_.symm
  refine au 6 ?_
  refine aM (iK pF (gF (us := [pV sb]) (cs := []) rfl hf.1 rfl (hf.2 _))) ?_
  refine aE 4 (aF dm rfl rfl rfl rfl rfl) ?_
  exact bY (.cons (cg gy dm rfl rfl) (.cons (bK rfl) .nil)) aL
 refine au 11 ?_
 refine ar 3 (aD Dj rfl (yH hH i)) ?_
 refine a8 rfl (fun c6 => ?_) fun c6 => ?_
 ·rw [hv] at c6; exact absurd c6 (by decide)
 refine au 7 ?_
 refine aM (aD call219 rfl (HD i.op)) ?_
 rw [hki]
 refine a7 rfl (aH rfl) ?_
 refine cp rfl rfl rfl (fun g8_4 => ?_) fun g8_4 => ?_
 ·refine au 2 ?_
  refine aM (ao zR rfl (vM cb hx.cs)) ?_
  rw [show tT x.cs = [.bool (jZ x.cs), .int .i64 (k0 x.cs), .bool (!kb)] by rw [tT, hkb]]
  refine cP rfl rfl (ap 3 (Gn rfl CI rfl gz rfl) ?_)
  refine a8 rfl (fun c8 => ?_) fun c8 => ?_
  ·refine au 3 ?_
   refine aB rfl (aD Kj rfl (C7 hH i hv)) ?_
   rintro _ B_ ⟨rfl, hB_⟩
   obtain rfl := hB_.symm
   refine aM (aD wM rfl (tV 7 (oG i))) ?_
   refine aE 5 (aF dm rfl rfl rfl rfl rfl) ?_
   refine bY (.cons (cg gy dm rfl rfl) (.cons (bK rfl) .nil)) ?_
   rw [if_pos (by rw [show ki = true from g8_4]; first | exact c8 | (rw [Bool.true_and]; exact c8) | (cases kb; rfl; exact absurd rfl c8))]
   exact ⟨_, ⟨rfl, rfl⟩, inferInstance⟩
  refine au 3 ?_
  have hnk : k7 i.op = true → ec x.cs = true := fun q => by
   rw [hki] at q
   rw [hkb]
   first | (simpa using c8) | (subst q; exact absurd rfl g8_4) | exact absurd q g8_4
  have hno : (ki && !kb) = false := by
   rw [hki, hkb] at hnk
   cases ki <;> cases kb <;> first | rfl | exact absurd (hnk rfl) (by decide)
  rw [hno, if_neg (by decide)]
  refine au 5 ?_
  refine a7 rfl (bq zo Dl (am kl (am nT (am nU (am aj bj)))) (iJ rfl kl rfl rfl (Nat.le_of_ble_eq_true rfl) SetRL.eq (aI rfl nT rfl rfl (Nat.le_of_ble_eq_true rfl) SetL.eq (aI rfl nU rfl rfl (Nat.le_of_ble_eq_true rfl) SetL.eq (aI rfl aj rfl rfl (Nat.le_of_ble_eq_true rfl) SetL.eq bi))))) ?_
  refine ax (aV rfl) fun sb => ?_
  refine au 6 ?_
  refine aB rfl (du Dm rfl (yJ W0 _ sb i rb cb clock x id hH hx hv hid hc hnk)) ?_
  rintro _ B_ ⟨f, rfl, hB_, hf⟩
  obtain rfl := hB_.symm
  refine au 6 ?_
  refine aM (iK pF (gF (us := [pV sb]) (cs := []) rfl hf.1 rfl (hf.2 _))) ?_
  refine aE 4 (aF dm rfl rfl rfl rfl rfl) ?_
  exact bY (.cons (cg gy dm rfl rfl) (.cons (bK rfl) .nil)) aL
 refine au 9 ?_
 have hnk : k7 i.op = true → ec x.cs = true := fun q => by
  rw [hki] at q
  rw [hkb]
  first | (simpa using c8) | (subst q; exact absurd rfl g8_4) | exact absurd q g8_4
 have hno : (ki && !kb) = false := by
  rw [hki, hkb] at hnk
  cases ki <;> cases kb <;> first | rfl | exact absurd (hnk rfl) (by decide)
 rw [hno, if_neg (by decide)]
 refine au 5 ?_
 refine a7 rfl (bq zo Dl (am kl (am nT (am nU (am aj bj)))) (iJ rfl kl rfl rfl (Nat.le_of_ble_eq_true rfl) SetRL.eq (aI rfl nT rfl rfl (Nat.le_of_ble_eq_true rfl) SetL.eq (aI rfl nU rfl rfl (Nat.le_of_ble_eq_true rfl) SetL.eq (aI rfl aj rfl rfl (Nat.le_of_ble_eq_true rfl) SetL.eq bi))))) ?_
 refine ax (aV rfl) fun sb => ?_
 refine au 6 ?_
 refine aB rfl (du Dm rfl (yJ W0 _ sb i rb cb clock x id hH hx hv hid hc hnk)) ?_
 rintro _ B_ ⟨f, rfl, hB_, hf⟩
 obtain rfl := hB_.symm
 refine au 6 ?_
 refine aM (iK pF (gF (us := [pV sb]) (cs := []) rfl hf.1 rfl (hf.2 _))) ?_
 refine aE 4 (aF dm rfl rfl rfl rfl rfl) ?_
 exact bY (.cons (cg gy dm rfl rfl) (.cons (bK rfl) .nil)) aL
end
def qj (r : Int) (a0 a1 a2 : Bool) : Int :=
  let x0 := fq .i64 r 8
  let x1 := if fq .i64 r 4 ≠ 0 ∧ a0 = true then iZ .i64 x0 4 else x0
  let x2 := if fq .i64 r 1 ≠ 0 ∧ a1 = true then iZ .i64 x1 1 else x1
  if fq .i64 r 2 ≠ 0 ∧ a2 = true then iZ .i64 x2 2 else x2
theorem Wi (pg : List Pl) (r p : Int) : fP pg r p 3 = qj r (decide (fZ pg p 0 = 0)) (decide (fZ pg p 1 = 0)) (decide (fZ pg p 2 = 0)) := by
 simp only [fP, qj, nN, decide_eq_true_eq]
 rfl
theorem Wj : ∀ n : Nat, n < 16 → ∀ a0 a1 a2 : Bool, (0 ≤ qj (n : Int) a0 a1 a2 ∧ qj (n : Int) a0 a1 a2 < 16) ∧ (ee (qj (n : Int) a0 a1 a2) 1 = true → ee (n : Int) 1 = true ∧ a1 = true) ∧ (ee (qj (n : Int) a0 a1 a2) 2 = true → ee (n : Int) 2 = true ∧ a2 = true) ∧ (ee (qj (n : Int) a0 a1 a2) 4 = true → ee (n : Int) 4 = true ∧ a0 = true) ∧ (ee (qj (n : Int) a0 a1 a2) 8 = true → ee (n : Int) 8 = true) := by
 decide +kernel
theorem Wk (pg : List Pl) (n : Nat) (hn : n < 16) (p : Int) : (0 ≤ fP pg (n : Int) p 3 ∧ fP pg (n : Int) p 3 < 16) ∧ (∀ k, mw k = true → ee (fP pg (n : Int) p 3) (j4 k) = true → fZ pg p k = 0) ∧ ∀ c, c = 1 ∨ c = 2 ∨ c = 4 ∨ c = 8 → ee (fP pg (n : Int) p 3) c = true → ee (n : Int) c = true := by
 obtain ⟨h0, h1, h2, h4, h8⟩ := Wj n hn (decide (fZ pg p 0 = 0)) (decide (fZ pg p 1 = 0)) (decide (fZ pg p 2 = 0))
 rw [Wi]
 refine ⟨h0, fun k hk hb => ?_, fun c hc hb => ?_⟩
 ·have hk := of_decide_eq_true hk
  rcases hk with rfl | rfl | rfl
  ·exact of_decide_eq_true (h4 hb).2
  ·exact of_decide_eq_true (h1 hb).2
  exact of_decide_eq_true (h2 hb).2
 rcases hc with rfl | rfl | rfl | rfl
 ·exact (h1 hb).1
 ·exact (h2 hb).1
 ·exact (h4 hb).1
 exact h8 hb
theorem Wl {a b : Nat} (h : a / 64 = b / 64) : a / 1024 = b / 1024 := by omega
theorem Wm {fr : List aC} {pg : List Pl} {root : Int} {va va' : Nat} (h : WkOkM fr pg root va) (hv : va' < 16384) (he : va' / 64 = va / 64) : cu fr pg root va' = cu fr pg root va ∧ fy fr pg va' root = fy fr pg va root := by
 have hu := Wl he
 have e1 : fy fr pg va' root = fy fr pg va root := by unfold fy; rw [hu]
 have e2 : j5 fr pg va' root = j5 fr pg va root := by unfold j5; rw [hu]
 have e3 : ∀ s, kB fr pg va' root s = kB fr pg va root s := fun s => by unfold kB; rw [hu]
 refine ⟨?_, e1⟩
 rw [cu, cu, if_pos hv, if_pos h.lim, e2, h.rb, if_pos rfl, if_pos rfl]
 simp only [eZ]
 rw [e1, e3]
 unfold oz
 rw [he]
theorem Wn {fr : List aC} {pg : List Pl} {root : Int} {va : Nat} (h : WkOkM fr pg root va) (hp : aP pg (cu fr pg root va).p = true) :
  LOk fr pg 0 ⟨dw root va, ((cu fr pg root va).p, (cm pg (cu fr pg root va).p).1, fP pg (cu fr pg root va).r (cu fr pg root va).p 3), (cu fr pg root va).root, (cu fr pg root va).leaf⟩ := by
 obtain ⟨s, hs⟩ : ∃ s, cu fr pg root va = s := ⟨_, rfl⟩
 have he := h.eq
 rw [hs] at he hp ⊢
 have hn : ∃ n : Nat, s.r = (n : Int) ∧ n < 16 := ⟨oj (eM fr pg (fy fr pg va root) (va / 64)), by rw [he], by unfold oj; split; decide; exact En _⟩
 obtain ⟨n, hn, hn16⟩ := hn
 obtain ⟨g1, g2, g3⟩ := Wk pg n hn16 s.p
 rw [← hn] at g1 g2 g3
 have hon : s.on = true := by
  rw [he]
  have hl := h.lf
  unfold om at hl
  show oi _ = true
  unfold oi
  split at hl
  ·exact absurd hl (by decide)
  rename_i q
  rw [if_neg q, sM]; exact decide_eq_true hl
 have hrt : s.root = root := by rw [he]
 have hlf : s.leaf = fy fr pg va root := by rw [he]
 refine ⟨⟨?_, ?_⟩, ⟨hp, rfl⟩, g2, g1, fun _ _ va' hv hk => ?_⟩
 ·show 0 ≤ s.root ∧ s.root < 8
  rw [hrt]; exact (r9.1 (yC.1 h.rb).1).1
 ·show 0 ≤ s.leaf ∧ s.leaf < 8
  rw [hlf]; exact (r9.1 h.lt).1
 have hk' : va' / 64 = va / 64 := by
  have : ((va' / 64 : Nat) : Int) = ((va / 64 : Nat) : Int) := hk
  omega
 obtain ⟨e1, e2⟩ := Wm h hv hk'
 show WkOkM fr pg root va' ∧ root = s.root ∧ fy fr pg va' root = s.leaf ∧ (cu fr pg root va').on = true ∧ (cu fr pg root va').p = s.p ∧ ∀ c, c = 1 ∨ c = 2 ∨ c = 4 ∨ c = 8 → ee (fP pg s.r s.p 3) c = true → ee (cu fr pg root va').r c = true
 rw [e1, e2, hs]
 refine ⟨yD (by rw [e1, hs, he]), hrt.symm, hlf.symm, hon, rfl, fun c hc hb => ?_⟩
 exact g3 c hc hb
theorem MOk.fill {fr : List aC} {pg : List Pl} {L : List Ln} {T T' : List It} (h : MOk fr pg 0 L T) {k : cT} {e : iA} {r l : Int} (room now : Nat) (hz : LOk fr pg 0 ⟨k, e, r, l⟩)
  (hT : ∀ y ∈ T', y ∈ ju room now k (jb k e r l L).e (gr (kd L r l) T) ∧ (ja y.key (ke k e r l L)).isSome = true) : MOk fr pg 0 (ke k e r l L) T' := by
 refine ⟨h.F, by decide, h.P, h.pl, (h.ti.fill k e r l room now).sub' fun y hy => List.mem_filter.2 (hT y hy), fun x hx => ?_⟩
 rw [BL k e r l L h.ti.len] at hx
 rcases List.mem_append.1 hx with q | q
 ·obtain ⟨z, hz2, rfl⟩ := List.mem_map.1 q
  have := h.ln z (BK hz2).1
  unfold dr; split
  ·exact this.nar
  exact this
 obtain rfl : x = jb k e r l L := by simpa using q
 rcases BM k e r l L with z | z
 ·rw [z]; exact hz
 rw [z]; exact hz.nar
theorem Wo {its T : List It} {now : Nat} (l : List Int) : ∀ {its T : List It}, Rep its now T → Rep (gr l its) now (gr l T) := by
 induction l with
 | nil => exact fun h => h
 | cons p l ih => exact fun h => ih (h.nar p)
theorem HH (l : List Int) : ∀ T : List It, (gr l T).length = T.length := by
 induction l with
 | nil => exact fun _ => rfl
 | cons p l ih => exact fun T => (ih _).trans (List.length_map _)
theorem Wp (l : List Int) (p : Int) (T : List It) : gr (l ++ [p]) T = (gr l T).map (i6 p) := by simp [gr, List.foldl_append]
theorem Wq (l : List Int) : ∀ {T : List It}, (∀ y ∈ T, i64 y.er) → ∀ y ∈ gr l T, i64 y.er := by
 induction l with
 | nil => exact fun h => h
 | cons p l ih =>
  intro T h
  refine ih fun y hy => ?_
  obtain ⟨z, hz, rfl⟩ := List.mem_map.1 hy
  exact Ul (h z hz)
theorem MOk.er {fr : List aC} {pg : List Pl} {d : Nat} {L : List Ln} {T : List It} (h : MOk fr pg d L T) {its : List It} {now : Nat} (hR : Rep its now T) : ∀ y ∈ its, i64 y.er := fun y hy => by
 obtain ⟨x, hx, _, e⟩ := h.ti.sub y (hR.perm.mem_iff.1 hy)
 have := (h.ln x hx).r
 have e2 : y.er = x.e.2.2 := by rw [e]; rfl
 rw [e2]
 exact ⟨by omega, by omega⟩
theorem MOk.ei {fr : List aC} {pg : List Pl} {d : Nat} {L : List Ln} {T : List It} (h : MOk fr pg d L T) : ∀ x ∈ L, i64 x.e.2.2 := fun x hx => by
 have := (h.ln x hx).r
 exact ⟨by omega, by omega⟩
theorem Wr (hK : ∀ A, bG (aO W0 A) 1 0 gQ) (ba bm pv bt bs ps pm : Nat) (on : Bool) (root : Int) (user : Bool) (va : Nat) (hva : va < 4294967296) (kind : Int) (its : List It) (room now : Nat) (T : List It) (L : List Ln) (fr : List aC) (pg : List Pl) (hR : Rep its now T) (hT : T.length ≤ room) (hr : room ≤ 4) (hn : now < 1000000) (h : MOk fr pg 0 L T) (hw : WkOkM fr pg root va) (hp : aP pg (cu fr pg root va).p = true) (o : Int) (fast : Bool) : sP W0 339 [.pointer (some ⟨ba, 0, none⟩), .agg #[.int .i64 (cu fr pg root va).p, .int .i64 (cm pg (cu fr pg root va).p).1, .int .i64 o, .bool fast]] (pt ba (gO bm on root user va kind) :: pt bm (cN pv bt bs) :: aQ bt (its, d3 room now) :: bL bs L :: eg pv ps pm 0 fr pg R) (fun v B => v = .tuple #[] ∧ ∃ its' T' L' now', Rep its' now' T' ∧ T'.length ≤ room ∧ MOk fr pg 0 L' T' ∧ now' ≤ now + 1 ∧ (∃ x ∈ L', x.k = dw root va ∧ (x.e.2.2 = fP pg (cu fr pg root va).r (cu fr pg root va).p 3 ∨ x.e.2.2 = et (fP pg (cu fr pg root va).r (cu fr pg root va).p 3))) ∧ B = pt ba (gO bm on root user va kind) :: pt bm (cN pv bt bs) :: aQ bt (its', d3 room now') :: bL bs L' :: eg pv ps pm 0 fr pg R) := by
 have hfo := Wn hw hp
 obtain ⟨s, hs⟩ : ∃ s, cu fr pg root va = s := ⟨_, rfl⟩
 rw [hs] at hfo hp ⊢
 obtain ⟨f, hf⟩ : ∃ f, (cm pg s.p).1 = f := ⟨_, rfl⟩
 obtain ⟨gv, hgv⟩ : ∃ g, fP pg s.r s.p 3 = g := ⟨_, rfl⟩
 rw [hf, hgv] at hfo
 rw [hf, hgv]
 have hei : i64 gv := by
  have : 0 ≤ gv ∧ gv < 16 := hfo.r
  exact ⟨by omega, by omega⟩
 have ho1 : rI s.root = true := decide_eq_true hfo.own.1
 have ho2 : rI s.leaf = true := decide_eq_true hfo.own.2
 have hll := h.ti.len
 have hti := h.ti.fill (dw root va) (s.p, f, gv) s.root s.leaf room now
 have hgn : ja (dw root va) (ke (dw root va) (s.p, f, gv) s.root s.leaf L) = some (jb (dw root va) (s.p, f, gv) s.root s.leaf L) := by
  have hm : jb (dw root va) (s.p, f, gv) s.root s.leaf L ∈ ke (dw root va) (s.p, f, gv) s.root s.leaf L := by rw [BL _ _ _ _ _ hll]; simp
  have := rH hti.keys hm
  rwa [yx] at this
 have hfl := fun T' q => h.fill (T' := T') room now hfo q
 have hze : (jb (dw root va) (s.p, f, gv) s.root s.leaf L).e.2.2 = gv ∨ (jb (dw root va) (s.p, f, gv) s.root s.leaf L).e.2.2 = et gv := by
  rcases BM (dw root va) (s.p, f, gv) s.root s.leaf L with q | q
  ·rw [q]; exact .inl rfl
  rw [q]; exact .inr rfl
 obtain ⟨L2, hL2⟩ : ∃ l, ke (dw root va) (s.p, f, gv) s.root s.leaf L = l := ⟨_, rfl⟩
 obtain ⟨z, hz⟩ : ∃ z, jb (dw root va) (s.p, f, gv) s.root s.leaf L = z := ⟨_, rfl⟩
 obtain ⟨fs, hfs⟩ : ∃ l, kd L s.root s.leaf = l := ⟨_, rfl⟩
 rw [hL2, hz] at hgn
 rw [hz] at hze
 have hzm := tL hgn
 rw [hL2, hz, hfs] at hfl
 rw [hL2] at hti
 have hl2 := hti.len
 have hfn : fs.length ≤ 2 := by
  rw [← hfs, kd]
  refine Nat.le_trans (List.length_filter_le _ _) ?_
  split <;> simp
 have hRn := fun l => Wo (its := its) (T := T) l hR
 have hNl := fun l => HH l its
 have hNt := fun l => HH l T
 have hNi := fun l => Wq l (h.er hR)
 have hil := hR.length
 refine ai 2 func339 ntmps339 ?_
 refine ax (aV rfl) fun b3 => ?_
 refine au 11 ?_
 refine dU (fun b5 : Nat => True) (fun b5 => [(0, .pointer (some ⟨ba, 0, none⟩)), (3, .pointer (some ⟨b3, 0, none⟩)), (4, .pointer (some ⟨bm, 0, none⟩)), (5, .pointer (some ⟨b5, 0, none⟩))]) (fun b5 => pt b3 (ac [.int .i64 s.p, .int .i64 f, .int .i64 o, .bool fast] 135) :: pt b5 (ac (pL s) 416) :: pt ba (gO bm on root user va kind) :: pt bm (cN pv bt bs) :: aQ bt (its, d3 room now) :: bL bs L :: eg pv ps pm 0 fr pg R) ?_ ?_
 ·skip
  refine aU [(ba, 0, _), (bm, 0, _)] 16 aT rfl (aa (aa ag)) (fun hS => ?_)
  refine ah 0 13 hS ?_
  refine eJ (is := [13, 14]) (by kernel_rfl) rfl ⟨?_, ?_, trivial⟩
  ·skip
   refine cV rfl rfl (du JF rfl (AN pv ps pm 0 fr pg h.P h.F root va hva)) rfl ?_; clear hS
   rintro _ B_ ⟨rfl, hB_⟩
   subst hB_
   rw [hs]
   refine ⟨(aa (aa ag)), fun hS => ?_⟩
   refine bS 14 (by kernel_rfl) rfl rfl (aS zw) rfl ?_; clear hS
   rintro _ _ ⟨b5, rfl, rfl⟩
   refine ⟨(aa (aa ag)), fun hS => ?_⟩
   refine bU 15 rfl rfl (aF mV rfl rfl rfl rfl rfl) (aa (aa ag)) fun hS => ?_
   refine aK ?_
   refine aY ?_
   exact cj b5 trivial
  skip
  refine cV rfl rfl (aS zw) rfl ?_; clear hS
  rintro _ _ ⟨b5, rfl, rfl⟩
  refine ⟨(aa (aa ag)), fun hS => ?_⟩
  refine bS 13 (by kernel_rfl) rfl rfl (du JF rfl (AN pv ps pm 0 fr pg h.P h.F root va hva)) rfl ?_; clear hS
  rintro _ B_ ⟨rfl, hB_⟩
  subst hB_
  rw [hs]
  refine ⟨(aa (aa ag)), fun hS => ?_⟩
  refine bU 15 rfl rfl (aF mV rfl rfl rfl rfl rfl) (aa (aa ag)) fun hS => ?_
  refine aK ?_
  refine aY ?_
  exact cj b5 trivial
 intro b5 _
 refine dU (fun b6 : Nat => True) (fun b6 => [(0, .pointer (some ⟨ba, 0, none⟩)), (3, .pointer (some ⟨b3, 0, none⟩)), (4, .pointer (some ⟨bm, 0, none⟩)), (5, .pointer (some ⟨b5, 0, none⟩)), (6, .pointer (some ⟨b6, 0, none⟩))]) (fun b6 => pt b6 (ac [.int .i64 s.p, .int .i64 f, .int .i64 gv] 319) :: pt b5 (ac (pL s) 416) :: pt ba (gO bm on root user va kind) :: pt bm (cN pv bt bs) :: aQ bt (its, d3 room now) :: bL bs L :: eg pv ps pm 0 fr pg R) ?_ ?_
 ·skip
  refine aU [(b3, 0, _), (b5, 0, _)] 11 aT rfl (aa (aa ag)) (fun hS => ?_)
  refine ah 0 6 hS ?_
  refine av 6 rfl rfl rfl hS (b0 qv je rfl (vG (us := [.bool s.on, .int .i64 s.r, .int .i64 s.p]) (ws := [.int .i64 s.fault, .int .i64 s.root, .int .i64 s.leaf]) (co (k := 1) rfl) rfl) rfl) ?_
  refine eJ (is := [7, 9]) (by kernel_rfl) rfl ⟨?_, ?_, trivial⟩
  ·skip
   refine cV rfl rfl (du call382 rfl (Hi hK bm pv bt bs ps pm 0 s.on s.r s.p pg h.P)) rfl ?_; clear hS
   rintro _ B_ ⟨rfl, hB_⟩
   subst hB_
   rw [hgv]
   refine ⟨(aa (aa ag)), fun hS => ?_⟩
   refine av 8 rfl rfl rfl hS (bq zn ji (am aj (am aj (am aj bj))) (aI rfl aj rfl rfl (Nat.le_of_ble_eq_true rfl) SetL.eq (aI rfl aj rfl rfl (Nat.le_of_ble_eq_true rfl) SetL.eq (aI rfl aj rfl rfl (Nat.le_of_ble_eq_true rfl) SetL.eq bi)))) ?_
   refine bS 9 (by kernel_rfl) rfl rfl (aS ji) rfl ?_; clear hS
   rintro _ _ ⟨b6, rfl, rfl⟩
   refine ⟨(aa (aa ag)), fun hS => ?_⟩
   refine bU 10 rfl rfl (aF dX rfl rfl rfl rfl rfl) (aa (aa ag)) fun hS => ?_
   refine aK ?_
   refine aY ?_
   exact cj b6 trivial
  skip
  refine cV rfl rfl (aS ji) rfl ?_; clear hS
  rintro _ _ ⟨b6, rfl, rfl⟩
  refine ⟨(aa (aa ag)), fun hS => ?_⟩
  refine bS 7 (by kernel_rfl) rfl rfl (du call382 rfl (Hi hK bm pv bt bs ps pm 0 s.on s.r s.p pg h.P)) rfl ?_; clear hS
  rintro _ B_ ⟨rfl, hB_⟩
  subst hB_
  rw [hgv]
  refine ⟨(aa (aa ag)), fun hS => ?_⟩
  refine av 8 rfl rfl rfl hS (bq zn ji (am aj (am aj (am aj bj))) (aI rfl aj rfl rfl (Nat.le_of_ble_eq_true rfl) SetL.eq (aI rfl aj rfl rfl (Nat.le_of_ble_eq_true rfl) SetL.eq (aI rfl aj rfl rfl (Nat.le_of_ble_eq_true rfl) SetL.eq bi)))) ?_
  refine bU 10 rfl rfl (aF dX rfl rfl rfl rfl rfl) (aa (aa ag)) fun hS => ?_
  refine aK ?_
  refine aY ?_
  exact cj b6 trivial
 intro b6 _
 refine bD ?_
 refine aU [(bm, 0, _), (ba, 0, _), (b6, 0, _), (b5, 0, _)] 17 aT rfl (aa (aa (aa (aa ag)))) (fun hS => ?_)
 refine ah 0 5 hS ?_
 refine av 6 rfl rfl rfl hS (b0 kM dX rfl (by first | exact co (k := 0) rfl | exact co (k := 1) rfl | exact co (k := 2) rfl | exact co (k := 3) rfl) rfl) ?_
 refine ah 7 4 hS ?_
 refine bF 5 rfl rfl (ao mo rfl (lQ ba bm on root user va hva kind)) (aa (aa (aa (aa ag)))) fun hS => ?_
 refine bS 11 (by kernel_rfl) rfl rfl (ao call383 rfl (Vf bs L hll h.ei (dw root va) (s.p, f, gv) hei s.root s.leaf ho1 ho2)) rfl ?_; clear hS
 rintro _ B_ ⟨af, cf, rfl, hB_⟩
 subst hB_
 rw [hL2, hfs]
 refine ⟨(aa (aa (aa (aa ag)))), fun hS => ?_⟩
 refine ah 12 5 hS ?_
 refine aK ?_
 refine au 8 ?_
 refine a8 rfl (fun c5 => ?_) fun c5 => ?_
 ·exact absurd rfl c5
 refine au 11 ?_
 refine ge (fun i : Nat => i ≤ fs.length) (fun i => [(0, .pointer (some ⟨ba, 0, none⟩)), (4, .pointer (some ⟨bm, 0, none⟩)), (57, .slice af fs.length cf), (58, .int .i64 (fs.length : Nat)), (59, .int .i64 i)]) (fun i => pt ba (gO bm on root user va kind) :: pt bm (cN pv bt bs) :: aQ bt (gr (fs.take i) its, d3 room now) :: bL bs L2 :: osl 3 1 (.slice af fs.length cf) (fs.flatMap iI) :: eg pv ps pm 0 fr pg R) (fun i => fs.length - i) 0 ?_ ?_ ?_ ?_
 ·exact Nat.zero_le _
 ·repeat (first | exact dy | refine db rfl ?_)
 ·rw [show gr (fs.take 0) its = its from rfl]
  exact inferInstance
 intro i hi
 refine au 6 ?_
 refine a8 rfl (fun c7 => ?_) fun c7 => ?_
 ·refine au 5 ?_
  have hi1 : i < fs.length := by omega
  refine lB (E := 3) (sz := 1) (a := af) (c := cf) (n := fs.length) iI fs (fun _ => rfl) (by decide) rfl (fun hs => ?_)
  obtain ⟨g, o, hga, hc⟩ := hs.at_ hi1
  obtain ⟨q, hq⟩ : ∃ q, fs[i] = q := ⟨_, rfl⟩
  have htk : fs.take (i + 1) = fs.take i ++ [q] := by rw [List.take_succ_eq_append_getElem hi1, hq]
  have hNs : gr (fs.take (i + 1)) its = (gr (fs.take i) its).map (i6 q) := by rw [htk, Wp]
  have hN1 := hNl (fs.take i)
  have hN2 := hNi (fs.take i)
  rw [hq] at hc
  refine bQ ?_
  refine a7 rfl (dW dB aj rfl hga rfl rfl hi1 (by first | exact Nat.zero_add _ | rfl)) ?_
  refine ap 9 (aA aX rfl (bG.weak hc 0 _ rfl)) ?_
  refine ar 4 (ao call384 rfl (Uo bt (gr (fs.take i) its) (.int .i64 room) (.int .i64 now) q (by omega) hN2)) ?_
  refine ap 3 (cM rfl rfl) ?_
  refine bZ (i + 1) ?_ (he := ?_)
  ·omega
  rw [hNs]
  exact inferInstance
 refine au 7 ?_
 obtain rfl : i = fs.length := by omega
 have hR3 := hRn (fs.take fs.length)
 have hN3 := hNt (fs.take fs.length)
 rw [List.take_length] at hR3 hN3 ⊢
 refine aU [(bm, 0, _), (ba, 0, _)] 13 aT rfl (aa (aa ag)) (fun hS => ?_)
 refine ah 0 5 hS ?_
 refine eJ (is := [5, 10]) (by kernel_rfl) rfl ⟨?_, ?_, trivial⟩
 ·skip
  refine cV rfl rfl (ao mo rfl (lQ ba bm on root user va hva kind)) rfl ?_; clear hS
  rintro _ B_ ⟨rfl, hB_⟩
  obtain rfl := hB_.symm
  refine ⟨(aa (aa ag)), fun hS => ?_⟩
  refine eJ (is := [6, 10]) (by kernel_rfl) rfl ⟨?_, ?_, trivial⟩
  ·skip
   refine cV rfl rfl (ao s5 rfl (qg bs L2 (by omega) (dw root va))) rfl ?_; clear hS
   rintro _ B_ ⟨rfl, hB_⟩
   subst hB_
   rw [qi, hgn]
   refine ⟨(aa (aa ag)), fun hS => ?_⟩
   refine ah 7 3 hS ?_
   refine bS 10 (by kernel_rfl) rfl rfl (aS ji) rfl ?_; clear hS
   rintro _ _ ⟨b11, rfl, rfl⟩
   refine ⟨(aa (aa ag)), fun hS => ?_⟩
   refine bU 11 rfl rfl (aF dX rfl rfl rfl rfl rfl) (aa (aa ag)) fun hS => ?_
   refine ah 12 1 hS ?_
   refine aK ?_
   refine au 6 ?_
   refine a8 rfl (fun c12 => ?_) fun c12 => ?_
   ·refine aU [(bm, 0, _), (ba, 0, _), (b11, 0, _)] 8 aT rfl (aa (aa (aa ag))) (fun hS => ?_)
    refine ah 0 5 hS ?_
    refine av 6 rfl rfl rfl hS (b0 kM dX rfl (by first | exact co (k := 0) rfl | exact co (k := 1) rfl | exact co (k := 2) rfl) rfl) ?_
    refine bF 5 rfl rfl (ao mo rfl (lQ ba bm on root user va hva kind)) (aa (aa (aa ag))) fun hS => ?_
    refine bS 7 (by kernel_rfl) rfl rfl (ao wJ rfl (tI bt (gr fs its) room now (gr fs T) (dw root va) z.e hR3 (by omega) hr hn)) rfl ?_; clear hS
    rintro _ B_ ⟨rfl, its2, hB_, hR2⟩
    subst hB_
    have hpl := tH (now := now) (k := dw root va) (e := z.e) (show (gr fs T).length ≤ room by omega)
    refine ⟨(aa (aa (aa ag))), fun hS => ?_⟩
    refine aK ?_
    refine au 3 ?_
    refine aB rfl (du Kk rfl (BX bm pv bt bs its2 (.int .i64 room) (.int .i64 ((now + 1 : Nat) : Int)) (now + 1) room _ L2 hR2 hpl hr hl2)) ?_
    rintro _ B_ ⟨rfl, its3, T3, hB_, hR4, hT4, hI4⟩
    subst hB_
    refine bX (bT (.inr rfl) .nil ?_)
    exact ⟨_, ⟨rfl, its3, T3, L2, now + 1, hR4, hT4, hfl T3 hI4, by omega, ⟨z, hzm.1, hzm.2, hze⟩, rfl⟩, inferInstance⟩
   exact absurd rfl c12
  skip
  refine cV rfl rfl (aS ji) rfl ?_; clear hS
  rintro _ _ ⟨b11, rfl, rfl⟩
  refine ⟨(aa (aa ag)), fun hS => ?_⟩
  refine bS 6 (by kernel_rfl) rfl rfl (ao s5 rfl (qg bs L2 (by omega) (dw root va))) rfl ?_; clear hS
  rintro _ B_ ⟨rfl, hB_⟩
  subst hB_
  rw [qi, hgn]
  refine ⟨(aa (aa ag)), fun hS => ?_⟩
  refine ah 7 3 hS ?_
  refine bU 11 rfl rfl (aF dX rfl rfl rfl rfl rfl) (aa (aa ag)) fun hS => ?_
  refine ah 12 1 hS ?_
  refine aK ?_
  refine au 6 ?_
  refine a8 rfl (fun c12 => ?_) fun c12 => ?_
  ·refine aU [(bm, 0, _), (ba, 0, _), (b11, 0, _)] 8 aT rfl (aa (aa (aa ag))) (fun hS => ?_)
   refine ah 0 5 hS ?_
   refine av 6 rfl rfl rfl hS (b0 kM dX rfl (by first | exact co (k := 0) rfl | exact co (k := 1) rfl | exact co (k := 2) rfl) rfl) ?_
   refine bF 5 rfl rfl (ao mo rfl (lQ ba bm on root user va hva kind)) (aa (aa (aa ag))) fun hS => ?_
   refine bS 7 (by kernel_rfl) rfl rfl (ao wJ rfl (tI bt (gr fs its) room now (gr fs T) (dw root va) z.e hR3 (by omega) hr hn)) rfl ?_; clear hS
   rintro _ B_ ⟨rfl, its2, hB_, hR2⟩
   subst hB_
   have hpl := tH (now := now) (k := dw root va) (e := z.e) (show (gr fs T).length ≤ room by omega)
   refine ⟨(aa (aa (aa ag))), fun hS => ?_⟩
   refine aK ?_
   refine au 3 ?_
   refine aB rfl (du Kk rfl (BX bm pv bt bs its2 (.int .i64 room) (.int .i64 ((now + 1 : Nat) : Int)) (now + 1) room _ L2 hR2 hpl hr hl2)) ?_
   rintro _ B_ ⟨rfl, its3, T3, hB_, hR4, hT4, hI4⟩
   subst hB_
   refine bX (bT (.inr rfl) .nil ?_)
   exact ⟨_, ⟨rfl, its3, T3, L2, now + 1, hR4, hT4, hfl T3 hI4, by omega, ⟨z, hzm.1, hzm.2, hze⟩, rfl⟩, inferInstance⟩
  exact absurd rfl c12
 skip
 refine cV rfl rfl (aS ji) rfl ?_; clear hS
 rintro _ _ ⟨b11, rfl, rfl⟩
 refine ⟨(aa (aa ag)), fun hS => ?_⟩
 refine bF 5 rfl rfl (ao mo rfl (lQ ba bm on root user va hva kind)) (aa (aa ag)) fun hS => ?_
 refine bS 6 (by kernel_rfl) rfl rfl (ao s5 rfl (qg bs L2 (by omega) (dw root va))) rfl ?_; clear hS
 rintro _ B_ ⟨rfl, hB_⟩
 subst hB_
 rw [qi, hgn]
 refine ⟨(aa (aa ag)), fun hS => ?_⟩
 refine ah 7 3 hS ?_
 refine bU 11 rfl rfl (aF dX rfl rfl rfl rfl rfl) (aa (aa ag)) fun hS => ?_
 refine ah 12 1 hS ?_
 refine aK ?_
 refine au 6 ?_
 refine a8 rfl (fun c12 => ?_) fun c12 => ?_
 ·refine aU [(bm, 0, _), (ba, 0, _), (b11, 0, _)] 8 aT rfl (aa (aa (aa ag))) (fun hS => ?_)
  refine ah 0 5 hS ?_
  refine av 6 rfl rfl rfl hS (b0 kM dX rfl (by first | exact co (k := 0) rfl | exact co (k := 1) rfl | exact co (k := 2) rfl) rfl) ?_
  refine bF 5 rfl rfl (ao mo rfl (lQ ba bm on root user va hva kind)) (aa (aa (aa ag))) fun hS => ?_
  refine bS 7 (by kernel_rfl) rfl rfl (ao wJ rfl (tI bt (gr fs its) room now (gr fs T) (dw root va) z.e hR3 (by omega) hr hn)) rfl ?_; clear hS
  rintro _ B_ ⟨rfl, its2, hB_, hR2⟩
  subst hB_
  have hpl := tH (now := now) (k := dw root va) (e := z.e) (show (gr fs T).length ≤ room by omega)
  refine ⟨(aa (aa (aa ag))), fun hS => ?_⟩
  refine aK ?_
  refine au 3 ?_
  refine aB rfl (du Kk rfl (BX bm pv bt bs its2 (.int .i64 room) (.int .i64 ((now + 1 : Nat) : Int)) (now + 1) room _ L2 hR2 hpl hr hl2)) ?_
  rintro _ B_ ⟨rfl, its3, T3, hB_, hR4, hT4, hI4⟩
  subst hB_
  refine bX (bT (.inr rfl) .nil ?_)
  exact ⟨_, ⟨rfl, its3, T3, L2, now + 1, hR4, hT4, hfl T3 hI4, by omega, ⟨z, hzm.1, hzm.2, hze⟩, rfl⟩, inferInstance⟩
 exact absurd rfl c12
theorem C9 (k va : Nat) : (64 * k + va % 64) / 64 = k ∧ (64 * k + va % 64) % 64 = va % 64 := by omega
structure FnOk (fr : List aC) (pg : List Pl) (root : Int) (user : Bool) (va : Nat) (kind : Int) : Prop where
  wk : WkOkM fr pg root va
  th : aP pg (cu fr pg root va).p = true
  P : fe m5 fr pg true root user va kind = (cu fr pg root va).p
  F : fe lF fr pg true root user va kind = (cm pg (cu fr pg root va).p).1
  O : fe lG fr pg true root user va kind = ((va % 64 : Nat) : Int)
theorem HI {fr : List aC} {pg : List Pl} {root : Int} {user : Bool} {va : Nat} {kind : Int} (h : gJ fr pg true root user va kind = 0) : FnOk fr pg root user va kind := by
 obtain ⟨s, hs⟩ : ∃ s, cu fr pg root va = s := ⟨_, rfl⟩
 obtain ⟨k, hk, hk32⟩ := xz fr pg root va
 unfold gJ at h
 rw [if_pos rfl, hs] at h
 by_cases h1 : s.fault ≠ 0
 ·rw [if_pos h1] at h; exact absurd h h1
 rw [if_neg h1] at h
 by_cases h2 : nr s kind user = true
 case neg => rw [if_neg h2] at h; exact absurd h (by decide)
 rw [if_pos h2] at h
 rw [hs] at hk
 have hpa : jY s va = 64 * k + va % 64 := by rw [jY, hk]; rfl
 obtain ⟨p1, p2⟩ := C9 k va
 have hth : aP pg s.p = true := by
  rw [hk]
  unfold dR at h
  rw [hpa, p1] at h
  split at h
  ·split at h
   ·split at h
    ·rename_i q
     unfold fZ at q
     split at q
     ·assumption
     exact absurd q (by decide)
    rename_i q; exact absurd h q
   exact absurd h (by decide)
  exact absurd h (by decide)
 have hX : ∀ g, fe g fr pg true root user va kind = g fr.length pg (jY s va) 1 kind := fun g => by
  unfold fe
  rw [if_pos rfl, hs, if_neg h1, if_pos h2]
 refine ⟨yD (by rw [hs]; exact Decidable.not_not.1 h1), by rw [hs]; exact hth, ?_, ?_, ?_⟩
 ·rw [hX, m5, if_pos h, hs, hpa, p1, hk]
 ·rw [hX, lF, if_pos h, hs, hpa, p1, hk]
 rw [hX, lG, if_pos h, hpa, p2]
theorem Ws {fr : List aC} {pg : List Pl} {L : List Ln} {T : List It} (h : MOk fr pg 0 L T) {x : Ln} (hx : x ∈ L) {root : Int} {user : Bool} {va : Nat} {kind : Int} (hv : va < 16384) (hk : x.k = dw root va) (hm : kf x.e kind user = true) :
  gJ fr pg true root user va kind = 0 ∧ fe m5 fr pg true root user va kind = x.e.1 ∧ fe lF fr pg true root user va kind = x.e.2.1 ∧ fe lG fr pg true root user va kind = ((va % 64 : Nat) : Int) := by
 have hl := h.ln x hx
 obtain ⟨q1, q2, q3, q4, q5, q6⟩ := hl.wk (by simp) (by simp) va hv (by rw [hk]; rfl)
 have hr : x.k.1 = root := by rw [hk]; rfl
 rw [hr] at q1 q4 q5 q6
 obtain ⟨s, hs⟩ : ∃ s, cu fr pg root va = s := ⟨_, rfl⟩
 obtain ⟨k, hkk, hk32⟩ := xz fr pg root va
 have hf0 : s.fault = 0 := by rw [← hs, q1.eq]
 rw [hs] at q4 q5 q6 hkk
 have hpa : jY s va = 64 * k + va % 64 := by rw [jY, hkk]; rfl
 obtain ⟨p1, p2⟩ := C9 k va
 have hep : x.e.1 = (k : Int) := by rw [← q5]; exact hkk
 simp only [kf, Bool.and_eq_true, Bool.and_true] at hm
 obtain ⟨m1, m2, m3⟩ := hm
 have hnr : j4 kind = 1 ∨ j4 kind = 2 ∨ j4 kind = 4 ∨ j4 kind = 8 := by
  unfold j4
  rcases of_decide_eq_true m1 with rfl | rfl | rfl
  ·exact .inr (.inr (.inl rfl))
  ·exact .inl rfl
  exact .inr (.inl rfl)
 have hal : nr s kind user = true := by
  simp only [nr, Bool.and_eq_true]
  refine ⟨⟨m1, q6 _ hnr m2, ?_⟩, q4⟩
  cases user with
  | false => rfl
  | true =>
   rw [Bool.not_true, Bool.false_or] at m3 ⊢
   exact q6 8 (.inr (.inr (.inr rfl))) m3
 have hth := hl.at_.1
 rw [hep] at hth
 have hk12 : k < 12 := by
  simp only [aP, Bool.and_eq_true] at hth
  obtain ⟨i, hi, hi2⟩ := jq hth.1
  omega
 have hE : dR fr.length pg (jY s va) 1 kind = 0 := by
  unfold dR
  rw [hpa, p1, if_pos (by unfold gi; exact decide_eq_true ⟨.inl rfl, by omega⟩), if_pos (by omega), if_pos (by rw [← hep]; exact hl.al kind m1 m2), if_pos (h.pl.rng _ hth)]
 have he : gJ fr pg true root user va kind = 0 := by
  unfold gJ
  rw [if_pos rfl, hs, if_neg (by rw [hf0]; decide), if_pos hal]; exact hE
 obtain ⟨_, _, e1, e2, e3⟩ := HI he
 rw [hs, hkk] at e1 e2
 exact ⟨he, by rw [e1, hep], by rw [e2, ← hl.at_.2, hep], e3⟩
theorem Wt {S : World → Prop} {b off k : Nat} {us vs : List Value} (h : bG S b off vs) (e : (vs.drop k).take us.length = us) : bG S b (off + k) us := fun i v hi => by
 have hlt := (List.getElem?_eq_some_iff.1 hi).1
 have := h (k + i) v (by
  rw [← e, List.getElem?_take] at hi
  rw [if_pos hlt, List.getElem?_drop] at hi
  exact hi)
 rwa [← Nat.add_assoc] at this
theorem Wu (hK : ∀ A, bG (aO W0 A) 1 0 gQ) (ba bm pv bt bs ps pm : Nat) (on : Bool) (root : Int) (user : Bool) (va : Nat) (hva : va < 4294967296) (kind : Int) (its : List It) (room now : Nat) (T : List It) (L : List Ln) (fr : List aC) (pg : List Pl) (hR : Rep its now T) (hT : T.length ≤ room) (hr : room ≤ 4) (hn : now < 1000000) (h : MOk fr pg 0 L T) (hw : WkOkM fr pg root va) (hp : aP pg (cu fr pg root va).p = true) (p f : Int) (e1 : p = (cu fr pg root va).p) (e2 : f = (cm pg (cu fr pg root va).p).1) (o : Int) (fast : Bool) : sP W0 339 [.pointer (some ⟨ba, 0, none⟩), .agg #[.int .i64 p, .int .i64 f, .int .i64 o, .bool fast]] (pt ba (gO bm on root user va kind) :: pt bm (cN pv bt bs) :: aQ bt (its, d3 room now) :: bL bs L :: eg pv ps pm 0 fr pg R) (fun v B => v = .tuple #[] ∧ ∃ its' T' L' now', Rep its' now' T' ∧ T'.length ≤ room ∧ MOk fr pg 0 L' T' ∧ now' ≤ now + 1 ∧ (∃ x ∈ L', x.k = dw root va ∧ (x.e.2.2 = fP pg (cu fr pg root va).r (cu fr pg root va).p 3 ∨ x.e.2.2 = et (fP pg (cu fr pg root va).r (cu fr pg root va).p 3))) ∧ B = pt ba (gO bm on root user va kind) :: pt bm (cN pv bt bs) :: aQ bt (its', d3 room now') :: bL bs L' :: eg pv ps pm 0 fr pg R) := by
 subst e1; subst e2
 exact Wr hK ba bm pv bt bs ps pm on root user va hva kind its room now T L fr pg hR hT hr hn h hw hp o fast
theorem Wv (W0 : World) (R : List HP) (hK : ∀ A, bG (aO W0 A) 1 0 gQ) (ba bm pv bt bs ps pm : Nat) (root : Int) (user : Bool) (va : Nat) (hva : va < 4294967296) (kind : Int) (its : List It) (room now : Nat) (T : List It) (L : List Ln) (fr : List aC) (pg : List Pl) (hR : Rep its now T) (hT : T.length ≤ room) (hr : room ≤ 4) (hn : now < 1000000) (h : MOk fr pg 0 L T) :
  bN Tryz.prog W0 282 [.pointer (some ⟨ba, 0, none⟩)] (pt ba (gO bm true root user va kind) :: pt bm (cN pv bt bs) :: aQ bt (its, d3 room now) :: bL bs L :: eg pv ps pm 0 fr pg R)
   (fun v B => v = .tuple #[.agg (uX fr pg true root user va kind).toArray, .int .i64 (gJ fr pg true root user va kind)] ∧ ∃ its' T' L' now', Rep its' now' T' ∧ T'.length ≤ room ∧ MOk fr pg 0 L' T' ∧ now' ≤ now + 1 ∧ (gJ fr pg true root user va kind = 0 → ∃ x ∈ L', x.k = dw root va ∧ (x.e.2.2 = fP pg (cu fr pg root va).r (cu fr pg root va).p 3 ∨ x.e.2.2 = et (fP pg (cu fr pg root va).r (cu fr pg root va).p 3))) ∧ B = pt bm (cN pv bt bs) :: aQ bt (its', d3 room now') :: bL bs L' :: eg pv ps pm 0 fr pg R) := by
 have hok := fun q => HI (fr := fr) (pg := pg) (root := root) (user := user) (va := va) (kind := kind) q
 refine ai 2 func282 ntmps282 ?_
 refine ax (aS ez) fun b2 => ?_
 refine au 3 ?_
 refine dU (fun b4 : Nat => True) (fun b4 => [(0, .pointer (some ⟨ba, 0, none⟩)), (2, .pointer (some ⟨b2, 0, none⟩)), (4, .pointer (some ⟨b4, 0, none⟩)), (5, .int .i64 (gJ fr pg true root user va kind))]) (fun b4 => pt b2 (ac [.int .i64 0, .int .i64 0, .int .i64 0, .bool false] 135) :: pt b4 (ac (uX fr pg true root user va kind) 135) :: pt ba (gO bm true root user va kind) :: pt bm (cN pv bt bs) :: aQ bt (its, d3 room now) :: bL bs L :: eg pv ps pm 0 fr pg R) ?_ ?_
 ·skip
  refine aU [(ba, 0, _), (bm, 0, _)] 26 aT rfl (aa (aa ag)) (fun hS => ?_)
  refine ah 0 10 hS ?_
  refine av 10 rfl rfl rfl hS (b0 we qw rfl (Wt (k := 1) (us := re true root user) (co (k := 0) rfl) rfl) rfl) ?_
  refine ah 11 8 hS ?_
  refine eJ (is := [19, 23]) (by kernel_rfl) rfl ⟨?_, ?_, trivial⟩
  ·skip
   refine cV rfl rfl (du Dn rfl (xA pv ps pm 0 fr pg h.P h.F true root user va hva kind)) rfl ?_; clear hS
   rintro _ B_ ⟨rfl, hB_⟩
   obtain rfl := hB_.symm
   refine ⟨(aa (aa ag)), fun hS => ?_⟩
   refine ah 20 3 hS ?_
   refine bS 23 (by kernel_rfl) rfl rfl (aS ez) rfl ?_; clear hS
   rintro _ _ ⟨b4, rfl, rfl⟩
   refine ⟨(aa (aa ag)), fun hS => ?_⟩
   refine bU 24 rfl rfl (aF cB rfl rfl rfl rfl rfl) (aa (aa ag)) fun hS => ?_
   refine ah 25 1 hS ?_
   refine aK ?_
   refine aY ?_
   exact cj b4 trivial
  skip
  refine cV rfl rfl (aS ez) rfl ?_; clear hS
  rintro _ _ ⟨b4, rfl, rfl⟩
  refine ⟨(aa (aa ag)), fun hS => ?_⟩
  refine bF 19 rfl rfl (du Dn rfl (xA pv ps pm 0 fr pg h.P h.F true root user va hva kind)) (aa (aa ag)) fun hS => ?_
  refine ah 20 3 hS ?_
  refine bU 24 rfl rfl (aF cB rfl rfl rfl rfl rfl) (aa (aa ag)) fun hS => ?_
  refine ah 25 1 hS ?_
  refine aK ?_
  refine aY ?_
  exact cj b4 trivial
 intro b4 _
 refine dU (fun X : List It × List It × List Ln × Nat => Rep X.1 X.2.2.2 X.2.1 ∧ X.2.1.length ≤ room ∧ MOk fr pg 0 X.2.2.1 X.2.1 ∧ X.2.2.2 ≤ now + 1 ∧ (gJ fr pg true root user va kind = 0 → ∃ x ∈ X.2.2.1, x.k = dw root va ∧ (x.e.2.2 = fP pg (cu fr pg root va).r (cu fr pg root va).p 3 ∨ x.e.2.2 = et (fP pg (cu fr pg root va).r (cu fr pg root va).p 3)))) (fun X => [(2, .pointer (some ⟨b2, 0, none⟩)), (4, .pointer (some ⟨b4, 0, none⟩)), (5, .int .i64 (gJ fr pg true root user va kind))]) (fun X => pt b2 (ac [.int .i64 0, .int .i64 0, .int .i64 0, .bool false] 135) :: pt b4 (ac (uX fr pg true root user va kind) 135) :: pt bm (cN pv bt bs) :: aQ bt (X.1, d3 room X.2.2.2) :: bL bs X.2.2.1 :: eg pv ps pm 0 fr pg R) ?_ ?_
 ·skip
  refine au 6 ?_
  refine a8 rfl (fun c2 => ?_) fun c2 => ?_
  ·obtain ⟨hw, hp, eP, eF, eO⟩ := hok c2
   refine au 3 ?_
   refine aB rfl (Fl call339 rfl (Wu hK ba bm pv bt bs ps pm true root user va hva kind its room now T L fr pg hR hT hr hn h hw hp (fe m5 fr pg true root user va kind) (fe lF fr pg true root user va kind) eP eF (fe lG fr pg true root user va kind) false)) ?_
   rintro _ B_ ⟨rfl, its2, T2, L2, now2, hR2, hT2, h2, hn2, hex, hB_⟩
   subst hB_
   refine au 2 ?_
   exact cj (its2, T2, L2, now2) (⟨hR2, hT2, h2, hn2, fun _ => hex⟩)
  refine au 2 ?_
  exact cj (its, T, L, now) (⟨hR, hT, h, Nat.le_add_right now 1, fun q => absurd q c2⟩)
 intro ⟨its2, T2, L2, now2⟩ ⟨hR2, hT2, h2, hn2, hex⟩
 dsimp only at hR2 hT2 h2 hn2 hex ⊢
 refine au 4 ?_
 refine aE 4 (aF cB rfl rfl rfl rfl rfl) ?_
 refine bY (.cons (cg ew cB rfl rfl) (.cons (bK rfl) .nil)) ?_
 exact ⟨_, ⟨rfl, its2, T2, L2, now2, hR2, hT2, h2, hn2, hex, rfl⟩, inferInstance⟩
theorem MOk.tl {fr : List aC} {pg : List Pl} {d : Nat} {L : List Ln} {T T' : List It} (h : MOk fr pg d L T) (ht : TI L T') : MOk fr pg d L T' := ⟨h.F, h.dl, h.P, h.pl, ht, h.ln⟩
@[reducible] def tW (ba : Nat) : List Value := [.func (.func 280) #[.pointer (some ⟨ba, 0, none⟩)] #[], .func (.func 281) #[.pointer (some ⟨ba, 0, none⟩)] #[]]
theorem Ww {W0 : World} {N : FSz} {e : aW} {R : List HP} {ba bm pv bt bs : Nat} {on : Bool} {root : Int} {user : Bool} {va : Nat} {kind : Int} {its : List It} {room now i : Nat} {T : List It} {L : List Ln} {fx : Operand} {v : Value} (hva : va < 4294967296) (hR : Rep its now T) (hT : T.length ≤ room) (hr : room ≤ 4) (hn : now < 1000000) (hti : TI L T) (hi : i < 2) (hv : (tW ba)[i]? = some v) (hx : ev e fx = some v) :
  dj Tryz.prog W0 N e (pt ba (gO bm on root user va kind) :: pt bm (cN pv bt bs) :: aQ bt (its, d3 room now) :: bL bs L :: R) (.call { callee := .value fx, args := #[], argTypes := #[] })
   (fun v B => ∃ o its' T' now', v = .tuple #[.agg (BZ o va).toArray, .bool o.isSome] ∧ C0 L (dw root va) kind user o ∧ (i = 1 → o = none → ∀ x ∈ L, x.k = dw root va → kf x.e kind user = false) ∧ Rep its' now' T' ∧ T'.length ≤ room ∧ TI L T' ∧ now' ≤ now + 1 ∧ B = pt ba (gO bm on root user va kind) :: pt bm (cN pv bt bs) :: aQ bt (its', d3 room now') :: bL bs L :: R) := by
 have h2 : i = 0 ∨ i = 1 := by omega
 rcases h2 with rfl | rfl
 ·cases hv
  exact gF (us := [.pointer (some ⟨ba, 0, none⟩)]) (vs := []) (cs := []) hx call280 rfl (hJ (Vm ba bm pv bt bs on root user va hva kind its room now T L hR hT hr hn hti) fun v B hB => by
   obtain ⟨o, its', T', now', e1, e2, e3⟩ := hB
   exact ⟨B, ⟨o, its', T', now', e1, e2, fun q => (by cases q), e3⟩, ent_refl⟩)
 cases hv
 exact gF (us := [.pointer (some ⟨ba, 0, none⟩)]) (vs := []) (cs := []) hx call281 rfl (hJ (Vn ba bm pv bt bs on root user va hva kind its room now T L hR hT hr hn hti) fun v B hB => by
  obtain ⟨o, its', T', now', e1, e2, e3, e4⟩ := hB
  exact ⟨B, ⟨o, its', T', now', e1, e2, fun _ => e3, e4⟩, ent_refl⟩)
structure FnX (fr : List aC) (pg : List Pl) (d : Nat) (on : Bool) (root : Int) (user : Bool) (va : Nat) (kind : Int) (L L' : List Ln) (fast : Bool) (d' : Nat) : Prop where
  hit : fast = true → (on = true ∧ gJ fr pg on root user va kind = 0) ∧ ∃ x ∈ L', x.e.1 = fe m5 fr pg on root user va kind ∧ kf x.e kind user = true
  old : fast = true → ∃ x ∈ L, x.k = dw root va
  new : fast = false → on = true → va < 16384 → gJ fr pg on root user va kind = 0 → ∃ x ∈ L', x.k = dw root va ∧ (x.e.2.2 = fP pg (cu fr pg root va).r (cu fr pg root va).p 3 ∨ x.e.2.2 = et (fP pg (cu fr pg root va).r (cu fr pg root va).p 3))
  can : d = 0 → on = true → va < 16384 → ∀ x ∈ L, x.k = dw root va → kf x.e kind user = true → fast = true
  dz : on = true → va < 16384 → d' = 0
theorem HJ (hK : ∀ A, bG (aO W0 A) 1 0 gQ) (bm pv bt bs ps pm d : Nat) (on : Bool) (root : Int) (user : Bool) (va : Nat) (hva : va < 4294967296) (kind : Int) (its : List It) (room now : Nat) (T : List It) (L : List Ln) (fr : List aC) (pg : List Pl) (hR : Rep its now T) (hT : T.length ≤ room) (hr : room ≤ 4) (hn : now < 900000) (h : MOk fr pg d L T) : sP W0 214 [.pointer (some ⟨bm, 0, none⟩), .agg (re on root user).toArray, .int .u32 va, .int .i64 kind] (pt bm (cN pv bt bs) :: aQ bt (its, d3 room now) :: bL bs L :: eg pv ps pm d fr pg R) (fun v B => ∃ fast its' T' L' now' d', v = .tuple #[.agg #[.int .i64 (fe m5 fr pg on root user va kind), .int .i64 (fe lF fr pg on root user va kind), .int .i64 (fe lG fr pg on root user va kind), .bool fast], .int .i64 (gJ fr pg on root user va kind)] ∧ FnX fr pg d on root user va kind L L' fast d' ∧ Rep its' now' T' ∧ T'.length ≤ room ∧ MOk fr pg d' L' T' ∧ now' ≤ now + 3 ∧ B = pt bm (cN pv bt bs) :: aQ bt (its', d3 room now') :: bL bs L' :: eg pv ps pm d' fr pg R) := by
 refine ai 2 func214 ntmps214 ?_
 refine ax (aV rfl) fun b5 => ?_
 refine ax (aS ez) fun b8 => ?_
 refine au 7 ?_
 refine ar 2 (ao zS rfl (vJ bm pv bt bs)) ?_
 refine a8 rfl (fun c1 => ?_) fun c1 => ?_
 ·exact absurd c1 (by decide)
 refine au 9 ?_
 refine bB rfl rfl rfl (fun g3_4 => ?_) fun g3_4 => ?_
 ·refine au 6 ?_
  refine aU [(bm, 0, _), (b5, 0, _)] 12 aT rfl (aa (aa ag)) (fun hS => ?_)
  refine ah 0 4 hS ?_
  refine av 4 rfl rfl rfl hS (b0 we qw rfl (by first | exact co (k := 0) rfl | exact co (k := 1) rfl) rfl) ?_
  refine ah 5 2 hS ?_
  refine bF 7 rfl rfl (du Dn rfl (xA pv ps pm d fr pg h.P h.F on root user va hva kind)) (aa (aa ag)) fun hS => ?_
  refine ah 8 2 hS ?_
  refine bU 10 rfl rfl (aF cB rfl rfl rfl rfl rfl) (aa (aa ag)) fun hS => ?_
  refine ah 11 1 hS ?_
  refine aK ?_
  refine au 3 ?_
  refine bY (.cons (cg ew cB rfl rfl) (.cons (bK rfl) .nil)) ?_
  exact ⟨_, ⟨false, its, T, L, now, d, rfl, ⟨fun q => (by cases q), fun q => (by cases q), fun _ q1 q2 => (by first | omega | simp_all), fun _ q1 q2 => (by first | omega | simp_all), fun q1 q2 => (by first | omega | simp_all)⟩, hR, hT, h, by omega, rfl⟩, inferInstance⟩
 refine au 6 ?_
 refine a8 rfl (fun c3 => ?_) fun c3 => ?_
 ·refine bD ?_
  refine aU [(bm, 0, _), (b5, 0, _)] 12 aT rfl (aa (aa ag)) (fun hS => ?_)
  refine ah 0 4 hS ?_
  refine av 4 rfl rfl rfl hS (b0 we qw rfl (by first | exact co (k := 0) rfl | exact co (k := 1) rfl) rfl) ?_
  refine ah 5 2 hS ?_
  refine bF 7 rfl rfl (du Dn rfl (xA pv ps pm d fr pg h.P h.F on root user va hva kind)) (aa (aa ag)) fun hS => ?_
  refine ah 8 2 hS ?_
  refine bU 10 rfl rfl (aF cB rfl rfl rfl rfl rfl) (aa (aa ag)) fun hS => ?_
  refine ah 11 1 hS ?_
  refine aK ?_
  refine au 3 ?_
  refine bY (.cons (cg ew cB rfl rfl) (.cons (bK rfl) .nil)) ?_
  exact ⟨_, ⟨false, its, T, L, now, d, rfl, ⟨fun q => (by cases q), fun q => (by cases q), fun _ q1 q2 => (by first | omega | simp_all), fun _ q1 q2 => (by first | omega | simp_all), fun q1 q2 => (by first | omega | simp_all)⟩, hR, hT, h, by omega, rfl⟩, inferInstance⟩
 refine au 3 ?_
 obtain rfl : on = true := by cases on <;> simp_all
 have hv4 : va < 16384 := by omega
 refine au 2 ?_
 refine aB rfl (kV Kl rfl (Hg bm pv bt bs ps pm d its (.int .i64 room) (.int .i64 now) now room T L fr pg hR hT hr h)) ?_
 rintro _ B_ ⟨rfl, its1, T1, L1, hB_, hR1, hT1, h1, hsub, hsame⟩
 subst hB_
 have hL0 : d = 0 → L1 = L := fun q => hsame (by rw [q]; decide)
 refine au 8 ?_
 refine a7 rfl (bq ZX zeroValue399 (am zl (am qw (am bE (am aj bj)))) (aI rfl zl rfl rfl (Nat.le_of_ble_eq_true rfl) SetL.eq (iJ rfl qw rfl rfl (Nat.le_of_ble_eq_true rfl) SetRL.eq (aI rfl bE rfl rfl (Nat.le_of_ble_eq_true rfl) SetL.eq (aI rfl aj rfl rfl (Nat.le_of_ble_eq_true rfl) SetL.eq bi))))) ?_
 refine ax (aV rfl) fun ba => ?_
 refine au 7 ?_
 refine a7 rfl (dM rfl rfl) ?_
 refine a7 rfl (aH rfl) (a7 rfl (dM rfl rfl) ?_)
 refine ax (jT Jt sizeOf400 zeroValue400 rfl rfl rfl rfl rfl (by decide) (by decide)) fun bl => ?_
 refine au 5 ?_
 refine ge (fun X : Nat × List It × List It × Nat => X.1 ≤ 2 ∧ Rep X.2.1 X.2.2.2 X.2.2.1 ∧ X.2.2.1.length ≤ room ∧ TI L1 X.2.2.1 ∧ X.2.2.2 ≤ now + X.1 ∧ (X.1 = 2 → ∀ x ∈ L1, x.k = dw root va → kf x.e kind user = false)) (fun X => [(8, .pointer (some ⟨b8, 0, none⟩)), (10, .pointer (some ⟨ba, 0, none⟩)), (47, .slice (some ⟨bl, 0, none⟩) 2 2), (48, .int .i64 2), (49, .int .i64 X.1)]) (fun X => pt bl (ac (tW ba) 400) :: pt b8 (ac [.int .i64 0, .int .i64 0, .int .i64 0, .bool false] 135) :: pt ba (gO bm true root user va kind) :: pt bm (cN pv bt bs) :: aQ bt (X.2.1, d3 room X.2.2.2) :: bL bs L1 :: eg pv ps pm 0 fr pg R) (fun X => 2 - X.1) (0, its1, T1, now) ?_ ?_ ?_ ?_
 ·exact ⟨Nat.zero_le _, hR1, hT1, h1.ti, Nat.le_refl _, fun q => absurd (show (0 : Nat) = 2 from q) (by decide)⟩
 ·repeat (first | exact dy | refine db rfl ?_)
 ·show Ent _ (pt bl (ac (tW ba) 400) :: pt b8 (ac [.int .i64 0, .int .i64 0, .int .i64 0, .bool false] 135) :: pt ba (gO bm true root user va kind) :: pt bm (cN pv bt bs) :: aQ bt (its1, d3 room now) :: bL bs L1 :: eg pv ps pm 0 fr pg R)
  exact inferInstance
 intro ⟨i, its2, T2, now2⟩ ⟨hi, hR2, hT2, ht2, hn2, hno2⟩
 dsimp only at hi hR2 hT2 ht2 hn2 hno2 ⊢
 refine au 6 ?_
 refine a8 rfl (fun c8 => ?_) fun c8 => ?_
 ·refine au 5 ?_
  have hi2 : i < 2 := by omega
  have hl2 : i < (tW ba).length := hi2
  obtain ⟨fv, hfv⟩ : ∃ v, (tW ba)[i]? = some v := ⟨_, List.getElem?_eq_getElem hl2⟩
  refine bQ ?_
  refine a7 rfl (bc Jt sizeOf400 rfl rfl rfl hi2 (by first | exact Nat.zero_add _ | rfl)) ?_
  refine ap 6 (aA isAgg400 rfl (aN (by rw [Nat.mul_one]; exact hfv))) ?_
  refine aB rfl (od inferInstance (Ww (R := pt bl (ac (tW ba) 400) :: pt b8 (ac [.int .i64 0, .int .i64 0, .int .i64 0, .bool false] 135) :: eg pv ps pm 0 fr pg R) (ba := ba) (bm := bm) (pv := pv) (bt := bt) (bs := bs) (on := true) (root := root) (user := user) (kind := kind) (its := its2) (L := L1) hva hR2 hT2 hr (by omega) ht2 hi2 hfv rfl)) ?_
  rintro _ B_ ⟨o, its3, T3, now3, rfl, hlk, hnk, hR3, hT3, ht3, hn3, hB_⟩
  subst hB_
  refine au 3 ?_
  refine ax (aS ez) fun b13 => ?_
  refine aE 8 (aF cB rfl rfl rfl rfl rfl) ?_
  refine a8 rfl (fun c11 => ?_) fun c11 => ?_
  ·refine au 3 ?_
   refine aE 9 (aF cB rfl rfl rfl rfl rfl) ?_
   refine bY (.cons (cg ew cB rfl rfl) (.cons (bK rfl) .nil)) ?_
   obtain ⟨x, rfl⟩ : ∃ x, o = some x := by cases o <;> simp_all
   obtain ⟨hx, hkx, hmx⟩ := hlk x rfl
   obtain ⟨e0, e1, e2, e3⟩ := Ws h1 hx hv4 hkx hmx
   refine ⟨_, ⟨true, its3, T3, L1, now3, 0, ?_, ⟨fun _ => ⟨⟨rfl, e0⟩, x, hx, e1.symm, hmx⟩, fun _ => ⟨x, hsub x hx, hkx⟩, fun q => (by cases q), fun _ _ _ _ _ _ _ => rfl, fun _ _ => rfl⟩, hR3, hT3, h1.tl ht3, by omega, rfl⟩, inferInstance⟩
   rw [e0, e1, e2, e3]; rfl
  refine au 4 ?_
  refine ap 3 (cM rfl rfl) ?_
  exact bZ (i + 1, its3, T3, now3) (⟨by omega, hR3, hT3, ht3, by dsimp only; omega, fun q => hnk (by dsimp only at q; omega) (by cases o <;> simp_all)⟩)
 refine au 6 ?_
 obtain rfl : i = 2 := by omega
 have h2 := h1.tl ht2
 refine au 2 ?_
 refine aB rfl (Fl call282 rfl (Wv W0 _ hK ba bm pv bt bs ps pm root user va hva kind its2 room now2 T2 L1 fr pg hR2 hT2 hr (by omega) h2)) ?_
 rintro _ B_ ⟨rfl, its4, T4, L4, now4, hR4, hT4, h4, hn4, hex, hB_⟩
 subst hB_
 refine au 2 ?_
 refine aE 4 (aF cB rfl rfl rfl rfl rfl) ?_
 refine bY (.cons (cg ew cB rfl rfl) (.cons (bK rfl) .nil)) ?_
 exact ⟨_, ⟨false, its4, T4, L4, now4, 0, rfl, ⟨fun q => (by cases q), fun q => (by cases q), fun _ _ _ q => hex q, fun q _ _ x hx hk hm => (by
  rw [hno2 rfl x (by rw [hL0 q]; exact hx) hk] at hm; cases hm), fun _ _ => rfl⟩, hR4, hT4, h4, by omega, rfl⟩, inferInstance⟩
theorem HK {fr : List aC} {pg : List Pl} {on : Bool} {root : Int} {user : Bool} {va : Nat} {kind : Int} (h : gJ fr pg on root user va kind = 0) :
  ∃ pa : Nat, pa < 768 ∧ pa % 64 = va % 64 ∧ dR fr.length pg pa 1 kind = 0 ∧ fe m5 fr pg on root user va kind = ((pa / 64 : Nat) : Int) ∧ fe lF fr pg on root user va kind = (cm pg ((pa / 64 : Nat) : Int)).1 ∧ fe lG fr pg on root user va kind = ((pa % 64 : Nat) : Int) := by
 cases on with
 | false =>
  have hX : ∀ g, fe g fr pg false root user va kind = g fr.length pg va 1 kind := fun g => by unfold fe; rw [if_neg (by decide)]
  have h : dR fr.length pg va 1 kind = 0 := by unfold gJ at h; rwa [if_neg (by decide)] at h
  exact ⟨va, (xq h).1, rfl, h, by rw [hX, m5, if_pos h], by rw [hX, lF, if_pos h], by rw [hX, lG, if_pos h]⟩
 | true =>
  obtain ⟨s, hs⟩ : ∃ s, cu fr pg root va = s := ⟨_, rfl⟩
  obtain ⟨k, hk, hk32⟩ := xz fr pg root va
  unfold gJ at h
  rw [if_pos rfl, hs] at h
  by_cases h1 : s.fault ≠ 0
  ·rw [if_pos h1] at h; exact absurd h h1
  rw [if_neg h1] at h
  by_cases h2 : nr s kind user = true
  case neg => rw [if_neg h2] at h; exact absurd h (by decide)
  rw [if_pos h2] at h
  rw [hs] at hk
  have hpa : jY s va = 64 * k + va % 64 := by rw [jY, hk]; rfl
  obtain ⟨p1, p2⟩ := C9 k va
  have hX : ∀ g, fe g fr pg true root user va kind = g fr.length pg (jY s va) 1 kind := fun g => by
   unfold fe
   rw [if_pos rfl, hs, if_neg h1, if_pos h2]
  exact ⟨jY s va, (xq h).1, by rw [hpa, p2], h, by rw [hX, m5, if_pos h], by rw [hX, lF, if_pos h], by rw [hX, lG, if_pos h]⟩
theorem Wx {va pa : Nat} {w : Int} (h : gi va w = true) (e : pa % 64 = va % 64) : gi pa w = true := by
 have := of_decide_eq_true h
 refine decide_eq_true ⟨this.1, ?_⟩
 obtain ⟨h1 | h1 | h1, h2⟩ := this <;> subst h1 <;> omega
theorem Wy {n : Nat} {pg : List Pl} {va pa : Nat} {w kind : Int} (h : dR n pg pa 1 kind = 0) (ha : gi va w = true) (e : pa % 64 = va % 64) : dR n pg pa w kind = 0 := by
 have h1 : gi pa 1 = true := decide_eq_true ⟨.inl rfl, by omega⟩
 rw [dR, if_pos h1] at h
 rw [dR, if_pos (Wx ha e)]; exact h
theorem HM {n : Nat} {pg : List Pl} {pa : Nat} {kind : Int} (h : dR n pg pa 1 kind = 0) : aP pg ((pa / 64 : Nat) : Int) = true := by
 have h1 : gi pa 1 = true := decide_eq_true ⟨.inl rfl, by omega⟩
 rw [dR, if_pos h1] at h
 split at h
 ·split at h
  ·rename_i q
   unfold fZ at q
   split at q
   ·assumption
   exact absurd q (by decide)
  rename_i q; exact absurd h q
 exact absurd h (by decide)
def qk (fr : List aC) (pg : List Pl) (on : Bool) (root : Int) (user : Bool) (va : Nat) (w kind : Int) : Nat := if gi va w then (if gJ fr pg on root user va kind = 0 then kx fr (fe lF fr pg on root user va kind) (fe lG fr pg on root user va kind) w else 0) else 0
def nP (fr : List aC) (pg : List Pl) (on : Bool) (root : Int) (user : Bool) (va : Nat) (w kind : Int) : Int := if gi va w then gJ fr pg on root user va kind else 1
def lp (fr : List aC) (pg : List Pl) (on : Bool) (root : Int) (user : Bool) (va : Nat) (w : Int) (x : Nat) : List aC := if gi va w then (if gJ fr pg on root user va 2 = 0 then eK fr (fe lF fr pg on root user va 2) (fe lG fr pg on root user va 2) w x else fr) else fr
theorem HN (va : Nat) (hva : va < 4294967296) (w : Int) : sQ W0 213 [.int .u32 va, .int .i64 w] R (.bool (gi va w)) R := by
 refine ai 10 func213 ntmps213 ?_
 refine bB rfl rfl rfl (fun g1_3 => ?_) fun g1_3 => ?_
 ·refine au 12 ?_
  refine a7 rfl (cX cW dk rfl (eA (by omega))) ?_
  refine cP rfl rfl ?_
  refine ap 7 (ku rfl rfl (by omega) (Int.tmod_eq_emod_of_nonneg (by omega))) ?_
  refine ae ?_
  refine aR ?_
  refine congrArg Value.bool ?_
  rw [Bool.eq_iff_iff]; simp only [gi, decide_eq_true_eq, beq_iff_eq]
  first
   | omega
   | (simp only [Bool.false_eq_true, false_iff]; omega)
   | (constructor <;> intro q <;> simp_all <;> omega)
 refine au 5 ?_
 refine bB rfl rfl rfl (fun g1_7 => ?_) fun g1_7 => ?_
 ·refine au 8 ?_
  refine a7 rfl (cX cW dk rfl (eA (by omega))) ?_
  refine cP rfl rfl ?_
  refine ap 7 (ku rfl rfl (by omega) (Int.tmod_eq_emod_of_nonneg (by omega))) ?_
  refine ae ?_
  refine aR ?_
  refine congrArg Value.bool ?_
  rw [Bool.eq_iff_iff]; simp only [gi, decide_eq_true_eq, beq_iff_eq]
  first
   | omega
   | (simp only [Bool.false_eq_true, false_iff]; omega)
   | (constructor <;> intro q <;> simp_all <;> omega)
 refine au 5 ?_
 refine cp rfl rfl rfl (fun g1_11 => ?_) fun g1_11 => ?_
 ·refine au 4 ?_
  refine a7 rfl (cX cW dk rfl (eA (by omega))) ?_
  refine cP rfl rfl ?_
  refine ap 7 (ku rfl rfl (by omega) (Int.tmod_eq_emod_of_nonneg (by omega))) ?_
  refine ae ?_
  refine aR ?_
  refine congrArg Value.bool ?_
  rw [Bool.eq_iff_iff]; simp only [gi, decide_eq_true_eq, beq_iff_eq]
  first
   | omega
   | (simp only [Bool.false_eq_true, false_iff]; omega)
   | (constructor <;> intro q <;> simp_all <;> omega)
 refine au 9 ?_
 refine ae ?_
 refine aR ?_
 refine congrArg Value.bool ?_
 rw [Bool.eq_iff_iff]; simp only [gi, decide_eq_true_eq, beq_iff_eq]
 first
  | omega
  | (simp only [Bool.false_eq_true, false_iff]; omega)
  | (constructor <;> intro q <;> simp_all <;> omega)
theorem Wz (W0 : World) (R : List HP) (hK : ∀ A, bG (aO W0 A) 1 0 gQ) (bm pv bt bs ps pm d : Nat) (on : Bool) (root : Int) (user : Bool) (va : Nat) (hva : va < 4294967296) (w kind : Int) (its : List It) (room now : Nat) (T : List It) (L : List Ln) (fr : List aC) (pg : List Pl) (hR : Rep its now T) (hT : T.length ≤ room) (hr : room ≤ 4) (hn : now < 900000) (h : MOk fr pg d L T) :
  bN Tryz.prog W0 142 [.pointer (some ⟨bm, 0, none⟩), .agg (re on root user).toArray, .int .u32 va, .int .i64 w, .int .i64 kind] (pt bm (cN pv bt bs) :: aQ bt (its, d3 room now) :: bL bs L :: eg pv ps pm d fr pg R)
   (fun v B => v = .tuple #[.int .u32 (qk fr pg on root user va w kind : Nat), .int .i64 (nP fr pg on root user va w kind)] ∧ ∃ its' T' L' now' d', Rep its' now' T' ∧ T'.length ≤ room ∧ MOk fr pg d' L' T' ∧ now' ≤ now + 3 ∧ B = pt bm (cN pv bt bs) :: aQ bt (its', d3 room now') :: bL bs L' :: eg pv ps pm d' fr pg R) := by
 obtain ⟨al, hal⟩ : ∃ a, gi va w = a := ⟨_, rfl⟩
 rw [qk, nP, hal]
 refine gY func142 ntmps142 rfl rfl ?_
 refine bD (bQ (aB rfl (aV rfl) ?_))
 rintro _ _ ⟨b6, rfl, rfl⟩
 refine a7 rfl (bR rfl) (a7 rfl (bR rfl) (bX (aY (bD (jS (bD (bQ (a7 rfl (aH rfl) (aB rfl (ao zS rfl (vJ bm pv bt bs)) ?_)))))))))
 rintro _ B_ ⟨rfl, hB_⟩
 obtain rfl := hB_.symm
 refine a7 rfl (bR rfl) (bX (aY ?_))
 refine a8 rfl (fun c1 => ?_) fun c1 => ?_
 ·exact absurd c1 (by decide)
 refine bD (bQ (a7 rfl (aH rfl) (a7 rfl (aH rfl) (aB rfl (aD call213 rfl (HN va hva w)) ?_))))
 rintro _ B_ ⟨rfl, hB_⟩
 subst hB_
 rw [hal]
 refine a7 rfl (lZ rfl) (a7 rfl (bR rfl) (bX (aY ?_)))
 refine a8 rfl (fun c3 => ?_) fun c3 => ?_
 ·refine bD ?_
  refine bQ (a7 rfl (bR rfl) (a7 rfl (bR rfl) (bX (aY (gE (sd (kO (bT (.inl rfl) (.cons (bK rfl) (.cons (bK rfl) .nil)) ?_))))))))
  have ha : al = false := by cases al <;> simp_all
  rw [ha, if_neg (by decide), if_neg (by decide)]
  exact ⟨_, ⟨rfl, its, T, L, now, d, hR, hT, h, by omega, rfl⟩, inferInstance⟩
 refine iF (lX (aY (bD ?_)))
 have ha : al = true := by cases al <;> simp_all
 rw [ha, if_pos rfl, if_pos rfl]
 refine bQ (a7 rfl (aH rfl) (a7 rfl (kS we qw rfl rfl) ?_))
 refine a7 rfl (aH rfl) (a7 rfl (aH rfl) (aB rfl (xk call214 rfl (HJ hK bm pv bt bs ps pm d on root user va hva kind its room now T L fr pg hR hT hr hn h)) ?_))
 rintro _ B_ ⟨fast, its2, T2, L2, now2, d2, rfl, hfast, hR2, hT2, h2, hn2, hB_⟩
 subst hB_
 refine a7 rfl (aH rfl) (a7 rfl (jj rfl rfl) (a7 rfl (jj rfl rfl) (aB rfl (aS ez) ?_)))
 rintro _ _ ⟨b12, rfl, rfl⟩
 refine eI (aF cB rfl rfl rfl rfl rfl) ?_
 rintro _ _ rfl
 refine a7 rfl (bR rfl) (bX (aY (bD (bD (bQ (a7 rfl (aH rfl) (a7 rfl (n1 rfl rfl) (bX (aY ?_)))))))))
 refine a8 rfl (fun c6 => ?_) fun c6 => ?_
 ·refine bD ?_
  refine bQ (a7 rfl (aH rfl) (a7 rfl (bR rfl) (a7 rfl (bR rfl) (bX (aY (gE (kO (bT (.inl rfl) (.cons (bK rfl) (.cons (bK rfl) .nil)) ?_))))))))
  rw [if_neg c6]
  exact ⟨_, ⟨rfl, its2, T2, L2, now2, d2, hR2, hT2, h2, hn2, rfl⟩, inferInstance⟩
 refine iF (aY (bD ?_))
 rw [if_pos (by omega)]
 refine aU [(bm, 0, _), (b12, 0, _)] 16 aT rfl (aa (aa ag)) (fun hS => ?_)
 refine av 0 rfl rfl rfl hS (aH rfl) ?_
 refine av 1 rfl rfl rfl hS (wS rfl) ?_
 refine av 2 rfl rfl rfl hS (dp rfl Jo rfl rV rfl (by first | exact Nat.zero_add _ | rfl)) ?_
 refine av 3 rfl rfl rfl hS (aA zf rfl (by first | exact dv (k := 0) rfl rfl | exact dv (k := 1) rfl rfl)) ?_
 refine av 5 rfl rfl rfl hS (dp rfl ib rfl aj rfl (by first | exact Nat.zero_add _ | rfl)) ?_
 refine av 6 rfl rfl rfl hS (aA aX rfl (by first | exact dv (k := 0) rfl rfl | exact dv (k := 1) rfl rfl)) ?_
 refine av 7 rfl rfl rfl hS (dp rfl ib rfl aj rfl (by first | exact Nat.zero_add _ | rfl)) ?_
 refine av 8 rfl rfl rfl hS (aA aX rfl (by first | exact dv (k := 0) rfl rfl | exact dv (k := 1) rfl rfl)) ?_
 refine av 9 rfl rfl rfl hS (aH rfl) ?_
 refine bS 4 (by kernel_rfl) rfl rfl (ao Km rfl (AF pv ps pm d2)) rfl ?_; clear hS
 rintro _ B_ ⟨rfl, hB_⟩
 obtain rfl := hB_.symm
 refine ⟨(aa (aa ag)), fun hS => ?_⟩
 refine bS 10 (by kernel_rfl) rfl rfl (ao call215 rfl (ED ps fr _ _ w h.F)) rfl ?_; clear hS
 rintro _ B_ ⟨rfl, hB_⟩
 obtain rfl := hB_.symm
 refine ⟨(aa (aa ag)), fun hS => ?_⟩
 refine av 11 rfl rfl rfl hS (aH rfl) ?_
 refine av 12 rfl rfl rfl hS (jj rfl rfl) ?_
 refine av 13 rfl rfl rfl hS (jj rfl rfl) ?_
 refine av 14 rfl rfl rfl hS (bR rfl) ?_
 refine av 15 rfl rfl rfl hS (bR rfl) ?_
 refine so (by kernel_rfl) ?_; clear hS
 refine aY (bD (bQ (a7 rfl (aH rfl) (a7 rfl (bR rfl) (a7 rfl (bR rfl) (bX (aY (gE (bT (.inl rfl) (.cons (bK rfl) (.cons (bK rfl) .nil)) ?_)))))))))
 exact ⟨_, ⟨by rw [show gJ fr pg on root user va kind = 0 by omega]; rfl, its2, T2, L2, now2, d2, hR2, hT2, h2, hn2, rfl⟩, inferInstance⟩
theorem WA {n : Nat} (h : n < 16) (hb : ee (n : Int) 2 = true) : wB (n : Int) = true := by
 have key : ∀ n : Nat, n < 16 → ee (n : Int) 2 = true → wB (n : Int) = true := by decide +kernel
 exact key n h hb
theorem yK {d p t : Nat} (h : Nat.testBit (d ||| 2 ^ p) t = false) : Nat.testBit d t = false ∧ t ≠ p := by
 rw [Nat.testBit_or, Bool.or_eq_false_iff] at h
 refine ⟨h.1, fun e => ?_⟩
 subst e
 rw [Nat.testBit_two_pow_self] at h
 exact absurd h.2 (by decide)
theorem WB (W0 : World) (R : List HP) (hK : ∀ A, bG (aO W0 A) 1 0 gQ) (bm pv bt bs ps pm d : Nat) (on : Bool) (root : Int) (user : Bool) (va : Nat) (hva : va < 4294967296) (w : Int) (x : Nat) (hx : x < 4294967296) (its : List It) (room now : Nat) (T : List It) (L : List Ln) (fr : List aC) (pg : List Pl) (hR : Rep its now T) (hT : T.length ≤ room) (hr : room ≤ 4) (hn : now < 900000) (h : MOk fr pg d L T) :
  bN Tryz.prog W0 298 [.pointer (some ⟨bm, 0, none⟩), .agg (re on root user).toArray, .int .u32 va, .int .i64 w, .int .u32 x] (pt bm (cN pv bt bs) :: aQ bt (its, d3 room now) :: bL bs L :: eg pv ps pm d fr pg R)
   (fun v B => v = .int .i64 (nP fr pg on root user va w 2) ∧ ∃ its' T' L' now' d', Rep its' now' T' ∧ T'.length ≤ room ∧ MOk (lp fr pg on root user va w x) pg d' L' T' ∧ now' ≤ now + 3 ∧ B = pt bm (cN pv bt bs) :: aQ bt (its', d3 room now') :: bL bs L' :: eg pv ps pm d' (lp fr pg on root user va w x) pg R) := by
 obtain ⟨al, hal⟩ : ∃ a, gi va w = a := ⟨_, rfl⟩
 rw [lp, nP, hal]
 have hpa := fun q => HK (fr := fr) (pg := pg) (on := on) (root := root) (user := user) (va := va) (kind := 2) q
 obtain ⟨E, hE⟩ : ∃ e, gJ fr pg on root user va 2 = e := ⟨_, rfl⟩
 rw [hE] at hpa
 refine ai 2 func298 ntmps298 ?_
 refine ax (aV rfl) fun b6 => ?_
 refine au 8 ?_
 refine ar 3 (ao zS rfl (vJ bm pv bt bs)) ?_
 refine a8 rfl (fun c1 => ?_) fun c1 => ?_
 ·exact absurd c1 (by decide)
 refine au 4 ?_
 refine aM (aD call213 rfl (HN va hva w)) ?_
 rw [hal]
 refine au 4 ?_
 refine a8 rfl (fun c3 => ?_) fun c3 => ?_
 ·refine au 8 ?_
  refine ae ?_
  have ha : al = false := by cases al <;> simp_all
  rw [ha, if_neg (by decide), if_neg (by decide)]
  exact ⟨_, ⟨rfl, its, T, L, now, d, hR, hT, h, by omega, rfl⟩, inferInstance⟩
 refine au 4 ?_
 have ha : al = true := by cases al <;> simp_all
 rw [ha, if_pos rfl, if_pos rfl, hE]
 refine au 4 ?_
 refine aB rfl (xk call214 rfl (HJ hK bm pv bt bs ps pm d on root user va hva 2 its room now T L fr pg hR hT hr hn h)) ?_
 rintro _ B_ ⟨fast, its2, T2, L2, now2, d2, rfl, hfast, hR2, hT2, h2, hn2, hB_⟩
 subst hB_
 rw [hE]
 replace hfast := hfast.hit
 rw [hE] at hfast
 refine au 3 ?_
 refine ax (aS ez) fun b11 => ?_
 refine aE 12 (aF cB rfl rfl rfl rfl rfl) ?_
 refine a8 rfl (fun c6 => ?_) fun c6 => ?_
 ·refine au 9 ?_
  refine ae ?_
  rw [if_neg c6]
  exact ⟨_, ⟨rfl, its2, T2, L2, now2, d2, hR2, hT2, h2, hn2, rfl⟩, inferInstance⟩
 refine bD ?_
 obtain rfl : E = 0 := by omega
 rw [if_pos rfl]
 obtain ⟨pa, p1, p2, p3, p4, p5, p6⟩ := hpa rfl
 have hth := HM p3
 have hfw := Wy (w := w) p3 (hal.trans ha) p2
 rw [p4, p5, p6]
 rw [p4] at hfast
 refine au 6 ?_
 refine a8 rfl (fun c8 => ?_) fun c8 => ?_
 ·refine bD ?_
  have hno : ∀ y ∈ L2, ∀ t, t = y.rt ∨ t = y.lf → Nat.testBit d2 t.toNat = false → t ≠ ((pa / 64 : Nat) : Int) := fun y hy t ht _ e => by
   obtain ⟨_, z, hz, e1, hm⟩ := hfast (by simp_all)
   simp only [kf, Bool.and_eq_true] at hm
   have hzr := (h2.ln z hz).r
   have hb : ee z.e.2.2 2 = true := hm.1.2.1
   have hw : wB z.e.2.2 = true := by
    obtain ⟨n, hn⟩ : ∃ n : Nat, z.e.2.2 = (n : Int) := ⟨z.e.2.2.toNat, by omega⟩
    rw [hn] at hb ⊢
    exact WA (by omega) hb
   have ht2 := h2.ti.nowr z hz hw
   rw [← Bool.not_eq_true, rG] at ht2
   exact ht2 ⟨y, hy, by rw [qf, e1, ← e]; exact ht.imp Eq.symm Eq.symm⟩
  have hms := h2.save hth ((pa % 64 : Nat) : Int) w x h2.dl (fun t q => q) hno
  refine aU [(bm, 0, _), (b11, 0, _)] 12 aT rfl (aa (aa ag)) (fun hS => ?_)
  refine ah 0 4 hS ?_
  refine ah 5 6 hS ?_
  refine bF 4 rfl rfl (ao Km rfl (AF pv ps pm d2)) (aa (aa ag)) fun hS => ?_
  refine bF 11 rfl rfl (ao JB rfl (Az ps fr _ _ w x hx h2.F)) (aa (aa ag)) fun hS => ?_
  refine aK ?_
  refine au 9 ?_
  refine ae ?_
  exact ⟨_, ⟨rfl, its2, T2, L2, now2, d2, hR2, hT2, hms, hn2, rfl⟩, inferInstance⟩
 refine au 4 ?_
 have hpl : pa / 64 < 12 := by omega
 have hdl : d2 ||| 2 ^ (pa / 64) < 4096 := Nat.or_lt_two_pow (n := 12) h2.dl (AE hpl)
 have hms := h2.save hth ((pa % 64 : Nat) : Int) w x hdl (fun t q => (yK q).1) (fun y hy t ht hb e => by
  have h1 := (h2.ln y hy).own
  have h3 := (yK hb).2
  rcases ht with rfl | rfl <;> omega)
 have hvF : jX fr pg pa w x = eK fr (cm pg ((pa / 64 : Nat) : Int)).1 ((pa % 64 : Nat) : Int) w x := by rw [jX, if_pos hfw]
 have hvD : qY fr pg pa w d2 = d2 ||| 2 ^ (pa / 64) := by rw [qY, if_pos hfw]
 refine aU [(bm, 0, _), (b11, 0, _)] 15 aT rfl (aa (aa ag)) (fun hS => ?_)
 refine ah 0 6 hS ?_
 refine av 6 rfl rfl rfl hS (iH rfl rfl (by rw [aG (by omega)]; omega : IntKind.wrap .i64 (((pa / 64 : Nat) : Int) * 64) = ((64 * (pa / 64) : Nat) : Int))) ?_
 refine ah 7 2 hS ?_
 refine av 9 rfl rfl rfl hS (bO rfl rfl (by rw [aG (by omega)]; omega : IntKind.wrap .i64 (((64 * (pa / 64) : Nat) : Int) + ((pa % 64 : Nat) : Int)) = ((pa : Nat) : Int))) ?_
 refine av 10 rfl rfl rfl hS (cX cW dk rfl (eA (by omega))) ?_
 refine ah 11 2 hS ?_
 refine bS 13 (by kernel_rfl) rfl rfl (du call21 rfl (EG pv ps pm d2 fr pg h2.P h2.F h2.dl pa (by omega) w x hx)) rfl ?_; clear hS
 rintro _ B_ ⟨rfl, hB_⟩
 subst hB_
 rw [hvF, hvD, hfw]
 refine ⟨(aa (aa ag)), fun hS => ?_⟩
 refine ah 14 1 hS ?_
 refine aK ?_
 refine au 2 ?_
 refine ae ?_
 exact ⟨_, ⟨rfl, its2, T2, L2, now2, _, hR2, hT2, hms, hn2, rfl⟩, inferInstance⟩
theorem HO {pg : List Pl} {n m : Nat} {p : Pl} (h : m ≠ n) : eL (pg.set n p) m = eL pg m := by
 unfold eL
 simp only [List.getD_eq_getElem?_getD]
 rw [List.getElem?_set_ne (fun e => h e.symm)]
theorem eR {pg : List Pl} {n : Nat} {t : Int} {p : Pl} (h : t ≠ (n : Int)) : aP (pg.set n p) t = aP pg t ∧ cm (pg.set n p) t = cm pg t := by
 have key : aP (pg.set n p) t = aP pg t := by
  unfold aP
  cases hp : gG t with
  | false => rfl
  | true =>
   obtain ⟨i, rfl, hi⟩ := jq hp
   rw [Int.toNat_natCast, HO (by omega)]
 refine ⟨key, ?_⟩
 unfold cm
 rw [key]
 by_cases hth : aP pg t = true
 ·rw [if_pos hth, if_pos hth]
  simp only [aP, Bool.and_eq_true] at hth
  obtain ⟨i, rfl, hi⟩ := jq hth.1
  rw [Int.toNat_natCast, HO (by omega)]
 rw [if_neg hth, if_neg hth]
theorem WC {fr : List aC} {pg : List Pl} {n : Nat} {t : Int} {p : Pl} (h : t ≠ (n : Int)) : vI fr pg fr (pg.set n p) t :=
 BV rfl (eR h).1 (eR h).2 fun _ _ _ => rfl
theorem LOk.set {fr : List aC} {pg : List Pl} {d n : Nat} {p : Pl} {x : Ln} (h : LOk fr pg d x) (h1 : x.e.1 ≠ (n : Int)) (h2 : ∀ t, t = x.rt ∨ t = x.lf → aP pg t = true → t ≠ (n : Int)) : LOk fr (pg.set n p) d x :=
 h.move ((eR h1).1.trans h.at_.1) (eR h1).2 fun t ht hb => ⟨hb, fun q => WC (h2 t ht q)⟩
theorem yL {pg : List Pl} {n : Nat} {p : Pl} (hl : pg.length = 12) (hn : n < 12) (hp : p ≠ (0, 0)) : aP (pg.set n p) (n : Int) = true ∧ cm (pg.set n p) (n : Int) = p := by
 have h1 : eL (pg.set n p) n = p := by unfold eL; simp [List.getD, hl, hn]
 have h2 : aP (pg.set n p) (n : Int) = true := by
  unfold aP
  rw [Int.toNat_natCast, h1, Bool.and_eq_true]
  exact ⟨decide_eq_true (by omega), by simpa using hp⟩
 exact ⟨h2, by rw [cm, if_pos h2, Int.toNat_natCast, h1]⟩
theorem PlOk.set {N n : Nat} {pg : List Pl} {p : Pl} (h : PlOk N pg) (hl : pg.length = 12) (hn : n < 12) (hp : p ≠ (0, 0)) (hN : p.1 < (N : Int)) (hd : ∀ t, aP pg t = true → (cm pg t).1 ≠ p.1) : PlOk N (pg.set n p) := by
 have hg := yL hl hn hp
 refine ⟨fun t ht => ?_, fun s t hs ht e => ?_⟩
 ·by_cases q : t = (n : Int)
  ·subst q; rw [hg.2]; exact hN
  rw [(eR q).1] at ht; rw [(eR q).2]; exact h.rng t ht
 by_cases q : s = (n : Int)
 ·by_cases r : t = (n : Int)
  ·rw [q, r]
  rw [q, hg.2, (eR r).2] at e
  rw [(eR r).1] at ht
  exact absurd e.symm (hd t ht)
 rw [(eR q).1] at hs
 by_cases r : t = (n : Int)
 ·rw [r, hg.2, (eR q).2] at e
  exact absurd e (hd s hs)
 rw [(eR r).1] at ht
 rw [(eR q).2, (eR r).2] at e
 exact h.inj s t hs ht e
theorem PlOk.drop {N n : Nat} {pg : List Pl} (h : PlOk N pg) (hl : pg.length = 12) : PlOk N (pg.set n (0, 0)) := by
 have hz : aP (pg.set n (0, 0)) (n : Int) = false := by
  unfold aP
  rw [Int.toNat_natCast]
  by_cases hn : n < 12
  ·have : eL (pg.set n (0, 0)) n = (0, 0) := by unfold eL; simp [List.getD, hl, hn]
   rw [this]; simp
  rw [show gG (n : Int) = false from decide_eq_false (by omega), Bool.false_and]
 have ne : ∀ t, aP (pg.set n (0, 0)) t = true → t ≠ (n : Int) := fun t ht e => by rw [e, hz] at ht; cases ht
 refine ⟨fun t ht => ?_, fun s t hs ht e => ?_⟩
 ·have q := ne t ht
  rw [(eR q).1] at ht; rw [(eR q).2]; exact h.rng t ht
 have q := ne s hs
 have r := ne t ht
 rw [(eR q).1] at hs
 rw [(eR r).1] at ht
 rw [(eR q).2, (eR r).2] at e
 exact h.inj s t hs ht e
theorem MOk.come {fr : List aC} {pg : List Pl} {d n : Nat} {L : List Ln} {T : List It} {p : Pl} (h : MOk fr pg d L T) (hN : p.1 < (fr.length : Int)) (hd : ∀ t, aP pg t = true → (cm pg t).1 ≠ p.1) : MOk fr (dJ pg n p) d L T := by
 unfold dJ
 split
 case isFalse => exact h
 case isTrue hz =>
  have hz2 := hz
  have hno : aP pg (n : Int) = false := by
   unfold ej at hz
   split at hz
   ·split at hz
    ·exact absurd hz (by decide)
    rename_i q; simpa using q
   exact absurd hz (by decide)
  have hn : gG (n : Int) = true ∧ jp p = true := by
   unfold ej at hz2
   split at hz2
   ·assumption
   exact absurd hz2 (by decide)
  obtain ⟨i, hi, hi2⟩ := jq hn.1
  have hp0 : p ≠ (0, 0) := fun e => by
   have := hn.2
   rw [e] at this
   exact absurd this (by decide)
  have hP := qX (n := (n : Int)) (p := p) h.P
  rw [dJ, if_pos hz] at hP
  rw [Int.toNat_natCast] at hP ⊢
  refine ⟨h.F, h.dl, hP, h.pl.set h.P.len (by omega) hp0 hN hd, h.ti, fun x hx => (h.ln x hx).set (fun e => ?_) fun t _ q e => ?_⟩
  ·have := (h.ln x hx).at_.1
   rw [e, hno] at this; cases this
  rw [e, hno] at q; cases q
theorem LOk.go {fr : List aC} {pg : List Pl} {d n : Nat} {x : Ln} (h : LOk fr pg d x) (hg : kK (n : Int) x = false) : LOk fr (fA pg (n : Int)) d x := by
 unfold fA
 split
 ·rw [Int.toNat_natCast]
  simp only [kK, Bool.or_eq_false_iff, decide_eq_false_iff_not] at hg
  refine h.set hg.2 fun t ht _ e => ?_
  have h1 := hg.1
  rw [← Bool.not_eq_true, qf] at h1
  rcases ht with rfl | rfl
  ·exact h1 (.inl e)
  exact h1 (.inr e)
 exact h
theorem HQ {N n : Nat} {pg : List Pl} (hl : pg.length = 12) (h : PlOk N pg) : PlOk N (fA pg (n : Int)) := by
 unfold fA
 split
 ·rw [Int.toNat_natCast]; exact h.drop hl
 exact h
theorem WE (bm pv bt bs ps pm d : Nat) (its : List It) (room now : Nat) (T : List It) (L : List Ln) (fr : List aC) (pg : List Pl) (hR : Rep its now T) (hT : T.length ≤ room) (hr : room ≤ 4) (n : Nat) (h : MOk fr pg d L T) : sP W0 51 [.pointer (some ⟨bm, 0, none⟩), .int .i64 n] (pt bm (cN pv bt bs) :: aQ bt (its, d3 room now) :: bL bs L :: pt pv (cr ps pm d) :: R) (fun v B => v = .int .i64 0 ∧ ∃ its' T' L', B = pt bm (cN pv bt bs) :: aQ bt (its', d3 room now) :: bL bs L' :: pt pv (cr ps pm 0) :: R ∧ Rep its' now T' ∧ T'.length ≤ room ∧ MOk fr (fA pg (n : Int)) 0 L' T') := by
 obtain ⟨I, hI⟩ : ∃ I : List Ln → List It → Prop, (fun L T => TI L T ∧ ∀ x ∈ L, kK (n : Int) x = false → LOk fr (fA pg (n : Int)) d x) = I := ⟨_, rfl⟩
 have hI0 : I L T := by
  rw [← hI]
  exact ⟨h.ti, fun x hx q => (h.ln x hx).go q⟩
 have hIl : ∀ L T, I L T → L.length ≤ 1000 := fun L T q => by
  rw [← hI] at q
  exact Nat.le_trans q.1.len (by decide)
 have hId : ∀ L T p, I L T → I (L.filter fun x => !p x) (lm ((L.filter p).map Ln.k) T) := fun L T p q => by
  rw [← hI] at q ⊢
  exact ⟨q.1.drop p fun y hy => by
   obtain ⟨h1, h2⟩ := Hc hy
   exact ⟨h1, fun x hx hf e => h2 (List.mem_map.2 ⟨x, List.mem_filter.2 ⟨hx, hf⟩, e.symm⟩)⟩, fun x hx => q.2 x (List.mem_filter.1 hx).1⟩
 refine ai 9 func51 ntmps51 ?_
 refine ar 2 (ao zS rfl (vJ bm pv bt bs)) ?_
 refine a8 rfl (fun c1 => ?_) fun c1 => ?_
 ·exact absurd c1 (by decide)
 refine au 5 ?_
 refine aB rfl (kV Kl rfl (Hf bm pv bt bs ps pm d its (.int .i64 room) (.int .i64 now) now room T L hR hT hr h.dl I hIl hId hI0)) ?_
 rintro _ B_ ⟨rfl, its1, T1, L1, hB_, hR1, hT1, hI1, hc1, _⟩
 subst hB_
 have hl1 := hIl L1 T1 hI1
 have hI2 := hId L1 T1 (kK (n : Int)) hI1
 obtain ⟨ks, hks⟩ : ∃ ks, (L1.filter (kK (n : Int))).map Ln.k = ks := ⟨_, rfl⟩
 have hkl : (L1.filter (kK (n : Int))).length = ks.length := by rw [← hks, List.length_map]
 have hkn : ks.length ≤ 1000 := by rw [← hkl]; exact Nat.le_trans (List.length_filter_le _ _) (by omega)
 rw [hks] at hI2
 refine au 10 ?_
 refine aB rfl (ao call119 rfl (UV bs L1 hl1 (n : Int))) ?_
 rintro _ B_ ⟨aw, cw, rfl, hB_⟩
 subst hB_
 rw [He, hks, hkl]
 refine aB rfl (du call118 rfl (Hd bm pv bt bs its1 (.int .i64 room) (.int .i64 now) now T1 hR1 (by omega) aw cw ks hkn)) ?_
 rintro _ B_ ⟨rfl, its2, hB_, hR2⟩
 subst hB_
 refine au 8 ?_
 refine ae ?_
 rw [← hI] at hI2
 have hm : MOk fr (fA pg (n : Int)) 0 (L1.filter fun x => !kK (n : Int) x) (lm ks T1) := ⟨h.F, by decide, H9 h.P, HQ h.P.len h.pl, hI2.1, fun x hx => by
  obtain ⟨hx1, hx2⟩ := List.mem_filter.1 hx
  exact (hI2.2 x hx (by simpa using hx2)).clean (hc1 x hx1)⟩
 exact ⟨_, ⟨rfl, its2, lm ks T1, L1.filter fun x => !kK (n : Int) x, rfl, hR2, Nat.le_trans BW hT1, hm⟩, inferInstance⟩
theorem MOk.flush {fr : List aC} {pg : List Pl} {L : List Ln} {T : List It} (h : MOk fr pg 0 L T) : MOk fr pg 0 [] [] := ⟨h.F, h.dl, h.P, h.pl, TI.nil, fun x hx => by simp at hx⟩
theorem WG (bm pv bt bs ps pm d : Nat) (its : List It) (room now : Nat) (T : List It) (L : List Ln) (fr : List aC) (pg : List Pl) (hR : Rep its now T) (hT : T.length ≤ room) (hr : room ≤ 4) (h : MOk fr pg d L T) : sP W0 299 [.pointer (some ⟨bm, 0, none⟩)] (pt bm (cN pv bt bs) :: aQ bt (its, d3 room now) :: bL bs L :: pt pv (cr ps pm d) :: R) (fun v B => ∃ k its', v = .int .i64 k ∧ B = pt bm (cN pv bt bs) :: aQ bt (its', d3 room now) :: bL bs [] :: pt pv (cr ps pm 0) :: R ∧ Rep its' now [] ∧ MOk fr pg 0 [] []) := by
 refine ai 9 func299 ntmps299 ?_
 refine ar 2 (ao zS rfl (vJ bm pv bt bs)) ?_
 refine a8 rfl (fun c1 => ?_) fun c1 => ?_
 ·exact absurd c1 (by decide)
 refine au 5 ?_
 refine aB rfl (kV Kl rfl (Hg bm pv bt bs ps pm d its (.int .i64 room) (.int .i64 now) now room T L fr pg hR hT hr h)) ?_
 rintro _ B_ ⟨rfl, its1, T1, L1, hB_, hR1, hT1, h1, _⟩
 subst hB_
 have hil := hR1.length
 have hll := h1.ti.len
 refine au 8 ?_
 refine aB rfl (ao call357 rfl (Ut bt its1 (.int .i64 room) (.int .i64 now) now T1 hR1 (by omega))) ?_
 rintro _ B_ ⟨rfl, its2, hB_, hR2⟩
 subst hB_
 refine au 8 ?_
 refine ar 4 (ao call358 rfl (UW bs L1 (by omega))) ?_
 refine ae ?_
 exact ⟨_, ⟨_, its2, rfl, rfl, hR2, h1.flush⟩, inferInstance⟩
structure Mu where
  pv : Nat
  ps : Nat
  pm : Nat
  bud : Nat
  fr : List aC
  pg : List Pl
def i7 (bm : Nat) (x : Mu) : HP := chk (fun C => ∃ bt bs its T L now d, Rep its now T ∧ T.length ≤ 4 ∧ now ≤ x.bud ∧ MOk x.fr x.pg d L T ∧ C = [pt bm (cN x.pv bt bs), aQ bt (its, d3 4 now), bL bs L, pt x.pv (cr x.ps x.pm d), pt x.pm (bJ x.pg)])
section
variable {P : Program} {W0 : World} {N : FSz} {K : Act → World → Prop} {e : aW} {R : List HP} {bm pv ps pm bud : Nat} {fr : List aC} {pg : List Pl} {f : FuncId} {args : List Value} {Post : Value → List HP → Prop}
theorem rO (h : ∀ bt bs its T L now d, Rep its now T → T.length ≤ 4 → now ≤ bud → MOk fr pg d L T → bN P W0 f args (pt bm (cN pv bt bs) :: aQ bt (its, d3 4 now) :: bL bs L :: pt pv (cr ps pm d) :: pt pm (bJ pg) :: R) Post) : bN P W0 f args (i7 bm ⟨pv, ps, pm, bud, fr, pg⟩ :: R) Post :=
 qM fun C hC => by obtain ⟨bt, bs, its, T, L, now, d, h1, h2, h3, h4, rfl⟩ := hC; exact h bt bs its T L now d h1 h2 h3 h4
theorem oT {bt bs now d : Nat} {its T : List It} {L : List Ln} (h1 : Rep its now T) (h2 : T.length ≤ 4) (h3 : now ≤ bud) (h4 : MOk fr pg d L T) : Ent (pt bm (cN pv bt bs) :: aQ bt (its, d3 4 now) :: bL bs L :: pt pv (cr ps pm d) :: pt pm (bJ pg) :: R) (i7 bm ⟨pv, ps, pm, bud, fr, pg⟩ :: R) :=
 fC (R := R) (C := [_, _, _, _, _]) ⟨bt, bs, its, T, L, now, d, h1, h2, h3, h4, rfl⟩
end
theorem HR {n : Nat} {pg : List Pl} {pa : Nat} {w kind : Int} (h : dR n pg pa w kind = 0) : aP pg ((pa / 64 : Nat) : Int) = true := by
 unfold dR at h
 split at h
 ·split at h
  ·split at h
   ·rename_i q
    unfold fZ at q
    split at q
    ·assumption
    exact absurd q (by decide)
   rename_i q; exact absurd h q
  exact absurd h (by decide)
 exact absurd h (by decide)
section
variable (W0 : World) (R : List HP) (bm pv ps pm bud : Nat) (fr : List aC) (pg : List Pl)
theorem HS (hK : ∀ A, bG (aO W0 A) 1 0 gQ) (hb : bud < 800000) (on : Bool) (root : Int) (user : Bool) (va : Nat) (hva : va < 4294967296) (w kind : Int) :
  bN Tryz.prog W0 142 [pV bm, .agg (re on root user).toArray, .int .u32 va, .int .i64 w, .int .i64 kind] (i7 bm ⟨pv, ps, pm, bud, fr, pg⟩ :: bu ps fr :: R)
   (fun v B => v = .tuple #[wV (qk fr pg on root user va w kind), .int .i64 (nP fr pg on root user va w kind)] ∧ B = i7 bm ⟨pv, ps, pm, bud + 3, fr, pg⟩ :: bu ps fr :: R) := by
 refine rO fun bt bs its T L now d h1 h2 h3 h4 => ?_
 refine xl (B := pt bm (cN pv bt bs) :: aQ bt (its, d3 4 now) :: bL bs L :: eg pv ps pm d fr pg R) inferInstance ?_
 refine hJ (Wz W0 R hK bm pv bt bs ps pm d on root user va hva w kind its 4 now T L fr pg h1 h2 (by decide) (by omega) h4) fun v B hB => ?_
 obtain ⟨rfl, its', T', L', now', d', k1, k2, k3, k4, rfl⟩ := hB
 refine ⟨_, ⟨rfl, rfl⟩, ?_⟩
 exact Ent.trans (B := pt bm (cN pv bt bs) :: aQ bt (its', d3 4 now') :: bL bs L' :: pt pv (cr ps pm d') :: pt pm (bJ pg) :: bu ps fr :: R) inferInstance (oT k1 k2 (by omega) k3)
theorem WH (hK : ∀ A, bG (aO W0 A) 1 0 gQ) (hb : bud < 800000) (on : Bool) (root : Int) (user : Bool) (va : Nat) (hva : va < 4294967296) (w : Int) (x : Nat) (hx : x < 4294967296) :
  bN Tryz.prog W0 298 [pV bm, .agg (re on root user).toArray, .int .u32 va, .int .i64 w, .int .u32 x] (i7 bm ⟨pv, ps, pm, bud, fr, pg⟩ :: bu ps fr :: R)
   (fun v B => v = .int .i64 (nP fr pg on root user va w 2) ∧ B = i7 bm ⟨pv, ps, pm, bud + 3, lp fr pg on root user va w x, pg⟩ :: bu ps (lp fr pg on root user va w x) :: R) := by
 refine rO fun bt bs its T L now d h1 h2 h3 h4 => ?_
 refine xl (B := pt bm (cN pv bt bs) :: aQ bt (its, d3 4 now) :: bL bs L :: eg pv ps pm d fr pg R) inferInstance ?_
 refine hJ (WB W0 R hK bm pv bt bs ps pm d on root user va hva w x hx its 4 now T L fr pg h1 h2 (by decide) (by omega) h4) fun v B hB => ?_
 obtain ⟨rfl, its', T', L', now', d', k1, k2, k3, k4, rfl⟩ := hB
 refine ⟨_, ⟨rfl, rfl⟩, ?_⟩
 exact Ent.trans (B := pt bm (cN pv bt bs) :: aQ bt (its', d3 4 now') :: bL bs L' :: pt pv (cr ps pm d') :: pt pm (bJ pg) :: bu ps (lp fr pg on root user va w x) :: R) inferInstance (oT k1 k2 (by omega) k3)
theorem WI : bN Tryz.prog W0 299 [pV bm] (i7 bm ⟨pv, ps, pm, bud, fr, pg⟩ :: R) (fun v B => ∃ k, v = .int .i64 k ∧ B = i7 bm ⟨pv, ps, pm, bud, fr, pg⟩ :: R) := by
 refine rO fun bt bs its T L now d h1 h2 h3 h4 => ?_
 refine hJ (WG bm pv bt bs ps pm d its 4 now T L fr pg h1 h2 (by decide) h4) fun v B hB => ?_
 obtain ⟨k, its', rfl, rfl, k1, k2⟩ := hB
 exact ⟨_, ⟨k, rfl, rfl⟩, oT k1 (by decide) h3 k2⟩
theorem WJ (pa : Nat) (hpa : pa < 4294967296) (w : Int) (x : Nat) (hx : x < 4294967296) :
  bN Tryz.prog W0 21 [pV pv, .int .u32 pa, .int .i64 w, .int .u32 x] (i7 bm ⟨pv, ps, pm, bud, fr, pg⟩ :: bu ps fr :: R)
   (fun v B => v = .int .i64 (dR fr.length pg pa w 2) ∧ B = i7 bm ⟨pv, ps, pm, bud, jX fr pg pa w x, pg⟩ :: bu ps (jX fr pg pa w x) :: R) := by
 refine rO fun bt bs its T L now d h1 h2 h3 h4 => ?_
 refine xl (B := pt pv (cr ps pm d) :: bu ps fr :: pt pm (bJ pg) :: pt bm (cN pv bt bs) :: aQ bt (its, d3 4 now) :: bL bs L :: R) inferInstance ?_
 refine hJ (EG pv ps pm d fr pg h4.P h4.F h4.dl pa hpa w x hx) fun v B hB => ?_
 obtain ⟨rfl, rfl⟩ := hB
 refine ⟨_, ⟨rfl, rfl⟩, ?_⟩
 refine Ent.trans (B := pt bm (cN pv bt bs) :: aQ bt (its, d3 4 now) :: bL bs L :: pt pv (cr ps pm (qY fr pg pa w d)) :: pt pm (bJ pg) :: bu ps (jX fr pg pa w x) :: R) inferInstance (oT h1 h2 h3 ?_)
 unfold jX qY
 split
 ·rename_i hz
  obtain ⟨q1, q2, q3⟩ := xq hz
  have hdl : d ||| 2 ^ (pa / 64) < 4096 := Nat.or_lt_two_pow (n := 12) h4.dl (AE (by omega))
  exact h4.save (HR hz) ((pa % 64 : Nat) : Int) w x hdl (fun t q => (yK q).1) (fun y hy t ht hb e => by
   have k1 := (h4.ln y hy).own
   have k3 := (yK hb).2
   rcases ht with rfl | rfl <;> omega)
 exact h4
end
structure VIt where
  n : Int
  p : Int
  s : Int
  hs : 0 ≤ s ∧ s < 10000000000000000000
instance : Hk VIt where
  default := ⟨0, 0, 0, by decide⟩
  ky := fun x => x.s - x.p * 100000000000000000000
@[reducible] def fj (x : VIt) : List Value := [.int .i64 x.n, .int .i64 x.p, .int .i64 x.s]
theorem jw (x : VIt) : (fj x).length = 3 := rfl
theorem ql (its : List VIt) (sp : List Value) (i : Nat) (hi : i < its.length) : ((its.flatMap fj ++ sp).drop (i * 3)).take 3 = fj (its.getD i default) := by
 rw [pC jw its i sp hi]; simp [List.getD, hi]
theorem yM (its : List VIt) (sp : List Value) (i : Nat) (x : VIt) (hi : i < its.length) : setR (its.flatMap fj ++ sp) (i * 3) (fj x) = (its.set i x).flatMap fj ++ sp := sB jw its i x sp hi
theorem yN (its : List VIt) (sp : List Value) (i : Nat) (hi : i < its.length) : i * 3 + 3 ≤ (its.flatMap fj ++ sp).length := by
 rw [List.length_append, cz jw]; omega
theorem HT {its : List VIt} {i : Nat} (h : i < its.length) : its ≠ [] := fun e => by rw [e] at h; simp at h
abbrev dL : Nat → List VIt × List Value → HP := l5 113 231 3 fj 32
abbrev oU (b : Nat) : Value := .pointer (some ⟨b, 32, none⟩)
theorem HU (b : Nat) (its : List VIt) (cs : List Value) : sQ W0 210 [oU b] (dL b (its, cs) :: R) (.int .i64 (its.length : Nat)) (dL b (its, cs) :: R) := by
 refine pQ fun a c ho => ?_
 refine ai 10 func210 ntmps210 ?_
 refine ap 5 (aA lV rfl (aN (dP ho))) ?_
 refine ae ?_
 exact ⟨_, ⟨rfl, rfl⟩, l6 rfl rfl ho rfl⟩
theorem WK (b : Nat) (its : List VIt) (cs : List Value) (i k : Nat) (hi : i < its.length) (hk : k < its.length) : sQ W0 493 [oU b, .int .i64 i, .int .i64 k] (dL b (its, cs) :: R) (.bool (decide (Hp.us its i < Hp.us its k))) (dL b (its, cs) :: R) := by
 refine nz jw (HT hi) (by decide) fun g c sp ho h1 h2 h3 => ?_
 obtain ⟨x, hx⟩ : ∃ x, its.getD i default = x := ⟨_, rfl⟩
 obtain ⟨y, hy⟩ : ∃ y, its.getD k default = y := ⟨_, rfl⟩
 have rx := ql its sp i hi
 have ry := ql its sp k hk
 rw [hx] at rx
 rw [hy] at ry
 have e1 : Hp.us its i = x.s - x.p * 100000000000000000000 := by rw [Hp.us, hx]; rfl
 have e2 : Hp.us its k = y.s - y.p * 100000000000000000000 := by rw [Hp.us, hy]; rfl
 have b1 := x.hs
 have b2 := y.hs
 refine ai 6 func493 ntmps493 ?_
 refine aU [(b, 0, _), (g, i * 3, fj x), (g, k * 3, fj y)] 18 aT rfl (aa (cR (cC rx rfl) (cR (cC ry rfl) ag))) (fun hS => ?_)
 refine ah 0 3 hS ?_
 refine av 3 rfl rfl rfl hS (aA lV rfl (dv (k := 0) rfl (dP ho))) ?_
 refine ah 4 1 hS ?_
 refine av 5 rfl rfl rfl hS (bc km eH rfl rfl rfl hi (by first | exact Nat.zero_add _ | rfl)) ?_
 refine av 6 rfl rfl rfl hS (b0 qu eH rfl (co (k := 1) rfl) rfl) ?_
 refine ah 7 3 hS ?_
 refine av 10 rfl rfl rfl hS (aA lV rfl (dv (k := 0) rfl (dP ho))) ?_
 refine ah 11 1 hS ?_
 refine av 12 rfl rfl rfl hS (bc km eH rfl rfl rfl hk (by first | exact Nat.zero_add _ | rfl)) ?_
 refine av 13 rfl rfl rfl hS (b0 qu eH rfl (co (k := 2) rfl) rfl) ?_
 refine eJ (is := [14, 15]) (by kernel_rfl) rfl ⟨?_, ?_, trivial⟩
 ·skip
  refine cV rfl rfl (aS pw) rfl ?_; clear hS
  rintro _ _ ⟨bx, rfl, rfl⟩
  refine ⟨(aa (cR (cC rx rfl) (cR (cC ry rfl) ag))), fun hS => ?_⟩
  refine bS 15 (by kernel_rfl) rfl rfl (aS pw) rfl ?_; clear hS
  rintro _ _ ⟨by_, rfl, rfl⟩
  refine ⟨(aa (cR (cC rx rfl) (cR (cC ry rfl) ag))), fun hS => ?_⟩
  refine bU 16 rfl rfl (aF eH rfl rfl rfl rfl rfl) (aa (cR (cC rx rfl) (cR (cC ry rfl) ag))) fun hS => ?_
  refine bU 17 rfl rfl (aF eH rfl rfl rfl rfl rfl) (aa (cR (cC rx rfl) (cR (cC ry rfl) ag))) fun hS => ?_
  refine aK ?_
  refine au 11 ?_
  refine a8 rfl (fun c2 => ?_) fun c2 => ?_
  ·refine au 12 ?_
   refine ae ?_
   rw [e1, e2]
   refine ⟨_, ⟨congrArg Value.bool ?_, rfl⟩, iR jw rfl rfl ho rfl h1 h2 h3⟩
   rw [Bool.eq_iff_iff, decide_eq_true_iff, decide_eq_true_iff]
   have : x.p ≠ y.p := by simpa using c2
   omega
  refine au 13 ?_
  refine ae ?_
  rw [e1, e2]
  refine ⟨_, ⟨congrArg Value.bool ?_, rfl⟩, iR jw rfl rfl ho rfl h1 h2 h3⟩
  rw [Bool.eq_iff_iff, decide_eq_true_iff, decide_eq_true_iff]
  have : x.p = y.p := by simpa using c2
  omega
 skip
 refine cV rfl rfl (aS pw) rfl ?_; clear hS
 rintro _ _ ⟨by_, rfl, rfl⟩
 refine ⟨(aa (cR (cC rx rfl) (cR (cC ry rfl) ag))), fun hS => ?_⟩
 refine bS 14 (by kernel_rfl) rfl rfl (aS pw) rfl ?_; clear hS
 rintro _ _ ⟨bx, rfl, rfl⟩
 refine ⟨(aa (cR (cC rx rfl) (cR (cC ry rfl) ag))), fun hS => ?_⟩
 refine bU 16 rfl rfl (aF eH rfl rfl rfl rfl rfl) (aa (cR (cC rx rfl) (cR (cC ry rfl) ag))) fun hS => ?_
 refine bU 17 rfl rfl (aF eH rfl rfl rfl rfl rfl) (aa (cR (cC rx rfl) (cR (cC ry rfl) ag))) fun hS => ?_
 refine aK ?_
 refine au 11 ?_
 refine a8 rfl (fun c2 => ?_) fun c2 => ?_
 ·refine au 12 ?_
  refine ae ?_
  rw [e1, e2]
  refine ⟨_, ⟨congrArg Value.bool ?_, rfl⟩, iR jw rfl rfl ho rfl h1 h2 h3⟩
  rw [Bool.eq_iff_iff, decide_eq_true_iff, decide_eq_true_iff]
  have : x.p ≠ y.p := by simpa using c2
  omega
 refine au 13 ?_
 refine ae ?_
 rw [e1, e2]
 refine ⟨_, ⟨congrArg Value.bool ?_, rfl⟩, iR jw rfl rfl ho rfl h1 h2 h3⟩
 rw [Bool.eq_iff_iff, decide_eq_true_iff, decide_eq_true_iff]
 have : x.p = y.p := by simpa using c2
 omega
theorem WL (b : Nat) (its : List VIt) (cs : List Value) (i k : Nat) (hi : i < its.length) (hk : k < its.length) : sQ W0 496 [oU b, .int .i64 i, .int .i64 k] (dL b (its, cs) :: R) (.tuple #[]) (dL b (Hp.swapL its i k, cs) :: R) := by
 refine nz jw (HT hi) (by decide) fun g c sp ho h1 h2 h3 => ?_
 refine gY func496 ntmps496 rfl rfl ?_
 refine aU [(b, 0, _)] 28 aT rfl (aa ag) (fun hS => ?_)
 refine ah 0 3 hS ?_
 refine av 3 rfl rfl rfl hS (aA lV rfl (dv (k := 0) rfl (dP ho))) ?_
 refine ah 4 4 hS ?_
 refine av 8 rfl rfl rfl hS (aA lV rfl (dv (k := 0) rfl (dP ho))) ?_
 refine ah 9 4 hS ?_
 refine av 13 rfl rfl rfl hS (aA lV rfl (dv (k := 0) rfl (dP ho))) ?_
 refine ah 14 1 hS ?_
 refine av 15 rfl rfl rfl hS (bc km eH rfl rfl rfl hk (by first | exact Nat.zero_add _ | rfl)) ?_
 refine ah 17 3 hS ?_
 refine av 20 rfl rfl rfl hS (aA lV rfl (dv (k := 0) rfl (dP ho))) ?_
 refine ah 21 1 hS ?_
 refine av 22 rfl rfl rfl hS (bc km eH rfl rfl rfl hi (by first | exact Nat.zero_add _ | rfl)) ?_
 refine eJ (is := [16, 23]) (by kernel_rfl) rfl ⟨?_, ?_, trivial⟩
 ·skip
  refine cV rfl rfl (dC (b0 qu eH rfl (cC (ql its sp k hk) rfl) rfl)) rfl ?_; clear hS
  rintro _ _ ⟨rfl, rfl⟩
  refine ⟨(aa ag), fun hS => ?_⟩
  refine bF 23 rfl rfl (dC (b0 qu eH rfl (cC (ql its sp i hi) rfl) rfl)) (aa ag) fun hS => ?_
  refine av 24 rfl rfl rfl hS (bc km eH rfl rfl rfl hi (by first | exact Nat.zero_add _ | rfl)) ?_
  refine bU 25 rfl rfl (ed eH rfl rfl rfl rfl (yN its sp i hi) (yM its sp i (its.getD k default) hi)) (aa ag) fun hS => ?_
  refine av 26 rfl rfl rfl hS (bc km eH rfl rfl rfl hk (by first | exact Nat.zero_add _ | rfl)) ?_
  refine bU 27 rfl rfl (ed eH rfl rfl rfl rfl (yN (its.set i (its.getD k default)) sp k (by simpa using hk)) (yM (its.set i (its.getD k default)) sp k (its.getD i default) (by simpa using hk))) (aa ag) fun hS => ?_
  refine aK ?_
  refine bT (.inr rfl) .nil ?_
  exact ⟨_, ⟨rfl, rfl⟩, iR jw rfl rfl ho (by simp [Hp.swapL]) (by simpa [Hp.swapL] using h1) h2 (by rw [List.length_append, cz jw] at h3 ⊢; simpa [Hp.swapL] using h3)⟩
 skip
 refine cV rfl rfl (dC (b0 qu eH rfl (cC (ql its sp i hi) rfl) rfl)) rfl ?_; clear hS
 rintro _ _ ⟨rfl, rfl⟩
 refine ⟨(aa ag), fun hS => ?_⟩
 refine bF 16 rfl rfl (dC (b0 qu eH rfl (cC (ql its sp k hk) rfl) rfl)) (aa ag) fun hS => ?_
 refine av 24 rfl rfl rfl hS (bc km eH rfl rfl rfl hi (by first | exact Nat.zero_add _ | rfl)) ?_
 refine bU 25 rfl rfl (ed eH rfl rfl rfl rfl (yN its sp i hi) (yM its sp i (its.getD k default) hi)) (aa ag) fun hS => ?_
 refine av 26 rfl rfl rfl hS (bc km eH rfl rfl rfl hk (by first | exact Nat.zero_add _ | rfl)) ?_
 refine bU 27 rfl rfl (ed eH rfl rfl rfl rfl (yN (its.set i (its.getD k default)) sp k (by simpa using hk)) (yM (its.set i (its.getD k default)) sp k (its.getD i default) (by simpa using hk))) (aa ag) fun hS => ?_
 refine aK ?_
 refine bT (.inr rfl) .nil ?_
 exact ⟨_, ⟨rfl, rfl⟩, iR jw rfl rfl ho (by simp [Hp.swapL]) (by simpa [Hp.swapL] using h1) h2 (by rw [List.length_append, cz jw] at h3 ⊢; simpa [Hp.swapL] using h3)⟩
theorem WM (b : Nat) (its : List VIt) (x : VIt) (cs : List Value) : sQ W0 494 [oU b] (dL b (its ++ [x], cs) :: R) (.iface 231 (.agg (fj x).toArray)) (dL b (its, cs) :: R) := by
 refine nz jw (by simp) (by decide) fun g c sp ho h1 h2 h3 => ?_
 have hl : (its ++ [x]).length = its.length + 1 := by simp
 rw [hl] at h1 ⊢
 have hg : (its ++ [x]).getD its.length default = x := by simp [List.getD]
 have hr := ql (its ++ [x]) sp its.length (by omega)
 rw [hg] at hr
 have he : (its ++ [x]).flatMap fj ++ sp = its.flatMap fj ++ (fj x ++ sp) := by simp
 refine ai 10 func494 ntmps494 ?_
 refine a7 rfl (aA lV rfl (aN (dP ho))) ?_
 refine a7 rfl (sg km rfl) ?_
 refine ap 8 (cZ rfl rfl (by rw [aG (by simp only [maxLen] at h2; omega)]; omega : IntKind.wrap .i64 (((its.length + 1 : Nat) : Int) - 1) = ((its.length : Nat) : Int))) ?_
 refine a7 rfl (aA lV rfl (aN (dP ho))) ?_
 refine a7 rfl (aH rfl) ?_
 refine a7 rfl (bc km eH rfl rfl rfl (by omega) (by first | exact Nat.zero_add _ | rfl)) ?_
 refine a7 rfl (b0 qu eH rfl (cC hr rfl) rfl) ?_
 refine ax (aS pw) fun b1 => ?_
 refine aE 8 (aF eH rfl rfl rfl rfl rfl) ?_
 refine a7 rfl (aA lV rfl (aN (dP ho))) ?_
 refine a7 rfl (aH rfl) ?_
 refine ap 2 (m0 km eH rfl rfl rfl (by omega)) ?_
 refine aE 5 (bA CC rfl rfl rfl (by rw [List.length_set]; exact ho) set_set) ?_
 refine ap 4 (fY wn (fun _ h => nomatch h) rfl) ?_
 refine ae ?_
 rw [he]
 exact ⟨_, ⟨rfl, rfl⟩, iR (sp := fj x ++ sp) jw rfl rfl ho rfl (by omega) h2 (by rw [← he]; exact h3)⟩
theorem WN (b : Nat) (its : List VIt) (x : VIt) (cs : List Value) (hn : its.length < 1000) : sQ W0 495 [oU b, .iface 231 (.agg (fj x).toArray)] (dL b (its, cs) :: R) (.tuple #[]) (dL b (its ++ [x], cs) :: R) := by
 refine pQ fun a c ho => ?_
 have he : its.flatMap fj ++ [fj x].flatten = (its ++ [x]).flatMap fj := by simp
 refine gY func495 ntmps495 rfl rfl ?_
 refine aU [] 12 aT rfl ag (fun hS => ?_)
 refine ah 0 4 hS ?_
 refine ah 5 1 hS ?_
 refine av 6 rfl rfl rfl hS (pE wn (fun _ h => nomatch h) rfl) ?_
 refine eJ (is := [4, 7]) (by kernel_rfl) rfl ⟨?_, ?_, trivial⟩
 ·skip
  refine cV rfl rfl (dC (aA lV rfl (aN (dP ho)))) rfl ?_; clear hS
  rintro _ _ ⟨rfl, rfl⟩
  refine ⟨ag, fun hS => ?_⟩
  refine bS 7 (by kernel_rfl) rfl rfl (iM km eH pw rfl (eW rfl rfl gZ) rfl (by decide) (by decide) (by decide)) rfl ?_; clear hS
  rintro _ _ ⟨b1, rfl, rfl⟩
  refine ⟨ag, fun hS => ?_⟩
  refine bS 8 (by kernel_rfl) rfl rfl (eV (sz := 3) (by_ := 24) (info := Tryz.t231) km (by kernel_rfl) rfl rfl rfl rfl (by decide) rfl rfl eC rfl rfl (by simp only [maxLen]; omega) (by omega)) rfl ?_; clear hS
  rintro _ _ ⟨a1, c1, rfl, rfl⟩
  refine ⟨ag, fun hS => ?_⟩
  refine ah 9 2 hS ?_
  refine bU 11 rfl rfl (bA CC rfl rfl rfl (by rw [List.length_set]; exact ho) set_set) ag fun hS => ?_
  refine aK ?_
  refine bT (.inr rfl) .nil ?_
  exact ⟨_, ⟨rfl, rfl⟩, l6 (its := its ++ [x]) he rfl ho (by simp)⟩
 skip
 refine cV rfl rfl (iM km eH pw rfl (eW rfl rfl gZ) rfl (by decide) (by decide) (by decide)) rfl ?_; clear hS
 rintro _ _ ⟨b1, rfl, rfl⟩
 refine ⟨ag, fun hS => ?_⟩
 refine bF 4 rfl rfl (dC (aA lV rfl (aN (dP ho)))) ag fun hS => ?_
 refine bS 8 (by kernel_rfl) rfl rfl (eV (sz := 3) (by_ := 24) (info := Tryz.t231) km (by kernel_rfl) rfl rfl rfl rfl (by decide) rfl rfl eC rfl rfl (by simp only [maxLen]; omega) (by omega)) rfl ?_; clear hS
 rintro _ _ ⟨a1, c1, rfl, rfl⟩
 refine ⟨ag, fun hS => ?_⟩
 refine ah 9 2 hS ?_
 refine bU 11 rfl rfl (bA CC rfl rfl rfl (by rw [List.length_set]; exact ho) set_set) ag fun hS => ?_
 refine aK ?_
 refine bT (.inr rfl) .nil ?_
 exact ⟨_, ⟨rfl, rfl⟩, l6 (its := its ++ [x]) he rfl ho (by simp)⟩
section
variable (w : World) (a : Addr)
theorem WO : (method (Tryz.prog.types.size + Made.depth) 229 (.pointer (some a)) "Len").run Tryz.prog w = .ok (210, .pointer (some a)) w := by kernel_rfl
theorem WP : (method (Tryz.prog.types.size + Made.depth) 229 (.pointer (some a)) "Less").run Tryz.prog w = .ok (493, .pointer (some a)) w := by kernel_rfl
theorem WQ : (method (Tryz.prog.types.size + Made.depth) 229 (.pointer (some a)) "Swap").run Tryz.prog w = .ok (496, .pointer (some a)) w := by kernel_rfl
theorem WR : (method (Tryz.prog.types.size + Made.depth) 229 (.pointer (some a)) "Push").run Tryz.prog w = .ok (495, .pointer (some a)) w := by kernel_rfl
theorem WT : (method (Tryz.prog.types.size + Made.depth) 229 (.pointer (some a)) "Pop").run Tryz.prog w = .ok (494, .pointer (some a)) w := by kernel_rfl
end
def Ca (W0 : World) (b : Nat) (cs : List Value) : HpO W0 VIt where
  T := 229
  p := oU b
  el := fun x => .iface 231 (.agg (fj x).toArray)
  H := fun l => dL b (l, cs)
  fL := 210
  fE := 493
  fS := 496
  fU := 495
  fO := 494
  mL := fun u => WO u _
  mE := fun u => WP u _
  mS := fun u => WQ u _
  mU := fun u => WR u _
  mO := fun u => WT u _
  cL := call210
  cE := call493
  cS := call496
  cU := call495
  cO := call494
  sL := fun R l => HU b l cs
  sE := fun R l i j hi hj => WK b l cs i j hi hj
  sS := fun R l i j hi hj => WL b l cs i j hi hj
  sU := fun R l x hl => WN b l x cs hl
  sO := fun R l x => WM b l x cs
theorem WU (b : Nat) (its : List VIt) (x : VIt) (cs : List Value) (hN : its.length < 900) (hh : Hp.Heap its its.length) : sP W0 66 [.iface 229 (oU b), .iface 231 (.agg (fj x).toArray)] (dL b (its, cs) :: R) (fun v B => v = .tuple #[] ∧ ∃ its', B = dL b (its', cs) :: R ∧ its'.Perm (its ++ [x]) ∧ Hp.Heap its' its'.length) :=
 Hp.heapPush_spec (Ca W0 b cs) R its x hN hh
theorem WV (b : Nat) (its : List VIt) (cs : List Value) (hN : its.length < 900) (h0 : its ≠ []) (hh : Hp.Heap its its.length) : sP W0 113 [.iface 229 (oU b)] (dL b (its, cs) :: R) (fun v B => ∃ x its', v = .iface 231 (.agg (fj x).toArray) ∧ B = dL b (its', cs) :: R ∧ (its' ++ [x]).Perm its ∧ Hp.Heap its' its'.length ∧ ∀ y ∈ its, Hk.ky x ≤ Hk.ky y) :=
 Hp.heapPop_spec (Ca W0 b cs) R its hN h0 hh
namespace Hp
variable {W0 : World} {α : Type} [Hk α] (o : HpO W0 α)
theorem heapRemove_spec (R : List HP) (its : List α) (i : Nat) (hN : its.length < 900) (hi : i < its.length) (hh : Heap its its.length) : sP W0 189 [iv o, .int .i64 i] (kH 0 (o.H its) :: R) (fun v B => ∃ its', v = o.el (its.getD i default) ∧ B = kH 0 (o.H its') :: R ∧ (its' ++ [its.getD i default]).Perm its ∧ Heap its' its'.length) := by
 obtain ⟨n, hn⟩ : ∃ n, its.length = n + 1 := ⟨its.length - 1, by omega⟩
 have hs : i ≠ n → hQ (swapL its i n) i n := fun hin c hc h0 => ⟨fun h1 h2 => by
  rw [j6 (by omega) (by omega), j6 (by omega) (by omega), if_neg h2, if_neg h1, if_neg (by omega), if_neg (by omega)]
  exact hh c (by omega) h0, fun h1 h2 => by
  rw [j6 (by omega) (by omega), j6 (by omega) (by omega), if_neg (by omega), if_neg (by omega), if_neg (by omega), if_neg (by omega)]
  have k1 := hh c (by omega) h0
  have k2 := hh i (by omega) h2
  rw [h1] at k1; omega⟩
 have hsl := v6 its i n
 have fin : ∀ l : List α, l.Perm its → Heap l n → l.getD n default = its.getD i default → ∃ l', l = l' ++ [its.getD i default] ∧ l'.length = n ∧ Heap l' l'.length := fun l hp hH hx => by
  have := hp.length_eq
  obtain ⟨l', x, rfl, hl', hx'⟩ := vg (l := l) (n := n) (by omega)
  rw [hx] at hx'; subst hx'
  exact ⟨l', rfl, hl', by rw [hl']; exact vh hH (by omega)⟩
 have hend : i ≠ n → (swapL its i n).getD n default = its.getD i default := fun h => by
  rw [oH (by omega) (by omega), if_neg (by omega), if_pos rfl]
 refine ai 8 func189 ntmps189 ?_
 refine aM (e8 rfl o.mL o.cL rfl (o.sL _ its)) ?_
 refine ap 11 (cZ rfl rfl (by rw [aG (by omega)]; omega : IntKind.wrap .i64 ((its.length : Nat) - 1 : Int) = ((n : Nat) : Int))) ?_
 refine a8 rfl (fun c2 => ?_) fun c2 => ?_
 ·have hin : i ≠ n := by omega
  refine au 5 ?_
  refine ar 7 (e8 rfl o.mS o.cS rfl (o.sS _ its i n (by omega) (by omega))) ?_
  refine aB rfl (ao wx rfl (tc o _ (swapL its i n) i n (by omega) (by omega) (by omega) (hs hin))) ?_
  rintro _ _ ⟨l, m, rfl, rfl, hD⟩
  have hll := hD.perm.length_eq
  refine au 3 ?_
  refine a8 rfl (fun c4 => ?_) fun c4 => ?_
  ·have hm : m = false := by simpa using c4
   obtain ⟨rfl, hmin⟩ := hD.no hm
   refine au 3 ?_
   refine aB rfl (ao zx rfl (t9 o _ (swapL its i n) i n (by omega) (by omega) (by omega) (xE (hs hin) hmin))) ?_
   rintro _ _ ⟨rfl, l, rfl, hp, hH, ht⟩
   obtain ⟨l', rfl, hl', hH⟩ := fin l (hp.trans (iP (by omega) (by omega))) hH ((ht n (Nat.le_refl _)).trans (hend hin))
   replace hp := hp.trans (iP (by omega) (by omega))
   generalize its.getD i default = x at hp ⊢
   refine au 5 ?_
   refine ar 4 (e8 rfl o.mO o.cO rfl (o.sO _ l' x)) ?_
   refine ae ?_
   exact ⟨_, ⟨l', rfl, rfl, by first | exact hp | exact List.Perm.refl _, hH⟩, inferInstance⟩
  have hm : m = true := by simpa using c4
  obtain ⟨l', rfl, hl', hH⟩ := fin l (hD.perm.trans (iP (by omega) (by omega))) (hD.yes hm) ((hD.tail n (Nat.le_refl _)).trans (hend hin))
  have hp := hD.perm.trans (iP (l := its) (i := i) (j := n) (by omega) (by omega))
  generalize its.getD i default = x at hp ⊢
  refine au 5 ?_
  refine ar 4 (e8 rfl o.mO o.cO rfl (o.sO _ l' x)) ?_
  refine ae ?_
  exact ⟨_, ⟨l', rfl, rfl, by first | exact hp | exact List.Perm.refl _, hH⟩, inferInstance⟩
 obtain rfl : n = i := by omega
 obtain ⟨l', hl, hl', hH⟩ := fin its (List.Perm.refl _) (AV hh (by omega)) rfl
 have hp : (l' ++ [its.getD n default]).Perm its := by rw [← hl]
 generalize hx : its.getD n default = x at hl hp ⊢
 rw [hl]
 refine au 5 ?_
 refine ar 4 (e8 rfl o.mO o.cO rfl (o.sO _ l' x)) ?_
 refine ae ?_
 exact ⟨_, ⟨l', rfl, rfl, by first | exact hp | exact List.Perm.refl _, hH⟩, inferInstance⟩
end Hp
structure Li where
  w : Bool
  m : Bool
  p : Int
  s : Int
  hs : 0 ≤ s ∧ s < 10000000000000000000
instance : Inhabited Li := ⟨⟨false, false, 0, 0, by decide⟩⟩
@[reducible] def mM (x : Li) : List Value := [.bool x.w, .bool x.m, .int .i64 x.p, .int .i64 x.s]
theorem qn (x : Li) : (mM x).length = 4 := rfl
def dt (ls : List Li) (now : Int) : List Value := ls.flatMap mM ++ [.slice none 0 0, .int .i64 now, .bool true]
theorem tX {ls : List Li} {now : Int} (h : ls.length = 8) : (dt ls now).length = 35 := by
 rw [dt, List.length_append, cz qn, h]; rfl
theorem WW {ls : List Li} {now : Int} (h : ls.length = 8) : (dt ls now)[34]? = some (.bool true) := by
 rw [dt, List.getElem?_append_right (by rw [cz qn, h]; decide), cz qn, h]; rfl
theorem HV {ls : List Li} {now : Int} (h : ls.length = 8) : (dt ls now)[33]? = some (.int .i64 now) := by
 rw [dt, List.getElem?_append_right (by rw [cz qn, h]; decide), cz qn, h]; rfl
theorem WX {ls : List Li} {now : Int} {n j : Nat} (hn : n < ls.length) (hj : j < 4) : (dt ls now)[n * 4 + j]? = (mM (ls.getD n default))[j]? := by
 rw [dt, ly qn ls n j _ hn hj]; simp [List.getD, hn]
theorem HW {W0 : World} {A R : List HP} {T E : TypeId} {sz o b off : Nat} {α : Type} {f : α → List Value} {its : List α} {cs vs : List Value} [hk : Tk (l5 T E sz f o) b A (its, cs) R] (h : ∀ j v, vs[j]? = some v → off + j ≠ o ∧ cs[off + j]? = some v) : bG (aO W0 A) b off vs :=
 fun j v hj => vf (o := o) (f := f) (T := T) (E := E) (sz := sz) (h j v hj).1 (h j v hj).2
theorem HX (b : Nat) (its : List VIt) (ls : List Li) (now : Int) (h : ls.length = 8) : sQ W0 107 [pV b] (dL b (its, dt ls now) :: R) (.bool false) (dL b (its, dt ls now) :: R) := by
 refine ai 10 func107 ntmps107 ?_
 refine bB rfl rfl rfl (fun g1_3 => ?_) fun g1_3 => ?_
 ·cases g1_3
 refine au 6 ?_
 refine ap 7 (aA gz rfl (vf (b := b) (T := 113) (E := 231) (sz := 3) (f := fj) (o := 32) (by decide) (WW h))) ?_
 exact ae aL
def jc (n : Int) : Bool := decide (0 ≤ n ∧ n < 8)
theorem Cb (b : Nat) (its : List VIt) (ls : List Li) (now : Int) (h : ls.length = 8) (n : Int) : sQ W0 43 [pV b, .int .i64 n] (dL b (its, dt ls now) :: R) (.int .i64 (if jc n then 0 else 1)) (dL b (its, dt ls now) :: R) := by
 refine ai 10 func43 ntmps43 ?_
 refine ar 3 (ao call107 rfl (HX b its ls now h)) ?_
 refine a8 rfl (fun c1 => ?_) fun c1 => ?_
 ·exact absurd c1 (by decide)
 refine au 8 ?_
 refine a8 rfl (fun c3 => ?_) fun c3 => ?_
 ·refine au 11 ?_
  refine ae ?_
  rw [if_neg (by simp only [jc, decide_eq_true_eq]; omega)]
  exact ⟨_, ⟨rfl, rfl⟩, inferInstance⟩
 refine au 6 ?_
 refine a8 rfl (fun c4 => ?_) fun c4 => ?_
 ·refine au 8 ?_
  refine ae ?_
  rw [if_neg (by simp only [jc, decide_eq_true_eq]; omega)]
  exact ⟨_, ⟨rfl, rfl⟩, inferInstance⟩
 refine au 9 ?_
 refine ae ?_
 rw [if_pos (by simp only [jc, decide_eq_true_eq]; omega)]
 exact ⟨_, ⟨rfl, rfl⟩, inferInstance⟩
theorem WY (b : Nat) (its : List VIt) (cs : List Value) (i : Nat) (hN : its.length < 900) (hi : i < its.length) (hh : Hp.Heap its its.length) : sP W0 189 [.iface 229 (oU b), .int .i64 i] (dL b (its, cs) :: R) (fun v B => ∃ its', v = .iface 231 (.agg (fj (its.getD i default)).toArray) ∧ B = dL b (its', cs) :: R ∧ (its' ++ [its.getD i default]).Perm its ∧ Hp.Heap its' its'.length) :=
 Hp.heapRemove_spec (Ca W0 b cs) R its i hN hi hh
theorem HY {its' its : List VIt} {x : VIt} {n : Int} (hp : (its' ++ [x]).Perm its) (hx : x.n = n) (hnd : (its.map (·.n)).Nodup) : its'.Perm (its.filter fun y => y.n != n) := by
 have h1 := hp.filter (fun y => y.n != n)
 have h2 : ((its' ++ [x]).map (·.n)).Nodup := (hp.map (·.n)).symm.nodup hnd
 have h3 : ∀ y ∈ its', (y.n != n) = true := fun y hy => by
  rw [List.map_append, List.nodup_append] at h2
  have := h2.2.2 _ (List.mem_map_of_mem hy) _ (List.mem_singleton.2 rfl)
  simp only [bne_iff_ne, ne_eq]
  intro e; exact this (by rw [e, ← hx])
 rw [List.filter_append, List.filter_eq_self.2 h3] at h1
 have h4 : [x].filter (fun y => y.n != n) = [] := by simp [hx]
 rw [h4, List.append_nil] at h1
 exact h1
theorem WZ (b : Nat) (its : List VIt) (ls : List Li) (now : Int) (h : ls.length = 8) (n : Int) (hN : its.length < 900) (hh : Hp.Heap its its.length) (hnd : (its.map (·.n)).Nodup) : sP W0 108 [pV b, .int .i64 n] (dL b (its, dt ls now) :: R) (fun v B => v = .tuple #[] ∧ ∃ its', B = dL b (its', dt ls now) :: R ∧ its'.Perm (its.filter fun y => y.n != n) ∧ Hp.Heap its' its'.length) := by
 by_cases h0 : its = []
 ·subst h0
  refine pQ fun a c ho => ?_
  refine ai 6 func108 ntmps108 ?_
  refine ap 5 (aA lV rfl (aN (dP ho))) ?_
  refine cY (fun _ : Unit => True) (fun _ => [(11, .int .i64 0), (12, .int .i64 0)]) (fun _ => pt b (ac ((dt ls now).set 32 (.slice a ([] : List VIt).length c)) 113) :: osl 231 3 (.slice a ([] : List VIt).length c) (([] : List VIt).flatMap fj) :: R) (fun _ => 0) () ?_ ?_
  ·trivial
  intro _ _
  refine au 6 ?_
  refine a8 rfl (fun c1 => ?_) fun c1 => ?_
  ·omega
  refine au 4 ?_
  refine bT (.inr rfl) .nil ?_
  exact ⟨_, ⟨rfl, [], rfl, List.Perm.refl _, hh⟩, l6 rfl rfl ho rfl⟩
 refine nz jw h0 (by decide) fun g c sp ho h1 h2 h3 => ?_
 refine ai 6 func108 ntmps108 ?_
 refine ap 5 (aA lV rfl (aN (dP ho))) ?_
 refine cY (fun k : Nat => k ≤ its.length ∧ ∀ j, j < k → (its.getD j default).n ≠ n) (fun k => [(0, pV b), (1, .int .i64 n), (10, .slice (some ⟨g, 0, none⟩) its.length c), (11, .int .i64 (its.length : Nat)), (12, .int .i64 k)]) (fun k => pt b (ac ((dt ls now).set 32 (.slice (some ⟨g, 0, none⟩) its.length c)) 113) :: pt g (ac (its.flatMap fj ++ sp) 231) :: R) (fun k => its.length - k) 0 ?_ ?_
 ·exact ⟨Nat.zero_le _, fun j hj => absurd hj (Nat.not_lt_zero j)⟩
 intro k ⟨hk, hj⟩
 refine au 6 ?_
 refine a8 rfl (fun c1 => ?_) fun c1 => ?_
 ·refine au 5 ?_
  have hk1 : k < its.length := by omega
  obtain ⟨x, hx⟩ : ∃ x, its.getD k default = x := ⟨_, rfl⟩
  have rx := ql its sp k hk1
  rw [hx] at rx
  refine au 2 ?_
  refine a7 rfl (bc km eH rfl rfl rfl hk1 (by first | exact Nat.zero_add _ | rfl)) ?_
  refine a7 rfl (b0 qu eH rfl (cC rx rfl) rfl) ?_
  refine ax (aS pw) fun b5 => ?_
  refine a7 rfl (bR rfl) (aE 10 (aF eH rfl rfl rfl rfl rfl) ?_)
  refine a8 rfl (fun c3 => ?_) fun c3 => ?_
  ·refine bD ?_
   refine gD (B := dL b (its, dt ls now) :: pt b5 (ac (fj x) 231) :: R) (iR jw rfl rfl ho rfl h1 h2 h3) ?_
   refine au 4 ?_
   refine a7 rfl (fY Kn (fun _ h => nomatch h) rfl) ?_
   refine a7 rfl (aH rfl) (aB rfl (ao call189 rfl (WY b its (dt ls now) k hN hk1 hh)) ?_)
   rintro _ B_ ⟨its', rfl, hB_, hp, hH⟩
   obtain rfl := hB_.symm
   refine au 7 ?_
   refine bT (.inl rfl) .nil ?_
   rw [hx] at hp
   exact ⟨_, ⟨rfl, its', rfl, HY hp (by simpa using c3) hnd, hH⟩, inferInstance⟩
  refine au 4 ?_
  refine ap 3 (cM rfl rfl) ?_
  refine bZ (k + 1) ?_
  ·refine ⟨by omega, fun j hj1 => ?_⟩
   rcases Nat.lt_or_ge j k with q | q
   ·exact hj j q
   rw [show j = k by omega, hx]; simpa using c3
 refine au 4 ?_
 refine bT (.inr rfl) .nil ?_
 obtain rfl : k = its.length := by omega
 refine ⟨_, ⟨rfl, its, rfl, ?_, hh⟩, iR jw rfl rfl ho rfl h1 h2 h3⟩
 rw [List.filter_eq_self.2 fun y hy => ?_]
 obtain ⟨j, hj1, rfl⟩ := List.mem_iff_getElem.1 hy
 have := hj j hj1
 rw [List.getD_eq_getElem?_getD, List.getElem?_eq_getElem hj1] at this
 simpa using this
theorem Cc {W0 : World} {A R : List HP} {b : Nat} {its : List VIt} {ls : List Li} {now : Int} {n : Nat} [hk : Tk dL b A (its, dt ls now) R] (hls : ls.length = 8) (hn : n < 8) : bG (aO W0 A) b (n * 4) (mM (ls.getD n default)) :=
 HW (T := 113) (E := 231) (sz := 3) (o := 32) (f := fj) (its := its) (cs := dt ls now) (R := R) (hk := hk) fun j v hv => by
  have hj : j < 4 := by
   rcases Nat.lt_or_ge j 4 with q | q
   ·exact q
   rw [List.getElem?_eq_none (by show 4 ≤ j; exact q)] at hv; cases hv
  exact ⟨by omega, (WX (by omega) hj).trans hv⟩
def oV (n : Int) (x : Li) : List VIt := if x.w && !x.m then [⟨n, x.p, x.s, x.hs⟩] else []
theorem X0 (b : Nat) (its : List VIt) (ls : List Li) (now : Int) (h : ls.length = 8) (n : Nat) (hn : n < 8) (hN : its.length < 800) (hh : Hp.Heap its its.length) (hnd : (its.map (·.n)).Nodup) : sP W0 44 [pV b, .int .i64 n] (dL b (its, dt ls now) :: R) (fun v B => v = .tuple #[] ∧ ∃ its', B = dL b (its', dt ls now) :: R ∧ its'.Perm ((its.filter fun y => y.n != (n : Int)) ++ oV n (ls.getD n default)) ∧ Hp.Heap its' its'.length) := by
 obtain ⟨x, hx⟩ : ∃ x, ls.getD n default = x := ⟨_, rfl⟩
 rw [hx]
 refine ai 4 func44 ntmps44 ?_
 refine aB rfl (ao call108 rfl (WZ b its ls now h (n : Int) (by omega) hh hnd)) ?_
 rintro _ B_ ⟨rfl, its1, hB_, hp1, hH1⟩
 obtain rfl := hB_.symm
 have hl1 : its1.length ≤ its.length := by rw [hp1.length_eq]; exact List.length_filter_le _ _
 have hline : bG (aO W0 (dL b (its1, dt ls now) :: R)) b (n * 4) (mM x) := by rw [← hx]; exact Cc h hn
 refine au 8 ?_
 refine a7 rfl (dI wN s6 rfl rfl rfl hn (by first | exact Nat.zero_add _ | rfl)) ?_
 refine a7 rfl (b0 isAgg107 s6 rfl hline rfl) ?_
 refine ax (aS zeroValue107) fun bl => ?_
 refine aE 7 (aF s6 rfl rfl rfl rfl rfl) ?_
 refine cp rfl rfl rfl (fun g2_3 => ?_) fun g2_3 => ?_
 ·refine au 8 ?_
  refine a8 rfl (fun c2 => ?_) fun c2 => ?_
  ·refine aU [(bl, 0, _)] 12 aT rfl (aa ag) (fun hS => ?_)
   refine ah 0 3 hS ?_
   refine av 3 rfl rfl rfl hS (fY Kn (fun _ h => nomatch h) rfl) ?_
   refine ah 4 5 hS ?_
   refine av 9 rfl rfl rfl hS (bq wn pw (am aj (am aj (am aj bj))) (aI rfl aj rfl rfl (Nat.le_of_ble_eq_true rfl) SetL.eq (aI rfl aj rfl rfl (Nat.le_of_ble_eq_true rfl) SetL.eq (aI rfl aj rfl rfl (Nat.le_of_ble_eq_true rfl) SetL.eq bi)))) ?_
   refine av 10 rfl rfl rfl hS (fY wn (fun _ h => nomatch h) rfl) ?_
   refine bS 11 (by kernel_rfl) rfl rfl (ao zB rfl (WU b its1 ⟨n, x.p, x.s, x.hs⟩ (dt ls now) (by omega) hH1)) rfl ?_; clear hS
   rintro _ B_ ⟨rfl, its2, hB_, hp2, hH2⟩
   obtain rfl := hB_.symm
   refine ⟨(aa ag), fun hS => ?_⟩
   refine aK ?_
   refine bT (.inr rfl) .nil ?_
   refine ⟨_, ⟨rfl, its2, rfl, ?_, hH2⟩, inferInstance⟩
   rw [oV, if_pos (by simp_all)]
   exact hp2.trans (hp1.append_right _)
  refine iF (bT (.inr rfl) .nil ?_)
  refine ⟨_, ⟨rfl, its1, rfl, ?_, hH1⟩, inferInstance⟩
  rw [oV, if_neg (by simp_all), List.append_nil]
  exact hp1
 refine au 7 ?_
 refine bT (.inr rfl) .nil ?_
 refine ⟨_, ⟨rfl, its1, rfl, ?_, hH1⟩, inferInstance⟩
 rw [oV, if_neg (by simp_all), List.append_nil]
 exact hp1
theorem X9 {ls : List Li} {now x : Int} {v : Value} (h : ls.length = 8) : ((dt ls now).set 32 v).set 33 (.int .i64 x) = (dt ls x).set 32 v := by
 have e : (ls.flatMap mM).length = 32 := by rw [cz qn, h]
 have g : ∀ y : Int, (dt ls y).set 32 v = ls.flatMap mM ++ [v, .int .i64 y, .bool true] := fun y => by
  rw [dt, List.set_append_right _ _ (by rw [e]; exact Nat.le_refl _), e]; rfl
 rw [g, g, List.set_append_right _ _ (by rw [e]; decide), e]; rfl
theorem Cd {ls : List Li} {now : Int} {v u : Value} {n j : Nat} {y : Li} (h : ls.length = 8) (hn : n < 8) (hj : j < 4) (hy : mM y = (mM (ls.getD n default)).set j u) : ((dt ls now).set 32 v).set (n * 4 + j) u = (dt (ls.set n y) now).set 32 v := by
 rw [List.set_comm _ _ (by omega : (32 : Nat) ≠ n * 4 + j)]
 rw [dt, ni qn ls n j u y _ (by omega) hj (by rw [hy]; simp [List.getD, show n < ls.length by omega])]
 rfl
theorem Ce {W0 : World} {A R : List HP} {b : Nat} {ls : List Li} {now : Int} {v : Value} [hk : Tk pt b A (ac ((dt ls now).set 32 v) 113) R] (h : ls.length = 8) : bG (aO W0 A) b 33 [.int .i64 now] := fun j u hj => by
 match j, hj with
 | 0, hj =>
  rw [← Option.some.inj hj]
  exact aN (by rw [List.getElem?_set_ne (by decide)]; exact HV h)
 | j + 1, hj => cases hj
theorem Xa (b : Nat) (its : List VIt) (ls : List Li) (now : Int) (h : ls.length = 8) (n : Nat) (hn : n < 8) (hN : its.length < 800) (hh : Hp.Heap its its.length) (hnd : (its.map (·.n)).Nodup) (hw : (ls.getD n default).w = false) (hb : 0 ≤ now + 1 ∧ now + 1 < 10000000000000000000) (hb2 : 0 ≤ now ∧ now < 4611686018427387904) : sP W0 14 [pV b, .int .i64 n] (dL b (its, dt ls now) :: R) (fun v B => v = .int .i64 0 ∧ ∃ its', B = dL b (its', dt (ls.set n ⟨true, (ls.getD n default).m, (ls.getD n default).p, now + 1, hb⟩) (now + 1)) :: R ∧ its'.Perm ((its.filter fun y => y.n != (n : Int)) ++ oV n ⟨true, (ls.getD n default).m, (ls.getD n default).p, now + 1, hb⟩) ∧ Hp.Heap its' its'.length) := by
 obtain ⟨x, hx⟩ : ∃ x, ls.getD n default = x := ⟨_, rfl⟩
 have hnl : n < ls.length := by omega
 have hin : jc (n : Int) = true := by simp only [jc, decide_eq_true_eq]; omega
 rw [hx] at hw ⊢
 refine ai 10 Ko ntmps14 ?_
 refine aM (ao Kp rfl (Cb b its ls now h (n : Int))) ?_
 rw [if_pos hin]
 have hline : bG (aO W0 (dL b (its, dt ls now) :: R)) b (n * 4) (mM x) := by rw [← hx]; exact Cc h hn
 refine au 9 ?_
 refine a8 rfl (fun c2 => ?_) fun c2 => ?_
 ·exact absurd c2 (by decide)
 refine au 9 ?_
 refine a7 rfl (dI wN s6 rfl rfl rfl hn (by first | exact Nat.zero_add _ | rfl)) ?_
 refine a7 rfl (jV Jm bI) ?_
 refine ap 3 (aA gz rfl (hline 0 _ rfl)) ?_
 refine a8 rfl (fun c4 => ?_) fun c4 => ?_
 ·refine bD ?_
  refine ve (b := b) (T := 113) (E := 231) (sz := 3) (f := fj) (o := 32) fun a c ho => ?_
  refine au 4 ?_
  refine a7 rfl (aA aX rfl (aN (by rw [List.getElem?_set_ne (by decide)]; exact HV h))) ?_
  refine ap 2 (bO rfl rfl (aG (by omega))) ?_
  refine aE 3 (bA aj rfl rfl rfl (by rw [List.length_set, tX h]; decide) (X9 h)) ?_
  refine aU [(b, 33, [.int .i64 (now + 1)])] 18 aT rfl (cR (Ce (by simp [h])) ag) (fun hS => ?_)
  refine ah 0 7 hS ?_
  refine av 7 rfl rfl rfl hS (aA aX rfl (A8 (k := 0) rfl)) ?_
  refine ah 8 2 hS ?_
  refine av 10 rfl rfl rfl hS (dI wN s6 rfl rfl rfl hn (by first | exact Nat.zero_add _ | rfl)) ?_
  refine ah 11 1 hS ?_
  refine ah 13 2 hS ?_
  refine bU 12 rfl rfl (bA bI rfl rfl rfl (by rw [List.length_set, tX h]; omega) (Cd (y := ⟨true, x.m, x.p, x.s, x.hs⟩) h hn (by decide) (by rw [hx]; rfl))) (cR (Ce (by simp [h])) ag) fun hS => ?_
  refine av 15 rfl rfl rfl hS (dI wN s6 rfl rfl rfl hn (by first | exact Nat.zero_add _ | rfl)) ?_
  refine ah 16 1 hS ?_
  refine bU 17 rfl rfl (bA aj rfl rfl rfl (by rw [List.length_set, tX (by simp [h])]; omega) (Cd (y := ⟨true, x.m, x.p, now + 1, hb⟩) (by simp [h]) hn (by decide) (by simp [List.getD, hnl]))) (cR (Ce (by simp [h])) ag) fun hS => ?_
  refine aK ?_
  refine aY ?_
  rw [List.set_set]
  refine gD (B := dL b (its, dt (ls.set n ⟨true, x.m, x.p, now + 1, hb⟩) (now + 1)) :: R) (l6 rfl rfl (by rw [tX (by simp [h])]; decide) rfl) ?_
  refine au 3 ?_
  refine aB rfl (ao call44 rfl (X0 b its (ls.set n ⟨true, x.m, x.p, now + 1, hb⟩) (now + 1) (by simp [h]) n hn hN hh hnd)) ?_
  rintro _ B_ ⟨rfl, its', hB_, hp, hH⟩
  obtain rfl := hB_.symm
  rw [show (ls.set n ⟨true, x.m, x.p, now + 1, hb⟩).getD n default = ⟨true, x.m, x.p, now + 1, hb⟩ by simp [List.getD, hnl]] at hp
  refine au 8 ?_
  refine ae ?_
  exact ⟨_, ⟨rfl, its', rfl, hp, hH⟩, inferInstance⟩
 exact absurd (by rw [hw]; decide) c4
theorem Xb (b : Nat) (its : List VIt) (ls : List Li) (now : Int) (h : ls.length = 8) (n : Nat) (hn : n < 8) (hw : (ls.getD n default).w = true) : sQ W0 14 [pV b, .int .i64 n] (dL b (its, dt ls now) :: R) (.int .i64 0) (dL b (its, dt ls now) :: R) := by
 obtain ⟨x, hx⟩ : ∃ x, ls.getD n default = x := ⟨_, rfl⟩
 have hin : jc (n : Int) = true := by simp only [jc, decide_eq_true_eq]; omega
 rw [hx] at hw
 refine ai 10 Ko ntmps14 ?_
 refine aM (ao Kp rfl (Cb b its ls now h (n : Int))) ?_
 rw [if_pos hin]
 have hline : bG (aO W0 (dL b (its, dt ls now) :: R)) b (n * 4) (mM x) := by rw [← hx]; exact Cc h hn
 refine au 9 ?_
 refine a8 rfl (fun c2 => ?_) fun c2 => ?_
 ·exact absurd c2 (by decide)
 refine au 9 ?_
 refine a7 rfl (dI wN s6 rfl rfl rfl hn (by first | exact Nat.zero_add _ | rfl)) ?_
 refine a7 rfl (jV Jm bI) ?_
 refine ap 3 (aA gz rfl (hline 0 _ rfl)) ?_
 refine a8 rfl (fun c4 => ?_) fun c4 => ?_
 ·exact absurd c4 (by rw [hw]; decide)
 refine au 8 ?_
 exact ae aL
theorem Xc (b : Nat) (its : List VIt) (ls : List Li) (now : Int) (h : ls.length = 8) (n : Int) (hn : jc n = false) : sQ W0 14 [pV b, .int .i64 n] (dL b (its, dt ls now) :: R) (.int .i64 1) (dL b (its, dt ls now) :: R) := by
 refine ai 10 Ko ntmps14 ?_
 refine aM (ao Kp rfl (Cb b its ls now h n)) ?_
 rw [if_neg (by rw [hn]; decide)]
 refine au 9 ?_
 refine a8 rfl (fun c2 => ?_) fun c2 => ?_
 ·refine au 8 ?_
  exact ae aL
 exact absurd (by decide) c2
end
section
def iV (ls : List Li) (n : Nat) : Bool := (ls.getD n default).w && !(ls.getD n default).m
def mN (ls : List Li) (n : Nat) : VIt := ⟨n, (ls.getD n default).p, (ls.getD n default).s, (ls.getD n default).hs⟩
def jL (ls : List Li) : List VIt := ((List.range 8).filter (iV ls)).map (mN ls)
theorem Xd (ls : List Li) (n : Nat) : oV (n : Int) (ls.getD n default) = if iV ls n then [mN ls n] else [] := rfl
theorem Cf {ls : List Li} {y : VIt} : y ∈ jL ls ↔ ∃ n, n < 8 ∧ iV ls n = true ∧ mN ls n = y := by
 simp only [jL, List.mem_map, List.mem_filter, List.mem_range]
 exact ⟨fun ⟨n, ⟨h1, h2⟩, h3⟩ => ⟨n, h1, h2, h3⟩, fun ⟨n, h1, h2, h3⟩ => ⟨n, ⟨h1, h2⟩, h3⟩⟩
theorem HZ (ls : List Li) : (jL ls).length ≤ 8 := by
 rw [jL, List.length_map]
 exact Nat.le_trans (List.length_filter_le _ _) (by simp)
theorem I0 {α β : Type} {f : α → β} (hf : ∀ a b, f a = f b → a = b) : ∀ {l : List α}, l.Nodup → (l.map f).Nodup
 | [], _ => List.nodup_nil
 | a :: l, h => by
  rw [List.nodup_cons] at h
  rw [List.map_cons, List.nodup_cons]
  refine ⟨fun hm => ?_, I0 hf h.2⟩
  obtain ⟨b, hb, e⟩ := List.mem_map.1 hm
  exact h.1 (hf _ _ e ▸ hb)
theorem Xe (ls : List Li) : ((jL ls).map (·.n)).Nodup := by
 rw [jL, List.map_map]
 refine I0 (fun a b e => ?_) (List.nodup_range.sublist List.filter_sublist)
 have : ((a : Nat) : Int) = ((b : Nat) : Int) := e
 omega
theorem Xf (n : Nat) (hn : n < 8) : (List.range 8).Perm ((List.range 8).filter (· != n) ++ [n]) := by
 refine (List.perm_ext_iff_of_nodup List.nodup_range ?_).2 fun a => ?_
 ·rw [List.nodup_append]
  refine ⟨List.nodup_range.sublist List.filter_sublist, by simp, fun a ha b hb e => ?_⟩
  rw [List.mem_singleton] at hb
  have := (List.mem_filter.1 ha).2
  subst hb; subst e
  simp at this
 simp only [List.mem_append, List.mem_filter, List.mem_range, List.mem_singleton, bne_iff_ne, ne_eq]
 omega
theorem Xg (ls : List Li) (n : Nat) : ((jL ls).filter fun y => y.n != (n : Int)) = (((List.range 8).filter (· != n)).filter (iV ls)).map (mN ls) := by
 rw [jL, List.filter_map, List.filter_filter, List.filter_filter]
 congr 1
 apply List.filter_congr
 intro a _
 have : ((fun y : VIt => y.n != (n : Int)) ∘ mN ls) a = (a != n) := by
  show (((a : Nat) : Int) != ((n : Nat) : Int)) = (a != n)
  rw [Bool.eq_iff_iff, bne_iff_ne, bne_iff_ne]
  omega
 rw [this, Bool.and_comm]
theorem vP {α : Type} [Inhabited α] {l : List α} {n k : Nat} {x : α} (h : k ≠ n) : (l.set n x).getD k default = l.getD k default := by
 simp only [List.getD_eq_getElem?_getD]
 rw [List.getElem?_set_ne (fun e => h e.symm)]
theorem yO {α : Type} [Inhabited α] {l : List α} {n : Nat} {x : α} (h : n < l.length) : (l.set n x).getD n default = x := by
 simp [List.getD, h]
theorem Xh {ls ls' : List Li} {n : Nat} (h : ∀ k, k ≠ n → ls'.getD k default = ls.getD k default) : (((List.range 8).filter (· != n)).filter (iV ls')).map (mN ls') = (((List.range 8).filter (· != n)).filter (iV ls)).map (mN ls) := by
 have e : ((List.range 8).filter (· != n)).filter (iV ls') = ((List.range 8).filter (· != n)).filter (iV ls) := by
  apply List.filter_congr
  intro a ha
  have : a ≠ n := by simpa using (List.mem_filter.1 ha).2
  unfold iV; rw [h a this]
 rw [e]
 apply List.map_congr_left
 intro a ha
 have : a ≠ n := by simpa using (List.mem_filter.1 (List.mem_filter.1 ha).1).2
 unfold mN; congr 1 <;> rw [h a this]
theorem I1 {ls : List Li} {n : Nat} {x : Li} (hn : n < 8) (hl : ls.length = 8) : (((jL ls).filter fun y => y.n != (n : Int)) ++ oV n x).Perm (jL (ls.set n x)) := by
 have e := (((Xf n hn).filter (iV (ls.set n x))).map (mN (ls.set n x))).symm
 rw [List.filter_append, List.map_append, Xh (fun k hk => vP hk), ← Xg] at e
 have hx : (([n] : List Nat).filter (iV (ls.set n x))).map (mN (ls.set n x)) = oV n x := by
  have := Xd (ls.set n x) n
  rw [yO (by omega)] at this
  rw [this, List.filter_cons, List.filter_nil]
  split <;> rfl
 rw [hx] at e
 exact e
def oW (ls : List Li) (n : Nat) : Int := (ls.getD n default).s - (ls.getD n default).p * 100000000000000000000
def rP (ls : List Li) (n : Nat) : Bool := iV ls n && (List.range 8).all fun k => !iV ls k || decide (oW ls n ≤ oW ls k)
def jx (ls : List Li) : Option Nat := (List.range 8).find? (rP ls)
structure VOk (ls : List Li) (now : Int) : Prop where
  len : ls.length = 8
  nn : 0 ≤ now
  le : ∀ n, n < 8 → (ls.getD n default).s ≤ now
  ne : ∀ n m, n < 8 → m < 8 → n ≠ m → (ls.getD n default).w = true → (ls.getD m default).w = true → (ls.getD n default).s ≠ (ls.getD m default).s
theorem Xi {ls : List Li} {now : Int} (h : VOk ls now) {n m : Nat} (hn : n < 8) (hm : m < 8) (h1 : iV ls n = true) (h2 : iV ls m = true) (e : oW ls n = oW ls m) : n = m := by
 rcases Nat.decEq n m with q | q
 ·have a1 := (ls.getD n default).hs
  have a2 := (ls.getD m default).hs
  simp only [iV, Bool.and_eq_true] at h1 h2
  have := h.ne n m hn hm q h1.1 h2.1
  unfold oW at e
  omega
 exact q
theorem Xj {ls : List Li} {now : Int} (h : VOk ls now) (hr : jL ls = []) : jx ls = none := by
 unfold jx
 rw [List.find?_eq_none]
 intro n hn hf
 simp only [rP, Bool.and_eq_true] at hf
 have : mN ls n ∈ jL ls := Cf.2 ⟨n, by simpa using hn, hf.1, rfl⟩
 rw [hr] at this
 cases this
theorem Xk {ls : List Li} {now : Int} (h : VOk ls now) {n : Nat} (hn : n < 8) (hu : iV ls n = true) (hm : ∀ k, k < 8 → iV ls k = true → oW ls n ≤ oW ls k) : jx ls = some n := by
 have hf : rP ls n = true := by
  simp only [rP, Bool.and_eq_true, List.all_eq_true]
  refine ⟨hu, fun k hk => ?_⟩
  cases q : iV ls k with
  | false => rfl
  | true => simpa using hm k (by simpa using hk) q
 unfold jx
 cases q : (List.range 8).find? (rP ls) with
 | none =>
  rw [List.find?_eq_none] at q
  exact absurd hf (q n (by simpa using hn))
 | some m =>
  have h1 := List.find?_some q
  have h2 : m < 8 := by simpa using List.mem_of_find?_eq_some q
  simp only [rP, Bool.and_eq_true, List.all_eq_true] at h1
  have h3 : oW ls m ≤ oW ls n := by
   have := h1.2 n (by simpa using hn)
   simpa [hu] using this
  rw [Xi h hn h2 hu h1.1 (Int.le_antisymm (hm m h2 h1.1) h3)]
theorem yP {ls : List Li} {n : Nat} (h : jx ls = some n) : n < 8 ∧ iV ls n = true := by
 unfold jx at h
 have h1 := List.find?_some h
 simp only [rP, Bool.and_eq_true] at h1
 exact ⟨by simpa using List.mem_of_find?_eq_some h, h1.1⟩
def mP (ls : List Li) (now : Int) (n : Nat) : List Li := if h : (ls.getD n default).w = false ∧ 0 ≤ now + 1 ∧ now + 1 < 10000000000000000000 then ls.set n ⟨true, (ls.getD n default).m, (ls.getD n default).p, now + 1, h.2⟩ else ls
def kh (ls : List Li) (now : Int) (n : Nat) : Int := if (ls.getD n default).w = false then now + 1 else now
def tY (ls : List Li) (n : Nat) : List Li := ls.set n ⟨false, (ls.getD n default).m, (ls.getD n default).p, (ls.getD n default).s, (ls.getD n default).hs⟩
theorem VOk.set {ls : List Li} {now now' : Int} {n : Nat} {x : Li} (h : VOk ls now) (h1 : now ≤ now') (h2 : x.s ≤ now') (h3 : x.w = true → now < x.s ∨ (ls.getD n default).w = true ∧ x.s = (ls.getD n default).s) : VOk (ls.set n x) now' := by
 refine ⟨by rw [List.length_set, h.len], by have := h.nn; omega, fun k hk => ?_, fun a b ha hb hab hwa hwb => ?_⟩
 ·by_cases q : k = n
  ·subst q; rw [yO (by rw [h.len]; exact hk)]; exact h2
  rw [vP q]; have := h.le k hk; omega
 by_cases qa : a = n
 ·have qb : b ≠ n := fun e => hab (qa.trans e.symm)
  subst qa
  rw [yO (by rw [h.len]; exact ha)] at hwa ⊢
  rw [vP qb] at hwb ⊢
  rcases h3 hwa with q | ⟨q1, q2⟩
  ·have := h.le b hb; omega
  rw [q2]; exact h.ne a b ha hb hab q1 hwb
 rw [vP qa] at hwa ⊢
 by_cases qb : b = n
 ·subst qb
  rw [yO (by rw [h.len]; exact hb)] at hwb ⊢
  rcases h3 hwb with q | ⟨q1, q2⟩
  ·have := h.le a ha; omega
  rw [q2]; exact h.ne a b ha hb hab hwa q1
 rw [vP qb] at hwb ⊢
 exact h.ne a b ha hb hab hwa hwb
theorem VOk.raise {ls : List Li} {now : Int} {n : Nat} (h : VOk ls now) : VOk (mP ls now n) (kh ls now n) := by
 unfold mP kh
 split
 ·rename_i q
  rw [if_pos q.1]
  exact h.set (by omega) (Int.le_refl _) fun _ => .inl (by show now < now + 1; omega)
 split
 ·exact ⟨h.len, by have := h.nn; omega, fun k hk => by have := h.le k hk; omega, h.ne⟩
 exact h
theorem VOk.take {ls : List Li} {now : Int} {n : Nat} (h : VOk ls now) (hn : n < 8) : VOk (tY ls n) now := h.set (Int.le_refl _) (h.le n hn) fun e => by cases e
end
section
open Go.RowKit
def lq (b : Nat) (x : List Li × Int) : HP := chk (fun C => ∃ its : List VIt, its.Perm (jL x.1) ∧ Hp.Heap its its.length ∧ VOk x.1 x.2 ∧ C = [dL b (its, dt x.1 x.2)])
section
variable {P : Program} {W0 : World} {N : FSz} {K : Act → World → Prop} {e : aW} {A R B : List HP} {b : Nat} {ls : List Li} {now : Int} {f : FuncId} {args : List Value} {Post : Value → List HP → Prop}
theorem I2 (h : ∀ its : List VIt, its.Perm (jL ls) → Hp.Heap its its.length → VOk ls now → bN P W0 f args (dL b (its, dt ls now) :: R) Post) : bN P W0 f args (lq b (ls, now) :: R) Post :=
 qM fun C hC => by obtain ⟨its, h1, h2, h3, rfl⟩ := hC; exact h its h1 h2 h3
theorem vQ {its : List VIt} [h : Tk dL b A (its, dt ls now) R] (h1 : its.Perm (jL ls)) (h2 : Hp.Heap its its.length) (h3 : VOk ls now) [k : Ent R B] : Ent A (lq b (ls, now) :: B) :=
 (Ent.ofPerm h.perm).trans ((Ent.cons k).trans (fC (R := B) (C := [_]) ⟨its, h1, h2, h3, rfl⟩))
theorem Xl : Ent (pt b (ac ((dt (List.replicate 8 default) 0).set 32 gK) 113) :: R) (lq b (List.replicate 8 default, 0) :: R) := by
 have e : Ent (pt b (ac ((dt (List.replicate 8 default) 0).set 32 gK) 113) :: R) (dL b ([], dt (List.replicate 8 default) 0) :: R) :=
  (Ent.cons (fR (E := 231) (sz := 3) (A := R) (B := R))).trans (fC (R := R) (C := [_, _]) ⟨by decide, none, 0, rfl⟩)
 refine e.trans (fC (R := R) (C := [_]) ⟨[], ?_, fun c hc => absurd hc (Nat.not_lt_zero c), ?_, rfl⟩)
 ·exact List.Perm.refl _
 refine ⟨rfl, Int.le_refl _, fun n hn => ?_, fun n m hn hm _ h => ?_⟩
 ·have : n = 0 ∨ n = 1 ∨ n = 2 ∨ n = 3 ∨ n = 4 ∨ n = 5 ∨ n = 6 ∨ n = 7 := by omega
  rcases this with rfl | rfl | rfl | rfl | rfl | rfl | rfl | rfl <;> decide
 have : n = 0 ∨ n = 1 ∨ n = 2 ∨ n = 3 ∨ n = 4 ∨ n = 5 ∨ n = 6 ∨ n = 7 := by omega
 rcases this with rfl | rfl | rfl | rfl | rfl | rfl | rfl | rfl <;> exact absurd h (by decide)
end
theorem Xm {n : Int} (h : jc n = true) : ∃ k : Nat, n = (k : Int) ∧ k < 8 := by
 have := of_decide_eq_true h
 exact ⟨n.toNat, by omega, by omega⟩
theorem I3 {its : List VIt} {ls : List Li} (h : its.Perm (jL ls)) : (its.map (·.n)).Nodup := (h.map (·.n)).symm.nodup (Xe ls)
theorem I4 (b : Nat) (ls : List Li) (now : Int) (n : Int) (hb : now < 4000000000000000000) : sQ W0 14 [pV b, .int .i64 n] (lq b (ls, now) :: R) (.int .i64 (if jc n then 0 else 1)) (lq b (if jc n then mP ls now n.toNat else ls, if jc n then kh ls now n.toNat else now) :: R) := by
 refine I2 fun its h1 h2 h3 => ?_
 have hN : its.length ≤ 8 := by rw [h1.length_eq]; exact HZ ls
 have h0 := h3.nn
 by_cases hn : jc n = true
 ·obtain ⟨k, rfl, hk⟩ := Xm hn
  rw [if_pos hn, if_pos hn, if_pos hn, Int.toNat_natCast]
  by_cases hw : (ls.getD k default).w = true
  ·refine hJ (Xb b its ls now h3.len k hk hw) fun v B hB => ?_
   obtain ⟨rfl, rfl⟩ := hB
   have e1 : mP ls now k = ls := by rw [mP, dif_neg (by rw [hw]; simp)]
   have e2 : kh ls now k = now := by rw [kh, if_neg (by rw [hw]; decide)]
   rw [e1, e2]
   exact ⟨_, ⟨rfl, rfl⟩, vQ h1 h2 h3⟩
  have hw2 : (ls.getD k default).w = false := by simpa using hw
  have hs : 0 ≤ now + 1 ∧ now + 1 < 10000000000000000000 := by omega
  have hR := h3.raise (n := k)
  refine hJ (Xa b its ls now h3.len k hk (by omega) h2 (I3 h1) hw2 hs (by omega)) fun v B hB => ?_
  obtain ⟨rfl, its', rfl, hp, hH⟩ := hB
  have e1 : mP ls now k = ls.set k ⟨true, (ls.getD k default).m, (ls.getD k default).p, now + 1, hs⟩ := by rw [mP, dif_pos ⟨hw2, hs⟩]
  have e2 : kh ls now k = now + 1 := by rw [kh, if_pos hw2]
  rw [e1, e2] at hR
  rw [e1, e2]
  refine ⟨_, ⟨rfl, rfl⟩, vQ (hp.trans ?_) hH hR⟩
  exact ((h1.filter _).append_right _).trans (I1 hk h3.len)
 rw [if_neg hn, if_neg hn, if_neg hn]
 refine hJ (Xc b its ls now h3.len n (by simpa using hn)) fun v B hB => ?_
 obtain ⟨rfl, rfl⟩ := hB
 exact ⟨_, ⟨rfl, rfl⟩, vQ h1 h2 h3⟩
def mQ (ls : List Li) : List Li := match jx ls with | some n => tY ls n | none => ls
theorem Xn {ls : List Li} {now : Int} (h : VOk ls now) : VOk (mQ ls) now := by
 unfold mQ
 cases q : jx ls with
 | none => exact h
 | some n => exact h.take (yP q).1
theorem Xo (b : Nat) (ls : List Li) (now : Int) : sQ W0 140 [pV b] (lq b (ls, now) :: R) (.tuple #[.int .i64 (((jx ls).getD 0 : Nat) : Int), .bool (jx ls).isSome]) (lq b (mQ ls, now) :: R) := by
 refine I2 fun its h1 h2 h3 => ?_
 have hN : its.length ≤ 8 := by rw [h1.length_eq]; exact HZ ls
 have hT := Xn h3
 refine ai 10 func140 ntmps140 ?_
 refine aM (ao call107 rfl (HX b its ls now h3.len)) ?_
 refine a7 rfl (aH rfl) ?_
 refine bB rfl rfl rfl (fun g1_3 => ?_) fun g1_3 => ?_
 ·first | exact absurd g1_3 (by decide) | cases g1_3
 refine au 6 ?_
 refine ar 5 (ao call210 rfl (HU b its (dt ls now))) ?_
 refine a8 rfl (fun c1 => ?_) fun c1 => ?_
 ·refine au 8 ?_
  refine aJ ?_
  have h0 : its = [] := List.length_eq_zero_iff.1 (by omega)
  have hb : jx ls = none := Xj h3 (by rw [h0] at h1; exact h1.nil_eq.symm)
  have ht : mQ ls = ls := by unfold mQ; rw [hb]
  rw [hb, ht]
  exact ⟨_, ⟨rfl, rfl⟩, vQ h1 h2 h3⟩
 refine au 7 ?_
 refine a7 rfl (fY Kn (fun _ h => nomatch h) rfl) ?_
 refine aB rfl (ao zC rfl (WV b its (dt ls now) (by omega) (fun e => by subst e; exact c1 rfl) h2)) ?_
 rintro _ B_ ⟨x, its', rfl, hB_, hp, hH, hmin⟩
 obtain rfl := hB_.symm
 obtain ⟨n, hn, hu, rfl⟩ := Cf.1 ((hp.trans h1).mem_iff.1 (show x ∈ its' ++ [x] by simp))
 have hbest : jx ls = some n := Xk h3 hn hu fun k hk hku => hmin _ (h1.mem_iff.2 (Cf.2 ⟨k, hk, hku, rfl⟩))
 have ht : mQ ls = tY ls n := by unfold mQ; rw [hbest]
 rw [ht] at hT
 have hperm : its'.Perm (jL (tY ls n)) := by
  have e1 := (HY hp (n := (n : Int)) rfl (I3 h1)).trans (h1.filter _)
  have e2 := I1 (x := ⟨false, (ls.getD n default).m, (ls.getD n default).p, (ls.getD n default).s, (ls.getD n default).hs⟩) hn h3.len
  rw [show oV (n : Int) ⟨false, (ls.getD n default).m, (ls.getD n default).p, (ls.getD n default).s, (ls.getD n default).hs⟩ = [] from rfl, List.append_nil] at e2
  exact e1.trans e2
 refine a7 rfl (pE wn (fun _ h => nomatch h) rfl) ?_
 refine ax (aS pw) fun b4 => ?_
 refine aE 3 (aF eH rfl rfl rfl rfl rfl) ?_
 refine ve (b := b) (T := 113) (E := 231) (sz := 3) (f := fj) (o := 32) fun a c ho => ?_
 refine aU [(b4, 0, _)] 8 aT rfl (aa ag) (fun hS => ?_)
 refine ah 0 5 hS ?_
 refine av 5 rfl rfl rfl hS (dI wN s6 rfl rfl rfl hn (by first | exact Nat.zero_add _ | rfl)) ?_
 refine ah 6 1 hS ?_
 refine bU 7 rfl rfl (bA bI rfl rfl rfl (by rw [List.length_set, tX h3.len]; omega) (Cd (j := 0) (y := ⟨false, (ls.getD n default).m, (ls.getD n default).p, (ls.getD n default).s, (ls.getD n default).hs⟩) h3.len hn (by decide) rfl)) (aa ag) fun hS => ?_
 refine aK ?_
 refine au 10 ?_
 refine aJ ?_
 rw [hbest, ht]
 refine ⟨_, ⟨rfl, rfl⟩, ?_⟩
 refine Ent.trans (B := dL b (its', dt (tY ls n) now) :: R) (l6 rfl rfl (by rw [tX (by simp [tY, h3.len])]; decide) rfl) ?_
 exact vQ hperm hH hT
end
end Go.Proofs.YtedopnjjkddhaaaGreatDoor
