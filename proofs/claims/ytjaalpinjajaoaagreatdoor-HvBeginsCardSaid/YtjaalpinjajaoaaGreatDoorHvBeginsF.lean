/-
  Part 6 of the proof of HvBegins: rules, and walks of functions. Conditions: none.
-/
import Derived.Test.YtjaalpinjajaoaaGreatDoorHvBeginsE
namespace Go.Proofs.YtjaalpinjajaoaaGreatDoor
open Go.Proofs.Tryz
set_option linter.unusedSimpArgs false
set_option linter.unusedVariables false
set_option maxRecDepth 20000
set_option linter.defProp false
set_option synthInstance.maxSize 8192
set_option synthInstance.maxHeartbeats 2000000
variable {W0 : World} {R : List HP}
section
open Go.RowKit
set_option linter.unusedSimpArgs false
set_option linter.unusedVariables false
set_option maxRecDepth 20000
set_option synthInstance.maxSize 1000
set_option synthInstance.maxHeartbeats 400000
theorem a39 (k : Int) : sQ W0 49 [iQ k] R (.bool (nT k)) R := by
 refine ac func49 ntmps49 ?_
 refine cA (fun g1_3 => ?_) fun g1_3 => ?_
 refine aa ?_
 refine ⟨_, ⟨Qak Value.bool ?_, rfl⟩, IO⟩
 rw [nT, Qag]
 simp only [Qaq, Qau, Qbq]
 omega
 refine aa ?_
 refine ⟨_, ⟨Qak Value.bool ?_, rfl⟩, IO⟩
 rw [nT, Qag]
 simp only [Qaq, Qau, Qbq]
 omega
section
variable (W0 : World) (R : List HP) (b n : Nat) (I : List (List It6)) (hn : n ≤ 4)
include hn
omit hn in
theorem a4a (g : Int) (hg : ¬ (0 ≤ g ∧ g < n)) : sQ W0 48 [pV b, iQ g] (fN b (n, I) :: R) (.pointer none) (fN b (n, I) :: R) := by
 refine nY fun C hC => ?_
 obtain ⟨rs, h4, hR, rfl⟩ := hC
 simp only [Qar, Qan]
 refine ac func48 ntmps48 ?_
 refine cP rfl rfl rfl (fun g1_3 => ?_) fun g1_3 => ?_
 cases g1_3
 refine aw ?_
 refine eR (fun g1_7 => ?_) fun g1_7 => ?_
 refine aa ?_
 exact ⟨_, ⟨rfl, rfl⟩, dQ (R := R) (C := [_, _]) ⟨rs, h4, hR, rfl⟩⟩
 refine aA rfl (fun c1 => ?_) fun c1 => ?_
 refine au 7 ?_
 refine aa ?_
 exact ⟨_, ⟨rfl, rfl⟩, dQ (R := R) (C := [_, _]) ⟨rs, h4, hR, rfl⟩⟩
 omega
theorem Kq (g : Nat) (hg : g < n) : sQ W0 48 [pV b, iQ g] (fN b (n, I) :: R) (oT g b) (fN b (n, I) :: R) := by
 refine nY fun C hC => ?_
 obtain ⟨rs, h4, hR, rfl⟩ := hC
 simp only [Qar, Qan]
 refine ac func48 ntmps48 ?_
 refine cP rfl rfl rfl (fun g1_3 => ?_) fun g1_3 => ?_
 cases g1_3
 refine aw ?_
 refine cP rfl rfl rfl (fun g1_7 => ?_) fun g1_7 => ?_
 omega
 refine aw ?_
 refine aA rfl (fun c1 => ?_) fun c1 => ?_
 omega
 refine aw ?_
 refine a7 (gK (show g < 4 by omega)) ?_
 refine aa ?_
 rw [show g * 1 = g by omega]
 exact ⟨_, ⟨rfl, rfl⟩, dQ (R := R) (C := [_, _]) ⟨rs, h4, hR, rfl⟩⟩
def vg (b n : Nat) (g : Int) : Option Addr := if 0 ≤ g ∧ g < n then some ⟨b, g.toNat, none⟩ else none
theorem a4b (g : Int) : sQ W0 48 [pV b, iQ g] (fN b (n, I) :: R) (.pointer (vg b n g)) (fN b (n, I) :: R) := by
 unfold vg
 by_cases h : 0 ≤ g ∧ g < n
 rw [Qae h]
 obtain ⟨k, rfl⟩ : ∃ k : Nat, g = k := ⟨g.toNat, by omega⟩
 exact Kq W0 R b n I hn k (by omega)
 rw [Qab h]
 exact a4a W0 R b n I g h
end
theorem a4c (o b m c : Nat) (a : Option Addr) (cs : List Value) (ho : o < cs.length) : sQ W0 116 [oT o b] (pt b (a8 (cs.set o (.slice a m c)) 120) :: R) (iQ (m : Nat)) (pt b (a8 (cs.set o (.slice a m c)) 120) :: R) := by
 refine ac func116 ntmps116 ?_
 refine a7 (aH (aE (d8 ho))) ?_
 exact aa ai
theorem a4d (n : Nat) (h1 : 1 ≤ n) (hn : n ≤ 4) (s : Scr) (hs : ScrOk W0 s) (hl : s.nl.length ≤ 256) : sP W0 19 [iQ n, .slice s.na s.nl.length s.nc] R (fun v B => ∃ ib, v = .tuple #[pV ib, iQ 0] ∧ B = fN ib (n, iJ n (iu s)) :: R) := by
 have hsl : (iu s).length = s.nl.length := by simp
 refine ac func19 ntmps19 ?_
 refine aA rfl (fun c1 => ?_) fun c1 => ?_
 omega
 refine aw ?_
 refine aA rfl (fun c2 => ?_) fun c2 => ?_
 omega
 refine aw ?_
 refine aA rfl (fun c4 => ?_) fun c4 => ?_
 omega
 refine aw ?_
 refine aV fun ib => ?_
 refine fu (fun k : Nat => k ≤ s.nl.length) (fun k => [(6, pV ib), (22, .slice s.na s.nl.length s.nc), (23, iQ (s.nl.length : Nat)), (24, iQ k)]) (fun k => fN ib (n, iJ n ((iu s).take k)) :: R) (fun k => s.nl.length - k) 0 ?_ ?_ ?_ ?_
 exact QaE _
 · repeat (first | exact cI | refine cj rfl ?_)
 show Ent (pt ib (JN n) :: R) (fN ib (n, iJ n []) :: R)
 rw [Kf]
 exact a3Q
 intro k hk
 refine aw ?_
 refine ah (fun c8 => ?_) fun c8 => ?_
 have hk1 : k < s.nl.length := by omega
 have hk2 : k < (iu s).length := by rw [hsl]; exact hk1
 obtain ⟨g, o, hga, hc⟩ := (hs.n []).at_ hk1
 obtain ⟨x, hx⟩ : ∃ x, s.nl[k] = x := ⟨_, rfl⟩
 have hxl : (iu s)[k] = A7 x := by rw [List.getElem_map, hx]
 rw [hx] at hc
 refine a7 (fT Lh DG rfl hga rfl rfl hk1 (by first | exact Qac _ | rfl)) ?_
 refine a7 (bZ hc.weak) ?_
 refine bB fun bx => ?_
 refine aB aD ?_
 refine ag (aj call48 (a4b W0 _ ib n _ hn x.g)) ?_
 refine cA (fun g11_3 => ?_) fun g11_3 => ?_
 obtain ⟨q1, q2⟩ : 0 ≤ x.g ∧ x.g < n := by
  refine Decidable.byContradiction fun e => g11_3 ?_
  rw [vg, Qab e]
 refine ag (ar call49 (a39 x.k)) ?_
 refine ah (fun c11 => ?_) fun c11 => ?_
 have hkd : nT x.k = true := by simpa using c11
 obtain ⟨g6, hg6⟩ : ∃ g6 : Nat, x.g = g6 := ⟨x.g.toNat, by omega⟩
 have hrow : vg ib n x.g = some ⟨ib, g6, none⟩ := by rw [vg, Qae ⟨q1, q2⟩, hg6, Qal]
 rw [hrow]
 have hput := a3U hk2 hn (show g6 < n by omega) (by rw [hxl]; exact hg6) (by rw [hxl]; exact hkd)
 rw [hxl] at hput
 have hitm : xv (A7 x) k = ⟨x.at_, x.g, x.k, x.code, x.d, k, by omega⟩ := by
  have : k % 1000 = k := Nat.mod_eq_of_lt (by omega)
  simp only [xv, A7, this]
 rw [hitm] at hput
 have hZ : (iJ n ((iu s).take k)).getD g6 [] = lS ((iu s).take k) g6 := by rw [vf (by omega), Qae (by omega)]
 have hlen : (lS ((iu s).take k) g6).length ≤ 256 := by
  have h9 := QaQ (fun y : It6 => y.g == (g6 : Int) && nT y.k) (tT ((iu s).take k))
  have h8 : (tT ((iu s).take k)).length = ((iu s).take k).length := by simp [tT]
  rw [QaK] at h8
  show (List.filter _ _).length ≤ 256
  omega
 refine K9 (b := ib) (n := n) (i := g6) (by omega) fun rs h4 hR => ?_
 obtain ⟨hp6, hh6⟩ := hR g6 (by omega)
 rw [hZ] at hp6
 have hpl := hp6.length_eq
 refine aw ?_
 refine a7 (eg L9 u6 (aG DG (aG aO ee)) (ge rfl DG rfl rfl (Qaa rfl) SetRL.eq (cm rfl aO rfl rfl (Qaa rfl) SetL.eq ed))) ?_
 refine ao rfl (aj Ed (a3M g6 ib (jk rs g6).l ⟨x.at_, x.g, x.k, x.code, x.d, k, by omega⟩ (jm n rs) (by omega) hh6)) ?_
 rintro _ B_ ⟨rfl, its', hB_, hq1, hq2⟩
 obtain rfl := hB_.symm
 refine aw ?_
 refine a7 cQ ?_
 refine cv (k + 1) ?_ (he := ?_)
 omega
 first
 | (rw [hput]
    exact Ent.trans (B := ir g6 ib (its', jm n rs) :: my rs g6 :: R) inferInstance (xt h4 hR A6 (by omega) (hq1.trans (hp6.append_right _)) hq2))
 | (rw [Dq hk2 hn (by
      rw [hxl]
      rintro ⟨e1, e2, e3⟩
      first
      | exact hq ⟨e1, e2⟩
      | exact c11 (Qat e3))]
    exact inferInstance)
 refine a7 cQ ?_
 refine cv (k + 1) ?_ (he := ?_)
 omega
 first
 | (rw [hput]
    exact Ent.trans (B := ir g6 ib (its', jm n rs) :: my rs g6 :: R) inferInstance (xt h4 hR A6 (by omega) (hq1.trans (hp6.append_right _)) hq2))
 | (rw [Dq hk2 hn (by
      rw [hxl]
      rintro ⟨e1, e2, e3⟩
      first
      | exact hq ⟨e1, e2⟩
      | exact c11 (Qat e3))]
    exact inferInstance)
 have hq : ¬ (0 ≤ x.g ∧ x.g < n) := fun e => g11_3 (by rw [vg, Qae e]; simp)
 refine a7 cQ ?_
 refine cv (k + 1) ?_ (he := ?_)
 omega
 first
 | (rw [hput]
    exact Ent.trans (B := ir g6 ib (its', jm n rs) :: my rs g6 :: R) inferInstance (xt h4 hR A6 (by omega) (hq1.trans (hp6.append_right _)) hq2))
 | (rw [Dq hk2 hn (by
      rw [hxl]
      rintro ⟨e1, e2, e3⟩
      first
      | exact hq ⟨e1, e2⟩
      | exact c11 (Qat e3))]
    exact inferInstance)
 refine aT ?_
 obtain rfl : k = s.nl.length := by omega
 rw [show (iu s).take s.nl.length = iu s from QaM (by omega)]
 exact ⟨_, ⟨ib, rfl, rfl⟩, IO⟩
end
section
open Go.RowKit
theorem a4e (c : Cfg) (h : CfK W0 c) (hr : rt c = true) (l : List Sec) (a : Option Addr) (cap : Nat) (hs : ∀ A, bK (az W0 A) a 2 vX l) (hl : l.length < 9223372036854775808) : sP W0 54 [.agg (cX c).toArray, .slice a l.length cap] R (fun v B => ∃ db x, v = .tuple #[pV db, iQ 0] ∧ B = iF db (kN x l) :: R ∧ jf c.rl = some x) := by
 obtain ⟨x, hx⟩ := Ym hr
 have hrl := (G1 (sR hr).2.2.2.1).1
 have hxk := HD hx
 refine ac func54 ntmps54 ?_
 refine aV fun b2 => ?_
 refine ao rfl (ar call100 (Yk c.ra c.rc c.rl (h.ok.r _) (by omega))) ?_
 rintro _ B_ ⟨p, Y, rfl, hB_, _, hY⟩
 obtain rfl := hB_.symm
 obtain ⟨db, rfl, rfl⟩ := hY x hx
 rw [hx, show (if (some x).isSome = true then (0 : Int) else 14) = 0 from rfl]
 simp only [Qar, Qan]
 refine au 14 ?_
 refine dS ?_
 refine fu (fun k : Nat => k ≤ l.length) (fun k => [(1, .slice a l.length cap), (6, pV db), (19, .slice a l.length cap), (20, iQ (l.length : Nat)), (21, iQ k)]) (fun k => iF db (kN x (l.take k)) :: R) (fun k => l.length - k) 0 ?_ ?_ ?_ ?_
 exact QaE _
 · repeat (first | exact cI | refine cj rfl ?_)
 show Ent _ (iF db x :: R)
 exact IO
 intro k hk
 refine aw ?_
 refine ah (fun c5 => ?_) fun c5 => ?_
 have hk1 : k < l.length := by omega
 obtain ⟨g, o, hga, hc⟩ := (hs []).at_ hk1
 obtain ⟨y, hy⟩ : ∃ y, l[k] = y := ⟨_, rfl⟩
 have hT := a3X (x := x) hk1
 rw [hy] at hc hT
 refine a7 (fT Lg sizeOf205 rfl hga rfl rfl hk1 (by first | exact Qac _ | rfl)) ?_
 refine a7 (bZ hc.weak) ?_
 refine bB fun bx => ?_
 refine aB aD ?_
 refine ag (aj call101 (Xh W0 _ db (kN x (l.take k)) (Kh _ hxk) y.at_ y.d)) ?_
 rw [← hT]
 refine a7 cQ ?_
 exact cv (k + 1) (by omega)
 refine aT ?_
 obtain rfl : k = l.length := by omega
 rw [QbM]
 exact ⟨_, ⟨db, x, rfl, rfl, by first | exact hx | rfl⟩, IO⟩
theorem a4f (c : Cfg) (h : CfK W0 c) (hr : rt c = true) (l : List Sec) (a : Option Addr) (cap : Nat) (hs : ∀ A, bK (az W0 A) a 2 vX l) (hl : l.length < 9223372036854775808) : sP W0 20 [.agg (cX c).toArray, .slice a l.length cap] R (fun v B => ∃ hb ps pb db qb gb x, v = .tuple #[pV hb, iQ 0] ∧ B = pt hb (kL c ps pb db qb gb) :: bj ps (tQ c) :: cZ pb (ps, qv c) :: iF db (kN x l) :: qY qb (l8 c.pl) :: pt gb (wF c.cats c.gate c.quota) :: R ∧ jf c.rl = some x) := by
 have hck : iA c = 0 := Qat hr
 have hfn : rh c = cF c := by rw [rh, Qae hr]
 have hf32 := Xy c
 obtain ⟨q1, q2⟩ := HE (HG hr)
 obtain ⟨z1, z2, z3⟩ := HH hr
 refine ac func20 ntmps20 ?_
 refine aV fun b2 => ?_
 refine ao rfl (ar ua (qP c h.ok)) ?_
 rintro _ B_ ⟨at_, rfl, hB_⟩
 obtain rfl := hB_.symm
 rw [hck]
 refine au 13 ?_
 refine dS ?_
 refine ab rfl (eg a5E zeroValue133 (aG rL (aG sizeOf129 (aG DT (aG sizeOf130 (aG sizeOf131 (aG sizeOf108 ee)))))) (ge rfl rL rfl rfl (Qaa rfl) SetRL.eq ed)) ?_
 refine aV fun hb => ?_
 refine ag (ar call52 (Xz c h.ok)) ?_
 rw [hfn]
 refine ao rfl (ar call51 (Vs (cF c) (by omega))) ?_
 rintro _ B_ ⟨ps, rfl, hB_⟩
 obtain rfl := hB_.symm
 refine aw ?_
 refine i7 9 dq ?_
 refine dS ?_
 refine bu [b2] 14 fun hS => ?_
 refine ae 0 5 hS ?_
 refine bF 5 (cV (aH (aE rfl))) fun hS => ?_
 refine cg 6 (aj call53 (Yp c h hr ps)) ?_; clear hS
 rintro _ B_ ⟨pb, rfl, hB_⟩
 obtain rfl := hB_.symm
 refine ⟨aF, fun hS => ?_⟩
 refine ae 7 5 hS ?_
 refine bG 12 dq fun hS => ?_
 refine ae 13 1 hS ?_
 refine fw ?_
 refine au 7 ?_
 refine dS ?_
 refine ao rfl (ar call54 (a4e c h hr l a cap hs hl)) ?_
 rintro _ B_ ⟨db, x, rfl, hB_, hdx⟩
 obtain rfl := hB_.symm
 refine aw ?_
 refine i7 9 dq ?_
 refine dS ?_
 refine ao rfl (ar call55 (W9 c.pl c.pa c.pl.length c.pc rfl q1 (h.ok.p _) q2)) ?_
 rintro _ B_ ⟨qb, rfl, hB_⟩
 obtain rfl := hB_.symm
 refine aw ?_
 refine i7 9 dq ?_
 refine dS ?_
 refine ao rfl (ar call56 (XW c.cats c.gate c.quota z1 z2 z3)) ?_
 rintro _ B_ ⟨gb, rfl, hB_⟩
 obtain rfl := hB_.symm
 refine aw ?_
 refine i7 9 dq ?_
 refine dS ?_
 refine mQ (b := hb) (o' := kL c ps pb db qb gb) rfl ?_
 refine aT ?_
 exact ⟨_, ⟨hb, ps, pb, db, qb, gb, x, rfl, rfl, hdx⟩, IO⟩
theorem a4g (c : Cfg) (h : CfK W0 c) (hr : rt c = true) (s : Scr) (hs : ScrOk W0 s) (ps pb db qb gb ho : Nat) : sP W0 22 [.agg (cX c).toArray, pV ho, .agg (kY s).toArray] (bj ps (tQ c) :: cZ pb (ps, qv c) :: pt ho (kL c ps pb db qb gb) :: R) (fun v B => ∃ gbs a cap, v = .tuple #[.slice a gbs.length cap, iQ 0] ∧ B = osl 49 1 (.slice a gbs.length cap) (gbs.map pV) :: bj ps (co (gZ c s) c.gl.length).2.1 :: cZ pb (ps, (co (gZ c s) c.gl.length).2.2) :: kH 2 (aS (nh (gZ c s) ps pb gbs c.gl.length)) :: pt ho (kL c ps pb db qb gb) :: R ∧ gbs.length = c.gl.length) := by
 have hg4 := (eV hr).g4
 obtain ⟨M, hM⟩ : ∃ M, gZ c s = M := ⟨_, rfl⟩
 have hMc : M.c = c := by rw [← hM]
 have hMr : rt M.c = true := by rw [hMc]; exact hr
 have hMw : ∀ i, i < c.gl.length → M.w i = bT (mB s i) 8 := fun i hi => by rw [← hM]; exact Kg hi
 rw [hM]
 refine ac func22 ntmps22 ?_
 refine aV fun b3 => ?_
 refine aV fun b5 => ?_
 refine fu (fun X : List Nat × Option Addr × Nat => X.1.length ≤ c.gl.length) (fun X => [(1, pV ho), (3, pV b3), (5, pV b5), (8, .slice X.2.1 X.1.length X.2.2), (14, iQ (c.gl.length : Nat)), (15, iQ X.1.length)]) (fun X => pt b3 (gn c) :: pt b5 (a8 (kY s) 33) :: osl 49 1 (.slice X.2.1 X.1.length X.2.2) (X.1.map pV) :: bj ps (co M X.1.length).2.1 :: cZ pb (ps, (co M X.1.length).2.2) :: kH 2 (aS (nh M ps pb X.1 X.1.length)) :: pt ho (kL c ps pb db qb gb) :: R) (fun X => c.gl.length - X.1.length) ([], none, 0) ?_ ?_ ?_ ?_
 exact QaE _
 · repeat (first | exact cI | refine cj rfl ?_)
 show Ent _ (pt b3 (gn c) :: pt b5 (a8 (kY s) 33) :: osl 49 1 (.slice none 0 0) [] :: bj ps (tQ M.c) :: cZ pb (ps, qv M.c) :: kH 2 (aS []) :: pt ho (kL c ps pb db qb gb) :: R)
 rw [hMc]
 refine Ent.trans (B := kH 2 (aS []) :: pt b3 (gn c) :: pt b5 (a8 (kY s) 33) :: osl 49 1 (.slice none 0 0) [] :: bj ps (tQ c) :: cZ pb (ps, qv c) :: pt ho (kL c ps pb db qb gb) :: R) ?_ inferInstance
 refine Ent.trans ?_ (jB (A := []))
 rw [Qan]
 exact Ent.trans (dP (E := 49) (sz := 1) (k := ent_refl)) inferInstance
 intro ⟨gbs, a, cap⟩ hk
 dsimp only at hk ⊢
 obtain ⟨k, hkl⟩ : ∃ k, gbs.length = k := ⟨_, rfl⟩
 rw [hkl] at hk ⊢
 refine aw ?_
 refine ah (fun c3 => ?_) fun c3 => ?_
 have hk1 : k < c.gl.length := by omega
 obtain ⟨m1, m2, m3, m4, m5, m6⟩ := a34 hMr (show k < M.c.gl.length by rw [hMc]; exact hk1)
 obtain ⟨w1, w2, w3⟩ := a38 hs k
 have hmc : fB c k (mB s k) (co M k).2.1 (co M k).2.2 = fB M.c k (M.w k) (co M k).2.1 (co M k).2.2 := by rw [hMw k hk1, a3W (by rw [hMc]; exact hr) (by rw [hMc]; exact hk1), hMc]
 have hkM : k < M.c.gl.length := by rw [hMc]; exact hk1
 have hn1 : (co M (k + 1)).2.1 = (fB M.c k (M.w k) (co M k).2.1 (co M k).2.2).fr := rfl
 have hn2 : (co M (k + 1)).2.2 = (fB M.c k (M.w k) (co M k).2.1 (co M k).2.2).po := rfl
 refine bu [b3, b5] 15 fun hS => ?_
 refine ae 0 3 hS ?_
 refine ae 4 1 hS ?_
 refine ae 6 2 hS ?_
 refine bF 3 (aj call61 (Yq ho c ps pb db qb gb)) fun hS => ?_
 refine bF 5 (aj call62 (Yr ho c ps pb db qb gb)) fun hS => ?_
 refine bF 8 (ar call63 (a37 s hs k)) fun hS => ?_
 refine cg 9 (cJ call60 (a2M W0 _ c h hr k hk1 ps pb (co M k).2.1 (co M k).2.2 m1 m2 m3 m4 (by rw [hMc] at m5; exact m5) (lq s k).a (lq s k).c (mB s k) w1 w2 w3 (by rw [hmc]; exact m6))) ?_; clear hS
 rintro _ B_ ⟨g, z, wg, rfl, z1, z2, z3, z4, z5, hB_⟩
 obtain rfl := hB_.symm
 rw [hmc, ← hMw k hk1]
 rw [← hMw k hk1] at z5
 have hnx2 := a33 (R := pt b3 (gn c) :: pt b5 (a8 (kY s) 33) :: osl 49 1 (.slice a k cap) (gbs.map pV) :: bj ps (co M (k + 1)).2.1 :: cZ pb (ps, (co M (k + 1)).2.2) :: pt ho (kL c ps pb db qb gb) :: R) (M := M) (ps := ps) (pb := pb) hMr hkM hkl (gb := g) (z := z) (wg := wg) ⟨by rw [hMc]; exact z1, z2, z3, z4, z5⟩
 refine ⟨aF, fun hS => ?_⟩
 refine ae 10 5 hS ?_
 refine aK ?_
 refine ja (B := gA g z g0 (fB M.c k (M.w k) (co M k).2.1 (co M k).2.2) (pt z.bx pY :: pt wg (a8 ((M.w k).map wV) 62) :: kH 2 (aS (nh M ps pb gbs k)) :: pt b3 (gn c) :: pt b5 (a8 (kY s) 33) :: osl 49 1 (.slice a k cap) (gbs.map pV) :: bj ps (co M (k + 1)).2.1 :: cZ pb (ps, (co M (k + 1)).2.2) :: pt ho (kL c ps pb db qb gb) :: R)) (by rw [hn1, hn2]; exact inferInstance) ?_
 refine ja hnx2 ?_
 refine au 5 ?_
 refine dS ?_
 refine dR (kx xL EB zeroValue49 rfl rfl rfl rfl rfl (by decide) (by decide)) fun b3 => ?_
 refine ao rfl (eQ (sz := 1) (by_ := 8) (info := Tryz.t49) xL (by kernel_rfl) rfl rfl rfl rfl (by decide) rfl rfl dW rfl rfl (by simp only [maxLen]; omega) (by omega)) ?_
 rintro _ _ ⟨a3, c3, rfl, rfl⟩
 refine aw ?_
 refine a7 cQ ?_
 refine ue (gbs ++ [g], a3, c3) ?_ ?_ ?_ ?_
 show (gbs ++ [g]).length ≤ _; rw [Qad, QaX]; omega
 show c.gl.length - (gbs ++ [g]).length < c.gl.length - gbs.length
 rw [Qad, QaX]; omega
 · dsimp only
   rw [show (gbs ++ [g]).length = k + 1 by rw [Qad, QaX, hkl]]
   repeat (first | exact cI | refine cj rfl ?_)
 dsimp only
 rw [show (gbs ++ [g]).length = k + 1 by rw [Qad, QaX, hkl], QaF, show List.map pV [g] = [pV g] from rfl]
 exact IO
 refine aT ?_
 obtain rfl : k = c.gl.length := by omega
 rw [← hkl]
 exact ⟨_, ⟨gbs, a, cap, rfl, rfl, rfl⟩, IO⟩
theorem a4h (n : Nat) (h1 : 1 ≤ n) (h4 : n ≤ 4) (a : Option Addr) (m c : Nat) (hm : 256 < m) : sQ W0 19 [iQ n, .slice a m c] R (.tuple #[.pointer none, iQ 10]) R := by
 refine ac func19 ntmps19 ?_
 refine aA rfl (fun c1 => ?_) fun c1 => ?_
 omega
 refine aw ?_
 refine aA rfl (fun c2 => ?_) fun c2 => ?_
 omega
 refine aw ?_
 refine aA rfl (fun c4 => ?_) fun c4 => ?_
 refine au 9 ?_
 exact aT ai
 omega
theorem a4i (W0 : World) (R : List HP) (c : Cfg) (h : CfK W0 c) (hr : rt c = false) (s : Scr) :
    aZ Tryz.prog W0 8 [.agg (cX c).toArray, .agg (kY s).toArray] R (fun v B => v = .tuple #[.pointer none, iQ (iA c)] ∧ B = R ∧ iA c ≠ 0) := by
 have hck : iA c ≠ 0 := fun q => by
  have : rt c = true := Qaw q
  rw [hr] at this; cases this
 obtain ⟨e, he⟩ : ∃ e, iA c = e := ⟨_, rfl⟩
 rw [he] at hck ⊢
 refine ac Ma ntmps8 ?_
 refine aV fun b2 => ?_
 refine aV fun b3 => ?_
 refine ao rfl (ar ua (qP c h.ok)) ?_
 rintro _ B_ ⟨at_, rfl, hB_⟩
 obtain rfl := hB_.symm
 rw [he]
 refine aw ?_
 refine ah (fun c2 => ?_) fun c2 => ?_
 refine aT ?_
 exact ⟨_, ⟨rfl, rfl, hck⟩, IO⟩
 exact absurd (by simpa using c2) hck
theorem a4j (c : Cfg) (h : CfK W0 c) (hr : rt c = true) (s : Scr) (hl : 256 < s.nl.length) : sQ W0 8 [.agg (cX c).toArray, .agg (kY s).toArray] R (.tuple #[.pointer none, iQ 10]) R := by
 have hck : iA c = 0 := Qat hr
 have hg1 := (eV hr).g1
 have hg4 := (eV hr).g4
 refine ac Ma ntmps8 ?_
 refine aV fun b2 => ?_
 refine aV fun b3 => ?_
 refine ao rfl (ar ua (qP c h.ok)) ?_
 rintro _ B_ ⟨at_, rfl, hB_⟩
 obtain rfl := hB_.symm
 rw [hck]
 refine au 13 ?_
 refine dS ?_
 refine dE 14 (ar call19 (a4h c.gl.length (by omega) (by omega) s.na s.nl.length s.nc hl)) ?_
 refine ah (fun c5 => ?_) fun c5 => ?_
 exact aT ai
 exact absurd (by decide) c5
theorem Kr (c : Cfg) (h : CfK W0 c) (hr : rt c = true) (s : Scr) (hs : ScrOk W0 s) (hl : s.nl.length ≤ 256) (hsl : s.sl.length < 9223372036854775808) : sP W0 8 [.agg (cX c).toArray, .agg (kY s).toArray] R (fun v B => ∃ (X : Hx) (x : Dk), v = .tuple #[pV X.hv, iQ 0] ∧ B = X.H (mz (gZ c s) (kN x s.sl) (iJ c.gl.length (iu s))) R ∧ X.D.M = gZ c s ∧ X.D.gbs.length = c.gl.length ∧ jf c.rl = some x) := by
 have hck : iA c = 0 := Qat hr
 have hg1 := (eV hr).g1
 have hg4 := (eV hr).g4
 obtain ⟨s1, s2, s3⟩ := JO hr
 refine ac Ma ntmps8 ?_
 refine aV fun b2 => ?_
 refine aV fun b3 => ?_
 refine ao rfl (ar ua (qP c h.ok)) ?_
 rintro _ B_ ⟨at_, rfl, hB_⟩
 obtain rfl := hB_.symm
 rw [hck]
 refine au 13 ?_
 refine dS ?_
 refine ao rfl (ar call19 (a4d c.gl.length (by omega) (by omega) s hs hl)) ?_
 rintro _ B_ ⟨ib, rfl, hB_⟩
 obtain rfl := hB_.symm
 refine au 14 ?_
 refine dS ?_
 refine ao rfl (ar call20 (a4f c h hr s.sl s.sa s.sc hs.sx hsl)) ?_
 rintro _ B_ ⟨ho, ps, pb, db, qb, gb, x, rfl, hB_, hdx⟩
 obtain rfl := hB_.symm
 refine au 14 ?_
 refine dS ?_
 refine ao rfl (ar call21 (a3k c.sl c.sa c.sc h.ok.s s1 s2 s3)) ?_
 rintro _ B_ ⟨tb, sa, sc, rfl, hB_⟩
 obtain rfl := hB_.symm
 refine au 14 ?_
 refine dS ?_
 refine ao rfl (dT call22 (a4g c h hr s hs ps pb db qb gb ho)) ?_
 rintro _ B_ ⟨gbs, a, cap, rfl, hB_, hgl⟩
 obtain rfl := hB_.symm
 refine au 14 ?_
 refine dS ?_
 refine ab rfl (eg a5X zeroValue77 (aG rL (aG KW (aG KY (aG KX (aG KV (aG aO ee)))))) (ge rfl rL rfl rfl (Qaa rfl) SetRL.eq (cm rfl KW rfl rfl (Qaa rfl) SetL.eq (cm rfl KY rfl rfl (Qaa rfl) SetL.eq (cm rfl KX rfl rfl (Qaa rfl) SetL.eq (cm rfl KV rfl rfl (Qaa rfl) SetL.eq ed)))))) ?_
 refine aV fun hv => ?_
 refine mQ (b := hv) (o' := eB ⟨⟨gZ c s, ho, ps, pb, db, qb, gb, a, cap, gbs⟩, hv, tb, ib⟩ 0) rfl ?_
 refine aT ?_
 refine ⟨_, ⟨⟨⟨gZ c s, ho, ps, pb, db, qb, gb, a, cap, gbs⟩, hv, tb, ib⟩, x, rfl, rfl, rfl, hgl, hdx⟩, ?_⟩
 refine Ent.trans (B := pt ho (kL c ps pb db qb gb) :: osl 49 1 (.slice a gbs.length cap) (gbs.map pV) :: bj ps (co (gZ c s) c.gl.length).2.1 :: cZ pb (ps, (co (gZ c s) c.gl.length).2.2) :: iF db (kN x s.sl) :: qY qb (l8 c.pl) :: pt gb (wF c.cats c.gate c.quota) :: kH 2 (aS (nh (gZ c s) ps pb gbs c.gl.length)) :: pt hv (eB ⟨⟨gZ c s, ho, ps, pb, db, qb, gb, a, cap, gbs⟩, hv, tb, ib⟩ 0) :: fN ib (c.gl.length, iJ c.gl.length (iu s)) :: pt tb (lQ sa c.sl.length sc c.sl c.sl.length) :: osl 114 2 (.slice sa c.sl.length sc) (c.sl.flatMap dU) :: R) inferInstance ?_
 refine (a35 (M := gZ c s) (inp := iJ c.gl.length (iu s)) hgl).trans ?_
 refine Ent.trans (B := pt hv (eB ⟨⟨gZ c s, ho, ps, pb, db, qb, gb, a, cap, gbs⟩, hv, tb, ib⟩ 0) :: eI ho (⟨gZ c s, ho, ps, pb, db, qb, gb, a, cap, gbs⟩, mz (gZ c s) (kN x s.sl) (iJ c.gl.length (iu s))) :: fN ib (c.gl.length, iJ c.gl.length (iu s)) :: pt tb (lQ sa c.sl.length sc c.sl c.sl.length) :: osl 114 2 (.slice sa c.sl.length sc) (c.sl.flatMap dU) :: R) inferInstance ?_
 exact Ent.cons (Ent.cons (Ent.cons (Ki rfl rfl)))
end
section
open Go.RowKit
set_option linter.unusedSimpArgs false
set_option linter.unusedVariables false
set_option maxRecDepth 20000
set_option synthInstance.maxSize 4000
set_option synthInstance.maxHeartbeats 2000000
end
section
open Go.RowKit
set_option linter.unusedSimpArgs false
set_option linter.unusedVariables false
set_option maxRecDepth 20000
set_option synthInstance.maxSize 1000
set_option synthInstance.maxHeartbeats 400000
theorem Dt (x : Rls) : (n3 x).length = 3 := rfl
theorem a4k (l : List Rls) : dV (l.flatMap n3) = true := by
 induction l with
 | nil => rfl
 | cons x l ih =>
  rw [Qbb, dV, List.all_append, Qap]
  exact ⟨rfl, ih⟩
theorem a4l (l : List Rls) (a : Option Addr) (n c : Nat) (hl : l.length = n) (hN : n ≤ 100000) (hs : bK (az W0 R) a 3 n3 l) : sP W0 93 [.slice a n c] R (fun v B => ∃ a' c', v = .slice a' n c' ∧ B = osl 155 3 (.slice a' n c') (l.flatMap n3) :: R) := by
 subst hl
 refine ac func93 ntmps93 ?_
 refine a7 (sr E1 rfl rfl) ?_
 refine aA rfl (fun c1 => ?_) fun c1 => ?_
 refine au 7 ?_
 refine aa ?_
 have h0 : l = [] := by
  rcases l with _ | ⟨x, l⟩
  rfl
  obtain ⟨b, o, h, _⟩ := hs 0 x rfl
  rw [c1] at h; cases h
 subst h0
 exact ⟨_, ⟨none, 0, rfl, rfl⟩, dP⟩
 have hsrc := hs.src Dt (fun _ => trivial)
 refine gC (aC (aI (aU (ao rfl (sy E1 sizeOf155 rfl) ?_))))
 rintro _ _ ⟨b1, rfl, rfl⟩
 refine aw ?_
 refine ao rfl (ut (sz := 3) (by_ := 32) (info := Tryz.t155) E1 (by kernel_rfl) rfl rfl rfl rfl (by decide) rfl rfl (news := l.flatMap n3) (by
 rcases hsrc with h | ⟨bs, os, h1, h2⟩
 left; rw [h]; rfl
 right; exact ⟨bs, os, h1, h2.weak⟩) (bX Dt l) (a4k l) (by simp only [maxLen]; omega) (by omega)) ?_
 rintro _ _ ⟨a1, c1, rfl, rfl⟩
 refine aw ?_
 refine aa ?_
 rw [Qac, Qan]
 exact ⟨_, ⟨_, _, rfl, rfl⟩, IO⟩
end
section
open Go.RowKit
set_option linter.unusedSimpArgs false
set_option linter.unusedVariables false
set_option maxRecDepth 20000
set_option synthInstance.maxSize 4000
set_option synthInstance.maxHeartbeats 2000000
theorem a4m (hb : Nat) (c : Cfg) (ps pb db qb gb : Nat) : sQ W0 46 [pV hb] (pt hb (kL c ps pb db qb gb) :: R) (pV gb) (pt hb (kL c ps pb db qb gb) :: R) := by
 refine ac func46 ntmps46 ?_
 refine ag (aj El (zj hb c ps pb db qb gb)) ?_
 exact aa ai
end
section
open Go.RowKit
set_option linter.unusedSimpArgs false
set_option linter.unusedVariables false
set_option maxRecDepth 20000
set_option synthInstance.maxSize 4000
set_option synthInstance.maxHeartbeats 2000000
end
section
open Go.RowKit
set_option linter.unusedSimpArgs false
set_option linter.unusedVariables false
set_option maxRecDepth 20000
set_option synthInstance.maxSize 4000
set_option synthInstance.maxHeartbeats 2000000
end
section
open Go.RowKit
end
section
open Go.RowKit
set_option linter.unusedSimpArgs false
set_option linter.unusedVariables false
set_option maxRecDepth 20000
set_option synthInstance.maxSize 4000
set_option synthInstance.maxHeartbeats 2000000
theorem xw (X : Hx) (n : Nat) : sQ W0 23 [pV X.hv] (pt X.hv (eB X n) :: R) (.bool false) (pt X.hv (eB X n) :: R) := by
 refine ac EC ntmps23 ?_
 refine cP rfl rfl rfl (fun g1_3 => ?_) fun g1_3 => ?_
 cases g1_3
 refine aw ?_
 exact aa ai
end
section
open Go.RowKit
set_option linter.unusedSimpArgs false
set_option linter.unusedVariables false
set_option maxRecDepth 20000
set_option synthInstance.maxSize 4000
set_option synthInstance.maxHeartbeats 2000000
section
variable (W0 : World) (R : List HP) (X : Hx) (S : Ms) (n : Nat)
theorem a4n : sQ W0 10 [pV X.hv] (pt X.hv (eB X n) :: R) (iQ (X.D.gbs.length : Nat)) (pt X.hv (eB X n) :: R) := by
 refine ac func10 ntmps10 ?_
 refine ag (aj rT (xw X n)) ?_
 exact aa ai
theorem Ks : sQ W0 15 [pV X.hv] (pt X.hv (eB X n) :: R) (iQ n) (pt X.hv (eB X n) :: R) := by
 refine ac func15 ntmps15 ?_
 refine ag (aj rT (xw X n)) ?_
 exact aa ai
theorem Du (i : Nat) (hi : i < X.D.gbs.length) : sQ W0 11 [pV X.hv, iQ i] (pt X.hv (eB X n) :: eI X.D.ho (X.D, S) :: R) (pV (X.D.gb i)) (pt X.hv (eB X n) :: eI X.D.ho (X.D, S) :: R) := by
 refine ac func11 ntmps11 ?_
 refine dE 1 (aj rT (xw X n)) ?_
 refine cP rfl rfl rfl (fun g1_3 => ?_) fun g1_3 => ?_
 exact absurd g1_3 (by decide)
 refine aw ?_
 refine cP rfl rfl rfl (fun g1_7 => ?_) fun g1_7 => ?_
 omega
 refine aw ?_
 refine aA rfl (fun c1 => ?_) fun c1 => ?_
 omega
 refine aw ?_
 refine Kn (D := X.D) (S := S) fun hs => ?_
 obtain ⟨ga, o, hga, hc⟩ := hs.at_ hi
 have hgi : X.D.gbs[i] = X.D.gb i := by simp [Mx.gb, List.getD, hi]
 rw [hgi] at hc
 refine aw ?_
 refine a7 (fT xL EB rfl hga rfl rfl hi (by first | exact Qac _ | rfl)) ?_
 refine a7 (aH (aR.weak hc 0 _ rfl)) ?_
 exact aa ai
theorem a4o (i : Nat) (hi : i < X.D.gbs.length) : sQ W0 12 [pV (X.D.gb i)] (eI X.D.ho (X.D, S) :: R) (iQ (S.at_ i).g.clock) (eI X.D.ho (X.D, S) :: R) := by
 refine Dm hi fun z wg hz => ?_
 refine lZ sk (iy (a2E W0 _ (X.D.gb i) z (S.at_ i).g) fun v B hB => ?_)
 obtain ⟨rfl, rfl⟩ := hB
 exact ⟨_, ⟨rfl, rfl⟩, Ent.trans inferInstance (Dn hi hz)⟩
end
end
section
open Go.RowKit
set_option linter.unusedSimpArgs false
set_option linter.unusedVariables false
set_option maxRecDepth 20000
set_option synthInstance.maxSize 4000
set_option synthInstance.maxHeartbeats 2000000
@[reducible] def Dv (t : Tn) (x : Int) : List Value := [.int .i64 t.g, .int .i64 t.s, .int .i64 t.o, .int .i64 t.f, .int .i64 x, .int .i64 1]
abbrev xx (g : Nat) (S : Ms) : Ms := { S.sl g (kM g (S.ls g)) with n := S.n + 1 }
structure LtOk (M : Mw) (S : Ms) (g : Nat) : Prop where
  e : (jS M.c.sl S.n).g = (g : Int)
  hg : g < M.c.gl.length
  nf : ¬ ((jS M.c.sl S.n).s = 0 ∧ (jS M.c.sl S.n).o = 0 ∧ 0 < S.n)
  mj : MK M S
  due : S.inp = [[], [], [], []]
  po : tN M.c g = none
  x : lR g (S.ls g) ≠ 3
  n : S.n < 1000
theorem a4p (b n : Nat) (hn : n ≤ 4) (g : Nat) (hg : g < n) (t : Int) : sQ W0 69 [pV b, iQ g, iQ t] (fN b (n, [[], [], [], []]) :: R) (.slice none 0 0) (fN b (n, [[], [], [], []]) :: R) := by
 refine ac func69 ntmps69 ?_
 refine ag (aj call48 (Kq W0 _ b n _ hn g hg)) ?_
 refine aA rfl (fun c2 => ?_) fun c2 => ?_
 first | cases c2 | exact absurd c2 (by simp)
 refine aw ?_
 refine K9 (b := b) (i := g) (by omega) fun rs h4 hR => ?_
 obtain ⟨hp0, hh0⟩ := hR g (by omega)
 have hq0 : [([] : List It6), [], [], []].getD g [] = [] := by
  have : g = 0 ∨ g = 1 ∨ g = 2 ∨ g = 3 := by omega
  rcases this with rfl | rfl | rfl | rfl <;> rfl
 rw [hq0] at hp0
 have hl0 : (jk rs g).l = [] := hp0.eq_nil
 have hst : [([] : List It6), [], [], []].set g [] = [[], [], [], []] := by
  have : g = 0 ∨ g = 1 ∨ g = 2 ∨ g = 3 := by omega
  rcases this with rfl | rfl | rfl | rfl <;> rfl
 refine aw ?_
 refine fu (fun _ : Unit => True) (fun _ => [(2, iQ t), (7, oT g b), (8, .slice none 0 0)]) (fun _ => ir g b ([], jm n rs) :: my rs g :: R) (fun _ => 0) () ?_ ?_ ?_ ?_
 trivial
 · repeat (first | exact cI | refine cj rfl ?_)
 rw [hl0]
 exact IO
 intro _ _
 refine aw ?_
 refine wi (T := 120) (E := 128) (sz := 6) (f := fZ) (o := g) (b := b) fun ra rc hro => ?_
 refine aw ?_
 refine cA (fun g5_4 => ?_) fun g5_4 => ?_
 refine ag (aj call116 (a4c g b 0 rc ra (jm n rs) hro)) ?_
 refine pi rfl rfl rfl (fun g5_9 => ?_) fun g5_9 => ?_
 omega
 refine aw ?_
 refine aa ?_
 refine ⟨_, ⟨rfl, rfl⟩, ?_⟩
 refine Ent.trans (B := ir g b ([], jm n rs) :: my rs g :: R) (jr rfl rfl hro rfl) ?_
 have hE := xt (R := R) (b := b) (n := n) (l := []) (L := []) (i := g) h4 hR rfl (by omega) (QaC _) fun c hc => absurd hc (Qbx c)
 rw [hst] at hE
 exact hE
 refine aa ?_
 refine ⟨_, ⟨rfl, rfl⟩, ?_⟩
 refine Ent.trans (B := ir g b ([], jm n rs) :: my rs g :: R) (jr rfl rfl hro rfl) ?_
 have hE := xt (R := R) (b := b) (n := n) (l := []) (L := []) (i := g) h4 hR rfl (by omega) (QaC _) fun c hc => absurd hc (Qbx c)
 rw [hst] at hE
 exact hE
section
variable (W0 : World) (R : List HP) (X : Hx) (hW : MxI W0 X.D) (S : Ms) (g : Nat) (hL : LtOk X.D.M S g) (bt bh bd : Nat)
abbrev j7 (X : Hx) (S S' : Ms) (x : Int) (bt bh bd : Nat) (R : List HP) : List HP := pt bt (a8 (Kj (jS X.D.M.c.sl S.n)) 43) :: pt bh (a8 [pV X.hv] 37) :: pt bd (a8 (Dv (jS X.D.M.c.sl S.n) x) 45) :: pt X.hv (eB X S.n) :: eI X.D.ho (X.D, S') :: fN X.ib (X.D.M.c.gl.length, [[], [], [], []]) :: R
include hW hL
theorem a4q : sQ W0 28 [pV X.hv, iQ g] (pt X.hv (eB X S.n) :: eI X.D.ho (X.D, S) :: fN X.ib (X.D.M.c.gl.length, [[], [], [], []]) :: R) (iQ 0) (pt X.hv (eB X S.n) :: eI X.D.ho (X.D, S) :: fN X.ib (X.D.M.c.gl.length, [[], [], [], []]) :: R) := by
 have hgb : g < X.D.gbs.length := by rw [hW.len]; exact hL.hg
 have hg4 := (eV hL.mj.r).g4
 refine ac func28 ntmps28 ?_
 refine jF [(X.hv, 0, _)] 11 mixed rfl (cz cG) (fun hS => ?_)
 refine ae 0 9 hS ?_
 refine bF 9 (aj call69 (a4p X.ib X.D.M.c.gl.length hg4 g hL.hg (S.n : Nat))) fun hS => ?_
 refine ae 10 1 hS ?_
 refine aK ?_
 refine dr (fun _ : Unit => True) (fun _ => [(0, pV X.hv), (1, iQ g), (5, .slice none 0 0), (19, .slice none 0 0), (20, iQ 0), (21, iQ 0)]) (fun _ => pt X.hv (eB X S.n) :: eI X.D.ho (X.D, S) :: fN X.ib (X.D.M.c.gl.length, [[], [], [], []]) :: R) (fun _ => 0) () ?_ ?_
 trivial
 intro _ _
 refine aw ?_
 refine aA rfl (fun c3 => ?_) fun c3 => ?_
 omega
 refine aw ?_
 refine Km (D := X.D) (S := S) ?_
 refine jH (E := 49) (sz := 1) (a := X.D.a) (n := X.D.gbs.length) (c := X.D.cap) (fun b => [pV b]) X.D.gbs (fun _ => rfl) (by decide) (yK pV X.D.gbs).symm (fun hs => ?_)
 obtain ⟨ga, o, hga, _⟩ := hs.at_ hgb
 have hc := Ko (W0 := W0) hga hgb
 refine jF [(X.hv, 0, _), (ga, o + g * 1, [pV (X.D.gb g)])] 17 mixed rfl (cz (dD hc.weak cG)) (fun hS => ?_)
 refine ae 0 11 hS ?_
 refine ax 11 hS (fT xL EB rfl hga rfl rfl hgb (by first | exact Qac _ | rfl)) ?_
 refine ax 12 hS (aH (nu (k := 1) (j := 0) rfl rfl)) ?_
 refine ae 13 1 hS ?_
 refine kU 14 rfl rfl (aj call71 (a3x X.D.ho (X.D.gb g) g X.D.M.c X.D.ps X.D.pb X.D.db X.D.qb X.D.tb hW.ok hL.po)) (cz (dD hc.weak cG)) fun hS => ?_
 refine ax 15 hS cQ ?_
 refine ae 16 1 hS ?_
 refine aK ?_
 refine aa ?_
 refine ⟨_, ⟨rfl, rfl⟩, ?_⟩
 refine Ent.trans (B := pt X.hv (eB X S.n) :: X.D.H S (fN X.ib (X.D.M.c.gl.length, [[], [], [], []]) :: R)) inferInstance ?_
 exact Ent.cons A2
omit hW in
theorem a4r : sQ W0 25 ([] ++ [] ++ [pV bt, pV bh, pV bd]) (j7 X S S 0 bt bh bd R) (.tuple #[]) (j7 X S S 0 bt bh bd R) := by
 simp only [Qax, Qan]
 obtain ⟨T, hT⟩ : ∃ T, jS X.D.M.c.sl S.n = T := ⟨_, rfl⟩
 have hnf := hL.nf
 unfold j7
 rw [hT] at hnf ⊢
 refine ac func25 ntmps25 ?_
 refine cA (fun g0_4 => ?_) fun g0_4 => ?_
 refine cA (fun g0_9 => ?_) fun g0_9 => ?_
 refine ah (fun c0 => ?_) fun c0 => ?_
 exact absurd ⟨by omega, by omega, by omega⟩ hnf
 refine bA (.inr rfl) .nil ?_
 exact ai
 refine bA (.inr rfl) .nil ?_
 exact ai
 refine bA (.inr rfl) .nil ?_
 exact ai
theorem a4s : sQ W0 27 ([] ++ [] ++ [pV bt, pV bd, pV bh]) (j7 X S S 0 bt bh bd R) (.tuple #[]) (j7 X S S 0 bt bh bd R) := by
 simp only [Qax, Qan]
 have hTg := hL.e
 obtain ⟨T, hT⟩ : ∃ T, jS X.D.M.c.sl S.n = T := ⟨_, rfl⟩
 have hB := fun R => a4q W0 R X hW S g hL
 unfold j7
 rw [hT] at hTg ⊢
 obtain ⟨tg, ts, to_, tf⟩ := T
 dsimp only at hTg
 subst hTg
 refine ac func27 ntmps27 ?_
 refine ah (fun c0 => ?_) fun c0 => ?_
 refine bu [bt, bh] 9 fun hS => ?_
 refine ae 0 1 hS ?_
 refine ae 2 3 hS ?_
 refine eh (is := [1, 5]) (by kernel_rfl) rfl ⟨?_, ?_, trivial⟩
 refine cT (cV (aH (aE rfl))) ?_; clear hS
 rintro _ _ ⟨rfl, rfl⟩
 refine ⟨aF, fun hS => ?_⟩
 refine bF 5 (dT call28 (hB _)) fun hS => ?_
 refine ax 6 hS (dx rfl rfl (show IntKind.wrap .i64 ((1 : Int) + 0) = 1 by decide)) ?_
 refine ae 7 1 hS ?_
 refine bG 8 dq fun hS => ?_
 refine aK ?_
 refine bA (.inr rfl) .nil ?_
 exact ai
 skip
 refine cT (dT call28 (hB _)) ?_; clear hS
 rintro _ B_ ⟨rfl, hB_⟩
 obtain rfl := hB_.symm
 refine ⟨aF, fun hS => ?_⟩
 refine bF 1 (cV (aH (aE rfl))) fun hS => ?_
 refine ax 6 hS (dx rfl rfl (show IntKind.wrap .i64 ((1 : Int) + 0) = 1 by decide)) ?_
 refine ae 7 1 hS ?_
 refine bG 8 dq fun hS => ?_
 refine aK ?_
 refine bA (.inr rfl) .nil ?_
 exact ai
 refine bA (.inr rfl) .nil ?_
 exact ai
theorem a4t (hK : ∀ A, aR (az W0 A) 1 0 fg) (hH : ∀ A, aR (az W0 A) 0 0 gz) : sQ W0 29 ([] ++ [] ++ [pV bh, pV bt, pV bd]) (j7 X S S 0 bt bh bd R) (.tuple #[]) (j7 X S (S.sl g (kM g (S.ls g))) (lR g (S.ls g)) bt bh bd R) := by
 simp only [Qax, Qan]
 have hTg := hL.e
 have hM2 := hL.mj
 have hgb : g < X.D.gbs.length := by rw [hW.len]; exact hL.hg
 obtain ⟨T, hT⟩ : ∃ T, jS X.D.M.c.sl S.n = T := ⟨_, rfl⟩
 unfold j7
 rw [hT] at hTg ⊢
 obtain ⟨tg, ts, to_, tf⟩ := T
 dsimp only at hTg
 subst hTg
 refine ac func29 ntmps29 ?_
 refine Kn (D := X.D) (S := S) fun hs => ?_
 obtain ⟨ga, o, hga, _⟩ := hs.at_ hgb
 have hc := a31 (W0 := W0) hga hgb
 refine jF [(bh, 0, _), (X.hv, 0, _), (bt, 0, _), (ga, o + g * 1, [pV (X.D.gb g)])] 11 mixed rfl (cz (cz (cz (dD (by first |exact (hc S).weak |exact (hc (S.sl g (kM g (S.ls g)))).weak) cG)))) (fun hS => ?_)
 refine ae 0 6 hS ?_
 refine ax 6 hS (fT xL EB rfl hga rfl rfl hgb (by first | exact Qac _ | rfl)) ?_
 refine ax 7 hS (aH (nu (k := 3) (j := 0) rfl rfl)) ?_
 refine kU 8 rfl rfl (aj call30 (a3z hW hM2 hgb hK hH)) (cz (cz (cz (dD (by first |exact (hc S).weak |exact (hc (S.sl g (kM g (S.ls g)))).weak) cG)))) fun hS => ?_
 refine ae 9 1 hS ?_
 refine kV 10 rfl rfl dq (cz (cz (cz (dD (by first |exact (hc S).weak |exact (hc (S.sl g (kM g (S.ls g)))).weak) cG)))) fun hS => ?_
 refine aK ?_
 refine bA (.inr rfl) .nil ?_
 exact ai
omit hW hL in
theorem a4u (S' : Ms) (x : Int) (hx : x ≠ 3) : sQ W0 31 ([] ++ [] ++ [pV bd, pV bh, pV bt]) (j7 X S S' x bt bh bd R) (.tuple #[]) (j7 X S S' x bt bh bd R) := by
 simp only [Qax, Qan]
 refine ac func31 ntmps31 ?_
 refine aA rfl (fun c0 => ?_) fun c0 => ?_
 omega
 refine aw ?_
 refine bA (.inr rfl) .nil ?_
 exact ai
end
end
section
open Go.RowKit
set_option linter.unusedSimpArgs false
set_option linter.unusedVariables false
set_option maxRecDepth 20000
set_option synthInstance.maxSize 4000
set_option synthInstance.maxHeartbeats 2000000
def A9 : Nat → FuncId
 | 0 => 25
 | 1 => 27
 | 2 => 29
 | _ => 31
def Aa (bt bh bd : Nat) : Nat → List Value
 | 0 => [pV bt, pV bh, pV bd]
 | 1 => [pV bt, pV bd, pV bh]
 | 2 => [pV bh, pV bt, pV bd]
 | _ => [pV bd, pV bh, pV bt]
abbrev j8 (bt bh bd k : Nat) : Value := .func (.func (A9 k)) #[] (Aa bt bh bd k).toArray
theorem Ku (k : Nat) (args : Array Value) (w : World) : (callFunc (A9 k) args).run Tryz.prog w = .ok (.enter (A9 k) args) w := by
 match k with
 | 0 => exact call25 args w
 | 1 => exact call27 args w
 | 2 => exact call29 args w
 | k + 3 => exact call31 args w
def rI (S : Ms) (g k : Nat) : Ms := if k < 3 then S else S.sl g (kM g (S.ls g))
def rJ (S : Ms) (g k : Nat) : Int := if k < 3 then 0 else lR g (S.ls g)
theorem a4v (W0 : World) (R : List HP) (X : Hx) (hW : MxI W0 X.D) (S : Ms) (g : Nat) (hL : LtOk X.D.M S g) (bt bh bd : Nat) (hK : ∀ A, aR (az W0 A) 1 0 fg) (hH : ∀ A, aR (az W0 A) 0 0 gz) (k : Nat) (hk : k < 4) :
    aZ Tryz.prog W0 (A9 k) ([] ++ [] ++ Aa bt bh bd k) (j7 X S (rI S g k) (rJ S g k) bt bh bd R) (fun v B => v = .tuple #[] ∧ B = j7 X S (rI S g (k + 1)) (rJ S g (k + 1)) bt bh bd R) := by
 match k, hk with
 | 0, _ => exact a4r W0 R X S g hL bt bh bd
 | 1, _ => exact a4s W0 R X hW S g hL bt bh bd
 | 2, _ => exact a4t W0 R X hW S g hL bt bh bd hK hH
 | 3, _ => exact a4u W0 R X S bt bh bd _ _ hL.x
theorem Kv (bt bh bd : Nat) {k : Nat} (hk : k < 4) : [j8 bt bh bd 0, j8 bt bh bd 1, j8 bt bh bd 2, j8 bt bh bd 3][k * 1]? = some (j8 bt bh bd k) := by
 match k, hk with
 | 0, _ => rfl
 | 1, _ => rfl
 | 2, _ => rfl
 | 3, _ => rfl
theorem Kw (X : Hx) (n : Nat) : sQ W0 23 [pV X.hv] (pt X.hv (eB X n) :: R) (.bool false) (pt X.hv (eB X n) :: R) := by
 refine ac EC ntmps23 ?_
 refine cP rfl rfl rfl (fun g1_3 => ?_) fun g1_3 => ?_
 cases g1_3
 refine aw ?_
 exact aa ai
abbrev vh : List Value := [.int .i64 0, .int .i64 0, .int .i64 0, .int .i64 0, .int .i64 0, .int .i64 0]
theorem a4w (X : Hx) (hW : MxI W0 X.D) (S : Ms) (g : Nat) (hL : LtOk X.D.M S g) (hK : ∀ A, aR (az W0 A) 1 0 fg) (hH : ∀ A, aR (az W0 A) 0 0 gz) : sQ W0 9 [pV X.hv] (X.H S R) (.tuple #[.agg (Dv (jS X.D.M.c.sl S.n) (lR g (S.ls g))).toArray, iQ 0]) (X.H (xx g S) R) := by
 obtain ⟨s1, s2, s3⟩ := JO hL.mj.r
 have hn := hL.n
 have hdu := hL.due
 have hF := fun R bt bh bd k hk => a4v W0 R X hW S g hL bt bh bd hK hH k hk
 refine sD (B := pt X.hv (eB X S.n) :: eI X.D.ho (X.D, S) :: fN X.ib (X.D.M.c.gl.length, [[], [], [], []]) :: kO X.tb X.D.M.c.sl :: R) (by show Ent (pt X.hv (eB X S.n) :: eI X.D.ho (X.D, S) :: fN X.ib (X.D.M.c.gl.length, S.inp) :: kO X.tb X.D.M.c.sl :: R) _; rw [hdu]; exact ent_refl) ?_
 refine ac func9 ntmps9 ?_
 refine cW (gE rfl rfl) fun bh => ?_
 refine bB fun br => ?_
 refine ag (aj rT (Kw X S.n)) ?_
 refine jF [(bh, 0, _), (X.hv, 0, _)] 15 mixed rfl (cz (cz cG)) (fun hS => ?_)
 refine ae 0 8 hS ?_
 refine eh (is := [8, 12]) (by kernel_rfl) rfl ⟨?_, ?_, trivial⟩
 refine cT (aj call24 (Kl W0 _ X.tb X.D.M.c.sl s1 s2 s3 S.n (by omega))) ?_; clear hS
 rintro _ B_ ⟨rfl, hB_⟩
 obtain rfl := hB_.symm
 refine ⟨aF, fun hS => ?_⟩
 refine ae 9 3 hS ?_
 refine cg 12 (da E4) ?_; clear hS
 rintro _ _ ⟨bt, rfl, rfl⟩
 refine ⟨aF, fun hS => ?_⟩
 refine bG 13 aD fun hS => ?_
 refine ae 14 1 hS ?_
 refine fw ?_
 refine au 8 ?_
 refine dS ?_
 refine ab rfl (eg An Aq (aG qw (aG aO (aG aO ee))) (ge rfl qw rfl rfl (Qaa rfl) SetRL.eq (cm rfl aO rfl rfl (Qaa rfl) SetL.eq ed))) ?_
 refine bB fun bd => ?_
 refine aB aD ?_
 refine cW (kx Lt KN zeroValue1 rfl rfl rfl rfl rfl (by decide) (by decide)) fun bp => ?_
 refine fu (fun k : Nat => k ≤ 4) (fun k => [(1, pV bh), (2, pV br), (6, pV bd), (36, .slice (some ⟨bp, 0, none⟩) 4 4), (37, iQ 4), (38, iQ k)]) (fun k => pt br (a8 vh 45) :: pt bp (a8 [j8 bt bh bd 0, j8 bt bh bd 1, j8 bt bh bd 2, j8 bt bh bd 3] 1) :: j7 X S (rI S g k) (rJ S g k) bt bh bd (kO X.tb X.D.M.c.sl :: R)) (fun k => 4 - k) 0 ?_ ?_ ?_ ?_
 exact QaE _
 · repeat (first | exact cI | refine cj rfl ?_)
 show Ent _ (pt br (a8 vh 45) :: pt bp (a8 [.func (.func 25) #[] #[pV bt, pV bh, pV bd], .func (.func 27) #[] #[pV bt, pV bd, pV bh], .func (.func 29) #[] #[pV bh, pV bt, pV bd], .func (.func 31) #[] #[pV bd, pV bh, pV bt]] 1) :: j7 X S S 0 bt bh bd (kO X.tb X.D.M.c.sl :: R))
 exact IO
 intro k hk
 refine aw ?_
 refine ah (fun c9 => ?_) fun c9 => ?_
 have hk4 : k < 4 := by omega
 refine a7 (bE hk4) ?_
 refine a7 (aH (aE (Kv bt bh bd hk4))) ?_
 refine ag (nx (B := j7 X S (rI S g k) (rJ S g k) bt bh bd (pt br (a8 vh 45) :: pt bp (a8 [j8 bt bh bd 0, j8 bt bh bd 1, j8 bt bh bd 2, j8 bt bh bd 3] 1) :: kO X.tb X.D.M.c.sl :: R)) inferInstance (fQ (us := []) (cs := Aa bt bh bd k) rfl (Ku k) rfl (hF _ bt bh bd k hk4))) ?_
 refine a7 cQ ?_
 exact cv (k + 1) (by omega)
 obtain rfl : k = 4 := by omega
 unfold j7
 rw [show rI S g 4 = S.sl g (kM g (S.ls g)) from rfl, show rJ S g 4 = lR g (S.ls g) from rfl]
 refine a7 (dx rfl rfl (by rw [bU (by omega)]; omega : _ = ((S.n + 1 : Nat) : Int))) ?_
 refine aB (dF (show 12 < (tU X S.n).length by show 12 < 13; omega) (show (tU X S.n).set 12 (iQ ((S.n + 1 : Nat) : Int)) = tU X (S.n + 1) from rfl)) ?_
 refine aB aD ?_
 refine bH (.cons (bM Ad vl rfl rfl) (.cons (bP rfl) .nil)) ?_
 refine ⟨_, ⟨rfl, rfl⟩, ?_⟩
 show Ent _ (pt X.hv (eB X (S.n + 1)) :: eI X.D.ho (X.D, S.sl g (kM g (S.ls g))) :: fN X.ib (X.D.M.c.gl.length, S.inp) :: kO X.tb X.D.M.c.sl :: R)
 rw [hdu]
 exact IO
 skip
 refine cT (da E4) ?_; clear hS
 rintro _ _ ⟨bt, rfl, rfl⟩
 refine ⟨aF, fun hS => ?_⟩
 refine bF 8 (aj call24 (Kl W0 _ X.tb X.D.M.c.sl s1 s2 s3 S.n (by omega))) fun hS => ?_
 refine ae 9 3 hS ?_
 refine bG 13 aD fun hS => ?_
 refine ae 14 1 hS ?_
 refine fw ?_
 refine au 8 ?_
 refine dS ?_
 refine ab rfl (eg An Aq (aG qw (aG aO (aG aO ee))) (ge rfl qw rfl rfl (Qaa rfl) SetRL.eq (cm rfl aO rfl rfl (Qaa rfl) SetL.eq ed))) ?_
 refine bB fun bd => ?_
 refine aB aD ?_
 refine cW (kx Lt KN zeroValue1 rfl rfl rfl rfl rfl (by decide) (by decide)) fun bp => ?_
 refine fu (fun k : Nat => k ≤ 4) (fun k => [(1, pV bh), (2, pV br), (6, pV bd), (36, .slice (some ⟨bp, 0, none⟩) 4 4), (37, iQ 4), (38, iQ k)]) (fun k => pt br (a8 vh 45) :: pt bp (a8 [j8 bt bh bd 0, j8 bt bh bd 1, j8 bt bh bd 2, j8 bt bh bd 3] 1) :: j7 X S (rI S g k) (rJ S g k) bt bh bd (kO X.tb X.D.M.c.sl :: R)) (fun k => 4 - k) 0 ?_ ?_ ?_ ?_
 exact QaE _
 · repeat (first | exact cI | refine cj rfl ?_)
 show Ent _ (pt br (a8 vh 45) :: pt bp (a8 [.func (.func 25) #[] #[pV bt, pV bh, pV bd], .func (.func 27) #[] #[pV bt, pV bd, pV bh], .func (.func 29) #[] #[pV bh, pV bt, pV bd], .func (.func 31) #[] #[pV bd, pV bh, pV bt]] 1) :: j7 X S S 0 bt bh bd (kO X.tb X.D.M.c.sl :: R))
 exact IO
 intro k hk
 refine aw ?_
 refine ah (fun c9 => ?_) fun c9 => ?_
 have hk4 : k < 4 := by omega
 refine a7 (bE hk4) ?_
 refine a7 (aH (aE (Kv bt bh bd hk4))) ?_
 refine ag (nx (B := j7 X S (rI S g k) (rJ S g k) bt bh bd (pt br (a8 vh 45) :: pt bp (a8 [j8 bt bh bd 0, j8 bt bh bd 1, j8 bt bh bd 2, j8 bt bh bd 3] 1) :: kO X.tb X.D.M.c.sl :: R)) inferInstance (fQ (us := []) (cs := Aa bt bh bd k) rfl (Ku k) rfl (hF _ bt bh bd k hk4))) ?_
 refine a7 cQ ?_
 exact cv (k + 1) (by omega)
 obtain rfl : k = 4 := by omega
 unfold j7
 rw [show rI S g 4 = S.sl g (kM g (S.ls g)) from rfl, show rJ S g 4 = lR g (S.ls g) from rfl]
 refine a7 (dx rfl rfl (by rw [bU (by omega)]; omega : _ = ((S.n + 1 : Nat) : Int))) ?_
 refine aB (dF (show 12 < (tU X S.n).length by show 12 < 13; omega) (show (tU X S.n).set 12 (iQ ((S.n + 1 : Nat) : Int)) = tU X (S.n + 1) from rfl)) ?_
 refine aB aD ?_
 refine bH (.cons (bM Ad vl rfl rfl) (.cons (bP rfl) .nil)) ?_
 refine ⟨_, ⟨rfl, rfl⟩, ?_⟩
 show Ent _ (pt X.hv (eB X (S.n + 1)) :: eI X.D.ho (X.D, S.sl g (kM g (S.ls g))) :: fN X.ib (X.D.M.c.gl.length, S.inp) :: kO X.tb X.D.M.c.sl :: R)
 rw [hdu]
 exact IO
abbrev vi (M : Mw) (F : Nat → Ms) (G : Nat → Nat) (j : Nat) : List Value := Dv (jS M.c.sl (F j).n) (lR (G j) ((F j).ls (G j)))
abbrev vj (M : Mw) (F : Nat → Ms) (G : Nat → Nat) (k : Nat) : List Value := (List.range k).flatMap (vi M F G)
theorem a4x (X : Hx) (hW : MxI W0 X.D) (F : Nat → Ms) (G : Nat → Nat) (m : Nat) (hm : m ≤ 400) (hF : ∀ k, k < m → LtOk X.D.M (F k) (G k) ∧ F (k + 1) = xx (G k) (F k)) (hK : ∀ A, aR (az W0 A) 1 0 fg) (hH : ∀ A, aR (az W0 A) 0 0 gz) : sP W0 14 [pV X.hv, iQ m] (X.H (F 0) R) (fun v B => ∃ a c, v = .slice a m c ∧ B = osl 45 6 (.slice a m c) (vj X.D.M F G m) :: X.H (F m) R) := by
 refine ac func14 ntmps14 ?_
 refine ag (aj rT (Kw X (F 0).n)) ?_
 refine a7 (qK rfl rfl (r := (m : Int)) (by split <;> omega)) ?_
 refine a7 (uq rfl rfl (r := (m : Int)) (by split <;> omega)) ?_
 refine fu (fun Y : Nat × Option Addr × Nat => Y.1 ≤ m) (fun Y => [(0, pV X.hv), (5, .slice Y.2.1 Y.1 Y.2.2), (12, iQ m), (13, iQ Y.1)]) (fun Y => osl 45 6 (.slice Y.2.1 Y.1 Y.2.2) (vj X.D.M F G Y.1) :: X.H (F Y.1) R) (fun Y => m - Y.1) (0, none, 0) ?_ ?_ ?_ ?_
 exact QaE _
 · repeat (first | exact cI | refine cj rfl ?_)
 show Ent _ (osl 45 6 (.slice none 0 0) [] :: X.H (F 0) R)
 exact Ent.trans (dP (E := 45) (sz := 6) (k := ent_refl)) inferInstance
 intro ⟨k, a, c⟩ hk
 dsimp only at hk ⊢
 refine aw ?_
 refine aA rfl (fun c5 => ?_) fun c5 => ?_
 refine au 5 ?_
 have hkm : k < m := by omega
 obtain ⟨hL1, hL2⟩ := hF k hkm
 have hD : vj X.D.M F G (k + 1) = vj X.D.M F G k ++ vi X.D.M F G k := by
  unfold vj
  rw [QcC, QaZ]; simp
 refine aU (ab rfl (aW rfl) (ao rfl (mP AH rfl (a4w X hW (F k) (G k) hL1 hK hH)) ?_))
 rintro _ B_ ⟨rfl, hB_⟩
 obtain rfl := hB_.symm
 refine ab rfl (aW rfl) (ab rfl (jY rfl rfl) (ab rfl (jY rfl rfl) ?_))
 refine bB fun bd => ?_
 refine aB aD ?_
 refine cW (gH E0 vl Aq rfl (dX rfl rfl fR) rfl (by decide) (by decide) (by decide)) fun b2 => ?_
 refine ao rfl (eQ (sz := 6) (by_ := 48) (info := Tryz.t45) E0 (by kernel_rfl) rfl rfl rfl rfl (by decide) rfl rfl dW rfl rfl (by simp only [maxLen]; omega) (by omega)) ?_
 rintro _ _ ⟨a3, c3, rfl, rfl⟩
 refine aw ?_
 refine a7 cQ ?_
 refine cv (k + 1, a3, c3) ?_ (hμ := ?_) (he := ?_)
 show k + 1 ≤ m; omega
 show m - (k + 1) < m - k; omega
 dsimp only
 rw [hD, hL2]
 show Ent _ (osl 45 6 (.slice a3 (k + 1) c3) (vj X.D.M F G k ++ [vi X.D.M F G k].flatten) :: X.H (xx (G k) (F k)) R)
 exact IO
 refine aw ?_
 refine aa ?_
 obtain rfl : k = m := by omega
 exact ⟨_, ⟨a, c, rfl, rfl⟩, IO⟩
abbrev oU (b1 b2 : Nat) : Cfg := ⟨0, some ⟨b1, 0, none⟩, 2, [(0, 2, 0), (0, 2, 0)], none, 0, [], none, 0, [], none, 0, [], some ⟨b2, 0, none⟩, 2, [(0, 2), (1, 3)], -1, 0⟩
abbrev ni (b1 b2 : Nat) : Mw := ⟨oU b1 b2, [[], [40]]⟩
abbrev a4y (b1 b2 : Nat) (x : Dk) : Ms := mz (ni b1 b2) x [[], [], [], []]
theorem Kx (b1 b2 : Nat) : rt (oU b1 b2) = true := by kernel_rfl
def nj (k : Nat) : Nat := if k < 2 then 0 else 1
def jA (b1 b2 : Nat) (x : Dk) : Nat → Ms
 | 0 => a4y b1 b2 x
 | k + 1 => xx (nj k) (jA b1 b2 x k)
theorem Ky (b1 b2 : Nat) (x : Dk) : lR 0 ((jA b1 b2 x 0).ls 0) = 4 ∧ lR 0 ((jA b1 b2 x 1).ls 0) = 5 ∧ lR 1 ((jA b1 b2 x 2).ls 1) = 4 ∧ lR 1 ((jA b1 b2 x 3).ls 1) = 5 ∧ lR 1 ((jA b1 b2 x 4).ls 1) = 5 := ⟨by kernel_rfl, by kernel_rfl, by kernel_rfl, by kernel_rfl, by kernel_rfl⟩
theorem Dw (b1 b2 : Nat) (x : Dk) : ∀ k, (jA b1 b2 x k).n = k
 | 0 => rfl
 | k + 1 => Qak (· + 1) (Dw b1 b2 x k)
theorem Kz (b1 b2 : Nat) (x : Dk) : ∀ k, (jA b1 b2 x k).inp = [[], [], [], []]
 | 0 => rfl
 | k + 1 => Kz b1 b2 x k
theorem KA (b1 b2 k : Nat) : nj k < (oU b1 b2).gl.length := by
 unfold nj
 split
 show 0 < 2; decide
 show 1 < 2; decide
theorem KB (b1 b2 : Nat) {x : Dk} (hx : DkOk x) : ∀ k : Nat, MJ (ni b1 b2) (jA b1 b2 x k) (k : Nat) (6 * k : Nat) (k : Nat) 0
 | 0 => MJ.new (M := ni b1 b2) (Kx b1 b2) hx rfl fun i => by
  have h0 : [([] : List It6), [], [], []].getD i [] = [] := by
   match i with
   | 0 => rfl
   | 1 => rfl
   | 2 => rfl
   | 3 => rfl
   | i + 4 => rfl
  rw [h0]
  exact ⟨⟨QcD, fun x hx => by cases hx⟩, QaE _, fun x hx => by cases hx⟩
 | k + 1 => by
  have h := (KB b1 b2 hx k).st (KA b1 b2 k)
  have h2 := h.le (k' := ((k + 1 : Nat) : Int)) (b' := ((6 * (k + 1) : Nat) : Int)) (l' := ((k + 1 : Nat) : Int)) (t' := 0) (by omega) (by omega) (by omega) (Qbd _)
  exact ⟨h2.r, h2.len, h2.li, h2.gb, h2.nn, h2.gl, h2.gf, h2.il, h2.iq⟩
theorem a4z (b1 b2 : Nat) {x : Dk} (hx : DkOk x) (k : Nat) (hk : k < 5) : LtOk (ni b1 b2) (jA b1 b2 x k) (nj k) := by
 have hn := Dw b1 b2 x k
 have hm := (KB b1 b2 hx k).le (k' := 600) (b' := 9600) (l' := 600000) (t' := 600) (by omega) (by omega) (by omega) (by decide)
 obtain ⟨x0, x1, x2, x3, x4⟩ := Ky b1 b2 x
 refine ⟨?_, KA b1 b2 k, ?_, hm, Kz b1 b2 x k, ?_, ?_, by rw [hn]; omega⟩
 rw [hn]
 match k, hk with
 | 0, _ => rfl
 | 1, _ => rfl
 | 2, _ => rfl
 | 3, _ => rfl
 | 4, _ => rfl
 rw [hn]
 match k, hk with
 | 0, _ => exact fun h => absurd h.2.2 (by decide)
 | 1, _ => exact fun h => absurd (h.2.1.symm.trans (show (jS (ni b1 b2).c.sl 1).o = 1 by kernel_rfl)) (by decide)
 | 2, _ => exact fun h => absurd (h.1.symm.trans (show (jS (ni b1 b2).c.sl 2).s = 1 by kernel_rfl)) (by decide)
 | 3, _ => exact fun h => absurd (h.1.symm.trans (show (jS (ni b1 b2).c.sl 3).s = 1 by kernel_rfl)) (by decide)
 | 4, _ => exact fun h => absurd (h.1.symm.trans (show (jS (ni b1 b2).c.sl 4).s = 1 by kernel_rfl)) (by decide)
 have h0 : tN (oU b1 b2) ((0 : Nat) : Int) = none := by kernel_rfl
 have h1 : tN (oU b1 b2) ((1 : Nat) : Int) = none := by kernel_rfl
 unfold nj
 split
 exact h0
 exact h1
 match k, hk with
 | 0, _ => exact fun e => absurd (x0.symm.trans e) (by decide)
 | 1, _ => exact fun e => absurd (x1.symm.trans e) (by decide)
 | 2, _ => exact fun e => absurd (x2.symm.trans e) (by decide)
 | 3, _ => exact fun e => absurd (x3.symm.trans e) (by decide)
 | 4, _ => exact fun e => absurd (x4.symm.trans e) (by decide)
theorem a4A (b1 b2 : Nat) (x : Dk) : vi (ni b1 b2) (jA b1 b2 x) nj 2 = [iQ 1, iQ 1, iQ 0, iQ 0, iQ 4, iQ 1] := by
 unfold vi
 rw [show lR (nj 2) ((jA b1 b2 x 2).ls (nj 2)) = 4 from (Ky b1 b2 x).2.2.1, Dw, show jS (ni b1 b2).c.sl 2 = ⟨1, 1, 0, 0⟩ by kernel_rfl]
 rfl
abbrev h38 (b1 b2 : Nat) (R : List HP) : List HP := pt b2 (a8 [.int .i64 0, .int .i64 2, .int .i64 1, .int .i64 3] 114) :: pt b1 (a8 [.int .i64 0, .int .i64 2, .int .i64 0, .int .i64 0, .int .i64 2, .int .i64 0] 112) :: R
theorem a4C : sP W0 18 [] R (fun v B => ∃ b1 b2, v = .agg (cX (oU b1 b2)).toArray ∧ B = h38 b1 b2 R) := by
 refine ac func18 ntmps18 ?_
 refine bB fun b0 => ?_
 refine cW (gH vn rK a50 rfl (dX rfl rfl (dX rfl rfl fR)) rfl (by decide) (by decide) (by decide)) fun b1 => ?_
 refine cW (gH rO Af a51 rfl (dX rfl rfl (dX rfl rfl fR)) rfl (by decide) (by decide) (by decide)) fun b2 => ?_
 refine aB aD ?_
 refine mQ (b := b1) (o' := a8 [iQ 0, iQ 2, iQ 0, iQ 0, iQ 2, iQ 0] 112) rfl ?_
 refine mQ (b := b2) (o' := a8 [iQ 0, iQ 2, iQ 1, iQ 3] 114) rfl ?_
 refine bH (.cons (bM KH rL rfl rfl) .nil) ?_
 exact ⟨_, ⟨b1, b2, rfl, rfl⟩, IO⟩
abbrev xy (bi bw : Nat) : Scr := ⟨some ⟨bi, 0, none⟩, 2, [⟨none, 0, []⟩, ⟨some ⟨bw, 0, none⟩, 1, [40]⟩], none, 0, [], none, 0, []⟩
theorem tV (hK : ∀ A, aR (az W0 A) 1 0 fg) (hH : ∀ A, aR (az W0 A) 0 0 gz) : sQ W0 7 [] R (.bool true) R := by
 refine jG 7 func7 ntmps7 ?_
 refine ao rfl (ix call18 rfl (a4C)) ?_
 rintro _ B_ ⟨b1, b2, rfl, hB_⟩
 obtain rfl := hB_.symm
 refine dR (kx vp bL a59 rfl rfl rfl rfl rfl (by decide) (by decide)) fun bw => ?_
 refine dR (kx DV Ah a57 rfl rfl rfl rfl rfl (by decide) (by decide)) fun bi => ?_
 refine mQ (b := bw) (o' := a8 ([40].flatMap mZ) 62) rfl ?_
 refine mQ (b := bi) (o' := a8 ([(⟨none, 0, []⟩ : Img), ⟨some ⟨bw, 0, none⟩, 1, [40]⟩].flatMap vW) 63) rfl ?_
 refine a2X (fun v _ => v = .bool true) (fun v B hv => ⟨R, ⟨hv, rfl⟩, a27 (A := [_, _, _, _])⟩) fun W hW => ?_
 have hrt := Kx b1 b2
 have hG : ∀ A, bK (az W A) (some ⟨b1, 0, none⟩) 3 iz [(0, 2, 0), (0, 2, 0)] := yy hW (sF (b := b1) (fun _ => rfl) rfl)
 have hS : ∀ A, bK (az W A) (some ⟨b2, 0, none⟩) 2 dU [(0, 2), (1, 3)] := yy hW (sF (b := b2) (fun _ => rfl) rfl)
 have hw : ∀ A, bK (az W A) (some ⟨bw, 0, none⟩) 1 mZ [40] := yy hW (sF (b := bw) (fun _ => rfl) rfl)
 have hi : ∀ A, bK (az W A) (some ⟨bi, 0, none⟩) 1 vW [⟨none, 0, []⟩, ⟨some ⟨bw, 0, none⟩, 1, [40]⟩] := yy hW (sF (b := bi) (fun _ => rfl) rfl)
 have hok : CfK W (oU b1 b2) := ⟨⟨hG, fun A => qL, fun A => qL, fun A => qL, hS, Qaj _⟩, Qaj _⟩
 have hsc : ScrOk W (xy bi bw) := ⟨hi, fun x hx => by
  simp only [QaN, List.not_mem_nil, or_false] at hx
  rcases hx with rfl | rfl
  exact fun A => qL
  exact hw, fun x hx => by
  simp only [QaN, List.not_mem_nil, or_false] at hx
  rcases hx with rfl | rfl
  exact ⟨Qaj _, by show 0 < 9223372036854775808; decide⟩
  exact ⟨Qaj _, by show 1 < 9223372036854775808; decide⟩, fun x hx => by
  simp only [QaN, List.not_mem_nil, or_false] at hx
  rcases hx with rfl | rfl
  intro w hw; cases hw
  intro w hw
  simp at hw; omega, fun A => qL, (fun x hx => by cases hx), fun A => qL, (fun x hx => by cases hx)⟩
 have hK1 := BG hW (hK _)
 have hH1 := BG hW (hH _)
 clear hW
 refine ab rfl (eg DW zeroValue33 (aG KR (aG sizeOf30 (aG sizeOf31 ee))) (cm rfl KR rfl rfl (Qaa rfl) SetL.eq ed)) ?_
 refine ao rfl (ix Mb rfl (Kr (oU b1 b2) hok hrt (xy bi bw) hsc (QaE _) (by show 0 < 9223372036854775808; decide))) ?_
 rintro _ B_ ⟨X, x, rfl, hB_, hXM, hXl, hdx⟩
 obtain rfl := hB_.symm
 have hX2 : X.D.M = ni b1 b2 := hXM
 have hWX : MxI W X.D := a36 hok hsc hXM hXl
 have hms : mz (gZ (oU b1 b2) (xy bi bw)) (kN x (xy bi bw).sl) (iJ (oU b1 b2).gl.length (iu (xy bi bw))) = jA b1 b2 x 0 := by
  show mz (ni b1 b2) x (iJ 2 []) = _
  rw [Kf]
  rfl
 rw [hms]
 have hF0 : ∀ k, k < 5 → LtOk X.D.M (jA b1 b2 x k) (nj k) ∧ jA b1 b2 x (k + 1) = xx (nj k) (jA b1 b2 x k) := fun k hk => ⟨by rw [hX2]; exact a4z b1 b2 (HD hdx) k hk, rfl⟩
 refine au 13 ?_
 refine cP rfl rfl rfl (fun g2_3 => ?_) fun g2_3 => ?_
 first | cases g2_3 | exact absurd g2_3 (by simp)
 refine au 6 ?_
 refine aA rfl (fun c2 => ?_) fun c2 => ?_
 exact absurd c2 (by decide)
 refine au 5 ?_
 refine ao rfl (mP AI rfl (a4x X hWX (jA b1 b2 x) nj 5 (by decide) hF0 hK1 hH1)) ?_
 rintro _ B_ ⟨a, c, rfl, hB_⟩
 obtain rfl := hB_.symm
 have hd := a4A b1 b2 x
 rw [← hX2] at hd
 refine au 4 ?_
 refine jH (E := 45) (sz := 6) (a := a) (n := 5) (c := c) (vi X.D.M (jA b1 b2 x) nj) (List.range 5) (fun _ => rfl) (by decide) rfl (fun hs => ?_)
 obtain ⟨ga, o, hga, hc⟩ := hs.at_ (i := 2) (by decide)
 rw [show (List.range 5)[2]'(by decide) = 2 from rfl, hd] at hc
 refine au 5 ?_
 refine pi rfl rfl rfl (fun g5_4 => ?_) fun g5_4 => ?_
 refine au 2 ?_
 refine ab rfl (fT E0 vl rfl hga rfl (i := 2) rfl (by decide) (by first | exact Qac _ | rfl)) ?_
 refine eK rfl rfl (ab rfl (gd Ad vl rfl hc rfl) ?_)
 refine eK rfl rfl (ab rfl (eg Ll E4 (aG aO (aG aO (aG aO (aG aO ee)))) (cm rfl aO rfl rfl (Qaa rfl) SetL.eq (cm rfl aO rfl rfl (Qaa rfl) SetL.eq ed))) ?_)
 refine eK rfl rfl (ab rfl (eg An Aq (aG qw (aG aO (aG aO ee))) (ge rfl qw rfl rfl (Qaa rfl) SetRL.eq (cm rfl aO rfl rfl (Qaa rfl) SetL.eq (cm rfl aO rfl rfl (Qaa rfl) SetL.eq ed)))) ?_)
 refine eK rfl rfl (k8 2 (rZ Tryz.eqGuardType45 rfl rfl (rY An Tryz.stoodInHeld45 (EP rfl (EO DD qw TakeL.eq) (EO DD qw TakeL.eq) (rY Ll Tryz.stoodInHeld43 (kw rfl cy rfl rfl (kv dw) (kw rfl cy rfl rfl (kv dw) (kw rfl cy rfl rfl (kv dw) (kw rfl cy rfl rfl (kv dw) rX))))) (kw rfl cy rfl rfl (kv dw) (kw rfl cy rfl rfl (kv dw) rX))))) ?_)
 refine pi rfl rfl rfl (fun g5_12 => ?_) fun g5_12 => ?_
 refine au 2 ?_
 refine dE 7 (jD call15 rfl (Ks W _ X (jA b1 b2 x 5).n)) ?_
 refine aa ?_
 exact ⟨[], rfl, IO⟩
 exact absurd (by decide) g5_12
 exact absurd (by decide) g5_4
end
section
open Go.RowKit
theorem a4D (a : Option Addr) (c sz : Nat) : jJ a c 0 sz = a := by
 unfold jJ
 split
 rfl
 cases a with
 | none => rfl
 | some x => rw [Option.map_some, Nat.zero_mul]; rfl
theorem a4E (es : List Evt) (a : Option Addr) (c : Nat) (hN : es.length < 1000000) (hs : bK (az W0 R) a 21 iU es) : sP W0 158 [.slice a es.length c] R (fun v B => ∃ a' c', v = .slice a' es.length c' ∧ B = osl 275 21 (.slice a' es.length c') (es.flatMap iU) :: R) := by
 refine ac func158 ntmps158 ?_
 refine a7 (sr qA rfl rfl) ?_
 refine aA rfl (fun c1 => ?_) fun c1 => ?_
 refine au 7 ?_
 refine aa ?_
 have h0 : es = [] := by
  rcases es with _ | ⟨x, l⟩
  rfl
  obtain ⟨b, o, h, _⟩ := hs 0 x rfl
  rw [c1] at h; cases h
 subst h0
 exact ⟨_, ⟨none, 0, rfl, rfl⟩, dP⟩
 have hsrc := hs.src z9 (fun _ => trivial)
 refine gC (aC (aI (aU (ao rfl (sy qA Ay rfl) ?_))))
 rintro _ _ ⟨b1, rfl, rfl⟩
 refine aw ?_
 refine ao rfl (ut (sz := 21) (by_ := 96) (info := Tryz.t275) qA (by kernel_rfl) rfl rfl rfl rfl (by decide) rfl rfl (news := es.flatMap iU) (by
 rcases hsrc with h | ⟨bs, os, h1, h2⟩
 left; rw [h]; rfl
 right; exact ⟨bs, os, h1, h2.weak⟩) (bX z9 es) (zn XT es) (by simp only [maxLen]; omega) (by omega)) ?_
 rintro _ _ ⟨a1, c1, rfl, rfl⟩
 refine aw ?_
 refine aa ?_
 rw [Qac, Qan]
 exact ⟨_, ⟨a1, c1, rfl, rfl⟩, IO⟩
theorem a4F (b : Nat) (es : List Evt) (hN : es.length < 1000000) : sP W0 91 [pV b, iQ 0] (fz b es :: R) (fun v B => ∃ a' c', v = .slice a' es.length c' ∧ B = osl 275 21 (.slice a' es.length c') (es.flatMap iU) :: fz b es :: R) := by
 refine ac func91 ntmps91 ?_
 refine ag (aj LN (Cj b es)) ?_
 refine za (b := b) fun a c => ?_
 refine jH (E := 275) (sz := 21) (a := a) (n := es.length) (c := c) iU es z9 (by decide) rfl (fun hs => ?_)
 refine bu [b] 15 fun hS => ?_
 refine ae 0 10 hS ?_
 refine ax 10 hS (qK rfl rfl (show _ = (0 : Int) by split <;> omega)) ?_
 refine ax 11 hS (uq rfl rfl (show _ = (0 : Int) from rfl)) ?_
 refine ax 12 hS (pD (i := 0) (a' := a) qA Ay rfl rfl rfl (QaE _) (a4D a c 21)) ?_
 refine cg 13 (ar call158 (a4E es a c hN hs)) ?_; clear hS
 rintro _ B_ ⟨a', c', rfl, hB_⟩
 obtain rfl := hB_.symm
 refine ⟨aF, fun hS => ?_⟩
 refine ae 14 1 hS ?_
 refine aK ?_
 refine aa ?_
 exact ⟨_, ⟨a', c', rfl, rfl⟩, Ent.cons (wE rfl rfl)⟩
theorem a4G (b : Nat) (es : List Evt) (hN : es.length < 1000000) : sP W0 44 [pV b] (fz b es :: R) (fun v B => ∃ a' c', v = .slice a' es.length c' ∧ B = osl 275 21 (.slice a' es.length c') (es.flatMap iU) :: fz b es :: R) := by
 refine ac func44 ntmps44 ?_
 refine ao rfl (aj call91 (a4F b es hN)) ?_
 rintro _ B_ ⟨a', c', rfl, hB_⟩
 obtain rfl := hB_.symm
 refine aw ?_
 refine aa ?_
 exact ⟨_, ⟨a', c', rfl, rfl⟩, IO⟩
end
section
open Go.RowKit
set_option linter.unusedSimpArgs false
set_option linter.unusedVariables false
set_option maxRecDepth 20000
set_option synthInstance.maxSize 4000
set_option synthInstance.maxHeartbeats 2000000
theorem a4H (b : Nat) (x : Gt) (hN : x.l.length < 100000) : sP W0 47 [pV b] (qt b x :: R) (fun v B => ∃ a c, v = .slice a x.l.length c ∧ B = osl 155 3 (.slice a x.l.length c) (x.l.flatMap n3) :: qt b x :: R) := by
 refine ac func47 ntmps47 ?_
 refine a2O (b := b) fun a c => ?_
 refine jH (E := 155) (sz := 3) (a := a) (n := x.l.length) (c := c) n3 x.l Dt (by decide) rfl (fun hs => ?_)
 refine aw ?_
 refine ag (aj call92 (a2R W0 _ b _ c a x)) ?_
 refine ao rfl (ar call93 (a4l x.l a x.l.length c rfl (by omega) hs)) ?_
 rintro _ B_ ⟨a2, cc, rfl, hB_⟩
 obtain rfl := hB_.symm
 refine aw ?_
 refine aa ?_
 exact ⟨_, ⟨a2, cc, rfl, rfl⟩, Ent.cons (a2P rfl rfl)⟩
section
variable (W0 : World) (R : List HP) (X : Hx) (S : Ms) (n : Nat)
theorem KC (i : Int) (hi : i < 0 ∨ (X.D.gbs.length : Int) ≤ i) : sQ W0 11 [pV X.hv, iQ i] (pt X.hv (eB X n) :: R) (.pointer none) (pt X.hv (eB X n) :: R) := by
 refine ac func11 ntmps11 ?_
 refine dE 1 (aj rT (xw X n)) ?_
 refine cP rfl rfl rfl (fun g1_3 => ?_) fun g1_3 => ?_
 exact absurd g1_3 (by decide)
 refine aw ?_
 refine eR (fun g1_7 => ?_) fun g1_7 => ?_
 exact aa ai
 refine aA rfl (fun c1 => ?_) fun c1 => ?_
 refine au 7 ?_
 exact aa ai
 omega
theorem a4I : sQ W0 45 [pV X.hv] (pt X.hv (eB X n) :: R) (pV X.D.ho) (pt X.hv (eB X n) :: R) := by
 refine ac func45 ntmps45 ?_
 refine ag (aj rT (xw X n)) ?_
 exact aa ai
theorem a4J (i : Nat) (hi : i < X.D.gbs.length) : sP W0 43 [pV (X.D.gb i)] (eI X.D.ho (X.D, S) :: R) (fun v B => ∃ z wg, Zq (X.D.q S i) z wg ∧ v = pV z.tr ∧ B = X.D.O S i z wg R) := by
 refine Dm hi fun z wg hz => ?_
 refine lZ sk (iy (a2D W0 _ (X.D.gb i) z (S.at_ i).g) fun v B hB => ?_)
 obtain ⟨rfl, rfl⟩ := hB
 exact ⟨_, ⟨z, wg, hz, rfl, rfl⟩, IO⟩
theorem a4K (i : Nat) (hi : i < X.D.gbs.length) (hN : (S.at_ i).g.es.length < 1000000) : sP W0 16 [pV X.hv, iQ i] (pt X.hv (eB X n) :: eI X.D.ho (X.D, S) :: R) (fun v B => ∃ a c, v = .slice a (S.at_ i).g.es.length c ∧ B = osl 275 21 (.slice a (S.at_ i).g.es.length c) ((S.at_ i).g.es.flatMap iU) :: pt X.hv (eB X n) :: eI X.D.ho (X.D, S) :: R) := by
 refine ac func16 ntmps16 ?_
 refine ag (cJ AJ (Du W0 _ X S n i hi)) ?_
 refine ao rfl (aj call43 (a4J W0 _ X S i hi)) ?_
 rintro _ B_ ⟨z, wg, hz, rfl, hB_⟩
 obtain rfl := hB_.symm
 refine ao rfl (aj call44 (a4G z.tr (S.at_ i).g.es hN)) ?_
 rintro _ B_ ⟨a, c, rfl, hB_⟩
 obtain rfl := hB_.symm
 refine aw ?_
 refine aa ?_
 refine ⟨_, ⟨a, c, rfl, rfl⟩, ?_⟩
 refine Ent.trans (B := osl 275 21 (.slice a (S.at_ i).g.es.length c) ((S.at_ i).g.es.flatMap iU) :: pt X.hv (eB X n) :: X.D.O S i z wg R) inferInstance ?_
 exact Ent.cons (Ent.cons (Dn hi hz))
theorem a4L (hN : S.gt.l.length < 100000) : sP W0 17 [pV X.hv] (pt X.hv (eB X n) :: eI X.D.ho (X.D, S) :: R) (fun v B => ∃ a c, v = .slice a S.gt.l.length c ∧ B = osl 155 3 (.slice a S.gt.l.length c) (S.gt.l.flatMap n3) :: pt X.hv (eB X n) :: eI X.D.ho (X.D, S) :: R) := by
 refine ac func17 ntmps17 ?_
 refine Km (D := X.D) (S := S) ?_
 refine aw ?_
 refine ag (aj call45 (a4I W0 _ X n)) ?_
 refine ag (aj call46 (a4m X.D.ho X.D.M.c X.D.ps X.D.pb X.D.db X.D.qb X.D.tb)) ?_
 refine ao rfl (aj call47 (a4H X.D.tb S.gt hN)) ?_
 rintro _ B_ ⟨a, c, rfl, hB_⟩
 obtain rfl := hB_.symm
 refine aw ?_
 refine aa ?_
 refine ⟨_, ⟨a, c, rfl, rfl⟩, ?_⟩
 refine Ent.trans (B := osl 155 3 (.slice a S.gt.l.length c) (S.gt.l.flatMap n3) :: pt X.hv (eB X n) :: X.D.H S R) inferInstance ?_
 exact Ent.cons (Ent.cons A2)
end
end
section
open Go.RowKit
def Zo (o : Obj) (p : Option Addr) (A : List HP) : Prop := p = none ∨ ∃ b, p = some ⟨b, 0, none⟩ ∧ Ent A [pt b o]
theorem Zo.cons {o : Obj} {p : Option Addr} {A : List HP} {c : HP} (h : Zo o p A) : Zo o p (c :: A) := by
 rcases h with h | ⟨b, h1, h2⟩
 exact .inl h
 exact .inr ⟨b, h1, Ent.drop.trans h2⟩
theorem a4M {W0 : World} {A : List HP} {b off ty : Nat} {l : List Value} {v : Value} (h : Ent A [pt b (a8 l ty)]) (hv : l[off]? = some v) : iM (az W0 A) b off v :=
  iM.weak (B := [pt b (a8 l ty)]) (aE (R := []) hv)
abbrev Dx : Obj := a8 [.int .i64 0, .slice none 0 0, .slice none 0 0, .slice none 0 0, .slice none 0 0, .slice none 0 0, .int .i64 0, .int .i64 0, .pointer none, .slice none 0 0, .pointer none, .pointer none, .int .i64 0] 77
theorem KD (W0 : World) (A : List HP) (p : Option Addr) (h : Zo Dx p A) : sQ W0 23 [.pointer p] A (.bool true) A := by
 rcases h with rfl | ⟨b, rfl, h⟩
 refine ac EC ntmps23 ?_
 refine eR (fun g1_3 => ?_) fun g1_3 => ?_
 exact aa ai
 exact absurd rfl g1_3
 skip
 refine ac EC ntmps23 ?_
 refine cP rfl rfl rfl (fun g1_3 => ?_) fun g1_3 => ?_
 cases g1_3
 refine aw ?_
 refine a7 (aH (a4M h rfl)) ?_
 exact aa ai
theorem Ab (W0 : World) (A : List HP) (p : Option Addr) (h : Zo Dx p A) : sQ W0 9 [.pointer p] A (.tuple #[.agg #[iQ 0, iQ 0, iQ 0, iQ 0, iQ 0, iQ 0], iQ 7]) A := by
 refine ac func9 ntmps9 ?_
 refine cW (gE rfl rfl) fun b1 => ?_
 refine bB fun b2 => ?_
 refine ag (ar rT (KD W0 _ p h.cons.cons)) ?_
 refine aB aD ?_
 exact bH (.cons (bM Ad vl rfl rfl) (.cons (bP rfl) .nil)) ai
theorem Ac (W0 : World) (A : List HP) (p : Option Addr) (h : Zo Dx p A) (i : Int) : sQ W0 14 [.pointer p, iQ i] A (.slice none 0 0) A := by
 refine ac func14 ntmps14 ?_
 refine ag (ar rT (KD W0 _ p h)) ?_
 exact aa ai
end
section
open Go.RowKit
set_option linter.unusedSimpArgs false
set_option linter.unusedVariables false
set_option maxRecDepth 20000
set_option synthInstance.maxSize 4000
set_option synthInstance.maxHeartbeats 2000000
theorem KE (W0 : World) (hK : ∀ A, aR (az W0 A) 1 0 fg) (hH : ∀ A, aR (az W0 A) 0 0 gz) (c : Cfg) (h : CfK W0 c) (s : Scr) (e f : Int) (hf : iA c = f) (he : (f ≠ 0 ∧ e = f) ∨ (f = 0 ∧ e = 10 ∧ 256 < s.nl.length)) (hN : ∀ R, aZ Tryz.prog W0 8 [.agg (cX c).toArray, .agg (kY s).toArray] R (fun v B => v = .tuple #[.pointer none, iQ e] ∧ B = R)) :
    aZ Tryz.prog W0 4 [.agg (cX c).toArray, .agg (kY s).toArray] [] (fun v B => v = .bool true) := by
 refine ac ED ntmps4 ?_
 refine aV fun bc => ?_
 refine aV fun bs => ?_
 refine ag (ar call5 (Kp c)) ?_
 refine ah (fun c1 => ?_) fun c1 => ?_
 refine ag (ar vu (tV hK hH)) ?_
 refine aa ?_
 exact ⟨[], rfl, IO⟩
 refine ag (ar Mb (hN _)) ?_
 refine ao rfl (ar ua (qP c h.ok)) ?_
 rintro _ B_ ⟨at_, rfl, hB_⟩
 obtain rfl := hB_.symm
 rw [hf]
 refine aw ?_
 refine eR (fun g5_3 => ?_) fun g5_3 => ?_
 refine ah (fun c6 => ?_) fun c6 => ?_
 refine ag (ar AH (Ab W0 _ none (.inl rfl))) ?_
 refine bB fun bd => ?_
 refine aB aD ?_
 refine cA (fun g9_3 => ?_) fun g9_3 => ?_
 refine cA (fun g9_8 => ?_) fun g9_8 => ?_
 refine cA (fun g9_12 => ?_) fun g9_12 => ?_
 refine ag (ar AI (Ac W0 _ none (.inl rfl) 3)) ?_
 refine cA (fun g9_18 => ?_) fun g9_18 => ?_
 refine ag (ar vu (tV hK hH)) ?_
 refine aa ?_
 exact ⟨[], rfl, IO⟩
 exact absurd rfl g9_18
 exact absurd rfl g9_12
 exact absurd (by omega) g9_8
 exact absurd rfl g9_3
 refine ag (ar AH (Ab W0 _ none (.inl rfl))) ?_
 refine bB fun bd => ?_
 refine aB aD ?_
 refine cA (fun g9_3 => ?_) fun g9_3 => ?_
 refine cA (fun g9_8 => ?_) fun g9_8 => ?_
 refine cA (fun g9_12 => ?_) fun g9_12 => ?_
 refine ag (ar AI (Ac W0 _ none (.inl rfl) 3)) ?_
 refine cA (fun g9_18 => ?_) fun g9_18 => ?_
 refine ag (ar vu (tV hK hH)) ?_
 refine aa ?_
 exact ⟨[], rfl, IO⟩
 exact absurd rfl g9_18
 exact absurd rfl g9_12
 exact absurd (by omega) g9_8
 exact absurd rfl g9_3
 refine aA rfl (fun c5 => ?_) fun c5 => ?_
 refine au 7 ?_
 refine ah (fun c6 => ?_) fun c6 => ?_
 refine ag (ar AH (Ab W0 _ none (.inl rfl))) ?_
 refine bB fun bd => ?_
 refine aB aD ?_
 refine cA (fun g9_3 => ?_) fun g9_3 => ?_
 refine cA (fun g9_8 => ?_) fun g9_8 => ?_
 refine cA (fun g9_12 => ?_) fun g9_12 => ?_
 refine ag (ar AI (Ac W0 _ none (.inl rfl) 3)) ?_
 refine cA (fun g9_18 => ?_) fun g9_18 => ?_
 refine ag (ar vu (tV hK hH)) ?_
 refine aa ?_
 exact ⟨[], rfl, IO⟩
 exact absurd rfl g9_18
 exact absurd rfl g9_12
 exact absurd (by omega) g9_8
 exact absurd rfl g9_3
 refine ag (ar AH (Ab W0 _ none (.inl rfl))) ?_
 refine bB fun bd => ?_
 refine aB aD ?_
 refine cA (fun g9_3 => ?_) fun g9_3 => ?_
 refine cA (fun g9_8 => ?_) fun g9_8 => ?_
 refine cA (fun g9_12 => ?_) fun g9_12 => ?_
 refine ag (ar AI (Ac W0 _ none (.inl rfl) 3)) ?_
 refine cA (fun g9_18 => ?_) fun g9_18 => ?_
 refine ag (ar vu (tV hK hH)) ?_
 refine aa ?_
 exact ⟨[], rfl, IO⟩
 exact absurd rfl g9_18
 exact absurd rfl g9_12
 exact absurd (by omega) g9_8
 exact absurd rfl g9_3
 omega
theorem a4N (W0 : World) (hK : ∀ A, aR (az W0 A) 1 0 fg) (hH : ∀ A, aR (az W0 A) 0 0 gz) (c : Cfg) (h : CfK W0 c) (hr : rt c = true) (s : Scr) (hs : ScrOk W0 s) (hl : s.nl.length ≤ 256) (hsl : s.sl.length < 9223372036854775808) : sP W0 4 [.agg (cX c).toArray, .agg (kY s).toArray] [] (fun v B => v = .bool true) := by
 have hck : iA c = 0 := Qat hr
 have hg4 := (eV hr).g4
 refine ac ED ntmps4 ?_
 refine aV fun bc => ?_
 refine aV fun bs => ?_
 refine ag (ar call5 (Kp c)) ?_
 refine ah (fun c1 => ?_) fun c1 => ?_
 refine ag (ar vu (tV hK hH)) ?_
 refine aa ?_
 exact ⟨[], rfl, IO⟩
 refine ao rfl (ar Mb (Kr c h hr s hs hl hsl)) ?_
 rintro _ B_ ⟨X, x, rfl, hB_, hXM, hXl, hdx⟩
 obtain rfl := hB_.symm
 have hg := fun j => a3S (M := gZ c s) hr (x := kN x s.sl) (inp := iJ c.gl.length (iu s)) j
 have hgt : (mz (gZ c s) (kN x s.sl) (iJ c.gl.length (iu s))).gt.l = [] := rfl
 have hn0 : (mz (gZ c s) (kN x s.sl) (iJ c.gl.length (iu s))).n = 0 := rfl
 obtain ⟨S, hS⟩ : ∃ S, mz (gZ c s) (kN x s.sl) (iJ c.gl.length (iu s)) = S := ⟨_, rfl⟩
 rw [hS] at hg hgt hn0 ⊢
 refine aw ?_
 refine ao rfl (ar ua (qP c h.ok)) ?_
 rintro _ B_ ⟨at_, rfl, hB_⟩
 obtain rfl := hB_.symm
 rw [hck]
 refine aw ?_
 refine eR (fun g5_3 => ?_) fun g5_3 => ?_
 exact absurd rfl g5_3
 refine aA rfl (fun c5 => ?_) fun c5 => ?_
 omega
 refine au 2 ?_
 refine ec (fun _ : Unit => True) (fun _ => [(2, pV bc), (5, pV X.hv)]) (fun _ => pt bc (a8 (cX c) 28) :: X.H S []) ?_ ?_
 refine au 1 ?_
 refine bu [bc] 32 fun hS => ?_
 refine ae 0 1 hS ?_
 refine ax 1 hS (EN a5O rfl rfl) ?_
 refine ae 2 1 hS ?_
 refine lY (t := 64) rfl ?_ ?_
 intro g10_3
 first | cases g10_3 | exact absurd g10_3 (by simp)
 intro g10_3
 refine ae 3 4 hS ?_
 refine lY (t := 68) rfl ?_ ?_
 intro g10_7
 exact absurd rfl g10_7
 intro g10_7
 refine ae 7 1 hS ?_
 refine bF 8 (aj call15 (Ks W0 _ X S.n)) fun hS => ?_
 refine ae 9 3 hS ?_
 refine lY (t := 73) rfl ?_ ?_
 intro g10_12
 omega
 intro g10_12
 refine ae 12 1 hS ?_
 refine ae 14 3 hS ?_
 refine bF 13 (aj call10 (a4n W0 _ X S.n)) fun hS => ?_
 refine ae 17 3 hS ?_
 refine lY (t := 81) rfl ?_ ?_
 intro g10_20
 omega
 intro g10_20
 refine ae 20 1 hS ?_
 refine bF 21 (aj AJ (KC W0 _ X S.n (-1) (.inl (by decide)))) fun hS => ?_
 refine ax 22 hS (AX Lo rfl rfl) ?_
 refine ae 23 2 hS ?_
 refine lY (t := 86) rfl ?_ ?_
 intro g10_25
 exact absurd rfl g10_25
 intro g10_25
 refine ae 25 4 hS ?_
 refine bF 29 (aj AJ (KC W0 _ X S.n (c.gl.length : Nat) (.inr (by omega)))) fun hS => ?_
 refine ax 30 hS (AX Lo rfl rfl) ?_
 refine ae 31 1 hS ?_
 refine aK ?_
 refine ah (fun c10 => ?_) fun c10 => ?_
 exact absurd rfl c10
 exact cq () trivial
 intro _ _
 refine aw ?_
 refine dr (fun i : Nat => i ≤ c.gl.length) (fun i => [(2, pV bc), (5, pV X.hv), (11, iQ i)]) (fun _ => pt bc (a8 (cX c) 28) :: X.H S []) (fun i => c.gl.length - i) 0 ?_ ?_
 exact QaE _
 intro i hi
 refine aw ?_
 refine ah (fun c13 => ?_) fun c13 => ?_
 have hi4 : i < c.gl.length := by omega
 have hig : i < X.D.gbs.length := by omega
 refine ag (cJ AJ (Du W0 _ X S S.n i hig)) ?_
 refine cP rfl rfl rfl (fun g15_5 => ?_) fun g15_5 => ?_
 first | cases g15_5 | exact absurd g15_5 (by simp)
 refine aw ?_
 refine ao rfl (cJ call16 (a4K W0 _ X S S.n i hig (by rw [hg]; decide))) ?_
 rintro _ B_ ⟨a5, k5, rfl, hB_⟩
 obtain rfl := hB_.symm
 refine aw ?_
 refine cP rfl rfl rfl (fun g15_12 => ?_) fun g15_12 => ?_
 rw [hg] at g15_12; exact absurd rfl g15_12
 refine aw ?_
 refine ag (cJ AJ (Du W0 _ X S S.n i hig)) ?_
 refine ag (aj call12 (a4o W0 _ X S i hig)) ?_
 refine aA rfl (fun c15 => ?_) fun c15 => ?_
 rw [hg] at c15; exact absurd rfl c15
 refine aw ?_
 refine a7 cQ ?_
 exact cv (i + 1) (by omega)
 refine ao rfl (cJ call17 (a4L W0 _ X S S.n (by rw [hgt]; decide))) ?_
 rintro _ B_ ⟨a6, k6, rfl, hB_⟩
 obtain rfl := hB_.symm
 rw [hgt]
 refine aw ?_
 refine cA (fun g17_5 => ?_) fun g17_5 => ?_
 refine ag (ar vu (tV hK hH)) ?_
 refine aa ?_
 exact ⟨[], rfl, IO⟩
 exact absurd rfl g17_5
theorem a4O (W0 : World) (hK : ∀ A, aR (az W0 A) 1 0 fg) (hH : ∀ A, aR (az W0 A) 0 0 gz) (c : Cfg) (h : CfK W0 c) (s : Scr) (hs : ScrOk W0 s) (hsl : s.sl.length < 9223372036854775808) : sP W0 4 [.agg (cX c).toArray, .agg (kY s).toArray] [] (fun v B => v = .bool true) := by
 cases hr : rt c with
 | false =>
  have he : iA c ≠ 0 := fun q => by
   have : rt c = true := Qaw q
   rw [hr] at this; cases this
  exact KE W0 hK hH c h s (iA c) (iA c) rfl (.inl ⟨he, rfl⟩) fun R => iy (a4i W0 R c h hr s) fun v B hB => ⟨_, ⟨hB.1, hB.2.1⟩, ent_refl⟩
 | true =>
  rcases Qay 256 s.nl.length with q | q
  exact KE W0 hK hH c h s 10 0 (Qat hr) (.inr ⟨rfl, rfl, q⟩) fun R => a4j c h hr s q
  exact a4N W0 hK hH c h hr s hs q hsl
end
section
open Go.RowKit
section
variable {P : Program} {w : World} {enc : TypeId × Value → Unit} {base : Nat} {sp : Nat → Bool} {held : Bool}
theorem Dy {fuel : Nat} {t : TypeId} {cs : List Value} {a b : Int} {f0 f1 : Field} {p : List MemPlace} (hs : P.underlying t = some (.struct #[f0, f1])) (h0 : P.underlying f0.type = some (.int .i64)) (h1 : P.underlying f1.type = some (.int .i64)) (o0 : f0.offset = 0) (o1 : f1.offset = 1) (c0 : P.cellsOf f0.type = 1) (c1 : P.cellsOf f1.type = 1) (ct : P.cellsOf t = 2)
    (h : DataW.trod enc P w base sp held fuel t cs = some (.agg [.lit (.int .i64 a), .lit (.int .i64 b)], p)) : cs = [.int .i64 a, .int .i64 b] := by
 cases fuel with
 | zero => simp [DataW.trod] at h
 | succ fuel =>
  simp only [DataW.trod, hs] at h
  split at h
  rename_i hl
  rw [ct] at hl
  obtain ⟨xs, hm, hx⟩ := Option.map_eq_some_iff.1 h
  obtain ⟨y0, e0, g0⟩ := Qcx hm 0 f0 rfl
  obtain ⟨y1, e1, g1⟩ := Qcx hm 1 f1 rfl
  obtain ⟨z0, q0, rfl, _⟩ := DataW.trod_int h0 g0
  obtain ⟨z1, q1, rfl, _⟩ := DataW.trod_int h1 g1
  rw [o0, c0] at q0
  rw [o1, c1] at q1
  match cs, hl with
  | [u, v], _ =>
   simp at q0 q1
   have hxs := Qak Prod.fst hx
   have hlen := Go.Lib.mapM_length hm
   match xs, hlen with
   | [x0, x1], _ =>
    simp at e0 e1
    subst e0; subst e1
    simp at hxs
    rw [q0, q1, hxs.1, hxs.2]
  cases h
theorem a4P {fuel : Nat} {t e : TypeId} {cs : List Value} {f0 f1 : Field} {p : List MemPlace} (ht : P.underlying t = some (.array 3 e)) (hs : P.underlying e = some (.struct #[f0, f1])) (h0 : P.underlying f0.type = some (.int .i64)) (h1 : P.underlying f1.type = some (.int .i64)) (o0 : f0.offset = 0) (o1 : f1.offset = 1) (c0 : P.cellsOf f0.type = 1) (c1 : P.cellsOf f1.type = 1) (ce : P.cellsOf e = 2) (ct : P.cellsOf t = 6)
    (h : DataW.trod enc P w base sp held fuel t cs = some (.agg [.agg [.lit (.int .i64 0), .lit (.int .i64 4)], .agg [.lit (.int .i64 1), .lit (.int .i64 1)], .agg [.lit (.int .i64 2), .lit (.int .i64 2)]], p)) : cs = fg := by
 cases fuel with
 | zero => simp [DataW.trod] at h
 | succ fuel =>
  simp only [DataW.trod, ht] at h
  split at h
  rename_i hl
  rw [ct] at hl
  obtain ⟨xs, hm, hx⟩ := Option.map_eq_some_iff.1 h
  obtain ⟨⟨d0, p0⟩, e0, g0⟩ := Qcx hm 0 0 rfl
  obtain ⟨⟨d1, p1⟩, e1, g1⟩ := Qcx hm 1 1 rfl
  obtain ⟨⟨d2, p2⟩, e2, g2⟩ := Qcx hm 2 2 rfl
  have hxs := Qak Prod.fst hx
  have hlen := Go.Lib.mapM_length hm
  match xs, hlen with
  | [x0, x1, x2], _ =>
   simp at e0 e1 e2
   subst e0; subst e1; subst e2
   simp at hxs
   obtain ⟨rfl, rfl, rfl⟩ := hxs
   have r0 := Dy hs h0 h1 o0 o1 c0 c1 ce g0
   have r1 := Dy hs h0 h1 o0 o1 c0 c1 ce g1
   have r2 := Dy hs h0 h1 o0 o1 c0 c1 ce g2
   rw [ce] at r0 r1 r2
   match cs, hl with
   | [u0, u1, u2, u3, u4, u5], _ =>
    simp at r0 r1 r2
    rw [r0.1, r0.2, r1.1, r1.2, r2.1, r2.2]
    rfl
  cases h
end
theorem a4Q {W : World} {ps : List MemPlace} (h : DataW.LaidVars Tryz.prog W [("hermitage/mmu.kinds", (.agg [.agg [.lit (.int .i64 0), .lit (.int .i64 4)], .agg [.lit (.int .i64 1), .lit (.int .i64 1)], .agg [.lit (.int .i64 2), .lit (.int .i64 2)]] : DataW Unit))] ps) : ∀ A, aR (az W A) 1 0 fg := by
 obtain ⟨g', t', cs, fuel, p, q, hg', ht', hvar, hd, _, _⟩ := h
 have hg : Tryz.prog.globalNamed "hermitage/mmu.kinds" = some 1 := by kernel_rfl
 obtain rfl := Qbe (hg.symm.trans hg')
 have hty : (Tryz.prog.globals[1]?).map (·.type) = some 585 := by kernel_rfl
 obtain rfl := Qbe (hty.symm.trans ht')
 have hc : cs.toList = fg := a4P a58 a5W dw dw rfl rfl (by kernel_rfl) (by kernel_rfl) (by kernel_rfl) (by kernel_rfl) hd
 intro A i v hi
 refine xY ?_
 have := World.var?_cell hg hvar i
 rw [Qac, this, ← Array.getElem?_toList, hc]; exact hi
section
variable {P : Program} {w : World} {enc : TypeId × Value → Unit} {base : Nat} {sp : Nat → Bool} {held : Bool}
theorem a4R {fuel n : Nat} {t e : TypeId} {cs : List Value} {ls : List Nat} {p : List MemPlace} (ht : P.underlying t = some (.array n e)) (he : P.underlying e = some (.int .i64)) (ce : P.cellsOf e = 1) (ct : P.cellsOf t = n)
    (h : DataW.trod enc P w base sp held fuel t cs = some (.agg (ls.map fun z => .lit (.int .i64 ((z : Nat) : Int))), p)) : cs = ls.map fun z => .int .i64 ((z : Nat) : Int) := by
 cases fuel with
 | zero => simp [DataW.trod] at h
 | succ fuel =>
  simp only [DataW.trod, ht] at h
  split at h
  rename_i hl
  rw [ct] at hl
  obtain ⟨xs, hm, hx⟩ := Option.map_eq_some_iff.1 h
  have hxs : xs.map (·.1) = ls.map fun z => (.lit (.int .i64 ((z : Nat) : Int)) : DataW Unit) := by
   grind
  have hlen := Go.Lib.mapM_length hm
  rw [List.length_range] at hlen
  have hll : ls.length = n := by
   have := Qak List.length hxs
   simp at this; omega
  apply Qba (by simp; omega)
  intro i h1 h2
  have hi : i < n := by omega
  obtain ⟨⟨d, q⟩, e0, g0⟩ := Qcx hm i i (by simp [hi])
  obtain ⟨m, q0, q1, _⟩ := DataW.trod_int he g0
  have h3 : (xs.map (·.1))[i]? = some d := by grind
  rw [hxs, Qce, Qbw (show i < ls.length by omega)] at h3
  have h4 : d = .lit (.int .i64 m) := Qak Prod.fst q1
  rw [h4] at h3
  simp at h3
  rw [ce, Qbc, Qbk h1] at q0
  rw [(List.cons.inj q0).1, List.getElem_map, h3]
  cases h
end
theorem a4S {W : World} {ps : List MemPlace} {r : List (String × DataW Unit)} (h : DataW.LaidVars Tryz.prog W (("hermitage/isa.has", (.agg (vY.map fun z => .lit (.int .i64 ((z : Nat) : Int))) : DataW Unit)) :: r) ps) : (∀ A, aR (az W A) 0 0 gz) ∧ ∃ q, DataW.LaidVars Tryz.prog W r q := by
 obtain ⟨g', t', cs, fuel, p, q, hg', ht', hvar, hd, hr, _⟩ := h
 refine ⟨?_, q, hr⟩
 have hg : Tryz.prog.globalNamed "hermitage/isa.has" = some 0 := by kernel_rfl
 obtain rfl := Qbe (hg.symm.trans hg')
 have hty : (Tryz.prog.globals[0]?).map (·.type) = some 448 := by kernel_rfl
 obtain rfl := Qbe (hty.symm.trans ht')
 have hc : cs.toList = gz := a4R a5Q dw (by kernel_rfl) (by kernel_rfl) hd
 intro A i v hi
 refine xY ?_
 have := World.var?_cell hg hvar i
 rw [Qac, this, ← Array.getElem?_toList, hc]; exact hi
theorem a4T {W : World} (h : laidMet Tryz.prog [("hermitage/isa.has", (.agg (vY.map fun z => .lit (.int .i64 ((z : Nat) : Int))) : DataW Unit)), ("hermitage/mmu.kinds", (.agg [.agg [.lit (.int .i64 0), .lit (.int .i64 4)], .agg [.lit (.int .i64 1), .lit (.int .i64 1)], .agg [.lit (.int .i64 2), .lit (.int .i64 2)]] : DataW Unit))] W) :
    (∀ A, aR (az W A) 0 0 gz) ∧ ∀ A, aR (az W A) 1 0 fg := by
 obtain ⟨ps, h, _⟩ := h
 obtain ⟨h1, q, h2⟩ := a4S h
 exact ⟨h1, a4Q h2⟩
end
end Go.Proofs.YtjaalpinjajaoaaGreatDoor
