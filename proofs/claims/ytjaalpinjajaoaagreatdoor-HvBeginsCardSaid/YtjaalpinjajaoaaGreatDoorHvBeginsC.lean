/-
  Part 3 of the proof of HvBegins: rules, and walks of functions. Conditions: none.
-/
import Derived.Test.YtjaalpinjajaoaaGreatDoorHvBeginsB
namespace Go.Proofs.YtjaalpinjajaoaaGreatDoor
open Go.Proofs.Tryz
set_option linter.unusedSimpArgs false
set_option linter.unusedVariables false
set_option maxRecDepth 20000
set_option linter.defProp false
set_option synthInstance.maxSize 8192
set_option synthInstance.maxHeartbeats 2000000
variable {W0 : World} {R : List HP}
section
open Go.RowKit
def pL (pg : List Pl) (a : Nat) : Int := (bS pg (nK a)).1
theorem WB (W0 : World) (R : List HP) (pv ps pm : Nat) (pg : List Pl) (h : Pgs pg) (pa n : Nat) (hpa : pa + n ≤ 512) (dd : Nat → Nat) (ff : Nat → List ap) (DH : Nat → HP) (gf : FuncId) (us : List Value)
    (hcall : ∀ args w, (callFunc gf args).run Tryz.prog w = .ok (.enter gf args) w)
    (hdo : ∀ i, i < n → ∀ R', Ent R' R → aZ Tryz.prog W0 gf (iQ (pL pg (pa + i)) :: iQ ((pa + i) % 64 : Nat) :: iQ (i : Nat) :: us) (pt pv (cu ps pm (dd i)) :: bj ps (ff i) :: pt pm (bN pg) :: kH 0 (DH i) :: R')
      (fun v B => v = .tuple #[] ∧ B = pt pv (cu ps pm (dd (i + 1))) :: bj ps (ff (i + 1)) :: pt pm (bN pg) :: kH 0 (DH (i + 1)) :: R')) :
    aZ Tryz.prog W0 312 [pQ pv, .int .u32 pa, iQ n, .func (.func gf) #[] us.toArray] (pt pv (cu ps pm (dd 0)) :: bj ps (ff 0) :: pt pm (bN pg) :: kH 0 (DH 0) :: R)
      (fun v B => v = .tuple #[] ∧ B = pt pv (cu ps pm (dd n)) :: bj ps (ff n) :: pt pm (bN pg) :: kH 0 (DH n) :: R) := by
 refine ac func312 ntmps312 ?_
 refine cW (gE rfl rfl) fun b1 => ?_
 refine cW (gE rfl rfl) fun b2 => ?_
 refine a7 (cR (by first | exact bU (by omega) | rfl)) ?_
 refine ao rfl (ar call316 (GW pa n)) ?_
 rintro _ B_ ⟨bn, bp, rfl, hB_⟩
 obtain rfl := hB_.symm
 refine au 3 ?_
 refine yh (fun C => C = pt b2 (a8 [.func (.func gf) #[] us.toArray] 459) :: pt b1 (a8 [pQ pv] 94) :: pt pv (cu ps pm (dd n)) :: bj ps (ff n) :: pt pm (bN pg) :: kH 0 (DH n) :: R) (fun C => False) rfl call381 ?_ ?_ ?_
 intro L D
 refine GX pa n (fun i => pt b2 (a8 [.func (.func gf) #[] us.toArray] 459) :: pt b1 (a8 [pQ pv] 94) :: pt pv (cu ps pm (dd i)) :: bj ps (ff i) :: pt pm (bN pg) :: kH 0 (DH i) :: R) (fun i => True) (by omega) (by omega) ya trivial (fun hI => rfl) ?_
 intro at_ R' h1 h2
 simp only [Qar, Qan]
 refine vM rfl rfl ?_
 refine aU (ao rfl (da Lx) ?_)
 rintro _ _ ⟨b3, rfl, rfl⟩
 refine i7 1 aD ?_
 refine vL rfl ?_
 refine kQ (aI (aU (ab rfl (ci KM rfl (aE rfl)) ?_)))
 refine ab rfl (d3 rfl xK rfl aO rfl (by first | exact Qac _ | rfl)) ?_
 refine ab rfl (ci cy rfl (aE rfl)) ?_
 refine ao rfl (vD call317 rfl (GU pv ps pm (dd at_) (ff at_) pg h (((pa + at_) / 64 : Nat) : Int))) ?_
 rintro _ B_ ⟨rfl, hB_⟩
 obtain rfl := hB_.symm
 have hpos := GV (pa := pa) (n := n) (at_ := at_) h1
 refine ab rfl (aW rfl) (ab rfl (jY rfl rfl) (ab rfl (jY rfl rfl) (ab rfl (bq rfl) (ab rfl (bq rfl) (aM (aC (aI ?_)))))))
 refine gJ (r := d5) (b := L) (TW fun HL hHL => ?_)
 refine aU ?_
 refine ab rfl (d3 rfl xK rfl aO rfl (by first | exact Qac _ | rfl)) ?_
 refine ab rfl (ci cy rfl (aE rfl)) ?_
 refine ab rfl (aW rfl) (aM (aC (kQ ?_)))
 refine fu (fun i : Nat => i ≤ gX pa n at_) (fun i => [(4, .pointer (some ⟨b1, 0, none⟩)), (7, .pointer (some ⟨b2, 0, none⟩)), (8, .pointer (some ⟨b3, 0, none⟩)), (9, .int .i64 (pL pg (pa + at_))), (25, .int .i64 (gX pa n at_ : Nat)), (26, .int .i64 i)]) (fun i => kH 1 HL :: pt D (.deferred (some [])) :: pt b3 (a8 (Cb pa n at_) 465) :: pt b2 (a8 [.func (.func gf) #[] us.toArray] 459) :: pt b1 (a8 [.pointer (some ⟨pv, 0, none⟩)] 94) :: pt pv (cu ps pm (dd (at_ + i))) :: bj ps (ff (at_ + i)) :: pt pm (bN pg) :: kH 0 (DH (at_ + i)) :: (R ++ R')) (fun i => gX pa n at_ - i) 0 ?_ ?_ ?_ ?_
 omega
 · repeat (first | exact cI | refine cj rfl ?_)
 simp only [Qcc]; exact inferInstance
 intro i hi
 refine aI (aU (ab rfl (pd rfl rfl) (aM (aC (aI ?_)))))
 refine aA rfl (fun c5 => ?_) fun c5 => ?_
 refine gC ?_
 refine aC (aI (kQ (aI (aU (ab rfl (aW rfl) (ab rfl (bq rfl) (aM (aC ?_))))))))
 have hlt : i < gX pa n at_ := by omega
 have hd := hdo (at_ + i) (by omega)
 rw [show pL pg (pa + (at_ + i)) = pL pg (pa + at_) by rw [pL, nK, (GY hlt).1]; rfl, (GY hlt).2] at hd
 refine aU (ab rfl (ci isAgg459 rfl (aE rfl)) ?_)
 refine ab rfl (aW rfl) ?_
 refine ab rfl (d3 rfl xK rfl aO rfl (by first | exact Qac _ | rfl)) ?_
 refine ab rfl (ci cy rfl (aE rfl)) ?_
 refine ab rfl (aW rfl) ?_
 refine ab rfl (dx rfl rfl (by rw [bU (by omega)]; omega : IntKind.wrap .i64 ((((pa + at_) % 64 : Nat) : Int) + (i : Int)) = (((pa + at_) % 64 + i : Nat) : Int))) ?_
 refine ab rfl (d3 rfl xK rfl aO rfl (by first | exact Qac _ | rfl)) ?_
 refine ab rfl (ci cy rfl (aE rfl)) ?_
 refine ab rfl (aW rfl) (a7 (eC (at_ + i)) ?_)
 refine ao rfl (TU rfl hcall rfl (hd _ inferInstance)) ?_
 rintro _ B_ ⟨rfl, hB_⟩
 obtain rfl := hB_.symm
 refine aM (mI (aC (aU ?_)))
 refine ab rfl (dx rfl rfl (by first | exact bU (by omega) | rfl)) ?_
 refine ab rfl (aW rfl) (aM (aC ?_))
 refine cv (i + 1) ?_ (he := ?_)
 omega
 simp only [← Qcg]; exact inferInstance
 refine au 5 ?_
 have e1 : i = gX pa n at_ := by omega
 subst e1
 subst hHL
 refine TX ?_
 refine ul ?_
 exact ⟨_, .inl ⟨rfl, trivial, rfl⟩, IO⟩
 intro D C hC
 obtain rfl := hC
 refine au 1 ?_
 refine qF (.inr rfl) .nil ?_
 exact ai
 intro D C hC
 exact hC.elim
def pM (fr : List ap) (pg : List Pl) (a : Nat) : Nat := l6 fr (pL pg a) ((a % 64 : Nat) : Int) 1
def lc (fr : List ap) (pg : List Pl) (pa n : Nat) : List Nat := (List.range n).map fun i => pM fr pg (pa + i)
def pN (fr : List ap) (pg : List Pl) (pa : Nat) (n : Int) : List Nat := if l9 fr.length pg pa n then lc fr pg pa n.toNat else []
theorem WC {fr : List ap} (hF : cB fr) (f off : Int) : l6 fr f off 1 < 256 := by
 unfold l6; split
 rename_i hf
 obtain ⟨i, rfl, hi⟩ := qU hf
 unfold oq; split
 have hb := (hF.get hi).2
 have := vR ((hb.drop off.toNat).take (1 : Int).toNat)
 refine Nat.lt_of_lt_of_le this ?_
 have : ((List.drop off.toNat (fr.getD (i : Int).toNat [])).take (1 : Int).toNat).length ≤ 1 := by simp; omega
 exact Nat.pow_le_pow_right (by decide) this
 decide
 decide
theorem H0 {fr : List ap} (hF : cB fr) (pg : List Pl) (a : Nat) : pM fr pg a < 256 := WC hF _ _
theorem yV (fr : List ap) (pg : List Pl) (pa n : Nat) : (lc fr pg pa n).length = n := by simp [lc]
theorem H1 {fr : List ap} (hF : cB fr) (pg : List Pl) (pa n : Nat) : By (lc fr pg pa n) := fun b hb => by
 obtain ⟨i, _, rfl⟩ := QaS.1 hb
 exact H0 hF _ _
def lJ (f : Nat → Nat) (n i : Nat) : List Nat := (List.range n).map fun j => if j < i then f j else 0
theorem WE (f : Nat → Nat) (n i : Nat) : (lJ f n i).length = n := by simp [lJ]
theorem WG (f : Nat → Nat) (n : Nat) : cn (lJ f n 0) = List.replicate n (bV 0) := by
 apply Qba <;> simp [lJ, cn]
theorem WH (f : Nat → Nat) (n : Nat) : lJ f n n = (List.range n).map f := by
 simp_all [Qba, lJ]
theorem WI {f : Nat → Nat} {n i : Nat} (hi : i < n) : (cn (lJ f n i)).set i (bV (f i)) = cn (lJ f n (i + 1)) := by
 apply Qba
 simp [lJ, cn]
 grind [lJ, cn]
theorem WJ {f : Nat → Nat} {n i : Nat} (hi : i < n) : (cn (lJ f n i)).set (i * 1) (bV (f i)) = cn (lJ f n (i + 1)) := by rw [Qbc]; exact WI hi
abbrev Cc (pv b1 b2 g n i : Nat) (f : Nat → Nat) : HP := aS [pt b1 (a8 [.pointer (some ⟨pv, 0, none⟩)] 94), pt b2 (a8 [.slice (some ⟨g, 0, none⟩) n n] 293), pt g (a8 (cn (lJ f n i)) 5)]
theorem WK (W0 : World) (R : List HP) (pv ps pm d b1 b2 g n i : Nat) (fr : List ap) (pg : List Pl) (hF : cB fr) (pa : Nat) (hi : i < n) (hn : n ≤ 512) : sQ W0 313 [iQ (pL pg (pa + i)), iQ ((pa + i) % 64 : Nat), iQ (i : Nat), pQ b1, pQ b2] (pt pv (cu ps pm d) :: bj ps fr :: pt pm (bN pg) :: kH 0 (Cc pv b1 b2 g n i (fun j => pM fr pg (pa + j))) :: R) (.tuple #[]) (pt pv (cu ps pm d) :: bj ps fr :: pt pm (bN pg) :: kH 0 (Cc pv b1 b2 g n (i + 1) (fun j => pM fr pg (pa + j))) :: R) := by
 have hlt := H0 hF pg (pa + i)
 refine lZ (sk (r1 := kH) (b1 := 0)) (nz ?_)
 simp only [Qar, Qan]
 refine ac func313 ntmps313 ?_
 refine ag (aj call211 (Gi ps fr _ _ 1 hF)) ?_
 refine a7 (cR (EW (by grind [l6, pL, pM]))) ?_
 refine a7 (bE hi) ?_
 refine aB (dF (by rw [jI, WE]; omega) (WJ (f := fun j => pM fr pg (pa + j)) hi)) ?_
 refine bA (.inr rfl) .nil ?_
 exact ai
theorem WL (pv ps pm d : Nat) (fr : List ap) (pg : List Pl) (h : Pgs pg) (hF : cB fr) (pa : Nat) (hpa : pa < 4294967296) (n : Int) : sP W0 233 [pQ pv, .int .u32 pa, iQ n] (pt pv (cu ps pm d) :: bj ps fr :: pt pm (bN pg) :: R) (fun v B => ∃ a c, v = .tuple #[.slice a (pN fr pg pa n).length c, .bool (l9 fr.length pg pa n)] ∧ B = osl 5 1 (.slice a (pN fr pg pa n).length c) (cn (pN fr pg pa n)) :: pt pv (cu ps pm d) :: bj ps fr :: pt pm (bN pg) :: R) := by
 by_cases ho : l9 fr.length pg pa n = true
 obtain ⟨k, rfl⟩ : ∃ k : Nat, n = (k : Int) := ⟨n.toNat, by have := (wy.1 ho).1; omega⟩
 obtain ⟨hk, _⟩ := yU.1 ho
 have hr : pN fr pg pa (k : Int) = lc fr pg pa k := by grind [pN]
 rw [hr, yV, ho]
 refine ac func233 ntmps233 ?_
 refine cW (gE rfl rfl) fun b1 => ?_
 refine ag (dT call235 (GZ pv ps pm d fr pg h pa hpa k)) ?_
 refine ah (fun c1 => ?_) fun c1 => ?_
 exact absurd ho c1
 refine cW (yi (sz := 1) (by_ := 1) (info := Tryz.t5) nV (by kernel_rfl) rfl rfl rfl rfl (by decide) rfl rfl rfl rfl (by omega) (by decide)) fun b2 => ?_
 refine cW (mK zeroValue293 rfl) fun b3 => ?_
 refine aB dq ?_
 rw [show List.replicate (k * 1) (Value.int .u8 0) = cn (lJ (fun j => pM fr pg (pa + j)) k 0) by rw [WG, Qbc]; rfl]
 refine ag (nx inferInstance (ar call312 (WB W0 R pv ps pm pg h pa k hk (fun _ => d) (fun _ => fr) (fun i => Cc pv b1 b3 b2 k i (fun j => pM fr pg (pa + j))) 313 [pQ b1, pQ b3] call313 (fun i hi R' hR => WK W0 R' pv ps pm d b1 b3 b2 k i fr pg hF pa hi (by omega))))) ?_
 refine yk ?_
 simp only [Qar, Qan]
 refine aw ?_
 refine aT ?_
 rw [WH]
 exact ⟨_, ⟨some ⟨b2, 0, none⟩, k, rfl, rfl⟩, TY (by simp only [maxLen]; omega) (by simp_all [Qbc, jI, yV])⟩
 have hr : pN fr pg pa n = [] := by grind [pN]
 have ho' : l9 fr.length pg pa n = false := by grind
 rw [hr, ho']
 refine ac func233 ntmps233 ?_
 refine cW (gE rfl rfl) fun b1 => ?_
 refine ag (dT call235 (GZ pv ps pm d fr pg h pa hpa n)) ?_
 refine ah (fun c1 => ?_) fun c1 => ?_
 refine aT ?_
 exact ⟨_, ⟨none, 0, rfl, rfl⟩, dP⟩
 exact absurd (by rw [ho']; decide) c1
def ii (d n : Nat) : List Nat := (List.range n).filter fun i => Nat.testBit d i
def wz (n : Nat) : Value := .int .i64 (n : Int)
def uJ (l : List Nat) : List Value := l.map wz
theorem H2 (d n : Nat) : ii d (n + 1) = ii d n ++ (if Nat.testBit d n then [n] else []) := by
 grind [ii, QcC]
theorem H3 (d n : Nat) : (ii d n).length ≤ n := by
 grind [QaQ, Nat.testBit, List.range, ii]
theorem WM (pv ps pm d : Nat) (hd : d < 4096) : sP W0 253 [pQ pv] (pt pv (cu ps pm d) :: R) (fun v B => ∃ a c, v = .slice a (ii d 12).length c ∧ B = osl 3 1 (.slice a (ii d 12).length c) (uJ (ii d 12)) :: pt pv (cu ps pm 0) :: R) := by
 refine ac func253 ntmps253 ?_
 refine dE 2 (aj Aw (wu pv ps pm d)) ?_
 refine aA rfl (fun c1 => ?_) fun c1 => ?_
 exact absurd c1 (by decide)
 refine aw ?_
 refine fu (fun x : Nat × Option Addr × Nat => x.1 ≤ 12) (fun x => [(0, pQ pv), (3, .slice x.2.1 (ii d x.1).length x.2.2), (7, iQ x.1)]) (fun x => osl 3 1 (.slice x.2.1 (ii d x.1).length x.2.2) (uJ (ii d x.1)) :: pt pv (cu ps pm d) :: R) (fun x => 12 - x.1) (0, none, 0) ?_ ?_ ?_ ?_
 simp
 · repeat (first | exact cI | refine cj rfl ?_)
 exact dP
 intro ⟨i, a, c⟩ hi
 dsimp only at hi ⊢
 have hl := H3 d i
 refine aw ?_
 refine ah (fun c5 => ?_) fun c5 => ?_
 refine a7 (kR rfl rfl (by omega) (oi (by simp [IntKind.bits]; omega))) ?_
 refine a7 (fD rfl rfl (m7 (b := 1) (QaR (Qcq _ _) (by omega)) (by omega))) ?_
 refine ah (fun c7 => ?_) fun c7 => ?_
 have hb : Nat.testBit d i = true := by
  grind
 have hs : ii d (i + 1) = ii d i ++ [i] := by grind [H2]
 refine cW (kx fC aO lV rfl rfl rfl rfl rfl (by decide) (by decide)) fun b1 => ?_
 refine ao rfl (eQ (sz := 1) (by_ := 8) (info := Tryz.t3) fC (by kernel_rfl) rfl rfl rfl rfl (by decide) rfl rfl dW rfl rfl (by simp only [maxLen]; omega) (by omega)) ?_
 rintro _ _ ⟨a1, c1, rfl, rfl⟩
 refine aw ?_
 refine a7 cQ ?_
 refine ue (i + 1, a1, c1) ?_ ?_ ?_ ?_
 omega
 omega
 · simp only [hs, Qad, QaH, Qcb]; repeat (first | exact cI | refine cj rfl ?_)
 simp only [hs, uJ, QaF, Qaz, Qbt, wz, Qad, QaH, Qcb]; exact inferInstance
 have hb : ¬ Nat.testBit d i = true := by
  grind
 have hs : ii d (i + 1) = ii d i := by grind [H2]
 obtain ⟨a1, rfl⟩ : ∃ x, x = a := ⟨a, rfl⟩
 obtain ⟨c1, rfl⟩ : ∃ x, x = c := ⟨c, rfl⟩
 refine a7 cQ ?_
 refine ue (i + 1, a1, c1) ?_ ?_ ?_ ?_
 omega
 omega
 · simp only [hs, Qad, QaH, Qcb]; repeat (first | exact cI | refine cj rfl ?_)
 simp only [hs, uJ, QaF, Qaz, Qbt, wz, Qad, QaH, Qcb]; exact inferInstance
 refine aB dq ?_
 refine aa ?_
 have e1 : i = 12 := by omega
 subst e1
 exact ⟨_, ⟨a, c, rfl, rfl⟩, IO⟩
theorem WN {len : Nat} {pg : List Pl} {n : Int} : mX len pg n = true ↔ aX pg n = true ∧ n < 8 ∧ (bS pg n).1 < len := by
 grind [mX]
def mY (n : Nat) (pg : List Pl) (pa : Nat) (w kind : Int) : Int := if ez n pg pa w kind = 0 then ((pa / 64 : Nat) : Int) else 0
def mi (n : Nat) (pg : List Pl) (pa : Nat) (w kind : Int) : Int := if ez n pg pa w kind = 0 then (bS pg ((pa / 64 : Nat) : Int)).1 else 0
def ml (n : Nat) (pg : List Pl) (pa : Nat) (w kind : Int) : Int := if ez n pg pa w kind = 0 then ((pa % 64 : Nat) : Int) else 0
theorem H4 {n : Nat} {pg : List Pl} {pa : Nat} {w kind : Int} : nJ n pg pa w kind = [iQ (mY n pg pa w kind), iQ (mi n pg pa w kind), iQ (ml n pg pa w kind), .bool false] := by
 grind [nJ, mY, mi, ml]
theorem a7K {r : Int} (h : 0 ≤ r ∧ r ≤ 15) : jX .u32 1 (2 * r) = 1 + 2 * r := by
 obtain ⟨n, rfl⟩ := Int.eq_ofNat_of_zero_le h.1
 have hd : ∀ n, n < 16 → 1 ||| 2 * n = 1 + 2 * n := by decide
 have := vP (a := 1) (b := 2 * n) (by omega) (by omega)
 rw [hd n (by omega)] at this
 simpa using this
def lg (w : Nat) : Int := if w % 2 = 0 then 4 else if w = w % 32 + 256 * (w / 256 % 32) then 0 else 5
def uK (w : Nat) : Bool := decide (lg w = 0)
def gR (w : Nat) : Nat := if lg w = 0 then w / 2 % 16 else 0
def gP (w : Nat) : Nat := if lg w = 0 then w / 256 % 32 else 0
def gV (w : Nat) : Value := .agg #[.bool (uK w), .int .i64 (gR w), .int .i64 (gP w)]
theorem WO {w : Nat} (h : w < 4294967296) : fi .u32 w 1 = ((w % 2 : Nat) : Int) := by
 grind [m7, un]
theorem H5 {w : Nat} (h : w < 4294967296) : fi .u32 w 15 = ((w % 16 : Nat) : Int) := by
 have := m7 (b := 15) h (by omega)
 rw [show w &&& 15 = w % 16 from un (n := 4)] at this
 exact this
theorem WP {w : Nat} (h : w < 4294967296) : fi .u32 w 31 = ((w % 32 : Nat) : Int) := by
 have := m7 (b := 31) h (by omega)
 rw [show w &&& 31 = w % 32 from un (n := 5)] at this
 exact this
theorem WQ {w : Nat} (h : w < 4294967296) : p7 .u32 w 7967 = ((w - (w % 32 + 256 * (w / 256 % 32)) : Nat) : Int) := by
 grind [U1, U2]
theorem WR {w : Nat} : lv .u32 w 1 = ((w / 2 : Nat) : Int) := oi (s := 1) (by decide)
theorem WT {w : Nat} : lv .u32 w 8 = ((w / 256 : Nat) : Int) := oi (s := 8) (by decide)
theorem H6 (w : Nat) (hw : w < 4294967296) : sQ W0 473 [.int .u32 w] R (.tuple #[gV w, iQ (lg w)]) R := by
 refine ac func473 ntmps473 ?_
 refine bB fun b1 => ?_
 refine a7 (fD rfl rfl (WO hw)) ?_
 refine ah (fun c1 => ?_) fun c1 => ?_
 refine aB aD ?_
 refine bH (.cons (bM tW tZ rfl rfl) (.cons (bP rfl) .nil)) ?_
 refine aQ ?_
 have hF : lg w = 4 := by grind [lg]
 simp [bD, gV, uK, gR, gP, hF]
 refine a7 (xW rfl rfl (WQ hw)) ?_
 refine ah (fun c3 => ?_) fun c3 => ?_
 refine aB aD ?_
 refine bH (.cons (bM tW tZ rfl rfl) (.cons (bP rfl) .nil)) ?_
 refine aQ ?_
 have hF : lg w = 5 := by grind [lg]
 simp [bD, gV, uK, gR, gP, hF]
 refine a7 (kR rfl rfl (by decide) WR) ?_
 refine a7 (fD rfl rfl (H5 (by omega))) ?_
 refine a7 (cR (by first | exact bU (by omega) | rfl)) ?_
 refine a7 (kR rfl rfl (by decide) WT) ?_
 refine a7 (fD rfl rfl (WP (by omega))) ?_
 refine a7 (cR (by first | exact bU (by omega) | rfl)) ?_
 refine aB aD ?_
 refine bH (.cons (bM tW tZ rfl rfl) (.cons (bP rfl) .nil)) ?_
 refine aQ ?_
 have hF : lg w = 0 := by grind [lg]
 simp [bD, gV, uK, gR, gP, hF]
def wA (w : Nat) : Int := if lg w = 0 ∧ gR w = 0 then gP w else 0
def t7 (w : Nat) : Int := if lg w = 0 then (if gR w = 0 then 0 else 5) else lg w
theorem WU (w : Nat) (hw : w < 4294967296) : sQ W0 441 [.int .u32 w] R (.tuple #[iQ (wA w), iQ (t7 w)]) R := by
 refine ac func441 ntmps441 ?_
 refine ag (ar call473 (H6 w hw)) ?_
 refine bB fun b1 => ?_
 refine aB aD ?_
 refine ah (fun c2 => ?_) fun c2 => ?_
 refine aT ?_
 refine aQ ?_
 simp_all [bD, wA, t7]
 refine ah (fun c4 => ?_) fun c4 => ?_
 refine aT ?_
 refine aQ ?_
 simp_all [bD, wA, t7]
 refine aT ?_
 refine aQ ?_
 simp_all [bD, wA, t7]
theorem H7 (w : Nat) : gR w < 16 := by unfold gR; split <;> omega
theorem WV {r : Nat} (h : r < 16) : fi .i64 r 7 = ((r % 8 : Nat) : Int) := by
 have : ∀ r : Nat, r < 16 → fi .i64 r 7 = ((r % 8 : Nat) : Int) := by decide
 exact this r h
def oC (w : Nat) : Bool := decide (lg w = 0 ∧ gR w % 8 = 0)
def pO (w : Nat) : Bool := if oC w then false else uK w
def pP (w : Nat) : Nat := if oC w then 0 else gR w
def pR (w : Nat) : Nat := if oC w then 0 else gP w
def wC (w : Nat) : Value := .agg #[.bool (pO w), .int .i64 (pP w), .int .i64 (pR w)]
def pS (w : Nat) : Int := if oC w then 5 else lg w
theorem WW (w : Nat) (hw : w < 4294967296) : sQ W0 442 [.int .u32 w] R (.tuple #[wC w, iQ (pS w)]) R := by
 refine ac func442 ntmps442 ?_
 refine bB fun b1 => ?_
 refine ag (ar call473 (H6 w hw)) ?_
 refine bB fun b2 => ?_
 refine aB aD ?_
 refine cA (fun g2_3 => ?_) fun g2_3 => ?_
 refine a7 (fD rfl rfl (WV (H7 w))) ?_
 refine ah (fun c2 => ?_) fun c2 => ?_
 refine aB aD ?_
 refine bH (.cons (bM tW tZ rfl rfl) (.cons (bP rfl) .nil)) ?_
 refine aQ ?_
 have hL : oC w = true := by grind [oC]
 simp [bD, wC, pO, pP, pR, pS, hL]
 refine aB aD ?_
 refine bH (.cons (bM tW tZ rfl rfl) (.cons (bP rfl) .nil)) ?_
 refine aQ ?_
 have hL : oC w = false := by grind [oC]
 simp [bD, wC, pO, pP, pR, pS, hL]
 refine aB aD ?_
 refine bH (.cons (bM tW tZ rfl rfl) (.cons (bP rfl) .nil)) ?_
 refine aQ ?_
 have hL : oC w = false := by grind [oC]
 simp [bD, wC, pO, pP, pR, pS, hL]
def ju (k : Int) : Int := if k = 0 then 4 else if k = 1 then 1 else if k = 2 then 2 else 0
def nM (k : Int) : Bool := decide (k = 0 ∨ k = 1 ∨ k = 2)
theorem WX (k : Int) : sQ W0 399 [iQ k] R (.tuple #[iQ (ju k), .bool (nM k)]) R := by
 refine ac func399 ntmps399 ?_
 refine ah (fun c2 => ?_) fun c2 => ?_
 refine aT ?_
 refine aQ ?_
 simp_all [bD, ju, nM]
 refine ah (fun c4 => ?_) fun c4 => ?_
 refine aT ?_
 refine aQ ?_
 simp_all [bD, ju, nM]
 refine ah (fun c6 => ?_) fun c6 => ?_
 refine aT ?_
 refine aQ ?_
 simp_all [bD, ju, nM]
 refine aT ?_
 refine aQ ?_
 simp_all [bD, ju, nM]
def uL (on : Bool) (r : Int) (ns : List Int) : Bool := (ns.all fun c => fi .i64 r c == c) && on
theorem H8 (on : Bool) (r p : Int) (ns : List Int) (b : Nat) (hn : ns.length < 1000) : sQ W0 400 [.agg #[.bool on, iQ r, iQ p], .slice (some ⟨b, 0, none⟩) ns.length ns.length] (pt b (a8 (ns.map (Value.int .i64)) 3) :: R) (.bool (uL on r ns)) (pt b (a8 (ns.map (Value.int .i64)) 3) :: R) := by
 refine ac func400 ntmps400 ?_
 refine aV fun b1 => ?_
 refine dr (fun k => k ≤ ns.length ∧ (ns.take k).all (fun c => fi .i64 r c == c) = true) (fun k => [(2, pQ b1), (4, .bool false), (7, .slice (some ⟨b, 0, none⟩) ns.length ns.length), (8, iQ ns.length), (9, iQ (k : Nat))]) (fun _ => pt b1 (a8 [.bool on, iQ r, iQ p] 491) :: pt b (a8 (ns.map (Value.int .i64)) 3) :: R) (fun k => ns.length - k) 0 ?_ ?_
 simp
 intro k ⟨hk, hall⟩
 refine aw ?_
 refine ah (fun c2 => ?_) fun c2 => ?_
 have hlt : k < ns.length := by omega
 refine a7 (bE hlt) ?_
 refine a7 (aH (aE (v := iQ (ns[k]'hlt)) (by simp [hlt]))) ?_
 refine a7 (fD rfl rfl rfl) ?_
 refine ah (fun c4 => ?_) fun c4 => ?_
 refine aa ?_
 refine aQ ?_
 simp only [bD, uL, Value.bool.injEq]
 have : (ns.all fun c => fi .i64 r c == c) = false := by
  grind
 simp [this]
 refine a7 cQ ?_
 refine cv (k + 1) ?_
 grind [Qam]
 have hke : k = ns.length := by omega
 refine aa ?_
 refine aQ ?_
 subst hke
 simp only [QbM] at hall
 simp [bD, uL, hall]
def en (r : Int) (c : Int) : Bool := fi .i64 r c == c
theorem H9 (on : Bool) (r p k : Int) (user : Bool) : sQ W0 346 [.agg #[.bool on, iQ r, iQ p], iQ k, .bool user] R (.bool (nM k && (en r (ju k) && (!user || en r 8)) && on)) R := by
 refine ac func346 ntmps346 ?_
 refine aV fun b1 => ?_
 refine ag (ar call399 (WX k)) ?_
 refine ah (fun c2 => ?_) fun c2 => ?_
 refine aa ?_
 refine aQ ?_
 simp_all [bD, uL, en, Bool.and_assoc]
 refine ah (fun c4 => ?_) fun c4 => ?_
 refine cW (kx fC aO lV rfl rfl rfl rfl rfl (by decide) (by decide)) fun b2 => ?_
 refine ag (aj call400 (H8 on r p [ju k, 8] _ (by simp))) ?_
 refine aa ?_
 refine aQ ?_
 simp_all [bD, uL, en, Bool.and_assoc]
 refine cW (kx fC aO lV rfl rfl rfl rfl rfl (by decide) (by decide)) fun b3 => ?_
 refine ag (aj call400 (H8 on r p [ju k] _ (by simp))) ?_
 refine aa ?_
 refine aQ ?_
 simp_all [bD, uL, en, Bool.and_assoc]
abbrev dZ (pv ps pm d : Nat) (fr : List ap) (pg : List Pl) (R : List HP) : List HP := pt pv (cu ps pm d) :: bj ps fr :: pt pm (bN pg) :: R
def fV (page : Int) (i : Nat) : Nat := 64 * page.toNat + 4 * (i % 16)
def eU (len : Nat) (pg : List Pl) (page : Int) (i : Nat) : Bool := decide (0 ≤ page ∧ page < 8) && l9 len pg (fV page i) 4
theorem t8 {len : Nat} {pg : List Pl} {page : Int} {i : Nat} : eU len pg page i = true ↔ (0 ≤ page ∧ page < 8) ∧ l9 len pg (fV page i) 4 = true := by
 grind [eU]
def eM (fr : List ap) (pg : List Pl) (page : Int) (i : Nat) : Nat := if eU fr.length pg page i then kW (lc fr pg (fV page i) 4) else 0
theorem Ha {fr : List ap} (hF : cB fr) (pg : List Pl) (page : Int) (i : Nat) : eM fr pg page i < 4294967296 := by
 unfold eM; split
 grind [vR, H1, fV, yV]
 decide
theorem WY {l : List Nat} (h : l.length = 4) : oq l 0 4 = kW l ∧ sT l 0 4 = 0 := by
 have hi : eS l.length 0 4 = true := ka.2 (by omega)
 constructor
 grind [oq]
 grind [sT]
theorem yW (pv ps pm d : Nat) (fr : List ap) (pg : List Pl) (h : Pgs pg) (hF : cB fr) (page : Int) (i : Nat) (hi : i < 4294967296) : sQ W0 440 [pQ pv, iQ page, .int .u32 i] (dZ pv ps pm d fr pg R) (.tuple #[.int .u32 (eM fr pg page i : Nat), .bool (eU fr.length pg page i)]) (dZ pv ps pm d fr pg R) := by
 refine ac func440 ntmps440 ?_
 refine eR (fun g1_3 => ?_) fun g1_3 => ?_
 refine aT ?_
 refine aQ ?_
 have hb : eU fr.length pg page i = false := by grind [t8]
 simp [bD, eM, hb]
 refine ah (fun c1 => ?_) fun c1 => ?_
 refine aT ?_
 refine aQ ?_
 have hb : eU fr.length pg page i = false := by grind [t8]
 simp [bD, eM, hb]
 obtain ⟨p, rfl⟩ : ∃ p : Nat, page = (p : Int) := ⟨page.toNat, by omega⟩
 have hpa : fV (p : Int) i = 64 * p + 4 * (i % 16) := rfl
 refine a7 (pw (64 * p)) ?_
 refine a7 (cR (dO (by omega))) ?_
 refine a7 (fD rfl rfl (H5 hi)) ?_
 refine a7 (pw (4 * (i % 16))) ?_
 refine a7 (dx rfl rfl (by rw [dO (by omega), hpa]; omega : IntKind.wrap .u32 (((64 * p : Nat) : Int) + ((4 * (i % 16) : Nat) : Int)) = ((fV (p : Int) i : Nat) : Int))) ?_
 refine ao rfl (dT call233 (WL pv ps pm d fr pg h hF (fV (p : Int) i) (by omega) 4)) ?_
 rintro _ B_ ⟨a, c, rfl, hB_⟩
 obtain rfl := hB_.symm
 refine aw ?_
 refine ah (fun c4 => ?_) fun c4 => ?_
 have ho : ¬ l9 fr.length pg (fV (p : Int) i) 4 = true := c4
 refine aT ?_
 refine aQ ?_
 have hb : eU fr.length pg p i = false := by rw [← QaB, t8]; rintro ⟨_, q⟩; exact ho q
 simp [bD, eM, hb]
 have ho : l9 fr.length pg (fV (p : Int) i) 4 = true := Qcd.1 c4
 have hb : eU fr.length pg p i = true := t8.2 ⟨by omega, ho⟩
 have hrd : pN fr pg (fV (p : Int) i) 4 = lc fr pg (fV (p : Int) i) 4 := by rw [pN, Qae ho]; rfl
 have hln : (lc fr pg (fV (p : Int) i) 4).length = 4 := yV _ _ _ _
 obtain ⟨hg1, hg2⟩ := WY hln
 rw [hrd]
 refine Bn (E := 5) (sz := 1) (a := a) (c := c) (n := (lc fr pg (fV (p : Int) i) 4).length) (fun hf => ?_)
 obtain ⟨g, rfl⟩ := Bs hf (by intro h0; have := Qak List.length h0; rw [jI, hln] at this; simp at this)
 refine Br (E := 5) (sz := 1) (a := some ⟨g, 0, none⟩) (c := c) (n := (lc fr pg (fV (p : Int) i) 4).length) (fun hcap => ?_)
 refine aw ?_
 refine ag (ar call289 (G3 W0 _ g 0 c (lc fr pg (fV (p : Int) i) 4) 0 4 (Fl (E := 5) (sz := 1) (a := some ⟨g, 0, none⟩) (c := c) (n := (lc fr pg (fV (p : Int) i) 4).length)) (H1 hF _ _ _) hcap.1 (G5 hcap.2))) ?_
 rw [hg1, hg2]
 refine aT ?_
 refine aQ ?_
 simp [bD, eM, hb]
structure QS where
  r : Rg3
  on : Bool
  br : Int
  last : Nat
  put : Nat
@[reducible] def d9 : QS := ⟨⟨0, 0, 0, 0⟩, false, 0, 0, 0⟩
abbrev qO (m : Bool) (s : QS) : Obj := a8 [.int .u32 s.r.desc, .int .u32 s.r.avail, .int .u32 s.r.used, .int .i64 s.r.n, .bool s.on, .int .i64 s.br, .int .i64 s.last, .int .i64 s.put, .bool m] 426
theorem WZ : sP W0 182 [] R (fun v B => ∃ b, v = pQ b ∧ B = pt b (qO true d9) :: R) := by
 refine ac func182 ntmps182 ?_
 refine aV fun b1 => ?_
 refine aa ?_
 exact ⟨_, ⟨_, rfl, rfl⟩, IO⟩
structure QOk (s : QS) : Prop where
  n : s.on = true → s.r.n = 2 ∨ s.r.n = 4 ∨ s.r.n = 8
  av : s.on = true → s.r.avail ≤ 1000
  us : s.on = true → s.r.used ≤ 1000
  last : s.last < 65536
  put : s.put < 65536
def lK : List Nat := List.replicate 16 0
structure Dk where
  rs : List Rn
  lb : List Int
  ss : List (List Nat)
def yX (ss : List (List Nat)) (i : Nat) : List Nat := ss.getD i lK
def oD (ss : List (List Nat)) : Int → Option Value := fun k => if 0 ≤ k ∧ k < 32 then (if yX ss k.toNat = lK then none else some (.agg (cn (yX ss k.toNat)).toArray)) else none
structure DkOk (x : Dk) : Prop where
  tb : om x.rs
  rl : x.rs.length ≤ 8
  ll : x.lb.length ≤ 8
  wh : ∀ i w, lE x.rs i = some w → 0 ≤ w ∧ w < x.lb.length
  sl : x.ss.length = 32
  sb : ∀ b ∈ x.ss, b.length = 16 ∧ By b
theorem X0 : lK.length = 16 ∧ By lK := ⟨by decide, fun x hx => by
 have := Qch hx; omega⟩
@[reducible] def pT (bt bm : Nat) (aL : Option Addr) (n cL : Nat) : Obj := a8 [.pointer (some ⟨bt, 0, none⟩), .slice aL n cL, .map (some bm)] 289
def iF (d : Nat) (x : Dk) : HP := chk (fun C => ∃ bt bm aL cL, C = [pt d (pT bt bm aL x.lb.length cL), jo bt (x.rs, 32), osl 3 1 (.slice aL x.lb.length cL) (x.lb.flatMap nB), kE bm (oD x.ss)])
section
variable {W0 : World} {N : FSz} {K : Act → World → Prop} {e : aP} {A B R R1 R2 R3 R4 : List HP} {d : Nat} {x : Dk}
theorem Cd [hk : Tk iF d A x R] (h : ∀ bt bm aL cL, am W0 N K e (pt d (pT bt bm aL x.lb.length cL) :: jo bt (x.rs, 32) :: osl 3 1 (.slice aL x.lb.length cL) (x.lb.flatMap nB) :: kE bm (oD x.ss) :: R)) : am W0 N K e A :=
  gJ (r := iF) (b := d) (mN fun C hC => by obtain ⟨bt, bm, aL, cL, rfl⟩ := hC; exact h bt bm aL cL)
theorem yY {bt bm n cL : Nat} {aL : Option Addr} {rs : List Rn} {ys : List Value} {f : Int → Option Value} [h1 : Tk pt d A (pT bt bm aL n cL) R1] [h2 : Tk jo bt R1 (rs, 32) R2] [h3 : Tk (osl 3 1) (.slice aL n cL) R2 ys R3] [h4 : Tk kE bm R3 f R4]
    (e1 : rs = x.rs) (e2 : ys = x.lb.flatMap nB) (e3 : f = oD x.ss) (e4 : n = x.lb.length) [k : Ent R4 B] : Ent A (iF d x :: B) := by
 subst e1; subst e2; subst e3; subst e4
 have e : A.Perm ([pt d (pT bt bm aL x.lb.length cL), jo bt (x.rs, 32), osl 3 1 (.slice aL x.lb.length cL) (x.lb.flatMap nB), kE bm (oD x.ss)] ++ R4) := h1.perm.trans ((h2.perm.trans ((h3.perm.trans (h4.perm.cons _)).cons _)).cons _)
 exact (Ent.ofPerm e).trans ((dQ (R := R4) ⟨bt, bm, aL, cL, rfl⟩).trans (Ent.cons k))
end
theorem X9 (d bt bm n cL : Nat) (aL : Option Addr) : sQ W0 259 [pQ d] (pt d (pT bt bm aL n cL) :: R) (.bool false) (pt d (pT bt bm aL n cL) :: R) := by
 refine ac func259 ntmps259 ?_
 refine cP rfl rfl rfl (fun g1_3 => ?_) fun g1_3 => ?_
 cases g1_3
 refine aw ?_
 refine a7 (Wp LH rfl rfl) ?_
 exact aa ai
def pU (x : Dk) (at_ : Int) : Option Int := (mT x.rs 32 at_).map fun r => x.lb.getD r.toNat 0
theorem Xa (W0 : World) (R : List HP) (d : Nat) (x : Dk) (hx : DkOk x) (at_ : Int) :
    aZ Tryz.prog W0 165 [.pointer (some ⟨d, 0, none⟩), .int .i64 at_] (iF d x :: R) (fun v B => v = .tuple #[.int .i64 ((pU x at_).getD 0), .int .i64 (if (pU x at_).isSome then 0 else 3)] ∧ B = iF d x :: R) := by
 obtain ⟨o, ho⟩ : ∃ o, mT x.rs 32 at_ = o := ⟨_, rfl⟩
 have hlb : pU x at_ = o.map fun r => x.lb.getD r.toNat 0 := by rw [pU, ho]
 have hrl := hx.rl
 refine y2 func165 ntmps165 rfl rfl ?_
 refine aI (aU (ab rfl (bq rfl) (ab rfl (bq rfl) (aM (aC (aI (aI ?_)))))))
 refine Cd (d := d) fun bt bm aL cL => ?_
 refine aU (ab rfl (aW rfl) (ao rfl (jD call259 rfl (X9 d bt bm x.lb.length cL aL)) ?_))
 rintro _ B_ ⟨rfl, hB_⟩
 obtain rfl := hB_.symm
 refine aM (aC ?_)
 refine aA rfl ?_ ?_
 intro c1
 exact absurd c1 (by decide)
 intro c1
 refine gC (aC (aI (aU (ab rfl (aW rfl) (ab rfl (nX rfl) ?_)))))
 refine ab rfl (d3 rfl DU rfl DJ rfl (by first | exact Qac _ | rfl)) ?_
 refine ab rfl (ci KF rfl (aE rfl)) ?_
 refine ab rfl (aW rfl) ?_
 refine ao rfl (jD call260 rfl (UH bt x.rs 32 hx.tb (by omega) at_)) ?_
 rintro _ B_ ⟨rfl, hB_⟩
 obtain rfl := hB_.symm
 rw [ho]
 refine ab rfl (aW rfl) (ab rfl (jY rfl rfl) (ab rfl (jY rfl rfl) (ab rfl (bq rfl) (ab rfl (bq rfl) (aM (aC (aI (aI (aU (ab rfl (aW rfl) (ab rfl (s8 rfl) (aM (aC ?_)))))))))))))
 refine aA rfl ?_ ?_
 intro c4
 refine aI (aU (ab rfl (bq rfl) (ab rfl (bq rfl) (aM (aC (dC (jT (bA (.inl rfl) (.cons (bP rfl) (.cons (bP rfl) .nil)) ?_))))))))
 have hn : o = none := by
  cases o with
  | none => rfl
  | some r => exact absurd rfl c4
 subst hn
 rw [hlb]
 exact ⟨_, ⟨rfl, rfl⟩, yY rfl rfl rfl rfl⟩
 intro c4
 obtain ⟨r, rfl⟩ : ∃ r, o = some r := by
  cases o with
  | none => exact absurd (by decide) c4
  | some r => exact ⟨r, rfl⟩
 have hwf : lE x.rs at_ = some r := by
  unfold mT at ho
  split at ho
  cases ho
  exact ho
 obtain ⟨hr0, hr1⟩ := hx.wh at_ r hwf
 obtain ⟨k, rfl⟩ : ∃ k : Nat, r = (k : Int) := ⟨r.toNat, by omega⟩
 have hk : k < x.lb.length := by omega
 refine jH (E := 3) (sz := 1) (a := aL) (n := x.lb.length) (c := cL) nB x.lb (fun _ => rfl) (by decide) rfl (fun hs => ?_)
 obtain ⟨g, o, rfl, hc⟩ := hs.at_ hk
 have hgk : x.lb.getD ((k : Nat) : Int).toNat 0 = x.lb[k] := by rw [Qal]; simp [List.getD, hk]
 refine gC (aC (aI (aU (ab rfl (aW rfl) (ab rfl (nX rfl) ?_)))))
 refine ab rfl (d3 rfl DU rfl KP rfl (by first | exact Qac _ | rfl)) ?_
 refine ab rfl (ci isAgg235 rfl (aE rfl)) ?_
 refine ab rfl (aW rfl) ?_
 refine ab rfl (jE fC aO rfl rfl rfl hk (by first | exact Qac _ | rfl)) ?_
 refine ab rfl (ci cy rfl (aR.weak hc 0 _ rfl)) ?_
 refine ab rfl (bq rfl) (ab rfl (bq rfl) (aM (aC (dC (bA (.inl rfl) (.cons (bP rfl) (.cons (bP rfl) .nil)) ?_)))))
 rw [hlb]
 simp only [Option.map_some, Option.getD_some, Option.isSome_some, QbH, hgk]
 exact ⟨_, ⟨rfl, rfl⟩, yY rfl rfl rfl rfl⟩
def uM (x : Dk) (k : Nat) (b : List Nat) : Dk := { x with ss := x.ss.set k b }
theorem Xb {x : Dk} (h : DkOk x) {k : Nat} {b : List Nat} (hb : b.length = 16 ∧ By b) : DkOk (uM x k b) :=
  ⟨h.tb, h.rl, h.ll, h.wh, by simp [uM, h.sl], fun c hc => by
 rcases QbZ hc with q | q
 exact h.sb c q
 rw [q]; exact hb⟩
theorem Hb {ss : List (List Nat)} {k : Nat} {b : List Nat} (hl : ss.length = 32) (hk : k < 32) : oD (ss.set k b) = yR (oD ss) (k : Int) (if b = lK then none else some (.agg (cn b).toArray)) := by
 grind [yR, oD, yX]
theorem Hc {A B R1 R2 R3 R4 : List HP} {d bt bm n cL k : Nat} {x : Dk} {b : List Nat} {aL : Option Addr} {rs : List Rn} {ys : List Value} {f : Int → Option Value} [h1 : Tk pt d A (pT bt bm aL n cL) R1] [h2 : Tk jo bt R1 (rs, 32) R2] [h3 : Tk (osl 3 1) (.slice aL n cL) R2 ys R3] [h4 : Tk kE bm R3 f R4]
    (e1 : rs = x.rs) (e2 : ys = x.lb.flatMap nB) (e3 : f = oD (x.ss.set k b)) (e4 : n = x.lb.length) [Ent R4 B] : Ent A (iF d (uM x k b) :: B) := yY (x := uM x k b) e1 e2 e3 e4
theorem Xc (b : List Nat) : cn b = (b.map Int.ofNat).map (Value.int .u8) := by simp [cn, bV]
theorem Hd {a b : List Nat} : (a.map Int.ofNat == b.map Int.ofNat) = decide (a = b) := by
 rw [Qag, Qbu, Qah]
 exact ⟨fun h => (List.map_inj_right (fun x y h => Int.ofNat.inj h)).1 h, fun h => by rw [h]⟩
theorem Xd (d : Nat) (x : Dk) (hx : DkOk x) (k : Nat) (hk : k < 32) (bb off c : Nat) (bs : List Nat) (hb : bs.length = 16 ∧ By bs) (hc : aR (az W0 R) bb off (cn bs)) : sQ W0 166 [pQ d, iQ k, .slice (some ⟨bb, off, none⟩) 16 c] (iF d x :: R) (.tuple #[]) (iF d (uM x k bs) :: R) := by
 refine ac func166 ntmps166 ?_
 refine bB fun bs_ => ?_
 refine a7 (vN LJ lT rfl) ?_
 refine ag (sB nV lT rfl rfl (m := 16) (vs := cn bs) rfl hc.weak (by rw [jI, hb.1]) (Bo _) (by decide) (by have := vA (cn bs) (List.replicate 16 (.int .u8 0)) [] (by rw [jI, hb.1]; rfl); simpa using this)) ?_
 refine a7 (nr isAgg410 sizeOf410 rfl (by rw [jI]; exact hb.1)) ?_
 refine a7 (Bi LJ lT a54 rfl) ?_
 refine a7 (rZ Tryz.eqGuardType410 rfl rfl (GP (i := Tryz.t5) (ms := bs.map Int.ofNat) (ns := lK.map Int.ofNat) LJ (by kernel_rfl) (by kernel_rfl) a5S isAgg5 (Xc bs) rfl (by rw [QaA]; exact hb.1) rfl)) ?_
 refine ah (fun c2 => ?_) fun c2 => ?_
 have hz : bs = lK := by rw [Hd] at c2; exact Qat c2
 refine Cd (d := d) fun bt bm aL cL => ?_
 refine aw ?_
 refine eu (Wt LH dw rfl rfl) ?_
 rintro _ B_ ⟨rfl, hB_⟩
 obtain rfl := hB_.symm
 refine aw ?_
 refine bA (.inl rfl) .nil ?_
 exact ⟨_, ⟨rfl, rfl⟩, Hc (x := x) (k := k) (b := bs) rfl rfl (by rw [Hb hx.sl hk, Qae hz]) rfl⟩
 have hz : ¬ bs = lK := by rw [Hd] at c2; exact of_decide_eq_false (by simpa using c2)
 refine Cd (d := d) fun bt bm aL cL => ?_
 refine bu [d, bs_] 7 fun hS => ?_
 refine ae 0 5 hS ?_
 refine ax 5 hS (gd isAgg410 sizeOf410 rfl (by first | exact gF (k := 0) rfl | exact gF (k := 1) rfl) (by rw [jI]; exact hb.1)) ?_
 refine bG 6 (Ws LH dw rfl rfl rfl) fun hS => ?_
 refine aK ?_
 refine bA (.inr rfl) .nil ?_
 exact ⟨_, ⟨rfl, rfl⟩, Hc (x := x) (k := k) (b := bs) rfl rfl (by rw [Hb hx.sl hk, Qab hz]) rfl⟩
theorem Xe {x : Dk} {at_ : Int} {l : Int} (h : pU x at_ = some l) : ∃ k : Nat, at_ = (k : Int) ∧ k < 32 := by
 unfold pU mT at h
 split at h
 cases h
 exact ⟨at_.toNat, by omega, by omega⟩
def pW (s : ByteArray) (n : Nat) : List Nat := ((s.data.toList.take n).map fun b => b.toNat) ++ List.replicate (n - s.size) 0
theorem He (s : ByteArray) (n : Nat) : (pW s n).length = n ∧ By (pW s n) := by
 have e : s.data.toList.length = s.size := by simp_all
 refine ⟨by rw [pW, Qad, QaA, QaK, Qbo, e]; omega, fun x hx => ?_⟩
 rw [pW] at hx
 rcases Qbg.1 hx with q | q
 obtain ⟨b, _, rfl⟩ := QaS.1 q; exact b.toNat_lt
 grind
theorem Xf (s : ByteArray) (n : Nat) (hn : 1 ≤ n ∧ n ≤ 16384) : sP W0 167 [.string s, iQ n] R (fun v B => ∃ b, v = .slice (some ⟨b, 0, none⟩) n n ∧ B = pt b (a8 (cn (pW s n)) 5) :: R) := by
 have e : s.data.toList.length = s.size := by rw [Array.length_toList]; rfl
 refine ac func167 ntmps167 ?_
 refine a7 (qK rfl rfl (r := (n : Int)) (by rw [Qab (by omega)])) ?_
 refine a7 (uq rfl rfl (r := (n : Int)) (by rw [Qae (by omega)])) ?_
 refine cW (yi (sz := 1) (by_ := 1) (info := Tryz.t5) nV (by kernel_rfl) rfl rfl rfl rfl (by decide) rfl rfl (n := n) rfl rfl (by omega) (by decide)) fun bo => ?_
 refine ao rfl (Wu (b := bo) (m := min s.size n) nV lT rfl rfl rfl (by rw [Qbo]; have := Nat.min_le_right s.size n; omega) (l' := cn (pW s n)) (by
 rw [pq _ _ _ (by rw [QaA, QaK, Qbo]; have := Nat.min_le_right s.size n; omega), pW, Fp, List.take_zero, Qan, List.drop_replicate, QaA, QaK, e, Qac]
 congr 1
 rw [cn, List.map_map]
 have : s.data.toList.take (min s.size n) = s.data.toList.take n := by
  rcases Nat.le_total s.size n with q | q
  rw [Qbf q, QaM (by omega), QaM (by omega)]
  rw [Nat.min_eq_right q]
 rw [this]; rfl
 rw [cn, List.map_replicate]
 congr 1
 rcases Nat.le_total s.size n with q | q
 rw [Qbf q]; omega
 rw [Nat.min_eq_right q]; omega)) ?_
 rintro _ B_ ⟨rfl, hB_⟩
 obtain rfl := hB_.symm
 refine aw ?_
 refine aa ?_
 exact ⟨_, ⟨bo, rfl, rfl⟩, IO⟩
def t9 (x : Dk) (at_ : Int) (s : ByteArray) : Dk := if (pU x at_).isSome then uM x at_.toNat (pW s 16) else x
theorem Xg {x : Dk} (h : DkOk x) (at_ : Int) (s : ByteArray) : DkOk (t9 x at_ s) := by
 grind [t9, Xb, He]
theorem Xh (W0 : World) (R : List HP) (d : Nat) (x : Dk) (hx : DkOk x) (at_ : Int) (s : ByteArray) :
    aZ Tryz.prog W0 101 [.pointer (some ⟨d, 0, none⟩), .int .i64 at_, .string s] (iF d x :: R) (fun v B => v = .int .i64 (if (pU x at_).isSome then 0 else 3) ∧ B = iF d (t9 x at_ s) :: R) := by
 obtain ⟨o, ho⟩ : ∃ o, pU x at_ = o := ⟨_, rfl⟩
 refine y2 func101 ntmps101 rfl rfl ?_
 refine aI (aU (ab rfl (bq rfl) (aM (aC (aI (aI (aU (ab rfl (aW rfl) (ab rfl (aW rfl) (ao rfl (jD call165 rfl (Xa W0 _ d x hx at_)) ?_))))))))))
 rintro _ B_ ⟨rfl, hB_⟩
 obtain rfl := hB_.symm
 rw [ho]
 refine ab rfl (aW rfl) (ab rfl (jY rfl rfl) (ab rfl (jY rfl rfl) (ab rfl (bq rfl) (ab rfl (bq rfl) (aM (aC (aI (aU (ab rfl (aW rfl) (ab rfl (nW rfl rfl) (aM (aC ?_))))))))))))
 refine aA rfl ?_ ?_
 intro c2
 refine aI (aU (ab rfl (aW rfl) (ab rfl (bq rfl) (aM (aC (dC (jT (bA (.inl rfl) (.cons (bP rfl) .nil) ?_))))))))
 have hn : o = none := by
  cases o with
  | none => rfl
  | some l => exact absurd c2 (by simp)
 subst hn
 rw [t9, ho]
 simp only [Option.isSome_none, Qau, QcB]
 exact ⟨_, ⟨rfl, rfl⟩, IO⟩
 intro c2
 refine gC (aC (aI ?_))
 obtain ⟨l, rfl⟩ : ∃ l, o = some l := by
  cases o with
  | none => exact absurd (by simp) c2
  | some l => exact ⟨l, rfl⟩
 obtain ⟨k, rfl, hk⟩ := Xe ho
 refine aU (ab rfl (aW rfl) (ab rfl (aW rfl) (ab rfl (aW rfl) ?_)))
 refine ao rfl (ix call167 rfl (Xf s 16 (by omega))) ?_
 rintro _ B_ ⟨bo, rfl, hB_⟩
 obtain rfl := hB_.symm
 refine ao rfl (jD call166 rfl (Xd d x hx k hk bo 0 16 (pW s 16) (He s 16) (dW (b := bo)))) ?_
 rintro _ B_ ⟨rfl, hB_⟩
 obtain rfl := hB_.symm
 refine aM (aC (aI (aU (ab rfl (bq rfl) (aM (aC (dC (bA (.inl rfl) (.cons (bP rfl) .nil) ?_))))))))
 rw [t9, ho]
 simp only [Option.isSome_some, QbH, Qal]
 exact ⟨_, ⟨rfl, rfl⟩, IO⟩
section
variable {P : Program} {S : World → Prop} {W0 : World} {N : FSz} {e : aP} {A R : List HP} {ty t t' : TypeId} {x y : Operand} {b off : Nat} {l l' vs : List Value}
theorem Xi {E sz dn dc sn sc m : Nat} {ay : Option Addr} (hu : P.underlying t = some (.slice E)) (hs : ∀ w, (sizeOf E).run P w = .ok sz w) (hx : ev e x = some (.slice (some ⟨b, off, none⟩) dn dc)) (hy : ev e y = some (.slice ay sn sc))
    [h : Tk pt b A (a8 l ty) R] (hm : Nat.min sn dn = m) (hsrc : m = 0 ∨ ∃ bx ox, ay = some ⟨bx, ox, none⟩ ∧ aR (az W0 A) bx ox vs) (hl : vs.length = m * sz) (h1 : dV vs = true) (ho : off + m * sz ≤ l.length) (hr : d4 l off vs = l') :
    bW P W0 N e A (.call { callee := .builtin .copy, args := #[x, y], argTypes := #[t, t'] }) (fun v B => v = iQ m ∧ B = pt b (a8 l' ty) :: R) := by
 rcases hsrc with rfl | ⟨bx, ox, rfl, hc⟩
 have h0 : vs = [] := QaD (by omega)
 subst h0
 have hr' : l = l' := hr
 subst hr'
 intro a w dst ty' pos af g K Q hF hO k
 have hO' := hO.tk (r := pt) (b := b)
 have hexec : (execOp a.eval { dst := dst, op := .call { callee := .builtin .copy, args := #[x, y], argTypes := #[t, t'] }, type := ty', pos := pos, after := af, guard := g }).run P w = .ok (.value (iQ 0)) w := by
  have hs' : (sizeOf E).run P w = .ok sz w := hs w
  cases ay <;>
  simp only [execOp, resolve, invoke, builtin, Sem.run_bind, Sem.run_pure, Result.andThen_ok, QbA, Qaz, Qbt, hF.eval hx, hF.eval hy, Builtin.copy_, Builtin.lenOf, Builtin.firstCells, dA hu, hm, QbG, QaV, QaY, QbB, hs', loadCells, loadCellsFrom, Nat.zero_mul, storeCells, goInt] <;> rfl
 unfold Oper.wp
 rw [hexec]
 exact k _ w _ ⟨rfl, rfl⟩ hO'
 exact sB hu hs hx hy hm hc hl h1 ho hr
end
@[reducible] def mZ (x : Nat) : List Value := [wV x]
theorem Ce (x : Nat) : (mZ x).length = 1 := rfl
theorem Cf (l : List Nat) : l.flatMap mZ = l.map wV := yK wV l
def bT (ws : List Nat) (p : Nat) : List Nat := ws.take (16 * p)
theorem yZ (ws : List Nat) (p : Nat) : (bT ws p).length = min (16 * p) ws.length := by rw [bT, QaK]
theorem Hf (a b : Nat) : (if (b : Int) < (a : Int) then (b : Int) else (a : Int)) = ((min a b : Nat) : Int) := by
 omega
theorem Xj {p : Nat} (h : p ≤ 8) : (if (8 : Int) < (p : Int) then (8 : Int) else (p : Int)) = (p : Int) := by rw [Qab (by omega)]
theorem Xk (a : Nat) : (if (a : Int) > (0 : Int) then (a : Int) else (0 : Int)) = (a : Int) := by
 omega
theorem Hg (a : Option Addr) (c p : Nat) (ws : List Nat) (hs : bK (az W0 R) a 1 mZ ws) (hp : p ≤ 8) (hn : ws.length < 9223372036854775808) : sP W0 104 [.slice a ws.length c, iQ p] R (fun v B => ∃ g, v = .slice (some ⟨g, 0, none⟩) (bT ws p).length (bT ws p).length ∧ B = pt g (a8 ((bT ws p).map wV) 62) :: R) := by
 have hl := yZ ws p
 have hsrc := (hs.take (16 * p)).src Ce (fun _ => trivial)
 rw [Cf] at hsrc
 refine ac func104 ntmps104 ?_
 refine a7 (qK rfl rfl (Xj hp)) ?_
 refine a7 (uq rfl rfl (Xk p)) ?_
 refine k8 3 (pw (16 * p)) ?_
 refine ec (fun m : Nat => m = (bT ws p).length) (fun m => [(0, .slice a ws.length c), (5, iQ m)]) (fun _ => R) ?_ ?_
 refine au 8 ?_
 refine ah (fun c2 => ?_) fun c2 => ?_
 exact cq ws.length (by omega)
 exact cq (16 * p) (by omega)
 intro m hm
 refine aw ?_
 refine cW (yi (sz := 1) (by_ := 4) (info := Tryz.t62) vp (by kernel_rfl) rfl rfl rfl rfl (by decide) rfl rfl rfl rfl (by omega) (by decide)) fun g => ?_
 refine ao rfl (Xi vp bL rfl rfl (m := m) (vs := (bT ws p).map wV) (Nat.min_eq_right (by omega)) (by
       rcases hsrc with h | ⟨b, o, h1, h2⟩
       · left; rw [hm, bT, h]; rfl
       right; exact ⟨b, o, h1, h2.weak⟩) (by rw [QaA, hm]; omega) (by simp [dV, wV, Value.oneCell']) (by rw [Qbo]; omega) (by have := vA ((bT ws p).map wV) (List.replicate (m * 1) (.int .u32 0)) [] (by rw [QaA, Qbo, hm]; omega); simpa using this)) ?_
 rintro _ B_ ⟨rfl, hB_⟩
 obtain rfl := hB_.symm
 refine aw ?_
 refine aa ?_
 subst hm
 exact ⟨_, ⟨g, rfl, rfl⟩, IO⟩
def kF (n i : Nat) : Nat := min n (i * 16)
theorem Hh (ws : List Nat) (i : Nat) : (eD ws i).length = min ws.length (kF ws.length i + 16) - kF ws.length i := by
 rw [eD, QaK, Qcy, kF]; omega
theorem Xl (a : Option Addr) (c n i : Nat) (ws : List Nat) (hn : ws.length = n) (hc : n ≤ c) (hi : i < 8) (h63 : n ≤ 1000) : sQ W0 171 [.slice a n c, iQ i] R (.slice (jJ a c (kF n i) 1) (eD ws i).length (c - kF n i)) R := by
 have hl := Hh ws i
 rw [hn] at hl
 have hF : kF n i = min n (i * 16) := rfl
 refine ac func171 ntmps171 ?_
 refine a7 (pw (i * 16)) ?_
 refine a7 (qK rfl rfl (Hf n (i * 16))) ?_
 refine a7 (eC (kF n i + 16)) ?_
 refine a7 (qK rfl rfl (Hf n (kF n i + 16))) ?_
 refine a7 (Uh vp bL rfl rfl rfl rfl rfl (by omega) (by omega)) ?_
 refine aa ?_
 rw [hl]
 exact ai
theorem Xm {S : World → Prop} {a : Option Addr} {c i : Nat} {ws : List Nat} (h : bK S a 1 mZ ws) (hc : ws.length ≤ c) : bK S (jJ a c (kF ws.length i) 1) 1 mZ (eD ws i) := by
 have hk : kF ws.length i + (eD ws i).length ≤ ws.length := by
  grind [Hh, kF]
 have := h.sub hk hc
 have e : (ws.drop (kF ws.length i)).take (eD ws i).length = eD ws i := by
  have hF : kF ws.length i = min ws.length (i * 16) := rfl
  rcases Qay ws.length (i * 16) with q | q
  grind [eD, List.drop_of_length_le]
  grind [kF, eD]
 rwa [e] at this
theorem Xn (pb ps : Nat) (po : Po) (h0 : 0 < po.length) : sQ W0 99 [pQ pb, iQ (-1), iQ 0] (cZ pb (ps, po) :: R) (iQ 1) (cZ pb (ps, po) :: R) := by
 have hi : gx po.length (-1) = false := by simp [gx]
 refine ac func99 ntmps99 ?_
 refine ag (aj Ee (yQ pb ps po h0)) ?_
 refine ag (aj call162 (GJ pb ps po (-1))) ?_
 refine ah (fun c3 => ?_) fun c3 => ?_
 exact aa ai
 exact absurd (by simp [hi]) c3
theorem Xo (b : Nat) (pg : List Pl) (h : Pgs pg) : sQ W0 176 [pQ b, iQ (-1)] (pt b (bN pg) :: R) (iQ 1) (pt b (bN pg) :: R) := by
 refine ac func176 ntmps176 ?_
 refine ag (aj Ea (yE b pg h)) ?_
 refine ag (ar E9 (yF (-1))) ?_
 refine ah (fun c3 => ?_) fun c3 => ?_
 exact aa ai
 exact absurd c3 (by decide)
theorem Xp (pb ps pm : Nat) (x : Im) (h : ImOk x) (h0 : 0 < x.fr.length) : sQ W0 261 [pQ pb, pQ ps, pQ pm] (cZ pb (ps, x.po) :: bj ps x.fr :: pt pm (bN x.pg) :: R) (.bool true) (cZ pb (ps, x.po) :: bj ps x.fr :: pt pm (bN x.pg) :: R) := by
 have hl := h.len
 refine ac func261 ntmps261 ?_
 refine ag (aj call99 (Xn pb ps x.po (by omega))) ?_
 refine cA (fun g1_4 => ?_) fun g1_4 => ?_
 refine ag (aj ub (qT ps x.fr)) ?_
 refine pi rfl rfl rfl (fun g1_9 => ?_) fun g1_9 => ?_
 refine au 2 ?_
 refine ag (aj call176 (Xo pm x.pg h.pg)) ?_
 exact aa ai
 omega
 exact absurd (by decide) g1_4
theorem Xq (pm : Nat) (pg : List Pl) (h : Pgs pg) (n : Nat) (hn : n ≤ 8) (hf : qW pg 0 n) : sQ W0 262 [pQ pm, iQ n] (pt pm (bN pg) :: R) (.bool true) (pt pm (bN pg) :: R) := by
 refine ac func262 ntmps262 ?_
 refine dr (fun i : Nat => i ≤ n) (fun i => [(0, pQ pm), (8, iQ n), (9, iQ i)]) (fun _ => pt pm (bN pg) :: R) (fun i => n - i) 0 ?_ ?_
 omega
 intro i hi
 refine aw ?_
 refine ah (fun c2 => ?_) fun c2 => ?_
 refine ag (aj Eb (yG pm pg h i)) ?_
 refine bB fun bx => ?_
 refine aB aD ?_
 refine ah (fun c5 => ?_) fun c5 => ?_
 exact absurd c5 (by rw [hf i (QaE _) (by omega)]; decide)
 refine a7 cQ ?_
 exact cv (i + 1) (by omega)
 exact aa ai
theorem Xr (pb ps pm who n : Nat) (x : Im) (h : ImOk x) (h0 : 0 < x.fr.length) (hw : who < 16) (h1 : 1 ≤ n) (h8 : n ≤ 8) (hf : qW x.pg 0 n) (hl : n ≤ (bQ x.po who).length) : sQ W0 168 [pQ pb, pQ ps, pQ pm, iQ who, iQ n] (cZ pb (ps, x.po) :: bj ps x.fr :: pt pm (bN x.pg) :: R) (iQ 0) (cZ pb (ps, x.po) :: bj ps x.fr :: pt pm (bN x.pg) :: R) := by
 have hle := h.len
 refine ac func168 ntmps168 ?_
 refine dE 4 (dT call261 (Xp pb ps pm x h h0)) ?_
 refine dS ?_
 refine aA rfl (fun c3 => ?_) fun c3 => ?_
 omega
 refine aw ?_
 refine aA rfl (fun c4 => ?_) fun c4 => ?_
 omega
 refine aw ?_
 refine aA rfl (fun c5 => ?_) fun c5 => ?_
 omega
 refine aw ?_
 refine aA rfl (fun c6 => ?_) fun c6 => ?_
 omega
 refine aw ?_
 refine dE 4 (aj call262 (Xq pm x.pg h.pg n h8 hf)) ?_
 refine dS ?_
 refine dE 5 (aj call263 (Wh pb ps x.po who (by omega) hw)) ?_
 refine aA rfl (fun c10 => ?_) fun c10 => ?_
 omega
 refine aw ?_
 exact aa ai
theorem Hi {pg : List Pl} {i f : Nat} (hi : i < 8) (hf : f < 32) (ht : aX pg (i : Nat) = false) : iB pg i ((f : Int), 3) = 0 := by
 grind [iB, nH, kD]
theorem Xs (b6 b9 b14 b7 b8 g pb ps pm who i f : Nat) (l : List Nat) (x : Im) (h : ImOk x) (ws : List Nat) (hw : who < 16) (hi : i < 8) (he : bQ x.po who = f :: l) (ht : aX x.pg (i : Nat) = false) (hb : ∀ y ∈ ws, y < 4294967296) (hN : ws.length ≤ 128) : sQ W0 169 ([] ++ [iQ i] ++ [pQ b6, pQ b9, pQ b14, pQ b7, pQ b8]) (pt b6 (a8 [pQ pb] 93) :: pt b9 (a8 [iQ who] 3) :: pt b14 (a8 [.slice (some ⟨g, 0, none⟩) ws.length ws.length] 63) :: pt b7 (a8 [pQ ps] 129) :: pt b8 (a8 [pQ pm] 213) :: pt g (a8 (ws.map wV) 62) :: cZ pb (ps, x.po) :: bj ps x.fr :: pt pm (bN x.pg) :: R) (iQ 0) (pt b6 (a8 [pQ pb] 93) :: pt b9 (a8 [iQ who] 3) :: pt b14 (a8 [.slice (some ⟨g, 0, none⟩) ws.length ws.length] 63) :: pt b7 (a8 [pQ ps] 129) :: pt b8 (a8 [pQ pm] 213) :: pt g (a8 (ws.map wV) 62) :: cZ pb (ps, (jd who ws x i).po) :: bj ps (jd who ws x i).fr :: pt pm (bN (jd who ws x i).pg) :: R) := by
 have hf := mg.1 (show f ∈ bQ x.po who by rw [he]; simp)
 have hpl := h.po.len
 have hst : jd who ws x i = ⟨kg f (eD ws i) 0 x.fr, x.po.set f ((who : Int), true), fG x.pg i ((f : Int), 3)⟩ := by rw [jd, he]
 rw [hst]
 have hpgb : ∀ y ∈ eD ws i, y < 4294967296 := fun y hy => hb y (List.mem_of_mem_drop (QbP hy))
 have hpl16 : (eD ws i).length ≤ 16 := by grind [eD]
 simp only [Qan, Qar]
 refine ac func169 ntmps169 ?_
 refine dE 14 (aj call170 (Wi pb ps x.po who f l hw h.po he)) ?_
 refine dS ?_
 refine dE 5 (ar call171 (Xl (some ⟨g, 0, none⟩) ws.length ws.length i ws rfl (Qaj _) hi (by omega))) ?_
 refine fu (fun k : Nat => k ≤ (eD ws i).length) (fun k => [(0, iQ i), (4, pQ b7), (5, pQ b8), (8, iQ f), (23, .slice (jJ (some ⟨g, 0, none⟩) ws.length (kF ws.length i) 1) (eD ws i).length (ws.length - kF ws.length i)), (24, iQ (eD ws i).length), (25, iQ k)]) (fun k => pt b6 (a8 [pQ pb] 93) :: pt b9 (a8 [iQ who] 3) :: pt b14 (a8 [.slice (some ⟨g, 0, none⟩) ws.length ws.length] 63) :: pt b7 (a8 [pQ ps] 129) :: pt b8 (a8 [pQ pm] 213) :: pt g (a8 (ws.map wV) 62) :: cZ pb (ps, x.po.set f ((who : Int), true)) :: bj ps (kg f ((eD ws i).take k) 0 x.fr) :: pt pm (bN x.pg) :: R) (fun k => (eD ws i).length - k) 0 ?_ ?_ ?_ ?_
 omega
 · repeat (first | exact cI | refine cj rfl ?_)
 rw [show kg f ((eD ws i).take 0) 0 x.fr = x.fr from rfl]
 exact IO
 intro k hk
 refine aw ?_
 refine ah (fun c5 => ?_) fun c5 => ?_
 have hk1 : k < (eD ws i).length := by omega
 have hsl : bK (az W0 (pt b6 (a8 [pQ pb] 93) :: pt b9 (a8 [iQ who] 3) :: pt b14 (a8 [.slice (some ⟨g, 0, none⟩) ws.length ws.length] 63) :: pt b7 (a8 [pQ ps] 129) :: pt b8 (a8 [pQ pm] 213) :: pt g (a8 (ws.map wV) 62) :: cZ pb (ps, x.po.set f ((who : Int), true)) :: bj ps (kg f ((eD ws i).take k) 0 x.fr) :: pt pm (bN x.pg) :: R)) (some ⟨g, 0, none⟩) 1 mZ ws := sF (b := g) Ce (Cf ws).symm
 obtain ⟨gb, go, hga, hc⟩ := (Xm (i := i) hsl (Qaj _)).at_ hk1
 obtain ⟨y, hy⟩ : ∃ y, (eD ws i)[k] = y := ⟨_, rfl⟩
 rw [hy] at hc
 have hyb := hpgb _ (QaL hk1)
 rw [hy] at hyb
 have htk : (eD ws i).take (k + 1) = (eD ws i).take k ++ [y] := by grind [Qam]
 obtain ⟨hF, hFl⟩ := t2 (f := f) (l := (eD ws i).take k) (k := 0) h.fr
 have hs0 := Gs f y ((eD ws i).take k) 0 x.fr
 rw [← htk, QaK, Qbf (by omega), Qac] at hs0
 refine a7 (fT vp bL rfl hga rfl rfl hk1 (by first | exact Qac _ | rfl)) ?_
 refine a7 (aH (hc 0 _ rfl)) ?_
 refine a7 (pw (4 * k)) ?_
 refine ag (aj LG (BR ps (kg f ((eD ws i).take k) 0 x.fr) f (4 * k : Nat) 4 y hyb hF)) ?_
 refine a7 cQ ?_
 refine cv (k + 1) ?_ (he := ?_)
 omega
 rw [hs0]
 exact IO
 obtain rfl : k = (eD ws i).length := by omega
 rw [QaM (Qaj _)]
 refine ag (aj call173 (Gl pm x.pg h.pg i ((f : Int), 3))) ?_
 refine aa ?_
 rw [Hi hi (by omega) ht]
 exact ai
theorem Xt (pb ps pm who n : Nat) (x : Im) (h : ImOk x) (h0 : 0 < x.fr.length) (a : Option Addr) (c : Nat) (ws : List Nat) (hw : who < 16) (h1 : 1 ≤ n) (h8 : n ≤ 8) (hf : qW x.pg 0 8) (hl : n ≤ (bQ x.po who).length) (hs : ∀ A, Ent A R → bK (az W0 A) a 1 mZ ws) (hb : ∀ y ∈ ws, y < 4294967296) (hn : ws.length < 9223372036854775808) : sQ W0 105 [pQ pb, pQ ps, pQ pm, iQ who, iQ n, .slice a ws.length c] (cZ pb (ps, x.po) :: bj ps x.fr :: pt pm (bN x.pg) :: R) (iQ 0) (cZ pb (ps, (d7 who (bT ws n) n x).po) :: bj ps (d7 who (bT ws n) n x).fr :: pt pm (bN (d7 who (bT ws n) n x).pg) :: R) := by
 have hlen := yZ ws n
 have hcb : ∀ y ∈ bT ws n, y < 4294967296 := fun y hy => hb y (QbP hy)
 have hok : ∀ i, ImOk (d7 who (bT ws n) i x) := fun i => uE hw h
 have hfl : ∀ i, (d7 who (bT ws n) i x).fr.length = x.fr.length := fun i => by
  induction i with
  | zero => rfl
  | succ i ih =>
   rw [d7, jd]
   split
   rw [(t2 (hok i).fr).2]; exact ih
   exact ih
 refine ac func105 ntmps105 ?_
 refine cW (gE rfl rfl) fun b6 => ?_
 refine cW (gE rfl rfl) fun b7 => ?_
 refine cW (gE rfl rfl) fun b8 => ?_
 refine cW (gE rfl rfl) fun b9 => ?_
 refine dE 9 (dT call168 (Xr pb ps pm who n x h h0 hw h1 h8 (fun i q1 q2 => hf i q1 (by omega)) hl)) ?_
 refine dS ?_
 refine ao rfl (ar call104 (Hg a c n ws (hs _ inferInstance) h8 hn)) ?_
 rintro _ B_ ⟨g, rfl, hB_⟩
 obtain rfl := hB_.symm
 refine cW (mK a57 rfl) fun b14 => ?_
 refine aB dq ?_
 refine fu (fun i : Nat => i ≤ n) (fun i => [(15, .func (.func 169) #[] #[pQ b6, pQ b9, pQ b14, pQ b7, pQ b8]), (31, iQ n), (32, iQ i)]) (fun i => pt b6 (a8 [pQ pb] 93) :: pt b9 (a8 [iQ who] 3) :: pt b14 (a8 [.slice (some ⟨g, 0, none⟩) (bT ws n).length (bT ws n).length] 63) :: pt b7 (a8 [pQ ps] 129) :: pt b8 (a8 [pQ pm] 213) :: pt g (a8 ((bT ws n).map wV) 62) :: cZ pb (ps, (d7 who (bT ws n) i x).po) :: bj ps (d7 who (bT ws n) i x).fr :: pt pm (bN (d7 who (bT ws n) i x).pg) :: R) (fun i => n - i) 0 ?_ ?_ ?_ ?_
 omega
 · repeat (first | exact cI | refine cj rfl ?_)
 rw [show d7 who (bT ws n) 0 x = x from rfl]
 exact IO
 intro i hi
 refine aw ?_
 refine ah (fun c7 => ?_) fun c7 => ?_
 have hin : i < n := by omega
 have hfr := yJ (who := who) (words := bT ws n) (x := x) i
 have hpg := (C1 (who := who) (words := bT ws n) hf h.pg.len i (by omega)).1
 obtain ⟨f, l, he⟩ : ∃ f l, bQ (d7 who (bT ws n) i x).po who = f :: l := by
  cases e : bQ (d7 who (bT ws n) i x).po who with
  | nil => rw [e] at hfr; simp at hfr; omega
  | cons f l => exact ⟨f, l, rfl⟩
 refine dE 9 (fQ (us := []) (cs := [pQ b6, pQ b9, pQ b14, pQ b7, pQ b8]) rfl call169 rfl (Xs b6 b9 b14 b7 b8 g pb ps pm who i f l (d7 who (bT ws n) i x) (hok i) (bT ws n) hw (by omega) he (hpg i (Qaj _) (by omega)) hcb (by omega))) ?_
 refine dS ?_
 refine k8 3 cQ ?_
 exact cv (i + 1) (by omega)
 refine aa ?_
 obtain rfl : i = n := by omega
 exact ai
end
section
def cM (c : Cfg) (i : Nat) : Int × Int × Int := c.gl.getD i (0, 0, 0)
def dj (c : Cfg) : Nat → Int
 | 0 => 0
 | i + 1 => dj c i + ((cM c i).2.1 + (cM c i).2.2)
theorem re (c : Cfg) : ∀ i, gL c i = dj c i + (c.nl.length : Int)
 | 0 => by rw [gL, dj, Int.zero_add]
 | i + 1 => by rw [gL, dj, re c i, cM]; omega
def iS (c : Cfg) (f : Int) : Option Nat := m8 (fun i => decide (f < dj c (i + 1))) c.gl.length
def cF (c : Cfg) : Nat := (gL c c.gl.length).toNat
def Cg (b f : Int) : Option Nat → Int × Int
 | some i => (1, (i : Int))
 | none => (2, f - b)
def oE (c : Cfg) (f : Int) : Int × Int := if rt c = true ∧ 0 ≤ f ∧ f < gL c c.gl.length then Cg (dj c c.gl.length) f (iS c f) else (0, 0)
structure CfR (c : Cfg) : Prop where
  g1 : 1 ≤ c.gl.length
  g4 : c.gl.length ≤ 4
  gs : ∀ i, i < c.gl.length → 1 ≤ (cM c i).2.1 ∧ (cM c i).2.1 ≤ 8 ∧ 0 ≤ (cM c i).2.2 ∧ (cM c i).2.2 ≤ 8 - (cM c i).2.1
  nn : c.nl.length ≤ 4
  nd : 1 ≤ gL c c.gl.length ∧ gL c c.gl.length ≤ 32
theorem pX {c : Cfg} (h : ∀ i, i < c.gl.length → 1 ≤ (cM c i).2.1 ∧ (cM c i).2.1 ≤ 8 ∧ 0 ≤ (cM c i).2.2 ∧ (cM c i).2.2 ≤ 8 - (cM c i).2.1) : ∀ i, i ≤ c.gl.length → (i : Int) ≤ dj c i ∧ dj c i ≤ 8 * i
 | 0, _ => by simp [dj]
 | i + 1, hi => by
  have := pX h i (by omega)
  have := h i (by omega)
  rw [dj]; omega
theorem Xu {c : Cfg} (h : CfR c) {i : Nat} (hi : i < c.gl.length) : dj c i < dj c (i + 1) := by
 have := h.gs i hi
 rw [dj]; omega
theorem z6 {c : Cfg} (h : CfR c) {i j : Nat} (hij : i ≤ j) (hj : j ≤ c.gl.length) : dj c i ≤ dj c j := by
 induction j with
 | zero => obtain rfl : i = 0 := by omega
           exact Qbd _
 | succ j ih =>
  rcases Qay i (j + 1) with k | k
  have := ih (by omega) (by omega)
  have := Xu h (i := j) (by omega)
  omega
  grind
theorem eV {c : Cfg} (h : rt c = true) : CfR c := by
 obtain ⟨_, _, k1, _, _, k2, _, _, k3⟩ := sR h
 obtain ⟨g1, g4, gs⟩ := G0 k1
 have hn : c.nl.length ≤ 4 := by
  grind [pC]
 have hg : ∀ i, i < c.gl.length → 1 ≤ (cM c i).2.1 ∧ (cM c i).2.1 ≤ 8 ∧ 0 ≤ (cM c i).2.2 ∧ (cM c i).2.2 ≤ 8 - (cM c i).2.1 := fun i hi => by
  have := (gs _ (QaL hi)).2
  rwa [show cM c i = c.gl[i] by simp [cM, List.getD, hi]]
 have := pX hg c.gl.length (Qaj _)
 exact ⟨g1, g4, hg, hn, by rw [re]; omega, k3⟩
theorem wD {c : Cfg} (h : CfR c) {f : Int} {i : Nat} : (iS c f = some i ↔ i < c.gl.length ∧ f < dj c (i + 1) ∧ (0 < i → dj c i ≤ f)) := by
 rw [iS, m8, QbK]
 simp only [Qah]
 constructor
 rintro ⟨h1, k, hk, rfl, h2⟩
 rw [Qcm] at h1 ⊢
 simp only [List.length_range] at hk
 refine ⟨hk, h1, fun h0 => ?_⟩
 have := h2 (k - 1) (by omega)
 simp only [Qcm, Bool.not_eq_true', Qbh] at this
 rw [show k - 1 + 1 = k by omega] at this
 omega
 rintro ⟨h1, h2, h3⟩
 refine ⟨h2, i, by simpa using h1, by simp, fun j hj => ?_⟩
 simp only [Qcm, Bool.not_eq_true', Qbh]
 have := z6 h (i := j + 1) (j := i) (by omega) (by omega)
 have := h3 (by omega)
 omega
def tc : Option Nat → Int × Bool
 | some i => ((i : Int), false)
 | none => (-1, false)
def eW (c : Cfg) (k : Nat) : Po := (List.range (cF c)).map fun g => if g < k then tc (iS c g) else (-1, false)
theorem rf (c : Cfg) (k : Nat) : (eW c k).length = cF c := by simp [eW]
theorem uN {c : Cfg} {k f : Nat} (hf : f < cF c) : cr (eW c k) f = if f < k then tc (iS c f) else (-1, false) := by
 grind [cr, eW]
theorem Xv (c : Cfg) : eW c 0 = List.replicate (cF c) (-1, false) := by
 apply Qba
 simp [eW]
 grind [eW]
theorem Xw {c : Cfg} {k i : Nat} (hk : k < cF c) (h : iS c k = some i) : eW c (k + 1) = (eW c k).set k ((i : Int), false) := by
 apply Qba
 simp [eW]
 intro j h1 h2
 rw [List.getElem_set]
 simp only [eW, List.getElem_map, Qcm]
 by_cases e : k = j
 grind [tc]
 grind
theorem Xx {c : Cfg} {k : Nat} (h : iS c k = none) : eW c (k + 1) = eW c k := by
 apply Qba
 simp [eW]
 grind [eW, Qcm, tc]
theorem Ch {c : Cfg} (h : CfR c) (k : Nat) : PoOk (eW c k) := ⟨by rw [rf, cF]; have := h.nd; omega, fun f hf => by
 rw [rf] at hf
 rw [uN hf]
 split
 cases e : iS c f with
 | none => simp [tc]
 | some i =>
  have := ((wD h).1 e).1
  have := h.g4
  simp only [tc]; omega
 simp⟩
theorem Hj : ∀ {l m : List Nat}, l.Nodup → (∀ x ∈ l, x ∈ m) → l.length ≤ m.length
 | [], _, _, _ => QaE _
 | x :: l, m, hd, h => by
  rw [QbF] at hd
  have hx := h x (by simp)
  have := Hj (l := l) (m := m.erase x) hd.2 fun y hy => by
   have hne : y ≠ x := fun e => hd.1 (by grind)
   rw [List.mem_erase_of_ne hne]
   exact h y (Qaf _ hy)
  rw [List.length_erase_of_mem hx] at this
  have := List.length_pos_of_mem hx
  rw [QaH]; omega
theorem Hl {c : Cfg} (h : CfR c) {i : Nat} (hi : i < c.gl.length) : (cM c i).2.1 + (cM c i).2.2 ≤ ((bQ (eW c (cF c)) i).length : Int) := by
 obtain ⟨a, ha⟩ : ∃ a : Nat, dj c i = (a : Int) := ⟨(dj c i).toNat, by have := pX h.gs i (by omega); omega⟩
 have hg := h.gs i hi
 obtain ⟨n, hn⟩ : ∃ n : Nat, (cM c i).2.1 + (cM c i).2.2 = (n : Int) := ⟨((cM c i).2.1 + (cM c i).2.2).toNat, by omega⟩
 have hs : dj c (i + 1) = (a : Int) + n := by rw [dj, ha, hn]
 have hl := z6 h (i := i + 1) (j := c.gl.length) (by omega) (Qaj _)
 have hnd := re c c.gl.length
 have hsub : ∀ x ∈ List.range' a n, x ∈ bQ (eW c (cF c)) i := fun x hx => by
  rw [List.mem_range'_1] at hx
  have hxn : x < cF c := by rw [cF]; omega
  rw [mg, rf, uN hxn, Qae hxn, (wD h (i := i)).2 ⟨hi, by omega, fun _ => by omega⟩]
  exact ⟨hxn, rfl⟩
 have hd : (List.range' a n).Nodup := List.nodup_range' ..
 have := Hj hd hsub
 rw [List.length_range'] at this
 rw [hn]; omega
end
section
open Go.RowKit
structure CfK (W0 : World) (c : Cfg) : Prop where
  ok : CfOk W0 c
  gc : c.gl.length ≤ c.gc
theorem Hm {c : Cfg} (h : CfR c) : (∀ g ∈ c.gl, 1 ≤ g.2.1 ∧ g.2.1 ≤ 8 ∧ 0 ≤ g.2.2 ∧ g.2.2 ≤ 8 - g.2.1) := fun g hg => by
 obtain ⟨i, hi, rfl⟩ := Qbm hg
 have := h.gs i hi
 rwa [show cM c i = c.gl[i] by simp [cM, List.getD, hi]] at this
def rh (c : Cfg) : Nat := if rt c then cF c else 0
theorem Xy (c : Cfg) : rh c ≤ 32 := by
 unfold rh; split
 rename_i h; have := (eV h).nd; rw [cF]; omega
 omega
theorem Xz (c : Cfg) (h : CfOk W0 c) : sQ W0 52 [.agg (cX c).toArray] R (iQ (rh c : Nat)) R := by
 refine ac func52 ntmps52 ?_
 refine aV fun b1 => ?_
 refine ag (ar Eh (yx c h)) ?_
 refine ah (fun c1 => ?_) fun c1 => ?_
 refine aa ?_
 have hr : rt c = false := by simpa using c1
 rw [rh, hr]
 exact ai
 have hr : rt c = true := by simpa using c1
 have hR := eV hr
 refine ag (ar LA (Bu c h.g (Hm hR) hR.nn hR.g4)) ?_
 refine aa ?_
 have hn : ((rh c : Nat) : Int) = gL c c.gl.length := by
  have := hR.nd
  rw [rh, Qae hr, cF]; omega
 rw [hn]
 exact ai
theorem Ci (c : Cfg) (h : CfK W0 c) (hR : CfR c) (n : Nat) (hn : n ≤ c.gl.length) : sQ W0 160 [.agg (cX c).toArray, iQ n] R (iQ (dj c n)) R := by
 have hgc := h.gc
 have hg4 := hR.g4
 refine ac func160 ntmps160 ?_
 refine aV fun b1 => ?_
 refine a7 (mM vn rK rfl rfl (h := n) rfl (by omega)) ?_
 refine dr (fun i : Nat => i ≤ n) (fun i => [(5, iQ (dj c i)), (11, .slice c.ga n c.gc), (12, iQ n), (13, iQ i)]) (fun _ => R) (fun i => n - i) 0 ?_ ?_
 omega
 intro i hi
 refine aw ?_
 refine ah (fun c3 => ?_) fun c3 => ?_
 have hi1 : i < c.gl.length := by omega
 have hin : i < n := by omega
 obtain ⟨g, o, hga, hc⟩ := (h.ok.g R).at_ hi1
 obtain ⟨x, hx⟩ : ∃ x, c.gl[i] = x := ⟨_, rfl⟩
 rw [hx] at hc
 have hA : cM c i = x := by grind [cM]
 have hbx := hR.gs i hi1
 rw [hA] at hbx
 have hst : dj c (i + 1) = dj c i + (x.2.1 + x.2.2) := by rw [dj, hA]
 have hl1 := pX hR.gs i (by omega)
 refine a7 (fT vn rK rfl hga rfl rfl hin (by first | exact Qac _ | rfl)) ?_
 refine a7 (bZ hc.weak) ?_
 refine bB fun bx => ?_
 refine eu (gD rK rfl rfl rfl rfl rfl) ?_
 rintro _ _ rfl
 refine aM (aC (aU (ab rfl (aW rfl) ?_)))
 refine ab rfl (d3 rfl nU rfl aO rfl (by first | exact Qac _ | rfl)) ?_
 refine ab rfl (ci cy rfl (aE rfl)) ?_
 refine ab rfl (d3 rfl nU rfl aO rfl (by first | exact Qac _ | rfl)) ?_
 refine ab rfl (ci cy rfl (aE rfl)) ?_
 refine ab rfl (dx rfl rfl (bU (by omega))) ?_
 refine a7 (dx rfl rfl (by rw [bU (by omega)]; exact hst.symm : IntKind.wrap .i64 (dj c i + (x.2.1 + x.2.2)) = dj c (i + 1))) ?_
 refine a7 cQ ?_
 exact cv (i + 1) (by omega)
 refine aa ?_
 obtain rfl : i = n := by omega
 exact ai
theorem XA {c : Cfg} {f : Int} {i : Nat} (hi : i < c.gl.length) (h : f < dj c (i + 1)) (hI : ∀ j, j < i → ¬ f < dj c (j + 1)) : iS c f = some i :=
  Fz hi (Qaw h) fun j hj => Qav (hI j hj)
theorem XB {c : Cfg} {f : Int} (hI : ∀ j, j < c.gl.length → ¬ f < dj c (j + 1)) : iS c f = none := FA fun j hj => Qav (hI j hj)
@[reducible] def Hn (x : Int × Int) : List Value := [.int .i64 x.1, .int .i64 x.2]
theorem XC (c : Cfg) (h : CfK W0 c) (f : Nat) : sQ W0 98 [.agg (cX c).toArray, iQ f] R (.agg (Hn (oE c f)).toArray) R := by
 obtain ⟨w, hw⟩ : ∃ w, rt c = w := ⟨_, rfl⟩
 have hO : oE c f = if w = true ∧ 0 ≤ (f : Int) ∧ (f : Int) < gL c c.gl.length then Cg (dj c c.gl.length) f (iS c f) else (0, 0) := by rw [oE, hw]
 rw [hO]
 refine ac func98 ntmps98 ?_
 refine aV fun b2 => ?_
 refine bB fun b4 => ?_
 refine ag (ar Eh (yx c h.ok)) ?_
 rw [hw]
 refine eR (fun g1_4 => ?_) fun g1_4 => ?_
 · refine aB aD ?_
   refine bH (.cons (bM Ax xB rfl rfl) .nil) ?_
   rw [Qab (by first | (rintro ⟨q1, q2, q3⟩; omega) | (rintro ⟨q1, q2⟩; simp_all; done) | (rintro ⟨q1, q2, q3⟩; simp_all; omega))]
   exact ai
 refine eR (fun g1_8 => ?_) fun g1_8 => ?_
 · refine aB aD ?_
   refine bH (.cons (bM Ax xB rfl rfl) .nil) ?_
   rw [Qab (by first | (rintro ⟨q1, q2, q3⟩; omega) | (rintro ⟨q1, q2⟩; simp_all; done) | (rintro ⟨q1, q2, q3⟩; simp_all; omega))]
   exact ai
 have hw1 : w = true := by simp_all
 have hR := eV (hw.trans hw1)
 have hg4 := hR.g4
 have hnd := hR.nd
 refine ag (ar LA (Bu c h.ok.g (Hm hR) hR.nn hR.g4)) ?_
 refine ah (fun c1 => ?_) fun c1 => ?_
 · refine aB aD ?_
   refine bH (.cons (bM Ax xB rfl rfl) .nil) ?_
   rw [Qab (by first | (rintro ⟨q1, q2, q3⟩; omega) | (rintro ⟨q1, q2⟩; simp_all; done) | (rintro ⟨q1, q2, q3⟩; simp_all; omega))]
   exact ai
 have hw1 : w = true := by simp_all
 have hR := eV (hw.trans hw1)
 have hg4 := hR.g4
 have hnd := hR.nd
 rw [Qae ⟨hw1, by omega, by first | omega | (simp_all; omega)⟩]
 refine dr (fun i : Nat => i ≤ c.gl.length ∧ ∀ j, j < i → ¬ (f : Int) < dj c (j + 1)) (fun i => [(1, iQ f), (2, pQ b2), (4, pQ b4), (22, iQ (c.gl.length : Nat)), (23, iQ i)]) (fun _ => pt b2 (gn c) :: pt b4 (a8 [iQ 0, iQ 0] 200) :: R) (fun i => c.gl.length - i) 0 ?_ ?_
 exact ⟨QaE _, fun j hj => absurd hj (Qbx _)⟩
 intro i ⟨hi, hI⟩
 refine aw ?_
 refine ah (fun c4 => ?_) fun c4 => ?_
 have hi1 : i < c.gl.length := by omega
 refine a7 (eC (i + 1)) ?_
 refine ag (ar LK (Ci c h hR (i + 1) hi1)) ?_
 refine ah (fun c6 => ?_) fun c6 => ?_
 refine aB aD ?_
 refine bH (.cons (bM Ax xB rfl rfl) .nil) ?_
 rw [XA hi1 c6 hI]
 exact ai
 refine a7 cQ ?_
 refine cv (i + 1) ?_
 refine ⟨by omega, fun j hj => ?_⟩
 rcases Qay j i with q | q
 exact hI j q
 rw [show j = i by omega]; exact c6
 obtain rfl : i = c.gl.length := by omega
 rw [XB hI]
 have hbn := pX hR.gs c.gl.length (Qaj _)
 have hnb := re c c.gl.length
 refine ag (ar LK (Ci c h hR c.gl.length (Qaj _))) ?_
 refine a7 i6 ?_
 refine aB aD ?_
 exact bH (.cons (bM Ax xB rfl rfl) .nil) ai
def iT (c : Cfg) (i : Int) : Int := if rt c = true ∧ 0 ≤ i ∧ i < c.nl.length then dj c c.gl.length + i else -1
theorem XD (c : Cfg) (h : CfK W0 c) (i : Int) : sQ W0 175 [.agg (cX c).toArray, iQ i] R (iQ (iT c i)) R := by
 obtain ⟨w, hw⟩ : ∃ w, rt c = w := ⟨_, rfl⟩
 have hO : iT c i = if w = true ∧ 0 ≤ i ∧ i < c.nl.length then dj c c.gl.length + i else -1 := by rw [iT, hw]
 rw [hO]
 refine ac func175 ntmps175 ?_
 refine aV fun b2 => ?_
 refine ag (ar Eh (yx c h.ok)) ?_
 rw [hw]
 refine eR (fun g1_4 => ?_) fun g1_4 => ?_
 refine aa ?_
 rw [Qab (by grind)]
 exact ai
 refine eR (fun g1_8 => ?_) fun g1_8 => ?_
 refine aa ?_
 rw [Qab (by grind)]
 exact ai
 refine ah (fun c1 => ?_) fun c1 => ?_
 refine aa ?_
 rw [Qab (by grind)]
 exact ai
 have hw1 : w = true := by simp_all
 have hR := eV (hw.trans hw1)
 have hg4 := hR.g4
 have hnn := hR.nn
 have hlt : i < c.nl.length := by omega
 rw [Qae ⟨hw1, by omega, hlt⟩]
 have hbn := pX hR.gs c.gl.length (Qaj _)
 refine ag (ar LK (Ci c h hR c.gl.length (Qaj _))) ?_
 refine a7 cQ ?_
 exact aa ai
abbrev dt (rl : List Nat) (pc : Nat) : Obj := a8 (rl.map wV ++ [.bool true, wV pc]) 353
theorem a7L {rl : List Nat} {pc : Nat} (h : rl.length = 16) : (rl.map wV ++ [Value.bool true, wV pc]).length = 18 := by simp [h]
theorem XE {rl : List Nat} {pc : Nat} (h : rl.length = 16) : ((rl.map wV ++ [Value.bool true, wV pc]).drop 0).take 16 = rl.map wV := by
 grind
theorem Ho {rl : List Nat} {pc : Nat} (h : rl.length = 16) : (rl.map wV ++ [Value.bool true, wV pc])[16]? = some (.bool true) := by
 grind
theorem XF {rl : List Nat} {pc : Nat} (h : rl.length = 16) : (rl.map wV ++ [Value.bool true, wV pc])[17]? = some (wV pc) := by
 grind
theorem XG {rl : List Nat} {pc q : Nat} (h : rl.length = 16) : (rl.map wV ++ [Value.bool true, wV pc]).set 17 (wV q) = rl.map wV ++ [.bool true, wV q] := by
 simp_all
theorem XH {rl : List Nat} {pc i x : Nat} (h : rl.length = 16) (hi : i < 16) : (rl.map wV ++ [Value.bool true, wV pc]).set (i * 1) (wV x) = (rl.set i x).map wV ++ [.bool true, wV pc] := by
 simp_all
theorem Hq (rl : List Nat) : dV (rl.map wV) = true := by simp [dV, wV, Value.oneCell']
section
variable {P : Program} {S : World → Prop} {N : FSz} {e : aP} {t : TypeId} {l : List Value} {v : Value}
theorem XI {E n i : Nat} {y : Operand} (hu : P.underlying t = some (.array n E)) (hs : ∀ w, (sizeOf E).run P w = .ok 1 w) (hz : ∀ w, (zeroValue t).run P w = .ok (.agg l.toArray) w)
    (hy : ev e y = some v) (h1 : v.oneCell' = true) (hi : i < l.length) : bC P S N e (.build t #[(i, y)]) (.agg (l.set i v).toArray) := fun a w _ _ _ _ _ hF _ => by
 have hb : Instr.build t ((#[(i, y)] : Array (Nat × Operand)).map fun (i, x) => (i, a.eval x)) = (do
     let zero := (← zeroValue t).cells
     match ← underlying t with
     | .struct fields =>
       let places ← fields.mapM qE
       let some cells := Instr.fill (places[·]?) zero ((#[(i, y)] : Array (Nat × Operand)).map fun (i, x) => (i, a.eval x)).toList | stuck "build: no such field, or a part of the wrong size"
       pure (.agg cells)
     | .array _ elem =>
       let size ← sizeOf elem
       let some cells := Instr.fill (fun i => some (i * size, size)) zero ((#[(i, y)] : Array (Nat × Operand)).map fun (i, x) => (i, a.eval x)).toList | stuck "build: a part of the wrong size"
       pure (.agg cells)
     | _ => stuck "build: struct or array type expected") := rfl
 have hc : ¬ (i + 1 > l.length) := by omega
 have hf : Instr.fill (fun i => some (i * 1, 1)) l.toArray [(i, a.eval y)] = some (l.set i v).toArray := by
  simp only [Instr.fill, hF.eval hy, sd h1, Qbc]
  simp [hc]
 simp only [execOp, hb, Sem.run_bind, hz, dA hu, hs, Result.andThen_ok, Value.cells, Sem.run_pure, QbU, Qaz, Qbt]
 rw [hf]; rfl
end
theorem XJ : sP W0 179 [] R (fun v B => ∃ b, v = pQ b ∧ B = pt b (dt (List.replicate 16 0) 0) :: R) := by
 refine ac func179 ntmps179 ?_
 refine a7 (eg a5M zeroValue353 (aG KT (aG bL ee)) (ge rfl KT rfl rfl (Qaa rfl) rfl ed)) ?_
 refine aV fun b1 => ?_
 refine aa ?_
 exact ⟨_, ⟨_, rfl, rfl⟩, ent_refl⟩
theorem XK (b : Nat) (rl : List Nat) (pc : Nat) (hl : rl.length = 16) : sQ W0 206 [pQ b] (pt b (dt rl pc) :: R) (.agg (rl.map wV).toArray) (pt b (dt rl pc) :: R) := by
 refine ac func206 ntmps206 ?_
 refine dR (da zeroValue260) fun b1 => ?_
 refine aw ?_
 refine aA rfl (fun c1 => ?_) fun c1 => ?_
 cases c1
 refine aw ?_
 refine ab rfl (gd isAgg260 xD rfl (cp (b := b) (XE hl) (by grind)) (by grind)) ?_
 refine aB (gD xD rfl rfl (by grind) (Hq rl) rfl) ?_
 exact bH (.cons (bM isAgg260 xD rfl (by grind)) .nil) ai
theorem td (b : Nat) (rl : List Nat) (pc : Nat) (hl : rl.length = 16) : sQ W0 130 [pQ b] (pt b (dt rl pc) :: R) (wV pc) (pt b (dt rl pc) :: R) := by
 refine jG 12 func130 ntmps130 ?_
 refine aA rfl (fun c1 => ?_) fun c1 => ?_
 cases c1
 refine aw ?_
 refine k8 4 (aH (aE (XF hl))) ?_
 exact aa ai
theorem z7 (b : Nat) (rl : List Nat) (pc q : Nat) (hl : rl.length = 16) : sQ W0 132 [pQ b, wV q] (pt b (dt rl pc) :: R) (iQ 0) (pt b (dt rl q) :: R) := by
 refine ac func132 ntmps132 ?_
 refine cP rfl rfl rfl (fun g1_3 => ?_) fun g1_3 => ?_
 cases g1_3
 refine aw ?_
 refine k8 5 (aH (aE (Ho hl))) ?_
 refine dS ?_
 refine i7 8 (dF (by grind) (XG hl)) ?_
 exact aa ai
def lh (i : Int) : Bool := decide (0 ≤ i ∧ i < 16)
theorem z8 (b : Nat) (rl : List Nat) (pc : Nat) (hl : rl.length = 16) (i : Int) : sQ W0 249 [pQ b, iQ i] (pt b (dt rl pc) :: R) (iQ (if lh i then 0 else 1)) (pt b (dt rl pc) :: R) := by
 refine ac func249 ntmps249 ?_
 refine k8 4 (aH (aE (Ho hl))) ?_
 refine dS ?_
 refine aA rfl (fun c3 => ?_) fun c3 => ?_
 refine gC ?_
 refine aC (EX rfl (aI (aU (ab rfl (bq rfl) (aM (aC (dC (np (jT (aa ?_))))))))))
 rw [Qab (by grind [lh])]
 exact ai
 refine aw ?_
 refine ah (fun c4 => ?_) fun c4 => ?_
 refine aa ?_
 rw [Qab (by grind [lh])]
 exact ai
 refine aa ?_
 rw [Qae (by grind [lh])]
 exact ai
theorem XL (b : Nat) (rl : List Nat) (pc i x : Nat) (hl : rl.length = 16) (hi : i < 16) (h0 : i ≠ 0) : sQ W0 250 [pQ b, iQ i, wV x] (pt b (dt rl pc) :: R) (.tuple #[]) (pt b (dt (rl.set i x) pc) :: R) := by
 refine ac func250 ntmps250 ?_
 refine aA rfl (fun c0 => ?_) fun c0 => ?_
 refine au 6 ?_
 refine a7 (gK hi) ?_
 refine aB (dF (by grind) (XH hl hi)) ?_
 refine bA (.inr rfl) .nil ?_
 exact ai
 simp at c0; omega
theorem XM (W0 : World) (R : List HP) (b : Nat) (rl : List Nat) (pc i x : Nat) (hl : rl.length = 16) (hi : i < 16) (h0 : i ≠ 0) : sQ W0 149 [pQ b, iQ i, wV x] (pt b (dt rl pc) :: R) (iQ 0) (pt b (dt (rl.set i x) pc) :: R) := by
 have hir : lh i = true := by grind [lh]
 refine jG 12 LL ntmps149 ?_
 refine aA rfl (fun c1 => ?_) fun c1 => ?_
 cases c1
 refine aw ?_
 refine dE 10 (aj Ei (z8 b rl pc hl i)) ?_
 refine ah (fun c4 => ?_) fun c4 => ?_
 refine ag (aj call250 (XL b rl pc i x hl hi h0)) ?_
 refine aa ?_
 rw [hir]
 exact ai
 exact absurd (by rw [hir]; rfl) c4
abbrev Hr (id : Nat) : Obj := a8 ([wV 0, wV 0, wV 0, wV 0, wV 0, wV 4, wV 0] ++ [.int .i64 id, .bool true]) 356
theorem XN : sQ W0 271 [] R (.agg #[wV 0, wV 0, wV 0, wV 0, wV 0, wV 4, wV 0]) R := by
 refine ac func271 ntmps271 ?_
 refine bB fun b1 => ?_
 refine a7 (XI mF bL Lw rfl rfl (by decide)) ?_
 refine aB aD ?_
 exact bH (.cons (bM LM vk rfl rfl) .nil) ai
theorem XO (i : Nat) (hi : i < 4) : sP W0 177 [iQ i] R (fun v B => ∃ b, v = .tuple #[pQ b, iQ 0] ∧ B = pt b (Hr i) :: R) := by
 refine ac func177 ntmps177 ?_
 refine cP rfl rfl rfl (fun g1_3 => ?_) fun g1_3 => ?_
 omega
 refine aw ?_
 refine aA rfl (fun c1 => ?_) fun c1 => ?_
 omega
 refine aw ?_
 refine ag (ar call271 (XN)) ?_
 refine a7 (eg a5N zeroValue356 (aG vk (aG aO (aG nk ee))) (ge rfl vk rfl rfl (Qaa rfl) SetRL.eq (cm rfl aO rfl rfl (Qaa rfl) SetL.eq (cm rfl nk rfl rfl (Qaa rfl) SetL.eq ed)))) ?_
 refine aV fun b1 => ?_
 refine aT ?_
 exact ⟨_, ⟨_, rfl, rfl⟩, ent_refl⟩
abbrev te : Obj := a8 ([.bool false, .bool false, .int .i64 0, .int .i64 0, .bool false, .bool false, .int .i64 0, .int .i64 0, .bool false, .bool false, .int .i64 0, .int .i64 0, .bool false, .bool false, .int .i64 0, .int .i64 0, .bool false, .bool false, .int .i64 0, .int .i64 0, .bool false, .bool false, .int .i64 0, .int .i64 0, .bool false, .bool false, .int .i64 0, .int .i64 0, .bool false, .bool false, .int .i64 0, .int .i64 0, .slice none 0 0, .int .i64 0, .bool false].set 34 (.bool true)) 324
theorem XP : sP W0 180 [] R (fun v B => ∃ b, v = pQ b ∧ B = pt b te :: R) := by
 refine ac func180 ntmps180 ?_
 refine aV fun b1 => ?_
 refine aa ?_
 exact ⟨_, ⟨_, rfl, rfl⟩, ent_refl⟩
abbrev tj : Obj := a8 [eG, .bool false, .bool false, .bool false, .bool false, .int .i64 0, .bool true] 340
theorem XQ : sP W0 181 [] R (fun v B => ∃ b, v = pQ b ∧ B = pt b tj :: R) := by
 refine ac func181 ntmps181 ?_
 refine aV fun b1 => ?_
 refine aa ?_
 exact ⟨_, ⟨_, rfl, rfl⟩, ent_refl⟩
abbrev pY : Obj := a8 [eG, .bool true] 314
theorem XR : sP W0 109 [] R (fun v B => ∃ b, v = pQ b ∧ B = pt b pY :: R) := by
 refine ac func109 ntmps109 ?_
 refine aV fun b1 => ?_
 refine aa ?_
 exact ⟨_, ⟨_, rfl, rfl⟩, ent_refl⟩
structure Evt where
  k : Int
  clock : Int
  code : Nat
  val : Nat
  pc : Nat
  rl : List Nat
@[reducible] def iU (e : Evt) : List Value := [.int .i64 e.k, .int .i64 e.clock, wV e.code, wV e.val, wV e.pc] ++ (List.range 16).map fun i => wV (e.rl.getD i 0)
theorem z9 (e : Evt) : (iU e).length = 21 := by simp [iU]
theorem XS {e : Evt} (h : e.rl.length = 16) : iU e = [iQ e.k, iQ e.clock, wV e.code, wV e.val, wV e.pc] ++ e.rl.map wV := by
 unfold iU; congr 1
 apply Qba
 simp [h]
 grind
theorem XT (e : Evt) : dV (iU e) = true := by simp [dV, iU, wV, Value.oneCell']
def fz (b : Nat) (es : List Evt) : HP := chk (fun C => ∃ a c, C = [pt b (a8 [.slice a es.length c, .bool true] 277), osl 275 21 (.slice a es.length c) (es.flatMap iU)])
section
variable {P : Program} {W0 : World} {N : FSz} {K : Act → World → Prop} {e : aP} {A B R R1 R2 : List HP} {b n : Nat} {es : List Evt} {f : FuncId} {args : List Value} {Post : Value → List HP → Prop}
theorem za [hk : Tk fz b A es R] (h : ∀ a c, am W0 N K e (pt b (a8 [.slice a es.length c, .bool true] 277) :: osl 275 21 (.slice a es.length c) (es.flatMap iU) :: R)) : am W0 N K e A :=
  gJ (r := fz) (b := b) (mN fun C hC => by obtain ⟨a, c, rfl⟩ := hC; exact h a c)
theorem wE {a : Option Addr} {c : Nat} {xs : List Value} [h1 : Tk pt b A (a8 [.slice a n c, .bool true] 277) R1] [h2 : Tk (osl 275 21) (.slice a n c) R1 xs R2] (hn : n = es.length) (hx : xs = es.flatMap iU) [k : Ent R2 B] : Ent A (fz b es :: B) := by
 subst hn; subst hx
 exact (Ent.ofPerm (h1.perm.trans (h2.perm.cons _))).trans ((Ent.cons (Ent.cons k)).trans (dQ (R := B) (C := [_, _]) ⟨a, c, rfl⟩))
end
theorem XU : sP W0 110 [] R (fun v B => ∃ b, v = pQ b ∧ B = fz b [] :: R) := by
 refine ac func110 ntmps110 ?_
 refine aV fun b1 => ?_
 refine aa ?_
 exact ⟨_, ⟨_, rfl, rfl⟩, (Ent.cons (dP (E := 275) (sz := 21) (A := R) (B := R))).trans (dQ (R := R) (C := [_, _]) ⟨none, 0, rfl⟩)⟩
theorem Cj (b : Nat) (es : List Evt) : sQ W0 157 [pQ b] (fz b es :: R) (.bool false) (fz b es :: R) := by
 refine ac func157 ntmps157 ?_
 refine za (b := b) fun a c => ?_
 refine aw ?_
 refine cP rfl rfl rfl (fun g1_3 => ?_) fun g1_3 => ?_
 cases g1_3
 refine aw ?_
 refine aa ?_
 exact ⟨_, ⟨rfl, rfl⟩, wE rfl rfl⟩
theorem XV (W0 : World) (R : List HP) (b : Nat) (es : List Evt) (x : Evt) (hn : es.length < 4096) : sQ W0 205 [pQ b, .agg (iU x).toArray] (fz b es :: R) (iQ 0) (fz b (es ++ [x]) :: R) := by
 have he : es.flatMap iU ++ [iU x].flatten = (es ++ [x]).flatMap iU := by simp
 refine ac func205 ntmps205 ?_
 refine dR (k0 rfl) fun b3 => ?_
 refine ab rfl (bq rfl) (aM (aC (aI (kQ (aI (aU (ab rfl (aW rfl) (ao rfl (jD LN rfl (Cj b es)) ?_))))))))
 rintro _ B_ ⟨rfl, hB_⟩
 obtain rfl := hB_.symm
 refine ab rfl (bq rfl) (aM (aC ?_))
 refine aA rfl (fun c1 => ?_) fun c1 => ?_
 exact absurd c1 (by decide)
 refine aI ?_
 refine za (b := b) fun a c => ?_
 refine aU (ab rfl (aW rfl) (ab rfl (nX rfl) ?_))
 refine ab rfl (d3 rfl a5J rfl sizeOf56 rfl (by first | exact Qac _ | rfl)) ?_
 refine ab rfl (ci isAgg56 rfl (aE rfl)) ?_
 refine ab rfl (AY qA rfl) (ab rfl (AV rfl rfl) (ab rfl (bq rfl) (aM (aC ?_))))
 refine aA rfl (fun c3 => ?_) fun c3 => ?_
 omega
 refine gC (mI (aC (aI ?_)))
 refine bu [b3] 11 fun hS => ?_
 refine ae 0 4 hS ?_
 refine ax 5 hS (gd isAgg275 Ay rfl (gF (k := 0) rfl) (z9 x)) ?_
 refine eh (is := [4, 6]) (by kernel_rfl) rfl ⟨?_, ?_, trivial⟩
 refine cT (cV (aH (aE rfl))) ?_; clear hS
 rintro _ _ ⟨rfl, rfl⟩
 refine ⟨aF, fun hS => ?_⟩
 refine lw 6 (by kernel_rfl) rfl rfl (gH qA Ay LO rfl (dX rfl rfl fR) rfl (by decide) (by decide) (by decide)) rfl ?_; clear hS
 rintro _ _ ⟨b2, rfl, rfl⟩
 refine ⟨aF, fun hS => ?_⟩
 refine cg 7 (eQ (sz := 21) (by_ := 96) (info := Tryz.t275) qA (by kernel_rfl) rfl rfl rfl rfl (by decide) rfl rfl dW rfl rfl (by simp only [maxLen]; omega) (by omega)) ?_; clear hS
 rintro _ _ ⟨a3, c3, rfl, rfl⟩
 refine ⟨aF, fun hS => ?_⟩
 refine ae 8 2 hS ?_
 refine bG 10 dq fun hS => ?_
 refine fw ?_
 refine aC (aI (aU (ab rfl (bq rfl) (aM (aC (dC (aa ?_)))))))
 exact ⟨_, ⟨rfl, rfl⟩, wE (es := es ++ [x]) (by simp) he⟩
 skip
 refine lx rfl rfl (gH qA Ay LO rfl (dX rfl rfl fR) rfl (by decide) (by decide) (by decide)) rfl ?_; clear hS
 rintro _ _ ⟨b2, rfl, rfl⟩
 refine ⟨aF, fun hS => ?_⟩
 refine bF 4 (cV (aH (aE rfl))) fun hS => ?_
 refine cg 7 (eQ (sz := 21) (by_ := 96) (info := Tryz.t275) qA (by kernel_rfl) rfl rfl rfl rfl (by decide) rfl rfl dW rfl rfl (by simp only [maxLen]; omega) (by omega)) ?_; clear hS
 rintro _ _ ⟨a3, c3, rfl, rfl⟩
 refine ⟨aF, fun hS => ?_⟩
 refine ae 8 2 hS ?_
 refine bG 10 dq fun hS => ?_
 refine aK ?_
 refine aa ?_
 exact ⟨_, ⟨rfl, rfl⟩, wE (es := es ++ [x]) (by simp) he⟩
abbrev wF (cats who quota : Int) : Obj := a8 [eG, .int .i64 0, .int .i64 0, .int .i64 0, .int .i64 cats, .int .i64 who, .int .i64 quota, .bool true] 190
theorem XW (cats who quota : Int) (h1 : 0 ≤ cats ∧ cats ≤ 8) (h2 : -1 ≤ who ∧ who < 4) (h3 : 0 ≤ quota ∧ quota ≤ 64) : sP W0 56 [iQ cats, iQ who, iQ quota] R (fun v B => ∃ b, v = .tuple #[pQ b, iQ 0] ∧ B = pt b (wF cats who quota) :: R) := by
 refine ac func56 ntmps56 ?_
 refine aA rfl (fun c1 => ?_) fun c1 => ?_
 omega
 refine aw ?_
 refine aA rfl (fun c2 => ?_) fun c2 => ?_
 omega
 refine aw ?_
 refine aA rfl (fun c3 => ?_) fun c3 => ?_
 omega
 refine aw ?_
 refine aA rfl (fun c4 => ?_) fun c4 => ?_
 omega
 refine aw ?_
 refine aA rfl (fun c5 => ?_) fun c5 => ?_
 omega
 refine aw ?_
 refine aA rfl (fun c6 => ?_) fun c6 => ?_
 omega
 refine aw ?_
 refine aV fun b1 => ?_
 refine aT ?_
 exact ⟨_, ⟨_, rfl, rfl⟩, ent_refl⟩
end
section
structure It where
  kr : Int
  kp : Int
  ep : Int
  ef : Int
  er : Int
  u : Int
deriving DecidableEq
instance : Inhabited It := ⟨⟨0, 0, 0, 0, 0, 0⟩⟩
def It.key (x : It) : Int × Int := (x.kr, x.kp)
def It.ent (x : It) : Int × Int × Int := (x.ep, x.ef, x.er)
def aY (x : It) : List Value := [.int .i64 x.kr, .int .i64 x.kp, .int .i64 x.ep, .int .i64 x.ef, .int .i64 x.er, .int .i64 x.u]
theorem gy (x : It) : (aY x).length = 6 := rfl
def us (l : List It) (i : Nat) : Int := (l.getD i default).u
theorem us_eq {l : List It} {i : Nat} (h : i < l.length) : us l i = l[i].u := by simp [us, List.getD, h]
def swapL (l : List It) (i j : Nat) : List It := (l.set i (l.getD j default)).set j (l.getD i default)
theorem w8 (l : List It) (i j : Nat) : (swapL l i j).length = l.length := by simp [swapL]
theorem pJ {l : List It} {i j : Nat} (hi : i < l.length) (hj : j < l.length) (x : Nat) : (swapL l i j).getD x default = if x = i then l.getD j default else if x = j then l.getD i default else l.getD x default := by
 grind [swapL]
theorem jq {l : List It} {i j : Nat} (hi : i < l.length) (hj : j < l.length) (x : Nat) : us (swapL l i j) x = if x = i then us l j else if x = j then us l i else us l x := by
 grind [us, pJ]
theorem BS {α : Type} : ∀ (l : List α) (i j : Nat) (hi : i < l.length) (hj : j < l.length), ((l.set i l[j]).set j l[i]).Perm l := by
 grind [List.set_set_perm]
theorem ke {l : List It} {i j : Nat} (hi : i < l.length) (hj : j < l.length) : (swapL l i j).Perm l := by
 grind [BS, swapL]
def Heap (l : List It) (n : Nat) : Prop := ∀ c, c < n → 0 < c → us l ((c - 1) / 2) ≤ us l c
def iC (l : List It) (i n : Nat) : Prop := ∀ c, c < n → 0 < c → (c ≠ i → (c - 1) / 2 ≠ i → us l ((c - 1) / 2) ≤ us l c) ∧ ((c - 1) / 2 = i → 0 < i → us l ((i - 1) / 2) ≤ us l c)
def Up (l : List It) (j n : Nat) : Prop := ∀ c, c < n → 0 < c → (c ≠ j → us l ((c - 1) / 2) ≤ us l c) ∧ ((c - 1) / 2 = j → 0 < j → us l ((j - 1) / 2) ≤ us l c)
theorem BU {l : List It} {i j n : Nat} (h : iC l i n) (hn : n ≤ l.length) (hj : j < n) (hc : (j - 1) / 2 = i) (h0 : 0 < j) (hlt : us l j < us l i)
    (hmin : ∀ c, c < n → 0 < c → (c - 1) / 2 = i → us l j ≤ us l c) : iC (swapL l i j) j n ∧ us (swapL l i j) ((j - 1) / 2) ≤ us (swapL l i j) j := by
 have hij : i < j := by omega
 have sw := jq (l := l) (i := i) (j := j) (by omega) (by omega)
 refine ⟨fun c hcn hc0 => ⟨fun h1 h2 => ?_, fun h1 h2 => ?_⟩, ?_⟩
 rw [sw, sw]
 by_cases e1 : c = i
 subst e1
 have := (h j hj h0).2 hc (by omega)
 rw [Qab (by omega), Qab (by omega), Qae rfl]; exact this
 by_cases e2 : (c - 1) / 2 = i
 grind
 rw [Qab e2, Qab h2, Qab e1, Qab h1]; exact (h c hcn hc0).1 e1 e2
 rw [hc, sw, sw, Qae rfl, Qab (by omega), Qab (by omega)]
 rw [← h1]; exact (h c hcn hc0).1 (by omega) (by omega)
 grind
theorem w9 {l : List It} {i n : Nat} (h : iC l i n) (hmin : ∀ c, c < n → 0 < c → (c - 1) / 2 = i → us l i ≤ us l c) (hp : 0 < i → us l ((i - 1) / 2) ≤ us l i) : Heap l n := fun c hc h0 => by
 by_cases e1 : (c - 1) / 2 = i
 grind
 by_cases e2 : c = i
 grind
 exact (h c hc h0).1 e2 e1
theorem yI {l : List It} {i n : Nat} (h : iC l i n) (hmin : ∀ c, c < n → 0 < c → (c - 1) / 2 = i → us l i ≤ us l c) : Up l i n := fun c hc h0 => ⟨fun e => by
 by_cases e1 : (c - 1) / 2 = i
 grind
 exact (h c hc h0).1 e e1, (h c hc h0).2⟩
theorem BV {l : List It} {j n : Nat} (h : Up l j n) (hn : n ≤ l.length) (hj : j < n) (h0 : 0 < j) (hlt : us l j < us l ((j - 1) / 2)) : Up (swapL l ((j - 1) / 2) j) ((j - 1) / 2) n := by
 have sw := jq (l := l) (i := (j - 1) / 2) (j := j) (by omega) (by omega)
 intro c hc hc0
 refine ⟨fun h1 => ?_, fun h1 h2 => ?_⟩
 rw [sw, sw]
 by_cases e1 : c = j
 omega
 by_cases e2 : (c - 1) / 2 = (j - 1) / 2
 rw [Qae e2, Qab (by omega), Qab e1]
 have := (h c hc hc0).1 e1; rw [e2] at this; omega
 by_cases e3 : (c - 1) / 2 = j
 rw [Qab e2, Qae e3, Qab h1, Qab e1]; exact (h c hc hc0).2 e3 h0
 rw [Qab e2, Qab e3, Qab h1, Qab e1]; exact (h c hc hc0).1 e1
 rw [sw, sw, Qab (by omega), Qab (by omega)]
 have hp := (h ((j - 1) / 2) (by omega) h2).1 (by omega)
 by_cases e1 : c = j
 omega
 rw [Qab (by omega), Qab e1]
 have := (h c hc hc0).1 e1; rw [h1] at this; omega
theorem wa {l : List It} {j n : Nat} (h : Up l j n) (hp : 0 < j → us l ((j - 1) / 2) ≤ us l j) : Heap l n := fun c hc h0 => by
 by_cases e : c = j
 grind
 exact (h c hc h0).1 e
theorem heap_min {l : List It} {n : Nat} (h : Heap l n) : ∀ c, c < n → us l 0 ≤ us l c := by
 intro c
 induction c using Nat.strongRecOn with
 | _ c ih =>
  intro hc
  by_cases h0 : c = 0
  grind
  have := h c hc (by omega)
  have := ih ((c - 1) / 2) (by omega) (by omega)
  omega
theorem BW {l : List It} {i : Nat} {x : It} {n : Nat} (h : Heap l n) (hi : i < l.length) : iC (l.set i x) i n := fun c hc h0 => by
 have e : ∀ y, y ≠ i → us (l.set i x) y = us l y := fun y hy => by
  unfold us; simp only [Qai]; rw [QaT (by omega)]
 refine ⟨fun h1 h2 => ?_, fun h1 h2 => ?_⟩
 rw [e _ h1, e _ h2]; exact h c hc h0
 rw [e _ (by omega), e _ (by omega)]
 have k1 := h c hc h0
 have k2 := h i (by omega) h2
 rw [h1] at k1; omega
theorem wc {l l' : List It} {n : Nat} (h : ∀ i, i < n → l.getD i default = l'.getD i default) {i : Nat} (hi : i < n) : us l i = us l' i := by unfold us; rw [h i hi]
theorem BX {l l' : List It} {n : Nat} (h : ∀ i, i < n → l.getD i default = l'.getD i default) (k : Heap l n) : Heap l' n := fun c hc h0 => by
 rw [← wc h hc, ← wc h (i := (c - 1) / 2) (by omega)]; exact k c hc h0
theorem BY {l : List It} {n m : Nat} (h : Heap l n) (k : m ≤ n) : Heap l m := fun c hc h0 => h c (by omega) h0
structure Down (its l : List It) (i0 n : Nat) (moved : Bool) : Prop where
  perm : l.Perm its
  tail : ∀ x, n ≤ x → l.getD x default = its.getD x default
  no : moved = false → l = its ∧ ∀ c, c < n → 0 < c → (c - 1) / 2 = i0 → us its i0 ≤ us its c
  yes : moved = true → Heap l n
theorem wd {l its : List It} {i i0 n : Nat} (hp : l.Perm its) (hi : i0 ≤ i) (hH : iC l i n) (ht : ∀ x, n ≤ x → l.getD x default = its.getD x default) (h0 : i = i0 → l = its)
    (hg : i0 < i → us l ((i - 1) / 2) ≤ us l i) (hmin : ∀ c, c < n → 0 < c → (c - 1) / 2 = i → us l i ≤ us l c) : Down its l i0 n (decide (i0 < i)) :=
  ⟨hp, ht, fun h => by
 have : i = i0 := by grind
 subst this
 obtain rfl := h0 rfl
 exact ⟨rfl, hmin⟩, fun h => by
 have : i0 < i := by simpa using h
 exact w9 hH hmin fun _ => hg this⟩
end
section
open Go.RowKit
def aJ (b : Nat) (x : List It × List Value) : HP := chk (fun C => ∃ a c, C = [pt b (a8 (.slice a x.1.length c :: x.2) 479), osl 548 6 (.slice a x.1.length c) (x.1.flatMap aY)])
section
variable {P : Program} {W0 : World} {R A : List HP} {b : Nat} {its : List It} {tl : List Value} {f : FuncId} {args : List Value} {Post : Value → List HP → Prop}
theorem uO (h : ∀ a c, aZ P W0 f args (pt b (a8 (.slice a its.length c :: tl) 479) :: osl 548 6 (.slice a its.length c) (its.flatMap aY) :: R) Post) : aZ P W0 f args (aJ b (its, tl) :: R) Post :=
  nY fun C hC => by obtain ⟨a, c, rfl⟩ := hC; exact h a c
theorem pZ {a : Option Addr} {c n : Nat} {R1 R2 B : List HP} [h1 : Tk pt b A (a8 (.slice a n c :: tl) 479) R1] [h2 : Tk (osl 548 6) (.slice a n c) R1 (its.flatMap aY) R2] (hn : n = its.length) [k : Ent R2 B] : Ent A (aJ b (its, tl) :: B) := by
 subst hn
 exact (Ent.ofPerm (h1.perm.trans (h2.perm.cons _))).trans ((Ent.cons (Ent.cons k)).trans (dQ (R := B) (C := [_, _]) ⟨a, c, rfl⟩))
theorem Ck (h0 : its ≠ []) (h : ∀ g c sp, its.length ≤ c → c ≤ maxLen → (its.flatMap aY ++ sp).length = c * 6 → aZ P W0 f args (pt b (a8 (.slice (some ⟨g, 0, none⟩) its.length c :: tl) 479) :: pt g (a8 (its.flatMap aY ++ sp) 548) :: R) Post) : aZ P W0 f args (aJ b (its, tl) :: R) Post :=
  uO fun a c => lZ (List.Perm.swap _ _ _) (vI (fun h1 h2 => by
      have := bX gy its
      rw [h2] at this
      exact absurd (QaD (by grind)) h0)
    (fun g n cap sp h1 h2 h3 h4 h5 => by
      cases h1
      exact lZ (List.Perm.swap _ _ _) (h g _ sp h2 h3 h5)))
theorem zb {N : FSz} {K : Act → World → Prop} {e : aP} [hk : Tk aJ b A (its, tl) R] (h : ∀ a c, am W0 N K e (pt b (a8 (.slice a its.length c :: tl) 479) :: osl 548 6 (.slice a its.length c) (its.flatMap aY) :: R)) : am W0 N K e A :=
  gJ (r := aJ) (b := b) (mN fun C hC => by obtain ⟨a, c, rfl⟩ := hC; exact h a c)
theorem Cl {N : FSz} {K : Act → World → Prop} {e : aP} [hk : Tk aJ b A (its, tl) R] (h0 : its ≠ []) (h : ∀ g c sp, its.length ≤ c → c ≤ maxLen → (its.flatMap aY ++ sp).length = c * 6 → am W0 N K e (pt b (a8 (.slice (some ⟨g, 0, none⟩) its.length c :: tl) 479) :: pt g (a8 (its.flatMap aY ++ sp) 548) :: R)) : am W0 N K e A :=
  zb (b := b) fun a c => oY (List.Perm.swap _ _ _) (ny (fun h1 h2 => by
      have := bX gy its
      rw [h2] at this
      exact absurd (QaD (by grind)) h0)
    (fun g n cap sp h1 h2 h3 h4 h5 => by
      cases h1
      exact oY (List.Perm.swap _ _ _) (h g _ sp h2 h3 h5)))
theorem Hs [hk : Tk aJ b A (its, tl) R] : aR (az W0 A) b 1 tl := fun i v hi w (hO : Own W0 w A) => by
 obtain ⟨C, ⟨a, c, rfl⟩, hO'⟩ := (hO.tk (r := aJ) (b := b)).chk
 have h1 : Own W0 w (pt b (a8 (.slice a its.length c :: tl) 479) :: (osl 548 6 (.slice a its.length c) (its.flatMap aY) :: R)) := hO'
 have h2 : iM (az W0 (pt b (a8 (.slice a its.length c :: tl) 479) :: (osl 548 6 (.slice a its.length c) (its.flatMap aY) :: R))) b (1 + i) v := aE (by grind)
 exact h2 w h1
theorem ri {g c n : Nat} {xs sp : List Value} {R1 R2 B : List HP} [h1 : Tk pt b A (a8 (.slice (some ⟨g, 0, none⟩) n c :: tl) 479) R1] [h2 : Tk pt g R1 (a8 (xs ++ sp) 548) R2] (hx : xs = its.flatMap aY) (hn : n = its.length) (hc : n ≤ c) (hm : c ≤ maxLen) (hl : (xs ++ sp).length = c * 6) [k : Ent R2 B] : Ent A (aJ b (its, tl) :: B) := by
 subst hn
 subst hx
 have e : Ent R1 (osl 548 6 (.slice (some ⟨g, 0, none⟩) its.length c) (its.flatMap aY) :: B) := gG hc hm (bX gy its) hl
 exact (Ent.ofPerm h1.perm).trans ((Ent.cons e).trans (dQ (R := B) (C := [_, _]) ⟨_, c, rfl⟩))
theorem Ht {N : FSz} {K : Act → World → Prop} {e : aP} {g c n : Nat} {xs sp : List Value} {R1 R2 : List HP} [h1 : Tk pt b A (a8 (.slice (some ⟨g, 0, none⟩) n c :: tl) 479) R1] [h2 : Tk pt g R1 (a8 (xs ++ sp) 548) R2] (hx : xs = its.flatMap aY) (hn : n = its.length) (hc : n ≤ c) (hm : c ≤ maxLen) (hl : (xs ++ sp).length = c * 6)
    (k : am W0 N K e (aJ b (its, tl) :: R2)) : am W0 N K e A := ja (ri (b := b) hx hn hc hm hl) k
end
theorem wG (its : List It) (sp : List Value) (i j : Nat) (hi : i < its.length) (hj : j < 6) : (its.flatMap aY ++ sp)[i * 6 + j]? = (aY (its.getD i default))[j]? := by
 rw [nv gy its i j sp hi hj]; simp [List.getD, hi]
theorem kh (its : List It) (sp : List Value) (i : Nat) (hi : i < its.length) : ((its.flatMap aY ++ sp).drop (i * 6)).take 6 = aY (its.getD i default) := by
 rw [pn gy its i sp hi]; simp [List.getD, hi]
theorem oG (its : List It) (sp : List Value) (i : Nat) (x : It) (hi : i < its.length) : d4 (its.flatMap aY ++ sp) (i * 6) (aY x) = (its.set i x).flatMap aY ++ sp := si gy its i x sp hi
theorem XX (its : List It) (sp : List Value) (i : Nat) (hi : i < its.length) : ((its.flatMap aY ++ sp).drop (i * 6 + 2)).take 3 = [iQ (its.getD i default).ep, iQ (its.getD i default).ef, iQ (its.getD i default).er] := by
 have := Qak (fun l => (l.drop 2).take 3) (kh its sp i hi)
 simp only [List.drop_take, List.take_take, QcE] at this
 exact this
theorem XY (its : List It) (sp : List Value) (i : Nat) (u : Int) (hi : i < its.length) : (its.flatMap aY ++ sp).set (i * 6 + 5) (iQ u) = (its.set i { its.getD i default with u := u }).flatMap aY ++ sp :=
  qG gy its i 5 _ _ sp hi (by decide) (by simp [List.getD, hi, aY])
theorem nN (its : List It) (sp : List Value) (i : Nat) (hi : i < its.length) : i * 6 + 6 ≤ (its.flatMap aY ++ sp).length := by
 rw [Qad, bX gy]; omega
theorem uP {its : List It} {i : Nat} (h : i < its.length) : its ≠ [] := fun e => by rw [e] at h; simp at h
theorem rj (b : Nat) (its : List It) (tl : List Value) : sQ W0 410 [pQ b] (aJ b (its, tl) :: R) (iQ (its.length : Nat)) (aJ b (its, tl) :: R) := by
 refine uO fun a c => ?_
 refine ac func410 ntmps410 ?_
 refine aa ?_
 exact ⟨_, ⟨rfl, rfl⟩, pZ rfl⟩
theorem wH (b : Nat) (its : List It) (tl : List Value) (i k : Nat) (hi : i < its.length) (hk : k < its.length) : sQ W0 555 [pQ b, iQ i, iQ k] (aJ b (its, tl) :: R) (.bool (decide (us its i < us its k))) (aJ b (its, tl) :: R) := by
 refine Ck (uP hi) fun g c sp h1 h2 h3 => ?_
 refine ac func555 ntmps555 ?_
 refine bu [b, g] 18 fun hS => ?_
 refine ae 0 5 hS ?_
 refine ax 5 hS (bE hi) ?_
 refine ae 6 1 hS ?_
 refine ax 7 hS (aH (cY (k := 1) rfl ((wG its sp i 5 hi (by decide)).trans rfl))) ?_
 refine ae 8 5 hS ?_
 refine ax 13 hS (bE hk) ?_
 refine ae 14 1 hS ?_
 refine ax 15 hS (aH (cY (k := 1) rfl ((wG its sp k 5 hk (by decide)).trans rfl))) ?_
 refine ae 16 2 hS ?_
 refine aK ?_
 refine aa ?_
 exact ⟨_, ⟨rfl, rfl⟩, ri rfl rfl h1 h2 h3⟩
theorem wI (b : Nat) (its : List It) (tl : List Value) (i k : Nat) (hi : i < its.length) (hk : k < its.length) : sQ W0 558 [pQ b, iQ i, iQ k] (aJ b (its, tl) :: R) (.tuple #[]) (aJ b (swapL its i k, tl) :: R) := by
 refine Ck (uP hi) fun g c sp h1 h2 h3 => ?_
 refine ac func558 ntmps558 ?_
 refine bu [b] 28 fun hS => ?_
 refine ae 0 15 hS ?_
 refine ax 15 hS (bE hk) ?_
 refine ae 17 5 hS ?_
 refine ax 22 hS (bE hi) ?_
 refine eh (is := [16, 23]) (by kernel_rfl) rfl ⟨?_, ?_, trivial⟩
 refine cT (cV (bZ (cp (kh its sp k hk) rfl))) ?_; clear hS
 rintro _ _ ⟨rfl, rfl⟩
 refine ⟨aF, fun hS => ?_⟩
 refine bF 23 (cV (bZ (cp (kh its sp i hi) rfl))) fun hS => ?_
 refine ax 24 hS (bE hi) ?_
 refine bG 25 (iP (nN its sp i hi) (oG its sp i (its.getD k default) hi)) fun hS => ?_
 refine ax 26 hS (bE hk) ?_
 refine bG 27 (iP (nN (its.set i (its.getD k default)) sp k (by grind)) (oG (its.set i (its.getD k default)) sp k (its.getD i default) (by grind))) fun hS => ?_
 refine aK ?_
 refine bA (.inr rfl) .nil ?_
 exact ⟨_, ⟨rfl, rfl⟩, ri rfl (by simp [swapL]) (by omega) h2 (by simpa [swapL, bX gy] using h3)⟩
 skip
 refine cT (cV (bZ (cp (kh its sp i hi) rfl))) ?_; clear hS
 rintro _ _ ⟨rfl, rfl⟩
 refine ⟨aF, fun hS => ?_⟩
 refine bF 16 (cV (bZ (cp (kh its sp k hk) rfl))) fun hS => ?_
 refine ax 24 hS (bE hi) ?_
 refine bG 25 (iP (nN its sp i hi) (oG its sp i (its.getD k default) hi)) fun hS => ?_
 refine ax 26 hS (bE hk) ?_
 refine bG 27 (iP (nN (its.set i (its.getD k default)) sp k (by grind)) (oG (its.set i (its.getD k default)) sp k (its.getD i default) (by grind))) fun hS => ?_
 refine aK ?_
 refine bA (.inr rfl) .nil ?_
 exact ⟨_, ⟨rfl, rfl⟩, ri rfl (by simp [swapL]) (by omega) h2 (by simpa [swapL, bX gy] using h3)⟩
theorem zd (b : Nat) (its : List It) (x : It) (tl : List Value) : sQ W0 556 [pQ b] (aJ b (its ++ [x], tl) :: R) (.iface 548 (.agg (aY x).toArray)) (aJ b (its, tl) :: R) := by
 refine Ck (by simp) fun g c sp h1 h2 h3 => ?_
 have hl : (its ++ [x]).length = its.length + 1 := by simp
 rw [hl] at h1 ⊢
 have hg : (its ++ [x]).getD its.length default = x := by grind
 have hr := kh (its ++ [x]) sp its.length (by omega)
 rw [hg] at hr
 have he : (its ++ [x]).flatMap aY ++ sp = its.flatMap aY ++ (aY x ++ sp) := by simp
 refine ac func556 ntmps556 ?_
 refine a7 (jW rfl rfl (by rw [bU (by simp only [maxLen] at h2; omega)]; omega : IntKind.wrap .i64 (((its.length + 1 : Nat) : Int) - 1) = ((its.length : Nat) : Int))) ?_
 refine a7 (bE (by omega)) ?_
 refine a7 (bZ (cp hr rfl)) ?_
 refine bB fun b1 => ?_
 refine aB aD ?_
 refine a7 (mM iL dN rfl rfl rfl (by omega)) ?_
 refine eu (jZ KU rfl rfl rfl (Qaa rfl) SetL.eq) ?_
 rintro _ _ rfl
 refine aM (aC (aI (aU (ab rfl (nr lr dN rfl rfl) ?_))))
 refine ab rfl (vG rP (fun _ h => by cases h) rfl) ?_
 refine ab rfl (bq rfl) (aM (aC (dC (bA (.inl rfl) (.cons (bP rfl) .nil) ?_))))
 rw [he]
 exact ⟨_, ⟨rfl, rfl⟩, ri (sp := aY x ++ sp) rfl rfl (by omega) h2 (by rw [← he]; exact h3)⟩
theorem XZ (b : Nat) (its : List It) (x : It) (tl : List Value) (hn : its.length < 1000) : sQ W0 557 [pQ b, .iface 548 (.agg (aY x).toArray)] (aJ b (its, tl) :: R) (.tuple #[]) (aJ b (its ++ [x], tl) :: R) := by
 refine uO fun a c => ?_
 have he : its.flatMap aY ++ [aY x].flatten = (its ++ [x]).flatMap aY := by simp
 refine ly func557 ntmps557 rfl rfl ?_
 refine bu [] 12 fun hS => ?_
 refine ae 0 4 hS ?_
 refine ae 5 1 hS ?_
 refine ax 6 hS (pr rP (fun _ h => by cases h) rfl) ?_
 refine eh (is := [4, 7]) (by kernel_rfl) rfl ⟨?_, ?_, trivial⟩
 refine cT (cV (aH (aE rfl))) ?_; clear hS
 rintro _ _ ⟨rfl, rfl⟩
 refine ⟨aF, fun hS => ?_⟩
 refine lw 7 (by kernel_rfl) rfl rfl (gH iL dN qB rfl (dX rfl rfl fR) rfl (by decide) (by decide) (by decide)) rfl ?_; clear hS
 rintro _ _ ⟨b1, rfl, rfl⟩
 refine ⟨aF, fun hS => ?_⟩
 refine cg 8 (eQ (sz := 6) (by_ := 48) (info := Tryz.t548) iL (by kernel_rfl) rfl rfl rfl rfl (by decide) rfl rfl dW rfl rfl (by simp only [maxLen]; omega) (by omega)) ?_; clear hS
 rintro _ _ ⟨a1, c1, rfl, rfl⟩
 refine ⟨aF, fun hS => ?_⟩
 refine ae 9 2 hS ?_
 refine bG 11 dq fun hS => ?_
 refine fw ?_
 refine bA (.inr rfl) .nil ?_
 rw [he]
 exact ⟨_, ⟨rfl, rfl⟩, pZ (its := its ++ [x]) (by simp)⟩
 skip
 refine lx rfl rfl (gH iL dN qB rfl (dX rfl rfl fR) rfl (by decide) (by decide) (by decide)) rfl ?_; clear hS
 rintro _ _ ⟨b1, rfl, rfl⟩
 refine ⟨aF, fun hS => ?_⟩
 refine bF 4 (cV (aH (aE rfl))) fun hS => ?_
 refine cg 8 (eQ (sz := 6) (by_ := 48) (info := Tryz.t548) iL (by kernel_rfl) rfl rfl rfl rfl (by decide) rfl rfl dW rfl rfl (by simp only [maxLen]; omega) (by omega)) ?_; clear hS
 rintro _ _ ⟨a1, c1, rfl, rfl⟩
 refine ⟨aF, fun hS => ?_⟩
 refine ae 9 2 hS ?_
 refine bG 11 dq fun hS => ?_
 refine aK ?_
 refine bA (.inr rfl) .nil ?_
 rw [he]
 exact ⟨_, ⟨rfl, rfl⟩, pZ (its := its ++ [x]) (by simp)⟩
section
variable (w : World) (a : Addr)
theorem wJ : (method (Tryz.prog.types.size + Made.depth) 549 (.pointer (some a)) "Len").run Tryz.prog w = .ok (410, .pointer (some a)) w := by kernel_rfl
theorem wK : (method (Tryz.prog.types.size + Made.depth) 549 (.pointer (some a)) "Less").run Tryz.prog w = .ok (555, .pointer (some a)) w := by kernel_rfl
theorem wL : (method (Tryz.prog.types.size + Made.depth) 549 (.pointer (some a)) "Swap").run Tryz.prog w = .ok (558, .pointer (some a)) w := by kernel_rfl
theorem Y0 : (method (Tryz.prog.types.size + Made.depth) 549 (.pointer (some a)) "Push").run Tryz.prog w = .ok (557, .pointer (some a)) w := by kernel_rfl
theorem ze : (method (Tryz.prog.types.size + Made.depth) 549 (.pointer (some a)) "Pop").run Tryz.prog w = .ok (556, .pointer (some a)) w := by kernel_rfl
end
def lL (b : Nat) : Value := .iface 549 (.pointer (some ⟨b, 0, none⟩))
theorem C2 {j : Nat} (h : j < 1000) : IntKind.wrap .i64 (Int.tdiv ((j : Int) - 1) 2) = (((j - 1) / 2 : Nat) : Int) := by
 grind [Int.tdiv_eq_ediv_of_nonneg, bU]
theorem we {l l0 : List It} {i j n : Nat} (hi : i < n) (hj : j < n) (hn : n ≤ l.length) (h : ∀ x, n ≤ x → l.getD x default = l0.getD x default) : ∀ x, n ≤ x → (swapL l i j).getD x default = l0.getD x default := fun x hx => by
 rw [pJ (by omega) (by omega), Qab (by omega), Qab (by omega)]; exact h x hx
theorem uF (W0 : World) (R : List HP) (b : Nat) (its : List It) (tl : List Value) (j n : Nat) (hn : n ≤ its.length) (hN : n < 1000) (hj : j < n) (hU : Up its j n) : sP W0 94 [lL b, iQ j] (aJ b (its, tl) :: R) (fun v B => v = .tuple #[] ∧ ∃ its', B = aJ b (its', tl) :: R ∧ its'.Perm its ∧ Heap its' n ∧ ∀ x, n ≤ x → its'.getD x default = its.getD x default) := by
 refine ac func94 ntmps94 ?_
 refine dr (fun X : List It × Nat => X.1.Perm its ∧ X.2 < n ∧ Up X.1 X.2 n ∧ ∀ x, n ≤ x → X.1.getD x default = its.getD x default) (fun X => [(0, lL b), (1, iQ X.2)]) (fun X => aJ b (X.1, tl) :: R) (fun X => X.2) (its, j) ?_ ?_
 grind
 intro ⟨l, j⟩ ⟨hp, hj, hU, ht⟩
 have hlen := hp.length_eq
 simp only at hj hU ht hp hlen ⊢
 refine aw ?_
 refine a7 i6 ?_
 refine a7 (qD rfl rfl (by decide) (C2 (by omega))) ?_
 refine eR (fun g1_4 => ?_) fun g1_4 => ?_
 refine bA (.inr rfl) .nil ?_
 exact ⟨_, ⟨rfl, l, rfl, hp, wa hU (by omega), ht⟩, IO⟩
 refine ag (dY rfl ((fun w => wK w _)) Az rfl (wH b l tl j ((j - 1) / 2) (by omega) (by omega))) ?_
 refine aA rfl (fun c1 => ?_) fun c1 => ?_
 refine au 5 ?_
 refine bA (.inr rfl) .nil ?_
 exact ⟨_, ⟨rfl, l, rfl, hp, wa hU (by omega), ht⟩, IO⟩
 replace c1 : us l j < us l ((j - 1) / 2) := by omega
 refine aw ?_
 refine ag (dY rfl ((fun w => wL w _)) AA rfl (wI b l tl ((j - 1) / 2) j (by omega) (by omega))) ?_
 exact cv (swapL l ((j - 1) / 2) j, (j - 1) / 2) (⟨(ke (by omega) (by omega)).trans hp, by show (j - 1) / 2 < n; omega, BV hU (by omega) hj (by omega) c1, we (by omega) hj (by omega) ht⟩)
theorem uG (W0 : World) (R : List HP) (b : Nat) (its : List It) (tl : List Value) (i0 n : Nat) (hn : n ≤ its.length) (hN : n < 1000) (hi : i0 ≤ n) (hH : iC its i0 n) : sP W0 187 [lL b, iQ i0, iQ n] (aJ b (its, tl) :: R) (fun v B => ∃ l m, v = .bool m ∧ B = aJ b (l, tl) :: R ∧ Down its l i0 n m) := by
 refine ac LC ntmps187 ?_
 refine dr (fun X : List It × Nat => X.1.Perm its ∧ i0 ≤ X.2 ∧ iC X.1 X.2 n ∧ (∀ x, n ≤ x → X.1.getD x default = its.getD x default) ∧ (X.2 = i0 → X.1 = its) ∧ (i0 < X.2 → us X.1 ((X.2 - 1) / 2) ≤ us X.1 X.2) ∧ X.2 ≤ n) (fun X => [(0, lL b), (1, iQ i0), (2, iQ n), (7, iQ X.2)]) (fun X => aJ b (X.1, tl) :: R) (fun X => n - X.2) (its, i0) ?_ ?_
 grind
 intro ⟨l, i⟩ ⟨hp, hi0, hl, ht, he, hg, hin⟩
 have hlen := hp.length_eq
 simp only at hp hi0 hl ht he hg hin hlen ⊢
 refine aw ?_
 refine a7 Ba ?_
 refine a7 (eC (2 * i + 1)) ?_
 refine eR (fun g3_4 => ?_) fun g3_4 => ?_
 refine aa ?_
 refine ⟨_, ⟨l, decide (i0 < i), by simp [bD], rfl, wd hp hi0 hl ht he hg ?_⟩, IO⟩
 first | (intro c hc h0 h1; exfalso; omega) | (intro c hc h0 h1; have := hmin c hc h0 h1; simp at c8; omega)
 refine aA rfl (fun c3 => ?_) fun c3 => ?_
 omega
 refine au 8 ?_
 refine ec (fun j : Nat => (j - 1) / 2 = i ∧ 0 < j ∧ j < n ∧ ∀ c, c < n → 0 < c → (c - 1) / 2 = i → us l j ≤ us l c) (fun j => [(0, lL b), (1, iQ i0), (2, iQ n), (7, iQ i), (9, iQ j)]) (fun j => aJ b (l, tl) :: R) ?_ ?_
 refine au 3 ?_
 refine a7 (eC (2 * i + 2)) ?_
 refine cA (fun g6_4 => ?_) fun g6_4 => ?_
 refine ag (dY rfl ((fun w => wK w _)) Az rfl (wH b l tl (2 * i + 2) (2 * i + 1) (by omega) (by omega))) ?_
 refine ah (fun c6 => ?_) fun c6 => ?_
 refine cq (2 * i + 2) ?_
 refine ⟨by omega, by omega, by omega, fun c hc h0 h1 => ?_⟩
 have : c = 2 * i + 1 ∨ c = 2 * i + 2 := by omega
 rcases this with rfl | rfl <;> omega
 refine cq (2 * i + 1) ?_
 refine ⟨by omega, by omega, by omega, fun c hc h0 h1 => ?_⟩
 have : c = 2 * i + 1 ∨ c = 2 * i + 2 := by omega
 rcases this with rfl | rfl <;> omega
 refine cq (2 * i + 1) ?_
 refine ⟨by omega, by omega, by omega, fun c hc h0 h1 => ?_⟩
 have : c = 2 * i + 1 ∨ c = 2 * i + 2 := by omega
 rcases this with rfl | rfl <;> omega
 intro j ⟨hj, hj0, hjn, hmin⟩
 refine aw ?_
 refine ag (dY rfl ((fun w => wK w _)) Az rfl (wH b l tl j i (by omega) (by omega))) ?_
 refine aA rfl (fun c8 => ?_) fun c8 => ?_
 refine au 15 ?_
 refine aa ?_
 refine ⟨_, ⟨l, decide (i0 < i), by simp [bD], rfl, wd hp hi0 hl ht he hg ?_⟩, IO⟩
 first | (intro c hc h0 h1; exfalso; omega) | (intro c hc h0 h1; have := hmin c hc h0 h1; simp at c8; omega)
 replace c8 : us l j < us l i := by simpa using c8
 refine aw ?_
 refine ag (dY rfl ((fun w => wL w _)) AA rfl (wI b l tl i j (by omega) (by omega))) ?_
 refine cv (swapL l i j, j) ?_ (hμ := ?_)
 have hs := BU hl (by omega) hjn hj hj0 c8 hmin
 exact ⟨(ke (by omega) (by omega)).trans hp, by show i0 ≤ j; omega, hs.1, we (by omega) hjn (by omega) ht, by show j = i0 → _; omega, fun _ => hs.2, by show j ≤ n; omega⟩
 show n - j < n - i; omega
theorem Hu (b : Nat) (its : List It) (tl : List Value) (i : Nat) (hN : its.length < 1000) (hi : i < its.length) (hH : iC its i its.length) : sP W0 409 [lL b, iQ i] (aJ b (its, tl) :: R) (fun v B => v = .tuple #[] ∧ ∃ its', B = aJ b (its', tl) :: R ∧ its'.Perm its ∧ Heap its' its.length) := by
 refine ac func409 ntmps409 ?_
 refine ag (dY rfl ((fun w => wJ w _)) uc rfl (rj b its tl)) ?_
 refine ao rfl (aj xO (uG W0 _ b its tl i its.length (Qaj _) hN (by omega) hH)) ?_
 rintro _ _ ⟨l, m, rfl, rfl, hD⟩
 refine aw ?_
 refine ah (fun c0 => ?_) fun c0 => ?_
 have hm : m = false := by grind
 obtain ⟨rfl, hmin⟩ := hD.no hm
 refine ao rfl (aj Av (uF W0 _ b l tl i l.length (Qaj _) hN hi (yI hH hmin))) ?_
 rintro _ _ ⟨rfl, l', rfl, hp, hh, _⟩
 refine aw ?_
 refine bA (.inr rfl) .nil ?_
 exact ⟨_, ⟨rfl, l', rfl, hp, hh⟩, IO⟩
 refine bA (.inr rfl) .nil ?_
 exact ⟨_, ⟨rfl, l, rfl, hD.perm, hD.yes (by grind)⟩, IO⟩
theorem C3 {its : List It} {x : It} (h : Heap its its.length) : Up (its ++ [x]) its.length (its.length + 1) := by
 have e : ∀ c, c < its.length → us (its ++ [x]) c = us its c := fun c hc => by
  unfold us; simp only [Qai]; rw [QaJ hc]
 intro c hc h0
 refine ⟨fun h1 => ?_, fun h1 h2 => by omega⟩
 rw [e c (by omega), e _ (by omega)]; exact h c (by omega) h0
theorem heapPush_spec (b : Nat) (its : List It) (x : It) (tl : List Value) (hN : its.length < 900) (hh : Heap its its.length) : sP W0 50 [lL b, .iface 548 (.agg (aY x).toArray)] (aJ b (its, tl) :: R) (fun v B => v = .tuple #[] ∧ ∃ its', B = aJ b (its', tl) :: R ∧ its'.Perm (its ++ [x]) ∧ Heap its' its'.length) := by
 have hl : (its ++ [x]).length = its.length + 1 := by simp
 refine ac func50 ntmps50 ?_
 refine ag (dY rfl ((fun w => Y0 w _)) call557 rfl (XZ b its x tl (by omega))) ?_
 refine ag (dY rfl ((fun w => wJ w _)) uc rfl (rj b (its ++ [x]) tl)) ?_
 refine a7 (m0 its.length) ?_
 refine ao rfl (aj Av (uF W0 _ b (its ++ [x]) tl its.length (its.length + 1) (by omega) (by omega) (by omega) (C3 hh))) ?_
 rintro _ _ ⟨rfl, l', rfl, hp, hh', _⟩
 refine aw ?_
 refine bA (.inr rfl) .nil ?_
 exact ⟨_, ⟨rfl, l', rfl, hp, by rw [hp.length_eq, hl]; exact hh'⟩, IO⟩
theorem wm {l : List It} {n : Nat} (h : l.length = n + 1) : ∃ l' x, l = l' ++ [x] ∧ l'.length = n ∧ x = l.getD n default := by
 have hne : l ≠ [] := fun e => by rw [e] at h; simp at h
 refine ⟨l.dropLast, l.getLast hne, (List.dropLast_concat_getLast hne).symm, by simp [h], ?_⟩
 rw [List.getLast_eq_getElem]
 simp [List.getD, h]
theorem wn {l : List It} {x : It} {n : Nat} (h : Heap (l ++ [x]) n) (hn : n ≤ l.length) : Heap l n :=
  BX (fun i hi => by simp only [Qai]; rw [QaJ (by omega)]) h
theorem heapPop_spec (b : Nat) (its : List It) (tl : List Value) (hN : its.length < 900) (h0 : its ≠ []) (hh : Heap its its.length) : sP W0 117 [lL b] (aJ b (its, tl) :: R) (fun v B => ∃ x its', v = .iface 548 (.agg (aY x).toArray) ∧ B = aJ b (its', tl) :: R ∧ (its' ++ [x]).Perm its ∧ Heap its' its'.length ∧ ∀ y ∈ its, x.u ≤ y.u) := by
 obtain ⟨n, hn⟩ : ∃ n, its.length = n + 1 := ⟨its.length - 1, by have := Qci.2 h0; omega⟩
 have hs : iC (swapL its 0 n) 0 n := fun c hc h0 => ⟨fun h1 h2 => by
  rw [jq (by omega) (by omega), jq (by omega) (by omega), Qab h2, Qab h1, Qab (by omega), Qab (by omega)]
  exact hh c (by omega) h0, fun _ h => by omega⟩
 have hsl := w8 its 0 n
 refine ac func117 ntmps117 ?_
 refine ag (dY rfl ((fun w => wJ w _)) uc rfl (rj b its tl)) ?_
 refine a7 (m0 n) ?_
 refine ag (dY rfl ((fun w => wL w _)) AA rfl (wI b its tl 0 n (by omega) (by omega))) ?_
 refine ao rfl (aj xO (uG W0 _ b (swapL its 0 n) tl 0 n (by omega) (by omega) (by omega) hs)) ?_
 rintro _ _ ⟨l, m, rfl, rfl, hD⟩
 have hll := hD.perm.length_eq
 obtain ⟨l', x, rfl, hl', hx⟩ := wm (l := l) (n := n) (by omega)
 have hx0 : x = its.getD 0 default := by
  rw [hx, hD.tail n (Qaj _), pJ (by omega) (by omega)]; split
  rename_i e; subst e; rfl
  rw [Qae rfl]
 have hp : (l' ++ [x]).Perm its := hD.perm.trans (ke (by omega) (by omega))
 have hH : Heap (l' ++ [x]) n := by
  cases m with
  | true => exact hD.yes rfl
  | false =>
   obtain ⟨e, hmin⟩ := hD.no rfl
   rw [e]; exact w9 hs hmin (fun h => absurd h (by omega))
 refine aw ?_
 refine ag (dY rfl ((fun w => ze w _)) Ej rfl (zd b l' x tl)) ?_
 refine aa ?_
 refine ⟨_, ⟨x, l', rfl, rfl, hp, by rw [hl']; exact wn hH (by omega), fun y hy => ?_⟩, IO⟩
 obtain ⟨c, hc, rfl⟩ := Qbs.1 hy
 have := heap_min hh c hc
 rw [us_eq hc] at this
 rw [hx0]; exact this
theorem heapRemove_spec (b : Nat) (its : List It) (tl : List Value) (i : Nat) (hN : its.length < 900) (hi : i < its.length) (hh : Heap its its.length) : sP W0 334 [lL b, iQ i] (aJ b (its, tl) :: R) (fun v B => ∃ its', v = .iface 548 (.agg (aY (its.getD i default)).toArray) ∧ B = aJ b (its', tl) :: R ∧ (its' ++ [its.getD i default]).Perm its ∧ Heap its' its'.length) := by
 obtain ⟨n, hn⟩ : ∃ n, its.length = n + 1 := ⟨its.length - 1, by omega⟩
 have hs : i ≠ n → iC (swapL its i n) i n := fun hin c hc h0 => ⟨fun h1 h2 => by
  rw [jq (by omega) (by omega), jq (by omega) (by omega), Qab h2, Qab h1, Qab (by omega), Qab (by omega)]
  exact hh c (by omega) h0, fun h1 h2 => by
  rw [jq (by omega) (by omega), jq (by omega) (by omega), Qab (by omega), Qab (by omega), Qab (by omega), Qab (by omega)]
  have k1 := hh c (by omega) h0
  have k2 := hh i (by omega) h2
  rw [h1] at k1; omega⟩
 have hsl := w8 its i n
 have fin : ∀ l : List It, l.Perm its → Heap l n → l.getD n default = its.getD i default → ∃ l', l = l' ++ [its.getD i default] ∧ l'.length = n ∧ Heap l' l'.length := fun l hp hH hx => by
  have := hp.length_eq
  obtain ⟨l', x, rfl, hl', hx'⟩ := wm (l := l) (n := n) (by omega)
  rw [hx] at hx'; subst hx'
  exact ⟨l', rfl, hl', by rw [hl']; exact wn hH (by omega)⟩
 have hend : i ≠ n → (swapL its i n).getD n default = its.getD i default := fun h => by
  rw [pJ (by omega) (by omega), Qab (by omega), Qae rfl]
 refine ac func334 ntmps334 ?_
 refine ag (dY rfl ((fun w => wJ w _)) uc rfl (rj b its tl)) ?_
 refine a7 (m0 n) ?_
 refine ah (fun c2 => ?_) fun c2 => ?_
 have hin : i ≠ n := by omega
 refine ag (dY rfl ((fun w => wL w _)) AA rfl (wI b its tl i n (by omega) (by omega))) ?_
 refine ao rfl (aj xO (uG W0 _ b (swapL its i n) tl i n (by omega) (by omega) (by omega) (hs hin))) ?_
 rintro _ _ ⟨l, m, rfl, rfl, hD⟩
 have hll := hD.perm.length_eq
 refine aw ?_
 refine ah (fun c4 => ?_) fun c4 => ?_
 have hm : m = false := by simpa using c4
 obtain ⟨rfl, hmin⟩ := hD.no hm
 refine ao rfl (aj Av (uF W0 _ b (swapL its i n) tl i n (by omega) (by omega) (by omega) (yI (hs hin) hmin))) ?_
 rintro _ _ ⟨rfl, l, rfl, hp, hH, ht⟩
 obtain ⟨l', rfl, hl', hH⟩ := fin l (hp.trans (ke (by omega) (by omega))) hH ((ht n (Qaj _)).trans (hend hin))
 replace hp := hp.trans (ke (by omega) (by omega))
 generalize its.getD i default = x at hp ⊢
 refine aw ?_
 refine ag (dY rfl ((fun w => ze w _)) Ej rfl (zd b l' x tl)) ?_
 refine aa ?_
 exact ⟨_, ⟨l', rfl, rfl, by first | exact hp | exact QaC _, hH⟩, IO⟩
 have hm : m = true := by simpa using c4
 obtain ⟨l', rfl, hl', hH⟩ := fin l (hD.perm.trans (ke (by omega) (by omega))) (hD.yes hm) ((hD.tail n (Qaj _)).trans (hend hin))
 have hp := hD.perm.trans (ke (l := its) (i := i) (j := n) (by omega) (by omega))
 generalize its.getD i default = x at hp ⊢
 refine ag (dY rfl ((fun w => ze w _)) Ej rfl (zd b l' x tl)) ?_
 refine aa ?_
 exact ⟨_, ⟨l', rfl, rfl, by first | exact hp | exact QaC _, hH⟩, IO⟩
 obtain rfl : n = i := by omega
 obtain ⟨l', hl, hl', hH⟩ := fin its (QaC _) (BY hh (by omega)) rfl
 have hp : (l' ++ [its.getD n default]).Perm its := by rw [← hl]
 generalize hx : its.getD n default = x at hl hp ⊢
 rw [hl]
 refine ag (dY rfl ((fun w => ze w _)) Ej rfl (zd b l' x tl)) ?_
 refine aa ?_
 exact ⟨_, ⟨l', rfl, rfl, by first | exact hp | exact QaC _, hH⟩, IO⟩
@[reducible] def fp (k : Int × Int) : List Value := [.int .i64 k.1, .int .i64 k.2]
@[reducible] def lj (e : Int × Int × Int) : List Value := [.int .i64 e.1, .int .i64 e.2.1, .int .i64 e.2.2]
theorem Y1 (x : It) (bk : Nat) (k : Int × Int) : sQ W0 444 [.agg (aY x).toArray, pQ bk] (pt bk (a8 (fp k) 504) :: R) (.bool (decide (x.key = k))) (pt bk (a8 (fp k) 504) :: R) := by
 refine ac func444 ntmps444 ?_
 refine aV fun b1 => ?_
 refine ab rfl (bZ (cp (vs := [iQ x.kr, iQ x.kp]) rfl rfl)) ?_
 refine ab rfl (bZ (cp (vs := [iQ k.1, iQ k.2]) rfl rfl)) ?_
 refine a7 (rZ Tryz.eqGuardType504 rfl rfl (rY Ao Tryz.stoodInHeld504 (kw rfl cy rfl rfl (kv dw) (kw rfl cy rfl rfl (kv dw) rX)))) ?_
 refine aa ?_
 refine aQ ?_
 simp [bD, It.key, Prod.ext_iff]; rw [Qag]; simp
def Hv (its : List It) (k : Int × Int) (r : Int) : Prop := (r = -1 ∧ ∀ x ∈ its, x.key ≠ k) ∨ ∃ i : Nat, r = (i : Int) ∧ i < its.length ∧ (its.getD i default).key = k
theorem Y2 {its : List It} {k : Int × Int} (h : ∀ i, i < its.length → (its.getD i default).key ≠ k) : ∀ x ∈ its, x.key ≠ k := fun x hx => by
 obtain ⟨c, hc, rfl⟩ := Qbs.1 hx
 have := h c hc
 simpa [List.getD, hc] using this
theorem Y3 (its : List It) (a : Option Addr) (c bk : Nat) (k : Int × Int) (hN : its.length < 1000) : sP W0 443 [.slice a its.length c, .func (.func 444) #[] #[pQ bk]] (osl 548 6 (.slice a its.length c) (its.flatMap aY) :: pt bk (a8 (fp k) 504) :: R) (fun v B => ∃ r, v = iQ r ∧ B = osl 548 6 (.slice a its.length c) (its.flatMap aY) :: pt bk (a8 (fp k) 504) :: R ∧ Hv its k r) := by
 refine vI (fun h1 h2 => ?_) fun g n cap sp h1 h2 h3 h4 h5 => ?_
 have h0 : its.length = 0 := by grind
 obtain rfl : its = [] := QaD h0
 cases h1
 refine ac Ek ntmps443 ?_
 refine dr (fun X : Nat => True) (fun X => [(7, iQ 0), (8, iQ X)]) (fun X => pt bk (a8 (fp k) 504) :: R) (fun X => X) 0 ?_ ?_
 trivial
 intro j hj
 refine aw ?_
 refine aA rfl (fun c2 => ?_) fun c2 => ?_
 omega
 refine aw ?_
 refine aa ?_
 exact ⟨_, ⟨-1, rfl, rfl, .inl ⟨rfl, by simp⟩⟩, dP⟩
 cases h1
 refine ac Ek ntmps443 ?_
 refine dr (fun X : Nat => X ≤ its.length ∧ ∀ i, i < X → (its.getD i default).key ≠ k) (fun X => [(0, .slice (some ⟨g, 0, none⟩) its.length c), (1, .func (.func 444) #[] #[pQ bk]), (7, iQ (its.length : Nat)), (8, iQ X)]) (fun X => pt g (a8 (its.flatMap aY ++ sp) 548) :: pt bk (a8 (fp k) 504) :: R) (fun X => its.length - X) 0 ?_ ?_
 grind
 intro j ⟨hj, hno⟩
 refine aw ?_
 refine ah (fun c2 => ?_) fun c2 => ?_
 refine a7 (bE (by omega)) ?_
 refine a7 (bZ (cp (kh its sp j (by omega)) rfl)) ?_
 refine ag (so rfl call444 rfl (Y1 (its.getD j default) bk k)) ?_
 refine aA rfl (fun c4 => ?_) fun c4 => ?_
 replace c4 : (its.getD j default).key = k := by omega
 refine aw ?_
 refine aa ?_
 exact ⟨_, ⟨_, rfl, rfl, .inr ⟨j, rfl, by omega, c4⟩⟩, gG h2 h3 h4 h5⟩
 refine aw ?_
 refine a7 cQ ?_
 refine cv (j + 1) ?_
 grind
 refine aa ?_
 exact ⟨_, ⟨-1, rfl, rfl, .inl ⟨rfl, Y2 fun i hi => hno i (by omega)⟩⟩, gG h2 h3 h4 h5⟩
theorem uQ (b : Nat) (its : List It) (rm nw : Value) : sQ W0 406 [pQ b] (aJ b (its, [rm, nw, .bool true]) :: R) (.bool false) (aJ b (its, [rm, nw, .bool true]) :: R) := by
 refine uO fun a c => ?_
 refine ac func406 ntmps406 ?_
 refine cP rfl rfl rfl (fun g1_3 => ?_) fun g1_3 => ?_
 cases g1_3
 refine aw ?_
 refine aa ?_
 exact ⟨_, ⟨by simp [bD], rfl⟩, pZ rfl⟩
theorem Hw (b : Nat) (v0 rm : Value) (now : Nat) (hn : now < 1000000) : sQ W0 408 [pQ b] (pt b (a8 [v0, rm, iQ now, .bool true] 479) :: R) (iQ (now + 1 : Nat)) (pt b (a8 [v0, rm, iQ (now + 1 : Nat), .bool true] 479) :: R) := by
 refine ac func408 ntmps408 ?_
 refine a7 (eC (now + 1)) ?_
 refine aB dq ?_
 exact aa ai
theorem Hy (b : Nat) (its : List It) (rm : Value) (now : Nat) (hn : now < 1000000) : sQ W0 408 [pQ b] (aJ b (its, [rm, iQ now, .bool true]) :: R) (iQ (now + 1 : Nat)) (aJ b (its, [rm, iQ (now + 1 : Nat), .bool true]) :: R) := by
 refine uO fun a c => iy (Hw b _ rm now hn) ?_
 rintro _ _ ⟨rfl, rfl⟩
 exact ⟨_, ⟨rfl, rfl⟩, pZ rfl⟩
theorem Cm (b : Nat) (its : List It) (tl : List Value) (k : Int × Int) (hN : its.length < 1000) : sP W0 407 [pQ b, .agg (fp k).toArray] (aJ b (its, tl) :: R) (fun v B => ∃ r, v = iQ r ∧ B = aJ b (its, tl) :: R ∧ Hv its k r) := by
 refine uO fun a c => ?_
 refine ac func407 ntmps407 ?_
 refine aV fun b1 => ?_
 refine ao rfl (cJ call443 (Y3 its a c b1 k hN)) ?_
 rintro _ _ ⟨r, rfl, rfl, hf⟩
 refine aw ?_
 refine aa ?_
 exact ⟨_, ⟨r, rfl, rfl, hf⟩, pZ rfl⟩
theorem Y4 (room : Nat) (h : room ≤ 4) : sP W0 272 [iQ room] R (fun v B => ∃ b, v = .tuple #[pQ b, iQ 0] ∧ B = aJ b ([], [iQ room, iQ 0, .bool true]) :: R) := by
 refine ac func272 ntmps272 ?_
 refine cP rfl rfl rfl (fun g1_3 => ?_) fun g1_3 => ?_
 omega
 refine aw ?_
 refine aA rfl (fun c1 => ?_) fun c1 => ?_
 omega
 refine aw ?_
 refine aV fun b1 => ?_
 refine aT ?_
 exact ⟨_, ⟨b1, rfl, rfl⟩, (Ent.cons (dP (B := R))).trans (dQ (R := R) (C := [_, _]) ⟨none, 0, rfl⟩)⟩
abbrev uR (pv bt bs : Nat) : Obj := a8 [.pointer (some ⟨pv, 0, none⟩), .pointer (some ⟨bt, 0, none⟩), .pointer (some ⟨bs, 0, none⟩)] 369
theorem Y5 : sP W0 273 [] R (fun v B => ∃ b, v = pQ b ∧ B = pt b (a8 [eG, .bool true] 482) :: R) := by
 refine ac func273 ntmps273 ?_
 refine aV fun b1 => ?_
 refine aa ?_
 exact ⟨_, ⟨_, rfl, rfl⟩, ent_refl⟩
theorem Y6 (pv ps pm d room : Nat) (hr : room ≤ 4) : sP W0 178 [pQ pv, iQ room] (pt pv (cu ps pm d) :: R) (fun v B => ∃ bm bt bs, v = .tuple #[pQ bm, iQ 0] ∧ B = pt bm (uR pv bt bs) :: aJ bt ([], [iQ room, iQ 0, .bool true]) :: pt bs (a8 [eG, .bool true] 482) :: pt pv (cu ps pm d) :: R) := by
 refine ac func178 ntmps178 ?_
 refine ag (aj call252 (GR pv ps pm d)) ?_
 refine ah (fun c1 => ?_) fun c1 => ?_
 exact absurd c1 (by simp)
 refine ao rfl (ar call272 (Y4 room hr)) ?_
 rintro _ B_ ⟨bt, rfl, hB_⟩
 subst hB_
 refine aw ?_
 refine ah (fun c4 => ?_) fun c4 => ?_
 exact absurd rfl c4
 refine ao rfl (ar call273 (Y5)) ?_
 rintro _ B_ ⟨bs, rfl, hB_⟩
 subst hB_
 refine aw ?_
 refine aV fun bm => ?_
 refine aT ?_
 exact ⟨_, ⟨bm, bt, bs, rfl, rfl⟩, IO⟩
abbrev pV (b : Nat) : Value := .pointer (some ⟨b, 0, none⟩)
structure Bd where
  r : Nat
  c : Nat
  m : Nat
  v : Nat
  t : Nat
@[reducible] def tp (x : Bd) (qs : List Nat) : List Value := [pV x.r, pV x.c, pV x.m] ++ (qs.map pV ++ List.replicate (3 - qs.length) (.pointer none)) ++ [pV x.v, pV x.t, .bool false, .int .u32 0, .int .u32 0, .int .u32 0, .int .u32 0]
theorem Y7 {x : Bd} {q : Nat} : ∀ {qs : List Nat}, qs.length < 3 → (tp x qs).set (3 + qs.length * 1) (pV q) = tp x (qs ++ [q])
 | [], _ => rfl
 | [a], _ => rfl
 | [a, b], _ => rfl
theorem a7M {x : Bd} {qs : List Nat} (h : qs.length ≤ 3) : (tp x qs).length = 13 := by
 simp [tp]; omega
abbrev tq (x : Bd) (i bt bs pv : Nat) (T : List HP) : List HP := pt x.r (dt (List.replicate 16 0) 0) :: pt x.c (Hr i) :: pt x.m (uR pv bt bs) :: aJ bt ([], [.int .i64 ((4 : Nat) : Int), .int .i64 0, .bool true]) :: pt bs (a8 [eG, .bool true] 482) :: pt x.v te :: pt x.t tj :: T
theorem Y8 {l : List HP} {x : HP} {R : List HP} : Ent (x :: kH 6 (aS l) :: R) (kH 6 (aS (l ++ [x])) :: R) :=
  (Ent.cons (kP (A := l) (R := R))).trans ((Ent.ofPerm (by
    show (x :: (l ++ R)).Perm ((l ++ [x]) ++ R)
    rw [QaG]
    exact (List.perm_middle).symm)).trans jB)
@[reducible] def Hz (x : Bd) (q0 q1 q2 : Nat) : List Value := [pV x.r, pV x.c, pV x.m, pV q0, pV q1, pV q2, pV x.v, pV x.t, .bool false, .int .u32 0, .int .u32 0, .int .u32 0, .int .u32 0]
theorem Y9 (i pv ps pm d : Nat) (hi : i < 4) : sP W0 108 [iQ i, pV pv] (pt pv (cu ps pm d) :: R) (fun v B => ∃ x bt bs q0 q1 q2, v = .tuple #[.agg (Hz x q0 q1 q2).toArray, iQ 0] ∧ B = tq x i bt bs pv (kH 6 (aS [pt q0 (qO true d9), pt q1 (qO true d9), pt q2 (qO true d9)]) :: pt pv (cu ps pm d) :: R)) := by
 refine ac func108 ntmps108 ?_
 refine bB fun b4 => ?_
 refine ao rfl (ar call177 (XO i hi)) ?_
 rintro _ B_ ⟨cb, rfl, hB_⟩
 obtain rfl := hB_.symm
 refine au 14 ?_
 refine dS ?_
 refine ao rfl (aj call178 (Y6 pv ps pm d 4 (by decide))) ?_
 rintro _ B_ ⟨bm, bt, bs, rfl, hB_⟩
 obtain rfl := hB_.symm
 refine au 14 ?_
 refine dS ?_
 refine ao rfl (ar call179 (XJ)) ?_
 rintro _ B_ ⟨rb, rfl, hB_⟩
 obtain rfl := hB_.symm
 refine aw ?_
 refine ao rfl (ar call180 (XP)) ?_
 rintro _ B_ ⟨vb, rfl, hB_⟩
 obtain rfl := hB_.symm
 refine ao rfl (ar call181 (XQ)) ?_
 rintro _ B_ ⟨tb, rfl, hB_⟩
 obtain rfl := hB_.symm
 refine aw ?_
 refine bB fun b9 => ?_
 refine aB aD ?_
 refine fu (fun qs : List Nat => qs.length ≤ 3) (fun qs => [(4, pV b4), (9, pV b9), (35, iQ qs.length)]) (fun qs => pt b9 (a8 (tp ⟨rb, cb, bm, vb, tb⟩ qs) 92) :: kH 6 (aS (qs.map fun q => pt q (qO true d9))) :: pt b4 (a8 [.pointer none, .pointer none, .pointer none, .pointer none, .pointer none, .pointer none, .pointer none, .pointer none, .bool false, .int .u32 0, .int .u32 0, .int .u32 0, .int .u32 0] 92) :: tq ⟨rb, cb, bm, vb, tb⟩ i bt bs pv (pt pv (cu ps pm d) :: R)) (fun qs => 3 - qs.length) [] ?_ ?_ ?_ ?_
 grind
 · repeat (first | exact cI | refine cj rfl ?_)
 refine Ent.trans (B := pt b9 (a8 (tp ⟨rb, cb, bm, vb, tb⟩ []) 92) :: pt b4 (a8 [.pointer none, .pointer none, .pointer none, .pointer none, .pointer none, .pointer none, .pointer none, .pointer none, .bool false, .int .u32 0, .int .u32 0, .int .u32 0, .int .u32 0] 92) :: tq ⟨rb, cb, bm, vb, tb⟩ i bt bs pv (pt pv (cu ps pm d) :: R)) ?_ ?_
 rw [show tp ⟨rb, cb, bm, vb, tb⟩ [] = [pV rb, pV cb, pV bm, .pointer none, .pointer none, .pointer none, pV vb, pV tb, .bool false, .int .u32 0, .int .u32 0, .int .u32 0, .int .u32 0] from rfl]
 exact IO
 exact Ent.cons (jB (A := []))
 intro qs hq
 refine aw ?_
 refine aA rfl (fun c9 => ?_) fun c9 => ?_
 refine au 10 ?_
 have hq3 : qs.length < 3 := by omega
 refine aw ?_
 refine ao rfl (ar call182 (WZ)) ?_
 rintro _ B_ ⟨q, rfl, hB_⟩
 obtain rfl := hB_.symm
 refine ab rfl (d3 rfl a5Y rfl sizeOf87 rfl (by first | exact Qac _ | rfl)) ?_
 refine ab rfl (gK hq3) ?_
 refine eu (jZ sizeOf86 rfl rfl rfl (by grind) (Y7 hq3)) ?_
 rintro _ _ rfl
 refine aM (mI (aC (aU ?_)))
 refine ab rfl (dx rfl rfl (by first | exact bU (by omega) | rfl)) ?_
 refine ab rfl (aW rfl) (aM (aC ?_))
 refine ue (qs ++ [q]) ?_ ?_ ?_ ?_
 grind
 grind
 · rw [show ((qs ++ [q]).length : Int) = ((qs.length : Nat) : Int) + 1 by simp]
   repeat (first | exact cI | refine cj rfl ?_)
 grind [QaF, Ent.cons, Y8]
 refine au 6 ?_
 have hq3 : qs.length = 3 := by omega
 obtain ⟨q0, q1, q2, rfl⟩ : ∃ q0 q1 q2, qs = [q0, q1, q2] := by
  match qs, hq3 with
  | [a, b, c], _ => exact ⟨a, b, c, rfl⟩
 refine aU (ab rfl (nr KL xF rfl rfl) ?_)
 refine eu (gD xF rfl rfl rfl rfl rfl) ?_
 rintro _ _ rfl
 refine ab rfl (bq rfl) (aM (aC (dC (bH (.cons (bM KL xF rfl rfl) (.cons (bP rfl) .nil)) ?_))))
 refine ⟨_, ⟨⟨rb, cb, bm, vb, tb⟩, bt, bs, q0, q1, q2, rfl, rfl⟩, ?_⟩
 rw [show [q0, q1, q2].map (fun q => pt q (qO true d9)) = [pt q0 (qO true d9), pt q1 (qO true d9), pt q2 (qO true d9)] from rfl]
 exact IO
def fW (r : Int × Int) (i : Int) : Int := if i = r.1 then 3 else if i = r.2 then 1 else 0
theorem Ya (r : Int × Int) (i : Int) : sQ W0 174 [.agg (dU r).toArray, iQ i] R (iQ (fW r i)) R := by
 refine ac func174 ntmps174 ?_
 refine aV fun b2 => ?_
 refine ah (fun c2 => ?_) fun c2 => ?_
 refine aa ?_
 rw [fW, Qae (by omega)]
 exact ai
 refine ah (fun c4 => ?_) fun c4 => ?_
 refine aa ?_
 rw [fW, Qab (by omega), Qae (by omega)]
 exact ai
 refine aa ?_
 rw [fW, Qab (by omega), Qab (by omega)]
 exact ai
def iV (c : Cfg) (k : Nat) : Int × Int := c.nl.getD k (0, 0)
def dy (c : Cfg) (i : Int) : Nat → List Pl → List Pl
 | 0, pg => pg
 | k + 1, pg => if fW (iV c k) i = 0 then dy c i k pg else fG (dy c i k pg) ((8 + k : Nat) : Int) (iT c k, fW (iV c k) i)
theorem zf {c : Cfg} {i : Int} {pg : List Pl} (h : Pgs pg) : ∀ k, Pgs (dy c i k pg)
 | 0 => h
 | k + 1 => by
  rw [dy]; split
  exact zf h k
  exact yH (zf h k)
theorem Yb (c : Cfg) (h : CfK W0 c) (i : Int) (pm : Nat) (pg : List Pl) (hp : Pgs pg) (hn : c.nl.length ≤ 4) : sQ W0 106 [.agg (cX c).toArray, iQ i, pV pm] (pt pm (bN pg) :: R) (.tuple #[]) (pt pm (bN (dy c i c.nl.length pg)) :: R) := by
 refine ac func106 ntmps106 ?_
 refine aV fun b3 => ?_
 refine fu (fun k : Nat => k ≤ c.nl.length) (fun k => [(1, iQ i), (2, pV pm), (3, pV b3), (10, .slice c.na c.nl.length c.nc), (11, iQ (c.nl.length : Nat)), (12, iQ k)]) (fun k => pt b3 (gn c) :: pt pm (bN (dy c i k pg)) :: R) (fun k => c.nl.length - k) 0 ?_ ?_ ?_ ?_
 omega
 · repeat (first | exact cI | refine cj rfl ?_)
 rw [show dy c i 0 pg = pg from rfl]
 exact IO
 intro k hk
 refine aw ?_
 refine aA rfl (fun c2 => ?_) fun c2 => ?_
 refine au 2 ?_
 refine ec (fun _ : Unit => k < c.nl.length) (fun _ => [(1, iQ i), (2, pV pm), (3, pV b3), (10, .slice c.na c.nl.length c.nc), (11, iQ (c.nl.length : Nat)), (12, iQ k)]) (fun _ => pt b3 (gn c) :: pt pm (bN (dy c i (k + 1) pg)) :: R) ?_ ?_
 refine au 2 ?_
 have hk1 : k < c.nl.length := by omega
 obtain ⟨g, o, hga, hc⟩ := (h.ok.n []).at_ hk1
 obtain ⟨x, hx⟩ : ∃ x, c.nl[k] = x := ⟨_, rfl⟩
 rw [hx] at hc
 have hA : iV c k = x := by grind [iV]
 have hpk := zf (c := c) (i := i) hp k
 refine aw ?_
 refine a7 (fT Le sizeOf185 rfl hga rfl rfl hk1 (by first | exact Qac _ | rfl)) ?_
 refine a7 (bZ hc.weak) ?_
 refine bB fun b7 => ?_
 refine aB aD ?_
 refine ag (ar call174 (Ya x i)) ?_
 refine ah (fun c5 => ?_) fun c5 => ?_
 refine a7 (eC (8 + k)) ?_
 refine ag (ar call175 (XD c h k)) ?_
 refine ag (aj call173 (Gl pm (dy c i k pg) hpk (8 + k : Nat) (iT c k, fW x i))) ?_
 refine cq () ?_ (he := ?_)
 exact hk1
 rw [dy, hA, Qab (by simpa using c5)]
 exact IO
 refine cq () ?_ (he := ?_)
 exact hk1
 rw [dy, hA, Qae (by simpa using c5)]
 exact IO
 intro _ hk1
 refine aw ?_
 refine a7 cQ ?_
 exact cv (k + 1) (by omega)
 refine aw ?_
 refine bA (.inr rfl) .nil ?_
 obtain rfl : k = c.nl.length := by omega
 exact ai
theorem Yc {ws : List Nat} {n : Nat} (h : n ≤ 8) : bT (bT ws 8) n = bT ws n := by
 grind [bT]
abbrev dI : List Pl := List.replicate 12 (0, 0)
theorem zg : Pgs dI := ⟨rfl, fun n hn h => absurd (by
  have : n = 0 ∨ n = 1 ∨ n = 2 ∨ n = 3 ∨ n = 4 ∨ n = 5 ∨ n = 6 ∨ n = 7 ∨ n = 8 ∨ n = 9 ∨ n = 10 ∨ n = 11 := by omega
  rcases this with rfl | rfl | rfl | rfl | rfl | rfl | rfl | rfl | rfl | rfl | rfl | rfl <;> rfl) h⟩
theorem Cn : qW dI 0 8 := fun i _ hi => by
 have : i = 0 ∨ i = 1 ∨ i = 2 ∨ i = 3 ∨ i = 4 ∨ i = 5 ∨ i = 6 ∨ i = 7 := by omega
 rcases this with rfl | rfl | rfl | rfl | rfl | rfl | rfl | rfl <;> decide
@[reducible] def zh (x : Bd) (q0 q1 q2 : Nat) (c : Cfg) (i : Nat) (wv : Value) (pb pv bx tr : Nat) : List Value :=
  [pV x.r, pV x.c, pV x.m, pV q0, pV q1, pV q2, pV x.v, pV x.t, .bool false, .int .u32 0, .int .u32 0, .int .u32 0, .int .u32 0] ++ cX c ++ [.int .i64 i, wv, pV pb, pV pv, pV bx, pV tr, .int .i64 0]
theorem Yd {S : World → Prop} {N : FSz} {e : aP} {o0 o1 o2 o3 o4 o5 o6 o7 : Operand} {x : Bd} {q0 q1 q2 i pb pv bx tr : Nat} {c : Cfg} {wv : Value} (hw : wv.oneCell' = true) (h0 : ev e o0 = some (.agg (Hz x q0 q1 q2).toArray)) (h1 : ev e o1 = some (.agg (cX c).toArray)) (h2 : ev e o2 = some (iQ i)) (h3 : ev e o3 = some wv) (h4 : ev e o4 = some (pV pb)) (h5 : ev e o5 = some (pV pv)) (h6 : ev e o6 = some (pV bx)) (h7 : ev e o7 = some (pV tr)) :
    bC Tryz.prog S N e (.build 98 #[(0, o0), (1, o1), (2, o2), (3, o3), (4, o4), (5, o5), (6, o6), (7, o7)]) (.agg (zh x q0 q1 q2 c i wv pb pv bx tr).toArray) :=
  eg (l' := zh x q0 q1 q2 c i wv pb pv bx tr) a5Z zeroValue98 (aG xF (aG rL (aG aO (aG Ah (aG DT (aG Ai (aG sizeOf95 (aG L6 (aG aO ee)))))))))
    (ge (l' := [pV x.r, pV x.c, pV x.m, pV q0, pV q1, pV q2, pV x.v, pV x.t, .bool false, .int .u32 0, .int .u32 0, .int .u32 0, .int .u32 0, iQ 0, .slice none 0 0, .slice none 0 0, .slice none 0 0, .slice none 0 0, .slice none 0 0, iQ 0, iQ 0, iQ 0, .slice none 0 0, .pointer none, .pointer none, .pointer none, .pointer none, iQ 0]) rfl xF h0 rfl (Qaa rfl) rfl
    (ge (l' := [pV x.r, pV x.c, pV x.m, pV q0, pV q1, pV q2, pV x.v, pV x.t, .bool false, .int .u32 0, .int .u32 0, .int .u32 0, .int .u32 0, iQ c.cats, .slice c.ga c.gl.length c.gc, .slice c.ra c.rl.length c.rc, .slice c.pa c.pl.length c.pc, .slice c.na c.nl.length c.nc, .slice c.sa c.sl.length c.sc, iQ c.gate, iQ c.quota, iQ 0, .slice none 0 0, .pointer none, .pointer none, .pointer none, .pointer none, iQ 0]) rfl rL h1 rfl (Qaa rfl) rfl
    (cm (l' := [pV x.r, pV x.c, pV x.m, pV q0, pV q1, pV q2, pV x.v, pV x.t, .bool false, .int .u32 0, .int .u32 0, .int .u32 0, .int .u32 0, iQ c.cats, .slice c.ga c.gl.length c.gc, .slice c.ra c.rl.length c.rc, .slice c.pa c.pl.length c.pc, .slice c.na c.nl.length c.nc, .slice c.sa c.sl.length c.sc, iQ c.gate, iQ c.quota, iQ i, .slice none 0 0, .pointer none, .pointer none, .pointer none, .pointer none, iQ 0]) rfl aO h2 rfl (Qaa rfl) rfl
    (cm (l' := [pV x.r, pV x.c, pV x.m, pV q0, pV q1, pV q2, pV x.v, pV x.t, .bool false, .int .u32 0, .int .u32 0, .int .u32 0, .int .u32 0, iQ c.cats, .slice c.ga c.gl.length c.gc, .slice c.ra c.rl.length c.rc, .slice c.pa c.pl.length c.pc, .slice c.na c.nl.length c.nc, .slice c.sa c.sl.length c.sc, iQ c.gate, iQ c.quota, iQ i, wv, .pointer none, .pointer none, .pointer none, .pointer none, iQ 0]) rfl Ah h3 hw (Qaa rfl) rfl
    (cm (l' := [pV x.r, pV x.c, pV x.m, pV q0, pV q1, pV q2, pV x.v, pV x.t, .bool false, .int .u32 0, .int .u32 0, .int .u32 0, .int .u32 0, iQ c.cats, .slice c.ga c.gl.length c.gc, .slice c.ra c.rl.length c.rc, .slice c.pa c.pl.length c.pc, .slice c.na c.nl.length c.nc, .slice c.sa c.sl.length c.sc, iQ c.gate, iQ c.quota, iQ i, wv, pV pb, .pointer none, .pointer none, .pointer none, iQ 0]) rfl DT h4 rfl (Qaa rfl) rfl
    (cm (l' := [pV x.r, pV x.c, pV x.m, pV q0, pV q1, pV q2, pV x.v, pV x.t, .bool false, .int .u32 0, .int .u32 0, .int .u32 0, .int .u32 0, iQ c.cats, .slice c.ga c.gl.length c.gc, .slice c.ra c.rl.length c.rc, .slice c.pa c.pl.length c.pc, .slice c.na c.nl.length c.nc, .slice c.sa c.sl.length c.sc, iQ c.gate, iQ c.quota, iQ i, wv, pV pb, pV pv, .pointer none, .pointer none, iQ 0]) rfl Ai h5 rfl (Qaa rfl) rfl
    (cm (l' := [pV x.r, pV x.c, pV x.m, pV q0, pV q1, pV q2, pV x.v, pV x.t, .bool false, .int .u32 0, .int .u32 0, .int .u32 0, .int .u32 0, iQ c.cats, .slice c.ga c.gl.length c.gc, .slice c.ra c.rl.length c.rc, .slice c.pa c.pl.length c.pc, .slice c.na c.nl.length c.nc, .slice c.sa c.sl.length c.sc, iQ c.gate, iQ c.quota, iQ i, wv, pV pb, pV pv, pV bx, .pointer none, iQ 0]) rfl sizeOf95 h6 rfl (Qaa rfl) rfl
    (cm (l' := [pV x.r, pV x.c, pV x.m, pV q0, pV q1, pV q2, pV x.v, pV x.t, .bool false, .int .u32 0, .int .u32 0, .int .u32 0, .int .u32 0, iQ c.cats, .slice c.ga c.gl.length c.gc, .slice c.ra c.rl.length c.rc, .slice c.pa c.pl.length c.pc, .slice c.na c.nl.length c.nc, .slice c.sa c.sl.length c.sc, iQ c.gate, iQ c.quota, iQ i, wv, pV pb, pV pv, pV bx, pV tr, iQ 0]) rfl L6 h7 rfl (Qaa rfl) rfl
    ed))))))))
def laid (c : Cfg) (i : Nat) (ws : List Nat) (fr : List ap) (po : Po) : Im := d7 i (bT ws (cM c i).2.1.toNat) (cM c i).2.1.toNat ⟨fr, po, dI⟩
theorem Ye (c : Cfg) (h : CfK W0 c) (hr : rt c = true) (i : Nat) (hi : i < c.gl.length) (ps pb : Nat) (fr : List ap) (po : Po) (hF : cB fr) (hP : PoOk po) (hl : po.length = fr.length) (h0 : 0 < fr.length) (hfre : (cM c i).2.1 ≤ ((bQ po i).length : Int)) (a : Option Addr) (cap : Nat) (ws : List Nat) (hs : ∀ A, bK (az W0 A) a 1 mZ ws) (hb : ∀ y ∈ ws, y < 4294967296) (hn : ws.length < 9223372036854775808) : sP W0 60 [.agg (cX c).toArray, iQ i, pV ps, pV pb, .slice a ws.length cap] (cZ pb (ps, po) :: bj ps fr :: R) (fun v B => ∃ gb x bt bs q0 q1 q2 wg pv pm bx tr, v = .tuple #[pV gb, iQ 0] ∧ B = pt gb (a8 (zh x q0 q1 q2 c i (.slice (some ⟨wg, 0, none⟩) (bT ws 8).length (bT ws 8).length) pb pv bx tr) 98) :: tq x i bt bs pv (kH 6 (aS [pt q0 (qO true d9), pt q1 (qO true d9), pt q2 (qO true d9)]) :: pt pv (cu ps pm 0) :: pt bx pY :: fz tr [] :: pt wg (a8 ((bT ws 8).map wV) 62) :: pt pm (bN (dy c i c.nl.length (laid c i ws fr po).pg)) :: cZ pb (ps, (laid c i ws fr po).po) :: bj ps (laid c i ws fr po).fr :: R)) := by
 have hck : iA c = 0 := Qat hr
 have hR := eV hr
 have hg4 := hR.g4
 have hgs := hR.gs i hi
 obtain ⟨g, o, hga, hc⟩ := (h.ok.g []).at_ hi
 obtain ⟨x, hx⟩ : ∃ x, c.gl[i] = x := ⟨_, rfl⟩
 have hA : cM c i = x := by grind [cM]
 obtain ⟨n, hxn⟩ : ∃ n : Nat, x.2.1 = (n : Int) := ⟨x.2.1.toNat, by rw [hA] at hgs; omega⟩
 have hln : (cM c i).2.1.toNat = n := by grind
 have hlaid : laid c i ws fr po = d7 i (bT (bT ws 8) n) n ⟨fr, po, dI⟩ := by grind [laid, Yc]
 rw [hlaid]
 rw [hx] at hc
 rw [hA, hxn] at hgs hfre
 have hok : ImOk ⟨fr, po, dI⟩ := ⟨hF, hP, zg, hl⟩
 have hok1 := uE (who := i) (words := bT (bT ws 8) n) (n := n) (by omega) hok
 have hcl := yZ ws 8
 have hpo1 := hok1.len
 have hfr1 : 0 < (d7 i (bT (bT ws 8) n) n ⟨fr, po, dI⟩).fr.length := by
  have : ∀ k, (d7 i (bT (bT ws 8) n) k ⟨fr, po, dI⟩).fr.length = fr.length := fun k => by
   induction k with
   | zero => rfl
   | succ k ih =>
    rw [d7, jd]
    split
    rw [(t2 (uE (by omega) hok).fr).2]; exact ih
    exact ih
  rw [this]; exact h0
 refine ac func60 ntmps60 ?_
 refine aV fun b5 => ?_
 refine ao rfl (ar ua (qP c h.ok)) ?_
 rintro _ B_ ⟨at_, rfl, hB_⟩
 obtain rfl := hB_.symm
 rw [hck]
 refine aw ?_
 refine eR (fun g2_3 => ?_) fun g2_3 => ?_
 exact absurd g2_3 (by decide)
 refine cP rfl rfl rfl (fun g2_7 => ?_) fun g2_7 => ?_
 omega
 refine aw ?_
 refine aA rfl (fun c2 => ?_) fun c2 => ?_
 omega
 refine aw ?_
 refine ao rfl (ar call103 (Vw)) ?_
 rintro _ B_ ⟨pm, rfl, hB_⟩
 obtain rfl := hB_.symm
 refine aw ?_
 refine ag (aj ub (qT ps fr)) ?_
 refine cP rfl rfl rfl (fun g5_4 => ?_) fun g5_4 => ?_
 omega
 refine au 6 ?_
 refine aA rfl (fun c5 => ?_) fun c5 => ?_
 cases c5
 refine aw ?_
 refine ao rfl (ar call104 (Hg a cap 8 ws (hs _) (by decide) hn)) ?_
 rintro _ B_ ⟨wg, rfl, hB_⟩
 obtain rfl := hB_.symm
 refine aw ?_
 refine a7 (fT vn rK rfl hga rfl rfl hi (by first | exact Qac _ | rfl)) ?_
 refine a7 (aH (hc.weak 1 _ (by rw [← hxn]; rfl : (iz x)[1]? = some (iQ (n : Int))))) ?_
 refine dE 9 (dT call105 (Xt pb ps pm i n ⟨fr, po, dI⟩ hok h0 (some ⟨wg, 0, none⟩) (bT ws 8).length (bT ws 8) (by omega) (by omega) (by omega) Cn (by show n ≤ (bQ po i).length; omega) (by intro A hA; exact (sF (b := wg) Ce (Cf _).symm).weak (k := hA)) (fun y hy => hb y (QbP hy)) (by omega))) ?_
 refine dS ?_
 refine dE 6 (aj call106 (Yb c h i pm _ hok1.pg hR.nn)) ?_
 refine ao rfl (cJ call107 (Wy ps pm _ _ (zf hok1.pg _) hfr1)) ?_
 rintro _ B_ ⟨pv, rfl, hB_⟩
 obtain rfl := hB_.symm
 refine au 14 ?_
 refine dS ?_
 refine ao rfl (aj call108 (Y9 i pv ps pm 0 (by omega))) ?_
 rintro _ B_ ⟨x_, bt, bs, q0, q1, q2, rfl, hB_⟩
 obtain rfl := hB_.symm
 refine aw ?_
 refine bB fun b19 => ?_
 refine i7 10 aD ?_
 refine dS ?_
 refine bu [b19, b5] 12 fun hS => ?_
 refine ae 0 6 hS ?_
 refine cg 6 (ar call109 (XR)) ?_; clear hS
 rintro _ B_ ⟨bx, rfl, hB_⟩
 obtain rfl := hB_.symm
 refine ⟨aF, fun hS => ?_⟩
 refine cg 7 (ar call110 (XU)) ?_; clear hS
 rintro _ B_ ⟨tr, rfl, hB_⟩
 obtain rfl := hB_.symm
 refine ⟨aF, fun hS => ?_⟩
 refine ax 8 hS (Yd rfl rfl rfl rfl rfl rfl rfl rfl rfl) ?_
 refine cg 9 (k0 rfl) ?_; clear hS
 rintro _ _ ⟨gb, rfl, rfl⟩
 refine ⟨aF, fun hS => ?_⟩
 refine ae 10 2 hS ?_
 refine aK ?_
 refine aT ?_
 refine ⟨_, ⟨gb, x_, bt, bs, q0, q1, q2, wg, pv, pm, bx, tr, rfl, rfl⟩, IO⟩
theorem HA {P : Program} {S : World → Prop} {N : FSz} {e : aP} {x : Operand} {v : Value} {l : List Value} {T : TypeId} {fs : Array Field} {nm : String} {i ft fo : Nat} {em : Bool} {tg pk : String} {bo : Nat} (hx : ev e x = some (.agg l.toArray)) (hu : P.underlying T = some (.struct fs)) (hf : fs.toList[i]? = some ⟨nm, ft, fo, em, tg, pk, bo⟩)
    (ha : ∀ w, (isAgg ft).run P w = .ok false w) (hl : l[fo]? = some v) : bC P S N e (.field T x i) v := fun a w _ _ _ _ _ hF _ => by
 have hf' : fs[i]? = some ⟨nm, ft, fo, em, tg, pk, bo⟩ := by grind
 simp only [execOp, Instr.field, hF.eval hx, Sem.run_bind, dA hu, hf', Result.andThen_ok, asAgg, Sem.run_pure]
 rw [vz ha hl]; rfl
def HB (ps : List Prt) : Prop := GH ps ∧ ∀ x ∈ ps, ∀ s ∈ x.l, s.size ≤ 32
theorem Yf {l : List nI} (h : l.length ≤ 8) : HB (l8 l) := ⟨W7 h, fun x hx s hs => by
 obtain ⟨y, _, rfl⟩ := QaS.1 hx
 simp at hs⟩
def Yg (x : Rn) : List Value := [.int .i64 x.1, .int .i64 x.2.1, .int .i64 x.2.2]
def kj (rs : List Rn) : Nat → Option (List Rn × List Int)
 | 0 => some ([], [])
 | k + 1 => (kj rs k).bind fun y => if i9 (rs.getD k (0, 0, 0)).1 = true ∧ fy y.1 32 (rs.getD k (0, 0, 0)).2.1 (rs.getD k (0, 0, 0)).2.2 k = 0 then some (gO y.1 32 (rs.getD k (0, 0, 0)).2.1 (rs.getD k (0, 0, 0)).2.2 k, y.2 ++ [(rs.getD k (0, 0, 0)).1]) else none
def jf (rs : List Rn) : Option Dk := if 8 < rs.length then none else (kj rs rs.length).map fun y => ⟨y.1, y.2, List.replicate 32 lK⟩
theorem HC {rs : List Rn} {i : Nat} (h : kj rs i = none) : ∀ {k : Nat}, i ≤ k → kj rs k = none := by
 intro k hk
 induction k with
 | zero => rwa [show i = 0 by omega] at h
 | succ k ih =>
  rcases Qay i (k + 1) with q | q
  grind [kj]
  grind
theorem Yh {rs : List Rn} {n f k w m : Int} (h : ∀ x ∈ rs, 0 ≤ x.2.2 ∧ x.2.2 < m) (hm : 0 ≤ w ∧ w ≤ m) : ∀ x ∈ gO rs n f k w, 0 ≤ x.2.2 ∧ x.2.2 < m + 1 := by
 grind [gO, jN]
structure DnOk (k : Nat) (y : List Rn × List Int) : Prop where
  tb : om y.1
  rl : y.1.length ≤ k
  ll : y.2.length = k
  wh : ∀ x ∈ y.1, 0 ≤ x.2.2 ∧ x.2.2 < (k : Int)
theorem Co (rs : List Rn) : ∀ {k : Nat} {y : List Rn × List Int}, kj rs k = some y → DnOk k y
 | 0, y, h => by cases h; exact ⟨fun x hx => by simp at hx, Qaj _, rfl, fun x hx => by simp at hx⟩
 | k + 1, y, h => by
  rw [kj] at h
  cases e : kj rs k with
  | none => rw [e] at h; cases h
  | some z =>
   rw [e] at h
   obtain ⟨h1, h2, h3, h4⟩ := Co rs e
   have h' : (if i9 (rs.getD k (0, 0, 0)).1 = true ∧ fy z.1 32 (rs.getD k (0, 0, 0)).2.1 (rs.getD k (0, 0, 0)).2.2 k = 0 then some (gO z.1 32 (rs.getD k (0, 0, 0)).2.1 (rs.getD k (0, 0, 0)).2.2 k, z.2 ++ [(rs.getD k (0, 0, 0)).1]) else none) = some y := h
   split at h'
   cases h'
   refine ⟨FP h1 (by decide), Qbl FQ (by omega), by rw [Qad, h3]; rfl, fun x hx => ?_⟩
   have := Yh h4 (by omega) x hx
   omega
   cases h'
theorem Yi {rs : List Rn} {i w : Int} (h : lE rs i = some w) : ∃ x ∈ rs, x.2.2 = w := by
 induction rs with
 | nil => cases h
 | cons y l ih =>
  rw [lE] at h
  split at h
  grind
  grind
theorem HD {rs : List Rn} {x : Dk} (h : jf rs = some x) : DkOk x := by
 unfold jf at h
 split at h
 cases h
 rename_i hl
 cases e : kj rs rs.length with
 | none => rw [e] at h; cases h
 | some y =>
  rw [e] at h; cases h
  obtain ⟨h1, h2, h3, h4⟩ := Co rs e
  refine ⟨h1, by show y.1.length ≤ 8; omega, by show y.2.length ≤ 8; omega, fun i w hw => ?_, rfl, fun b hb => ?_⟩
  grind [Yi]
  grind [X0]
theorem Yj : oD (List.replicate 32 lK) = fun _ => none := by
 grind [oD, yX]
theorem Yk (a : Option Addr) (c : Nat) (rs : List Rn) (hs : bK (az W0 R) a 3 Yg rs) (hl : rs.length < 9223372036854775808) : sP W0 100 [.slice a rs.length c] R (fun v B => ∃ p Y, v = .tuple #[.pointer p, iQ (if (jf rs).isSome then 0 else 14)] ∧ B = Y ++ R ∧ (jf rs = none → p = none ∧ Y = []) ∧ (∀ x, jf rs = some x → ∃ d, p = some ⟨d, 0, none⟩ ∧ Y = [iF d x])) := by
 have hno : ∀ {p : Option Addr} {Y : List HP} (h : jf rs = none), p = none → Y = [] → (jf rs = none → p = none ∧ Y = []) ∧ (∀ x, jf rs = some x → ∃ d, p = some ⟨d, 0, none⟩ ∧ Y = [iF d x]) := fun h h1 h2 => ⟨fun _ => ⟨h1, h2⟩, fun x hx => by rw [h] at hx; cases hx⟩
 refine ac func100 ntmps100 ?_
 refine ah (fun c1 => ?_) fun c1 => ?_
 refine aT ?_
 have hN : jf rs = none := by rw [jf, Qae (by omega)]
 rw [hN]
 refine ⟨_, ⟨none, [], rfl, rfl, hno hN rfl rfl |>.1 |> fun q => (fun _ => ⟨rfl, rfl⟩), (fun x hx => by cases hx)⟩, ?_⟩
 simp only [Qan]
 exact IO
 have h8 : rs.length ≤ 8 := by omega
 have hD : jf rs = (kj rs rs.length).map fun y => ⟨y.1, y.2, List.replicate 32 lK⟩ := by rw [jf, Qab (by omega)]
 refine ao rfl (ar call82 (FO 32 (by decide))) ?_
 rintro _ B_ ⟨bt, rfl, hB_⟩
 obtain rfl := hB_.symm
 refine aw ?_
 refine dR (Wq) fun bm => ?_
 refine ab rfl (eg DU zeroValue289 (aG DJ (aG KP (aG KQ ee))) (cm rfl DJ rfl rfl (Qaa rfl) SetL.eq (cm rfl KQ rfl rfl (Qaa rfl) SetL.eq ed))) ?_
 refine ao rfl (k0 rfl) ?_
 rintro _ _ ⟨d, rfl, rfl⟩
 refine aw ?_
 refine fu (fun X : Nat × List Rn × List Int × Option Addr × Nat => X.1 ≤ rs.length ∧ kj rs X.1 = some (X.2.1, X.2.2.1)) (fun X => [(4, pQ bt), (6, pQ d), (20, .slice a rs.length c), (21, iQ rs.length), (22, iQ X.1)]) (fun X => pt d (pT bt bm X.2.2.2.1 X.2.2.1.length X.2.2.2.2) :: jo bt (X.2.1, 32) :: osl 3 1 (.slice X.2.2.2.1 X.2.2.1.length X.2.2.2.2) (X.2.2.1.flatMap nB) :: kE bm (fun _ => none) :: R) (fun X => rs.length - X.1) (0, [], [], none, 0) ?_ ?_ ?_ ?_
 exact ⟨QaE _, rfl⟩
 · repeat (first | exact cI | refine cj rfl ?_)
 show Ent _ (pt d (pT bt bm none 0 0) :: jo bt ([], 32) :: osl 3 1 (.slice none 0 0) [] :: kE bm (fun _ => none) :: R)
 exact (dP (E := 3) (sz := 1) (k := ent_refl)).trans inferInstance
 intro ⟨k, t, lb, aL, cL⟩ ⟨hk, hdn⟩
 dsimp only at hk hdn ⊢
 obtain ⟨h1, h2, h3, h4⟩ := Co rs hdn
 dsimp only at h1 h2 h3 h4
 refine aw ?_
 refine ah (fun c6 => ?_) fun c6 => ?_
 have hk1 : k < rs.length := by omega
 obtain ⟨g, o, rfl, hc⟩ := hs.at_ hk1
 have hgk : rs.getD k (0, 0, 0) = rs[k] := by simp [List.getD, hk1]
 obtain ⟨x, hx⟩ : ∃ x, rs[k] = x := ⟨_, rfl⟩
 rw [hx] at hc hgk
 have hst : kj rs (k + 1) = if i9 x.1 = true ∧ fy t 32 x.2.1 x.2.2 k = 0 then some (gO t 32 x.2.1 x.2.2 k, lb ++ [x.1]) else none := by
  rw [kj, hdn, hgk]; rfl
 refine a7 (bE hk1) ?_
 refine a7 (bZ hc.weak) ?_
 refine bB fun br => ?_
 refine eu (gD DK rfl rfl rfl rfl rfl) ?_
 rintro _ _ rfl
 refine aM (aC (aI (aI (aU ?_))))
 refine ab rfl (d3 rfl u9 rfl aO rfl (by first | exact Qac _ | rfl)) ?_
 refine ab rfl (ci cy rfl (aE rfl)) ?_
 refine ao rfl (ix call102 rfl (Fx x.1)) ?_
 rintro _ B_ ⟨m, rfl, hm, hB_⟩
 obtain rfl := hB_.symm
 refine aw ?_
 refine cP rfl rfl rfl (fun g8_5 => ?_) fun g8_5 => ?_
 refine au 24 ?_
 refine aT ?_
 have hS : kj rs (k + 1) = none := by
  rw [hst, Qab]
  rintro ⟨q1, q2⟩
  first
    | exact absurd q2 c8
    | (rw [q1] at hm; simp at hm; omega)
 have hN : jf rs = none := by rw [hD, HC hS hk1]; rfl
 rw [hN]
 refine ⟨_, ⟨none, [], rfl, rfl, (fun _ => ⟨rfl, rfl⟩), (fun x hx => by cases hx)⟩, ?_⟩
 simp only [Qan]
 exact IO
 refine ab rfl (aW rfl) (eK rfl rfl ?_)
 refine ab rfl (d3 rfl u9 rfl aO rfl (by first | exact Qac _ | rfl)) ?_
 refine eK rfl rfl (ab rfl (ci cy rfl (aE rfl)) ?_)
 refine eK rfl rfl ?_
 refine ab rfl (d3 rfl u9 rfl aO rfl (by first | exact Qac _ | rfl)) ?_
 refine eK rfl rfl (ab rfl (ci cy rfl (aE rfl)) ?_)
 refine eK rfl rfl (ab rfl (aW rfl) (eK rfl rfl ?_))
 refine ao rfl (jD call84 rfl (FR bt t 32 (by decide) h1 (by omega) x.2.1 x.2.2 k)) ?_
 rintro _ B_ ⟨rfl, hB_⟩
 obtain rfl := hB_.symm
 refine eK rfl rfl (ab rfl (nW rfl rfl) (ab rfl (oZ rfl rfl) (aM (aC ?_))))
 refine aA rfl (fun c8 => ?_) fun c8 => ?_
 refine aI ?_
 refine aU (ab rfl (bq rfl) (ab rfl (bq rfl) (aM (aC (dC (jT (np (jT (jT (np (jT (aT ?_))))))))))))
 have hS : kj rs (k + 1) = none := by
  rw [hst, Qab]
  rintro ⟨q1, q2⟩
  first
    | exact absurd q2 c8
    | (rw [q1] at hm; simp at hm; omega)
 have hN : jf rs = none := by rw [hD, HC hS hk1]; rfl
 rw [hN]
 refine ⟨_, ⟨none, [], rfl, rfl, (fun _ => ⟨rfl, rfl⟩), (fun x hx => by cases hx)⟩, ?_⟩
 simp only [Qan]
 exact IO
 refine gC (aC ?_)
 have hgo : i9 x.1 = true ∧ fy t 32 x.2.1 x.2.2 k = 0 := by
  refine ⟨?_, by first | exact Qcd.1 c8 | simpa using c8⟩
  rw [← Bool.not_eq_false]; intro q
  rw [q] at hm; simp at hm; omega
 rw [Qae hgo] at hst
 refine bu [br] 12 fun hS => ?_
 refine ae 0 4 hS ?_
 refine cH 5 rfl rfl rfl hS (d3 rfl u9 rfl aO rfl (by first | exact Qac _ | rfl)) ?_
 refine cH 6 rfl rfl rfl hS (ci cy rfl (cY (k := 0) rfl rfl)) ?_
 refine eh (is := [4, 7]) (by kernel_rfl) rfl ⟨?_, ?_, trivial⟩
 refine cT (cV (aH (aE rfl))) ?_; clear hS
 rintro _ _ ⟨rfl, rfl⟩
 refine ⟨aF, fun hS => ?_⟩
 refine lw 7 (by kernel_rfl) rfl rfl (kx fC aO lV rfl rfl rfl rfl rfl (by decide) (by decide)) rfl ?_; clear hS
 rintro _ _ ⟨b4, rfl, rfl⟩
 refine ⟨aF, fun hS => ?_⟩
 refine cg 8 (eQ (sz := 1) (by_ := 8) (info := Tryz.t3) fC (by kernel_rfl) rfl rfl rfl rfl (by decide) rfl rfl dW rfl rfl (by simp only [maxLen]; omega) (by omega)) ?_; clear hS
 rintro _ _ ⟨aN, cN, rfl, rfl⟩
 refine ⟨aF, fun hS => ?_⟩
 refine ae 9 2 hS ?_
 refine bG 11 dq fun hS => ?_
 refine fw ?_
 refine mI (aC (aU ?_))
 refine ab rfl (dx rfl rfl (by first | exact bU (by omega) | rfl)) ?_
 refine ab rfl (aW rfl) (aM (aC ?_))
 refine cv (k + 1, gO t 32 x.2.1 x.2.2 k, lb ++ [x.1], aN, cN) ?_ (he := ?_)
 exact ⟨by omega, hst⟩
 dsimp only
 rw [show (lb ++ [x.1]).length = lb.length + 1 from Qad .., show (lb ++ [x.1]).flatMap nB = lb.flatMap nB ++ [Value.int .i64 x.1] by rw [QaZ]; rfl]
 exact IO
 skip
 refine lx rfl rfl (kx fC aO lV rfl rfl rfl rfl rfl (by decide) (by decide)) rfl ?_; clear hS
 rintro _ _ ⟨b4, rfl, rfl⟩
 refine ⟨aF, fun hS => ?_⟩
 refine bF 4 (cV (aH (aE rfl))) fun hS => ?_
 refine cg 8 (eQ (sz := 1) (by_ := 8) (info := Tryz.t3) fC (by kernel_rfl) rfl rfl rfl rfl (by decide) rfl rfl dW rfl rfl (by simp only [maxLen]; omega) (by omega)) ?_; clear hS
 rintro _ _ ⟨aN, cN, rfl, rfl⟩
 refine ⟨aF, fun hS => ?_⟩
 refine ae 9 2 hS ?_
 refine bG 11 dq fun hS => ?_
 refine aK ?_
 refine a7 cQ ?_
 refine cv (k + 1, gO t 32 x.2.1 x.2.2 k, lb ++ [x.1], aN, cN) ?_ (he := ?_)
 exact ⟨by omega, hst⟩
 dsimp only
 rw [show (lb ++ [x.1]).length = lb.length + 1 from Qad .., show (lb ++ [x.1]).flatMap nB = lb.flatMap nB ++ [Value.int .i64 x.1] by rw [QaZ]; rfl]
 exact IO
 refine aT ?_
 obtain rfl : k = rs.length := by omega
 have hN : jf rs = some ⟨t, lb, List.replicate 32 lK⟩ := by rw [hD, hdn]; rfl
 rw [hN]
 refine ⟨_, ⟨_, [iF d ⟨t, lb, List.replicate 32 lK⟩], rfl, rfl, (fun q => by cases q), (fun x hx => by cases hx; exact ⟨d, rfl, rfl⟩)⟩, ?_⟩
 simp only [Qar, Qan]
 exact yY (x := ⟨t, lb, List.replicate 32 lK⟩) rfl rfl Yj.symm rfl
def wM (l : List nI) : Bool := decide (l.length ≤ 8) && l.all fun x => i9 x.1
theorem HE {l : List nI} (h : wM l = true) : l.length ≤ 8 ∧ ∀ x ∈ l, i9 x.1 = true := by
 grind [wM]
theorem Yl {l : List nI} (h1 : l.length ≤ 8) (h2 : ∀ i (hi : i < l.length), i9 l[i].1 = true) : wM l = true := by
 rw [wM, Qap, Qah, Qbz]
 refine ⟨h1, fun x hx => ?_⟩
 obtain ⟨i, hi, rfl⟩ := Qbm hx
 exact h2 i hi
theorem HF {c : Cfg} (h : oo c = false) : ∀ k, k ≤ c.rl.length → ∃ y, kj c.rl k = some (jp c k, y)
 | 0, _ => ⟨[], rfl⟩
 | k + 1, hk => by
  obtain ⟨y, hy⟩ := HF h k (by omega)
  simp only [oo, Qbr, Qbh] at h
  have hw := vV h.2 (i := k) (by omega)
  rw [sM, Bool.not_eq_false', Qap, Qah] at hw
  obtain ⟨h1, h2⟩ := hw
  have hl : i9 (kX c k).1 = true := by
   grind [gi]
  refine ⟨y ++ [(kX c k).1], ?_⟩
  rw [kj, hy, jp, Qae h1]
  show (if i9 (kX c k).1 = true ∧ fy (jp c k) 32 (kX c k).2.1 (kX c k).2.2 k = 0 then _ else _) = _
  rw [Qae ⟨hl, h2⟩]; rfl
theorem Ym {c : Cfg} (h : rt c = true) : ∃ x, jf c.rl = some x := by
 obtain ⟨_, _, _, k1, _⟩ := sR h
 obtain ⟨y, hy⟩ := HF k1 c.rl.length (Qaj _)
 have := (G1 k1).1
 exact ⟨_, by rw [jf, Qab (by omega), hy]; rfl⟩
theorem HG {c : Cfg} (h : rt c = true) : wM c.pl = true := by
 obtain ⟨_, _, _, _, k1, _⟩ := sR h
 simp only [qN, Qbr, Qbh] at k1
 refine Yl (by omega) fun i hi => ?_
 have hw := vV k1.2 hi
 simp only [ux, Qbr, Bool.not_eq_false'] at hw
 have := hw.1
 rw [show c.pl.getD i (0, 0) = c.pl[i] by simp [List.getD, hi]] at this
 simp only [gi, Qap] at this
 exact this.1.2
theorem HH {c : Cfg} (h : rt c = true) : (0 ≤ c.cats ∧ c.cats ≤ 8) ∧ (-1 ≤ c.gate ∧ c.gate < 4) ∧ (0 ≤ c.quota ∧ c.quota ≤ 64) := by
 have hg4 := (eV h).g4
 obtain ⟨k1, k2, _, _, _, _, _, k3, _⟩ := sR h
 refine ⟨⟨k1, k2⟩, ?_⟩
 unfold m9 at k3
 split at k3
 grind
 grind [jK]
theorem Yn {n f : Nat} : (List.replicate n fk).set f fk = List.replicate n fk := by
 simp_all
theorem Cp {c : Cfg} {f i : Nat} (hr : rt c = true) (hf : f < cF c) (h : iS c f = some i) : oE c f = (1, (i : Int)) := by
 rw [oE, Qae ⟨hr, by omega, by have := (eV hr).nd; rw [cF] at hf; omega⟩, h]; rfl
theorem Yo {c : Cfg} {f : Nat} (hr : rt c = true) (hf : f < cF c) (h : iS c f = none) : (oE c f).1 = 2 := by
 rw [oE, Qae ⟨hr, by omega, by have := (eV hr).nd; rw [cF] at hf; omega⟩, h]; rfl
theorem Yp (c : Cfg) (h : CfK W0 c) (hr : rt c = true) (ps : Nat) : sP W0 53 [.agg (cX c).toArray, pV ps] (bj ps (List.replicate (cF c) fk) :: R) (fun v B => ∃ pb, v = .tuple #[pV pb, iQ 0] ∧ B = cZ pb (ps, eW c (cF c)) :: bj ps (List.replicate (cF c) fk) :: R) := by
 have hR := eV hr
 have hnd := hR.nd
 have hg4 := hR.g4
 have hn : 0 < cF c ∧ cF c ≤ 32 := by rw [cF]; omega
 have hlr : (List.replicate (cF c) fk).length = cF c := by simp
 refine ac func53 ntmps53 ?_
 refine aV fun b2 => ?_
 refine ao rfl (aj call96 (Wd ps (List.replicate (cF c) fk) (by rw [hlr]; omega) (by rw [hlr]; omega))) ?_
 rintro _ B_ ⟨pb, rfl, hB_⟩
 obtain rfl := hB_.symm
 rw [hlr, ← Xv]
 refine au 14 ?_
 refine dS ?_
 refine oc (aj ub (qT ps (List.replicate (cF c) fk))) ?_
 rw [hlr]
 refine aw ?_
 refine dr (fun f : Nat => f ≤ cF c) (fun f => [(2, pV b2), (6, pV pb), (19, iQ (cF c : Nat)), (20, iQ f)]) (fun f => pt b2 (gn c) :: cZ pb (ps, eW c f) :: bj ps (List.replicate (cF c) fk) :: R) (fun f => cF c - f) 0 ?_ ?_
 exact QaE _
 intro f hf
 refine aw ?_
 refine aA rfl (fun c5 => ?_) fun c5 => ?_
 refine au 2 ?_
 refine ec (fun _ : Unit => f < cF c) (fun _ => [(2, pV b2), (6, pV pb), (19, iQ (cF c : Nat)), (20, iQ f)]) (fun _ => pt b2 (gn c) :: cZ pb (ps, eW c (f + 1)) :: bj ps (List.replicate (cF c) fk) :: R) ?_ ?_
 refine au 8 ?_
 have hf1 : f < cF c := by omega
 have hos := Cp (i := (iS c f).getD 0) hr hf1
 have hon := Yo hr hf1
 refine aw ?_
 refine ag (ar call98 (XC c h f)) ?_
 refine bB fun b9 => ?_
 refine aB aD ?_
 refine aA rfl (fun c8 => ?_) fun c8 => ?_
 obtain ⟨i, hi⟩ : ∃ i, iS c f = some i := by
  cases e : iS c f with
  | some i => exact ⟨i, rfl⟩
  | none => have := hon e; rw [this] at c8; exact absurd c8 (by decide)
 have hov := Cp hr hf1 hi
 have hi4 := ((wD hR).1 hi).1
 have hps := Xw hf1 hi
 refine au 4 ?_
 refine ab rfl (aH (aE (by rw [hov]; rfl : (Hn (oE c f))[1]? = some (iQ (i : Int))))) ?_
 refine ag (cJ call99 (Wg pb ps (eW c f) (List.replicate (cF c) fk) f i (by rw [rf]; exact hf1) (by rw [hlr]; exact hf1) (by omega) (Ch hR f) (by rw [uN hf1, Qab (by omega)]))) ?_
 rw [Yn, ← hps]
 exact cq () (hf1)
 have hps : eW c (f + 1) = eW c f := by
  cases e : iS c f with
  | none => exact Xx e
  | some i => have := Cp hr hf1 e; rw [this] at c8; exact absurd rfl c8
 refine aw ?_
 refine cq () ?_ (he := ?_)
 exact hf1
 rw [hps]
 exact IO
 intro _ hf1
 refine aw ?_
 refine a7 cQ ?_
 exact cv (f + 1) (by omega)
 refine aw ?_
 refine aT ?_
 obtain rfl : f = cF c := by omega
 exact ⟨_, ⟨pb, rfl, rfl⟩, IO⟩
@[reducible] def tt (c : Cfg) (ps pb db qb gb : Nat) : List Value := cX c ++ [pV ps, pV pb, pV db, pV qb, pV gb]
def f16 (b : List Nat) : List Value := (List.range 16).map fun i => bV (b.getD i 0)
theorem zj (hb : Nat) (c : Cfg) (ps pb db qb gb : Nat) : sQ W0 74 [pV hb] (pt hb (a8 (tt c ps pb db qb gb) 133) :: R) (.bool false) (pt hb (a8 (tt c ps pb db qb gb) 133) :: R) := by
 refine ac func74 ntmps74 ?_
 refine cP rfl rfl rfl (fun g1_3 => ?_) fun g1_3 => ?_
 cases g1_3
 refine aw ?_
 exact aa ai
theorem Yq (hb : Nat) (c : Cfg) (ps pb db qb gb : Nat) : sQ W0 61 [pV hb] (pt hb (a8 (tt c ps pb db qb gb) 133) :: R) (pV ps) (pt hb (a8 (tt c ps pb db qb gb) 133) :: R) := by
 refine ac func61 ntmps61 ?_
 refine ag (aj El (zj hb c ps pb db qb gb)) ?_
 exact aa ai
theorem Yr (hb : Nat) (c : Cfg) (ps pb db qb gb : Nat) : sQ W0 62 [pV hb] (pt hb (a8 (tt c ps pb db qb gb) 133) :: R) (pV pb) (pt hb (a8 (tt c ps pb db qb gb) 133) :: R) := by
 refine ac func62 ntmps62 ?_
 refine ag (aj El (zj hb c ps pb db qb gb)) ?_
 exact aa ai
section
variable {rb vb pv tr : Nat} {cs : List Value}
theorem HI (b : Nat) (rl : List Nat) (pc i : Nat) (hl : rl.length = 16) (hi : i < 16) : sQ W0 148 [pV b, iQ i] (pt b (dt rl pc) :: R) (.tuple #[wV (rl.getD i 0), iQ 0]) (pt b (dt rl pc) :: R) := by
 have hir : lh i = true := by grind [lh]
 have hg : (rl.map wV ++ [Value.bool true, wV pc])[i * 1]? = some (wV (rl.getD i 0)) := by
  grind
 refine jG 13 func148 ntmps148 ?_
 refine aA rfl (fun c1 => ?_) fun c1 => ?_
 cases c1
 refine aw ?_
 refine dE 9 (aj Ei (z8 b rl pc hl i)) ?_
 refine ah (fun c4 => ?_) fun c4 => ?_
 exact absurd c4 (by rw [hir]; decide)
 refine a7 (gK hi) ?_
 refine a7 (aH (aE hg)) ?_
 exact aT ai
theorem Ys (k ck : Int) (a b d : Nat) (rl : List Nat) (h : rl.length = 16) (zs : List Value) (hz : zs.length = 16) : d4 ([iQ k, iQ ck, wV a, wV b, wV d] ++ zs) 5 (rl.map wV) = [iQ k, iQ ck, wV a, wV b, wV d] ++ rl.map wV :=
  vA (rl.map wV) zs [iQ k, iQ ck, wV a, wV b, wV d] (by grind)
theorem Yt {S : World → Prop} {N : FSz} {e : aP} {o0 o1 o2 o3 o4 o5 : Operand} {k ck : Int} {a b d : Nat} {rl : List Nat} (hl : rl.length = 16) (h0 : ev e o0 = some (iQ k)) (h1 : ev e o1 = some (iQ ck)) (h2 : ev e o2 = some (wV a)) (h3 : ev e o3 = some (wV b)) (h4 : ev e o4 = some (wV d)) (h5 : ev e o5 = some (.agg (rl.map wV).toArray)) :
    bC Tryz.prog S N e (.build 275 #[(0, o0), (1, o1), (2, o2), (3, o3), (4, o4), (5, o5)]) (.agg ([Value.int .i64 k, iQ ck, wV a, wV b, wV d] ++ rl.map wV).toArray) :=
  eg (l' := [Value.int .i64 k, iQ ck, wV a, wV b, wV d] ++ rl.map wV) underlying275 LO (aG aO (aG aO (aG bL (aG bL (aG bL (aG xD ee))))))
    (cm (l' := [iQ k, iQ 0, .int .u32 0, .int .u32 0, .int .u32 0] ++ List.replicate 16 (.int .u32 0)) rfl aO h0 rfl (Qaa rfl) rfl
    (cm (l' := [iQ k, iQ ck, .int .u32 0, .int .u32 0, .int .u32 0] ++ List.replicate 16 (.int .u32 0)) rfl aO h1 rfl (Qaa rfl) rfl
    (cm (l' := [iQ k, iQ ck, wV a, .int .u32 0, .int .u32 0] ++ List.replicate 16 (.int .u32 0)) rfl bL h2 rfl (Qaa rfl) rfl
    (cm (l' := [iQ k, iQ ck, wV a, wV b, .int .u32 0] ++ List.replicate 16 (.int .u32 0)) rfl bL h3 rfl (Qaa rfl) rfl
    (cm (l' := [iQ k, iQ ck, wV a, wV b, wV d] ++ List.replicate 16 (.int .u32 0)) rfl bL h4 rfl (Qaa rfl) rfl
    (ge rfl xD h5 (by grind) (by simp) (Ys k ck a b d rl hl _ (by simp)) ed))))))
theorem Yu (b : Nat) (es : List Evt) (k ck : Int) (x y z : Nat) (rl : List Nat) (hl : rl.length = 16) (hn : es.length < 4096) : sQ W0 205 [pV b, .agg ([Value.int .i64 k, iQ ck, wV x, wV y, wV z] ++ rl.map wV).toArray] (fz b es :: R) (iQ 0) (fz b (es ++ [⟨k, ck, x, y, z, rl⟩]) :: R) := by
 have := XV W0 R b es ⟨k, ck, x, y, z, rl⟩ hn
 rwa [XS (e := ⟨k, ck, x, y, z, rl⟩) hl] at this
end
end
section
abbrev cC := Int × Int
abbrev iW := Int × Int × Int
def kG (k : cC) (e : iW) (u : Int) : It := ⟨k.1, k.2, e.1, e.2.1, e.2.2, u⟩
def iX (k : cC) (l : List It) : List It := l.filter (fun x => decide (x.key ≠ k))
theorem rk {k : cC} {l : List It} {x : It} : x ∈ iX k l ↔ x ∈ l ∧ x.key ≠ k := by simp [iX]
theorem Cq {k : cC} {l : List It} (h : ∀ x ∈ l, x.key ≠ k) : iX k l = l := Qbn.2 fun x hx => by simpa using h x hx
structure Rep (its : List It) (now : Nat) (L : List It) : Prop where
  perm : its.Perm L
  heap : Heap its its.length
  sort : L.Pairwise (fun x y => x.u < y.u)
  le : ∀ x ∈ L, x.u ≤ (now : Int)
  keys : (L.map It.key).Nodup
theorem Rep.nil : Rep [] 0 [] := ⟨List.Perm.nil, fun c hc => by simp at hc, List.Pairwise.nil, fun _ h => by simp at h, QcD⟩
theorem Rep.length {its L : List It} {now : Nat} (h : Rep its now L) : its.length = L.length := h.perm.length_eq
theorem Rep.keysI {its L : List It} {now : Nat} (h : Rep its now L) : (its.map It.key).Nodup := (h.perm.map It.key).symm.nodup h.keys
def kl (k : cC) (x : It) (L : List It) : List It := iX k L ++ [x]
theorem HJ {L : List It} {k : cC} {x : It} {now : Nat} (hs : L.Pairwise (fun x y => x.u < y.u)) (hl : ∀ x ∈ L, x.u ≤ (now : Int)) (hx : x.u = (now : Int) + 1) : (kl k x L).Pairwise (fun x y => x.u < y.u) := by
 refine List.pairwise_append.2 ⟨hs.filter _, List.pairwise_singleton _ _, fun y hy z hz => ?_⟩
 obtain rfl : z = x := by grind
 have := hl y (rk.1 hy).1; omega
theorem HK {L : List It} {k : cC} {x : It} (h : (L.map It.key).Nodup) (hx : x.key = k) : ((kl k x L).map It.key).Nodup := by
 unfold kl
 rw [QaF]
 refine Qbv.2 ⟨?_, by simp, fun a ha b hb => ?_⟩
 exact Qcn (Qcz _ QbD) h
 obtain rfl : b = x.key := by grind
 obtain ⟨y, hy, rfl⟩ := QaS.1 ha
 rw [hx]; exact (rk.1 hy).2
theorem HM {L : List It} {k : cC} {x : It} {now : Nat} (hl : ∀ x ∈ L, x.u ≤ (now : Int)) (hx : x.u = (now : Int) + 1) : ∀ y ∈ kl k x L, y.u ≤ ((now + 1 : Nat) : Int) := fun y hy => by
 rcases Qbg.1 hy with h | h
 have := hl y (rk.1 h).1; omega
 grind
theorem Yv {its : List It} {k : cC} {i : Nat} {x : It} (hk : (its.map It.key).Nodup) (hi : i < its.length) (he : (its.getD i default).key = k) : (its.set i x).Perm (kl k x its) := by
 have hg : its.getD i default = its[i] := by grind
 rw [hg] at he
 have e : its = its.take i ++ its[i] :: its.drop (i + 1) := by simp_all
 have hs : its.set i x = its.take i ++ x :: its.drop (i + 1) := by grind
 have hw : iX k its = its.take i ++ its.drop (i + 1) := by
  have hn := hk
  rw [e, QaF, Qaz] at hn
  have hnn := Qbv.1 hn
  have h2 := QbF.1 hnn.2.1
  conv => lhs; rw [e]
  unfold iX
  rw [Qby, List.filter_cons_of_neg (by simp [he])]
  have h3 := Cq (k := k) (l := its.take i) (fun y hy h => hnn.2.2 y.key (List.mem_map_of_mem hy) its[i].key (by simp) (by rw [h, he]))
  have h4 := Cq (k := k) (l := its.drop (i + 1)) (fun y hy h => h2.1 (by rw [he, ← h]; exact List.mem_map_of_mem hy))
  unfold iX at h3 h4
  rw [h3, h4]
 rw [hs, kl, hw]
 exact List.perm_middle.trans (List.perm_append_singleton x _).symm
theorem Rep.setI {its its' L : List It} {now i : Nat} {k : cC} {x : It} (h : Rep its now L) (hi : i < its.length) (he : (its.getD i default).key = k) (hx : x.key = k) (hu : x.u = (now : Int) + 1)
    (hp : its'.Perm (its.set i x)) (hh : Heap its' its'.length) : Rep its' (now + 1) (kl k x L) :=
  ⟨hp.trans ((Yv h.keysI hi he).trans ((h.perm.filter _).append_right _)), hh, HJ h.sort h.le hu, HM h.le hu, HK h.keys hx⟩
def lM (k : cC) (L : List It) : Option It := L.find? (fun x => decide (x.key = k))
theorem Rep.noneI {its L : List It} {now : Nat} {k : cC} (h : Rep its now L) (hn : ∀ x ∈ its, x.key ≠ k) : lM k L = none ∧ iX k L = L :=
  ⟨QbX.2 fun x hx => by simpa using hn x (h.perm.mem_iff.2 hx), Cq fun x hx => hn x (h.perm.mem_iff.2 hx)⟩
theorem zk {L : List It} {k : cC} {y : It} (h : lM k L = some y) : y ∈ L ∧ y.key = k := ⟨Qca h, by simpa using List.find?_some h⟩
theorem Yw {L : List It} {k : cC} {y : It} (hk : (L.map It.key).Nodup) (hy : y ∈ L) (he : y.key = k) : lM k L = some y := by
 cases hf : lM k L with
 | none => exact absurd he (by simpa using QbX.1 hf y hy)
 | some z =>
  obtain ⟨hz, hz'⟩ := zk hf
  have : z = y := by
   clear hf
   induction L with
   | nil => simp at hy
   | cons a L ih =>
    simp only [Qaz, QbF] at hk
    rcases QaN.1 hy with e1 | hy1
    grind
    grind
  rw [this]
theorem Rep.someI {its L : List It} {now i : Nat} {k : cC} (h : Rep its now L) (hi : i < its.length) (he : (its.getD i default).key = k) : lM k L = some (its.getD i default) := by
 have hg : its.getD i default = its[i] := by grind
 refine Yw h.keys (h.perm.mem_iff.1 ?_) he
 rw [hg]; exact QaL hi
theorem Rep.dropI {its its' L : List It} {now : Nat} {k : cC} {y : It} (h : Rep its now L) (he : y.key = k) (hp : (its' ++ [y]).Perm its) (hh : Heap its' its'.length) : Rep its' now (iX k L) := by
 have hn : ((its' ++ [y]).map It.key).Nodup := (hp.map _).symm.nodup h.keysI
 rw [QaF] at hn
 have h1 := Qbv.1 hn
 have e : iX k (its' ++ [y]) = its' := by
  simp_all [iX, Qby, List.filter_cons_of_neg]
 refine ⟨?_, hh, h.sort.filter _, fun x hx => h.le x (rk.1 hx).1, Qcn (Qcz _ QbD) h.keys⟩
 have := (hp.trans h.perm).filter (fun x => decide (x.key ≠ k))
 rw [← e]; exact this
theorem Rep.pushI {its its' L : List It} {now : Nat} {k : cC} {x : It} (h : Rep its now L) (hn : ∀ y ∈ its, y.key ≠ k) (hx : x.key = k) (hu : x.u = (now : Int) + 1) (hp : its'.Perm (its ++ [x])) (hh : Heap its' its'.length) : Rep its' (now + 1) (kl k x L) :=
  ⟨by unfold kl; rw [(h.noneI hn).2]; exact hp.trans (h.perm.append_right _), hh, HJ h.sort h.le hu, HM h.le hu, HK h.keys hx⟩
theorem Rep.popI {its its' L : List It} {now : Nat} {y : It} (h : Rep its now L) (hp : (its' ++ [y]).Perm its) (hh : Heap its' its'.length) (hmin : ∀ z ∈ its, y.u ≤ z.u) : Rep its' now L.tail := by
 have hyL : y ∈ L := (hp.trans h.perm).mem_iff.1 (by simp)
 cases L with
 | nil => simp at hyL
 | cons z T =>
  have hs := QbL.1 h.sort
  have hyz : y = z := by
   rcases QaN.1 hyL with e | hy
   exact e
   have h1 := hs.1 y hy
   have h2 := hmin z (h.perm.mem_iff.2 (by simp))
   omega
  subst hyz
  have hpT : (y :: its').Perm (y :: T) := (List.perm_append_singleton y its').symm.trans (hp.trans h.perm)
  exact ⟨List.Perm.cons_inv hpT, hh, hs.2, fun x hx => h.le x (Qaf _ hx), (QbF.1 (by simpa using h.keys)).2⟩
def mn (room now : Nat) (k : cC) (e : iW) (L : List It) : List It :=
  if room < (kl k (kG k e (now + 1 : Nat)) L).length then (kl k (kG k e (now + 1 : Nat)) L).tail else kl k (kG k e (now + 1 : Nat)) L
def rn (now : Nat) (k : cC) (L : List It) : List It := match lM k L with | none => L | some y => kl k (kG k y.ent (now + 1 : Nat)) L
theorem zl (k : cC) (L : List It) : (iX k L).length ≤ L.length := QaQ _ _
theorem Cr (k : cC) (x : It) (L : List It) : (kl k x L).length = (iX k L).length + 1 := by simp [kl]
theorem HN {k : cC} {L : List It} {y : It} (h : lM k L = some y) : (iX k L).length < L.length := by
 obtain ⟨h1, h2⟩ := zk h
 exact List.length_filter_lt_length_iff_exists.2 ⟨y, h1, by simpa using h2⟩
theorem HO {room now : Nat} {k : cC} {e : iW} {L : List It} (h : L.length ≤ room) : (mn room now k e L).length ≤ room := by
 grind [zl, mn, List.length_tail, Cr]
theorem Yx {now : Nat} {k : cC} {L : List It} : (rn now k L).length ≤ L.length := by
 unfold rn; split
 omega
 rename_i y hy; rw [Cr]; exact HN hy
end
section
open Go.RowKit
@[reducible] def dm (room now : Nat) : List Value := [.int .i64 room, .int .i64 now, .bool true]
theorem HQ (b : Nat) (its : List It) (room now : Nat) (L : List It) (k : cC) (e : iW) (hR : Rep its now L) (hL : L.length ≤ room) (hr : room ≤ 4) (hn : now < 1000000) : sP W0 354 [pQ b, .agg (fp k).toArray, .agg (lj e).toArray] (aJ b (its, dm room now) :: R) (fun v B => v = iQ 0 ∧ ∃ its', B = aJ b (its', dm room (now + 1)) :: R ∧ Rep its' (now + 1) (mn room now k e L)) := by
 have hlen := hR.length
 refine ac func354 ntmps354 ?_
 refine aV fun b1 => ?_
 refine aV fun b2 => ?_
 refine dE 5 (aj xP (uQ b its _ _)) ?_
 refine ec (fun b3 : Nat => True) (fun b3 => [(0, pQ b), (4, pQ b1), (7, pQ b3)]) (fun b3 => pt b3 (a8 (aY (kG k e (now + 1 : Nat))) 548) :: pt b1 (a8 (fp k) 504) :: aJ b (its, dm room (now + 1)) :: R) ?_ ?_
 refine bu [b1, b2] 8 fun hS => ?_
 refine ae 0 2 hS ?_
 refine ax 2 hS (eg Lp E6 (aG oW (aG qx ee)) (ge rfl oW rfl rfl (Qaa rfl) SetRL.eq (ge rfl qx rfl rfl (Qaa rfl) SetRL.eq ed))) ?_
 refine ae 3 1 hS ?_
 refine eh (is := [4, 6]) (by kernel_rfl) rfl ⟨?_, ?_, trivial⟩
 refine cT (aj LP (Hy b its _ now hn)) ?_; clear hS
 rintro _ B_ ⟨rfl, hB_⟩
 obtain rfl := hB_.symm
 refine ⟨aF, fun hS => ?_⟩
 refine ax 5 hS (eg rP qB (aG qy (aG aO ee)) (ge rfl qy rfl rfl (Qaa rfl) SetRL.eq (cm rfl aO rfl rfl (Qaa rfl) SetL.eq ed))) ?_
 refine cg 6 (da qB) ?_; clear hS
 rintro _ _ ⟨b3, rfl, rfl⟩
 refine ⟨aF, fun hS => ?_⟩
 refine bG 7 aD fun hS => ?_
 refine aK ?_
 refine cq b3 ?_ (he := ?_)
 trivial
 show Ent (pt b3 (a8 (aY (kG k e (now + 1 : Nat))) _) :: _) _
 exact IO
 skip
 refine cT (da qB) ?_; clear hS
 rintro _ _ ⟨b3, rfl, rfl⟩
 refine ⟨aF, fun hS => ?_⟩
 refine bF 4 (aj LP (Hy b its _ now hn)) fun hS => ?_
 refine ax 5 hS (eg rP qB (aG qy (aG aO ee)) (ge rfl qy rfl rfl (Qaa rfl) SetRL.eq (cm rfl aO rfl rfl (Qaa rfl) SetL.eq ed))) ?_
 refine bG 7 aD fun hS => ?_
 refine fw ?_
 refine aC ?_
 refine cq b3 ?_ (he := ?_)
 trivial
 show Ent (pt b3 (a8 (aY (kG k e (now + 1 : Nat))) _) :: _) _
 exact IO
 intro b3 _
 refine aI (aI (aU (ab rfl (aW rfl) (ab rfl (nr Ae oW rfl rfl) ?_))))
 refine ao rfl (aj LQ (Cm b its _ k (by omega))) ?_
 rintro _ _ ⟨r, rfl, rfl, hf⟩
 refine ab rfl (bq rfl) (aM (aC (aI (aU (ab rfl (aW rfl) (ab rfl (AV rfl rfl) (aM (aC ?_))))))))
 refine aA rfl (fun c5 => ?_) fun c5 => ?_
 obtain ⟨i, rfl, hi, hk⟩ : ∃ i : Nat, r = (i : Int) ∧ i < its.length ∧ (its.getD i default).key = k := by
  rcases hf with ⟨h, _⟩ | h
  omega
  exact h
 refine aI ?_
 refine Cl (b := b) (uP hi) fun g c sp h1 h2 h3 => ?_
 refine bu [b, b3] 9 fun hS => ?_
 refine cH 0 rfl rfl rfl hS (aW rfl) ?_
 refine cH 1 rfl rfl rfl hS (nX rfl) ?_
 refine cH 2 rfl rfl rfl hS (d3 rfl DY rfl DO rfl (by first | exact Qac _ | rfl)) ?_
 refine cH 3 rfl rfl rfl hS (d3 rfl a5R rfl KU rfl (by first | exact Qac _ | rfl)) ?_
 refine cH 4 rfl rfl rfl hS (ci DF rfl (by first | exact cY (k := 0) rfl rfl | exact cY (k := 1) rfl rfl)) ?_
 refine cH 5 rfl rfl rfl hS (aW rfl) ?_
 refine cH 6 rfl rfl rfl hS (gd lr dN rfl (by first | exact gF (k := 0) rfl | exact gF (k := 1) rfl) rfl) ?_
 refine ax 7 hS (bE hi) ?_
 refine bG 8 (iP (nN its sp i hi) (oG its sp i (kG k e (now + 1 : Nat)) hi)) fun hS => ?_
 refine fw ?_
 refine aC (aI ?_)
 refine Ht (b := b) (its := its.set i (kG k e (now + 1 : Nat))) rfl (by simp) h1 h2 (by simpa [bX gy] using h3) ?_
 refine aU (ab rfl (aW rfl) (ab rfl (nX rfl) ?_))
 refine ab rfl (d3 rfl DY rfl DO rfl (by first | exact Qac _ | rfl)) ?_
 refine ab rfl (vG Lq (fun _ h => by cases h) rfl) ?_
 refine ab rfl (aW rfl) ?_
 refine ao rfl (aj call409 (Hu b (its.set i (kG k e (now + 1 : Nat))) _ i (by simp; omega) (by grind) (by rw [Qao]; exact BW hR.heap hi))) ?_
 rintro _ _ ⟨rfl, its', rfl, hp, hh⟩
 refine aM (aC (aI (aU (ab rfl (bq rfl) (aM (aC (dC (jT (aa ?_)))))))))
 refine ⟨_, ⟨rfl, its', rfl, ?_⟩, IO⟩
 have hlt := HN (hR.someI hi hk)
 rw [mn, Qab (by rw [Cr]; omega)]
 exact hR.setI hi hk rfl (by simp [kG]) hp (by rw [hp.length_eq]; exact hh)
 have hno : ∀ x ∈ its, x.key ≠ k := by
  rcases hf with ⟨_, h⟩ | ⟨i, h, _⟩
  exact h
  omega
 refine gC (aC (aI ?_))
 refine bu [b3] 7 fun hS => ?_
 refine cH 0 rfl rfl rfl hS (aW rfl) ?_
 refine cH 1 rfl rfl rfl hS (nX rfl) ?_
 refine cH 2 rfl rfl rfl hS (d3 rfl DY rfl DO rfl (by first | exact Qac _ | rfl)) ?_
 refine cH 3 rfl rfl rfl hS (vG Lq (fun _ h => by cases h) rfl) ?_
 refine cH 4 rfl rfl rfl hS (gd lr dN rfl (gF (k := 0) rfl) rfl) ?_
 refine cH 5 rfl rfl rfl hS (vG rP (fun _ h => by cases h) rfl) ?_
 refine cg 6 (aj Ed (heapPush_spec b its (kG k e (now + 1 : Nat)) _ (by omega) hR.heap)) ?_; clear hS
 rintro _ _ ⟨rfl, its1, rfl, hp, hh⟩
 have hR1 := hR.pushI hno (x := kG k e (now + 1 : Nat)) rfl (by simp [kG]) hp hh
 have hlen1 := hR1.length
 have hpl : its1.length = its.length + 1 := by rw [hp.length_eq]; simp
 refine ⟨aF, fun hS => ?_⟩
 refine aK ?_
 refine jF [(b, 1, dm room (now + 1))] 9 mixed rfl (dD Hs cG) (fun hS => ?_)
 refine ae 0 3 hS ?_
 refine ae 4 3 hS ?_
 refine ax 7 hS (aH (nu (k := 0) (j := 0) rfl rfl)) ?_
 refine kU 3 rfl rfl (aj uc (rj b its1 _)) (dD Hs cG) fun hS => ?_
 refine ae 8 1 hS ?_
 refine aK ?_
 refine ah (fun c10 => ?_) fun c10 => ?_
 refine ao rfl (aj Ef (heapPop_spec b its1 _ (by omega) (uP (i := 0) (by omega)) hh)) ?_
 rintro _ _ ⟨y, its2, rfl, rfl, hp2, hh2, hmin⟩
 have hfin : Rep its2 (now + 1) (mn room now k e L) := by
  rw [mn, Qae (by omega)]; exact hR1.popI hp2 hh2 hmin
 refine aw ?_
 refine aa ?_
 exact ⟨_, ⟨rfl, _, rfl, hfin⟩, IO⟩
 have hfin : Rep its1 (now + 1) (mn room now k e L) := by
  grind [mn]
 refine aa ?_
 exact ⟨_, ⟨rfl, _, rfl, hfin⟩, IO⟩
def wN (k : cC) (L : List It) : Value := match lM k L with
 | none => .tuple #[.agg (lj (0, 0, 0)).toArray, .bool false]
 | some y => .tuple #[.agg (lj y.ent).toArray, .bool true]
theorem Cs (b : Nat) (its : List It) (room now : Nat) (L : List It) (k : cC) (hR : Rep its now L) (hL : L.length ≤ room) (hr : room ≤ 4) (hn : now < 1000000) : sP W0 349 [pQ b, .agg (fp k).toArray] (aJ b (its, dm room now) :: R) (fun v B => v = wN k L ∧ ∃ its' now', now' ≤ now + 1 ∧ B = aJ b (its', dm room now') :: R ∧ Rep its' now' (rn now k L)) := by
 have hlen := hR.length
 refine ac func349 ntmps349 ?_
 refine aV fun b1 => ?_
 refine bB fun b2 => ?_
 refine ag (aj xP (uQ b its _ _)) ?_
 refine ao rfl (aj LQ (Cm b its _ k (by omega))) ?_
 rintro _ _ ⟨r, rfl, rfl, hf⟩
 refine aw ?_
 refine aA rfl (fun c4 => ?_) fun c4 => ?_
 have hno : ∀ x ∈ its, x.key ≠ k := by
  rcases hf with ⟨_, h⟩ | ⟨i, h, _⟩
  exact h
  omega
 refine aw ?_
 refine aB aD ?_
 refine bH (.cons (bM xA qx rfl rfl) (.cons (bP rfl) .nil)) ?_
 refine ⟨_, ⟨?_, its, now, by omega, rfl, ?_⟩, IO⟩
 simp [bD, wN, (hR.noneI hno).1]
 rw [rn, (hR.noneI hno).1]; exact hR
 obtain ⟨i, rfl, hi, hk⟩ : ∃ i : Nat, r = (i : Int) ∧ i < its.length ∧ (its.getD i default).key = k := by
  rcases hf with ⟨h, _⟩ | h
  omega
  exact h
 refine aw ?_
 refine Cl (b := b) (uP hi) fun g c sp h1 h2 h3 => ?_
 refine aw ?_
 refine a7 (bE hi) ?_
 refine a7 (bZ (cp (XX its sp i hi) rfl)) ?_
 refine bB fun b3 => ?_
 refine aB aD ?_
 refine jF [(b, 0, [.slice (some ⟨g, 0, none⟩) its.length c])] 11 mixed rfl (dD (nq rfl) cG) (fun hS => ?_)
 refine ae 0 7 hS ?_
 refine kU 7 rfl rfl (aj LP (Hw b _ _ now hn)) (dD (nq rfl) cG) fun hS => ?_
 refine ax 8 hS (bE hi) ?_
 refine ae 9 1 hS ?_
 refine kV 10 rfl rfl (dF (by omega) (XY its sp i _ hi)) (dD (nq rfl) cG) fun hS => ?_
 refine aK ?_
 refine Ht (b := b) (its := its.set i { its.getD i default with u := (now + 1 : Nat) }) rfl (by simp) h1 h2 (by simpa [bX gy] using h3) ?_
 refine aw ?_
 refine ao rfl (aj call409 (Hu b (its.set i { its.getD i default with u := (now + 1 : Nat) }) _ i (by simp; omega) (by grind) (by rw [Qao]; exact BW hR.heap hi))) ?_
 rintro _ _ ⟨rfl, its', rfl, hp, hh⟩
 refine aw ?_
 refine aB aD ?_
 refine bH (.cons (bM xA qx rfl rfl) (.cons (bP rfl) .nil)) ?_
 have hsm := hR.someI hi hk
 refine ⟨_, ⟨?_, its', now + 1, by omega, rfl, ?_⟩, IO⟩
 simp [bD, wN, hsm, It.ent]
 rw [rn, hsm]; subst hk
 exact hR.setI hi rfl rfl (by simp [kG]) hp (by rw [hp.length_eq]; exact hh)
theorem Cu (b : Nat) (its : List It) (tr : Value) (now : Nat) (L : List It) (k : cC) (hR : Rep its now L) (hL : L.length ≤ 100) (tw : Value) : sP W0 401 [pQ b, .agg (fp k).toArray] (aJ b (its, [tr, tw, .bool true]) :: R) (fun v B => v = .bool (lM k L).isSome ∧ ∃ its', B = aJ b (its', [tr, tw, .bool true]) :: R ∧ Rep its' now (iX k L)) := by
 have hlen := hR.length
 refine ac func401 ntmps401 ?_
 refine aV fun b1 => ?_
 refine ag (aj xP (uQ b its _ _)) ?_
 refine ao rfl (aj LQ (Cm b its _ k (by omega))) ?_
 rintro _ _ ⟨r, rfl, rfl, hf⟩
 refine aw ?_
 refine aA rfl (fun c4 => ?_) fun c4 => ?_
 have hno : ∀ x ∈ its, x.key ≠ k := by
  rcases hf with ⟨_, h⟩ | ⟨i, h, _⟩
  exact h
  omega
 refine aw ?_
 refine aa ?_
 refine ⟨_, ⟨?_, its, rfl, ?_⟩, IO⟩
 simp [bD, (hR.noneI hno).1]
 rw [(hR.noneI hno).2]; exact hR
 obtain ⟨i, rfl, hi, hk⟩ : ∃ i : Nat, r = (i : Int) ∧ i < its.length ∧ (its.getD i default).key = k := by
  rcases hf with ⟨h, _⟩ | h
  omega
  exact h
 refine aw ?_
 refine ao rfl (aj call334 (heapRemove_spec b its _ i (by omega) hi hR.heap)) ?_
 rintro _ _ ⟨its', rfl, rfl, hp, hh⟩
 refine a7 (pr rP (fun _ h => by cases h) rfl) ?_
 refine bB fun b2 => ?_
 refine aB aD ?_
 refine a7 (bZ (cp (vs := [iQ (its.getD i default).kr, iQ (its.getD i default).kp]) rfl rfl)) ?_
 refine a7 (rZ Tryz.eqGuardType504 rfl rfl (rY Ao Tryz.stoodInHeld504 (kw rfl cy rfl rfl (kv dw) (kw rfl cy rfl rfl (kv dw) rX)))) ?_
 refine aa ?_
 have hsm := hR.someI hi hk
 refine ⟨_, ⟨?_, its', rfl, hR.dropI hk hp hh⟩, IO⟩
 rw [hsm]; subst hk
 simp [bD, It.key]
def zm (lo : Nat) (l : List It) (n : Nat) : Prop := ∀ c, c < n → 0 < c → lo ≤ (c - 1) / 2 → us l ((c - 1) / 2) ≤ us l c
def uS (lo : Nat) (l : List It) (i n : Nat) : Prop := ∀ c, c < n → 0 < c → (lo ≤ (c - 1) / 2 → c ≠ i → (c - 1) / 2 ≠ i → us l ((c - 1) / 2) ≤ us l c) ∧ ((c - 1) / 2 = i → lo < i → us l ((i - 1) / 2) ≤ us l c)
theorem Yy {lo : Nat} {l : List It} {i j n : Nat} (h : uS lo l i n) (hlo : lo ≤ i) (hn : n ≤ l.length) (hj : j < n) (hc : (j - 1) / 2 = i) (h0 : 0 < j) (hlt : us l j < us l i)
    (hmin : ∀ c, c < n → 0 < c → (c - 1) / 2 = i → us l j ≤ us l c) : uS lo (swapL l i j) j n ∧ us (swapL l i j) ((j - 1) / 2) ≤ us (swapL l i j) j := by
 have hij : i < j := by omega
 have sw := jq (l := l) (i := i) (j := j) (by omega) (by omega)
 refine ⟨fun c hcn hc0 => ⟨fun h3 h1 h2 => ?_, fun h1 h2 => ?_⟩, ?_⟩
 rw [sw, sw]
 by_cases e1 : c = i
 subst e1
 have := (h j hj h0).2 hc (by omega)
 rw [Qab (by omega), Qab (by omega), Qae rfl]; exact this
 by_cases e2 : (c - 1) / 2 = i
 grind
 rw [Qab e2, Qab h2, Qab e1, Qab h1]; exact (h c hcn hc0).1 h3 e1 e2
 rw [hc, sw, sw, Qae rfl, Qab (by omega), Qab (by omega)]
 rw [← h1]; exact (h c hcn hc0).1 (by omega) (by omega) (by omega)
 grind
theorem HR {lo : Nat} {l : List It} {i n : Nat} (h : uS lo l i n) (hmin : ∀ c, c < n → 0 < c → (c - 1) / 2 = i → us l i ≤ us l c) (hp : lo < i → us l ((i - 1) / 2) ≤ us l i) : zm lo l n := fun c hc h0 h3 => by
 by_cases e1 : (c - 1) / 2 = i
 grind
 by_cases e2 : c = i
 grind
 exact (h c hc h0).1 h3 e2 e1
theorem Yz {lo : Nat} {l : List It} {n : Nat} (h : zm (lo + 1) l n) : uS lo l lo n := fun c hc h0 => ⟨fun h3 _ h2 => h c hc h0 (by omega), fun _ h => absurd h (Nat.lt_irrefl _)⟩
theorem YA (b : Nat) (its : List It) (tl : List Value) (i0 n : Nat) (hn : n ≤ its.length) (hN : n < 1000) (hi : i0 ≤ n) (hH : uS i0 its i0 n) : sP W0 187 [lL b, iQ i0, iQ n] (aJ b (its, tl) :: R) (fun v B => ∃ l m, v = .bool m ∧ B = aJ b (l, tl) :: R ∧ l.Perm its ∧ zm i0 l n) := by
 refine ac LC ntmps187 ?_
 refine dr (fun X : List It × Nat => X.1.Perm its ∧ i0 ≤ X.2 ∧ uS i0 X.1 X.2 n ∧ (i0 < X.2 → us X.1 ((X.2 - 1) / 2) ≤ us X.1 X.2) ∧ X.2 ≤ n) (fun X => [(0, lL b), (1, iQ i0), (2, iQ n), (7, iQ X.2)]) (fun X => aJ b (X.1, tl) :: R) (fun X => n - X.2) (its, i0) ?_ ?_
 grind
 intro ⟨l, i⟩ ⟨hp, hi0, hl, hg, hin⟩
 have hlen := hp.length_eq
 simp only at hp hi0 hl hg hin hlen ⊢
 refine aw ?_
 refine a7 Ba ?_
 refine a7 (eC (2 * i + 1)) ?_
 refine eR (fun g3_4 => ?_) fun g3_4 => ?_
 refine aa ?_
 refine ⟨_, ⟨l, decide (i0 < i), by simp [bD], rfl, hp, HR hl ?_ hg⟩, IO⟩
 first | (intro c hc h0 h1; exfalso; omega) | (intro c hc h0 h1; have := hmin c hc h0 h1; simp at c8; omega)
 refine aA rfl (fun c3 => ?_) fun c3 => ?_
 omega
 refine au 8 ?_
 refine ec (fun j : Nat => (j - 1) / 2 = i ∧ 0 < j ∧ j < n ∧ ∀ c, c < n → 0 < c → (c - 1) / 2 = i → us l j ≤ us l c) (fun j => [(0, lL b), (1, iQ i0), (2, iQ n), (7, iQ i), (9, iQ j)]) (fun j => aJ b (l, tl) :: R) ?_ ?_
 refine au 3 ?_
 refine a7 (eC (2 * i + 2)) ?_
 refine cA (fun g6_4 => ?_) fun g6_4 => ?_
 refine ag (dY rfl ((fun w => wK w _)) Az rfl (wH b l tl (2 * i + 2) (2 * i + 1) (by omega) (by omega))) ?_
 refine ah (fun c6 => ?_) fun c6 => ?_
 refine cq (2 * i + 2) ?_
 refine ⟨by omega, by omega, by omega, fun c hc h0 h1 => ?_⟩
 have : c = 2 * i + 1 ∨ c = 2 * i + 2 := by omega
 rcases this with rfl | rfl <;> omega
 refine cq (2 * i + 1) ?_
 refine ⟨by omega, by omega, by omega, fun c hc h0 h1 => ?_⟩
 have : c = 2 * i + 1 ∨ c = 2 * i + 2 := by omega
 rcases this with rfl | rfl <;> omega
 refine cq (2 * i + 1) ?_
 refine ⟨by omega, by omega, by omega, fun c hc h0 h1 => ?_⟩
 have : c = 2 * i + 1 ∨ c = 2 * i + 2 := by omega
 rcases this with rfl | rfl <;> omega
 intro j ⟨hj, hj0, hjn, hmin⟩
 refine aw ?_
 refine ag (dY rfl ((fun w => wK w _)) Az rfl (wH b l tl j i (by omega) (by omega))) ?_
 refine aA rfl (fun c8 => ?_) fun c8 => ?_
 refine au 15 ?_
 refine aa ?_
 refine ⟨_, ⟨l, decide (i0 < i), by simp [bD], rfl, hp, HR hl ?_ hg⟩, IO⟩
 first | (intro c hc h0 h1; exfalso; omega) | (intro c hc h0 h1; have := hmin c hc h0 h1; simp at c8; omega)
 replace c8 : us l j < us l i := by simpa using c8
 refine aw ?_
 refine ag (dY rfl ((fun w => wL w _)) AA rfl (wI b l tl i j (by omega) (by omega))) ?_
 refine cv (swapL l i j, j) ?_ (hμ := ?_)
 have hs := Yy hl hi0 (by omega) hjn hj hj0 c8 hmin
 exact ⟨(ke (by omega) (by omega)).trans hp, by show i0 ≤ j; omega, hs.1, fun _ => hs.2, by show j ≤ n; omega⟩
 show n - j < n - i; omega
theorem YB (b : Nat) (its : List It) (tl : List Value) (hN : its.length < 1000) : sP W0 465 [lL b] (aJ b (its, tl) :: R) (fun v B => ∃ l, v = .tuple #[] ∧ B = aJ b (l, tl) :: R ∧ l.Perm its ∧ Heap l l.length) := by
 refine ac func465 ntmps465 ?_
 refine ag (dY rfl ((fun w => wJ w _)) uc rfl (rj b its tl)) ?_
 refine a7 (qD rfl rfl (by decide) ((Qak (IntKind.wrap .i64) (vQ its.length 2)).trans (bU (by omega)))) ?_
 refine a7 i6 ?_
 refine dr (fun X : List It × Nat => X.1.Perm its ∧ X.2 ≤ its.length / 2 ∧ zm X.2 X.1 its.length) (fun X => [(0, lL b), (2, iQ (its.length : Nat)), (3, iQ ((X.2 : Int) - 1))]) (fun X => aJ b (X.1, tl) :: R) (fun X => X.2) (its, its.length / 2) ?_ ?_
 exact ⟨QaC _, Qaj _, fun c hc h0 h1 => by dsimp only at h1; omega⟩
 intro ⟨l, k⟩ ⟨hp, hk, hh⟩
 dsimp only at hp hk hh ⊢
 have hlen := hp.length_eq
 refine aw ?_
 refine ah (fun c2 => ?_) fun c2 => ?_
 obtain ⟨i, rfl⟩ : ∃ i, k = i + 1 := ⟨k - 1, by omega⟩
 have hki : (((i + 1 : Nat) : Int) - 1) = (i : Int) := by omega
 rw [hki]
 refine ao rfl (aj xO (YA b l tl i its.length (by omega) hN (by omega) (Yz hh))) ?_
 rintro _ _ ⟨l2, m, rfl, rfl, hp2, hh2⟩
 refine aw ?_
 refine a7 i6 ?_
 refine cv (l2, i) ?_
 grind
 refine bA (.inr rfl) .nil ?_
 obtain rfl : k = 0 := by omega
 exact ⟨_, ⟨l, rfl, rfl, hp, fun c hc h0 => hh c (by omega) h0 (QaE _)⟩, IO⟩
structure PF (W0 : World) (f : FuncId) (cs : List Value) (C : HP) (p : It → Bool) : Prop where
  call : ∀ args w, (callFunc f args).run Tryz.prog w = .ok (.enter f args) w
  spec : ∀ x R, aZ Tryz.prog W0 f ([] ++ [.agg (aY x).toArray] ++ cs) (kH 0 C :: R) (fun v B => v = .bool (p x) ∧ B = kH 0 C :: R)
theorem zn {α : Type} {f : α → List Value} (h : ∀ x, dV (f x) = true) : ∀ l : List α, dV (l.flatMap f) = true
 | [] => rfl
 | x :: l => by
  have h1 := h x
  have h2 := zn h l
  simp only [dV, Qbb, List.all_append, Qap] at h1 h2 ⊢
  exact ⟨h1, h2⟩
theorem YC (x : It) : dV (aY x) = true := rfl
theorem YD (its : List It) (a : Option Addr) (c : Nat) (hN : its.length < 1000) (hs : bK (az W0 R) a 6 aY its) : sP W0 464 [.slice a its.length c] R (fun v B => ∃ a' c', v = .slice a' its.length c' ∧ B = osl 548 6 (.slice a' its.length c') (its.flatMap aY) :: R) := by
 refine ac func464 ntmps464 ?_
 refine a7 (sr iL rfl rfl) ?_
 refine aA rfl (fun c1 => ?_) fun c1 => ?_
 refine au 7 ?_
 refine aa ?_
 have h0 : its = [] := by
  rcases its with _ | ⟨x, l⟩
  rfl
  obtain ⟨b, o, h, _⟩ := hs 0 x rfl
  rw [c1] at h; cases h
 subst h0
 exact ⟨_, ⟨none, 0, rfl, rfl⟩, dP⟩
 have hsrc := hs.src gy (fun _ => trivial)
 refine gC (aC (aI (aU (ao rfl (sy iL dN rfl) ?_))))
 rintro _ _ ⟨b1, rfl, rfl⟩
 refine aw ?_
 refine ao rfl (ut (sz := 6) (by_ := 48) (info := Tryz.t548) iL (by kernel_rfl) rfl rfl rfl rfl (by decide) rfl rfl (news := its.flatMap aY) (by
 rcases hsrc with h | ⟨bs, os, h1, h2⟩
 grind
 right; exact ⟨bs, os, h1, h2.weak⟩) (bX gy its) (zn YC its) (by simp only [maxLen]; omega) (by omega)) ?_
 rintro _ _ ⟨a1, c1, rfl, rfl⟩
 refine aw ?_
 refine aa ?_
 rw [Qac, Qan]
 exact ⟨_, ⟨a1, c1, rfl, rfl⟩, IO⟩
def YE (its : List It) (p : It → Bool) (r : Int) : Prop := (r = -1 ∧ ∀ i, i < its.length → p (its.getD i default) = false) ∨ ∃ i : Nat, r = (i : Int) ∧ i < its.length ∧ p (its.getD i default) = true ∧ ∀ j, j < i → p (its.getD j default) = false
theorem YF (its : List It) (a : Option Addr) (c : Nat) (f : FuncId) (cs : List Value) (C : HP) (p : It → Bool) (hp : PF W0 f cs C p) (hN : its.length < 1000) : sP W0 443 [.slice a its.length c, .func (.func f) #[] cs.toArray] (osl 548 6 (.slice a its.length c) (its.flatMap aY) :: kH 0 C :: R) (fun v B => ∃ r, v = iQ r ∧ B = osl 548 6 (.slice a its.length c) (its.flatMap aY) :: kH 0 C :: R ∧ YE its p r) := by
 refine vI (fun h1 h2 => ?_) fun g n cap sp h1 h2 h3 h4 h5 => ?_
 have h0 : its.length = 0 := by grind
 obtain rfl : its = [] := QaD h0
 cases h1
 refine ac Ek ntmps443 ?_
 refine dr (fun X : Nat => True) (fun X => [(7, iQ 0), (8, iQ X)]) (fun X => kH 0 C :: R) (fun X => X) 0 ?_ ?_
 trivial
 intro j hj
 refine aw ?_
 refine aA rfl (fun c2 => ?_) fun c2 => ?_
 omega
 refine aw ?_
 refine aa ?_
 exact ⟨_, ⟨-1, rfl, rfl, .inl ⟨rfl, by simp⟩⟩, dP⟩
 cases h1
 refine ac Ek ntmps443 ?_
 refine dr (fun X : Nat => X ≤ its.length ∧ ∀ i, i < X → p (its.getD i default) = false) (fun X => [(0, .slice (some ⟨g, 0, none⟩) its.length c), (1, .func (.func f) #[] cs.toArray), (7, iQ (its.length : Nat)), (8, iQ X)]) (fun X => pt g (a8 (its.flatMap aY ++ sp) 548) :: kH 0 C :: R) (fun X => its.length - X) 0 ?_ ?_
 grind
 intro j ⟨hj, hno⟩
 refine aw ?_
 refine ah (fun c2 => ?_) fun c2 => ?_
 refine a7 (bE (by omega)) ?_
 refine a7 (bZ (cp (kh its sp j (by omega)) rfl)) ?_
 refine ag (so (us := []) (cs := cs) rfl hp.call rfl (hp.spec (its.getD j default) _)) ?_
 refine ah (fun c4 => ?_) fun c4 => ?_
 refine aa ?_
 exact ⟨_, ⟨_, rfl, rfl, .inr ⟨j, rfl, by omega, c4, hno⟩⟩, gG h2 h3 h4 h5⟩
 refine a7 cQ ?_
 refine cv (j + 1) ?_
 grind
 refine aa ?_
 exact ⟨_, ⟨-1, rfl, rfl, .inl ⟨rfl, fun i hi => hno i (by omega)⟩⟩, gG h2 h3 h4 h5⟩
def iY (p : It → Bool) (l : List It) : List It := l.filter (fun x => !p x)
theorem HS {p : It → Bool} {l : List It} (h : ∀ i, i < l.length → p (l.getD i default) = false) : iY p l = l := Qbn.2 fun x hx => by
 obtain ⟨i, hi, rfl⟩ := Qbs.1 hx
 have := h i hi
 simpa [List.getD, hi] using this
theorem Cv {p : It → Bool} {l : List It} {j : Nat} (h : j < l.length) : iY p (l.take (j + 1)) = iY p (l.take j) ++ (if p (l.getD j default) then [] else [l.getD j default]) := by
 grind [Qam, iY]
structure DelI (p : It → Bool) (its l : List It) (i j : Nat) : Prop where
  len : l.length = its.length
  ij : i < j
  jl : j ≤ its.length
  front : l.take i = iY p (its.take j)
  back : ∀ k, j ≤ k → l.getD k default = its.getD k default
theorem YG {p : It → Bool} {l : List It} {i : Nat} (h : i < l.length) (hp : p (l.getD i default) = true) (hno : ∀ j, j < i → p (l.getD j default) = false) : iY p (l.take (i + 1)) = l.take i := by
 grind [Cv, Qax, HS]
theorem DelI.skip {p : It → Bool} {its l : List It} {i j : Nat} (h : DelI p its l i j) (hj : j < its.length) (hp : p (l.getD j default) = true) : DelI p its l i (j + 1) := by
 refine ⟨h.len, by have := h.ij; omega, by omega, ?_, fun k hk => h.back k (by omega)⟩
 rw [h.back j (Qaj _)] at hp
 rw [Cv hj, hp, Qae rfl, Qax]; exact h.front
theorem DelI.move {p : It → Bool} {its l : List It} {i j : Nat} (h : DelI p its l i j) (hj : j < its.length) (hp : p (l.getD j default) = false) : DelI p its (l.set i (l.getD j default)) (i + 1) (j + 1) := by
 have hij := h.ij
 have hl := h.len
 have hb := h.back j (Qaj _)
 rw [hb] at hp ⊢
 refine ⟨by rw [Qao]; exact hl, by omega, by omega, ?_, fun k hk => ?_⟩
 rw [Cv hj, hp, Qab (by decide), ← h.front, Qam (by rw [Qao]; omega), List.getElem_set_self, List.take_set_of_le (Qaj _)]
 rw [← h.back k (by omega)]
 simp only [Qai]
 rw [QaT (by omega)]
theorem YH (its : List It) (a : Option Addr) (c : Nat) (f : FuncId) (cs : List Value) (C : HP) (p : It → Bool) (hp : PF W0 f cs C p) (hN : its.length < 1000) : sP W0 463 [.slice a its.length c, .func (.func f) #[] cs.toArray] (osl 548 6 (.slice a its.length c) (its.flatMap aY) :: kH 0 C :: R) (fun v B => ∃ a' c', v = .slice a' (iY p its).length c' ∧ B = osl 548 6 (.slice a' (iY p its).length c') ((iY p its).flatMap aY) :: kH 0 C :: R) := by
 refine ac func463 ntmps463 ?_
 refine ao rfl (cJ call443 (YF its a c f cs C p hp hN)) ?_
 rintro _ B_ ⟨r, rfl, hB_, hf⟩
 obtain rfl := hB_.symm
 refine aw ?_
 refine aA rfl (fun c2 => ?_) fun c2 => ?_
 refine au 8 ?_
 refine aa ?_
 have hno : ∀ i, i < its.length → p (its.getD i default) = false := by
  rcases hf with ⟨_, h⟩ | ⟨i, h, _⟩
  exact h
  omega
 rw [HS hno]
 exact ⟨_, ⟨a, c, rfl, rfl⟩, IO⟩
 obtain ⟨i, rfl, hi, hpi, hno⟩ : ∃ i : Nat, r = (i : Int) ∧ i < its.length ∧ p (its.getD i default) = true ∧ ∀ j, j < i → p (its.getD j default) = false := by
  rcases hf with ⟨h, _⟩ | h
  omega
  exact h
 refine gJ (r := osl 548 6) (b := .slice a its.length c) ?_
 refine ny (fun h1 _ => by have := (Value.slice.inj h1).2.1; omega) fun g n cap sp h1 h2 h3 h4 h5 => ?_
 cases h1
 refine aw ?_
 refine a7 (eC (i + 1)) ?_
 refine dr (fun X : List It × Nat × Nat => DelI p its X.1 X.2.1 X.2.2) (fun X => [(0, .slice (some ⟨g, 0, none⟩) its.length c), (1, .func (.func f) #[] cs.toArray), (5, iQ X.2.1), (6, iQ X.2.2)]) (fun X => pt g (a8 (X.1.flatMap aY ++ sp) 548) :: kH 0 C :: R) (fun X => its.length - X.2.2) (its, i, i + 1) ?_ ?_
 exact ⟨rfl, Nat.lt_succ_self _, by show i + 1 ≤ its.length; omega, (YG hi hpi hno).symm, fun _ _ => rfl⟩
 intro ⟨l, m, j⟩ hD
 dsimp only at hD ⊢
 have hl := hD.len
 have hmj := hD.ij
 have hjl := hD.jl
 refine aw ?_
 refine aA rfl (fun c5 => ?_) fun c5 => ?_
 refine au 2 ?_
 refine ec (fun Z : List It × Nat => DelI p its Z.1 Z.2 (j + 1)) (fun Z => [(0, .slice (some ⟨g, 0, none⟩) its.length c), (1, .func (.func f) #[] cs.toArray), (5, iQ Z.2), (6, iQ j)]) (fun Z => pt g (a8 (Z.1.flatMap aY ++ sp) 548) :: kH 0 C :: R) ?_ ?_
 refine au 5 ?_
 refine a7 (bE (by omega)) ?_
 refine a7 (bZ (cp (kh l sp j (by omega)) rfl)) ?_
 refine bB fun bx => ?_
 refine eu (gD dN rfl rfl rfl rfl rfl) ?_
 rintro _ _ rfl
 refine aM (aC (aI (aU (ab rfl (aW rfl) (ab rfl (nr lr dN rfl rfl) ?_)))))
 refine ao rfl (so (us := []) (cs := cs) rfl hp.call rfl (hp.spec (l.getD j default) _)) ?_
 rintro _ B_ ⟨rfl, hB_⟩
 obtain rfl := hB_.symm
 refine ab rfl (s8 rfl) (aM (aC ?_))
 refine aA rfl (fun c8 => ?_) fun c8 => ?_
 have hpj : p (l.getD j default) = false := by simpa using c8
 refine aI (aU (ab rfl (aW rfl) (ab rfl (aW rfl) (ab rfl (nr lr dN rfl rfl) ?_))))
 refine ab rfl (jE iL dN rfl rfl rfl (by omega) (by first | exact Qac _ | rfl)) ?_
 refine aB (iP (nN l sp m (by omega)) (oG l sp m (l.getD j default) (by omega))) ?_
 refine a7 (eC (m + 1)) ?_
 exact cq (l.set m (l.getD j default), m + 1) (hD.move (by omega) hpj)
 have hpj : p (l.getD j default) = true := by simpa using c8
 refine aw ?_
 exact cq (l, m) (hD.skip (by omega) hpj)
 intro ⟨l2, m2⟩ hD2
 refine aw ?_
 refine a7 (eC (j + 1)) ?_
 refine cv (l2, m2, j + 1) ?_ (hμ := ?_)
 exact hD2
 show its.length - (j + 1) < its.length - j; omega
 refine aw ?_
 obtain rfl : j = its.length := by omega
 have hfr := hD.front
 rw [QaM (Qaj _)] at hfr
 have hk : (iY p its).length = m := by rw [← hfr, QaK]; omega
 refine a7 (vT iL dN rfl rfl rfl (by omega) (by omega) (Qac _)) ?_
 refine eu (Bw iL qB (by simp [Value.cells, Value.oneCell']) rfl (by omega) (by rw [Qad, bX gy]; show m * 6 + (its.length - m) * 6 ≤ _; omega)) ?_
 rintro _ B_ ⟨vs, hvs, rfl, hB_⟩
 obtain rfl := hB_.symm
 replace hvs : vs.length = (its.length - m) * 6 := hvs
 have hset : d4 (l.flatMap aY ++ sp) (m * 6) vs = (iY p its).flatMap aY ++ (vs ++ sp) := by
  rw [pq _ _ _ (by rw [Qad, bX gy]; omega), B8 gy l m sp (by omega), hfr, show m * 6 + vs.length = l.length * 6 by omega, vF gy l l.length sp (Qaj _)]
  simp
 rw [hset]
 refine aw ?_
 refine a7 (mM iL dN rfl rfl rfl (by omega)) ?_
 refine aa ?_
 rw [hk]
 exact ⟨_, ⟨_, _, rfl, rfl⟩, gG (by omega) h3 (by rw [bX gy, hk]) (by rw [← h5]; simp only [Qad, bX gy, hk, hvs]; omega)⟩
def i64 (r : Int) : Prop := -9223372036854775808 ≤ r ∧ r < 9223372036854775808
theorem HT (r : Int) : ((BitVec.ofInt 64 r).toNat : Int) = r % 18446744073709551616 := by
 rw [BitVec.toNat_ofInt]; omega
theorem HU (n : Nat) : n &&& 2 = 2 * (n / 2 % 2) := by
 apply Nat.eq_of_testBit_eq
 intro i
 rw [Nat.testBit_and, show (2 : Nat) = 2 ^ 1 from rfl, Nat.testBit_two_pow, Nat.testBit_two_pow_mul]
 by_cases h : i = 1
 grind
 grind [Nat.lt_of_lt_of_le, QbW, Nat.pow_le_pow_right, Nat.testBit_lt_two_pow]
theorem YI {r : Int} (h : i64 r) : fi .i64 r 2 = 2 * (r / 2 % 2) := by
 have hn := HT r
 show IntKind.wrap .i64 ((BitVec.ofInt 64 r &&& BitVec.ofInt 64 2).toNat : Int) = _
 rw [BitVec.toNat_and, show (BitVec.ofInt 64 2).toNat = 2 from rfl, HU, bU (by omega)]
 push_cast
 omega
theorem YJ {r : Int} (h : i64 r) : p7 .i64 r 2 = r - 2 * (r / 2 % 2) := by
 have hn := HT r
 generalize hx : BitVec.ofInt 64 r = x at hn
 have e : (x &&& ~~~ BitVec.ofInt 64 2).toNat = x.toNat - (x.toNat &&& 2) := by
  have hz : (x &&& ~~~ BitVec.ofInt 64 2) &&& (x &&& BitVec.ofInt 64 2) = 0#64 := by
   ext i hi
   simp only [BitVec.getElem_and, BitVec.getElem_not, BitVec.getElem_zero]
   cases x[i] <;> cases (BitVec.ofInt 64 2)[i] <;> rfl
  have h1 : (x &&& ~~~ BitVec.ofInt 64 2) + (x &&& BitVec.ofInt 64 2) = x := by
   rw [BitVec.add_eq_or_of_and_eq_zero _ _ hz]
   ext i hi
   simp only [BitVec.getElem_or, BitVec.getElem_and, BitVec.getElem_not]
   cases x[i] <;> cases (BitVec.ofInt 64 2)[i] <;> rfl
  have h2 := Qak BitVec.toNat h1
  rw [BitVec.toNat_add_of_and_eq_zero hz, BitVec.toNat_and x (BitVec.ofInt 64 2), show (BitVec.ofInt 64 2).toNat = 2 from rfl] at h2
  omega
 show IntKind.wrap .i64 ((BitVec.ofInt 64 r &&& ~~~ BitVec.ofInt 64 2).toNat : Int) = _
 rw [hx, e, HU]
 have hlt := x.isLt
 obtain ⟨h1, h2⟩ := h
 simp only [IntKind.wrap, IntKind.bits, IntKind.signed]
 simp
 omega
def wB (r : Int) : Bool := decide (r / 2 % 2 = 1)
theorem zo {r : Int} (h : i64 r) : (fi .i64 r 2 ≠ 0) ↔ wB r = true := by rw [YI h, wB, Qah]; omega
theorem HV {r : Int} (h : i64 r) : p7 .i64 r 2 = if wB r then r - 2 else r := by
 grind [YJ, wB]
def hit (page : Int) (x : It) : Bool := decide (x.ep = page) && wB x.er
def iG (page : Int) (x : It) : It := if hit page x then { x with er := x.er - 2 } else x
theorem HW (page : Int) (x : It) : (iG page x).key = x.key := by unfold iG; split <;> rfl
theorem wO (page : Int) (x : It) : (iG page x).u = x.u := by unfold iG; split <;> rfl
theorem YK {page : Int} {x : It} (h : i64 x.er) : i64 (iG page x).er := by
 unfold iG; split
 rename_i hh
 simp only [hit, wB, Qap, Qah] at hh
 obtain ⟨h1, h2⟩ := h
 refine ⟨?_, ?_⟩
 grind
 grind
 exact h
theorem YL (its : List It) (sp : List Value) (i : Nat) (r : Int) (hi : i < its.length) : (its.flatMap aY ++ sp).set (i * 6 + 4) (iQ r) = (its.set i { its.getD i default with er := r }).flatMap aY ++ sp :=
  qG gy its i 4 _ _ sp hi (by decide) (by simp [List.getD, hi, aY])
structure NarI (page : Int) (its l : List It) (i n : Nat) : Prop where
  len : l.length = its.length
  il : i ≤ its.length
  front : l.take i = (its.take i).map (iG page)
  back : ∀ k, i ≤ k → l.getD k default = its.getD k default
  cnt : n = ((its.take i).filter (hit page)).length
theorem NarI.step {page : Int} {its l : List It} {i n : Nat} (h : NarI page its l i n) (hi : i < its.length) : NarI page its (l.set i (iG page (l.getD i default))) (i + 1) (n + if hit page (l.getD i default) then 1 else 0) := by
 have hl := h.len
 have hb := h.back i (Qaj _)
 have hg : its.getD i default = its[i] := by grind
 refine ⟨by rw [Qao]; exact hl, by omega, ?_, fun k hk => ?_, ?_⟩
 rw [Qam (by rw [Qao]; omega), List.getElem_set_self, List.take_set_of_le (Qaj _), h.front, Qam hi, QaF, hb, hg]; rfl
 rw [← h.back k (by omega)]
 simp only [Qai]
 rw [QaT (by omega)]
 rw [Qam hi, Qby, Qad, ← h.cnt, hb, hg]
 cases hh : hit page its[i] <;> simp [hh]
theorem NarI.skip {page : Int} {its l : List It} {i n : Nat} (h : NarI page its l i n) (hi : i < its.length) (hh : hit page (l.getD i default) = false) : NarI page its l (i + 1) n := by
 have := h.step hi
 rw [iG, hh, Qab (by decide), Qab (by decide), Qcc] at this
 have hs : l.set i (l.getD i default) = l := by
  have hl : i < l.length := by rw [h.len]; exact hi
  rw [show l.getD i default = l[i] by simp [List.getD, hl], QbY]
 rwa [hs] at this
theorem NarI.hits {page : Int} {its l : List It} {i n : Nat} (h : NarI page its l i n) (hi : i < its.length) (hh : hit page (l.getD i default) = true) : NarI page its (l.set i { l.getD i default with er := (l.getD i default).er - 2 }) (i + 1) (n + 1) := by
 have := h.step hi
 rw [iG, hh, Qae rfl, Qae rfl] at this
 exact this
def YM (page : Int) (L : List It) : Nat := (L.filter (hit page)).length
theorem HX {l : List It} {f : It → It} (hf : ∀ x, (f x).u = x.u) {i : Nat} (hi : i < l.length) : us (l.map f) i = us l i := by
 grind [us_eq]
theorem Rep.nar {its L : List It} {now : Nat} (h : Rep its now L) (page : Int) : Rep (its.map (iG page)) now (L.map (iG page)) := by
 refine ⟨h.perm.map _, fun c hc h0 => ?_, ?_, fun x hx => ?_, ?_⟩
 rw [QaA] at hc
 rw [HX (wO page) (by omega), HX (wO page) hc]
 exact h.heap c hc h0
 rw [List.pairwise_map]
 exact h.sort.imp fun {a b} hab => by rw [wO, wO]; exact hab
 obtain ⟨y, hy, rfl⟩ := QaS.1 hx
 rw [wO]; exact h.le y hy
 rw [List.map_map, show It.key ∘ iG page = It.key from funext fun x => HW page x]
 exact h.keys
theorem YN (b : Nat) (its : List It) (rm nw : Value) (page : Int) (hN : its.length < 1000) (hr : ∀ x ∈ its, i64 x.er) : sQ W0 413 [pQ b, iQ page] (aJ b (its, [rm, nw, .bool true]) :: R) (iQ (YM page its : Nat)) (aJ b (its.map (iG page), [rm, nw, .bool true]) :: R) := by
 refine ac func413 ntmps413 ?_
 refine ag (aj xP (uQ b its rm nw)) ?_
 refine zb (b := b) fun a0 c0 => ?_
 refine aw ?_
 refine fu (fun X : List It × Nat × Nat => NarI page its X.1 X.2.1 X.2.2) (fun X => [(0, pQ b), (1, iQ page), (5, iQ X.2.2), (15, iQ (its.length : Nat)), (16, iQ X.2.1)]) (fun X => aJ b (X.1, [rm, nw, .bool true]) :: R) (fun X => its.length - X.2.1) (its, 0, 0) ?_ ?_ ?_ ?_
 exact ⟨rfl, QaE _, by simp, fun _ _ => rfl, by simp⟩
 · repeat (first | exact cI | refine cj rfl ?_)
 exact pZ rfl
 intro ⟨l, i, n⟩ hD
 dsimp only at hD ⊢
 have hl := hD.len
 have hil := hD.il
 have hcn : n ≤ its.length := by
  rw [hD.cnt]
  exact Qbl (QaQ _ _) (by grind)
 refine aw ?_
 refine aA rfl (fun c5 => ?_) fun c5 => ?_
 have hil1 : i < l.length := by omega
 have hei : i64 (l.getD i default).er := by
  rw [hD.back i (Qaj _)]
  have hi2 : i < its.length := by omega
  have := hr _ (QaL hi2)
  rwa [show its.getD i default = its[i] by simp [List.getD, hi2]]
 refine Cl (b := b) (uP hil1) fun g c sp k1 k2 k3 => ?_
 refine au 2 ?_
 refine ec (fun Z : List It × Nat => NarI page its Z.1 (i + 1) Z.2) (fun Z => [(0, pQ b), (1, iQ page), (5, iQ Z.2), (15, iQ (its.length : Nat)), (16, iQ i)]) (fun Z => aJ b (Z.1, [rm, nw, .bool true]) :: R) ?_ ?_
 refine au 15 ?_
 refine a7 (bE hil1) ?_
 refine a7 (aH (aE ((wG l sp i 2 hil1 (by decide)).trans rfl))) ?_
 refine cA (fun g8_7 => ?_) fun g8_7 => ?_
 refine a7 (aH (aE ((wG l sp i 4 hil1 (by decide)).trans rfl))) ?_
 refine a7 (fD rfl rfl rfl) ?_
 refine ah (fun c8 => ?_) fun c8 => ?_
 refine a7 (aH (aE ((wG l sp i 4 hil1 (by decide)).trans rfl))) ?_
 refine a7 (xW rfl rfl (by rw [HV hei, Qae ((zo hei).1 (by omega))] : p7 .i64 (l.getD i default).er 2 = (l.getD i default).er - 2)) ?_
 refine aB (dF (by have := nN l sp i hil1; omega) (YL l sp i ((l.getD i default).er - 2) hil1)) ?_
 refine a7 (eC (n + 1)) ?_
 refine cq (l.set i { l.getD i default with er := (l.getD i default).er - 2 }, n + 1) ?_ (he := ?_)
 have hw := (zo hei).1 (by omega)
 exact hD.hits (by omega) (by simp only [hit, Qap, Qah]; exact ⟨by omega, hw⟩)
 exact ri (b := b) rfl (by rw [Qao]) (by omega) k2 (by rw [← k3]; simp [bX gy])
 refine cq (l, n) ?_ (he := ?_)
 refine hD.skip (by omega) ?_
 first
   | (have hne : ¬ (l.getD i default).ep = page := by omega
      rw [hit, Qav hne]; rfl)
   | (have hw : ¬ wB (l.getD i default).er = true := fun q => absurd ((zo hei).2 q) (by omega)
      have hw' : wB (l.getD i default).er = false := by simpa using hw
      rw [hit, hw', Bool.and_false])
 exact ri (b := b) rfl rfl (by omega) k2 k3
 refine cq (l, n) ?_ (he := ?_)
 refine hD.skip (by omega) ?_
 first
   | (have hne : ¬ (l.getD i default).ep = page := by omega
      rw [hit, Qav hne]; rfl)
   | (have hw : ¬ wB (l.getD i default).er = true := fun q => absurd ((zo hei).2 q) (by omega)
      have hw' : wB (l.getD i default).er = false := by simpa using hw
      rw [hit, hw', Bool.and_false])
 exact ri (b := b) rfl rfl (by omega) k2 k3
 intro ⟨l2, n2⟩ hD2
 refine aw ?_
 refine a7 cQ ?_
 refine cv (l2, i + 1, n2) ?_ (hμ := ?_)
 exact hD2
 show its.length - (i + 1) < its.length - i; omega
 refine aw ?_
 refine aa ?_
 obtain rfl : i = its.length := by omega
 have hfr := hD.front
 have hct := hD.cnt
 rw [QaM (by omega), QaM (Qaj _)] at hfr
 rw [QaM (Qaj _)] at hct
 rw [hct, hfr]
 exact ai
theorem Rep.keep {its its' L : List It} {now : Nat} {p : It → Bool} (h : Rep its now L) (hp : its'.Perm (iY p its)) (hh : Heap its' its'.length) : Rep its' now (iY p L) :=
  ⟨hp.trans (h.perm.filter _), hh, h.sort.filter _, fun x hx => h.le x (QaI.1 hx).1, Qcn (Qcz _ QbD) h.keys⟩
theorem YO (p : It → Bool) (l : List It) : (iY p l).length ≤ l.length := QaQ _ _
theorem YP (b : Nat) (its : List It) (tl : List Value) (f : FuncId) (cs : List Value) (C : HP) (p : It → Bool) (hp : PF W0 f cs C p) (hN : its.length < 1000) : sP W0 421 [pQ b, .func (.func f) #[] cs.toArray] (aJ b (its, tl) :: kH 0 C :: R) (fun v B => ∃ l, v = iQ (its.length - (iY p its).length : Nat) ∧ B = aJ b (l, tl) :: kH 0 C :: R ∧ l.Perm (iY p its) ∧ Heap l l.length) := by
 have hkl := YO p its
 refine ac func421 ntmps421 ?_
 refine ag (aj uc (rj b its tl)) ?_
 refine zb (b := b) fun a c => ?_
 refine jH (E := 548) (sz := 6) (a := a) (n := its.length) (c := c) aY its gy (by decide) rfl (fun hs => ?_)
 refine aw ?_
 refine ao rfl (ar call464 (YD its a c hN hs)) ?_
 rintro _ B_ ⟨a2, c2, rfl, hB_⟩
 obtain rfl := hB_.symm
 refine aw ?_
 refine ao rfl (cJ call463 (YH its a2 c2 f cs C p hp hN)) ?_
 rintro _ B_ ⟨a3, c3, rfl, hB_⟩
 obtain rfl := hB_.symm
 refine aw ?_
 refine aB dq ?_
 refine ja (B := aJ b (iY p its, tl) :: kH 0 C :: R) (pZ rfl) ?_
 refine aw ?_
 refine ao rfl (aj call465 (YB b (iY p its) tl (by omega))) ?_
 rintro _ B_ ⟨l, rfl, hB_, hp2, hh⟩
 obtain rfl := hB_.symm
 have hll := hp2.length_eq
 refine aw ?_
 refine ag (aj uc (rj b l tl)) ?_
 refine a7 (m0 (its.length - (iY p its).length)) ?_
 refine aa ?_
 exact ⟨_, ⟨l, rfl, rfl, hp2, hh⟩, IO⟩
theorem YQ (W0 : World) : PF W0 422 [] (aS []) (fun _ => true) := ⟨call422, fun x R => by
 refine ac func422 ntmps422 ?_
 refine aV fun b1 => ?_
 exact aa ai
 ⟩
theorem zp (l : List It) : iY (fun _ => true) l = [] := by simp [iY]
theorem YR (b : Nat) (its : List It) (rm nw : Value) (now : Nat) (L : List It) (hR : Rep its now L) (hN : its.length < 1000) : sP W0 374 [pQ b] (aJ b (its, [rm, nw, .bool true]) :: R) (fun v B => v = iQ (L.length : Nat) ∧ ∃ its', B = aJ b (its', [rm, nw, .bool true]) :: R ∧ Rep its' now []) := by
 have hlen := hR.length
 refine ac func374 ntmps374 ?_
 refine ag (aj xP (uQ b its rm nw)) ?_
 refine ja (B := aJ b (its, [rm, nw, .bool true]) :: kH 0 (aS []) :: R) inferInstance ?_
 refine aw ?_
 refine ao rfl (cJ call421 (YP b its _ 422 [] _ _ (YQ W0) hN)) ?_
 rintro _ B_ ⟨l, rfl, hB_, hp, hh⟩
 obtain rfl := hB_.symm
 rw [zp] at hp
 rw [zp, hlen]
 refine aw ?_
 refine aa ?_
 have hk := hR.keep (p := fun _ => true) (by grind [zp]) hh
 rw [zp] at hk
 exact ⟨_, ⟨rfl, l, rfl, hk⟩, IO⟩
structure Ln where
  k : cC
  e : iW
  rt : Int
  lf : Int
instance : Inhabited Ln := ⟨⟨(0, 0), (0, 0, 0), 0, 0⟩⟩
@[reducible] def cD (x : Ln) : List Value := [.int .i64 x.k.1, .int .i64 x.k.2, .int .i64 x.e.1, .int .i64 x.e.2.1, .int .i64 x.e.2.2, .int .i64 x.rt, .int .i64 x.lf]
theorem mo (x : Ln) : (cD x).length = 7 := rfl
theorem HY (x : Ln) : dV (cD x) = true := rfl
def Ln.thr (x : Ln) (p : Int) : Bool := decide (x.rt = p) || decide (x.lf = p)
theorem tu {x : Ln} {p : Int} : x.thr p = true ↔ x.rt = p ∨ x.lf = p := by simp [Ln.thr]
def eX (L : List Ln) (p : Int) : Bool := L.any fun x => x.thr p
theorem tx {L : List Ln} {p : Int} : eX L p = true ↔ ∃ x ∈ L, x.thr p = true := by simp [eX]
def fA (r : Int) : Int := if wB r then r - 2 else r
theorem zq (r : Int) : wB (fA r) = false := by
 grind [fA, wB]
def Ln.nar (x : Ln) : Ln := { x with e := (x.e.1, x.e.2.1, fA x.e.2.2) }
theorem HZ {x : Ln} (h : wB x.e.2.2 = false) : x.nar = x := by
 obtain ⟨k, ⟨e1, e2, e3⟩, r, l⟩ := x
 simp only [Ln.nar, fA] at h ⊢
 rw [h]; rfl
def kI (L : List Ln) (r l : Int) : List Int := (if r = l then [r] else [min r l, max r l]).filter fun p => !eX L p
theorem I0 {L : List Ln} {r l p : Int} : p ∈ kI L r l ↔ (p = r ∨ p = l) ∧ eX L p = false := by
 grind [kI]
def dh (r l : Int) (x : Ln) : Ln := if x.e.1 = r ∨ x.e.1 = l then x.nar else x
def uT (L : List Ln) : List Ln := match L.getLast? with
 | none => []
 | some y => L.dropLast ++ [if eX L y.e.1 then y.nar else y]
def wP (k : cC) (e : iW) (r l : Int) (L : List Ln) : List Ln := L.filter (fun x => decide (x.k ≠ k)) ++ [⟨k, e, r, l⟩]
def wQ (L : List Ln) : List Ln := if 32 < L.length then L.tail else L
def kJ (k : cC) (e : iW) (r l : Int) (L : List Ln) : List Ln := uT ((wQ (wP k e r l L)).map (dh r l))
def jv (k : cC) (L : List Ln) : Option Ln := L.find? fun x => decide (x.k = k)
theorem I1 (L : List Ln) (y : Ln) : uT (L ++ [y]) = L ++ [if eX (L ++ [y]) y.e.1 then y.nar else y] := by
 grind [uT]
theorem YS (x : Ln) (p : Int) : x.nar.thr p = x.thr p := rfl
theorem I2 (r l : Int) (x : Ln) (p : Int) : (dh r l x).thr p = x.thr p := by unfold dh; split <;> rfl
theorem I3 (r l : Int) (x : Ln) : (dh r l x).k = x.k := by unfold dh; split <;> rfl
theorem I4 (r l : Int) (x : Ln) : (dh r l x).e.1 = x.e.1 := by unfold dh; split <;> rfl
theorem I5 {f : Ln → Ln} (h : ∀ x p, (f x).thr p = x.thr p) (L : List Ln) (p : Int) : eX (L.map f) p = eX L p := by
 grind [eX]
theorem I6 (A B : List Ln) (p : Int) : eX (A ++ B) p = (eX A p || eX B p) := by simp [eX]
def jw (k : cC) (L : List Ln) : List Ln := if 31 < (L.filter fun x => decide (x.k ≠ k)).length then (L.filter fun x => decide (x.k ≠ k)).tail else L.filter fun x => decide (x.k ≠ k)
theorem I7 (k : cC) (L : List Ln) : (jw k L).Sublist (L.filter fun x => decide (x.k ≠ k)) := by
 grind [jw]
theorem Cw {k : cC} {L : List Ln} {x : Ln} (h : x ∈ jw k L) : x ∈ L ∧ x.k ≠ k := by
 grind [I7]
theorem I8 {k : cC} {L : List Ln} (h : L.length ≤ 32) : (jw k L).length ≤ 31 := by
 grind [QaQ, jw]
def jP (k : cC) (e : iW) (r l : Int) (L : List Ln) : Ln :=
  if eX (jw k L) e.1 || (⟨k, e, r, l⟩ : Ln).thr e.1 then (⟨k, e, r, l⟩ : Ln).nar else ⟨k, e, r, l⟩
theorem YT (x : Ln) : x.nar.nar = x.nar := HZ (zq _)
theorem Cx (k : cC) (e : iW) (r l : Int) (L : List Ln) (h : L.length ≤ 32) : kJ k e r l L = (jw k L).map (dh r l) ++ [jP k e r l L] := by
 have hc : wQ (wP k e r l L) = jw k L ++ [⟨k, e, r, l⟩] := by
  grind [wQ, wP, jw]
 unfold kJ
 rw [hc, QaF, Qco, I1]
 congr 1
 rw [← Qco (f := dh r l), ← QaF, I5 (I2 r l), I6, I4]
 have ht : eX [(⟨k, e, r, l⟩ : Ln)] e.1 = (⟨k, e, r, l⟩ : Ln).thr e.1 := by simp [eX]
 rw [ht]
 unfold jP
 by_cases q : e.1 = r ∨ e.1 = l
 have h1 : dh r l ⟨k, e, r, l⟩ = (⟨k, e, r, l⟩ : Ln).nar := Qae q
 have h2 : (⟨k, e, r, l⟩ : Ln).thr e.1 = true := by
  grind [tu]
 rw [h1, h2, Bool.or_true, Qae rfl, Qae rfl, YT]
 grind [dh]
theorem zr (k : cC) (e : iW) (r l : Int) (L : List Ln) : (jP k e r l L).k = k := by unfold jP; split <;> rfl
theorem Cy (k : cC) (e : iW) (r l : Int) (L : List Ln) : jP k e r l L = ⟨k, e, r, l⟩ ∨ jP k e r l L = (⟨k, e, r, l⟩ : Ln).nar := by unfold jP; split <;> simp
structure TI (L : List Ln) (TL : List It) : Prop where
  keys : (L.map Ln.k).Nodup
  len : L.length ≤ 32
  nowr : ∀ x ∈ L, wB x.e.2.2 = true → eX L x.e.1 = false
  sub : ∀ y ∈ TL, ∃ x ∈ L, x.k = y.key ∧ x.e = y.ent
theorem TI.nil : TI [] [] := ⟨QcD, QaE _, fun x hx => by simp at hx, fun y hy => by simp at hy⟩
theorem zt {k : cC} {L : List Ln} {x : Ln} (h : jv k L = some x) : x ∈ L ∧ x.k = k := ⟨Qca h, by simpa using List.find?_some h⟩
theorem I9 {L : List Ln} (h : (L.map Ln.k).Nodup) {x y : Ln} (hx : x ∈ L) (hy : y ∈ L) (e : x.k = y.k) : x = y := by
 induction L with
 | nil => simp at hx
 | cons a L ih =>
  simp only [Qaz, QbF] at h
  rcases QaN.1 hx with rfl | hx1
  grind
  grind
theorem Cz {L : List Ln} (h : (L.map Ln.k).Nodup) {x : Ln} (hx : x ∈ L) : jv x.k L = some x := by
 cases hf : jv x.k L with
 | none =>
  have := QbX.1 hf x hx
  simp at this
 | some z =>
  obtain ⟨h1, h2⟩ := zt hf
  rw [I9 h h1 hx h2]
theorem TI.drop {L : List Ln} {TL TL' : List It} (h : TI L TL) (f : Ln → Bool) (hs : ∀ y ∈ TL', y ∈ TL ∧ ∀ x ∈ L, f x = true → y.key ≠ x.k) : TI (L.filter fun x => !f x) TL' := by
 refine ⟨Qcn (Qcz _ QbD) h.keys, Qbl (QaQ _ _) h.len, fun x hx hw => ?_, fun y hy => ?_⟩
 have hx := (QaI.1 hx).1
 have := h.nowr x hx hw
 rw [← QaB, tx] at this ⊢
 rintro ⟨z, hz, hz2⟩
 exact this ⟨z, (QaI.1 hz).1, hz2⟩
 obtain ⟨h1, h2⟩ := hs y hy
 obtain ⟨x, hx, e1, e2⟩ := h.sub y h1
 refine ⟨x, QaI.2 ⟨hx, ?_⟩, e1, e2⟩
 cases hf : f x with
 | false => rfl
 | true => exact absurd e1.symm (h2 x hx hf)
theorem CB {k : cC} {x y : It} {L : List It} : y ∈ kl k x L ↔ (y ∈ L ∧ y.key ≠ k) ∨ y = x := by simp [kl, rk]
theorem TI.getT {L : List Ln} {TL : List It} (h : TI L TL) (now : Nat) (k : cC) : TI L (rn now k TL) := by
 refine ⟨h.keys, h.len, h.nowr, fun y hy => ?_⟩
 unfold rn at hy
 cases hf : lM k TL with
 | none => rw [hf] at hy; exact h.sub y hy
 | some z =>
  rw [hf] at hy
  obtain ⟨h1, h2⟩ := zk hf
  rcases CB.1 hy with ⟨q, _⟩ | rfl
  exact h.sub y q
  obtain ⟨x, hx, e1, e2⟩ := h.sub z h1
  exact ⟨x, hx, by rw [e1, h2]; rfl, by rw [e2]; rfl⟩
theorem Ia {room now : Nat} {k : cC} {e : iW} {L : List It} {y : It} (h : y ∈ mn room now k e L) : (y ∈ L ∧ y.key ≠ k) ∨ y = kG k e (now + 1 : Nat) := by
 unfold mn at h
 split at h
 exact CB.1 (List.mem_of_mem_tail h)
 exact CB.1 h
theorem TI.putT {L : List Ln} {TL : List It} (h : TI L TL) (room now : Nat) {x : Ln} (hx : x ∈ L) : TI L (mn room now x.k x.e TL) := by
 refine ⟨h.keys, h.len, h.nowr, fun y hy => ?_⟩
 rcases Ia hy with ⟨q, _⟩ | rfl
 exact h.sub y q
 exact ⟨x, hx, rfl, rfl⟩
def jx (l : List Int) (TL : List It) : List It := l.foldl (fun A p => A.map (iG p)) TL
theorem YU (p : Int) (y : It) : (iG p y).ent = if y.ep = p then (y.ent.1, y.ent.2.1, fA y.ent.2.2) else y.ent := by
 unfold iG hit fA
 by_cases q : y.ep = p
 rw [Qaw q, QbO, Qae q]
 show _ = (y.ep, y.ef, if wB y.er = true then y.er - 2 else y.er)
 cases hw : wB y.er <;> rfl
 grind
theorem YV {l : List Int} : ∀ {TL : List It} {y : It}, y ∈ jx l TL → ∃ z ∈ TL, y.key = z.key ∧ y.ent = if z.ep ∈ l then (z.ent.1, z.ent.2.1, fA z.ent.2.2) else z.ent := by
 induction l with
 | nil => intro TL y h; exact ⟨y, h, rfl, by simp⟩
 | cons p l ih =>
  intro TL y h
  obtain ⟨z, hz, h1, h2⟩ := ih (TL := TL.map (iG p)) h
  obtain ⟨w, hw, rfl⟩ := QaS.1 hz
  refine ⟨w, hw, by rw [h1, HW], ?_⟩
  have hep : (iG p w).ep = w.ep := by grind [iG]
  rw [h2, hep, YU]
  by_cases q1 : w.ep = p
  grind [QaN.2, zq, fA]
  grind
theorem TI.fill {L : List Ln} {TL : List It} (h : TI L TL) (k : cC) (e : iW) (r l : Int) (room now : Nat) :
    TI (kJ k e r l L) ((mn room now k (jP k e r l L).e (jx (kI L r l) TL)).filter fun y => (jv y.key (kJ k e r l L)).isSome) := by
 have hE := Cx k e r l L h.len
 have hold : ∀ x ∈ jw k L, x ∈ L ∧ x.k ≠ k := fun x hx => Cw hx
 have hTo : ∀ p, eX (kJ k e r l L) p = (eX (jw k L) p || (⟨k, e, r, l⟩ : Ln).thr p) := fun p => by
  rw [hE, I6, I5 (I2 r l)]
  congr 1
  rcases Cy k e r l L with q | q <;> rw [q] <;> simp [eX, YS]
 have hkeys : ((kJ k e r l L).map Ln.k).Nodup := by
  rw [hE, QaF, List.map_map, show Ln.k ∘ dh r l = Ln.k from funext fun x => I3 r l x, Qco, zr]
  refine Qbv.2 ⟨Qcn (Qcz _ ((I7 k L).trans QbD)) h.keys, by simp, fun a ha b hb => ?_⟩
  obtain rfl : b = k := by grind
  obtain ⟨x, hx, rfl⟩ := QaS.1 ha
  exact (hold x hx).2
 have hnew : jP k e r l L ∈ kJ k e r l L := by rw [hE]; simp
 refine ⟨hkeys, ?_, fun x hx hw => ?_, fun y hy => ?_⟩
 rw [hE, Qad, QaA, QaX]
 have := I8 (k := k) h.len; omega
 rw [hTo]
 rw [hE] at hx
 rcases Qbg.1 hx with hx | hx
 obtain ⟨z, hz, rfl⟩ := QaS.1 hx
 obtain ⟨hzL, _⟩ := hold z hz
 rw [I4]
 by_cases q : z.e.1 = r ∨ z.e.1 = l
 rw [dh, Qae q] at hw
 rw [show z.nar.e.2.2 = fA z.e.2.2 from rfl, zq] at hw; cases hw
 rw [dh, Qab q] at hw
 have h1 := h.nowr z hzL hw
 rw [Qbr]
 refine ⟨?_, ?_⟩
 grind [tx]
 rw [← QaB, tu]
 rintro (e1 | e1)
 grind
 grind
 grind [jP, Ln.nar, fA, zq]
 obtain ⟨hy1, hy2⟩ := QaI.1 hy
 rcases Ia hy1 with ⟨q, hne⟩ | rfl
 obtain ⟨z, hz, k1, k2⟩ := YV q
 obtain ⟨x, hx, e1, e2⟩ := h.sub z hz
 cases hg : jv y.key (kJ k e r l L) with
 | none => rw [hg] at hy2; cases hy2
 | some x' =>
  obtain ⟨m1, m2⟩ := zt hg
  refine ⟨x', m1, m2, ?_⟩
  rw [hE] at m1
  rcases Qbg.1 m1 with m1 | m1
  obtain ⟨u, hu, rfl⟩ := QaS.1 m1
  obtain ⟨huL, _⟩ := hold u hu
  rw [I3] at m2
  have hux : u = x := I9 h.keys huL hx (by grind)
  subst hux
  have hzp : z.ep = u.e.1 := by rw [e2]; rfl
  rw [k2, hzp]
  by_cases q1 : u.e.1 = r ∨ u.e.1 = l
  rw [dh, Qae q1]
  by_cases q2 : u.e.1 ∈ kI L r l
  rw [Qae q2, ← e2]; rfl
  rw [Qab q2]
  have ht : eX L u.e.1 = true := by
   rw [← Bool.not_eq_false]; intro q3
   exact q2 (I0.2 ⟨q1, q3⟩)
  have hw : wB u.e.2.2 = false := by
   rw [← QaB]; intro q3
   rw [h.nowr u huL q3] at ht; cases ht
  rw [HZ hw, e2]
  rw [dh, Qab q1, Qab (fun q2 => q1 (I0.1 q2).1), e2]
  grind [jP, zr]
 exact ⟨_, hnew, zr k e r l L, rfl⟩
def bJ (b : Nat) (L : List Ln) : HP := chk (fun C => ∃ a c, C = [pt b (a8 [.slice a L.length c, .bool true] 482), osl 551 7 (.slice a L.length c) (L.flatMap cD)])
section
variable {P : Program} {W0 : World} {R A : List HP} {b : Nat} {L : List Ln} {f : FuncId} {args : List Value} {Post : Value → List HP → Prop}
theorem tz {a : Option Addr} {c n : Nat} {R1 R2 B : List HP} [h1 : Tk pt b A (a8 [.slice a n c, .bool true] 482) R1] [h2 : Tk (osl 551 7) (.slice a n c) R1 (L.flatMap cD) R2] (hn : n = L.length) [k : Ent R2 B] : Ent A (bJ b L :: B) := by
 subst hn
 exact (Ent.ofPerm (h1.perm.trans (h2.perm.cons _))).trans ((Ent.cons (Ent.cons k)).trans (dQ (R := B) (C := [_, _]) ⟨a, c, rfl⟩))
theorem wR {N : FSz} {K : Act → World → Prop} {e : aP} [hk : Tk bJ b A L R] (h : ∀ a c, am W0 N K e (pt b (a8 [.slice a L.length c, .bool true] 482) :: osl 551 7 (.slice a L.length c) (L.flatMap cD) :: R)) : am W0 N K e A :=
  gJ (r := bJ) (b := b) (mN fun C hC => by obtain ⟨a, c, rfl⟩ := hC; exact h a c)
theorem YW {N : FSz} {K : Act → World → Prop} {e : aP} [hk : Tk bJ b A L R] (h0 : L ≠ []) (h : ∀ g c sp, L.length ≤ c → c ≤ maxLen → (L.flatMap cD ++ sp).length = c * 7 → am W0 N K e (pt b (a8 [.slice (some ⟨g, 0, none⟩) L.length c, .bool true] 482) :: pt g (a8 (L.flatMap cD ++ sp) 551) :: R)) : am W0 N K e A :=
  wR (b := b) fun a c => oY (List.Perm.swap _ _ _) (ny (fun h1 h2 => by
      have := bX mo L
      rw [h2] at this
      exact absurd (QaD (by grind)) h0)
    (fun g n cap sp h1 h2 h3 h4 h5 => by
      cases h1
      exact oY (List.Perm.swap _ _ _) (h g _ sp h2 h3 h5)))
theorem Ib {g c n : Nat} {xs sp : List Value} {R1 R2 B : List HP} [h1 : Tk pt b A (a8 [.slice (some ⟨g, 0, none⟩) n c, .bool true] 482) R1] [h2 : Tk pt g R1 (a8 (xs ++ sp) 551) R2] (hx : xs = L.flatMap cD) (hn : n = L.length) (hc : n ≤ c) (hm : c ≤ maxLen) (hl : (xs ++ sp).length = c * 7) [k : Ent R2 B] : Ent A (bJ b L :: B) := by
 subst hn
 subst hx
 have e : Ent R1 (osl 551 7 (.slice (some ⟨g, 0, none⟩) L.length c) (L.flatMap cD) :: B) := gG hc hm (bX mo L) hl
 exact (Ent.ofPerm h1.perm).trans ((Ent.cons e).trans (dQ (R := B) (C := [_, _]) ⟨_, c, rfl⟩))
theorem YX [hk : Tk bJ b A L R] : iM (az W0 A) b 1 (.bool true) := fun w (hO : Own W0 w A) => by
 obtain ⟨C, ⟨a, c, rfl⟩, hO'⟩ := (hO.tk (r := bJ) (b := b)).chk
 have h2 : iM (az W0 (pt b (a8 [.slice a L.length c, .bool true] 482) :: (osl 551 7 (.slice a L.length c) (L.flatMap cD) :: R))) b 1 (.bool true) := aE rfl
 exact h2 w hO'
end
theorem wS (b : Nat) (L : List Ln) : sQ W0 402 [pQ b] (bJ b L :: R) (.bool false) (bJ b L :: R) := by
 refine ac func402 ntmps402 ?_
 refine cP rfl rfl rfl (fun g1_3 => ?_) fun g1_3 => ?_
 cases g1_3
 refine aw ?_
 refine a7 (aH YX) ?_
 exact aa ai
def tA (p : Int) : Bool := decide (0 ≤ p ∧ p < 8)
theorem Ic (p : Int) : sQ W0 445 [iQ p] R (.bool (tA p)) R := by
 refine ac func445 ntmps445 ?_
 refine cA (fun g1_3 => ?_) fun g1_3 => ?_
 refine aa ?_
 refine aQ ?_
 refine Qak Value.bool ?_
 rw [Qag, tA, Qah]
 first
   | (rw [Qah]; constructor <;> (intro q; omega))
   | (constructor
      · intro q; first | omega | (cases q)
      intro q; omega)
 refine aa ?_
 refine aQ ?_
 refine Qak Value.bool ?_
 rw [Qag, tA, Qah]
 first
   | (rw [Qah]; constructor <;> (intro q; omega))
   | (constructor
      · intro q; first | omega | (cases q)
      intro q; omega)
theorem CC (g o : Nat) (x : Ln) (hc : aR (az W0 R) g o (cD x)) (p : Int) : sQ W0 405 [.pointer (some ⟨g, o, none⟩), iQ p] R (.bool (x.thr p)) R := by
 refine ac func405 ntmps405 ?_
 refine a7 (aH (aR.weak hc 5 _ rfl)) ?_
 refine eR (fun g1_7 => ?_) fun g1_7 => ?_
 refine aa ?_
 refine aQ ?_
 refine Qak Value.bool ?_
 rw [Qag, tu]
 first
   | (simp; omega)
   | (simp only [Qbu, true_iff]; omega)
   | simp_all
 refine a7 (aH (aR.weak hc 6 _ rfl)) ?_
 refine aa ?_
 refine aQ ?_
 refine Qak Value.bool ?_
 rw [Qag, tu]
 first
   | (simp; omega)
   | (simp only [Qbu, true_iff]; omega)
   | simp_all
theorem CE (g o : Nat) (vs : List Value) (r : Int) (hr : i64 r) (hv : vs[o + 4]? = some (iQ r)) : sQ W0 477 [.pointer (some ⟨g, o, none⟩)] (pt g (a8 vs 551) :: R) (.tuple #[]) (pt g (a8 (vs.set (o + 4) (iQ (fA r))) 551) :: R) := by
 refine ac func477 ntmps477 ?_
 refine a7 (aH (aE hv)) ?_
 refine a7 (xW rfl rfl (HV hr : p7 .i64 r 2 = fA r)) ?_
 refine aB (dF (by grind) (rfl : vs.set (o + 4) (iQ (if wB r then r - 2 else r)) = vs.set (o + 4) (iQ (fA r)))) ?_
 refine bA (.inr rfl) .nil ?_
 rw [show fA r = if wB r then r - 2 else r from rfl]
 exact ai
theorem YY (b : Nat) (L : List Ln) (hl : L.length ≤ 1000) (p : Int) : sQ W0 476 [pQ b, iQ p] (bJ b L :: R) (.bool (eX L p)) (bJ b L :: R) := by
 refine ac func476 ntmps476 ?_
 refine ag (aj xQ (wS b L)) ?_
 refine wR (b := b) fun a c => ?_
 refine aw ?_
 refine dr (fun i : Nat => i ≤ L.length ∧ ∀ j (hj : j < L.length), j < i → L[j].thr p = false) (fun i => [(0, pQ b), (1, iQ p), (12, iQ (L.length : Nat)), (13, iQ i)]) (fun _ => pt b (a8 [.slice a L.length c, .bool true] 482) :: osl 551 7 (.slice a L.length c) (L.flatMap cD) :: R) (fun i => L.length - i) 0 ?_ ?_
 grind
 intro i ⟨hi, hI⟩
 refine aw ?_
 refine aA rfl (fun c4 => ?_) fun c4 => ?_
 refine au 11 ?_
 have hi1 : i < L.length := by omega
 refine jH (E := 551) (sz := 7) (a := a) (c := c) (n := L.length) cD L mo (by decide) rfl (fun hs => ?_)
 obtain ⟨g, o, hga, hc⟩ := hs.at_ hi1
 obtain ⟨x, hx⟩ : ∃ x, L[i] = x := ⟨_, rfl⟩
 have hyes : x.thr p = true → eX L p = true := fun q => tx.2 ⟨x, by rw [← hx]; exact QaL hi1, q⟩
 have hno : x.thr p = false → ∀ j (hj : j < L.length), j < i + 1 → L[j].thr p = false := fun q j hj hji => by
  rcases Qay j i with q2 | q2
  grind
  grind
 rw [hx] at hc
 refine aw ?_
 refine a7 (fT lU qz rfl hga rfl rfl hi1 (by first | exact Qac _ | rfl)) ?_
 refine ag (ar LR (CC g (o + i * 7) x hc p)) ?_
 refine ah (fun c6 => ?_) fun c6 => ?_
 refine aa ?_
 rw [hyes c6]
 exact ⟨_, ⟨rfl, rfl⟩, tz (b := b) rfl⟩
 refine a7 cQ ?_
 refine cv (i + 1) ?_
 grind
 refine aw ?_
 refine aa ?_
 have ht : eX L p = false := by
  rw [← QaB, tx]
  rintro ⟨x, hx, q⟩
  obtain ⟨j, hj, rfl⟩ := Qbm hx
  rw [hI j hj (by omega)] at q; cases q
 rw [ht]
 exact ⟨_, ⟨rfl, rfl⟩, tz (b := b) rfl⟩
theorem wT {S : World → Prop} {b off : Nat} {us ws vs : List Value} (h : aR S b off vs) (e : vs = us ++ ws) : aR S b off us := fun i v hi => h i v (by grind)
structure PLn (W0 : World) (fn : FuncId) (cs : List Value) (C : HP) (p : Ln → Bool) : Prop where
  call : ∀ args w, (callFunc fn args).run Tryz.prog w = .ok (.enter fn args) w
  spec : ∀ x b R, aZ Tryz.prog W0 fn ([] ++ [.pointer (some ⟨b, 0, none⟩)] ++ cs) (pt b (a8 (cD x) 551) :: kH 0 C :: R) (fun v B => v = .bool (p x) ∧ B = pt b (a8 (cD x) 551) :: kH 0 C :: R)
theorem YZ (W0 : World) (bk : Nat) (k : cC) : PLn W0 447 [pQ bk] (aS [pt bk (a8 (fp k) 504)]) (fun x => decide (x.k = k)) := ⟨call447, fun x b R => by
 refine lZ (sk (r1 := kH) (b1 := 0)) (nz ?_)
 simp only [Qar, Qan]
 refine ac func447 ntmps447 ?_
 refine bu [b, bk] 8 fun hS => ?_
 refine ae 0 4 hS ?_
 refine ax 4 hS (bZ (wT (us := fp x.k) (ws := [iQ x.e.1, iQ x.e.2.1, iQ x.e.2.2, iQ x.rt, iQ x.lf]) (gF (k := 0) rfl) rfl)) ?_
 refine ae 5 1 hS ?_
 refine ax 6 hS (rZ Tryz.eqGuardType504 rfl rfl (rY Ao Tryz.stoodInHeld504 (kw rfl cy rfl rfl (kv dw) (kw rfl cy rfl rfl (kv dw) rX)))) ?_
 refine ae 7 1 hS ?_
 refine aK ?_
 refine aa ?_
 refine aQ ?_
 refine Qak Value.bool ?_
 rw [Qag]; simp [Prod.ext_iff]
 ⟩
theorem Z0 (W0 : World) (bp : Nat) (page : Int) : PLn W0 404 [pQ bp] (aS [pt bp (a8 [iQ page] 3)]) (fun x => x.thr page) := ⟨call404, fun x b R => by
 refine lZ (sk (r1 := kH) (b1 := 0)) (nz ?_)
 simp only [Qar, Qan]
 refine ac func404 ntmps404 ?_
 refine ag (ar LR (CC b 0 x dW page)) ?_
 exact aa ai
 ⟩
theorem Z1 (W0 : World) : PLn W0 423 [] (aS []) (fun _ => true) := ⟨call423, fun x b R => by
 refine ac func423 ntmps423 ?_
 exact aa ai
 ⟩
theorem Ie {α : Type} {p : α → Bool} {l : List α} {i : Nat} {x : α} (hi : i < l.length) (hx : l[i] = x) (h : p x = true) : (l.take (i + 1)).filter p = (l.take i).filter p ++ [x] := by
 grind [Qam]
theorem If {α : Type} {p : α → Bool} {l : List α} {i : Nat} {x : α} (hi : i < l.length) (hx : l[i] = x) (h : ¬ p x = true) : (l.take (i + 1)).filter p = (l.take i).filter p := by
 grind [Qam]
theorem Ig {α : Type} {p : α → Bool} {l : List α} {i : Nat} : ((l.take i).filter p).length ≤ i :=
  Qbl (QaQ _ _) (by grind)
@[reducible] def uU (x : Ln) : List Value := fp x.k
theorem CF (b : Nat) (L : List Ln) (hl : L.length ≤ 1000) (fn : FuncId) (cs : List Value) (C : HP) (p : Ln → Bool) (hp : PLn W0 fn cs C p) : sP W0 403 [pQ b, .func (.func fn) #[] cs.toArray] (bJ b L :: kH 0 C :: R) (fun v B => ∃ a c, v = .slice a (L.filter p).length c ∧ B = osl 504 2 (.slice a (L.filter p).length c) ((L.filter p).flatMap uU) :: bJ b (L.filter fun x => !p x) :: kH 0 C :: R) := by
 obtain ⟨n, hn⟩ : ∃ n : Ln → Bool, (fun x => !p x) = n := ⟨_, rfl⟩
 have hnx : ∀ x, n x = !p x := fun x => by rw [← hn]
 rw [hn]
 refine ac func403 ntmps403 ?_
 refine wR (b := b) fun a c => ?_
 refine aw ?_
 refine fu (fun X : Nat × (Option Addr × Nat) × Option Addr × Nat => X.1 ≤ L.length) (fun X => [(0, pQ b), (1, .func (.func fn) #[] cs.toArray), (5, .slice X.2.1.1 ((L.take X.1).filter p).length X.2.1.2), (6, .slice X.2.2.1 ((L.take X.1).filter n).length X.2.2.2), (13, iQ (L.length : Nat)), (14, iQ X.1)]) (fun X => osl 504 2 (.slice X.2.1.1 ((L.take X.1).filter p).length X.2.1.2) (((L.take X.1).filter p).flatMap uU) :: osl 551 7 (.slice X.2.2.1 ((L.take X.1).filter n).length X.2.2.2) (((L.take X.1).filter n).flatMap cD) :: pt b (a8 [.slice a L.length c, .bool true] 482) :: osl 551 7 (.slice a L.length c) (L.flatMap cD) :: kH 0 C :: R) (fun X => L.length - X.1) (0, (none, 0), none, 0) ?_ ?_ ?_ ?_
 omega
 · repeat (first | exact cI | refine cj rfl ?_)
 show Ent _ (osl 504 2 (.slice none 0 0) [] :: osl 551 7 (.slice none 0 0) [] :: pt b (a8 [.slice a L.length c, .bool true] 482) :: osl 551 7 (.slice a L.length c) (L.flatMap cD) :: kH 0 C :: R)
 exact dP (k := dP)
 intro ⟨i, ⟨a1, c1⟩, a2, c2⟩ hi
 dsimp only at hi ⊢
 have hlp := Ig (p := p) (l := L) (i := i)
 have hln := Ig (p := n) (l := L) (i := i)
 refine aw ?_
 refine aA rfl (fun c4 => ?_) fun c4 => ?_
 refine au 2 ?_
 refine ec (fun X : (Option Addr × Nat) × Option Addr × Nat => True) (fun X => [(0, pQ b), (1, .func (.func fn) #[] cs.toArray), (5, .slice X.1.1 ((L.take (i + 1)).filter p).length X.1.2), (6, .slice X.2.1 ((L.take (i + 1)).filter n).length X.2.2), (13, iQ (L.length : Nat)), (14, iQ i)]) (fun X => osl 504 2 (.slice X.1.1 ((L.take (i + 1)).filter p).length X.1.2) (((L.take (i + 1)).filter p).flatMap uU) :: osl 551 7 (.slice X.2.1 ((L.take (i + 1)).filter n).length X.2.2) (((L.take (i + 1)).filter n).flatMap cD) :: pt b (a8 [.slice a L.length c, .bool true] 482) :: osl 551 7 (.slice a L.length c) (L.flatMap cD) :: kH 0 C :: R) ?_ ?_
 refine au 8 ?_
 have hi1 : i < L.length := by omega
 refine jH (E := 551) (sz := 7) (a := a) (c := c) (n := L.length) cD L mo (by decide) rfl (fun hs => ?_)
 obtain ⟨g, o, hga, hc⟩ := hs.at_ hi1
 obtain ⟨x, hx⟩ : ∃ x, L[i] = x := ⟨_, rfl⟩
 rw [hx] at hc
 refine aw ?_
 refine a7 (fT lU qz rfl hga rfl rfl hi1 (by first | exact Qac _ | rfl)) ?_
 refine a7 (bZ hc.weak) ?_
 refine bB fun bx => ?_
 refine aB aD ?_
 refine ag (MD (us := []) (cs := cs) rfl hp.call rfl (hp.spec x bx _)) ?_
 refine ah (fun c7 => ?_) fun c7 => ?_
 have e1 := Ie (p := p) hi1 hx c7
 have e2 := If (p := n) hi1 hx (by grind)
 refine a7 (s9 Ae oW rfl TakeL.eq rfl) ?_
 refine cW (gH DZ oW a55 rfl (dX rfl rfl fR) rfl (by decide) (by decide) (by decide)) fun bb => ?_
 rw [show ([fp x.k] : List (List Value)).flatten = fp x.k from Qax _]
 refine ao rfl (eQ (sz := 2) (by_ := 16) (info := Tryz.t504) DZ (by kernel_rfl) rfl rfl rfl rfl (by decide) rfl rfl dW rfl rfl (by simp only [maxLen]; omega) (by omega)) ?_
 rintro _ _ ⟨a3, c3, rfl, rfl⟩
 refine aw ?_
 refine i5 ((a3, c3), a2, c2) ?_ ?_ ?_
 trivial
 · rw [e1, e2, Qad]
   repeat (first | exact cI | refine cj rfl ?_)
 dsimp only
 rw [e1, e2, Qad, QaX, QaZ, List.flatMap_singleton]
 exact IO
 have e1 := If (p := p) hi1 hx c7
 have e2 := Ie (p := n) hi1 hx (by grind)
 refine cW (gH lU qz Ar rfl (dX rfl rfl fR) rfl (by decide) (by decide) (by decide)) fun bb => ?_
 rw [show ([cD x] : List (List Value)).flatten = cD x from Qax _]
 refine ao rfl (eQ (sz := 7) (by_ := 56) (info := Tryz.t551) lU (by kernel_rfl) rfl rfl rfl rfl (by decide) rfl rfl dW rfl (by grind [HY]) (by simp only [maxLen]; omega) (by omega)) ?_
 rintro _ _ ⟨a3, c3, rfl, rfl⟩
 refine aw ?_
 refine i5 ((a1, c1), a3, c3) ?_ ?_ ?_
 trivial
 · rw [e1, e2, Qad]
   repeat (first | exact cI | refine cj rfl ?_)
 dsimp only
 rw [e1, e2, Qad, QaX, QaZ, List.flatMap_singleton]
 exact IO
 intro ⟨⟨a4, c4⟩, a5, c5⟩ _
 refine aw ?_
 refine a7 cQ ?_
 exact cv (i + 1, (a4, c4), a5, c5) (by omega)
 refine aw ?_
 refine aB dq ?_
 refine aa ?_
 obtain rfl : i = L.length := by omega
 rw [QbM]
 exact ⟨_, ⟨a1, c1, rfl, rfl⟩, Ent.trans (B := osl 504 2 (.slice a1 (L.filter p).length c1) ((L.filter p).flatMap uU) :: pt b (a8 [.slice a2 (L.filter n).length c2, .bool true] 482) :: osl 551 7 (.slice a2 (L.filter n).length c2) ((L.filter n).flatMap cD) :: kH 0 C :: R) inferInstance (Ent.cons (tz (b := b) rfl))⟩
end
end Go.Proofs.YtjaalpinjajaoaaGreatDoor
