/-
  Part 2 of the proof of GuestMade: rules, and walks of functions. Conditions: none.
-/
import Derived.Test.YtofillmoflhijaaGreatDoorGuestMadeA
namespace Go.Proofs.YtofillmoflhijaaGreatDoor
open Go.Proofs.Tryz
set_option linter.unusedSimpArgs false
set_option linter.unusedVariables false
set_option maxRecDepth 20000
set_option linter.defProp false
set_option synthInstance.maxSize 8192
set_option synthInstance.maxHeartbeats 2000000
variable {W0 : World} {R : List HP}
section
open Go.RowKit
abbrev ap := List Nat
def kM (x : ap) : List Value := (List.range 64).map (fun i => bV (x.getD i 0))
theorem A0 (x : ap) : (kM x).length = 64 := by simp [kM]
theorem DW {x : ap} (h : x.length = 64) : kM x = b0 x := by
 apply QaQ
 simp [kM, b0, h]
 grind [b0, kM]
def cC (fr : List ap) : Prop := ∀ x ∈ fr, x.length = 64 ∧ By x
theorem cC.get {fr : List ap} (h : cC fr) {f : Nat} (hf : f < fr.length) : (fr.getD f []).length = 64 ∧ By (fr.getD f []) := by
 have : fr.getD f [] = fr[f] := by grind
 rw [this]; exact h _ (QaK hf)
theorem cC.set {fr : List ap} (h : cC fr) {f : Nat} {y : ap} (hy : y.length = 64 ∧ By y) : cC (fr.set f y) := fun x hx => by
 rcases List.mem_or_eq_of_mem_set hx with h' | rfl
 exact h x h'
 exact hy
theorem wS {fr : List ap} (h : cC fr) {f : Nat} (hf : f < fr.length) : ((fr.flatMap kM).drop (f * 64)).take 64 = b0 (fr.getD f []) := by
 have := pq A0 fr f [] hf
 rw [Qav] at this
 rw [this, DW (h _ (QaK hf)).1]; simp [List.getD, hf]
theorem DY {fr : List ap} {f : Nat} {y : ap} (hf : f < fr.length) (hy : y.length = 64) : cz (fr.flatMap kM) (f * 64) (b0 y) = (fr.set f y).flatMap kM := by
 have := sy A0 fr f y [] hf
 rw [Qav, Qav, DW hy] at this
 exact this
theorem DZ (fr : List ap) : (fr.flatMap kM).length = fr.length * 64 := cj A0 fr
def bX : ap := List.replicate 64 0
theorem QQ : bX.length = 64 ∧ By bX := ⟨by simp [bX], fun b hb => by have := List.eq_of_mem_replicate hb; omega⟩
theorem cC.new (n : Nat) : cC (List.replicate n bX) := fun x hx => by rw [List.eq_of_mem_replicate hx]; exact QQ
theorem E0 : ∀ n, (List.replicate n bX).flatMap kM = List.replicate (n * 64) (bV 0)
 | 0 => rfl
 | n + 1 => by
  rw [List.replicate_succ, QaW, E0 n, QbN, Nat.add_comm, ← List.replicate_append_replicate]
  congr 1
def bj (ps : Nat) (fr : List ap) : HP := chk (fun C => ∃ g, C = [pt ps (a7 [.slice (some ⟨g, 0, none⟩) fr.length fr.length, .bool true] 169), pt g (a7 (fr.flatMap kM) 217)])
section
variable {P : Program} {W0 : World} {N : FSz} {K : Act → World → Prop} {e : aH} {A B R R1 R2 : List HP} {ps g n : Nat} {fr : List ap} {f : FuncId} {args : List Value} {Post : Value → List HP → Prop} {l : List Value}
theorem QR (h : ∀ g, bc P W0 f args (pt ps (a7 [.slice (some ⟨g, 0, none⟩) fr.length fr.length, .bool true] 169) :: pt g (a7 (fr.flatMap kM) 217) :: R) Post) : bc P W0 f args (bj ps fr :: R) Post :=
  qK fun C hC => by obtain ⟨g, rfl⟩ := hC; exact h g
theorem mm [h1 : Tk pt ps A (a7 [.slice (some ⟨g, 0, none⟩) n n, .bool true] 169) R1] [h2 : Tk pt g R1 (a7 l 217) R2] (hl : l = fr.flatMap kM) (hn : n = fr.length) [k : Ent R2 B] : Ent A (bj ps fr :: B) := by
 subst hl; subst hn
 exact (Ent.ofPerm (h1.perm.trans (h2.perm.cons _))).trans ((Ent.cons (Ent.cons k)).trans (en (R := B) (C := [_, _]) ⟨g, rfl⟩))
theorem qW [hk : Tk bj ps A fr R] (h : ∀ g, ai W0 N K e (pt ps (a7 [.slice (some ⟨g, 0, none⟩) fr.length fr.length, .bool true] 169) :: pt g (a7 (fr.flatMap kM) 217) :: R)) : ai W0 N K e A :=
  fJ (r := bj) (b := ps) (lP fun C hC => by obtain ⟨g, rfl⟩ := hC; exact h g)
end
theorem QT {g off c n : Nat} {l : List Nat} {at_ w : Int} (hl : l.length = n) (hc : aT (aB W0 R) g off (b0 l)) (hb : By l) (hn : n ≤ c) (h63 : c < 9223372036854775808) : sQ W0 309 [.slice (some ⟨g, off, none⟩) n c, iQ at_, iQ w] R (.tuple #[.int .u32 (nj l at_ w : Nat), iQ (qV l at_ w)]) R := by
 grind [DN]
theorem QU {g off c n : Nat} {l : List Nat} {i k w : Nat} (hl : l.length = n) (hw : w < 4294967296) (hc : aT (aB W0 R) g off (b0 l)) (hi : dL n i k = true) (hn : n ≤ 1000000) : sP W0 207 [.slice (some ⟨g, off, none⟩) n c, iQ i, iQ k, .int .u32 w] R (fun v B => ∃ a' c', v = wR a' n c' ∧ B = osl 5 1 (.slice a' n c') (b0 (kg l i k w)) :: R) := by
 grind [QM]
theorem QV {g off c n : Nat} {l : List Nat} {at_ k : Int} {w : Nat} (hl : l.length = n) (hc : aT (aB W0 R) g off (b0 l)) (hi : dL n at_ k = false) (hn : n ≤ 1000000) : sQ W0 207 [.slice (some ⟨g, off, none⟩) n c, iQ at_, iQ k, .int .u32 w] R zZ R := by
 grind [QN]
theorem A1 (n : Nat) (h : n ≤ 32) : sP W0 17 [iQ n] R (fun v B => ∃ b, v = .tuple #[pQ b, iQ 0] ∧ B = bj b (List.replicate n bX) :: R) := by
 refine ab func17 ntmps17 ?_
 refine cR rfl rfl rfl (fun g1_3 => ?_) fun g1_3 => ?_
 omega
 refine aw ?_
 refine aA rfl (fun c1 => ?_) fun c1 => ?_
 omega
 refine aw ?_
 refine d7 (qP (sz := 64) (by_ := 64) (info := Tryz.t217) a1G (by kernel_rfl) rfl rfl rfl rfl (by decide) rfl rfl rfl rfl (by omega) (by decide)) fun b1 => ?_
 refine aS fun b2 => ?_
 refine az ?_
 exact ⟨_, ⟨b2, rfl, rfl⟩, mm (E0 n).symm (by simp)⟩
theorem E1 (ps : Nat) (fr : List ap) : sQ W0 170 [pQ ps] (bj ps fr :: R) (.bool false) (bj ps fr :: R) := by
 refine QR fun g => ?_
 refine ab func170 ntmps170 ?_
 refine cR rfl rfl rfl (fun g1_3 => ?_) fun g1_3 => ?_
 cases g1_3
 refine aw ?_
 refine a8 ?_
 exact ⟨_, ⟨by simp [aU], rfl⟩, mm rfl rfl⟩
theorem qX (ps : Nat) (fr : List ap) : sQ W0 79 [pQ ps] (bj ps fr :: R) (iQ (fr.length : Nat)) (bj ps fr :: R) := by
 refine ab func79 ntmps79 ?_
 refine ac (ah call170 (E1 ps fr)) ?_
 refine qW (ps := ps) fun g => ?_
 refine aw ?_
 refine a8 ?_
 exact ⟨_, ⟨rfl, rfl⟩, mm rfl rfl⟩
def dR (n : Nat) (f : Int) : Bool := decide (0 ≤ f ∧ f < n)
theorem qY (ps : Nat) (fr : List ap) (f : Int) : sQ W0 117 [pQ ps, iQ f] (bj ps fr :: R) (iQ (if dR fr.length f then 0 else 1)) (bj ps fr :: R) := by
 refine ab func117 ntmps117 ?_
 refine ac (ah call170 (E1 ps fr)) ?_
 refine ag (fun c3 => ?_) fun c3 => ?_
 refine a8 ?_
 have hf : dR fr.length f = false := by grind [dR]
 first
   | exact ⟨_, ⟨by simp [aU, hf], rfl⟩, mm rfl rfl⟩
   | exact ⟨_, ⟨by simp [aU, hf], rfl⟩, IO⟩
 refine qW (ps := ps) fun g => ?_
 refine aw ?_
 refine ag (fun c4 => ?_) fun c4 => ?_
 refine a8 ?_
 have hf : dR fr.length f = false := by grind [dR]
 first
   | exact ⟨_, ⟨by simp [aU, hf], rfl⟩, mm rfl rfl⟩
   | exact ⟨_, ⟨by simp [aU, hf], rfl⟩, IO⟩
 refine a8 ?_
 have hf : dR fr.length f = true := by grind [dR]
 exact ⟨_, ⟨by simp [aU, hf], rfl⟩, mm rfl rfl⟩
def kN (fr : List ap) (f off w : Int) : Nat := if dR fr.length f then nj (fr.getD f.toNat []) off w else 0
def A2 (fr : List ap) (f off w : Int) : Int := if dR fr.length f then qV (fr.getD f.toNat []) off w else 1
theorem pE {n : Nat} {f : Int} (h : dR n f = true) : ∃ i : Nat, f = (i : Int) ∧ i < n := by
 simp only [dR, Qaj] at h
 exact ⟨f.toNat, by omega, by omega⟩
theorem E2 (ps : Nat) (fr : List ap) (f off w : Int) (hF : cC fr) : sQ W0 236 [pQ ps, iQ f, iQ off, iQ w] (bj ps fr :: R) (.tuple #[.int .u32 (kN fr f off w : Nat), iQ (A2 fr f off w)]) (bj ps fr :: R) := by
 by_cases hf : dR fr.length f = true
 obtain ⟨i, rfl, hi⟩ := pE hf
 obtain ⟨hl, hb⟩ := hF.get hi
 refine ab func236 ntmps236 ?_
 refine ac (ah u9 (qY ps fr i)) ?_
 refine ag (fun c2 => ?_) fun c2 => ?_
 exact absurd c2 (by simp [hf])
 refine qW (ps := ps) fun g => ?_
 refine aw ?_
 refine a6 (bA hi) ?_
 refine a6 (uA w8 lI rfl) ?_
 refine ac (ao call309 (QT hl (bU (wS hF hi) (by rw [ed, hl])) hb (by decide) (by decide))) ?_
 refine az ?_
 exact ⟨_, ⟨by simp [aU, kN, A2, hf], rfl⟩, mm rfl rfl⟩
 have hf' : dR fr.length f = false := by grind
 refine ab func236 ntmps236 ?_
 refine ac (ah u9 (qY ps fr f)) ?_
 refine ag (fun c2 => ?_) fun c2 => ?_
 refine az ?_
 exact ⟨_, ⟨by simp [aU, kN, A2, hf'], rfl⟩, IO⟩
 exact absurd c2 (by simp [hf'])
def ju (fr : List ap) (f off w : Int) : Bool := dR fr.length f && dL 64 off w
def eY (fr : List ap) (f off w : Int) (v : Nat) : List ap := if ju fr f off w then fr.set f.toNat (kg (fr.getD f.toNat []) off.toNat w.toNat v) else fr
theorem A3 {fr : List ap} {f off w : Int} {v : Nat} (h : cC fr) : cC (eY fr f off w v) := by
 unfold eY; split
 rename_i hs
 simp only [ju, Qar] at hs
 obtain ⟨i, rfl, hi⟩ := pE hs.1
 obtain ⟨o, k, rfl, rfl, hk, hok⟩ := pD hs.2
 obtain ⟨hl, hb⟩ := h.get hi
 exact h.set ⟨by rw [qT (by grind)]; exact hl, Qv hb⟩
 exact h
theorem wT {fr : List ap} {f off w : Int} {v : Nat} : (eY fr f off w v).length = fr.length := by unfold eY; split <;> simp
theorem A4 (ps : Nat) (fr : List ap) (f off w : Int) (x : Nat) (hx : x < 4294967296) (hF : cC fr) : sQ W0 144 [pQ ps, iQ f, iQ off, iQ w, .int .u32 x] (bj ps fr :: R) (iQ (if ju fr f off w then 0 else 1)) (bj ps (eY fr f off w x) :: R) := by
 by_cases hf : dR fr.length f = true
 obtain ⟨i, rfl, hi⟩ := pE hf
 obtain ⟨hl, hb⟩ := hF.get hi
 by_cases hin : dL 64 off w = true
 obtain ⟨o, k, rfl, rfl, hk, hok⟩ := pD hin
 have hs : ju fr i o k = true := by grind [ju]
 have hpl : (kg (fr.getD i []) o k x).length = 64 := by grind [qT]
 refine ab IB ntmps144 ?_
 refine ac (ah u9 (qY ps fr i)) ?_
 refine ag (fun c2 => ?_) fun c2 => ?_
 exact absurd c2 (by simp [hf])
 refine qW (ps := ps) fun g => ?_
 refine aw ?_
 refine a6 (bA hi) ?_
 refine a6 (uA w8 lI rfl) ?_
 refine am rfl (ao call207 (QU hl hx (bU (wS hF hi) (by rw [ed, hl])) hin (by decide))) ?_
 rintro _ B_ ⟨a', c', rfl, hB_⟩
 obtain rfl := hB_.symm
 refine aa rfl (aL rfl) (aa rfl (k8 rfl rfl) (aa rfl (k8 rfl rfl) (aa rfl (bC rfl) (aa rfl (bC rfl) (aN (aD (aP (aP (aZ (aa rfl (aL rfl) (aa rfl (lN rfl rfl) (aN (aD ?_)))))))))))))
 refine aA rfl (fun c5 => ?_) fun c5 => ?_
 exact absurd c5 (by simp)
 refine au 3 ?_
 refine kc (fun h _ => by have := (Value.slice.inj h).2.1; omega) fun g' n' cap sp h1 h2 h3 h4 h5 => ?_
 cases h1
 refine aw ?_
 refine a6 (bA hi) ?_
 refine a6 (uA w8 lI rfl) ?_
 refine ac (qQ jE lI rfl rfl (m := 64) (vs := b0 (kg (fr.getD i []) o k x)) rfl (bU (n := 64) (by grind) (by omega)) (by omega) (wQ _) (by rw [DZ]; omega) (DY hi hpl)) ?_
 refine a8 ?_
 exact ⟨_, ⟨by simp [aU, hs], rfl⟩, mm (by simp [eY, hs]) (by simp [eY, hs])⟩
 have hin' : dL 64 off w = false := by grind
 have hs : ju fr i off w = false := by simp [ju, hin']
 refine ab IB ntmps144 ?_
 refine ac (ah u9 (qY ps fr i)) ?_
 refine ag (fun c2 => ?_) fun c2 => ?_
 exact absurd c2 (by simp [hf])
 refine qW (ps := ps) fun g => ?_
 refine aw ?_
 refine a6 (bA hi) ?_
 refine a6 (uA w8 lI rfl) ?_
 refine am rfl (fZ call207 rfl (QV hl (bU (wS hF hi) (by rw [ed, hl])) hin' (by decide))) ?_
 rintro _ B_ ⟨rfl, hB_⟩
 obtain rfl := hB_.symm
 refine aa rfl (aL rfl) (aa rfl (k8 rfl rfl) (aa rfl (k8 rfl rfl) (aa rfl (bC rfl) (aa rfl (bC rfl) (aN (aD (aP (aP (aZ (aa rfl (aL rfl) (aa rfl (lN rfl rfl) (aN (aD ?_)))))))))))))
 refine aA rfl (fun c5 => ?_) fun c5 => ?_
 refine au 8 ?_
 refine a8 ?_
 exact ⟨_, ⟨by simp [aU, hs], rfl⟩, mm (by simp [eY, hs]) (by simp [eY, hs])⟩
 exact absurd c5 (by simp)
 have hf' : dR fr.length f = false := by grind
 have hs : ju fr f off w = false := by simp [ju, hf']
 refine ab IB ntmps144 ?_
 refine ac (ah u9 (qY ps fr f)) ?_
 refine ag (fun c2 => ?_) fun c2 => ?_
 refine a8 ?_
 rw [show eY fr f off w x = fr by simp [eY, hs]]
 exact ⟨_, ⟨by simp [aU, hf', hs], rfl⟩, IO⟩
 exact absurd c2 (by simp [hf'])
abbrev Pl := Int × Int
@[reducible] def fz (p : Pl) : List Value := [.int .i64 p.1, .int .i64 p.2]
theorem sM (p : Pl) : (fz p).length = 2 := rfl
def fT (pg : List Pl) (n : Nat) : Pl := pg.getD n (0, 0)
def jv (p : Pl) : Bool := decide (0 ≤ p.1 ∧ p.1 < 32 ∧ 1 ≤ p.2 ∧ p.2 ≤ 3)
structure Pgs (pg : List Pl) : Prop where
  len : pg.length = 12
  ok : ∀ n, n < 12 → fT pg n ≠ (0, 0) → jv (fT pg n) = true
def jI (n : Int) : Bool := decide (0 ≤ n ∧ n < 12)
theorem lp {n : Int} (h : jI n = true) : ∃ i : Nat, n = (i : Int) ∧ i < 12 := by
 simp only [jI, Qaj] at h
 exact ⟨n.toNat, by omega, by omega⟩
abbrev bI (pg : List Pl) : Obj := a7 (pg.flatMap fz ++ [.bool true]) 215
theorem A5 {pg : List Pl} {sp : List Value} {n : Nat} (hn : n < pg.length) : ((pg.flatMap fz ++ sp).drop (n * 2)).take 2 = fz (fT pg n) := by
 simp_all [pq, sM, fT]
theorem E3 {pg : List Pl} {sp : List Value} {n : Nat} {p : Pl} (hn : n < pg.length) : cz (pg.flatMap fz ++ sp) (n * 2) (fz p) = (pg.set n p).flatMap fz ++ sp := sy sM pg n p sp hn
theorem QW (pg : List Pl) (sp : List Value) : (pg.flatMap fz ++ sp).length = pg.length * 2 + sp.length := by rw [Qad, cj sM]
theorem QX {pg : List Pl} (h : pg.length = 12) : (pg.flatMap fz ++ [.bool true])[24]? = some (Value.bool true) := by
 rw [Qbi (by rw [cj sM]; omega), cj sM, h]; rfl
theorem QY : sP W0 86 [] R (fun v B => ∃ b, v = pQ b ∧ B = pt b (bI (List.replicate 12 (0, 0))) :: R) := by
 refine ab func86 ntmps86 ?_
 refine aS fun b1 => ?_
 refine a8 ?_
 exact ⟨_, ⟨b1, rfl, rfl⟩, ent_refl⟩
theorem wU (b : Nat) (pg : List Pl) (h : Pgs pg) : sQ W0 114 [pQ b] (pt b (bI pg) :: R) (.bool false) (pt b (bI pg) :: R) := by
 refine ab func114 ntmps114 ?_
 refine cR rfl rfl rfl (fun g1_3 => ?_) fun g1_3 => ?_
 cases g1_3
 refine aw ?_
 refine a6 (aG (aF (QX h.len))) ?_
 exact a8 aj
theorem wW (n : Int) : sQ W0 192 [iQ n] R (.bool (jI n)) R := by
 refine ab func192 ntmps192 ?_
 refine cM (fun g1_3 => ?_) fun g1_3 => ?_
 refine a8 ?_
 refine aE ?_
 refine Qah Value.bool ?_
 rw [Qae]; simp only [jI, Qaj, Qal, QaN]; omega
 refine a8 ?_
 refine aE ?_
 refine Qah Value.bool ?_
 rw [Qae]; simp only [jI, Qaj, Qal, QaN]; omega
theorem QZ (p : Pl) : sQ W0 197 [.agg (fz p).toArray] R (.bool (jv p)) R := by
 refine ab func197 ntmps197 ?_
 refine aS fun b1 => ?_
 refine cM (fun g1_4 => ?_) fun g1_4 => ?_
 refine cM (fun g1_9 => ?_) fun g1_9 => ?_
 refine cM (fun g1_14 => ?_) fun g1_14 => ?_
 refine a8 ?_
 refine aE ?_
 refine Qah Value.bool ?_
 rw [Qae]; simp only [jv, Qaj, Qal, QaN]; omega
 refine a8 ?_
 refine aE ?_
 refine Qah Value.bool ?_
 rw [Qae]; simp only [jv, Qaj, Qal, QaN]; omega
 refine a8 ?_
 refine aE ?_
 refine Qah Value.bool ?_
 rw [Qae]; simp only [jv, Qaj, Qal, QaN]; omega
 refine a8 ?_
 refine aE ?_
 refine Qah Value.bool ?_
 rw [Qae]; simp only [jv, Qaj, Qal, QaN]; omega
def aX (pg : List Pl) (n : Int) : Bool := jI n && decide (fT pg n.toNat ≠ (0, 0))
theorem E4 (b : Nat) (pg : List Pl) (h : Pgs pg) (n : Int) : sQ W0 115 [pQ b, iQ n] (pt b (bI pg) :: R) (.bool (aX pg n)) (pt b (bI pg) :: R) := by
 refine ab func115 ntmps115 ?_
 refine ac (ao Cj (wW n)) ?_
 refine cM (fun g1_3 => ?_) fun g1_3 => ?_
 obtain ⟨i, rfl, hi⟩ := lp g1_3
 have hl := h.len
 refine a6 (i4 (by omega)) ?_
 refine a6 (cJ (bU (A5 (by omega)) rfl)) ?_
 refine a6 (ui Tryz.eqGuardType116 rfl rfl (pj C7 Tryz.stoodInHeld116 (ir rfl cP rfl rfl (j7 dN) (ir rfl cP rfl rfl (j7 dN) pi)))) ?_
 refine a8 ?_
 refine aE ?_
 refine Qah Value.bool ?_
 first
   | (rw [Qae]; simp [aX, g1_3, Prod.ext_iff])
   | simp [aX, g1_3]
 refine a8 ?_
 refine aE ?_
 refine Qah Value.bool ?_
 first
   | (rw [Qae]; simp [aX, g1_3, Prod.ext_iff])
   | simp [aX, g1_3]
def cy (pg : List Pl) (n : Int) : Pl := if aX pg n then fT pg n.toNat else (0, 0)
theorem uL (b : Nat) (pg : List Pl) (h : Pgs pg) (n : Int) : sQ W0 44 [pQ b, iQ n] (pt b (bI pg) :: R) (.tuple #[.agg (fz (cy pg n)).toArray, .bool (aX pg n)]) (pt b (bI pg) :: R) := by
 refine ab func44 ntmps44 ?_
 refine bu fun b1 => ?_
 refine dK 1 (ah Ck (wU b pg h)) ?_
 refine cR rfl rfl rfl (fun g1_3 => ?_) fun g1_3 => ?_
 exact absurd g1_3 (by decide)
 refine aw ?_
 refine ac (ah call115 (E4 b pg h n)) ?_
 refine ag (fun c1 => ?_) fun c1 => ?_
 refine ax aC ?_
 refine bi (.cons (bD vY qn rfl rfl) (.cons (bz rfl) .nil)) ?_
 refine aE ?_
 have ht : aX pg n = false := by grind
 simp [aU, cy, ht]
 have ht : aX pg n = true := by grind
 have hp : jI n = true := by grind [aX]
 obtain ⟨i, rfl, hi⟩ := lp hp
 have hl := h.len
 refine a6 (i4 (by omega)) ?_
 refine a6 (cJ (bU (A5 (by omega)) rfl)) ?_
 refine ax aC ?_
 refine bi (.cons (bD vY qn rfl rfl) (.cons (bz rfl) .nil)) ?_
 refine aE ?_
 simp [aU, cy, ht]
def eB (pg : List Pl) (n : Int) (p : Pl) : Int := if jI n ∧ jv p then (if aX pg n then 5 else 0) else 1
def dA (pg : List Pl) (n : Int) (p : Pl) : List Pl := if eB pg n p = 0 then pg.set n.toNat p else pg
theorem uM {pg : List Pl} {n : Int} {p : Pl} (h : Pgs pg) : Pgs (dA pg n p) := by
 unfold dA; split
 rename_i hs
 have hop : jv p = true := by
  grind [eB]
 refine ⟨by simp [h.len], fun m hm hne => ?_⟩
 unfold fT at hne ⊢
 by_cases e : n.toNat = m
 grind
 simp only [Qau, QaV e] at hne ⊢
 have := h.ok m hm
 unfold fT at this
 simp only [Qau] at this
 exact this hne
 exact h
theorem E5 (b : Nat) (pg : List Pl) (h : Pgs pg) (n : Int) (p : Pl) : sQ W0 126 [pQ b, iQ n, .agg (fz p).toArray] (pt b (bI pg) :: R) (iQ (eB pg n p)) (pt b (bI (dA pg n p)) :: R) := by
 have hl := h.len
 refine ab func126 ntmps126 ?_
 refine aS fun b1 => ?_
 refine ac (ah Ck (wU b pg h)) ?_
 refine ac (ao Cj (wW n)) ?_
 refine ag (fun c3 => ?_) fun c3 => ?_
 refine a8 ?_
 have he : eB pg n p = 1 := by
  grind [eB]
 exact ⟨_, ⟨by simp [aU, he], by rw [dA, he, Qac (by decide)]⟩, IO⟩
 have hp : jI n = true := by grind
 refine ac (ao call197 (QZ p)) ?_
 refine ag (fun c4 => ?_) fun c4 => ?_
 refine a8 ?_
 have he : eB pg n p = 1 := by
  grind [eB]
 exact ⟨_, ⟨by simp [aU, he], by rw [dA, he, Qac (by decide)]⟩, IO⟩
 have ho : jv p = true := by grind
 refine ac (ah call115 (E4 b pg h n)) ?_
 refine ag (fun c6 => ?_) fun c6 => ?_
 refine a8 ?_
 have he : eB pg n p = 5 := by
  grind [eB]
 exact ⟨_, ⟨by simp [aU, he], by rw [dA, he, Qac (by decide)]⟩, IO⟩
 have ht : aX pg n = false := by grind
 have he : eB pg n p = 0 := by grind [eB]
 obtain ⟨i, rfl, hi⟩ := lp hp
 refine bB [b1] 7 fun hS => ?_
 refine ae 0 5 hS ?_
 refine av 5 hS (i4 hi) ?_
 refine cq 6 (gK (by grind [QW]) (E3 (by omega))) fun hS => ?_
 refine aI ?_
 refine a8 ?_
 rw [show dA pg i p = pg.set i p by simp [dA, he]]
 exact ⟨_, ⟨by simp [aU, he], rfl⟩, IO⟩
theorem R0 (b : Nat) (pg : List Pl) (h : Pgs pg) : sQ W0 129 [pQ b, iQ 12] (pt b (bI pg) :: R) (iQ 1) (pt b (bI pg) :: R) := by
 refine ab func129 ntmps129 ?_
 refine ac (ah Ck (wU b pg h)) ?_
 refine ac (ao Cj (wW 12)) ?_
 refine ag (fun c3 => ?_) fun c3 => ?_
 exact a8 aj
 exact absurd c3 (by decide)
def pF (n : Int) (p : Pl) (kind : Int) : Bool := decide (kind = 0 ∧ n < 8 ∨ kind = 1 ∧ p.2 % 2 = 1 ∨ kind = 2 ∧ 2 ≤ p.2)
theorem qZ {p : Pl} : jv p = true ↔ 0 ≤ p.1 ∧ p.1 < 32 ∧ 1 ≤ p.2 ∧ p.2 ≤ 3 := by simp [jv]
theorem R8 {r : Int} (h : 1 ≤ r ∧ r ≤ 3) : eU .i64 r 1 = r % 2 := by
 have : r = 1 ∨ r = 2 ∨ r = 3 := by omega
 rcases this with rfl | rfl | rfl <;> decide
theorem R9 {r : Int} (h : 1 ≤ r ∧ r ≤ 3) : eU .i64 r 2 = r / 2 * 2 := by
 have : r = 1 ∨ r = 2 ∨ r = 3 := by omega
 rcases this with rfl | rfl | rfl <;> decide
theorem Ra (n : Int) (p : Pl) (hp : jv p = true) (kind : Int) : sQ W0 280 [iQ n, .agg (fz p).toArray, iQ kind] R (.bool (pF n p kind)) R := by
 have ho := qZ.1 hp
 refine ab func280 ntmps280 ?_
 refine aS fun b1 => ?_
 refine ag (fun c2 => ?_) fun c2 => ?_
 refine a8 ?_
 refine aE ?_
 refine Qah Value.bool ?_
 rw [Qae]; simp only [pF, Qaj, Qal, QaN, Qcz]; omega
 refine ag (fun c4 => ?_) fun c4 => ?_
 refine a6 (fm rfl rfl (R8 ⟨ho.2.2.1, ho.2.2.2⟩)) ?_
 refine a8 ?_
 refine aE ?_
 refine Qah Value.bool ?_
 rw [Qae]; simp only [pF, Qaj, Qal, QaN, Qcz]; omega
 refine ag (fun c6 => ?_) fun c6 => ?_
 refine a6 (fm rfl rfl (R9 ⟨ho.2.2.1, ho.2.2.2⟩)) ?_
 refine a8 ?_
 refine aE ?_
 refine Qah Value.bool ?_
 rw [Qae]; simp only [pF, Qaj, Qal, QaN, Qcz]; omega
 refine a8 ?_
 refine aE ?_
 refine Qah Value.bool ?_
 rw [Qae]; simp only [pF, Qaj, Qal, QaN, Qcz]; omega
def gy (pg : List Pl) (n kind : Int) : Int := if aX pg n then (if pF n (fT pg n.toNat) kind then 0 else 6) else 7
theorem Rb {pg : List Pl} {n : Int} (h : Pgs pg) (ht : aX pg n = true) : jv (cy pg n) = true := by
 simp only [cy, ht, QbI]
 simp only [aX, Qar, Qaj] at ht
 obtain ⟨i, rfl, hi⟩ := lp ht.1
 exact h.ok _ (by omega) ht.2
theorem E6 (b : Nat) (pg : List Pl) (h : Pgs pg) (n kind : Int) : sQ W0 206 [pQ b, iQ n, iQ kind] (pt b (bI pg) :: R) (iQ (gy pg n kind)) (pt b (bI pg) :: R) := by
 refine ab func206 ntmps206 ?_
 refine ac (ah z8 (uL b pg h n)) ?_
 refine bu fun b1 => ?_
 refine ax aC ?_
 refine ag (fun c2 => ?_) fun c2 => ?_
 refine a8 ?_
 refine aE ?_
 have ht : aX pg n = false := by grind
 simp [aU, gy, ht]
 have ht : aX pg n = true := by grind
 refine ac (ao call280 (Ra n (cy pg n) (Rb h ht) kind)) ?_
 refine ag (fun c4 => ?_) fun c4 => ?_
 refine a8 ?_
 refine aE ?_
 have hm : pF n (fT pg n.toNat) kind = false := by grind [cy]
 simp [aU, gy, ht, hm]
 refine a8 ?_
 refine aE ?_
 have hm : pF n (fT pg n.toNat) kind = true := by grind [cy]
 simp [aU, gy, ht, hm]
abbrev cp (ps pm d : Nat) : Obj := a7 [.pointer (some ⟨ps, 0, none⟩), .pointer (some ⟨pm, 0, none⟩), .int .u32 (d : Nat)] 213
theorem uN (pv ps pm d : Nat) : sQ W0 113 [pQ pv] (pt pv (cp ps pm d) :: R) (.bool false) (pt pv (cp ps pm d) :: R) := by
 refine ab func113 ntmps113 ?_
 refine cR rfl rfl rfl (fun g1_3 => ?_) fun g1_3 => ?_
 cases g1_3
 refine aw ?_
 exact a8 aj
def g5 (pa : Nat) (w : Int) : Bool := decide ((w = 1 ∨ w = 2 ∨ w = 4) ∧ (pa : Int) % w = 0)
theorem Rc (pa : Nat) (hpa : pa < 4294967296) (w : Int) : sQ W0 205 [.int .u32 pa, iQ w] R (.bool (g5 pa w)) R := by
 refine ab func205 ntmps205 ?_
 refine ag (fun c2 => ?_) fun c2 => ?_
 refine a6 (cT (dP (by omega))) ?_
 refine a6 (k7 rfl rfl (by omega) (Qbj (by omega))) ?_
 refine a8 ?_
 refine aE ?_
 refine Qah Value.bool ?_
 rw [Qae]; simp only [g5, Qaj, Qby]
 first
   | (subst c2; simp)
   | (subst c3; simp)
   | (subst c4; simp)
 refine ag (fun c3 => ?_) fun c3 => ?_
 refine a6 (cT (dP (by omega))) ?_
 refine a6 (k7 rfl rfl (by omega) (Qbj (by omega))) ?_
 refine a8 ?_
 refine aE ?_
 refine Qah Value.bool ?_
 rw [Qae]; simp only [g5, Qaj, Qby]
 first
   | (subst c2; simp)
   | (subst c3; simp)
   | (subst c4; simp)
 refine ag (fun c4 => ?_) fun c4 => ?_
 refine a6 (cT (dP (by omega))) ?_
 refine a6 (k7 rfl rfl (by omega) (Qbj (by omega))) ?_
 refine a8 ?_
 refine aE ?_
 refine Qah Value.bool ?_
 rw [Qae]; simp only [g5, Qaj, Qby]
 first
   | (subst c2; simp)
   | (subst c3; simp)
   | (subst c4; simp)
 refine a8 ?_
 refine aE ?_
 refine Qah Value.bool ?_
 rw [Qae]; simp only [g5, Qaj, Qal, QaN]; omega
def ee (n : Nat) (pg : List Pl) (pa : Nat) (w kind : Int) : Int :=
  if g5 pa w then (if pa < 768 then (if gy pg ((pa / 64 : Nat) : Int) kind = 0 then (if (cy pg ((pa / 64 : Nat) : Int)).1 < n then 0 else 7) else gy pg ((pa / 64 : Nat) : Int) kind) else 2) else 1
def mn (n : Nat) (pg : List Pl) (pa : Nat) (w kind : Int) : List Value :=
  if ee n pg pa w kind = 0 then [.int .i64 (pa / 64 : Nat), .int .i64 (cy pg ((pa / 64 : Nat) : Int)).1, .int .i64 (pa % 64 : Nat), .bool false] else [.int .i64 0, .int .i64 0, .int .i64 0, .bool false]
theorem wX (pv ps pm d : Nat) (fr : List ap) (pg : List Pl) (h : Pgs pg) (pa : Nat) (hpa : pa < 4294967296) (w kind : Int) : sQ W0 143 [pQ pv, .int .u32 pa, iQ w, iQ kind] (pt pv (cp ps pm d) :: bj ps fr :: pt pm (bI pg) :: R) (.tuple #[.agg (mn fr.length pg pa w kind).toArray, iQ (ee fr.length pg pa w kind)]) (pt pv (cp ps pm d) :: bj ps fr :: pt pm (bI pg) :: R) := by
 refine ab func143 ntmps143 ?_
 refine bu fun b1 => ?_
 refine ac (ah z9 (uN pv ps pm d)) ?_
 refine ac (ao call205 (Rc pa hpa w)) ?_
 refine ag (fun c3 => ?_) fun c3 => ?_
 refine ax aC ?_
 refine bi (.cons (bD ek dI rfl rfl) (.cons (bz rfl) .nil)) ?_
 refine aE ?_
 have ha : g5 pa w = false := by grind
 have he : ee fr.length pg pa w kind = 1 := by simp [ee, ha]
 simp [aU, mn, he]
 have ha : g5 pa w = true := by grind
 refine ag (fun c5 => ?_) fun c5 => ?_
 refine ax aC ?_
 refine bi (.cons (bD ek dI rfl rfl) (.cons (bz rfl) .nil)) ?_
 refine aE ?_
 have he : ee fr.length pg pa w kind = 2 := by grind [ee]
 simp [aU, mn, he]
 refine a6 (qB rfl rfl (by decide) ((Qah (IntKind.wrap .u32) (uH pa 64)).trans (dP (by omega)))) ?_
 refine a6 (cT (bN (by omega))) ?_
 refine ac (ah call206 (E6 pm pg h ((pa / 64 : Nat) : Int) kind)) ?_
 refine ag (fun c9 => ?_) fun c9 => ?_
 refine ax aC ?_
 refine bi (.cons (bD ek dI rfl rfl) (.cons (bz rfl) .nil)) ?_
 refine aE ?_
 have he : ee fr.length pg pa w kind = gy pg ((pa / 64 : Nat) : Int) kind := by grind [ee]
 rw [mn, Qac (by omega), he]; rfl
 have hz : gy pg ((pa / 64 : Nat) : Int) kind = 0 := by omega
 refine ac (ah z8 (uL pm pg h ((pa / 64 : Nat) : Int))) ?_
 refine bu fun b2 => ?_
 refine ax aC ?_
 refine bB [b2, pv] 8 fun hS => ?_
 refine ae 0 6 hS ?_
 refine bJ 6 (ah ua (qX ps fr)) fun hS => ?_
 refine ae 7 1 hS ?_
 refine aI ?_
 refine ag (fun c12 => ?_) fun c12 => ?_
 refine ax aC ?_
 refine bi (.cons (bD ek dI rfl rfl) (.cons (bz rfl) .nil)) ?_
 refine aE ?_
 have he : ee fr.length pg pa w kind = 7 := by grind [ee]
 simp [aU, mn, he]
 refine a6 (k7 rfl rfl (by decide) (oc pa 64)) ?_
 refine a6 (cT (bN (by omega))) ?_
 refine ax aC ?_
 refine bi (.cons (bD ek dI rfl rfl) (.cons (bz rfl) .nil)) ?_
 refine aE ?_
 have he : ee fr.length pg pa w kind = 0 := by grind [ee]
 simp [aU, mn, he]
theorem A6 {n : Nat} {pg : List Pl} {pa : Nat} {w kind : Int} (h : ee n pg pa w kind = 0) : pa < 768 ∧ (cy pg ((pa / 64 : Nat) : Int)).1 < n ∧ mn n pg pa w kind = [iQ (pa / 64 : Nat), iQ (cy pg ((pa / 64 : Nat) : Int)).1, iQ (pa % 64 : Nat), .bool false] := by
 grind [mn, ee]
def uO (fr : List ap) (pg : List Pl) (pa : Nat) (w : Int) (x : Nat) : List ap := if ee fr.length pg pa w 2 = 0 then eY fr (cy pg ((pa / 64 : Nat) : Int)).1 ((pa % 64 : Nat) : Int) w x else fr
def uP (fr : List ap) (pg : List Pl) (pa : Nat) (w : Int) (d : Nat) : Nat := if ee fr.length pg pa w 2 = 0 then d ||| 2 ^ (pa / 64) else d
theorem Re {n : Nat} (h : n < 12) : iO .u32 1 (n : Int) = ((2 ^ n : Nat) : Int) := by
 have : ∀ n : Nat, n < 12 → iO .u32 1 (n : Int) = ((2 ^ n : Nat) : Int) := by decide
 exact this n h
theorem E7 {n : Nat} (h : n < 12) : 2 ^ n < 4096 := by
 have : ∀ n : Nat, n < 12 → 2 ^ n < 4096 := by decide
 exact this n h
theorem Rf (pv ps pm d : Nat) (fr : List ap) (pg : List Pl) (h : Pgs pg) (hF : cC fr) (hd : d < 4096) (pa : Nat) (hpa : pa < 4294967296) (w : Int) (x : Nat) (hx : x < 4294967296) : sQ W0 65 [pQ pv, .int .u32 pa, iQ w, .int .u32 x] (pt pv (cp ps pm d) :: bj ps fr :: pt pm (bI pg) :: R) (iQ (ee fr.length pg pa w 2)) (pt pv (cp ps pm (uP fr pg pa w d)) :: bj ps (uO fr pg pa w x) :: pt pm (bI pg) :: R) := by
 by_cases hz : ee fr.length pg pa w 2 = 0
 obtain ⟨h1, h2, hv⟩ := A6 hz
 have hp := E7 (n := pa / 64) (by omega)
 rw [uP, Qaf hz, uO, Qaf hz]
 refine ab func65 ntmps65 ?_
 refine ac (dQ Cl (wX pv ps pm d fr pg h pa hpa w 2)) ?_
 rw [hv, hz]
 refine bu fun b1 => ?_
 refine ax aC ?_
 refine ag (fun c2 => ?_) fun c2 => ?_
 exact absurd rfl c2
 refine bB [pv, b1] 11 fun hS => ?_
 refine ae 0 10 hS ?_
 refine bJ 10 (ah IC (A4 ps fr _ _ w x hx hF)) fun hS => ?_
 refine aI ?_
 refine bB [b1] 11 fun hS => ?_
 refine ae 0 3 hS ?_
 refine ae 4 2 hS ?_
 refine av 6 hS (mQ rfl rfl (by omega) (Re (by omega))) ?_
 refine bJ 3 (db (aG (aF rfl))) fun hS => ?_
 refine av 7 hS (nZ rfl rfl (uG (by omega) (by omega))) ?_
 refine ae 8 2 hS ?_
 refine cq 10 dy fun hS => ?_
 refine aI ?_
 exact a8 aj
 rw [uP, Qac hz, uO, Qac hz]
 refine ab func65 ntmps65 ?_
 refine ac (dQ Cl (wX pv ps pm d fr pg h pa hpa w 2)) ?_
 rw [mn, Qac hz]
 refine bu fun b1 => ?_
 refine ax aC ?_
 refine ag (fun c2 => ?_) fun c2 => ?_
 exact a8 aj
 exact absurd hz c2
theorem Rh (ps pm : Nat) (fr : List ap) (pg : List Pl) (h : Pgs pg) (h0 : 0 < fr.length) : sP W0 90 [pQ ps, pQ pm] (bj ps fr :: pt pm (bI pg) :: R) (fun v B => ∃ b, v = .tuple #[pQ b, iQ 0] ∧ B = pt b (cp ps pm 0) :: bj ps fr :: pt pm (bI pg) :: R) := by
 refine ab func90 ntmps90 ?_
 refine ac (ah ua (qX ps fr)) ?_
 refine cR rfl rfl rfl (fun g1_4 => ?_) fun g1_4 => ?_
 omega
 refine aw ?_
 refine dK 5 (ah call129 (R0 pm pg h)) ?_
 refine i5 ?_
 refine dX (i3 rfl) fun b1 => ?_
 refine aw ?_
 refine az ?_
 exact ⟨_, ⟨b1, rfl, rfl⟩, IO⟩
theorem A7 (pv ps pm d : Nat) : sQ W0 43 [pQ pv] (pt pv (cp ps pm d) :: R) (pQ pm) (pt pv (cp ps pm d) :: R) := by
 refine ab func43 ntmps43 ?_
 refine ac (ah z9 (uN pv ps pm d)) ?_
 exact a8 aj
theorem A8 (pv ps pm d : Nat) : sQ W0 46 [pQ pv] (pt pv (cp ps pm d) :: R) (pQ ps) (pt pv (cp ps pm d) :: R) := by
 refine ab func46 ntmps46 ?_
 refine ac (ah z9 (uN pv ps pm d)) ?_
 exact a8 aj
def lR (len : Nat) (pg : List Pl) (n : Int) : Bool := aX pg n && decide (n < 8) && decide ((cy pg n).1 < len)
theorem E8 (pv ps pm d : Nat) (fr : List ap) (pg : List Pl) (h : Pgs pg) (n : Int) : sQ W0 447 [pQ pv, iQ n] (pt pv (cp ps pm d) :: bj ps fr :: pt pm (bI pg) :: R) (.tuple #[iQ (cy pg n).1, .bool (lR fr.length pg n)]) (pt pv (cp ps pm d) :: bj ps fr :: pt pm (bI pg) :: R) := by
 refine ab func447 ntmps447 ?_
 refine ac (ah z8 (uL pm pg h n)) ?_
 refine bu fun b1 => ?_
 refine ax aC ?_
 refine bB [pv, b1] 19 fun hS => ?_
 refine ae 0 4 hS ?_
 refine iS (t := 20) rfl ?_ ?_
 · intro g2_4
   refine ae 4 4 hS ?_
   refine iS (t := 24) rfl ?_ ?_
   · intro g2_8
     refine ae 8 6 hS ?_
     refine bJ 14 (ah ua (qX ps fr)) fun hS => ?_
     refine ae 15 4 hS ?_
     refine aI ?_
     refine az ?_
     refine aE ?_
     simp_all [aU, lR]; try omega
   intro g2_8
   refine ae 8 11 hS ?_
   refine aI ?_
   refine az ?_
   refine aE ?_
   simp_all [aU, lR]; try omega
 intro g2_4
 refine ae 4 15 hS ?_
 refine aI ?_
 refine az ?_
 refine aE ?_
 simp_all [aU, lR]; try omega
def dB (p : Value × ap) : HP := osl 5 1 p.1 (b0 p.2)
def cX (qs : Nat) (fr : List ap) : HP := chk (fun C => ∃ a c, ∃ vs : List Value, vs.length = fr.length ∧ C = pt qs (a7 [.slice a fr.length c] 129) :: osl 130 1 (.slice a fr.length c) vs :: (vs.zip fr).map dB)
section
variable {P : Program} {W0 : World} {N : FSz} {K : Act → World → Prop} {e : aH} {A B R R1 R2 : List HP} {qs g n : Nat} {fr : List ap} {f : FuncId} {args : List Value} {Post : Value → List HP → Prop} {l : List Value}
theorem r9 [hk : Tk cX qs A fr R] (h : ∀ a c vs, vs.length = fr.length → ai W0 N K e (pt qs (a7 [.slice a fr.length c] 129) :: osl 130 1 (.slice a fr.length c) vs :: ((vs.zip fr).map dB ++ R))) : ai W0 N K e A :=
  fJ (r := cX) (b := qs) (lP fun C hC => by obtain ⟨a, c, vs, h1, rfl⟩ := hC; exact h a c vs h1)
theorem pG {a : Option Addr} {c : Nat} {vs : List Value} [h1 : Tk pt qs A (a7 [.slice a n c] 129) R1] [h2 : Tk (osl 130 1) (.slice a n c) R1 vs ((vs.zip fr).map dB ++ R2)] (hv : vs.length = fr.length) (hn : n = fr.length) [k : Ent R2 B] : Ent A (cX qs fr :: B) := by
 subst hn
 have e1 : A.Perm ((pt qs (a7 [.slice a fr.length c] 129) :: osl 130 1 (.slice a fr.length c) vs :: (vs.zip fr).map dB) ++ R2) := h1.perm.trans (h2.perm.cons _)
 have e2 : Ent ((pt qs (a7 [.slice a fr.length c] 129) :: osl 130 1 (.slice a fr.length c) vs :: (vs.zip fr).map dB) ++ R2) (cX qs fr :: R2) := en ⟨a, c, vs, hv, rfl⟩
 exact (Ent.ofPerm e1).trans (e2.trans (Ent.cons k))
theorem E9 {α : Type} : ∀ (l : List α) (i : Nat) (h : i < l.length), l.Perm (l[i] :: l.eraseIdx i)
 | x :: l, 0, h => by simp
 | x :: l, i + 1, h => by
  simp only [List.getElem_cons_succ, Qcc]
  exact ((E9 l i (by simpa using h)).cons x).trans (List.Perm.swap _ _ _)
theorem Ea {α : Type} : ∀ (l : List α) (i : Nat) (x : α) (h : i < l.length), (x :: l.eraseIdx i).Perm (l.set i x)
 | y :: l, 0, x, h => by simp
 | y :: l, i + 1, x, h => by
  simp only [List.set_cons_succ, Qcc]
  exact (List.Perm.swap _ _ _).trans ((Ea l i x (by simpa using h)).cons y)
theorem sN {E sz : Nat} {v : Value} {xs : List Value} [hk : Tk (osl E sz) v A xs R] (h0 : v = .slice none 0 0 → xs = [] → ai W0 N K e R)
    (h1 : ∀ g n cap sp, v = .slice (some ⟨g, 0, none⟩) n cap → n ≤ cap → cap ≤ maxLen → xs.length = n * sz → (xs ++ sp).length = cap * sz → ai W0 N K e (pt g (a7 (xs ++ sp) E) :: R)) : ai W0 N K e A :=
  fJ (r := osl E sz) (b := v) (kc h0 h1)
theorem wY [hk : Tk cX qs A fr R] {i : Nat} (hi : i < fr.length) (h : ∀ a c vs vi, vs.length = fr.length → vs[i]? = some vi →
      ai W0 N K e (pt qs (a7 [.slice a fr.length c] 129) :: osl 130 1 (.slice a fr.length c) vs :: osl 5 1 vi (b0 (fr.getD i [])) :: (((vs.zip fr).map dB).eraseIdx i ++ R))) : ai W0 N K e A := by
 refine r9 (qs := qs) fun a c vs hv => ?_
 have hlen : ((vs.zip fr).map dB).length = fr.length := by simp [hv]
 have hiv : i < vs.length := by omega
 have hg : ((vs.zip fr).map dB)[i]'(by omega) = osl 5 1 vs[i] (b0 (fr.getD i [])) := by grind [dB]
 have hp := E9 ((vs.zip fr).map dB) i (by omega)
 rw [hg] at hp
 exact mg (((hp.append_right R).cons _).cons _) (h a c vs vs[i] hv (by simp [hiv]))
theorem Eb {a : Option Addr} {c i : Nat} {vs : List Value} {vi : Value} {y : ap} {ys : List Value} {R3 : List HP} [h1 : Tk pt qs A (a7 [.slice a n c] 129) R1] [h2 : Tk (osl 130 1) (.slice a n c) R1 (vs.set i vi) R2] [h3 : Tk (osl 5 1) vi R2 ys (((vs.zip fr).map dB).eraseIdx i ++ R3)]
    (hy : ys = b0 y) (hv : vs.length = fr.length) (hn : n = fr.length) (hi : i < fr.length) [k : Ent R3 B] : Ent A (cX qs (fr.set i y) :: B) := by
 subst hy
 have e1 : A.Perm (pt qs (a7 [.slice a n c] 129) :: osl 130 1 (.slice a n c) (vs.set i vi) :: ((((vs.set i vi).zip (fr.set i y)).map dB) ++ R3)) := by
  refine h1.perm.trans ((h2.perm.trans ((h3.perm.trans ?_).cons _)).cons _)
  have hs : ((vs.set i vi).zip (fr.set i y)).map dB = ((vs.zip fr).map dB).set i (dB (vi, y)) := by
   apply QaQ
   simp
   grind
  rw [hs]
  have := Ea ((vs.zip fr).map dB) i (dB (vi, y)) (by grind)
  exact this.append_right R3
 exact (Ent.ofPerm e1).trans (pG (vs := vs.set i vi) (by simp [hv]) (by simp [hn]))
theorem A9 {c i g2 n2 c2 : Nat} {vs vs' sp sp2 ys : List Value} {y : ap} {vi : Value} {R3 : List HP} [h1 : Tk pt qs A (a7 [.slice (some ⟨g, 0, none⟩) n c] 129) R1] [h2 : Tk pt g R1 (a7 (vs' ++ sp) 130) R2] [h3 : Tk pt g2 R2 (a7 (ys ++ sp2) 5) R3]
    (hvs : vs' = vs.set i vi) (hvi : vi = .slice (some ⟨g2, 0, none⟩) n2 c2) (hy : ys = b0 y) (hv : vs.length = fr.length) (hn : n = fr.length) (hi : i < fr.length) (a1 : n ≤ c) (a2 : c ≤ maxLen) (a3 : (vs' ++ sp).length = c * 1) (b1 : n2 ≤ c2) (b2 : c2 ≤ maxLen) (b3 : ys.length = n2 * 1) (b4 : (ys ++ sp2).length = c2 * 1) [k : Ent R3 (((vs.zip fr).map dB).eraseIdx i ++ B)] : Ent A (cX qs (fr.set i y) :: B) := by
 subst hvs
 subst hvi
 have e1 : A.Perm (pt qs (a7 [.slice (some ⟨g, 0, none⟩) n c] 129) :: pt g (a7 (vs.set i (.slice (some ⟨g2, 0, none⟩) n2 c2) ++ sp) 130) :: pt g2 (a7 (ys ++ sp2) 5) :: R3) := h1.perm.trans ((h2.perm.trans (h3.perm.cons _)).cons _)
 have e2 : Ent (pt g2 (a7 (ys ++ sp2) 5) :: R3) (osl 5 1 (.slice (some ⟨g2, 0, none⟩) n2 c2) ys :: (((vs.zip fr).map dB).eraseIdx i ++ B)) := ez b1 b2 b3 b4
 have e3 : Ent (pt g (a7 (vs.set i (.slice (some ⟨g2, 0, none⟩) n2 c2) ++ sp) 130) :: osl 5 1 (.slice (some ⟨g2, 0, none⟩) n2 c2) ys :: (((vs.zip fr).map dB).eraseIdx i ++ B)) (osl 130 1 (.slice (some ⟨g, 0, none⟩) n c) (vs.set i (.slice (some ⟨g2, 0, none⟩) n2 c2)) :: osl 5 1 (.slice (some ⟨g2, 0, none⟩) n2 c2) ys :: (((vs.zip fr).map dB).eraseIdx i ++ B)) := ez a1 a2 (by simp [hv, hn]) a3
 exact (Ent.ofPerm e1).trans ((Ent.cons ((Ent.cons e2).trans e3)).trans (Eb (vi := .slice (some ⟨g2, 0, none⟩) n2 c2) hy hv hn hi))
end
theorem Ri {fr : List ap} {i : Nat} (hi : i < fr.length) : fr.set i (fr.getD i []) = fr := by
 simp_all
theorem Rj {vs : List Value} {i : Nat} {v : Value} (h : vs[i]? = some v) : vs.set i v = vs := by
 have hi : i < vs.length := by
  rcases QaD i vs.length with k | k
  exact k
  rw [Qbf k] at h; cases h
 have : vs[i] = v := by simpa [hi] using h
 rw [← this]; exact QbE _
theorem uQ (qs : Nat) (fr : List ap) (f : Int) : sQ W0 84 [pQ qs, iQ f] (cX qs fr :: R) (.bool (dR fr.length f)) (cX qs fr :: R) := by
 refine ab func84 ntmps84 ?_
 refine r9 (qs := qs) fun a c vs hv => ?_
 refine aw ?_
 refine cM (fun g1_3 => ?_) fun g1_3 => ?_
 refine a8 ?_
 refine ⟨_, ⟨Qah Value.bool ?_, rfl⟩, pG hv rfl⟩
 rw [Qae]; simp only [dR, Qaj, Qal, QaN]; omega
 refine a8 ?_
 refine ⟨_, ⟨Qah Value.bool ?_, rfl⟩, pG hv rfl⟩
 rw [Qae]; simp only [dR, Qaj, Qal, QaN]; omega
theorem Rk {g off c n : Nat} {l : List Nat} {i k w : Nat} (hl : l.length = n) (hw : w < 4294967296) (hc : aT (aB W0 R) g off (b0 l)) (hi : dL n i k = true) (hn : n ≤ 1000000) : sP W0 209 [.slice (some ⟨g, off, none⟩) n c, iQ i, iQ k, .int .u32 w] R (fun v B => ∃ a' c', v = wR a' n c' ∧ B = osl 5 1 (.slice a' n c') (b0 (kg l i k w)) :: R) := by
 grind [QO]
theorem Rl {x : ap} {sp : List Value} (h : x.length = 64) : ((b0 x ++ sp).drop 0).take 64 = b0 x := by
 grind [List.take_left', ed]
theorem Rm (qs : Nat) (fr : List ap) (f off w : Int) (x : Nat) (hx : x < 4294967296) (hF : cC fr) : sQ W0 146 [pQ qs, iQ f, iQ off, iQ w, .int .u32 x] (cX qs fr :: R) (iQ (if ju fr f off w then 0 else 1)) (cX qs (eY fr f off w x) :: R) := by
 by_cases hf : dR fr.length f = true
 obtain ⟨i, rfl, hi⟩ := pE hf
 obtain ⟨hl, hb⟩ := hF.get hi
 by_cases hin : dL 64 off w = true
 obtain ⟨o, k, rfl, rfl, hk, hok⟩ := pD hin
 have hs : ju fr i o k = true := by grind [ju]
 have hpl : (kg (fr.getD i []) o k x).length = 64 := by grind [qT]
 refine ab ID ntmps146 ?_
 refine ac (ah za (uQ qs fr i)) ?_
 refine aA rfl (fun c1 => ?_) fun c1 => ?_
 exact absurd c1 (by simp [hf])
 refine au 3 ?_
 refine wY (qs := qs) hi fun a c vs vi hv hvi => ?_
 refine sN (E := 5) (sz := 1) (v := vi) (fun h1 h2 => by have := Qah List.length h2; rw [ed, hl] at this; cases this) fun g2 n2 c2 sp2 k1 k2 k3 k4 k5 => ?_
 obtain rfl : n2 = 64 := by grind [ed]
 subst k1
 refine sN (E := 130) (sz := 1) (v := .slice a fr.length c) (fun h1 h2 => by have := (Value.slice.inj h1).2.1; omega) fun g n c' sp h1 h2 h3 h4 h5 => ?_
 cases h1
 refine aw ?_
 refine a6 (bA hi) ?_
 refine a6 (aG (aF (by rw [QaA, QaH (by omega)]; exact hvi))) ?_
 refine am rfl (ao call209 (Rk hl hx (bU (Rl hl) (by omega)) hin (by decide))) ?_
 rintro _ B_ ⟨a', c', rfl, hB_⟩
 obtain rfl := hB_.symm
 refine sN (E := 5) (sz := 1) (v := .slice a' 64 c') (fun h1 h2 => by have := (Value.slice.inj h1).2.1; omega) fun g3 n3 c3 sp3 q1 q2 q3 q4 q5 => ?_
 cases q1
 refine aa rfl (aL rfl) (aa rfl (k8 rfl rfl) (aa rfl (k8 rfl rfl) (aa rfl (bC rfl) (aa rfl (bC rfl) (aN (aD (aP (aP (aZ (aa rfl (aL rfl) (aa rfl (mh rfl rfl) (aN (aD ?_)))))))))))))
 refine aA rfl (fun c4 => ?_) fun c4 => ?_
 refine au 7 ?_
 refine aa rfl (bA hi) ?_
 refine ax (dx (by omega) (by rw [QaA, QbX _ _ (by omega)])) ?_
 refine a8 ?_
 rw [show eY fr i o k x = fr.set i (kg (fr.getD i []) o k x) by simp [eY, hs]]
 exact ⟨_, ⟨by simp [aU, hs], rfl⟩, A9 (vs := vs) (vi := .slice (some ⟨g3, 0, none⟩) 64 c') rfl rfl rfl hv rfl hi h2 h3 (by grind) q2 q3 q4 q5⟩
 exact absurd rfl c4
 have hin' : dL 64 off w = false := by grind
 have hs : ju fr i off w = false := by simp [ju, hin']
 refine ab ID ntmps146 ?_
 refine ac (ah za (uQ qs fr i)) ?_
 refine aA rfl (fun c1 => ?_) fun c1 => ?_
 exact absurd c1 (by simp [hf])
 refine au 3 ?_
 refine wY (qs := qs) hi fun a c vs vi hv hvi => ?_
 refine sN (E := 5) (sz := 1) (v := vi) (fun h1 h2 => by have := Qah List.length h2; rw [ed, hl] at this; cases this) fun g2 n2 c2 sp2 k1 k2 k3 k4 k5 => ?_
 obtain rfl : n2 = 64 := by grind [ed]
 subst k1
 refine sN (E := 130) (sz := 1) (v := .slice a fr.length c) (fun h1 h2 => by have := (Value.slice.inj h1).2.1; omega) fun g n c' sp h1 h2 h3 h4 h5 => ?_
 cases h1
 refine aw ?_
 refine a6 (bA hi) ?_
 refine a6 (aG (aF (by rw [QaA, QaH (by omega)]; exact hvi))) ?_
 refine am rfl (fZ call209 rfl (QP _ 64 c2 off w x hin' (by decide))) ?_
 rintro _ B_ ⟨rfl, hB_⟩
 obtain rfl := hB_.symm
 refine aa rfl (aL rfl) (aa rfl (k8 rfl rfl) (aa rfl (k8 rfl rfl) (aa rfl (bC rfl) (aa rfl (bC rfl) (aN (aD (aP (aP (aZ (aa rfl (aL rfl) (aa rfl (mh rfl rfl) (aN (aD ?_)))))))))))))
 refine aA rfl (fun c4 => ?_) fun c4 => ?_
 exact absurd c4 (by decide)
 refine aw ?_
 refine a8 ?_
 rw [show eY fr i off w x = fr by simp [eY, hs]]
 refine ⟨_, ⟨by simp [aU, hs], rfl⟩, ?_⟩
 have e := Ri hi
 conv => rhs; rw [← e]
 exact A9 (vs := vs) (Rj hvi).symm rfl rfl hv rfl hi h2 h3 h5 k2 k3 k4 k5
 have hf' : dR fr.length f = false := by grind
 have hs : ju fr f off w = false := by simp [ju, hf']
 refine ab ID ntmps146 ?_
 refine ac (ah za (uQ qs fr f)) ?_
 refine ag (fun c1 => ?_) fun c1 => ?_
 refine a8 ?_
 rw [show eY fr f off w x = fr by simp [eY, hs]]
 exact ⟨_, ⟨by simp [aU, hs], rfl⟩, IO⟩
 exact absurd c1 (by simp [hf'])
theorem Aa {A B R1 R2 R3 : List HP} {qs n c g2 : Nat} {a : Option Addr} {vs ys : List Value} {vi : Value} {fr : List ap} {y : ap} [h1 : Tk pt qs A (a7 [.slice a n c] 129) R1] [h2 : Tk (osl 130 1) (.slice a n c) R1 (vs ++ [vi]) R2] [h3 : Tk pt g2 R2 (a7 ys 5) R3]
    (hvi : vi = .slice (some ⟨g2, 0, none⟩) 64 64) (hy : ys = b0 y) (hl : y.length = 64) (hv : vs.length = fr.length) (hn : n = fr.length + 1) [k : Ent R3 ((vs.zip fr).map dB ++ B)] : Ent A (cX qs (fr ++ [y]) :: B) := by
 subst hvi; subst hy
 have e1 : A.Perm (pt qs (a7 [.slice a n c] 129) :: osl 130 1 (.slice a n c) (vs ++ [.slice (some ⟨g2, 0, none⟩) 64 64]) :: pt g2 (a7 (b0 y ++ []) 5) :: R3) := by
  rw [Qav]; exact h1.perm.trans ((h2.perm.trans (h3.perm.cons _)).cons _)
 have e2 : Ent (pt g2 (a7 (b0 y ++ []) 5) :: R3) (osl 5 1 (.slice (some ⟨g2, 0, none⟩) 64 64) (b0 y) :: ((vs.zip fr).map dB ++ B)) := ez (Qap _) (by simp only [maxLen]; omega) (by rw [ed, hl]) (by grind [ed])
 have e3 : ((vs ++ [Value.slice (some ⟨g2, 0, none⟩) 64 64]).zip (fr ++ [y])).map dB = (vs.zip fr).map dB ++ [osl 5 1 (.slice (some ⟨g2, 0, none⟩) 64 64) (b0 y)] := by
  rw [List.zip_append hv, QaF]; rfl
 have e4 : (osl 5 1 (.slice (some ⟨g2, 0, none⟩) 64 64) (b0 y) :: ((vs.zip fr).map dB ++ B)).Perm (((vs ++ [Value.slice (some ⟨g2, 0, none⟩) 64 64]).zip (fr ++ [y])).map dB ++ B) := by
  grind [QaC, List.perm_middle.symm]
 exact (Ent.ofPerm e1).trans ((Ent.cons (Ent.cons (e2.trans (Ent.ofPerm e4)))).trans (pG (vs := vs ++ [.slice (some ⟨g2, 0, none⟩) 64 64]) (by simp [hv]) (by simp [hn])))
theorem Ab (n : Nat) (h : n ≤ 32) : sP W0 18 [iQ n] R (fun v B => ∃ b, v = .tuple #[pQ b, iQ 0] ∧ B = cX b (List.replicate n bX) :: R) := by
 refine ab func18 ntmps18 ?_
 refine cR rfl rfl rfl (fun g1_3 => ?_) fun g1_3 => ?_
 omega
 refine aw ?_
 refine aA rfl (fun c1 => ?_) fun c1 => ?_
 omega
 refine aw ?_
 refine dX (i3 rfl) fun b1 => ?_
 refine aa rfl (bC rfl) (aN (aD (aP (aP (aZ (aa rfl (bC rfl) (aN (aD (l9 ?_)))))))))
 refine fQ (fun i : Nat => i ≤ n) (fun i => [(0, iQ n), (4, pQ b1), (5, iQ i)]) (fun i => cX b1 (List.replicate i bX) :: R) (fun i => n - i) 0 ?_ ?_ ?_ ?_
 omega
 · repeat (first | exact ci | refine bQ rfl ?_)
 exact (Ent.cons (eH (B := R))).trans (en (R := R) (C := [_, _]) ⟨none, 0, [], rfl, rfl⟩)
 intro i hi
 refine aP (aP (aZ (aa rfl (aL rfl) (aa rfl (aL rfl) (aa rfl (mR rfl rfl) (aN (aD ?_)))))))
 refine aA rfl (fun c5 => ?_) fun c5 => ?_
 refine jj ?_
 refine aD (aP (l9 ?_))
 refine r9 (qs := b1) fun a c vs hv => ?_
 rw [Qbq] at hv ⊢
 refine bB [] 11 fun hS => ?_
 refine ae 0 4 hS ?_
 refine eG (is := [4, 5]) (by kernel_rfl) rfl ⟨?_, ?_, trivial⟩
 refine di (db (aG (aF rfl))) ?_; clear hS
 rintro _ _ ⟨rfl, rfl⟩
 refine ⟨aK, fun hS => ?_⟩
 refine cg 5 (qP (sz := 1) (by_ := 1) (info := Tryz.t5) jE (by kernel_rfl) rfl rfl rfl rfl (by decide) rfl rfl rfl rfl (by decide) (by decide)) ?_; clear hS
 rintro _ _ ⟨b2, rfl, rfl⟩
 refine ⟨aK, fun hS => ?_⟩
 refine li 6 (by kernel_rfl) rfl rfl (jG s8 yU Cm rfl rfl rfl rfl rfl (by decide) (by decide)) rfl ?_; clear hS
 rintro _ _ ⟨b3, rfl, rfl⟩
 refine ⟨aK, fun hS => ?_⟩
 refine cg 7 (eI (sz := 1) (by_ := 24) (info := Tryz.t130) s8 (by kernel_rfl) rfl rfl rfl rfl (by decide) rfl rfl eA rfl rfl (by simp only [maxLen]; omega) (by omega)) ?_; clear hS
 rintro _ B_ ⟨a1, c1, rfl, hB_⟩
 obtain rfl := hB_.symm
 refine ⟨aK, fun hS => ?_⟩
 refine ae 8 2 hS ?_
 refine cq 10 dy fun hS => ?_
 refine fy ?_
 refine lL (aD (aZ (aa rfl (aL rfl) ?_)))
 refine aa rfl (dr rfl rfl (by first | exact bN (by omega) | rfl)) ?_
 refine aa rfl (bC rfl) (aN (aD ?_))
 refine bE (i + 1) ?_ (he := ?_)
 omega
 rw [show List.replicate (i + 1) bX = List.replicate i bX ++ [bX] from Qbw]; exact Aa (vs := vs) (n := i + 1) (a := a1) (c := c1) (g2 := b2) (ys := List.replicate (64 * 1) (.int .u8 0)) (y := bX) (vi := .slice (some ⟨b2, 0, none⟩) 64 64) (fr := List.replicate i bX) rfl rfl (by simp [bX]) (by simp [hv]) (by simp)
 skip
 refine di (qP (sz := 1) (by_ := 1) (info := Tryz.t5) jE (by kernel_rfl) rfl rfl rfl rfl (by decide) rfl rfl rfl rfl (by decide) (by decide)) ?_; clear hS
 rintro _ _ ⟨b2, rfl, rfl⟩
 refine ⟨aK, fun hS => ?_⟩
 refine eG (is := [4, 6]) (by kernel_rfl) rfl ⟨?_, ?_, trivial⟩
 refine di (db (aG (aF rfl))) ?_; clear hS
 rintro _ _ ⟨rfl, rfl⟩
 refine ⟨aK, fun hS => ?_⟩
 refine li 6 (by kernel_rfl) rfl rfl (jG s8 yU Cm rfl rfl rfl rfl rfl (by decide) (by decide)) rfl ?_; clear hS
 rintro _ _ ⟨b3, rfl, rfl⟩
 refine ⟨aK, fun hS => ?_⟩
 refine cg 7 (eI (sz := 1) (by_ := 24) (info := Tryz.t130) s8 (by kernel_rfl) rfl rfl rfl rfl (by decide) rfl rfl eA rfl rfl (by simp only [maxLen]; omega) (by omega)) ?_; clear hS
 rintro _ B_ ⟨a1, c1, rfl, hB_⟩
 obtain rfl := hB_.symm
 refine ⟨aK, fun hS => ?_⟩
 refine ae 8 2 hS ?_
 refine cq 10 dy fun hS => ?_
 refine fy ?_
 refine lL (aD (aZ (aa rfl (aL rfl) ?_)))
 refine aa rfl (dr rfl rfl (by first | exact bN (by omega) | rfl)) ?_
 refine aa rfl (bC rfl) (aN (aD ?_))
 refine bE (i + 1) ?_ (he := ?_)
 omega
 rw [show List.replicate (i + 1) bX = List.replicate i bX ++ [bX] from Qbw]; exact Aa (vs := vs) (n := i + 1) (a := a1) (c := c1) (g2 := b2) (ys := List.replicate (64 * 1) (.int .u8 0)) (y := bX) (vi := .slice (some ⟨b2, 0, none⟩) 64 64) (fr := List.replicate i bX) rfl rfl (by simp [bX]) (by simp [hv]) (by simp)
 skip
 refine kJ rfl rfl (jG s8 yU Cm rfl rfl rfl rfl rfl (by decide) (by decide)) rfl ?_; clear hS
 rintro _ _ ⟨b3, rfl, rfl⟩
 refine ⟨aK, fun hS => ?_⟩
 refine bJ 4 (db (aG (aF rfl))) fun hS => ?_
 refine cg 7 (eI (sz := 1) (by_ := 24) (info := Tryz.t130) s8 (by kernel_rfl) rfl rfl rfl rfl (by decide) rfl rfl eA rfl rfl (by simp only [maxLen]; omega) (by omega)) ?_; clear hS
 rintro _ B_ ⟨a1, c1, rfl, hB_⟩
 obtain rfl := hB_.symm
 refine ⟨aK, fun hS => ?_⟩
 refine ae 8 2 hS ?_
 refine cq 10 dy fun hS => ?_
 refine aI ?_
 refine a6 bS ?_
 refine bE (i + 1) ?_ (he := ?_)
 omega
 rw [show List.replicate (i + 1) bX = List.replicate i bX ++ [bX] from Qbw]; exact Aa (vs := vs) (n := i + 1) (a := a1) (c := c1) (g2 := b2) (ys := List.replicate (64 * 1) (.int .u8 0)) (y := bX) (vi := .slice (some ⟨b2, 0, none⟩) 64 64) (fr := List.replicate i bX) rfl rfl (by simp [bX]) (by simp [hv]) (by simp)
 refine aw ?_
 refine az ?_
 have : i = n := by omega
 subst this
 exact ⟨_, ⟨b1, rfl, rfl⟩, IO⟩
def kO (p : Pl) : Value := .bool (decide (p ≠ (0, 0)))
abbrev g6 (pg : List Pl) : Obj := a7 (pg.map kO ++ pg.flatMap fz) 192
theorem Ec {pg : List Pl} {sp : List Value} {i : Nat} (hi : i < pg.length) : ((pg.map kO ++ sp).drop (i * 1)).take 1 = [kO (fT pg i)] := by
 rw [QaA, List.drop_append_of_le_length (by simp; omega), ← List.map_drop, QaX hi, QaG, Qaw, List.take_succ_cons, List.take_zero]
 simp [fT, List.getD, hi]
theorem Ro {pg : List Pl} {i : Nat} (h : pg.length = 12) (hi : i < 12) : ((pg.map kO ++ pg.flatMap fz).drop (12 + i * 2)).take 2 = fz (fT pg i) := by
 rw [← Qcr, List.drop_left' (by simpa using h)]
 have := A5 (pg := pg) (sp := []) (n := i) (by omega)
 rwa [Qav] at this
theorem Ed : ∀ (vs a b : List Value) (off : Nat), cz (a ++ b) (a.length + off) vs = a ++ cz b off vs
 | [], a, b, off => rfl
 | v :: vs, a, b, off => by
  rw [cz, cz, Qbp _ _ (by omega), show a.length + off - a.length = off by omega, show a.length + off + 1 = a.length + (off + 1) by omega, Ed vs]
theorem Rp {pg : List Pl} {i : Nat} {p : Pl} (h : pg.length = 12) (hi : i < 12) (hp : jv p = true) : cz ((pg.map kO ++ pg.flatMap fz).set (i * 1) (.bool true)) (12 + i * 2) (fz p) = (pg.set i p).map kO ++ (pg.set i p).flatMap fz := by
 have ht : kO p = .bool true := by
  have := qZ.1 hp
  simp only [kO, Value.bool.injEq, Qaj]
  intro e; rw [e] at this; simp at this
 rw [QaA, QbX _ _ (by simp; omega), ← ht, ← List.map_set]
 have e := Ed (fz p) ((pg.set i p).map kO) (pg.flatMap fz) (i * 2)
 rw [show ((pg.set i p).map kO).length = 12 by simp [h]] at e
 rw [e]
 have := E3 (pg := pg) (sp := []) (n := i) (p := p) (by omega)
 rw [Qav, Qav] at this
 rw [this]
theorem Ee (n : Int) : sQ W0 116 [iQ n] R (.bool (jI n)) R := by
 refine ab func116 ntmps116 ?_
 refine cM (fun g1_3 => ?_) fun g1_3 => ?_
 refine a8 ?_
 refine aE ?_
 refine Qah Value.bool ?_
 rw [Qae]; simp only [jI, Qaj, Qal, QaN]; omega
 refine a8 ?_
 refine aE ?_
 refine Qah Value.bool ?_
 rw [Qae]; simp only [jI, Qaj, Qal, QaN]; omega
theorem Ac (b : Nat) (pg : List Pl) (h : Pgs pg) (n : Int) (p : Pl) : sQ W0 96 [pQ b, iQ n, .agg (fz p).toArray] (pt b (g6 pg) :: R) (iQ (eB pg n p)) (pt b (g6 (dA pg n p)) :: R) := by
 have hl := h.len
 refine ab func96 ntmps96 ?_
 refine aS fun b1 => ?_
 refine ac (ao call116 (Ee n)) ?_
 refine cA (fun g1_4 => ?_) fun g1_4 => ?_
 refine a8 ?_
 have he : eB pg n p = 1 := by
  grind [eB]
 exact ⟨_, ⟨by simp [aU, he], by rw [dA, he, Qac (by decide)]⟩, IO⟩
 refine cA (fun g1_9 => ?_) fun g1_9 => ?_
 refine a8 ?_
 have he : eB pg n p = 1 := by
  unfold eB; rw [Qac]
  intro hk
  have := qZ.1 hk.2
  first
    | omega
    | (simp [hk.1] at g1_4)
 exact ⟨_, ⟨by simp [aU, he], by rw [dA, he, Qac (by decide)]⟩, IO⟩
 refine cA (fun g1_14 => ?_) fun g1_14 => ?_
 refine a8 ?_
 have he : eB pg n p = 1 := by
  unfold eB; rw [Qac]
  intro hk
  have := qZ.1 hk.2
  first
    | omega
    | (simp [hk.1] at g1_4)
 exact ⟨_, ⟨by simp [aU, he], by rw [dA, he, Qac (by decide)]⟩, IO⟩
 refine cA (fun g1_19 => ?_) fun g1_19 => ?_
 refine a8 ?_
 have he : eB pg n p = 1 := by
  unfold eB; rw [Qac]
  intro hk
  have := qZ.1 hk.2
  first
    | omega
    | (simp [hk.1] at g1_4)
 exact ⟨_, ⟨by simp [aU, he], by rw [dA, he, Qac (by decide)]⟩, IO⟩
 refine ag (fun c1 => ?_) fun c1 => ?_
 refine a8 ?_
 have he : eB pg n p = 1 := by
  unfold eB; rw [Qac]
  intro hk
  have := qZ.1 hk.2
  first
    | omega
    | (simp [hk.1] at g1_4)
 exact ⟨_, ⟨by simp [aU, he], by rw [dA, he, Qac (by decide)]⟩, IO⟩
 have hp : jI n = true := by grind
 have ho : jv p = true := qZ.2 (by omega)
 obtain ⟨i, hni, hi⟩ := lp hp
 have htr := Ec (pg := pg) (sp := pg.flatMap fz) (i := i) (by omega)
 have hth : aX pg n = decide (fT pg i ≠ (0, 0)) := by grind [aX]
 refine a6 (iR IE jZ rfl rfl hni hi (by first | exact Qab _ | rfl)) ?_
 refine a6 (aG (bU (vs := [kO (fT pg i)]) htr rfl 0 _ rfl)) ?_
 refine ag (fun c3 => ?_) fun c3 => ?_
 have ht : aX pg n = true := by grind
 refine a8 ?_
 have he : eB pg n p = 5 := by grind [eB]
 exact ⟨_, ⟨by simp [aU, he], by rw [dA, he, Qac (by decide)]⟩, IO⟩
 have ht : aX pg n = false := by grind
 have he : eB pg n p = 0 := by grind [eB]
 refine a6 (iR IE jZ rfl rfl hni hi (by first | exact Qab _ | rfl)) ?_
 refine ax (dx (by grind) rfl) ?_
 refine bB [b1] 7 fun hS => ?_
 refine ae 0 5 hS ?_
 refine av 5 hS (iR Ik qn rfl rfl hni hi (by first | exact Qab _ | rfl)) ?_
 refine cq 6 (gK (by rw [Qao, Qad, Qax, cj sM]; omega) (Rp hl hi ho)) fun hS => ?_
 refine aI ?_
 refine a8 ?_
 rw [show dA pg n p = pg.set i p by rw [dA, Qaf he, hni, Qam]]
 exact ⟨_, ⟨by simp [aU, he], rfl⟩, IO⟩
theorem Ef (b : Nat) (pg : List Pl) (h : Pgs pg) (n : Int) : sQ W0 45 [pQ b, iQ n] (pt b (g6 pg) :: R) (.tuple #[.agg (fz (cy pg n)).toArray, .bool (aX pg n)]) (pt b (g6 pg) :: R) := by
 have hl := h.len
 refine ab func45 ntmps45 ?_
 refine dX (dt Iw) fun b1 => ?_
 refine aa rfl (bC rfl) (aN (aD (aP (aP (aZ (aa rfl (aL rfl) (am rfl (fZ call116 rfl (Ee n)) ?_)))))))
 rintro _ B_ ⟨rfl, hB_⟩
 obtain rfl := hB_.symm
 refine aa rfl (pn rfl) (aN (aD ?_))
 refine aA rfl (fun c1 => ?_) fun c1 => ?_
 refine aP ?_
 refine aZ (aa rfl (fw C7 Iw (aM aO (aM aO fq)) fp) ?_)
 refine eW (fG qn rfl rfl rfl rfl rfl) ?_
 rintro _ _ rfl
 refine aa rfl (bC rfl) (aN (aD (dT (lc (bi (.cons (bD vY qn rfl rfl) (.cons (bz rfl) .nil)) ?_)))))
 refine aE ?_
 have ht : aX pg n = false := by grind [aX]
 simp [aU, cy, ht]
 have hp : jI n = true := by grind
 obtain ⟨i, hni, hi⟩ := lp hp
 have htr := Ec (pg := pg) (sp := pg.flatMap fz) (i := i) (by omega)
 have hpr := Ro (pg := pg) hl hi
 refine jj (aD (aP ?_))
 refine fH [(b, 12 + i * 2, fz (fT pg i)), (b, i * 1, [kO (fT pg i)])] 14 mixed rfl (cB (bU hpr rfl) (cB (bU htr rfl) bL)) (fun hS => ?_)
 refine ae 0 4 hS ?_
 refine av 4 hS (iR Ik qn rfl rfl hni hi (by first | exact Qab _ | rfl)) ?_
 refine aQ 5 rfl rfl rfl hS (eV vY qn rfl (gr (k := 0) rfl) rfl) ?_
 refine aQ 6 rfl rfl rfl hS (aL rfl) ?_
 refine aQ 7 rfl rfl rfl hS (aL rfl) ?_
 refine aQ 8 rfl rfl rfl hS (jp rfl) ?_
 refine aQ 9 rfl rfl rfl hS (cG rfl a1H rfl sizeOf124 rfl (by first | exact Qab _ | rfl)) ?_
 refine av 10 hS (iR IE jZ rfl rfl hni hi (by first | exact Qab _ | rfl)) ?_
 refine av 11 hS (aG (wE (k := 1) rfl)) ?_
 refine iU 12 rfl rfl aC (cB (bU hpr rfl) (cB (bU htr rfl) bL)) fun hS => ?_
 refine ae 13 1 hS ?_
 refine aI ?_
 refine bi (.cons (bD vY qn rfl rfl) (.cons (bz rfl) .nil)) ?_
 refine aE ?_
 subst hni
 by_cases hz : fT pg i = (0, 0)
 grind [aX, aU, cy, kO]
 grind [aX, aU, cy, kO]
def Rq (d : Nat) : List Value := (List.range 12).map (fun i => .bool (Nat.testBit d i))
abbrev lq (qs qm d : Nat) : Obj := a7 (.pointer (some ⟨qs, 0, none⟩) :: .pointer (some ⟨qm, 0, none⟩) :: Rq d) 126
def g7 (pa n at_ : Nat) : Nat := min (n - at_) (64 - (pa + at_) % 64)
theorem Eg {pa n at_ : Nat} (h : at_ < n) : 0 < g7 pa n at_ ∧ at_ + g7 pa n at_ ≤ n := by unfold g7; omega
def Ad (pa n at_ : Nat) : List Value := [.int .i64 ((pa + at_) / 64 : Nat), .int .i64 ((pa + at_) % 64 : Nat), .int .i64 (at_ : Nat), .int .i64 (g7 pa n at_ : Nat)]
theorem Rr (W0 : World) (bn bp pa n L : Nat) (hpa : pa ≤ 100000) (hn : n ≤ 100000) (C : Nat → List HP) (I : Nat → Prop) (h0 : I 0) (Stop : List HP → Prop) (hr : ∀ at_ R, at_ < n → I at_ → nf Tryz.prog W0 L [.agg (Ad pa n at_).toArray] (C at_ ++ R) (fun v B => ∃ b B', v = .bool b ∧ B = B' ++ R ∧ ((b = true ∧ I (at_ + g7 pa n at_) ∧ B' = C (at_ + g7 pa n at_)) ∨ (b = false ∧ Stop B')))) : sP W0 451 [.func (.yield L) #[] #[], pQ bn, pQ bp] (pt bn (a7 [iQ n] 3) :: pt bp (a7 [iQ pa] 3) :: C 0) (fun v B => v = .tuple #[] ∧ ((I n ∧ B = C n) ∨ Stop B)) := by
 refine ab func451 ntmps451 ?_
 refine cK (fun i : Nat => i ≤ n ∧ I i) (fun i => [(0, .func (.yield L) #[] #[]), (1, pQ bn), (2, pQ bp), (4, iQ i)]) (fun i => pt bn (a7 [iQ n] 3) :: pt bp (a7 [iQ pa] 3) :: C i) (fun i => n - i) 0 ?_ ?_
 grind
 intro i ⟨hi, hI⟩
 refine aw ?_
 refine ag (fun c1 => ?_) fun c1 => ?_
 have hpos := Eg (pa := pa) (n := n) (at_ := i) (by omega)
 refine a6 (dG (pa + i)) ?_
 refine a6 (qB rfl rfl (by decide) ((Qah (IntKind.wrap .i64) (uH (pa + i) 64)).trans (bN (by omega)))) ?_
 refine a6 (dG (pa + i)) ?_
 refine a6 (k7 rfl rfl (by decide) (oc (pa + i) 64)) ?_
 refine bu fun b1 => ?_
 refine ax aC ?_
 refine a6 (lQ (n - i)) ?_
 refine a6 (lQ (64 - (pa + i) % 64)) ?_
 refine a6 (pA rfl rfl (by unfold g7; split <;> omega : (if ((64 - (pa + i) % 64 : Nat) : Int) < ((n - i : Nat) : Int) then ((64 - (pa + i) % 64 : Nat) : Int) else ((n - i : Nat) : Int)) = ((g7 pa n i : Nat) : Int))) ?_
 refine iT 7 dy ?_
 refine zO rfl rfl rfl (zS (QaS (l₁ := [_, _, _])) (hr i [_, _, _] (by omega) hI)) ?_
 rintro _ B_ ⟨b, B', rfl, hB_, hb⟩
 obtain rfl := hB_.symm
 refine mg QaS ?_
 simp only [Qaw, Qat]
 refine aw ?_
 refine aA rfl (fun c4 => ?_) fun c4 => ?_
 have hs : Stop B' := by
  rcases hb with h | h
  exact absurd c4 (by rw [h.1]; decide)
  exact h.2
 refine aw ?_
 refine bM (.inl rfl) .nil ?_
 exact ⟨_, ⟨rfl, .inr hs⟩, IO⟩
 have hs : I (i + g7 pa n i) ∧ B' = C (i + g7 pa n i) := by
  rcases hb with h | h
  exact h.2
  exact absurd (by rw [h.1]; decide) c4
 obtain ⟨hI', rfl⟩ := hs
 refine aw ?_
 refine a6 (dG (i + g7 pa n i)) ?_
 exact bE (i + g7 pa n i) (⟨by omega, hI'⟩)
 refine bM (.inr rfl) .nil ?_
 have : i = n := by omega
 subst this
 exact ⟨_, ⟨rfl, .inl ⟨hI, rfl⟩⟩, IO⟩
theorem Eh (pa n : Nat) : sP W0 446 [iQ pa, iQ n] R (fun v B => ∃ bn bp, v = .func (.func 451) #[] #[pQ bn, pQ bp] ∧ B = pt bn (a7 [iQ n] 3) :: pt bp (a7 [iQ pa] 3) :: R) := by
 refine ab func446 ntmps446 ?_
 refine d7 (iw rfl rfl) fun b1 => ?_
 refine d7 (iw rfl rfl) fun b2 => ?_
 refine a8 ?_
 exact ⟨_, ⟨b2, b1, rfl, rfl⟩, IO⟩
theorem Ei {W0 : World} {A : List HP} {e : aH} {n' L D bn bp : Nat} {ps : Array Tmp} {asg body : Code} {Go Stop : List HP → Prop} (pa n : Nat) (C : Nat → List HP) (I : Nat → Prop) (hpa : pa ≤ 100000) (hn : n ≤ 100000)
    (hp : A.Perm (pt bn (a7 [iQ n] 3) :: pt bp (a7 [iQ pa] 3) :: C 0)) (h0 : I 0) (hgo : I n → Go (C n))
    (hr : ∀ at_ R, at_ < n → I at_ → nf Tryz.prog W0 L [.agg (Ad pa n at_).toArray] (cW L ⟨e, n', ps, asg, body, .ready, none, D⟩ :: pt D (.deferred (some [])) :: (C at_ ++ R))
      (fun v B => (v = .bool true ∧ I (at_ + g7 pa n at_) ∧ B = cW L ⟨e, n', ps, asg, body, .ready, none, D⟩ :: pt D (.deferred (some [])) :: (C (at_ + g7 pa n at_) ++ R)) ∨
        (v = .bool false ∧ ∃ B', Stop B' ∧ B = cW L ⟨e, n', ps, asg, body, .done, some .ret, D⟩ :: pt D (.deferred (some [])) :: (B' ++ R)))) :
    bc Tryz.prog W0 451 (.func (.yield L) #[] #[] :: [pQ bn, pQ bp]) (cW L ⟨e, n', ps, asg, body, .ready, none, D⟩ :: pt D (.deferred (some [])) :: A)
      (fun _ B => (∃ C, B = cW L ⟨e, n', ps, asg, body, .ready, none, D⟩ :: pt D (.deferred (some [])) :: C ∧ Go C) ∨ (∃ C, B = cW L ⟨e, n', ps, asg, body, .done, some .ret, D⟩ :: pt D (.deferred (some [])) :: C ∧ Stop C)) := by
 have hperm : (cW L ⟨e, n', ps, asg, body, .ready, none, D⟩ :: pt D (.deferred (some [])) :: A).Perm (pt bn (a7 [iQ n] 3) :: pt bp (a7 [iQ pa] 3) :: (cW L ⟨e, n', ps, asg, body, .ready, none, D⟩ :: pt D (.deferred (some [])) :: C 0)) := by
  refine ((hp.cons _).cons _).trans ?_
  exact (((List.Perm.swap _ _ _).trans ((List.Perm.swap _ _ _).cons _)).cons _).trans ((List.Perm.swap _ _ _).trans ((List.Perm.swap _ _ _).cons _)) |>.trans (QaI _)
 refine mX hperm (gH (Rr W0 bn bp pa n L hpa hn (fun i => cW L ⟨e, n', ps, asg, body, .ready, none, D⟩ :: pt D (.deferred (some [])) :: C i) I h0
   (fun B => ∃ B', Stop B' ∧ B = cW L ⟨e, n', ps, asg, body, .done, some .ret, D⟩ :: pt D (.deferred (some [])) :: B') fun at_ R hat hI w hO => ?_) ?_)
 obtain ⟨f, tmps, as_, bd, hy, hR⟩ := hr at_ R hat hI w hO
 refine ⟨f, tmps, as_, bd, hy, RoundIn.mono hR ?_⟩
 rintro _ w' ⟨v, B, rfl, hB, hO'⟩
 rcases hB with ⟨rfl, hI', rfl⟩ | ⟨rfl, B', hS, rfl⟩
 grind
 grind
 rintro v B ⟨_, ⟨hI, rfl⟩ | ⟨B', hS, rfl⟩⟩
 exact ⟨_, .inl ⟨_, rfl, hgo hI⟩, ent_refl⟩
 exact ⟨_, .inr ⟨_, rfl, hS⟩, ent_refl⟩
def mo (a : Nat) : Int := ((a / 64 : Nat) : Int)
def mp (len : Nat) (pg : List Pl) (pa n : Nat) : Prop := ∀ i, i < n → lR len pg (mo (pa + i)) = true
instance {len : Nat} {pg : List Pl} {pa n : Nat} : Decidable (mp len pg pa n) := by unfold mp; exact Nat.decidableBallLT n _
def kj (len : Nat) (pg : List Pl) (pa : Nat) (n : Int) : Bool := decide (0 ≤ n ∧ pa ≤ 512 ∧ n ≤ 512 - (pa : Int)) && decide (mp len pg pa n.toNat)
theorem uR {len : Nat} {pg : List Pl} {pa : Nat} {n : Int} : kj len pg pa n = true ↔ (0 ≤ n ∧ pa ≤ 512 ∧ n ≤ 512 - (pa : Int)) ∧ mp len pg pa n.toNat := by simp [kj]
theorem wZ {len : Nat} {pg : List Pl} {pa n : Nat} : kj len pg pa n = true ↔ pa + n ≤ 512 ∧ mp len pg pa n := by
 grind [uR]
theorem Rs {pa n at_ i : Nat} (h1 : at_ ≤ i) (h2 : i < at_ + g7 pa n at_) : (pa + i) / 64 = (pa + at_) / 64 := by unfold g7 at h2; omega
theorem Ej {pa n at_ k : Nat} (h2 : k < g7 pa n at_) : (pa + (at_ + k)) / 64 = (pa + at_) / 64 ∧ (pa + (at_ + k)) % 64 = (pa + at_) % 64 + k := by unfold g7 at h2; omega
theorem Ek (pv ps pm d : Nat) (fr : List ap) (pg : List Pl) (h : Pgs pg) (pa : Nat) (hpa : pa < 4294967296) (n : Int) : sQ W0 438 [pQ pv, .int .u32 pa, iQ n] (pt pv (cp ps pm d) :: bj ps fr :: pt pm (bI pg) :: R) (.bool (kj fr.length pg pa n)) (pt pv (cp ps pm d) :: bj ps fr :: pt pm (bI pg) :: R) := by
 refine ab func438 ntmps438 ?_
 refine d7 (iw rfl rfl) fun b1 => ?_
 refine d7 (o8 IF rfl) fun b2 => ?_
 refine dK 1 (ah z9 (uN pv ps pm d)) ?_
 refine cR rfl rfl rfl (fun g1_3 => ?_) fun g1_3 => ?_
 exact absurd g1_3 (by decide)
 refine aw ?_
 refine cA (fun g1_7 => ?_) fun g1_7 => ?_
 refine ax dy ?_
 refine bi (.cons (uo md rfl (aF rfl)) .nil) ?_
 refine aE ?_
 refine Qah Value.bool (Eq.symm ?_)
 rw [← Qaz, uR]; omega
 refine cA (fun g1_11 => ?_) fun g1_11 => ?_
 refine ax dy ?_
 refine bi (.cons (uo md rfl (aF rfl)) .nil) ?_
 refine aE ?_
 refine Qah Value.bool (Eq.symm ?_)
 rw [← Qaz, uR]; omega
 refine a6 (cT (by first | exact bN (by omega) | rfl)) ?_
 refine a6 eX ?_
 refine ag (fun c1 => ?_) fun c1 => ?_
 refine ax dy ?_
 refine bi (.cons (uo md rfl (aF rfl)) .nil) ?_
 refine aE ?_
 refine Qah Value.bool (Eq.symm ?_)
 rw [← Qaz, uR]; omega
 obtain ⟨k, rfl⟩ : ∃ k : Nat, n = (k : Int) := ⟨n.toNat, by omega⟩
 have hk : pa + k ≤ 512 := by omega
 refine a6 (cT (by first | exact bN (by omega) | rfl)) ?_
 refine am rfl (ao call446 (Eh pa k)) ?_
 rintro _ B_ ⟨bn, bp, rfl, hB_⟩
 obtain rfl := hB_.symm
 refine au 3 ?_
 refine zP (fun C => mp fr.length pg pa k ∧ C = pt pv (cp ps pm d) :: pt b2 (a7 [.bool false] 4) :: pt b1 (a7 [pQ pv] 119) :: bj ps fr :: pt pm (bI pg) :: R) (fun C => ¬ mp fr.length pg pa k ∧ C = pt pv (cp ps pm d) :: pt b2 (a7 [.bool false] 4) :: pt b1 (a7 [pQ pv] 119) :: bj ps fr :: pt pm (bI pg) :: R) rfl call451 ?_ ?_ ?_
 intro L D
 refine Ei pa k (fun _ => pt pv (cp ps pm d) :: pt b2 (a7 [.bool false] 4) :: pt b1 (a7 [pQ pv] 119) :: bj ps fr :: pt pm (bI pg) :: R) (fun i => mp fr.length pg pa i) (by omega) (by omega) wI (fun i hi => by omega) (fun hI => ⟨hI, rfl⟩) ?_
 intro at_ R' h1 h2
 simp only [Qaw, Qat]
 refine wN rfl rfl ?_
 refine aZ (am rfl (dt Iz) ?_)
 rintro _ _ ⟨b3, rfl, rfl⟩
 refine iT 1 aC ?_
 refine wL rfl ?_
 refine l9 (aP (aZ (aa rfl (bW I1 rfl (aF rfl)) ?_)))
 refine aa rfl (cG rfl w6 rfl aO rfl (by first | exact Qab _ | rfl)) ?_
 refine aa rfl (bW cP rfl (aF rfl)) ?_
 refine am rfl (un call447 rfl (E8 pv ps pm d fr pg h (((pa + at_) / 64 : Nat) : Int))) ?_
 rintro _ B_ ⟨rfl, hB_⟩
 obtain rfl := hB_.symm
 refine aa rfl (aL rfl) (aa rfl (k8 rfl rfl) (aa rfl (k8 rfl rfl) (aa rfl (bC rfl) (aa rfl (bC rfl) (aN (aD (aP (aZ (aa rfl (aL rfl) (aa rfl (pn rfl) (aN (aD ?_))))))))))))
 refine aA rfl (fun c6 => ?_) fun c6 => ?_
 refine aP ?_
 refine aZ (eW (ka jZ rfl rfl rfl (Qaa rfl) SetL.eq) ?_)
 rintro _ _ rfl
 refine aN (aD (dT (mP (Qg ?_))))
 have hn : ¬ mp fr.length pg pa k := fun q => c6 (q at_ h1)
 refine ⟨_, .inr ⟨rfl, _, ⟨hn, rfl⟩, rfl⟩, ?_⟩
 simp only [Qaw]
 exact IO
 refine au 2 ?_
 refine wM ?_
 have hb : lR fr.length pg (mo (pa + at_)) = true := Decidable.not_not.1 c6
 have hI' : mp fr.length pg pa (at_ + g7 pa k at_) := fun i hi => by
  rcases QaD i at_ with q | q
  exact h2 i q
  grind [mo, Rs]
 exact ⟨_, .inl ⟨rfl, hI', rfl⟩, IO⟩
 intro D C hC
 obtain ⟨hown, rfl⟩ := hC
 refine aw ?_
 refine iT 3 dy ?_
 refine sq (.inl rfl) (.cons (uo md rfl (aF rfl)) .nil) ?_
 refine aE ?_
 refine Qah Value.bool (Eq.symm ?_)
 rw [wZ]; exact ⟨hk, hown⟩
 intro D C hC
 obtain ⟨hown, rfl⟩ := hC
 refine au 2 ?_
 refine sq (.inl rfl) (.cons (uo md rfl (aF rfl)) .nil) ?_
 refine aE ?_
 refine Qah Value.bool (Eq.symm ?_)
 rw [← Qaz, wZ]; exact fun q => hown q.2
def ol (pg : List Pl) (a : Nat) : Int := (cy pg (mo a)).1
theorem Rt (W0 : World) (R : List HP) (pv ps pm : Nat) (pg : List Pl) (h : Pgs pg) (pa n : Nat) (hpa : pa + n ≤ 512) (dd : Nat → Nat) (ff : Nat → List ap) (DH : Nat → HP) (gf : FuncId) (us : List Value)
    (hcall : ∀ args w, (callFunc gf args).run Tryz.prog w = .ok (.enter gf args) w)
    (hdo : ∀ i, i < n → ∀ R', Ent R' R → bc Tryz.prog W0 gf (iQ (ol pg (pa + i)) :: iQ ((pa + i) % 64 : Nat) :: iQ (i : Nat) :: us) (pt pv (cp ps pm (dd i)) :: bj ps (ff i) :: pt pm (bI pg) :: kH 0 (DH i) :: R')
      (fun v B => v = .tuple #[] ∧ B = pt pv (cp ps pm (dd (i + 1))) :: bj ps (ff (i + 1)) :: pt pm (bI pg) :: kH 0 (DH (i + 1)) :: R')) :
    bc Tryz.prog W0 439 [pQ pv, .int .u32 pa, iQ n, .func (.func gf) #[] us.toArray] (pt pv (cp ps pm (dd 0)) :: bj ps (ff 0) :: pt pm (bI pg) :: kH 0 (DH 0) :: R)
      (fun v B => v = .tuple #[] ∧ B = pt pv (cp ps pm (dd n)) :: bj ps (ff n) :: pt pm (bI pg) :: kH 0 (DH n) :: R) := by
 refine ab func439 ntmps439 ?_
 refine d7 (iw rfl rfl) fun b1 => ?_
 refine d7 (iw rfl rfl) fun b2 => ?_
 refine a6 (cT (by first | exact bN (by omega) | rfl)) ?_
 refine am rfl (ao call446 (Eh pa n)) ?_
 rintro _ B_ ⟨bn, bp, rfl, hB_⟩
 obtain rfl := hB_.symm
 refine au 3 ?_
 refine zP (fun C => C = pt b2 (a7 [.func (.func gf) #[] us.toArray] 513) :: pt b1 (a7 [pQ pv] 119) :: pt pv (cp ps pm (dd n)) :: bj ps (ff n) :: pt pm (bI pg) :: kH 0 (DH n) :: R) (fun C => False) rfl call451 ?_ ?_ ?_
 intro L D
 refine Ei pa n (fun i => pt b2 (a7 [.func (.func gf) #[] us.toArray] 513) :: pt b1 (a7 [pQ pv] 119) :: pt pv (cp ps pm (dd i)) :: bj ps (ff i) :: pt pm (bI pg) :: kH 0 (DH i) :: R) (fun i => True) (by omega) (by omega) wI trivial (fun hI => rfl) ?_
 intro at_ R' h1 h2
 simp only [Qaw, Qat]
 refine wN rfl rfl ?_
 refine aZ (am rfl (dt Iz) ?_)
 rintro _ _ ⟨b3, rfl, rfl⟩
 refine iT 1 aC ?_
 refine wL rfl ?_
 refine l9 (aP (aZ (aa rfl (bW I1 rfl (aF rfl)) ?_)))
 refine aa rfl (cG rfl w6 rfl aO rfl (by first | exact Qab _ | rfl)) ?_
 refine aa rfl (bW cP rfl (aF rfl)) ?_
 refine am rfl (un call447 rfl (E8 pv ps pm (dd at_) (ff at_) pg h (((pa + at_) / 64 : Nat) : Int))) ?_
 rintro _ B_ ⟨rfl, hB_⟩
 obtain rfl := hB_.symm
 have hpos := Eg (pa := pa) (n := n) (at_ := at_) h1
 refine aa rfl (aL rfl) (aa rfl (k8 rfl rfl) (aa rfl (k8 rfl rfl) (aa rfl (bC rfl) (aa rfl (bC rfl) (aN (aD (aP ?_)))))))
 refine fJ (r := cW) (b := L) (Ql fun HL hHL => ?_)
 refine aZ ?_
 refine aa rfl (cG rfl w6 rfl aO rfl (by first | exact Qab _ | rfl)) ?_
 refine aa rfl (bW cP rfl (aF rfl)) ?_
 refine aa rfl (aL rfl) (aN (aD (l9 ?_)))
 refine fQ (fun i : Nat => i ≤ g7 pa n at_) (fun i => [(4, .pointer (some ⟨b1, 0, none⟩)), (7, .pointer (some ⟨b2, 0, none⟩)), (8, .pointer (some ⟨b3, 0, none⟩)), (9, .int .i64 (ol pg (pa + at_))), (25, .int .i64 (g7 pa n at_ : Nat)), (26, .int .i64 i)]) (fun i => kH 1 HL :: pt D (.deferred (some [])) :: pt b3 (a7 (Ad pa n at_) 521) :: pt b2 (a7 [.func (.func gf) #[] us.toArray] 513) :: pt b1 (a7 [.pointer (some ⟨pv, 0, none⟩)] 119) :: pt pv (cp ps pm (dd (at_ + i))) :: bj ps (ff (at_ + i)) :: pt pm (bI pg) :: kH 0 (DH (at_ + i)) :: (R ++ R')) (fun i => g7 pa n at_ - i) 0 ?_ ?_ ?_ ?_
 omega
 · repeat (first | exact ci | refine bQ rfl ?_)
 simp only [Qbx]; exact inferInstance
 intro i hi
 refine aP (aZ (aa rfl (mR rfl rfl) (aN (aD (aP ?_)))))
 refine aA rfl (fun c5 => ?_) fun c5 => ?_
 refine jj ?_
 refine aD (aP (l9 (aP (aZ (aa rfl (aL rfl) (aa rfl (bC rfl) (aN (aD ?_))))))))
 have hlt : i < g7 pa n at_ := by omega
 have hd := hdo (at_ + i) (by omega)
 rw [show ol pg (pa + (at_ + i)) = ol pg (pa + at_) by rw [ol, mo, (Ej hlt).1]; rfl, (Ej hlt).2] at hd
 refine aZ (aa rfl (bW isAgg513 rfl (aF rfl)) ?_)
 refine aa rfl (aL rfl) ?_
 refine aa rfl (cG rfl w6 rfl aO rfl (by first | exact Qab _ | rfl)) ?_
 refine aa rfl (bW cP rfl (aF rfl)) ?_
 refine aa rfl (aL rfl) ?_
 refine aa rfl (dr rfl rfl (by rw [bN (by omega)]; omega : IntKind.wrap .i64 ((((pa + at_) % 64 : Nat) : Int) + (i : Int)) = (((pa + at_) % 64 + i : Nat) : Int))) ?_
 refine aa rfl (cG rfl w6 rfl aO rfl (by first | exact Qab _ | rfl)) ?_
 refine aa rfl (bW cP rfl (aF rfl)) ?_
 refine aa rfl (aL rfl) (a6 (dG (at_ + i)) ?_)
 refine am rfl (Qj rfl hcall rfl (hd _ inferInstance)) ?_
 rintro _ B_ ⟨rfl, hB_⟩
 obtain rfl := hB_.symm
 refine aN (lL (aD (aZ ?_)))
 refine aa rfl (dr rfl rfl (by first | exact bN (by omega) | rfl)) ?_
 refine aa rfl (aL rfl) (aN (aD ?_))
 refine bE (i + 1) ?_ (he := ?_)
 omega
 simp only [← QbZ]; exact inferInstance
 refine au 5 ?_
 have e1 : i = g7 pa n at_ := by omega
 subst e1
 subst hHL
 refine Qm ?_
 refine wM ?_
 exact ⟨_, .inl ⟨rfl, trivial, rfl⟩, IO⟩
 intro D C hC
 obtain rfl := hC
 refine au 1 ?_
 refine sq (.inr rfl) .nil ?_
 exact aj
 intro D C hC
 exact hC.elim
def om (fr : List ap) (pg : List Pl) (a : Nat) : Nat := kN fr (ol pg a) ((a % 64 : Nat) : Int) 1
def kl (fr : List ap) (pg : List Pl) (pa n : Nat) : List Nat := (List.range n).map fun i => om fr pg (pa + i)
def oo (fr : List ap) (pg : List Pl) (pa : Nat) (n : Int) : List Nat := if kj fr.length pg pa n then kl fr pg pa n.toNat else []
theorem Ru {fr : List ap} (hF : cC fr) (f off : Int) : kN fr f off 1 < 256 := by
 unfold kN; split
 rename_i hf
 obtain ⟨i, rfl, hi⟩ := pE hf
 unfold nj; split
 have hb := (hF.get hi).2
 have := uI ((hb.drop off.toNat).take (1 : Int).toNat)
 refine Qcd this ?_
 have : ((List.drop off.toNat (fr.getD (i : Int).toNat [])).take (1 : Int).toNat).length ≤ 1 := by simp; omega
 exact Qct (by decide) this
 decide
 decide
theorem El {fr : List ap} (hF : cC fr) (pg : List Pl) (a : Nat) : om fr pg a < 256 := Ru hF _ _
theorem x9 (fr : List ap) (pg : List Pl) (pa n : Nat) : (kl fr pg pa n).length = n := by simp [kl]
theorem Em {fr : List ap} (hF : cC fr) (pg : List Pl) (pa n : Nat) : By (kl fr pg pa n) := fun b hb => by
 obtain ⟨i, _, rfl⟩ := Qbm.1 hb
 exact El hF _ _
def kP (f : Nat → Nat) (n i : Nat) : List Nat := (List.range n).map fun j => if j < i then f j else 0
theorem Rv (f : Nat → Nat) (n i : Nat) : (kP f n i).length = n := by simp [kP]
theorem Rw (f : Nat → Nat) (n : Nat) : b0 (kP f n 0) = List.replicate n (bV 0) := by
 apply QaQ <;> simp [kP, b0]
theorem Rx (f : Nat → Nat) (n : Nat) : kP f n n = (List.range n).map f := by
 simp_all [QaQ, kP]
theorem Ry {f : Nat → Nat} {n i : Nat} (hi : i < n) : (b0 (kP f n i)).set i (bV (f i)) = b0 (kP f n (i + 1)) := by
 apply QaQ
 simp [kP, b0]
 grind [kP, b0]
theorem RA {f : Nat → Nat} {n i : Nat} (hi : i < n) : (b0 (kP f n i)).set (i * 1) (bV (f i)) = b0 (kP f n (i + 1)) := by rw [QaA]; exact Ry hi
abbrev Ae (pv b1 b2 g n i : Nat) (f : Nat → Nat) : HP := bH [pt b1 (a7 [.pointer (some ⟨pv, 0, none⟩)] 119), pt b2 (a7 [.slice (some ⟨g, 0, none⟩) n n] 130), pt g (a7 (b0 (kP f n i)) 5)]
theorem RB (W0 : World) (R : List HP) (pv ps pm d b1 b2 g n i : Nat) (fr : List ap) (pg : List Pl) (hF : cC fr) (pa : Nat) (hi : i < n) (hn : n ≤ 512) : sQ W0 440 [iQ (ol pg (pa + i)), iQ ((pa + i) % 64 : Nat), iQ (i : Nat), pQ b1, pQ b2] (pt pv (cp ps pm d) :: bj ps fr :: pt pm (bI pg) :: kH 0 (Ae pv b1 b2 g n i (fun j => om fr pg (pa + j))) :: R) (.tuple #[]) (pt pv (cp ps pm d) :: bj ps fr :: pt pm (bI pg) :: kH 0 (Ae pv b1 b2 g n (i + 1) (fun j => om fr pg (pa + j))) :: R) := by
 have hlt := El hF pg (pa + i)
 refine mX (uw (r1 := kH) (b1 := 0)) (nh ?_)
 simp only [Qaw, Qat]
 refine ab func440 ntmps440 ?_
 refine ac (ah call236 (E2 ps fr _ _ 1 hF)) ?_
 refine a6 (cT (D6 (by grind [kN, ol, om]))) ?_
 refine a6 (bA hi) ?_
 refine ax (dx (by rw [ed, Rv]; omega) (RA (f := fun j => om fr pg (pa + j)) hi)) ?_
 refine bM (.inr rfl) .nil ?_
 exact aj
theorem RD (pv ps pm d : Nat) (fr : List ap) (pg : List Pl) (h : Pgs pg) (hF : cC fr) (pa : Nat) (hpa : pa < 4294967296) (n : Int) : sP W0 428 [pQ pv, .int .u32 pa, iQ n] (pt pv (cp ps pm d) :: bj ps fr :: pt pm (bI pg) :: R) (fun v B => ∃ a c, v = .tuple #[.slice a (oo fr pg pa n).length c, .bool (kj fr.length pg pa n)] ∧ B = osl 5 1 (.slice a (oo fr pg pa n).length c) (b0 (oo fr pg pa n)) :: pt pv (cp ps pm d) :: bj ps fr :: pt pm (bI pg) :: R) := by
 by_cases ho : kj fr.length pg pa n = true
 obtain ⟨k, rfl⟩ : ∃ k : Nat, n = (k : Int) := ⟨n.toNat, by have := (uR.1 ho).1; omega⟩
 obtain ⟨hk, _⟩ := wZ.1 ho
 have hr : oo fr pg pa (k : Int) = kl fr pg pa k := by grind [oo]
 rw [hr, x9, ho]
 refine ab func428 ntmps428 ?_
 refine d7 (iw rfl rfl) fun b1 => ?_
 refine ac (dQ call438 (Ek pv ps pm d fr pg h pa hpa k)) ?_
 refine ag (fun c1 => ?_) fun c1 => ?_
 exact absurd ho c1
 refine d7 (qP (sz := 1) (by_ := 1) (info := Tryz.t5) jE (by kernel_rfl) rfl rfl rfl rfl (by decide) rfl rfl rfl rfl (by omega) (by decide)) fun b2 => ?_
 refine d7 (o8 Cm rfl) fun b3 => ?_
 refine ax dy ?_
 rw [show List.replicate (k * 1) (Value.int .u8 0) = b0 (kP (fun j => om fr pg (pa + j)) k 0) by rw [Rw, QaA]; rfl]
 refine ac (pw inferInstance (ao call439 (Rt W0 R pv ps pm pg h pa k hk (fun _ => d) (fun _ => fr) (fun i => Ae pv b1 b3 b2 k i (fun j => om fr pg (pa + j))) 440 [pQ b1, pQ b3] call440 (fun i hi R' hR => RB W0 R' pv ps pm d b1 b3 b2 k i fr pg hF pa hi (by omega))))) ?_
 refine wP ?_
 simp only [Qaw, Qat]
 refine aw ?_
 refine az ?_
 rw [Rx]
 exact ⟨_, ⟨some ⟨b2, 0, none⟩, k, rfl, rfl⟩, Dt (by simp only [maxLen]; omega) (by simp_all [QaA, ed, x9])⟩
 have hr : oo fr pg pa n = [] := by grind [oo]
 have ho' : kj fr.length pg pa n = false := by grind
 rw [hr, ho']
 refine ab func428 ntmps428 ?_
 refine d7 (iw rfl rfl) fun b1 => ?_
 refine ac (dQ call438 (Ek pv ps pm d fr pg h pa hpa n)) ?_
 refine ag (fun c1 => ?_) fun c1 => ?_
 refine az ?_
 exact ⟨_, ⟨none, 0, rfl, rfl⟩, eH⟩
 exact absurd (by rw [ho']; decide) c1
def gz (d n : Nat) : List Nat := (List.range n).filter fun i => Nat.testBit d i
def uS (n : Nat) : Value := .int .i64 (n : Int)
def sR (l : List Nat) : List Value := l.map uS
theorem En (d n : Nat) : gz d (n + 1) = gz d n ++ (if Nat.testBit d n then [n] else []) := by
 grind [gz, List.range_succ]
theorem Eo (d n : Nat) : (gz d n).length ≤ n := by
 grind [QaT, Nat.testBit, List.range, gz]
theorem RE (pv ps pm d : Nat) (hd : d < 4096) : sP W0 135 [pQ pv] (pt pv (cp ps pm d) :: R) (fun v B => ∃ a c, v = .slice a (gz d 12).length c ∧ B = osl 3 1 (.slice a (gz d 12).length c) (sR (gz d 12)) :: pt pv (cp ps pm 0) :: R) := by
 refine ab func135 ntmps135 ?_
 refine dK 2 (ah z9 (uN pv ps pm d)) ?_
 refine aA rfl (fun c1 => ?_) fun c1 => ?_
 exact absurd c1 (by decide)
 refine aw ?_
 refine fQ (fun x : Nat × Option Addr × Nat => x.1 ≤ 12) (fun x => [(0, pQ pv), (3, .slice x.2.1 (gz d x.1).length x.2.2), (7, iQ x.1)]) (fun x => osl 3 1 (.slice x.2.1 (gz d x.1).length x.2.2) (sR (gz d x.1)) :: pt pv (cp ps pm d) :: R) (fun x => 12 - x.1) (0, none, 0) ?_ ?_ ?_ ?_
 simp
 · repeat (first | exact ci | refine bQ rfl ?_)
 exact eH
 intro ⟨i, a, c⟩ hi
 dsimp only at hi ⊢
 have hl := Eo d i
 refine aw ?_
 refine ag (fun c5 => ?_) fun c5 => ?_
 refine a6 (jo rfl rfl (by omega) (lm (by simp [IntKind.bits]; omega))) ?_
 refine a6 (fm rfl rfl (ll (b := 1) (QaM (Qck _ _) (by omega)) (by omega))) ?_
 refine ag (fun c7 => ?_) fun c7 => ?_
 have hb : Nat.testBit d i = true := by
  grind
 have hs : gz d (i + 1) = gz d i ++ [i] := by grind [En]
 refine d7 (jG fe aO me rfl rfl rfl rfl rfl (by decide) (by decide)) fun b1 => ?_
 refine am rfl (eI (sz := 1) (by_ := 8) (info := Tryz.t3) fe (by kernel_rfl) rfl rfl rfl rfl (by decide) rfl rfl eA rfl rfl (by simp only [maxLen]; omega) (by omega)) ?_
 rintro _ _ ⟨a1, c1, rfl, rfl⟩
 refine aw ?_
 refine a6 bS ?_
 refine ue (i + 1, a1, c1) ?_ ?_ ?_ ?_
 omega
 omega
 · simp only [hs, Qad, QaE, QbB]; repeat (first | exact ci | refine bQ rfl ?_)
 simp only [hs, sR, QaF, QaG, QbO, uS, Qad, QaE, QbB]; exact inferInstance
 have hb : ¬ Nat.testBit d i = true := by
  grind
 have hs : gz d (i + 1) = gz d i := by grind [En]
 obtain ⟨a1, rfl⟩ : ∃ x, x = a := ⟨a, rfl⟩
 obtain ⟨c1, rfl⟩ : ∃ x, x = c := ⟨c, rfl⟩
 refine a6 bS ?_
 refine ue (i + 1, a1, c1) ?_ ?_ ?_ ?_
 omega
 omega
 · simp only [hs, Qad, QaE, QbB]; repeat (first | exact ci | refine bQ rfl ?_)
 simp only [hs, sR, QaF, QaG, QbO, uS, Qad, QaE, QbB]; exact inferInstance
 refine ax dy ?_
 refine a8 ?_
 have e1 : i = 12 := by omega
 subst e1
 exact ⟨_, ⟨a, c, rfl, rfl⟩, IO⟩
theorem RF {len : Nat} {pg : List Pl} {n : Int} : lR len pg n = true ↔ aX pg n = true ∧ n < 8 ∧ (cy pg n).1 < len := by
 grind [lR]
section
variable {rd : Option Nat} {P : Program} {S : World → Prop} {W0 : World} {N : FSz} {Q : Exit → Act → World → Prop} {e : aH} {A B R : List HP} {ops : Array Oper} {rest : List Oper}
variable {op : Op} {ty t t' : TypeId} {pos : String} {af : Array Edge} {v u : Value} {d b off : Nat} {x y z : Operand} {l l' vs : List Value} {L : Nat} {xr : RecX}
theorem xa {E n : Nat} {ps : Array (Nat × Operand)} (hu : P.underlying t = some (.array n E)) (hs : ∀ w, (sizeOf E).run P w = .ok 1 w) (hz : ∀ w, (zeroValue t).run P w = .ok (.agg l.toArray) w)
    (hev : e9 e (ps.toList.map (·.2)) = some vs) (hix : ps.toList.map (·.1) = List.range' 0 ps.toList.length) (ha1 : ec vs = true) (hn : vs.length = l.length) : aW P S N e (.build t ps) (.agg vs.toArray) := fun a w _ _ _ _ _ hF _ => by
 have hel := zE ps.toList 0 vs hev hix ha1
 have hfl := zD (fun x v h => hF.eval h) ps.toList vs [] l (by omega) hn.symm
 simp only [QaA, Qat] at hfl
 have hb : Instr.build t (ps.map fun (i, x) => (i, a.eval x)) = (do
     let zero := (← zeroValue t).cells
     match ← underlying t with
     | .struct fields =>
       let places ← fields.mapM pp
       let some cells := Instr.fill (places[·]?) zero (ps.map fun (i, x) => (i, a.eval x)).toList | stuck "build: no such field, or a part of the wrong size"
       pure (.agg cells)
     | .array _ elem =>
       let size ← sizeOf elem
       let some cells := Instr.fill (fun i => some (i * size, size)) zero (ps.map fun (i, x) => (i, a.eval x)).toList | stuck "build: a part of the wrong size"
       pure (.agg cells)
     | _ => stuck "build: struct or array type expected") := rfl
 simp only [execOp, hb, Sem.run_bind, hz, dU hu, hs, Result.andThen_ok, Value.cells, Sem.run_pure, QbQ, QaA]
 rw [hfl]; rfl
theorem RG {E n : Nat} {k : IntKind} {i : Int} {j : Nat} (hu : P.underlying t = some (.array n E)) (hs : ∀ w, (sizeOf E).run P w = .ok 1 w) (ha : ∀ w, (isAgg E).run P w = .ok false w) (hx : ev e x = some (.agg l.toArray)) (hy : ev e y = some (.int k i))
    (hi : i = (j : Int)) (hj : j < n) (hl : l[j]? = some v) : aW P S N e (.index t x y) v := fun a w _ _ _ _ _ hF _ => by
 subst hi
 have h1 : (0 : Int) ≤ (j : Int) ∧ (j : Int) < (n : Int) := by omega
 have hlt : j < l.length := by
  grind
 simp only [execOp, Instr.index, hF.eval hx, hF.eval hy, asIntOf, Sem.run_bind, Sem.run_pure, Result.andThen_ok, dU hu, h1, and_self, QbI, hs, Qam, QaA]
 rw [sh ha hl]; rfl
theorem Af {c : Code} (h : ai W0 N (c.wpR none P (Exit.noGoto Q)) e A) : ai W0 N ((Code.scope c).wpR none P Q) e A := fun a w hF hO => zq.2 (wp_scope_straight (zq.1 (h a w hF hO)))
instance a3C [h : POk Q] : POk (Exit.noGoto Q) := ⟨fun c a d v w k => h.ok c a d v w k⟩
theorem oq (h : ai W0 N (Ex Q .ret) e A) : ai W0 N (Ex (Exit.noGoto Q) .ret) e A := h
theorem Ep {id : Nat} {Post : Value → List HP → Prop} [h : Tk cW L A xr R] (hp : ∃ B, Post (.bool false) B ∧ Ent (cW L { xr with st := .done, pe := some (.exit id) } :: R) B) : ai W0 N (Ex (sD P W0 L Post) (.exit id)) e A := by
 intro a w hF hO
 obtain ⟨fn, tmps, h1, h2, hO1⟩ := (hO.tk (r := cW) (b := L)).loopRec
 obtain ⟨B, hB, hE⟩ := hp
 exact ⟨_, _, run_endRound (some (.exit id)) hO1.has.2, _, B, rfl, hB, Own.ent (Own.toRec (x := { xr with st := .done, pe := some (.exit id) }) h1 h2 (hO1.turn _)) hE⟩
theorem RH {n gf : Nat} {g : Operand} {ps : Array Tmp} {asg body : Code} {lb : List Value} (id : Nat) (Go Stop : List HP → Prop) (hg : ev e g = some (.func (.func gf) #[] lb.toArray))
    (hc : ∀ args w, (callFunc gf args).run P w = .ok (.enter gf args) w)
    (hs : ∀ L D, bc P W0 gf (.func (.yield L) #[] #[] :: lb) (cW L ⟨e, n, ps, asg, body, .ready, none, D⟩ :: pt D (.deferred (some [])) :: A)
      (fun _ B => (∃ C, B = cW L ⟨e, n, ps, asg, body, .ready, none, D⟩ :: pt D (.deferred (some [])) :: C ∧ Go C) ∨ (∃ C, B = cW L ⟨e, n, ps, asg, body, .done, some (.exit id), D⟩ :: pt D (.deferred (some [])) :: C ∧ Stop C)))
    (hgo : ∀ D C, Go C → ai W0 ⟨n, [mj D]⟩ (Ex Q .normal) e (pt D (.deferred (some [])) :: C))
    (hstop : ∀ D C, Stop C → ai W0 ⟨n, [mj D]⟩ (Ex Q (.exit id)) e (pt D (.deferred (some [])) :: C)) :
    ai W0 ⟨n, []⟩ ((Code.rangeFunc g ps asg body).wpR none P Q) e A := by
 intro a w hF hO
 refine wpIn_rangeFunc (F := FW none) (n := 0) ?_
 intro fn _
 have hO1 : Own W0 ((w.alloc (.deferred (some []))).alloc (.loop ((⟨e, n, ps, asg, body, .ready, none, w.heap.size⟩ : RecX).loop fn a.tmps))) (cW (w.heap.size + 1) ⟨e, n, ps, asg, body, .ready, none, w.heap.size⟩ :: pt w.heap.size (.deferred (some [])) :: A) := by
  refine Own.toRec (fn := fn) hF.size hF.at_ ?_
  have h1 := (hO.new (.deferred (some []))).new (.loop ((⟨e, n, ps, asg, body, .ready, none, w.heap.size⟩ : RecX).loop fn a.tmps))
  have e1 : (w.heap.push (.deferred (some []))).size = w.heap.size + 1 := by simp
  simp only [e1] at h1
  exact h1
 have hent := run_enterLoop_outer (P := P) (w := w) fn a.tmps ps asg body
 generalize hW1 : (w.alloc (.deferred (some []))).alloc (.loop ((⟨e, n, ps, asg, body, .ready, none, w.heap.size⟩ : RecX).loop fn a.tmps)) = W1 at hO1
 rw [show (w.alloc (.deferred (some []))).alloc (.loop { state := .ready, pending := none, fn, tmps := a.tmps, params := ps, assign := asg, body, defers := w.heap.size }) = W1 from hW1] at hent
 have hF' : ∀ D, Fr { a with defers := [mj D] ++ a.defers } ⟨n, [mj D]⟩ e := fun D => ⟨by simp [hF.defers], hF.size, hF.at_⟩
 refine ⟨w.heap.size + 1, [{ target := .collected w.heap.size, args := #[] }], W1, { target := .fn (.func gf) lb.toArray, args := #[.func (.yield (w.heap.size + 1)) #[] #[]] }, W1, gf,
   #[.func (.yield (w.heap.size + 1)) #[] #[]] ++ lb.toArray, W1, hent, ?_, fun _ _ => trivial, ?_, fun h => (by cases h), ?_⟩
 have hgv := hF.eval hg
 simp only [resolve, hgv]
 simp [go_sem]
 simp [invoke, go_sem, hc]
 refine wu.2 ?_
 have e2 : (#[.func (.yield (w.heap.size + 1)) #[] #[]] ++ lb.toArray : Array Value) = (.func (.yield (w.heap.size + 1)) #[] #[] :: lb).toArray := by simp
 rw [e2]
 refine Calls.mono (hs (w.heap.size + 1) w.heap.size _ hO1) ?_
 rintro _ w' ⟨v, B, rfl, hp, hO2⟩
 rcases hp with ⟨C, rfl, hC⟩ | ⟨C, rfl, hC⟩
 obtain ⟨fn', tmps', h1, h2, hO3⟩ := hO2.loopRec
 refine ⟨none, _, run_endLoop hO3.has.2 (by simp [RecX.loop]), ?_⟩
 exact hgo _ C hC _ _ (hF' _) (hO3.turn _).drop
 obtain ⟨fn', tmps', h1, h2, hO3⟩ := hO2.loopRec
 refine ⟨some (.exit id), _, run_endLoop hO3.has.2 (by simp [RecX.loop]), ?_⟩
 exact wpIn_exit (hstop _ C hC _ _ (hF' _) (hO3.turn _).drop)
theorem xb {E n c sz : Nat} {a : Option Addr} {ys : List Value} {K : Act → World → Prop} [h : Tk (osl E sz) (.slice a n c) A ys R] (k : n ≤ c ∧ c ≤ maxLen → ai W0 N K e A) : ai W0 N K e A := fun act w hF hO => by
 refine k ?_ act w hF hO
 rcases (hO.tk (r := osl E sz) (b := .slice a n c)).osl with ⟨k1, k2, _⟩ | ⟨g, n', cap, sp, k1, k2, k3, _, _, _⟩
 grind
 grind
theorem sT {a : Option Addr} {ys : List Value} (h : zU a ys) (hne : ys ≠ []) : ∃ g, a = some ⟨g, 0, none⟩ := by
 rcases h with ⟨_, q⟩ | q
 grind
 exact q
end
abbrev dZ (pv ps pm d : Nat) (fr : List ap) (pg : List Pl) (R : List HP) : List HP := pt pv (cp ps pm d) :: bj ps fr :: pt pm (bI pg) :: R
def fK (page : Int) (i : Nat) : Nat := 64 * page.toNat + 4 * (i % 16)
def eK (len : Nat) (pg : List Pl) (page : Int) (i : Nat) : Bool := decide (0 ≤ page ∧ page < 8) && kj len pg (fK page i) 4
theorem re {len : Nat} {pg : List Pl} {page : Int} {i : Nat} : eK len pg page i = true ↔ (0 ≤ page ∧ page < 8) ∧ kj len pg (fK page i) 4 = true := by
 grind [eK]
def eC (fr : List ap) (pg : List Pl) (page : Int) (i : Nat) : Nat := if eK fr.length pg page i then kf (kl fr pg (fK page i) 4) else 0
theorem Er {fr : List ap} (hF : cC fr) (pg : List Pl) (page : Int) (i : Nat) : eC fr pg page i < 4294967296 := by
 unfold eC; split
 grind [uI, Em, fK, x9]
 decide
theorem RI {l : List Nat} (h : l.length = 4) : nj l 0 4 = kf l ∧ qV l 0 4 = 0 := by
 have hi : dL l.length 0 4 = true := fg.2 (by omega)
 constructor
 grind [nj]
 grind [qV]
theorem xd (pv ps pm d : Nat) (fr : List ap) (pg : List Pl) (h : Pgs pg) (hF : cC fr) (page : Int) (i : Nat) (hi : i < 4294967296) : sQ W0 402 [pQ pv, iQ page, .int .u32 i] (dZ pv ps pm d fr pg R) (.tuple #[.int .u32 (eC fr pg page i : Nat), .bool (eK fr.length pg page i)]) (dZ pv ps pm d fr pg R) := by
 refine ab func402 ntmps402 ?_
 refine cA (fun g1_3 => ?_) fun g1_3 => ?_
 refine az ?_
 refine aE ?_
 have hb : eK fr.length pg page i = false := by grind [re]
 simp [aU, eC, hb]
 refine ag (fun c1 => ?_) fun c1 => ?_
 refine az ?_
 refine aE ?_
 have hb : eK fr.length pg page i = false := by grind [re]
 simp [aU, eC, hb]
 obtain ⟨p, rfl⟩ : ∃ p : Nat, page = (p : Int) := ⟨page.toNat, by omega⟩
 have hpa : fK (p : Int) i = 64 * p + 4 * (i % 16) := rfl
 refine a6 (kK (64 * p)) ?_
 refine a6 (cT (dP (by omega))) ?_
 refine a6 (fm rfl rfl (DG hi)) ?_
 refine a6 (kK (4 * (i % 16))) ?_
 refine a6 (dr rfl rfl (by rw [dP (by omega), hpa]; omega : IntKind.wrap .u32 (((64 * p : Nat) : Int) + ((4 * (i % 16) : Nat) : Int)) = ((fK (p : Int) i : Nat) : Int))) ?_
 refine am rfl (dQ call428 (RD pv ps pm d fr pg h hF (fK (p : Int) i) (by omega) 4)) ?_
 rintro _ B_ ⟨a, c, rfl, hB_⟩
 obtain rfl := hB_.symm
 refine aw ?_
 refine ag (fun c4 => ?_) fun c4 => ?_
 have ho : ¬ kj fr.length pg (fK (p : Int) i) 4 = true := c4
 refine az ?_
 refine aE ?_
 have hb : eK fr.length pg p i = false := by rw [← Qaz, re]; rintro ⟨_, q⟩; exact ho q
 simp [aU, eC, hb]
 have ho : kj fr.length pg (fK (p : Int) i) 4 = true := Decidable.not_not.1 c4
 have hb : eK fr.length pg p i = true := re.2 ⟨by omega, ho⟩
 have hrd : oo fr pg (fK (p : Int) i) 4 = kl fr pg (fK (p : Int) i) 4 := by rw [oo, Qaf ho]; rfl
 have hln : (kl fr pg (fK (p : Int) i) 4).length = 4 := x9 _ _ _ _
 obtain ⟨hg1, hg2⟩ := RI hln
 rw [hrd]
 refine pC (E := 5) (sz := 1) (a := a) (c := c) (n := (kl fr pg (fK (p : Int) i) 4).length) (fun hf => ?_)
 obtain ⟨g, rfl⟩ := sT hf (by intro h0; have := Qah List.length h0; rw [ed, hln] at this; simp at this)
 refine xb (E := 5) (sz := 1) (a := some ⟨g, 0, none⟩) (c := c) (n := (kl fr pg (fK (p : Int) i) 4).length) (fun hcap => ?_)
 refine aw ?_
 refine ac (ao call309 (DN W0 _ g 0 c (kl fr pg (fK (p : Int) i) 4) 0 4 (uE (E := 5) (sz := 1) (a := some ⟨g, 0, none⟩) (c := c) (n := (kl fr pg (fK (p : Int) i) 4).length)) (Em hF _ _ _) hcap.1 (DU hcap.2))) ?_
 rw [hg1, hg2]
 refine az ?_
 refine aE ?_
 simp [aU, eC, hb]
structure WS where
  on : Bool
  r : Int
  p : Int
  fault : Int
  root : Int
  leaf : Int
@[reducible] def pH (s : WS) : List Value := [.bool s.on, .int .i64 s.r, .int .i64 s.p, .int .i64 s.fault, .int .i64 s.root, .int .i64 s.leaf]
def ot : WS := ⟨false, 0, 0, 0, -1, -1⟩
abbrev pI (pv va : Nat) (s : WS) : Obj := a7 (.pointer (some ⟨pv, 0, none⟩) :: .int .u32 va :: pH s) 478
theorem Es (x : Int) : (x != 0) = !decide (x = 0) := by by_cases q : x = 0 <;> simp [q]
theorem uT (bw pv va : Nat) (s : WS) (f : Int) : sQ W0 377 [pQ bw, iQ f] (pt bw (pI pv va s) :: R) (.bool (f != 0)) (pt bw (pI pv va { s with fault := f }) :: R) := by
 refine ab func377 ntmps377 ?_
 refine ax dy ?_
 exact a8 aj
def km (fr : List ap) (pg : List Pl) (va : Nat) (a : Int) (s : WS) : WS :=
  if eK fr.length pg a (va / 1024) then { s with root := a, fault := qU (eC fr pg a (va / 1024)) } else { s with fault := 3 }
def eZ (fr : List ap) (pg : List Pl) (va : Nat) (a : Int) : Int := if eK fr.length pg a (va / 1024) then uJ (eC fr pg a (va / 1024)) else 0
def iW (fr : List ap) (pg : List Pl) (va : Nat) (a : Int) : Bool := eK fr.length pg a (va / 1024) && decide (qU (eC fr pg a (va / 1024)) = 0)
theorem Et {w : Nat} : kI .u32 w 10 = ((w / 1024 : Nat) : Int) := lm (s := 10) (by decide)
theorem Eu {w : Nat} : kI .u32 w 6 = ((w / 64 : Nat) : Int) := lm (s := 6) (by decide)
theorem RJ (bw pv ps pm d : Nat) (fr : List ap) (pg : List Pl) (h : Pgs pg) (hF : cC fr) (va : Nat) (hva : va < 4294967296) (s : WS) (a : Int) : sQ W0 379 [pQ bw, iQ a] (pt bw (pI pv va s) :: dZ pv ps pm d fr pg R) (.tuple #[iQ (eZ fr pg va a), .bool (iW fr pg va a)]) (pt bw (pI pv va (km fr pg va a s)) :: dZ pv ps pm d fr pg R) := by
 by_cases hb : eK fr.length pg a (va / 1024) = true
 rw [eZ, Qaf hb, km, Qaf hb, iW, hb, Qbr]
 refine ab func379 ntmps379 ?_
 refine bB [bw] 16 fun hS => ?_
 refine ae 0 9 hS ?_
 refine av 9 hS (jo rfl rfl (by decide) Et) ?_
 refine bJ 10 (dQ Cn (xd pv ps pm d fr pg h hF a (va / 1024) (by omega))) fun hS => ?_
 refine ae 11 5 hS ?_
 refine aI ?_
 refine ag (fun c2 => ?_) fun c2 => ?_
 exact absurd hb c2
 refine ax dy ?_
 refine ac (ao call403 (QE (eC fr pg a (va / 1024)) (Er hF _ _ _))) ?_
 refine ac (ah zb (uT bw pv va { s with root := a } _)) ?_
 refine az ?_
 refine aE ?_
 simp [aU]
 exact Es _
 have hb' : eK fr.length pg a (va / 1024) = false := by grind
 rw [eZ, Qac hb, km, Qac hb, iW, hb', Bool.false_and]
 refine ab func379 ntmps379 ?_
 refine bB [bw] 16 fun hS => ?_
 refine ae 0 9 hS ?_
 refine av 9 hS (jo rfl rfl (by decide) Et) ?_
 refine bJ 10 (dQ Cn (xd pv ps pm d fr pg h hF a (va / 1024) (by omega))) fun hS => ?_
 refine ae 11 5 hS ?_
 refine aI ?_
 refine ag (fun c2 => ?_) fun c2 => ?_
 refine ac (ah zb (uT bw pv va _ _)) ?_
 exact az aj
 exact absurd (by rw [hb']; decide) c2
def ou (fr : List ap) (pg : List Pl) (va : Nat) (a : Int) (s : WS) : WS :=
  if eK fr.length pg a (va / 64) then { s with leaf := a, on := od (eC fr pg a (va / 64)), r := oe (eC fr pg a (va / 64)), p := oi (eC fr pg a (va / 64)), fault := oj (eC fr pg a (va / 64)) } else { s with fault := 3 }
def xe (fr : List ap) (pg : List Pl) (va : Nat) (a : Int) : Bool := eK fr.length pg a (va / 64) && decide (oj (eC fr pg a (va / 64)) = 0)
theorem RL (bw pv ps pm d : Nat) (fr : List ap) (pg : List Pl) (h : Pgs pg) (hF : cC fr) (va : Nat) (hva : va < 4294967296) (s : WS) (a : Int) : sQ W0 381 [pQ bw, iQ a] (pt bw (pI pv va s) :: dZ pv ps pm d fr pg R) (.bool (xe fr pg va a)) (pt bw (pI pv va (ou fr pg va a s)) :: dZ pv ps pm d fr pg R) := by
 by_cases hb : eK fr.length pg a (va / 64) = true
 rw [ou, Qaf hb, xe, hb, Qbr]
 refine ab func381 ntmps381 ?_
 refine bB [bw] 16 fun hS => ?_
 refine ae 0 9 hS ?_
 refine av 9 hS (jo rfl rfl (by decide) Eu) ?_
 refine bJ 10 (dQ Cn (xd pv ps pm d fr pg h hF a (va / 64) (by omega))) fun hS => ?_
 refine ae 11 5 hS ?_
 refine aI ?_
 refine ag (fun c2 => ?_) fun c2 => ?_
 exact absurd hb c2
 refine ax dy ?_
 refine ac (ao call404 (QG (eC fr pg a (va / 64)) (Er hF _ _ _))) ?_
 rw [uK]
 refine bu fun b1 => ?_
 refine ax aC ?_
 refine ax (gK (Qaa rfl) SetRL.eq) ?_
 refine ac (ah zb (uT bw pv va { s with leaf := a, on := od (eC fr pg a (va / 64)), r := oe (eC fr pg a (va / 64)), p := oi (eC fr pg a (va / 64)) } _)) ?_
 refine a8 ?_
 refine aE ?_
 simp [aU]
 exact Es _
 have hb' : eK fr.length pg a (va / 64) = false := by grind
 rw [ou, Qac hb, xe, hb', Bool.false_and]
 refine ab func381 ntmps381 ?_
 refine bB [bw] 16 fun hS => ?_
 refine ae 0 9 hS ?_
 refine av 9 hS (jo rfl rfl (by decide) Eu) ?_
 refine bJ 10 (dQ Cn (xd pv ps pm d fr pg h hF a (va / 64) (by omega))) fun hS => ?_
 refine ae 11 5 hS ?_
 refine aI ?_
 refine ag (fun c2 => ?_) fun c2 => ?_
 refine ac (ah zb (uT bw pv va _ _)) ?_
 exact a8 aj
 exact absurd (by rw [hb']; decide) c2
def eL (fr : List ap) (pg : List Pl) (root : Int) (va : Nat) : Nat → WS × Int
 | 0 => (ot, root)
 | 1 => (if va < 16384 then ot else { ot with fault := 2 }, root)
 | 2 => (km fr pg va root ot, eZ fr pg va root)
 | _ => (ou fr pg va (eZ fr pg va root) (km fr pg va root ot), eZ fr pg va root)
def jw (fr : List ap) (pg : List Pl) (root : Int) (va : Nat) : Nat → Bool
 | 0 => decide (va < 16384)
 | 1 => iW fr pg va root
 | _ => xe fr pg va (eZ fr pg va root)
def bO (fr : List ap) (pg : List Pl) (root : Int) (va : Nat) : WS :=
  if va < 16384 then (if iW fr pg va root then (eL fr pg root va 3).1 else (eL fr pg root va 2).1) else (eL fr pg root va 1).1
abbrev ov (bva bwp bat bw pv ps pm d : Nat) (fr : List ap) (pg : List Pl) (va : Nat) (q : WS × Int) (R : List HP) : List HP :=
  pt bva (a7 [.int .u32 va] 46) :: pt bwp (a7 [.pointer (some ⟨bw, 0, none⟩)] 476) :: pt bat (a7 [.int .i64 q.2] 3) :: pt bw (pI pv va q.1) :: dZ pv ps pm d fr pg R
theorem RN (W0 : World) (R : List HP) (bva bwp bat bw pv ps pm d : Nat) (fr : List ap) (pg : List Pl) (root : Int) (va : Nat) :
    bc Tryz.prog W0 376 [.pointer (some ⟨bva, 0, none⟩), .pointer (some ⟨bwp, 0, none⟩)] (ov bva bwp bat bw pv ps pm d fr pg va (eL fr pg root va 0) R)
      (fun v B => v = .bool (jw fr pg root va 0) ∧ B = ov bva bwp bat bw pv ps pm d fr pg va (eL fr pg root va 1) R) := by
 refine lk func376 ntmps376 rfl rfl ?_
 refine aP (aZ (aa rfl (bC rfl) (aN (aD (aP (aZ (aa rfl (bW l8 rfl (aF rfl)) ?_)))))))
 refine aa rfl (mR rfl rfl) (aa rfl (aL rfl) ?_)
 refine cR rfl rfl rfl (fun g1_3 => ?_) fun g1_3 => ?_
 refine lM rfl rfl rfl rfl ?_
 refine lM rfl rfl rfl rfl (aa rfl (qA rfl rfl) (aa rfl (bC rfl) (aN (aD (dT (bM (.inl rfl) (.cons (bz rfl) .nil) ?_))))))
 first
   | (have hv : va < 16384 := by omega
      simp only [eL, jw, Qaf hv, Qak hv]
      exact ⟨_, ⟨rfl, rfl⟩, inferInstance⟩)
   | (have hv : ¬ va < 16384 := by omega
      simp only [eL, jw, Qac hv, Qaq hv]
      exact ⟨_, ⟨rfl, rfl⟩, inferInstance⟩)
 refine aa rfl (bW isAgg476 rfl (aF rfl)) ?_
 refine dw rfl rfl (am rfl (lh zb rfl (uT bw pv va ot 2)) ?_)
 rintro _ B_ ⟨rfl, hB_⟩
 obtain rfl := hB_.symm
 refine dw rfl rfl (aa rfl (pn rfl) (aa rfl (j6 rfl rfl) (aa rfl (bC rfl) (aN (aD (dT (bM (.inl rfl) (.cons (bz rfl) .nil) ?_)))))))
 first
   | (have hv : va < 16384 := by omega
      simp only [eL, jw, Qaf hv, Qak hv]
      exact ⟨_, ⟨rfl, rfl⟩, inferInstance⟩)
   | (have hv : ¬ va < 16384 := by omega
      simp only [eL, jw, Qac hv, Qaq hv]
      exact ⟨_, ⟨rfl, rfl⟩, inferInstance⟩)
theorem RO (bva bwp bat bw pv ps pm d : Nat) (fr : List ap) (pg : List Pl) (h : Pgs pg) (hF : cC fr) (root : Int) (va : Nat) (hva : va < 16384) : sQ W0 378 [.pointer (some ⟨bwp, 0, none⟩), .pointer (some ⟨bat, 0, none⟩)] (ov bva bwp bat bw pv ps pm d fr pg va (eL fr pg root va 1) R) (.bool (jw fr pg root va 1)) (ov bva bwp bat bw pv ps pm d fr pg va (eL fr pg root va 2) R) := by
 simp only [eL, jw, Qaf hva]
 refine js 9 func378 ntmps378 ?_
 refine dK 10 (ng call379 rfl (RJ bw pv ps pm d fr pg h hF va (by omega) ot root)) ?_
 refine iT 9 (ka aO rfl rfl rfl (Qaa rfl) SetL.eq) ?_
 exact a8 aj
theorem RP (bva bwp bat bw pv ps pm d : Nat) (fr : List ap) (pg : List Pl) (h : Pgs pg) (hF : cC fr) (root : Int) (va : Nat) (hva : va < 16384) : sQ W0 380 [.pointer (some ⟨bwp, 0, none⟩), .pointer (some ⟨bat, 0, none⟩)] (ov bva bwp bat bw pv ps pm d fr pg va (eL fr pg root va 2) R) (.bool (jw fr pg root va 2)) (ov bva bwp bat bw pv ps pm d fr pg va (eL fr pg root va 3) R) := by
 simp only [eL, jw]
 refine js 9 func380 ntmps380 ?_
 refine dK 4 (ng call381 rfl (RL bw pv ps pm d fr pg h hF va (by omega) _ (eZ fr pg va root))) ?_
 exact a8 aj
def sV (bva bwp bat : Nat) : List Value := [.func (.func 376) #[] #[.pointer (some ⟨bva, 0, none⟩), .pointer (some ⟨bwp, 0, none⟩)], .func (.func 378) #[] #[.pointer (some ⟨bwp, 0, none⟩), .pointer (some ⟨bat, 0, none⟩)], .func (.func 380) #[] #[.pointer (some ⟨bwp, 0, none⟩), .pointer (some ⟨bat, 0, none⟩)]]
theorem RQ {W0 : World} {N : FSz} {e : aH} {R : List HP} {bva bwp bat bw pv ps pm d : Nat} {fr : List ap} {pg : List Pl} {root : Int} {va i : Nat} {fx : Operand} {v : Value} (h : Pgs pg) (hF : cC fr) (hi : i < 3) (hal : ∀ m, m < i → jw fr pg root va m = true) (hv : (sV bva bwp bat)[i]? = some v) (hx : ev e fx = some v) :
    cn Tryz.prog W0 N e (ov bva bwp bat bw pv ps pm d fr pg va (eL fr pg root va i) R) (.call { callee := .value fx, args := #[], argTypes := #[] }) (fun v B => v = .bool (jw fr pg root va i) ∧ B = ov bva bwp bat bw pv ps pm d fr pg va (eL fr pg root va (i + 1)) R) := by
 have h3 : i = 0 ∨ i = 1 ∨ i = 2 := by omega
 rcases h3 with rfl | rfl | rfl
 cases hv
 exact gx (us := []) (vs := []) (cs := [pQ bva, pQ bwp]) hx call376 rfl (RN W0 R bva bwp bat bw pv ps pm d fr pg root va)
 cases hv
 have hva : va < 16384 := Qas (hal 0 (by decide))
 exact gx (us := []) (vs := []) (cs := [pQ bwp, pQ bat]) hx call378 rfl (RO bva bwp bat bw pv ps pm d fr pg h hF root va hva)
 cases hv
 have hva : va < 16384 := Qas (hal 0 (by decide))
 exact gx (us := []) (vs := []) (cs := [pQ bwp, pQ bat]) hx call380 rfl (RP bva bwp bat bw pv ps pm d fr pg h hF root va hva)
theorem RR {fr : List ap} {pg : List Pl} {root : Int} {va i : Nat} (hi : i < 3) (hal : ∀ m, m < i → jw fr pg root va m = true) (hst : jw fr pg root va i = false) : bO fr pg root va = (eL fr pg root va (i + 1)).1 := by
 have h3 : i = 0 ∨ i = 1 ∨ i = 2 := by omega
 rcases h3 with rfl | rfl | rfl
 have : ¬ va < 16384 := of_decide_eq_false hst
 rw [bO, Qac this]
 have hva : va < 16384 := Qas (hal 0 (by decide))
 have : ¬ iW fr pg va root = true := by rw [show iW fr pg va root = false from hst]; decide
 rw [bO, Qaf hva, Qac this]
 have hva : va < 16384 := Qas (hal 0 (by decide))
 rw [bO, Qaf hva, Qaf (show iW fr pg va root = true from hal 1 (by decide))]
theorem RS {fr : List ap} {pg : List Pl} {root : Int} {va : Nat} (hal : ∀ m, m < 3 → jw fr pg root va m = true) : bO fr pg root va = (eL fr pg root va 3).1 := by
 have hva : va < 16384 := Qas (hal 0 (by decide))
 rw [bO, Qaf hva, Qaf (show iW fr pg va root = true from hal 1 (by decide))]
theorem Ag (pv ps pm d : Nat) (fr : List ap) (pg : List Pl) (h : Pgs pg) (hF : cC fr) (root : Int) (va : Nat) (hva : va < 4294967296) : sQ W0 341 [pQ pv, iQ root, .int .u32 va] (dZ pv ps pm d fr pg R) (.agg (pH (bO fr pg root va)).toArray) (dZ pv ps pm d fr pg R) := by
 refine ab func341 ntmps341 ?_
 refine d7 (iw rfl rfl) fun b1 => ?_
 refine dX (dt Ch) fun b2 => ?_
 refine au 2 ?_
 refine Af (aw ?_)
 refine a6 (fw a1S zeroValue478 (aM yT (aM bF (aM tX fq))) (cQ rfl yT rfl rfl (Qaa rfl) SetL.eq (cQ rfl bF rfl rfl (Qaa rfl) SetL.eq (iP rfl tX rfl rfl (Qaa rfl) SetRL.eq fp)))) ?_
 refine aS fun b3 => ?_
 refine d7 (o8 zeroValue476 rfl) fun b4 => ?_
 refine ax dy ?_
 refine d7 (o8 me rfl) fun b5 => ?_
 refine ax dy ?_
 refine dX (jG a1T sizeOf30 zeroValue30 rfl rfl rfl rfl rfl (by decide) (by decide)) fun b6 => ?_
 refine au 4 ?_
 refine zv (aw ?_)
 refine fQ (fun i : Nat => i ≤ 3 ∧ ∀ m, m < i → jw fr pg root va m = true) (fun i => [(6, pQ b2), (7, pQ b4), (22, .slice (some ⟨b6, 0, none⟩) 3 3), (23, iQ 3), (24, iQ i)]) (fun i => pt b6 (a7 (sV b1 b4 b5) 30) :: pt b2 (a7 (pH ⟨false, 0, 0, 0, 0, 0⟩) 402) :: ov b1 b4 b5 b3 pv ps pm d fr pg va (eL fr pg root va i) R) (fun i => 3 - i) 0 ?_ ?_ ?_ ?_
 grind
 · repeat (first | exact ci | refine bQ rfl ?_)
 show Ent (pt b6 (a7 (sV b1 b4 b5) 30) :: pt b5 (a7 [iQ (eL fr pg root va 0).2] 3) :: pt b4 (a7 [pQ b3] 476) :: pt b3 (pI pv va (eL fr pg root va 0).1) :: pt b2 (a7 (pH ⟨false, 0, 0, 0, 0, 0⟩) 402) :: pt b1 (a7 [.int .u32 va] 46) :: dZ pv ps pm d fr pg R) _
 exact IO
 intro i ⟨hi, hal⟩
 refine aw ?_
 refine ag (fun c5 => ?_) fun c5 => ?_
 obtain ⟨fv, hfv⟩ : ∃ v, (sV b1 b4 b5)[i]? = some v := ⟨(sV b1 b4 b5)[i]'(by show i < 3; omega), by simp⟩
 refine a6 (bA (by omega)) ?_
 refine a6 (aG (aF (by rw [QaA]; exact hfv))) ?_
 refine ac (pw inferInstance (RQ (R := pt b6 (a7 (sV b1 b4 b5) 30) :: pt b2 (a7 (pH ⟨false, 0, 0, 0, 0, 0⟩) 402) :: R) (bva := b1) (bwp := b4) (bat := b5) (bw := b3) (pv := pv) (ps := ps) (pm := pm) (d := d) h hF (by omega) hal hfv rfl)) ?_
 refine ag (fun c7 => ?_) fun c7 => ?_
 have hst : jw fr pg root va i = false := by grind
 have hres := RR (by omega) hal hst
 refine a6 (qD Co tX rfl TakeL.eq rfl) ?_
 refine iT 3 aC ?_
 refine oq (bi (.cons (bD Co tX rfl rfl) .nil) ?_)
 rw [hres]
 exact aj
 have hst : jw fr pg root va i = true := Decidable.not_not.1 c7
 refine a6 bS ?_
 refine bE (i + 1) ?_
 grind
 obtain rfl : i = 3 := by omega
 have hres := RS hal
 refine a6 (qD Co tX rfl TakeL.eq rfl) ?_
 refine iT 3 aC ?_
 refine oq (bi (.cons (bD Co tX rfl rfl) .nil) ?_)
 rw [hres]
 exact aj
def lS (n : Nat) (pg : List Pl) (pa : Nat) (w kind : Int) : Int := if ee n pg pa w kind = 0 then ((pa / 64 : Nat) : Int) else 0
def lr (n : Nat) (pg : List Pl) (pa : Nat) (w kind : Int) : Int := if ee n pg pa w kind = 0 then (cy pg ((pa / 64 : Nat) : Int)).1 else 0
def lu (n : Nat) (pg : List Pl) (pa : Nat) (w kind : Int) : Int := if ee n pg pa w kind = 0 then ((pa % 64 : Nat) : Int) else 0
theorem Ev {n : Nat} {pg : List Pl} {pa : Nat} {w kind : Int} : mn n pg pa w kind = [iQ (lS n pg pa w kind), iQ (lr n pg pa w kind), iQ (lu n pg pa w kind), .bool false] := by
 grind [mn, lS, lr, lu]
theorem RU (w : Nat) : gP w < 32 := by unfold gP; split <;> omega
theorem RV (w : Nat) : oi w < 32 := by unfold oi; split; decide; exact RU w
theorem RX (fr : List ap) (pg : List Pl) (va : Nat) (a : Int) : (km fr pg va a ot).p = 0 := by unfold km; split <;> rfl
theorem xf (fr : List ap) (pg : List Pl) (root : Int) (va : Nat) : ∃ k : Nat, (bO fr pg root va).p = (k : Int) ∧ k < 32 := by
 unfold bO
 split
 grind [eL, ou, RV, RX]
 simp only [eL]; split <;> exact ⟨0, rfl, by decide⟩
def nk (s : WS) (kind : Int) (user : Bool) : Bool := ml kind && (dY s.r (iV kind) && (!user || dY s.r 8)) && s.on
theorem Ew {s : WS} {kind : Int} {user : Bool} : nk s kind user = true ↔ (ml kind = true ∧ dY s.r (iV kind) = true ∧ (¬ user = true ∨ dY s.r 8 = true)) ∧ s.on = true := by simp [nk]
def jJ (s : WS) (va : Nat) : Nat := 64 * s.p.toNat + va % 64
def gB (fr : List ap) (pg : List Pl) (on : Bool) (root : Int) (user : Bool) (va : Nat) (kind : Int) : Int :=
  if on then (if (bO fr pg root va).fault ≠ 0 then (bO fr pg root va).fault else if nk (bO fr pg root va) kind user then ee fr.length pg (jJ (bO fr pg root va) va) 1 kind else 6) else ee fr.length pg va 1 kind
def eM (g : Nat → List Pl → Nat → Int → Int → Int) (fr : List ap) (pg : List Pl) (on : Bool) (root : Int) (user : Bool) (va : Nat) (kind : Int) : Int :=
  if on then (if (bO fr pg root va).fault ≠ 0 then 0 else if nk (bO fr pg root va) kind user then g fr.length pg (jJ (bO fr pg root va) va) 1 kind else 0) else g fr.length pg va 1 kind
@[reducible] def uU (fr : List ap) (pg : List Pl) (on : Bool) (root : Int) (user : Bool) (va : Nat) (kind : Int) : List Value :=
  [.int .i64 (eM lS fr pg on root user va kind), .int .i64 (eM lr fr pg on root user va kind), .int .i64 (eM lu fr pg on root user va kind), .bool false]
theorem Ey {w : Nat} (h : w < 4294967296) : eU .u32 w 63 = ((w % 64 : Nat) : Int) := by
 have := ll (a := w) (b := 63) h (by decide)
 rw [show w &&& 63 = w % 64 from qS (n := 6)] at this
 exact this
@[reducible] def rf (on : Bool) (root : Int) (user : Bool) : List Value := [.bool on, .int .i64 root, .bool user]
theorem xg (pv ps pm d : Nat) (fr : List ap) (pg : List Pl) (h : Pgs pg) (hF : cC fr) (on : Bool) (root : Int) (user : Bool) (va : Nat) (hva : va < 4294967296) (kind : Int) : sQ W0 305 [pQ pv, .agg (rf on root user).toArray, .int .u32 va, iQ kind] (dZ pv ps pm d fr pg R) (.tuple #[.agg (uU fr pg on root user va kind).toArray, iQ (gB fr pg on root user va kind)]) (dZ pv ps pm d fr pg R) := by
 obtain ⟨s, hs⟩ : ∃ s, bO fr pg root va = s := ⟨_, rfl⟩
 obtain ⟨k, hk, hk32⟩ := xf fr pg root va
 rw [hs] at hk
 simp only [uU, eM, gB, hs]
 refine ab func305 ntmps305 ?_
 refine aS fun b1 => ?_
 refine bu fun b2 => ?_
 refine ag (fun c1 => ?_) fun c1 => ?_
 refine ac (dQ Cl (wX pv ps pm d fr pg h va hva 1 kind)) ?_
 rw [Ev]
 refine ax aC ?_
 refine bi (.cons (bD ek dI rfl rfl) (.cons (bz rfl) .nil)) ?_
 refine aE ?_
 have ho : on = false := by grind
 subst ho; rfl
 refine ac (dQ IG (Ag pv ps pm d fr pg h hF root va hva)) ?_
 rw [hs]
 have ho : on = true := by grind
 subst ho
 refine bu fun b3 => ?_
 refine ax aC ?_
 refine ag (fun c4 => ?_) fun c4 => ?_
 refine bB [b3] 5 fun hS => ?_
 refine ae 0 3 hS ?_
 refine cq 3 aC fun hS => ?_
 refine ae 4 1 hS ?_
 refine aI ?_
 refine bi (.cons (bD ek dI rfl rfl) (.cons (bz rfl) .nil)) ?_
 refine aE ?_
 rw [Qaf rfl, Qaf rfl, Qaf rfl, Qaf rfl, Qaf c4, Qaf c4, Qaf c4, Qaf c4]; rfl
 refine a6 (qD s0 s7 rfl TakeL.eq rfl) ?_
 refine ac (ao call342 (DL s.on s.r s.p kind user)) ?_
 refine ag (fun c6 => ?_) fun c6 => ?_
 refine ax aC ?_
 refine bi (.cons (bD ek dI rfl rfl) (.cons (bz rfl) .nil)) ?_
 refine aE ?_
 have ha : ¬ nk s kind user = true := fun q => c6 (Ew.1 q)
 rw [Qaf rfl, Qaf rfl, Qaf rfl, Qaf rfl, Qac c4, Qac c4, Qac c4, Qac c4, Qac ha, Qac ha, Qac ha, Qac ha]; rfl
 have hpa : jJ s va = 64 * k + va % 64 := by rw [jJ, hk]; rfl
 rw [show pH s = [.bool s.on, iQ s.r, iQ (k : Int), iQ s.fault, iQ s.root, iQ s.leaf] by rw [← hk]]
 refine a6 (kK (64 * k)) ?_
 refine a6 (cT (dP (by omega))) ?_
 refine a6 (fm rfl rfl (Ey hva)) ?_
 refine a6 (dr rfl rfl (by rw [dP (by omega), hpa]; omega : IntKind.wrap .u32 (((64 * k : Nat) : Int) + ((va % 64 : Nat) : Int)) = ((jJ s va : Nat) : Int))) ?_
 refine ac (dQ Cl (wX pv ps pm d fr pg h (jJ s va) (by omega) 1 kind)) ?_
 rw [Ev]
 refine ax aC ?_
 refine bi (.cons (bD ek dI rfl rfl) (.cons (bz rfl) .nil)) ?_
 refine aE ?_
 have ha : nk s kind user = true := Ew.2 (Decidable.not_not.1 c6)
 rw [Qaf rfl, Qaf rfl, Qaf rfl, Qaf rfl, Qac c4, Qac c4, Qac c4, Qac c4, Qaf ha, Qaf ha, Qaf ha, Qaf ha]; rfl
@[reducible] def RY (x : Nat) : List Value := [.int .u32 x]
end
section
open Go.ChangeShapes Go.WideShapes Go.ChangeAt Go.RowKit
set_option linter.unusedSimpArgs false
set_option linter.unusedVariables false
variable {W : World} {v : Value}
theorem RZ {fuel : Nat} {l : List Value} (h : fI Tryz.prog W fuel 46 l) : ∃ x : Nat, l = RY x ∧ x < 4294967296 := by
 obtain ⟨n, rfl, hw⟩ := jr qu h
 obtain ⟨w, rfl, h'⟩ := JR hw
 exact ⟨w, rfl, h'⟩
end
section
structure Ins where
  op : Nat
  d : Nat
  a : Nat
  b : Nat
  im : Int
deriving DecidableEq
def rh (w : Nat) : Int := if w / 262144 < 8192 then ((w / 262144 : Nat) : Int) else ((w / 262144 : Nat) : Int) - 16384
def fV (w : Nat) : Ins := ⟨w % 64, w / 64 % 16, w / 1024 % 16, w / 16384 % 16, rh w⟩
def uV : List Nat := [0, 7, 7, 7, 7, 7, 7, 7, 7, 7, 7, 7, 7, 7, 11, 11, 11, 11, 11, 11, 11, 11, 9, 11, 11, 11, 14, 14, 14, 14, 14, 14, 9, 11, 0, 0, 0, 9, 10, 0, 0, 0]
def lT (op : Nat) : Nat := uV.getD op 0
def ow (op : Nat) : Bool := decide (1 ≤ op ∧ op ≤ 41)
def oy (may : Bool) (n : Nat) : Bool := if may then decide (n < 16) else decide (n = 0)
def eN (op : Nat) (n : Int) : Bool :=
  if op = 18 ∨ op = 19 ∨ op = 20 then decide (0 ≤ n ∧ n ≤ 31)
  else if op = 37 ∨ op = 38 then decide (0 ≤ n ∧ n < 9)
  else if lT op / 8 % 2 = 0 then decide (n = 0)
  else decide (-8192 ≤ n ∧ n ≤ 8191)
def jx (i : Ins) : Bool := ow i.op && oy (lT i.op % 2 != 0) i.d && oy (lT i.op / 2 % 2 != 0) i.a && oy (lT i.op / 4 % 2 != 0) i.b && eN i.op i.im
theorem Ez (w : Nat) : (fV w).op < 64 ∧ (fV w).d < 16 ∧ (fV w).a < 16 ∧ (fV w).b < 16 := by
 grind [fV]
theorem S0 {w : Nat} (h : w < 4294967296) : -8192 ≤ rh w ∧ rh w ≤ 8191 := by
 grind [rh]
theorem xh {i : Ins} (h : jx i = true) : (1 ≤ i.op ∧ i.op ≤ 41) ∧ i.d < 16 ∧ i.a < 16 ∧ i.b < 16 ∧ eN i.op i.im = true := by
 simp only [jx, Qar] at h
 obtain ⟨⟨⟨⟨h1, h2⟩, h3⟩, h4⟩, h5⟩ := h
 have key : ∀ m n, oy m n = true → n < 16 := fun m n q => by
  unfold oy at q
  split at q
  grind
  grind
 exact ⟨Qas h1, key _ _ h2, key _ _ h3, key _ _ h4, h5⟩
def u32 (n : Int) : Nat := (n % 4294967296).toNat
theorem dC (x : Int) : u32 x < 4294967296 := by unfold u32; omega
theorem g8 (x : Int) : IntKind.wrap .u32 x = ((u32 x : Nat) : Int) := by
 simp only [IntKind.wrap, IntKind.bits, IntKind.signed, u32]; simp; omega
theorem Ah {n : Nat} (h : n < 4294967296) : u32 (n : Int) = n := by unfold u32; omega
def mq (a : Nat) : Int := IntKind.wrap .i32 (a : Int)
def oz (p : Bool) : Nat := if p then 1 else 0
theorem EA (p : Bool) : oz p < 4294967296 := by cases p <;> decide
def lv (op a b : Nat) : Nat :=
  if op = 1 then u32 ((a : Int) + b)
  else if op = 2 then u32 ((a : Int) - b)
  else if op = 3 then a &&& b
  else if op = 4 then a ||| b
  else if op = 5 then u32 (qC .u32 (a : Int) (b : Int))
  else if op = 6 then u32 (iO .u32 (a : Int) ((b % 32 : Nat) : Int))
  else if op = 7 then a / 2 ^ (b % 32)
  else if op = 8 then u32 (kI .i32 (mq a) ((b % 32 : Nat) : Int))
  else if op = 9 then oz (decide (mq a < mq b))
  else if op = 10 then oz (decide (a < b))
  else if op = 11 then u32 ((a : Int) * b)
  else if op = 12 then (if b = 0 then 4294967295 else a / b)
  else if b = 0 then a else a % b
theorem kQ {p : Prop} [Decidable p] {a b M : Nat} (h1 : p → a < M) (h2 : ¬ p → b < M) : (if p then a else b) < M := by
 grind
theorem xi {op a b : Nat} (ha : a < 4294967296) (hb : b < 4294967296) : lv op a b < 4294967296 := by
 unfold lv
 refine kQ (fun _ => dC _) fun _ => kQ (fun _ => dC _) fun _ => kQ (fun _ => QaM Qbu ha) fun _ => kQ (fun _ => Nat.or_lt_two_pow (n := 32) ha hb) fun _ => kQ (fun _ => dC _) fun _ => kQ (fun _ => dC _) fun _ => kQ (fun _ => QaM (Qck _ _) ha) fun _ => kQ (fun _ => dC _) fun _ => kQ (fun _ => EA _) fun _ => kQ (fun _ => EA _) fun _ => kQ (fun _ => dC _) fun _ => ?_
 refine kQ (fun _ => kQ (fun _ => by decide) fun _ => QaM (Qck _ _) ha) fun _ => kQ (fun _ => ha) fun _ => QaM (Nat.mod_le _ _) ha
def i6 (op : Nat) : Nat := if op = 14 then 1 else if op = 21 then 9 else op - 12
def uW (op a b : Nat) : Bool :=
  if op = 28 then decide (a = b) else if op = 29 then decide (a ≠ b) else if op = 30 then decide (mq a < mq b) else decide (a < b)
def uX (im : Int) : Nat := u32 (iO .u32 ((u32 im : Nat) : Int) 18)
def dD (l : List Nat) (i : Nat) : Nat := l.getD i 0
def pJ (l : List Nat) (b : Nat) : Bool := dD l 5 &&& b != 0
def eg (l : List Nat) : Bool := pJ l 4
def ri (l : List Nat) : Bool := dD l 1 != 0 && pJ l 1
def np (l : List Nat) (s fb tb : Nat) : Nat := if pJ l fb then s ||| tb else s
def nq (l : List Nat) (s f0 t0 f1 t1 : Nat) : Nat := np l (np l s f0 t0) f1 t1
def oA (l : List Nat) (pc cause tval : Nat) : List Nat := ((l.set 2 pc).set 3 cause).set 4 tval
def rj (l : List Nat) (pc cause tval : Nat) : List Nat := (oA l pc cause tval).set 5 (nq l 4 1 2 4 8)
def pK (l : List Nat) : List Nat := l.set 5 (nq l (dD l 5 &&& 10) 2 1 8 4)
def pL (l : List Nat) (id clock n : Nat) : Nat := if n = 7 then u32 clock else if n = 8 then id else dD l n
def kR (n v : Nat) : Nat := if n = 0 then v &&& 7937 else if n = 5 then v &&& 15 else v
def jK (l : List Nat) : Bool := dD l 0 &&& 1 != 0
def jL (l : List Nat) : Nat := dD l 0 / 256 &&& 31
structure CsOk (l : List Nat) : Prop where
  len : l.length = 7
  lt : ∀ x ∈ l, x < 4294967296
theorem CsOk.at_ {l : List Nat} (h : CsOk l) (i : Nat) : dD l i < 4294967296 := by
 unfold dD
 rw [Qau]
 cases hq : l[i]? with
 | none => decide
 | some v => exact h.lt v (Qcq hq)
theorem CsOk.set {l : List Nat} (h : CsOk l) (i v : Nat) (hv : v < 4294967296) : CsOk (l.set i v) := ⟨by rw [Qao, h.len], fun x hx => by
 rcases List.mem_or_eq_of_mem_set hx with q | q
 exact h.lt x q
 rw [q]; exact hv⟩
theorem Ai {l : List Nat} {s fb tb : Nat} (hs : s < 4294967296) (ht : tb < 4294967296) : np l s fb tb < 4294967296 := by
 unfold np; split
 exact Nat.or_lt_two_pow (n := 32) hs ht
 exact hs
theorem Aj {l : List Nat} {s f0 t0 f1 t1 : Nat} (hs : s < 4294967296) (h0 : t0 < 4294967296) (h1 : t1 < 4294967296) : nq l s f0 t0 f1 t1 < 4294967296 := Ai (Ai hs h0) h1
theorem CsOk.trap {l : List Nat} (h : CsOk l) {pc cause tval : Nat} (h1 : pc < 4294967296) (h2 : cause < 4294967296) (h3 : tval < 4294967296) : CsOk (oA l pc cause tval) := ((h.set 2 _ h1).set 3 _ h2).set 4 _ h3
theorem CsOk.enter {l : List Nat} (h : CsOk l) {pc cause tval : Nat} (h1 : pc < 4294967296) (h2 : cause < 4294967296) (h3 : tval < 4294967296) : CsOk (rj l pc cause tval) := (h.trap h1 h2 h3).set 5 _ (Aj (by decide) (by decide) (by decide))
theorem CsOk.leave {l : List Nat} (h : CsOk l) : CsOk (pK l) := h.set 5 _ (Aj (QaM Qbu (h.at_ 5)) (by decide) (by decide))
theorem S1 {n v : Nat} (h : v < 4294967296) : kR n v < 4294967296 := by
 grind [kR, QaM, Qbu]
theorem EB {l : List Nat} {id clock n : Nat} (h : CsOk l) (hi : id < 4) : pL l id clock n < 4294967296 := by
 unfold pL
 split
 exact dC _
 split
 omega
 exact h.at_ n
theorem S2 {l : List Nat} {pc cause tval : Nat} : dD (oA l pc cause tval) 5 = dD l 5 := by
 grind [oA, dD]
theorem S3 {l : List Nat} {pc cause tval b : Nat} : pJ (oA l pc cause tval) b = pJ l b := by unfold pJ; rw [S2]
theorem S4 {l : List Nat} {pc cause tval s f0 t0 f1 t1 : Nat} : nq (oA l pc cause tval) s f0 t0 f1 t1 = nq l s f0 t0 f1 t1 := by
 grind [nq, np, S3]
structure Eff where
  k : Nat
  pc : Nat
  addr : Nat
  width : Nat
  signed : Bool
  d : Nat
  val : Nat
  cause : Nat
  tval : Nat
deriving DecidableEq
structure Cpu where
  rl : List Nat
  pc : Nat
  cs : List Nat
structure RlOk (l : List Nat) : Prop where
  len : l.length = 16
  lt : ∀ x ∈ l, x < 4294967296
def cY (rl : List Nat) (i : Nat) : Nat := rl.getD i 0
def nr (rl : List Nat) (i v : Nat) : List Nat := if i = 0 then rl else rl.set i v
theorem RlOk.at_ {l : List Nat} (h : RlOk l) (i : Nat) : cY l i < 4294967296 := by
 unfold cY
 rw [Qau]
 cases hq : l[i]? with
 | none => decide
 | some v => exact h.lt v (Qcq hq)
theorem RlOk.set {l : List Nat} (h : RlOk l) (i v : Nat) (hv : v < 4294967296) : RlOk (nr l i v) := by
 unfold nr; split
 exact h
 exact ⟨by rw [Qao, h.len], fun x hx => by
  rcases List.mem_or_eq_of_mem_set hx with q | q
  exact h.lt x q
  rw [q]; exact hv⟩
structure CpOk (x : Cpu) : Prop where
  r : RlOk x.rl
  pc : x.pc < 4294967296
  cs : CsOk x.cs
def oB (i : Ins) : Nat := u32 (jn .u32 (jn .u32 (jn .u32 (jn .u32 ((i.op : Nat) : Int) (iO .u32 ((i.d : Nat) : Int) 6)) (iO .u32 ((i.a : Nat) : Int) 10)) (iO .u32 ((i.b : Nat) : Int) 14)) (iO .u32 ((u32 i.im : Nat) : Int) 18))
def sX : Eff := ⟨0, 0, 0, 0, false, 0, 0, 0, 0⟩
def cZ (pc : Nat) : Nat := u32 ((pc : Int) + 4)
def nt (pc : Nat) (im : Int) : Nat := u32 ((pc : Int) + ((u32 (4 * ((u32 im : Nat) : Int)) : Nat) : Int))
def nu (a : Nat) (im : Int) : Nat := u32 ((a : Int) + ((u32 im : Nat) : Int))
abbrev ko (c t : Nat) : Eff := ⟨3, 0, 0, 0, false, 0, 0, c, t⟩
abbrev kt (x : Cpu) (pc : Nat) : Eff × Cpu := (⟨0, pc, 0, 0, false, 0, 0, 0, 0⟩, { x with pc := pc })
abbrev iB (i : Ins) (x : Cpu) (v pc : Nat) : Eff × Cpu := kt { x with rl := nr x.rl i.d v } pc
def lw (op : Nat) : Nat := if op = 23 ∨ op = 26 then 4 else 1
def sY (i : Ins) (x : Cpu) : Eff :=
  if nu (cY x.rl i.a) i.im % lw i.op ≠ 0 then ko 2 (nu (cY x.rl i.a) i.im)
  else if i.op = 26 ∨ i.op = 27 then ⟨2, cZ x.pc, nu (cY x.rl i.a) i.im, lw i.op, false, 0, cY x.rl i.b, 0, 0⟩
  else ⟨1, cZ x.pc, nu (cY x.rl i.a) i.im, lw i.op, decide (i.op = 24), i.d, 0, 0, 0⟩
def jM (op : Nat) : Bool := decide (op = 35 ∨ op = 36 ∨ op = 37 ∨ op = 38 ∨ op = 39 ∨ op = 40)
def rk (op : Nat) : Nat := if op = 35 then 4 else if op = 40 then 5 else 6
def nv (id clock : Nat) (i : Ins) (x : Cpu) : Eff × Cpu :=
  if i.op = 34 then (ko 6 0, x)
  else if i.op = 41 then (ko 8 x.pc, x)
  else if i.op = 36 then kt { x with cs := pK x.cs } (dD x.cs 2)
  else if i.op = 37 then iB i x (pL x.cs id clock i.im.toNat) (cZ x.pc)
  else if i.op = 38 then (if i.im.toNat ≤ 6 then kt { x with cs := x.cs.set i.im.toNat (kR i.im.toNat (cY x.rl i.a)) } (cZ x.pc) else (ko 1 (oB i), x))
  else (⟨rk i.op, cZ x.pc, 0, 0, false, 0, 0, 0, 0⟩, x)
def mr (id clock : Nat) (i : Ins) (x : Cpu) : Eff × Cpu :=
  if i.op ≤ 13 then iB i x (lv i.op (cY x.rl i.a) (cY x.rl i.b)) (cZ x.pc)
  else if i.op ≤ 21 then iB i x (lv (i6 i.op) (cY x.rl i.a) (u32 i.im)) (cZ x.pc)
  else if i.op = 22 then iB i x (uX i.im) (cZ x.pc)
  else if i.op ≤ 27 then (sY i x, x)
  else if i.op ≤ 31 then kt x (if uW i.op (cY x.rl i.a) (cY x.rl i.b) then nt x.pc i.im else cZ x.pc)
  else if i.op ≤ 33 then iB i x (cZ x.pc) (if i.op = 33 then nu (cY x.rl i.a) i.im else nt x.pc i.im)
  else nv id clock i x
def lU (id clock : Nat) (i : Ins) (x : Cpu) : Eff × Cpu := if jM i.op && !eg x.cs then (ko 7 (oB i), x) else mr id clock i x
structure EfOk (e : Eff) : Prop where
  pc : e.pc < 4294967296
  addr : e.addr < 4294967296
  val : e.val < 4294967296
  cause : e.cause < 100
  tval : e.tval < 4294967296
  d : e.d < 16
  w : e.width ≤ 4
theorem uY {k pc addr w d v c t : Nat} {s : Bool} (h1 : pc < 4294967296) (h2 : addr < 4294967296) (h3 : v < 4294967296) (h4 : c < 100) (h5 : t < 4294967296) (h6 : d < 16) (h7 : w ≤ 4) : EfOk ⟨k, pc, addr, w, s, d, v, c, t⟩ := ⟨h1, h2, h3, h4, h5, h6, h7⟩
theorem uZ {c t : Nat} (hc : c < 100) (ht : t < 4294967296) : EfOk (ko c t) := uY (by decide) (by decide) (by decide) hc ht (by decide) (by decide)
theorem xj {x : Cpu} {pc : Nat} (h : CpOk x) (hp : pc < 4294967296) : EfOk (kt x pc).1 ∧ CpOk (kt x pc).2 := ⟨uY hp (by decide) (by decide) (by decide) (by decide) (by decide) (by decide), ⟨h.r, hp, h.cs⟩⟩
theorem v3 {i : Ins} {x : Cpu} {v pc : Nat} (h : CpOk x) (hv : v < 4294967296) (hp : pc < 4294967296) : EfOk (iB i x v pc).1 ∧ CpOk (iB i x v pc).2 := xj ⟨h.r.set i.d v hv, h.pc, h.cs⟩ hp
theorem Ak (op : Nat) : lw op ≤ 4 := by unfold lw; split <;> decide
theorem S5 {i : Ins} {x : Cpu} (h : CpOk x) (hi : i.d < 16) : EfOk (sY i x) := by
 unfold sY
 split; · exact uZ (by decide) (dC _)
 split; · exact uY (dC _) (dC _) (h.r.at_ _) (by decide) (by decide) (by decide) (Ak _)
 exact uY (dC _) (dC _) (by decide) (by decide) (by decide) hi (Ak _)
theorem EC {id clock : Nat} {i : Ins} {x : Cpu} (h : CpOk x) (hd : i.d < 16) (hid : id < 4) : EfOk (lU id clock i x).1 ∧ CpOk (lU id clock i x).2 := by
 unfold lU
 split; · exact ⟨uZ (by decide) (dC _), h⟩
 unfold mr
 split; · exact v3 h (xi (h.r.at_ _) (h.r.at_ _)) (dC _)
 split; · exact v3 h (xi (h.r.at_ _) (dC _)) (dC _)
 split; · exact v3 h (dC _) (dC _)
 split; · exact ⟨S5 h hd, h⟩
 split
 refine xj h ?_
 split <;> exact dC _
 split
 refine v3 h (dC _) ?_
 split <;> exact dC _
 unfold nv
 split; · exact ⟨uZ (by decide) (by decide), h⟩
 split; · exact ⟨uZ (by decide) h.pc, h⟩
 split; · exact xj ⟨h.r, h.pc, h.cs.leave⟩ (h.cs.at_ 2)
 split; · exact v3 h (EB h.cs hid) (dC _)
 split
 split
 exact xj ⟨h.r, h.pc, h.cs.set _ _ (S1 (h.r.at_ _))⟩ (dC _)
 exact ⟨uZ (by decide) (dC _), h⟩
 exact ⟨uY (dC _) (by decide) (by decide) (by decide) (by decide) (by decide) (by decide), h⟩
class Hk (α : Type) extends Inhabited α where
  ky : α → Int
namespace Hp
variable {α : Type} [Hk α]
def us (l : List α) (i : Nat) : Int := Hk.ky (l.getD i default)
theorem us_eq {l : List α} {i : Nat} (h : i < l.length) : us l i = Hk.ky l[i] := by simp [us, List.getD, h]
def swapL (l : List α) (i j : Nat) : List α := (l.set i (l.getD j default)).set j (l.getD i default)
theorem v4 (l : List α) (i j : Nat) : (swapL l i j).length = l.length := by simp [swapL]
theorem oC {l : List α} {i j : Nat} (hi : i < l.length) (hj : j < l.length) (x : Nat) : (swapL l i j).getD x default = if x = i then l.getD j default else if x = j then l.getD i default else l.getD x default := by
 grind [swapL]
theorem iX {l : List α} {i j : Nat} (hi : i < l.length) (hj : j < l.length) (x : Nat) : us (swapL l i j) x = if x = i then us l j else if x = j then us l i else us l x := by
 grind [us, oC]
theorem Al {β : Type} : ∀ (l : List β) (i j : Nat) (hi : i < l.length) (hj : j < l.length), ((l.set i l[j]).set j l[i]).Perm l := by
 grind [List.set_set_perm]
theorem iC {l : List α} {i j : Nat} (hi : i < l.length) (hj : j < l.length) : (swapL l i j).Perm l := by
 grind [Al, swapL]
def Heap (l : List α) (n : Nat) : Prop := ∀ c, c < n → 0 < c → us l ((c - 1) / 2) ≤ us l c
def gL (l : List α) (i n : Nat) : Prop := ∀ c, c < n → 0 < c → (c ≠ i → (c - 1) / 2 ≠ i → us l ((c - 1) / 2) ≤ us l c) ∧ ((c - 1) / 2 = i → 0 < i → us l ((i - 1) / 2) ≤ us l c)
def Up (l : List α) (j n : Nat) : Prop := ∀ c, c < n → 0 < c → (c ≠ j → us l ((c - 1) / 2) ≤ us l c) ∧ ((c - 1) / 2 = j → 0 < j → us l ((j - 1) / 2) ≤ us l c)
theorem Am {l : List α} {i j n : Nat} (h : gL l i n) (hn : n ≤ l.length) (hj : j < n) (hc : (j - 1) / 2 = i) (h0 : 0 < j) (hlt : us l j < us l i)
    (hmin : ∀ c, c < n → 0 < c → (c - 1) / 2 = i → us l j ≤ us l c) : gL (swapL l i j) j n ∧ us (swapL l i j) ((j - 1) / 2) ≤ us (swapL l i j) j := by
 have hij : i < j := by omega
 have sw := iX (l := l) (i := i) (j := j) (by omega) (by omega)
 refine ⟨fun c hcn hc0 => ⟨fun h1 h2 => ?_, fun h1 h2 => ?_⟩, ?_⟩
 rw [sw, sw]
 by_cases e1 : c = i
 subst e1
 have := (h j hj h0).2 hc (by omega)
 rw [Qac (by omega), Qac (by omega), Qaf rfl]; exact this
 by_cases e2 : (c - 1) / 2 = i
 grind
 rw [Qac e2, Qac h2, Qac e1, Qac h1]; exact (h c hcn hc0).1 e1 e2
 rw [hc, sw, sw, Qaf rfl, Qac (by omega), Qac (by omega)]
 rw [← h1]; exact (h c hcn hc0).1 (by omega) (by omega)
 grind
theorem v5 {l : List α} {i n : Nat} (h : gL l i n) (hmin : ∀ c, c < n → 0 < c → (c - 1) / 2 = i → us l i ≤ us l c) (hp : 0 < i → us l ((i - 1) / 2) ≤ us l i) : Heap l n := fun c hc h0 => by
 by_cases e1 : (c - 1) / 2 = i
 grind
 by_cases e2 : c = i
 grind
 exact (h c hc h0).1 e2 e1
theorem xk {l : List α} {i n : Nat} (h : gL l i n) (hmin : ∀ c, c < n → 0 < c → (c - 1) / 2 = i → us l i ≤ us l c) : Up l i n := fun c hc h0 => ⟨fun e => by
 by_cases e1 : (c - 1) / 2 = i
 grind
 exact (h c hc h0).1 e e1, (h c hc h0).2⟩
theorem An {l : List α} {j n : Nat} (h : Up l j n) (hn : n ≤ l.length) (hj : j < n) (h0 : 0 < j) (hlt : us l j < us l ((j - 1) / 2)) : Up (swapL l ((j - 1) / 2) j) ((j - 1) / 2) n := by
 have sw := iX (l := l) (i := (j - 1) / 2) (j := j) (by omega) (by omega)
 intro c hc hc0
 refine ⟨fun h1 => ?_, fun h1 h2 => ?_⟩
 rw [sw, sw]
 by_cases e1 : c = j
 omega
 by_cases e2 : (c - 1) / 2 = (j - 1) / 2
 rw [Qaf e2, Qac (by omega), Qac e1]
 have := (h c hc hc0).1 e1; rw [e2] at this; omega
 by_cases e3 : (c - 1) / 2 = j
 rw [Qac e2, Qaf e3, Qac h1, Qac e1]; exact (h c hc hc0).2 e3 h0
 rw [Qac e2, Qac e3, Qac h1, Qac e1]; exact (h c hc hc0).1 e1
 rw [sw, sw, Qac (by omega), Qac (by omega)]
 have hp := (h ((j - 1) / 2) (by omega) h2).1 (by omega)
 by_cases e1 : c = j
 omega
 rw [Qac (by omega), Qac e1]
 have := (h c hc hc0).1 e1; rw [h1] at this; omega
theorem v6 {l : List α} {j n : Nat} (h : Up l j n) (hp : 0 < j → us l ((j - 1) / 2) ≤ us l j) : Heap l n := fun c hc h0 => by
 by_cases e : c = j
 grind
 exact (h c hc h0).1 e
theorem heap_min {l : List α} {n : Nat} (h : Heap l n) : ∀ c, c < n → us l 0 ≤ us l c := by
 intro c
 induction c using Nat.strongRecOn with
 | _ c ih =>
  intro hc
  by_cases h0 : c = 0
  grind
  have := h c hc (by omega)
  have := ih ((c - 1) / 2) (by omega) (by omega)
  omega
theorem xl {l : List α} {i : Nat} {x : α} {n : Nat} (h : Heap l n) (hi : i < l.length) : gL (l.set i x) i n := fun c hc h0 => by
 have e : ∀ y, y ≠ i → us (l.set i x) y = us l y := fun y hy => by
  unfold us; simp only [Qau]; rw [QaV (by omega)]
 refine ⟨fun h1 h2 => ?_, fun h1 h2 => ?_⟩
 rw [e _ h1, e _ h2]; exact h c hc h0
 rw [e _ (by omega), e _ (by omega)]
 have k1 := h c hc h0
 have k2 := h i (by omega) h2
 rw [h1] at k1; omega
theorem v7 {l l' : List α} {n : Nat} (h : ∀ i, i < n → l.getD i default = l'.getD i default) {i : Nat} (hi : i < n) : us l i = us l' i := by unfold us; rw [h i hi]
theorem Ao {l l' : List α} {n : Nat} (h : ∀ i, i < n → l.getD i default = l'.getD i default) (k : Heap l n) : Heap l' n := fun c hc h0 => by
 rw [← v7 h hc, ← v7 h (i := (c - 1) / 2) (by omega)]; exact k c hc h0
theorem Ap {l : List α} {n m : Nat} (h : Heap l n) (k : m ≤ n) : Heap l m := fun c hc h0 => h c (by omega) h0
structure Down (its l : List α) (i0 n : Nat) (moved : Bool) : Prop where
  perm : l.Perm its
  tail : ∀ x, n ≤ x → l.getD x default = its.getD x default
  no : moved = false → l = its ∧ ∀ c, c < n → 0 < c → (c - 1) / 2 = i0 → us its i0 ≤ us its c
  yes : moved = true → Heap l n
theorem v8 {l its : List α} {i i0 n : Nat} (hp : l.Perm its) (hi : i0 ≤ i) (hH : gL l i n) (ht : ∀ x, n ≤ x → l.getD x default = its.getD x default) (h0 : i = i0 → l = its)
    (hg : i0 < i → us l ((i - 1) / 2) ≤ us l i) (hmin : ∀ c, c < n → 0 < c → (c - 1) / 2 = i → us l i ≤ us l c) : Down its l i0 n (decide (i0 < i)) :=
  ⟨hp, ht, fun h => by
 have : i = i0 := by grind
 subst this
 obtain rfl := h0 rfl
 exact ⟨rfl, hmin⟩, fun h => by
 have : i0 < i := by simpa using h
 exact v5 hH hmin fun _ => hg this⟩
theorem v9 {l l0 : List α} {i j n : Nat} (hi : i < n) (hj : j < n) (hn : n ≤ l.length) (h : ∀ x, n ≤ x → l.getD x default = l0.getD x default) : ∀ x, n ≤ x → (swapL l i j).getD x default = l0.getD x default := fun x hx => by
 rw [oC (by omega) (by omega), Qac (by omega), Qac (by omega)]; exact h x hx
end Hp
instance a3D : Hk Nat := { ky := fun n => (n : Int) }
abbrev Po := List (Int × Bool)
def cV (po : Po) (f : Nat) : Int × Bool := po.getD f (-1, true)
def bP (po : Po) (w : Nat) : List Nat := (List.range po.length).filter fun f => cV po f == ((w : Int), false)
theorem ku {po : Po} {f : Nat} {x : Int × Bool} (hf : f < po.length) (g : Nat) : cV (po.set f x) g = if g = f then x else cV po g := by
 grind [cV]
theorem kv {po : Po} {w f : Nat} : f ∈ bP po w ↔ f < po.length ∧ cV po f = ((w : Int), false) := by
 grind [bP]
theorem xm (po : Po) (w : Nat) : (bP po w).Pairwise (· < ·) := List.pairwise_lt_range.filter _
theorem ED (po : Po) (w : Nat) : (bP po w).Nodup := (xm po w).imp (fun h e => by omega)
theorem S6 {po : Po} {w : Nat} {l : List Nat} (hn : l.Nodup) (h : ∀ f, f ∈ l ↔ f < po.length ∧ cV po f = ((w : Int), false)) : l.Perm (bP po w) :=
  (List.perm_ext_iff_of_nodup hn (ED po w)).2 fun f => by rw [h, kv]
theorem S7 {po : Po} {f : Nat} {u : Int} (hf : f < po.length) (w : Nat) : bP (po.set f (u, true)) w = (bP po w).filter (· != f) := by
 simp only [bP, Qao, List.filter_filter]
 apply List.filter_congr
 intro g _
 rw [ku hf]
 by_cases h : g = f
 subst h; simp
 simp [h]
theorem S8 {po : Po} {f : Nat} {w : Nat} (hf : f < po.length) (h : cV po f ≠ ((w : Int), false)) : (bP po w ++ [f]).Perm (bP (po.set f ((w : Int), false)) w) := by
 refine S6 ?_ fun g => ?_
 rw [Qbo]
 refine ⟨ED po w, by simp, fun a ha b hb e => ?_⟩
 rw [Qcf] at hb; subst hb; subst e
 exact h (kv.1 ha).2
 rw [Qbc, Qcf, kv, Qao, ku hf]
 by_cases e : g = f
 grind
 simp [e]
theorem EE {po : Po} {f : Nat} {x : Int × Bool} {w : Nat} (hf : f < po.length) (h1 : cV po f ≠ ((w : Int), false)) (h2 : x ≠ ((w : Int), false)) : bP (po.set f x) w = bP po w := by
 simp only [bP, Qao]
 apply List.filter_congr
 intro g _
 rw [ku hf]
 by_cases h : g = f
 grind
 rw [Qac h]
theorem Aq {po : Po} {w x : Nat} {l : List Nat} (hp : (l ++ [x]).Perm (bP po w)) (hm : ∀ y ∈ bP po w, x ≤ y) : bP po w = x :: bP (po.set x ((w : Int), true)) w := by
 have hx : x ∈ bP po w := hp.mem_iff.1 (by simp)
 have hs := xm po w
 rw [S7 (kv.1 hx).1]
 generalize bP po w = m at hx hm hs
 cases m with
 | nil => cases hx
 | cons y t =>
  rw [Qbk] at hs
  have : x = y := by
   rcases QaZ.1 hx with e | e
   exact e
   have := hs.1 x e
   have := hm y (by simp)
   omega
  subst this
  congr 1
  rw [List.filter_cons, Qac (by simp)]
  refine (Qbe.2 fun z hz => ?_).symm
  have := hs.1 z hz
  simp; omega
theorem S9 {po : Po} {w x : Nat} {l : List Nat} (hp : (l ++ [x]).Perm (bP po w)) (hm : ∀ y ∈ bP po w, x ≤ y) : l.Perm (bP (po.set x ((w : Int), true)) w) := by
 have h := Aq hp hm
 rw [h] at hp
 exact ((QaS (l₁ := [x]) (l₂ := l)).trans hp).cons_inv
structure LsOk (po : Po) (Ls : List (List Nat)) : Prop where
  len : Ls.length = 16
  row : ∀ w, w < 16 → (Ls.getD w []).Perm (bP po w) ∧ Hp.Heap (Ls.getD w []) (Ls.getD w []).length
structure PoOk (po : Po) : Prop where
  len : po.length ≤ 32
  who : ∀ f, f < po.length → -1 ≤ (cV po f).1 ∧ (cV po f).1 < 16 ∧ ((cV po f).1 = -1 → (cV po f).2 = false)
theorem PoOk.set {po : Po} (h : PoOk po) {f : Nat} {x : Int × Bool} (hf : f < po.length) (h1 : 0 ≤ x.1) (h2 : x.1 < 16) : PoOk (po.set f x) := ⟨by rw [Qao]; exact h.len, fun g hg => by
 rw [Qao] at hg
 rw [ku hf]
 split
 omega
 exact h.who g hg⟩
theorem Sa {po : Po} (h : PoOk po) (w : Nat) : (bP po w).length ≤ 32 := by
 have := QaT (fun f => cV po f == ((w : Int), false)) (List.range po.length)
 rw [Qco] at this
 have := h.len
 unfold bP; omega
theorem LsOk.rlen {po : Po} {Ls : List (List Nat)} (h : LsOk po Ls) (hp : PoOk po) {w : Nat} (hw : w < 16) : (Ls.getD w []).length ≤ 32 := by
 rw [(h.row w hw).1.length_eq]; exact Sa hp w
theorem LsOk.set {po po' : Po} {Ls : List (List Nat)} (h : LsOk po Ls) {w : Nat} (hw : w < 16) {l : List Nat} (h1 : l.Perm (bP po' w)) (h2 : Hp.Heap l l.length) (h3 : ∀ u, u < 16 → u ≠ w → bP po' u = bP po u) : LsOk po' (Ls.set w l) := ⟨by rw [Qao]; exact h.len, fun u hu => by
 have e : (Ls.set w l).getD u [] = if u = w then l else Ls.getD u [] := by
  simp only [Qau, List.getElem?_set]
  by_cases k : w = u
  subst k; simp [h.len, hw]
  grind
 rw [e]
 split
 grind
 rename_i k; rw [h3 u hu k]; exact h.row u hu⟩
theorem LsOk.new (n : Nat) : LsOk (List.replicate n (-1, false)) (List.replicate 16 []) := ⟨by simp, fun w hw => by
 have e : bP (List.replicate n (-1, false)) w = [] := by
  rw [List.eq_nil_iff_forall_not_mem]
  intro f hf
  have := (kv.1 hf)
  rw [Qbq] at this
  have h2 := this.2
  simp [cV, List.getD, this.1] at h2
 rw [e, show (List.replicate 16 ([] : List Nat)).getD w [] = [] by rw [Qau, List.getElem?_replicate]; split <;> rfl]
 exact ⟨QaI _, fun c hc _ => absurd hc (Qcx _)⟩⟩
structure Im where
  fr : List ap
  po : Po
  pg : List Pl
def fW (f : Nat) : List Nat → Nat → List ap → List ap
 | [], _, fr => fr
 | x :: t, k, fr => fW f t (k + 1) (eY fr f (4 * k : Nat) 4 x)
theorem Ar (f x : Nat) : ∀ (l : List Nat) (k : Nat) (fr : List ap), fW f (l ++ [x]) k fr = eY (fW f l k fr) f (4 * (k + l.length) : Nat) 4 x
 | [], k, fr => by simp [fW]
 | y :: t, k, fr => by
  rw [Qaw, fW, fW, Ar f x t (k + 1)]
  congr 3; simp only [QaE]; omega
theorem rn {f : Nat} : ∀ {l : List Nat} {k : Nat} {fr : List ap}, cC fr → cC (fW f l k fr) ∧ (fW f l k fr).length = fr.length
 | [], _, _, h => ⟨h, rfl⟩
 | x :: t, k, fr, h => by
  obtain ⟨h1, h2⟩ := rn (f := f) (l := t) (k := k + 1) (A3 (f := f) (off := (4 * k : Nat)) (w := 4) (v := x) h)
  exact ⟨h1, by rw [fW, h2, wT]⟩
def dp (words : List Nat) (i : Nat) : List Nat := (words.drop (16 * i)).take 16
def iD (who : Nat) (words : List Nat) (x : Im) (i : Nat) : Im :=
  match bP x.po who with
 | f :: _ => ⟨fW f (dp words i) 0 x.fr, x.po.set f ((who : Int), true), dA x.pg i ((f : Int), 3)⟩
 | [] => x
def cD (who : Nat) (words : List Nat) : Nat → Im → Im
 | 0, x => x
 | n + 1, x => iD who words (cD who words n x) n
structure ImOk (x : Im) : Prop where
  fr : cC x.fr
  po : PoOk x.po
  pg : Pgs x.pg
  len : x.po.length = x.fr.length
theorem Sb {who i : Nat} {words : List Nat} {x : Im} (h : ImOk x) (hw : who < 16) : ImOk (iD who words x i) := by
 unfold iD
 cases e : bP x.po who with
 | nil => exact h
 | cons f t =>
  have hf := kv.1 (show f ∈ bP x.po who by rw [e]; simp)
  obtain ⟨k1, k2⟩ := rn (f := f) (l := dp words i) (k := 0) h.fr
  exact ⟨k1, h.po.set hf.1 (by simp) (by simp; omega), uM h.pg, by rw [Qao, k2]; exact h.len⟩
theorem rp {who : Nat} {words : List Nat} (hw : who < 16) : ∀ {n : Nat} {x : Im}, ImOk x → ImOk (cD who words n x)
 | 0, _, h => h
 | n + 1, _, h => Sb (rp hw h) hw
theorem Sc {who i : Nat} {words : List Nat} {x : Im} : (bP (iD who words x i).po who).length = (bP x.po who).length - 1 := by
 unfold iD
 cases e : bP x.po who with
 | nil => simp [e]
 | cons f t =>
  have hf := kv.1 (show f ∈ bP x.po who by rw [e]; simp)
  dsimp only
  have hm : ∀ y ∈ bP x.po who, f ≤ y := fun y hy => by
   have := xm x.po who
   rw [e] at hy this
   rw [Qbk] at this
   rcases QaZ.1 hy with rfl | k
   omega
   grind
  have := Aq (l := t) (by grind) hm
  rw [e] at this
  have := (List.cons.inj this).2
  rw [← this, QaE]; omega
theorem xn {who : Nat} {words : List Nat} {x : Im} : ∀ n : Nat, (bP (cD who words n x).po who).length = (bP x.po who).length - n
 | 0 => rfl
 | n + 1 => by rw [cD, Sc, xn n]; omega
def oD (pg : List Pl) (n m : Nat) : Prop := ∀ i, n ≤ i → i < m → aX pg (i : Nat) = false
theorem xo {who : Nat} {words : List Nat} {x : Im} (h : oD x.pg 0 8) (hl : x.pg.length = 12) : ∀ n : Nat, n ≤ 8 → oD (cD who words n x).pg n 8 ∧ (cD who words n x).pg.length = 12
 | 0, _ => ⟨h, hl⟩
 | n + 1, hn => by
  obtain ⟨k1, k2⟩ := xo h hl n (by omega)
  rw [cD]
  generalize cD who words n x = y at k1 k2
  unfold iD
  cases e : bP y.po who with
  | nil => exact ⟨fun i h1 h2 => k1 i (by omega) h2, k2⟩
  | cons f t =>
   dsimp only
   refine ⟨fun i h1 h2 => ?_, ?_⟩
   have := k1 i (by omega) h2
   unfold dA
   split
   grind [aX, fT]
   exact this
   grind [dA]
end
section
open Go.RowKit
def kS (T E : TypeId) (sz : Nat) {α : Type} (f : α → List Value) (o b : Nat) (x : List α × List Value) : HP := chk (fun C => o < x.2.length ∧ ∃ a c, C = [pt b (a7 (x.2.set o (.slice a x.1.length c)) T), osl E sz (.slice a x.1.length c) (x.1.flatMap f)])
theorem dE {l : List Value} {o : Nat} {v : Value} (h : o < l.length) : (l.set o v)[o]? = some v := by simp [h]
theorem set_set {l : List Value} {o : Nat} {v u : Value} : (l.set o v).set o u = l.set o u := List.set_set ..
section
variable {P : Program} {W0 : World} {N : FSz} {K : Act → World → Prop} {e : aH} {R A B R1 R2 : List HP} {T E : TypeId} {sz o b n : Nat} {α : Type} {f : α → List Value} {its : List α} {cs cs' : List Value} {fn : FuncId} {args : List Value} {Post : Value → List HP → Prop}
theorem pM (h : ∀ a c, o < cs.length → bc P W0 fn args (pt b (a7 (cs.set o (.slice a its.length c)) T) :: osl E sz (.slice a its.length c) (its.flatMap f) :: R) Post) : bc P W0 fn args (kS T E sz f o b (its, cs) :: R) Post :=
  qK fun C hC => by obtain ⟨ho, a, c, rfl⟩ := hC; exact h a c ho
theorem xp [hk : Tk (kS T E sz f o) b A (its, cs) R] (h : ∀ a c, o < cs.length → ai W0 N K e (pt b (a7 (cs.set o (.slice a its.length c)) T) :: osl E sz (.slice a its.length c) (its.flatMap f) :: R)) : ai W0 N K e A :=
  fJ (r := kS T E sz f o) (b := b) (lP fun C hC => by obtain ⟨ho, a, c, rfl⟩ := hC; exact h a c ho)
theorem lx {a : Option Addr} {c : Nat} {xs : List Value} [h1 : Tk pt b A (a7 cs' T) R1] [h2 : Tk (osl E sz) (.slice a n c) R1 xs R2] (hx : xs = its.flatMap f) (hc : cs' = cs.set o (.slice a n c)) (ho : o < cs.length) (hn : n = its.length) [k : Ent R2 B] : Ent A (kS T E sz f o b (its, cs) :: B) := by
 subst hn; subst hc; subst hx
 exact (Ent.ofPerm (h1.perm.trans (h2.perm.cons _))).trans ((Ent.cons (Ent.cons k)).trans (en (R := B) (C := [_, _]) ⟨ho, a, c, rfl⟩))
theorem nx (hf : ∀ x, (f x).length = sz) (h0 : its ≠ []) (hz : 0 < sz) (h : ∀ g c sp, o < cs.length → its.length ≤ c → c ≤ maxLen → (its.flatMap f ++ sp).length = c * sz → bc P W0 fn args (pt b (a7 (cs.set o (.slice (some ⟨g, 0, none⟩) its.length c)) T) :: pt g (a7 (its.flatMap f ++ sp) E) :: R) Post) : bc P W0 fn args (kS T E sz f o b (its, cs) :: R) Post :=
  pM fun a c ho => mX (List.Perm.swap _ _ _) (uv (fun h1 h2 => by
      have := cj hf its
      rw [h2] at this
      have h3 : its.length = 0 := by
        grind
      exact absurd (QaB h3) h0)
    (fun g n cap sp h1 h2 h3 h4 h5 => by
      cases h1
      exact mX (List.Perm.swap _ _ _) (h g _ sp ho h2 h3 h5)))
theorem iE {g c : Nat} {xs sp : List Value} [h1 : Tk pt b A (a7 cs' T) R1] [h2 : Tk pt g R1 (a7 (xs ++ sp) E) R2] (hf : ∀ x, (f x).length = sz) (hx : xs = its.flatMap f) (hcs : cs' = cs.set o (.slice (some ⟨g, 0, none⟩) n c)) (ho : o < cs.length) (hn : n = its.length) (hc : n ≤ c) (hm : c ≤ maxLen) (hl : (xs ++ sp).length = c * sz) [k : Ent R2 B] : Ent A (kS T E sz f o b (its, cs) :: B) := by
 subst hn; subst hx; subst hcs
 have e : Ent R1 (osl E sz (.slice (some ⟨g, 0, none⟩) its.length c) (its.flatMap f) :: B) := ez hc hm (cj hf its) hl
 exact (Ent.ofPerm h1.perm).trans ((Ent.cons e).trans (en (R := B) (C := [_, _]) ⟨ho, _, c, rfl⟩))
theorem vd [hk : Tk (kS T E sz f o) b A (its, cs) R] {i : Nat} {v : Value} (hi : i ≠ o) (h : cs[i]? = some v) : iu (aB W0 A) b i v := fun w (hO : Own W0 w A) => by
 obtain ⟨C, ⟨ho, a, c, rfl⟩, hO'⟩ := (hO.tk (r := kS T E sz f o) (b := b)).chk
 have h1 : Own W0 w (pt b (a7 (cs.set o (.slice a its.length c)) T) :: (osl E sz (.slice a its.length c) (its.flatMap f) :: R)) := hO'
 have h2 : iu (aB W0 (pt b (a7 (cs.set o (.slice a its.length c)) T) :: (osl E sz (.slice a its.length c) (its.flatMap f) :: R))) b i v := aF (by grind)
 exact h2 w h1
theorem EF [hk : Tk (kS T E sz f o) b A (its, cs) R] {i : Nat} {v : Value} (hi : i ≠ o) (h : cs[i]? = some v) : aT (aB W0 A) b i [v] := fun j u hj => by
 match j, hj with
 | 0, hj => rw [← QaY hj]; exact vd (o := o) (f := f) (T := T) (E := E) (sz := sz) hi h
 | j + 1, hj => cases hj
end
theorem Sd {α : Type} (f : α → Value) (l : List α) : (l.flatMap fun x => [f x]) = l.map f := by
 induction l with
 | nil => rfl
 | cons x l ih => rw [QaW, ih]; rfl
theorem Se {α : Type} {f : α → List Value} {k : Nat} (hf : ∀ x, (f x).length = k) (its : List α) (sp : List Value) (i : Nat) (hi : i < its.length) : i * k + k ≤ (its.flatMap f ++ sp).length := by
 have := Qcs k (show i + 1 ≤ its.length by omega)
 rw [QbN] at this
 rw [Qad, cj hf]; omega
structure HpO (W0 : World) (α : Type) [Hk α] where
  T : TypeId
  p : Value
  el : α → Value
  H : List α → HP
  fL : FuncId
  fE : FuncId
  fS : FuncId
  fU : FuncId
  fO : FuncId
  mL : ∀ w, (method (Tryz.prog.types.size + Made.depth) T p "Len").run Tryz.prog w = .ok (fL, p) w
  mE : ∀ w, (method (Tryz.prog.types.size + Made.depth) T p "Less").run Tryz.prog w = .ok (fE, p) w
  mS : ∀ w, (method (Tryz.prog.types.size + Made.depth) T p "Swap").run Tryz.prog w = .ok (fS, p) w
  mU : ∀ w, (method (Tryz.prog.types.size + Made.depth) T p "Push").run Tryz.prog w = .ok (fU, p) w
  mO : ∀ w, (method (Tryz.prog.types.size + Made.depth) T p "Pop").run Tryz.prog w = .ok (fO, p) w
  cL : ∀ args w, (callFunc fL args).run Tryz.prog w = .ok (.enter fL args) w
  cE : ∀ args w, (callFunc fE args).run Tryz.prog w = .ok (.enter fE args) w
  cS : ∀ args w, (callFunc fS args).run Tryz.prog w = .ok (.enter fS args) w
  cU : ∀ args w, (callFunc fU args).run Tryz.prog w = .ok (.enter fU args) w
  cO : ∀ args w, (callFunc fO args).run Tryz.prog w = .ok (.enter fO args) w
  sL : ∀ R l, bc Tryz.prog W0 fL [p] (kH 0 (H l) :: R) (fun v B => v = .int .i64 (l.length : Nat) ∧ B = kH 0 (H l) :: R)
  sE : ∀ R l (i j : Nat), i < l.length → j < l.length → bc Tryz.prog W0 fE [p, .int .i64 i, .int .i64 j] (kH 0 (H l) :: R) (fun v B => v = .bool (decide (Hp.us l i < Hp.us l j)) ∧ B = kH 0 (H l) :: R)
  sS : ∀ R l (i j : Nat), i < l.length → j < l.length → bc Tryz.prog W0 fS [p, .int .i64 i, .int .i64 j] (kH 0 (H l) :: R) (fun v B => v = .tuple #[] ∧ B = kH 0 (H (Hp.swapL l i j)) :: R)
  sU : ∀ R l x, l.length < 1000 → bc Tryz.prog W0 fU [p, el x] (kH 0 (H l) :: R) (fun v B => v = .tuple #[] ∧ B = kH 0 (H (l ++ [x])) :: R)
  sO : ∀ R l x, bc Tryz.prog W0 fO [p] (kH 0 (H (l ++ [x])) :: R) (fun v B => v = el x ∧ B = kH 0 (H l) :: R)
namespace Hp
variable {W0 : World} {α : Type} [Hk α] (o : HpO W0 α)
def iv : Value := .iface o.T o.p
theorem As {j : Nat} (h : j < 1000) : IntKind.wrap .i64 (Int.tdiv ((j : Int) - 1) 2) = (((j - 1) / 2 : Nat) : Int) := by
 grind [Int.tdiv_eq_ediv_of_nonneg, bN]
theorem sZ (R : List HP) (its : List α) (j n : Nat) (hn : n ≤ its.length) (hN : n < 1000) (hj : j < n) (hU : Up its j n) : sP W0 210 [iv o, iQ j] (kH 0 (o.H its) :: R) (fun v B => v = .tuple #[] ∧ ∃ its', B = kH 0 (o.H its') :: R ∧ its'.Perm its ∧ Heap its' n ∧ ∀ x, n ≤ x → its'.getD x default = its.getD x default) := by
 refine ab func210 ntmps210 ?_
 refine cK (fun X : List α × Nat => X.1.Perm its ∧ X.2 < n ∧ Up X.1 X.2 n ∧ ∀ x, n ≤ x → X.1.getD x default = its.getD x default) (fun X => [(0, iv o), (1, iQ X.2)]) (fun X => kH 0 (o.H X.1) :: R) (fun X => X.2) (its, j) ?_ ?_
 simp_all
 intro ⟨l, j⟩ ⟨hp, hj, hU, ht⟩
 have hlen := hp.length_eq
 simp only at hj hU ht hp hlen ⊢
 refine aw ?_
 refine a6 eX ?_
 refine a6 (qB rfl rfl (by decide) (As (by omega))) ?_
 refine cA (fun g1_4 => ?_) fun g1_4 => ?_
 refine bM (.inr rfl) .nil ?_
 exact ⟨_, ⟨rfl, l, rfl, hp, v6 hU (by omega), ht⟩, IO⟩
 refine ac (dV rfl o.mE o.cE rfl (o.sE _ l j ((j - 1) / 2) (by omega) (by omega))) ?_
 refine aA rfl (fun c1 => ?_) fun c1 => ?_
 refine au 5 ?_
 refine bM (.inr rfl) .nil ?_
 exact ⟨_, ⟨rfl, l, rfl, hp, v6 hU (by omega), ht⟩, IO⟩
 replace c1 : us l j < us l ((j - 1) / 2) := by omega
 refine aw ?_
 refine ac (dV rfl o.mS o.cS rfl (o.sS _ l ((j - 1) / 2) j (by omega) (by omega))) ?_
 exact bE (swapL l ((j - 1) / 2) j, (j - 1) / 2) (⟨(iC (by omega) (by omega)).trans hp, by show (j - 1) / 2 < n; omega, An hU (by omega) hj (by omega) c1, v9 (by omega) hj (by omega) ht⟩)
theorem t2 (R : List HP) (its : List α) (i0 n : Nat) (hn : n ≤ its.length) (hN : n < 1000) (hi : i0 ≤ n) (hH : gL its i0 n) : sP W0 273 [iv o, iQ i0, iQ n] (kH 0 (o.H its) :: R) (fun v B => ∃ l m, v = .bool m ∧ B = kH 0 (o.H l) :: R ∧ Down its l i0 n m) := by
 refine ab IH ntmps273 ?_
 refine cK (fun X : List α × Nat => X.1.Perm its ∧ i0 ≤ X.2 ∧ gL X.1 X.2 n ∧ (∀ x, n ≤ x → X.1.getD x default = its.getD x default) ∧ (X.2 = i0 → X.1 = its) ∧ (i0 < X.2 → us X.1 ((X.2 - 1) / 2) ≤ us X.1 X.2) ∧ X.2 ≤ n) (fun X => [(0, iv o), (1, iQ i0), (2, iQ n), (7, iQ X.2)]) (fun X => kH 0 (o.H X.1) :: R) (fun X => n - X.2) (its, i0) ?_ ?_
 simp_all
 intro ⟨l, i⟩ ⟨hp, hi0, hl, ht, he, hg, hin⟩
 have hlen := hp.length_eq
 simp only at hp hi0 hl ht he hg hin hlen ⊢
 refine aw ?_
 refine a6 zL ?_
 refine a6 (dG (2 * i + 1)) ?_
 refine cA (fun g3_4 => ?_) fun g3_4 => ?_
 refine a8 ?_
 refine ⟨_, ⟨l, decide (i0 < i), by simp [aU], rfl, v8 hp hi0 hl ht he hg ?_⟩, IO⟩
 first | (intro c hc h0 h1; exfalso; omega) | (intro c hc h0 h1; have := hmin c hc h0 h1; simp at c8; omega)
 refine aA rfl (fun c3 => ?_) fun c3 => ?_
 omega
 refine au 8 ?_
 refine dO (fun j : Nat => (j - 1) / 2 = i ∧ 0 < j ∧ j < n ∧ ∀ c, c < n → 0 < c → (c - 1) / 2 = i → us l j ≤ us l c) (fun j => [(0, iv o), (1, iQ i0), (2, iQ n), (7, iQ i), (9, iQ j)]) (fun j => kH 0 (o.H l) :: R) ?_ ?_
 refine au 3 ?_
 refine a6 (dG (2 * i + 2)) ?_
 refine cM (fun g6_4 => ?_) fun g6_4 => ?_
 refine ac (dV rfl o.mE o.cE rfl (o.sE _ l (2 * i + 2) (2 * i + 1) (by omega) (by omega))) ?_
 refine ag (fun c6 => ?_) fun c6 => ?_
 refine cu (2 * i + 2) ?_
 refine ⟨by omega, by omega, by omega, fun c hc h0 h1 => ?_⟩
 have : c = 2 * i + 1 ∨ c = 2 * i + 2 := by omega
 rcases this with rfl | rfl <;> (first | omega | (simp at c6; omega) | (simp at c3; omega))
 refine cu (2 * i + 1) ?_
 refine ⟨by omega, by omega, by omega, fun c hc h0 h1 => ?_⟩
 have : c = 2 * i + 1 ∨ c = 2 * i + 2 := by omega
 rcases this with rfl | rfl <;> (first | omega | (simp at c6; omega) | (simp at c3; omega))
 refine cu (2 * i + 1) ?_
 refine ⟨by omega, by omega, by omega, fun c hc h0 h1 => ?_⟩
 have : c = 2 * i + 1 ∨ c = 2 * i + 2 := by omega
 rcases this with rfl | rfl <;> (first | omega | (simp at c6; omega) | (simp at c3; omega))
 intro j ⟨hj, hj0, hjn, hmin⟩
 refine aw ?_
 refine ac (dV rfl o.mE o.cE rfl (o.sE _ l j i (by omega) (by omega))) ?_
 refine aA rfl (fun c8 => ?_) fun c8 => ?_
 refine au 15 ?_
 refine a8 ?_
 refine ⟨_, ⟨l, decide (i0 < i), by simp [aU], rfl, v8 hp hi0 hl ht he hg ?_⟩, IO⟩
 first | (intro c hc h0 h1; exfalso; omega) | (intro c hc h0 h1; have := hmin c hc h0 h1; simp at c8; omega)
 replace c8 : us l j < us l i := by simpa using c8
 refine aw ?_
 refine ac (dV rfl o.mS o.cS rfl (o.sS _ l i j (by omega) (by omega))) ?_
 refine bE (swapL l i j, j) ?_ (hμ := ?_)
 have hs := Am hl (by omega) hjn hj hj0 c8 hmin
 exact ⟨(iC (by omega) (by omega)).trans hp, by show i0 ≤ j; omega, hs.1, v9 (by omega) hjn (by omega) ht, by show j = i0 → _; omega, fun _ => hs.2, by show j ≤ n; omega⟩
 show n - j < n - i; omega
theorem Av {its : List α} {x : α} (h : Heap its its.length) : Up (its ++ [x]) its.length (its.length + 1) := by
 have e : ∀ c, c < its.length → us (its ++ [x]) c = us its c := fun c hc => by
  unfold us; simp only [Qau]; rw [QaH hc]
 intro c hc h0
 refine ⟨fun h1 => ?_, fun h1 h2 => by omega⟩
 rw [e c (by omega), e _ (by omega)]; exact h c (by omega) h0
theorem heapPush_spec (R : List HP) (its : List α) (x : α) (hN : its.length < 900) (hh : Heap its its.length) : sP W0 149 [iv o, o.el x] (kH 0 (o.H its) :: R) (fun v B => v = .tuple #[] ∧ ∃ its', B = kH 0 (o.H its') :: R ∧ its'.Perm (its ++ [x]) ∧ Heap its' its'.length) := by
 have hl : (its ++ [x]).length = its.length + 1 := by simp
 refine ab func149 ntmps149 ?_
 refine ac (dV rfl o.mU o.cU rfl (o.sU _ its x (by omega))) ?_
 refine ac (dV rfl o.mL o.cL rfl (o.sL _ (its ++ [x]))) ?_
 refine a6 (lQ its.length) ?_
 refine am rfl (ah zc (sZ o _ (its ++ [x]) its.length (its.length + 1) (by omega) (by omega) (by omega) (Av hh))) ?_
 rintro _ _ ⟨rfl, l', rfl, hp, hh', _⟩
 refine aw ?_
 refine bM (.inr rfl) .nil ?_
 exact ⟨_, ⟨rfl, l', rfl, hp, by rw [hp.length_eq, hl]; exact hh'⟩, IO⟩
theorem ve {l : List α} {n : Nat} (h : l.length = n + 1) : ∃ l' x, l = l' ++ [x] ∧ l'.length = n ∧ x = l.getD n default := by
 have hne : l ≠ [] := fun e => by rw [e] at h; simp at h
 refine ⟨l.dropLast, l.getLast hne, (List.dropLast_concat_getLast hne).symm, by simp [h], ?_⟩
 rw [List.getLast_eq_getElem]
 simp [List.getD, h]
theorem vf {l : List α} {x : α} {n : Nat} (h : Heap (l ++ [x]) n) (hn : n ≤ l.length) : Heap l n :=
  Ao (fun i hi => by simp only [Qau]; rw [QaH (by omega)]) h
theorem heapPop_spec (R : List HP) (its : List α) (hN : its.length < 900) (h0 : its ≠ []) (hh : Heap its its.length) : sP W0 196 [iv o] (kH 0 (o.H its) :: R) (fun v B => ∃ x its', v = o.el x ∧ B = kH 0 (o.H its') :: R ∧ (its' ++ [x]).Perm its ∧ Heap its' its'.length ∧ ∀ y ∈ its, Hk.ky x ≤ Hk.ky y) := by
 obtain ⟨n, hn⟩ : ∃ n, its.length = n + 1 := ⟨its.length - 1, by have := Qca.2 h0; omega⟩
 have hs : gL (swapL its 0 n) 0 n := fun c hc h0 => ⟨fun h1 h2 => by
  rw [iX (by omega) (by omega), iX (by omega) (by omega), Qac h2, Qac h1, Qac (by omega), Qac (by omega)]
  exact hh c (by omega) h0, fun _ h => by omega⟩
 have hsl := v4 its 0 n
 refine ab func196 ntmps196 ?_
 refine ac (dV rfl o.mL o.cL rfl (o.sL _ its)) ?_
 refine a6 (lQ n) ?_
 refine ac (dV rfl o.mS o.cS rfl (o.sS _ its 0 n (by omega) (by omega))) ?_
 refine am rfl (ah w9 (t2 o _ (swapL its 0 n) 0 n (by omega) (by omega) (by omega) hs)) ?_
 rintro _ _ ⟨l, m, rfl, rfl, hD⟩
 have hll := hD.perm.length_eq
 obtain ⟨l', x, rfl, hl', hx⟩ := ve (l := l) (n := n) (by omega)
 have hx0 : x = its.getD 0 default := by
  rw [hx, hD.tail n (Qap _), oC (by omega) (by omega)]; split
  rename_i e; subst e; rfl
  rw [Qaf rfl]
 have hp : (l' ++ [x]).Perm its := hD.perm.trans (iC (by omega) (by omega))
 have hH : Heap (l' ++ [x]) n := by
  cases m with
  | true => exact hD.yes rfl
  | false =>
   obtain ⟨e, hmin⟩ := hD.no rfl
   rw [e]; exact v5 hs hmin (fun h => absurd h (by omega))
 refine aw ?_
 refine ac (dV rfl o.mO o.cO rfl (o.sO _ l' x)) ?_
 refine a8 ?_
 refine ⟨_, ⟨x, l', rfl, rfl, hp, by rw [hl']; exact vf hH (by omega), fun y hy => ?_⟩, IO⟩
 obtain ⟨c, hc, rfl⟩ := Qbl.1 hy
 have := heap_min hh c hc
 rw [us_eq hc] at this
 rw [hx0]; exact this
end Hp
theorem EG {a : Nat} (h : a < 9223372036854775808) : (BitVec.ofInt 64 (a : Int)).toNat = a := by
 grind
theorem Sf {a b : Nat} (ha : a < 9223372036854775808) (hb : b < 9223372036854775808) : eU .i64 a b = ((a &&& b : Nat) : Int) := by
 have h : a &&& b < 9223372036854775808 := QaM Qbu ha
 show IntKind.wrap .i64 ((BitVec.ofInt 64 (a : Int) &&& BitVec.ofInt 64 (b : Int)).toNat : Int) = _
 rw [BitVec.toNat_and, EG ha, EG hb, bN (by omega)]
theorem Sg {a b : Nat} (ha : a < 9223372036854775808) (hb : b < 9223372036854775808) : nY .i64 a b = ((a - (a &&& b) : Nat) : Int) := by
 have hle : a &&& b ≤ a := Qbu
 generalize hx : BitVec.ofInt 64 (a : Int) = x
 generalize hy : BitVec.ofInt 64 (b : Int) = y
 have ex : x.toNat = a := by grind
 have ey : y.toNat = b := by grind
 have e : (x &&& ~~~ y).toNat = a - (a &&& b) := by
  have hz : (x &&& ~~~ y) &&& (x &&& y) = 0#64 := by
   grind
  have h1 : (x &&& ~~~ y) + (x &&& y) = x := by
   rw [BitVec.add_eq_or_of_and_eq_zero _ _ hz]
   ext i hi
   simp only [BitVec.getElem_or, BitVec.getElem_and, BitVec.getElem_not]
   cases x[i] <;> cases y[i] <;> rfl
  have h2 := Qah BitVec.toNat h1
  rw [BitVec.toNat_add_of_and_eq_zero hz, BitVec.toNat_and x y, ex, ey] at h2
  omega
 show IntKind.wrap .i64 ((BitVec.ofInt 64 (a : Int) &&& ~~~ BitVec.ofInt 64 (b : Int)).toNat : Int) = _
 rw [hx, hy, e, bN (by omega)]
def kw (l : Int) : Bool := decide (0 ≤ l ∧ l < 256)
theorem oE {l : Int} : kw l = true ↔ 0 ≤ l ∧ l < 256 := by simp [kw]
def lV (a b : Int) : Bool := kw a && kw b && decide (a.toNat - (a.toNat &&& b.toNat) = 0)
theorem xq {a b : Int} (h : ¬ (kw a = true ∧ kw b = true)) : lV a b = false := by
 simp_all [Qaz, lV, Qar]
theorem EH {a b : Nat} (ha : a < 256) : a - (a &&& b) = 0 ↔ ∀ c, c < 8 → a.testBit c = true → b.testBit c = true := by
 have hle : a &&& b ≤ a := Qbu
 constructor
 intro h c _ hc
 have e : a &&& b = a := by omega
 have := Qah (fun n => n.testBit c) e
 simp only [Nat.testBit_and, hc, Qbr] at this
 exact this
 intro h
 have e : a &&& b = a := by
  apply Nat.eq_of_testBit_eq
  intro i
  rw [Nat.testBit_and]
  by_cases hi : i < 8
  grind
  have : a.testBit i = false := Nat.testBit_lt_two_pow (Qcd ha (Qct (n := 2) (by decide) (show 8 ≤ i by omega)))
  rw [this]; rfl
 omega
theorem Aw (l : Int) : sQ W0 185 [iQ l] R (.bool (kw l)) R := by
 refine ab func185 ntmps185 ?_
 refine cM (fun g1_3 => ?_) fun g1_3 => ?_
 refine a8 ?_
 refine aE ?_
 refine Qah Value.bool ?_
 rw [Qae]; simp only [kw, Qaj, Qal, QaN]; omega
 refine a8 ?_
 refine aE ?_
 refine Qah Value.bool ?_
 rw [Qae]; simp only [kw, Qaj, Qal, QaN]; omega
theorem Si (a b : Int) : bc Tryz.prog W0 107 [.int .i64 a, .int .i64 b] R (fun v B => v = .bool (lV a b) ∧ B = R) := by
 refine lk func107 ntmps107 rfl rfl ?_
 refine aP (aZ (aa rfl (bC rfl) (aN (aD (aP (aZ (aa rfl (aL rfl) (am rfl (fZ II rfl (Aw a)) ?_))))))))
 rintro _ B_ ⟨rfl, hB_⟩
 obtain rfl := hB_.symm
 refine aa rfl (aL rfl) ?_
 refine j8 rfl rfl rfl (fun g1_3 => ?_) fun g1_3 => ?_
 refine aa rfl (aL rfl) ?_
 refine dw rfl rfl (am rfl (fZ II rfl (Aw b)) ?_)
 rintro _ B_ ⟨rfl, hB_⟩
 obtain rfl := hB_.symm
 refine aa rfl (qA rfl rfl) (aa rfl (aL rfl) ?_)
 refine j8 rfl rfl rfl (fun g1_7 => ?_) fun g1_7 => ?_
 obtain ⟨x, rfl, hx⟩ : ∃ x : Nat, a = (x : Int) ∧ x < 256 := ⟨a.toNat, by have := oE.1 g1_3; omega, by have := oE.1 g1_3; omega⟩
 obtain ⟨y, rfl, hy⟩ : ∃ y : Nat, b = (y : Int) ∧ y < 256 := ⟨b.toNat, by have := oE.1 g1_7; omega, by have := oE.1 g1_7; omega⟩
 refine aa rfl (aL rfl) (dw rfl rfl (aa rfl (aL rfl) (dw rfl rfl ?_)))
 refine aa rfl (wx rfl rfl (Sg (by omega) (by omega))) ?_
 refine dw rfl rfl (aa rfl (mh rfl rfl) (aa rfl (qA rfl rfl) (aa rfl (bC rfl) (aN (aD (dT (bM (.inl rfl) (.cons (bz rfl) .nil) ?_)))))))
 refine ⟨_, ⟨?_, rfl⟩, IO⟩
 first
   | (rw [hno]; rfl)
   | (refine Qah Value.bool ?_
      rw [Qae, Qby, lV, g1_3, g1_7, Qam, Qam]
      simp only [Bool.and_self, Qbr, Qag]
      omega)
 have hno := xq (a := a) (b := b) (fun q => g1_7 q.2)
 refine lM rfl rfl rfl rfl (lM rfl rfl rfl rfl (lM rfl rfl rfl rfl (aa rfl (j6 rfl rfl) (aa rfl (bC rfl) (aN (aD (dT (bM (.inl rfl) (.cons (bz rfl) .nil) ?_))))))))
 refine ⟨_, ⟨?_, rfl⟩, IO⟩
 first
   | (rw [hno]; rfl)
   | (refine Qah Value.bool ?_
      rw [Qae, Qby, lV, g1_3, g1_7, Qam, Qam]
      simp only [Bool.and_self, Qbr, Qag]
      omega)
 have hno := xq (a := a) (b := b) (fun q => g1_3 q.1)
 refine lM rfl rfl rfl rfl (aa rfl (j6 rfl rfl) (aa rfl (aL rfl) (lM rfl rfl rfl rfl (lM rfl rfl rfl rfl (lM rfl rfl rfl rfl (lM rfl rfl rfl rfl (aa rfl (j6 rfl rfl) (aa rfl (bC rfl) (aN (aD (dT (bM (.inl rfl) (.cons (bz rfl) .nil) ?_))))))))))))
 refine ⟨_, ⟨?_, rfl⟩, IO⟩
 first
   | (rw [hno]; rfl)
   | (refine Qah Value.bool ?_
      rw [Qae, Qby, lV, g1_3, g1_7, Qam, Qam]
      simp only [Bool.and_self, Qbr, Qag]
      omega)
theorem EI (l : Int) : sQ W0 369 [iQ l] R (.bool (kw l)) R := by
 refine ab func369 ntmps369 ?_
 refine cM (fun g1_3 => ?_) fun g1_3 => ?_
 refine a8 ?_
 refine aE ?_
 refine Qah Value.bool ?_
 rw [Qae]; simp only [kw, Qaj, Qal, QaN]; omega
 refine a8 ?_
 refine aE ?_
 refine Qah Value.bool ?_
 rw [Qae]; simp only [kw, Qaj, Qal, QaN]; omega
theorem EJ (l c : Nat) (hl : l < 256) (hc : c < 8) : sQ W0 370 [iQ l, iQ c] R (.bool (l.testBit c)) R := by
 have hd : l / 2 ^ c < 256 := QaM (Qck _ _) hl
 refine ab func370 ntmps370 ?_
 refine a6 (jo rfl rfl (by omega) (lm (k := .i64) (a := l) (s := c) (by show c ≤ 64; omega))) ?_
 refine a6 (fm rfl rfl (Sf (a := l / 2 ^ c) (b := 1) (by omega) (by decide))) ?_
 refine a8 ?_
 refine aE ?_
 refine Qah Value.bool ?_
 rw [Qae, Qby, show (l / 2 ^ c) &&& 1 = l / 2 ^ c % 2 from qS (a := l / 2 ^ c) (n := 1), Nat.testBit_eq_decide_div_mod_eq, Qag]
 omega
theorem Sj (a b : Int) : sQ W0 329 [iQ a, iQ b] R (.bool (lV a b)) R := by
 refine ab func329 ntmps329 ?_
 refine ac (ao call369 (EI a)) ?_
 refine cA (fun g1_4 => ?_) fun g1_4 => ?_
 refine a8 ?_
 refine aE ?_
 rw [xq (fun q => by simp_all)] <;> rfl
 refine ac (ao call369 (EI b)) ?_
 refine ag (fun c1 => ?_) fun c1 => ?_
 refine a8 ?_
 refine aE ?_
 rw [xq (fun q => by simp_all)] <;> rfl
 have ha : kw a = true := by grind
 have hb : kw b = true := by grind
 obtain ⟨x, rfl, hx⟩ : ∃ x : Nat, a = (x : Int) ∧ x < 256 := ⟨a.toNat, by have := oE.1 ha; omega, by have := oE.1 ha; omega⟩
 obtain ⟨y, rfl, hy⟩ : ∃ y : Nat, b = (y : Int) ∧ y < 256 := ⟨b.toNat, by have := oE.1 hb; omega, by have := oE.1 hb; omega⟩
 refine cK (fun i : Nat => i ≤ 8 ∧ ∀ c, c < i → x.testBit c = true → y.testBit c = true) (fun i => [(0, iQ x), (1, iQ y), (5, iQ i)]) (fun i => R) (fun i => 8 - i) 0 ?_ ?_
 grind
 intro i ⟨hi, hI⟩
 refine aw ?_
 refine ag (fun c4 => ?_) fun c4 => ?_
 refine ac (ao call370 (EJ x i hx (by omega))) ?_
 refine cM (fun g6_4 => ?_) fun g6_4 => ?_
 refine ac (ao call370 (EJ y i hy (by omega))) ?_
 refine ag (fun c6 => ?_) fun c6 => ?_
 refine a8 ?_
 refine aE ?_
 refine Qah Value.bool (Eq.symm ?_)
 rw [← Qaz, lV]
 intro q
 simp only [Qar, Qag, Qam] at q
 exact c6 ((EH hx).1 q.2 i (by omega) g6_4)
 refine a6 bS ?_
 refine bE (i + 1) ?_
 grind
 refine a6 bS ?_
 refine bE (i + 1) ?_
 grind
 refine a8 ?_
 refine aE ?_
 refine Qah Value.bool (Eq.symm ?_)
 rw [lV, ha, hb]
 simp only [Bool.and_self, Qbr, Qag, Qam]
 exact (EH hx).2 fun c hc => hI c (by omega)
section
variable {rd : Option Nat} {P : Program} {S : World → Prop} {W0 : World} {N : FSz} {Q : Exit → Act → World → Prop} {e : aH} {A B R : List HP} {ops : Array Oper} {rest : List Oper}
variable {op : Op} {ty t t' : TypeId} {pos : String} {af : Array Edge} {v u : Value} {d b off : Nat} {x y z : Operand} {l l' vs : List Value}
variable {α : Type} {sz : Nat} {f : α → List Value} {xs : List α} {a : Option Addr}
theorem rq {k : IntKind} {m n r : Int} {ats : Array TypeId} (hx : ev e x = some (.int k m)) (hy : ev e y = some (.int k n)) (hr : (if n > m then n else m) = r) : aW P S N e (.call { callee := .builtin .max, args := #[x, y], argTypes := ats }) (.int k r) := fun a w _ _ _ _ _ hF _ => by
 simp [execOp, resolve, invoke, builtin, hF.eval hx, hF.eval hy, Builtin.max_, Builtin.max2, hr]
def jc (a : Option Addr) (c i sz : Nat) : Option Addr := if c = i then a else a.map (·.add (i * sz))
theorem Sk {E n c sz : Nat} {k k' : IntKind} {i h : Nat} {j1 j2 : Int} (hu : P.underlying t = some (.slice E)) (hs : ∀ w, (sizeOf E).run P w = .ok sz w) (hx : ev e x = some (.slice a n c))
    {lo hi : Operand} (h1 : ev e lo = some (.int k j1)) (h2 : ev e hi = some (.int k' j2)) (e1 : j1 = (i : Int)) (e2 : j2 = (h : Int)) (hil : i ≤ h) (hmc : h ≤ c) :
    aW P S N e (.slice t x (some lo) (some hi) none) (.slice (jc a c i sz) (h - i) (c - i)) := fun act w _ _ _ _ _ hF _ => by
 subst e1; subst e2
 simp [execOp, Instr.sliceAt, Instr.slice, hF.eval hx, hF.eval h1, hF.eval h2, dU hu, Instr.sliceBounds, qM hmc, qM hil, hs, jc]
theorem bT.sub (h : bT S a sz f xs) {c i k : Nat} (hk : i + k ≤ xs.length) (hc : xs.length ≤ c) : bT S (jc a c i sz) sz f ((xs.drop i).take k) := fun j x hj => by
 have hjk : j < k := by
  grind
 rw [QbJ hjk, Qce] at hj
 obtain ⟨b, off, rfl, hcl⟩ := h (i + j) x hj
 refine ⟨b, off + i * sz, ?_, ?_⟩
 grind [jc, gF]
 grind
theorem bT.take (h : bT S a sz f xs) (k : Nat) : bT S a sz f (xs.take k) := fun j x hj => by
 have hjk : j < k := by
  grind
 rw [QbJ hjk] at hj
 exact h j x hj
theorem bT.src (h : bT S a sz f xs) (hf : ∀ x, (f x).length = sz) (ha : a = none → True) : (xs = []) ∨ ∃ b off, a = some ⟨b, off, none⟩ ∧ aT S b off (xs.flatMap f) := by
 by_cases h0 : xs = []
 exact .inl h0
 exact .inr (h.all h0 hf)
theorem xt {E n m c cx by_ : Nat} {ay : Option Addr} {info : TypeInfo} {z : Value} {an : Option Addr} {xs news : List Value} (hu : P.underlying t = some (.slice E))
    (hi : P.info? E = some info) (hz : info.zero = some z) (hsz : info.size = sz) (hby : info.bytes = by_) (hz1 : z.cells.size = sz) (hsz0 : 0 < sz)
    (hx : ev e x = some (.slice an n c)) (hy : ev e y = some (.slice ay m cx)) [h : Tk (osl E sz) (.slice an n c) A xs R]
    (hsrc : m = 0 ∨ ∃ bx ox, ay = some ⟨bx, ox, none⟩ ∧ aT (aB W0 A) bx ox news) (hnl : news.length = m * sz) (h1 : ec news = true) (h63 : n + m ≤ maxLen) (hbig : (n + m) * by_ ≤ 140737488355328) :
    cn P W0 N e A (.call { callee := .builtin .append, args := #[x, y], argTypes := #[t, t] }) (fun v B => ∃ a' c', v = .slice a' (n + m) c' ∧ B = osl E sz v (xs ++ news) :: R) := by
 rcases hsrc with rfl | ⟨bx, ox, rfl, hc⟩
 have h0 : news = [] := QaB (by omega)
 subst h0
 intro act w dst ty pos af g K Q hF hO k
 have hO' := hO.tk (r := osl E sz) (b := .slice an n c)
 have hcap : n ≤ c := by
  rcases hO'.osl with ⟨k1, _, _⟩ | ⟨_, _, _, _, k1, k2, _⟩
  grind
  grind
 have hrun : (Builtin.append_ #[t, t] ty #[.slice an n c, .slice ay 0 cx]).run P w = .ok (.slice an n c) w := by
  cases an <;> cases ay <;> simp [Builtin.append_, dU hu, sizeOf, typeInfo, hi, Builtin.lenOf, Builtin.firstCells, hcap, loadCells, loadCellsFrom, storeCells]
 unfold Oper.wp
 have hexec : (execOp act.eval { dst := dst, op := .call { callee := .builtin .append, args := #[x, y], argTypes := #[t, t] }, type := ty, pos := pos, after := af, guard := g }).run P w = .ok (.value (.slice an n c)) w := by
  simp only [execOp, resolve, invoke, builtin, Sem.run_bind, Sem.run_pure, Result.andThen_ok, Qcb, QaG, QbO, hF.eval hx, hF.eval hy, hrun]
 rw [hexec]
 exact k _ w _ ⟨an, c, rfl, by rw [Qav]⟩ hO'
 grind [eI]
end
section
variable {P : Program} {S : World → Prop} {W0 : World} {N : FSz} {e : aH} {A R : List HP} {t ty : TypeId} {b off : Nat} {x : Operand} {l : List Value}
theorem t6 {E n c sz o' : Nat} {k : IntKind} {i : Nat} {j1 : Int} (hu : P.underlying t = some (.slice E)) (hs : ∀ w, (sizeOf E).run P w = .ok sz w) (hx : ev e x = some (.slice (some ⟨b, off, none⟩) n c))
    {lo : Operand} (h1 : ev e lo = some (.int k j1)) (e1 : j1 = (i : Int)) (hil : i ≤ n) (hne : i < c) (ho : off + i * sz = o') :
    aW P S N e (.slice t x (some lo) none none) (.slice (some ⟨b, o', none⟩) (n - i) (c - i)) := fun a w _ _ _ _ _ hF _ => by
 subst e1; subst ho
 have hmi : ¬ c = i := by omega
 simp [execOp, Instr.sliceAt, Instr.slice, hF.eval hx, hF.eval h1, dU hu, Instr.sliceBounds, qM hil, hs, hmi, gF]
theorem oG {E n c sz : Nat} {k : IntKind} {i : Nat} {j1 : Int} {a a' : Option Addr} (hu : P.underlying t = some (.slice E)) (hs : ∀ w, (sizeOf E).run P w = .ok sz w) (hx : ev e x = some (.slice a n c))
    {lo : Operand} (h1 : ev e lo = some (.int k j1)) (e1 : j1 = (i : Int)) (hil : i ≤ n) (ha : jc a c i sz = a') :
    aW P S N e (.slice t x (some lo) none none) (.slice a' (n - i) (c - i)) := fun act w _ _ _ _ _ hF _ => by
 subst e1; subst ha
 simp [execOp, Instr.sliceAt, Instr.slice, hF.eval hx, hF.eval h1, dU hu, Instr.sliceBounds, qM hil, hs, jc]
theorem EK (z : Array Value) (n : Nat) : (Builtin.zeroCells z n).toList.length = n * z.size := by simp [Builtin.zeroCells]
theorem Sl (z : Array Value) (n : Nat) (hz : z.all Value.oneCell' = true) : ∀ v ∈ (Builtin.zeroCells z n).toList, v.oneCell' = true := fun v hv => by
 simp only [Builtin.zeroCells, QbQ, Qbm, Array.toList_range, Qbs] at hv
 obtain ⟨i, hi, rfl⟩ := hv
 have hp : 0 < z.size := by
  grind
 have hlt : i % z.size < z.size := Qcy _ hp
 rw [getElem!_pos z (i % z.size) hlt]
 exact (Array.all_eq_true.1 hz) _ hlt
theorem Ax {E n c : Nat} {z : Value} (hu : P.underlying t = some (.slice E)) (hz : ∀ w, (zeroValue E).run P w = .ok z w) (h1 : z.cells.all Value.oneCell' = true) (hx : ev e x = some (.slice (some ⟨b, off, none⟩) n c)) (hn : 0 < n)
    [h : Tk pt b A (a7 l ty) R] (ho : off + n * z.cells.size ≤ l.length) :
    cn P W0 N e A (.call { callee := .builtin .clear, args := #[x], argTypes := #[t] }) (fun v B => ∃ vs : List Value, vs.length = n * z.cells.size ∧ v = .tuple #[] ∧ B = pt b (a7 (cz l off vs) ty) :: R) := by
 intro a w dst ty' pos af g K Q hF hO k
 have hO' := hO.tk (r := pt) (b := b)
 obtain ⟨w', hst, hO''⟩ := wC (P := P) (off := off) (Builtin.zeroCells z.cells n).toList 0 hO' (by rw [EK]; omega) (Sl _ _ h1)
 rw [Qbx] at hO''
 have hexec : (execOp a.eval { dst := dst, op := .call { callee := .builtin .clear, args := #[x], argTypes := #[t] }, type := ty', pos := pos, after := af, guard := g }).run P w = .ok (.value (.tuple #[])) w' := by
  obtain ⟨m, rfl⟩ : ∃ m, n = m + 1 := ⟨n - 1, by omega⟩
  simp only [execOp, resolve, invoke, builtin, Sem.run_bind, Sem.run_pure, Result.andThen_ok, Qcb, QaG, QbO, hF.eval hx, Builtin.clear_, QbT, QbD, Qbv, dU hu, hz, hst]
 unfold Oper.wp
 rw [hexec]
 exact k _ w' _ ⟨_, EK _ _, rfl, rfl⟩ hO''
section
variable {rd : Option Nat} {Q : Exit → Act → World → Prop} {ops : Array Oper} {rest : List Oper} {pos : String} {af : Array Edge} {d : Nat} {y : Operand}
theorem Sm {xc yc : Code} (k : ai W0 N (yc.wpR rd P Q) e A) : ai W0 N ((Code.cond (.const (.bool false)) xc yc).wpR rd P Q) e A :=
  fun a w hF hO => wpIn_cond_false (hF.eval (x := .const (.bool false)) rfl) (k a w hF hO)
theorem Sn {k : IntKind} {i : Int} {j : Nat} {s : ByteArray} (hu : P.underlying t = some .string) (hx : ev e x = some (.string s)) (hy : ev e y = some (.int k i)) (hi : i = (j : Int)) (hj : j < s.size) :
    aW P S N e (.index t x y) (.int .u8 (s[j]'hj).toNat) := fun a w _ _ _ _ _ hF _ => by
 subst hi
 have h1 : (0 : Int) ≤ (j : Int) := by omega
 simp only [execOp, Instr.index, Sem.run_bind, hF.eval hx, hF.eval hy, asIntOf, Sem.run_pure, Result.andThen_ok, dU hu, Qaf h1, Qam, getElem?_pos s j hj]
theorem Sp {k : IntKind} {i : Int} {j : Nat} {s : ByteArray} (hd : Nat.blt d N.n = true) (hu : P.underlying t = some .string) (hx : ev e x = some (.string s)) (hy : ev e y = some (.int k i)) (hi : i = (j : Int)) (hj : j < s.size)
    (kk : ∀ m : Nat, m < 256 → ai W0 N (bq rd P ops Q rest) ((d, .int .u8 m) :: e) A) :
    ai W0 N (bq rd P ops Q ({ dst := some d, op := .index t x y, type := ty, pos := pos, after := af, guard := none } :: rest)) e A :=
  aa hd (Sn hu hx hy hi hj) (kk _ (UInt8.toNat_lt _))
end
end
section
variable {P : Program} {W0 : World} {N : FSz} {e : aH} {A R R1 R2 R3 R4 R5 R6 R7 : List HP} {vs us cs : List Value}
variable {K1 K2 K3 K4 K5 K6 K7 K8 X1 X2 X3 X4 X5 X6 X7 X8 : Type} {r1 : K1 → X1 → HP} {b1 : K1} {x1 : X1} {r2 : K2 → X2 → HP} {b2 : K2} {x2 : X2} {r3 : K3 → X3 → HP} {b3 : K3} {x3 : X3} {r4 : K4 → X4 → HP} {b4 : K4} {x4 : X4} {r5 : K5 → X5 → HP} {b5 : K5} {x5 : X5} {r6 : K6 → X6 → HP} {b6 : K6} {x6 : X6} {r7 : K7 → X7 → HP} {b7 : K7} {x7 : X7} {r8 : K8 → X8 → HP} {b8 : K8} {x8 : X8}
theorem EL [h1 : Tk r1 b1 A x1 R1] [h2 : Tk r2 b2 R1 x2 R2] [h3 : Tk r3 b3 R2 x3 R3] [h4 : Tk r4 b4 R3 x4 R4] [h5 : Tk r5 b5 R4 x5 R5] [h6 : Tk r6 b6 R5 x6 R6] [h7 : Tk r7 b7 R6 x7 R] : A.Perm (r1 b1 x1 :: r2 b2 x2 :: r3 b3 x3 :: r4 b4 x4 :: r5 b5 x5 :: r6 b6 x6 :: r7 b7 x7 :: R) := h1.perm.trans (uB.cons _)
theorem Sq [h1 : Tk r1 b1 A x1 R1] [h2 : Tk r2 b2 R1 x2 R2] [h3 : Tk r3 b3 R2 x3 R3] [h4 : Tk r4 b4 R3 x4 R4] [h5 : Tk r5 b5 R4 x5 R5] [h6 : Tk r6 b6 R5 x6 R6] [h7 : Tk r7 b7 R6 x7 R7] [h8 : Tk r8 b8 R7 x8 R] : A.Perm (r1 b1 x1 :: r2 b2 x2 :: r3 b3 x3 :: r4 b4 x4 :: r5 b5 x5 :: r6 b6 x6 :: r7 b7 x7 :: r8 b8 x8 :: R) := h1.perm.trans (EL.cons _)
variable {f : FuncId} {xs : Array Operand} {ats : Array TypeId} {Post : Value → List HP → Prop}
theorem EM (hc : ∀ args w, (callFunc f args).run P w = .ok (.enter f args) w) (hx : e9 e xs.toList = some vs)
    (hs : bc P W0 f vs (r1 b1 x1 :: r2 b2 x2 :: r3 b3 x3 :: r4 b4 x4 :: r5 b5 x5 :: r6 b6 x6 :: r7 b7 x7 :: R) Post) [h1 : Tk r1 b1 A x1 R1] [h2 : Tk r2 b2 R1 x2 R2] [h3 : Tk r3 b3 R2 x3 R3] [h4 : Tk r4 b4 R3 x4 R4] [h5 : Tk r5 b5 R4 x5 R5] [h6 : Tk r6 b6 R5 x6 R6] [h7 : Tk r7 b7 R6 x7 R] : cn P W0 N e A (.call { callee := .value (.func f), args := xs, argTypes := ats }) Post :=
  ix EL (fZ hc hx hs)
theorem Ay (hc : ∀ args w, (callFunc f args).run P w = .ok (.enter f args) w) (hx : e9 e xs.toList = some vs)
    (hs : bc P W0 f vs (r1 b1 x1 :: r2 b2 x2 :: r3 b3 x3 :: r4 b4 x4 :: r5 b5 x5 :: r6 b6 x6 :: r7 b7 x7 :: r8 b8 x8 :: R) Post) [h1 : Tk r1 b1 A x1 R1] [h2 : Tk r2 b2 R1 x2 R2] [h3 : Tk r3 b3 R2 x3 R3] [h4 : Tk r4 b4 R3 x4 R4] [h5 : Tk r5 b5 R4 x5 R5] [h6 : Tk r6 b6 R5 x6 R6] [h7 : Tk r7 b7 R6 x7 R7] [h8 : Tk r8 b8 R7 x8 R] : cn P W0 N e A (.call { callee := .value (.func f), args := xs, argTypes := ats }) Post :=
  ix Sq (fZ hc hx hs)
end
structure Prt where
  lab : Int
  gu : Int
  l : List ByteArray
instance : Inhabited Prt := ⟨⟨0, 0, []⟩⟩
section
variable {P : Program} {W0 : World} {N : FSz} {K : Act → World → Prop} {e : aH} {A B R R1 R2 R3 R4 : List HP} {p g n : Nat} {ps : List Prt} {f : FuncId} {args : List Value} {Post : Value → List HP → Prop}
theorem EN {α : Type} : ∀ (l : List α) (i : Nat) (h : i < l.length), l.Perm (l[i] :: l.eraseIdx i)
 | x :: l, 0, h => by simp
 | x :: l, i + 1, h => by
  simp only [List.getElem_cons_succ, Qcc]
  exact ((EN l i (by simpa using h)).cons x).trans (List.Perm.swap _ _ _)
theorem EO {α : Type} : ∀ (l : List α) (i : Nat) (x : α) (h : i < l.length), (x :: l.eraseIdx i).Perm (l.set i x)
 | y :: l, 0, x, h => by simp
 | y :: l, i + 1, x, h => by
  simp only [List.set_cons_succ, Qcc]
  exact (List.Perm.swap _ _ _).trans ((EO l i x (by simpa using h)).cons y)
theorem Sr {L : List HP} {i : Nat} (h : i < L.length) : Ent (kH 2 (bH L) :: R) (L[i] :: kH 3 (bH (L.eraseIdx i)) :: R) := by
 refine (mM (A := L) (R := R)).trans ?_
 refine (Ent.ofPerm ((EN L i h).append_right R)).trans ?_
 exact Ent.cons mN
theorem Ss {L : List HP} {i : Nat} {x : HP} (h : i < L.length) : Ent (x :: kH 3 (bH (L.eraseIdx i)) :: R) (kH 2 (bH (L.set i x)) :: R) := by
 refine (Ent.cons mM).trans ?_
 exact (Ent.ofPerm ((EO L i x h).append_right R)).trans mN
end
theorem xu {vs : List Value} {i : Nat} {v : Value} (h : vs[i]? = some v) : vs.set i v = vs := by
 have hi : i < vs.length := by
  rcases QaD i vs.length with k | k
  exact k
  rw [Qbf k] at h; cases h
 have : vs[i] = v := by simpa [hi] using h
 rw [← this]; exact QbE _
@[reducible] def et (x : Int × Bool) : List Value := [.int .i64 x.1, .bool x.2]
theorem xv (x : Int × Bool) : (et x).length = 2 := rfl
@[reducible] def iY (n : Nat) : List Value := [.int .i64 (n : Int)]
theorem kT (n : Nat) : (iY n).length = 1 := rfl
def dM (p : Value × List Nat) : HP := osl 3 1 p.1 (p.2.flatMap iY)
@[reducible] def fA (ps : Nat) (sv : Value) (vs : List Value) : List Value := .pointer (some ⟨ps, 0, none⟩) :: sv :: vs
theorem EP (ps w : Nat) (sv v : Value) (vs : List Value) : (fA ps sv vs).set (2 + w * 1) v = fA ps sv (vs.set w v) := by
 grind
abbrev gO (w : Nat) : Nat → List Nat × List Value → HP := kS 176 3 1 iY (2 + w * 1)
def dk (pb : Nat) (x : Nat × Po) : HP := chk (fun C => ∃ a c vs Ls, vs.length = 16 ∧ LsOk x.2 Ls ∧ C = [pt pb (a7 (fA x.1 (.slice a x.2.length c) vs) 176), osl 178 2 (.slice a x.2.length c) (x.2.flatMap et), kH 2 (bH ((vs.zip Ls).map dM))])
theorem Su {F : List HP → Prop} {R B : List HP} (h : ∀ C, F C → Ent (C ++ R) B) : Ent (chk F :: R) B := ⟨fun l hl => by
 obtain ⟨l1, l2, rfl, ⟨C, hC, hs⟩, h2⟩ := hl
 exact (h C hC).out _ (gE.append.2 ⟨l1, l2, rfl, hs, h2⟩)⟩
section
variable {P : Program} {W0 : World} {N : FSz} {K : Act → World → Prop} {e : aH} {A B R R1 R2 R3 : List HP} {pb ps w n : Nat} {po : Po} {f : FuncId} {args : List Value} {Post : Value → List HP → Prop}
theorem xw [hk : Tk dk pb A (ps, po) R] (h : ∀ a c vs Ls, vs.length = 16 → LsOk po Ls → ai W0 N K e (pt pb (a7 (fA ps (.slice a po.length c) vs) 176) :: osl 178 2 (.slice a po.length c) (po.flatMap et) :: kH 2 (bH ((vs.zip Ls).map dM)) :: R)) : ai W0 N K e A :=
  fJ (r := dk) (b := pb) (lP fun C hC => by obtain ⟨a, c, vs, Ls, h1, h2, rfl⟩ := hC; exact h a c vs Ls h1 h2)
theorem EQ (h : ∀ a c vs Ls, vs.length = 16 → LsOk po Ls → bc P W0 f args (pt pb (a7 (fA ps (.slice a po.length c) vs) 176) :: osl 178 2 (.slice a po.length c) (po.flatMap et) :: kH 2 (bH ((vs.zip Ls).map dM)) :: R) Post) : bc P W0 f args (dk pb (ps, po) :: R) Post :=
  qK fun C hC => by obtain ⟨a, c, vs, Ls, h1, h2, rfl⟩ := hC; exact h a c vs Ls h1 h2
theorem t7 {a : Option Addr} {c : Nat} {vs xs : List Value} {Ls : List (List Nat)} {sv : Value} [h1 : Tk pt pb A (a7 (fA ps sv vs) 176) R1] [h2 : Tk (osl 178 2) sv R1 xs R2] [h3 : Tk kH 2 R2 (bH ((vs.zip Ls).map dM)) R3]
    (hs : sv = .slice a n c) (hv : vs.length = 16) (hL : LsOk po Ls) (hn : n = po.length) (hx : xs = po.flatMap et) [k : Ent R3 B] : Ent A (dk pb (ps, po) :: B) := by
 subst hs; subst hn; subst hx
 exact (Ent.ofPerm (h1.perm.trans ((h2.perm.trans (h3.perm.cons _)).cons _))).trans ((Ent.cons (Ent.cons (Ent.cons k))).trans (en (R := B) (C := [_, _, _]) ⟨a, c, vs, Ls, hv, hL, rfl⟩))
theorem Az {sv : Value} {vs : List Value} {Ls : List (List Nat)} (hw : w < 16) (hv : vs.length = 16) (hL : Ls.length = 16) :
    Ent (pt pb (a7 (fA ps sv vs) 176) :: kH 2 (bH ((vs.zip Ls).map dM)) :: R) (gO w pb (Ls.getD w [], fA ps sv vs) :: kH 3 (bH (((vs.zip Ls).map dM).eraseIdx w)) :: R) := by
 have hlen : ((vs.zip Ls).map dM).length = 16 := by simp [hv, hL]
 have hg : ((vs.zip Ls).map dM)[w]'(by omega) = osl 3 1 (vs.getD w undef) ((Ls.getD w []).flatMap iY) := by
  grind [dM]
 have e2 := Sr (L := (vs.zip Ls).map dM) (R := R) (i := w) (by omega)
 rw [hg] at e2
 refine (Ent.cons e2).trans ?_
 generalize hvw : vs.getD w undef = v
 have hvs : vs[w]? = some v := by grind
 refine ⟨fun l hl => ?_⟩
 obtain ⟨l1, l2, rfl, h1, l3, l4, rfl, h3, h4⟩ := hl
 have key : ∀ a c, v = .slice a (Ls.getD w []).length c → ∃ l' r, gE (gO w pb (Ls.getD w [], fA ps sv vs) :: kH 3 (bH (((vs.zip Ls).map dM).eraseIdx w)) :: R) l' ∧ (l1 ++ (l3 ++ l4)).Perm (l' ++ r) := fun a c hva => by
  have hcs : (fA ps sv vs).set (2 + w * 1) (.slice a (Ls.getD w []).length c) = fA ps sv vs := by
   grind [EP, xu]
  refine ⟨(l1 ++ l3) ++ l4, [], ⟨l1 ++ l3, l4, rfl, ⟨_, ⟨by simp [fA, hv]; omega, a, c, rfl⟩, ?_⟩, h4⟩, by simp⟩
  rw [hcs, ← hva]
  exact ⟨l1, l3, rfl, h1, l3, [], by simp, h3, rfl⟩
 rcases id h3 with ⟨k1, k2, _⟩ | ⟨g, n, cap, sp, k1, _, _, k4, _, _⟩
 have hl0 : (Ls.getD w []).length = 0 := by
  have := Qah List.length k2
  rw [cj kT] at this; simpa using this
 exact key none 0 (by rw [k1, hl0])
 have hl0 : (Ls.getD w []).length = n := by rw [cj kT] at k4; omega
 exact key (some ⟨g, 0, none⟩) cap (by rw [k1, hl0])
theorem AA {a : Option Addr} {c : Nat} {sv : Value} {vs : List Value} {Ls : List (List Nat)} {l : List Nat} {po' : Po} (hw : w < 16) (hv : vs.length = 16) (hs : sv = .slice a n c) (hn : n = po'.length) (hL : Ls.length = 16) (hk : LsOk po' (Ls.set w l)) :
    Ent (gO w pb (l, fA ps sv vs) :: osl 178 2 sv (po'.flatMap et) :: kH 3 (bH (((vs.zip Ls).map dM).eraseIdx w)) :: R) (dk pb (ps, po') :: R) := by
 refine Su fun C hC => ?_
 obtain ⟨ho, a2, c2, rfl⟩ := hC
 have hcs : (fA ps sv vs).set (2 + w * 1) (.slice a2 l.length c2) = fA ps sv (vs.set w (.slice a2 l.length c2)) := EP ..
 dsimp only
 rw [hcs]
 have hlen : ((vs.zip Ls).map dM).length = 16 := by simp [hv, hL]
 have hset : ((vs.set w (.slice a2 l.length c2)).zip (Ls.set w l)).map dM = ((vs.zip Ls).map dM).set w (dM (.slice a2 l.length c2, l)) := by
  apply QaQ
  simp
  grind
 have e2 : Ent (dM (.slice a2 l.length c2, l) :: kH 3 (bH (((vs.zip Ls).map dM).eraseIdx w)) :: R) (kH 2 (bH (((vs.set w (.slice a2 l.length c2)).zip (Ls.set w l)).map dM)) :: R) := by
  grind [Ss]
 refine (Ent.ofPerm ((List.Perm.swap _ _ _).cons _)).trans ?_
 refine (Ent.cons (Ent.cons e2)).trans ?_
 exact t7 (vs := vs.set w (.slice a2 l.length c2)) hs (by grind) hk hn rfl
end
theorem ER (po : Po) (sp : List Value) (i j : Nat) (hi : i < po.length) (hj : j < 2) : (po.flatMap et ++ sp)[i * 2 + j]? = (et (cV po i))[j]? := by
 simp_all [lj, xv, cV]
theorem Sv (po : Po) (sp : List Value) (i : Nat) (v : Int) (hi : i < po.length) : (po.flatMap et ++ sp).set (i * 2 + 0) (iQ v) = (po.set i (v, (cV po i).2)).flatMap et ++ sp :=
  mW xv po i 0 _ _ sp hi (by decide) (by grind [cV])
theorem ES (po : Po) (sp : List Value) (i : Nat) (v : Bool) (hi : i < po.length) : (po.flatMap et ++ sp).set (i * 2 + 1) (.bool v) = (po.set i ((cV po i).1, v)).flatMap et ++ sp :=
  mW xv po i 1 _ _ sp hi (by decide) (by grind [cV])
theorem pN (po : Po) : (po.flatMap et).length = po.length * 2 := cj xv po
abbrev pO (pb w : Nat) : Value := .pointer (some ⟨pb, 2 + w * 1, none⟩)
theorem ru {its : List Nat} {sp : List Value} {i : Nat} (hi : i < its.length) : (its.flatMap iY ++ sp)[i * 1]? = some (iQ ((its.getD i default : Nat) : Int)) := by
 have := lj kT its i 0 sp hi (by decide)
 rw [Qbx] at this
 rw [this]; simp [iY, List.getD, hi]
theorem xx {its : List Nat} {sp : List Value} {i x : Nat} (hi : i < its.length) : (its.flatMap iY ++ sp).set (i * 1) (iQ (x : Int)) = (its.set i x).flatMap iY ++ sp := by
 have := mW kT its i 0 (iQ (x : Int)) x sp hi (by decide) (by simp [iY])
 rwa [Qbx] at this
theorem xy {its : List Nat} {sp : List Value} {i : Nat} (hi : i < its.length) : i * 1 + 1 ≤ (its.flatMap iY ++ sp).length := Se kT its sp i hi
theorem AB (pb w : Nat) (its : List Nat) (cs : List Value) : sQ W0 195 [pO pb w] (gO w pb (its, cs) :: R) (iQ (its.length : Nat)) (gO w pb (its, cs) :: R) := by
 refine pM fun a c ho => ?_
 refine ab func195 ntmps195 ?_
 refine a6 (aG (aF (dE ho))) ?_
 refine a8 ?_
 exact ⟨_, ⟨rfl, rfl⟩, lx rfl rfl ho rfl⟩
theorem Sw (pb w : Nat) (its : List Nat) (cs : List Value) (i k : Nat) (hi : i < its.length) (hk : k < its.length) : sQ W0 496 [pO pb w, iQ i, iQ k] (gO w pb (its, cs) :: R) (.bool (decide (Hp.us its i < Hp.us its k))) (gO w pb (its, cs) :: R) := by
 refine nx kT (by grind) (by decide) fun g c sp ho h1 h2 h3 => ?_
 refine ab func496 ntmps496 ?_
 refine bB [pb, g] 16 fun hS => ?_
 refine ae 0 3 hS ?_
 refine av 3 hS (aG (co (k := 0) rfl (dE ho))) ?_
 refine ae 4 1 hS ?_
 refine av 5 hS (bA hi) ?_
 refine av 6 hS (aG (co (k := 1) rfl (ru hi))) ?_
 refine ae 7 3 hS ?_
 refine av 10 hS (aG (co (k := 0) rfl (dE ho))) ?_
 refine ae 11 1 hS ?_
 refine av 12 hS (bA hk) ?_
 refine av 13 hS (aG (co (k := 1) rfl (ru hk))) ?_
 refine ae 14 2 hS ?_
 refine aI ?_
 refine a8 ?_
 exact ⟨_, ⟨rfl, rfl⟩, iE kT rfl rfl ho rfl h1 h2 h3⟩
theorem Sx (pb w : Nat) (its : List Nat) (cs : List Value) (i k : Nat) (hi : i < its.length) (hk : k < its.length) : sQ W0 499 [pO pb w, iQ i, iQ k] (gO w pb (its, cs) :: R) (.tuple #[]) (gO w pb (Hp.swapL its i k, cs) :: R) := by
 refine nx kT (by grind) (by decide) fun g c sp ho h1 h2 h3 => ?_
 refine ab func499 ntmps499 ?_
 refine bB [pb] 28 fun hS => ?_
 refine ae 0 3 hS ?_
 refine av 3 hS (aG (co (k := 0) rfl (dE ho))) ?_
 refine ae 4 4 hS ?_
 refine av 8 hS (aG (co (k := 0) rfl (dE ho))) ?_
 refine ae 9 4 hS ?_
 refine av 13 hS (aG (co (k := 0) rfl (dE ho))) ?_
 refine ae 14 1 hS ?_
 refine av 15 hS (bA hk) ?_
 refine ae 17 3 hS ?_
 refine av 20 hS (aG (co (k := 0) rfl (dE ho))) ?_
 refine ae 21 1 hS ?_
 refine av 22 hS (bA hi) ?_
 refine eG (is := [16, 23]) (by kernel_rfl) rfl ⟨?_, ?_, trivial⟩
 refine di (db (aG (aF (ru hk)))) ?_; clear hS
 rintro _ _ ⟨rfl, rfl⟩
 refine ⟨aK, fun hS => ?_⟩
 refine bJ 23 (db (aG (aF (ru hi)))) fun hS => ?_
 refine av 24 hS (bA hi) ?_
 refine cq 25 (dx (xy hi) (xx hi)) fun hS => ?_
 refine av 26 hS (bA hk) ?_
 refine cq 27 (dx (xy (by grind)) (xx (by grind))) fun hS => ?_
 refine aI ?_
 refine bM (.inr rfl) .nil ?_
 exact ⟨_, ⟨rfl, rfl⟩, iE kT rfl rfl ho (by simp [Hp.swapL]) (by omega) h2 (by rw [Qad, cj kT] at h3 ⊢; simpa [Hp.swapL] using h3)⟩
 skip
 refine di (db (aG (aF (ru hi)))) ?_; clear hS
 rintro _ _ ⟨rfl, rfl⟩
 refine ⟨aK, fun hS => ?_⟩
 refine bJ 16 (db (aG (aF (ru hk)))) fun hS => ?_
 refine av 24 hS (bA hi) ?_
 refine cq 25 (dx (xy hi) (xx hi)) fun hS => ?_
 refine av 26 hS (bA hk) ?_
 refine cq 27 (dx (xy (by grind)) (xx (by grind))) fun hS => ?_
 refine aI ?_
 refine bM (.inr rfl) .nil ?_
 exact ⟨_, ⟨rfl, rfl⟩, iE kT rfl rfl ho (by simp [Hp.swapL]) (by omega) h2 (by rw [Qad, cj kT] at h3 ⊢; simpa [Hp.swapL] using h3)⟩
theorem Sy (pb w : Nat) (its : List Nat) (x : Nat) (cs : List Value) : sQ W0 497 [pO pb w] (gO w pb (its ++ [x], cs) :: R) (.iface 3 (iQ (x : Int))) (gO w pb (its, cs) :: R) := by
 refine nx kT (by simp) (by decide) fun g c sp ho h1 h2 h3 => ?_
 have hl : (its ++ [x]).length = its.length + 1 := by simp
 rw [hl] at h1 ⊢
 have hg : (its ++ [x]).getD its.length default = x := by grind
 have he : (its ++ [x]).flatMap iY ++ sp = its.flatMap iY ++ (iY x ++ sp) := by simp
 have hget := ru (its := its ++ [x]) (sp := sp) (i := its.length) (by omega)
 rw [hg] at hget
 refine ab func497 ntmps497 ?_
 refine a6 (aG (aF (dE ho))) ?_
 refine a6 (iq rfl rfl (by rw [bN (by simp only [maxLen] at h2; omega)]; omega : IntKind.wrap .i64 (((its.length + 1 : Nat) : Int) - 1) = ((its.length : Nat) : Int))) ?_
 refine a6 (aG (aF (dE ho))) ?_
 refine a6 (bA (by omega)) ?_
 refine a6 (aG (aF hget)) ?_
 refine a6 (aG (aF (dE ho))) ?_
 refine a6 (lO fe aO rfl rfl rfl (by omega)) ?_
 refine ax (dx (by rw [Qao]; exact ho) set_set) ?_
 refine a8 ?_
 rw [he]
 exact ⟨_, ⟨rfl, rfl⟩, iE (sp := iY x ++ sp) kT rfl rfl ho rfl (by omega) h2 (by rw [← he]; exact h3)⟩
theorem Sz (pb w : Nat) (its : List Nat) (x : Nat) (cs : List Value) (hn : its.length < 1000) : sQ W0 498 [pO pb w, .iface 3 (iQ (x : Int))] (gO w pb (its, cs) :: R) (.tuple #[]) (gO w pb (its ++ [x], cs) :: R) := by
 refine pM fun a c ho => ?_
 have he : its.flatMap iY ++ [Value.int .i64 (x : Int)] = (its ++ [x]).flatMap iY := by simp
 refine lk func498 ntmps498 rfl rfl ?_
 refine bB [] 12 fun hS => ?_
 refine ae 0 4 hS ?_
 refine ae 5 1 hS ?_
 refine av 6 hS (pu dN (fun _ h => by cases h) rfl) ?_
 refine eG (is := [4, 7]) (by kernel_rfl) rfl ⟨?_, ?_, trivial⟩
 refine di (db (aG (aF (dE ho)))) ?_; clear hS
 rintro _ _ ⟨rfl, rfl⟩
 refine ⟨aK, fun hS => ?_⟩
 refine li 7 (by kernel_rfl) rfl rfl (jG fe aO me rfl rfl rfl rfl rfl (by decide) (by decide)) rfl ?_; clear hS
 rintro _ _ ⟨b1, rfl, rfl⟩
 refine ⟨aK, fun hS => ?_⟩
 refine cg 8 (eI (sz := 1) (by_ := 8) (info := Tryz.t3) fe (by kernel_rfl) rfl rfl rfl rfl (by decide) rfl rfl eA rfl rfl (by simp only [maxLen]; omega) (by omega)) ?_; clear hS
 rintro _ _ ⟨a1, c1, rfl, rfl⟩
 refine ⟨aK, fun hS => ?_⟩
 refine ae 9 2 hS ?_
 refine cq 11 (dx (by grind) set_set) fun hS => ?_
 refine fy ?_
 refine bM (.inr rfl) .nil ?_
 exact ⟨_, ⟨rfl, rfl⟩, lx (its := its ++ [x]) he rfl ho (by simp)⟩
 skip
 refine kJ rfl rfl (jG fe aO me rfl rfl rfl rfl rfl (by decide) (by decide)) rfl ?_; clear hS
 rintro _ _ ⟨b1, rfl, rfl⟩
 refine ⟨aK, fun hS => ?_⟩
 refine bJ 4 (db (aG (aF (dE ho)))) fun hS => ?_
 refine cg 8 (eI (sz := 1) (by_ := 8) (info := Tryz.t3) fe (by kernel_rfl) rfl rfl rfl rfl (by decide) rfl rfl eA rfl rfl (by simp only [maxLen]; omega) (by omega)) ?_; clear hS
 rintro _ _ ⟨a1, c1, rfl, rfl⟩
 refine ⟨aK, fun hS => ?_⟩
 refine ae 9 2 hS ?_
 refine cq 11 (dx (by grind) set_set) fun hS => ?_
 refine aI ?_
 refine bM (.inr rfl) .nil ?_
 exact ⟨_, ⟨rfl, rfl⟩, lx (its := its ++ [x]) he rfl ho (by simp)⟩
section
variable (w : World) (a : Addr)
theorem SA : (method (Tryz.prog.types.size + Made.depth) 292 (.pointer (some a)) "Len").run Tryz.prog w = .ok (195, .pointer (some a)) w := by kernel_rfl
theorem SB : (method (Tryz.prog.types.size + Made.depth) 292 (.pointer (some a)) "Less").run Tryz.prog w = .ok (496, .pointer (some a)) w := by kernel_rfl
theorem SD : (method (Tryz.prog.types.size + Made.depth) 292 (.pointer (some a)) "Swap").run Tryz.prog w = .ok (499, .pointer (some a)) w := by kernel_rfl
theorem SE : (method (Tryz.prog.types.size + Made.depth) 292 (.pointer (some a)) "Push").run Tryz.prog w = .ok (498, .pointer (some a)) w := by kernel_rfl
theorem SF : (method (Tryz.prog.types.size + Made.depth) 292 (.pointer (some a)) "Pop").run Tryz.prog w = .ok (497, .pointer (some a)) w := by kernel_rfl
end
def ET (W0 : World) (pb w : Nat) (cs : List Value) : HpO W0 Nat where
  T := 292
  p := pO pb w
  el := fun x => .iface 3 (.int .i64 (x : Int))
  H := fun l => gO w pb (l, cs)
  fL := 195
  fE := 496
  fS := 499
  fU := 498
  fO := 497
  mL := fun u => SA u _
  mE := fun u => SB u _
  mS := fun u => SD u _
  mU := fun u => SE u _
  mO := fun u => SF u _
  cL := IJ
  cE := call496
  cS := call499
  cU := call498
  cO := call497
  sL := fun R l => AB pb w l cs
  sE := fun R l i j hi hj => Sw pb w l cs i j hi hj
  sS := fun R l i j hi hj => Sx pb w l cs i j hi hj
  sU := fun R l x hl => Sz pb w l x cs hl
  sO := fun R l x => Sy pb w l x cs
theorem SG (pb w : Nat) (its : List Nat) (x : Nat) (cs : List Value) (hN : its.length < 900) (hh : Hp.Heap its its.length) : sP W0 149 [.iface 292 (pO pb w), .iface 3 (iQ (x : Int))] (gO w pb (its, cs) :: R) (fun v B => v = .tuple #[] ∧ ∃ its', B = gO w pb (its', cs) :: R ∧ its'.Perm (its ++ [x]) ∧ Hp.Heap its' its'.length) :=
  Hp.heapPush_spec (ET W0 pb w cs) R its x hN hh
theorem SH (pb w : Nat) (its : List Nat) (cs : List Value) (hN : its.length < 900) (h0 : its ≠ []) (hh : Hp.Heap its its.length) : sP W0 196 [.iface 292 (pO pb w)] (gO w pb (its, cs) :: R) (fun v B => ∃ x its', v = .iface 3 (iQ ((x : Nat) : Int)) ∧ B = gO w pb (its', cs) :: R ∧ (its' ++ [x]).Perm its ∧ Hp.Heap its' its'.length ∧ ∀ y ∈ its, (x : Int) ≤ (y : Int)) :=
  Hp.heapPop_spec (ET W0 pb w cs) R its hN h0 hh
def dm : Value := .slice none 0 0
theorem SI (ps : Nat) (fr : List ap) (f : Nat) (hf : f < fr.length) : sQ W0 171 [pQ ps, iQ f] (bj ps fr :: R) (iQ 0) (bj ps (fr.set f bX) :: R) := by
 have hi : dR fr.length f = true := by grind [dR]
 refine ab func171 ntmps171 ?_
 refine ac (ah u9 (qY ps fr f)) ?_
 refine ag (fun c2 => ?_) fun c2 => ?_
 exact absurd c2 (by simp [hi])
 refine qW (ps := ps) fun g => ?_
 refine aw ?_
 refine a6 (uC w8 lI zeroValue217 rfl) ?_
 refine a6 (bA hf) ?_
 refine ax (gK (by rw [DZ]; omega) (DY (y := bX) hf rfl)) ?_
 refine a8 ?_
 exact ⟨_, ⟨rfl, rfl⟩, mm rfl (by simp)⟩
theorem xz (pb ps : Nat) (po : Po) (h0 : 0 < po.length) : sQ W0 80 [pQ pb] (dk pb (ps, po) :: R) (.bool false) (dk pb (ps, po) :: R) := by
 refine EQ fun a c vs Ls hv hL => ?_
 refine ab func80 ntmps80 ?_
 refine cR rfl rfl rfl (fun g1_3 => ?_) fun g1_3 => ?_
 cases g1_3
 refine aw ?_
 refine a8 ?_
 exact ⟨_, ⟨by simp [aU, show po ≠ [] from fun e => by subst e; simp at h0], rfl⟩, t7 rfl hv hL rfl rfl⟩
theorem EU (pb ps : Nat) (po : Po) (f : Int) : sQ W0 81 [pQ pb, iQ f] (dk pb (ps, po) :: R) (.bool (dR po.length f)) (dk pb (ps, po) :: R) := by
 refine EQ fun a c vs Ls hv hL => ?_
 refine ab func81 ntmps81 ?_
 refine cM (fun g1_3 => ?_) fun g1_3 => ?_
 refine a8 ?_
 refine ⟨_, ⟨?_, rfl⟩, t7 rfl hv hL rfl rfl⟩
 refine Qah Value.bool ?_
 rw [Qae, dR, Qag]
 first
   | (rw [Qag]; constructor <;> (intro q; omega))
   | (constructor
      · intro q; first | omega | (cases q)
      intro q; omega)
 refine a8 ?_
 refine ⟨_, ⟨?_, rfl⟩, t7 rfl hv hL rfl rfl⟩
 refine Qah Value.bool ?_
 rw [Qae, dR, Qag]
 first
   | (rw [Qag]; constructor <;> (intro q; omega))
   | (constructor
      · intro q; first | omega | (cases q)
      intro q; omega)
def oH (w : Int) : Bool := decide (0 ≤ w ∧ w < 16)
theorem AC (w : Int) : sQ W0 82 [iQ w] R (.bool (oH w)) R := by
 refine ab func82 ntmps82 ?_
 refine cM (fun g1_3 => ?_) fun g1_3 => ?_
 refine a8 ?_
 refine aE ?_
 refine Qah Value.bool ?_
 rw [Qae, oH, Qag]
 first
   | (rw [Qag]; constructor <;> (intro q; omega))
   | (constructor
      · intro q; first | omega | (cases q)
      intro q; omega)
 refine a8 ?_
 refine aE ?_
 refine Qah Value.bool ?_
 rw [Qae, oH, Qag]
 first
   | (rw [Qag]; constructor <;> (intro q; omega))
   | (constructor
      · intro q; first | omega | (cases q)
      intro q; omega)
theorem SJ : ∀ n : Nat, (List.replicate n ((-1 : Int), false)).flatMap et = (List.replicate n [Value.int .i64 (-1), .bool false]).flatten
 | 0 => rfl
 | n + 1 => by rw [List.replicate_succ, QaW, SJ n, List.replicate_succ, List.flatten_cons]
theorem SK (n : Nat) : (List.replicate n ((-1 : Int), false)).flatMap et ++ [[Value.int .i64 (-1), .bool false]].flatten = (List.replicate (n + 1) ((-1 : Int), false)).flatMap et := by
 grind [Qbw]
theorem EV {R : List HP} : ∀ n : Nat, Ent R (kH 2 (bH (((List.replicate n dm).zip (List.replicate n ([] : List Nat))).map dM)) :: R)
 | 0 => mN (A := [])
 | n + 1 => by
  have ih := EV (R := R) n
  refine ih.trans ?_
  refine (mM (A := ((List.replicate n dm).zip (List.replicate n ([] : List Nat))).map dM) (R := R)).trans ?_
  refine (eH (E := 3) (sz := 1) (B := ((List.replicate n dm).zip (List.replicate n ([] : List Nat))).map dM ++ R)).trans ?_
  exact mN (A := dM (dm, []) :: ((List.replicate n dm).zip (List.replicate n ([] : List Nat))).map dM) (R := R)
theorem AD (ps : Nat) (fr : List ap) (h0 : 0 < fr.length) (h32 : fr.length ≤ 32) : sP W0 19 [pQ ps] (bj ps fr :: R) (fun v B => ∃ pb, v = .tuple #[pQ pb, iQ 0] ∧ B = dk pb (ps, List.replicate fr.length (-1, false)) :: bj ps fr :: R) := by
 refine ab func19 ntmps19 ?_
 refine ac (ah ua (qX ps fr)) ?_
 refine aA rfl (fun c1 => ?_) fun c1 => ?_
 omega
 refine aw ?_
 refine aS fun pb => ?_
 refine ac (ah ua (qX ps fr)) ?_
 refine fQ (fun X : Nat × Option Addr × Nat => X.1 ≤ fr.length) (fun X => [(4, pQ pb), (12, iQ (fr.length : Nat)), (13, iQ X.1)]) (fun X => pt pb (a7 (fA ps (.slice X.2.1 X.1 X.2.2) (List.replicate 16 dm)) 176) :: osl 178 2 (.slice X.2.1 X.1 X.2.2) ((List.replicate X.1 ((-1 : Int), false)).flatMap et) :: bj ps fr :: R) (fun X => fr.length - X.1) (0, none, 0) ?_ ?_ ?_ ?_
 omega
 · repeat (first | exact ci | refine bQ rfl ?_)
 exact (Ent.ofPerm (List.Perm.swap _ _ _)).trans (Ent.cons (eH (E := 178) (sz := 2)))
 intro ⟨i, a2, c2⟩ hi
 dsimp only at hi ⊢
 refine aw ?_
 refine ag (fun c5 => ?_) fun c5 => ?_
 refine d7 (iz yY C2 a1Z rfl (eJ rfl rfl gG) rfl (by decide) (by decide) (by decide)) fun b2 => ?_
 refine am rfl (eI (sz := 2) (by_ := 16) (info := Tryz.t178) yY (by kernel_rfl) rfl rfl rfl rfl (by decide) rfl rfl eA rfl rfl (by simp only [maxLen]; omega) (by omega)) ?_
 rintro _ _ ⟨a3, c3, rfl, rfl⟩
 refine aw ?_
 refine ax dy ?_
 refine a6 bS ?_
 refine bE (i + 1, a3, c3) ?_ (he := ?_)
 omega
 dsimp only
 rw [← SK]
 exact IO
 refine az ?_
 obtain rfl : i = fr.length := by omega
 refine ⟨_, ⟨pb, rfl, rfl⟩, ?_⟩
 exact (Ent.cons (Ent.cons (EV (R := bj ps fr :: R) 16))).trans (t7 (a := a2) (c := c2) rfl (by simp) (LsOk.new _) (by simp) rfl)
theorem SL (pb ps : Nat) (po : Po) (fr : List ap) (f w : Nat) (t : Bool) (hf : f < po.length) (hff : f < fr.length) (hw : w < 16) (hP : PoOk po) (ha : cV po f = ((w : Int), t)) (a : Option Addr) (c : Nat) (vs : List Value) (Ls : List (List Nat)) (hv : vs.length = 16) (hL : LsOk (po.set f (-1, false)) Ls) : sQ W0 83 [pQ pb, iQ f] (pt pb (a7 (fA ps (.slice a po.length c) vs) 176) :: osl 178 2 (.slice a po.length c) (po.flatMap et) :: kH 2 (bH ((vs.zip Ls).map dM)) :: bj ps fr :: R) (iQ 0) (dk pb (ps, po.set f ((w : Int), false)) :: bj ps (fr.set f bX) :: R) := by
 have hrow := hL.row w hw
 have hP1 : PoOk (po.set f (-1, false)) := ⟨by rw [Qao]; exact hP.len, fun g hg => by
  rw [Qao] at hg
  rw [ku hf]
  split
  grind
  exact hP.who g hg⟩
 have hrl := hL.rlen hP1 hw
 have hown := S8 (po := po.set f (-1, false)) (f := f) (w := w) (by grind) (by grind [ku])
 rw [List.set_set] at hown
 have hoth : ∀ u, u < 16 → u ≠ w → bP (po.set f ((w : Int), false)) u = bP (po.set f (-1, false)) u := fun u hu hne => by
  have := EE (po := po.set f (-1, false)) (f := f) (x := ((w : Int), false)) (w := u) (by grind) (by grind [ku]) (by grind)
  rw [List.set_set] at this
  exact this
 have hset : (po.set f ((cV po f).1, false)) = po.set f ((w : Int), false) := by rw [ha]
 refine js 6 func83 ntmps83 ?_
 refine fJ (r := osl 178 2) (b := .slice a po.length c) (kc (fun h1 h2 => by have := Qah List.length h2; rw [pN] at this; simp at this; omega) fun g n cap sp h1 h2 h3 h4 h5 => ?_)
 cases h1
 refine aw ?_
 refine a6 (bA hf) ?_
 refine iT 3 (dx (by omega) (ES po sp f false hf)) ?_
 rw [hset]
 refine fF (B := pt g (a7 ((po.set f ((w : Int), false)).flatMap et ++ sp) 178) :: gO w pb (Ls.getD w [], fA ps (.slice (some ⟨g, 0, none⟩) po.length c) vs) :: kH 3 (bH (((vs.zip Ls).map dM).eraseIdx w)) :: bj ps fr :: R) ?_ ?_
 refine Ent.cons ?_
 exact Az hw hv hL.len
 have hg0 : ((po.set f ((w : Int), false)).flatMap et ++ sp)[f * 2 + 0]? = some (iQ ((w : Nat) : Int)) := by
  rw [ER _ _ _ _ (by grind) (by decide), ku hf, Qaf rfl]; rfl
 have hgl : ((po.set f ((w : Int), false)).flatMap et ++ sp).length = c * 2 := by
  grind [Qad, pN]
 refine fH [(pb, 1, [.slice (some ⟨g, 0, none⟩) po.length c]), (g, 0, _)] 16 mixed rfl (cB (EF (T := 176) (E := 3) (sz := 1) (f := iY) (o := 2 + w * 1) (by omega) rfl) (bZ bL)) (fun hS => ?_)
 refine ae 0 4 hS ?_
 refine av 4 hS (aG (iy (k := 0) (j := 0) rfl rfl)) ?_
 refine ae 5 1 hS ?_
 refine av 6 hS (bA hf) ?_
 refine ae 7 1 hS ?_
 refine av 8 hS (aG (co (k := 1) rfl hg0)) ?_
 refine ae 9 2 hS ?_
 refine av 11 hS (i4 hw) ?_
 refine ae 12 3 hS ?_
 refine cg 15 (ah Cp (SG pb w (Ls.getD w []) f (fA ps (.slice (some ⟨g, 0, none⟩) po.length c) vs) (by omega) hrow.2)) ?_; clear hS
 rintro _ _ ⟨rfl, l', rfl, hp, hh⟩
 refine ⟨(cB (EF (T := 176) (E := 3) (sz := 1) (f := iY) (o := 2 + w * 1) (by omega) rfl) (bZ bL)), fun hS => ?_⟩
 refine fy ?_
 refine au 2 ?_
 refine fF (B := dk pb (ps, po.set f ((w : Int), false)) :: bj ps fr :: R) ?_ ?_
 have e := ez (E := 178) (sz := 2) (g := g) (n := po.length) (cap := c) (xs := (po.set f ((w : Int), false)).flatMap et) (sp := sp) (A := pt g (a7 ((po.set f ((w : Int), false)).flatMap et ++ sp) 178) :: kH 3 (bH (((vs.zip Ls).map dM).eraseIdx w)) :: bj ps fr :: R) (B := kH 3 (bH (((vs.zip Ls).map dM).eraseIdx w)) :: bj ps fr :: R) h2 h3 (by grind) hgl
 refine (Ent.cons e).trans ?_
 exact AA hw hv rfl (by simp) hL.len (hL.set hw (hp.trans ((hrow.1.append_right [f]).trans hown)) hh hoth)
 refine xw (pb := pb) fun a2 c2 vs2 Ls2 hv2 hL2 => ?_
 refine aw ?_
 refine ac (ah call171 (SI ps fr f hff)) ?_
 refine a8 ?_
 exact ⟨_, ⟨rfl, rfl⟩, t7 rfl hv2 hL2 (by simp) rfl⟩
theorem EW (pb ps : Nat) (po : Po) (fr : List ap) (f w : Nat) (hf : f < po.length) (hff : f < fr.length) (hw : w < 16) (hP : PoOk po) (ha : cV po f = (-1, false)) : sQ W0 22 [.pointer (some ⟨pb, 0, none⟩), .int .i64 f, .int .i64 w] (dk pb (ps, po) :: bj ps fr :: R) (.int .i64 0) (dk pb (ps, po.set f ((w : Int), false)) :: bj ps (fr.set f bX) :: R) := by
 have hi : dR po.length f = true := by grind [dR]
 have hw' : oH w = true := by grind [oH]
 have h0 : po.set f (-1, false) = po := by
  grind [cV, List.getD, QbE]
 refine js 10 func22 ntmps22 ?_
 refine dK 3 (lh Cq rfl (xz pb ps po (by omega))) ?_
 refine aA rfl (fun c1 => ?_) fun c1 => ?_
 exact absurd c1 (by decide)
 refine au 5 ?_
 refine dK 4 (lh call81 rfl (EU pb ps po f)) ?_
 refine aA rfl (fun c3 => ?_) fun c3 => ?_
 exact absurd c3 (by simp [hi])
 refine au 2 ?_
 refine dK 4 (fZ IK rfl (AC w)) ?_
 refine aA rfl (fun c4 => ?_) fun c4 => ?_
 exact absurd c4 (by simp [hw'])
 refine aP ?_
 refine xw (pb := pb) fun a c vs Ls hv hL => ?_
 refine fJ (r := osl 178 2) (b := .slice a po.length c) (kc (fun h1 h2 => by have := Qah List.length h2; rw [pN] at this; simp at this; omega) fun g n cap sp h1 h2 h3 h4 h5 => ?_)
 cases h1
 refine au 6 ?_
 refine aa rfl (gn yY C2 rfl rfl rfl hf (by first | exact Qab _ | rfl)) ?_
 refine aa rfl (Dl Ii aO) ?_
 refine gJ 4 (bW cP rfl (aF ((ER po sp f 0 hf (by decide)).trans (by rw [ha]; rfl)))) ?_
 refine aA rfl (fun c6 => ?_) fun c6 => ?_
 exact absurd c6 (by decide)
 refine au 11 ?_
 refine aa rfl (gn yY C2 rfl rfl rfl hf (by first | exact Qab _ | rfl)) ?_
 refine aa rfl (Dl Ii aO) ?_
 refine iT 3 (ka aO rfl rfl rfl (by omega) (Sv po sp f (w : Int) hf)) ?_
 rw [ha]
 refine fF (B := pt pb (a7 (fA ps (.slice (some ⟨g, 0, none⟩) (po.set f ((w : Int), false)).length c) vs) 176) :: osl 178 2 (.slice (some ⟨g, 0, none⟩) (po.set f ((w : Int), false)).length c) ((po.set f ((w : Int), false)).flatMap et) :: kH 2 (bH ((vs.zip Ls).map dM)) :: bj ps fr :: R) ?_ ?_
 rw [Qao]
 have e := ez (E := 178) (sz := 2) (g := g) (n := po.length) (cap := c) (xs := (po.set f ((w : Int), false)).flatMap et) (sp := sp) (A := pt g (a7 ((po.set f ((w : Int), false)).flatMap et ++ sp) 178) :: kH 2 (bH ((vs.zip Ls).map dM)) :: bj ps fr :: R) (B := kH 2 (bH ((vs.zip Ls).map dM)) :: bj ps fr :: R) h2 h3 (by grind [pN]) (by grind [Qad, pN])
 exact (inferInstance : Ent _ (pt pb (a7 (fA ps (.slice (some ⟨g, 0, none⟩) po.length c) vs) 176) :: pt g (a7 ((po.set f ((w : Int), false)).flatMap et ++ sp) 178) :: kH 2 (bH ((vs.zip Ls).map dM)) :: bj ps fr :: R)).trans (Ent.cons e)
 refine au 3 ?_
 refine dK 4 (ng call83 rfl (SL pb ps (po.set f ((w : Int), false)) fr f w false (by grind) hff hw (hP.set hf (by simp) (by simp; omega)) (by grind [ku]) (some ⟨g, 0, none⟩) c vs Ls hv (by simp_all))) ?_
 refine a8 ?_
 rw [List.set_set]
 exact ⟨_, ⟨rfl, rfl⟩, IO⟩
theorem SN (pb ps : Nat) (po : Po) (w : Nat) (h0 : 0 < po.length) (hw : w < 16) : sQ W0 259 [pQ pb, iQ w] (dk pb (ps, po) :: R) (iQ ((bP po w).length : Nat)) (dk pb (ps, po) :: R) := by
 have hw' : oH w = true := by grind [oH]
 refine ab func259 ntmps259 ?_
 refine dK 1 (ah Cq (xz pb ps po h0)) ?_
 refine cR rfl rfl rfl (fun g1_3 => ?_) fun g1_3 => ?_
 exact absurd g1_3 (by decide)
 refine aw ?_
 refine ac (ao IK (AC w)) ?_
 refine aA rfl (fun c1 => ?_) fun c1 => ?_
 exact absurd c1 (by simp [hw'])
 refine au 3 ?_
 refine xw (pb := pb) fun a c vs Ls hv hL => ?_
 have hrow := hL.row w hw
 refine fF (B := gO w pb (Ls.getD w [], fA ps (.slice a po.length c) vs) :: kH 3 (bH (((vs.zip Ls).map dM).eraseIdx w)) :: osl 178 2 (.slice a po.length c) (po.flatMap et) :: R) ?_ ?_
 exact (Ent.cons (Ent.ofPerm (List.Perm.swap _ _ _))).trans (Az hw hv hL.len)
 refine aw ?_
 refine a6 (i4 hw) ?_
 refine ac (ah IJ (AB pb w (Ls.getD w []) (fA ps (.slice a po.length c) vs))) ?_
 refine a8 ?_
 rw [hrow.1.length_eq]
 have hLs : Ls.set w (Ls.getD w []) = Ls := by
  rw [show Ls.getD w [] = Ls[w]'(by rw [hL.len]; exact hw) by simp [List.getD, hL.len, hw]]; exact QbE _
 refine ⟨_, ⟨rfl, rfl⟩, ?_⟩
 exact (Ent.cons (Ent.ofPerm (List.Perm.swap _ _ _))).trans (AA hw hv rfl rfl hL.len (by grind))
theorem SO (pb ps : Nat) (po : Po) (w f : Nat) (l : List Nat) (hw : w < 16) (hP : PoOk po) (he : bP po w = f :: l) : sQ W0 125 [pQ pb, iQ w] (dk pb (ps, po) :: R) (.tuple #[iQ f, iQ 0]) (dk pb (ps, po.set f ((w : Int), true)) :: R) := by
 have hw' : oH w = true := by grind [oH]
 have hf := kv.1 (show f ∈ bP po w by rw [he]; simp)
 refine ab func125 ntmps125 ?_
 refine ac (ah Cq (xz pb ps po (by omega))) ?_
 refine ac (ao IK (AC w)) ?_
 refine aA rfl (fun c3 => ?_) fun c3 => ?_
 exact absurd c3 (by simp [hw'])
 refine au 1 ?_
 refine xw (pb := pb) fun a c vs Ls hv hL => ?_
 have hrow := hL.row w hw
 have hrl := hL.rlen hP hw
 refine fF (B := gO w pb (Ls.getD w [], fA ps (.slice a po.length c) vs) :: kH 3 (bH (((vs.zip Ls).map dM).eraseIdx w)) :: osl 178 2 (.slice a po.length c) (po.flatMap et) :: R) ?_ ?_
 exact (Ent.cons (Ent.ofPerm (List.Perm.swap _ _ _))).trans (Az hw hv hL.len)
 refine aw ?_
 refine a6 (i4 hw) ?_
 refine ac (ah IJ (AB pb w (Ls.getD w []) (fA ps (.slice a po.length c) vs))) ?_
 refine ag (fun c5 => ?_) fun c5 => ?_
 exact absurd c5 (by simp_all)
 refine a6 (i4 hw) ?_
 refine am rfl (ah zd (SH pb w (Ls.getD w []) (fA ps (.slice a po.length c) vs) (by omega) (fun e => by rw [e] at hrow; have := hrow.1.length_eq; rw [he] at this; simp at this) hrow.2)) ?_
 rintro _ _ ⟨x, l', rfl, rfl, hp, hh, hm⟩
 have hpp := hp.trans hrow.1
 have hmm : ∀ y ∈ bP po w, x ≤ y := fun y hy => by have := hm y (hrow.1.mem_iff.2 hy); omega
 have hx := Aq hpp hmm
 have hr := S9 hpp hmm
 rw [he] at hx
 obtain ⟨rfl, _⟩ := List.cons.inj hx
 have hk : LsOk (po.set f ((w : Int), true)) (Ls.set w l') := hL.set hw hr hh fun u hu hne => EE hf.1 (by grind) (by grind)
 refine gJ 4 (pu dN (fun _ h => by cases h) rfl) ?_
 refine fJ (r := osl 178 2) (b := .slice a po.length c) (kc (fun h1 h2 => by have := Qah List.length h2; rw [pN] at this; simp at this; omega) fun g n cap sp h1 h2 h3 h4 h5 => ?_)
 cases h1
 refine aw ?_
 refine a6 (aG (vd (T := 176) (E := 3) (sz := 1) (f := iY) (o := 2 + w * 1) (by omega) rfl)) ?_
 refine a6 (bA hf.1) ?_
 refine ax (dx (by omega) (ES po sp f true hf.1)) ?_
 refine az ?_
 rw [hf.2]
 refine ⟨_, ⟨rfl, rfl⟩, ?_⟩
 have e := ez (E := 178) (sz := 2) (g := g) (n := po.length) (cap := c) (xs := (po.set f ((w : Int), true)).flatMap et) (sp := sp) (A := pt g (a7 ((po.set f ((w : Int), true)).flatMap et ++ sp) 178) :: kH 3 (bH (((vs.zip Ls).map dM).eraseIdx w)) :: R) (B := kH 3 (bH (((vs.zip Ls).map dM).eraseIdx w)) :: R) h2 h3 (by grind [pN]) (by grind [Qad, pN])
 exact (inferInstance : Ent _ (gO w pb (l', fA ps (.slice (some ⟨g, 0, none⟩) po.length c) vs) :: pt g (a7 ((po.set f ((w : Int), true)).flatMap et ++ sp) 178) :: kH 3 (bH (((vs.zip Ls).map dM).eraseIdx w)) :: R)).trans ((Ent.cons e).trans (AA hw hv rfl (by simp) hL.len hk))
def wV (w : Nat) : Value := .int .u32 (w : Int)
theorem AE : ∀ bs : List Nat, bs.flatMap (fun x => [bV x]) = b0 bs
 | [] => rfl
 | b :: l => by rw [QaW, AE l]; rfl
structure Dsc where
  addr : Nat
  len : Nat
  flags : Nat
  next : Nat
structure Rg3 where
  desc : Nat
  avail : Nat
  used : Nat
  n : Int
def eQ (x : Int × Int × Int) : List Value := [.int .i64 x.1, .int .i64 x.2.1, .int .i64 x.2.2]
structure WF (W0 : World) (fn : FuncId) (cs : List Value) (n : Nat) (C : Nat → HP) (w : Nat → Bool) : Prop where
  call : ∀ args u, (callFunc fn args).run Tryz.prog u = .ok (.enter fn args) u
  spec : ∀ i, i < n → ∀ R, bc Tryz.prog W0 fn ([] ++ [.int .i64 (i : Int)] ++ cs) (kH 0 (C i) :: R) (fun v B => v = .bool (w i) ∧ B = kH 0 (C (i + 1)) :: R)
def kx (w : Nat → Bool) (n : Nat) : Bool := (List.range n).any w
theorem t8 {w : Nat → Bool} {n i : Nat} (hi : i < n) (h : w i = true) : kx w n = true := QbG.2 ⟨i, Qbs.2 hi, h⟩
theorem vg {w : Nat → Bool} {n : Nat} (h : ∀ i, i < n → w i = false) : kx w n = false := by
 rw [← Qaz]; intro q
 obtain ⟨i, hi, hw⟩ := QbG.1 q
 rw [h i (Qbs.1 hi)] at hw; cases hw
def ny (w : Nat → Bool) (n : Nat) : Option Nat := (List.range n).find? w
theorem SP (w : Nat → Bool) (n : Nat) : (ny w n).isSome = kx w n := by
 rw [Qae, ny, List.find?_isSome, kx, QbG]
theorem EX {w : Nat → Bool} {n i : Nat} (hi : i < n) (h : w i = true) (hj : ∀ j, j < i → w j = false) : ny w n = some i := by
 rw [ny, List.find?_eq_some_iff_getElem]
 exact ⟨h, i, by simpa using hi, by simp, fun j h2 => by simp [hj j h2]⟩
theorem EY {w : Nat → Bool} {n : Nat} (h : ∀ i, i < n → w i = false) : ny w n = none := by
 grind [ny]
theorem SQ (fn : FuncId) (cs : List Value) (n : Nat) (C : Nat → HP) (w : Nat → Bool) (hw : WF W0 fn cs n C w) (hn : n ≤ 1000) : sQ W0 97 [iQ (n : Int), .func (.func fn) #[] cs.toArray] (kH 0 (C 0) :: R) (.tuple #[iQ (((ny w n).getD 0 : Nat) : Int), .bool (ny w n).isSome]) R := by
 refine ab func97 ntmps97 ?_
 refine cK (fun i : Nat => i ≤ n ∧ ∀ j, j < i → w j = false) (fun i => [(1, .func (.func fn) #[] cs.toArray), (7, iQ (n : Int)), (8, iQ (i : Int))]) (fun i => kH 0 (C i) :: R) (fun i => n - i) 0 ?_ ?_
 grind
 intro i ⟨hi, hj⟩
 refine aw ?_
 refine ag (fun c2 => ?_) fun c2 => ?_
 have hi1 : i < n := by omega
 refine ac (qJ (us := []) (cs := cs) rfl hw.call rfl (hw.spec i hi1 _)) ?_
 refine ag (fun c4 => ?_) fun c4 => ?_
 refine az ?_
 rw [EX hi1 c4 hj]
 exact aj
 refine a6 bS ?_
 refine bE (i + 1) ?_
 grind
 refine az ?_
 obtain rfl : i = n := by omega
 rw [EY hj]
 exact aj
theorem EZ (fn : FuncId) (cs : List Value) (n : Nat) (C : Nat → HP) (w : Nat → Bool) (hw : WF W0 fn cs n C w) (hn : n ≤ 1000) : sP W0 97 [iQ (n : Int), .func (.func fn) #[] cs.toArray] (kH 0 (C 0) :: R) (fun v B => ∃ r, v = .tuple #[iQ r, .bool (kx w n)] ∧ B = R) :=
  gH (SQ fn cs n C w hw hn) fun v B hB => by
 obtain ⟨rfl, rfl⟩ := hB
 rw [SP]
 exact ⟨_, ⟨_, rfl, rfl⟩, ent_refl⟩
def eR (l cats : Int) : Bool := decide (0 ≤ cats ∧ cats ≤ 8) && kw l && decide (kI .i64 l cats = 0)
theorem AF (l cats : Int) : sQ W0 99 [iQ l, iQ cats] R (.bool (eR l cats)) R := by
 refine ab func99 ntmps99 ?_
 refine ag (fun c1 => ?_) fun c1 => ?_
 refine a8 ?_
 have hv : eR l cats = false := by
  rw [← Qaz, eR]; intro q
  simp only [Qar, Qag] at q
  first
    | omega
    | (have := q.1.2; simp_all)
 rw [hv]; exact aj
 refine ag (fun c2 => ?_) fun c2 => ?_
 refine a8 ?_
 have hv : eR l cats = false := by
  rw [← Qaz, eR]; intro q
  simp only [Qar, Qag] at q
  first
    | omega
    | (have := q.1.2; simp_all)
 rw [hv]; exact aj
 refine ac (ao II (Aw l)) ?_
 refine ag (fun c3 => ?_) fun c3 => ?_
 refine a8 ?_
 have hv : eR l cats = false := by
  simp_all [Qaz, eR, Qar]
 rw [hv]; exact aj
 refine a6 (jo rfl rfl (by omega) rfl) ?_
 refine a8 ?_
 refine aE ?_
 refine Qah Value.bool ?_
 rw [Qae, eR]
 simp only [Qar, Qag]
 constructor
 grind
 grind
structure Cfg where
  cats : Int
  ga : Option Addr
  gc : Nat
  gl : List (Int × Int × Int)
  ra : Option Addr
  rc : Nat
  rl : List (Int × Int × Int)
  pa : Option Addr
  pc : Nat
  pl : List (Int × Int)
  na : Option Addr
  nc : Nat
  nl : List (Int × Int)
  sa : Option Addr
  sc : Nat
  sl : List (Int × Int)
  gate : Int
  quota : Int
@[reducible] def cv (c : Cfg) : List Value := [.int .i64 c.cats, .slice c.ga c.gl.length c.gc, .slice c.ra c.rl.length c.rc, .slice c.pa c.pl.length c.pc, .slice c.na c.nl.length c.nc, .slice c.sa c.sl.length c.sc, .int .i64 c.gate, .int .i64 c.quota]
def mt (cats : Int) (g : Int × Int × Int) : Bool := !(eR g.1 cats && decide (1 ≤ g.2.1 ∧ g.2.1 ≤ 8 ∧ 0 ≤ g.2.2 ∧ g.2.2 ≤ 8 - g.2.1))
theorem vh {cats : Int} {g : Int × Int × Int} : mt cats g = false ↔ eR g.1 cats = true ∧ 1 ≤ g.2.1 ∧ g.2.1 ≤ 8 ∧ 0 ≤ g.2.2 ∧ g.2.2 ≤ 8 - g.2.1 := by
 grind [mt]
theorem pP {cats : Int} {g : Int × Int × Int} (h : ¬ (eR g.1 cats = true ∧ 1 ≤ g.2.1 ∧ g.2.1 ≤ 8 ∧ 0 ≤ g.2.2 ∧ g.2.2 ≤ 8 - g.2.1)) : mt cats g = true := by
 grind [vh]
theorem SR (W0 : World) (b1 : Nat) (c : Cfg) (hs : ∀ A, bT (aB W0 A) c.ga 3 eQ c.gl) :
    WF W0 98 [pQ b1] c.gl.length (fun _ => bH [pt b1 (a7 (cv c) 28)]) (fun i => mt c.cats (c.gl.getD i (0, 0, 0))) := ⟨call98, fun i hi R => by
 refine nh ?_
 simp only [Qaw, Qat]
 obtain ⟨cats, ga, gc, gl, ra, rc, rl, pa, pc, pl, na, nc, nl, sa, sc, sl, gate, quota⟩ := c
 dsimp only at hs hi ⊢
 obtain ⟨g, o, rfl, hc⟩ := (hs (pt b1 (a7 (cv ⟨cats, ga, gc, gl, ra, rc, rl, pa, pc, pl, na, nc, nl, sa, sc, sl, gate, quota⟩) 28) :: R)).at_ hi
 obtain ⟨x, hx⟩ : ∃ x, gl[i] = x := ⟨_, rfl⟩
 rw [show gl.getD i (0, 0, 0) = x by simp [List.getD, hi, hx]]
 rw [hx] at hc
 refine ab func98 ntmps98 ?_
 refine a6 (bA hi) ?_
 refine a6 (cJ hc.weak) ?_
 refine bu fun bx => ?_
 refine eW (fG j5 rfl rfl rfl rfl rfl) ?_
 rintro _ _ rfl
 refine aN (aD (aP (l9 (aP (aZ ?_)))))
 refine aa rfl (cG rfl jF rfl aO rfl (by first | exact Qab _ | rfl)) ?_
 refine aa rfl (bW cP rfl (aF rfl)) ?_
 refine aa rfl (cG rfl u6 rfl aO rfl (by first | exact Qab _ | rfl)) ?_
 refine aa rfl (bW cP rfl (aF rfl)) ?_
 refine am rfl (fZ IL rfl (AF x.1 cats)) ?_
 rintro _ B_ ⟨rfl, hB_⟩
 obtain rfl := hB_.symm
 refine aa rfl (pn rfl) (aa rfl (bC rfl) (aN (aD ?_)))
 refine aA rfl ?_ ?_
 intro c2
 refine aw ?_
 refine a8 ?_
 rw [pP (fun q => by simp_all)]
 exact aj
 intro c2
 refine aP (aP (aZ ?_))
 refine aa rfl (cG rfl jF rfl aO rfl (by first | exact Qab _ | rfl)) ?_
 refine aa rfl (bW cP rfl (aF rfl)) ?_
 refine aa rfl (mR rfl rfl) (aa rfl (bC rfl) (aN (aD ?_)))
 refine aA rfl ?_ ?_
 intro c4
 refine aw ?_
 refine a8 ?_
 rw [pP (fun q => by omega)]
 exact aj
 intro c4
 refine aZ ?_
 refine aa rfl (cG rfl jF rfl aO rfl (by first | exact Qab _ | rfl)) ?_
 refine aa rfl (bW cP rfl (aF rfl)) ?_
 refine aa rfl (uh rfl rfl) (aa rfl (bC rfl) (aN (aD ?_)))
 refine aA rfl ?_ ?_
 intro c5
 refine aw ?_
 refine a8 ?_
 rw [pP (fun q => by omega)]
 exact aj
 intro c5
 refine jj (lL (aD (aP (aZ ?_))))
 refine aa rfl (cG rfl jF rfl aO rfl (by first | exact Qab _ | rfl)) ?_
 refine aa rfl (bW cP rfl (aF rfl)) ?_
 refine aa rfl (mR rfl rfl) (aa rfl (aL rfl) ?_)
 refine cR rfl rfl rfl ?_ ?_
 intro g7_4
 refine aw ?_
 refine a8 ?_
 first
   | (rw [pP (fun q => by omega)]; exact ⟨_, ⟨rfl, rfl⟩, inferInstance⟩)
   | (refine ⟨_, ⟨?_, rfl⟩, IO⟩
      refine Qah Value.bool ?_
      rw [Qae, Qag]
      constructor
      · grind [pP]
      intro q
      apply Decidable.byContradiction
      intro q2
      rw [vh.2 ⟨by simp_all, by omega, by omega, by omega, by omega⟩] at q; cases q)
 intro g7_4
 refine aa rfl (cG rfl jF rfl aO rfl (by first | exact Qab _ | rfl)) ?_
 refine dw rfl rfl (aa rfl (bW cP rfl (aF rfl)) ?_)
 refine dw rfl rfl ?_
 refine aa rfl (cG rfl jF rfl aO rfl (by first | exact Qab _ | rfl)) ?_
 refine dw rfl rfl (aa rfl (bW cP rfl (aF rfl)) ?_)
 refine dw rfl rfl ?_
 refine aa rfl (iq rfl rfl (bN (by omega))) ?_
 refine dw rfl rfl (aa rfl (uh rfl rfl) (aa rfl (j6 rfl rfl) (aa rfl (bC rfl) (aN (aD (dT (a8 ?_)))))))
 first
   | (rw [pP (fun q => by omega)]; exact ⟨_, ⟨rfl, rfl⟩, inferInstance⟩)
   | (refine ⟨_, ⟨?_, rfl⟩, IO⟩
      refine Qah Value.bool ?_
      rw [Qae, Qag]
      constructor
      · grind [pP]
      · intro q
        apply Decidable.byContradiction
        intro q2
        rw [vh.2 ⟨by simp_all, by omega, by omega, by omega, by omega⟩] at q; cases q)
 ⟩
theorem xA (fn : FuncId) (cs : List Value) (n b : Nat) (o : Obj) (w : Nat → Bool) (hw : WF W0 fn cs n (fun _ => bH [pt b o]) w) (hn : n ≤ 1000) : sP W0 97 [iQ (n : Int), .func (.func fn) #[] cs.toArray] (pt b o :: R) (fun v B => ∃ r, v = .tuple #[iQ r, .bool (kx w n)] ∧ B = R) :=
  sF (B := kH 0 (bH [pt b o]) :: R) (mN (A := [pt b o])) (EZ fn cs n (fun _ => bH [pt b o]) w hw hn)
def iF (c : Cfg) : Bool := decide (c.gl.length < 1 ∨ 4 < c.gl.length) || kx (fun i => mt c.cats (c.gl.getD i (0, 0, 0))) c.gl.length
theorem SS (c : Cfg) (hs : ∀ A, bT (aB W0 A) c.ga 3 eQ c.gl) : sP W0 28 [.agg (cv c).toArray] R (fun v B => ∃ r, v = .tuple #[iQ r, .bool (iF c)] ∧ B = R) := by
 obtain ⟨w, hw⟩ : ∃ w, (fun i => mt c.cats (c.gl.getD i (0, 0, 0))) = w := ⟨_, rfl⟩
 have hG : iF c = (decide (c.gl.length < 1 ∨ 4 < c.gl.length) || kx w c.gl.length) := by rw [iF, hw]
 refine ab func28 ntmps28 ?_
 refine aS fun b1 => ?_
 refine cA (fun g1_5 => ?_) fun g1_5 => ?_
 refine az ?_
 rw [hG, Qak (by omega), Qbg]
 exact ⟨_, ⟨0, rfl, rfl⟩, IO⟩
 refine ag (fun c1 => ?_) fun c1 => ?_
 refine az ?_
 rw [hG, Qak (by omega), Qbg]
 exact ⟨_, ⟨0, rfl, rfl⟩, IO⟩
 refine am rfl (ah ze (xA 98 [pQ b1] c.gl.length b1 _ w (hw ▸ SR W0 b1 c hs) (by omega))) ?_
 rintro _ B_ ⟨r, rfl, hB_⟩
 obtain rfl := hB_.symm
 refine aw ?_
 refine az ?_
 rw [hG, Qaq (by omega), Qba]
 exact ⟨_, ⟨r, rfl, rfl⟩, IO⟩
def fh (c : Cfg) (i : Int) : Bool := decide (0 ≤ i ∧ i < c.gl.length)
theorem rz (c : Cfg) (i : Int) : sQ W0 104 [.agg (cv c).toArray, iQ i] R (.bool (fh c i)) R := by
 refine ab func104 ntmps104 ?_
 refine aS fun b1 => ?_
 refine cM (fun g1_3 => ?_) fun g1_3 => ?_
 refine a8 ?_
 refine aE ?_
 refine Qah Value.bool ?_
 rw [Qae, fh, Qag]
 first
   | (rw [Qag]; constructor
      · intro q; omega
      · intro q; omega)
   | (constructor
      · intro q; first | omega | (cases q)
      intro q; omega)
 refine a8 ?_
 refine aE ?_
 refine Qah Value.bool ?_
 rw [Qae, fh, Qag]
 first
   | (rw [Qag]; constructor
      · intro q; omega
      · intro q; omega)
   | (constructor
      · intro q; first | omega | (cases q)
      intro q; omega)
@[reducible] def eh (x : Int × Int) : List Value := [.int .i64 x.1, .int .i64 x.2]
def lW (c : Cfg) (s : Int × Int) : Bool := !(fh c s.1 && decide (1 ≤ s.2 ∧ s.2 ≤ 32))
theorem SU (W0 : World) (b1 : Nat) (c : Cfg) (hs : ∀ A, bT (aB W0 A) c.sa 2 eh c.sl) :
    WF W0 108 [pQ b1] c.sl.length (fun _ => bH [pt b1 (a7 (cv c) 28)]) (fun i => lW c (c.sl.getD i (0, 0))) := ⟨call108, fun i hi R => by
 refine nh ?_
 simp only [Qaw, Qat]
 obtain ⟨g, o, hga, hc⟩ := (hs (pt b1 (a7 (cv c) 28) :: R)).at_ hi
 obtain ⟨x, hx⟩ : ∃ x, c.sl[i] = x := ⟨_, rfl⟩
 rw [show c.sl.getD i (0, 0) = x by simp [List.getD, hi, hx]]
 rw [hx] at hc
 obtain ⟨w, hw⟩ : ∃ w, fh c x.1 = w := ⟨_, rfl⟩
 have hW : lW c x = !(w && decide (1 ≤ x.2 ∧ x.2 ≤ 32)) := by rw [lW, hw]
 rw [hW]
 obtain ⟨cats, ga, gc, gl, ra, rc, rl, pa, pc, pl, na, nc, nl, sa, sc, sl, gate, quota⟩ := c
 dsimp only at hs hi hga hc hw ⊢
 subst hga
 refine ab func108 ntmps108 ?_
 refine a6 (bA hi) ?_
 refine a6 (cJ hc.weak) ?_
 refine bu fun bx => ?_
 refine ax aC ?_
 refine ac (ao ub (rz ⟨cats, ga, gc, gl, ra, rc, rl, pa, pc, pl, na, nc, nl, some ⟨g, o, none⟩, sc, sl, gate, quota⟩ x.1)) ?_
 rw [hw]
 refine cR rfl rfl rfl ?_ ?_
 intro g2_6
 refine aw ?_
 refine a8 ?_
 refine aE ?_
 refine Qah Value.bool ?_
 rw [Qae]
 cases w <;> simp_all <;> omega
 intro g2_6
 refine aw ?_
 refine cR rfl rfl rfl ?_ ?_
 intro g2_11
 refine aw ?_
 refine a8 ?_
 refine aE ?_
 refine Qah Value.bool ?_
 rw [Qae]
 cases w <;> simp_all <;> omega
 intro g2_11
 refine aw ?_
 refine a8 ?_
 refine aE ?_
 refine Qah Value.bool ?_
 rw [Qae]
 cases w <;> simp_all <;> omega
 ⟩
def ly (c : Cfg) : Bool := decide (c.sl.length < 1 ∨ 8 < c.sl.length) || kx (fun i => lW c (c.sl.getD i (0, 0))) c.sl.length
theorem SV (c : Cfg) (hs : ∀ A, bT (aB W0 A) c.sa 2 eh c.sl) : sP W0 32 [.agg (cv c).toArray] R (fun v B => ∃ r, v = .tuple #[iQ r, .bool (ly c)] ∧ B = R) := by
 obtain ⟨w, hw⟩ : ∃ w, (fun i => lW c (c.sl.getD i (0, 0))) = w := ⟨_, rfl⟩
 have hG : ly c = (decide (c.sl.length < 1 ∨ 8 < c.sl.length) || kx w c.sl.length) := by rw [ly, hw]
 refine ab func32 ntmps32 ?_
 refine aS fun b1 => ?_
 refine cA (fun g1_5 => ?_) fun g1_5 => ?_
 refine az ?_
 rw [hG, Qak (by omega), Qbg]
 exact ⟨_, ⟨0, rfl, rfl⟩, IO⟩
 refine ag (fun c1 => ?_) fun c1 => ?_
 refine az ?_
 rw [hG, Qak (by omega), Qbg]
 exact ⟨_, ⟨0, rfl, rfl⟩, IO⟩
 refine am rfl (ah ze (xA 108 [pQ b1] c.sl.length b1 _ w (hw ▸ SU W0 b1 c hs) (by omega))) ?_
 rintro _ B_ ⟨r, rfl, hB_⟩
 obtain rfl := hB_.symm
 refine aw ?_
 refine az ?_
 rw [hG, Qaq (by omega), Qba]
 exact ⟨_, ⟨r, rfl, rfl⟩, IO⟩
def kz (c : Cfg) : Bool := if c.gate = -1 then decide (c.quota ≠ 0) else !(fh c c.gate && decide (0 ≤ c.quota ∧ c.quota ≤ 64))
theorem SX (c : Cfg) : sQ W0 33 [.agg (cv c).toArray] R (.bool (kz c)) R := by
 obtain ⟨w, hw⟩ : ∃ w, fh c c.gate = w := ⟨_, rfl⟩
 have hW : kz c = if c.gate = -1 then decide (c.quota ≠ 0) else !(w && decide (0 ≤ c.quota ∧ c.quota ≤ 64)) := by rw [kz, hw]
 rw [hW]
 refine ab func33 ntmps33 ?_
 refine aS fun b1 => ?_
 refine ag (fun c1 => ?_) fun c1 => ?_
 refine a8 ?_
 refine aE ?_
 refine Qah Value.bool ?_
 rw [Qae]
 cases w <;> simp_all <;> omega
 refine ac (ao ub (rz c c.gate)) ?_
 rw [hw]
 refine ag (fun c2 => ?_) fun c2 => ?_
 refine a8 ?_
 refine aE ?_
 refine Qah Value.bool ?_
 rw [Qae]
 cases w <;> simp_all <;> omega
 refine ag (fun c3 => ?_) fun c3 => ?_
 refine a8 ?_
 refine aE ?_
 refine Qah Value.bool ?_
 rw [Qae]
 cases w <;> simp_all <;> omega
 refine ag (fun c4 => ?_) fun c4 => ?_
 refine a8 ?_
 refine aE ?_
 refine Qah Value.bool ?_
 rw [Qae]
 cases w <;> simp_all <;> omega
 refine a8 ?_
 refine aE ?_
 refine Qah Value.bool ?_
 rw [Qae]
 cases w <;> simp_all <;> omega
def iG (c : Cfg) (i : Int) : Int := (c.gl.getD i.toNat (0, 0, 0)).1
def kU (c : Cfg) (x : Int × Int) : Bool := !(fh c x.1 && fh c x.2 && decide (x.1 ≠ x.2) && lV (iG c x.1) (iG c x.2))
theorem SY (W0 : World) (b1 : Nat) (c : Cfg) (hs : ∀ A, bT (aB W0 A) c.na 2 eh c.nl) (hgs : ∀ A, bT (aB W0 A) c.ga 3 eQ c.gl) :
    WF W0 106 [pQ b1] c.nl.length (fun _ => bH [pt b1 (a7 (cv c) 28)]) (fun i => kU c (c.nl.getD i (0, 0))) := ⟨call106, fun i hi R => by
 refine nh ?_
 simp only [Qaw, Qat]
 obtain ⟨g, o, hga, hc⟩ := (hs (pt b1 (a7 (cv c) 28) :: R)).at_ hi
 obtain ⟨x, hx⟩ : ∃ x, c.nl[i] = x := ⟨_, rfl⟩
 rw [show c.nl.getD i (0, 0) = x by simp [List.getD, hi, hx]]
 rw [hx] at hc
 obtain ⟨p, q⟩ := x
 obtain ⟨w1, hw1⟩ : ∃ w, fh c p = w := ⟨_, rfl⟩
 obtain ⟨w2, hw2⟩ : ∃ w, fh c q = w := ⟨_, rfl⟩
 have hW : kU c (p, q) = !(w1 && w2 && decide (p ≠ q) && lV (iG c p) (iG c q)) := by grind [kU]
 by_cases hb : w1 = true ∧ w2 = true
 obtain ⟨rfl, rfl⟩ := hb
 have h1 : 0 ≤ p ∧ p < c.gl.length := Qas hw1
 have h2 : 0 ≤ q ∧ q < c.gl.length := Qas hw2
 obtain ⟨j, rfl⟩ : ∃ j : Nat, p = (j : Int) := ⟨p.toNat, by omega⟩
 obtain ⟨k, rfl⟩ : ∃ k : Nat, q = (k : Int) := ⟨q.toNat, by omega⟩
 have hj : j < c.gl.length := by omega
 have hk : k < c.gl.length := by omega
 obtain ⟨u, hu⟩ : ∃ u, c.gl[j] = u := ⟨_, rfl⟩
 obtain ⟨v, hv⟩ : ∃ v, c.gl[k] = v := ⟨_, rfl⟩
 have hl1 : iG c (j : Int) = u.1 := by grind [iG]
 have hl2 : iG c (k : Int) = v.1 := by grind [iG]
 rw [hl1, hl2] at hW
 rw [hW]
 obtain ⟨gg, og, hgg, hcj⟩ := (hgs (pt b1 (a7 (cv c) 28) :: R)).at_ hj
 obtain ⟨gh, oh, hgh, hck⟩ := (hgs (pt b1 (a7 (cv c) 28) :: R)).at_ hk
 rw [hu] at hcj
 rw [hv] at hck
 obtain ⟨cats, ga, gc, gl, ra, rc, rl, pa, pc, pl, na, nc, nl, sa, sc, sl, gate, quota⟩ := c
 dsimp only at hi hga hc hw1 hw2 hj hk hgg hgh hcj hck ⊢
 subst hga
 subst hgg
 obtain ⟨rfl, rfl⟩ : gg = gh ∧ og = oh := by grind
 refine ab func106 ntmps106 ?_
 refine a6 (bA hi) ?_
 refine a6 (cJ hc.weak) ?_
 refine bu fun bx => ?_
 refine ax aC ?_
 refine ac (ao ub (rz ⟨cats, some ⟨gg, og, none⟩, gc, gl, ra, rc, rl, pa, pc, pl, some ⟨g, o, none⟩, nc, nl, sa, sc, sl, gate, quota⟩ (j : Int))) ?_
 rw [hw1]
 refine cA (fun g2_6 => ?_) fun g2_6 => ?_
 exact absurd rfl g2_6
 refine ac (ao ub (rz ⟨cats, some ⟨gg, og, none⟩, gc, gl, ra, rc, rl, pa, pc, pl, some ⟨g, o, none⟩, nc, nl, sa, sc, sl, gate, quota⟩ (k : Int))) ?_
 rw [hw2]
 refine cA (fun g2_13 => ?_) fun g2_13 => ?_
 exact absurd rfl g2_13
 refine ag (fun c2 => ?_) fun c2 => ?_
 refine a8 ?_
 refine aE ?_
 refine Qah Value.bool ?_
 rw [Qae]
 simp_all
 refine fH [(b1, 0, _), (bx, 0, _), (gg, og + j * 3, eQ u), (gg, og + k * 3, eQ v)] 17 mixed rfl (bZ (bZ (cB hcj.weak (cB hck.weak bL)))) (fun hS => ?_)
 refine ae 0 4 hS ?_
 refine av 4 hS (bA hj) ?_
 refine ae 5 1 hS ?_
 refine av 6 hS (aG (iy (k := 2) (j := 0) rfl rfl)) ?_
 refine ae 7 4 hS ?_
 refine av 11 hS (bA hk) ?_
 refine ae 12 1 hS ?_
 refine av 13 hS (aG (iy (k := 3) (j := 0) rfl rfl)) ?_
 refine jt 14 rfl rfl (ao call107 (Si u.1 v.1)) (bZ (bZ (cB hcj.weak (cB hck.weak bL)))) fun hS => ?_
 refine ae 15 2 hS ?_
 refine aI ?_
 refine a8 ?_
 refine aE ?_
 refine Qah Value.bool ?_
 rw [Qae]
 simp_all
 have hW2 : kU c (p, q) = true := by
  grind
 rw [hW2]
 obtain ⟨cats, ga, gc, gl, ra, rc, rl, pa, pc, pl, na, nc, nl, sa, sc, sl, gate, quota⟩ := c
 dsimp only at hi hga hc hw1 hw2 ⊢
 subst hga
 refine ab func106 ntmps106 ?_
 refine a6 (bA hi) ?_
 refine a6 (cJ hc.weak) ?_
 refine bu fun bx => ?_
 refine ax aC ?_
 refine ac (ao ub (rz ⟨cats, ga, gc, gl, ra, rc, rl, pa, pc, pl, some ⟨g, o, none⟩, nc, nl, sa, sc, sl, gate, quota⟩ p)) ?_
 rw [hw1]
 refine cR rfl rfl rfl ?_ ?_
 intro g2_6
 refine aw ?_
 exact a8 aj
 intro g2_6
 refine aw ?_
 refine ac (ao ub (rz ⟨cats, ga, gc, gl, ra, rc, rl, pa, pc, pl, some ⟨g, o, none⟩, nc, nl, sa, sc, sl, gate, quota⟩ q)) ?_
 rw [hw2]
 refine cR rfl rfl rfl ?_ ?_
 intro g2_13
 refine aw ?_
 exact a8 aj
 intro g2_13
 exfalso; cases w1 <;> cases w2 <;> simp_all
 ⟩
def gQ (c : Cfg) : Bool := decide (4 < c.nl.length) || kx (fun i => kU c (c.nl.getD i (0, 0))) c.nl.length
theorem SZ (c : Cfg) (hs : ∀ A, bT (aB W0 A) c.na 2 eh c.nl) (hgs : ∀ A, bT (aB W0 A) c.ga 3 eQ c.gl) : sP W0 31 [.agg (cv c).toArray] R (fun v B => ∃ r, v = .tuple #[iQ r, .bool (gQ c)] ∧ B = R) := by
 obtain ⟨w, hw⟩ : ∃ w, (fun i => kU c (c.nl.getD i (0, 0))) = w := ⟨_, rfl⟩
 have hG : gQ c = (decide (4 < c.nl.length) || kx w c.nl.length) := by rw [gQ, hw]
 refine ab func31 ntmps31 ?_
 refine aS fun b1 => ?_
 refine ag (fun c1 => ?_) fun c1 => ?_
 refine az ?_
 rw [hG, Qak (by omega), Qbg]
 exact ⟨_, ⟨0, rfl, rfl⟩, IO⟩
 refine am rfl (ah ze (xA 106 [pQ b1] c.nl.length b1 _ w (hw ▸ SY W0 b1 c hs hgs) (by omega))) ?_
 rintro _ B_ ⟨r, rfl, hB_⟩
 obtain rfl := hB_.symm
 refine aw ?_
 refine az ?_
 rw [hG, Qaq (by omega), Qba]
 exact ⟨_, ⟨r, rfl, rfl⟩, IO⟩
def eu (c : Cfg) : Nat → Int
 | 0 => (c.nl.length : Int)
 | i + 1 => eu c i + ((c.gl.getD i (0, 0, 0)).2.1 + (c.gl.getD i (0, 0, 0)).2.2)
theorem AG {c : Cfg} (hb : ∀ g ∈ c.gl, 1 ≤ g.2.1 ∧ g.2.1 ≤ 8 ∧ 0 ≤ g.2.2 ∧ g.2.2 ≤ 8 - g.2.1) (hn : c.nl.length ≤ 4) : ∀ i, i ≤ c.gl.length → 0 ≤ eu c i ∧ eu c i ≤ 4 + 8 * i
 | 0, _ => by rw [eu]; omega
 | i + 1, hi => by
  obtain ⟨h1, h2⟩ := AG hb hn i (by omega)
  have := hb _ (QaK (show i < c.gl.length by omega))
  rw [eu, show c.gl.getD i (0, 0, 0) = c.gl[i]'(by omega) by simp [List.getD, show i < c.gl.length by omega]]
  omega
theorem T5 (c : Cfg) (hs : ∀ A, bT (aB W0 A) c.ga 3 eQ c.gl) (hb : ∀ g ∈ c.gl, 1 ≤ g.2.1 ∧ g.2.1 ≤ 8 ∧ 0 ≤ g.2.2 ∧ g.2.2 ≤ 8 - g.2.1) (hn : c.nl.length ≤ 4) (hg : c.gl.length ≤ 4) : sQ W0 34 [.agg (cv c).toArray] R (iQ (eu c c.gl.length)) R := by
 have hle := AG hb hn
 refine ab func34 ntmps34 ?_
 refine aS fun b1 => ?_
 refine cK (fun i : Nat => i ≤ c.gl.length) (fun i => [(3, iQ (eu c i)), (10, .slice c.ga c.gl.length c.gc), (11, iQ (c.gl.length : Nat)), (12, iQ (i : Nat))]) (fun _ => R) (fun i => c.gl.length - i) 0 ?_ ?_
 omega
 intro i hi
 refine aw ?_
 refine ag (fun c3 => ?_) fun c3 => ?_
 have hi1 : i < c.gl.length := by omega
 obtain ⟨g, o, hga, hc⟩ := (hs R).at_ hi1
 obtain ⟨x, hx⟩ : ∃ x, c.gl[i] = x := ⟨_, rfl⟩
 rw [hx] at hc
 have hbx := hb _ (QaK hi1)
 rw [hx] at hbx
 have hst : eu c (i + 1) = eu c i + (x.2.1 + x.2.2) := by grind [eu]
 have hl1 := hle i hi
 rw [hga]
 refine a6 (bA hi1) ?_
 refine a6 (cJ hc.weak) ?_
 refine bu fun bx => ?_
 refine eW (fG j5 rfl rfl rfl rfl rfl) ?_
 rintro _ _ rfl
 refine aN (aD (aZ (aa rfl (aL rfl) ?_)))
 refine aa rfl (cG rfl jF rfl aO rfl (by first | exact Qab _ | rfl)) ?_
 refine aa rfl (bW cP rfl (aF rfl)) ?_
 refine aa rfl (cG rfl jF rfl aO rfl (by first | exact Qab _ | rfl)) ?_
 refine aa rfl (bW cP rfl (aF rfl)) ?_
 refine aa rfl (dr rfl rfl (bN (by omega))) ?_
 refine a6 (dr rfl rfl (by rw [bN (by omega)]; exact hst.symm : IntKind.wrap .i64 (eu c i + (x.2.1 + x.2.2)) = eu c (i + 1))) ?_
 refine a6 bS ?_
 exact bE (i + 1) (by omega)
 refine a8 ?_
 obtain rfl : i = c.gl.length := by omega
 exact aj
section
variable {rd : Option Nat} {P : Program} {S : World → Prop} {W0 : World} {N : FSz} {Q : Exit → Act → World → Prop} {e : aH} {A B R R1 R2 : List HP} {ops : Array Oper} {rest : List Oper}
variable {op : Op} {ty t t' : TypeId} {pos : String} {af : Array Edge} {v u : Value} {d b off : Nat} {x y z : Operand} {l l' vs : List Value}
theorem xB {z : Array Value} {n : Nat} : (Builtin.zeroCells z n).toList.length = n * z.size := by simp [Builtin.zeroCells]
theorem T6 {E sz n k c by_ : Nat} {info : TypeInfo} {zz : Value} {an : Option Addr} {olds : List Value} {kk : Int} {kq kn : IntKind} (hu : P.underlying t = some (.slice E)) (htn : P.underlying t' = some (.int kn))
    (hi : P.info? E = some info) (hz : info.zero = some zz) (hsz : info.size = sz) (hby : info.bytes = by_) (hz1 : zz.cells.size = sz) (hsz0 : 0 < sz)
    (hx : ev e x = some (.slice an n c)) (hy : ev e y = some (.int kq kk)) (hk : kk = (k : Int)) (hold : (an = none ∧ olds = []) ∨ ∃ bx ox, an = some ⟨bx, ox, none⟩ ∧ aT (aB W0 A) bx ox olds) (hol : olds.length = n * sz)
    (h0 : 0 < k) (hg : c < n + k) (h63 : n + k ≤ maxLen) (hbig : (n + k) * by_ ≤ 140737488355328) :
    cn P W0 N e A (.call { callee := .builtin .append, args := #[x, y], argTypes := #[t, t'] }) (fun v B => ∃ a' c' zs, v = .slice a' (n + k) c' ∧ zs.length = k * sz ∧ B = osl E sz v (olds ++ zs) :: A) := sk fun a w dst ty pos af g hF hO => by
 subst hk
 subst hsz
 subst hby
 have hsmall : n + k ≤ 9223372036854775807 := by simp only [maxLen] at h63; omega
 have hfc : (Builtin.firstCells info.size n (.slice an n c)).run P w.drew = .ok olds.toArray w.drew := by
  rcases hold with ⟨rfl, rfl⟩ | ⟨bx, ox, rfl, hc⟩
  simp [Builtin.firstCells]
  exact run_firstCells_some (P := P) w.drew info.size n ⟨bx, ox, none⟩ n c olds hol (fun j u hj => by
   have := hc j u hj w hO
   simpa [gF] using this)
 have hbk : k * info.bytes ≤ 281474976710656 := by
  grind
 have hr := Go.Lib.run_append_grow_zeros (P := P) w t t' ty E info zz kq kn hu htn hi hz an n c olds hfc k h0 hsz0 hg (by omega) hbk (growslice_fits (by omega) hbig)
 have hge := grownCap_ge w (n + k) c E
 have hcm := grownCap_le_maxLen w (n + k) c E h63
 have hnew := (Own.drew hO (w.drawn + 1)).new (a7 ((olds ++ (Builtin.zeroCells zz.cells k).toList) ++ (Builtin.zeroCells zz.cells (grownCap w (n + k) c E - (n + k))).toList) E)
 have ea : ((olds ++ (Builtin.zeroCells zz.cells k).toList) ++ (Builtin.zeroCells zz.cells (grownCap w (n + k) c E - (n + k))).toList).toArray = olds.toArray ++ Builtin.zeroCells zz.cells k ++ Builtin.zeroCells zz.cells (grownCap w (n + k) c E - (n + k)) := by grind
 refine ⟨_, { ({ w with drawn := w.drawn + 1 } : World) with heap := w.heap.push (a7 ((olds ++ (Builtin.zeroCells zz.cells k).toList) ++ (Builtin.zeroCells zz.cells (grownCap w (n + k) c E - (n + k))).toList) E) }, _, .inl ?_, ⟨some ⟨w.heap.size, 0, none⟩, grownCap w (n + k) c E, (Builtin.zeroCells zz.cells k).toList, rfl, by rw [xB, hz1], rfl⟩, ?_⟩
 simp only [execOp, resolve, invoke, builtin, Sem.run_bind, Sem.run_pure, Result.andThen_ok, Qcb, QaG, QbO, hF.eval hx, hF.eval hy, hr]
 simp only [World.drew, World.alloc, a7, ea]
 refine hnew.ent ?_
 exact @ez _ A A E info.size w.heap.size (n + k) (grownCap w (n + k) c E) (olds ++ (Builtin.zeroCells zz.cells k).toList) _ _ hge hcm (by grind [Qad, xB]) (by
   rw [Qad, Qad, hol, xB, xB, hz1, ← Nat.add_mul, ← Nat.add_mul]; congr 1; omega) _
theorem T7 {f : FuncId} {xs : Array Operand} {ats : Array TypeId} (hx : e9 e xs.toList = some vs) (hc : ∀ w, S w → (callFunc f vs.toArray).run P w = .ok (.value v) w) : aW P S N e (.call { callee := .value (.func f), args := xs, argTypes := ats }) v := fun a w dst ty pos af g hF hO => by
 rw [execOp_call_go]
 have he : (#[] ++ xs.map a.eval ++ #[] : Array Value) = vs.toArray := by
  have := hF.evals hx
  rw [← this]; apply QcC; simp
 rw [he, hc w hO]
theorem T8 {n c : Nat} {a : Option Addr} (hu : P.underlying t = some (.slice d)) (hx : ev e x = some (.slice a n c)) : aW P S N e (.call { callee := .builtin .cap, args := #[x], argTypes := #[t] }) (iQ (c : Nat)) := fun act w _ _ _ _ _ hF _ => by
 simp [execOp, resolve, invoke, builtin, hF.eval hx, Builtin.cap_, dU hu, goInt]
theorem xC {p q s r : List Value} (h : q.length = r.length) : cz (p ++ q ++ s) p.length r = p ++ r ++ s := by
 grind [pr]
theorem F0 {g o : Nat} {l1 l2 : List Value} (h : aT S g o (l1 ++ l2)) : aT S g o l1 := fun i v hi => h i v (by
  rw [QaH (by
    rcases QaD i l1.length with q | q
    · exact q
    rw [Qbf q] at hi; cases hi)]
  exact hi)
theorem T9 {g o : Nat} {l1 l2 : List Value} (h : aT S g o (l1 ++ l2)) : aT S g (o + l1.length) l2 := fun i v hi => by
 rw [QbZ]
 exact h (l1.length + i) v (by grind)
theorem F1 {l1 l2 l3 : List Value} {o : Nat} [h : Tk pt b A (a7 l ty) R] (hl : l = l1 ++ l2 ++ l3) (ho : l1.length = o) : aT (aB W0 A) b o l2 := by
 subst ho
 have h0 : aT (aB W0 A) b 0 (l1 ++ l2) := F0 (l2 := l3) (by rw [← hl]; exact eA (ty := ty) (R := R) (h := h))
 have := T9 h0
 rwa [Qab] at this
theorem Ta {E sz : Nat} {tS tR ba ga na ca nb cb oa ob : Nat} {la lb : List Value} {ta tb : TypeId} (ht : P.underlying tS = some (.slice E)) (hz : ∀ w, (sizeOf E).run P w = .ok sz w) [h1 : Tk pt ba A (a7 la ta) R1] [h2 : Tk pt ga R1 (a7 lb tb) R2] (hla : oa ≤ la.length) (hlb : 0 < lb.length) {w : World} (hO : Own W0 w A) :
    (Extern.SlicesOverlaps.overlaps #[tS, tS] #[tR] #[.slice (some ⟨ba, oa, none⟩) na ca, .slice (some ⟨ga, ob, none⟩) nb cb]).run P w = .ok (.bool false) w := by
 have hO1 := hO.tk (r := pt) (b := ba)
 have ha := hO1.has.2
 have hO2 := (hO1.drop).tk (r := pt) (b := ga)
 have hb := hO2.has.2
 have hne : ba ≠ ga := by
  intro q; subst q
  have hO3 : Own W0 w (pt ba (a7 la ta) :: pt ba (a7 lb tb) :: R2) := hO1.perm (h2.perm.cons _)
  obtain ⟨ls, ⟨l1, l2, rfl, e1, l3, l4, rfl, e2, _⟩, hn, _⟩ := hO3.owns
  cases e1; cases e2
  simp at hn
 refine Go.Lib.run_overlaps_apart w tS tR E ht sz hz ⟨ba, oa, none⟩ ⟨ga, ob, none⟩ na ca nb cb hne ta tb la.length lb.length ?_ ?_ (by omega) ?_ ?_
 simp [World.shape?, ha]
 simp [World.shape?, hb]
 simp [World.frozen?, ha]
 simp [World.frozen?, ha]
end
class NOut (Q : Exit → Act → World → Prop) : Prop where
  no : ∀ a w, ¬ Q .outgrown a w
instance a3E {n : Act → World → Prop} {Q : Exit → Act → World → Prop} [h : NOut Q] : NOut (Exit.then n Q) := ⟨fun a w k => h.no a w k⟩
instance a3F {id : Nat} {Q : Exit → Act → World → Prop} [h : NOut Q] : NOut (Exit.inBlock id Q) := ⟨fun a w k => h.no a w k⟩
instance a3G {P : Program} {W0 : World} {L : Nat} {Post : Value → List HP → Prop} : NOut (sD P W0 L Post) := ⟨fun a w k => k⟩
instance a3H {P : Program} {W0 : World} {L : Nat} {Post : Value → List HP → Prop} : POk (sD P W0 L Post) := ⟨fun c a d v w k => k.elim⟩
section
variable {rd : Option Nat} {P : Program} {W0 : World} {N : FSz} {Q : Exit → Act → World → Prop} {e : aH} {A : List HP} {ops : Array Oper} {S : World → Prop}
theorem xD (hp : qz rd ops.toList = true) (hq : NOut Q) : ∀ (fuel : Nat) (listed : Array Bool) (a : Act) (w : World), wpAnyH P .any ops Q S fuel listed a w → wpAnyIn (FW rd) 0 P .any ops Q fuel listed a w
 | 0, _, _, _, h => h
 | fuel + 1, listed, a, w, h => ⟨h.1, fun i hi => by
  have h2 := h.2 i hi
  unfold wpOp at h2
  unfold wpOpIn
  cases ho : ops[i]? with
  | none =>
   rw [ho] at h2
   exact xD hp hq fuel _ a w h2.2
  | some o =>
   rw [ho] at h2
   simp only at h2 ⊢
   split at h2
   rename_i hwant
   rw [Qaf hwant]
   rcases h2 with h2 | ⟨_, a', w', h3⟩
   have hsem : o.semAt (FW rd).round a.eval = execOp a.eval o := by
    cases rd with
    | none => rfl
    | some l =>
     refine Oper.semAt_eq _ _ _ (CN ?_)
     simp only [qz, Option.isNone_some, Qba, QbF] at hp
     exact hp _ (by
       obtain ⟨hlt, rfl⟩ := Array.getElem?_eq_some_iff.1 ho
       simp)
   refine ⟨fun _ _ => trivial, ?_⟩
   rw [hsem]
   exact CM (fun a' w' h' => xD hp hq fuel _ a' w' h'.2) h2
   exact absurd h3 (hq.no a' w')
   rename_i hwant
   rw [Qac hwant]
   exact ⟨fun _ _ => trivial, xD hp hq fuel _ _ w h2.2⟩⟩
theorem Tb {id : Nat} (cs : List (Nat × Nat × List Value)) (n : Nat) (hm : P.follows .mixedOrders = true) (hn : Nat.beq ops.size n = true) [hq : NOut Q] (hS : ∀ w, Own W0 w A → SC cs w) (k : (∀ w, Own W0 w A → SC cs w) → ai W0 N (DR P ops Q cs n (Array.replicate n false)) e A) (hp : qz rd ops.toList = true := by rfl) : ai W0 N ((Code.region id ops true).wpR rd P Q) e A := by
 intro a w hF hO
 have : ops.size = n := Nat.eq_of_beq_eq_true hn
 subst this
 exact wpIn_region_any hm (xD hp hq _ _ _ _ (k hS a _ hF (hO.drew _)))
end
end
end Go.Proofs.YtofillmoflhijaaGreatDoor
