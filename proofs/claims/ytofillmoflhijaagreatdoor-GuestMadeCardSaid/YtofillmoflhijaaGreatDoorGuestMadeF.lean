/-
  Part 6 of the proof of GuestMade: rules, and walks of functions. Conditions: none.
-/
import Derived.Test.YtofillmoflhijaaGreatDoorGuestMadeE
namespace Go.Proofs.YtofillmoflhijaaGreatDoor
open Go.Proofs.Tryz
set_option linter.unusedSimpArgs false
set_option linter.unusedVariables false
set_option maxRecDepth 20000
set_option linter.defProp false
set_option synthInstance.maxSize 8192
set_option synthInstance.maxHeartbeats 2000000
variable {W0 : World} {R : List HP}
section
open Go.RowKit
theorem ZY {B A R : List HP} : Ent (B ++ (A ++ R)) R := by
 rw [← QaC]
 exact (Ent.ofPerm QaS).trans ent_app
abbrev mI (c : Cfg) (i : Nat) (ws : List Nat) : Mm := io c i ws (List.replicate (aY c) bX) (dj c (aY c))
abbrev vV (b1 b2 b3 : Nat) : Mm := mI (nT 2 0 b1 b2 b3) 0 [1310798, 40]
def yP (b1 b2 b3 : Nat) : (Int × Gu) × List ap := j4 0 g0 (vV b1 b2 b3).fr (vV b1 b2 b3).pg
def yQ (b1 b2 b3 : Nat) : (Int × Gu) × List ap := j4 0 (yP b1 b2 b3).1.2 (yP b1 b2 b3).2 (vV b1 b2 b3).pg
def vW (b1 b2 b3 : Nat) : (Int × Gu) × List ap := j4 0 (yQ b1 b2 b3).1.2 (yQ b1 b2 b3).2 (vV b1 b2 b3).pg
theorem ZZ (b1 b2 b3 : Nat) : (yP b1 b2 b3).1.1 = 0 := by kernel_rfl
theorem a0a (b1 b2 b3 : Nat) : (yQ b1 b2 b3).1.1 = 4 := by kernel_rfl
theorem a0b (b1 b2 b3 : Nat) : (vW b1 b2 b3).1.1 = 5 := by kernel_rfl
theorem a0c (b1 b2 b3 : Nat) : (vW b1 b2 b3).1.2.c.rl = [0, 5, 0, 0, 0, 0, 0, 0, 0, 0, 0, 0, 0, 0, 0, 0] := by kernel_rfl
theorem a0d (b1 b2 b3 : Nat) : (vW b1 b2 b3).1.2.c.pc = 8 := by kernel_rfl
theorem a0e (b1 b2 b3 : Nat) : (vW b1 b2 b3).1.2.clock = 3 := by kernel_rfl
theorem BV : CpOk g0.c := ⟨⟨rfl, fun x hx => by
 have := List.eq_of_mem_replicate hx
 omega⟩, by decide, ⟨rfl, by decide⟩⟩
theorem GOk.new {z : Gz} (hi : z.i < 4) : GOk z g0 0 := ⟨BV, hi, Qap _, Qap _, by decide, by decide⟩
theorem GOk.step {z : Gz} {g : Gu} {N : Nat} {fr : List ap} {pg : List Pl} (h : GOk z g N) (hF : cC fr) : GOk z (j4 z.i g fr pg).1.2 (N + 1) := by
 obtain ⟨h1, _, _, h4, h5, h6, h7⟩ := BU (i := z.i) (pg := pg) h.c h.i hF
 exact h.more h1 (by omega) h4 (by omega) (by omega)
theorem yR (hK : ∀ A, aT (aB W0 A) 1 0 fX) (hH : ∀ A, aT (aB W0 A) 0 0 iL) : sQ W0 5 [] R (.bool true) R := by
 refine ab func5 ntmps5 ?_
 refine am rfl (ao call10 (Zv 0 0 (by decide) (by decide))) ?_
 rintro _ B_ ⟨b1, b2, b3, rfl, hB_⟩
 obtain rfl := hB_.symm
 rw [show ma 0 = 2 from rfl, show yL 0 0 = 0 from rfl]
 refine d7 (jG qt bF a14 rfl rfl rfl rfl rfl (by decide) (by decide)) fun bw => ?_
 refine j9 (b := bw) (o' := a7 ([1310798, 40].flatMap gW) 46) rfl ?_
 refine ZT (fun v _ => v = .bool true) (fun v B hv => ⟨R, ⟨hv, rfl⟩, ZY (A := [_, _, _, _])⟩) fun W hW => ?_
 have hrt := Zu 2 (by decide) (by decide) 0 (by decide) (by decide) b1 b2 b3
 have hok : CfK W (nT 2 0 b1 b2 b3) := Zw (hW.ent Ent.drop)
 have hws : ∀ A, bT (aB W A) (some ⟨bw, 0, none⟩) 1 gW [1310798, 40] := xI hW (qR (b := bw) (fun _ => rfl) rfl)
 have hK1 := AM hW (hK _)
 have hH1 := AM hW (hH _)
 clear hW
 have hM := BN hrt (i := 0) (show 0 < 2 by decide) [1310798, 40]
 refine am rfl (ao Jr (ZP W _ (nT 2 0 b1 b2 b3) hok hrt 0 (show 0 < 2 by decide) (some ⟨bw, 0, none⟩) 2 [1310798, 40] hws (by decide) (by decide) (by decide))) ?_
 rintro _ B_ ⟨gb, z, wg, wb, rfl, hz1, hz2, hz3, hB_⟩
 obtain rfl := hB_.symm
 have hg0 : GOk z g0 0 := GOk.new (by omega)
 obtain ⟨x, hx⟩ : ∃ x, vV b1 b2 b3 = x := ⟨_, rfl⟩
 rw [show io (nT 2 0 b1 b2 b3) 0 [1310798, 40] (List.replicate (aY (nT 2 0 b1 b2 b3)) bX) (dj (nT 2 0 b1 b2 b3) (aY (nT 2 0 b1 b2 b3))) = x from hx] at hM ⊢
 obtain ⟨s1, hs1⟩ : ∃ s, j4 z.i g0 x.fr x.pg = s := ⟨_, rfl⟩
 obtain ⟨s2, hs2⟩ : ∃ s, j4 z.i s1.1.2 s1.2 x.pg = s := ⟨_, rfl⟩
 obtain ⟨s3, hs3⟩ : ∃ s, j4 z.i s2.1.2 s2.2 x.pg = s := ⟨_, rfl⟩
 have e1 : s1 = yP b1 b2 b3 := by rw [← hs1, hz2, ← hx]; rfl
 have e2 : s2 = yQ b1 b2 b3 := by rw [← hs2, hz2, e1, ← hx]; rfl
 have e3 : s3 = vW b1 b2 b3 := by rw [← hs3, hz2, e2, ← hx]; rfl
 have k1 : s1.1.1 = 0 := by grind [ZZ]
 have k2 : s2.1.1 = 4 := by grind [a0a]
 have k3 : s3.1.1 = 5 := by grind [a0b]
 have kr : s3.1.2.c.rl = [0, 5, 0, 0, 0, 0, 0, 0, 0, 0, 0, 0, 0, 0, 0, 0] := by grind [a0c]
 have kp : s3.1.2.c.pc = 8 := by grind [a0d]
 have kk : s3.1.2.clock = 3 := by grind [a0e]
 clear e1 e2 e3
 have hF1 : cC s1.2 := by rw [← hs1]; exact (BU (i := z.i) (pg := x.pg) hg0.c (by omega) hM.fr).2.1
 have hg1 : GOk z s1.1.2 1 := by rw [← hs1]; exact hg0.step hM.fr
 have hF2 : cC s2.2 := by rw [← hs2]; exact (BU (i := z.i) (pg := x.pg) hg1.c (by omega) hF1).2.1
 have hg2 : GOk z s2.1.2 2 := by rw [← hs2]; exact hg1.step hF1
 have hg3 : GOk z s3.1.2 3 := by rw [← hs3]; exact hg2.step hF2
 refine aw ?_
 refine j8 rfl rfl rfl (fun g2_3 => ?_) fun g2_3 => ?_
 refine au 2 ?_
 refine ac (Ay Js rfl (BL W _ gb z g0 0 x.fr x.pg hK1 hH1 hg0 (by decide) hM.fr)) ?_
 rw [hs1, k1]
 refine j8 rfl rfl rfl (fun g2_8 => ?_) fun g2_8 => ?_
 refine au 2 ?_
 refine ac (Ay Js rfl (BL W _ gb z s1.1.2 1 s1.2 x.pg hK1 hH1 hg1 (by decide) hF1)) ?_
 rw [hs2, k2]
 refine j8 rfl rfl rfl (fun g2_13 => ?_) fun g2_13 => ?_
 refine au 2 ?_
 refine ac (Ay Js rfl (BL W _ gb z s2.1.2 2 s2.2 x.pg hK1 hH1 hg2 (by decide) hF2)) ?_
 rw [hs3, k3]
 refine j8 rfl rfl rfl (fun g2_18 => ?_) fun g2_18 => ?_
 refine au 2 ?_
 refine ac (cH call13 (HN W _ gb z s3.1.2 hg3.c.r.len)) ?_
 refine aa rfl (RG Ce bF l8 rfl rfl rfl (by decide) (by rw [kr]; rfl)) ?_
 refine dw rfl rfl (aa rfl (mh rfl rfl) (aa rfl (qA rfl rfl) (aa rfl (aL rfl) ?_)))
 refine j8 rfl rfl rfl (fun g2_24 => ?_) fun g2_24 => ?_
 refine au 2 ?_
 refine n1 (cH call14 (HR W _ gb z s3.1.2 hg3.c.r.len)) ?_
 rw [kp]
 refine dw rfl rfl (aa rfl (mh rfl rfl) (aa rfl (qA rfl rfl) (aa rfl (aL rfl) ?_)))
 refine j8 rfl rfl rfl (fun g2_29 => ?_) fun g2_29 => ?_
 refine au 2 ?_
 refine ac (ah call15 (HQ W _ gb z s3.1.2)) ?_
 rw [kk]
 refine a8 ?_
 exact ⟨_, rfl, ent_refl⟩
 first | exact absurd rfl g2_29 | exact absurd (by decide) g2_29 | simp at g2_29
 first | exact absurd rfl g2_24 | exact absurd (by decide) g2_24 | simp at g2_24
 first | exact absurd rfl g2_18 | exact absurd (by decide) g2_18 | simp at g2_18
 first | exact absurd rfl g2_13 | exact absurd (by decide) g2_13 | simp at g2_13
 first | exact absurd rfl g2_8 | exact absurd (by decide) g2_8 | simp at g2_8
 first | exact absurd rfl g2_3 | exact absurd (by decide) g2_3 | simp at g2_3
attribute [local irreducible] rZ cD
def a0f (x0 x : Mm) : Prop := x.po.length = x0.po.length ∧ ∀ f, (cV x.po f).1 = (cV x0.po f).1
theorem a0g (c : Cfg) (i : Nat) (ws : List Nat) (fr : List ap) (po : Po) : a0f ⟨fr, gY, po⟩ (io c i ws fr po) := by
 obtain ⟨h1, h2⟩ := yJ (who := i) (words := aR ws (cI c i).2.1.toNat) (x := ⟨fr, po, gY⟩) (cI c i).2.1.toNat
 exact ⟨h1, h2⟩
end
section
open Go.ChangeShapes Go.WideShapes Go.ChangeAt Go.RowKit
set_option linter.unusedSimpArgs false
set_option linter.unusedVariables false
variable {W : World} {v : Value}
theorem a0h {fuel : Nat} {l : List Value} (h : fI Tryz.prog W fuel 46 l) : ∃ x : Nat, l = gW x ∧ x < 4294967296 := by
 obtain ⟨x, rfl, hx⟩ := RZ h
 exact ⟨x, rfl, hx⟩
theorem a0i (h : Ty Tryz.prog W 29 v) : ∃ a c xs, v = .slice a (List.length (α := Nat) xs) c ∧ xs.length < 9223372036854775808 ∧ xs.length ≤ c ∧ su W a 1 gW xs ∧ ∀ x ∈ xs, x < 4294967296 := by
 obtain ⟨a, c, xs, rfl, h1, h2, h3, h4⟩ := JP (f := gW) (Q := fun x => x < 4294967296) 1 qt (by kernel_rfl) (by decide) (fun fuel r h => a0h h) h
 exact ⟨a, c, xs, rfl, by simp only [maxLen] at h2; omega, h1, h3, h4⟩
end
section
open Go.ChangeShapes Go.WideShapes Go.ChangeAt Go.RowKit
set_option linter.unusedSimpArgs false
set_option linter.unusedVariables false
variable {W : World} {v : Value}
theorem BW {l : List Value} (h : l.length = 2) : ∃ x0 x1, l = [x0, x1] := by
 match l, h with
 | [x0, x1], _ => exact ⟨x0, x1, rfl⟩
theorem HW {l : List Value} (h : l.length = 3) : ∃ x0 x1 x2, l = [x0, x1, x2] := by
 match l, h with
 | [x0, x1, x2], _ => exact ⟨x0, x1, x2, rfl⟩
theorem a0j {l : List Value} (h : l.length = 8) : ∃ x0 x1 x2 x3 x4 x5 x6 x7, l = [x0, x1, x2, x3, x4, x5, x6, x7] := by
 match l, h with
 | [x0, x1, x2, x3, x4, x5, x6, x7], _ => exact ⟨x0, x1, x2, x3, x4, x5, x6, x7, rfl⟩
theorem a0k {fuel : Nat} {l : List Value} (h : fI Tryz.prog W fuel 146 l) : ∃ x : Int × Int × Int, l = eQ x ∧ True := by
 obtain ⟨hl, f', hf⟩ := sr jF h
 obtain ⟨a, b, c, rfl⟩ := HW (hl.trans (by kernel_rfl))
 have h0 := hf _ (Qay ..)
 have h1 := hf _ (Qai _ (Qay ..))
 have h2 := hf _ (Qai _ (Qai _ (Qay ..)))
 rw [show Tryz.prog.cellsOf 3 = 1 by kernel_rfl] at h0 h1 h2
 obtain ⟨x0, e0, _⟩ := jr dN h0
 obtain ⟨x1, e1, _⟩ := jr dN h1
 obtain ⟨x2, e2, _⟩ := jr dN h2
 simp at e0 e1 e2
 exact ⟨(x0, x1, x2), by rw [e0, e1, e2]; rfl, trivial⟩
theorem a0l {fuel : Nat} {l : List Value} (h : fI Tryz.prog W fuel 201 l) : ∃ x : Int × Int × Int, l = eQ x ∧ True := by
 obtain ⟨hl, f', hf⟩ := sr uc h
 obtain ⟨a, b, c, rfl⟩ := HW (hl.trans (by kernel_rfl))
 have h0 := hf _ (Qay ..)
 have h1 := hf _ (Qai _ (Qay ..))
 have h2 := hf _ (Qai _ (Qai _ (Qay ..)))
 rw [show Tryz.prog.cellsOf 3 = 1 by kernel_rfl] at h0 h1 h2
 obtain ⟨x0, e0, _⟩ := jr dN h0
 obtain ⟨x1, e1, _⟩ := jr dN h1
 obtain ⟨x2, e2, _⟩ := jr dN h2
 simp at e0 e1 e2
 exact ⟨(x0, x1, x2), by rw [e0, e1, e2]; rfl, trivial⟩
theorem a0m {fuel : Nat} {l : List Value} (h : fI Tryz.prog W fuel 204 l) : ∃ x : Int × Int, l = eh x ∧ True := by
 obtain ⟨hl, f', hf⟩ := sr a1I h
 obtain ⟨a, b, rfl⟩ := BW (hl.trans (by kernel_rfl))
 have h0 := hf _ (Qay ..)
 have h1 := hf _ (Qai _ (Qay ..))
 rw [show Tryz.prog.cellsOf 3 = 1 by kernel_rfl] at h0 h1
 obtain ⟨x0, e0, _⟩ := jr dN h0
 obtain ⟨x1, e1, _⟩ := jr dN h1
 simp at e0 e1
 exact ⟨(x0, x1), by rw [e0, e1], trivial⟩
theorem a0n {fuel : Nat} {l : List Value} (h : fI Tryz.prog W fuel 148 l) : ∃ x : Int × Int, l = eh x ∧ True := by
 obtain ⟨hl, f', hf⟩ := sr a1E h
 obtain ⟨a, b, rfl⟩ := BW (hl.trans (by kernel_rfl))
 have h0 := hf _ (Qay ..)
 have h1 := hf _ (Qai _ (Qay ..))
 rw [show Tryz.prog.cellsOf 3 = 1 by kernel_rfl] at h0 h1
 obtain ⟨x0, e0, _⟩ := jr dN h0
 obtain ⟨x1, e1, _⟩ := jr dN h1
 simp at e0 e1
 exact ⟨(x0, x1), by rw [e0, e1], trivial⟩
theorem a0o {fuel : Nat} {l : List Value} (h : fI Tryz.prog W fuel 150 l) : ∃ x : Int × Int, l = eh x ∧ True := by
 obtain ⟨hl, f', hf⟩ := sr a1F h
 obtain ⟨a, b, rfl⟩ := BW (hl.trans (by kernel_rfl))
 have h0 := hf _ (Qay ..)
 have h1 := hf _ (Qai _ (Qay ..))
 rw [show Tryz.prog.cellsOf 3 = 1 by kernel_rfl] at h0 h1
 obtain ⟨x0, e0, _⟩ := jr dN h0
 obtain ⟨x1, e1, _⟩ := jr dN h1
 simp at e0 e1
 exact ⟨(x0, x1), by rw [e0, e1], trivial⟩
theorem a0p (h : Ty Tryz.prog W 28 v) : ∃ c : Cfg, v = .agg (cv c).toArray ∧ CfOk W c ∧ c.gl.length ≤ c.gc := by
 obtain ⟨l, rfl, fuel, hI⟩ := JM u6 h
 obtain ⟨hl, f', hf⟩ := sr u6 hI
 obtain ⟨x0, x1, x2, x3, x4, x5, x6, x7, rfl⟩ := a0j (hl.trans (by kernel_rfl))
 have h0 := hf _ (Qay ..)
 have h1 := hf _ (Qai _ (Qay ..))
 have h2 := hf _ (Qai _ (Qai _ (Qay ..)))
 have h3 := hf _ (Qai _ (Qai _ (Qai _ (Qay ..))))
 have h4 := hf _ (Qai _ (Qai _ (Qai _ (Qai _ (Qay ..)))))
 have h5 := hf _ (Qai _ (Qai _ (Qai _ (Qai _ (Qai _ (Qay ..))))))
 have h6 := hf _ (Qai _ (Qai _ (Qai _ (Qai _ (Qai _ (Qai _ (Qay ..)))))))
 have h7 := hf _ (Qai _ (Qai _ (Qai _ (Qai _ (Qai _ (Qai _ (Qai _ (Qay ..))))))))
 rw [show Tryz.prog.cellsOf 3 = 1 by kernel_rfl] at h0
 rw [show Tryz.prog.cellsOf 22 = 1 by kernel_rfl] at h1
 rw [show Tryz.prog.cellsOf 23 = 1 by kernel_rfl] at h2
 rw [show Tryz.prog.cellsOf 24 = 1 by kernel_rfl] at h3
 rw [show Tryz.prog.cellsOf 25 = 1 by kernel_rfl] at h4
 rw [show Tryz.prog.cellsOf 26 = 1 by kernel_rfl] at h5
 rw [show Tryz.prog.cellsOf 3 = 1 by kernel_rfl] at h6
 rw [show Tryz.prog.cellsOf 3 = 1 by kernel_rfl] at h7
 obtain ⟨y0, e0, _⟩ := jr dN h0
 obtain ⟨a1, c1, L1, e1, p1, q1, r1, s1⟩ := uF (α := Int × Int × Int) (f := eQ) (Q := fun _ => True) 3 k0 (by kernel_rfl) (by decide) (fun fuel r h => a0k h) h1
 obtain ⟨a2, c2, L2, e2, p2, q2, r2, s2⟩ := uF (α := Int × Int × Int) (f := eQ) (Q := fun _ => True) 3 C8 (by kernel_rfl) (by decide) (fun fuel r h => a0l h) h2
 obtain ⟨a3, c3, L3, e3, p3, q3, r3, s3⟩ := uF (α := Int × Int) (f := eh) (Q := fun _ => True) 2 s9 (by kernel_rfl) (by decide) (fun fuel r h => a0m h) h3
 obtain ⟨a4, c4, L4, e4, p4, q4, r4, s4⟩ := uF (α := Int × Int) (f := eh) (Q := fun _ => True) 2 tY (by kernel_rfl) (by decide) (fun fuel r h => a0n h) h4
 obtain ⟨a5, c5, L5, e5, p5, q5, r5, s5⟩ := uF (α := Int × Int) (f := eh) (Q := fun _ => True) 2 C9 (by kernel_rfl) (by decide) (fun fuel r h => a0o h) h5
 obtain ⟨y6, e6, _⟩ := jr dN h6
 obtain ⟨y7, e7, _⟩ := jr dN h7
 simp at e0 e1 e2 e3 e4 e5 e6 e7
 exact ⟨⟨y0, a1, c1, L1, a2, c2, L2, a3, c3, L3, a4, c4, L4, a5, c5, L5, y6, y7⟩, by rw [e0, e1, e2, e3, e4, e5, e6, e7], ⟨fun A => sG r1, fun A => sG r2, fun A => sG r3, fun A => sG r4, fun A => sG r5, p3⟩, p1⟩
end
section
open Go.RowKit
set_option linter.unusedSimpArgs false
set_option linter.unusedVariables false
set_option maxRecDepth 20000
set_option synthInstance.maxSize 1000
set_option synthInstance.maxHeartbeats 400000
theorem HX (c : Cfg) (h : CfK W0 c) (i : Int) (hno : rt c = true → ¬ (0 ≤ i ∧ i < c.gl.length)) (ps pb : Nat) (wv : Value) : sQ W0 24 [.agg (cv c).toArray, iQ i, pV ps, pV pb, wv] R (.tuple #[.pointer none, iQ 1]) R := by
 have hrt : jO c = 0 → rt c = true := fun q => Qak q
 obtain ⟨e, he⟩ : ∃ e, jO c = e := ⟨_, rfl⟩
 rw [he] at hrt
 refine ab func24 ntmps24 ?_
 refine aS fun b5 => ?_
 refine am rfl (ao Cr (xG c h.ok)) ?_
 rintro _ B_ ⟨at_, rfl, hB_⟩
 obtain rfl := hB_.symm
 rw [he]
 refine aw ?_
 refine cA (fun g2_3 => ?_) fun g2_3 => ?_
 exact az aj
 refine cA (fun g2_7 => ?_) fun g2_7 => ?_
 exact az aj
 refine aA rfl (fun c2 => ?_) fun c2 => ?_
 refine au 8 ?_
 exact az aj
 exfalso; have hz : e = 0 := (by first | omega | (simp_all; done)); have := hno (hrt hz); omega
theorem HY (c : Cfg) (h : CfK W0 c) (i : Int) (hno : rt c = true → ¬ (0 ≤ i ∧ i < c.gl.length)) (ps pb : Nat) (wv : Value) : sQ W0 25 [.agg (cv c).toArray, iQ i, pV ps, pV pb, wv] R (.tuple #[.pointer none, iQ 1]) R := by
 obtain ⟨w, hw⟩ : ∃ w, rt c = w := ⟨_, rfl⟩
 rw [hw] at hno
 refine ab func25 ntmps25 ?_
 refine aS fun b5 => ?_
 refine ac (ao wc (te c h.ok)) ?_
 rw [hw]
 refine cA (fun g1_4 => ?_) fun g1_4 => ?_
 exact az aj
 refine cA (fun g1_8 => ?_) fun g1_8 => ?_
 exact az aj
 refine aA rfl (fun c1 => ?_) fun c1 => ?_
 refine au 8 ?_
 exact az aj
 exfalso; have hz : w = true := (by simp_all); have := hno hz; omega
theorem a0q (c : Cfg) (h : CfK W0 c) (hr : rt c = false) (f : Nat) : sQ W0 21 [.agg (cv c).toArray, iQ f] R (.agg (tf (0, 0)).toArray) R := by
 refine ab func21 ntmps21 ?_
 refine aS fun b2 => ?_
 refine bu fun b4 => ?_
 refine ac (ao wc (te c h.ok)) ?_
 rw [hr]
 refine cR rfl rfl rfl (fun g1_4 => ?_) fun g1_4 => ?_
 refine au 8 ?_
 refine ax aC ?_
 exact bi (.cons (bD IQ C4 rfl rfl) .nil) aj
 simp at g1_4
abbrev BX : Value := .tuple #[.pointer none, .pointer none, .int .i64 1, .int .i64 1]
theorem a0r (c : Cfg) (h : CfK W0 c) (hr : rt c = false) (i : Int) (wv : Value) : sQ W0 6 [.agg (cv c).toArray, iQ i, wv] R BX R := by
 have hno : rt c = true → ¬ (0 ≤ i ∧ i < c.gl.length) := fun q => absurd (hr.symm.trans q) (by decide)
 have hfn : nI c = 0 := by rw [nI, hr]; rfl
 refine ab Ji ntmps6 ?_
 refine aS fun b3 => ?_
 refine ac (ao Jj (AX c h.ok)) ?_
 rw [hfn]
 refine a6 (rq rfl rfl (show _ = ((1 : Nat) : Int) by decide)) ?_
 refine am rfl (ao Jk (A1 1 (by omega))) ?_
 rintro _ B_ ⟨ps, rfl, hB_⟩
 obtain rfl := hB_.symm
 refine aw ?_
 refine am rfl (ao Jl (Ab 1 (by omega))) ?_
 rintro _ B_ ⟨qs, rfl, hB_⟩
 obtain rfl := hB_.symm
 refine aw ?_
 refine am rfl (ah Jm (AD ps (List.replicate 1 bX) (by decide) (by decide))) ?_
 rintro _ B_ ⟨pb, rfl, hB_⟩
 obtain rfl := hB_.symm
 refine aw ?_
 refine am rfl (ah Jn (AS qs (List.replicate 1 bX) (by decide) (by decide))) ?_
 rintro _ B_ ⟨qb, rfl, hB_⟩
 obtain rfl := hB_.symm
 refine aw ?_
 refine cK (fun f : Nat => f ≤ 1) (fun f => [(1, iQ i), (2, wv), (3, pV b3), (10, iQ 1), (11, pV ps), (13, pV qs), (15, pV pb), (17, pV qb), (19, iQ f)]) (fun _ => pt b3 (dW c) :: R) (fun f => 1 - f) 0 ?_ ?_
 exact QaU _
 intro f hf
 refine aw ?_
 refine ag (fun c7 => ?_) fun c7 => ?_
 refine ac (ao Jo (a0q c h hr f)) ?_
 refine bu fun b20 => ?_
 refine iT 9 aC ?_
 refine i5 ?_
 refine gJ 3 bS ?_
 exact bE (f + 1) (by omega)
 refine ac (ao Jp (HX c h i hno ps pb wv)) ?_
 refine ac (ao Jq (HY c h i hno qs qb wv)) ?_
 exact bi (.cons (bz rfl) (.cons (bz rfl) (.cons (bz rfl) (.cons (bz rfl) .nil)))) aj
theorem a0s (c : Cfg) (h : CfK W0 c) (hr : rt c = true) (i : Int) (hi : ¬ (0 ≤ i ∧ i < c.gl.length)) (wv : Value) : sQ W0 6 [.agg (cv c).toArray, iQ i, wv] R BX R := by
 have hno : rt c = true → ¬ (0 ≤ i ∧ i < c.gl.length) := fun _ => hi
 have hR := kW hr
 have hnd := hR.nd
 have hg4 := hR.g4
 have hn1 : 0 < aY c ∧ aY c ≤ 32 := by rw [aY]; omega
 have hlr : (List.replicate (aY c) bX).length = aY c := by simp
 have hfn : nI c = aY c := by rw [nI, Qaf hr]
 refine ab Ji ntmps6 ?_
 refine aS fun b3 => ?_
 refine ac (ao Jj (AX c h.ok)) ?_
 rw [hfn]
 refine a6 (rq rfl rfl (show _ = ((aY c : Nat) : Int) by split <;> omega)) ?_
 refine am rfl (ao Jk (A1 (aY c) (by omega))) ?_
 rintro _ B_ ⟨ps, rfl, hB_⟩
 obtain rfl := hB_.symm
 refine aw ?_
 refine am rfl (ao Jl (Ab (aY c) (by omega))) ?_
 rintro _ B_ ⟨qs, rfl, hB_⟩
 obtain rfl := hB_.symm
 refine aw ?_
 refine am rfl (ah Jm (AD ps (List.replicate (aY c) bX) (by rw [hlr]; omega) (by rw [hlr]; omega))) ?_
 rintro _ B_ ⟨pb, rfl, hB_⟩
 obtain rfl := hB_.symm
 rw [hlr, ← xP]
 refine aw ?_
 refine am rfl (ah Jn (AS qs (List.replicate (aY c) bX) (by rw [hlr]; omega) (by rw [hlr]; omega))) ?_
 rintro _ B_ ⟨qb, rfl, hB_⟩
 obtain rfl := hB_.symm
 rw [hlr, ← xP]
 refine aw ?_
 refine cK (fun f : Nat => f ≤ aY c) (fun f => [(1, iQ i), (2, wv), (3, pV b3), (10, iQ (aY c : Nat)), (11, pV ps), (13, pV qs), (15, pV pb), (17, pV qb), (19, iQ f)]) (fun f => pt b3 (dW c) :: dk pb (ps, dj c f) :: bj ps (List.replicate (aY c) bX) :: du qb (qs, dj c f) :: cX qs (List.replicate (aY c) bX) :: R) (fun f => aY c - f) 0 ?_ ?_
 exact QaU _
 intro f hf
 refine aw ?_
 refine aA rfl (fun c7 => ?_) fun c7 => ?_
 refine au 2 ?_
 refine dO (fun _ : Unit => f < aY c) (fun _ => [(1, iQ i), (2, wv), (3, pV b3), (10, iQ (aY c : Nat)), (11, pV ps), (13, pV qs), (15, pV pb), (17, pV qb), (19, iQ f)]) (fun _ => pt b3 (dW c) :: dk pb (ps, dj c (f + 1)) :: bj ps (List.replicate (aY c) bX) :: du qb (qs, dj c (f + 1)) :: cX qs (List.replicate (aY c) bX) :: R) ?_ ?_
 refine au 2 ?_
 have hf1 : f < aY c := by omega
 have hos := tu (i := (gX c f).getD 0) hr hf1
 have hon := FV hr hf1
 refine aw ?_
 refine ac (ao Jo (FK c h f hr (by rw [aY] at hf1; omega))) ?_
 refine bu fun b20 => ?_
 refine ax aC ?_
 refine aA rfl (fun c10 => ?_) fun c10 => ?_
 obtain ⟨j, hj⟩ : ∃ j, gX c f = some j := by
  cases e : gX c f with
  | some j => exact ⟨j, rfl⟩
  | none => have := hon e; rw [this] at c10; exact absurd c10 (by decide)
 have hov := tu hr hf1 hj
 have hj4 := ((vm hR).1 hj).1
 have hps := FF hf1 hj
 refine au 5 ?_
 refine aa rfl (aG (aF (by rw [hov]; rfl : (tf (nH c f))[1]? = some (iQ (j : Int))))) ?_
 refine n1 (cH IM (EW pb ps (dj c f) (List.replicate (aY c) bX) f j (by rw [m4]; exact hf1) (by rw [hlr]; exact hf1) (by omega) (vn hR f) (by rw [pS hf1, Qac (by omega)]))) ?_
 rw [y3, ← hps]
 refine au 6 ?_
 refine aa rfl (aG (aF (by rw [hov]; rfl : (tf (nH c f))[1]? = some (iQ (j : Int))))) ?_
 refine ac (cH call23 (FA qb qs (dj c f) (List.replicate (aY c) bX) f j (by rw [m4]; exact hf1) (by rw [hlr]; exact hf1) (by omega) (by rw [pS hf1, Qac (by omega)]))) ?_
 rw [y3, ← hps]
 exact cu () (hf1)
 have hps : dj c (f + 1) = dj c f := by
  cases e : gX c f with
  | none => exact FG e
  | some j => have := tu hr hf1 e; rw [this] at c10; exact absurd rfl c10
 refine aw ?_
 refine cu () ?_ (he := ?_)
 exact hf1
 rw [hps]
 exact IO
 intro _ hf1
 refine aw ?_
 refine a6 bS ?_
 exact bE (f + 1) (by omega)
 refine aw ?_
 refine ac (ao Jp (HX c h i hno ps pb wv)) ?_
 refine ac (ao Jq (HY c h i hno qs qb wv)) ?_
 exact bi (.cons (bz rfl) (.cons (bz rfl) (.cons (bz rfl) (.cons (bz rfl) .nil)))) aj
theorem a0t (c : Cfg) (h : CfK W0 c) (i : Int) (hno : rt c = true → ¬ (0 ≤ i ∧ i < c.gl.length)) (wv : Value) : sQ W0 6 [.agg (cv c).toArray, iQ i, wv] R BX R := by
 cases hr : rt c with
 | true => exact a0s c h hr i (hno hr) wv
 | false => exact a0r c h hr i wv
end
section
open Go.RowKit
end
section
open Go.RowKit
set_option linter.unusedSimpArgs false
set_option linter.unusedVariables false
set_option maxRecDepth 20000
set_option synthInstance.maxSize 2000
set_option synthInstance.maxHeartbeats 1000000
attribute [local irreducible] rZ cD
end
section
open Go.RowKit
theorem a0u (a : Option Addr) (c sz : Nat) : jc a c 0 sz = a := by
 unfold jc
 split
 rfl
 cases a with
 | none => rfl
 | some x => rw [Option.map_some, Nat.zero_mul]; rfl
def tU (e : Evt) : List Int := (List.range 16).map fun i => ((e.rl.getD i 0 : Nat) : Int)
theorem HZ (e : Evt) : ((List.range 16).map fun i => wV (e.rl.getD i 0)) = (tU e).map (Value.int .u32) := by
 rw [tU, QbY]; rfl
theorem a0v (e : Evt) : lg Tryz.prog 9 208 (.agg (dF e).toArray) (.agg (dF e).toArray) true := by
 have h := pj (P := Tryz.prog) (xs := dF e) (ys := dF e) (z := 8) a12 Tryz.stoodInHeld208
   (ir rfl cP rfl rfl (j7 dN) (ir rfl cP rfl rfl (j7 dN) (ir rfl l8 rfl rfl (j7 qu) (ir rfl l8 rfl rfl (j7 qu) (ir rfl l8 rfl rfl (j7 qu)
     (CY rfl (CX wd mJ (by exact rfl : ((dF e).drop 5).take 16 = (List.range 16).map fun i => wV (e.rl.getD i 0))) (CX wd mJ (by exact rfl : ((dF e).drop 5).take 16 = (List.range 16).map fun i => wV (e.rl.getD i 0)))
       (xJ (i := Tryz.t46) (ms := tU e) (ns := tU e) Ce (by kernel_rfl) (by kernel_rfl) qu l8 (HZ e) (HZ e) (by simp [tU]) (by simp [tU])) pi))))))
 simpa using h
theorem a0w {S : World → Prop} {N : FSz} {e : aH} {x y : Operand} {t' : TypeId} {a b : List Value} {u : Evt} (ha : a = dF u) (hb : b = dF u) (hx : ev e x = some (.agg a.toArray)) (hy : ev e y = some (.agg b.toArray)) : aW Tryz.prog S N e (.binOp .neq 208 x y t') (.bool false) := by
 subst ha; subst hb
 exact ui Tryz.eqGuardType208 hx hy (a0v u)
theorem a0x (es : List Evt) (a1 a2 : Option Addr) (q1 q2 : Nat) (hn : es.length < 1000000) (h1 : bT (aB W0 R) a1 21 dF es) (h2 : bT (aB W0 R) a2 21 dF es) : sQ W0 110 [.slice a1 es.length q1, .slice a2 es.length q2] R (.bool true) R := by
 refine ab func110 ntmps110 ?_
 refine aA rfl (fun c1 => ?_) fun c1 => ?_
 omega
 refine aw ?_
 refine cK (fun i : Nat => i ≤ es.length) (fun i => [(0, .slice a1 es.length q1), (1, .slice a2 es.length q2), (12, iQ (es.length : Nat)), (13, iQ i)]) (fun _ => R) (fun i => es.length - i) 0 ?_ ?_
 exact QaU _
 intro i hi
 refine aw ?_
 refine ag (fun c4 => ?_) fun c4 => ?_
 have hi1 : i < es.length := by omega
 obtain ⟨g, o, hga, hc⟩ := h1.at_ hi1
 obtain ⟨g2, o2, hga2, hc2⟩ := h2.at_ hi1
 obtain ⟨x, hx⟩ : ∃ x, es[i] = x := ⟨_, rfl⟩
 rw [hx] at hc hc2
 refine fH [(g, o + i * 21, dF x), (g2, o2 + i * 21, dF x)] 9 mixed rfl (cB hc (cB hc2 bL)) (fun hS => ?_)
 refine ae 0 2 hS ?_
 refine av 2 hS (dH mK qw rfl hga rfl rfl hi1 (by first | exact Qab _ | rfl)) ?_
 refine av 3 hS (eV IT qw rfl (gr (k := 0) rfl) (pX x)) ?_
 refine ae 4 2 hS ?_
 refine av 6 hS (dH mK qw rfl hga2 rfl rfl hi1 (by first | exact Qab _ | rfl)) ?_
 refine av 7 hS (eV IT qw rfl (gr (k := 1) rfl) (pX x)) ?_
 refine av 8 hS (a0w (u := x) rfl rfl rfl rfl) ?_
 refine aI ?_
 refine a6 bS ?_
 exact bE (i + 1) (by omega)
 exact a8 aj
theorem a0y (es : List Evt) (a1 a2 : Option Addr) (q1 q2 : Nat) (hn : es.length < 1000000) (h1 : bT (aB W0 R) a1 21 dF es) (h2 : bT (aB W0 R) a2 21 dF es) : sQ W0 37 [.slice a1 es.length q1, .slice a2 es.length q2] R (.bool true) R := by
 refine ab func37 ntmps37 ?_
 refine ac (ao call110 (a0x es a1 a2 q1 q2 hn h1 h2)) ?_
 exact a8 aj
theorem a0z (es : List Evt) (a : Option Addr) (c : Nat) (hN : es.length < 1000000) (hs : bT (aB W0 R) a 21 dF es) : sP W0 191 [.slice a es.length c] R (fun v B => ∃ a' c', v = .slice a' es.length c' ∧ B = osl 208 21 (.slice a' es.length c') (es.flatMap dF) :: R) := by
 refine ab func191 ntmps191 ?_
 refine a6 (uz mK rfl rfl) ?_
 refine aA rfl (fun c1 => ?_) fun c1 => ?_
 refine au 7 ?_
 refine a8 ?_
 have h0 : es = [] := by
  rcases es with _ | ⟨x, l⟩
  rfl
  obtain ⟨b, o, h, _⟩ := hs 0 x rfl
  rw [c1] at h; cases h
 subst h0
 exact ⟨_, ⟨none, 0, rfl, rfl⟩, eH⟩
 have hsrc := hs.src pX (fun _ => trivial)
 refine jj (aD (aP (aZ (am rfl (qN mK qw rfl) ?_))))
 rintro _ _ ⟨b1, rfl, rfl⟩
 refine aw ?_
 refine am rfl (xt (sz := 21) (by_ := 96) (info := Tryz.t208) mK (by kernel_rfl) rfl rfl rfl rfl (by decide) rfl rfl (news := es.flatMap dF) (by
 rcases hsrc with h | ⟨bs, os, h1, h2⟩
 left; rw [h]; rfl
 right; exact ⟨bs, os, h1, h2.weak⟩) (cj pX es) (y9 UW es) (by simp only [maxLen]; omega) (by omega)) ?_
 rintro _ _ ⟨a1, c1, rfl, rfl⟩
 refine aw ?_
 refine a8 ?_
 rw [Qab, Qat]
 exact ⟨_, ⟨a1, c1, rfl, rfl⟩, IO⟩
theorem a0A (b : Nat) (es : List Evt) (hN : es.length < 1000000) : sP W0 111 [pV b, iQ 0] (fi b es :: R) (fun v B => ∃ a' c', v = .slice a' es.length c' ∧ B = osl 208 21 (.slice a' es.length c') (es.flatMap dF) :: fi b es :: R) := by
 refine ab func111 ntmps111 ?_
 refine ac (ah IS (AY b es)) ?_
 refine xT (b := b) fun a c => ?_
 refine ke (E := 208) (sz := 21) (a := a) (n := es.length) (c := c) dF es pX (by decide) rfl (fun hs => ?_)
 refine bB [b] 15 fun hS => ?_
 refine ae 0 10 hS ?_
 refine av 10 hS (pA rfl rfl (show _ = (0 : Int) by split <;> omega)) ?_
 refine av 11 hS (rq rfl rfl (show _ = (0 : Int) from rfl)) ?_
 refine av 12 hS (oG (i := 0) (a' := a) mK qw rfl rfl rfl (QaU _) (a0u a c 21)) ?_
 refine cg 13 (ao call191 (a0z es a c hN hs)) ?_; clear hS
 rintro _ B_ ⟨a', c', rfl, hB_⟩
 obtain rfl := hB_.symm
 refine ⟨aK, fun hS => ?_⟩
 refine ae 14 1 hS ?_
 refine aI ?_
 refine a8 ?_
 exact ⟨_, ⟨a', c', rfl, rfl⟩, Ent.cons (vo rfl rfl)⟩
theorem a0B (b : Nat) (es : List Evt) (hN : es.length < 1000000) : sP W0 39 [pV b] (fi b es :: R) (fun v B => ∃ a' c', v = .slice a' es.length c' ∧ B = osl 208 21 (.slice a' es.length c') (es.flatMap dF) :: fi b es :: R) := by
 refine ab func39 ntmps39 ?_
 refine am rfl (ah call111 (a0A b es hN)) ?_
 rintro _ B_ ⟨a', c', rfl, hB_⟩
 obtain rfl := hB_.symm
 refine aw ?_
 refine a8 ?_
 exact ⟨_, ⟨a', c', rfl, rfl⟩, IO⟩
theorem a0C (gb : Nat) (z : Gz) (g : Gu) (h : CsOk g.c.cs) : sQ W0 35 [pV gb] (pt gb (e8 z g) :: pt z.x.c (dh g.c.cs z.i) :: R) (.agg (g.c.cs.map wV).toArray) (pt gb (e8 z g) :: pt z.x.c (dh g.c.cs z.i) :: R) := by
 refine ab func35 ntmps35 ?_
 refine bu fun b1 => ?_
 refine ac (ah pf (nR W0 _ gb z g)) ?_
 refine ac (ah call109 (GP z.x.c h)) ?_
 refine ax (fG nU rfl rfl (by rw [Qax, h.len]) (xQ g.c.cs) rfl) ?_
 exact bi (.cons (bD zg nU rfl (by rw [Qax, h.len])) .nil) aj
theorem a0D (b : Nat) : sQ W0 112 [pV b] (pt b kX :: R) (.bool false) (pt b kX :: R) := by
 refine ab func112 ntmps112 ?_
 refine cR rfl rfl rfl (fun g1_3 => ?_) fun g1_3 => ?_
 cases g1_3
 refine aw ?_
 exact a8 aj
theorem a0E (b : Nat) : sQ W0 41 [pV b] (pt b kX :: R) (iQ ((0 : Nat) : Int)) (pt b kX :: R) := by
 refine ab func41 ntmps41 ?_
 refine dK 2 (ah call112 (a0D b)) ?_
 refine aA rfl (fun c1 => ?_) fun c1 => ?_
 exact absurd c1 (by decide)
 refine jj (aD (aP (aZ (aa rfl (aL rfl) (aa rfl (jp rfl) ?_)))))
 refine aa rfl (cG rfl a1J rfl C1 rfl (by first | exact Qab _ | rfl)) ?_
 refine aa rfl (bW isAgg112 rfl (aF rfl)) ?_
 refine aa rfl (wA a17 rfl) (aa rfl (bC rfl) (aN (aD (dT (bM (.inl rfl) (.cons (bz rfl) .nil) ?_)))))
 exact ⟨_, ⟨rfl, rfl⟩, IO⟩
theorem a0F (ps : Nat) (fr : List ap) (hF : cC fr) (f : Nat) (hf : f < fr.length) : sP W0 47 [pQ ps, iQ f] (bj ps fr :: R) (fun v B => ∃ a c, v = .tuple #[.slice a 64 c, iQ 0] ∧ B = osl 5 1 (.slice a 64 c) (b0 (fr.getD f [])) :: bj ps fr :: R) := by
 have hif : dR fr.length (f : Int) = true := by simp only [dR, Qag]; omega
 obtain ⟨hl, hb⟩ := hF.get hf
 refine ab func47 ntmps47 ?_
 refine ac (ah u9 (qY ps fr f)) ?_
 refine ag (fun c2 => ?_) fun c2 => ?_
 exact absurd c2 (by simp [hif])
 refine d7 (qP (sz := 1) (by_ := 1) (info := Tryz.t5) jE (by kernel_rfl) rfl rfl rfl rfl (by decide) rfl rfl rfl rfl (by decide) (by decide)) fun b1 => ?_
 refine qW (ps := ps) fun g => ?_
 refine aw ?_
 refine a6 (bA hf) ?_
 refine a6 (uA w8 lI rfl) ?_
 refine am rfl (qQ jE lI rfl rfl (m := 64) (vs := b0 (fr.getD f [])) rfl (bU (wS hF hf) (by rw [ed, hl])) (by rw [ed, hl]) (wQ _) (by decide) (by
 have := uk (b0 (fr.getD f [])) (List.replicate (64 * 1) (.int .u8 0)) [] (by rw [ed, hl]; simp)
 simpa using this)) ?_
 rintro _ B_ ⟨rfl, hB_⟩
 obtain rfl := hB_.symm
 refine aw ?_
 refine az ?_
 exact ⟨_, ⟨some ⟨b1, 0, none⟩, 64, rfl, rfl⟩, (Dt (k := mm rfl rfl) (by simp only [maxLen]; omega) (by rw [ed, hl]))⟩
section
variable {P : Program} {W0 : World} {N : FSz} {K : Act → World → Prop} {e : aH} {A B R R1 R2 R3 : List HP} {qs n : Nat} {fr : List ap}
theorem a0G [hk : Tk cX qs A fr R] {i : Nat} (hi : i < fr.length) (h : ∀ a c vs vi, vs.length = fr.length → vs[i]? = some vi →
      ai W0 N K e (pt qs (a7 [.slice a fr.length c] 129) :: osl 130 1 (.slice a fr.length c) vs :: osl 5 1 vi (b0 (fr.getD i [])) :: kH 2 (bH (((vs.zip fr).map dB).eraseIdx i)) :: R)) : ai W0 N K e A :=
  wY (qs := qs) hi fun a c vs vi h1 h2 => fF (Ent.cons (Ent.cons (Ent.cons mN))) (h a c vs vi h1 h2)
theorem a0H {i c : Nat} {a : Option Addr} {vs : List Value} {vi : Value} {ys : List Value} [h1 : Tk pt qs A (a7 [.slice a n c] 129) R1] [h2 : Tk (osl 130 1) (.slice a n c) R1 vs R2] [h3 : Tk (osl 5 1) vi R2 ys R3]
    [h4 : Tk kH 2 R3 (bH (((vs.zip fr).map dB).eraseIdx i)) R] (hvi : vs[i]? = some vi) (hy : ys = b0 (fr.getD i [])) (hv : vs.length = fr.length) (hn : n = fr.length) (hi : i < fr.length) (k : ai W0 N K e (cX qs fr :: R)) : ai W0 N K e A := by
 have hset : vs.set i vi = vs := by
  apply List.ext_getElem?
  intro j
  by_cases e : i = j
  subst e; rw [List.getElem?_set_self (by omega), hvi]
  rw [QaV e]
 have hfs : fr.set i (fr.getD i []) = fr := by
  apply List.ext_getElem?
  intro j
  by_cases e : i = j
  subst e; rw [List.getElem?_set_self hi]; simp [List.getD, hi]
  rw [QaV e]
 refine mg (h1.perm.trans ((h2.perm.trans ((h3.perm.trans (h4.perm.cons _)).cons _)).cons _)) ?_
 have e1 : Ent (pt qs (a7 [.slice a n c] 129) :: osl 130 1 (.slice a n c) vs :: osl 5 1 vi ys :: kH 2 (bH (((vs.zip fr).map dB).eraseIdx i)) :: R) (cX qs fr :: R) := by
  refine (Ent.cons (Ent.cons (Ent.cons mM))).trans ?_
  have := @Eb (pt qs (a7 [.slice a n c] 129) :: osl 130 1 (.slice a n c) vs :: osl 5 1 vi ys :: (((vs.zip fr).map dB).eraseIdx i ++ R)) R _ _ qs n fr a c i vs vi (fr.getD i []) ys R zn (by rw [hset]; exact zn) zn hy hv hn hi ent_refl
  rwa [hfs] at this
 exact fF e1 k
end
end
section
open Go.RowKit
set_option linter.unusedSimpArgs false
set_option linter.unusedVariables false
set_option maxRecDepth 20000
set_option synthInstance.maxSize 2000
set_option synthInstance.maxHeartbeats 1000000
attribute [local irreducible] rZ cD
section
variable (W0 : World) (R : List HP) (bm pv ps pm bud : Nat) (fr : List ap) (pg : List Pl)
theorem a0I : sQ W0 43 [pV pv] (jh bm ⟨pv, ps, pm, bud, fr, pg⟩ :: R) (pV pm) (jh bm ⟨pv, ps, pm, bud, fr, pg⟩ :: R) := by
 refine tM fun bt bs its T L now d h1 h2 h3 h4 => ?_
 refine sF (B := pt pv (cp ps pm d) :: pt bm (cN pv bt bs) :: aJ bt (its, d3 4 now) :: bG bs L :: pt pm (bI pg) :: R) inferInstance ?_
 refine gH (A7 pv ps pm d) fun v B hB => ?_
 obtain ⟨rfl, rfl⟩ := hB
 exact ⟨_, ⟨rfl, rfl⟩, Ent.trans (B := pt bm (cN pv bt bs) :: aJ bt (its, d3 4 now) :: bG bs L :: pt pv (cp ps pm d) :: pt pm (bI pg) :: R) inferInstance (rR h1 h2 h3 h4)⟩
theorem a0J : sQ W0 46 [pV pv] (jh bm ⟨pv, ps, pm, bud, fr, pg⟩ :: R) (pV ps) (jh bm ⟨pv, ps, pm, bud, fr, pg⟩ :: R) := by
 refine tM fun bt bs its T L now d h1 h2 h3 h4 => ?_
 refine sF (B := pt pv (cp ps pm d) :: pt bm (cN pv bt bs) :: aJ bt (its, d3 4 now) :: bG bs L :: pt pm (bI pg) :: R) inferInstance ?_
 refine gH (A8 pv ps pm d) fun v B hB => ?_
 obtain ⟨rfl, rfl⟩ := hB
 exact ⟨_, ⟨rfl, rfl⟩, Ent.trans (B := pt bm (cN pv bt bs) :: aJ bt (its, d3 4 now) :: bG bs L :: pt pv (cp ps pm d) :: pt pm (bI pg) :: R) inferInstance (rR h1 h2 h3 h4)⟩
theorem a0K (n : Int) : sQ W0 44 [pV pm, iQ n] (jh bm ⟨pv, ps, pm, bud, fr, pg⟩ :: R) (.tuple #[.agg (fz (cy pg n)).toArray, .bool (aX pg n)]) (jh bm ⟨pv, ps, pm, bud, fr, pg⟩ :: R) := by
 refine tM fun bt bs its T L now d h1 h2 h3 h4 => ?_
 refine sF (B := pt pm (bI pg) :: pt bm (cN pv bt bs) :: aJ bt (its, d3 4 now) :: bG bs L :: pt pv (cp ps pm d) :: R) inferInstance ?_
 refine gH (uL pm pg h4.P n) fun v B hB => ?_
 obtain ⟨rfl, rfl⟩ := hB
 exact ⟨_, ⟨rfl, rfl⟩, Ent.trans (B := pt bm (cN pv bt bs) :: aJ bt (its, d3 4 now) :: bG bs L :: pt pv (cp ps pm d) :: pt pm (bI pg) :: R) inferInstance (rR h1 h2 h3 h4)⟩
end
theorem a0L {W0 : World} {N : FSz} {K : Act → World → Prop} {e : aH} {A R : List HP} {E sz : Nat} {v : Value} {xs : List Value} [hk : Tk (osl E sz) v A xs R] (h : ∀ a n c, v = .slice a n c → xs.length = n * sz → ai W0 N K e A) : ai W0 N K e A := fun a w hF hO => by
 rcases (hO.perm hk.perm).osl with ⟨k1, k2, k3⟩ | ⟨g, n, cap, sp, k1, k2, k3, k4, k5, k6⟩
 exact h none 0 0 k1 (by rw [k2]; simp) a w hF hO
 exact h (some ⟨g, 0, none⟩) n cap k1 k4 a w hF hO
theorem a0M {W0 : World} {N : FSz} {K : Act → World → Prop} {e : aH} {A R : List HP} {qs : Nat} {fr : List ap} [hk : Tk cX qs A fr R] (h : ∀ a c vs, vs.length = fr.length → ai W0 N K e (pt qs (a7 [.slice a fr.length c] 129) :: osl 130 1 (.slice a fr.length c) vs :: kH 2 (bH ((vs.zip fr).map dB)) :: R)) : ai W0 N K e A :=
  r9 (qs := qs) fun a c vs hv => fF (Ent.cons (Ent.cons mN)) (h a c vs hv)
theorem I0 {R : List HP} {qs c : Nat} {a : Option Addr} {fr : List ap} {vs : List Value} (hv : vs.length = fr.length) : Ent (pt qs (a7 [.slice a fr.length c] 129) :: osl 130 1 (.slice a fr.length c) vs :: kH 2 (bH ((vs.zip fr).map dB)) :: R) (cX qs fr :: R) :=
  (Ent.cons (Ent.cons (show Ent (bH ((vs.zip fr).map dB) :: R) _ from mM))).trans (pG (vs := vs) hv rfl)
abbrev sW (gb wb wg : Nat) (z : Gz) (zr : Rz) (g : Gu) (x : Mm) (L : List Nat) (T : List (Int × Int)) (d : Nat) (wl : List Nat) (R : List HP) : List HP :=
  mH wb (zr, g) :: gA gb z g x (dk z.pb (z.ps, x.po) :: bj z.ps x.fr :: pt wg (a7 (wl.map wV) 46) :: pt zr.r (mb g.c.rl g.c.pc) :: pt zr.c (mc g.c.cs zr.i) :: mF zr.vic L :: mG zr.tim T :: pt zr.v (lq zr.ps zr.pm d) :: cX zr.ps x.fr :: pt zr.pm (g6 x.pg) :: du zr.pl (zr.ps, x.po) :: pt z.bx kX :: pt zr.bx (a7 [dm] 114) :: R)
theorem a0N (W0 : World) (R : List HP) (gb wb wg : Nat) (z : Gz) (zr : Rz) (g : Gu) (x : Mm) (L : List Nat) (T : List (Int × Int)) (d : Nat) (wl : List Nat) (hc : CpOk g.c) (hF : cC x.fr) (hP : Pgs x.pg) (h32 : x.fr.length ≤ 32) (hes : g.es.length < 1000000) : sQ W0 8 [pV gb, pV wb] (sW gb wb wg z zr g x L T d wl R) (.bool true) (sW gb wb wg z zr g x L T d wl R) := by
 have hrl : g.c.rl.length = 16 := hc.r.len
 have hcl : g.c.cs.length = 7 := hc.cs.len
 refine lk func8 ntmps8 rfl rfl ?_
 refine aP (aZ (aa rfl (bC rfl) (aN (aD (aP (aP ?_))))))
 refine ZD (b := wb) fun ar cr => ?_
 refine fH [(wb, 0, _), (zr.r, 0, _), (zr.c, 0, _), (zr.bx, 0, _)] 77 mixed rfl (bZ (bZ (bZ (bZ bL)))) (fun hS => ?_)
 refine aQ 0 rfl rfl rfl hS (aL rfl) ?_
 refine aQ 2 rfl rfl rfl hS (aL rfl) ?_
 refine aQ 3 rfl rfl rfl hS (jp rfl) ?_
 refine aQ 4 rfl rfl rfl hS (cG rfl qq rfl C5 rfl (by first | exact Qab _ | rfl)) ?_
 refine aQ 5 rfl rfl rfl hS (bW isAgg85 rfl (by first | exact co (k := 0) rfl rfl | exact co (k := 1) rfl rfl | exact co (k := 2) rfl rfl | exact co (k := 3) rfl rfl)) ?_
 refine aQ 6 rfl rfl rfl hS (jp rfl) ?_
 refine aQ 7 rfl rfl rfl hS (cG rfl Iv rfl mJ rfl (by first | exact Qab _ | rfl)) ?_
 refine av 8 hS (eV wd mJ rfl (rL (us := g.c.rl.map wV) (ws := [wV g.c.pc]) (gr (k := 1) rfl) rfl) (by rw [Qax, hrl])) ?_
 refine bJ 1 (cH call13 (HN W0 _ gb z g hrl)) fun hS => ?_
 refine av 9 hS (ui Tryz.eqGuardType51 rfl rfl (xJ (i := Tryz.t46) (ms := g.c.rl.map Int.ofNat) (ns := g.c.rl.map Int.ofNat) Ce (by kernel_rfl) (by kernel_rfl) qu l8 (by rw [QbY]; rfl) (by rw [QbY]; rfl) (by rw [Qax]; exact hrl) (by rw [Qax]; exact hrl))) ?_
 refine aQ 10 rfl rfl rfl hS (aL rfl) ?_
 refine iS (t := 23) rfl ?_ ?_
 intro g1_11
 exact absurd g1_11 (by simp)
 intro g1_11
 refine aQ 11 rfl rfl rfl hS (aL rfl) ?_
 refine aQ 13 rfl rfl rfl hS (aL rfl) ?_
 refine aQ 14 rfl rfl rfl hS (jp rfl) ?_
 refine aQ 15 rfl rfl rfl hS (cG rfl qq rfl C5 rfl (by first | exact Qab _ | rfl)) ?_
 refine aQ 16 rfl rfl rfl hS (bW isAgg85 rfl (by first | exact co (k := 0) rfl rfl | exact co (k := 1) rfl rfl | exact co (k := 2) rfl rfl | exact co (k := 3) rfl rfl)) ?_
 refine aQ 17 rfl rfl rfl hS (jp rfl) ?_
 refine aQ 18 rfl rfl rfl hS (cG rfl Iv rfl bF rfl (by first | exact Qab _ | rfl)) ?_
 refine av 19 hS (aG (co (k := 1) rfl (Zy hrl))) ?_
 refine bJ 12 (cH call14 (HR W0 _ gb z g hrl)) fun hS => ?_
 refine aQ 20 rfl rfl rfl hS (lN rfl rfl) ?_
 refine aQ 21 rfl rfl rfl hS (j6 rfl rfl) ?_
 refine aQ 22 rfl rfl rfl hS (aL rfl) ?_
 refine iS (t := 35) rfl ?_ ?_
 intro g1_23
 exact absurd g1_23 (by simp)
 intro g1_23
 refine aQ 23 rfl rfl rfl hS (aL rfl) ?_
 refine aQ 25 rfl rfl rfl hS (aL rfl) ?_
 refine aQ 26 rfl rfl rfl hS (jp rfl) ?_
 refine aQ 27 rfl rfl rfl hS (cG rfl qq rfl Ih rfl (by first | exact Qab _ | rfl)) ?_
 refine aQ 28 rfl rfl rfl hS (bW isAgg86 rfl (by first | exact co (k := 0) rfl rfl | exact co (k := 1) rfl rfl | exact co (k := 2) rfl rfl | exact co (k := 3) rfl rfl)) ?_
 refine aQ 29 rfl rfl rfl hS (jp rfl) ?_
 refine aQ 30 rfl rfl rfl hS (cG rfl a1B rfl nU rfl (by first | exact Qab _ | rfl)) ?_
 refine av 31 hS (eV zg nU rfl (rL (us := g.c.cs.map wV) (ws := [iQ zr.i]) (gr (k := 2) rfl) rfl) (by rw [Qax, hcl])) ?_
 refine bJ 24 (cH call35 (a0C gb z g hc.cs)) fun hS => ?_
 refine av 32 hS (ui Tryz.eqGuardType102 rfl rfl (xJ (i := Tryz.t46) (ms := g.c.cs.map Int.ofNat) (ns := g.c.cs.map Int.ofNat) kF (by kernel_rfl) (by kernel_rfl) qu l8 (by rw [QbY]; rfl) (by rw [QbY]; rfl) (by rw [Qax]; exact hcl) (by rw [Qax]; exact hcl))) ?_
 refine aQ 33 rfl rfl rfl hS (j6 rfl rfl) ?_
 refine aQ 34 rfl rfl rfl hS (aL rfl) ?_
 refine iS (t := 47) rfl ?_ ?_
 intro g1_35
 exact absurd g1_35 (by simp)
 intro g1_35
 refine aQ 35 rfl rfl rfl hS (aL rfl) ?_
 refine aQ 37 rfl rfl rfl hS (aL rfl) ?_
 refine aQ 38 rfl rfl rfl hS (jp rfl) ?_
 refine aQ 39 rfl rfl rfl hS (cG rfl qq rfl aO rfl (by first | exact Qab _ | rfl)) ?_
 refine aQ 40 rfl rfl rfl hS (bW cP rfl (by first | exact co (k := 0) rfl rfl | exact co (k := 1) rfl rfl | exact co (k := 2) rfl rfl | exact co (k := 3) rfl rfl)) ?_
 refine bJ 36 (ah call15 (HQ W0 _ gb z g)) fun hS => ?_
 refine aQ 41 rfl rfl rfl hS (lN rfl rfl) ?_
 refine aQ 42 rfl rfl rfl hS (j6 rfl rfl) ?_
 refine aQ 43 rfl rfl rfl hS (aL rfl) ?_
 refine iS (t := 56) rfl ?_ ?_
 intro g1_44
 exact absurd g1_44 (by simp)
 intro g1_44
 refine aQ 44 rfl rfl rfl hS (aL rfl) ?_
 refine aQ 46 rfl rfl rfl hS (aL rfl) ?_
 refine aQ 47 rfl rfl rfl hS (jp rfl) ?_
 refine aQ 48 rfl rfl rfl hS (cG rfl qq rfl jZ rfl (by first | exact Qab _ | rfl)) ?_
 refine aQ 49 rfl rfl rfl hS (bW md rfl (by first | exact co (k := 0) rfl rfl | exact co (k := 1) rfl rfl | exact co (k := 2) rfl rfl | exact co (k := 3) rfl rfl)) ?_
 refine bJ 45 (ah call36 (Zm W0 _ gb z g)) fun hS => ?_
 refine aQ 50 rfl rfl rfl hS (CV z5 rfl rfl) ?_
 refine aQ 51 rfl rfl rfl hS (j6 rfl rfl) ?_
 refine aQ 52 rfl rfl rfl hS (aL rfl) ?_
 refine iS (t := 65) rfl ?_ ?_
 intro g1_53
 exact absurd g1_53 (by simp)
 intro g1_53
 refine aQ 53 rfl rfl rfl hS (aL rfl) ?_
 refine aQ 56 rfl rfl rfl hS (aL rfl) ?_
 refine aQ 57 rfl rfl rfl hS (jp rfl) ?_
 refine aQ 58 rfl rfl rfl hS (cG rfl qq rfl C6 rfl (by first | exact Qab _ | rfl)) ?_
 refine aQ 59 rfl rfl rfl hS (bW I7 rfl (by first | exact co (k := 0) rfl rfl | exact co (k := 1) rfl rfl | exact co (k := 2) rfl rfl | exact co (k := 3) rfl rfl)) ?_
 refine bJ 54 (ah call38 (Zk W0 _ gb z g)) fun hS => ?_
 refine cg 55 (ah call39 (a0B z.tr g.es hes)) ?_; clear hS
 rintro _ B_ ⟨a1, k1, rfl, hB_⟩
 obtain rfl := hB_.symm
 refine ⟨aK, fun hS => ?_⟩
 refine bJ 60 (ao call37 (Dv (E := 208) (sz := 21) (n := g.es.length) (a := a1) (c := k1) dF g.es pX (by decide) rfl fun h1 => Dv (E := 208) (sz := 21) (n := g.es.length) (a := ar) (c := cr) dF g.es pX (by decide) rfl fun h2 => a0y g.es a1 ar k1 cr hes h1 h2)) fun hS => ?_
 refine aQ 61 rfl rfl rfl hS (pn rfl) ?_
 refine aQ 62 rfl rfl rfl hS (j6 rfl rfl) ?_
 refine aQ 63 rfl rfl rfl hS (aL rfl) ?_
 refine iS (t := 76) rfl ?_ ?_
 intro g1_64
 exact absurd g1_64 (by simp)
 intro g1_64
 refine aQ 64 rfl rfl rfl hS (aL rfl) ?_
 refine aQ 67 rfl rfl rfl hS (aL rfl) ?_
 refine aQ 68 rfl rfl rfl hS (jp rfl) ?_
 refine aQ 69 rfl rfl rfl hS (cG rfl qq rfl IW rfl (by first | exact Qab _ | rfl)) ?_
 refine aQ 70 rfl rfl rfl hS (bW isAgg97 rfl (by first | exact co (k := 0) rfl rfl | exact co (k := 1) rfl rfl | exact co (k := 2) rfl rfl | exact co (k := 3) rfl rfl)) ?_
 refine aQ 71 rfl rfl rfl hS (jp rfl) ?_
 refine aQ 72 rfl rfl rfl hS (cG rfl a16 rfl C1 rfl (by first | exact Qab _ | rfl)) ?_
 refine aQ 73 rfl rfl rfl hS (bW isAgg112 rfl (by first | exact co (k := 0) rfl rfl | exact co (k := 1) rfl rfl | exact co (k := 2) rfl rfl | exact co (k := 3) rfl rfl)) ?_
 refine aQ 74 rfl rfl rfl hS (wA a17 rfl) ?_
 refine bJ 65 (ah call40 (Zl W0 _ gb z g)) fun hS => ?_
 refine bJ 66 (ah call41 (a0E z.bx)) fun hS => ?_
 refine aQ 75 rfl rfl rfl hS (lN rfl rfl) ?_
 refine aQ 76 rfl rfl rfl hS (j6 rfl rfl) ?_
 refine aI ?_
 refine ag (fun c1 => ?_) fun c1 => ?_
 exact absurd c1 (by simp)
 refine fF (B := sW gb wb wg z zr g x L T d wl R) (ZE rfl rfl) ?_
 refine aw ?_
 refine cK (fun p : Nat => p ≤ 12) (fun p => [(0, pV gb), (1, pV wb), (5, iQ p)]) (fun _ => sW gb wb wg z zr g x L T d wl R) (fun p => 12 - p) 0 ?_ ?_
 exact QaU _
 intro p hp
 refine aw ?_
 refine ag (fun c4 => ?_) fun c4 => ?_
 refine ac (ah call42 (HO W0 _ gb z g)) ?_
 refine ac (ah IV (a0I W0 _ z.x.m z.pv z.ps z.pm g.bud x.fr x.pg)) ?_
 refine ac (ah z8 (a0K W0 _ z.x.m z.pv z.ps z.pm g.bud x.fr x.pg p)) ?_
 refine bu fun b6 => ?_
 refine ax aC ?_
 refine a6 (aG (BR fun _ => rfl)) ?_
 refine ac (ah call45 (Ef zr.pm x.pg hP p)) ?_
 refine bu fun b8 => ?_
 refine ax aC ?_
 refine a6 (ui Tryz.eqGuardType116 rfl rfl (pj C7 Tryz.stoodInHeld116 (ir rfl cP rfl rfl (j7 dN) (ir rfl cP rfl rfl (j7 dN) pi)))) ?_
 refine cA (fun g8_4 => ?_) fun g8_4 => ?_
 exact absurd g8_4 (by simp)
 refine ag (fun c8 => ?_) fun c8 => ?_
 exact absurd c8 (by simp)
 refine a6 bS ?_
 exact bE (p + 1) (by omega)
 refine cK (fun f : Nat => f ≤ x.fr.length) (fun f => [(0, pV gb), (1, pV wb), (10, iQ f)]) (fun _ => sW gb wb wg z zr g x L T d wl R) (fun f => x.fr.length - f) 0 ?_ ?_
 exact QaU _
 intro f hf
 refine a0M (qs := zr.ps) fun a2 c2 vs hv => ?_
 refine aw ?_
 refine a6 (aG (BR fun _ => rfl)) ?_
 refine ag (fun c11 => ?_) fun c11 => ?_
 have hf1 : f < x.fr.length := by omega
 obtain ⟨hl64, hb64⟩ := hF.get hf1
 refine fF (B := sW gb wb wg z zr g x L T d wl R) (Ent.trans (B := pt zr.ps (a7 [.slice a2 x.fr.length c2] 129) :: osl 130 1 (.slice a2 x.fr.length c2) vs :: kH 2 (bH ((vs.zip x.fr).map dB)) :: mH wb (zr, g) :: gA gb z g x (dk z.pb (z.ps, x.po) :: bj z.ps x.fr :: pt wg (a7 (wl.map wV) 46) :: pt zr.r (mb g.c.rl g.c.pc) :: pt zr.c (mc g.c.cs zr.i) :: mF zr.vic L :: mG zr.tim T :: pt zr.v (lq zr.ps zr.pm d) :: pt zr.pm (g6 x.pg) :: du zr.pl (zr.ps, x.po) :: pt z.bx kX :: pt zr.bx (a7 [dm] 114) :: R)) inferInstance ((I0 hv).trans inferInstance)) ?_
 refine aw ?_
 refine ac (ah call42 (HO W0 _ gb z g)) ?_
 refine ac (ah Jc (a0J W0 _ z.x.m z.pv z.ps z.pm g.bud x.fr x.pg)) ?_
 refine am rfl (ah call47 (a0F z.ps x.fr hF f hf1)) ?_
 rintro _ B_ ⟨a1, k1, rfl, hB_⟩
 obtain rfl := hB_.symm
 refine aw ?_
 refine a0G (qs := zr.ps) hf1 fun a2 c2 vs vi hv hvi => ?_
 refine a0L (E := 5) (sz := 1) (v := vi) fun a3 n3 c3 e3 l3 => ?_
 subst e3
 obtain rfl : n3 = 64 := by rw [ed, hl64] at l3; omega
 refine ke (E := 130) (sz := 1) (a := a2) (n := x.fr.length) (c := c2) (fun v => [v]) vs (fun _ => rfl) (by decide) (by simp) fun h2 => ?_
 refine pC (E := 5) (sz := 1) (a := a1) (c := k1) (n := 64) (fun hf1' => ?_)
 refine pC (E := 5) (sz := 1) (a := a3) (c := c3) (n := 64) (fun hf3 => ?_)
 obtain ⟨g2, o2, hga, hc2⟩ := h2.at_ (i := f) (by omega)
 have hvf : vs[f]'(by omega) = .slice a3 64 c3 := by
  rw [Qbd (by omega)] at hvi
  exact QaY hvi
 rw [hvf] at hc2
 refine fH [(wb, 13, [pV zr.v]), (zr.v, 0, _), (zr.ps, 0, _), (g2, o2 + f * 1, [.slice a3 64 c3]), (uD a1, 0, b0 (x.fr.getD f [])), (uD a3, 0, b0 (x.fr.getD f []))] 21 mixed rfl (cB (ZF fun _ => rfl) (bZ (bZ (cB hc2 (cB (uE (E := 5) (sz := 1) (a := a1) (c := k1) (n := 64)) (cB (uE (E := 5) (sz := 1) (a := a3) (c := c3) (n := 64)) bL)))))) (fun hS => ?_)
 refine ae 0 3 hS ?_
 refine iS (t := 147) rfl ?_ ?_
 intro g14_3
 exact absurd g14_3 (by decide)
 intro g14_3
 refine ae 3 1 hS ?_
 refine av 4 hS (Fo jE Ir J0 rfl hl64 (zV hf1' (gr (k := 4) rfl) (fun _ => rfl) (AE _).symm (by decide))) ?_
 refine ae 5 3 hS ?_
 refine av 8 hS (aG (wE (k := 0) rfl)) ?_
 refine ae 9 7 hS ?_
 refine av 16 hS (dH s8 yU rfl hga rfl rfl hf1 (by first | exact Qab _ | rfl)) ?_
 refine av 17 hS (aG (wE (k := 3) rfl)) ?_
 refine av 18 hS (Fo jE Ir J0 rfl hl64 (zV hf3 (gr (k := 5) rfl) (fun _ => rfl) (AE _).symm (by decide))) ?_
 refine av 19 hS (JC rfl rfl) ?_
 refine ae 20 1 hS ?_
 refine aI ?_
 refine ag (fun c14 => ?_) fun c14 => ?_
 exact absurd c14 (by simp)
 refine a0H (qs := zr.ps) (fr := x.fr) (i := f) (vi := .slice a3 64 c3) hvi rfl hv rfl hf1 ?_
 refine aw ?_
 refine a6 bS ?_
 exact bE (f + 1) (by omega)
 refine a8 ?_
 exact ⟨_, ⟨rfl, rfl⟩, Ent.trans (B := pt zr.ps (a7 [.slice a2 x.fr.length c2] 129) :: osl 130 1 (.slice a2 x.fr.length c2) vs :: kH 2 (bH ((vs.zip x.fr).map dB)) :: mH wb (zr, g) :: gA gb z g x (dk z.pb (z.ps, x.po) :: bj z.ps x.fr :: pt wg (a7 (wl.map wV) 46) :: pt zr.r (mb g.c.rl g.c.pc) :: pt zr.c (mc g.c.cs zr.i) :: mF zr.vic L :: mG zr.tim T :: pt zr.v (lq zr.ps zr.pm d) :: pt zr.pm (g6 x.pg) :: du zr.pl (zr.ps, x.po) :: pt z.bx kX :: pt zr.bx (a7 [dm] 114) :: R)) inferInstance ((I0 hv).trans inferInstance)⟩
end
section
open Go.RowKit
set_option linter.unusedSimpArgs false
set_option linter.unusedVariables false
set_option maxRecDepth 20000
set_option synthInstance.maxSize 2000
set_option synthInstance.maxHeartbeats 1000000
attribute [local irreducible] rZ cD
theorem a0O (gb : Nat) (z : Gz) (g : Gu) (h : CsOk g.c.cs) : sQ W0 9 [pV gb] (pt gb (e8 z g) :: pt z.x.c (dh g.c.cs z.i) :: R) (.agg (rP g.c.cs).toArray) (pt gb (e8 z g) :: pt z.x.c (dh g.c.cs z.i) :: R) := by
 refine ab func9 ntmps9 ?_
 refine bu fun b2 => ?_
 refine ac (ah pf (nR W0 _ gb z g)) ?_
 refine ac (ah wt (tI z.x.c h)) ?_
 refine ax aC ?_
 exact bi (.cons (bD yS tW rfl rfl) .nil) aj
theorem a0P (W0 : World) (hK : ∀ A, aT (aB W0 A) 1 0 fX) (hH : ∀ A, aT (aB W0 A) 0 0 iL) (c : Cfg) (h : CfK W0 c) (i : Int) (hno : rt c = true → ¬ (0 ≤ i ∧ i < c.gl.length)) (wv : Value) : sP W0 3 [.agg (cv c).toArray, iQ i, wv] [] (fun v B => v = .bool true) := by
 obtain ⟨p, hp⟩ : ∃ p : Bool, decide ((20 : Int) < c.gl.length ∨ (40 : Int) < c.rl.length ∨ (40 : Int) < c.pl.length ∨ (40 : Int) < c.nl.length ∨ (40 : Int) < c.sl.length) = p := ⟨_, rfl⟩
 refine ab CK ntmps3 ?_
 refine dX (i3 rfl) fun b3 => ?_
 refine au 4 ?_
 refine dO (fun _ : Unit => True) (fun _ => [(1, iQ i), (2, wv), (3, pV b3), (40, .bool p)]) (fun _ => pt b3 (dW c) :: []) ?_ ?_
 refine au 6 ?_
 refine cA (fun g1_5 => ?_) fun g1_5 => ?_
 refine eE () ?_ ?_ ?_
 trivial
 · first | (obtain rfl : p = true := hp.symm.trans (Qak (by omega)); (repeat (first | exact ci | refine bQ rfl ?_)); done) | (obtain rfl : p = decide ((40 : Int) < c.sl.length) := hp.symm.trans (QaJ.2 (by omega)); (repeat (first | exact ci | refine bQ rfl ?_)); done)
 exact IO
 refine cA (fun g1_11 => ?_) fun g1_11 => ?_
 refine eE () ?_ ?_ ?_
 trivial
 · first | (obtain rfl : p = true := hp.symm.trans (Qak (by omega)); (repeat (first | exact ci | refine bQ rfl ?_)); done) | (obtain rfl : p = decide ((40 : Int) < c.sl.length) := hp.symm.trans (QaJ.2 (by omega)); (repeat (first | exact ci | refine bQ rfl ?_)); done)
 exact IO
 refine cA (fun g1_17 => ?_) fun g1_17 => ?_
 refine eE () ?_ ?_ ?_
 trivial
 · first | (obtain rfl : p = true := hp.symm.trans (Qak (by omega)); (repeat (first | exact ci | refine bQ rfl ?_)); done) | (obtain rfl : p = decide ((40 : Int) < c.sl.length) := hp.symm.trans (QaJ.2 (by omega)); (repeat (first | exact ci | refine bQ rfl ?_)); done)
 exact IO
 refine cA (fun g1_23 => ?_) fun g1_23 => ?_
 refine eE () ?_ ?_ ?_
 trivial
 · first | (obtain rfl : p = true := hp.symm.trans (Qak (by omega)); (repeat (first | exact ci | refine bQ rfl ?_)); done) | (obtain rfl : p = decide ((40 : Int) < c.sl.length) := hp.symm.trans (QaJ.2 (by omega)); (repeat (first | exact ci | refine bQ rfl ?_)); done)
 exact IO
 refine eE () ?_ ?_ ?_
 trivial
 · first | (obtain rfl : p = true := hp.symm.trans (Qak (by omega)); (repeat (first | exact ci | refine bQ rfl ?_)); done) | (obtain rfl : p = decide ((40 : Int) < c.sl.length) := hp.symm.trans (QaJ.2 (by omega)); (repeat (first | exact ci | refine bQ rfl ?_)); done)
 exact IO
 intro _ _
 refine ag (fun c1 => ?_) fun c1 => ?_
 refine ac (ao CL (yR hK hH)) ?_
 refine a8 ?_
 exact ⟨[], rfl, IO⟩
 refine ac (ao Jr (a0t c h i hno wv)) ?_
 refine cR rfl rfl rfl (fun g4_4 => ?_) fun g4_4 => ?_
 first | exact absurd g4_4 (by decide) | simp at g4_4
 refine aw ?_
 refine aA rfl (fun c4 => ?_) fun c4 => ?_
 first | exact absurd c4 (by decide) | simp at c4
 refine au 9 ?_
 refine ag (fun c6 => ?_) fun c6 => ?_
 refine dK 5 (ao CL (yR hK hH)) ?_
 refine a8 ?_
 exact ⟨[], rfl, IO⟩
 exact absurd rfl c6
theorem a0Q (W0 : World) (hK : ∀ A, aT (aB W0 A) 1 0 fX) (hH : ∀ A, aT (aB W0 A) 0 0 iL) (c : Cfg) (h : CfK W0 c) (hr : rt c = true) (i : Nat) (hi : i < c.gl.length) (a : Option Addr) (cap : Nat) (ws : List Nat) (hs : su W0 a 1 gW ws) (hb : ∀ y ∈ ws, y < 4294967296) (hn : ws.length < 9223372036854775808) (hcap : ws.length ≤ cap) : sP W0 3 [.agg (cv c).toArray, iQ i, .slice a ws.length cap] [] (fun v B => v = .bool true) := by
 have hck : jO c = 0 := Qas hr
 have hM := BN hr hi ws
 have hmp := a0g c i ws (List.replicate (aY c) bX) (dj c (aY c))
 obtain ⟨p, hp⟩ : ∃ p : Bool, decide ((20 : Int) < c.gl.length ∨ (40 : Int) < c.rl.length ∨ (40 : Int) < c.pl.length ∨ (40 : Int) < c.nl.length ∨ (40 : Int) < c.sl.length) = p := ⟨_, rfl⟩
 refine ab CK ntmps3 ?_
 refine dX (i3 rfl) fun b3 => ?_
 refine au 4 ?_
 refine dO (fun _ : Unit => True) (fun _ => [(1, iQ i), (2, .slice a ws.length cap), (3, pV b3), (40, .bool p)]) (fun _ => pt b3 (dW c) :: []) ?_ ?_
 refine au 6 ?_
 refine cA (fun g1_5 => ?_) fun g1_5 => ?_
 refine eE () ?_ ?_ ?_
 trivial
 · first | (obtain rfl : p = true := hp.symm.trans (Qak (by omega)); (repeat (first | exact ci | refine bQ rfl ?_)); done) | (obtain rfl : p = decide ((40 : Int) < c.sl.length) := hp.symm.trans (QaJ.2 (by omega)); (repeat (first | exact ci | refine bQ rfl ?_)); done)
 exact IO
 refine cA (fun g1_11 => ?_) fun g1_11 => ?_
 refine eE () ?_ ?_ ?_
 trivial
 · first | (obtain rfl : p = true := hp.symm.trans (Qak (by omega)); (repeat (first | exact ci | refine bQ rfl ?_)); done) | (obtain rfl : p = decide ((40 : Int) < c.sl.length) := hp.symm.trans (QaJ.2 (by omega)); (repeat (first | exact ci | refine bQ rfl ?_)); done)
 exact IO
 refine cA (fun g1_17 => ?_) fun g1_17 => ?_
 refine eE () ?_ ?_ ?_
 trivial
 · first | (obtain rfl : p = true := hp.symm.trans (Qak (by omega)); (repeat (first | exact ci | refine bQ rfl ?_)); done) | (obtain rfl : p = decide ((40 : Int) < c.sl.length) := hp.symm.trans (QaJ.2 (by omega)); (repeat (first | exact ci | refine bQ rfl ?_)); done)
 exact IO
 refine cA (fun g1_23 => ?_) fun g1_23 => ?_
 refine eE () ?_ ?_ ?_
 trivial
 · first | (obtain rfl : p = true := hp.symm.trans (Qak (by omega)); (repeat (first | exact ci | refine bQ rfl ?_)); done) | (obtain rfl : p = decide ((40 : Int) < c.sl.length) := hp.symm.trans (QaJ.2 (by omega)); (repeat (first | exact ci | refine bQ rfl ?_)); done)
 exact IO
 refine eE () ?_ ?_ ?_
 trivial
 · first | (obtain rfl : p = true := hp.symm.trans (Qak (by omega)); (repeat (first | exact ci | refine bQ rfl ?_)); done) | (obtain rfl : p = decide ((40 : Int) < c.sl.length) := hp.symm.trans (QaJ.2 (by omega)); (repeat (first | exact ci | refine bQ rfl ?_)); done)
 exact IO
 intro _ _
 refine ag (fun c1 => ?_) fun c1 => ?_
 refine ac (ao CL (yR hK hH)) ?_
 refine a8 ?_
 exact ⟨[], rfl, IO⟩
 refine am rfl (ao Jr (HV c h hr i hi a cap ws (fun _ => sG hs) hb hn hcap)) ?_
 rintro _ B_ ⟨gb, z0, wg, wb, zr0, rfl, hz1, hz2, hz3, hr1, hr2, hr3, hB_⟩
 obtain rfl := hB_.symm
 obtain ⟨x0, hx0⟩ : ∃ x, io c i ws (List.replicate (aY c) bX) (dj c (aY c)) = x := ⟨_, rfl⟩
 rw [hx0] at hM hmp ⊢
 have hpg := hM.pg
 have h32 : x0.fr.length ≤ 32 := by have := hM.len; have := hM.po.len; omega
 refine fF (B := sW gb wb wg z0 zr0 g0 x0 [] [] 0 (aR ws 8) (pt b3 (dW c) :: [])) inferInstance ?_
 refine aw ?_
 refine cR rfl rfl rfl (fun g4_4 => ?_) fun g4_4 => ?_
 first | exact absurd g4_4 (by decide) | simp at g4_4
 refine aw ?_
 refine aA rfl (fun c4 => ?_) fun c4 => ?_
 first | exact absurd c4 (by decide) | simp at c4
 refine au 9 ?_
 refine aA rfl (fun c6 => ?_) fun c6 => ?_
 cases c6
 refine aw ?_
 refine am rfl (ao Cr (xG c h.ok)) ?_
 rintro _ B_ ⟨at_, rfl, hB_⟩
 obtain rfl := hB_.symm
 rw [hck]
 refine aw ?_
 refine fF (B := sW gb wb wg z0 zr0 g0 x0 [] [] 0 (aR ws 8) []) inferInstance ?_
 refine aw ?_
 refine j8 rfl rfl rfl (fun g9_3 => ?_) fun g9_3 => ?_
 refine au 4 ?_
 refine dK 2 (ao call8 (a0N W0 [] gb wb wg z0 zr0 g0 x0 [] [] 0 (aR ws 8) BV hM.fr hpg h32 (by decide))) ?_
 refine j8 rfl rfl rfl (fun g9_8 => ?_) fun g9_8 => ?_
 refine au 2 ?_
 refine ac (cH call9 (a0O gb z0 g0 BV.cs)) ?_
 refine a6 (si Tryz.eqGuardType40 rfl rfl (pj Cc Tryz.stoodInHeld40 (ir rfl md rfl rfl (wz z5) (ir rfl cP rfl rfl (j7 dN) (ir rfl md rfl rfl (wz z5) pi))))) ?_
 refine j8 rfl rfl rfl (fun g9_14 => ?_) fun g9_14 => ?_
 refine ac (ao CL (yR hK hH)) ?_
 refine a8 ?_
 exact ⟨[], rfl, IO⟩
 first | exact absurd (by decide) g9_14 | exact absurd (by rfl) g9_14 | exact absurd (by kernel_rfl) g9_14
 first | exact absurd rfl g9_8 | simp at g9_8
 first | exact absurd rfl g9_3 | simp at g9_3
theorem a0R (W0 : World) (hK : ∀ A, aT (aB W0 A) 1 0 fX) (hH : ∀ A, aT (aB W0 A) 0 0 iL) (c : Cfg) (h : CfK W0 c) (i : Int) (a : Option Addr) (cap : Nat) (ws : List Nat) (hs : su W0 a 1 gW ws) (hb : ∀ y ∈ ws, y < 4294967296) (hn : ws.length < 9223372036854775808) (hcap : ws.length ≤ cap) : sP W0 3 [.agg (cv c).toArray, iQ i, .slice a ws.length cap] [] (fun v B => v = .bool true) := by
 by_cases q : rt c = true ∧ 0 ≤ i ∧ i < c.gl.length
 obtain ⟨hr, h0, h1⟩ := q
 obtain ⟨k, rfl⟩ : ∃ k : Nat, i = (k : Int) := ⟨i.toNat, by omega⟩
 exact a0Q W0 hK hH c h hr k (by omega) a cap ws hs hb hn hcap
 exact a0P W0 hK hH c h i (fun hr h2 => q ⟨hr, h2⟩) _
end
section
open Go.RowKit
section
variable {P : Program} {w : World} {enc : TypeId × Value → Unit} {base : Nat} {sp : Nat → Bool} {held : Bool}
theorem BY {fuel : Nat} {t : TypeId} {cs : List Value} {a b : Int} {f0 f1 : Field} {p : List MemPlace} (hs : P.underlying t = some (.struct #[f0, f1])) (h0 : P.underlying f0.type = some (.int .i64)) (h1 : P.underlying f1.type = some (.int .i64)) (o0 : f0.offset = 0) (o1 : f1.offset = 1) (c0 : P.cellsOf f0.type = 1) (c1 : P.cellsOf f1.type = 1) (ct : P.cellsOf t = 2)
    (h : DataW.trod enc P w base sp held fuel t cs = some (.agg [.lit (.int .i64 a), .lit (.int .i64 b)], p)) : cs = [.int .i64 a, .int .i64 b] := by
 cases fuel with
 | zero => simp [DataW.trod] at h
 | succ fuel =>
  simp only [DataW.trod, hs] at h
  split at h
  rename_i hl
  rw [ct] at hl
  obtain ⟨xs, hm, hx⟩ := Option.map_eq_some_iff.1 h
  obtain ⟨y0, e0, g0⟩ := Qcu hm 0 f0 rfl
  obtain ⟨y1, e1, g1⟩ := Qcu hm 1 f1 rfl
  obtain ⟨z0, q0, rfl, _⟩ := DataW.trod_int h0 g0
  obtain ⟨z1, q1, rfl, _⟩ := DataW.trod_int h1 g1
  rw [o0, c0] at q0
  rw [o1, c1] at q1
  match cs, hl with
  | [u, v], _ =>
   simp at q0 q1
   have hxs := Qah Prod.fst hx
   have hlen := Go.Lib.mapM_length hm
   match xs, hlen with
   | [x0, x1], _ =>
    simp at e0 e1
    subst e0; subst e1
    simp at hxs
    rw [q0, q1, hxs.1, hxs.2]
  cases h
theorem a0S {fuel : Nat} {t e : TypeId} {cs : List Value} {f0 f1 : Field} {p : List MemPlace} (ht : P.underlying t = some (.array 3 e)) (hs : P.underlying e = some (.struct #[f0, f1])) (h0 : P.underlying f0.type = some (.int .i64)) (h1 : P.underlying f1.type = some (.int .i64)) (o0 : f0.offset = 0) (o1 : f1.offset = 1) (c0 : P.cellsOf f0.type = 1) (c1 : P.cellsOf f1.type = 1) (ce : P.cellsOf e = 2) (ct : P.cellsOf t = 6)
    (h : DataW.trod enc P w base sp held fuel t cs = some (.agg [.agg [.lit (.int .i64 0), .lit (.int .i64 4)], .agg [.lit (.int .i64 1), .lit (.int .i64 1)], .agg [.lit (.int .i64 2), .lit (.int .i64 2)]], p)) : cs = fX := by
 cases fuel with
 | zero => simp [DataW.trod] at h
 | succ fuel =>
  simp only [DataW.trod, ht] at h
  split at h
  rename_i hl
  rw [ct] at hl
  obtain ⟨xs, hm, hx⟩ := Option.map_eq_some_iff.1 h
  obtain ⟨⟨d0, p0⟩, e0, g0⟩ := Qcu hm 0 0 rfl
  obtain ⟨⟨d1, p1⟩, e1, g1⟩ := Qcu hm 1 1 rfl
  obtain ⟨⟨d2, p2⟩, e2, g2⟩ := Qcu hm 2 2 rfl
  have hxs := Qah Prod.fst hx
  have hlen := Go.Lib.mapM_length hm
  match xs, hlen with
  | [x0, x1, x2], _ =>
   simp at e0 e1 e2
   subst e0; subst e1; subst e2
   simp at hxs
   obtain ⟨rfl, rfl, rfl⟩ := hxs
   have r0 := BY hs h0 h1 o0 o1 c0 c1 ce g0
   have r1 := BY hs h0 h1 o0 o1 c0 c1 ce g1
   have r2 := BY hs h0 h1 o0 o1 c0 c1 ce g2
   rw [ce] at r0 r1 r2
   match cs, hl with
   | [u0, u1, u2, u3, u4, u5], _ =>
    simp at r0 r1 r2
    rw [r0.1, r0.2, r1.1, r1.2, r2.1, r2.2]
    rfl
  cases h
end
theorem a0T {W : World} {ps : List MemPlace} (h : DataW.LaidVars Tryz.prog W [("hermitage/mmu.kinds", (.agg [.agg [.lit (.int .i64 0), .lit (.int .i64 4)], .agg [.lit (.int .i64 1), .lit (.int .i64 1)], .agg [.lit (.int .i64 2), .lit (.int .i64 2)]] : DataW Unit))] ps) : ∀ A, aT (aB W A) 1 0 fX := by
 obtain ⟨g', t', cs, fuel, p, q, hg', ht', hvar, hd, _, _⟩ := h
 have hg : Tryz.prog.globalNamed "hermitage/mmu.kinds" = some 1 := by kernel_rfl
 obtain rfl := QaY (hg.symm.trans hg')
 have hty : (Tryz.prog.globals[1]?).map (·.type) = some 494 := by kernel_rfl
 obtain rfl := QaY (hty.symm.trans ht')
 have hc : cs.toList = fX := a0S a13 a1U dN dN rfl rfl (by kernel_rfl) (by kernel_rfl) (by kernel_rfl) (by kernel_rfl) hd
 intro A i v hi
 refine sj ?_
 have := World.var?_cell hg hvar i
 rw [Qab, this, ← Array.getElem?_toList, hc]; exact hi
section
variable {P : Program} {w : World} {enc : TypeId × Value → Unit} {base : Nat} {sp : Nat → Bool} {held : Bool}
theorem a0U {fuel n : Nat} {t e : TypeId} {cs : List Value} {ls : List Nat} {p : List MemPlace} (ht : P.underlying t = some (.array n e)) (he : P.underlying e = some (.int .i64)) (ce : P.cellsOf e = 1) (ct : P.cellsOf t = n)
    (h : DataW.trod enc P w base sp held fuel t cs = some (.agg (ls.map fun z => .lit (.int .i64 ((z : Nat) : Int))), p)) : cs = ls.map fun z => .int .i64 ((z : Nat) : Int) := by
 cases fuel with
 | zero => simp [DataW.trod] at h
 | succ fuel =>
  simp only [DataW.trod, ht] at h
  split at h
  rename_i hl
  rw [ct] at hl
  obtain ⟨xs, hm, hx⟩ := Option.map_eq_some_iff.1 h
  have hxs : xs.map (·.1) = ls.map fun z => (.lit (.int .i64 ((z : Nat) : Int)) : DataW Unit) := by
   grind
  have hlen := Go.Lib.mapM_length hm
  rw [Qco] at hlen
  have hll : ls.length = n := by
   have := Qah List.length hxs
   simp at this; omega
  apply QaQ (by simp; omega)
  intro i h1 h2
  have hi : i < n := by omega
  obtain ⟨⟨d, q⟩, e0, g0⟩ := Qcu hm i i (by simp [hi])
  obtain ⟨m, q0, q1, _⟩ := DataW.trod_int he g0
  have h3 : (xs.map (·.1))[i]? = some d := by grind
  rw [hxs, Qcp, Qbd (show i < ls.length by omega)] at h3
  have h4 : d = .lit (.int .i64 m) := Qah Prod.fst q1
  rw [h4] at h3
  simp at h3
  rw [ce, QaA, QaX h1] at q0
  rw [(List.cons.inj q0).1, List.getElem_map, h3]
  cases h
end
theorem a0V {W : World} {ps : List MemPlace} {r : List (String × DataW Unit)} (h : DataW.LaidVars Tryz.prog W (("hermitage/isa.has", (.agg (uV.map fun z => .lit (.int .i64 ((z : Nat) : Int))) : DataW Unit)) :: r) ps) : (∀ A, aT (aB W A) 0 0 iL) ∧ ∃ q, DataW.LaidVars Tryz.prog W r q := by
 obtain ⟨g', t', cs, fuel, p, q, hg', ht', hvar, hd, hr, _⟩ := h
 refine ⟨?_, q, hr⟩
 have hg : Tryz.prog.globalNamed "hermitage/isa.has" = some 0 := by kernel_rfl
 obtain rfl := QaY (hg.symm.trans hg')
 have hty : (Tryz.prog.globals[0]?).map (·.type) = some 426 := by kernel_rfl
 obtain rfl := QaY (hty.symm.trans ht')
 have hc : cs.toList = iL := a0U a1Q dN (by kernel_rfl) (by kernel_rfl) hd
 intro A i v hi
 refine sj ?_
 have := World.var?_cell hg hvar i
 rw [Qab, this, ← Array.getElem?_toList, hc]; exact hi
theorem a0W {W : World} (h : laidMet Tryz.prog [("hermitage/isa.has", (.agg (uV.map fun z => .lit (.int .i64 ((z : Nat) : Int))) : DataW Unit)), ("hermitage/mmu.kinds", (.agg [.agg [.lit (.int .i64 0), .lit (.int .i64 4)], .agg [.lit (.int .i64 1), .lit (.int .i64 1)], .agg [.lit (.int .i64 2), .lit (.int .i64 2)]] : DataW Unit))] W) :
    (∀ A, aT (aB W A) 0 0 iL) ∧ ∀ A, aT (aB W A) 1 0 fX := by
 obtain ⟨ps, h, _⟩ := h
 obtain ⟨h1, q, h2⟩ := a0V h
 exact ⟨h1, a0T h2⟩
end
end Go.Proofs.YtofillmoflhijaaGreatDoor
