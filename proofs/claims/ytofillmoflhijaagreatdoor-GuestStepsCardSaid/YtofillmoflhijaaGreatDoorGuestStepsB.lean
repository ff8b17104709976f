/-
  Part 2 of the proof of GuestSteps: rules, and walks of functions. Conditions: none.
-/
import Derived.Test.YtofillmoflhijaaGreatDoorGuestStepsA
namespace Go.Proofs.YtofillmoflhijaaGreatDoor
open Go.Proofs.Tryz
set_option linter.unusedSimpArgs false
set_option linter.unusedVariables false
set_option maxRecDepth 20000
set_option linter.defProp false
set_option synthInstance.maxSize 8192
set_option synthInstance.maxHeartbeats 2000000
variable {W0 : World} {R : List HP}
section
open Go.RowKit
theorem A4 {c} (h : c ≤ maxLen) : c < 9223372036854775808 := by simp only [maxLen] at h; omega
theorem Ia {l sp i k w} (h : i + k ≤ l.length) : dk (bO l ++ sp) i (bO (ll k w)) = bO (mK l i k w) ++ sp := by
 grind [HV, fD, vJ, W5]
def A5 (a : Option Addr) (n c : Nat) : Value := .tuple #[.slice a n c, .int .i64 0]
def Do : Value := .tuple #[.slice none 0 0, .int .i64 1]
theorem Wv W0 R g off c l (i k w : Nat) (p : w < 4294967296) (q : bF (aT W0 R) g off (bO l)) (j : eX l.length i k = true) (r : l.length ≤ 1000000) : sP W0 207 [.slice (some ⟨g, off, none⟩) l.length c, iQ i, iQ k, .int .u32 w] R (fun v B => ∃ d a, v = A5 d l.length a ∧ B = osl 5 1 (.slice d l.length a) (bO (mK l i k w)) :: R) := by
 have x := ip.1 j;refine am func207 ntmps207 ?_;refine aG rfl (aC call281 (I8 g off c l q r)) ?_;rintro _ y ⟨d, a, rfl, e⟩;obtain rfl := e.symm;refine au 4 ?_;refine kt (fun h _ => by have := (Value.slice.inj h).2.1; omega) fun b z s t u m n A C => ?_;cases u;have f : kw b 0 l.length i k = .tuple #[.slice (some ⟨b, i, none⟩) k k, .bool true] := by simp [kw, j]
 refine aw ?_;refine ku (aC Gn (Dn b 0 l.length a i k m (A4 n))) ?_;rw [f];refine aw ?_;refine aD rfl (fun o => ?_) fun o => ?_;exact absurd o (by simp);refine aw ?_;refine ah (ao call283 (Wu b i k k 5 (bO l ++ t) w p (by omega) (by omega))) ?_;rw [Ia (by omega)];refine aA ?_;exact ⟨_, ⟨_, a, rfl, rfl⟩, fC m n (by grind [fD, un]) (by grind [Qae, fD, un])⟩
theorem Ww W0 R g off c l at_ k (w : Nat) (h : bF (aT W0 R) g off (bO l)) (i : eX l.length at_ k = false) (j : l.length ≤ 1000000) : sQ W0 207 [.slice (some ⟨g, off, none⟩) l.length c, iQ at_, iQ k, .int .u32 w] R Do R := by
 refine am func207 ntmps207 ?_;refine aG rfl (aC call281 (I8 g off c l h j)) ?_;rintro _ n ⟨b, d, rfl, a⟩;obtain rfl := a.symm;refine aw ?_;obtain ⟨e, m⟩ : ∃ e, e = osl 5 1 (.slice b l.length d) (bO l) :: R := ⟨_, rfl⟩
 refine ah (aC Gn (Wr b l.length d at_ k i (by omega))) ?_;refine ai (fun f => ?_) fun f => ?_;exact aA ap;exact absurd f (by simp)
theorem Wx W0 R g off c l (a k w : Nat) (y : w < 4294967296) (o : bF (aT W0 R) g off (bO l)) (j : eX l.length a k = true) (z : l.length ≤ 1000000) : sP W0 209 [.slice (some ⟨g, off, none⟩) l.length c, iQ a, iQ k, .int .u32 w] R (fun v B => ∃ e b, v = A5 e l.length b ∧ B = osl 5 1 (.slice e l.length b) (bO (mK l a k w)) :: R) := by
 have A := ip.1 j;refine am func209 ntmps209 ?_;refine ah (aC Gp (A3 _ l.length c a k (by omega))) ?_;refine aD rfl (fun m => ?_) fun m => ?_;exact absurd m (by simp [j]);refine ii (aH (aQ (aY (aG rfl (ui lc nX rfl) ?_))));rintro _ _ ⟨C, rfl, rfl⟩;refine aw ?_;refine aG rfl (eW (sz := 1) (by_ := 1) (info := Tryz.t5) lc (by kernel_rfl) rfl rfl rfl rfl (by decide) rfl rfl o.weak ((fD l).trans (QaA _).symm) (A1 l) (by simp only [maxLen]; omega) (by omega)) ?_;rintro _ D ⟨e, b, rfl, f⟩;obtain rfl := f.symm;simp only [Qac, Qax];refine au 5 ?_;refine kt (fun h _ => by have := (Value.slice.inj h).2.1; omega) fun n E p d q r s F t => ?_;cases q;refine aw ?_;refine gU (fun i : Nat => i ≤ k) (fun i => [(1, iQ a), (2, iQ k), (3, .int .u32 w), (10, .slice (some ⟨n, 0, none⟩) l.length b), (11, iQ i)]) (fun i => pt n (ag (dk (bO l ++ d) a (bO (ll i w))) 5) :: R) (fun i => k - i) 0 ?_ ?_ ?_ ?_;omega
 · repeat (first | exact bC | refine bq rfl ?_)
 rw [show dk (bO l ++ d) a (bO (ll 0 w)) = bO l ++ d from rfl]; exact inferInstance;intro i u;refine aw ?_;refine ai (fun x => ?_) fun x => ?_;refine aa (ee (a + i)) ?_;refine aa (lh (8 * i)) ?_;refine aa (j8 rfl rfl (by omega) rfl) ?_;refine aa (bD (HU (by omega))) ?_;refine aa (bI (by omega)) ?_;refine av (du (by rw [xf, Qae, fD]; omega) (by rw [HT, Di, show bO [w / 256 ^ i % 256] = [bV (w / 256 ^ i % 256)] from rfl, Dm, fD, vJ, QaA]; rfl : (dk (bO l ++ d) a (bO (ll i w))).set ((a + i) * 1) _ = dk (bO l ++ d) a (bO (ll (i + 1) w)))) ?_;refine aa co ?_;exact bM (i + 1) (by omega);refine aA ?_;have : i = k := by omega
 subst this;rw [Ia (by omega)];exact ⟨_, ⟨_, b, rfl, rfl⟩, fC r s (by rw [fD, un (by omega), QaA]) (by rw [← t, Qae, Qae, fD, fD, un (by omega)])⟩
theorem Wy a n c at_ k (w : Nat) (d : eX n at_ k = false) (e : n ≤ 1000000) : sQ W0 209 [.slice a n c, iQ at_, iQ k, .int .u32 w] R Do R := by
 refine am func209 ntmps209 ?_;refine ah (aC Gp (A3 _ n c at_ k (by omega))) ?_;refine ai (fun b => ?_) fun b => ?_;exact aA ap;exact absurd b (by simp [d])
abbrev aE := List Nat
def nz (x : aE) : List Value := (List.range 64).map (fun i => bV (x.getD i 0))
theorem Dp x : (nz x).length = 64 := by simp [nz]
theorem Ib {x} (h : x.length = 64) : nz x = bO x := by
 apply QaS;simp [nz, bO, h];grind [bO, nz]
def cC (fr : List aE) : Prop := ∀ x ∈ fr, x.length = 64 ∧ By x
theorem cC.get {fr} (h : cC fr) {f} (a : f < fr.length) : (fr.getD f []).length = 64 ∧ By (fr.getD f []) := by
 have : fr.getD f [] = fr[f] := by grind
 rw [this]; exact h _ (QaF a)
theorem cC.set {fr} (h : cC fr) {f} {y : aE} (a : y.length = 64 ∧ By y) : cC (fr.set f y) := fun x b => by
 rcases Qco b with c | rfl;exact h x c;exact a
theorem A6 {fr} (h : cC fr) {f} (a : f < fr.length) : ((fr.flatMap nz).drop (f * 64)).take 64 = bO (fr.getD f []) := by
 have := rC Dp fr f [] a;rw [Qaw] at this;rw [this, Ib (h _ (QaF a)).1]; simp [List.getD, a]
theorem Ic {fr : List aE} {f} {y : aE} (a : f < fr.length) (b : y.length = 64) : dk (fr.flatMap nz) (f * 64) (bO y) = (fr.set f y).flatMap nz := by
 have := vD Dp fr f y [] a;rw [Qaw, Qaw, Ib b] at this;exact this
theorem Ie (fr : List aE) : (fr.flatMap nz).length = fr.length * 64 := cQ Dp fr
def cR : aE := List.replicate 64 0
theorem If : cR.length = 64 ∧ By cR := ⟨by simp [cR], fun b a => by have := List.eq_of_mem_replicate a; omega⟩
theorem cC.new n : cC (List.replicate n cR) := fun x a => by rw [List.eq_of_mem_replicate a]; exact If
theorem Ig : ∀ n, (List.replicate n cR).flatMap nz = List.replicate (n * 64) (bV 0)
 | 0 => rfl
 | n + 1 => by
  rw [List.replicate_succ, QaX, Ig n, Qce, Nat.add_comm, ← List.replicate_append_replicate];congr 1
def bB (ps : Nat) (fr : List aE) : HP := chk (fun C => ∃ g, C = [pt ps (ag [.slice (some ⟨g, 0, none⟩) fr.length fr.length, .bool true] 169), pt g (ag (fr.flatMap nz) 217)])
section
variable {P : Program} {W0 : World} {N : FSz} {K : Act → World → Prop} {e : b0} {A B R R1 R2 : List HP} {ps g n : Nat} {fr : List aE} {f : FuncId} {args : List Value} {Post : Value → List HP → Prop} {l : List Value}
theorem Wz (h : ∀ g, bH P W0 f args (pt ps (ag [.slice (some ⟨g, 0, none⟩) fr.length fr.length, .bool true] 169) :: pt g (ag (fr.flatMap nz) 217) :: R) Post) : bH P W0 f args (bB ps fr :: R) Post :=
  qq fun C a => by obtain ⟨g, rfl⟩ := a; exact h g
theorem pM [a : Tk pt ps A (ag [.slice (some ⟨g, 0, none⟩) n n, .bool true] 169) R1] [b : Tk pt g R1 (ag l 217) R2] (c : l = fr.flatMap nz) (d : n = fr.length) [k : Ent R2 B] : Ent A (bB ps fr :: B) := by
 subst c; subst d;exact (Ent.ofPerm (a.perm.trans (b.perm.cons _))).trans ((Ent.cons (Ent.cons k)).trans (g5 (R := B) (C := [_, _]) ⟨g, rfl⟩))
theorem uo [hk : Tk bB ps A fr R] (h : ∀ g, ax W0 N K e (pt ps (ag [.slice (some ⟨g, 0, none⟩) fr.length fr.length, .bool true] 169) :: pt g (ag (fr.flatMap nz) 217) :: R)) : ax W0 N K e A :=
  gk (r := bB) (b := ps) (nu fun C a => by obtain ⟨g, rfl⟩ := a; exact h g)
end
theorem WA {g off c n l at_ w} (b : l.length = n) (d : bF (aT W0 R) g off (bO l)) (e : By l) (f : n ≤ c) (a : c < 9223372036854775808) : sQ W0 309 [.slice (some ⟨g, off, none⟩) n c, iQ at_, iQ w] R (.tuple #[.int .u32 (mM l at_ w), iQ (pL l at_ w)]) R := by
 grind [I7]
theorem WB {g off c n l} {i k w : Nat} (d : l.length = n) (e : w < 4294967296) (f : bF (aT W0 R) g off (bO l)) (h : eX n i k = true) (j : n ≤ 1000000) : sP W0 207 [.slice (some ⟨g, off, none⟩) n c, iQ i, iQ k, .int .u32 w] R (fun v B => ∃ a b, v = A5 a n b ∧ B = osl 5 1 (.slice a n b) (bO (mK l i k w)) :: R) := by
 grind [Wv]
theorem WC {g off c n l at_ k} {w : Nat} (a : l.length = n) (b : bF (aT W0 R) g off (bO l)) (d : eX n at_ k = false) (e : n ≤ 1000000) : sQ W0 207 [.slice (some ⟨g, off, none⟩) n c, iQ at_, iQ k, .int .u32 w] R Do R := by
 grind [Ww]
theorem WE (n : Nat) (h : n ≤ 32) : sP W0 17 [iQ n] R (fun v B => ∃ b, v = .tuple #[pQ b, iQ 0] ∧ B = bB b (List.replicate n cR) :: R) := by
 refine am func17 ntmps17 ?_;refine dj rfl rfl rfl (fun a => ?_) fun a => ?_;omega;refine aw ?_;refine aD rfl (fun c => ?_) fun c => ?_;omega;refine aw ?_;refine dK (uj (sz := 64) (by_ := 64) (info := Tryz.t217) a7B (by kernel_rfl) rfl rfl rfl rfl (by decide) rfl rfl rfl rfl (by omega) (by decide)) fun e => ?_;refine bA fun d => ?_;refine aA ?_;exact ⟨_, ⟨d, rfl, rfl⟩, pM (Ig n).symm (by simp)⟩
theorem Ih ps fr : sQ W0 170 [pQ ps] (bB ps fr :: R) (.bool false) (bB ps fr :: R) := by
 refine Wz fun g => ?_;refine am func170 ntmps170 ?_;refine dj rfl rfl rfl (fun a => ?_) fun a => ?_;cases a;refine aw ?_;refine ae ?_;exact ⟨_, ⟨by simp [aO], rfl⟩, pM rfl rfl⟩
theorem uq ps fr : sQ W0 79 [pQ ps] (bB ps fr :: R) (iQ fr.length) (bB ps fr :: R) := by
 refine am func79 ntmps79 ?_;refine ah (ao call170 (Ih ps fr)) ?_;refine uo (ps := ps) fun g => ?_;refine aw ?_;refine ae ?_;exact ⟨_, ⟨rfl, rfl⟩, pM rfl rfl⟩
def ez (n : Nat) (f : Int) : Bool := decide (0 ≤ f ∧ f < n)
theorem ut ps fr f : sQ W0 117 [pQ ps, iQ f] (bB ps fr :: R) (iQ (if ez fr.length f then 0 else 1)) (bB ps fr :: R) := by
 refine am func117 ntmps117 ?_;refine ah (ao call170 (Ih ps fr)) ?_;refine ai (fun c3 => ?_) fun c3 => ?_;refine ae ?_;have hf : ez fr.length f = false := by grind [ez]
 first
   | exact ⟨_, ⟨by simp [aO, hf], rfl⟩, pM rfl rfl⟩
   | exact ⟨_, ⟨by simp [aO, hf], rfl⟩, IO⟩
 refine uo (ps := ps) fun g => ?_;refine aw ?_;refine ai (fun c4 => ?_) fun c4 => ?_;refine ae ?_;have hf : ez fr.length f = false := by grind [ez]
 first
   | exact ⟨_, ⟨by simp [aO, hf], rfl⟩, pM rfl rfl⟩
   | exact ⟨_, ⟨by simp [aO, hf], rfl⟩, IO⟩
 refine ae ?_;have hf : ez fr.length f = true := by grind [ez]
 exact ⟨_, ⟨by simp [aO, hf], rfl⟩, pM rfl rfl⟩
def kx (fr : List aE) (f off w : Int) : Nat := if ez fr.length f then mM (fr.getD f.toNat []) off w else 0
def vM (fr : List aE) (f off w : Int) : Int := if ez fr.length f then pL (fr.getD f.toNat []) off w else 1
theorem qB {n f} (h : ez n f = true) : ∃ i : Nat, f = i ∧ i < n := by
 simp only [ez, Qai] at h;exact ⟨f.toNat, by omega, by omega⟩
theorem Ii ps fr f off w (e : cC fr) : sQ W0 236 [pQ ps, iQ f, iQ off, iQ w] (bB ps fr :: R) (.tuple #[.int .u32 (kx fr f off w), iQ (vM fr f off w)]) (bB ps fr :: R) := by
 by_cases c : ez fr.length f = true;obtain ⟨i, rfl, d⟩ := qB c;obtain ⟨h, j⟩ := e.get d;refine am func236 ntmps236 ?_;refine ah (ao wT (ut ps fr i)) ?_;refine ai (fun a => ?_) fun a => ?_;exact absurd a (by simp [c]);refine uo (ps := ps) fun g => ?_;refine aw ?_;refine aa (bI d) ?_;refine aa (xw zt nX rfl) ?_;refine ah (aC call309 (WA h (cJ (A6 e d) (by rw [fD, h])) j (by decide) (by decide))) ?_;refine aA ?_;exact ⟨_, ⟨by simp [aO, kx, vM, c], rfl⟩, pM rfl rfl⟩;have b : ez fr.length f = false := by grind
 refine am func236 ntmps236 ?_;refine ah (ao wT (ut ps fr f)) ?_;refine ai (fun a => ?_) fun a => ?_;refine aA ?_;exact ⟨_, ⟨by simp [aO, kx, vM, b], rfl⟩, IO⟩;exact absurd a (by simp [b])
def lm (fr : List aE) (f off w : Int) : Bool := ez fr.length f && eX 64 off w
def g6 (fr : List aE) (f off w : Int) (v : Nat) : List aE := if lm fr f off w then fr.set f.toNat (mK (fr.getD f.toNat []) off.toNat w.toNat v) else fr
theorem A7 {fr f off w v} (h : cC fr) : cC (g6 fr f off w v) := by
 unfold g6; split
 rename_i a
 simp only [lm, Qar] at a;obtain ⟨i, rfl, b⟩ := qB a.1;obtain ⟨o, k, rfl, rfl, g, c⟩ := rI a.2;obtain ⟨d, e⟩ := h.get b;exact h.set ⟨by rw [un (by grind)]; exact d, W4 e⟩;exact h
theorem xA {fr f off w v} : (g6 fr f off w v).length = fr.length := by unfold g6; split <;> simp
theorem Dq ps fr f off w (x : Nat) (u : x < 4294967296) (r : cC fr) : sQ W0 144 [pQ ps, iQ f, iQ off, iQ w, .int .u32 x] (bB ps fr :: R) (iQ (if lm fr f off w then 0 else 1)) (bB ps (g6 fr f off w x) :: R) := by
 by_cases s : ez fr.length f = true;obtain ⟨i, rfl, d⟩ := qB s;obtain ⟨q, B⟩ := r.get d;by_cases l : eX 64 off w = true;obtain ⟨o, k, rfl, rfl, C, v⟩ := rI l;have a : lm fr i o k = true := by grind [lm]
 have t : (mK (fr.getD i []) o k x).length = 64 := by grind [un]
 refine am NF ntmps144 ?_;refine ah (ao wT (ut ps fr i)) ?_;refine ai (fun b => ?_) fun b => ?_;exact absurd b (by simp [s]);refine uo (ps := ps) fun g => ?_;refine aw ?_;refine aa (bI d) ?_;refine aa (xw zt nX rfl) ?_;refine aG rfl (aC call207 (WB q u (cJ (A6 r d) (by rw [fD, q])) l (by decide))) ?_;rintro _ y ⟨D, E, rfl, e⟩;obtain rfl := e.symm;refine ac rfl (aM rfl) (ac rfl (lK rfl rfl) (ac rfl (lK rfl rfl) (ac rfl (bj rfl) (ac rfl (bj rfl) (aP (aH (aQ (aQ (aY (ac rfl (aM rfl) (ac rfl (mB rfl rfl) (aP (aH ?_)))))))))))));refine aD rfl (fun p => ?_) fun p => ?_;exact absurd p (by simp);refine au 3 ?_;refine kt (fun h _ => by have := (Value.slice.inj h).2.1; omega) fun F G z H A I J K L => ?_;cases A;refine aw ?_;refine aa (bI d) ?_;refine aa (xw zt nX rfl) ?_;refine ah (uk lc nX rfl rfl (m := 64) (vs := bO (mK (fr.getD i []) o k x)) rfl (cJ (n := 64) (by grind) (by omega)) (by omega) (A1 _) (by rw [Ie]; omega) (Ic d t)) ?_;refine ae ?_;exact ⟨_, ⟨by simp [aO, a], rfl⟩, pM (by simp [g6, a]) (by simp [g6, a])⟩;have c : eX 64 off w = false := by grind
 have a : lm fr i off w = false := by simp [lm, c]
 refine am NF ntmps144 ?_;refine ah (ao wT (ut ps fr i)) ?_;refine ai (fun b => ?_) fun b => ?_;exact absurd b (by simp [s]);refine uo (ps := ps) fun g => ?_;refine aw ?_;refine aa (bI d) ?_;refine aa (xw zt nX rfl) ?_;refine aG rfl (iR call207 rfl (WC q (cJ (A6 r d) (by rw [fD, q])) c (by decide))) ?_;rintro _ y ⟨rfl, e⟩;obtain rfl := e.symm;refine ac rfl (aM rfl) (ac rfl (lK rfl rfl) (ac rfl (lK rfl rfl) (ac rfl (bj rfl) (ac rfl (bj rfl) (aP (aH (aQ (aQ (aY (ac rfl (aM rfl) (ac rfl (mB rfl rfl) (aP (aH ?_)))))))))))));refine aD rfl (fun p => ?_) fun p => ?_;refine au 8 ?_;refine ae ?_;exact ⟨_, ⟨by simp [aO, a], rfl⟩, pM (by simp [g6, a]) (by simp [g6, a])⟩;exact absurd p (by simp);have j : ez fr.length f = false := by grind
 have a : lm fr f off w = false := by simp [lm, j]
 refine am NF ntmps144 ?_;refine ah (ao wT (ut ps fr f)) ?_;refine ai (fun b => ?_) fun b => ?_;refine ae ?_;rw [show g6 fr f off w x = fr by simp [g6, a]];exact ⟨_, ⟨by simp [aO, j, a], rfl⟩, IO⟩;exact absurd b (by simp [j])
abbrev Pl := Int × Int
@[reducible] def g7 (p : Pl) : List Value := [.int .i64 p.1, .int .i64 p.2]
theorem uu p : (g7 p).length = 2 := rfl
def eh (pg : List Pl) (n : Nat) : Pl := pg.getD n (0, 0)
def lp (p : Pl) : Bool := decide (0 ≤ p.1 ∧ p.1 < 32 ∧ 1 ≤ p.2 ∧ p.2 ≤ 3)
structure Pgs (pg : List Pl) : Prop where
  len : pg.length = 12
  ok : ∀ n, n < 12 → eh pg n ≠ (0, 0) → lp (eh pg n) = true
def jr (n : Int) : Bool := decide (0 ≤ n ∧ n < 12)
theorem kT {n} (h : jr n = true) : ∃ i : Nat, n = i ∧ i < 12 := by
 simp only [jr, Qai] at h;exact ⟨n.toNat, by omega, by omega⟩
abbrev bN (pg : List Pl) : Obj := ag (pg.flatMap g7 ++ [.bool true]) 215
theorem Dr {pg sp n} (a : n < pg.length) : ((pg.flatMap g7 ++ sp).drop (n * 2)).take 2 = g7 (eh pg n) := by
 simp_all [rC, uu, eh]
theorem A8 {pg : List Pl} {sp n p} (a : n < pg.length) : dk (pg.flatMap g7 ++ sp) (n * 2) (g7 p) = (pg.set n p).flatMap g7 ++ sp := vD uu pg n p sp a
theorem Ij (pg : List Pl) sp : (pg.flatMap g7 ++ sp).length = pg.length * 2 + sp.length := by rw [Qae, cQ uu]
theorem WG {pg : List Pl} (h : pg.length = 12) : (pg.flatMap g7 ++ [.bool true])[24]? = some (Value.bool true) := by
 rw [Qbn (by rw [cQ uu]; omega), cQ uu, h]; rfl
theorem WH : sP W0 86 [] R (fun v B => ∃ b, v = pQ b ∧ B = pt b (bN (List.replicate 12 (0, 0))) :: R) := by
 refine am func86 ntmps86 ?_;refine bA fun a => ?_;refine ae ?_;exact ⟨_, ⟨a, rfl, rfl⟩, ent_refl⟩
theorem xB b pg (h : Pgs pg) : sQ W0 114 [pQ b] (pt b (bN pg) :: R) (.bool false) (pt b (bN pg) :: R) := by
 refine am func114 ntmps114 ?_;refine dj rfl rfl rfl (fun a => ?_) fun a => ?_;cases a;refine aw ?_;refine aa (aF (aJ (WG h.len))) ?_;exact ae ap
theorem xC n : sQ W0 192 [iQ n] R (.bool (jr n)) R := by
 refine am func192 ntmps192 ?_;refine ci (fun a => ?_) fun a => ?_;refine ae ?_;refine aI ?_;refine Qak Value.bool ?_;rw [Qag]; simp only [jr, Qai, Qaq, QaU]; omega;refine ae ?_;refine aI ?_;refine Qak Value.bool ?_;rw [Qag]; simp only [jr, Qai, Qaq, QaU]; omega
theorem WI p : sQ W0 197 [.agg (g7 p).toArray] R (.bool (lp p)) R := by
 refine am func197 ntmps197 ?_;refine bA fun d => ?_;refine ci (fun b => ?_) fun b => ?_;refine ci (fun c => ?_) fun c => ?_;refine ci (fun a => ?_) fun a => ?_;refine ae ?_;refine aI ?_;refine Qak Value.bool ?_;rw [Qag]; simp only [lp, Qai, Qaq, QaU]; omega;refine ae ?_;refine aI ?_;refine Qak Value.bool ?_;rw [Qag]; simp only [lp, Qai, Qaq, QaU]; omega;refine ae ?_;refine aI ?_;refine Qak Value.bool ?_;rw [Qag]; simp only [lp, Qai, Qaq, QaU]; omega;refine ae ?_;refine aI ?_;refine Qak Value.bool ?_;rw [Qag]; simp only [lp, Qai, Qaq, QaU]; omega
def aW (pg : List Pl) (n : Int) : Bool := jr n && decide (eh pg n.toNat ≠ (0, 0))
theorem Ds b pg (h : Pgs pg) n : sQ W0 115 [pQ b, iQ n] (pt b (bN pg) :: R) (.bool (aW pg n)) (pt b (bN pg) :: R) := by
 refine am func115 ntmps115 ?_;refine ah (aC Cn (xC n)) ?_;refine ci (fun a => ?_) fun a => ?_;obtain ⟨i, rfl, c⟩ := kT a;have d := h.len;refine aa (eL (by omega)) ?_;refine aa (dt (cJ (Dr (by omega)) rfl)) ?_;refine aa (xd Tryz.eqGuardType116 rfl rfl (u7 su Tryz.stoodInHeld116 (lJ rfl db rfl rfl (lI jL) (lJ rfl db rfl rfl (lI jL) u6)))) ?_;refine ae ?_;refine aI ?_;refine Qak Value.bool ?_
 first
   | (rw [Qag]; simp [aW, a, Prod.ext_iff])
   | simp [aW, a]
 refine ae ?_;refine aI ?_;refine Qak Value.bool ?_
 first
   | (rw [Qag]; simp [aW, a, Prod.ext_iff])
   | simp [aW, a]
def bJ (pg : List Pl) (n : Int) : Pl := if aW pg n then eh pg n.toNat else (0, 0)
theorem sZ b pg (h : Pgs pg) n : sQ W0 44 [pQ b, iQ n] (pt b (bN pg) :: R) (.tuple #[.agg (g7 (bJ pg n)).toArray, .bool (aW pg n)]) (pt b (bN pg) :: R) := by
 refine am func44 ntmps44 ?_;refine bi fun f => ?_;refine ew 1 (ao Co (xB b pg h)) ?_;refine dj rfl rfl rfl (fun a => ?_) fun a => ?_;exact absurd a (by decide);refine aw ?_;refine ah (ao NG (Ds b pg h n)) ?_;refine ai (fun d => ?_) fun d => ?_;refine av aB ?_;refine aS (.cons (aX ze pZ rfl rfl) (.cons (aN rfl) .nil)) ?_;refine aI ?_;have c : aW pg n = false := by grind
 simp [aO, bJ, c];have c : aW pg n = true := by grind
 have e : jr n = true := by grind [aW]
 obtain ⟨i, rfl, g⟩ := kT e;have j := h.len;refine aa (eL (by omega)) ?_;refine aa (dt (cJ (Dr (by omega)) rfl)) ?_;refine av aB ?_;refine aS (.cons (aX ze pZ rfl rfl) (.cons (aN rfl) .nil)) ?_;refine aI ?_;simp [aO, bJ, c]
def gm (pg : List Pl) (n : Int) (p : Pl) : Int := if jr n ∧ lp p then (if aW pg n then 5 else 0) else 1
def eA (pg : List Pl) (n : Int) (p : Pl) : List Pl := if gm pg n p = 0 then pg.set n.toNat p else pg
theorem vN {pg n p} (h : Pgs pg) : Pgs (eA pg n p) := by
 unfold eA; split
 rename_i d
 have b : lp p = true := by
  grind [gm]
 refine ⟨by simp [h.len], fun m c a => ?_⟩;unfold eh at a ⊢;by_cases e : n.toNat = m;grind;simp only [Qau, QaP e] at a ⊢;have := h.ok m c;unfold eh at this;simp only [Qau] at this;exact this a;exact h
theorem Dt b pg (h : Pgs pg) n p : sQ W0 126 [pQ b, iQ n, .agg (g7 p).toArray] (pt b (bN pg) :: R) (iQ (gm pg n p)) (pt b (bN (eA pg n p)) :: R) := by
 have l := h.len;refine am func126 ntmps126 ?_;refine bA fun d => ?_;refine ah (ao Co (xB b pg h)) ?_;refine ah (aC Cn (xC n)) ?_;refine ai (fun e => ?_) fun e => ?_;refine ae ?_;have a : gm pg n p = 1 := by
  grind [gm]
 exact ⟨_, ⟨by simp [aO, a], by rw [eA, a, Qab (by decide)]⟩, IO⟩;have f : jr n = true := by grind
 refine ah (aC call197 (WI p)) ?_;refine ai (fun g => ?_) fun g => ?_;refine ae ?_;have a : gm pg n p = 1 := by
  grind [gm]
 exact ⟨_, ⟨by simp [aO, a], by rw [eA, a, Qab (by decide)]⟩, IO⟩;have m : lp p = true := by grind
 refine ah (ao NG (Ds b pg h n)) ?_;refine ai (fun j => ?_) fun j => ?_;refine ae ?_;have a : gm pg n p = 5 := by
  grind [gm]
 exact ⟨_, ⟨by simp [aO, a], by rw [eA, a, Qab (by decide)]⟩, IO⟩;have o : aW pg n = false := by grind
 have a : gm pg n p = 0 := by grind [gm]
 obtain ⟨i, rfl, k⟩ := kT f;refine bc [d] 7 fun c => ?_;refine aj 0 5 c ?_;refine az 5 c (eL k) ?_;refine cj 6 (iK (by grind [Ij]) (A8 (by omega))) fun c => ?_;refine aK ?_;refine ae ?_;rw [show eA pg i p = pg.set i p by simp [eA, a]];exact ⟨_, ⟨by simp [aO, a], rfl⟩, IO⟩
theorem WJ b pg (h : Pgs pg) : sQ W0 129 [pQ b, iQ 12] (pt b (bN pg) :: R) (iQ 1) (pt b (bN pg) :: R) := by
 refine am NH ntmps129 ?_;refine ah (ao Co (xB b pg h)) ?_;refine ah (aC Cn (xC 12)) ?_;refine ai (fun a => ?_) fun a => ?_;exact ae ap;exact absurd a (by decide)
def fj (n : Int) (p : Pl) (kind : Int) : Bool := decide (kind = 0 ∧ n < 8 ∨ kind = 1 ∧ p.2 % 2 = 1 ∨ kind = 2 ∧ 2 ≤ p.2)
theorem ol {p} : lp p = true ↔ 0 ≤ p.1 ∧ p.1 < 32 ∧ 1 ≤ p.2 ∧ p.2 ≤ 3 := by simp [lp]
theorem WK {r} (h : 1 ≤ r ∧ r ≤ 3) : eu .i64 r 1 = r % 2 := by
 have : r = 1 ∨ r = 2 ∨ r = 3 := by omega
 rcases this with rfl | rfl | rfl <;> decide
theorem WL {r} (h : 1 ≤ r ∧ r ≤ 3) : eu .i64 r 2 = r / 2 * 2 := by
 have : r = 1 ∨ r = 2 ∨ r = 3 := by omega
 rcases this with rfl | rfl | rfl <;> decide
theorem WM n p (b : lp p = true) kind : sQ W0 280 [iQ n, .agg (g7 p).toArray, iQ kind] R (.bool (fj n p kind)) R := by
 have a := ol.1 b;refine am func280 ntmps280 ?_;refine bA fun f => ?_;refine ai (fun c => ?_) fun c => ?_;refine ae ?_;refine aI ?_;refine Qak Value.bool ?_;rw [Qag]; simp only [fj, Qai, Qaq, QaU, QbL]; omega;refine ai (fun d => ?_) fun d => ?_;refine aa (eT rfl rfl (WK ⟨a.2.2.1, a.2.2.2⟩)) ?_;refine ae ?_;refine aI ?_;refine Qak Value.bool ?_;rw [Qag]; simp only [fj, Qai, Qaq, QaU, QbL]; omega;refine ai (fun e => ?_) fun e => ?_;refine aa (eT rfl rfl (WL ⟨a.2.2.1, a.2.2.2⟩)) ?_;refine ae ?_;refine aI ?_;refine Qak Value.bool ?_;rw [Qag]; simp only [fj, Qai, Qaq, QaU, QbL]; omega;refine ae ?_;refine aI ?_;refine Qak Value.bool ?_;rw [Qag]; simp only [fj, Qai, Qaq, QaU, QbL]; omega
def e6 (pg : List Pl) (n kind : Int) : Int := if aW pg n then (if fj n (eh pg n.toNat) kind then 0 else 6) else 7
theorem uv {pg n} (h : Pgs pg) (a : aW pg n = true) : lp (bJ pg n) = true := by
 simp only [bJ, a, QbJ];simp only [aW, Qar, Qai] at a;obtain ⟨i, rfl, b⟩ := kT a.1;exact h.ok _ (by omega) a.2
theorem Ik b pg (h : Pgs pg) n kind : sQ W0 206 [pQ b, iQ n, iQ kind] (pt b (bN pg) :: R) (iQ (e6 pg n kind)) (pt b (bN pg) :: R) := by
 refine am func206 ntmps206 ?_;refine ah (ao vl (sZ b pg h n)) ?_;refine bi fun f => ?_;refine av aB ?_;refine ai (fun d => ?_) fun d => ?_;refine ae ?_;refine aI ?_;have a : aW pg n = false := by grind
 simp [aO, e6, a];have a : aW pg n = true := by grind
 refine ah (aC call280 (WM n (bJ pg n) (uv h a) kind)) ?_;refine ai (fun e => ?_) fun e => ?_;refine ae ?_;refine aI ?_;have c : fj n (eh pg n.toNat) kind = false := by grind [bJ]
 simp [aO, e6, a, c];refine ae ?_;refine aI ?_;have c : fj n (eh pg n.toNat) kind = true := by grind [bJ]
 simp [aO, e6, a, c]
abbrev cB (ps pm d : Nat) : Obj := ag [.pointer (some ⟨ps, 0, none⟩), .pointer (some ⟨pm, 0, none⟩), .int .u32 (d : Nat)] 213
theorem xD pv ps pm d : sQ W0 113 [pQ pv] (pt pv (cB ps pm d) :: R) (.bool false) (pt pv (cB ps pm d) :: R) := by
 refine am func113 ntmps113 ?_;refine dj rfl rfl rfl (fun a => ?_) fun a => ?_;cases a;refine aw ?_;exact ae ap
def eE (pa : Nat) (w : Int) : Bool := decide ((w = 1 ∨ w = 2 ∨ w = 4) ∧ (pa : Int) % w = 0)
theorem WN (pa : Nat) (d : pa < 4294967296) w : sQ W0 205 [.int .u32 pa, iQ w] R (.bool (eE pa w)) R := by
 refine am func205 ntmps205 ?_;refine ai (fun a => ?_) fun a => ?_;refine aa (bD (cZ (by omega))) ?_;refine aa (dV rfl rfl (by omega) (Qan (by omega))) ?_;refine ae ?_;refine aI ?_;refine Qak Value.bool ?_;rw [Qag]; simp only [eE, Qai, Qba]
 first
   | (subst a; simp)
   | (subst b; simp)
   | (subst c; simp)
 refine ai (fun b => ?_) fun b => ?_;refine aa (bD (cZ (by omega))) ?_;refine aa (dV rfl rfl (by omega) (Qan (by omega))) ?_;refine ae ?_;refine aI ?_;refine Qak Value.bool ?_;rw [Qag]; simp only [eE, Qai, Qba]
 first
   | (subst a; simp)
   | (subst b; simp)
   | (subst c; simp)
 refine ai (fun c => ?_) fun c => ?_;refine aa (bD (cZ (by omega))) ?_;refine aa (dV rfl rfl (by omega) (Qan (by omega))) ?_;refine ae ?_;refine aI ?_;refine Qak Value.bool ?_;rw [Qag]; simp only [eE, Qai, Qba]
 first
   | (subst a; simp)
   | (subst b; simp)
   | (subst c; simp)
 refine ae ?_;refine aI ?_;refine Qak Value.bool ?_;rw [Qag]; simp only [eE, Qai, Qaq, QaU]; omega
def d5 (n : Nat) (pg : List Pl) (pa : Nat) (w kind : Int) : Int :=
  if eE pa w then (if pa < 768 then (if e6 pg ((pa / 64 : Nat) : Int) kind = 0 then (if (bJ pg ((pa / 64 : Nat) : Int)).1 < n then 0 else 7) else e6 pg ((pa / 64 : Nat) : Int) kind) else 2) else 1
def i7 (n : Nat) (pg : List Pl) (pa : Nat) (w kind : Int) : List Value :=
  if d5 n pg pa w kind = 0 then [.int .i64 (pa / 64 : Nat), .int .i64 (bJ pg ((pa / 64 : Nat) : Int)).1, .int .i64 (pa % 64 : Nat), .bool false] else [.int .i64 0, .int .i64 0, .int .i64 0, .bool false]
theorem A9 pv ps pm d fr pg (h : Pgs pg) (pa : Nat) (b : pa < 4294967296) w kind : sQ W0 143 [pQ pv, .int .u32 pa, iQ w, iQ kind] (pt pv (cB ps pm d) :: bB ps fr :: pt pm (bN pg) :: R) (.tuple #[.agg (i7 fr.length pg pa w kind).toArray, iQ (d5 fr.length pg pa w kind)]) (pt pv (cB ps pm d) :: bB ps fr :: pt pm (bN pg) :: R) := by
 refine am func143 ntmps143 ?_;refine bi fun l => ?_;refine ah (ao Cp (xD pv ps pm d)) ?_;refine ah (aC call205 (WN pa b w)) ?_;refine ai (fun g => ?_) fun g => ?_;refine av aB ?_;refine aS (.cons (aX dS dG rfl rfl) (.cons (aN rfl) .nil)) ?_;refine aI ?_;have f : eE pa w = false := by grind
 have a : d5 fr.length pg pa w kind = 1 := by simp [d5, f]
 simp [aO, i7, a];have f : eE pa w = true := by grind
 refine ai (fun i => ?_) fun i => ?_;refine av aB ?_;refine aS (.cons (aX dS dG rfl rfl) (.cons (aN rfl) .nil)) ?_;refine aI ?_;have a : d5 fr.length pg pa w kind = 2 := by grind [d5]
 simp [aO, i7, a];refine aa (lZ rfl rfl (by decide) ((Qak (IntKind.wrap .u32) (oN pa 64)).trans (cZ (by omega)))) ?_;refine aa (bD (bS (by omega))) ?_;refine ah (ao call206 (Ik pm pg h ((pa / 64 : Nat) : Int) kind)) ?_;refine ai (fun j => ?_) fun j => ?_;refine av aB ?_;refine aS (.cons (aX dS dG rfl rfl) (.cons (aN rfl) .nil)) ?_;refine aI ?_;have a : d5 fr.length pg pa w kind = e6 pg ((pa / 64 : Nat) : Int) kind := by grind [d5]
 rw [i7, Qab (by omega), a]; rfl;have m : e6 pg ((pa / 64 : Nat) : Int) kind = 0 := by omega
 refine ah (ao vl (sZ pm pg h ((pa / 64 : Nat) : Int))) ?_;refine bi fun k => ?_;refine av aB ?_;refine bc [k, pv] 8 fun c => ?_;refine aj 0 6 c ?_;refine bG 6 (ao wU (uq ps fr)) fun c => ?_;refine aj 7 1 c ?_;refine aK ?_;refine ai (fun e => ?_) fun e => ?_;refine av aB ?_;refine aS (.cons (aX dS dG rfl rfl) (.cons (aN rfl) .nil)) ?_;refine aI ?_;have a : d5 fr.length pg pa w kind = 7 := by grind [d5]
 simp [aO, i7, a];refine aa (dV rfl rfl (by decide) (io pa 64)) ?_;refine aa (bD (bS (by omega))) ?_;refine av aB ?_;refine aS (.cons (aX dS dG rfl rfl) (.cons (aN rfl) .nil)) ?_;refine aI ?_;have a : d5 fr.length pg pa w kind = 0 := by grind [d5]
 simp [aO, i7, a]
theorem xE {n pg pa w kind} (h : d5 n pg pa w kind = 0) : pa < 768 ∧ (bJ pg (pa / 64 : Nat)).1 < n ∧ i7 n pg pa w kind = [iQ (pa / 64 : Nat), iQ (bJ pg (pa / 64 : Nat)).1, iQ (pa % 64 : Nat), .bool false] := by
 grind [i7, d5]
def kU (fr : List aE) (pg : List Pl) (pa : Nat) (w : Int) (x : Nat) : List aE := if d5 fr.length pg pa w 2 = 0 then g6 fr (bJ pg ((pa / 64 : Nat) : Int)).1 ((pa % 64 : Nat) : Int) w x else fr
def pN (fr : List aE) (pg : List Pl) (pa : Nat) (w : Int) (d : Nat) : Nat := if d5 fr.length pg pa w 2 = 0 then d ||| 2 ^ (pa / 64) else d
theorem WO {n : Nat} (h : n < 12) : iE .u32 1 n = (2 ^ n : Nat) := by
 have : ∀ n : Nat, n < 12 → iE .u32 1 (n : Int) = ((2 ^ n : Nat) : Int) := by decide
 exact this n h
theorem Du {n} (h : n < 12) : 2 ^ n < 4096 := by
 have : ∀ n : Nat, n < 12 → 2 ^ n < 4096 := by decide
 exact this n h
theorem Il pv ps pm d fr pg (h : Pgs pg) (g : cC fr) (k : d < 4096) (pa : Nat) (c : pa < 4294967296) w (x : Nat) (i : x < 4294967296) : sQ W0 65 [pQ pv, .int .u32 pa, iQ w, .int .u32 x] (pt pv (cB ps pm d) :: bB ps fr :: pt pm (bN pg) :: R) (iQ (d5 fr.length pg pa w 2)) (pt pv (cB ps pm (pN fr pg pa w d)) :: bB ps (kU fr pg pa w x) :: pt pm (bN pg) :: R) := by
 by_cases b : d5 fr.length pg pa w 2 = 0;obtain ⟨l, m, j⟩ := xE b;have o := Du (n := pa / 64) (by omega);rw [pN, Qad b, kU, Qad b];refine am func65 ntmps65 ?_;refine ah (cK Gq (A9 pv ps pm d fr pg h pa c w 2)) ?_;rw [j, b];refine bi fun f => ?_;refine av aB ?_;refine ai (fun e => ?_) fun e => ?_;exact absurd rfl e;refine bc [pv, f] 11 fun a => ?_;refine aj 0 10 a ?_;refine bG 10 (ao NI (Dq ps fr _ _ w x i g)) fun a => ?_;refine aK ?_;refine bc [f] 11 fun a => ?_;refine aj 0 3 a ?_;refine aj 4 2 a ?_;refine az 6 a (lg rfl rfl (by omega) (WO (by omega))) ?_;refine bG 3 (dP (aF (aJ rfl))) fun a => ?_;refine az 7 a (mz rfl rfl (mJ (by omega) (by omega))) ?_;refine aj 8 2 a ?_;refine cj 10 eg fun a => ?_;refine aK ?_;exact ae ap;rw [pN, Qab b, kU, Qab b];refine am func65 ntmps65 ?_;refine ah (cK Gq (A9 pv ps pm d fr pg h pa c w 2)) ?_;rw [i7, Qab b];refine bi fun f => ?_;refine av aB ?_;refine ai (fun e => ?_) fun e => ?_;exact ae ap;exact absurd b e
theorem WP ps pm fr pg (h : Pgs pg) (d : 0 < fr.length) : sP W0 90 [pQ ps, pQ pm] (bB ps fr :: pt pm (bN pg) :: R) (fun v B => ∃ b, v = .tuple #[pQ b, iQ 0] ∧ B = pt b (cB ps pm 0) :: bB ps fr :: pt pm (bN pg) :: R) := by
 refine am func90 ntmps90 ?_;refine ah (ao wU (uq ps fr)) ?_;refine dj rfl rfl rfl (fun a => ?_) fun a => ?_;omega;refine aw ?_;refine ew 5 (ao Gr (WJ pm pg h)) ?_;refine jR ?_;refine fi (kh rfl) fun c => ?_;refine aw ?_;refine aA ?_;exact ⟨_, ⟨c, rfl, rfl⟩, IO⟩
theorem rK pv ps pm d : sQ W0 43 [pQ pv] (pt pv (cB ps pm d) :: R) (pQ pm) (pt pv (cB ps pm d) :: R) := by
 refine am func43 ntmps43 ?_;refine ah (ao Cp (xD pv ps pm d)) ?_;exact ae ap
theorem Aa pv ps pm d : sQ W0 46 [pQ pv] (pt pv (cB ps pm d) :: R) (pQ ps) (pt pv (cB ps pm d) :: R) := by
 refine am func46 ntmps46 ?_;refine ah (ao Cp (xD pv ps pm d)) ?_;exact ae ap
def jE (len : Nat) (pg : List Pl) (n : Int) : Bool := aW pg n && decide (n < 8) && decide ((bJ pg n).1 < len)
theorem Io pv ps pm d fr pg (h : Pgs pg) n : sQ W0 447 [pQ pv, iQ n] (pt pv (cB ps pm d) :: bB ps fr :: pt pm (bN pg) :: R) (.tuple #[iQ (bJ pg n).1, .bool (jE fr.length pg n)]) (pt pv (cB ps pm d) :: bB ps fr :: pt pm (bN pg) :: R) := by
 refine am func447 ntmps447 ?_;refine ah (ao vl (sZ pm pg h n)) ?_;refine bi fun e => ?_;refine av aB ?_;refine bc [pv, e] 19 fun a => ?_;refine aj 0 4 a ?_;refine ja (t := 20) rfl ?_ ?_
 · intro b
   refine aj 4 4 a ?_;refine ja (t := 24) rfl ?_ ?_
   · intro c
     refine aj 8 6 a ?_;refine bG 14 (ao wU (uq ps fr)) fun a => ?_;refine aj 15 4 a ?_;refine aK ?_;refine aA ?_;refine aI ?_;simp_all [aO, jE]; try omega
   intro c;refine aj 8 11 a ?_;refine aK ?_;refine aA ?_;refine aI ?_;simp_all [aO, jE]; try omega
 intro b;refine aj 4 15 a ?_;refine aK ?_;refine aA ?_;refine aI ?_;simp_all [aO, jE]; try omega
def eY (p : Value × aE) : HP := osl 5 1 p.1 (bO p.2)
def cH (qs : Nat) (fr : List aE) : HP := chk (fun C => ∃ a c, ∃ vs : List Value, vs.length = fr.length ∧ C = pt qs (ag [.slice a fr.length c] 129) :: osl 130 1 (.slice a fr.length c) vs :: (vs.zip fr).map eY)
section
variable {P : Program} {W0 : World} {N : FSz} {K : Act → World → Prop} {e : b0} {A B R R1 R2 : List HP} {qs g n : Nat} {fr : List aE} {f : FuncId} {args : List Value} {Post : Value → List HP → Prop} {l : List Value}
theorem uw [hk : Tk cH qs A fr R] (h : ∀ a c d, d.length = fr.length → ax W0 N K e (pt qs (ag [.slice a fr.length c] 129) :: osl 130 1 (.slice a fr.length c) d :: ((d.zip fr).map eY ++ R))) : ax W0 N K e A :=
  gk (r := cH) (b := qs) (nu fun C f => by obtain ⟨a, c, d, g, rfl⟩ := f; exact h a c d g)
theorem t2 {a c vs} [b : Tk pt qs A (ag [.slice a n c] 129) R1] [d : Tk (osl 130 1) (.slice a n c) R1 vs ((vs.zip fr).map eY ++ R2)] (e : vs.length = fr.length) (f : n = fr.length) [k : Ent R2 B] : Ent A (cH qs fr :: B) := by
 subst f;have g : A.Perm ((pt qs (ag [.slice a fr.length c] 129) :: osl 130 1 (.slice a fr.length c) vs :: (vs.zip fr).map eY) ++ R2) := b.perm.trans (d.perm.cons _);have h : Ent ((pt qs (ag [.slice a fr.length c] 129) :: osl 130 1 (.slice a fr.length c) vs :: (vs.zip fr).map eY) ++ R2) (cH qs fr :: R2) := g5 ⟨a, c, vs, e, rfl⟩;exact (Ent.ofPerm g).trans (h.trans (Ent.cons k))
theorem Ip {α : Type} : ∀ (l : List α) (i : Nat) (h : i < l.length), l.Perm (l[i] :: l.eraseIdx i)
 | x :: l, 0, h => by simp
 | x :: l, i + 1, h => by
  simp only [List.getElem_cons_succ, QcA];exact ((Ip l i (by simpa using h)).cons x).trans (List.Perm.swap _ _ _)
theorem Iq {α : Type} : ∀ (l : List α) (i : Nat) (x : α) (h : i < l.length), (x :: l.eraseIdx i).Perm (l.set i x)
 | y :: l, 0, x, h => by simp
 | y :: l, i + 1, x, h => by
  simp only [Qck, QcA];exact (List.Perm.swap _ _ _).trans ((Iq l i x (by simpa using h)).cons y)
theorem t6 {E sz : Nat} {v xs} [hk : Tk (osl E sz) v A xs R] (d : v = .slice none 0 0 → xs = [] → ax W0 N K e R)
    (f : ∀ g n a c, v = .slice (some ⟨g, 0, none⟩) n a → n ≤ a → a ≤ maxLen → xs.length = n * sz → (xs ++ c).length = a * sz → ax W0 N K e (pt g (ag (xs ++ c) E) :: R)) : ax W0 N K e A :=
  gk (r := osl E sz) (b := v) (kt d f)
theorem xF [hk : Tk cH qs A fr R] {i} (m : i < fr.length) (h : ∀ a c b f, b.length = fr.length → b[i]? = some f →
      ax W0 N K e (pt qs (ag [.slice a fr.length c] 129) :: osl 130 1 (.slice a fr.length c) b :: osl 5 1 f (bO (fr.getD i [])) :: (((b.zip fr).map eY).eraseIdx i ++ R))) : ax W0 N K e A := by
 refine uw (qs := qs) fun a c b g => ?_;have j : ((b.zip fr).map eY).length = fr.length := by simp [g]
 have d : i < b.length := by omega
 have l : ((b.zip fr).map eY)[i]'(by omega) = osl 5 1 b[i] (bO (fr.getD i [])) := by grind [eY]
 have k := Ip ((b.zip fr).map eY) i (by omega);rw [l] at k;exact pF (((k.append_right R).cons _).cons _) (h a c b b[i] g (by simp [d]))
theorem Ir {a c i} {vs : List Value} {vi} {y : aE} {ys R3} [h1 : Tk pt qs A (ag [.slice a n c] 129) R1] [h2 : Tk (osl 130 1) (.slice a n c) R1 (vs.set i vi) R2] [h3 : Tk (osl 5 1) vi R2 ys (((vs.zip fr).map eY).eraseIdx i ++ R3)]
    (hy : ys = bO y) (hv : vs.length = fr.length) (hn : n = fr.length) (hi : i < fr.length) [k : Ent R3 B] : Ent A (cH qs (fr.set i y) :: B) := by
 subst hy
 have e1 : A.Perm (pt qs (ag [.slice a n c] 129) :: osl 130 1 (.slice a n c) (vs.set i vi) :: ((((vs.set i vi).zip (fr.set i y)).map eY) ++ R3)) := by
  refine h1.perm.trans ((h2.perm.trans ((h3.perm.trans ?_).cons _)).cons _)
  have hs : ((vs.set i vi).zip (fr.set i y)).map eY = ((vs.zip fr).map eY).set i (eY (vi, y)) := by
   apply QaS
   simp
   grind
  rw [hs]
  have := Iq ((vs.zip fr).map eY) i (eY (vi, y)) (by grind)
  exact this.append_right R3
 exact (Ent.ofPerm e1).trans (t2 (vs := vs.set i vi) (by simp [hv]) (by simp [hn]))
theorem Ab {c i g2 n2 c2} {vs vs' sp sp2 ys : List Value} {y : aE} {vi R3} [h1 : Tk pt qs A (ag [.slice (some ⟨g, 0, none⟩) n c] 129) R1] [h2 : Tk pt g R1 (ag (vs' ++ sp) 130) R2] [h3 : Tk pt g2 R2 (ag (ys ++ sp2) 5) R3]
    (hvs : vs' = vs.set i vi) (hvi : vi = .slice (some ⟨g2, 0, none⟩) n2 c2) (hy : ys = bO y) (hv : vs.length = fr.length) (hn : n = fr.length) (hi : i < fr.length) (a1 : n ≤ c) (a2 : c ≤ maxLen) (a3 : (vs' ++ sp).length = c * 1) (b1 : n2 ≤ c2) (b2 : c2 ≤ maxLen) (b3 : ys.length = n2 * 1) (b4 : (ys ++ sp2).length = c2 * 1) [k : Ent R3 (((vs.zip fr).map eY).eraseIdx i ++ B)] : Ent A (cH qs (fr.set i y) :: B) := by
 subst hvs
 subst hvi
 have a : A.Perm (pt qs (ag [.slice (some ⟨g, 0, none⟩) n c] 129) :: pt g (ag (vs.set i (.slice (some ⟨g2, 0, none⟩) n2 c2) ++ sp) 130) :: pt g2 (ag (ys ++ sp2) 5) :: R3) := h1.perm.trans ((h2.perm.trans (h3.perm.cons _)).cons _)
 have b : Ent (pt g2 (ag (ys ++ sp2) 5) :: R3) (osl 5 1 (.slice (some ⟨g2, 0, none⟩) n2 c2) ys :: (((vs.zip fr).map eY).eraseIdx i ++ B)) := fC b1 b2 b3 b4
 have d : Ent (pt g (ag (vs.set i (.slice (some ⟨g2, 0, none⟩) n2 c2) ++ sp) 130) :: osl 5 1 (.slice (some ⟨g2, 0, none⟩) n2 c2) ys :: (((vs.zip fr).map eY).eraseIdx i ++ B)) (osl 130 1 (.slice (some ⟨g, 0, none⟩) n c) (vs.set i (.slice (some ⟨g2, 0, none⟩) n2 c2)) :: osl 5 1 (.slice (some ⟨g2, 0, none⟩) n2 c2) ys :: (((vs.zip fr).map eY).eraseIdx i ++ B)) := fC a1 a2 (by simp [hv, hn]) a3
 exact (Ent.ofPerm a).trans ((Ent.cons ((Ent.cons b).trans d)).trans (Ir (vi := .slice (some ⟨g2, 0, none⟩) n2 c2) hy hv hn hi))
end
theorem Iu {fr : List aE} {i} (a : i < fr.length) : fr.set i (fr.getD i []) = fr := by
 simp_all
theorem Iv {vs : List Value} {i v} (h : vs[i]? = some v) : vs.set i v = vs := by
 have a : i < vs.length := by
  rcases QaD i vs.length with k | k;exact k;rw [Qbl k] at h; cases h
 have : vs[i] = v := by simpa [a] using h
 rw [← this]; exact QbS _
theorem oQ qs fr f : sQ W0 84 [pQ qs, iQ f] (cH qs fr :: R) (.bool (ez fr.length f)) (cH qs fr :: R) := by
 refine am func84 ntmps84 ?_;refine uw (qs := qs) fun a c e d => ?_;refine aw ?_;refine ci (fun b => ?_) fun b => ?_;refine ae ?_;refine ⟨_, ⟨Qak Value.bool ?_, rfl⟩, t2 d rfl⟩;rw [Qag]; simp only [ez, Qai, Qaq, QaU]; omega;refine ae ?_;refine ⟨_, ⟨Qak Value.bool ?_, rfl⟩, t2 d rfl⟩;rw [Qag]; simp only [ez, Qai, Qaq, QaU]; omega
theorem WQ {g off c n l at_ w} (b : l.length = n) (d : bF (aT W0 R) g off (bO l)) (e : By l) (f : n ≤ c) (a : c < 9223372036854775808) : sQ W0 292 [.slice (some ⟨g, off, none⟩) n c, iQ at_, iQ w] R (.tuple #[.int .u32 (mM l at_ w), iQ (pL l at_ w)]) R := by
 grind [I9]
theorem WR {g off c n l} {i k w : Nat} (d : l.length = n) (e : w < 4294967296) (f : bF (aT W0 R) g off (bO l)) (h : eX n i k = true) (j : n ≤ 1000000) : sP W0 209 [.slice (some ⟨g, off, none⟩) n c, iQ i, iQ k, .int .u32 w] R (fun v B => ∃ a b, v = A5 a n b ∧ B = osl 5 1 (.slice a n b) (bO (mK l i k w)) :: R) := by
 grind [Wx]
theorem Iw {x : aE} {sp} (h : x.length = 64) : ((bO x ++ sp).drop 0).take 64 = bO x := by
 grind [List.take_left', fD]
theorem Ac qs fr f off w (r : cC fr) : sQ W0 216 [pQ qs, iQ f, iQ off, iQ w] (cH qs fr :: R) (.tuple #[.int .u32 (kx fr f off w), iQ (vM fr f off w)]) (cH qs fr :: R) := by
 by_cases m : ez fr.length f = true;obtain ⟨i, rfl, b⟩ := qB m;obtain ⟨o, s⟩ := r.get b;refine am func216 ntmps216 ?_;refine ah (ao qd (oQ qs fr i)) ?_;refine aD rfl (fun d => ?_) fun d => ?_;exact absurd d (by simp [m]);refine au 3 ?_;refine xF (qs := qs) b fun a c t u x h => ?_;refine t6 (E := 5) (sz := 1) (v := u) (fun k l => by have := Qak List.length l; rw [fD, o] at this; cases this) fun G y H z A p q B C => ?_;obtain rfl : y = 64 := by grind [fD]
 subst A;refine t6 (E := 130) (sz := 1) (v := .slice a fr.length c) (fun k l => by have := (Value.slice.inj k).2.1; omega) fun g n I J k l D K F => ?_;cases k;refine aw ?_;refine aa (bI b) ?_;refine aa (aF (aJ (by rw [QaA, QaB (by omega)]; exact h))) ?_;refine ah (aC call292 (WQ o (cJ (Iw o) (by omega)) s p (A4 q))) ?_;refine aA ?_;refine ⟨_, ⟨by simp [aO, kx, vM, m], rfl⟩, ?_⟩;have e := Iu b
 conv => rhs; rw [← e]
 exact Ab (vs := t) (Iv h).symm rfl rfl x rfl b l D F p q B C;have j : ez fr.length f = false := by grind
 refine am func216 ntmps216 ?_;refine ah (ao qd (oQ qs fr f)) ?_;refine ai (fun d => ?_) fun d => ?_;refine aA ?_;exact ⟨_, ⟨by simp [aO, kx, vM, j], rfl⟩, IO⟩;exact absurd d (by simp [j])
theorem xG qs fr f off w (x : Nat) (hx : x < 4294967296) (hF : cC fr) : sQ W0 146 [pQ qs, iQ f, iQ off, iQ w, .int .u32 x] (cH qs fr :: R) (iQ (if lm fr f off w then 0 else 1)) (cH qs (g6 fr f off w x) :: R) := by
 by_cases z : ez fr.length f = true;obtain ⟨i, rfl, h⟩ := qB z;obtain ⟨u, hb⟩ := hF.get h;by_cases r : eX 64 off w = true;obtain ⟨o, k, rfl, rfl, hk, O⟩ := rI r;have l : lm fr i o k = true := by grind [lm]
 have P : (mK (fr.getD i []) o k x).length = 64 := by grind [un]
 refine am NJ ntmps146 ?_;refine ah (ao qd (oQ qs fr i)) ?_;refine aD rfl (fun m => ?_) fun m => ?_;exact absurd m (by simp [z]);refine au 3 ?_;refine xF (qs := qs) h fun a c A B C j => ?_;refine t6 (E := 5) (sz := 1) (v := B) (fun b d => by have := Qak List.length d; rw [fD, u] at this; cases this) fun Q D I F G J K L M => ?_;obtain rfl : D = 64 := by grind [fD]
 subst G;refine t6 (E := 130) (sz := 1) (v := .slice a fr.length c) (fun b d => by have := (Value.slice.inj b).2.1; omega) fun g n y S b d H T N => ?_;cases b;refine aw ?_;refine aa (bI h) ?_;refine aa (aF (aJ (by rw [QaA, QaB (by omega)]; exact j))) ?_;refine aG rfl (aC call209 (WR u hx (cJ (Iw u) (by omega)) r (by decide))) ?_;rintro _ U ⟨V, y, rfl, q⟩;obtain rfl := q.symm;refine t6 (E := 5) (sz := 1) (v := .slice V 64 y) (fun b d => by have := (Value.slice.inj b).2.1; omega) fun W n3 c3 X Y Z q3 q4 q5 => ?_;cases Y;refine ac rfl (aM rfl) (ac rfl (lK rfl rfl) (ac rfl (lK rfl rfl) (ac rfl (bj rfl) (ac rfl (bj rfl) (aP (aH (aQ (aQ (aY (ac rfl (aM rfl) (ac rfl (i5 rfl rfl) (aP (aH ?_)))))))))))));refine aD rfl (fun s => ?_) fun s => ?_;refine au 7 ?_;refine ac rfl (bI h) ?_;refine av (du (by omega) (by rw [QaA, QbX _ _ (by omega)])) ?_;refine ae ?_;rw [show g6 fr i o k x = fr.set i (mK (fr.getD i []) o k x) by simp [g6, l]];exact ⟨_, ⟨by simp [aO, l], rfl⟩, Ab (vs := A) (vi := .slice (some ⟨W, 0, none⟩) 64 y) rfl rfl rfl C rfl h d H (by grind) Z q3 q4 q5⟩;exact absurd rfl s;have p : eX 64 off w = false := by grind
 have l : lm fr i off w = false := by simp [lm, p]
 refine am NJ ntmps146 ?_;refine ah (ao qd (oQ qs fr i)) ?_;refine aD rfl (fun m => ?_) fun m => ?_;exact absurd m (by simp [z]);refine au 3 ?_;refine xF (qs := qs) h fun a c A B C j => ?_;refine t6 (E := 5) (sz := 1) (v := B) (fun b d => by have := Qak List.length d; rw [fD, u] at this; cases this) fun Q D I F G J K L M => ?_;obtain rfl : D = 64 := by grind [fD]
 subst G;refine t6 (E := 130) (sz := 1) (v := .slice a fr.length c) (fun b d => by have := (Value.slice.inj b).2.1; omega) fun g n y S b d H T N => ?_;cases b;refine aw ?_;refine aa (bI h) ?_;refine aa (aF (aJ (by rw [QaA, QaB (by omega)]; exact j))) ?_;refine aG rfl (iR call209 rfl (Wy _ 64 I off w x p (by decide))) ?_;rintro _ U ⟨rfl, q⟩;obtain rfl := q.symm;refine ac rfl (aM rfl) (ac rfl (lK rfl rfl) (ac rfl (lK rfl rfl) (ac rfl (bj rfl) (ac rfl (bj rfl) (aP (aH (aQ (aQ (aY (ac rfl (aM rfl) (ac rfl (i5 rfl rfl) (aP (aH ?_)))))))))))));refine aD rfl (fun s => ?_) fun s => ?_;exact absurd s (by decide);refine aw ?_;refine ae ?_;rw [show g6 fr i off w x = fr by simp [g6, l]];refine ⟨_, ⟨by simp [aO, l], rfl⟩, ?_⟩;have e := Iu h
 conv => rhs; rw [← e]
 exact Ab (vs := A) (Iv j).symm rfl rfl C rfl h d H N J K L M;have t : ez fr.length f = false := by grind
 have l : lm fr f off w = false := by simp [lm, t]
 refine am NJ ntmps146 ?_;refine ah (ao qd (oQ qs fr f)) ?_;refine ai (fun m => ?_) fun m => ?_;refine ae ?_;rw [show g6 fr f off w x = fr by simp [g6, l]];exact ⟨_, ⟨by simp [aO, l], rfl⟩, IO⟩;exact absurd m (by simp [t])
theorem Dv {A B R1 R2 R3 qs n c g2 a vs ys vi fr} {y : aE} [e : Tk pt qs A (ag [.slice a n c] 129) R1] [f : Tk (osl 130 1) (.slice a n c) R1 (vs ++ [vi]) R2] [g : Tk pt g2 R2 (ag ys 5) R3]
    (b : vi = .slice (some ⟨g2, 0, none⟩) 64 64) (h : ys = bO y) (i : y.length = 64) (d : vs.length = fr.length) (j : n = fr.length + 1) [k : Ent R3 ((vs.zip fr).map eY ++ B)] : Ent A (cH qs (fr ++ [y]) :: B) := by
 subst b; subst h;have l : A.Perm (pt qs (ag [.slice a n c] 129) :: osl 130 1 (.slice a n c) (vs ++ [.slice (some ⟨g2, 0, none⟩) 64 64]) :: pt g2 (ag (bO y ++ []) 5) :: R3) := by
  rw [Qaw]; exact e.perm.trans ((f.perm.trans (g.perm.cons _)).cons _)
 have m : Ent (pt g2 (ag (bO y ++ []) 5) :: R3) (osl 5 1 (.slice (some ⟨g2, 0, none⟩) 64 64) (bO y) :: ((vs.zip fr).map eY ++ B)) := fC (Qao _) (by simp only [maxLen]; omega) (by rw [fD, i]) (by grind [fD]);have p : ((vs ++ [Value.slice (some ⟨g2, 0, none⟩) 64 64]).zip (fr ++ [y])).map eY = (vs.zip fr).map eY ++ [osl 5 1 (.slice (some ⟨g2, 0, none⟩) 64 64) (bO y)] := by
  rw [List.zip_append d, QaG]; rfl
 have o : (osl 5 1 (.slice (some ⟨g2, 0, none⟩) 64 64) (bO y) :: ((vs.zip fr).map eY ++ B)).Perm (((vs ++ [Value.slice (some ⟨g2, 0, none⟩) 64 64]).zip (fr ++ [y])).map eY ++ B) := by
  grind [QaI, List.perm_middle.symm]
 exact (Ent.ofPerm l).trans ((Ent.cons (Ent.cons (m.trans (Ent.ofPerm o)))).trans (t2 (vs := vs ++ [.slice (some ⟨g2, 0, none⟩) 64 64]) (by simp [d]) (by simp [j])))
theorem WT (n : Nat) (h : n ≤ 32) : sP W0 18 [iQ n] R (fun v B => ∃ b, v = .tuple #[pQ b, iQ 0] ∧ B = cH b (List.replicate n cR) :: R) := by
 refine am func18 ntmps18 ?_;refine dj rfl rfl rfl (fun j => ?_) fun j => ?_;omega;refine aw ?_;refine aD rfl (fun f => ?_) fun f => ?_;omega;refine aw ?_;refine fi (kh rfl) fun l => ?_;refine ac rfl (bj rfl) (aP (aH (aQ (aQ (aY (ac rfl (bj rfl) (aP (aH (nq ?_)))))))));refine gU (fun i : Nat => i ≤ n) (fun i => [(0, iQ n), (4, pQ l), (5, iQ i)]) (fun i => cH l (List.replicate i cR) :: R) (fun i => n - i) 0 ?_ ?_ ?_ ?_;omega
 · repeat (first | exact bC | refine bq rfl ?_)
 exact (Ent.cons (fQ (B := R))).trans (g5 (R := R) (C := [_, _]) ⟨none, 0, [], rfl, rfl⟩);intro i s;refine aQ (aQ (aY (ac rfl (aM rfl) (ac rfl (aM rfl) (ac rfl (nt rfl rfl) (aP (aH ?_)))))));refine aD rfl (fun r => ?_) fun r => ?_;refine ii ?_;refine aH (aQ (nq ?_));refine uw (qs := l) fun a c o m => ?_;rw [QbA] at m ⊢;refine bc [] 11 fun d => ?_;refine aj 0 4 d ?_;refine fP (is := [4, 5]) (by kernel_rfl) rfl ⟨?_, ?_, trivial⟩;refine dL (dP (aF (aJ rfl))) ?_; clear d;rintro _ _ ⟨rfl, rfl⟩;refine ⟨aV, fun d => ?_⟩;refine bX 5 (uj (sz := 1) (by_ := 1) (info := Tryz.t5) lc (by kernel_rfl) rfl rfl rfl rfl (by decide) rfl rfl rfl rfl (by decide) (by decide)) ?_; clear d;rintro _ _ ⟨g, rfl, rfl⟩;refine ⟨aV, fun d => ?_⟩;refine lN 6 (by kernel_rfl) rfl rfl (kl vh C9 Gs rfl rfl rfl rfl rfl (by decide) (by decide)) rfl ?_; clear d;rintro _ _ ⟨p, rfl, rfl⟩;refine ⟨aV, fun d => ?_⟩;refine bX 7 (eW (sz := 1) (by_ := 24) (info := Tryz.t130) vh (by kernel_rfl) rfl rfl rfl rfl (by decide) rfl rfl eK rfl rfl (by simp only [maxLen]; omega) (by omega)) ?_; clear d;rintro _ q ⟨k, f, rfl, e⟩;obtain rfl := e.symm;refine ⟨aV, fun d => ?_⟩;refine aj 8 2 d ?_;refine cj 10 eg fun d => ?_;refine gC ?_;refine oL (aH (aY (ac rfl (aM rfl) ?_)));refine ac rfl (cY rfl rfl (by first | exact bS (by omega) | rfl)) ?_;refine ac rfl (bj rfl) (aP (aH ?_));refine bM (i + 1) ?_ (he := ?_);omega;rw [show List.replicate (i + 1) cR = List.replicate i cR ++ [cR] from QbI]; exact Dv (vs := o) (n := i + 1) (a := k) (c := f) (g2 := g) (ys := List.replicate (64 * 1) (.int .u8 0)) (y := cR) (vi := .slice (some ⟨g, 0, none⟩) 64 64) (fr := List.replicate i cR) rfl rfl (by simp [cR]) (by simp [m]) (by simp);skip;refine dL (uj (sz := 1) (by_ := 1) (info := Tryz.t5) lc (by kernel_rfl) rfl rfl rfl rfl (by decide) rfl rfl rfl rfl (by decide) (by decide)) ?_; clear d;rintro _ _ ⟨g, rfl, rfl⟩;refine ⟨aV, fun d => ?_⟩;refine fP (is := [4, 6]) (by kernel_rfl) rfl ⟨?_, ?_, trivial⟩;refine dL (dP (aF (aJ rfl))) ?_; clear d;rintro _ _ ⟨rfl, rfl⟩;refine ⟨aV, fun d => ?_⟩;refine lN 6 (by kernel_rfl) rfl rfl (kl vh C9 Gs rfl rfl rfl rfl rfl (by decide) (by decide)) rfl ?_; clear d;rintro _ _ ⟨p, rfl, rfl⟩;refine ⟨aV, fun d => ?_⟩;refine bX 7 (eW (sz := 1) (by_ := 24) (info := Tryz.t130) vh (by kernel_rfl) rfl rfl rfl rfl (by decide) rfl rfl eK rfl rfl (by simp only [maxLen]; omega) (by omega)) ?_; clear d;rintro _ q ⟨k, f, rfl, e⟩;obtain rfl := e.symm;refine ⟨aV, fun d => ?_⟩;refine aj 8 2 d ?_;refine cj 10 eg fun d => ?_;refine gC ?_;refine oL (aH (aY (ac rfl (aM rfl) ?_)));refine ac rfl (cY rfl rfl (by first | exact bS (by omega) | rfl)) ?_;refine ac rfl (bj rfl) (aP (aH ?_));refine bM (i + 1) ?_ (he := ?_);omega;rw [show List.replicate (i + 1) cR = List.replicate i cR ++ [cR] from QbI]; exact Dv (vs := o) (n := i + 1) (a := k) (c := f) (g2 := g) (ys := List.replicate (64 * 1) (.int .u8 0)) (y := cR) (vi := .slice (some ⟨g, 0, none⟩) 64 64) (fr := List.replicate i cR) rfl rfl (by simp [cR]) (by simp [m]) (by simp)
 skip;refine mD rfl rfl (kl vh C9 Gs rfl rfl rfl rfl rfl (by decide) (by decide)) rfl ?_; clear d;rintro _ _ ⟨p, rfl, rfl⟩;refine ⟨aV, fun d => ?_⟩;refine bG 4 (dP (aF (aJ rfl))) fun d => ?_;refine bX 7 (eW (sz := 1) (by_ := 24) (info := Tryz.t130) vh (by kernel_rfl) rfl rfl rfl rfl (by decide) rfl rfl eK rfl rfl (by simp only [maxLen]; omega) (by omega)) ?_; clear d;rintro _ q ⟨k, f, rfl, e⟩;obtain rfl := e.symm;refine ⟨aV, fun d => ?_⟩;refine aj 8 2 d ?_;refine cj 10 eg fun d => ?_;refine aK ?_;refine aa co ?_;refine bM (i + 1) ?_ (he := ?_);omega;rw [show List.replicate (i + 1) cR = List.replicate i cR ++ [cR] from QbI]; exact Dv (vs := o) (n := i + 1) (a := k) (c := f) (g2 := g) (ys := List.replicate (64 * 1) (.int .u8 0)) (y := cR) (vi := .slice (some ⟨g, 0, none⟩) 64 64) (fr := List.replicate i cR) rfl rfl (by simp [cR]) (by simp [m]) (by simp);refine aw ?_;refine aA ?_;have : i = n := by omega
 subst this;exact ⟨_, ⟨l, rfl, rfl⟩, IO⟩
def kz (p : Pl) : Value := .bool (decide (p ≠ (0, 0)))
abbrev dN (pg : List Pl) : Obj := ag (pg.map kz ++ pg.flatMap g7) 192
theorem Dw {pg sp i} (a : i < pg.length) : ((pg.map kz ++ sp).drop (i * 1)).take 1 = [kz (eh pg i)] := by
 rw [QaA, List.drop_append_of_le_length (by simp; omega), ← List.map_drop, Qbf a, QaL, Qay, List.take_succ_cons, List.take_zero];simp [eh, List.getD, a]
theorem WU {pg i} (h : pg.length = 12) (a : i < 12) : ((pg.map kz ++ pg.flatMap g7).drop (12 + i * 2)).take 2 = g7 (eh pg i) := by
 rw [← QcQ, List.drop_left' (by simpa using h)];have := Dr (pg := pg) (sp := []) (n := i) (by omega)
 rwa [Qaw] at this
theorem Dx : ∀ (vs a b : List Value) (off : Nat), dk (a ++ b) (a.length + off) vs = a ++ dk b off vs
 | [], a, b, off => rfl
 | v :: vs, a, b, off => by
  rw [dk, dk, Qbz _ _ (by omega), show a.length + off - a.length = off by omega, show a.length + off + 1 = a.length + (off + 1) by omega, Dx vs]
theorem WV {pg : List Pl} {i p} (h : pg.length = 12) (c : i < 12) (a : lp p = true) : dk ((pg.map kz ++ pg.flatMap g7).set (i * 1) (.bool true)) (12 + i * 2) (g7 p) = (pg.set i p).map kz ++ (pg.set i p).flatMap g7 := by
 have b : kz p = .bool true := by
  have := ol.1 a;simp only [kz, Value.bool.injEq, Qai];intro e; rw [e] at this; simp at this
 rw [QaA, QbX _ _ (by simp; omega), ← b, ← List.map_set];have e := Dx (g7 p) ((pg.set i p).map kz) (pg.flatMap g7) (i * 2);rw [show ((pg.set i p).map kz).length = 12 by simp [h]] at e;rw [e];have := A8 (pg := pg) (sp := []) (n := i) (p := p) (by omega);rw [Qaw, Qaw] at this;rw [this]
theorem Dy n : sQ W0 116 [iQ n] R (.bool (jr n)) R := by
 refine am func116 ntmps116 ?_;refine ci (fun a => ?_) fun a => ?_;refine ae ?_;refine aI ?_;refine Qak Value.bool ?_;rw [Qag]; simp only [jr, Qai, Qaq, QaU]; omega;refine ae ?_;refine aI ?_;refine Qak Value.bool ?_;rw [Qag]; simp only [jr, Qai, Qaq, QaU]; omega
theorem Ad b pg (h : Pgs pg) n p : sQ W0 96 [pQ b, iQ n, .agg (g7 p).toArray] (pt b (dN pg) :: R) (iQ (gm pg n p)) (pt b (dN (eA pg n p)) :: R) := by
 have o := h.len;refine am func96 ntmps96 ?_;refine bA fun q => ?_;refine ah (aC NK (Dy n)) ?_;refine cv (fun c => ?_) fun c => ?_;refine ae ?_;have a : gm pg n p = 1 := by
  grind [gm]
 exact ⟨_, ⟨by simp [aO, a], by rw [eA, a, Qab (by decide)]⟩, IO⟩;refine cv (fun j => ?_) fun j => ?_;refine ae ?_;have a : gm pg n p = 1 := by
  unfold gm; rw [Qab];intro d;have := ol.1 d.2
  first
    | omega
    | (simp [d.1] at c)
 exact ⟨_, ⟨by simp [aO, a], by rw [eA, a, Qab (by decide)]⟩, IO⟩;refine cv (fun f => ?_) fun f => ?_;refine ae ?_;have a : gm pg n p = 1 := by
  unfold gm; rw [Qab];intro d;have := ol.1 d.2
  first
    | omega
    | (simp [d.1] at c)
 exact ⟨_, ⟨by simp [aO, a], by rw [eA, a, Qab (by decide)]⟩, IO⟩;refine cv (fun g => ?_) fun g => ?_;refine ae ?_;have a : gm pg n p = 1 := by
  unfold gm; rw [Qab];intro d;have := ol.1 d.2
  first
    | omega
    | (simp [d.1] at c)
 exact ⟨_, ⟨by simp [aO, a], by rw [eA, a, Qab (by decide)]⟩, IO⟩;refine ai (fun r => ?_) fun r => ?_;refine ae ?_;have a : gm pg n p = 1 := by
  unfold gm; rw [Qab];intro d;have := ol.1 d.2
  first
    | omega
    | (simp [d.1] at c)
 exact ⟨_, ⟨by simp [aO, a], by rw [eA, a, Qab (by decide)]⟩, IO⟩;have s : jr n = true := by grind
 have t : lp p = true := ol.2 (by omega);obtain ⟨i, e, k⟩ := kT s;have l := Dw (pg := pg) (sp := pg.flatMap g7) (i := i) (by omega);have u : aW pg n = decide (eh pg i ≠ (0, 0)) := by grind [aW]
 refine aa (fN zk gO rfl rfl e k (by first | exact Qac _ | rfl)) ?_;refine aa (aF (cJ (vs := [kz (eh pg i)]) l rfl 0 _ rfl)) ?_;refine ai (fun v => ?_) fun v => ?_;have w : aW pg n = true := by grind
 refine ae ?_;have a : gm pg n p = 5 := by grind [gm]
 exact ⟨_, ⟨by simp [aO, a], by rw [eA, a, Qab (by decide)]⟩, IO⟩;have w : aW pg n = false := by grind
 have a : gm pg n p = 0 := by grind [gm]
 refine aa (fN zk gO rfl rfl e k (by first | exact Qac _ | rfl)) ?_;refine av (du (by grind) rfl) ?_;refine bc [q] 7 fun m => ?_;refine aj 0 5 m ?_;refine az 5 m (fN Gc pZ rfl rfl e k (by first | exact Qac _ | rfl)) ?_;refine cj 6 (iK (by rw [Qam, Qae, Qav, cQ uu]; omega) (WV o k t)) fun m => ?_;refine aK ?_;refine ae ?_;rw [show eA pg n p = pg.set i p by rw [eA, Qad a, e, Qaf]];exact ⟨_, ⟨by simp [aO, a], rfl⟩, IO⟩
theorem qC b pg (h : Pgs pg) n : sQ W0 45 [pQ b, iQ n] (pt b (dN pg) :: R) (.tuple #[.agg (g7 (bJ pg n)).toArray, .bool (aW pg n)]) (pt b (dN pg) :: R) := by
 have j := h.len;refine am func45 ntmps45 ?_;refine fi (dQ Cj) fun p => ?_;refine ac rfl (bj rfl) (aP (aH (aQ (aQ (aY (ac rfl (aM rfl) (aG rfl (iR NK rfl (Dy n)) ?_)))))));rintro _ q ⟨rfl, f⟩;obtain rfl := f.symm;refine ac rfl (qk rfl) (aP (aH ?_));refine aD rfl (fun l => ?_) fun l => ?_;refine aQ ?_;refine aY (ac rfl (fB su Cj (aL aR (aL aR fA)) fz) ?_);refine eU (fM pZ rfl rfl rfl rfl rfl) ?_;rintro _ _ rfl;refine ac rfl (bj rfl) (aP (aH (dv (gQ (aS (.cons (aX ze pZ rfl rfl) (.cons (aN rfl) .nil)) ?_)))));refine aI ?_;have m : aW pg n = false := by grind [aW]
 simp [aO, bJ, m];have o : jr n = true := by grind
 obtain ⟨i, c, g⟩ := kT o;have d := Dw (pg := pg) (sp := pg.flatMap g7) (i := i) (by omega);have e := WU (pg := pg) j g;refine ii (aH (aQ ?_));refine eV [(b, 12 + i * 2, g7 (eh pg i)), (b, i * 1, [kz (eh pg i)])] 14 mixed rfl (bU (cJ e rfl) (bU (cJ d rfl) bE)) (fun a => ?_);refine aj 0 4 a ?_;refine az 4 a (fN Gc pZ rfl rfl c g (by first | exact Qac _ | rfl)) ?_;refine bu 5 rfl rfl rfl a (gK ze pZ rfl (j9 (k := 0) rfl) rfl) ?_;refine bu 6 rfl rfl rfl a (aM rfl) ?_;refine bu 7 rfl rfl rfl a (aM rfl) ?_;refine bu 8 rfl rfl rfl a (ik rfl) ?_;refine bu 9 rfl rfl rfl a (cD rfl a7C rfl sizeOf124 rfl (by first | exact Qac _ | rfl)) ?_;refine az 10 a (fN zk gO rfl rfl c g (by first | exact Qac _ | rfl)) ?_;refine az 11 a (aF (ko (k := 1) rfl)) ?_;refine kv 12 rfl rfl aB (bU (cJ e rfl) (bU (cJ d rfl) bE)) fun a => ?_;refine aj 13 1 a ?_;refine aK ?_;refine aS (.cons (aX ze pZ rfl rfl) (.cons (aN rfl) .nil)) ?_;refine aI ?_;subst c;by_cases r : eh pg i = (0, 0);grind [aW, aO, bJ, kz];grind [aW, aO, bJ, kz]
theorem Dz b pg (h : Pgs pg) n kind : bH Tryz.prog W0 208 [.pointer (some ⟨b, 0, none⟩), .int .i64 n, .int .i64 kind] (pt b (dN pg) :: R)
    (fun v B => v = .int .i64 (e6 pg n kind) ∧ B = pt b (dN pg) :: R) := by
 refine kS func208 ntmps208 rfl rfl ?_;refine aQ (aY (ac rfl (bj rfl) (aP (aH (aQ (aY (ac rfl (aM rfl) (ac rfl (aM rfl) (aG rfl (iZ sB rfl (qC b pg h n)) ?_)))))))));rintro _ o ⟨rfl, l⟩;obtain rfl := l.symm;refine ac rfl (aM rfl) (ac rfl (lK rfl rfl) (ac rfl (lK rfl rfl) (aG rfl (dQ Cj) ?_)));rintro _ _ ⟨p, rfl, rfl⟩;refine eU (fM pZ rfl rfl rfl rfl rfl) ?_;rintro _ _ rfl;refine ac rfl (bj rfl) (aP (aH (aQ (aQ (aY (ac rfl (aM rfl) (ac rfl (qk rfl) (aP (aH ?_)))))))));refine aD rfl (fun m => ?_) fun m => ?_;refine aQ ?_;refine aY (ac rfl (bj rfl) (aP (aH (dv (gQ (bK (.inl rfl) (.cons (aN rfl) .nil) ?_))))));refine ⟨_, ⟨?_, rfl⟩, IO⟩;have e : aW pg n = false := by simpa using m
 simp [aO, e6, e];have e : aW pg n = true := by simpa using m
 have q := ol.1 (uv h e);have a : bJ pg n = eh pg n.toNat := by simp [bJ, e]
 refine ii (aH (aQ (aQ (aY (ac rfl (aM rfl) (ac rfl (i5 rfl rfl) (ac rfl (aM rfl) ?_)))))));refine i6 rfl rfl rfl (fun j => ?_) fun j => ?_;refine ac rfl (aM rfl) ?_;refine cz rfl rfl (ac rfl (nt rfl rfl) (ac rfl (jO rfl rfl) (ac rfl (aM rfl) ?_)));refine dj rfl rfl rfl (fun k => ?_) fun k => ?_;refine eN rfl rfl rfl rfl ?_;refine eN rfl rfl rfl rfl (nr rfl rfl rfl (nr rfl rfl rfl (nr rfl rfl rfl (nr rfl rfl rfl (eN rfl rfl rfl rfl (ac rfl (jO rfl rfl) (ac rfl (aM rfl) (eN rfl rfl rfl rfl (eN rfl rfl rfl rfl (eN rfl rfl rfl rfl (nr rfl rfl rfl (nr rfl rfl rfl (nr rfl rfl rfl (eN rfl rfl rfl rfl (ac rfl (jO rfl rfl) (aP (aH (xl rfl (aQ (aY (ac rfl (bj rfl) (aP (aH ?_)))))))))))))))))))))));refine dv (gQ (bK (.inl rfl) (.cons (aN rfl) .nil) ?_));refine ⟨_, ⟨?_, rfl⟩, IO⟩;have d : fj n (eh pg n.toNat) kind = true := by
  rw [← a]; simp only [fj, Qai];simp only [Qan (show 0 ≤ (bJ pg n).2 by omega)] at *;omega
 simp [aO, e6, e, d];refine ac rfl (aM rfl) (cz rfl rfl (ac rfl (i5 rfl rfl) (cz rfl rfl (ac rfl (aM rfl) ?_))));refine i6 rfl rfl rfl (fun f => ?_) fun f => ?_;refine ac rfl (cD rfl su rfl aR rfl (by first | exact Qac _ | rfl)) ?_;refine cz rfl rfl (ac rfl (cg db rfl (aJ rfl)) ?_);refine cz rfl rfl ?_;refine ac rfl (dV rfl rfl (by decide) rfl) ?_;refine cz rfl rfl (ac rfl (i5 rfl rfl) (cz rfl rfl (ac rfl (jO rfl rfl) (ac rfl (fp rfl rfl) (ac rfl (aM rfl) ?_)))));refine dj rfl rfl rfl (fun g => ?_) fun g => ?_;refine eN rfl rfl rfl rfl ?_;refine eN rfl rfl rfl rfl (nr rfl rfl rfl (nr rfl rfl rfl (nr rfl rfl rfl (eN rfl rfl rfl rfl (ac rfl (jO rfl rfl) (aP (aH (xl rfl (aQ (aY (ac rfl (bj rfl) (aP (aH (dv (gQ (bK (.inl rfl) (.cons (aN rfl) .nil) ?_))))))))))))))));refine ⟨_, ⟨?_, rfl⟩, IO⟩;have d : fj n (eh pg n.toNat) kind = true := by
  rw [← a]; simp only [fj, Qai];simp only [Qan (show 0 ≤ (bJ pg n).2 by omega)] at *;omega
 simp [aO, e6, e, d];refine ac rfl (aM rfl) (cz rfl rfl (ac rfl (i5 rfl rfl) (cz rfl rfl (ac rfl (aM rfl) ?_))));refine i6 rfl rfl rfl (fun c => ?_) fun c => ?_;refine ac rfl (cD rfl su rfl aR rfl (by first | exact Qac _ | rfl)) ?_;refine cz rfl rfl (ac rfl (cg db rfl (aJ rfl)) ?_);refine cz rfl rfl (ac rfl (sG rfl rfl) (cz rfl rfl (ac rfl (jO rfl rfl) (ac rfl (fp rfl rfl) (aP (aH ?_))))));refine aD rfl (fun i => ?_) fun i => ?_;refine aQ ?_;refine aY (ac rfl (bj rfl) (aP (aH (dv (gQ (bK (.inl rfl) (.cons (aN rfl) .nil) ?_))))));refine ⟨_, ⟨?_, rfl⟩, IO⟩;have d : fj n (eh pg n.toNat) kind = true := by
  rw [← a]; simp only [fj, Qai];simp only [Qan (show 0 ≤ (bJ pg n).2 by omega)] at *;omega
 simp [aO, e6, e, d];refine ii (aH (aQ (aY (ac rfl (bj rfl) (aP (aH (dv (bK (.inl rfl) (.cons (aN rfl) .nil) ?_))))))));refine ⟨_, ⟨?_, rfl⟩, IO⟩;have d : fj n (eh pg n.toNat) kind = false := by
  rw [← a, ← Qat]; simp only [fj, Qai];simp only [Qan (show 0 ≤ (bJ pg n).2 by omega)] at *;omega
 simp [aO, e6, e, d];refine eN rfl rfl rfl rfl (eN rfl rfl rfl rfl (cz rfl rfl (ac rfl (fp rfl rfl) (ac rfl (fp rfl rfl) (aP (aH (xm rfl (ii (aH (aQ (aY (ac rfl (bj rfl) (aP (aH (dv (bK (.inl rfl) (.cons (aN rfl) .nil) ?_))))))))))))))));refine ⟨_, ⟨?_, rfl⟩, IO⟩;have d : fj n (eh pg n.toNat) kind = false := by
  rw [← a, ← Qat]; simp only [fj, Qai];simp only [Qan (show 0 ≤ (bJ pg n).2 by omega)] at *;omega
 simp [aO, e6, e, d];refine eN rfl rfl rfl rfl (eN rfl rfl rfl rfl (eN rfl rfl rfl rfl (cz rfl rfl (ac rfl (fp rfl rfl) (ac rfl (fp rfl rfl) (ac rfl (aM rfl) (cz rfl rfl (ac rfl (aM rfl) (cz rfl rfl (ac rfl (i5 rfl rfl) (cz rfl rfl (ac rfl (aM rfl) ?_))))))))))));refine i6 rfl rfl rfl (fun c => ?_) fun c => ?_;refine ac rfl (cD rfl su rfl aR rfl (by first | exact Qac _ | rfl)) ?_;refine cz rfl rfl (ac rfl (cg db rfl (aJ rfl)) ?_);refine cz rfl rfl (ac rfl (sG rfl rfl) (cz rfl rfl (ac rfl (jO rfl rfl) (ac rfl (fp rfl rfl) (aP (aH ?_))))));refine aD rfl (fun i => ?_) fun i => ?_;refine aQ ?_;refine aY (ac rfl (bj rfl) (aP (aH (dv (gQ (bK (.inl rfl) (.cons (aN rfl) .nil) ?_))))));refine ⟨_, ⟨?_, rfl⟩, IO⟩;have d : fj n (eh pg n.toNat) kind = true := by
  rw [← a]; simp only [fj, Qai];simp only [Qan (show 0 ≤ (bJ pg n).2 by omega)] at *;omega
 simp [aO, e6, e, d];refine ii (aH (aQ (aY (ac rfl (bj rfl) (aP (aH (dv (bK (.inl rfl) (.cons (aN rfl) .nil) ?_))))))));refine ⟨_, ⟨?_, rfl⟩, IO⟩;have d : fj n (eh pg n.toNat) kind = false := by
  rw [← a, ← Qat]; simp only [fj, Qai];simp only [Qan (show 0 ≤ (bJ pg n).2 by omega)] at *;omega
 simp [aO, e6, e, d];refine eN rfl rfl rfl rfl (eN rfl rfl rfl rfl (cz rfl rfl (ac rfl (fp rfl rfl) (ac rfl (fp rfl rfl) (aP (aH (xm rfl (ii (aH (aQ (aY (ac rfl (bj rfl) (aP (aH (dv (bK (.inl rfl) (.cons (aN rfl) .nil) ?_))))))))))))))));refine ⟨_, ⟨?_, rfl⟩, IO⟩;have d : fj n (eh pg n.toNat) kind = false := by
  rw [← a, ← Qat]; simp only [fj, Qai];simp only [Qan (show 0 ≤ (bJ pg n).2 by omega)] at *;omega
 simp [aO, e6, e, d];refine eN rfl rfl rfl rfl (ac rfl (fp rfl rfl) (ac rfl (aM rfl) (cz rfl rfl (ac rfl (aM rfl) (cz rfl rfl (ac rfl (i5 rfl rfl) (cz rfl rfl (ac rfl (aM rfl) ?_))))))));refine i6 rfl rfl rfl (fun f => ?_) fun f => ?_;refine ac rfl (cD rfl su rfl aR rfl (by first | exact Qac _ | rfl)) ?_;refine cz rfl rfl (ac rfl (cg db rfl (aJ rfl)) ?_);refine cz rfl rfl ?_;refine ac rfl (dV rfl rfl (by decide) rfl) ?_;refine cz rfl rfl (ac rfl (i5 rfl rfl) (cz rfl rfl (ac rfl (jO rfl rfl) (ac rfl (fp rfl rfl) (ac rfl (aM rfl) ?_)))));refine dj rfl rfl rfl (fun g => ?_) fun g => ?_;refine eN rfl rfl rfl rfl ?_;refine eN rfl rfl rfl rfl (nr rfl rfl rfl (nr rfl rfl rfl (nr rfl rfl rfl (eN rfl rfl rfl rfl (ac rfl (jO rfl rfl) (aP (aH (xl rfl (aQ (aY (ac rfl (bj rfl) (aP (aH (dv (gQ (bK (.inl rfl) (.cons (aN rfl) .nil) ?_))))))))))))))));refine ⟨_, ⟨?_, rfl⟩, IO⟩;have d : fj n (eh pg n.toNat) kind = true := by
  rw [← a]; simp only [fj, Qai];simp only [Qan (show 0 ≤ (bJ pg n).2 by omega)] at *;omega
 simp [aO, e6, e, d];refine ac rfl (aM rfl) (cz rfl rfl (ac rfl (i5 rfl rfl) (cz rfl rfl (ac rfl (aM rfl) ?_))));refine i6 rfl rfl rfl (fun c => ?_) fun c => ?_;refine ac rfl (cD rfl su rfl aR rfl (by first | exact Qac _ | rfl)) ?_;refine cz rfl rfl (ac rfl (cg db rfl (aJ rfl)) ?_);refine cz rfl rfl (ac rfl (sG rfl rfl) (cz rfl rfl (ac rfl (jO rfl rfl) (ac rfl (fp rfl rfl) (aP (aH ?_))))));refine aD rfl (fun i => ?_) fun i => ?_;refine aQ ?_;refine aY (ac rfl (bj rfl) (aP (aH (dv (gQ (bK (.inl rfl) (.cons (aN rfl) .nil) ?_))))));refine ⟨_, ⟨?_, rfl⟩, IO⟩;have d : fj n (eh pg n.toNat) kind = true := by
  rw [← a]; simp only [fj, Qai];simp only [Qan (show 0 ≤ (bJ pg n).2 by omega)] at *;omega
 simp [aO, e6, e, d];refine ii (aH (aQ (aY (ac rfl (bj rfl) (aP (aH (dv (bK (.inl rfl) (.cons (aN rfl) .nil) ?_))))))));refine ⟨_, ⟨?_, rfl⟩, IO⟩;have d : fj n (eh pg n.toNat) kind = false := by
  rw [← a, ← Qat]; simp only [fj, Qai];simp only [Qan (show 0 ≤ (bJ pg n).2 by omega)] at *;omega
 simp [aO, e6, e, d];refine eN rfl rfl rfl rfl (eN rfl rfl rfl rfl (cz rfl rfl (ac rfl (fp rfl rfl) (ac rfl (fp rfl rfl) (aP (aH (xm rfl (ii (aH (aQ (aY (ac rfl (bj rfl) (aP (aH (dv (bK (.inl rfl) (.cons (aN rfl) .nil) ?_))))))))))))))));refine ⟨_, ⟨?_, rfl⟩, IO⟩;have d : fj n (eh pg n.toNat) kind = false := by
  rw [← a, ← Qat]; simp only [fj, Qai];simp only [Qan (show 0 ≤ (bJ pg n).2 by omega)] at *;omega
 simp [aO, e6, e, d];refine eN rfl rfl rfl rfl (eN rfl rfl rfl rfl (eN rfl rfl rfl rfl (cz rfl rfl (ac rfl (fp rfl rfl) (ac rfl (fp rfl rfl) (ac rfl (aM rfl) (cz rfl rfl (ac rfl (aM rfl) (cz rfl rfl (ac rfl (i5 rfl rfl) (cz rfl rfl (ac rfl (aM rfl) ?_))))))))))));refine i6 rfl rfl rfl (fun c => ?_) fun c => ?_;refine ac rfl (cD rfl su rfl aR rfl (by first | exact Qac _ | rfl)) ?_;refine cz rfl rfl (ac rfl (cg db rfl (aJ rfl)) ?_);refine cz rfl rfl (ac rfl (sG rfl rfl) (cz rfl rfl (ac rfl (jO rfl rfl) (ac rfl (fp rfl rfl) (aP (aH ?_))))));refine aD rfl (fun i => ?_) fun i => ?_;refine aQ ?_;refine aY (ac rfl (bj rfl) (aP (aH (dv (gQ (bK (.inl rfl) (.cons (aN rfl) .nil) ?_))))));refine ⟨_, ⟨?_, rfl⟩, IO⟩;have d : fj n (eh pg n.toNat) kind = true := by
  rw [← a]; simp only [fj, Qai];simp only [Qan (show 0 ≤ (bJ pg n).2 by omega)] at *;omega
 simp [aO, e6, e, d];refine ii (aH (aQ (aY (ac rfl (bj rfl) (aP (aH (dv (bK (.inl rfl) (.cons (aN rfl) .nil) ?_))))))));refine ⟨_, ⟨?_, rfl⟩, IO⟩;have d : fj n (eh pg n.toNat) kind = false := by
  rw [← a, ← Qat]; simp only [fj, Qai];simp only [Qan (show 0 ≤ (bJ pg n).2 by omega)] at *;omega
 simp [aO, e6, e, d];refine eN rfl rfl rfl rfl (eN rfl rfl rfl rfl (cz rfl rfl (ac rfl (fp rfl rfl) (ac rfl (fp rfl rfl) (aP (aH (xm rfl (ii (aH (aQ (aY (ac rfl (bj rfl) (aP (aH (dv (bK (.inl rfl) (.cons (aN rfl) .nil) ?_))))))))))))))));refine ⟨_, ⟨?_, rfl⟩, IO⟩;have d : fj n (eh pg n.toNat) kind = false := by
  rw [← a, ← Qat]; simp only [fj, Qai];simp only [Qan (show 0 ≤ (bJ pg n).2 by omega)] at *;omega
 simp [aO, e6, e, d]
theorem rL {n f} : ez n f = true ↔ 0 ≤ f ∧ f < n := by simp [ez]
def vO (d : Nat) : List Value := (List.range 12).map (fun i => .bool (Nat.testBit d i))
abbrev g8 (qs qm d : Nat) : Obj := ag (.pointer (some ⟨qs, 0, none⟩) :: .pointer (some ⟨qm, 0, none⟩) :: vO d) 126
theorem Ae qv qs qm d fr pg (h : Pgs pg) (pa : Nat) (r : pa < 4294967296) w kind : sQ W0 145 [pQ qv, .int .u32 pa, iQ w, iQ kind] (pt qv (g8 qs qm d) :: cH qs fr :: pt qm (dN pg) :: R) (.tuple #[.agg (i7 fr.length pg pa w kind).toArray, iQ (d5 fr.length pg pa w kind)]) (pt qv (g8 qs qm d) :: cH qs fr :: pt qm (dN pg) :: R) := by
 refine am func145 ntmps145 ?_;refine bi fun t => ?_;refine ci (fun i => ?_) fun i => ?_;refine ci (fun j => ?_) fun j => ?_;refine cv (fun g => ?_) fun g => ?_;refine av aB ?_;refine aS (.cons (aX dS dG rfl rfl) (.cons (aN rfl) .nil)) ?_;refine aI ?_;have f : eE pa w = false := by
  grind [eE]
 have a : d5 fr.length pg pa w kind = 1 := by simp [d5, f]
 simp [aO, i7, a];refine aa (bD (cZ (by omega))) ?_;refine aa (dV rfl rfl (by omega) (Qan (by omega))) ?_;refine ai (fun k => ?_) fun k => ?_;refine av aB ?_;refine aS (.cons (aX dS dG rfl rfl) (.cons (aN rfl) .nil)) ?_;refine aI ?_;have f : eE pa w = false := by
  grind [eE]
 have a : d5 fr.length pg pa w kind = 1 := by simp [d5, f]
 simp [aO, i7, a];have f : eE pa w = true := by
  grind [eE]
 refine ai (fun l => ?_) fun l => ?_;refine av aB ?_;refine aS (.cons (aX dS dG rfl rfl) (.cons (aN rfl) .nil)) ?_;refine aI ?_;have a : d5 fr.length pg pa w kind = 2 := by grind [d5]
 simp [aO, i7, a];refine aa (lZ rfl rfl (by decide) ((Qak (IntKind.wrap .u32) (oN pa 64)).trans (cZ (by omega)))) ?_;refine aa (bD (bS (by omega))) ?_;refine ah (ao NL (Dz qm pg h ((pa / 64 : Nat) : Int) kind)) ?_;refine ai (fun m => ?_) fun m => ?_;refine av aB ?_;refine aS (.cons (aX dS dG rfl rfl) (.cons (aN rfl) .nil)) ?_;refine aI ?_;have a : d5 fr.length pg pa w kind = e6 pg ((pa / 64 : Nat) : Int) kind := by grind [d5]
 rw [i7, Qab (by omega), a]; rfl;have p : e6 pg ((pa / 64 : Nat) : Int) kind = 0 := by omega
 have b : aW pg ((pa / 64 : Nat) : Int) = true := by
  grind [e6]
 have q := ol.1 (uv h b);refine ah (ao sB (qC qm pg h ((pa / 64 : Nat) : Int))) ?_;refine bi fun n => ?_;refine av aB ?_;refine bc [n, qv] 8 fun c => ?_;refine aj 0 6 c ?_;refine bG 6 (ao qd (oQ qs fr _)) fun c => ?_;refine aj 7 1 c ?_;refine aK ?_;refine ai (fun e => ?_) fun e => ?_;refine av aB ?_;refine aS (.cons (aX dS dG rfl rfl) (.cons (aN rfl) .nil)) ?_;refine aI ?_;have o : ¬ (bJ pg ((pa / 64 : Nat) : Int)).1 < fr.length := by
  grind [rL]
 have a : d5 fr.length pg pa w kind = 7 := by grind [d5]
 simp [aO, i7, a];refine aa (dV rfl rfl (by decide) (io pa 64)) ?_;refine aa (bD (bS (by omega))) ?_;refine av aB ?_;refine aS (.cons (aX dS dG rfl rfl) (.cons (aN rfl) .nil)) ?_;refine aI ?_;have o : (bJ pg ((pa / 64 : Nat) : Int)).1 < fr.length := by
  grind [rL]
 have a : d5 fr.length pg pa w kind = 0 := by grind [d5]
 simp [aO, i7, a];refine aa (bD (cZ (by omega))) ?_;refine aa (dV rfl rfl (by omega) (Qan (by omega))) ?_;refine ai (fun k => ?_) fun k => ?_;refine av aB ?_;refine aS (.cons (aX dS dG rfl rfl) (.cons (aN rfl) .nil)) ?_;refine aI ?_;have f : eE pa w = false := by
  grind [eE]
 have a : d5 fr.length pg pa w kind = 1 := by simp [d5, f]
 simp [aO, i7, a];have f : eE pa w = true := by
  grind [eE]
 refine ai (fun l => ?_) fun l => ?_;refine av aB ?_;refine aS (.cons (aX dS dG rfl rfl) (.cons (aN rfl) .nil)) ?_;refine aI ?_;have a : d5 fr.length pg pa w kind = 2 := by grind [d5]
 simp [aO, i7, a];refine aa (lZ rfl rfl (by decide) ((Qak (IntKind.wrap .u32) (oN pa 64)).trans (cZ (by omega)))) ?_;refine aa (bD (bS (by omega))) ?_;refine ah (ao NL (Dz qm pg h ((pa / 64 : Nat) : Int) kind)) ?_;refine ai (fun m => ?_) fun m => ?_;refine av aB ?_;refine aS (.cons (aX dS dG rfl rfl) (.cons (aN rfl) .nil)) ?_;refine aI ?_;have a : d5 fr.length pg pa w kind = e6 pg ((pa / 64 : Nat) : Int) kind := by grind [d5]
 rw [i7, Qab (by omega), a]; rfl;have p : e6 pg ((pa / 64 : Nat) : Int) kind = 0 := by omega
 have b : aW pg ((pa / 64 : Nat) : Int) = true := by
  grind [e6]
 have q := ol.1 (uv h b);refine ah (ao sB (qC qm pg h ((pa / 64 : Nat) : Int))) ?_;refine bi fun n => ?_;refine av aB ?_;refine bc [n, qv] 8 fun c => ?_;refine aj 0 6 c ?_;refine bG 6 (ao qd (oQ qs fr _)) fun c => ?_;refine aj 7 1 c ?_;refine aK ?_;refine ai (fun e => ?_) fun e => ?_;refine av aB ?_;refine aS (.cons (aX dS dG rfl rfl) (.cons (aN rfl) .nil)) ?_;refine aI ?_;have o : ¬ (bJ pg ((pa / 64 : Nat) : Int)).1 < fr.length := by
  grind [rL]
 have a : d5 fr.length pg pa w kind = 7 := by grind [d5]
 simp [aO, i7, a];refine aa (dV rfl rfl (by decide) (io pa 64)) ?_;refine aa (bD (bS (by omega))) ?_;refine av aB ?_;refine aS (.cons (aX dS dG rfl rfl) (.cons (aN rfl) .nil)) ?_;refine aI ?_;have o : (bJ pg ((pa / 64 : Nat) : Int)).1 < fr.length := by
  grind [rL]
 have a : d5 fr.length pg pa w kind = 0 := by grind [d5]
 simp [aO, i7, a];refine aa (bD (cZ (by omega))) ?_;refine aa (dV rfl rfl (by omega) (Qan (by omega))) ?_;refine ai (fun k => ?_) fun k => ?_;refine av aB ?_;refine aS (.cons (aX dS dG rfl rfl) (.cons (aN rfl) .nil)) ?_;refine aI ?_;have f : eE pa w = false := by
  rw [← Qat]; simp only [eE, Qai];rintro ⟨s, u⟩
  first
    | omega
    | (rcases s with rfl | rfl | rfl <;> omega)
 have a : d5 fr.length pg pa w kind = 1 := by simp [d5, f]
 simp [aO, i7, a];have f : eE pa w = true := by
  grind [eE]
 refine ai (fun l => ?_) fun l => ?_;refine av aB ?_;refine aS (.cons (aX dS dG rfl rfl) (.cons (aN rfl) .nil)) ?_;refine aI ?_;have a : d5 fr.length pg pa w kind = 2 := by grind [d5]
 simp [aO, i7, a];refine aa (lZ rfl rfl (by decide) ((Qak (IntKind.wrap .u32) (oN pa 64)).trans (cZ (by omega)))) ?_;refine aa (bD (bS (by omega))) ?_;refine ah (ao NL (Dz qm pg h ((pa / 64 : Nat) : Int) kind)) ?_;refine ai (fun m => ?_) fun m => ?_;refine av aB ?_;refine aS (.cons (aX dS dG rfl rfl) (.cons (aN rfl) .nil)) ?_;refine aI ?_;have a : d5 fr.length pg pa w kind = e6 pg ((pa / 64 : Nat) : Int) kind := by grind [d5]
 rw [i7, Qab (by omega), a]; rfl;have p : e6 pg ((pa / 64 : Nat) : Int) kind = 0 := by omega
 have b : aW pg ((pa / 64 : Nat) : Int) = true := by
  grind [e6]
 have q := ol.1 (uv h b);refine ah (ao sB (qC qm pg h ((pa / 64 : Nat) : Int))) ?_;refine bi fun n => ?_;refine av aB ?_;refine bc [n, qv] 8 fun c => ?_;refine aj 0 6 c ?_;refine bG 6 (ao qd (oQ qs fr _)) fun c => ?_;refine aj 7 1 c ?_;refine aK ?_;refine ai (fun e => ?_) fun e => ?_;refine av aB ?_;refine aS (.cons (aX dS dG rfl rfl) (.cons (aN rfl) .nil)) ?_;refine aI ?_;have o : ¬ (bJ pg ((pa / 64 : Nat) : Int)).1 < fr.length := by
  grind [rL]
 have a : d5 fr.length pg pa w kind = 7 := by grind [d5]
 simp [aO, i7, a];refine aa (dV rfl rfl (by decide) (io pa 64)) ?_;refine aa (bD (bS (by omega))) ?_;refine av aB ?_;refine aS (.cons (aX dS dG rfl rfl) (.cons (aN rfl) .nil)) ?_;refine aI ?_;have o : (bJ pg ((pa / 64 : Nat) : Int)).1 < fr.length := by
  grind [rL]
 have a : d5 fr.length pg pa w kind = 0 := by grind [d5]
 simp [aO, i7, a]
theorem WW {a b d n} (h : n < 12) : (a :: b :: vO d).set (2 + n * 1) (.bool true) = a :: b :: vO (d ||| 2 ^ n) := by
 rw [show 2 + n * 1 = n + 1 + 1 by omega, Qck, Qck];congr 2;apply QaS;simp [vO];grind [vO]
theorem WX qv qs qm d fr pg (h : Pgs pg) (g : cC fr) (pa : Nat) (c : pa < 4294967296) w (x : Nat) (i : x < 4294967296) : sQ W0 66 [pQ qv, .int .u32 pa, iQ w, .int .u32 x] (pt qv (g8 qs qm d) :: cH qs fr :: pt qm (dN pg) :: R) (iQ (d5 fr.length pg pa w 2)) (pt qv (g8 qs qm (pN fr pg pa w d)) :: cH qs (kU fr pg pa w x) :: pt qm (dN pg) :: R) := by
 by_cases a : d5 fr.length pg pa w 2 = 0;obtain ⟨k, l, j⟩ := xE a;rw [pN, Qad a, kU, Qad a];refine am func66 ntmps66 ?_;refine ah (cK Gt (Ae qv qs qm d fr pg h pa c w 2)) ?_;rw [j, a];refine bi fun f => ?_;refine jb 10 aB ?_;refine ai (fun e => ?_) fun e => ?_;refine bc [qv, f] 11 fun b => ?_;refine aj 0 10 b ?_;refine bG 10 (ao Cq (xG qs fr _ _ w x i g)) fun b => ?_;refine aK ?_;refine bc [f] 7 fun b => ?_;refine aj 0 5 b ?_;refine az 5 b (eL (by omega)) ?_;refine cj 6 (du (by simp [vO]; omega) (WW (by omega))) fun b => ?_;refine aK ?_;exact ae ap;exact absurd rfl e;rw [pN, Qab a, kU, Qab a];refine am func66 ntmps66 ?_;refine ah (cK Gt (Ae qv qs qm d fr pg h pa c w 2)) ?_;rw [i7, Qab a];refine bi fun f => ?_;refine av aB ?_;refine ai (fun e => ?_) fun e => ?_;exact absurd e a;exact ae ap
def jc (pa n at_ : Nat) : Nat := min (n - at_) (64 - (pa + at_) % 64)
theorem Ix {pa n at_} (h : at_ < n) : 0 < jc pa n at_ ∧ at_ + jc pa n at_ ≤ n := by unfold jc; omega
def DC (pa n at_ : Nat) : List Value := [.int .i64 ((pa + at_) / 64 : Nat), .int .i64 ((pa + at_) % 64 : Nat), .int .i64 (at_ : Nat), .int .i64 (jc pa n at_ : Nat)]
theorem WY W0 bn bp pa n L (hpa : pa ≤ 100000) (hn : n ≤ 100000) (C : Nat → List HP) (I : Nat → Prop) (h0 : I 0) (Stop : List HP → Prop) (hr : ∀ at_ R, at_ < n → I at_ → qx Tryz.prog W0 L [.agg (DC pa n at_).toArray] (C at_ ++ R) (fun v B => ∃ b B', v = .bool b ∧ B = B' ++ R ∧ ((b = true ∧ I (at_ + jc pa n at_) ∧ B' = C (at_ + jc pa n at_)) ∨ (b = false ∧ Stop B')))) : sP W0 451 [.func (.yield L) #[] #[], pQ bn, pQ bp] (pt bn (ag [iQ n] 3) :: pt bp (ag [iQ pa] 3) :: C 0) (fun v B => v = .tuple #[] ∧ ((I n ∧ B = C n) ∨ Stop B)) := by
 refine am func451 ntmps451 ?_;refine d7 (fun i : Nat => i ≤ n ∧ I i) (fun i => [(0, .func (.yield L) #[] #[]), (1, pQ bn), (2, pQ bp), (4, iQ i)]) (fun i => pt bn (ag [iQ n] 3) :: pt bp (ag [iQ pa] 3) :: C i) (fun i => n - i) 0 ?_ ?_;grind;intro i ⟨l, f⟩;refine aw ?_;refine ai (fun k => ?_) fun k => ?_;have g := Ix (pa := pa) (n := n) (at_ := i) (by omega);refine aa (ee (pa + i)) ?_;refine aa (lZ rfl rfl (by decide) ((Qak (IntKind.wrap .i64) (oN (pa + i) 64)).trans (bS (by omega)))) ?_;refine aa (ee (pa + i)) ?_;refine aa (dV rfl rfl (by decide) (io (pa + i) 64)) ?_;refine bi fun m => ?_;refine av aB ?_;refine aa (o8 (n - i)) ?_;refine aa (o8 (64 - (pa + i) % 64)) ?_;refine aa (sT rfl rfl (by unfold jc; split <;> omega : (if ((64 - (pa + i) % 64 : Nat) : Int) < ((n - i : Nat) : Int) then ((64 - (pa + i) % 64 : Nat) : Int) else ((n - i : Nat) : Int)) = ((jc pa n i : Nat) : Int))) ?_;refine jb 7 eg ?_;refine D9 rfl rfl rfl (Dd (QaY (l₁ := [_, _, _])) (hr i [_, _, _] (by omega) f)) ?_;rintro _ o ⟨b, B', rfl, a, j⟩;obtain rfl := a.symm;refine pF QaY ?_;simp only [Qay, Qax];refine aw ?_;refine aD rfl (fun c => ?_) fun c => ?_;have d : Stop B' := by
  rcases j with h | h;exact absurd c (by rw [h.1]; decide);exact h.2
 refine aw ?_;refine bK (.inl rfl) .nil ?_;exact ⟨_, ⟨rfl, .inr d⟩, IO⟩;have d : I (i + jc pa n i) ∧ B' = C (i + jc pa n i) := by
  rcases j with h | h;exact h.2;exact absurd (by rw [h.1]; decide) c
 obtain ⟨e, rfl⟩ := d;refine aw ?_;refine aa (ee (i + jc pa n i)) ?_;exact bM (i + jc pa n i) (⟨by omega, e⟩);refine bK (.inr rfl) .nil ?_;have : i = n := by omega
 subst this;exact ⟨_, ⟨rfl, .inl ⟨f, rfl⟩⟩, IO⟩
theorem Iy (pa n : Nat) : sP W0 446 [iQ pa, iQ n] R (fun v B => ∃ a b, v = .func (.func 451) #[] #[pQ a, pQ b] ∧ B = pt a (ag [iQ n] 3) :: pt b (ag [iQ pa] 3) :: R) := by
 refine am func446 ntmps446 ?_;refine dK (jQ rfl rfl) fun c => ?_;refine dK (jQ rfl rfl) fun d => ?_;refine ae ?_;exact ⟨_, ⟨d, c, rfl, rfl⟩, IO⟩
theorem Iz {W0 A e n' L D bn bp ps asg body} {o b : List HP → Prop} (pa n : Nat) (C : Nat → List HP) (I : Nat → Prop) (h : pa ≤ 100000) (q : n ≤ 100000)
    (r : A.Perm (pt bn (ag [iQ n] 3) :: pt bp (ag [iQ pa] 3) :: C 0)) (s : I 0) (j : I n → o (C n))
    (t : ∀ a R, a < n → I a → qx Tryz.prog W0 L [.agg (DC pa n a).toArray] (dT L ⟨e, n', ps, asg, body, .ready, none, D⟩ :: pt D (.deferred (some [])) :: (C a ++ R))
      (fun v B => (v = .bool true ∧ I (a + jc pa n a) ∧ B = dT L ⟨e, n', ps, asg, body, .ready, none, D⟩ :: pt D (.deferred (some [])) :: (C (a + jc pa n a) ++ R)) ∨
        (v = .bool false ∧ ∃ c, b c ∧ B = dT L ⟨e, n', ps, asg, body, .done, some .ret, D⟩ :: pt D (.deferred (some [])) :: (c ++ R)))) :
    bH Tryz.prog W0 451 (.func (.yield L) #[] #[] :: [pQ bn, pQ bp]) (dT L ⟨e, n', ps, asg, body, .ready, none, D⟩ :: pt D (.deferred (some [])) :: A)
      (fun _ B => (∃ C, B = dT L ⟨e, n', ps, asg, body, .ready, none, D⟩ :: pt D (.deferred (some [])) :: C ∧ o C) ∨ (∃ C, B = dT L ⟨e, n', ps, asg, body, .done, some .ret, D⟩ :: pt D (.deferred (some [])) :: C ∧ b C)) := by
 have d : (dT L ⟨e, n', ps, asg, body, .ready, none, D⟩ :: pt D (.deferred (some [])) :: A).Perm (pt bn (ag [iQ n] 3) :: pt bp (ag [iQ pa] 3) :: (dT L ⟨e, n', ps, asg, body, .ready, none, D⟩ :: pt D (.deferred (some [])) :: C 0)) := by
  refine ((r.cons _).cons _).trans ?_;exact (((List.Perm.swap _ _ _).trans ((List.Perm.swap _ _ _).cons _)).cons _).trans ((List.Perm.swap _ _ _).trans ((List.Perm.swap _ _ _).cons _)) |>.trans (QaO _)
 refine nv d (iH (WY W0 bn bp pa n L h q (fun i => dT L ⟨e, n', ps, asg, body, .ready, none, D⟩ :: pt D (.deferred (some [])) :: C i) I s
   (fun B => ∃ c, b c ∧ B = dT L ⟨e, n', ps, asg, body, .done, some .ret, D⟩ :: pt D (.deferred (some [])) :: c) fun a R k l w u => ?_) ?_)
 obtain ⟨f, g, m, x, y, z⟩ := t a R k l w u;refine ⟨f, g, m, x, y, RoundIn.mono z ?_⟩;rintro _ H ⟨v, B, rfl, E, F⟩;rcases E with ⟨rfl, G, rfl⟩ | ⟨rfl, c, p, rfl⟩;grind;grind;rintro v B ⟨_, ⟨l, rfl⟩ | ⟨c, p, rfl⟩⟩;exact ⟨_, .inl ⟨_, rfl, j l⟩, ent_refl⟩;exact ⟨_, .inr ⟨_, rfl, p⟩, ent_refl⟩
def j4 (a : Nat) : Int := ((a / 64 : Nat) : Int)
def oR (len : Nat) (pg : List Pl) (pa n : Nat) : Prop := ∀ i, i < n → jE len pg (j4 (pa + i)) = true
instance {len : Nat} {pg : List Pl} {pa n : Nat} : Decidable (oR len pg pa n) := by unfold oR; exact Nat.decidableBallLT n _
def jd (len : Nat) (pg : List Pl) (pa : Nat) (n : Int) : Bool := decide (0 ≤ n ∧ pa ≤ 512 ∧ n ≤ 512 - (pa : Int)) && decide (oR len pg pa n.toNat)
theorem rM {len pg pa n} : jd len pg pa n = true ↔ (0 ≤ n ∧ pa ≤ 512 ∧ n ≤ 512 - pa) ∧ oR len pg pa n.toNat := by simp [jd]
theorem ux {len pg} {pa n : Nat} : jd len pg pa n = true ↔ pa + n ≤ 512 ∧ oR len pg pa n := by
 grind [rM]
theorem WZ {pa n at_ i} (b : at_ ≤ i) (a : i < at_ + jc pa n at_) : (pa + i) / 64 = (pa + at_) / 64 := by unfold jc at a; omega
theorem IA {pa n at_ k} (a : k < jc pa n at_) : (pa + (at_ + k)) / 64 = (pa + at_) / 64 ∧ (pa + (at_ + k)) % 64 = (pa + at_) % 64 + k := by unfold jc at a; omega
theorem IB pv ps pm d fr pg (h : Pgs pg) (pa : Nat) (r : pa < 4294967296) n : sQ W0 438 [pQ pv, .int .u32 pa, iQ n] (pt pv (cB ps pm d) :: bB ps fr :: pt pm (bN pg) :: R) (.bool (jd fr.length pg pa n)) (pt pv (cB ps pm d) :: bB ps fr :: pt pm (bN pg) :: R) := by
 refine am func438 ntmps438 ?_;refine dK (jQ rfl rfl) fun j => ?_;refine dK (rB NM rfl) fun l => ?_;refine ew 1 (ao Cp (xD pv ps pm d)) ?_;refine dj rfl rfl rfl (fun c => ?_) fun c => ?_;exact absurd c (by decide);refine aw ?_;refine cv (fun g => ?_) fun g => ?_;refine av eg ?_;refine aS (.cons (xk nj rfl (aJ rfl)) .nil) ?_;refine aI ?_;refine Qak Value.bool (QcW ?_);rw [← Qat, rM]; omega;refine cv (fun e => ?_) fun e => ?_;refine av eg ?_;refine aS (.cons (xk nj rfl (aJ rfl)) .nil) ?_;refine aI ?_;refine Qak Value.bool (QcW ?_);rw [← Qat, rM]; omega;refine aa (bD (by first | exact bS (by omega) | rfl)) ?_;refine aa gW ?_;refine ai (fun s => ?_) fun s => ?_;refine av eg ?_;refine aS (.cons (xk nj rfl (aJ rfl)) .nil) ?_;refine aI ?_;refine Qak Value.bool (QcW ?_);rw [← Qat, rM]; omega;obtain ⟨k, rfl⟩ : ∃ k : Nat, n = (k : Int) := ⟨n.toNat, by omega⟩
 have t : pa + k ≤ 512 := by omega
 refine aa (bD (by first | exact bS (by omega) | rfl)) ?_;refine aG rfl (aC call446 (Iy pa k)) ?_;rintro _ u ⟨A, B, rfl, f⟩;obtain rfl := f.symm;refine au 3 ?_;refine Da (fun C => oR fr.length pg pa k ∧ C = pt pv (cB ps pm d) :: pt l (ag [.bool false] 4) :: pt j (ag [pQ pv] 119) :: bB ps fr :: pt pm (bN pg) :: R) (fun C => ¬ oR fr.length pg pa k ∧ C = pt pv (cB ps pm d) :: pt l (ag [.bool false] 4) :: pt j (ag [pQ pv] 119) :: bB ps fr :: pt pm (bN pg) :: R) rfl call451 ?_ ?_ ?_;intro L D;refine Iz pa k (fun _ => pt pv (cB ps pm d) :: pt l (ag [.bool false] 4) :: pt j (ag [pQ pv] 119) :: bB ps fr :: pt pm (bN pg) :: R) (fun i => oR fr.length pg pa i) (by omega) (by omega) zU (fun i v => by omega) (fun w => ⟨w, rfl⟩) ?_;intro a E x y;simp only [Qay, Qax];refine zZ rfl rfl ?_;refine aY (aG rfl (dQ ND) ?_);rintro _ _ ⟨F, rfl, rfl⟩;refine jb 1 aB ?_;refine zX rfl ?_;refine nq (aQ (aY (ac rfl (cg N2 rfl (aJ rfl)) ?_)));refine ac rfl (cD rfl zp rfl aR rfl (by first | exact Qac _ | rfl)) ?_;refine ac rfl (cg db rfl (aJ rfl)) ?_;refine aG rfl (vz call447 rfl (Io pv ps pm d fr pg h (((pa + a) / 64 : Nat) : Int))) ?_;rintro _ u ⟨rfl, f⟩;obtain rfl := f.symm;refine ac rfl (aM rfl) (ac rfl (lK rfl rfl) (ac rfl (lK rfl rfl) (ac rfl (bj rfl) (ac rfl (bj rfl) (aP (aH (aQ (aY (ac rfl (aM rfl) (ac rfl (qk rfl) (aP (aH ?_))))))))))));refine aD rfl (fun m => ?_) fun m => ?_;refine aQ ?_;refine aY (eU (lL gO rfl rfl rfl (Qaa rfl) SetL.eq) ?_);rintro _ _ rfl;refine aP (aH (dv (my (VP ?_))));have z : ¬ oR fr.length pg pa k := fun q => m (q a x);refine ⟨_, .inr ⟨rfl, _, ⟨z, rfl⟩, rfl⟩, ?_⟩;simp only [Qay];exact IO;refine au 2 ?_;refine zY ?_;have G : jE fr.length pg (j4 (pa + a)) = true := Qbt.1 m;have o : oR fr.length pg pa (a + jc pa k a) := fun i v => by
  rcases QaD i a with q | q;exact y i q;grind [j4, WZ]
 exact ⟨_, .inl ⟨rfl, o, rfl⟩, IO⟩;intro D C p;obtain ⟨b, rfl⟩ := p;refine aw ?_;refine jb 3 eg ?_;refine vB (.inl rfl) (.cons (xk nj rfl (aJ rfl)) .nil) ?_;refine aI ?_;refine Qak Value.bool (QcW ?_);rw [ux]; exact ⟨t, b⟩;intro D C p;obtain ⟨b, rfl⟩ := p;refine au 2 ?_;refine vB (.inl rfl) (.cons (xk nj rfl (aJ rfl)) .nil) ?_;refine aI ?_;refine Qak Value.bool (QcW ?_);rw [← Qat, ux]; exact fun q => b q.2
def nB (pg : List Pl) (a : Nat) : Int := (bJ pg (j4 a)).1
theorem X0 W0 R pv ps pm pg (h : Pgs pg) pa n (hpa : pa + n ≤ 512) (dd : Nat → Nat) (ff : Nat → List aE) (DH : Nat → HP) gf us
    (hcall : ∀ args w, (callFunc gf args).run Tryz.prog w = .ok (.enter gf args) w)
    (hdo : ∀ i, i < n → ∀ R', Ent R' R → bH Tryz.prog W0 gf (iQ (nB pg (pa + i)) :: iQ ((pa + i) % 64 : Nat) :: iQ i :: us) (pt pv (cB ps pm (dd i)) :: bB ps (ff i) :: pt pm (bN pg) :: kH 0 (DH i) :: R')
      (fun v B => v = .tuple #[] ∧ B = pt pv (cB ps pm (dd (i + 1))) :: bB ps (ff (i + 1)) :: pt pm (bN pg) :: kH 0 (DH (i + 1)) :: R')) :
    bH Tryz.prog W0 439 [pQ pv, .int .u32 pa, iQ n, .func (.func gf) #[] us.toArray] (pt pv (cB ps pm (dd 0)) :: bB ps (ff 0) :: pt pm (bN pg) :: kH 0 (DH 0) :: R)
      (fun v B => v = .tuple #[] ∧ B = pt pv (cB ps pm (dd n)) :: bB ps (ff n) :: pt pm (bN pg) :: kH 0 (DH n) :: R) := by
 refine am func439 ntmps439 ?_;refine dK (jQ rfl rfl) fun b1 => ?_;refine dK (jQ rfl rfl) fun b2 => ?_;refine aa (bD (by first | exact bS (by omega) | rfl)) ?_;refine aG rfl (aC call446 (Iy pa n)) ?_;rintro _ B_ ⟨bn, bp, rfl, hB_⟩;obtain rfl := hB_.symm;refine au 3 ?_;refine Da (fun C => C = pt b2 (ag [.func (.func gf) #[] us.toArray] 513) :: pt b1 (ag [pQ pv] 119) :: pt pv (cB ps pm (dd n)) :: bB ps (ff n) :: pt pm (bN pg) :: kH 0 (DH n) :: R) (fun C => False) rfl call451 ?_ ?_ ?_;intro L D;refine Iz pa n (fun i => pt b2 (ag [.func (.func gf) #[] us.toArray] 513) :: pt b1 (ag [pQ pv] 119) :: pt pv (cB ps pm (dd i)) :: bB ps (ff i) :: pt pm (bN pg) :: kH 0 (DH i) :: R) (fun i => True) (by omega) (by omega) zU trivial (fun hI => rfl) ?_;intro at_ R' h1 h2;simp only [Qay, Qax];refine zZ rfl rfl ?_;refine aY (aG rfl (dQ ND) ?_);rintro _ _ ⟨b3, rfl, rfl⟩;refine jb 1 aB ?_;refine zX rfl ?_;refine nq (aQ (aY (ac rfl (cg N2 rfl (aJ rfl)) ?_)));refine ac rfl (cD rfl zp rfl aR rfl (by first | exact Qac _ | rfl)) ?_;refine ac rfl (cg db rfl (aJ rfl)) ?_;refine aG rfl (vz call447 rfl (Io pv ps pm (dd at_) (ff at_) pg h (((pa + at_) / 64 : Nat) : Int))) ?_;rintro _ B_ ⟨rfl, hB_⟩;obtain rfl := hB_.symm;have hpos := Ix (pa := pa) (n := n) (at_ := at_) h1;refine ac rfl (aM rfl) (ac rfl (lK rfl rfl) (ac rfl (lK rfl rfl) (ac rfl (bj rfl) (ac rfl (bj rfl) (aP (aH (aQ ?_)))))));refine gk (r := dT) (b := L) (VU fun HL hHL => ?_);refine aY ?_;refine ac rfl (cD rfl zp rfl aR rfl (by first | exact Qac _ | rfl)) ?_;refine ac rfl (cg db rfl (aJ rfl)) ?_;refine ac rfl (aM rfl) (aP (aH (nq ?_)));refine gU (fun i : Nat => i ≤ jc pa n at_) (fun i => [(4, .pointer (some ⟨b1, 0, none⟩)), (7, .pointer (some ⟨b2, 0, none⟩)), (8, .pointer (some ⟨b3, 0, none⟩)), (9, .int .i64 (nB pg (pa + at_))), (25, .int .i64 (jc pa n at_ : Nat)), (26, .int .i64 i)]) (fun i => kH 1 HL :: pt D (.deferred (some [])) :: pt b3 (ag (DC pa n at_) 521) :: pt b2 (ag [.func (.func gf) #[] us.toArray] 513) :: pt b1 (ag [.pointer (some ⟨pv, 0, none⟩)] 119) :: pt pv (cB ps pm (dd (at_ + i))) :: bB ps (ff (at_ + i)) :: pt pm (bN pg) :: kH 0 (DH (at_ + i)) :: (R ++ R')) (fun i => jc pa n at_ - i) 0 ?_ ?_ ?_ ?_;omega
 · repeat (first | exact bC | refine bq rfl ?_)
 simp only [QbK]; exact inferInstance;intro i hi;refine aQ (aY (ac rfl (nt rfl rfl) (aP (aH (aQ ?_)))));refine aD rfl (fun c5 => ?_) fun c5 => ?_;refine ii ?_;refine aH (aQ (nq (aQ (aY (ac rfl (aM rfl) (ac rfl (bj rfl) (aP (aH ?_))))))));have hlt : i < jc pa n at_ := by omega
 have hd := hdo (at_ + i) (by omega);rw [show nB pg (pa + (at_ + i)) = nB pg (pa + at_) by rw [nB, j4, (IA hlt).1]; rfl, (IA hlt).2] at hd;refine aY (ac rfl (cg isAgg513 rfl (aJ rfl)) ?_);refine ac rfl (aM rfl) ?_;refine ac rfl (cD rfl zp rfl aR rfl (by first | exact Qac _ | rfl)) ?_;refine ac rfl (cg db rfl (aJ rfl)) ?_;refine ac rfl (aM rfl) ?_;refine ac rfl (cY rfl rfl (by rw [bS (by omega)]; omega : IntKind.wrap .i64 ((((pa + at_) % 64 : Nat) : Int) + (i : Int)) = (((pa + at_) % 64 + i : Nat) : Int))) ?_;refine ac rfl (cD rfl zp rfl aR rfl (by first | exact Qac _ | rfl)) ?_;refine ac rfl (cg db rfl (aJ rfl)) ?_;refine ac rfl (aM rfl) (aa (ee (at_ + i)) ?_);refine aG rfl (VS rfl hcall rfl (hd _ inferInstance)) ?_;rintro _ B_ ⟨rfl, hB_⟩;obtain rfl := hB_.symm;refine aP (oL (aH (aY ?_)));refine ac rfl (cY rfl rfl (by first | exact bS (by omega) | rfl)) ?_;refine ac rfl (aM rfl) (aP (aH ?_));refine bM (i + 1) ?_ (he := ?_);omega;simp only [← QbV]; exact inferInstance;refine au 5 ?_;have e1 : i = jc pa n at_ := by omega
 subst e1;subst hHL;refine VV ?_;refine zY ?_;exact ⟨_, .inl ⟨rfl, trivial, rfl⟩, IO⟩;intro D C hC;obtain rfl := hC;refine au 1 ?_;refine vB (.inr rfl) .nil ?_;exact ap;intro D C hC;exact hC.elim
def pO (fr : List aE) (pg : List Pl) (a : Nat) : Nat := kx fr (nB pg a) ((a % 64 : Nat) : Int) 1
def iq (fr : List aE) (pg : List Pl) (pa n : Nat) : List Nat := (List.range n).map fun i => pO fr pg (pa + i)
def lq (fr : List aE) (pg : List Pl) (pa : Nat) (n : Int) : List Nat := if jd fr.length pg pa n then iq fr pg pa n.toNat else []
theorem X9 {fr} (a : cC fr) f off : kx fr f off 1 < 256 := by
 unfold kx; split
 rename_i b
 obtain ⟨i, rfl, c⟩ := qB b;unfold mM; split;have d := (a.get c).2;have := vI ((d.drop off.toNat).take (1 : Int).toNat);refine QcD this ?_;have : ((List.drop off.toNat (fr.getD (i : Int).toNat [])).take (1 : Int).toNat).length ≤ 1 := by simp; omega
 exact Qcu (by decide) this;decide;decide
theorem DD {fr} (b : cC fr) pg a : pO fr pg a < 256 := X9 b _ _
theorem vP fr pg pa n : (iq fr pg pa n).length = n := by simp [iq]
theorem DF {fr} (a : cC fr) pg pa n : By (iq fr pg pa n) := fun b c => by
 obtain ⟨i, _, rfl⟩ := Qbc.1 c;exact DD a _ _
def nD (f : Nat → Nat) (n i : Nat) : List Nat := (List.range n).map fun j => if j < i then f j else 0
theorem Xa f n i : (nD f n i).length = n := by simp [nD]
theorem Xb f n : bO (nD f n 0) = List.replicate n (bV 0) := by
 apply QaS <;> simp [nD, bO]
theorem Xc f n : nD f n n = (List.range n).map f := by
 simp_all [QaS, nD]
theorem Xd {f n i} (a : i < n) : (bO (nD f n i)).set i (bV (f i)) = bO (nD f n (i + 1)) := by
 apply QaS;simp [nD, bO];grind [nD, bO]
theorem Xe {f n i} (a : i < n) : (bO (nD f n i)).set (i * 1) (bV (f i)) = bO (nD f n (i + 1)) := by rw [QaA]; exact Xd a
abbrev DG (pv b1 b2 g n i : Nat) (f : Nat → Nat) : HP := cu [pt b1 (ag [.pointer (some ⟨pv, 0, none⟩)] 119), pt b2 (ag [.slice (some ⟨g, 0, none⟩) n n] 130), pt g (ag (bO (nD f n i)) 5)]
theorem Xf W0 R pv ps pm d b1 b2 g n i fr pg (a : cC fr) pa (b : i < n) (e : n ≤ 512) : sQ W0 440 [iQ (nB pg (pa + i)), iQ ((pa + i) % 64 : Nat), iQ i, pQ b1, pQ b2] (pt pv (cB ps pm d) :: bB ps fr :: pt pm (bN pg) :: kH 0 (DG pv b1 b2 g n i (fun j => pO fr pg (pa + j))) :: R) (.tuple #[]) (pt pv (cB ps pm d) :: bB ps fr :: pt pm (bN pg) :: kH 0 (DG pv b1 b2 g n (i + 1) (fun j => pO fr pg (pa + j))) :: R) := by
 have c := DD a pg (pa + i);refine nv (ue (r1 := kH) (b1 := 0)) (pI ?_);simp only [Qay, Qax];refine am func440 ntmps440 ?_;refine ah (ao call236 (Ii ps fr _ _ 1 a)) ?_;refine aa (bD (D2 (by grind [kx, nB, pO]))) ?_;refine aa (bI b) ?_;refine av (du (by rw [fD, Xa]; omega) (Xe (f := fun j => pO fr pg (pa + j)) b)) ?_;refine bK (.inr rfl) .nil ?_;exact ap
theorem Xg pv ps pm d fr pg (h : Pgs pg) (q : cC fr) (pa : Nat) (b : pa < 4294967296) n : sP W0 428 [pQ pv, .int .u32 pa, iQ n] (pt pv (cB ps pm d) :: bB ps fr :: pt pm (bN pg) :: R) (fun v B => ∃ a c, v = .tuple #[.slice a (lq fr pg pa n).length c, .bool (jd fr.length pg pa n)] ∧ B = osl 5 1 (.slice a (lq fr pg pa n).length c) (bO (lq fr pg pa n)) :: pt pv (cB ps pm d) :: bB ps fr :: pt pm (bN pg) :: R) := by
 by_cases g : jd fr.length pg pa n = true;obtain ⟨k, rfl⟩ : ∃ k : Nat, n = (k : Int) := ⟨n.toNat, by have := (rM.1 g).1; omega⟩
 obtain ⟨r, _⟩ := ux.1 g;have m : lq fr pg pa (k : Int) = iq fr pg pa k := by grind [lq]
 rw [m, vP, g];refine am func428 ntmps428 ?_;refine dK (jQ rfl rfl) fun l => ?_;refine ah (cK call438 (IB pv ps pm d fr pg h pa b k)) ?_;refine ai (fun e => ?_) fun e => ?_;exact absurd g e;refine dK (uj (sz := 1) (by_ := 1) (info := Tryz.t5) lc (by kernel_rfl) rfl rfl rfl rfl (by decide) rfl rfl rfl rfl (by omega) (by decide)) fun o => ?_;refine dK (rB Gs rfl) fun p => ?_;refine av eg ?_;rw [show List.replicate (k * 1) (Value.int .u8 0) = bO (nD (fun j => pO fr pg (pa + j)) k 0) by rw [Xb, QaA]; rfl];refine ah (rD inferInstance (aC call439 (X0 W0 R pv ps pm pg h pa k r (fun _ => d) (fun _ => fr) (fun i => DG pv l p o k i (fun j => pO fr pg (pa + j))) 440 [pQ l, pQ p] call440 (fun i s t u => Xf W0 t pv ps pm d l p o k i fr pg q pa s (by omega))))) ?_;refine A0 ?_;simp only [Qay, Qax];refine aw ?_;refine aA ?_;rw [Xc];exact ⟨_, ⟨some ⟨o, 0, none⟩, k, rfl, rfl⟩, HI (by simp only [maxLen]; omega) (by simp_all [QaA, fD, vP])⟩;have m : lq fr pg pa n = [] := by grind [lq]
 have f : jd fr.length pg pa n = false := by grind
 rw [m, f];refine am func428 ntmps428 ?_;refine dK (jQ rfl rfl) fun l => ?_;refine ah (cK call438 (IB pv ps pm d fr pg h pa b n)) ?_;refine ai (fun e => ?_) fun e => ?_;refine aA ?_;exact ⟨_, ⟨none, 0, rfl, rfl⟩, fQ⟩;exact absurd (by rw [f]; decide) e
def js (d n : Nat) : List Nat := (List.range n).filter fun i => Nat.testBit d i
def xH (n : Nat) : Value := .int .i64 (n : Int)
def vQ (l : List Nat) : List Value := l.map xH
theorem IC d n : js d (n + 1) = js d n ++ (if Nat.testBit d n then [n] else []) := by
 grind [js, List.range_succ]
theorem ID d n : (js d n).length ≤ n := by
 grind [QaM, Nat.testBit, List.range, js]
theorem IE pv ps pm d (m : d < 4096) : sP W0 135 [pQ pv] (pt pv (cB ps pm d) :: R) (fun v B => ∃ a c, v = .slice a (js d 12).length c ∧ B = osl 3 1 (.slice a (js d 12).length c) (vQ (js d 12)) :: pt pv (cB ps pm 0) :: R) := by
 refine am func135 ntmps135 ?_;refine ew 2 (ao Cp (xD pv ps pm d)) ?_;refine aD rfl (fun e => ?_) fun e => ?_;exact absurd e (by decide);refine aw ?_;refine gU (fun x : Nat × Option Addr × Nat => x.1 ≤ 12) (fun x => [(0, pQ pv), (3, .slice x.2.1 (js d x.1).length x.2.2), (7, iQ x.1)]) (fun x => osl 3 1 (.slice x.2.1 (js d x.1).length x.2.2) (vQ (js d x.1)) :: pt pv (cB ps pm d) :: R) (fun x => 12 - x.1) (0, none, 0) ?_ ?_ ?_ ?_;simp
 · repeat (first | exact bC | refine bq rfl ?_)
 exact fQ;intro ⟨i, a, c⟩ hi;dsimp only at hi ⊢;have n := ID d i;refine aw ?_;refine ai (fun h => ?_) fun h => ?_;refine aa (j8 rfl rfl (by omega) (jS (by simp [IntKind.bits]; omega))) ?_;refine aa (eT rfl rfl (lj (b := 1) (QaH (QbP _ _) (by omega)) (by omega))) ?_;refine ai (fun j => ?_) fun j => ?_;have k : Nat.testBit d i = true := by
  grind
 have f : js d (i + 1) = js d i ++ [i] := by grind [IC]
 refine dK (kl fZ aR np rfl rfl rfl rfl rfl (by decide) (by decide)) fun o => ?_;refine aG rfl (eW (sz := 1) (by_ := 8) (info := Tryz.t3) fZ (by kernel_rfl) rfl rfl rfl rfl (by decide) rfl rfl eK rfl rfl (by simp only [maxLen]; omega) (by omega)) ?_;rintro _ _ ⟨g, e, rfl, rfl⟩;refine aw ?_;refine aa co ?_;refine xa (i + 1, g, e) ?_ ?_ ?_ ?_;omega;omega
 · simp only [f, Qae, QaJ, Qbs]; repeat (first | exact bC | refine bq rfl ?_)
 simp only [f, vQ, QaG, QaL, Qcf, xH, Qae, QaJ, Qbs]; exact inferInstance;have k : ¬ Nat.testBit d i = true := by
  grind
 have f : js d (i + 1) = js d i := by grind [IC]
 obtain ⟨g, rfl⟩ : ∃ x, x = a := ⟨a, rfl⟩
 obtain ⟨e, rfl⟩ : ∃ x, x = c := ⟨c, rfl⟩
 refine aa co ?_;refine xa (i + 1, g, e) ?_ ?_ ?_ ?_;omega;omega
 · simp only [f, Qae, QaJ, Qbs]; repeat (first | exact bC | refine bq rfl ?_)
 simp only [f, vQ, QaG, QaL, Qcf, xH, Qae, QaJ, Qbs]; exact inferInstance;refine av eg ?_;refine ae ?_;have l : i = 12 := by omega
 subst l;exact ⟨_, ⟨a, c, rfl, rfl⟩, IO⟩
theorem xI {len pg n} : jE len pg n = true ↔ aW pg n = true ∧ n < 8 ∧ (bJ pg n).1 < len := by
 grind [jE]
def uy (len : Nat) (pg : List Pl) (a : Nat) : Value := if jE len pg (j4 a) then .tuple #[.int .i64 (nB pg a), .int .i64 (a % 64 : Nat), .bool true] else .tuple #[.int .i64 0, .int .i64 0, .bool false]
theorem IF qv qs qm d fr pg (h : Pgs pg) (pa : Nat) (g : pa < 4294967296) : sQ W0 427 [pQ qv, iQ pa] (pt qv (g8 qs qm d) :: cH qs fr :: pt qm (dN pg) :: R) (uy fr.length pg pa) (pt qv (g8 qs qm d) :: cH qs fr :: pt qm (dN pg) :: R) := by
 refine am func427 ntmps427 ?_;refine aa (lZ rfl rfl (by decide) ((Qak (IntKind.wrap .i64) (oN pa 64)).trans (bS (by omega)))) ?_;refine ai (fun i => ?_) fun i => ?_;refine aS (.cons (aN rfl) (.cons (aN rfl) (.cons (aN rfl) .nil))) ?_;refine aI ?_;have b : jE fr.length pg (j4 pa) = false := by
  rw [← Qat]; rw [xI, j4]; rintro ⟨_, q, _⟩; omega
 simp [aO, uy, b];refine ah (ao sB (qC qm pg h ((pa / 64 : Nat) : Int))) ?_;refine bi fun j => ?_;refine av aB ?_;refine bc [j, qv] 12 fun c => ?_;refine aj 0 3 c ?_;refine ja (t := 25) rfl ?_ ?_;intro a;refine aj 3 9 c ?_;refine aK ?_;refine aS (.cons (aN rfl) (.cons (aN rfl) (.cons (aN rfl) .nil))) ?_;refine aI ?_;have b : jE fr.length pg (j4 pa) = false := by
  rw [← Qat]; rw [xI, j4];rintro ⟨e, k, l⟩
  first
    | exact a e
    | (have m := ol.1 (uv h e); rw [rL] at f; omega)
 simp [aO, uy, b];intro a;refine aj 3 6 c ?_;refine bG 9 (ao qd (oQ qs fr _)) fun c => ?_;refine aj 10 2 c ?_;refine aK ?_;refine ai (fun f => ?_) fun f => ?_;refine aS (.cons (aN rfl) (.cons (aN rfl) (.cons (aN rfl) .nil))) ?_;refine aI ?_;have b : jE fr.length pg (j4 pa) = false := by
  rw [← Qat]; rw [xI, j4];rintro ⟨e, k, l⟩
  first
    | exact a e
    | (have m := ol.1 (uv h e); rw [rL] at f; omega)
 simp [aO, uy, b];refine aa (dV rfl rfl (by decide) (io pa 64)) ?_;refine aS (.cons (aN rfl) (.cons (aN rfl) (.cons (aN rfl) .nil))) ?_;refine aI ?_;have b : jE fr.length pg (j4 pa) = true := by
  grind [xI, j4, rL]
 rw [uy, Qad b]; rfl
def DI (len : Nat) (pg : List Pl) (a : Nat) : Int := if jE len pg (j4 a) then nB pg a else 0
def DJ (len : Nat) (pg : List Pl) (a : Nat) : Int := if jE len pg (j4 a) then ((a % 64 : Nat) : Int) else 0
theorem IG {len pg a} : uy len pg a = .tuple #[iQ (DI len pg a), iQ (DJ len pg a), .bool (jE len pg (j4 a))] := by
 grind [uy, DI, DJ]
theorem Xh {len pg a} (h : jE len pg (j4 a) = true) : DI len pg a = nB pg a := Qad h
theorem Xi {len pg a} (h : jE len pg (j4 a) = true) : DJ len pg a = (a % 64 : Nat) := Qad h
theorem IH qv qs qm d fr pg (h : Pgs pg) (pa : Nat) (f : pa < 4294967296) n : sQ W0 426 [pQ qv, .int .u32 pa, iQ n] (pt qv (g8 qs qm d) :: cH qs fr :: pt qm (dN pg) :: R) (.bool (jd fr.length pg pa n)) (pt qv (g8 qs qm d) :: cH qs fr :: pt qm (dN pg) :: R) := by
 refine am func426 ntmps426 ?_;refine cv (fun a => ?_) fun a => ?_;refine ae ?_;refine aI ?_;refine Qak Value.bool (QcW ?_);rw [← Qat, rM]; omega;refine cv (fun b => ?_) fun b => ?_;refine ae ?_;refine aI ?_;refine Qak Value.bool (QcW ?_);rw [← Qat, rM]; omega;refine aa (bD (by first | exact bS (by omega) | rfl)) ?_;refine aa gW ?_;refine ai (fun g => ?_) fun g => ?_;refine ae ?_;refine aI ?_;refine Qak Value.bool (QcW ?_);rw [← Qat, rM]; omega;obtain ⟨k, rfl⟩ : ∃ k : Nat, n = (k : Int) := ⟨n.toNat, by omega⟩
 have l : pa + k ≤ 512 := by omega
 refine d7 (fun i : Nat => i ≤ k ∧ oR fr.length pg pa i) (fun i => [(0, pQ qv), (1, .int .u32 pa), (2, iQ k), (7, iQ i)]) (fun i => pt qv (g8 qs qm d) :: cH qs fr :: pt qm (dN pg) :: R) (fun i => k - i) 0 ?_ ?_;exact ⟨QaK _, fun i m => by omega⟩;intro i ⟨m, e⟩;refine aw ?_;refine ai (fun o => ?_) fun o => ?_;refine aa (bD (bS (by omega))) ?_;refine aa (ee (pa + i)) ?_;refine ku (cK call427 (IF qv qs qm d fr pg h (pa + i) (by omega))) ?_;rw [IG];refine aw ?_;refine aD rfl (fun c => ?_) fun c => ?_;refine au 11 ?_;refine ae ?_;refine aI ?_;refine Qak Value.bool (QcW ?_);rw [← Qat, ux]; exact fun q => c (q.2 i (by omega));refine aw ?_;refine aa co ?_;refine bM (i + 1) ?_
 exact ⟨by omega, fun j p => by
  rcases QaD j i with q | q;exact e j q
  rw [show j = i by omega]; exact Qbt.1 c⟩
 refine ae ?_;refine aI ?_;refine Qak Value.bool (QcW ?_);rw [ux]; exact ⟨l, by rw [show k = i by omega]; exact e⟩
theorem Xj qv qs qm d fr pg (h : Pgs pg) (m : cC fr) (pa : Nat) (f : pa < 4294967296) n : sP W0 400 [pQ qv, .int .u32 pa, iQ n] (pt qv (g8 qs qm d) :: cH qs fr :: pt qm (dN pg) :: R) (fun v B => ∃ a c, v = .tuple #[.slice a (lq fr pg pa n).length c, .bool (jd fr.length pg pa n)] ∧ B = osl 5 1 (.slice a (lq fr pg pa n).length c) (bO (lq fr pg pa n)) :: pt qv (g8 qs qm d) :: cH qs fr :: pt qm (dN pg) :: R) := by
 by_cases e : jd fr.length pg pa n = true;obtain ⟨k, rfl⟩ : ∃ k : Nat, n = (k : Int) := ⟨n.toNat, by have := (rM.1 e).1; omega⟩
 obtain ⟨s, g⟩ := ux.1 e;have l : lq fr pg pa (k : Int) = iq fr pg pa k := by grind [lq]
 rw [l, vP, e];refine am func400 ntmps400 ?_;refine ah (cK call426 (IH qv qs qm d fr pg h pa f k)) ?_;refine ai (fun b => ?_) fun b => ?_;exact absurd e b;refine gU (fun x : Nat × Option Addr × Nat => x.1 ≤ k) (fun x => [(0, pQ qv), (1, .int .u32 pa), (2, iQ k), (8, .slice x.2.1 x.1 x.2.2), (9, iQ x.1)]) (fun x => osl 5 1 (.slice x.2.1 x.1 x.2.2) (bO (iq fr pg pa x.1)) :: pt qv (g8 qs qm d) :: cH qs fr :: pt qm (dN pg) :: R) (fun x => k - x.1) (0, none, 0) ?_ ?_ ?_ ?_;simp
 · repeat (first | exact bC | refine bq rfl ?_)
 exact fQ;intro ⟨i, a, c⟩ hi;dsimp only at hi ⊢;refine aw ?_;refine ai (fun q => ?_) fun q => ?_;have o := g i (by omega);have t := DD m pg (pa + i);refine aa (bD (bS (by omega))) ?_;refine aa (ee (pa + i)) ?_;refine ku (cK call427 (IF qv qs qm d fr pg h (pa + i) (by omega))) ?_;rw [IG, Xh o, Xi o];refine aw ?_;refine ew 10 (ao Gv (Ac qs fr _ _ 1 m)) ?_;refine aa (bD (D2 (by rw [show kx fr (nB pg (pa + i)) (((pa + i) % 64 : Nat) : Int) 1 = pO fr pg (pa + i) from rfl]; omega))) ?_;refine dK (kl lc nX zeroValue5 rfl rfl rfl rfl rfl (by decide) (by decide)) fun u => ?_;refine aG rfl (eW (sz := 1) (by_ := 1) (info := Tryz.t5) lc (by kernel_rfl) rfl rfl rfl rfl (by decide) rfl rfl eK rfl rfl (by simp only [maxLen]; omega) (by omega)) ?_;rintro _ _ ⟨p, b, rfl, rfl⟩;refine aw ?_;refine aa co ?_;refine bM (i + 1, p, b) ?_ (he := ?_);omega;rw [show iq fr pg pa (i + 1) = iq fr pg pa i ++ [pO fr pg (pa + i)] by simp [iq, List.range_succ], Di]; exact (inferInstanceAs (Ent _ (osl 5 1 (.slice p (i + 1) b) (bO (iq fr pg pa i) ++ [Value.int .u8 ((kx fr (nB pg (pa + i)) (((pa + i) % 64 : Nat) : Int) 1 : Nat) : Int)]) :: pt qv (g8 qs qm d) :: cH qs fr :: pt qm (dN pg) :: R)));refine aA ?_;have r : i = k := by omega
 subst r;exact ⟨_, ⟨a, c, rfl, rfl⟩, IO⟩;have l : lq fr pg pa n = [] := by rw [lq, Qab e]
 have j : jd fr.length pg pa n = false := by simpa using e
 rw [l, j];refine am func400 ntmps400 ?_;refine ah (cK call426 (IH qv qs qm d fr pg h pa f n)) ?_;refine ai (fun b => ?_) fun b => ?_;refine aA ?_;exact ⟨_, ⟨none, 0, rfl, rfl⟩, fQ⟩;exact absurd (by rw [j]; decide) b
section
variable {rd : Option Nat} {P : Program} {S : World → Prop} {W0 : World} {N : FSz} {Q : Exit → Act → World → Prop} {e : b0} {A B R : List HP} {ops : Array Oper} {rest : List Oper}
variable {op : Op} {ty t t' : TypeId} {pos : String} {af : Array Edge} {v u : Value} {d b off : Nat} {x y z : Operand} {l l' vs : List Value} {L : Nat} {xr : RecX}
theorem xJ {E n : Nat} {ps} (p : P.underlying t = some (.array n E)) (q : ∀ w, (sizeOf E).run P w = .ok 1 w) (r : ∀ w, (zeroValue t).run P w = .ok (.agg l.toArray) w)
    (k : gj e (ps.toList.map (·.2)) = some vs) (m : ps.toList.map (·.1) = List.range' 0 ps.toList.length) (o : fy vs = true) (s : vs.length = l.length) : bR P S N e (.build t ps) (.agg vs.toArray) := fun a w _ _ _ _ _ u _ => by
 have y := D1 ps.toList 0 vs k m o;have g := CZ (fun x v h => u.eval h) ps.toList vs [] l (by omega) s.symm;simp only [QaA, Qax] at g
 have z : Instr.build t (ps.map fun (i, x) => (i, a.eval x)) = (do
     let zero := (← zeroValue t).cells
     match ← underlying t with
     | .struct c =>
       let d ← c.mapM sI
       let some b := Instr.fill (d[·]?) zero (ps.map fun (i, x) => (i, a.eval x)).toList | stuck "build: no such field, or a part of the wrong size"
       pure (.agg b)
     | .array _ j =>
       let f ← sizeOf j
       let some b := Instr.fill (fun i => some (i * f, f)) zero (ps.map fun (i, x) => (i, a.eval x)).toList | stuck "build: a part of the wrong size"
       pure (.agg b)
     | _ => stuck "build: struct or array type expected") := rfl
 simp only [execOp, z, Sem.run_bind, r, fq p, q, Result.andThen_ok, Value.cells, Sem.run_pure, Qci, QaA];rw [g]; rfl
theorem II {E n : Nat} {k i} {j : Nat} (c : P.underlying t = some (.array n E)) (d : ∀ w, (sizeOf E).run P w = .ok 1 w) (f : ∀ w, (isAgg E).run P w = .ok false w) (g : ev e x = some (.agg l.toArray)) (h : ev e y = some (.int k i))
    (m : i = j) (r : j < n) (o : l[j]? = some v) : bR P S N e (.index t x y) v := fun a w _ _ _ _ _ b _ => by
 subst m;have p : (0 : Int) ≤ (j : Int) ∧ (j : Int) < (n : Int) := by omega
 have q : j < l.length := by
  grind
 simp only [execOp, Instr.index, b.eval g, b.eval h, asIntOf, Sem.run_bind, Sem.run_pure, Result.andThen_ok, fq c, p, and_self, QbJ, d, Qaf, QaA];rw [vw f o]; rfl
theorem DK {c} (h : ax W0 N (c.wpR none P (Exit.noGoto Q)) e A) : ax W0 N ((Code.scope c).wpR none P Q) e A := fun a w b d => CP.2 (wp_scope_straight (CP.1 (h a w b d)))
instance a9w [h : POk Q] : POk (Exit.noGoto Q) := ⟨fun c a d v w k => h.ok c a d v w k⟩
theorem rN (h : ax W0 N (Ex Q .ret) e A) : ax W0 N (Ex (Exit.noGoto Q) .ret) e A := h
theorem IJ {id Post} [h : Tk dT L A xr R] (f : ∃ B, Post (.bool false) B ∧ Ent (dT L { xr with st := .done, pe := some (.exit id) } :: R) B) : ax W0 N (Ex (vF P W0 L Post) (.exit id)) e A := by
 intro a w m g;obtain ⟨n, d, i, j, c⟩ := (g.tk (r := dT) (b := L)).loopRec;obtain ⟨B, k, l⟩ := f;exact ⟨_, _, run_endRound (some (.exit id)) c.has.2, _, B, rfl, k, Own.ent (Own.toRec (x := { xr with st := .done, pe := some (.exit id) }) i j (c.turn _)) l⟩
theorem Xk {n gf : Nat} {g ps asg body lb} id (Go Stop : List HP → Prop) (hg : ev e g = some (.func (.func gf) #[] lb.toArray))
    (hc : ∀ args w, (callFunc gf args).run P w = .ok (.enter gf args) w)
    (hs : ∀ L D, bH P W0 gf (.func (.yield L) #[] #[] :: lb) (dT L ⟨e, n, ps, asg, body, .ready, none, D⟩ :: pt D (.deferred (some [])) :: A)
      (fun _ B => (∃ C, B = dT L ⟨e, n, ps, asg, body, .ready, none, D⟩ :: pt D (.deferred (some [])) :: C ∧ Go C) ∨ (∃ C, B = dT L ⟨e, n, ps, asg, body, .done, some (.exit id), D⟩ :: pt D (.deferred (some [])) :: C ∧ Stop C)))
    (hgo : ∀ D C, Go C → ax W0 ⟨n, [pH D]⟩ (Ex Q .normal) e (pt D (.deferred (some [])) :: C))
    (hstop : ∀ D C, Stop C → ax W0 ⟨n, [pH D]⟩ (Ex Q (.exit id)) e (pt D (.deferred (some [])) :: C)) :
    ax W0 ⟨n, []⟩ ((Code.rangeFunc g ps asg body).wpR none P Q) e A := by
 intro a w hF hO;refine wpIn_rangeFunc (F := FW none) (n := 0) ?_;intro fn _;have hO1 : Own W0 ((w.alloc (.deferred (some []))).alloc (.loop ((⟨e, n, ps, asg, body, .ready, none, w.heap.size⟩ : RecX).loop fn a.tmps))) (dT (w.heap.size + 1) ⟨e, n, ps, asg, body, .ready, none, w.heap.size⟩ :: pt w.heap.size (.deferred (some [])) :: A) := by
  refine Own.toRec (fn := fn) hF.size hF.at_ ?_;have h1 := (hO.new (.deferred (some []))).new (.loop ((⟨e, n, ps, asg, body, .ready, none, w.heap.size⟩ : RecX).loop fn a.tmps));have e1 : (w.heap.push (.deferred (some []))).size = w.heap.size + 1 := by simp
  simp only [e1] at h1;exact h1
 have hent := run_enterLoop_outer (P := P) (w := w) fn a.tmps ps asg body;generalize hW1 : (w.alloc (.deferred (some []))).alloc (.loop ((⟨e, n, ps, asg, body, .ready, none, w.heap.size⟩ : RecX).loop fn a.tmps)) = W1 at hO1;rw [show (w.alloc (.deferred (some []))).alloc (.loop { state := .ready, pending := none, fn, tmps := a.tmps, params := ps, assign := asg, body, defers := w.heap.size }) = W1 from hW1] at hent;have hF' : ∀ D, Fr { a with defers := [pH D] ++ a.defers } ⟨n, [pH D]⟩ e := fun D => ⟨by simp [hF.defers], hF.size, hF.at_⟩
 refine ⟨w.heap.size + 1, [{ target := .collected w.heap.size, args := #[] }], W1, { target := .fn (.func gf) lb.toArray, args := #[.func (.yield (w.heap.size + 1)) #[] #[]] }, W1, gf,
   #[.func (.yield (w.heap.size + 1)) #[] #[]] ++ lb.toArray, W1, hent, ?_, fun _ _ => trivial, ?_, fun h => (by cases h), ?_⟩
 have hgv := hF.eval hg;simp only [resolve, hgv];simp [go_sem];simp [invoke, go_sem, hc];refine zK.2 ?_;have e2 : (#[.func (.yield (w.heap.size + 1)) #[] #[]] ++ lb.toArray : Array Value) = (.func (.yield (w.heap.size + 1)) #[] #[] :: lb).toArray := by simp
 rw [e2];refine Calls.mono (hs (w.heap.size + 1) w.heap.size _ hO1) ?_;rintro _ w' ⟨v, B, rfl, hp, hO2⟩;rcases hp with ⟨C, rfl, hC⟩ | ⟨C, rfl, hC⟩;obtain ⟨fn', tmps', h1, h2, hO3⟩ := hO2.loopRec;refine ⟨none, _, run_endLoop hO3.has.2 (by simp [RecX.loop]), ?_⟩;exact hgo _ C hC _ _ (hF' _) (hO3.turn _).drop;obtain ⟨fn', tmps', h1, h2, hO3⟩ := hO2.loopRec;refine ⟨some (.exit id), _, run_endLoop hO3.has.2 (by simp [RecX.loop]), ?_⟩;exact wpIn_exit (hstop _ C hC _ _ (hF' _) (hO3.turn _).drop)
theorem xK {E n c sz : Nat} {a ys K} [h : Tk (osl E sz) (.slice a n c) A ys R] (k : n ≤ c ∧ c ≤ maxLen → ax W0 N K e A) : ax W0 N K e A := fun d w i f => by
 refine k ?_ d w i f;rcases (f.tk (r := osl E sz) (b := .slice a n c)).osl with ⟨j, l, _⟩ | ⟨g, o, m, p, j, l, q, _, _, _⟩;grind;grind
theorem uz {a ys} (h : Df a ys) (b : ys ≠ []) : ∃ g, a = some ⟨g, 0, none⟩ := by
 rcases h with ⟨_, q⟩ | q;grind;exact q
end
abbrev ge (pv ps pm d : Nat) (fr : List aE) (pg : List Pl) (R : List HP) : List HP := pt pv (cB ps pm d) :: bB ps fr :: pt pm (bN pg) :: R
abbrev eB (qv qs qm d : Nat) (fr : List aE) (pg : List Pl) (R : List HP) : List HP := pt qv (g8 qs qm d) :: cH qs fr :: pt qm (dN pg) :: R
def gE (page : Int) (i : Nat) : Nat := 64 * page.toNat + 4 * (i % 16)
def eM (len : Nat) (pg : List Pl) (page : Int) (i : Nat) : Bool := decide (0 ≤ page ∧ page < 8) && jd len pg (gE page i) 4
theorem qD {len pg page i} : eM len pg page i = true ↔ (0 ≤ page ∧ page < 8) ∧ jd len pg (gE page i) 4 = true := by
 grind [eM]
def ej (fr : List aE) (pg : List Pl) (page : Int) (i : Nat) : Nat := if eM fr.length pg page i then lk (iq fr pg (gE page i) 4) else 0
theorem Af {fr} (a : cC fr) pg page i : ej fr pg page i < 4294967296 := by
 unfold ej; split;grind [vI, DF, gE, vP];decide
theorem IK {l} (h : l.length = 4) : mM l 0 4 = lk l ∧ pL l 0 4 = 0 := by
 have a : eX l.length 0 4 = true := ip.2 (by omega);constructor;grind [mM];grind [pL]
theorem Ag pv ps pm d fr pg (h : Pgs pg) (u : cC fr) page (i : Nat) (v : i < 4294967296) : sQ W0 402 [pQ pv, iQ page, .int .u32 i] (ge pv ps pm d fr pg R) (.tuple #[.int .u32 (ej fr pg page i), .bool (eM fr.length pg page i)]) (ge pv ps pm d fr pg R) := by
 refine am func402 ntmps402 ?_;refine cv (fun f => ?_) fun f => ?_;refine aA ?_;refine aI ?_;have e : eM fr.length pg page i = false := by grind [qD]
 simp [aO, ej, e];refine ai (fun w => ?_) fun w => ?_;refine aA ?_;refine aI ?_;have e : eM fr.length pg page i = false := by grind [qD]
 simp [aO, ej, e];obtain ⟨p, rfl⟩ : ∃ p : Nat, page = (p : Int) := ⟨page.toNat, by omega⟩
 have l : gE (p : Int) i = 64 * p + 4 * (i % 16) := rfl;refine aa (lh (64 * p)) ?_;refine aa (bD (cZ (by omega))) ?_;refine aa (eT rfl rfl (HX v)) ?_;refine aa (lh (4 * (i % 16))) ?_;refine aa (cY rfl rfl (by rw [cZ (by omega), l]; omega : IntKind.wrap .u32 (((64 * p : Nat) : Int) + ((4 * (i % 16) : Nat) : Int)) = ((gE (p : Int) i : Nat) : Int))) ?_;refine aG rfl (cK call428 (Xg pv ps pm d fr pg h u (gE (p : Int) i) (by omega) 4)) ?_;rintro _ z ⟨a, c, rfl, m⟩;obtain rfl := m.symm;refine aw ?_;refine ai (fun o => ?_) fun o => ?_;have k : ¬ jd fr.length pg (gE (p : Int) i) 4 = true := o;refine aA ?_;refine aI ?_;have e : eM fr.length pg p i = false := by rw [← Qat, qD]; rintro ⟨_, q⟩; exact k q
 simp [aO, ej, e];have k : jd fr.length pg (gE (p : Int) i) 4 = true := Qbt.1 o;have e : eM fr.length pg p i = true := qD.2 ⟨by omega, k⟩;have r : lq fr pg (gE (p : Int) i) 4 = iq fr pg (gE (p : Int) i) 4 := by rw [lq, Qad k]; rfl
 have j : (iq fr pg (gE (p : Int) i) 4).length = 4 := vP _ _ _ _;obtain ⟨s, t⟩ := IK j;rw [r];refine rG (E := 5) (sz := 1) (a := a) (c := c) (n := (iq fr pg (gE (p : Int) i) 4).length) (fun x => ?_);obtain ⟨g, rfl⟩ := uz x (by intro y; have := Qak List.length y; rw [fD, j] at this; simp at this);refine xK (E := 5) (sz := 1) (a := some ⟨g, 0, none⟩) (c := c) (n := (iq fr pg (gE (p : Int) i) 4).length) (fun b => ?_);refine aw ?_;refine ah (aC call309 (I7 W0 _ g 0 c (iq fr pg (gE (p : Int) i) 4) 0 4 (vH (E := 5) (sz := 1) (a := some ⟨g, 0, none⟩) (c := c) (n := (iq fr pg (gE (p : Int) i) 4).length)) (DF u _ _ _) b.1 (A4 b.2))) ?_;rw [s, t];refine aA ?_;refine aI ?_;simp [aO, ej, e]
theorem Xl qv qs qm d fr pg (h : Pgs pg) (o : cC fr) (pa : Nat) (e : pa < 4294967296) : sQ W0 374 [pQ qv, .int .u32 pa] (eB qv qs qm d fr pg R) (.tuple #[.int .u32 ((if jd fr.length pg pa 4 then lk (iq fr pg pa 4) else 0 : Nat)), .bool (jd fr.length pg pa 4)]) (eB qv qs qm d fr pg R) := by
 refine am func374 ntmps374 ?_;refine aG rfl (cK call400 (Xj qv qs qm d fr pg h o pa e 4)) ?_;rintro _ r ⟨a, c, rfl, f⟩;obtain rfl := f.symm;refine aw ?_;refine ai (fun p => ?_) fun p => ?_;refine aA ?_;refine aI ?_;have i : jd fr.length pg pa 4 = false := by grind
 simp [aO, i];have i : jd fr.length pg pa 4 = true := Qbt.1 p;have j : lq fr pg pa 4 = iq fr pg pa 4 := by grind [lq]
 have k : (iq fr pg pa 4).length = 4 := vP _ _ _ _;obtain ⟨l, m⟩ := IK k;rw [j];refine rG (E := 5) (sz := 1) (a := a) (c := c) (n := (iq fr pg pa 4).length) (fun q => ?_);obtain ⟨g, rfl⟩ := uz q (by grind [List.length, fD]);refine xK (E := 5) (sz := 1) (a := some ⟨g, 0, none⟩) (c := c) (n := (iq fr pg pa 4).length) (fun b => ?_);refine aw ?_;refine ah (aC call292 (I9 W0 _ g 0 c (iq fr pg pa 4) 0 4 (vH (E := 5) (sz := 1) (a := some ⟨g, 0, none⟩) (c := c) (n := (iq fr pg pa 4).length)) (DF o _ _ _) b.1 (A4 b.2))) ?_;rw [l, m];refine aA ?_;refine aI ?_;simp [aO, i]
theorem IL qv qs qm d fr pg (h : Pgs pg) (f : cC fr) page (i : Nat) (j : i < 16) : sQ W0 335 [pQ qv, iQ page, .int .u32 i] (eB qv qs qm d fr pg R) (.tuple #[.int .u32 (ej fr pg page i), .bool (eM fr.length pg page i)]) (eB qv qs qm d fr pg R) := by
 refine am func335 ntmps335 ?_;refine dj rfl rfl rfl (fun a => ?_) fun a => ?_;cases a;refine aw ?_;refine cv (fun b => ?_) fun b => ?_;refine aA ?_;refine aI ?_;have c : eM fr.length pg page i = false := by grind [qD]
 simp [aO, ej, c];refine ai (fun g => ?_) fun g => ?_;refine aA ?_;refine aI ?_;have c : eM fr.length pg page i = false := by grind [qD]
 simp [aO, ej, c];obtain ⟨p, rfl⟩ : ∃ p : Nat, page = (p : Int) := ⟨page.toNat, by omega⟩
 have e : gE (p : Int) i = 64 * p + 4 * (i % 16) := rfl;refine aa (bD (cZ (by omega))) ?_;refine aa (lh (64 * p)) ?_;refine aa (lh (4 * i)) ?_;refine aa (cY rfl rfl (by rw [cZ (by omega), e]; omega : IntKind.wrap .u32 (((64 * p : Nat) : Int) + ((4 * i : Nat) : Int)) = ((gE (p : Int) i : Nat) : Int))) ?_;refine ah (cK call374 (Xl qv qs qm d fr pg h f (gE (p : Int) i) (by omega))) ?_;refine aA ?_;refine aI ?_;have c : eM fr.length pg p i = jd fr.length pg (gE (p : Int) i) 4 := by rw [Qag, qD]; exact ⟨fun q => q.2, fun q => ⟨by omega, q⟩⟩
 simp only [aO, ej, c]
structure WS where
  on : Bool
  r : Int
  p : Int
  fault : Int
  root : Int
  leaf : Int
@[reducible] def qE (s : WS) : List Value := [.bool s.on, .int .i64 s.r, .int .i64 s.p, .int .i64 s.fault, .int .i64 s.root, .int .i64 s.leaf]
def nE : WS := ⟨false, 0, 0, 0, -1, -1⟩
abbrev t7 (pv va : Nat) (s : WS) : Obj := ag (.pointer (some ⟨pv, 0, none⟩) :: .int .u32 va :: qE s) 478
theorem IM (x : Int) : (x != 0) = !decide (x = 0) := by by_cases q : x = 0 <;> simp [q]
theorem xL bw pv va s f : sQ W0 377 [pQ bw, iQ f] (pt bw (t7 pv va s) :: R) (.bool (f != 0)) (pt bw (t7 pv va { s with fault := f }) :: R) := by
 refine am func377 ntmps377 ?_;refine av eg ?_;exact ae ap
def kV (fr : List aE) (pg : List Pl) (va : Nat) (a : Int) (s : WS) : WS :=
  if eM fr.length pg a (va / 1024) then { s with root := a, fault := od (ej fr pg a (va / 1024)) } else { s with fault := 3 }
def eZ (fr : List aE) (pg : List Pl) (va : Nat) (a : Int) : Int := if eM fr.length pg a (va / 1024) then pK (ej fr pg a (va / 1024)) else 0
def jt (fr : List aE) (pg : List Pl) (va : Nat) (a : Int) : Bool := eM fr.length pg a (va / 1024) && decide (od (ej fr pg a (va / 1024)) = 0)
theorem IN {w : Nat} : jP .u32 w 10 = (w / 1024 : Nat) := jS (s := 10) (by decide)
theorem IP {w : Nat} : jP .u32 w 6 = (w / 64 : Nat) := jS (s := 6) (by decide)
theorem Xm bw pv ps pm d fr pg (h : Pgs pg) (g : cC fr) va (i : va < 4294967296) s a : sQ W0 379 [pQ bw, iQ a] (pt bw (t7 pv va s) :: ge pv ps pm d fr pg R) (.tuple #[iQ (eZ fr pg va a), .bool (jt fr pg va a)]) (pt bw (t7 pv va (kV fr pg va a s)) :: ge pv ps pm d fr pg R) := by
 by_cases c : eM fr.length pg a (va / 1024) = true;rw [eZ, Qad c, kV, Qad c, jt, c, Qbe];refine am func379 ntmps379 ?_;refine bc [bw] 16 fun b => ?_;refine aj 0 9 b ?_;refine az 9 b (j8 rfl rfl (by decide) IN) ?_;refine bG 10 (cK Gw (Ag pv ps pm d fr pg h g a (va / 1024) (by omega))) fun b => ?_;refine aj 11 5 b ?_;refine aK ?_;refine ai (fun e => ?_) fun e => ?_;exact absurd c e;refine av eg ?_;refine ah (aC call403 (Wi (ej fr pg a (va / 1024)) (Af g _ _ _))) ?_;refine ah (ao Cr (xL bw pv va { s with root := a } _)) ?_;refine aA ?_;refine aI ?_;simp [aO];exact IM _;have f : eM fr.length pg a (va / 1024) = false := by grind
 rw [eZ, Qab c, kV, Qab c, jt, f, QcR];refine am func379 ntmps379 ?_;refine bc [bw] 16 fun b => ?_;refine aj 0 9 b ?_;refine az 9 b (j8 rfl rfl (by decide) IN) ?_;refine bG 10 (cK Gw (Ag pv ps pm d fr pg h g a (va / 1024) (by omega))) fun b => ?_;refine aj 11 5 b ?_;refine aK ?_;refine ai (fun e => ?_) fun e => ?_;refine ah (ao Cr (xL bw pv va _ _)) ?_;exact aA ap;exact absurd (by rw [f]; decide) e
def pP (fr : List aE) (pg : List Pl) (va : Nat) (a : Int) (s : WS) : WS :=
  if eM fr.length pg a (va / 64) then { s with leaf := a, on := oe (ej fr pg a (va / 64)), r := oi (ej fr pg a (va / 64)), p := oj (ej fr pg a (va / 64)), fault := ny (ej fr pg a (va / 64)) } else { s with fault := 3 }
def Ah (fr : List aE) (pg : List Pl) (va : Nat) (a : Int) : Bool := eM fr.length pg a (va / 64) && decide (ny (ej fr pg a (va / 64)) = 0)
theorem Xn bw pv ps pm d fr pg (h : Pgs pg) (g : cC fr) va (i : va < 4294967296) s a : sQ W0 381 [pQ bw, iQ a] (pt bw (t7 pv va s) :: ge pv ps pm d fr pg R) (.bool (Ah fr pg va a)) (pt bw (t7 pv va (pP fr pg va a s)) :: ge pv ps pm d fr pg R) := by
 by_cases f : eM fr.length pg a (va / 64) = true;rw [pP, Qad f, Ah, f, Qbe];refine am func381 ntmps381 ?_;refine bc [bw] 16 fun b => ?_;refine aj 0 9 b ?_;refine az 9 b (j8 rfl rfl (by decide) IP) ?_;refine bG 10 (cK Gw (Ag pv ps pm d fr pg h g a (va / 64) (by omega))) fun b => ?_;refine aj 11 5 b ?_;refine aK ?_;refine ai (fun c => ?_) fun c => ?_;exact absurd f c;refine av eg ?_;refine ah (aC call404 (Wm (ej fr pg a (va / 64)) (Af g _ _ _))) ?_;rw [qA];refine bi fun j => ?_;refine av aB ?_;refine av (iK (Qaa rfl) SetRL.eq) ?_;refine ah (ao Cr (xL bw pv va { s with leaf := a, on := oe (ej fr pg a (va / 64)), r := oi (ej fr pg a (va / 64)), p := oj (ej fr pg a (va / 64)) } _)) ?_;refine ae ?_;refine aI ?_;simp [aO];exact IM _;have e : eM fr.length pg a (va / 64) = false := by grind
 rw [pP, Qab f, Ah, e, QcR];refine am func381 ntmps381 ?_;refine bc [bw] 16 fun b => ?_;refine aj 0 9 b ?_;refine az 9 b (j8 rfl rfl (by decide) IP) ?_;refine bG 10 (cK Gw (Ag pv ps pm d fr pg h g a (va / 64) (by omega))) fun b => ?_;refine aj 11 5 b ?_;refine aK ?_;refine ai (fun c => ?_) fun c => ?_;refine ah (ao Cr (xL bw pv va _ _)) ?_;exact ae ap;exact absurd (by rw [e]; decide) c
def fV (fr : List aE) (pg : List Pl) (root : Int) (va : Nat) : Nat → WS × Int
 | 0 => (nE, root)
 | 1 => (if va < 16384 then nE else { nE with fault := 2 }, root)
 | 2 => (kV fr pg va root nE, eZ fr pg va root)
 | _ => (pP fr pg va (eZ fr pg va root) (kV fr pg va root nE), eZ fr pg va root)
def lO (fr : List aE) (pg : List Pl) (root : Int) (va : Nat) : Nat → Bool
 | 0 => decide (va < 16384)
 | 1 => jt fr pg va root
 | _ => Ah fr pg va (eZ fr pg va root)
def cy (fr : List aE) (pg : List Pl) (root : Int) (va : Nat) : WS :=
  if va < 16384 then (if jt fr pg va root then (fV fr pg root va 3).1 else (fV fr pg root va 2).1) else (fV fr pg root va 1).1
abbrev rO (bva bwp bat bw pv ps pm d : Nat) (fr : List aE) (pg : List Pl) (va : Nat) (q : WS × Int) (R : List HP) : List HP :=
  pt bva (ag [.int .u32 va] 46) :: pt bwp (ag [.pointer (some ⟨bw, 0, none⟩)] 476) :: pt bat (ag [.int .i64 q.2] 3) :: pt bw (t7 pv va q.1) :: ge pv ps pm d fr pg R
theorem Xo W0 R bva bwp bat bw pv ps pm d fr pg root va :
    bH Tryz.prog W0 376 [.pointer (some ⟨bva, 0, none⟩), .pointer (some ⟨bwp, 0, none⟩)] (rO bva bwp bat bw pv ps pm d fr pg va (fV fr pg root va 0) R)
      (fun v B => v = .bool (lO fr pg root va 0) ∧ B = rO bva bwp bat bw pv ps pm d fr pg va (fV fr pg root va 1) R) := by
 refine kS func376 ntmps376 rfl rfl ?_;refine aQ (aY (ac rfl (bj rfl) (aP (aH (aQ (aY (ac rfl (cg lY rfl (aJ rfl)) ?_)))))));refine ac rfl (nt rfl rfl) (ac rfl (aM rfl) ?_);refine dj rfl rfl rfl (fun b => ?_) fun b => ?_;refine eN rfl rfl rfl rfl ?_;refine eN rfl rfl rfl rfl (ac rfl (jO rfl rfl) (ac rfl (bj rfl) (aP (aH (dv (bK (.inl rfl) (.cons (aN rfl) .nil) ?_))))))
 first
   | (have a : va < 16384 := by omega
      simp only [fV, lO, Qad a, Qah a]
      exact ⟨_, ⟨rfl, rfl⟩, inferInstance⟩)
   | (have a : ¬ va < 16384 := by omega
      simp only [fV, lO, Qab a, Qal a]
      exact ⟨_, ⟨rfl, rfl⟩, inferInstance⟩)
 refine ac rfl (cg isAgg476 rfl (aJ rfl)) ?_;refine cz rfl rfl (aG rfl (iZ Cr rfl (xL bw pv va nE 2)) ?_);rintro _ e ⟨rfl, c⟩;obtain rfl := c.symm;refine cz rfl rfl (ac rfl (qk rfl) (ac rfl (fp rfl rfl) (ac rfl (bj rfl) (aP (aH (dv (bK (.inl rfl) (.cons (aN rfl) .nil) ?_)))))))
 first
   | (have a : va < 16384 := by omega
      simp only [fV, lO, Qad a, Qah a]
      exact ⟨_, ⟨rfl, rfl⟩, inferInstance⟩)
   | (have a : ¬ va < 16384 := by omega
      simp only [fV, lO, Qab a, Qal a]
      exact ⟨_, ⟨rfl, rfl⟩, inferInstance⟩)
theorem Xp bva bwp bat bw pv ps pm d fr pg (h : Pgs pg) (b : cC fr) root va (a : va < 16384) : sQ W0 378 [.pointer (some ⟨bwp, 0, none⟩), .pointer (some ⟨bat, 0, none⟩)] (rO bva bwp bat bw pv ps pm d fr pg va (fV fr pg root va 1) R) (.bool (lO fr pg root va 1)) (rO bva bwp bat bw pv ps pm d fr pg va (fV fr pg root va 2) R) := by
 simp only [fV, lO, Qad a];refine jq 9 func378 ntmps378 ?_;refine ew 10 (mG call379 rfl (Xm bw pv ps pm d fr pg h b va (by omega) nE root)) ?_;refine jb 9 (lL aR rfl rfl rfl (Qaa rfl) SetL.eq) ?_;exact ae ap
theorem Xq bva bwp bat bw pv ps pm d fr pg (h : Pgs pg) (a : cC fr) root va (b : va < 16384) : sQ W0 380 [.pointer (some ⟨bwp, 0, none⟩), .pointer (some ⟨bat, 0, none⟩)] (rO bva bwp bat bw pv ps pm d fr pg va (fV fr pg root va 2) R) (.bool (lO fr pg root va 2)) (rO bva bwp bat bw pv ps pm d fr pg va (fV fr pg root va 3) R) := by
 simp only [fV, lO];refine jq 9 func380 ntmps380 ?_;refine ew 4 (mG call381 rfl (Xn bw pv ps pm d fr pg h a va (by omega) _ (eZ fr pg va root))) ?_;exact ae ap
def vR (bva bwp bat : Nat) : List Value := [.func (.func 376) #[] #[.pointer (some ⟨bva, 0, none⟩), .pointer (some ⟨bwp, 0, none⟩)], .func (.func 378) #[] #[.pointer (some ⟨bwp, 0, none⟩), .pointer (some ⟨bat, 0, none⟩)], .func (.func 380) #[] #[.pointer (some ⟨bwp, 0, none⟩), .pointer (some ⟨bat, 0, none⟩)]]
theorem Xr {W0 N e R bva bwp bat bw pv ps pm d fr pg root va i fx v} (h : Pgs pg) (g : cC fr) (k : i < 3) (b : ∀ m, m < i → lO fr pg root va m = true) (c : (vR bva bwp bat)[i]? = some v) (f : ev e fx = some v) :
    df Tryz.prog W0 N e (rO bva bwp bat bw pv ps pm d fr pg va (fV fr pg root va i) R) (.call { callee := .value fx, args := #[], argTypes := #[] }) (fun v B => v = .bool (lO fr pg root va i) ∧ B = rO bva bwp bat bw pv ps pm d fr pg va (fV fr pg root va (i + 1)) R) := by
 have j : i = 0 ∨ i = 1 ∨ i = 2 := by omega
 rcases j with rfl | rfl | rfl;cases c;exact jp (us := []) (vs := []) (cs := [pQ bva, pQ bwp]) f call376 rfl (Xo W0 R bva bwp bat bw pv ps pm d fr pg root va);cases c;have a : va < 16384 := Qas (b 0 (by decide));exact jp (us := []) (vs := []) (cs := [pQ bwp, pQ bat]) f call378 rfl (Xp bva bwp bat bw pv ps pm d fr pg h g root va a);cases c;have a : va < 16384 := Qas (b 0 (by decide));exact jp (us := []) (vs := []) (cs := [pQ bwp, pQ bat]) f call380 rfl (Xq bva bwp bat bw pv ps pm d fr pg h g root va a)
theorem Xs {fr pg root va i} (e : i < 3) (a : ∀ m, m < i → lO fr pg root va m = true) (c : lO fr pg root va i = false) : cy fr pg root va = (fV fr pg root va (i + 1)).1 := by
 have d : i = 0 ∨ i = 1 ∨ i = 2 := by omega
 rcases d with rfl | rfl | rfl;have : ¬ va < 16384 := of_decide_eq_false c;rw [cy, Qab this];have b : va < 16384 := Qas (a 0 (by decide));have : ¬ jt fr pg va root = true := by rw [show jt fr pg va root = false from c]; decide
 rw [cy, Qad b, Qab this];have b : va < 16384 := Qas (a 0 (by decide));rw [cy, Qad b, Qad (show jt fr pg va root = true from a 1 (by decide))]
theorem Xt {fr pg root va} (a : ∀ m, m < 3 → lO fr pg root va m = true) : cy fr pg root va = (fV fr pg root va 3).1 := by
 have b : va < 16384 := Qas (a 0 (by decide));rw [cy, Qad b, Qad (show jt fr pg va root = true from a 1 (by decide))]
theorem DL pv ps pm d fr pg (h : Pgs pg) (p : cC fr) root (va : Nat) (q : va < 4294967296) : sQ W0 341 [pQ pv, iQ root, .int .u32 va] (ge pv ps pm d fr pg R) (.agg (qE (cy fr pg root va)).toArray) (ge pv ps pm d fr pg R) := by
 refine am func341 ntmps341 ?_;refine dK (jQ rfl rfl) fun c => ?_;refine fi (dQ Gm) fun k => ?_;refine au 2 ?_;refine DK (aw ?_);refine aa (fB a7N zeroValue478 (aL C8 (aL aU (aL q9 fA))) (bW rfl C8 rfl rfl (Qaa rfl) SetL.eq (bW rfl aU rfl rfl (Qaa rfl) SetL.eq (kj rfl q9 rfl rfl (Qaa rfl) SetRL.eq fz)))) ?_;refine bA fun l => ?_;refine dK (rB zeroValue476 rfl) fun b => ?_;refine av eg ?_;refine dK (rB np rfl) fun e => ?_;refine av eg ?_;refine fi (kl a7O sizeOf30 zeroValue30 rfl rfl rfl rfl rfl (by decide) (by decide)) fun n => ?_;refine au 4 ?_;refine CS (aw ?_);refine gU (fun i : Nat => i ≤ 3 ∧ ∀ m, m < i → lO fr pg root va m = true) (fun i => [(6, pQ k), (7, pQ b), (22, .slice (some ⟨n, 0, none⟩) 3 3), (23, iQ 3), (24, iQ i)]) (fun i => pt n (ag (vR c b e) 30) :: pt k (ag (qE ⟨false, 0, 0, 0, 0, 0⟩) 402) :: rO c b e l pv ps pm d fr pg va (fV fr pg root va i) R) (fun i => 3 - i) 0 ?_ ?_ ?_ ?_;grind
 · repeat (first | exact bC | refine bq rfl ?_)
 show Ent (pt n (ag (vR c b e) 30) :: pt e (ag [iQ (fV fr pg root va 0).2] 3) :: pt b (ag [pQ l] 476) :: pt l (t7 pv va (fV fr pg root va 0).1) :: pt k (ag (qE ⟨false, 0, 0, 0, 0, 0⟩) 402) :: pt c (ag [.int .u32 va] 46) :: ge pv ps pm d fr pg R) _;exact IO;intro i ⟨s, f⟩;refine aw ?_;refine ai (fun r => ?_) fun r => ?_;obtain ⟨t, g⟩ : ∃ v, (vR c b e)[i]? = some v := ⟨(vR c b e)[i]'(by show i < 3; omega), by simp⟩
 refine aa (bI (by omega)) ?_;refine aa (aF (aJ (by rw [QaA]; exact g))) ?_;refine ah (rD inferInstance (Xr (R := pt n (ag (vR c b e) 30) :: pt k (ag (qE ⟨false, 0, 0, 0, 0, 0⟩) 402) :: R) (bva := c) (bwp := b) (bat := e) (bw := l) (pv := pv) (ps := ps) (pm := pm) (d := d) h p (by omega) f g rfl)) ?_;refine ai (fun o => ?_) fun o => ?_;have j : lO fr pg root va i = false := by grind
 have a := Xs (by omega) f j;refine aa (sH sk q9 rfl TakeL.eq rfl) ?_;refine jb 3 aB ?_;refine rN (aS (.cons (aX sk q9 rfl rfl) .nil) ?_);rw [a];exact ap;have j : lO fr pg root va i = true := Qbt.1 o;refine aa co ?_;refine bM (i + 1) ?_;grind;obtain rfl : i = 3 := by omega
 have a := Xt f;refine aa (sH sk q9 rfl TakeL.eq rfl) ?_;refine jb 3 aB ?_;refine rN (aS (.cons (aX sk q9 rfl rfl) .nil) ?_);rw [a];exact ap
theorem Xu qv qs qm d fr pg (h : Pgs pg) (g : cC fr) root (va : Nat) (l : va < 4294967296) : sQ W0 290 [pQ qv, iQ root, .int .u32 va] (eB qv qs qm d fr pg R) (.agg (qE (cy fr pg root va)).toArray) (eB qv qs qm d fr pg R) := by
 refine am func290 ntmps290 ?_;refine bi fun q => ?_;refine bi fun s => ?_;refine av aB ?_;refine ai (fun m => ?_) fun m => ?_;refine av eg ?_;refine av aB ?_;refine aS (.cons (aX sk q9 rfl rfl) .nil) ?_;refine aI ?_;have e : cy fr pg root va = { nE with fault := 2 } := by grind [cy, fV]
 rw [e]; rfl;refine aa (lZ rfl rfl (by decide) ((Qak (IntKind.wrap .u32) (oN va 1024)).trans (cZ (by omega)))) ?_;refine ah (cK call335 (IL qv qs qm d fr pg h g root (va / 1024) (by omega))) ?_;refine ai (fun j => ?_) fun j => ?_;have k : eM fr.length pg root (va / 1024) = false := by grind
 refine av eg ?_;refine av aB ?_;refine aS (.cons (aX sk q9 rfl rfl) .nil) ?_;refine aI ?_;have e : cy fr pg root va = { nE with fault := 3 } := by
  grind [cy, jt, fV, kV]
 rw [e]; rfl;have k : eM fr.length pg root (va / 1024) = true := Qbt.1 j;refine av eg ?_;refine ah (aC call336 (Wj (ej fr pg root (va / 1024)) (Af g _ _ _))) ?_;refine ai (fun b => ?_) fun b => ?_;refine av eg ?_;refine av aB ?_;refine aS (.cons (aX sk q9 rfl rfl) .nil) ?_;refine aI ?_;have e : cy fr pg root va = { nE with root := root, fault := od (ej fr pg root (va / 1024)) } := by
  rw [cy, Qad (by omega), Qab (by grind [jt])]; simp only [fV, kV]; rw [Qad k]
 rw [e]; rfl;have u : od (ej fr pg root (va / 1024)) = 0 := Qbt.1 b;have n : jt fr pg va root = true := by grind [jt]
 have i : eZ fr pg va root = pK (ej fr pg root (va / 1024)) := by grind [eZ]
 have a : ∀ t, eM fr.length pg t (va / 64 % 16) = eM fr.length pg t (va / 64) := fun t => by simp only [eM, gE, Nat.mod_mod]
 have c : ∀ t, ej fr pg t (va / 64 % 16) = ej fr pg t (va / 64) := fun t => by simp only [ej, a t, gE, Nat.mod_mod]
 refine aa (lZ rfl rfl (by decide) ((Qak (IntKind.wrap .u32) (oN va 64)).trans (cZ (by omega)))) ?_;refine aa (dV rfl rfl (by decide) (io (va / 64) 16)) ?_;refine ah (cK call335 (IL qv qs qm d fr pg h g (pK (ej fr pg root (va / 1024))) (va / 64 % 16) (by omega))) ?_;rw [a, c, ← i];refine ai (fun f => ?_) fun f => ?_;have o : eM fr.length pg (eZ fr pg va root) (va / 64) = false := by grind
 refine av eg ?_;refine av aB ?_;refine aS (.cons (aX sk q9 rfl rfl) .nil) ?_;refine aI ?_;have e : cy fr pg root va = { nE with root := root, fault := 3 } := by
  grind [cy, fV, pP, kV]
 rw [e]; rfl;have o : eM fr.length pg (eZ fr pg va root) (va / 64) = true := Qbt.1 f;refine av eg ?_;refine ah (aC call337 (Wn (ej fr pg (eZ fr pg va root) (va / 64)) (Af g _ _ _))) ?_;rw [qA];refine bi fun v => ?_;refine av aB ?_;refine av (iK (Qaa rfl) SetRL.eq) ?_;refine av eg ?_;refine av aB ?_;refine aS (.cons (aX sk q9 rfl rfl) .nil) ?_;refine aI ?_;have e : cy fr pg root va = { nE with root := root, leaf := eZ fr pg va root, on := oe (ej fr pg (eZ fr pg va root) (va / 64)), r := oi (ej fr pg (eZ fr pg va root) (va / 64)), p := oj (ej fr pg (eZ fr pg va root) (va / 64)), fault := ny (ej fr pg (eZ fr pg va root) (va / 64)) } := by
  grind [cy, fV, pP, kV]
 rw [e]; rfl
def oS (n : Nat) (pg : List Pl) (pa : Nat) (w kind : Int) : Int := if d5 n pg pa w kind = 0 then ((pa / 64 : Nat) : Int) else 0
def m6 (n : Nat) (pg : List Pl) (pa : Nat) (w kind : Int) : Int := if d5 n pg pa w kind = 0 then (bJ pg ((pa / 64 : Nat) : Int)).1 else 0
def m7 (n : Nat) (pg : List Pl) (pa : Nat) (w kind : Int) : Int := if d5 n pg pa w kind = 0 then ((pa % 64 : Nat) : Int) else 0
theorem Ai {n pg pa w kind} : i7 n pg pa w kind = [iQ (oS n pg pa w kind), iQ (m6 n pg pa w kind), iQ (m7 n pg pa w kind), .bool false] := by
 grind [i7, oS, m6, m7]
theorem IQ {fr pg pa w x} (h : cC fr) : cC (kU fr pg pa w x) ∧ (kU fr pg pa w x).length = fr.length := by
 grind [kU, A7, xA]
theorem Xv w : gP w < 32 := by unfold gP; split <;> omega
theorem Xw w : oj w < 32 := by unfold oj; split; decide; exact Xv w
theorem Xx fr pg va a : (kV fr pg va a nE).p = 0 := by unfold kV; split <;> rfl
theorem xM fr pg root va : ∃ k : Nat, (cy fr pg root va).p = k ∧ k < 32 := by
 unfold cy;split;grind [fV, pP, Xw, Xx];simp only [fV]; split <;> exact ⟨0, rfl, by decide⟩
def oT (s : WS) (kind : Int) (user : Bool) : Bool := jD kind && (eQ s.r (iT kind) && (!user || eQ s.r 8)) && s.on
theorem Aj {s kind user} : oT s kind user = true ↔ (jD kind = true ∧ eQ s.r (iT kind) = true ∧ (¬ user = true ∨ eQ s.r 8 = true)) ∧ s.on = true := by simp [oT]
def kA (s : WS) (va : Nat) : Nat := 64 * s.p.toNat + va % 64
def gi (fr : List aE) (pg : List Pl) (on : Bool) (root : Int) (user : Bool) (va : Nat) (kind : Int) : Int :=
  if on then (if (cy fr pg root va).fault ≠ 0 then (cy fr pg root va).fault else if oT (cy fr pg root va) kind user then d5 fr.length pg (kA (cy fr pg root va) va) 1 kind else 6) else d5 fr.length pg va 1 kind
def fw (g : Nat → List Pl → Nat → Int → Int → Int) (fr : List aE) (pg : List Pl) (on : Bool) (root : Int) (user : Bool) (va : Nat) (kind : Int) : Int :=
  if on then (if (cy fr pg root va).fault ≠ 0 then 0 else if oT (cy fr pg root va) kind user then g fr.length pg (kA (cy fr pg root va) va) 1 kind else 0) else g fr.length pg va 1 kind
@[reducible] def uA (fr : List aE) (pg : List Pl) (on : Bool) (root : Int) (user : Bool) (va : Nat) (kind : Int) : List Value :=
  [.int .i64 (fw oS fr pg on root user va kind), .int .i64 (fw m6 fr pg on root user va kind), .int .i64 (fw m7 fr pg on root user va kind), .bool false]
theorem IR {w : Nat} (h : w < 4294967296) : eu .u32 w 63 = (w % 64 : Nat) := by
 have := lj (a := w) (b := 63) h (by decide);rw [show w &&& 63 = w % 64 from rH (n := 6)] at this;exact this
@[reducible] def qF (on : Bool) (root : Int) (user : Bool) : List Value := [.bool on, .int .i64 root, .bool user]
theorem Al pv ps pm d fr pg (h : Pgs pg) (hF : cC fr) on root user (va : Nat) (hva : va < 4294967296) kind : sQ W0 305 [pQ pv, .agg (qF on root user).toArray, .int .u32 va, iQ kind] (ge pv ps pm d fr pg R) (.tuple #[.agg (uA fr pg on root user va kind).toArray, iQ (gi fr pg on root user va kind)]) (ge pv ps pm d fr pg R) := by
 obtain ⟨s, hs⟩ : ∃ s, cy fr pg root va = s := ⟨_, rfl⟩
 obtain ⟨k, hk, hk32⟩ := xM fr pg root va;rw [hs] at hk;simp only [uA, fw, gi, hs];refine am func305 ntmps305 ?_;refine bA fun b1 => ?_;refine bi fun b2 => ?_;refine ai (fun c1 => ?_) fun c1 => ?_;refine ah (cK Gq (A9 pv ps pm d fr pg h va hva 1 kind)) ?_;rw [Ai];refine av aB ?_;refine aS (.cons (aX dS dG rfl rfl) (.cons (aN rfl) .nil)) ?_;refine aI ?_;have ho : on = false := by grind
 subst ho; rfl;refine ah (cK NN (DL pv ps pm d fr pg h hF root va hva)) ?_;rw [hs];have ho : on = true := by grind
 subst ho;refine bi fun b3 => ?_;refine av aB ?_;refine ai (fun c4 => ?_) fun c4 => ?_;refine bc [b3] 5 fun hS => ?_;refine aj 0 3 hS ?_;refine cj 3 aB fun hS => ?_;refine aj 4 1 hS ?_;refine aK ?_;refine aS (.cons (aX dS dG rfl rfl) (.cons (aN rfl) .nil)) ?_;refine aI ?_;rw [Qad rfl, Qad rfl, Qad rfl, Qad rfl, Qad c4, Qad c4, Qad c4, Qad c4]; rfl;refine aa (sH nV nW rfl TakeL.eq rfl) ?_;refine ah (aC call342 (I3 s.on s.r s.p kind user)) ?_;refine ai (fun c6 => ?_) fun c6 => ?_;refine av aB ?_;refine aS (.cons (aX dS dG rfl rfl) (.cons (aN rfl) .nil)) ?_;refine aI ?_;have ha : ¬ oT s kind user = true := fun q => c6 (Aj.1 q);rw [Qad rfl, Qad rfl, Qad rfl, Qad rfl, Qab c4, Qab c4, Qab c4, Qab c4, Qab ha, Qab ha, Qab ha, Qab ha]; rfl;have hpa : kA s va = 64 * k + va % 64 := by rw [kA, hk]; rfl
 rw [show qE s = [.bool s.on, iQ s.r, iQ (k : Int), iQ s.fault, iQ s.root, iQ s.leaf] by rw [← hk]];refine aa (lh (64 * k)) ?_;refine aa (bD (cZ (by omega))) ?_;refine aa (eT rfl rfl (IR hva)) ?_;refine aa (cY rfl rfl (by rw [cZ (by omega), hpa]; omega : IntKind.wrap .u32 (((64 * k : Nat) : Int) + ((va % 64 : Nat) : Int)) = ((kA s va : Nat) : Int))) ?_;refine ah (cK Gq (A9 pv ps pm d fr pg h (kA s va) (by omega) 1 kind)) ?_;rw [Ai];refine av aB ?_;refine aS (.cons (aX dS dG rfl rfl) (.cons (aN rfl) .nil)) ?_;refine aI ?_;have ha : oT s kind user = true := Aj.2 (Qbt.1 c6);rw [Qad rfl, Qad rfl, Qad rfl, Qad rfl, Qab c4, Qab c4, Qab c4, Qab c4, Qad ha, Qad ha, Qad ha, Qad ha]; rfl
theorem vS qv qs qm d fr pg (h : Pgs pg) (hF : cC fr) on root user (va : Nat) (hva : va < 4294967296) kind : sQ W0 215 [pQ qv, .agg (qF on root user).toArray, .int .u32 va, iQ kind] (eB qv qs qm d fr pg R) (.tuple #[.agg (uA fr pg on root user va kind).toArray, iQ (gi fr pg on root user va kind)]) (eB qv qs qm d fr pg R) := by
 obtain ⟨s, hs⟩ : ∃ s, cy fr pg root va = s := ⟨_, rfl⟩
 obtain ⟨k, hk, hk32⟩ := xM fr pg root va;rw [hs] at hk;simp only [uA, fw, gi, hs];refine am func215 ntmps215 ?_;refine bA fun b1 => ?_;refine bi fun b2 => ?_;refine ai (fun c1 => ?_) fun c1 => ?_;refine ah (cK Gt (Ae qv qs qm d fr pg h va hva 1 kind)) ?_;rw [Ai];refine av aB ?_;refine aS (.cons (aX dS dG rfl rfl) (.cons (aN rfl) .nil)) ?_;refine aI ?_;have ho : on = false := by grind
 subst ho; rfl;refine ah (cK call290 (Xu qv qs qm d fr pg h hF root va hva)) ?_;rw [hs];have ho : on = true := by grind
 subst ho;refine bi fun b3 => ?_;refine av aB ?_;refine ai (fun c4 => ?_) fun c4 => ?_;refine bc [b3] 5 fun hS => ?_;refine aj 0 3 hS ?_;refine cj 3 aB fun hS => ?_;refine aj 4 1 hS ?_;refine aK ?_;refine aS (.cons (aX dS dG rfl rfl) (.cons (aN rfl) .nil)) ?_;refine aI ?_;rw [Qad rfl, Qad rfl, Qad rfl, Qad rfl, Qad c4, Qad c4, Qad c4, Qad c4]; rfl;refine aa (sH nV nW rfl TakeL.eq rfl) ?_;refine ah (aC call291 (Wq s.on s.r s.p kind user)) ?_;refine ai (fun c6 => ?_) fun c6 => ?_;refine av aB ?_;refine aS (.cons (aX dS dG rfl rfl) (.cons (aN rfl) .nil)) ?_;refine aI ?_;have ha : ¬ oT s kind user = true := fun q => c6 (Aj.1 q);rw [Qad rfl, Qad rfl, Qad rfl, Qad rfl, Qab c4, Qab c4, Qab c4, Qab c4, Qab ha, Qab ha, Qab ha, Qab ha]; rfl;have hpa : kA s va = 64 * k + va % 64 := by rw [kA, hk]; rfl
 rw [show qE s = [.bool s.on, iQ s.r, iQ (k : Int), iQ s.fault, iQ s.root, iQ s.leaf] by rw [← hk]];refine aa (bD (cZ (by omega))) ?_;refine aa (lh (64 * k)) ?_;refine aa (dV rfl rfl (by decide) (io va 64)) ?_;refine aa (cY rfl rfl (by rw [cZ (by omega), hpa]; omega : IntKind.wrap .u32 (((64 * k : Nat) : Int) + ((va % 64 : Nat) : Int)) = ((kA s va : Nat) : Int))) ?_;refine ah (cK Gt (Ae qv qs qm d fr pg h (kA s va) (by omega) 1 kind)) ?_;rw [Ai];refine av aB ?_;refine aS (.cons (aX dS dG rfl rfl) (.cons (aN rfl) .nil)) ?_;refine aI ?_;have ha : oT s kind user = true := Aj.2 (Qbt.1 c6);rw [Qad rfl, Qad rfl, Qad rfl, Qad rfl, Qab c4, Qab c4, Qab c4, Qab c4, Qad ha, Qad ha, Qad ha, Qad ha]; rfl
@[reducible] def Xy (x : Nat) : List Value := [.int .u32 x]
end
section
open Go.ChangeShapes Go.WideShapes Go.ChangeAt Go.RowKit
variable {W : World} {v : Value}
theorem IS {fuel l} (h : kR Tryz.prog W fuel 46 l) : ∃ x, l = Xy x ∧ x < 4294967296 := by
 obtain ⟨n, rfl, a⟩ := zT sx h;obtain ⟨w, rfl, b⟩ := OR a;exact ⟨w, rfl, b⟩
end
section
structure Ins where
  op : Nat
  d : Nat
  a : Nat
  b : Nat
  im : Int
deriving DecidableEq
def rP (w : Nat) : Int := if w / 262144 < 8192 then ((w / 262144 : Nat) : Int) else ((w / 262144 : Nat) : Int) - 16384
def fF (w : Nat) : Ins := ⟨w % 64, w / 64 % 16, w / 1024 % 16, w / 16384 % 16, rP w⟩
def xN : List Nat := [0, 7, 7, 7, 7, 7, 7, 7, 7, 7, 7, 7, 7, 7, 11, 11, 11, 11, 11, 11, 11, 11, 9, 11, 11, 11, 14, 14, 14, 14, 14, 14, 9, 11, 0, 0, 0, 9, 10, 0, 0, 0]
def gn (op : Nat) : Nat := xN.getD op 0
def om (op : Nat) : Bool := decide (1 ≤ op ∧ op ≤ 41)
def i9 (may : Bool) (n : Nat) : Bool := if may then decide (n < 16) else decide (n = 0)
def dH (op : Nat) (n : Int) : Bool :=
  if op = 18 ∨ op = 19 ∨ op = 20 then decide (0 ≤ n ∧ n ≤ 31)
  else if op = 37 ∨ op = 38 then decide (0 ≤ n ∧ n < 9)
  else if gn op / 8 % 2 = 0 then decide (n = 0)
  else decide (-8192 ≤ n ∧ n ≤ 8191)
def gX (i : Ins) : Bool := om i.op && i9 (gn i.op % 2 != 0) i.d && i9 (gn i.op / 2 % 2 != 0) i.a && i9 (gn i.op / 4 % 2 != 0) i.b && dH i.op i.im
theorem DN w : (fF w).op < 64 ∧ (fF w).d < 16 ∧ (fF w).a < 16 ∧ (fF w).b < 16 := by
 grind [fF]
theorem Xz {w} (h : w < 4294967296) : -8192 ≤ rP w ∧ rP w ≤ 8191 := by
 grind [rP]
theorem rQ {i} (h : gX i = true) : (1 ≤ i.op ∧ i.op ≤ 41) ∧ i.d < 16 ∧ i.a < 16 ∧ i.b < 16 ∧ dH i.op i.im = true := by
 simp only [gX, Qar] at h;obtain ⟨⟨⟨⟨e, f⟩, g⟩, j⟩, h5⟩ := h;have c : ∀ m n, i9 m n = true → n < 16 := fun m n q => by
  unfold i9 at q;split at q;grind;grind
 exact ⟨Qas e, c _ _ f, c _ _ g, c _ _ j, h5⟩
def u32 (n : Int) : Nat := (n % 4294967296).toNat
theorem dU x : u32 x < 4294967296 := by unfold u32; omega
theorem d8 x : IntKind.wrap .u32 x = (u32 x) := by
 simp only [IntKind.wrap, IntKind.bits, IntKind.signed, u32]; simp; omega
theorem vT {n : Nat} (h : n < 4294967296) : u32 n = n := by unfold u32; omega
def iU (a : Nat) : Int := IntKind.wrap .i32 (a : Int)
def oU (p : Bool) : Nat := if p then 1 else 0
theorem IT p : oU p < 4294967296 := by cases p <;> decide
def kB (op a b : Nat) : Nat :=
  if op = 1 then u32 ((a : Int) + b)
  else if op = 2 then u32 ((a : Int) - b)
  else if op = 3 then a &&& b
  else if op = 4 then a ||| b
  else if op = 5 then u32 (tY .u32 (a : Int) (b : Int))
  else if op = 6 then u32 (iE .u32 (a : Int) ((b % 32 : Nat) : Int))
  else if op = 7 then a / 2 ^ (b % 32)
  else if op = 8 then u32 (jP .i32 (iU a) ((b % 32 : Nat) : Int))
  else if op = 9 then oU (decide (iU a < iU b))
  else if op = 10 then oU (decide (a < b))
  else if op = 11 then u32 ((a : Int) * b)
  else if op = 12 then (if b = 0 then 4294967295 else a / b)
  else if b = 0 then a else a % b
theorem nF {p} [Decidable p] {a b M : Nat} (c : p → a < M) (d : ¬ p → b < M) : (if p then a else b) < M := by
 grind
theorem vU {op a b} (c : a < 4294967296) (d : b < 4294967296) : kB op a b < 4294967296 := by
 unfold kB;refine nF (fun _ => dU _) fun _ => nF (fun _ => dU _) fun _ => nF (fun _ => QaH Qbv c) fun _ => nF (fun _ => Qca (n := 32) c d) fun _ => nF (fun _ => dU _) fun _ => nF (fun _ => dU _) fun _ => nF (fun _ => QaH (QbP _ _) c) fun _ => nF (fun _ => dU _) fun _ => nF (fun _ => IT _) fun _ => nF (fun _ => IT _) fun _ => nF (fun _ => dU _) fun _ => ?_;refine nF (fun _ => nF (fun _ => by decide) fun _ => QaH (QbP _ _) c) fun _ => nF (fun _ => c) fun _ => QaH (Nat.mod_le _ _) c
def ir (op : Nat) : Nat := if op = 14 then 1 else if op = 21 then 9 else op - 12
def uB (op a b : Nat) : Bool :=
  if op = 28 then decide (a = b) else if op = 29 then decide (a ≠ b) else if op = 30 then decide (iU a < iU b) else decide (a < b)
def uC (im : Int) : Nat := u32 (iE .u32 ((u32 im : Nat) : Int) 18)
def dm (l : List Nat) (i : Nat) : Nat := l.getD i 0
def kC (l : List Nat) (b : Nat) : Bool := dm l 5 &&& b != 0
def e8 (l : List Nat) : Bool := kC l 4
def oo (l : List Nat) : Bool := dm l 1 != 0 && kC l 1
def qG (l : List Nat) (s fb tb : Nat) : Nat := if kC l fb then s ||| tb else s
def oV (l : List Nat) (s f0 t0 f1 t1 : Nat) : Nat := qG l (qG l s f0 t0) f1 t1
def oW (l : List Nat) (pc cause tval : Nat) : List Nat := ((l.set 2 pc).set 3 cause).set 4 tval
def m8 (l : List Nat) (pc cause tval : Nat) : List Nat := (oW l pc cause tval).set 5 (oV l 4 1 2 4 8)
def oX (l : List Nat) : List Nat := l.set 5 (oV l (dm l 5 &&& 10) 2 1 8 4)
def oY (l : List Nat) (id clock n : Nat) : Nat := if n = 7 then u32 clock else if n = 8 then id else dm l n
def kD (n v : Nat) : Nat := if n = 0 then v &&& 7937 else if n = 5 then v &&& 15 else v
def iu (l : List Nat) : Bool := dm l 0 &&& 1 != 0
def gY (l : List Nat) : Nat := dm l 0 / 256 &&& 31
structure CsOk (l : List Nat) : Prop where
  len : l.length = 7
  lt : ∀ x ∈ l, x < 4294967296
theorem CsOk.at_ {l} (h : CsOk l) i : dm l i < 4294967296 := by
 unfold dm;rw [Qau]
 cases a : l[i]? with
 | none => decide
 | some v => exact h.lt v (QcP a)
theorem CsOk.set {l} (h : CsOk l) i v (a : v < 4294967296) : CsOk (l.set i v) := ⟨by rw [Qam, h.len], fun x b => by
 rcases Qco b with q | q;exact h.lt x q
 rw [q]; exact a⟩
theorem DO {l s fb tb} (a : s < 4294967296) (b : tb < 4294967296) : qG l s fb tb < 4294967296 := by
 unfold qG; split;exact Qca (n := 32) a b;exact a
theorem DT {l s f0 t0 f1 t1} (a : s < 4294967296) (b : t0 < 4294967296) (c : t1 < 4294967296) : oV l s f0 t0 f1 t1 < 4294967296 := DO (DO a b) c
theorem CsOk.trap {l} (h : CsOk l) {pc cause tval} (a : pc < 4294967296) (b : cause < 4294967296) (c : tval < 4294967296) : CsOk (oW l pc cause tval) := ((h.set 2 _ a).set 3 _ b).set 4 _ c
theorem CsOk.enter {l} (h : CsOk l) {pc cause tval} (a : pc < 4294967296) (b : cause < 4294967296) (c : tval < 4294967296) : CsOk (m8 l pc cause tval) := (h.trap a b c).set 5 _ (DT (by decide) (by decide) (by decide))
theorem CsOk.leave {l} (h : CsOk l) : CsOk (oX l) := h.set 5 _ (DT (QaH Qbv (h.at_ 5)) (by decide) (by decide))
theorem XA {n v} (h : v < 4294967296) : kD n v < 4294967296 := by
 grind [kD, QaH, Qbv]
theorem DU {l id clock n} (h : CsOk l) (a : id < 4) : oY l id clock n < 4294967296 := by
 unfold oY;split;exact dU _;split;omega;exact h.at_ n
theorem XB {l pc cause tval} : dm (oW l pc cause tval) 5 = dm l 5 := by
 grind [oW, dm]
theorem DV {l pc cause tval b} : kC (oW l pc cause tval) b = kC l b := by unfold kC; rw [XB]
theorem XC {l pc cause tval s f0 t0 f1 t1} : oV (oW l pc cause tval) s f0 t0 f1 t1 = oV l s f0 t0 f1 t1 := by
 grind [oV, qG, DV]
structure Eff where
  k : Nat
  pc : Nat
  addr : Nat
  width : Nat
  signed : Bool
  d : Nat
  val : Nat
  cause : Nat
  tval : Nat
deriving DecidableEq
structure Cpu where
  rl : List Nat
  pc : Nat
  cs : List Nat
structure RlOk (l : List Nat) : Prop where
  len : l.length = 16
  lt : ∀ x ∈ l, x < 4294967296
def bP (rl : List Nat) (i : Nat) : Nat := rl.getD i 0
def je (rl : List Nat) (i v : Nat) : List Nat := if i = 0 then rl else rl.set i v
theorem RlOk.at_ {l} (h : RlOk l) i : bP l i < 4294967296 := by
 unfold bP;rw [Qau]
 cases a : l[i]? with
 | none => decide
 | some v => exact h.lt v (QcP a)
theorem RlOk.set {l} (h : RlOk l) i v (a : v < 4294967296) : RlOk (je l i v) := by
 unfold je; split;exact h
 exact ⟨by rw [Qam, h.len], fun x b => by
  rcases Qco b with q | q;exact h.lt x q
  rw [q]; exact a⟩
structure CpOk (x : Cpu) : Prop where
  r : RlOk x.rl
  pc : x.pc < 4294967296
  cs : CsOk x.cs
def mN (i : Ins) : Nat := u32 (lH .u32 (lH .u32 (lH .u32 (lH .u32 ((i.op : Nat) : Int) (iE .u32 ((i.d : Nat) : Int) 6)) (iE .u32 ((i.a : Nat) : Int) 10)) (iE .u32 ((i.b : Nat) : Int) 14)) (iE .u32 ((u32 i.im : Nat) : Int) 18))
def m9 : Eff := ⟨0, 0, 0, 0, false, 0, 0, 0, 0⟩
def cV (pc : Nat) : Nat := u32 ((pc : Int) + 4)
def mP (pc : Nat) (im : Int) : Nat := u32 ((pc : Int) + ((u32 (4 * ((u32 im : Nat) : Int)) : Nat) : Int))
def mQ (a : Nat) (im : Int) : Nat := u32 ((a : Int) + ((u32 im : Nat) : Int))
abbrev ma (c t : Nat) : Eff := ⟨3, 0, 0, 0, false, 0, 0, c, t⟩
abbrev lr (x : Cpu) (pc : Nat) : Eff × Cpu := (⟨0, pc, 0, 0, false, 0, 0, 0, 0⟩, { x with pc := pc })
abbrev jT (i : Ins) (x : Cpu) (v pc : Nat) : Eff × Cpu := lr { x with rl := je x.rl i.d v } pc
def mR (op : Nat) : Nat := if op = 23 ∨ op = 26 then 4 else 1
def rR (i : Ins) (x : Cpu) : Eff :=
  if mQ (bP x.rl i.a) i.im % mR i.op ≠ 0 then ma 2 (mQ (bP x.rl i.a) i.im)
  else if i.op = 26 ∨ i.op = 27 then ⟨2, cV x.pc, mQ (bP x.rl i.a) i.im, mR i.op, false, 0, bP x.rl i.b, 0, 0⟩
  else ⟨1, cV x.pc, mQ (bP x.rl i.a) i.im, mR i.op, decide (i.op = 24), i.d, 0, 0, 0⟩
def iw (op : Nat) : Bool := decide (op = 35 ∨ op = 36 ∨ op = 37 ∨ op = 38 ∨ op = 39 ∨ op = 40)
def qH (op : Nat) : Nat := if op = 35 then 4 else if op = 40 then 5 else 6
def kE (id clock : Nat) (i : Ins) (x : Cpu) : Eff × Cpu :=
  if i.op = 34 then (ma 6 0, x)
  else if i.op = 41 then (ma 8 x.pc, x)
  else if i.op = 36 then lr { x with cs := oX x.cs } (dm x.cs 2)
  else if i.op = 37 then jT i x (oY x.cs id clock i.im.toNat) (cV x.pc)
  else if i.op = 38 then (if i.im.toNat ≤ 6 then lr { x with cs := x.cs.set i.im.toNat (kD i.im.toNat (bP x.rl i.a)) } (cV x.pc) else (ma 1 (mN i), x))
  else (⟨qH i.op, cV x.pc, 0, 0, false, 0, 0, 0, 0⟩, x)
def gF (id clock : Nat) (i : Ins) (x : Cpu) : Eff × Cpu :=
  if i.op ≤ 13 then jT i x (kB i.op (bP x.rl i.a) (bP x.rl i.b)) (cV x.pc)
  else if i.op ≤ 21 then jT i x (kB (ir i.op) (bP x.rl i.a) (u32 i.im)) (cV x.pc)
  else if i.op = 22 then jT i x (uC i.im) (cV x.pc)
  else if i.op ≤ 27 then (rR i x, x)
  else if i.op ≤ 31 then lr x (if uB i.op (bP x.rl i.a) (bP x.rl i.b) then mP x.pc i.im else cV x.pc)
  else if i.op ≤ 33 then jT i x (cV x.pc) (if i.op = 33 then mQ (bP x.rl i.a) i.im else mP x.pc i.im)
  else kE id clock i x
def jU (id clock : Nat) (i : Ins) (x : Cpu) : Eff × Cpu := if iw i.op && !e8 x.cs then (ma 7 (mN i), x) else gF id clock i x
structure EfOk (e : Eff) : Prop where
  pc : e.pc < 4294967296
  addr : e.addr < 4294967296
  val : e.val < 4294967296
  cause : e.cause < 100
  tval : e.tval < 4294967296
  d : e.d < 16
  w : e.width ≤ 4
theorem xO {k pc addr w d v c t s} (a : pc < 4294967296) (b : addr < 4294967296) (e : v < 4294967296) (f : c < 100) (g : t < 4294967296) (h : d < 16) (i : w ≤ 4) : EfOk ⟨k, pc, addr, w, s, d, v, c, t⟩ := ⟨a, b, e, f, g, h, i⟩
theorem xP {c t} (a : c < 100) (b : t < 4294967296) : EfOk (ma c t) := xO (by decide) (by decide) (by decide) a b (by decide) (by decide)
theorem Am {x pc} (h : CpOk x) (a : pc < 4294967296) : EfOk (lr x pc).1 ∧ CpOk (lr x pc).2 := ⟨xO a (by decide) (by decide) (by decide) (by decide) (by decide) (by decide), ⟨h.r, a, h.cs⟩⟩
theorem xQ {i x v pc} (h : CpOk x) (a : v < 4294967296) (b : pc < 4294967296) : EfOk (jT i x v pc).1 ∧ CpOk (jT i x v pc).2 := Am ⟨h.r.set i.d v a, h.pc, h.cs⟩ b
theorem DW op : mR op ≤ 4 := by unfold mR; split <;> decide
theorem XD {i x} (h : CpOk x) (a : i.d < 16) : EfOk (rR i x) := by
 unfold rR
 split; · exact xP (by decide) (dU _)
 split; · exact xO (dU _) (dU _) (h.r.at_ _) (by decide) (by decide) (by decide) (DW _)
 exact xO (dU _) (dU _) (by decide) (by decide) (by decide) a (DW _)
theorem DY {id clock i x} (h : CpOk x) (b : i.d < 16) (a : id < 4) : EfOk (jU id clock i x).1 ∧ CpOk (jU id clock i x).2 := by
 unfold jU
 split; · exact ⟨xP (by decide) (dU _), h⟩
 unfold gF
 split; · exact xQ h (vU (h.r.at_ _) (h.r.at_ _)) (dU _)
 split; · exact xQ h (vU (h.r.at_ _) (dU _)) (dU _)
 split; · exact xQ h (dU _) (dU _)
 split; · exact ⟨XD h b, h⟩
 split
 refine Am h ?_
 split <;> exact dU _
 split
 refine xQ h (dU _) ?_
 split <;> exact dU _
 unfold kE
 split; · exact ⟨xP (by decide) (by decide), h⟩
 split; · exact ⟨xP (by decide) h.pc, h⟩
 split; · exact Am ⟨h.r, h.pc, h.cs.leave⟩ (h.cs.at_ 2)
 split; · exact xQ h (DU h.cs a) (dU _)
 split
 split
 exact Am ⟨h.r, h.pc, h.cs.set _ _ (XA (h.r.at_ _))⟩ (dU _)
 exact ⟨xP (by decide) (dU _), h⟩
 exact ⟨xO (dU _) (by decide) (by decide) (by decide) (by decide) (by decide) (by decide), h⟩
class Hk (α : Type) extends Inhabited α where
  ky : α → Int
namespace Hp
variable {α : Type} [Hk α]
def us (l : List α) (i : Nat) : Int := Hk.ky (l.getD i default)
theorem us_eq {l : List α} {i} h : us l i = Hk.ky l[i] := by simp [us, List.getD, h]
def swapL (l : List α) (i j : Nat) : List α := (l.set i (l.getD j default)).set j (l.getD i default)
theorem xR (l : List α) i j : (swapL l i j).length = l.length := by simp [swapL]
theorem rS {l : List α} {i j} (a : i < l.length) (b : j < l.length) x : (swapL l i j).getD x default = if x = i then l.getD j default else if x = j then l.getD i default else l.getD x default := by
 grind [swapL]
theorem kW {l : List α} {i j} (a : i < l.length) (b : j < l.length) x : us (swapL l i j) x = if x = i then us l j else if x = j then us l i else us l x := by
 grind [us, rS]
theorem DZ {β : Type} : ∀ (l : List β) (i j : Nat) (a : i < l.length) (b : j < l.length), ((l.set i l[j]).set j l[i]).Perm l := by
 grind [List.set_set_perm]
theorem kF {l : List α} {i j} (a : i < l.length) (b : j < l.length) : (swapL l i j).Perm l := by
 grind [DZ, swapL]
def Heap (l : List α) (n : Nat) : Prop := ∀ c, c < n → 0 < c → us l ((c - 1) / 2) ≤ us l c
def jF (l : List α) (i n : Nat) : Prop := ∀ c, c < n → 0 < c → (c ≠ i → (c - 1) / 2 ≠ i → us l ((c - 1) / 2) ≤ us l c) ∧ ((c - 1) / 2 = i → 0 < i → us l ((i - 1) / 2) ≤ us l c)
def Up (l : List α) (j n : Nat) : Prop := ∀ c, c < n → 0 < c → (c ≠ j → us l ((c - 1) / 2) ≤ us l c) ∧ ((c - 1) / 2 = j → 0 < j → us l ((j - 1) / 2) ≤ us l c)
theorem E0 {l : List α} {i j n} (h : jF l i n) (t : n ≤ l.length) (p : j < n) (g : (j - 1) / 2 = i) (q : 0 < j) (r : us l j < us l i)
    (k : ∀ c, c < n → 0 < c → (c - 1) / 2 = i → us l j ≤ us l c) : jF (swapL l i j) j n ∧ us (swapL l i j) ((j - 1) / 2) ≤ us (swapL l i j) j := by
 have s : i < j := by omega
 have d := kW (l := l) (i := i) (j := j) (by omega) (by omega);refine ⟨fun c a b => ⟨fun e m => ?_, fun e m => ?_⟩, ?_⟩;rw [d, d];by_cases f : c = i;subst f;have := (h j p q).2 g (by omega);rw [Qab (by omega), Qab (by omega), Qad rfl]; exact this;by_cases o : (c - 1) / 2 = i;grind;rw [Qab o, Qab m, Qab f, Qab e]; exact (h c a b).1 f o;rw [g, d, d, Qad rfl, Qab (by omega), Qab (by omega)];rw [← e]; exact (h c a b).1 (by omega) (by omega);grind
theorem xS {l : List α} {i n} (h : jF l i n) (a : ∀ c, c < n → 0 < c → (c - 1) / 2 = i → us l i ≤ us l c) (g : 0 < i → us l ((i - 1) / 2) ≤ us l i) : Heap l n := fun c b d => by
 by_cases e : (c - 1) / 2 = i;grind;by_cases f : c = i;grind;exact (h c b d).1 f e
theorem An {l : List α} {i n} (h : jF l i n) (a : ∀ c, c < n → 0 < c → (c - 1) / 2 = i → us l i ≤ us l c) : Up l i n := fun c b d => ⟨fun e => by
 by_cases f : (c - 1) / 2 = i;grind
 exact (h c b d).1 e f, (h c b d).2⟩
theorem E1 {l : List α} {j n} (h : Up l j n) (q : n ≤ l.length) (r : j < n) (m : 0 < j) (o : us l j < us l ((j - 1) / 2)) : Up (swapL l ((j - 1) / 2) j) ((j - 1) / 2) n := by
 have d := kW (l := l) (i := (j - 1) / 2) (j := j) (by omega) (by omega);intro c e a;refine ⟨fun f => ?_, fun f p => ?_⟩;rw [d, d];by_cases b : c = j;omega;by_cases g : (c - 1) / 2 = (j - 1) / 2;rw [Qad g, Qab (by omega), Qab b];have := (h c e a).1 b; rw [g] at this; omega;by_cases k : (c - 1) / 2 = j;rw [Qab g, Qad k, Qab f, Qab b]; exact (h c e a).2 k m;rw [Qab g, Qab k, Qab f, Qab b]; exact (h c e a).1 b;rw [d, d, Qab (by omega), Qab (by omega)];have s := (h ((j - 1) / 2) (by omega) p).1 (by omega);by_cases b : c = j;omega;rw [Qab (by omega), Qab b];have := (h c e a).1 b; rw [f] at this; omega
theorem xT {l : List α} {j n} (h : Up l j n) (d : 0 < j → us l ((j - 1) / 2) ≤ us l j) : Heap l n := fun c a b => by
 by_cases e : c = j;grind;exact (h c a b).1 e
theorem heap_min {l : List α} {n} (h : Heap l n) : ∀ c, c < n → us l 0 ≤ us l c := by
 intro c
 induction c using Nat.strongRecOn with
 | _ c a =>
  intro b;by_cases d : c = 0;grind;have := h c b (by omega);have := a ((c - 1) / 2) (by omega) (by omega);omega
theorem Ao {l i} {x : α} {n} (h : Heap l n) (j : i < l.length) : jF (l.set i x) i n := fun c d f => by
 have e : ∀ y, y ≠ i → us (l.set i x) y = us l y := fun y k => by
  unfold us; simp only [Qau]; rw [QaP (by omega)]
 refine ⟨fun a b => ?_, fun a b => ?_⟩;rw [e _ a, e _ b]; exact h c d f;rw [e _ (by omega), e _ (by omega)];have g := h c d f;have m := h i (by omega) b;rw [a] at g; omega
theorem xU {l l' : List α} {n} (h : ∀ i, i < n → l.getD i default = l'.getD i default) {i} (a : i < n) : us l i = us l' i := by unfold us; rw [h i a]
theorem E2 {l l' : List α} {n} (h : ∀ i, i < n → l.getD i default = l'.getD i default) (k : Heap l n) : Heap l' n := fun c a b => by
 rw [← xU h a, ← xU h (i := (c - 1) / 2) (by omega)]; exact k c a b
theorem E3 {l : List α} {n m} (h : Heap l n) (k : m ≤ n) : Heap l m := fun c b a => h c (by omega) a
structure Down (its l : List α) (i0 n : Nat) (moved : Bool) : Prop where
  perm : l.Perm its
  tail : ∀ x, n ≤ x → l.getD x default = its.getD x default
  no : moved = false → l = its ∧ ∀ c, c < n → 0 < c → (c - 1) / 2 = i0 → us its i0 ≤ us its c
  yes : moved = true → Heap l n
theorem xV {l its : List α} {i i0 n} (b : l.Perm its) (j : i0 ≤ i) (d : jF l i n) (e : ∀ x, n ≤ x → l.getD x default = its.getD x default) (f : i = i0 → l = its)
    (g : i0 < i → us l ((i - 1) / 2) ≤ us l i) (a : ∀ c, c < n → 0 < c → (c - 1) / 2 = i → us l i ≤ us l c) : Down its l i0 n (decide (i0 < i)) :=
  ⟨b, e, fun h => by
 have : i = i0 := by grind
 subst this;obtain rfl := f rfl;exact ⟨rfl, a⟩, fun h => by
 have : i0 < i := by simpa using h
 exact xS d a fun _ => g this⟩
theorem xW {l a : List α} {i j n} (c : i < n) (d : j < n) (e : n ≤ l.length) (h : ∀ x, n ≤ x → l.getD x default = a.getD x default) : ∀ x, n ≤ x → (swapL l i j).getD x default = a.getD x default := fun x b => by
 rw [rS (by omega) (by omega), Qab (by omega), Qab (by omega)]; exact h x b
end Hp
instance a9x : Hk Nat := { ky := fun n => (n : Int) }
abbrev Po := List (Int × Bool)
def dp (po : Po) (f : Nat) : Int × Bool := po.getD f (-1, true)
def cm (po : Po) (w : Nat) : List Nat := (List.range po.length).filter fun f => dp po f == ((w : Int), false)
theorem jV {po f x} (a : f < po.length) g : dp (po.set f x) g = if g = f then x else dp po g := by
 grind [dp]
theorem kX {po w f} : f ∈ cm po w ↔ f < po.length ∧ dp po f = ((w : Int), false) := by
 grind [cm]
theorem Ap po w : (cm po w).Pairwise (· < ·) := List.pairwise_lt_range.filter _
theorem IU po w : (cm po w).Nodup := (Ap po w).imp (fun h e => by omega)
theorem XE {po} {w : Nat} {l : List Nat} (a : l.Nodup) (h : ∀ f, f ∈ l ↔ f < po.length ∧ dp po f = ((w : Int), false)) : l.Perm (cm po w) :=
  (List.perm_ext_iff_of_nodup a (IU po w)).2 fun f => by rw [h, kX]
theorem XF {po f u} (a : f < po.length) w : cm (po.set f (u, true)) w = (cm po w).filter (· != f) := by
 simp only [cm, Qam, List.filter_filter];apply Qcv;intro g _;rw [jV a];by_cases h : g = f;subst h; simp;simp [h]
theorem XG {po f} {w : Nat} (d : f < po.length) (h : dp po f ≠ ((w : Int), false)) : (cm po w ++ [f]).Perm (cm (po.set f (w, false)) w) := by
 refine XE ?_ fun g => ?_;rw [Qbp];refine ⟨IU po w, by simp, fun a i b c e => ?_⟩;rw [Qbh] at c; subst c; subst e;exact h (kX.1 i).2;rw [QaZ, Qbh, kX, Qam, jV d];by_cases e : g = f;grind;simp [e]
theorem E4 {po f x} {w : Nat} (a : f < po.length) (b : dp po f ≠ ((w : Int), false)) (c : x ≠ ((w : Int), false)) : cm (po.set f x) w = cm po w := by
 simp only [cm, Qam];apply Qcv;intro g _;rw [jV a];by_cases h : g = f;grind;rw [Qab h]
theorem E5 {po w x l} (hp : (l ++ [x]).Perm (cm po w)) (hm : ∀ y ∈ cm po w, x ≤ y) : cm po w = x :: cm (po.set x (w, true)) w := by
 have a : x ∈ cm po w := hp.mem_iff.1 (by simp);have b := Ap po w;rw [XF (kX.1 a).1];generalize cm po w = m at a hm b
 cases m with
 | nil => cases a
 | cons y t =>
  rw [Qbi] at b;have : x = y := by
   rcases QaQ.1 a with e | e;exact e;have := b.1 x e;have := hm y (by simp);omega
  subst this;congr 1;rw [List.filter_cons, Qab (by simp)];refine (QaV.2 fun z c => ?_).symm;have := b.1 z c;simp; omega
theorem XH {po w x l} (a : (l ++ [x]).Perm (cm po w)) (b : ∀ y ∈ cm po w, x ≤ y) : l.Perm (cm (po.set x (w, true)) w) := by
 have h := E5 a b;rw [h] at a;exact ((QaY (l₁ := [x]) (l₂ := l)).trans a).cons_inv
structure LsOk (po : Po) (Ls : List (List Nat)) : Prop where
  len : Ls.length = 16
  row : ∀ w, w < 16 → (Ls.getD w []).Perm (cm po w) ∧ Hp.Heap (Ls.getD w []) (Ls.getD w []).length
structure PoOk (po : Po) : Prop where
  len : po.length ≤ 32
  who : ∀ f, f < po.length → -1 ≤ (dp po f).1 ∧ (dp po f).1 < 16 ∧ ((dp po f).1 = -1 → (dp po f).2 = false)
theorem PoOk.set {po} (h : PoOk po) {f x} (b : f < po.length) (c : 0 ≤ x.1) (d : x.1 < 16) : PoOk (po.set f x) := ⟨by rw [Qam]; exact h.len, fun g a => by
 rw [Qam] at a;rw [jV b];split;omega
 exact h.who g a⟩
theorem XI {po} (h : PoOk po) w : (cm po w).length ≤ 32 := by
 have := QaM (fun f => dp po f == ((w : Int), false)) (List.range po.length);rw [QcM] at this;have := h.len;unfold cm; omega
theorem LsOk.rlen {po Ls} (h : LsOk po Ls) (a : PoOk po) {w} (b : w < 16) : (Ls.getD w []).length ≤ 32 := by
 rw [(h.row w b).1.length_eq]; exact XI a w
theorem LsOk.set {po po' Ls} (h : LsOk po Ls) {w} (b : w < 16) {l} (d : l.Perm (cm po' w)) (f : Hp.Heap l l.length) (c : ∀ u, u < 16 → u ≠ w → cm po' u = cm po u) : LsOk po' (Ls.set w l) := ⟨by rw [Qam]; exact h.len, fun u a => by
 have e : (Ls.set w l).getD u [] = if u = w then l else Ls.getD u [] := by
  simp only [Qau, List.getElem?_set];by_cases k : w = u;subst k; simp [h.len, b];grind
 rw [e];split;grind
 rename_i k; rw [c u a k]; exact h.row u a⟩
theorem LsOk.new n : LsOk (List.replicate n (-1, false)) (List.replicate 16 []) := ⟨by simp, fun w g => by
 have e : cm (List.replicate n (-1, false)) w = [] := by
  rw [List.eq_nil_iff_forall_not_mem];intro f a;have := (kX.1 a)
  rw [QbA] at this;have b := this.2;simp [dp, List.getD, this.1] at b
 rw [e, show (List.replicate 16 ([] : List Nat)).getD w [] = [] by rw [Qau, List.getElem?_replicate]; split <;> rfl]
 exact ⟨QaO _, fun c d _ => absurd d (Qcc _)⟩⟩
structure Im where
  fr : List aE
  po : Po
  pg : List Pl
def j5 (f : Nat) : List Nat → Nat → List aE → List aE
 | [], _, fr => fr
 | x :: t, k, fr => j5 f t (k + 1) (g6 fr f (4 * k : Nat) 4 x)
theorem E6 f x : ∀ (l : List Nat) (k : Nat) (fr : List aE), j5 f (l ++ [x]) k fr = g6 (j5 f l k fr) f (4 * (k + l.length) : Nat) 4 x
 | [], k, fr => by simp [j5]
 | y :: t, k, fr => by
  rw [Qay, j5, j5, E6 f x t (k + 1)];congr 3; simp only [QaJ]; omega
theorem uD {f} : ∀ {l : List Nat} {k : Nat} {fr : List aE}, cC fr → cC (j5 f l k fr) ∧ (j5 f l k fr).length = fr.length
 | [], _, _, h => ⟨h, rfl⟩
 | x :: t, k, fr, h => by
  obtain ⟨a, b⟩ := uD (f := f) (l := t) (k := k + 1) (A7 (f := f) (off := (4 * k : Nat)) (w := 4) (v := x) h);exact ⟨a, by rw [j5, b, xA]⟩
def et (words : List Nat) (i : Nat) : List Nat := (words.drop (16 * i)).take 16
def kG (who : Nat) (words : List Nat) (x : Im) (i : Nat) : Im :=
  match cm x.po who with
 | f :: _ => ⟨j5 f (et words i) 0 x.fr, x.po.set f ((who : Int), true), eA x.pg i ((f : Int), 3)⟩
 | [] => x
def dq (who : Nat) (words : List Nat) : Nat → Im → Im
 | 0, x => x
 | n + 1, x => kG who words (dq who words n x) n
structure ImOk (x : Im) : Prop where
  fr : cC x.fr
  po : PoOk x.po
  pg : Pgs x.pg
  len : x.po.length = x.fr.length
theorem XJ {who i words x} (h : ImOk x) (d : who < 16) : ImOk (kG who words x i) := by
 unfold kG
 cases e : cm x.po who with
 | nil => exact h
 | cons f t =>
  have a := kX.1 (show f ∈ cm x.po who by rw [e]; simp);obtain ⟨b, c⟩ := uD (f := f) (l := et words i) (k := 0) h.fr;exact ⟨b, h.po.set a.1 (by simp) (by simp; omega), vN h.pg, by rw [Qam, c]; exact h.len⟩
theorem uE {who words} (a : who < 16) : ∀ {n : Nat} {x : Im}, ImOk x → ImOk (dq who words n x)
 | 0, _, h => h
 | n + 1, _, h => XJ (uE a h) a
theorem XK {who i words x} : (cm (kG who words x i).po who).length = (cm x.po who).length - 1 := by
 unfold kG
 cases e : cm x.po who with
 | nil => simp [e]
 | cons f t =>
  have c := kX.1 (show f ∈ cm x.po who by rw [e]; simp);dsimp only;have b : ∀ y ∈ cm x.po who, f ≤ y := fun y a => by
   have := Ap x.po who;rw [e] at a this;rw [Qbi] at this;rcases QaQ.1 a with rfl | k;omega;grind
  have := E5 (l := t) (by grind) b;rw [e] at this;have := (List.cons.inj this).2;rw [← this, QaJ]; omega
theorem Aq {who words x} : ∀ n, (cm (dq who words n x).po who).length = (cm x.po who).length - n
 | 0 => rfl
 | n + 1 => by rw [dq, XK, Aq n]; omega
def qI (pg : List Pl) (n m : Nat) : Prop := ∀ i, n ≤ i → i < m → aW pg (i : Nat) = false
theorem Ar {who words x} (h : qI x.pg 0 8) (hl : x.pg.length = 12) : ∀ n, n ≤ 8 → qI (dq who words n x).pg n 8 ∧ (dq who words n x).pg.length = 12
 | 0, _ => ⟨h, hl⟩
 | n + 1, g => by
  obtain ⟨a, c⟩ := Ar h hl n (by omega);rw [dq];generalize dq who words n x = y at a c;unfold kG
  cases e : cm y.po who with
  | nil => exact ⟨fun i d b => a i (by omega) b, c⟩
  | cons f t =>
   dsimp only;refine ⟨fun i d b => ?_, ?_⟩;have := a i (by omega) b;unfold eA;split;grind [aW, eh];exact this;grind [eA]
end
section
open Go.RowKit
def nG (T E : TypeId) (sz : Nat) {α : Type} (f : α → List Value) (o b : Nat) (x : List α × List Value) : HP := chk (fun C => o < x.2.length ∧ ∃ a c, C = [pt b (ag (x.2.set o (.slice a x.1.length c)) T), osl E sz (.slice a x.1.length c) (x.1.flatMap f)])
theorem fe {l : List Value} {o v} (h : o < l.length) : (l.set o v)[o]? = some v := by simp [h]
theorem set_set {l : List Value} {o v u} : (l.set o v).set o u = l.set o u := List.set_set ..
section
variable {P : Program} {W0 : World} {N : FSz} {K : Act → World → Prop} {e : b0} {R A B R1 R2 : List HP} {T E : TypeId} {sz o b n : Nat} {α : Type} {f : α → List Value} {its : List α} {cs cs' : List Value} {fn : FuncId} {args : List Value} {Post : Value → List HP → Prop}
theorem t8 (h : ∀ a c, o < cs.length → bH P W0 fn args (pt b (ag (cs.set o (.slice a its.length c)) T) :: osl E sz (.slice a its.length c) (its.flatMap f) :: R) Post) : bH P W0 fn args (nG T E sz f o b (its, cs) :: R) Post :=
  qq fun C d => by obtain ⟨e, a, c, rfl⟩ := d; exact h a c e
theorem xX [hk : Tk (nG T E sz f o) b A (its, cs) R] (h : ∀ a c, o < cs.length → ax W0 N K e (pt b (ag (cs.set o (.slice a its.length c)) T) :: osl E sz (.slice a its.length c) (its.flatMap f) :: R)) : ax W0 N K e A :=
  gk (r := nG T E sz f o) (b := b) (nu fun C d => by obtain ⟨g, a, c, rfl⟩ := d; exact h a c g)
theorem nH {a c xs} [d : Tk pt b A (ag cs' T) R1] [e : Tk (osl E sz) (.slice a n c) R1 xs R2] (g : xs = its.flatMap f) (h : cs' = cs.set o (.slice a n c)) (i : o < cs.length) (j : n = its.length) [k : Ent R2 B] : Ent A (nG T E sz f o b (its, cs) :: B) := by
 subst j; subst h; subst g;exact (Ent.ofPerm (d.perm.trans (e.perm.cons _))).trans ((Ent.cons (Ent.cons k)).trans (g5 (R := B) (C := [_, _]) ⟨i, a, c, rfl⟩))
theorem qJ (k : ∀ x, (f x).length = sz) (l : its ≠ []) (r : 0 < sz) (h : ∀ g c d, o < cs.length → its.length ≤ c → c ≤ maxLen → (its.flatMap f ++ d).length = c * sz → bH P W0 fn args (pt b (ag (cs.set o (.slice (some ⟨g, 0, none⟩) its.length c)) T) :: pt g (ag (its.flatMap f ++ d) E) :: R) Post) : bH P W0 fn args (nG T E sz f o b (its, cs) :: R) Post :=
  t8 fun a c m => nv (List.Perm.swap _ _ _) (xq (fun j e => by
      have := cQ k its;rw [e] at this;have i : its.length = 0 := by
        grind
      exact absurd (QaE i) l)
    (fun g n p d j e i s q => by
      cases j
      exact nv (List.Perm.swap _ _ _) (h g _ d m e i q)))
theorem kI {g c xs sp} [d : Tk pt b A (ag cs' T) R1] [r : Tk pt g R1 (ag (xs ++ sp) E) R2] (h : ∀ x, (f x).length = sz) (i : xs = its.flatMap f) (a : cs' = cs.set o (.slice (some ⟨g, 0, none⟩) n c)) (j : o < cs.length) (l : n = its.length) (m : n ≤ c) (p : c ≤ maxLen) (q : (xs ++ sp).length = c * sz) [k : Ent R2 B] : Ent A (nG T E sz f o b (its, cs) :: B) := by
 subst l; subst i; subst a;have e : Ent R1 (osl E sz (.slice (some ⟨g, 0, none⟩) its.length c) (its.flatMap f) :: B) := fC m p (cQ h its) q;exact (Ent.ofPerm d.perm).trans ((Ent.cons e).trans (g5 (R := B) (C := [_, _]) ⟨j, _, c, rfl⟩))
theorem xY [hk : Tk (nG T E sz f o) b A (its, cs) R] {i v} (k : i ≠ o) (h : cs[i]? = some v) : kg (aT W0 A) b i v := fun w (e : Own W0 w A) => by
 obtain ⟨C, ⟨l, a, c, rfl⟩, d⟩ := (e.tk (r := nG T E sz f o) (b := b)).chk;have g : Own W0 w (pt b (ag (cs.set o (.slice a its.length c)) T) :: (osl E sz (.slice a its.length c) (its.flatMap f) :: R)) := d;have j : kg (aT W0 (pt b (ag (cs.set o (.slice a its.length c)) T) :: (osl E sz (.slice a its.length c) (its.flatMap f) :: R))) b i v := aJ (by grind);exact j w g
theorem E7 [hk : Tk (nG T E sz f o) b A (its, cs) R] {i v} (c : i ≠ o) (h : cs[i]? = some v) : bF (aT W0 A) b i [v] := fun j u a => by
 match j, a with
 | 0, a => rw [← Qbg a]; exact xY (o := o) (f := f) (T := T) (E := E) (sz := sz) c h
 | j + 1, a => cases a
end
theorem XL {α : Type} (f : α → Value) (l : List α) : (l.flatMap fun x => [f x]) = l.map f := by
 induction l with
 | nil => rfl
 | cons x l a => rw [QaX, a]; rfl
theorem XM {α : Type} {f k} (a : ∀ x, (f x).length = k) (its : List α) (sp : List Value) i (b : i < its.length) : i * k + k ≤ (its.flatMap f ++ sp).length := by
 have := Qcs k (show i + 1 ≤ its.length by omega);rw [Qce] at this;rw [Qae, cQ a]; omega
structure HpO (W0 : World) (α : Type) [Hk α] where
  T : TypeId
  p : Value
  el : α → Value
  H : List α → HP
  fL : FuncId
  fE : FuncId
  fS : FuncId
  fU : FuncId
  fO : FuncId
  mL : ∀ w, (method (Tryz.prog.types.size + Made.depth) T p "Len").run Tryz.prog w = .ok (fL, p) w
  mE : ∀ w, (method (Tryz.prog.types.size + Made.depth) T p "Less").run Tryz.prog w = .ok (fE, p) w
  mS : ∀ w, (method (Tryz.prog.types.size + Made.depth) T p "Swap").run Tryz.prog w = .ok (fS, p) w
  mU : ∀ w, (method (Tryz.prog.types.size + Made.depth) T p "Push").run Tryz.prog w = .ok (fU, p) w
  mO : ∀ w, (method (Tryz.prog.types.size + Made.depth) T p "Pop").run Tryz.prog w = .ok (fO, p) w
  cL : ∀ args w, (callFunc fL args).run Tryz.prog w = .ok (.enter fL args) w
  cE : ∀ args w, (callFunc fE args).run Tryz.prog w = .ok (.enter fE args) w
  cS : ∀ args w, (callFunc fS args).run Tryz.prog w = .ok (.enter fS args) w
  cU : ∀ args w, (callFunc fU args).run Tryz.prog w = .ok (.enter fU args) w
  cO : ∀ args w, (callFunc fO args).run Tryz.prog w = .ok (.enter fO args) w
  sL : ∀ R l, bH Tryz.prog W0 fL [p] (kH 0 (H l) :: R) (fun v B => v = .int .i64 (l.length : Nat) ∧ B = kH 0 (H l) :: R)
  sE : ∀ R l (i j : Nat), i < l.length → j < l.length → bH Tryz.prog W0 fE [p, .int .i64 i, .int .i64 j] (kH 0 (H l) :: R) (fun v B => v = .bool (decide (Hp.us l i < Hp.us l j)) ∧ B = kH 0 (H l) :: R)
  sS : ∀ R l (i j : Nat), i < l.length → j < l.length → bH Tryz.prog W0 fS [p, .int .i64 i, .int .i64 j] (kH 0 (H l) :: R) (fun v B => v = .tuple #[] ∧ B = kH 0 (H (Hp.swapL l i j)) :: R)
  sU : ∀ R l x, l.length < 1000 → bH Tryz.prog W0 fU [p, el x] (kH 0 (H l) :: R) (fun v B => v = .tuple #[] ∧ B = kH 0 (H (l ++ [x])) :: R)
  sO : ∀ R l x, bH Tryz.prog W0 fO [p] (kH 0 (H (l ++ [x])) :: R) (fun v B => v = el x ∧ B = kH 0 (H l) :: R)
namespace Hp
variable {W0 : World} {α : Type} [Hk α] (o : HpO W0 α)
def iv : Value := .iface o.T o.p
theorem E8 {j : Nat} (h : j < 1000) : IntKind.wrap .i64 (Int.tdiv (j - 1) 2) = ((j - 1) / 2 : Nat) := by
 grind [Int.tdiv_eq_ediv_of_nonneg, bS]
theorem vV R its j n (i : n ≤ its.length) (k : n < 1000) (f : j < n) (b : Up its j n) : sP W0 210 [iv o, iQ j] (kH 0 (o.H its) :: R) (fun v B => v = .tuple #[] ∧ ∃ a, B = kH 0 (o.H a) :: R ∧ a.Perm its ∧ Heap a n ∧ ∀ x, n ≤ x → a.getD x default = its.getD x default) := by
 refine am func210 ntmps210 ?_;refine d7 (fun X : List α × Nat => X.1.Perm its ∧ X.2 < n ∧ Up X.1 X.2 n ∧ ∀ x, n ≤ x → X.1.getD x default = its.getD x default) (fun X => [(0, iv o), (1, iQ X.2)]) (fun X => kH 0 (o.H X.1) :: R) (fun X => X.2) (its, j) ?_ ?_;simp_all;intro ⟨l, j⟩ ⟨c, f, b, g⟩;have d := c.length_eq;simp only at f b g c d ⊢;refine aw ?_;refine aa gW ?_;refine aa (lZ rfl rfl (by decide) (E8 (by omega))) ?_;refine cv (fun e => ?_) fun e => ?_;refine bK (.inr rfl) .nil ?_;exact ⟨_, ⟨rfl, l, rfl, c, xT b (by omega), g⟩, IO⟩;refine ah (fT rfl o.mE o.cE rfl (o.sE _ l j ((j - 1) / 2) (by omega) (by omega))) ?_;refine aD rfl (fun h => ?_) fun h => ?_;refine au 5 ?_;refine bK (.inr rfl) .nil ?_;exact ⟨_, ⟨rfl, l, rfl, c, xT b (by omega), g⟩, IO⟩;replace h : us l j < us l ((j - 1) / 2) := by omega
 refine aw ?_;refine ah (fT rfl o.mS o.cS rfl (o.sS _ l ((j - 1) / 2) j (by omega) (by omega))) ?_;exact bM (swapL l ((j - 1) / 2) j, (j - 1) / 2) (⟨(kF (by omega) (by omega)).trans c, by show (j - 1) / 2 < n; omega, E1 b (by omega) f (by omega) h, xW (by omega) f (by omega) g⟩)
theorem vW R its i0 n (F : n ≤ its.length) (G : n < 1000) (I : i0 ≤ n) (J : jF its i0 n) : sP W0 273 [iv o, iQ i0, iQ n] (kH 0 (o.H its) :: R) (fun v B => ∃ l m, v = .bool m ∧ B = kH 0 (o.H l) :: R ∧ Down its l i0 n m) := by
 refine am NO ntmps273 ?_;refine d7 (fun X : List α × Nat => X.1.Perm its ∧ i0 ≤ X.2 ∧ jF X.1 X.2 n ∧ (∀ x, n ≤ x → X.1.getD x default = its.getD x default) ∧ (X.2 = i0 → X.1 = its) ∧ (i0 < X.2 → us X.1 ((X.2 - 1) / 2) ≤ us X.1 X.2) ∧ X.2 ≤ n) (fun X => [(0, iv o), (1, iQ i0), (2, iQ n), (7, iQ X.2)]) (fun X => kH 0 (o.H X.1) :: R) (fun X => n - X.2) (its, i0) ?_ ?_;simp_all;intro ⟨l, i⟩ ⟨h, f, s, t, y, z, A⟩;have k := h.length_eq;simp only at h f s t y z A k ⊢;refine aw ?_;refine aa uh ?_;refine aa (ee (2 * i + 1)) ?_;refine cv (fun p => ?_) fun p => ?_;refine ae ?_;refine ⟨_, ⟨l, decide (i0 < i), by simp [aO], rfl, xV h f s t y z ?_⟩, IO⟩
 first | (intro c b d e; exfalso; omega) | (intro c b d e; have := a c b d e; simp at g; omega)
 refine aD rfl (fun u => ?_) fun u => ?_;omega;refine au 8 ?_;refine dw (fun j : Nat => (j - 1) / 2 = i ∧ 0 < j ∧ j < n ∧ ∀ c, c < n → 0 < c → (c - 1) / 2 = i → us l j ≤ us l c) (fun j => [(0, iv o), (1, iQ i0), (2, iQ n), (7, iQ i), (9, iQ j)]) (fun j => kH 0 (o.H l) :: R) ?_ ?_;refine au 3 ?_;refine aa (ee (2 * i + 2)) ?_;refine ci (fun q => ?_) fun q => ?_;refine ah (fT rfl o.mE o.cE rfl (o.sE _ l (2 * i + 2) (2 * i + 1) (by omega) (by omega))) ?_;refine ai (fun w => ?_) fun w => ?_;refine bY (2 * i + 2) ?_;refine ⟨by omega, by omega, by omega, fun c b d e => ?_⟩;have : c = 2 * i + 1 ∨ c = 2 * i + 2 := by omega
 rcases this with rfl | rfl <;> (first | omega | (simp at w; omega) | (simp at u; omega))
 refine bY (2 * i + 1) ?_;refine ⟨by omega, by omega, by omega, fun c b d e => ?_⟩;have : c = 2 * i + 1 ∨ c = 2 * i + 2 := by omega
 rcases this with rfl | rfl <;> (first | omega | (simp at w; omega) | (simp at u; omega))
 refine bY (2 * i + 1) ?_;refine ⟨by omega, by omega, by omega, fun c b d e => ?_⟩;have : c = 2 * i + 1 ∨ c = 2 * i + 2 := by omega
 rcases this with rfl | rfl <;> (first | omega | (simp at w; omega) | (simp at u; omega))
 intro j ⟨E, C, r, a⟩;refine aw ?_;refine ah (fT rfl o.mE o.cE rfl (o.sE _ l j i (by omega) (by omega))) ?_;refine aD rfl (fun g => ?_) fun g => ?_;refine au 15 ?_;refine ae ?_;refine ⟨_, ⟨l, decide (i0 < i), by simp [aO], rfl, xV h f s t y z ?_⟩, IO⟩
 first | (intro c b d e; exfalso; omega) | (intro c b d e; have := a c b d e; simp at g; omega)
 replace g : us l j < us l i := by simpa using g
 refine aw ?_;refine ah (fT rfl o.mS o.cS rfl (o.sS _ l i j (by omega) (by omega))) ?_;refine bM (swapL l i j, j) ?_ (hμ := ?_);have D := E0 s (by omega) r E C g a;exact ⟨(kF (by omega) (by omega)).trans h, by show i0 ≤ j; omega, D.1, xW (by omega) r (by omega) t, by show j = i0 → _; omega, fun _ => D.2, by show j ≤ n; omega⟩;show n - j < n - i; omega
theorem E9 {its} {x : α} (h : Heap its its.length) : Up (its ++ [x]) its.length (its.length + 1) := by
 have e : ∀ c, c < its.length → us (its ++ [x]) c = us its c := fun c a => by
  unfold us; simp only [Qau]; rw [QaB a]
 intro c a b;refine ⟨fun d => ?_, fun d f => by omega⟩;rw [e c (by omega), e _ (by omega)]; exact h c (by omega) b
theorem heapPush_spec R its x (g : its.length < 900) (d : Heap its its.length) : sP W0 149 [iv o, o.el x] (kH 0 (o.H its) :: R) (fun v B => v = .tuple #[] ∧ ∃ a, B = kH 0 (o.H a) :: R ∧ a.Perm (its ++ [x]) ∧ Heap a a.length) := by
 have e : (its ++ [x]).length = its.length + 1 := by simp
 refine am func149 ntmps149 ?_;refine ah (fT rfl o.mU o.cU rfl (o.sU _ its x (by omega))) ?_;refine ah (fT rfl o.mL o.cL rfl (o.sL _ (its ++ [x]))) ?_;refine aa (o8 its.length) ?_;refine aG rfl (ao Cs (vV o _ (its ++ [x]) its.length (its.length + 1) (by omega) (by omega) (by omega) (E9 d))) ?_;rintro _ _ ⟨rfl, f, rfl, c, b, _⟩;refine aw ?_;refine bK (.inr rfl) .nil ?_;exact ⟨_, ⟨rfl, f, rfl, c, by rw [c.length_eq, e]; exact b⟩, IO⟩
theorem xZ {l : List α} {n} (h : l.length = n + 1) : ∃ b x, l = b ++ [x] ∧ b.length = n ∧ x = l.getD n default := by
 have a : l ≠ [] := fun e => by rw [e] at h; simp at h
 refine ⟨l.dropLast, l.getLast a, (List.dropLast_concat_getLast a).symm, by simp [h], ?_⟩;rw [List.getLast_eq_getElem];simp [List.getD, h]
theorem y3 {l} {x : α} {n} (h : Heap (l ++ [x]) n) (a : n ≤ l.length) : Heap l n :=
  E2 (fun i b => by simp only [Qau]; rw [QaB (by omega)]) h
theorem heapPop_spec R its (D : its.length < 900) (g : its ≠ []) (p : Heap its its.length) : sP W0 196 [iv o] (kH 0 (o.H its) :: R) (fun v B => ∃ x a, v = o.el x ∧ B = kH 0 (o.H a) :: R ∧ (a ++ [x]).Perm its ∧ Heap a a.length ∧ ∀ y ∈ its, Hk.ky x ≤ Hk.ky y) := by
 obtain ⟨n, E⟩ : ∃ n, its.length = n + 1 := ⟨its.length - 1, by have := Qcy.2 g; omega⟩
 have q : jF (swapL its 0 n) 0 n := fun c i g => ⟨fun r s => by
  rw [kW (by omega) (by omega), kW (by omega) (by omega), Qab s, Qab r, Qab (by omega), Qab (by omega)]
  exact p c (by omega) g, fun _ h => by omega⟩
 have t := xR its 0 n;refine am func196 ntmps196 ?_;refine ah (fT rfl o.mL o.cL rfl (o.sL _ its)) ?_;refine aa (o8 n) ?_;refine ah (fT rfl o.mS o.cS rfl (o.sS _ its 0 n (by omega) (by omega))) ?_;refine aG rfl (ao zu (vW o _ (swapL its 0 n) 0 n (by omega) (by omega) (by omega) q)) ?_;rintro _ _ ⟨l, m, rfl, rfl, b⟩;have u := b.perm.length_eq;obtain ⟨f, x, rfl, j, w⟩ := xZ (l := l) (n := n) (by omega);have k : x = its.getD 0 default := by
  rw [w, b.tail n (Qao _), rS (by omega) (by omega)]; split
  rename_i e; subst e; rfl
  rw [Qad rfl]
 have z : (f ++ [x]).Perm its := b.perm.trans (kF (by omega) (by omega));have A : Heap (f ++ [x]) n := by
  cases m with
  | true => exact b.yes rfl
  | false =>
   obtain ⟨e, d⟩ := b.no rfl;rw [e]; exact xS q d (fun h => absurd h (by omega))
 refine aw ?_;refine ah (fT rfl o.mO o.cO rfl (o.sO _ f x)) ?_;refine ae ?_;refine ⟨_, ⟨x, f, rfl, rfl, z, by rw [j]; exact y3 A (by omega), fun y C => ?_⟩, IO⟩;obtain ⟨c, i, rfl⟩ := Qbb.1 C;have := heap_min p c i;rw [us_eq i] at this;rw [k]; exact this
end Hp
theorem IV {a : Nat} (h : a < 9223372036854775808) : (BitVec.ofInt 64 a).toNat = a := by
 grind
theorem XN {a b : Nat} (c : a < 9223372036854775808) (d : b < 9223372036854775808) : eu .i64 a b = (a &&& b) := by
 have h : a &&& b < 9223372036854775808 := QaH Qbv c;show IntKind.wrap .i64 ((BitVec.ofInt 64 (a : Int) &&& BitVec.ofInt 64 (b : Int)).toNat : Int) = _;rw [BitVec.toNat_and, IV c, IV d, bS (by omega)]
theorem XO {a b : Nat} (m : a < 9223372036854775808) (n : b < 9223372036854775808) : rz .i64 a b = (a - (a &&& b) : Nat) := by
 have d : a &&& b ≤ a := Qbv;generalize f : BitVec.ofInt 64 (a : Int) = x;generalize g : BitVec.ofInt 64 (b : Int) = y;have h : x.toNat = a := by grind
 have j : y.toNat = b := by grind
 have e : (x &&& ~~~ y).toNat = a - (a &&& b) := by
  have c : (x &&& ~~~ y) &&& (x &&& y) = 0#64 := by
   grind
  have k : (x &&& ~~~ y) + (x &&& y) = x := by
   rw [BitVec.add_eq_or_of_and_eq_zero _ _ c];ext i hi;simp only [BitVec.getElem_or, BitVec.getElem_and, BitVec.getElem_not];cases x[i] <;> cases y[i] <;> rfl
  have l := Qak BitVec.toNat k;rw [BitVec.toNat_add_of_and_eq_zero c, BitVec.toNat_and x y, h, j] at l;omega
 show IntKind.wrap .i64 ((BitVec.ofInt 64 (a : Int) &&& ~~~ BitVec.ofInt 64 (b : Int)).toNat : Int) = _;rw [f, g, e, bS (by omega)]
def mT (l : Int) : Bool := decide (0 ≤ l ∧ l < 256)
theorem rT {l} : mT l = true ↔ 0 ≤ l ∧ l < 256 := by simp [mT]
def oZ (a b : Int) : Bool := mT a && mT b && decide (a.toNat - (a.toNat &&& b.toNat) = 0)
theorem As {a b} (h : ¬ (mT a = true ∧ mT b = true)) : oZ a b = false := by
 simp_all [Qat, oZ, Qar]
theorem IW {a b} (d : a < 256) : a - (a &&& b) = 0 ↔ ∀ c, c < 8 → a.testBit c = true → b.testBit c = true := by
 have f : a &&& b ≤ a := Qbv;constructor;intro h c _ g;have e : a &&& b = a := by omega
 have := Qak (fun n => n.testBit c) e;simp only [Nat.testBit_and, g, Qbe] at this;exact this;intro h;have e : a &&& b = a := by
  apply Nat.eq_of_testBit_eq;intro i;rw [Nat.testBit_and];by_cases j : i < 8;grind;have : a.testBit i = false := Nat.testBit_lt_two_pow (QcD d (Qcu (n := 2) (by decide) (show 8 ≤ i by omega)));rw [this]; rfl
 omega
theorem Ea l : sQ W0 185 [iQ l] R (.bool (mT l)) R := by
 refine am func185 ntmps185 ?_;refine ci (fun a => ?_) fun a => ?_;refine ae ?_;refine aI ?_;refine Qak Value.bool ?_;rw [Qag]; simp only [mT, Qai, Qaq, QaU]; omega;refine ae ?_;refine aI ?_;refine Qak Value.bool ?_;rw [Qag]; simp only [mT, Qai, Qaq, QaU]; omega
theorem XP a b : bH Tryz.prog W0 107 [.int .i64 a, .int .i64 b] R (fun v B => v = .bool (oZ a b) ∧ B = R) := by
 refine kS func107 ntmps107 rfl rfl ?_;refine aQ (aY (ac rfl (bj rfl) (aP (aH (aQ (aY (ac rfl (aM rfl) (aG rfl (iR NP rfl (Ea a)) ?_))))))));rintro _ g ⟨rfl, f⟩;obtain rfl := f.symm;refine ac rfl (aM rfl) ?_;refine i6 rfl rfl rfl (fun c => ?_) fun c => ?_;refine ac rfl (aM rfl) ?_;refine cz rfl rfl (aG rfl (iR NP rfl (Ea b)) ?_);rintro _ g ⟨rfl, f⟩;obtain rfl := f.symm;refine ac rfl (jO rfl rfl) (ac rfl (aM rfl) ?_);refine i6 rfl rfl rfl (fun d => ?_) fun d => ?_;obtain ⟨x, rfl, h⟩ : ∃ x : Nat, a = (x : Int) ∧ x < 256 := ⟨a.toNat, by have := rT.1 c; omega, by have := rT.1 c; omega⟩
 obtain ⟨y, rfl, i⟩ : ∃ y : Nat, b = (y : Int) ∧ y < 256 := ⟨b.toNat, by have := rT.1 d; omega, by have := rT.1 d; omega⟩
 refine ac rfl (aM rfl) (cz rfl rfl (ac rfl (aM rfl) (cz rfl rfl ?_)));refine ac rfl (zM rfl rfl (XO (by omega) (by omega))) ?_;refine cz rfl rfl (ac rfl (i5 rfl rfl) (ac rfl (jO rfl rfl) (ac rfl (bj rfl) (aP (aH (dv (bK (.inl rfl) (.cons (aN rfl) .nil) ?_)))))));refine ⟨_, ⟨?_, rfl⟩, IO⟩
 first
   | (rw [e]; rfl)
   | (refine Qak Value.bool ?_
      rw [Qag, Qba, oZ, c, d, Qaf, Qaf];simp only [Bool.and_self, Qbe, Qaj]
      omega)
 have e := As (a := a) (b := b) (fun q => d q.2);refine eN rfl rfl rfl rfl (eN rfl rfl rfl rfl (eN rfl rfl rfl rfl (ac rfl (fp rfl rfl) (ac rfl (bj rfl) (aP (aH (dv (bK (.inl rfl) (.cons (aN rfl) .nil) ?_))))))));refine ⟨_, ⟨?_, rfl⟩, IO⟩
 first
   | (rw [e]; rfl)
   | (refine Qak Value.bool ?_
      rw [Qag, Qba, oZ, c, d, Qaf, Qaf];simp only [Bool.and_self, Qbe, Qaj]
      omega)
 have e := As (a := a) (b := b) (fun q => c q.1);refine eN rfl rfl rfl rfl (ac rfl (fp rfl rfl) (ac rfl (aM rfl) (eN rfl rfl rfl rfl (eN rfl rfl rfl rfl (eN rfl rfl rfl rfl (eN rfl rfl rfl rfl (ac rfl (fp rfl rfl) (ac rfl (bj rfl) (aP (aH (dv (bK (.inl rfl) (.cons (aN rfl) .nil) ?_))))))))))));refine ⟨_, ⟨?_, rfl⟩, IO⟩
 first
   | (rw [e]; rfl)
   | (refine Qak Value.bool ?_
      rw [Qag, Qba, oZ, c, d, Qaf, Qaf];simp only [Bool.and_self, Qbe, Qaj]
      omega)
theorem IX l : sQ W0 369 [iQ l] R (.bool (mT l)) R := by
 refine am func369 ntmps369 ?_;refine ci (fun a => ?_) fun a => ?_;refine ae ?_;refine aI ?_;refine Qak Value.bool ?_;rw [Qag]; simp only [mT, Qai, Qaq, QaU]; omega;refine ae ?_;refine aI ?_;refine Qak Value.bool ?_;rw [Qag]; simp only [mT, Qai, Qaq, QaU]; omega
theorem IY (l c : Nat) (d : l < 256) (e : c < 8) : sQ W0 370 [iQ l, iQ c] R (.bool (l.testBit c)) R := by
 have f : l / 2 ^ c < 256 := QaH (QbP _ _) d;refine am func370 ntmps370 ?_;refine aa (j8 rfl rfl (by omega) (jS (k := .i64) (a := l) (s := c) (by show c ≤ 64; omega))) ?_;refine aa (eT rfl rfl (XN (a := l / 2 ^ c) (b := 1) (by omega) (by decide))) ?_;refine ae ?_;refine aI ?_;refine Qak Value.bool ?_;rw [Qag, Qba, show (l / 2 ^ c) &&& 1 = l / 2 ^ c % 2 from rH (a := l / 2 ^ c) (n := 1), Nat.testBit_eq_decide_div_mod_eq, Qaj];omega
theorem XQ a b : sQ W0 329 [iQ a, iQ b] R (.bool (oZ a b)) R := by
 refine am func329 ntmps329 ?_;refine ah (aC call369 (IX a)) ?_;refine cv (fun e => ?_) fun e => ?_;refine ae ?_;refine aI ?_;rw [As (fun q => by simp_all)] <;> rfl;refine ah (aC call369 (IX b)) ?_;refine ai (fun k => ?_) fun k => ?_;refine ae ?_;refine aI ?_;rw [As (fun q => by simp_all)] <;> rfl;have f : mT a = true := by grind
 have g : mT b = true := by grind
 obtain ⟨x, rfl, h⟩ : ∃ x : Nat, a = (x : Int) ∧ x < 256 := ⟨a.toNat, by have := rT.1 f; omega, by have := rT.1 f; omega⟩
 obtain ⟨y, rfl, l⟩ : ∃ y : Nat, b = (y : Int) ∧ y < 256 := ⟨b.toNat, by have := rT.1 g; omega, by have := rT.1 g; omega⟩
 refine d7 (fun i : Nat => i ≤ 8 ∧ ∀ c, c < i → x.testBit c = true → y.testBit c = true) (fun i => [(0, iQ x), (1, iQ y), (5, iQ i)]) (fun i => R) (fun i => 8 - i) 0 ?_ ?_;grind;intro i ⟨o, m⟩;refine aw ?_;refine ai (fun n => ?_) fun n => ?_;refine ah (aC call370 (IY x i h (by omega))) ?_;refine ci (fun d => ?_) fun d => ?_;refine ah (aC call370 (IY y i l (by omega))) ?_;refine ai (fun j => ?_) fun j => ?_;refine ae ?_;refine aI ?_;refine Qak Value.bool (QcW ?_);rw [← Qat, oZ];intro q;simp only [Qar, Qaj, Qaf] at q;exact j ((IW h).1 q.2 i (by omega) d);refine aa co ?_;refine bM (i + 1) ?_;grind;refine aa co ?_;refine bM (i + 1) ?_;grind;refine ae ?_;refine aI ?_;refine Qak Value.bool (QcW ?_);rw [oZ, f, g];simp only [Bool.and_self, Qbe, Qaj, Qaf];exact (IW h).2 fun c p => m c (by omega)
section
variable {rd : Option Nat} {P : Program} {S : World → Prop} {W0 : World} {N : FSz} {Q : Exit → Act → World → Prop} {e : b0} {A B R : List HP} {ops : Array Oper} {rest : List Oper}
variable {op : Op} {ty t t' : TypeId} {pos : String} {af : Array Edge} {v u : Value} {d b off : Nat} {x y z : Operand} {l l' vs : List Value}
variable {α : Type} {sz : Nat} {f : α → List Value} {xs : List α} {a : Option Addr}
theorem vX {k m n r ats} (c : ev e x = some (.int k m)) (d : ev e y = some (.int k n)) (f : (if n > m then n else m) = r) : bR P S N e (.call { callee := .builtin .max, args := #[x, y], argTypes := ats }) (.int k r) := fun a w _ _ _ _ _ b _ => by
 simp [execOp, resolve, invoke, builtin, b.eval c, b.eval d, Builtin.max_, Builtin.max2, f]
def lu (a : Option Addr) (c i sz : Nat) : Option Addr := if c = i then a else a.map (·.add (i * sz))
theorem XR {E n c sz : Nat} {k k'} {i h : Nat} {j1 j2} (g : P.underlying t = some (.slice E)) (j : ∀ w, (sizeOf E).run P w = .ok sz w) (l : ev e x = some (.slice a n c))
    {lo hi} (m : ev e lo = some (.int k j1)) (o : ev e hi = some (.int k' j2)) (p : j1 = i) (q : j2 = h) (b : i ≤ h) (d : h ≤ c) :
    bR P S N e (.slice t x (some lo) (some hi) none) (.slice (lu a c i sz) (h - i) (c - i)) := fun r w _ _ _ _ _ f _ => by
 subst p; subst q;simp [execOp, Instr.sliceAt, Instr.slice, f.eval l, f.eval m, f.eval o, fq g, Instr.sliceBounds, rF d, rF b, j, lu]
theorem cF.sub (h : cF S a sz f xs) {c i k} (hk : i + k ≤ xs.length) (m : xs.length ≤ c) : cF S (lu a c i sz) sz f ((xs.drop i).take k) := fun j x g => by
 have d : j < k := by
  grind
 rw [QbW d, Qcl] at g;obtain ⟨b, e, rfl, l⟩ := h (i + j) x g;refine ⟨b, e + i * sz, ?_, ?_⟩;grind [lu, jA];grind
theorem cF.take (h : cF S a sz f xs) k : cF S a sz f (xs.take k) := fun j x c => by
 have b : j < k := by
  grind
 rw [QbW b] at c;exact h j x c
theorem cF.src (h : cF S a sz f xs) (e : ∀ x, (f x).length = sz) (g : a = none → True) : (xs = []) ∨ ∃ b c, a = some ⟨b, c, none⟩ ∧ bF S b c (xs.flatMap f) := by
 by_cases d : xs = [];exact .inl d;exact .inr (h.all d e)
theorem Av {E n m c u by_ : Nat} {ay info z an xs news} (H : P.underlying t = some (.slice E))
    (I : P.info? E = some info) (hz : info.zero = some z) (J : info.size = sz) (L : info.bytes = by_) (M : z.cells.size = sz) (C : 0 < sz)
    (O : ev e x = some (.slice an n c)) (S : ev e y = some (.slice ay m u)) [h : Tk (osl E sz) (.slice an n c) A xs R]
    (d : m = 0 ∨ ∃ l o, ay = some ⟨l, o, none⟩ ∧ bF (aT W0 A) l o news) (T : news.length = m * sz) (h1 : fy news = true) (U : n + m ≤ maxLen) (D : (n + m) * by_ ≤ 140737488355328) :
    df P W0 N e A (.call { callee := .builtin .append, args := #[x, y], argTypes := #[t, t] }) (fun v B => ∃ V W, v = .slice V (n + m) W ∧ B = osl E sz v (xs ++ news) :: R) := by
 rcases d with rfl | ⟨l, o, rfl, hc⟩;have X : news = [] := QaE (by omega);subst X;intro p w q F s Y g K Q G Z k;have f := Z.tk (r := osl E sz) (b := .slice an n c);have i : n ≤ c := by
  rcases f.osl with ⟨k1, _, _⟩ | ⟨_, _, _, _, k1, k2, _⟩;grind;grind
 have j : (Builtin.append_ #[t, t] F #[.slice an n c, .slice ay 0 u]).run P w = .ok (.slice an n c) w := by
  cases an <;> cases ay <;> simp [Builtin.append_, fq H, sizeOf, typeInfo, I, Builtin.lenOf, Builtin.firstCells, i, loadCells, loadCellsFrom, storeCells]
 unfold Oper.wp;have a : (execOp p.eval { dst := q, op := .call { callee := .builtin .append, args := #[x, y], argTypes := #[t, t] }, type := F, pos := s, after := Y, guard := g }).run P w = .ok (.value (.slice an n c)) w := by
  simp only [execOp, resolve, invoke, builtin, Sem.run_bind, Sem.run_pure, Result.andThen_ok, Qcz, QaL, Qcf, G.eval O, G.eval S, j]
 rw [a];exact k _ w _ ⟨an, c, rfl, by rw [Qaw]⟩ f;grind [eW]
end
section
variable {P : Program} {S : World → Prop} {W0 : World} {N : FSz} {e : b0} {A R : List HP} {t ty : TypeId} {b off : Nat} {x : Operand} {l : List Value}
theorem vY {E n c sz o' : Nat} {k} {i : Nat} {j1} (h : P.underlying t = some (.slice E)) (j : ∀ w, (sizeOf E).run P w = .ok sz w) (l : ev e x = some (.slice (some ⟨b, off, none⟩) n c))
    {lo} (m : ev e lo = some (.int k j1)) (o : j1 = i) (d : i ≤ n) (p : i < c) (q : off + i * sz = o') :
    bR P S N e (.slice t x (some lo) none none) (.slice (some ⟨b, o', none⟩) (n - i) (c - i)) := fun a w _ _ _ _ _ g _ => by
 subst o; subst q;have f : ¬ c = i := by omega
 simp [execOp, Instr.sliceAt, Instr.slice, g.eval l, g.eval m, fq h, Instr.sliceBounds, rF d, j, f, jA]
theorem rU {E n c sz : Nat} {k} {i : Nat} {j1 a a'} (f : P.underlying t = some (.slice E)) (g : ∀ w, (sizeOf E).run P w = .ok sz w) (h : ev e x = some (.slice a n c))
    {lo} (j : ev e lo = some (.int k j1)) (l : j1 = i) (b : i ≤ n) (m : lu a c i sz = a') :
    bR P S N e (.slice t x (some lo) none none) (.slice a' (n - i) (c - i)) := fun o w _ _ _ _ _ d _ => by
 subst l; subst m;simp [execOp, Instr.sliceAt, Instr.slice, d.eval h, d.eval j, fq f, Instr.sliceBounds, rF b, g, lu]
theorem IZ z n : (Builtin.zeroCells z n).toList.length = n * z.size := by simp [Builtin.zeroCells]
theorem XS z n (c : z.all Value.oneCell' = true) : ∀ v ∈ (Builtin.zeroCells z n).toList, v.oneCell' = true := fun v b => by
 simp only [Builtin.zeroCells, Qci, Qbc, Array.toList_range, QbB] at b;obtain ⟨i, e, rfl⟩ := b;have d : 0 < z.size := by
  grind
 have a : i % z.size < z.size := Qcb _ d;rw [getElem!_pos z (i % z.size) a];exact (Array.all_eq_true.1 c) _ a
theorem Eb {E n c : Nat} {z} (y : P.underlying t = some (.slice E)) (C : ∀ w, (zeroValue E).run P w = .ok z w) (D : z.cells.all Value.oneCell' = true) (F : ev e x = some (.slice (some ⟨b, off, none⟩) n c)) (J : 0 < n)
    [h : Tk pt b A (ag l ty) R] (L : off + n * z.cells.size ≤ l.length) :
    df P W0 N e A (.call { callee := .builtin .clear, args := #[x], argTypes := #[t] }) (fun v B => ∃ s, s.length = n * z.cells.size ∧ v = .tuple #[] ∧ B = pt b (ag (dk l off s) ty) :: R) := by
 intro a w i j o G g K Q H I k;have p := I.tk (r := pt) (b := b);obtain ⟨u, q, d⟩ := zO (P := P) (off := off) (Builtin.zeroCells z.cells n).toList 0 p (by rw [IZ]; omega) (XS _ _ D);rw [QbK] at d;have f : (execOp a.eval { dst := i, op := .call { callee := .builtin .clear, args := #[x], argTypes := #[t] }, type := j, pos := o, after := G, guard := g }).run P w = .ok (.value (.tuple #[])) u := by
  obtain ⟨m, rfl⟩ : ∃ m, n = m + 1 := ⟨n - 1, by omega⟩
  simp only [execOp, resolve, invoke, builtin, Sem.run_bind, Sem.run_pure, Result.andThen_ok, Qcz, QaL, Qcf, H.eval F, Builtin.clear_, Qcn, QbR, QbE, fq y, C, q]
 unfold Oper.wp;rw [f];exact k _ u _ ⟨_, IZ _ _, rfl, rfl⟩ d
section
variable {rd : Option Nat} {Q : Exit → Act → World → Prop} {ops : Array Oper} {rest : List Oper} {pos : String} {af : Array Edge} {d : Nat} {y : Operand}
theorem XT {xc yc} (k : ax W0 N (yc.wpR rd P Q) e A) : ax W0 N ((Code.cond (.const (.bool false)) xc yc).wpR rd P Q) e A :=
  fun a w b c => wpIn_cond_false (b.eval (x := .const (.bool false)) rfl) (k a w b c)
theorem XU {k i} {j : Nat} {s} (c : P.underlying t = some .string) (d : ev e x = some (.string s)) (f : ev e y = some (.int k i)) (g : i = j) hj :
    bR P S N e (.index t x y) (.int .u8 (s[j]'hj).toNat) := fun a w _ _ _ _ _ b _ => by
 subst g;have h : (0 : Int) ≤ (j : Int) := by omega
 simp only [execOp, Instr.index, Sem.run_bind, b.eval d, b.eval f, asIntOf, Sem.run_pure, Result.andThen_ok, fq c, Qad h, Qaf, getElem?_pos s j hj]
theorem XV {k i} {j : Nat} {s} (a : Nat.blt d N.n = true) (b : P.underlying t = some .string) (c : ev e x = some (.string s)) (f : ev e y = some (.int k i)) (g : i = j) (h : j < s.size)
    (l : ∀ m : Nat, m < 256 → ax W0 N (cn rd P ops Q rest) ((d, .int .u8 m) :: e) A) :
    ax W0 N (cn rd P ops Q ({ dst := some d, op := .index t x y, type := ty, pos := pos, after := af, guard := none } :: rest)) e A :=
  ac a (XU b c f g h) (l _ (UInt8.toNat_lt _))
end
end
section
variable {P : Program} {W0 : World} {N : FSz} {e : b0} {A R R1 R2 R3 R4 R5 R6 R7 : List HP} {vs us cs : List Value}
variable {K1 K2 K3 K4 K5 K6 K7 K8 X1 X2 X3 X4 X5 X6 X7 X8 : Type} {r1 : K1 → X1 → HP} {b1 : K1} {x1 : X1} {r2 : K2 → X2 → HP} {b2 : K2} {x2 : X2} {r3 : K3 → X3 → HP} {b3 : K3} {x3 : X3} {r4 : K4 → X4 → HP} {b4 : K4} {x4 : X4} {r5 : K5 → X5 → HP} {b5 : K5} {x5 : X5} {r6 : K6 → X6 → HP} {b6 : K6} {x6 : X6} {r7 : K7 → X7 → HP} {b7 : K7} {x7 : X7} {r8 : K8 → X8 → HP} {b8 : K8} {x8 : X8}
theorem J0 [a : Tk r1 b1 A x1 R1] [b : Tk r2 b2 R1 x2 R2] [c : Tk r3 b3 R2 x3 R3] [d : Tk r4 b4 R3 x4 R4] [e : Tk r5 b5 R4 x5 R5] [f : Tk r6 b6 R5 x6 R6] [g : Tk r7 b7 R6 x7 R] : A.Perm (r1 b1 x1 :: r2 b2 x2 :: r3 b3 x3 :: r4 b4 x4 :: r5 b5 x5 :: r6 b6 x6 :: r7 b7 x7 :: R) := a.perm.trans (xx.cons _)
theorem XW [a : Tk r1 b1 A x1 R1] [b : Tk r2 b2 R1 x2 R2] [c : Tk r3 b3 R2 x3 R3] [d : Tk r4 b4 R3 x4 R4] [e : Tk r5 b5 R4 x5 R5] [f : Tk r6 b6 R5 x6 R6] [g : Tk r7 b7 R6 x7 R7] [h : Tk r8 b8 R7 x8 R] : A.Perm (r1 b1 x1 :: r2 b2 x2 :: r3 b3 x3 :: r4 b4 x4 :: r5 b5 x5 :: r6 b6 x6 :: r7 b7 x7 :: r8 b8 x8 :: R) := a.perm.trans (J0.cons _)
variable {f : FuncId} {xs : Array Operand} {ats : Array TypeId} {Post : Value → List HP → Prop}
theorem J1 (b : ∀ a w, (callFunc f a).run P w = .ok (.enter f a) w) (c : gj e xs.toList = some vs)
    (d : bH P W0 f vs (r1 b1 x1 :: r2 b2 x2 :: r3 b3 x3 :: r4 b4 x4 :: r5 b5 x5 :: r6 b6 x6 :: r7 b7 x7 :: R) Post) [g : Tk r1 b1 A x1 R1] [h : Tk r2 b2 R1 x2 R2] [i : Tk r3 b3 R2 x3 R3] [j : Tk r4 b4 R3 x4 R4] [k : Tk r5 b5 R4 x5 R5] [l : Tk r6 b6 R5 x6 R6] [m : Tk r7 b7 R6 x7 R] : df P W0 N e A (.call { callee := .value (.func f), args := xs, argTypes := ats }) Post :=
  km J0 (iR b c d)
theorem y4 (b : ∀ a w, (callFunc f a).run P w = .ok (.enter f a) w) (c : gj e xs.toList = some vs)
    (d : bH P W0 f vs (r1 b1 x1 :: r2 b2 x2 :: r3 b3 x3 :: r4 b4 x4 :: r5 b5 x5 :: r6 b6 x6 :: r7 b7 x7 :: r8 b8 x8 :: R) Post) [g : Tk r1 b1 A x1 R1] [h : Tk r2 b2 R1 x2 R2] [i : Tk r3 b3 R2 x3 R3] [j : Tk r4 b4 R3 x4 R4] [k : Tk r5 b5 R4 x5 R5] [l : Tk r6 b6 R5 x6 R6] [m : Tk r7 b7 R6 x7 R7] [n : Tk r8 b8 R7 x8 R] : df P W0 N e A (.call { callee := .value (.func f), args := xs, argTypes := ats }) Post :=
  km XW (iR b c d)
end
structure Prt where
  lab : Int
  gu : Int
  l : List ByteArray
instance : Inhabited Prt := ⟨⟨0, 0, []⟩⟩
section
variable {P : Program} {W0 : World} {N : FSz} {K : Act → World → Prop} {e : b0} {A B R R1 R2 R3 R4 : List HP} {p g n : Nat} {ps : List Prt} {f : FuncId} {args : List Value} {Post : Value → List HP → Prop}
theorem J2 {α : Type} : ∀ (l : List α) (i : Nat) (h : i < l.length), l.Perm (l[i] :: l.eraseIdx i)
 | x :: l, 0, h => by simp
 | x :: l, i + 1, h => by
  simp only [List.getElem_cons_succ, QcA];exact ((J2 l i (by simpa using h)).cons x).trans (List.Perm.swap _ _ _)
theorem J3 {α : Type} : ∀ (l : List α) (i : Nat) (x : α) (h : i < l.length), (x :: l.eraseIdx i).Perm (l.set i x)
 | y :: l, 0, x, h => by simp
 | y :: l, i + 1, x, h => by
  simp only [Qck, QcA];exact (List.Perm.swap _ _ _).trans ((J3 l i x (by simpa using h)).cons y)
theorem XX {L i} h : Ent (kH 2 (cu L) :: R) (L[i] :: kH 3 (cu (L.eraseIdx i)) :: R) := by
 refine (qg (A := L) (R := R)).trans ?_;refine (Ent.ofPerm ((J2 L i h).append_right R)).trans ?_;exact Ent.cons qi
theorem XY {L : List HP} {i x} (h : i < L.length) : Ent (x :: kH 3 (cu (L.eraseIdx i)) :: R) (kH 2 (cu (L.set i x)) :: R) := by
 refine (Ent.cons qg).trans ?_;exact (Ent.ofPerm ((J3 L i x h).append_right R)).trans qi
end
theorem Aw {vs : List Value} {i v} (h : vs[i]? = some v) : vs.set i v = vs := by
 have a : i < vs.length := by
  rcases QaD i vs.length with k | k;exact k;rw [Qbl k] at h; cases h
 have : vs[i] = v := by simpa [a] using h
 rw [← this]; exact QbS _
@[reducible] def fG (x : Int × Bool) : List Value := [.int .i64 x.1, .bool x.2]
theorem Ax x : (fG x).length = 2 := rfl
@[reducible] def kY (n : Nat) : List Value := [.int .i64 (n : Int)]
theorem nI n : (kY n).length = 1 := rfl
def eG (p : Value × List Nat) : HP := osl 3 1 p.1 (p.2.flatMap kY)
@[reducible] def gr (ps : Nat) (sv : Value) (vs : List Value) : List Value := .pointer (some ⟨ps, 0, none⟩) :: sv :: vs
theorem J4 ps w sv v vs : (gr ps sv vs).set (2 + w * 1) v = gr ps sv (vs.set w v) := by
 grind
abbrev jf (w : Nat) : Nat → List Nat × List Value → HP := nG 176 3 1 kY (2 + w * 1)
def cW (pb : Nat) (x : Nat × Po) : HP := chk (fun C => ∃ a c vs Ls, vs.length = 16 ∧ LsOk x.2 Ls ∧ C = [pt pb (ag (gr x.1 (.slice a x.2.length c) vs) 176), osl 178 2 (.slice a x.2.length c) (x.2.flatMap fG), kH 2 (cu ((vs.zip Ls).map eG))])
theorem XZ {F R B} (h : ∀ C, F C → Ent (C ++ R) B) : Ent (chk F :: R) B := ⟨fun l a => by
 obtain ⟨l1, l2, rfl, ⟨C, hC, hs⟩, h2⟩ := a
 exact (h C hC).out _ (jz.append.2 ⟨l1, l2, rfl, hs, h2⟩)⟩
section
variable {P : Program} {W0 : World} {N : FSz} {K : Act → World → Prop} {e : b0} {A B R R1 R2 R3 : List HP} {pb ps w n : Nat} {po : Po} {f : FuncId} {args : List Value} {Post : Value → List HP → Prop}
theorem vZ [hk : Tk cW pb A (ps, po) R] (h : ∀ a c d f, d.length = 16 → LsOk po f → ax W0 N K e (pt pb (ag (gr ps (.slice a po.length c) d) 176) :: osl 178 2 (.slice a po.length c) (po.flatMap fG) :: kH 2 (cu ((d.zip f).map eG)) :: R)) : ax W0 N K e A :=
  gk (r := cW) (b := pb) (nu fun C g => by obtain ⟨a, c, d, f, i, j, rfl⟩ := g; exact h a c d f i j)
theorem J5 (h : ∀ a c b d, b.length = 16 → LsOk po d → bH P W0 f args (pt pb (ag (gr ps (.slice a po.length c) b) 176) :: osl 178 2 (.slice a po.length c) (po.flatMap fG) :: kH 2 (cu ((b.zip d).map eG)) :: R) Post) : bH P W0 f args (cW pb (ps, po) :: R) Post :=
  qq fun C e => by obtain ⟨a, c, b, d, g, i, rfl⟩ := e; exact h a c b d g i
theorem w0 {a c vs xs Ls sv} [b : Tk pt pb A (ag (gr ps sv vs) 176) R1] [d : Tk (osl 178 2) sv R1 xs R2] [e : Tk kH 2 R2 (cu ((vs.zip Ls).map eG)) R3]
    (f : sv = .slice a n c) (g : vs.length = 16) (h : LsOk po Ls) (i : n = po.length) (j : xs = po.flatMap fG) [k : Ent R3 B] : Ent A (cW pb (ps, po) :: B) := by
 subst f; subst i; subst j;exact (Ent.ofPerm (b.perm.trans ((d.perm.trans (e.perm.cons _)).cons _))).trans ((Ent.cons (Ent.cons (Ent.cons k))).trans (g5 (R := B) (C := [_, _, _]) ⟨a, c, vs, Ls, g, h, rfl⟩))
theorem Ay {sv vs Ls} (G : w < 16) (p : vs.length = 16) (x : Ls.length = 16) :
    Ent (pt pb (ag (gr ps sv vs) 176) :: kH 2 (cu ((vs.zip Ls).map eG)) :: R) (jf w pb (Ls.getD w [], gr ps sv vs) :: kH 3 (cu (((vs.zip Ls).map eG).eraseIdx w)) :: R) := by
 have q : ((vs.zip Ls).map eG).length = 16 := by simp [p, x]
 have y : ((vs.zip Ls).map eG)[w]'(by omega) = osl 3 1 (vs.getD w undef) ((Ls.getD w []).flatMap kY) := by
  grind [eG]
 have s := XX (L := (vs.zip Ls).map eG) (R := R) (i := w) (by omega);rw [y] at s;refine (Ent.cons s).trans ?_;generalize z : vs.getD w undef = v;have A : vs[w]? = some v := by grind
 refine ⟨fun l B => ?_⟩;obtain ⟨f, H, rfl, C, d, h, rfl, t, D⟩ := B;have e : ∀ a c, v = .slice a (Ls.getD w []).length c → ∃ u r, jz (jf w pb (Ls.getD w [], gr ps sv vs) :: kH 3 (cu (((vs.zip Ls).map eG).eraseIdx w)) :: R) u ∧ (f ++ (d ++ h)).Perm (u ++ r) := fun a c j => by
  have k : (gr ps sv vs).set (2 + w * 1) (.slice a (Ls.getD w []).length c) = gr ps sv vs := by
   grind [J4, Aw]
  refine ⟨(f ++ d) ++ h, [], ⟨f ++ d, h, rfl, ⟨_, ⟨by simp [gr, p]; omega, a, c, rfl⟩, ?_⟩, D⟩, by simp⟩;rw [k, ← j];exact ⟨f, d, rfl, C, d, [], by simp, t, rfl⟩
 rcases id t with ⟨m, E, _⟩ | ⟨g, n, o, I, m, _, _, F, _, _⟩;have b : (Ls.getD w []).length = 0 := by
  have := Qak List.length E;rw [cQ nI] at this; simpa using this
 exact e none 0 (by rw [m, b]);have b : (Ls.getD w []).length = n := by rw [cQ nI] at F; omega
 exact e (some ⟨g, 0, none⟩) o (by rw [m, b])
theorem Az {a c sv vs Ls l po'} (p : w < 16) (h : vs.length = 16) (i : sv = .slice a n c) (j : n = po'.length) (k : Ls.length = 16) (hk : LsOk po' (Ls.set w l)) :
    Ent (jf w pb (l, gr ps sv vs) :: osl 178 2 sv (po'.flatMap fG) :: kH 3 (cu (((vs.zip Ls).map eG).eraseIdx w)) :: R) (cW pb (ps, po') :: R) := by
 refine XZ fun C m => ?_;obtain ⟨q, b, d, rfl⟩ := m;have e : (gr ps sv vs).set (2 + w * 1) (.slice b l.length d) = gr ps sv (vs.set w (.slice b l.length d)) := J4 ..;dsimp only;rw [e];have f : ((vs.zip Ls).map eG).length = 16 := by simp [h, k]
 have g : ((vs.set w (.slice b l.length d)).zip (Ls.set w l)).map eG = ((vs.zip Ls).map eG).set w (eG (.slice b l.length d, l)) := by
  apply QaS;simp;grind
 have o : Ent (eG (.slice b l.length d, l) :: kH 3 (cu (((vs.zip Ls).map eG).eraseIdx w)) :: R) (kH 2 (cu (((vs.set w (.slice b l.length d)).zip (Ls.set w l)).map eG)) :: R) := by
  grind [XY]
 refine (Ent.ofPerm ((List.Perm.swap _ _ _).cons _)).trans ?_;refine (Ent.cons (Ent.cons o)).trans ?_;exact w0 (vs := vs.set w (.slice b l.length d)) i (by grind) hk j rfl
end
theorem Ec po sp i j (a : i < po.length) (b : j < 2) : (po.flatMap fG ++ sp)[i * 2 + j]? = (fG (dp po i))[j]? := by
 simp_all [mF, Ax, dp]
theorem Y0 (po : Po) sp i v (a : i < po.length) : (po.flatMap fG ++ sp).set (i * 2 + 0) (iQ v) = (po.set i (v, (dp po i).2)).flatMap fG ++ sp :=
  qp Ax po i 0 _ _ sp a (by decide) (by grind [dp])
theorem J6 (po : Po) sp i v (a : i < po.length) : (po.flatMap fG ++ sp).set (i * 2 + 1) (.bool v) = (po.set i ((dp po i).1, v)).flatMap fG ++ sp :=
  qp Ax po i 1 _ _ sp a (by decide) (by grind [dp])
theorem qK (po : Po) : (po.flatMap fG).length = po.length * 2 := cQ Ax po
abbrev t9 (pb w : Nat) : Value := .pointer (some ⟨pb, 2 + w * 1, none⟩)
theorem uF {its : List Nat} {sp i} (a : i < its.length) : (its.flatMap kY ++ sp)[i * 1]? = some (iQ (its.getD i default)) := by
 have := mF nI its i 0 sp a (by decide);rw [QbK] at this;rw [this]; simp [kY, List.getD, a]
theorem AA {its : List Nat} {sp} {i x : Nat} (a : i < its.length) : (its.flatMap kY ++ sp).set (i * 1) (iQ x) = (its.set i x).flatMap kY ++ sp := by
 have := qp nI its i 0 (iQ (x : Int)) x sp a (by decide) (by simp [kY])
 rwa [QbK] at this
theorem AB {its : List Nat} {sp i} (a : i < its.length) : i * 1 + 1 ≤ (its.flatMap kY ++ sp).length := XM nI its sp i a
theorem AC pb w its cs : sQ W0 195 [t9 pb w] (jf w pb (its, cs) :: R) (iQ its.length) (jf w pb (its, cs) :: R) := by
 refine t8 fun a c b => ?_;refine am func195 ntmps195 ?_;refine aa (aF (aJ (fe b))) ?_;refine ae ?_;exact ⟨_, ⟨rfl, rfl⟩, nH rfl rfl b rfl⟩
theorem Y1 pb w its cs (i k : Nat) (d : i < its.length) (hk : k < its.length) : sQ W0 496 [t9 pb w, iQ i, iQ k] (jf w pb (its, cs) :: R) (.bool (decide (Hp.us its i < Hp.us its k))) (jf w pb (its, cs) :: R) := by
 refine qJ nI (by grind) (by decide) fun g c j b e f h => ?_;refine am func496 ntmps496 ?_;refine bc [pb, g] 16 fun a => ?_;refine aj 0 3 a ?_;refine az 3 a (aF (cp (k := 0) rfl (fe b))) ?_;refine aj 4 1 a ?_;refine az 5 a (bI d) ?_;refine az 6 a (aF (cp (k := 1) rfl (uF d))) ?_;refine aj 7 3 a ?_;refine az 10 a (aF (cp (k := 0) rfl (fe b))) ?_;refine aj 11 1 a ?_;refine az 12 a (bI hk) ?_;refine az 13 a (aF (cp (k := 1) rfl (uF hk))) ?_;refine aj 14 2 a ?_;refine aK ?_;refine ae ?_;exact ⟨_, ⟨rfl, rfl⟩, kI nI rfl rfl b rfl e f h⟩
theorem Y2 pb w its cs (i k : Nat) (b : i < its.length) (hk : k < its.length) : sQ W0 499 [t9 pb w, iQ i, iQ k] (jf w pb (its, cs) :: R) (.tuple #[]) (jf w pb (Hp.swapL its i k, cs) :: R) := by
 refine qJ nI (by grind) (by decide) fun g c h d j f e => ?_;refine am func499 ntmps499 ?_;refine bc [pb] 28 fun a => ?_;refine aj 0 3 a ?_;refine az 3 a (aF (cp (k := 0) rfl (fe d))) ?_;refine aj 4 4 a ?_;refine az 8 a (aF (cp (k := 0) rfl (fe d))) ?_;refine aj 9 4 a ?_;refine az 13 a (aF (cp (k := 0) rfl (fe d))) ?_;refine aj 14 1 a ?_;refine az 15 a (bI hk) ?_;refine aj 17 3 a ?_;refine az 20 a (aF (cp (k := 0) rfl (fe d))) ?_;refine aj 21 1 a ?_;refine az 22 a (bI b) ?_;refine fP (is := [16, 23]) (by kernel_rfl) rfl ⟨?_, ?_, trivial⟩;refine dL (dP (aF (aJ (uF hk)))) ?_; clear a;rintro _ _ ⟨rfl, rfl⟩;refine ⟨aV, fun a => ?_⟩;refine bG 23 (dP (aF (aJ (uF b)))) fun a => ?_;refine az 24 a (bI b) ?_;refine cj 25 (du (AB b) (AA b)) fun a => ?_;refine az 26 a (bI hk) ?_;refine cj 27 (du (AB (by grind)) (AA (by grind))) fun a => ?_;refine aK ?_;refine bK (.inr rfl) .nil ?_;exact ⟨_, ⟨rfl, rfl⟩, kI nI rfl rfl d (by simp [Hp.swapL]) (by omega) f (by rw [Qae, cQ nI] at e ⊢; simpa [Hp.swapL] using e)⟩;skip;refine dL (dP (aF (aJ (uF b)))) ?_; clear a;rintro _ _ ⟨rfl, rfl⟩;refine ⟨aV, fun a => ?_⟩;refine bG 16 (dP (aF (aJ (uF hk)))) fun a => ?_;refine az 24 a (bI b) ?_;refine cj 25 (du (AB b) (AA b)) fun a => ?_;refine az 26 a (bI hk) ?_;refine cj 27 (du (AB (by grind)) (AA (by grind))) fun a => ?_;refine aK ?_;refine bK (.inr rfl) .nil ?_;exact ⟨_, ⟨rfl, rfl⟩, kI nI rfl rfl d (by simp [Hp.swapL]) (by omega) f (by rw [Qae, cQ nI] at e ⊢; simpa [Hp.swapL] using e)⟩
theorem Y3 pb w its (x : Nat) cs : sQ W0 497 [t9 pb w] (jf w pb (its ++ [x], cs) :: R) (.iface 3 (iQ x)) (jf w pb (its, cs) :: R) := by
 refine qJ nI (by simp) (by decide) fun g c d b h e j => ?_;have k : (its ++ [x]).length = its.length + 1 := by simp
 rw [k] at h ⊢;have l : (its ++ [x]).getD its.length default = x := by grind
 have f : (its ++ [x]).flatMap kY ++ d = its.flatMap kY ++ (kY x ++ d) := by simp
 have a := uF (its := its ++ [x]) (sp := d) (i := its.length) (by omega);rw [l] at a;refine am func497 ntmps497 ?_;refine aa (aF (aJ (fe b))) ?_;refine aa (jo rfl rfl (by rw [bS (by simp only [maxLen] at e; omega)]; omega : IntKind.wrap .i64 (((its.length + 1 : Nat) : Int) - 1) = ((its.length : Nat) : Int))) ?_;refine aa (aF (aJ (fe b))) ?_;refine aa (bI (by omega)) ?_;refine aa (aF (aJ a)) ?_;refine aa (aF (aJ (fe b))) ?_;refine aa (oM fZ aR rfl rfl rfl (by omega)) ?_;refine av (du (by rw [Qam]; exact b) set_set) ?_;refine ae ?_;rw [f];exact ⟨_, ⟨rfl, rfl⟩, kI (sp := kY x ++ d) nI rfl rfl b rfl (by omega) e (by rw [← f]; exact j)⟩
theorem Y4 pb w its (x : Nat) cs (j : its.length < 1000) : sQ W0 498 [t9 pb w, .iface 3 (iQ x)] (jf w pb (its, cs) :: R) (.tuple #[]) (jf w pb (its ++ [x], cs) :: R) := by
 refine t8 fun a c d => ?_;have e : its.flatMap kY ++ [Value.int .i64 (x : Int)] = (its ++ [x]).flatMap kY := by simp
 refine kS func498 ntmps498 rfl rfl ?_;refine bc [] 12 fun b => ?_;refine aj 0 4 b ?_;refine aj 5 1 b ?_;refine az 6 b (sK jL (fun _ h => by cases h) rfl) ?_;refine fP (is := [4, 7]) (by kernel_rfl) rfl ⟨?_, ?_, trivial⟩;refine dL (dP (aF (aJ (fe d)))) ?_; clear b;rintro _ _ ⟨rfl, rfl⟩;refine ⟨aV, fun b => ?_⟩;refine lN 7 (by kernel_rfl) rfl rfl (kl fZ aR np rfl rfl rfl rfl rfl (by decide) (by decide)) rfl ?_; clear b;rintro _ _ ⟨f, rfl, rfl⟩;refine ⟨aV, fun b => ?_⟩;refine bX 8 (eW (sz := 1) (by_ := 8) (info := Tryz.t3) fZ (by kernel_rfl) rfl rfl rfl rfl (by decide) rfl rfl eK rfl rfl (by simp only [maxLen]; omega) (by omega)) ?_; clear b;rintro _ _ ⟨g, i, rfl, rfl⟩;refine ⟨aV, fun b => ?_⟩;refine aj 9 2 b ?_;refine cj 11 (du (by grind) set_set) fun b => ?_;refine gC ?_;refine bK (.inr rfl) .nil ?_;exact ⟨_, ⟨rfl, rfl⟩, nH (its := its ++ [x]) e rfl d (by simp)⟩;skip;refine mD rfl rfl (kl fZ aR np rfl rfl rfl rfl rfl (by decide) (by decide)) rfl ?_; clear b;rintro _ _ ⟨f, rfl, rfl⟩;refine ⟨aV, fun b => ?_⟩;refine bG 4 (dP (aF (aJ (fe d)))) fun b => ?_;refine bX 8 (eW (sz := 1) (by_ := 8) (info := Tryz.t3) fZ (by kernel_rfl) rfl rfl rfl rfl (by decide) rfl rfl eK rfl rfl (by simp only [maxLen]; omega) (by omega)) ?_; clear b;rintro _ _ ⟨g, i, rfl, rfl⟩;refine ⟨aV, fun b => ?_⟩;refine aj 9 2 b ?_;refine cj 11 (du (by grind) set_set) fun b => ?_;refine aK ?_;refine bK (.inr rfl) .nil ?_;exact ⟨_, ⟨rfl, rfl⟩, nH (its := its ++ [x]) e rfl d (by simp)⟩
section
variable (w : World) (a : Addr)
theorem Y5 : (method (Tryz.prog.types.size + Made.depth) 292 (.pointer (some a)) "Len").run Tryz.prog w = .ok (195, .pointer (some a)) w := by kernel_rfl
theorem Y6 : (method (Tryz.prog.types.size + Made.depth) 292 (.pointer (some a)) "Less").run Tryz.prog w = .ok (496, .pointer (some a)) w := by kernel_rfl
theorem Y7 : (method (Tryz.prog.types.size + Made.depth) 292 (.pointer (some a)) "Swap").run Tryz.prog w = .ok (499, .pointer (some a)) w := by kernel_rfl
theorem Y8 : (method (Tryz.prog.types.size + Made.depth) 292 (.pointer (some a)) "Push").run Tryz.prog w = .ok (498, .pointer (some a)) w := by kernel_rfl
theorem Y9 : (method (Tryz.prog.types.size + Made.depth) 292 (.pointer (some a)) "Pop").run Tryz.prog w = .ok (497, .pointer (some a)) w := by kernel_rfl
end
def J7 (W0 : World) (pb w : Nat) (cs : List Value) : HpO W0 Nat where
  T := 292
  p := t9 pb w
  el := fun x => .iface 3 (.int .i64 (x : Int))
  H := fun l => jf w pb (l, cs)
  fL := 195
  fE := 496
  fS := 499
  fU := 498
  fO := 497
  mL := fun u => Y5 u _
  mE := fun u => Y6 u _
  mS := fun u => Y7 u _
  mU := fun u => Y8 u _
  mO := fun u => Y9 u _
  cL := Gx
  cE := call496
  cS := call499
  cU := call498
  cO := call497
  sL := fun R l => AC pb w l cs
  sE := fun R l i j hi hj => Y1 pb w l cs i j hi hj
  sS := fun R l i j hi hj => Y2 pb w l cs i j hi hj
  sU := fun R l x hl => Y4 pb w l x cs hl
  sO := fun R l x => Y3 pb w l x cs
theorem Ya pb w its (x : Nat) cs (b : its.length < 900) (c : Hp.Heap its its.length) : sP W0 149 [.iface 292 (t9 pb w), .iface 3 (iQ x)] (jf w pb (its, cs) :: R) (fun v B => v = .tuple #[] ∧ ∃ a, B = jf w pb (a, cs) :: R ∧ a.Perm (its ++ [x]) ∧ Hp.Heap a a.length) :=
  Hp.heapPush_spec (J7 W0 pb w cs) R its x b c
theorem Yb pb w its cs (b : its.length < 900) (c : its ≠ []) (d : Hp.Heap its its.length) : sP W0 196 [.iface 292 (t9 pb w)] (jf w pb (its, cs) :: R) (fun v B => ∃ x a, v = .iface 3 (iQ (x : Nat)) ∧ B = jf w pb (a, cs) :: R ∧ (a ++ [x]).Perm its ∧ Hp.Heap a a.length ∧ ∀ y ∈ its, x ≤ (y : Int)) :=
  Hp.heapPop_spec (J7 W0 pb w cs) R its b c d
def ek : Value := .slice none 0 0
end
end Go.Proofs.YtofillmoflhijaaGreatDoor
