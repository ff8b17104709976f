/-
  Part 2 of the proof of GuestAnew: rules, and walks of functions. Conditions: none.
-/
import Derived.Test.YtbhimdcapbflkaaGreatDoorGuestAnewA
namespace Go.Proofs.YtbhimdcapbflkaaGreatDoor
open Go.Proofs.Tryz
set_option linter.unusedSimpArgs false
set_option linter.unusedVariables false
set_option maxRecDepth 20000
set_option linter.defProp false
set_option synthInstance.maxSize 8192
set_option synthInstance.maxHeartbeats 2000000
variable {W0 : World} {R : List HP}
section
open Go.RowKit
theorem A6 {c} (h : c ≤ maxLen) : c < 9223372036854775808 := by simp only [maxLen] at h; omega
theorem Ih {l sp i k w} (h : i + k ≤ l.length) : d7 (bS l ++ sp) i (bS (lm k w)) = bS (mJ l i k w) ++ sp := by
 grind [I1, gz, vC, Wt]
def A7 (a : Option Addr) (n c : Nat) : Value := .tuple #[.slice a n c, .int .i64 0]
def Dq : Value := .tuple #[.slice none 0 0, .int .i64 1]
theorem WV W0 R g off c l (i k w : Nat) (p : w < 4294967296) (q : bC (aQ W0 R) g off (bS l)) (j : eI l.length i k = true) (r : l.length ≤ 1000000) : sP W0 199 [.slice (some ⟨g, off, none⟩) l.length c, iQ i, iQ k, .int .u32 w] R (fun v B => ∃ d a, v = A7 d l.length a ∧ B = osl 5 1 (.slice d l.length a) (bS (mJ l i k w)) :: R) := by
 have x := i7.1 j
 refine am func199 ntmps199 ?_
 refine aD rfl (aC call275 (If g off c l q r)) ?_
 rintro _ y ⟨d, a, rfl, e⟩
 obtain rfl := e.symm
 refine au 4 ?_
 refine km (fun h _ => by have := (Value.slice.inj h).2.1; omega) fun b z s t u m n A C => ?_
 cases u
 have f : kt b 0 l.length i k = .tuple #[.slice (some ⟨b, i, none⟩) k k, .bool true] := by simp [kt, j]
 refine aw ?_
 refine jO (aC GB (Dp b 0 l.length a i k m (A6 n))) ?_
 rw [f]
 refine aw ?_
 refine aA rfl (fun o => ?_) fun o => ?_
 exact absurd o (by simp)
 refine aw ?_
 refine ah (ap call276 (WU b i k k 5 (bS l ++ t) w p (by omega) (by omega))) ?_
 rw [Ih (by omega)]
 refine az ?_
 exact ⟨_, ⟨_, a, rfl, rfl⟩, fk m n (by grind [gz, ue]) (by grind [Qaf, gz, ue])⟩
theorem WW W0 R g off c l at_ k (w : Nat) (h : bC (aQ W0 R) g off (bS l)) (i : eI l.length at_ k = false) (j : l.length ≤ 1000000) : sQ W0 199 [.slice (some ⟨g, off, none⟩) l.length c, iQ at_, iQ k, .int .u32 w] R Dq R := by
 refine am func199 ntmps199 ?_
 refine aD rfl (aC call275 (If g off c l h j)) ?_
 rintro _ n ⟨b, d, rfl, a⟩
 obtain rfl := a.symm
 refine aw ?_
 obtain ⟨e, m⟩ : ∃ e, e = osl 5 1 (.slice b l.length d) (bS l) :: R := ⟨_, rfl⟩
 refine ah (aC GB (WQ b l.length d at_ k i (by omega))) ?_
 refine ai (fun f => ?_) fun f => ?_
 exact az ao
 exact absurd f (by simp)
theorem WX W0 R g off c l (a k w : Nat) (y : w < 4294967296) (o : bC (aQ W0 R) g off (bS l)) (j : eI l.length a k = true) (z : l.length ≤ 1000000) : sP W0 201 [.slice (some ⟨g, off, none⟩) l.length c, iQ a, iQ k, .int .u32 w] R (fun v B => ∃ e b, v = A7 e l.length b ∧ B = osl 5 1 (.slice e l.length b) (bS (mJ l a k w)) :: R) := by
 have A := i7.1 j
 refine am func201 ntmps201 ?_
 refine ah (aC GC (A5 _ l.length c a k (by omega))) ?_
 refine aA rfl (fun m => ?_) fun m => ?_
 exact absurd m (by simp [j])
 refine jd (aH (aO (aX (aD rfl (vx m0 px rfl) ?_))))
 rintro _ _ ⟨C, rfl, rfl⟩
 refine aw ?_
 refine aD rfl (et (sz := 1) (by_ := 1) (info := Tryz.t5) m0 (by kernel_rfl) rfl rfl rfl rfl (by decide) rfl rfl o.weak ((gz l).trans (QaB _).symm) (Dl l) (by simp only [maxLen]; omega) (by omega)) ?_
 rintro _ D ⟨e, b, rfl, f⟩
 obtain rfl := f.symm
 simp only [Qac, Qaw]
 refine au 5 ?_
 refine km (fun h _ => by have := (Value.slice.inj h).2.1; omega) fun n E p d q r s F t => ?_
 cases q
 refine aw ?_
 refine fM (fun i : Nat => i ≤ k) (fun i => [(1, iQ a), (2, iQ k), (3, .int .u32 w), (10, .slice (some ⟨n, 0, none⟩) l.length b), (11, iQ i)]) (fun i => pt n (ag (d7 (bS l ++ d) a (bS (lm i w))) 5) :: R) (fun i => k - i) 0 ?_ ?_ ?_ ?_
 omega
 · repeat (first | exact bK | refine bc rfl ?_)
 rw [show d7 (bS l ++ d) a (bS (lm 0 w)) = bS l ++ d from rfl]; exact inferInstance
 intro i u
 refine aw ?_
 refine ai (fun x => ?_) fun x => ?_
 refine aa (dU (a + i)) ?_
 refine aa (ko (8 * i)) ?_
 refine aa (j0 rfl rfl (by omega) rfl) ?_
 refine aa (bD (I0 (by omega))) ?_
 refine aa (bJ (by omega)) ?_
 refine ar (dq (by rw [wU, Qaf, gz]; omega) (by rw [HZ, Dj, show bS [w / 256 ^ i % 256] = [bV (w / 256 ^ i % 256)] from rfl, Do, gz, vC, QaB]; rfl : (d7 (bS l ++ d) a (bS (lm i w))).set ((a + i) * 1) _ = d7 (bS l ++ d) a (bS (lm (i + 1) w)))) ?_
 refine aa bY ?_
 exact bR (i + 1) (by omega)
 refine az ?_
 have : i = k := by omega
 subst this
 rw [Ih (by omega)]
 exact ⟨_, ⟨_, b, rfl, rfl⟩, fk r s (by rw [gz, ue (by omega), QaB]) (by rw [← t, Qaf, Qaf, gz, gz, ue (by omega)])⟩
theorem WY a n c at_ k (w : Nat) (d : eI n at_ k = false) (e : n ≤ 1000000) : sQ W0 201 [.slice a n c, iQ at_, iQ k, .int .u32 w] R Dq R := by
 refine am func201 ntmps201 ?_
 refine ah (aC GC (A5 _ n c at_ k (by omega))) ?_
 refine ai (fun b => ?_) fun b => ?_
 exact az ao
 exact absurd b (by simp [d])
abbrev aB := List Nat
def nz (x : aB) : List Value := (List.range 64).map (fun i => bV (x.getD i 0))
theorem Dr x : (nz x).length = 64 := by simp [nz]
theorem Ii {x} (h : x.length = 64) : nz x = bS x := by
 apply QaP
 simp [nz, bS, h]
 grind [bS, nz]
def cB (fr : List aB) : Prop := ∀ x ∈ fr, x.length = 64 ∧ By x
theorem cB.get {fr} (h : cB fr) {f} (a : f < fr.length) : (fr.getD f []).length = 64 ∧ By (fr.getD f []) := by
 have : fr.getD f [] = fr[f] := by grind
 rw [this]; exact h _ (QaG a)
theorem cB.set {fr} (h : cB fr) {f} {y : aB} (a : y.length = 64 ∧ By y) : cB (fr.set f y) := fun x b => by
 rcases Qco b with c | rfl
 exact h x c
 exact a
theorem Ds {fr} (h : cB fr) {f} (a : f < fr.length) : ((fr.flatMap nz).drop (f * 64)).take 64 = bS (fr.getD f []) := by
 have := q9 Dr fr f [] a
 rw [Qav] at this
 rw [this, Ii (h _ (QaG a)).1]; simp [List.getD, a]
theorem Ij {a : List aB} {f} {y : aB} (b : f < a.length) (c : y.length = 64) : d7 (a.flatMap nz) (f * 64) (bS y) = (a.set f y).flatMap nz := by
 have := vq Dr a f y [] b
 rw [Qav, Qav, Ii c] at this
 exact this
theorem Ik (a : List aB) : (a.flatMap nz).length = a.length * 64 := cJ Dr a
def cm : aB := List.replicate 64 0
theorem Il : cm.length = 64 ∧ By cm := ⟨by simp [cm], fun b a => by have := List.eq_of_mem_replicate a; omega⟩
theorem cB.new n : cB (List.replicate n cm) := fun x a => by rw [List.eq_of_mem_replicate a]; exact Il
theorem Io : ∀ n, (List.replicate n cm).flatMap nz = List.replicate (n * 64) (bV 0)
 | 0 => rfl
 | n + 1 => by
  rw [List.replicate_succ, QaQ, Io n, Qcg, Nat.add_comm, ← List.replicate_append_replicate]
  congr 1
def aY (ps : Nat) (fr : List aB) : HP := chk (fun C => ∃ g, C = [pt ps (ag [.slice (some ⟨g, 0, none⟩) fr.length fr.length, .bool true] 193), pt g (ag (fr.flatMap nz) 315)])
section
variable {P : Program} {W0 : World} {N : FSz} {K : Act → World → Prop} {e : b0} {A B R R1 R2 : List HP} {ps g n : Nat} {fr : List aB} {f : FuncId} {args : List Value} {Post : Value → List HP → Prop} {l : List Value}
theorem WZ (h : ∀ g, bE P W0 f args (pt ps (ag [.slice (some ⟨g, 0, none⟩) fr.length fr.length, .bool true] 193) :: pt g (ag (fr.flatMap nz) 315) :: R) Post) : bE P W0 f args (aY ps fr :: R) Post :=
  qf fun C a => by obtain ⟨g, rfl⟩ := a; exact h g
theorem qp [a : Tk pt ps A (ag [.slice (some ⟨g, 0, none⟩) n n, .bool true] 193) R1] [b : Tk pt g R1 (ag l 315) R2] (c : l = fr.flatMap nz) (d : n = fr.length) [k : Ent R2 B] : Ent A (aY ps fr :: B) := by
 subst c; subst d
 exact (Ent.ofPerm (a.perm.trans (b.perm.cons _))).trans ((Ent.cons (Ent.cons k)).trans (fH (R := B) (C := [_, _]) ⟨g, rfl⟩))
theorem vF [c : Tk aY ps A fr R] (h : ∀ g, av W0 N K e (pt ps (ag [.slice (some ⟨g, 0, none⟩) fr.length fr.length, .bool true] 193) :: pt g (ag (fr.flatMap nz) 315) :: R)) : av W0 N K e A :=
  fT (r := aY) (b := ps) (nv fun C a => by obtain ⟨g, rfl⟩ := a; exact h g)
end
theorem X0 {g off c n l at_ w} (b : l.length = n) (d : bC (aQ W0 R) g off (bS l)) (e : By l) (f : n ≤ c) (a : c < 9223372036854775808) : sQ W0 173 [.slice (some ⟨g, off, none⟩) n c, iQ at_, iQ w] R (.tuple #[.int .u32 (mK l at_ w), iQ (pG l at_ w)]) R := by
 grind [Ie]
theorem X9 {g off c n l} {i k w : Nat} (d : l.length = n) (e : w < 4294967296) (f : bC (aQ W0 R) g off (bS l)) (h : eI n i k = true) (j : n ≤ 1000000) : sP W0 199 [.slice (some ⟨g, off, none⟩) n c, iQ i, iQ k, .int .u32 w] R (fun v B => ∃ a b, v = A7 a n b ∧ B = osl 5 1 (.slice a n b) (bS (mJ l i k w)) :: R) := by
 grind [WV]
theorem Xa {g off c n l at_ k} {w : Nat} (a : l.length = n) (b : bC (aQ W0 R) g off (bS l)) (d : eI n at_ k = false) (e : n ≤ 1000000) : sQ W0 199 [.slice (some ⟨g, off, none⟩) n c, iQ at_, iQ k, .int .u32 w] R Dq R := by
 grind [WW]
theorem Xb (n : Nat) (h : n ≤ 32) : sP W0 33 [iQ n] R (fun v B => ∃ b, v = .tuple #[pQ b, iQ 0] ∧ B = aY b (List.replicate n cm) :: R) := by
 refine am func33 ntmps33 ?_
 refine cy rfl rfl rfl (fun a => ?_) fun a => ?_
 omega
 refine aw ?_
 refine aA rfl (fun c => ?_) fun c => ?_
 omega
 refine aw ?_
 refine dt (vy (sz := 64) (by_ := 64) (info := Tryz.t315) a8h (by kernel_rfl) rfl rfl rfl rfl (by decide) rfl rfl rfl rfl (by omega) (by decide)) fun e => ?_
 refine bz fun d => ?_
 refine az ?_
 exact ⟨_, ⟨d, rfl, rfl⟩, qp (Io n).symm (by simp)⟩
theorem Ip ps fr : sQ W0 175 [pQ ps] (aY ps fr :: R) (.bool false) (aY ps fr :: R) := by
 refine WZ fun g => ?_
 refine am func175 ntmps175 ?_
 refine cy rfl rfl rfl (fun a => ?_) fun a => ?_
 cases a
 refine aw ?_
 refine ac ?_
 exact ⟨_, ⟨by simp [aN], rfl⟩, qp rfl rfl⟩
theorem uf ps fr : sQ W0 95 [pQ ps] (aY ps fr :: R) (iQ fr.length) (aY ps fr :: R) := by
 refine am func95 ntmps95 ?_
 refine ah (ap call175 (Ip ps fr)) ?_
 refine vF (ps := ps) fun g => ?_
 refine aw ?_
 refine ac ?_
 exact ⟨_, ⟨rfl, rfl⟩, qp rfl rfl⟩
def dN (n : Nat) (f : Int) : Bool := decide (0 ≤ f ∧ f < n)
theorem vG ps fr f : sQ W0 172 [pQ ps, iQ f] (aY ps fr :: R) (iQ (if dN fr.length f then 0 else 1)) (aY ps fr :: R) := by
 refine am func172 ntmps172 ?_
 refine ah (ap call175 (Ip ps fr)) ?_
 refine ai (fun c3 => ?_) fun c3 => ?_
 refine ac ?_
 have hf : dN fr.length f = false := by grind [dN]
 first
   | exact ⟨_, ⟨by simp [aN, hf], rfl⟩, qp rfl rfl⟩
   | exact ⟨_, ⟨by simp [aN, hf], rfl⟩, IO⟩
 refine vF (ps := ps) fun g => ?_
 refine aw ?_
 refine ai (fun c4 => ?_) fun c4 => ?_
 refine ac ?_
 have hf : dN fr.length f = false := by grind [dN]
 first
   | exact ⟨_, ⟨by simp [aN, hf], rfl⟩, qp rfl rfl⟩
   | exact ⟨_, ⟨by simp [aN, hf], rfl⟩, IO⟩
 refine ac ?_
 have hf : dN fr.length f = true := by grind [dN]
 exact ⟨_, ⟨by simp [aN, hf], rfl⟩, qp rfl rfl⟩
def jR (fr : List aB) (f off w : Int) : Nat := if dN fr.length f then mK (fr.getD f.toNat []) off w else 0
def vH (fr : List aB) (f off w : Int) : Int := if dN fr.length f then pG (fr.getD f.toNat []) off w else 1
theorem qq {n f} (h : dN n f = true) : ∃ i : Nat, f = i ∧ i < n := by
 simp only [dN, Qaj] at h
 exact ⟨f.toNat, by omega, by omega⟩
theorem Iq ps fr f off w (e : cB fr) : sQ W0 91 [pQ ps, iQ f, iQ off, iQ w] (aY ps fr :: R) (.tuple #[.int .u32 (jR fr f off w), iQ (vH fr f off w)]) (aY ps fr :: R) := by
 by_cases c : dN fr.length f = true
 obtain ⟨i, rfl, d⟩ := qq c
 obtain ⟨h, j⟩ := e.get d
 refine am func91 ntmps91 ?_
 refine ah (ap zp (vG ps fr i)) ?_
 refine ai (fun a => ?_) fun a => ?_
 exact absurd a (by simp [c])
 refine vF (ps := ps) fun g => ?_
 refine aw ?_
 refine aa (bJ d) ?_
 refine aa (A1 Cm px rfl) ?_
 refine ah (aC call173 (X0 h (cV (Ds e d) (by rw [gz, h])) j (by decide) (by decide))) ?_
 refine az ?_
 exact ⟨_, ⟨by simp [aN, jR, vH, c], rfl⟩, qp rfl rfl⟩
 have b : dN fr.length f = false := by grind
 refine am func91 ntmps91 ?_
 refine ah (ap zp (vG ps fr f)) ?_
 refine ai (fun a => ?_) fun a => ?_
 refine az ?_
 exact ⟨_, ⟨by simp [aN, jR, vH, b], rfl⟩, IO⟩
 exact absurd a (by simp [b])
def kL (fr : List aB) (f off w : Int) : Bool := dN fr.length f && eI 64 off w
def eJ (fr : List aB) (f off w : Int) (v : Nat) : List aB := if kL fr f off w then fr.set f.toNat (mJ (fr.getD f.toNat []) off.toNat w.toNat v) else fr
theorem A8 {fr f off w v} (h : cB fr) : cB (eJ fr f off w v) := by
 unfold eJ; split
 rename_i a
 simp only [kL, Qao] at a
 obtain ⟨i, rfl, b⟩ := qq a.1
 obtain ⟨o, k, rfl, rfl, g, c⟩ := rD a.2
 obtain ⟨d, e⟩ := h.get b
 exact h.set ⟨by rw [ue (by grind)]; exact d, Ws e⟩
 exact h
theorem xm {fr f off w v} : (eJ fr f off w v).length = fr.length := by unfold eJ; split <;> simp
theorem Dt ps fr f off w (x : Nat) (u : x < 4294967296) (r : cB fr) : sQ W0 134 [pQ ps, iQ f, iQ off, iQ w, .int .u32 x] (aY ps fr :: R) (iQ (if kL fr f off w then 0 else 1)) (aY ps (eJ fr f off w x) :: R) := by
 by_cases s : dN fr.length f = true
 obtain ⟨i, rfl, d⟩ := qq s
 obtain ⟨q, B⟩ := r.get d
 by_cases l : eI 64 off w = true
 obtain ⟨o, k, rfl, rfl, C, v⟩ := rD l
 have a : kL fr i o k = true := by grind [kL]
 have t : (mJ (fr.getD i []) o k x).length = 64 := by grind [ue]
 refine am O1 ntmps134 ?_
 refine ah (ap zp (vG ps fr i)) ?_
 refine ai (fun b => ?_) fun b => ?_
 exact absurd b (by simp [s])
 refine vF (ps := ps) fun g => ?_
 refine aw ?_
 refine aa (bJ d) ?_
 refine aa (A1 Cm px rfl) ?_
 refine aD rfl (aC call199 (X9 q u (cV (Ds r d) (by rw [gz, q])) l (by decide))) ?_
 rintro _ y ⟨D, E, rfl, e⟩
 obtain rfl := e.symm
 refine ae rfl (aM rfl) (ae rfl (lI rfl rfl) (ae rfl (lI rfl rfl) (ae rfl (bA rfl) (ae rfl (bA rfl) (aL (aH (aO (aO (aX (ae rfl (aM rfl) (ae rfl (nt rfl rfl) (aL (aH ?_)))))))))))))
 refine aA rfl (fun p => ?_) fun p => ?_
 exact absurd p (by simp)
 refine au 3 ?_
 refine km (fun h _ => by have := (Value.slice.inj h).2.1; omega) fun F G z H A I J K L => ?_
 cases A
 refine aw ?_
 refine aa (bJ d) ?_
 refine aa (A1 Cm px rfl) ?_
 refine ah (vz m0 px rfl rfl (m := 64) (vs := bS (mJ (fr.getD i []) o k x)) rfl (cV (n := 64) (by grind) (by omega)) (by omega) (Dl _) (by rw [Ik]; omega) (Ij d t)) ?_
 refine ac ?_
 exact ⟨_, ⟨by simp [aN, a], rfl⟩, qp (by simp [eJ, a]) (by simp [eJ, a])⟩
 have c : eI 64 off w = false := by grind
 have a : kL fr i off w = false := by simp [kL, c]
 refine am O1 ntmps134 ?_
 refine ah (ap zp (vG ps fr i)) ?_
 refine ai (fun b => ?_) fun b => ?_
 exact absurd b (by simp [s])
 refine vF (ps := ps) fun g => ?_
 refine aw ?_
 refine aa (bJ d) ?_
 refine aa (A1 Cm px rfl) ?_
 refine aD rfl (iE call199 rfl (Xa q (cV (Ds r d) (by rw [gz, q])) c (by decide))) ?_
 rintro _ y ⟨rfl, e⟩
 obtain rfl := e.symm
 refine ae rfl (aM rfl) (ae rfl (lI rfl rfl) (ae rfl (lI rfl rfl) (ae rfl (bA rfl) (ae rfl (bA rfl) (aL (aH (aO (aO (aX (ae rfl (aM rfl) (ae rfl (nt rfl rfl) (aL (aH ?_)))))))))))))
 refine aA rfl (fun p => ?_) fun p => ?_
 refine au 8 ?_
 refine ac ?_
 exact ⟨_, ⟨by simp [aN, a], rfl⟩, qp (by simp [eJ, a]) (by simp [eJ, a])⟩
 exact absurd p (by simp)
 have j : dN fr.length f = false := by grind
 have a : kL fr f off w = false := by simp [kL, j]
 refine am O1 ntmps134 ?_
 refine ah (ap zp (vG ps fr f)) ?_
 refine ai (fun b => ?_) fun b => ?_
 refine ac ?_
 rw [show eJ fr f off w x = fr by simp [eJ, a]]
 exact ⟨_, ⟨by simp [aN, j, a], rfl⟩, IO⟩
 exact absurd b (by simp [j])
abbrev Pl := Int × Int
@[reducible] def fV (p : Pl) : List Value := [.int .i64 p.1, .int .i64 p.2]
theorem ug p : (fV p).length = 2 := rfl
def eG (pg : List Pl) (n : Nat) : Pl := pg.getD n (0, 0)
def lp (p : Pl) : Bool := decide (0 ≤ p.1 ∧ p.1 < 32 ∧ 1 ≤ p.2 ∧ p.2 ≤ 3)
structure Pgs (pg : List Pl) : Prop where
  len : pg.length = 12
  ok : ∀ n, n < 12 → eG pg n ≠ (0, 0) → lp (eG pg n) = true
def jg (n : Int) : Bool := decide (0 ≤ n ∧ n < 12)
theorem kM {n} (h : jg n = true) : ∃ i : Nat, n = i ∧ i < 12 := by
 simp only [jg, Qaj] at h
 exact ⟨n.toNat, by omega, by omega⟩
abbrev bB (pg : List Pl) : Obj := ag (pg.flatMap fV ++ [.bool true]) 161
theorem Du {pg sp n} (a : n < pg.length) : ((pg.flatMap fV ++ sp).drop (n * 2)).take 2 = fV (eG pg n) := by
 simp_all [q9, ug, eG]
theorem A9 {pg : List Pl} {sp n p} (a : n < pg.length) : d7 (pg.flatMap fV ++ sp) (n * 2) (fV p) = (pg.set n p).flatMap fV ++ sp := vq ug pg n p sp a
theorem Ir (a : List Pl) sp : (a.flatMap fV ++ sp).length = a.length * 2 + sp.length := by rw [Qaf, cJ ug]
theorem Xc {a : List Pl} (h : a.length = 12) : (a.flatMap fV ++ [.bool true])[24]? = some (Value.bool true) := by
 rw [Qbn (by rw [cJ ug]; omega), cJ ug, h]; rfl
theorem Xd : sP W0 103 [] R (fun v B => ∃ b, v = pQ b ∧ B = pt b (bB (List.replicate 12 (0, 0))) :: R) := by
 refine am func103 ntmps103 ?_
 refine bz fun a => ?_
 refine ac ?_
 exact ⟨_, ⟨a, rfl, rfl⟩, ent_refl⟩
theorem vI b pg (h : Pgs pg) : sQ W0 72 [pQ b] (pt b (bB pg) :: R) (.bool false) (pt b (bB pg) :: R) := by
 refine am func72 ntmps72 ?_
 refine cy rfl rfl rfl (fun a => ?_) fun a => ?_
 cases a
 refine aw ?_
 refine aa (aE (aI (Xc h.len))) ?_
 exact ac ao
theorem xn n : sQ W0 157 [iQ n] R (.bool (jg n)) R := by
 refine am func157 ntmps157 ?_
 refine bO (fun a => ?_) fun a => ?_
 refine ac ?_
 refine aG ?_
 refine Qai Value.bool ?_
 rw [Qag]; simp only [jg, Qaj, Qaq, QaS]; omega
 refine ac ?_
 refine aG ?_
 refine Qai Value.bool ?_
 rw [Qag]; simp only [jg, Qaj, Qaq, QaS]; omega
theorem Xe p : sQ W0 193 [.agg (fV p).toArray] R (.bool (lp p)) R := by
 refine am func193 ntmps193 ?_
 refine bz fun d => ?_
 refine bO (fun b => ?_) fun b => ?_
 refine bO (fun c => ?_) fun c => ?_
 refine bO (fun a => ?_) fun a => ?_
 refine ac ?_
 refine aG ?_
 refine Qai Value.bool ?_
 rw [Qag]; simp only [lp, Qaj, Qaq, QaS]; omega
 refine ac ?_
 refine aG ?_
 refine Qai Value.bool ?_
 rw [Qag]; simp only [lp, Qaj, Qaq, QaS]; omega
 refine ac ?_
 refine aG ?_
 refine Qai Value.bool ?_
 rw [Qag]; simp only [lp, Qaj, Qaq, QaS]; omega
 refine ac ?_
 refine aG ?_
 refine Qai Value.bool ?_
 rw [Qag]; simp only [lp, Qaj, Qaq, QaS]; omega
def aK (pg : List Pl) (n : Int) : Bool := jg n && decide (eG pg n.toNat ≠ (0, 0))
theorem Aa b pg (h : Pgs pg) n : sQ W0 73 [pQ b, iQ n] (pt b (bB pg) :: R) (.bool (aK pg n)) (pt b (bB pg) :: R) := by
 refine am func73 ntmps73 ?_
 refine ah (aC Cn (xn n)) ?_
 refine bO (fun a => ?_) fun a => ?_
 obtain ⟨i, rfl, c⟩ := kM a
 have d := h.len
 refine aa (ew (by omega)) ?_
 refine aa (df (cV (Du (by omega)) rfl)) ?_
 refine aa (zL Tryz.eqGuardType61 rfl rfl (tU Cf Tryz.stoodInHeld61 (li rfl di rfl rfl (lH jI) (li rfl di rfl rfl (lH jI) tT)))) ?_
 refine ac ?_
 refine aG ?_
 refine Qai Value.bool ?_
 first
   | (rw [Qag]; simp [aK, a, Prod.ext_iff])
   | simp [aK, a]
 refine ac ?_
 refine aG ?_
 refine Qai Value.bool ?_
 first
   | (rw [Qag]; simp [aK, a, Prod.ext_iff])
   | simp [aK, a]
def bF (pg : List Pl) (n : Int) : Pl := if aK pg n then eG pg n.toNat else (0, 0)
theorem uh b pg (h : Pgs pg) n : sQ W0 14 [pQ b, iQ n] (pt b (bB pg) :: R) (.tuple #[.agg (fV (bF pg n)).toArray, .bool (aK pg n)]) (pt b (bB pg) :: R) := by
 refine am func14 ntmps14 ?_
 refine bj fun f => ?_
 refine dV 1 (ap zq (vI b pg h)) ?_
 refine cy rfl rfl rfl (fun a => ?_) fun a => ?_
 exact absurd a (by decide)
 refine aw ?_
 refine ah (ap GD (Aa b pg h n)) ?_
 refine ai (fun d => ?_) fun d => ?_
 refine ar aF ?_
 refine aV (.cons (bi zc pW rfl rfl) (.cons (aS rfl) .nil)) ?_
 refine aG ?_
 have c : aK pg n = false := by grind
 simp [aN, bF, c]
 have c : aK pg n = true := by grind
 have e : jg n = true := by grind [aK]
 obtain ⟨i, rfl, g⟩ := kM e
 have j := h.len
 refine aa (ew (by omega)) ?_
 refine aa (df (cV (Du (by omega)) rfl)) ?_
 refine ar aF ?_
 refine aV (.cons (bi zc pW rfl rfl) (.cons (aS rfl) .nil)) ?_
 refine aG ?_
 simp [aN, bF, c]
def fW (pg : List Pl) (n : Int) (p : Pl) : Int := if jg n ∧ lp p then (if aK pg n then 5 else 0) else 1
def dO (pg : List Pl) (n : Int) (p : Pl) : List Pl := if fW pg n p = 0 then pg.set n.toNat p else pg
theorem vJ {pg n p} (h : Pgs pg) : Pgs (dO pg n p) := by
 unfold dO; split
 rename_i d
 have b : lp p = true := by
  grind [fW]
 refine ⟨by simp [h.len], fun m c a => ?_⟩
 unfold eG at a ⊢
 by_cases e : n.toNat = m
 grind
 simp only [Qas, QaW e] at a ⊢
 have := h.ok m c
 unfold eG at this
 simp only [Qas] at this
 exact this a
 exact h
theorem Dv b pg (h : Pgs pg) n p : sQ W0 118 [pQ b, iQ n, .agg (fV p).toArray] (pt b (bB pg) :: R) (iQ (fW pg n p)) (pt b (bB (dO pg n p)) :: R) := by
 have l := h.len
 refine am func118 ntmps118 ?_
 refine bz fun d => ?_
 refine ah (ap zq (vI b pg h)) ?_
 refine ah (aC Cn (xn n)) ?_
 refine ai (fun e => ?_) fun e => ?_
 refine ac ?_
 have a : fW pg n p = 1 := by
  grind [fW]
 exact ⟨_, ⟨by simp [aN, a], by rw [dO, a, Qaa (by decide)]⟩, IO⟩
 have f : jg n = true := by grind
 refine ah (aC call193 (Xe p)) ?_
 refine ai (fun g => ?_) fun g => ?_
 refine ac ?_
 have a : fW pg n p = 1 := by
  grind [fW]
 exact ⟨_, ⟨by simp [aN, a], by rw [dO, a, Qaa (by decide)]⟩, IO⟩
 have m : lp p = true := by grind
 refine ah (ap GD (Aa b pg h n)) ?_
 refine ai (fun j => ?_) fun j => ?_
 refine ac ?_
 have a : fW pg n p = 5 := by
  grind [fW]
 exact ⟨_, ⟨by simp [aN, a], by rw [dO, a, Qaa (by decide)]⟩, IO⟩
 have o : aK pg n = false := by grind
 have a : fW pg n p = 0 := by grind [fW]
 obtain ⟨i, rfl, k⟩ := kM f
 refine bq [d] 7 fun c => ?_
 refine aj 0 5 c ?_
 refine ax 5 c (ew k) ?_
 refine cp 6 (iH (by grind [Ir]) (A9 (by omega))) fun c => ?_
 refine aJ ?_
 refine ac ?_
 rw [show dO pg i p = pg.set i p by simp [dO, a]]
 exact ⟨_, ⟨by simp [aN, a], rfl⟩, IO⟩
theorem Xf b pg (h : Pgs pg) : sQ W0 122 [pQ b, iQ 12] (pt b (bB pg) :: R) (iQ 1) (pt b (bB pg) :: R) := by
 refine am O3 ntmps122 ?_
 refine ah (ap zq (vI b pg h)) ?_
 refine ah (aC Cn (xn 12)) ?_
 refine ai (fun a => ?_) fun a => ?_
 exact ac ao
 exact absurd a (by decide)
def jx (n : Int) (p : Pl) (kind : Int) : Bool := decide (kind = 0 ∧ n < 8 ∨ kind = 1 ∧ p.2 % 2 = 1 ∨ kind = 2 ∧ 2 ≤ p.2)
theorem pH {p} : lp p = true ↔ 0 ≤ p.1 ∧ p.1 < 32 ∧ 1 ≤ p.2 ∧ p.2 ≤ 3 := by simp [lp]
theorem Xg {r} (h : 1 ≤ r ∧ r ≤ 3) : e9 .i64 r 1 = r % 2 := by
 have : r = 1 ∨ r = 2 ∨ r = 3 := by omega
 rcases this with rfl | rfl | rfl <;> decide
theorem Xh {r} (h : 1 ≤ r ∧ r ≤ 3) : e9 .i64 r 2 = r / 2 * 2 := by
 have : r = 1 ∨ r = 2 ∨ r = 3 := by omega
 rcases this with rfl | rfl | rfl <;> decide
theorem Xi n p (b : lp p = true) kind : sQ W0 274 [iQ n, .agg (fV p).toArray, iQ kind] R (.bool (jx n p kind)) R := by
 have a := pH.1 b
 refine am func274 ntmps274 ?_
 refine bz fun f => ?_
 refine ai (fun c => ?_) fun c => ?_
 refine ac ?_
 refine aG ?_
 refine Qai Value.bool ?_
 rw [Qag]; simp only [jx, Qaj, Qaq, QaS, QbO]; omega
 refine ai (fun d => ?_) fun d => ?_
 refine aa (eH rfl rfl (Xg ⟨a.2.2.1, a.2.2.2⟩)) ?_
 refine ac ?_
 refine aG ?_
 refine Qai Value.bool ?_
 rw [Qag]; simp only [jx, Qaj, Qaq, QaS, QbO]; omega
 refine ai (fun e => ?_) fun e => ?_
 refine aa (eH rfl rfl (Xh ⟨a.2.2.1, a.2.2.2⟩)) ?_
 refine ac ?_
 refine aG ?_
 refine Qai Value.bool ?_
 rw [Qag]; simp only [jx, Qaj, Qaq, QaS, QbO]; omega
 refine ac ?_
 refine aG ?_
 refine Qai Value.bool ?_
 rw [Qag]; simp only [jx, Qaj, Qaq, QaS, QbO]; omega
def fp (pg : List Pl) (n kind : Int) : Int := if aK pg n then (if jx n (eG pg n.toNat) kind then 0 else 6) else 7
theorem xo {pg n} (h : Pgs pg) (a : aK pg n = true) : lp (bF pg n) = true := by
 simp only [bF, a, QbM]
 simp only [aK, Qao, Qaj] at a
 obtain ⟨i, rfl, b⟩ := kM a.1
 exact h.ok _ (by omega) a.2
theorem Iu b pg (h : Pgs pg) n kind : sQ W0 198 [pQ b, iQ n, iQ kind] (pt b (bB pg) :: R) (iQ (fp pg n kind)) (pt b (bB pg) :: R) := by
 refine am func198 ntmps198 ?_
 refine ah (ap wL (uh b pg h n)) ?_
 refine bj fun f => ?_
 refine ar aF ?_
 refine ai (fun d => ?_) fun d => ?_
 refine ac ?_
 refine aG ?_
 have a : aK pg n = false := by grind
 simp [aN, fp, a]
 have a : aK pg n = true := by grind
 refine ah (aC call274 (Xi n (bF pg n) (xo h a) kind)) ?_
 refine ai (fun e => ?_) fun e => ?_
 refine ac ?_
 refine aG ?_
 have c : jx n (eG pg n.toNat) kind = false := by grind [bF]
 simp [aN, fp, a, c]
 refine ac ?_
 refine aG ?_
 have c : jx n (eG pg n.toNat) kind = true := by grind [bF]
 simp [aN, fp, a, c]
abbrev bW (ps pm d : Nat) : Obj := ag [.pointer (some ⟨ps, 0, none⟩), .pointer (some ⟨pm, 0, none⟩), .int .u32 (d : Nat)] 157
theorem xp pv ps pm d : sQ W0 71 [pQ pv] (pt pv (bW ps pm d) :: R) (.bool false) (pt pv (bW ps pm d) :: R) := by
 refine am func71 ntmps71 ?_
 refine cy rfl rfl rfl (fun a => ?_) fun a => ?_
 cases a
 refine aw ?_
 exact ac ao
def en (pa : Nat) (w : Int) : Bool := decide ((w = 1 ∨ w = 2 ∨ w = 4) ∧ (pa : Int) % w = 0)
theorem Xj (d : Nat) (e : d < 4294967296) w : sQ W0 197 [.int .u32 d, iQ w] R (.bool (en d w)) R := by
 refine am func197 ntmps197 ?_
 refine ai (fun a => ?_) fun a => ?_
 refine aa (bD (cW (by omega))) ?_
 refine aa (dT rfl rfl (by omega) (Qat (by omega))) ?_
 refine ac ?_
 refine aG ?_
 refine Qai Value.bool ?_
 rw [Qag]; simp only [en, Qaj, QaZ]
 first
   | (subst a; simp)
   | (subst b; simp)
   | (subst c; simp)
 refine ai (fun b => ?_) fun b => ?_
 refine aa (bD (cW (by omega))) ?_
 refine aa (dT rfl rfl (by omega) (Qat (by omega))) ?_
 refine ac ?_
 refine aG ?_
 refine Qai Value.bool ?_
 rw [Qag]; simp only [en, Qaj, QaZ]
 first
   | (subst a; simp)
   | (subst b; simp)
   | (subst c; simp)
 refine ai (fun c => ?_) fun c => ?_
 refine aa (bD (cW (by omega))) ?_
 refine aa (dT rfl rfl (by omega) (Qat (by omega))) ?_
 refine ac ?_
 refine aG ?_
 refine Qai Value.bool ?_
 rw [Qag]; simp only [en, Qaj, QaZ]
 first
   | (subst a; simp)
   | (subst b; simp)
   | (subst c; simp)
 refine ac ?_
 refine aG ?_
 refine Qai Value.bool ?_
 rw [Qag]; simp only [en, Qaj, Qaq, QaS]; omega
def dB (n : Nat) (pg : List Pl) (pa : Nat) (w kind : Int) : Int :=
  if en pa w then (if pa < 768 then (if fp pg ((pa / 64 : Nat) : Int) kind = 0 then (if (bF pg ((pa / 64 : Nat) : Int)).1 < n then 0 else 7) else fp pg ((pa / 64 : Nat) : Int) kind) else 2) else 1
def jS (n : Nat) (pg : List Pl) (pa : Nat) (w kind : Int) : List Value :=
  if dB n pg pa w kind = 0 then [.int .i64 (pa / 64 : Nat), .int .i64 (bF pg ((pa / 64 : Nat) : Int)).1, .int .i64 (pa % 64 : Nat), .bool false] else [.int .i64 0, .int .i64 0, .int .i64 0, .bool false]
theorem Ab pv ps pm d fr pg (h : Pgs pg) (a : Nat) (c : a < 4294967296) w kind : sQ W0 133 [pQ pv, .int .u32 a, iQ w, iQ kind] (pt pv (bW ps pm d) :: aY ps fr :: pt pm (bB pg) :: R) (.tuple #[.agg (jS fr.length pg a w kind).toArray, iQ (dB fr.length pg a w kind)]) (pt pv (bW ps pm d) :: aY ps fr :: pt pm (bB pg) :: R) := by
 refine am func133 ntmps133 ?_
 refine bj fun m => ?_
 refine ah (ap Co (xp pv ps pm d)) ?_
 refine ah (aC call197 (Xj a c w)) ?_
 refine ai (fun i => ?_) fun i => ?_
 refine ar aF ?_
 refine aV (.cons (bi g8 eT rfl rfl) (.cons (aS rfl) .nil)) ?_
 refine aG ?_
 have g : en a w = false := by grind
 have b : dB fr.length pg a w kind = 1 := by simp [dB, g]
 simp [aN, jS, b]
 have g : en a w = true := by grind
 refine ai (fun j => ?_) fun j => ?_
 refine ar aF ?_
 refine aV (.cons (bi g8 eT rfl rfl) (.cons (aS rfl) .nil)) ?_
 refine aG ?_
 have b : dB fr.length pg a w kind = 2 := by grind [dB]
 simp [aN, jS, b]
 refine aa (nr rfl rfl (by decide) ((Qai (IntKind.wrap .u32) (ql a 64)).trans (cW (by omega)))) ?_
 refine aa (bD (co (by omega))) ?_
 refine ah (ap call198 (Iu pm pg h ((a / 64 : Nat) : Int) kind)) ?_
 refine ai (fun k => ?_) fun k => ?_
 refine ar aF ?_
 refine aV (.cons (bi g8 eT rfl rfl) (.cons (aS rfl) .nil)) ?_
 refine aG ?_
 have b : dB fr.length pg a w kind = fp pg ((a / 64 : Nat) : Int) kind := by grind [dB]
 rw [jS, Qaa (by omega), b]; rfl
 have n : fp pg ((a / 64 : Nat) : Int) kind = 0 := by omega
 refine ah (ap wL (uh pm pg h ((a / 64 : Nat) : Int))) ?_
 refine bj fun l => ?_
 refine ar aF ?_
 refine bq [l, pv] 8 fun e => ?_
 refine aj 0 6 e ?_
 refine cg 6 (ap wM (uf ps fr)) fun e => ?_
 refine aj 7 1 e ?_
 refine aJ ?_
 refine ai (fun f => ?_) fun f => ?_
 refine ar aF ?_
 refine aV (.cons (bi g8 eT rfl rfl) (.cons (aS rfl) .nil)) ?_
 refine aG ?_
 have b : dB fr.length pg a w kind = 7 := by grind [dB]
 simp [aN, jS, b]
 refine aa (dT rfl rfl (by decide) (iJ a 64)) ?_
 refine aa (bD (co (by omega))) ?_
 refine ar aF ?_
 refine aV (.cons (bi g8 eT rfl rfl) (.cons (aS rfl) .nil)) ?_
 refine aG ?_
 have b : dB fr.length pg a w kind = 0 := by grind [dB]
 simp [aN, jS, b]
theorem xq {n pg pa w kind} (h : dB n pg pa w kind = 0) : pa < 768 ∧ (bF pg (pa / 64 : Nat)).1 < n ∧ jS n pg pa w kind = [iQ (pa / 64 : Nat), iQ (bF pg (pa / 64 : Nat)).1, iQ (pa % 64 : Nat), .bool false] := by
 grind [jS, dB]
def kN (fr : List aB) (pg : List Pl) (pa : Nat) (w : Int) (x : Nat) : List aB := if dB fr.length pg pa w 2 = 0 then eJ fr (bF pg ((pa / 64 : Nat) : Int)).1 ((pa % 64 : Nat) : Int) w x else fr
def pI (fr : List aB) (pg : List Pl) (pa : Nat) (w : Int) (d : Nat) : Nat := if dB fr.length pg pa w 2 = 0 then d ||| 2 ^ (pa / 64) else d
theorem Xk {n : Nat} (h : n < 12) : iw .u32 1 n = (2 ^ n : Nat) := by
 have : ∀ n : Nat, n < 12 → iw .u32 1 (n : Int) = ((2 ^ n : Nat) : Int) := by decide
 exact this n h
theorem Dw {n} (h : n < 12) : 2 ^ n < 4096 := by
 have : ∀ n : Nat, n < 12 → 2 ^ n < 4096 := by decide
 exact this n h
theorem Iv pv ps pm d fr pg (h : Pgs pg) (i : cB fr) (l : d < 4096) (b : Nat) (e : b < 4294967296) w (x : Nat) (j : x < 4294967296) : sQ W0 55 [pQ pv, .int .u32 b, iQ w, .int .u32 x] (pt pv (bW ps pm d) :: aY ps fr :: pt pm (bB pg) :: R) (iQ (dB fr.length pg b w 2)) (pt pv (bW ps pm (pI fr pg b w d)) :: aY ps (kN fr pg b w x) :: pt pm (bB pg) :: R) := by
 by_cases c : dB fr.length pg b w 2 = 0
 obtain ⟨m, o, k⟩ := xq c
 have p := Dw (n := b / 64) (by omega)
 rw [pI, Qad c, kN, Qad c]
 refine am func55 ntmps55 ?_
 refine ah (cM GE (Ab pv ps pm d fr pg h b e w 2)) ?_
 rw [k, c]
 refine bj fun g => ?_
 refine ar aF ?_
 refine ai (fun f => ?_) fun f => ?_
 exact absurd rfl f
 refine bq [pv, g] 11 fun a => ?_
 refine aj 0 10 a ?_
 refine cg 10 (ap O4 (Dt ps fr _ _ w x j i)) fun a => ?_
 refine aJ ?_
 refine bq [g] 11 fun a => ?_
 refine aj 0 3 a ?_
 refine aj 4 2 a ?_
 refine ax 6 a (lh rfl rfl (by omega) (Xk (by omega))) ?_
 refine cg 3 (dP (aE (aI rfl))) fun a => ?_
 refine ax 7 a (mD rfl rfl (mH (by omega) (by omega))) ?_
 refine aj 8 2 a ?_
 refine cp 10 dX fun a => ?_
 refine aJ ?_
 exact ac ao
 rw [pI, Qaa c, kN, Qaa c]
 refine am func55 ntmps55 ?_
 refine ah (cM GE (Ab pv ps pm d fr pg h b e w 2)) ?_
 rw [jS, Qaa c]
 refine bj fun g => ?_
 refine ar aF ?_
 refine ai (fun f => ?_) fun f => ?_
 exact ac ao
 exact absurd c f
theorem Xl ps pm fr pg (h : Pgs pg) (d : 0 < fr.length) : sP W0 106 [pQ ps, pQ pm] (aY ps fr :: pt pm (bB pg) :: R) (fun v B => ∃ b, v = .tuple #[pQ b, iQ 0] ∧ B = pt b (bW ps pm 0) :: aY ps fr :: pt pm (bB pg) :: R) := by
 refine am func106 ntmps106 ?_
 refine ah (ap wM (uf ps fr)) ?_
 refine cy rfl rfl rfl (fun a => ?_) fun a => ?_
 omega
 refine aw ?_
 refine dV 5 (ap GF (Xf pm pg h)) ?_
 refine jf ?_
 refine ez (kg rfl) fun c => ?_
 refine aw ?_
 refine az ?_
 exact ⟨_, ⟨c, rfl, rfl⟩, IO⟩
theorem qt pv ps pm d : sQ W0 12 [pQ pv] (pt pv (bW ps pm d) :: R) (pQ pm) (pt pv (bW ps pm d) :: R) := by
 refine am func12 ntmps12 ?_
 refine ah (ap Co (xp pv ps pm d)) ?_
 exact ac ao
theorem Dx pv ps pm d : sQ W0 77 [pQ pv] (pt pv (bW ps pm d) :: R) (pQ ps) (pt pv (bW ps pm d) :: R) := by
 refine am func77 ntmps77 ?_
 refine ah (ap Co (xp pv ps pm d)) ?_
 exact ac ao
def jh (len : Nat) (pg : List Pl) (n : Int) : Bool := aK pg n && decide (n < 8) && decide ((bF pg n).1 < len)
theorem Iw pv ps pm d fr pg (h : Pgs pg) n : sQ W0 171 [pQ pv, iQ n] (pt pv (bW ps pm d) :: aY ps fr :: pt pm (bB pg) :: R) (.tuple #[iQ (bF pg n).1, .bool (jh fr.length pg n)]) (pt pv (bW ps pm d) :: aY ps fr :: pt pm (bB pg) :: R) := by
 refine am func171 ntmps171 ?_
 refine ah (ap wL (uh pm pg h n)) ?_
 refine bj fun e => ?_
 refine ar aF ?_
 refine bq [pv, e] 19 fun a => ?_
 refine aj 0 4 a ?_
 refine mF (t := 20) rfl ?_ ?_
 · intro b
   refine aj 4 4 a ?_
   refine mF (t := 24) rfl ?_ ?_
   · intro c
     refine aj 8 6 a ?_
     refine cg 14 (ap wM (uf ps fr)) fun a => ?_
     refine aj 15 4 a ?_
     refine aJ ?_
     refine az ?_
     refine aG ?_
     simp_all [aN, jh]; try omega
   intro c
   refine aj 8 11 a ?_
   refine aJ ?_
   refine az ?_
   refine aG ?_
   simp_all [aN, jh]; try omega
 intro b
 refine aj 4 15 a ?_
 refine aJ ?_
 refine az ?_
 refine aG ?_
 simp_all [aN, jh]; try omega
def gG (p : Value × aB) : HP := osl 5 1 p.1 (bS p.2)
def cN (qs : Nat) (fr : List aB) : HP := chk (fun C => ∃ a c, ∃ vs : List Value, vs.length = fr.length ∧ C = pt qs (ag [.slice a fr.length c] 196) :: osl 80 1 (.slice a fr.length c) vs :: (vs.zip fr).map gG)
section
variable {P : Program} {W0 : World} {N : FSz} {K : Act → World → Prop} {e : b0} {A B R R1 R2 : List HP} {qs g n : Nat} {fr : List aB} {f : FuncId} {args : List Value} {Post : Value → List HP → Prop} {l : List Value}
theorem vK [i : Tk cN qs A fr R] (h : ∀ a c d, d.length = fr.length → av W0 N K e (pt qs (ag [.slice a fr.length c] 196) :: osl 80 1 (.slice a fr.length c) d :: ((d.zip fr).map gG ++ R))) : av W0 N K e A :=
  fT (r := cN) (b := qs) (nv fun C f => by obtain ⟨a, c, d, g, rfl⟩ := f; exact h a c d g)
theorem ui {a c vs} [b : Tk pt qs A (ag [.slice a n c] 196) R1] [d : Tk (osl 80 1) (.slice a n c) R1 vs ((vs.zip fr).map gG ++ R2)] (e : vs.length = fr.length) (f : n = fr.length) [k : Ent R2 B] : Ent A (cN qs fr :: B) := by
 subst f
 have g : A.Perm ((pt qs (ag [.slice a fr.length c] 196) :: osl 80 1 (.slice a fr.length c) vs :: (vs.zip fr).map gG) ++ R2) := b.perm.trans (d.perm.cons _)
 have h : Ent ((pt qs (ag [.slice a fr.length c] 196) :: osl 80 1 (.slice a fr.length c) vs :: (vs.zip fr).map gG) ++ R2) (cN qs fr :: R2) := fH ⟨a, c, vs, e, rfl⟩
 exact (Ent.ofPerm g).trans (h.trans (Ent.cons k))
theorem Ix {α : Type} : ∀ (l : List α) (i : Nat) (h : i < l.length), l.Perm (l[i] :: l.eraseIdx i)
 | x :: l, 0, h => by simp
 | x :: l, i + 1, h => by
  simp only [List.getElem_cons_succ, QcB]
  exact ((Ix l i (by simpa using h)).cons x).trans (List.Perm.swap _ _ _)
theorem Iy {α : Type} : ∀ (l : List α) (i : Nat) (x : α) (h : i < l.length), (x :: l.eraseIdx i).Perm (l.set i x)
 | y :: l, 0, x, h => by simp
 | y :: l, i + 1, x, h => by
  simp only [Qcl, QcB]
  exact (List.Perm.swap _ _ _).trans ((Iy l i x (by simpa using h)).cons y)
theorem sJ {E sz : Nat} {v xs} [h : Tk (osl E sz) v A xs R] (d : v = .slice none 0 0 → xs = [] → av W0 N K e R)
    (f : ∀ g n a c, v = .slice (some ⟨g, 0, none⟩) n a → n ≤ a → a ≤ maxLen → xs.length = n * sz → (xs ++ c).length = a * sz → av W0 N K e (pt g (ag (xs ++ c) E) :: R)) : av W0 N K e A :=
  fT (r := osl E sz) (b := v) (km d f)
theorem Ac [m : Tk cN qs A fr R] {i} (n : i < fr.length) (h : ∀ a c b f, b.length = fr.length → b[i]? = some f →
      av W0 N K e (pt qs (ag [.slice a fr.length c] 196) :: osl 80 1 (.slice a fr.length c) b :: osl 5 1 f (bS (fr.getD i [])) :: (((b.zip fr).map gG).eraseIdx i ++ R))) : av W0 N K e A := by
 refine vK (qs := qs) fun a c b g => ?_
 have j : ((b.zip fr).map gG).length = fr.length := by simp [g]
 have d : i < b.length := by omega
 have l : ((b.zip fr).map gG)[i]'(by omega) = osl 5 1 b[i] (bS (fr.getD i [])) := by grind [gG]
 have k := Ix ((b.zip fr).map gG) i (by omega)
 rw [l] at k
 exact pX (((k.append_right R).cons _).cons _) (h a c b b[i] g (by simp [d]))
theorem Xm {a c i} {b : List Value} {vi} {y : aB} {ys R3} [d : Tk pt qs A (ag [.slice a n c] 196) R1] [e : Tk (osl 80 1) (.slice a n c) R1 (b.set i vi) R2] [f : Tk (osl 5 1) vi R2 ys (((b.zip fr).map gG).eraseIdx i ++ R3)]
    (g : ys = bS y) (h : b.length = fr.length) (j : n = fr.length) (o : i < fr.length) [k : Ent R3 B] : Ent A (cN qs (fr.set i y) :: B) := by
 subst g
 have l : A.Perm (pt qs (ag [.slice a n c] 196) :: osl 80 1 (.slice a n c) (b.set i vi) :: ((((b.set i vi).zip (fr.set i y)).map gG) ++ R3)) := by
  refine d.perm.trans ((e.perm.trans ((f.perm.trans ?_).cons _)).cons _)
  have m : ((b.set i vi).zip (fr.set i y)).map gG = ((b.zip fr).map gG).set i (gG (vi, y)) := by
   apply QaP
   simp
   grind
  rw [m]
  have := Iy ((b.zip fr).map gG) i (gG (vi, y)) (by grind)
  exact this.append_right R3
 exact (Ent.ofPerm l).trans (ui (vs := b.set i vi) (by simp [h]) (by simp [j]))
theorem Ad {c i g2 n2 c2} {vs b d sp2 a : List Value} {y : aB} {vi R3} [l : Tk pt qs A (ag [.slice (some ⟨g, 0, none⟩) n c] 196) R1] [m : Tk pt g R1 (ag (b ++ d) 80) R2] [o : Tk pt g2 R2 (ag (a ++ sp2) 5) R3]
    (e : b = vs.set i vi) (f : vi = .slice (some ⟨g2, 0, none⟩) n2 c2) (p : a = bS y) (h : vs.length = fr.length) (j : n = fr.length) (q : i < fr.length) (r : n ≤ c) (s : c ≤ maxLen) (t : (b ++ d).length = c * 1) (u : n2 ≤ c2) (v : c2 ≤ maxLen) (w : a.length = n2 * 1) (x : (a ++ sp2).length = c2 * 1) [k : Ent R3 (((vs.zip fr).map gG).eraseIdx i ++ B)] : Ent A (cN qs (fr.set i y) :: B) := by
 subst e
 subst f
 have z : A.Perm (pt qs (ag [.slice (some ⟨g, 0, none⟩) n c] 196) :: pt g (ag (vs.set i (.slice (some ⟨g2, 0, none⟩) n2 c2) ++ d) 80) :: pt g2 (ag (a ++ sp2) 5) :: R3) := l.perm.trans ((m.perm.trans (o.perm.cons _)).cons _)
 have C : Ent (pt g2 (ag (a ++ sp2) 5) :: R3) (osl 5 1 (.slice (some ⟨g2, 0, none⟩) n2 c2) a :: (((vs.zip fr).map gG).eraseIdx i ++ B)) := fk u v w x
 have D : Ent (pt g (ag (vs.set i (.slice (some ⟨g2, 0, none⟩) n2 c2) ++ d) 80) :: osl 5 1 (.slice (some ⟨g2, 0, none⟩) n2 c2) a :: (((vs.zip fr).map gG).eraseIdx i ++ B)) (osl 80 1 (.slice (some ⟨g, 0, none⟩) n c) (vs.set i (.slice (some ⟨g2, 0, none⟩) n2 c2)) :: osl 5 1 (.slice (some ⟨g2, 0, none⟩) n2 c2) a :: (((vs.zip fr).map gG).eraseIdx i ++ B)) := fk r s (by simp [h, j]) t
 exact (Ent.ofPerm z).trans ((Ent.cons ((Ent.cons C).trans D)).trans (Xm (vi := .slice (some ⟨g2, 0, none⟩) n2 c2) p h j q))
end
theorem Iz {a : List aB} {i} (b : i < a.length) : a.set i (a.getD i []) = a := by
 simp_all
theorem IA {a : List Value} {i v} (h : a[i]? = some v) : a.set i v = a := by
 have b : i < a.length := by
  rcases QaC i a.length with k | k
  exact k
  rw [Qbl k] at h; cases h
 have : a[i] = v := by simpa [b] using h
 rw [← this]; exact QbV _
theorem qu qs fr f : sQ W0 100 [pQ qs, iQ f] (cN qs fr :: R) (.bool (dN fr.length f)) (cN qs fr :: R) := by
 refine am func100 ntmps100 ?_
 refine vK (qs := qs) fun a c e d => ?_
 refine aw ?_
 refine bO (fun b => ?_) fun b => ?_
 refine ac ?_
 refine ⟨_, ⟨Qai Value.bool ?_, rfl⟩, ui d rfl⟩
 rw [Qag]; simp only [dN, Qaj, Qaq, QaS]; omega
 refine ac ?_
 refine ⟨_, ⟨Qai Value.bool ?_, rfl⟩, ui d rfl⟩
 rw [Qag]; simp only [dN, Qaj, Qaq, QaS]; omega
theorem Xn {g off c n l at_ w} (b : l.length = n) (d : bC (aQ W0 R) g off (bS l)) (e : By l) (f : n ≤ c) (a : c < 9223372036854775808) : sQ W0 305 [.slice (some ⟨g, off, none⟩) n c, iQ at_, iQ w] R (.tuple #[.int .u32 (mK l at_ w), iQ (pG l at_ w)]) R := by
 grind [Ig]
theorem Xo {g off c n l} {i k w : Nat} (d : l.length = n) (e : w < 4294967296) (f : bC (aQ W0 R) g off (bS l)) (h : eI n i k = true) (j : n ≤ 1000000) : sP W0 201 [.slice (some ⟨g, off, none⟩) n c, iQ i, iQ k, .int .u32 w] R (fun v B => ∃ a b, v = A7 a n b ∧ B = osl 5 1 (.slice a n b) (bS (mJ l i k w)) :: R) := by
 grind [WX]
theorem IB {x : aB} {sp} (h : x.length = 64) : ((bS x ++ sp).drop 0).take 64 = bS x := by
 grind [List.take_left', gz]
theorem Ae qs fr f off w (r : cB fr) : sQ W0 219 [pQ qs, iQ f, iQ off, iQ w] (cN qs fr :: R) (.tuple #[.int .u32 (jR fr f off w), iQ (vH fr f off w)]) (cN qs fr :: R) := by
 by_cases m : dN fr.length f = true
 obtain ⟨i, rfl, b⟩ := qq m
 obtain ⟨o, s⟩ := r.get b
 refine am func219 ntmps219 ?_
 refine ah (ap sf (qu qs fr i)) ?_
 refine aA rfl (fun d => ?_) fun d => ?_
 exact absurd d (by simp [m])
 refine au 3 ?_
 refine Ac (qs := qs) b fun a c t u x h => ?_
 refine sJ (E := 5) (sz := 1) (v := u) (fun k l => by have := Qai List.length l; rw [gz, o] at this; cases this) fun G y H z A p q B C => ?_
 obtain rfl : y = 64 := by grind [gz]
 subst A
 refine sJ (E := 80) (sz := 1) (v := .slice a fr.length c) (fun k l => by have := (Value.slice.inj k).2.1; omega) fun g n I J k l D K F => ?_
 cases k
 refine aw ?_
 refine aa (bJ b) ?_
 refine aa (aE (aI (by rw [QaB, QaA (by omega)]; exact h))) ?_
 refine ah (aC call305 (Xn o (cV (IB o) (by omega)) s p (A6 q))) ?_
 refine az ?_
 refine ⟨_, ⟨by simp [aN, jR, vH, m], rfl⟩, ?_⟩
 have e := Iz b
 conv => rhs; rw [← e]
 exact Ad (vs := t) (IA h).symm rfl rfl x rfl b l D F p q B C
 have j : dN fr.length f = false := by grind
 refine am func219 ntmps219 ?_
 refine ah (ap sf (qu qs fr f)) ?_
 refine ai (fun d => ?_) fun d => ?_
 refine az ?_
 exact ⟨_, ⟨by simp [aN, jR, vH, j], rfl⟩, IO⟩
 exact absurd d (by simp [j])
theorem xt qs fr f off w (x : Nat) (O : x < 4294967296) (P : cB fr) : sQ W0 136 [pQ qs, iQ f, iQ off, iQ w, .int .u32 x] (cN qs fr :: R) (iQ (if kL fr f off w then 0 else 1)) (cN qs (eJ fr f off w x) :: R) := by
 by_cases z : dN fr.length f = true
 obtain ⟨i, rfl, h⟩ := qq z
 obtain ⟨u, hb⟩ := P.get h
 by_cases r : eI 64 off w = true
 obtain ⟨o, k, rfl, rfl, hk, Q⟩ := rD r
 have l : kL fr i o k = true := by grind [kL]
 have S : (mJ (fr.getD i []) o k x).length = 64 := by grind [ue]
 refine am O5 ntmps136 ?_
 refine ah (ap sf (qu qs fr i)) ?_
 refine aA rfl (fun m => ?_) fun m => ?_
 exact absurd m (by simp [z])
 refine au 3 ?_
 refine Ac (qs := qs) h fun a c A B C j => ?_
 refine sJ (E := 5) (sz := 1) (v := B) (fun b d => by have := Qai List.length d; rw [gz, u] at this; cases this) fun T D I F G J K L M => ?_
 obtain rfl : D = 64 := by grind [gz]
 subst G
 refine sJ (E := 80) (sz := 1) (v := .slice a fr.length c) (fun b d => by have := (Value.slice.inj b).2.1; omega) fun g n y U b d H V N => ?_
 cases b
 refine aw ?_
 refine aa (bJ h) ?_
 refine aa (aE (aI (by rw [QaB, QaA (by omega)]; exact j))) ?_
 refine aD rfl (aC call201 (Xo u O (cV (IB u) (by omega)) r (by decide))) ?_
 rintro _ W ⟨X, y, rfl, q⟩
 obtain rfl := q.symm
 refine sJ (E := 5) (sz := 1) (v := .slice X 64 y) (fun b d => by have := (Value.slice.inj b).2.1; omega) fun Y n3 c3 Z q1 q2 q3 q4 q5 => ?_
 cases q1
 refine ae rfl (aM rfl) (ae rfl (lI rfl rfl) (ae rfl (lI rfl rfl) (ae rfl (bA rfl) (ae rfl (bA rfl) (aL (aH (aO (aO (aX (ae rfl (aM rfl) (ae rfl (ix rfl rfl) (aL (aH ?_)))))))))))))
 refine aA rfl (fun s => ?_) fun s => ?_
 refine au 7 ?_
 refine ae rfl (bJ h) ?_
 refine ar (dq (by omega) (by rw [QaB, Qca _ _ (by omega)])) ?_
 refine ac ?_
 rw [show eJ fr i o k x = fr.set i (mJ (fr.getD i []) o k x) by simp [eJ, l]]
 exact ⟨_, ⟨by simp [aN, l], rfl⟩, Ad (vs := A) (vi := .slice (some ⟨Y, 0, none⟩) 64 y) rfl rfl rfl C rfl h d H (by grind) q2 q3 q4 q5⟩
 exact absurd rfl s
 have p : eI 64 off w = false := by grind
 have l : kL fr i off w = false := by simp [kL, p]
 refine am O5 ntmps136 ?_
 refine ah (ap sf (qu qs fr i)) ?_
 refine aA rfl (fun m => ?_) fun m => ?_
 exact absurd m (by simp [z])
 refine au 3 ?_
 refine Ac (qs := qs) h fun a c A B C j => ?_
 refine sJ (E := 5) (sz := 1) (v := B) (fun b d => by have := Qai List.length d; rw [gz, u] at this; cases this) fun T D I F G J K L M => ?_
 obtain rfl : D = 64 := by grind [gz]
 subst G
 refine sJ (E := 80) (sz := 1) (v := .slice a fr.length c) (fun b d => by have := (Value.slice.inj b).2.1; omega) fun g n y U b d H V N => ?_
 cases b
 refine aw ?_
 refine aa (bJ h) ?_
 refine aa (aE (aI (by rw [QaB, QaA (by omega)]; exact j))) ?_
 refine aD rfl (iE call201 rfl (WY _ 64 I off w x p (by decide))) ?_
 rintro _ W ⟨rfl, q⟩
 obtain rfl := q.symm
 refine ae rfl (aM rfl) (ae rfl (lI rfl rfl) (ae rfl (lI rfl rfl) (ae rfl (bA rfl) (ae rfl (bA rfl) (aL (aH (aO (aO (aX (ae rfl (aM rfl) (ae rfl (ix rfl rfl) (aL (aH ?_)))))))))))))
 refine aA rfl (fun s => ?_) fun s => ?_
 exact absurd s (by decide)
 refine aw ?_
 refine ac ?_
 rw [show eJ fr i off w x = fr by simp [eJ, l]]
 refine ⟨_, ⟨by simp [aN, l], rfl⟩, ?_⟩
 have e := Iz h
 conv => rhs; rw [← e]
 exact Ad (vs := A) (IA j).symm rfl rfl C rfl h d H N J K L M
 have t : dN fr.length f = false := by grind
 have l : kL fr f off w = false := by simp [kL, t]
 refine am O5 ntmps136 ?_
 refine ah (ap sf (qu qs fr f)) ?_
 refine ai (fun m => ?_) fun m => ?_
 refine ac ?_
 rw [show eJ fr f off w x = fr by simp [eJ, l]]
 exact ⟨_, ⟨by simp [aN, l], rfl⟩, IO⟩
 exact absurd m (by simp [t])
theorem Dy {A B R1 R2 R3 qs n c g2 a vs ys vi fr} {y : aB} [e : Tk pt qs A (ag [.slice a n c] 196) R1] [f : Tk (osl 80 1) (.slice a n c) R1 (vs ++ [vi]) R2] [g : Tk pt g2 R2 (ag ys 5) R3]
    (b : vi = .slice (some ⟨g2, 0, none⟩) 64 64) (h : ys = bS y) (i : y.length = 64) (d : vs.length = fr.length) (j : n = fr.length + 1) [k : Ent R3 ((vs.zip fr).map gG ++ B)] : Ent A (cN qs (fr ++ [y]) :: B) := by
 subst b; subst h
 have l : A.Perm (pt qs (ag [.slice a n c] 196) :: osl 80 1 (.slice a n c) (vs ++ [.slice (some ⟨g2, 0, none⟩) 64 64]) :: pt g2 (ag (bS y ++ []) 5) :: R3) := by
  rw [Qav]; exact e.perm.trans ((f.perm.trans (g.perm.cons _)).cons _)
 have m : Ent (pt g2 (ag (bS y ++ []) 5) :: R3) (osl 5 1 (.slice (some ⟨g2, 0, none⟩) 64 64) (bS y) :: ((vs.zip fr).map gG ++ B)) := fk (Qam _) (by simp only [maxLen]; omega) (by rw [gz, i]) (by grind [gz])
 have p : ((vs ++ [Value.slice (some ⟨g2, 0, none⟩) 64 64]).zip (fr ++ [y])).map gG = (vs.zip fr).map gG ++ [osl 5 1 (.slice (some ⟨g2, 0, none⟩) 64 64) (bS y)] := by
  rw [List.zip_append d, QaH]; rfl
 have o : (osl 5 1 (.slice (some ⟨g2, 0, none⟩) 64 64) (bS y) :: ((vs.zip fr).map gG ++ B)).Perm (((vs ++ [Value.slice (some ⟨g2, 0, none⟩) 64 64]).zip (fr ++ [y])).map gG ++ B) := by
  grind [QaJ, List.perm_middle.symm]
 exact (Ent.ofPerm l).trans ((Ent.cons (Ent.cons (m.trans (Ent.ofPerm o)))).trans (ui (vs := vs ++ [.slice (some ⟨g2, 0, none⟩) 64 64]) (by simp [d]) (by simp [j])))
theorem Xp (n : Nat) (h : n ≤ 32) : sP W0 34 [iQ n] R (fun v B => ∃ b, v = .tuple #[pQ b, iQ 0] ∧ B = cN b (List.replicate n cm) :: R) := by
 refine am func34 ntmps34 ?_
 refine cy rfl rfl rfl (fun j => ?_) fun j => ?_
 omega
 refine aw ?_
 refine aA rfl (fun f => ?_) fun f => ?_
 omega
 refine aw ?_
 refine ez (kg rfl) fun l => ?_
 refine ae rfl (bA rfl) (aL (aH (aO (aO (aX (ae rfl (bA rfl) (aL (aH (mz ?_)))))))))
 refine fM (fun i : Nat => i ≤ n) (fun i => [(0, iQ n), (4, pQ l), (5, iQ i)]) (fun i => cN l (List.replicate i cm) :: R) (fun i => n - i) 0 ?_ ?_ ?_ ?_
 omega
 · repeat (first | exact bK | refine bc rfl ?_)
 exact (Ent.cons (eX (B := R))).trans (fH (R := R) (C := [_, _]) ⟨none, 0, [], rfl, rfl⟩)
 intro i s
 refine aO (aO (aX (ae rfl (aM rfl) (ae rfl (aM rfl) (ae rfl (nu rfl rfl) (aL (aH ?_)))))))
 refine aA rfl (fun r => ?_) fun r => ?_
 refine jd ?_
 refine aH (aO (mz ?_))
 refine vK (qs := l) fun a c o m => ?_
 rw [QbC] at m ⊢
 refine bq [] 11 fun d => ?_
 refine aj 0 4 d ?_
 refine fG (is := [4, 5]) (by kernel_rfl) rfl ⟨?_, ?_, trivial⟩
 refine dy (dP (aE (aI rfl))) ?_; clear d
 rintro _ _ ⟨rfl, rfl⟩
 refine ⟨aT, fun d => ?_⟩
 refine cj 5 (vy (sz := 1) (by_ := 1) (info := Tryz.t5) m0 (by kernel_rfl) rfl rfl rfl rfl (by decide) rfl rfl rfl rfl (by decide) (by decide)) ?_; clear d
 rintro _ _ ⟨g, rfl, rfl⟩
 refine ⟨aT, fun d => ?_⟩
 refine kl 6 (by kernel_rfl) rfl rfl (js wI Gn GG rfl rfl rfl rfl rfl (by decide) (by decide)) rfl ?_; clear d
 rintro _ _ ⟨p, rfl, rfl⟩
 refine ⟨aT, fun d => ?_⟩
 refine cj 7 (et (sz := 1) (by_ := 24) (info := Tryz.t80) wI (by kernel_rfl) rfl rfl rfl rfl (by decide) rfl rfl ee rfl rfl (by simp only [maxLen]; omega) (by omega)) ?_; clear d
 rintro _ q ⟨k, f, rfl, e⟩
 obtain rfl := e.symm
 refine ⟨aT, fun d => ?_⟩
 refine aj 8 2 d ?_
 refine cp 10 dX fun d => ?_
 refine i6 ?_
 refine oI (aH (aX (ae rfl (aM rfl) ?_)))
 refine ae rfl (db rfl rfl (by first | exact co (by omega) | rfl)) ?_
 refine ae rfl (bA rfl) (aL (aH ?_))
 refine bR (i + 1) ?_ (he := ?_)
 omega
 rw [show List.replicate (i + 1) cm = List.replicate i cm ++ [cm] from QbL]; exact Dy (vs := o) (n := i + 1) (a := k) (c := f) (g2 := g) (ys := List.replicate (64 * 1) (.int .u8 0)) (y := cm) (vi := .slice (some ⟨g, 0, none⟩) 64 64) (fr := List.replicate i cm) rfl rfl (by simp [cm]) (by simp [m]) (by simp)
 skip
 refine dy (vy (sz := 1) (by_ := 1) (info := Tryz.t5) m0 (by kernel_rfl) rfl rfl rfl rfl (by decide) rfl rfl rfl rfl (by decide) (by decide)) ?_; clear d
 rintro _ _ ⟨g, rfl, rfl⟩
 refine ⟨aT, fun d => ?_⟩
 refine fG (is := [4, 6]) (by kernel_rfl) rfl ⟨?_, ?_, trivial⟩
 refine dy (dP (aE (aI rfl))) ?_; clear d
 rintro _ _ ⟨rfl, rfl⟩
 refine ⟨aT, fun d => ?_⟩
 refine kl 6 (by kernel_rfl) rfl rfl (js wI Gn GG rfl rfl rfl rfl rfl (by decide) (by decide)) rfl ?_; clear d
 rintro _ _ ⟨p, rfl, rfl⟩
 refine ⟨aT, fun d => ?_⟩
 refine cj 7 (et (sz := 1) (by_ := 24) (info := Tryz.t80) wI (by kernel_rfl) rfl rfl rfl rfl (by decide) rfl rfl ee rfl rfl (by simp only [maxLen]; omega) (by omega)) ?_; clear d
 rintro _ q ⟨k, f, rfl, e⟩
 obtain rfl := e.symm
 refine ⟨aT, fun d => ?_⟩
 refine aj 8 2 d ?_
 refine cp 10 dX fun d => ?_
 refine i6 ?_
 refine oI (aH (aX (ae rfl (aM rfl) ?_)))
 refine ae rfl (db rfl rfl (by first | exact co (by omega) | rfl)) ?_
 refine ae rfl (bA rfl) (aL (aH ?_))
 refine bR (i + 1) ?_ (he := ?_)
 omega
 rw [show List.replicate (i + 1) cm = List.replicate i cm ++ [cm] from QbL]; exact Dy (vs := o) (n := i + 1) (a := k) (c := f) (g2 := g) (ys := List.replicate (64 * 1) (.int .u8 0)) (y := cm) (vi := .slice (some ⟨g, 0, none⟩) 64 64) (fr := List.replicate i cm) rfl rfl (by simp [cm]) (by simp [m]) (by simp)
 skip
 refine nT rfl rfl (js wI Gn GG rfl rfl rfl rfl rfl (by decide) (by decide)) rfl ?_; clear d
 rintro _ _ ⟨p, rfl, rfl⟩
 refine ⟨aT, fun d => ?_⟩
 refine cg 4 (dP (aE (aI rfl))) fun d => ?_
 refine cj 7 (et (sz := 1) (by_ := 24) (info := Tryz.t80) wI (by kernel_rfl) rfl rfl rfl rfl (by decide) rfl rfl ee rfl rfl (by simp only [maxLen]; omega) (by omega)) ?_; clear d
 rintro _ q ⟨k, f, rfl, e⟩
 obtain rfl := e.symm
 refine ⟨aT, fun d => ?_⟩
 refine aj 8 2 d ?_
 refine cp 10 dX fun d => ?_
 refine aJ ?_
 refine aa bY ?_
 refine bR (i + 1) ?_ (he := ?_)
 omega
 rw [show List.replicate (i + 1) cm = List.replicate i cm ++ [cm] from QbL]; exact Dy (vs := o) (n := i + 1) (a := k) (c := f) (g2 := g) (ys := List.replicate (64 * 1) (.int .u8 0)) (y := cm) (vi := .slice (some ⟨g, 0, none⟩) 64 64) (fr := List.replicate i cm) rfl rfl (by simp [cm]) (by simp [m]) (by simp)
 refine aw ?_
 refine az ?_
 have : i = n := by omega
 subst this
 exact ⟨_, ⟨l, rfl, rfl⟩, IO⟩
def ku (p : Pl) : Value := .bool (decide (p ≠ (0, 0)))
abbrev dJ (pg : List Pl) : Obj := ag (pg.map ku ++ pg.flatMap fV) 221
theorem Dz {pg sp i} (a : i < pg.length) : ((pg.map ku ++ sp).drop (i * 1)).take 1 = [ku (eG pg i)] := by
 rw [QaB, List.drop_append_of_le_length (by simp; omega), ← List.map_drop, Qbf a, QaL, Qay, List.take_succ_cons, List.take_zero]
 simp [eG, List.getD, a]
theorem Xq {pg i} (h : pg.length = 12) (a : i < 12) : ((pg.map ku ++ pg.flatMap fV).drop (12 + i * 2)).take 2 = fV (eG pg i) := by
 rw [← QcR, List.drop_left' (by simpa using h)]
 have := Du (pg := pg) (sp := []) (n := i) (by omega)
 rwa [Qav] at this
theorem DC : ∀ (d a b : List Value) (c : Nat), d7 (a ++ b) (a.length + c) d = a ++ d7 b c d
 | [], a, b, c => rfl
 | v :: d, a, b, c => by
  rw [d7, d7, QbB _ _ (by omega), show a.length + c - a.length = c by omega, show a.length + c + 1 = a.length + (c + 1) by omega, DC d]
theorem Xr {a : List Pl} {i p} (h : a.length = 12) (d : i < 12) (b : lp p = true) : d7 ((a.map ku ++ a.flatMap fV).set (i * 1) (.bool true)) (12 + i * 2) (fV p) = (a.set i p).map ku ++ (a.set i p).flatMap fV := by
 have c : ku p = .bool true := by
  have := pH.1 b
  simp only [ku, Value.bool.injEq, Qaj]
  intro e; rw [e] at this; simp at this
 rw [QaB, Qca _ _ (by simp; omega), ← c, ← List.map_set]
 have e := DC (fV p) ((a.set i p).map ku) (a.flatMap fV) (i * 2)
 rw [show ((a.set i p).map ku).length = 12 by simp [h]] at e
 rw [e]
 have := A9 (pg := a) (sp := []) (n := i) (p := p) (by omega)
 rw [Qav, Qav] at this
 rw [this]
theorem DD n : sQ W0 189 [iQ n] R (.bool (jg n)) R := by
 refine am func189 ntmps189 ?_
 refine bO (fun a => ?_) fun a => ?_
 refine ac ?_
 refine aG ?_
 refine Qai Value.bool ?_
 rw [Qag]; simp only [jg, Qaj, Qaq, QaS]; omega
 refine ac ?_
 refine aG ?_
 refine Qai Value.bool ?_
 rw [Qag]; simp only [jg, Qaj, Qaq, QaS]; omega
theorem Af b pg (h : Pgs pg) n p : sQ W0 111 [pQ b, iQ n, .agg (fV p).toArray] (pt b (dJ pg) :: R) (iQ (fW pg n p)) (pt b (dJ (dO pg n p)) :: R) := by
 have o := h.len
 refine am func111 ntmps111 ?_
 refine bz fun q => ?_
 refine ah (aC O6 (DD n)) ?_
 refine cz (fun c => ?_) fun c => ?_
 refine ac ?_
 have a : fW pg n p = 1 := by
  grind [fW]
 exact ⟨_, ⟨by simp [aN, a], by rw [dO, a, Qaa (by decide)]⟩, IO⟩
 refine cz (fun j => ?_) fun j => ?_
 refine ac ?_
 have a : fW pg n p = 1 := by
  unfold fW; rw [Qaa]
  intro d
  have := pH.1 d.2
  first
    | omega
    | (simp [d.1] at c)
 exact ⟨_, ⟨by simp [aN, a], by rw [dO, a, Qaa (by decide)]⟩, IO⟩
 refine cz (fun f => ?_) fun f => ?_
 refine ac ?_
 have a : fW pg n p = 1 := by
  unfold fW; rw [Qaa]
  intro d
  have := pH.1 d.2
  first
    | omega
    | (simp [d.1] at c)
 exact ⟨_, ⟨by simp [aN, a], by rw [dO, a, Qaa (by decide)]⟩, IO⟩
 refine cz (fun g => ?_) fun g => ?_
 refine ac ?_
 have a : fW pg n p = 1 := by
  unfold fW; rw [Qaa]
  intro d
  have := pH.1 d.2
  first
    | omega
    | (simp [d.1] at c)
 exact ⟨_, ⟨by simp [aN, a], by rw [dO, a, Qaa (by decide)]⟩, IO⟩
 refine ai (fun r => ?_) fun r => ?_
 refine ac ?_
 have a : fW pg n p = 1 := by
  unfold fW; rw [Qaa]
  intro d
  have := pH.1 d.2
  first
    | omega
    | (simp [d.1] at c)
 exact ⟨_, ⟨by simp [aN, a], by rw [dO, a, Qaa (by decide)]⟩, IO⟩
 have s : jg n = true := by grind
 have t : lp p = true := pH.2 (by omega)
 obtain ⟨i, e, k⟩ := kM s
 have l := Dz (pg := pg) (sp := pg.flatMap fV) (i := i) (by omega)
 have u : aK pg n = decide (eG pg i ≠ (0, 0)) := by grind [aK]
 refine aa (eW zl iT rfl rfl e k (by first | exact Qac _ | rfl)) ?_
 refine aa (aE (cV (vs := [ku (eG pg i)]) l rfl 0 _ rfl)) ?_
 refine ai (fun v => ?_) fun v => ?_
 have w : aK pg n = true := by grind
 refine ac ?_
 have a : fW pg n p = 5 := by grind [fW]
 exact ⟨_, ⟨by simp [aN, a], by rw [dO, a, Qaa (by decide)]⟩, IO⟩
 have w : aK pg n = false := by grind
 have a : fW pg n p = 0 := by grind [fW]
 refine aa (eW zl iT rfl rfl e k (by first | exact Qac _ | rfl)) ?_
 refine ar (dq (by grind) rfl) ?_
 refine bq [q] 7 fun m => ?_
 refine aj 0 5 m ?_
 refine ax 5 m (eW Gp pW rfl rfl e k (by first | exact Qac _ | rfl)) ?_
 refine cp 6 (iH (by rw [Qap, Qaf, Qax, cJ ug]; omega) (Xr o k t)) fun m => ?_
 refine aJ ?_
 refine ac ?_
 rw [show dO pg n p = pg.set i p by rw [dO, Qad a, e, Qae]]
 exact ⟨_, ⟨by simp [aN, a], rfl⟩, IO⟩
theorem uj b pg (h : Pgs pg) n : sQ W0 120 [pQ b, iQ n] (pt b (dJ pg) :: R) (.tuple #[.agg (fV (bF pg n)).toArray, .bool (aK pg n)]) (pt b (dJ pg) :: R) := by
 have j := h.len
 refine am func120 ntmps120 ?_
 refine ez (dx Cl) fun p => ?_
 refine ae rfl (bA rfl) (aL (aH (aO (aO (aX (ae rfl (aM rfl) (aD rfl (iE O6 rfl (DD n)) ?_)))))))
 rintro _ q ⟨rfl, f⟩
 obtain rfl := f.symm
 refine ae rfl (rn rfl) (aL (aH ?_))
 refine aA rfl (fun l => ?_) fun l => ?_
 refine aO ?_
 refine aX (ae rfl (fR Cf Cl (aP aR (aP aR fQ)) fP) ?_)
 refine fh (fN pW rfl rfl rfl rfl rfl) ?_
 rintro _ _ rfl
 refine ae rfl (bA rfl) (aL (aH (dE (iU (aV (.cons (bi zc pW rfl rfl) (.cons (aS rfl) .nil)) ?_)))))
 refine aG ?_
 have m : aK pg n = false := by grind [aK]
 simp [aN, bF, m]
 have o : jg n = true := by grind
 obtain ⟨i, c, g⟩ := kM o
 have d := Dz (pg := pg) (sp := pg.flatMap fV) (i := i) (by omega)
 have e := Xq (pg := pg) j g
 refine jd (aH (aO ?_))
 refine fj [(b, 12 + i * 2, fV (eG pg i)), (b, i * 1, [ku (eG pg i)])] 14 mixed rfl (bU (cV e rfl) (bU (cV d rfl) bH)) (fun a => ?_)
 refine aj 0 4 a ?_
 refine ax 4 a (eW Gp pW rfl rfl c g (by first | exact Qac _ | rfl)) ?_
 refine dp 5 rfl rfl rfl a (iD zc pW rfl (jN (k := 0) rfl) rfl) ?_
 refine dp 6 rfl rfl rfl a (aM rfl) ?_
 refine dp 7 rfl rfl rfl a (aM rfl) ?_
 refine dp 8 rfl rfl rfl a (kI rfl) ?_
 refine dp 9 rfl rfl rfl a (d5 rfl a8i rfl sizeOf219 rfl (by first | exact Qac _ | rfl)) ?_
 refine ax 10 a (eW zl iT rfl rfl c g (by first | exact Qac _ | rfl)) ?_
 refine ax 11 a (aE (jt (k := 1) rfl)) ?_
 refine m8 12 rfl rfl aF (bU (cV e rfl) (bU (cV d rfl) bH)) fun a => ?_
 refine aj 13 1 a ?_
 refine aJ ?_
 refine aV (.cons (bi zc pW rfl rfl) (.cons (aS rfl) .nil)) ?_
 refine aG ?_
 subst c
 by_cases r : eG pg i = (0, 0)
 grind [aK, aN, bF, ku]
 grind [aK, aN, bF, ku]
theorem Xs b pg (h : Pgs pg) n kind : bE Tryz.prog W0 200 [.pointer (some ⟨b, 0, none⟩), .int .i64 n, .int .i64 kind] (pt b (dJ pg) :: R)
    (fun v B => v = .int .i64 (fp pg n kind) ∧ B = pt b (dJ pg) :: R) := by
 refine D3 func200 ntmps200 rfl rfl ?_
 refine aO (aX (ae rfl (bA rfl) (aL (aH (aO (aX (ae rfl (aM rfl) (ae rfl (aM rfl) (aD rfl (gU wN rfl (uj b pg h n)) ?_)))))))))
 rintro _ o ⟨rfl, k⟩
 obtain rfl := k.symm
 refine ae rfl (aM rfl) (ae rfl (lI rfl rfl) (ae rfl (lI rfl rfl) (aD rfl (dx Cl) ?_)))
 rintro _ _ ⟨p, rfl, rfl⟩
 refine fh (fN pW rfl rfl rfl rfl rfl) ?_
 rintro _ _ rfl
 refine ae rfl (bA rfl) (aL (aH (aO (aO (aX (ae rfl (aM rfl) (ae rfl (rn rfl) (aL (aH ?_)))))))))
 refine aA rfl ?_ ?_
 intro l
 refine aO (aX (ae rfl (bA rfl) (aL (aH (dE (iU (bX (.inl rfl) (.cons (aS rfl) .nil) ?_)))))))
 refine ⟨_, ⟨?_, rfl⟩, IO⟩
 have f : aK pg n = false := by simpa using l
 simp [aN, fp, f]
 intro l
 have f : aK pg n = true := by simpa using l
 have q := pH.1 (xo h f)
 have d : bF pg n = eG pg n.toNat := by simp [bF, f]
 refine jd (aH (aO (aO (aX (ae rfl (aM rfl) (ae rfl (ix rfl rfl) (ae rfl (aM rfl) ?_)))))))
 refine iF rfl rfl rfl ?_ ?_
 intro g
 refine ae rfl (aM rfl) (cI rfl rfl (ae rfl (nu rfl rfl) (ae rfl (m5 rfl rfl) (ae rfl (aM rfl) ?_))))
 refine cy rfl rfl rfl ?_ ?_
 intro j
 refine fy rfl rfl rfl rfl (fy rfl rfl rfl rfl (pz rfl rfl rfl (pz rfl rfl rfl (pz rfl rfl rfl (pz rfl rfl rfl (fy rfl rfl rfl rfl (ae rfl (m5 rfl rfl) (ae rfl (aM rfl) (fy rfl rfl rfl rfl (fy rfl rfl rfl rfl (fy rfl rfl rfl rfl (pz rfl rfl rfl (pz rfl rfl rfl (pz rfl rfl rfl (fy rfl rfl rfl rfl (ae rfl (m5 rfl rfl) (aL (aH (zP rfl (aO (aX (ae rfl (bA rfl) (aL ?_)))))))))))))))))))))))
 refine aH (dE (iU (bX (.inl rfl) (.cons (aS rfl) .nil) ?_)))
 refine ⟨_, ⟨?_, rfl⟩, IO⟩
 have e : jx n (eG pg n.toNat) kind = true := by
  rw [← d]; simp only [jx, Qaj]
  simp only [Qat (show 0 ≤ (bF pg n).2 by omega)] at *
  omega
 simp [aN, fp, f, e]
 intro j
 refine ae rfl (aM rfl) (cI rfl rfl (ae rfl (ix rfl rfl) (cI rfl rfl (ae rfl (aM rfl) ?_))))
 refine iF rfl rfl rfl ?_ ?_
 intro c
 first | omega | (simp at g c; omega)
 intro c
 refine fy rfl rfl rfl rfl (fy rfl rfl rfl rfl (fy rfl rfl rfl rfl (cI rfl rfl (ae rfl (iu rfl rfl) (ae rfl (iu rfl rfl) (ae rfl (aM rfl) (cI rfl rfl (ae rfl (aM rfl) (cI rfl rfl (ae rfl (ix rfl rfl) (cI rfl rfl (ae rfl (aM rfl) ?_))))))))))))
 refine iF rfl rfl rfl ?_ ?_
 intro a
 first | omega | (simp at g a; omega)
 intro a
 refine fy rfl rfl rfl rfl (fy rfl rfl rfl rfl (cI rfl rfl (ae rfl (iu rfl rfl) (ae rfl (iu rfl rfl) (aL (aH (zQ rfl (jd (aH (aO (aX (ae rfl (bA rfl) (aL (aH (dE (bX (.inl rfl) (.cons (aS rfl) .nil) ?_))))))))))))))))
 refine ⟨_, ⟨?_, rfl⟩, IO⟩
 have e : jx n (eG pg n.toNat) kind = false := by
  rw [← d, ← Qau]; simp only [jx, Qaj]
  simp only [Qat (show 0 ≤ (bF pg n).2 by omega)] at *
  omega
 simp [aN, fp, f, e]
 intro g
 refine fy rfl rfl rfl rfl (ae rfl (iu rfl rfl) (ae rfl (aM rfl) (cI rfl rfl (ae rfl (aM rfl) (cI rfl rfl (ae rfl (ix rfl rfl) (cI rfl rfl (ae rfl (aM rfl) ?_))))))))
 refine iF rfl rfl rfl ?_ ?_
 intro c
 refine ae rfl (d5 rfl Cf rfl aR rfl (by first | exact Qac _ | rfl)) ?_
 refine cI rfl rfl (ae rfl (cu di rfl (aI rfl)) ?_)
 refine cI rfl rfl ?_
 refine ae rfl (dT rfl rfl (by decide) rfl) ?_
 refine cI rfl rfl (ae rfl (ix rfl rfl) (cI rfl rfl (ae rfl (m5 rfl rfl) (ae rfl (iu rfl rfl) (ae rfl (aM rfl) ?_)))))
 refine cy rfl rfl rfl ?_ ?_
 intro i
 refine fy rfl rfl rfl rfl (fy rfl rfl rfl rfl (pz rfl rfl rfl (pz rfl rfl rfl (pz rfl rfl rfl (fy rfl rfl rfl rfl (ae rfl (m5 rfl rfl) (aL (aH (zP rfl (aO (aX (ae rfl (bA rfl) (aL (aH (dE (iU (bX (.inl rfl) (.cons (aS rfl) .nil) ?_)))))))))))))))))
 refine ⟨_, ⟨?_, rfl⟩, IO⟩
 have e : jx n (eG pg n.toNat) kind = true := by
  rw [← d]; simp only [jx, Qaj]
  simp only [Qat (show 0 ≤ (bF pg n).2 by omega)] at *
  omega
 simp [aN, fp, f, e]
 intro i
 refine ae rfl (aM rfl) (cI rfl rfl (ae rfl (ix rfl rfl) (cI rfl rfl (ae rfl (aM rfl) ?_))))
 refine iF rfl rfl rfl ?_ ?_
 intro a
 first | omega | (simp at c a; omega)
 intro a
 refine fy rfl rfl rfl rfl (fy rfl rfl rfl rfl (cI rfl rfl (ae rfl (iu rfl rfl) (ae rfl (iu rfl rfl) (aL (aH (zQ rfl (jd (aH (aO (aX (ae rfl (bA rfl) (aL (aH (dE (bX (.inl rfl) (.cons (aS rfl) .nil) ?_))))))))))))))))
 refine ⟨_, ⟨?_, rfl⟩, IO⟩
 have e : jx n (eG pg n.toNat) kind = false := by
  rw [← d, ← Qau]; simp only [jx, Qaj]
  simp only [Qat (show 0 ≤ (bF pg n).2 by omega)] at *
  omega
 simp [aN, fp, f, e]
 intro c
 refine fy rfl rfl rfl rfl (fy rfl rfl rfl rfl (fy rfl rfl rfl rfl (cI rfl rfl (ae rfl (iu rfl rfl) (ae rfl (iu rfl rfl) (ae rfl (aM rfl) (cI rfl rfl (ae rfl (aM rfl) (cI rfl rfl (ae rfl (ix rfl rfl) (cI rfl rfl (ae rfl (aM rfl) ?_))))))))))))
 refine iF rfl rfl rfl ?_ ?_
 intro a
 refine ae rfl (d5 rfl Cf rfl aR rfl (by first | exact Qac _ | rfl)) ?_
 refine cI rfl rfl (ae rfl (cu di rfl (aI rfl)) ?_)
 refine cI rfl rfl (ae rfl (vf rfl rfl) (cI rfl rfl (ae rfl (m5 rfl rfl) (ae rfl (iu rfl rfl) (aL (aH ?_))))))
 refine aA rfl ?_ ?_
 intro m
 refine aO (aX (ae rfl (bA rfl) (aL (aH (dE (iU (bX (.inl rfl) (.cons (aS rfl) .nil) ?_)))))))
 refine ⟨_, ⟨?_, rfl⟩, IO⟩
 have e : jx n (eG pg n.toNat) kind = true := by
  rw [← d]; simp only [jx, Qaj]
  simp only [Qat (show 0 ≤ (bF pg n).2 by omega)] at *
  omega
 simp [aN, fp, f, e]
 intro m
 refine jd (aH (aO (aX (ae rfl (bA rfl) (aL (aH (dE (bX (.inl rfl) (.cons (aS rfl) .nil) ?_))))))))
 refine ⟨_, ⟨?_, rfl⟩, IO⟩
 have e : jx n (eG pg n.toNat) kind = false := by
  rw [← d, ← Qau]; simp only [jx, Qaj]
  simp only [Qat (show 0 ≤ (bF pg n).2 by omega)] at *
  omega
 simp [aN, fp, f, e]
 intro a
 refine fy rfl rfl rfl rfl (fy rfl rfl rfl rfl (cI rfl rfl (ae rfl (iu rfl rfl) (ae rfl (iu rfl rfl) (aL (aH (zQ rfl (jd (aH (aO (aX (ae rfl (bA rfl) (aL (aH (dE (bX (.inl rfl) (.cons (aS rfl) .nil) ?_))))))))))))))))
 refine ⟨_, ⟨?_, rfl⟩, IO⟩
 have e : jx n (eG pg n.toNat) kind = false := by
  rw [← d, ← Qau]; simp only [jx, Qaj]
  simp only [Qat (show 0 ≤ (bF pg n).2 by omega)] at *
  omega
 simp [aN, fp, f, e]
theorem xu {n f} : dN n f = true ↔ 0 ≤ f ∧ f < n := by simp [dN]
def vL (d : Nat) : List Value := (List.range 12).map (fun i => .bool (Nat.testBit d i))
abbrev gj (qs qm d : Nat) : Obj := ag (.pointer (some ⟨qs, 0, none⟩) :: .pointer (some ⟨qm, 0, none⟩) :: vL d) 223
theorem Ag qv qs qm d fr pg (h : Pgs pg) (a : Nat) (o : a < 4294967296) w kind : sQ W0 135 [pQ qv, .int .u32 a, iQ w, iQ kind] (pt qv (gj qs qm d) :: cN qs fr :: pt qm (dJ pg) :: R) (.tuple #[.agg (jS fr.length pg a w kind).toArray, iQ (dB fr.length pg a w kind)]) (pt qv (gj qs qm d) :: cN qs fr :: pt qm (dJ pg) :: R) := by
 refine am func135 ntmps135 ?_
 refine ez (dx tL) fun m => ?_
 refine au 3 ?_
 refine cF (fun _ : Unit => en a w = true) (fun _ => [(0, pQ qv), (1, .int .u32 a), (3, iQ kind), (8, pQ m)]) (fun _ => pt m (ag [iQ 0, iQ 0, iQ 0, .bool false] 238) :: pt qv (gj qs qm d) :: cN qs fr :: pt qm (dJ pg) :: R) ?_ ?_
 refine au 5 ?_
 refine bO (fun g => ?_) fun g => ?_
 refine bO (fun i => ?_) fun i => ?_
 refine cz (fun e => ?_) fun e => ?_
 refine ar aF ?_
 refine aV (.cons (bi g8 eT rfl rfl) (.cons (aS rfl) .nil)) ?_
 refine aG ?_
 have c : en a w = false := by
  grind [en]
 have b : dB fr.length pg a w kind = 1 := by simp [dB, c]
 simp [aN, jS, b]
 refine aa (bD (cW (by omega))) ?_
 refine aa (dT rfl rfl (by omega) (Qat (by omega))) ?_
 refine ai (fun j => ?_) fun j => ?_
 refine ar aF ?_
 refine aV (.cons (bi g8 eT rfl rfl) (.cons (aS rfl) .nil)) ?_
 refine aG ?_
 have c : en a w = false := by
  rw [← Qau]; simp only [en, Qaj]
  rintro ⟨p, u⟩
  first
    | omega
    | (rcases p with rfl | rfl | rfl <;> omega)
 have b : dB fr.length pg a w kind = 1 := by simp [dB, c]
 simp [aN, jS, b]
 have c : en a w = true := by
  simp only [en, Qaj]
  refine ⟨by omega, ?_⟩
  have : w = 1 ∨ w = 2 ∨ w = 4 := by omega
  rcases this with rfl | rfl | rfl <;> omega
 exact bu () (c)
 refine aa (bD (cW (by omega))) ?_
 refine aa (dT rfl rfl (by omega) (Qat (by omega))) ?_
 refine ai (fun j => ?_) fun j => ?_
 refine ar aF ?_
 refine aV (.cons (bi g8 eT rfl rfl) (.cons (aS rfl) .nil)) ?_
 refine aG ?_
 have c : en a w = false := by
  grind [en]
 have b : dB fr.length pg a w kind = 1 := by simp [dB, c]
 simp [aN, jS, b]
 have c : en a w = true := by
  grind [en]
 exact bu () (c)
 refine aa (bD (cW (by omega))) ?_
 refine aa (dT rfl rfl (by omega) (Qat (by omega))) ?_
 refine ai (fun j => ?_) fun j => ?_
 refine ar aF ?_
 refine aV (.cons (bi g8 eT rfl rfl) (.cons (aS rfl) .nil)) ?_
 refine aG ?_
 have c : en a w = false := by
  grind [en]
 have b : dB fr.length pg a w kind = 1 := by simp [dB, c]
 simp [aN, jS, b]
 have c : en a w = true := by
  grind [en]
 exact bu () (c)
 intro _ c
 refine aw ?_
 refine ai (fun q => ?_) fun q => ?_
 refine ar aF ?_
 refine aV (.cons (bi g8 eT rfl rfl) (.cons (aS rfl) .nil)) ?_
 refine aG ?_
 have b : dB fr.length pg a w kind = 2 := by grind [dB]
 simp [aN, jS, b]
 refine aa (nr rfl rfl (by decide) ((Qai (IntKind.wrap .u32) (ql a 64)).trans (cW (by omega)))) ?_
 refine aa (bD (co (by omega))) ?_
 refine ah (ap call200 (Xs qm pg h ((a / 64 : Nat) : Int) kind)) ?_
 refine aA rfl (fun r => ?_) fun r => ?_
 refine au 4 ?_
 refine ar aF ?_
 refine aV (.cons (bi g8 eT rfl rfl) (.cons (aS rfl) .nil)) ?_
 refine aG ?_
 have b : dB fr.length pg a w kind = fp pg ((a / 64 : Nat) : Int) kind := by grind [dB]
 rw [jS, Qaa (by omega), b]; rfl
 have n : fp pg ((a / 64 : Nat) : Int) kind = 0 := by omega
 have k : aK pg ((a / 64 : Nat) : Int) = true := by
  unfold fp at n; split at n
  assumption
  omega
 have v := pH.1 (xo h k)
 refine aw ?_
 refine ah (ap wN (uj qm pg h ((a / 64 : Nat) : Int))) ?_
 refine bj fun s => ?_
 refine ar aF ?_
 refine bq [s, qv] 8 fun l => ?_
 refine aj 0 6 l ?_
 refine cg 6 (ap sf (qu qs fr _)) fun l => ?_
 refine aj 7 1 l ?_
 refine aJ ?_
 refine ai (fun f => ?_) fun f => ?_
 refine ar aF ?_
 refine aV (.cons (bi g8 eT rfl rfl) (.cons (aS rfl) .nil)) ?_
 refine aG ?_
 have t : ¬ (bF pg ((a / 64 : Nat) : Int)).1 < fr.length := by
  rw [xu] at f; omega
 have b : dB fr.length pg a w kind = 7 := by grind [dB]
 simp [aN, jS, b]
 refine aa (dT rfl rfl (by decide) (iJ a 64)) ?_
 refine aa (bD (co (by omega))) ?_
 refine ar aF ?_
 refine aV (.cons (bi g8 eT rfl rfl) (.cons (aS rfl) .nil)) ?_
 refine aG ?_
 have t : (bF pg ((a / 64 : Nat) : Int)).1 < fr.length := by
  rw [xu] at f; omega
 have b : dB fr.length pg a w kind = 0 := by grind [dB]
 simp [aN, jS, b]
theorem Xt {a b d n} (h : n < 12) : (a :: b :: vL d).set (2 + n * 1) (.bool true) = a :: b :: vL (d ||| 2 ^ n) := by
 rw [show 2 + n * 1 = n + 1 + 1 by omega, Qcl, Qcl]
 congr 2
 apply QaP
 simp [vL]
 grind [vL]
theorem Xu qv qs qm d fr pg (h : Pgs pg) (i : cB fr) (a : Nat) (e : a < 4294967296) w (x : Nat) (j : x < 4294967296) : sQ W0 56 [pQ qv, .int .u32 a, iQ w, .int .u32 x] (pt qv (gj qs qm d) :: cN qs fr :: pt qm (dJ pg) :: R) (iQ (dB fr.length pg a w 2)) (pt qv (gj qs qm (pI fr pg a w d)) :: cN qs (kN fr pg a w x) :: pt qm (dJ pg) :: R) := by
 by_cases b : dB fr.length pg a w 2 = 0
 obtain ⟨l, m, k⟩ := xq b
 rw [pI, Qad b, kN, Qad b]
 refine am func56 ntmps56 ?_
 refine ah (cM GH (Ag qv qs qm d fr pg h a e w 2)) ?_
 rw [k, b]
 refine bj fun g => ?_
 refine iW 10 aF ?_
 refine ai (fun f => ?_) fun f => ?_
 refine bq [qv, g] 11 fun c => ?_
 refine aj 0 10 c ?_
 refine cg 10 (ap Cp (xt qs fr _ _ w x j i)) fun c => ?_
 refine aJ ?_
 refine bq [g] 7 fun c => ?_
 refine aj 0 5 c ?_
 refine ax 5 c (ew (by omega)) ?_
 refine cp 6 (dq (by simp [vL]; omega) (Xt (by omega))) fun c => ?_
 refine aJ ?_
 exact ac ao
 exact absurd rfl f
 rw [pI, Qaa b, kN, Qaa b]
 refine am func56 ntmps56 ?_
 refine ah (cM GH (Ag qv qs qm d fr pg h a e w 2)) ?_
 rw [jS, Qaa b]
 refine bj fun g => ?_
 refine ar aF ?_
 refine ai (fun f => ?_) fun f => ?_
 exact absurd f b
 exact ac ao
def j4 (pa n at_ : Nat) : Nat := min (n - at_) (64 - (pa + at_) % 64)
theorem IC {pa n at_} (h : at_ < n) : 0 < j4 pa n at_ ∧ at_ + j4 pa n at_ ≤ n := by unfold j4; omega
def DF (pa n at_ : Nat) : List Value := [.int .i64 ((pa + at_) / 64 : Nat), .int .i64 ((pa + at_) % 64 : Nat), .int .i64 (at_ : Nat), .int .i64 (j4 pa n at_ : Nat)]
theorem Xv W0 bn bp pa n L (hpa : pa ≤ 100000) (hn : n ≤ 100000) (C : Nat → List HP) (I : Nat → Prop) (h0 : I 0) (Stop : List HP → Prop) (hr : ∀ at_ R, at_ < n → I at_ → qk Tryz.prog W0 L [.agg (DF pa n at_).toArray] (C at_ ++ R) (fun v B => ∃ b B', v = .bool b ∧ B = B' ++ R ∧ ((b = true ∧ I (at_ + j4 pa n at_) ∧ B' = C (at_ + j4 pa n at_)) ∨ (b = false ∧ Stop B')))) : sP W0 247 [.func (.yield L) #[] #[], pQ bn, pQ bp] (pt bn (ag [iQ n] 3) :: pt bp (ag [iQ pa] 3) :: C 0) (fun v B => v = .tuple #[] ∧ ((I n ∧ B = C n) ∨ Stop B)) := by
 refine am func247 ntmps247 ?_
 refine d4 (fun i : Nat => i ≤ n ∧ I i) (fun i => [(0, .func (.yield L) #[] #[]), (1, pQ bn), (2, pQ bp), (4, iQ i)]) (fun i => pt bn (ag [iQ n] 3) :: pt bp (ag [iQ pa] 3) :: C i) (fun i => n - i) 0 ?_ ?_
 grind
 intro i ⟨l, f⟩
 refine aw ?_
 refine ai (fun k => ?_) fun k => ?_
 have g := IC (pa := pa) (n := n) (at_ := i) (by omega)
 refine aa (dU (pa + i)) ?_
 refine aa (nr rfl rfl (by decide) ((Qai (IntKind.wrap .i64) (ql (pa + i) 64)).trans (co (by omega)))) ?_
 refine aa (dU (pa + i)) ?_
 refine aa (dT rfl rfl (by decide) (iJ (pa + i) 64)) ?_
 refine bj fun m => ?_
 refine ar aF ?_
 refine aa (nU (n - i)) ?_
 refine aa (nU (64 - (pa + i) % 64)) ?_
 refine aa (sF rfl rfl (by unfold j4; split <;> omega : (if ((64 - (pa + i) % 64 : Nat) : Int) < ((n - i : Nat) : Int) then ((64 - (pa + i) % 64 : Nat) : Int) else ((n - i : Nat) : Int)) = ((j4 pa n i : Nat) : Int))) ?_
 refine iW 7 dX ?_
 refine Db rfl rfl rfl (Df (QaX (l₁ := [_, _, _])) (hr i [_, _, _] (by omega) f)) ?_
 rintro _ o ⟨b, B', rfl, a, j⟩
 obtain rfl := a.symm
 refine pX QaX ?_
 simp only [Qay, Qaw]
 refine aw ?_
 refine aA rfl (fun c => ?_) fun c => ?_
 have d : Stop B' := by
  rcases j with h | h
  exact absurd c (by rw [h.1]; decide)
  exact h.2
 refine aw ?_
 refine bX (.inl rfl) .nil ?_
 exact ⟨_, ⟨rfl, .inr d⟩, IO⟩
 have d : I (i + j4 pa n i) ∧ B' = C (i + j4 pa n i) := by
  rcases j with h | h
  exact h.2
  exact absurd (by rw [h.1]; decide) c
 obtain ⟨e, rfl⟩ := d
 refine aw ?_
 refine aa (dU (i + j4 pa n i)) ?_
 exact bR (i + j4 pa n i) (⟨by omega, e⟩)
 refine bX (.inr rfl) .nil ?_
 have : i = n := by omega
 subst this
 exact ⟨_, ⟨rfl, .inl ⟨f, rfl⟩⟩, IO⟩
theorem ID (a n : Nat) : sP W0 170 [iQ a, iQ n] R (fun v B => ∃ b c, v = .func (.func 247) #[] #[pQ b, pQ c] ∧ B = pt b (ag [iQ n] 3) :: pt c (ag [iQ a] 3) :: R) := by
 refine am func170 ntmps170 ?_
 refine dt (jL rfl rfl) fun d => ?_
 refine dt (jL rfl rfl) fun e => ?_
 refine ac ?_
 exact ⟨_, ⟨e, d, rfl, rfl⟩, IO⟩
theorem IE {W0 A e n' L D bn bp ps asg body} {p b : List HP → Prop} (c n : Nat) (C : Nat → List HP) (I : Nat → Prop) (j : c ≤ 100000) (r : n ≤ 100000)
    (s : A.Perm (pt bn (ag [iQ n] 3) :: pt bp (ag [iQ c] 3) :: C 0)) (t : I 0) (k : I n → p (C n))
    (u : ∀ a R, a < n → I a → qk Tryz.prog W0 L [.agg (DF c n a).toArray] (dI L ⟨e, n', ps, asg, body, .ready, none, D⟩ :: pt D (.deferred (some [])) :: (C a ++ R))
      (fun v B => (v = .bool true ∧ I (a + j4 c n a) ∧ B = dI L ⟨e, n', ps, asg, body, .ready, none, D⟩ :: pt D (.deferred (some [])) :: (C (a + j4 c n a) ++ R)) ∨
        (v = .bool false ∧ ∃ d, b d ∧ B = dI L ⟨e, n', ps, asg, body, .done, some .ret, D⟩ :: pt D (.deferred (some [])) :: (d ++ R)))) :
    bE Tryz.prog W0 247 (.func (.yield L) #[] #[] :: [pQ bn, pQ bp]) (dI L ⟨e, n', ps, asg, body, .ready, none, D⟩ :: pt D (.deferred (some [])) :: A)
      (fun _ B => (∃ C, B = dI L ⟨e, n', ps, asg, body, .ready, none, D⟩ :: pt D (.deferred (some [])) :: C ∧ p C) ∨ (∃ C, B = dI L ⟨e, n', ps, asg, body, .done, some .ret, D⟩ :: pt D (.deferred (some [])) :: C ∧ b C)) := by
 have g : (dI L ⟨e, n', ps, asg, body, .ready, none, D⟩ :: pt D (.deferred (some [])) :: A).Perm (pt bn (ag [iQ n] 3) :: pt bp (ag [iQ c] 3) :: (dI L ⟨e, n', ps, asg, body, .ready, none, D⟩ :: pt D (.deferred (some [])) :: C 0)) := by
  refine ((s.cons _).cons _).trans ?_
  exact (((List.Perm.swap _ _ _).trans ((List.Perm.swap _ _ _).cons _)).cons _).trans ((List.Perm.swap _ _ _).trans ((List.Perm.swap _ _ _).cons _)) |>.trans (QaN _)
 refine lK g (ge (Xv W0 bn bp c n L j r (fun i => dI L ⟨e, n', ps, asg, body, .ready, none, D⟩ :: pt D (.deferred (some [])) :: C i) I t
   (fun B => ∃ d, b d ∧ B = dI L ⟨e, n', ps, asg, body, .done, some .ret, D⟩ :: pt D (.deferred (some [])) :: d) fun a R l m w x => ?_) ?_)
 obtain ⟨f, h, o, y, z, E⟩ := u a R l m w x
 refine ⟨f, h, o, y, z, RoundIn.mono E ?_⟩
 rintro _ J ⟨v, B, rfl, F, G⟩
 rcases F with ⟨rfl, H, rfl⟩ | ⟨rfl, d, q, rfl⟩
 grind
 grind
 rintro v B ⟨_, ⟨m, rfl⟩ | ⟨d, q, rfl⟩⟩
 exact ⟨_, .inl ⟨_, rfl, k m⟩, ent_refl⟩
 exact ⟨_, .inr ⟨_, rfl, q⟩, ent_refl⟩
def gW (a : Nat) : Int := ((a / 64 : Nat) : Int)
def oM (len : Nat) (pg : List Pl) (pa n : Nat) : Prop := ∀ i, i < n → jh len pg (gW (pa + i)) = true
instance {len : Nat} {pg : List Pl} {pa n : Nat} : Decidable (oM len pg pa n) := by unfold oM; exact Nat.decidableBallLT n _
def iL (len : Nat) (pg : List Pl) (pa : Nat) (n : Int) : Bool := decide (0 ≤ n ∧ pa ≤ 512 ∧ n ≤ 512 - (pa : Int)) && decide (oM len pg pa n.toNat)
theorem rF {len pg pa n} : iL len pg pa n = true ↔ (0 ≤ n ∧ pa ≤ 512 ∧ n ≤ 512 - pa) ∧ oM len pg pa n.toNat := by simp [iL]
theorem sK {len pg} {a n : Nat} : iL len pg a n = true ↔ a + n ≤ 512 ∧ oM len pg a n := by
 grind [rF]
theorem Xw {pa n at_ i} (b : at_ ≤ i) (a : i < at_ + j4 pa n at_) : (pa + i) / 64 = (pa + at_) / 64 := by unfold j4 at a; omega
theorem IF {pa n at_ k} (a : k < j4 pa n at_) : (pa + (at_ + k)) / 64 = (pa + at_) / 64 ∧ (pa + (at_ + k)) % 64 = (pa + at_) % 64 + k := by unfold j4 at a; omega
theorem IG pv ps pm d fr pg (h : Pgs pg) (a : Nat) (s : a < 4294967296) n : sQ W0 88 [pQ pv, .int .u32 a, iQ n] (pt pv (bW ps pm d) :: aY ps fr :: pt pm (bB pg) :: R) (.bool (iL fr.length pg a n)) (pt pv (bW ps pm d) :: aY ps fr :: pt pm (bB pg) :: R) := by
 refine am func88 ntmps88 ?_
 refine dt (jL rfl rfl) fun l => ?_
 refine dt (rp O7 rfl) fun m => ?_
 refine dV 1 (ap Co (xp pv ps pm d)) ?_
 refine cy rfl rfl rfl (fun e => ?_) fun e => ?_
 exact absurd e (by decide)
 refine aw ?_
 refine cz (fun j => ?_) fun j => ?_
 refine ar dX ?_
 refine aV (.cons (x9 nk rfl (aI rfl)) .nil) ?_
 refine aG ?_
 refine Qai Value.bool (QcX ?_)
 rw [← Qau, rF]; omega
 refine cz (fun f => ?_) fun f => ?_
 refine ar dX ?_
 refine aV (.cons (x9 nk rfl (aI rfl)) .nil) ?_
 refine aG ?_
 refine Qai Value.bool (QcX ?_)
 rw [← Qau, rF]; omega
 refine aa (bD (by first | exact co (by omega) | rfl)) ?_
 refine aa gF ?_
 refine ai (fun t => ?_) fun t => ?_
 refine ar dX ?_
 refine aV (.cons (x9 nk rfl (aI rfl)) .nil) ?_
 refine aG ?_
 refine Qai Value.bool (QcX ?_)
 rw [← Qau, rF]; omega
 obtain ⟨k, rfl⟩ : ∃ k : Nat, n = (k : Int) := ⟨n.toNat, by omega⟩
 have u : a + k ≤ 512 := by omega
 refine aa (bD (by first | exact co (by omega) | rfl)) ?_
 refine aD rfl (aC call170 (ID a k)) ?_
 rintro _ v ⟨B, E, rfl, g⟩
 obtain rfl := g.symm
 refine au 3 ?_
 refine Dc (fun C => oM fr.length pg a k ∧ C = pt pv (bW ps pm d) :: pt m (ag [.bool false] 4) :: pt l (ag [pQ pv] 56) :: aY ps fr :: pt pm (bB pg) :: R) (fun C => ¬ oM fr.length pg a k ∧ C = pt pv (bW ps pm d) :: pt m (ag [.bool false] 4) :: pt l (ag [pQ pv] 56) :: aY ps fr :: pt pm (bB pg) :: R) rfl call247 ?_ ?_ ?_
 intro L D
 refine IE a k (fun _ => pt pv (bW ps pm d) :: pt m (ag [.bool false] 4) :: pt l (ag [pQ pv] 56) :: aY ps fr :: pt pm (bB pg) :: R) (fun i => oM fr.length pg a i) (by omega) (by omega) zU (fun i w => by omega) (fun x => ⟨x, rfl⟩) ?_
 intro b F y z
 simp only [Qay, Qaw]
 refine zZ rfl rfl ?_
 refine aX (aD rfl (dx NX) ?_)
 rintro _ _ ⟨G, rfl, rfl⟩
 refine iW 1 aF ?_
 refine zX rfl ?_
 refine mz (aO (aX (ae rfl (cu Nu rfl (aI rfl)) ?_)))
 refine ae rfl (d5 rfl zo rfl aR rfl (by first | exact Qac _ | rfl)) ?_
 refine ae rfl (cu di rfl (aI rfl)) ?_
 refine aD rfl (vm call171 rfl (Iw pv ps pm d fr pg h (((a + b) / 64 : Nat) : Int))) ?_
 rintro _ v ⟨rfl, g⟩
 obtain rfl := g.symm
 refine ae rfl (aM rfl) (ae rfl (lI rfl rfl) (ae rfl (lI rfl rfl) (ae rfl (bA rfl) (ae rfl (bA rfl) (aL (aH (aO (aX (ae rfl (aM rfl) (ae rfl (rn rfl) (aL (aH ?_))))))))))))
 refine aA rfl (fun o => ?_) fun o => ?_
 refine aO ?_
 refine aX (fh (m6 iT rfl rfl rfl (Qab rfl) SetL.eq) ?_)
 rintro _ _ rfl
 refine aL (aH (dE (mB (Wd ?_))))
 have A : ¬ oM fr.length pg a k := fun q => o (q b y)
 refine ⟨_, .inr ⟨rfl, _, ⟨A, rfl⟩, rfl⟩, ?_⟩
 simp only [Qay]
 exact IO
 refine au 2 ?_
 refine zY ?_
 have H : jh fr.length pg (gW (a + b)) = true := Qbu.1 o
 have p : oM fr.length pg a (b + j4 a k b) := fun i w => by
  rcases QaC i b with q | q
  exact z i q
  grind [gW, Xw]
 exact ⟨_, .inl ⟨rfl, p, rfl⟩, IO⟩
 intro D C r
 obtain ⟨c, rfl⟩ := r
 refine aw ?_
 refine iW 3 dX ?_
 refine vo (.inl rfl) (.cons (x9 nk rfl (aI rfl)) .nil) ?_
 refine aG ?_
 refine Qai Value.bool (QcX ?_)
 rw [sK]; exact ⟨u, c⟩
 intro D C r
 obtain ⟨c, rfl⟩ := r
 refine au 2 ?_
 refine vo (.inl rfl) (.cons (x9 nk rfl (aI rfl)) .nil) ?_
 refine aG ?_
 refine Qai Value.bool (QcX ?_)
 rw [← Qau, sK]; exact fun q => c q.2
def mM (pg : List Pl) (a : Nat) : Int := (bF pg (gW a)).1
theorem Xx W0 R pv ps pm pg (h : Pgs pg) pa n (hpa : pa + n ≤ 512) (dd : Nat → Nat) (ff : Nat → List aB) (DH : Nat → HP) gf us
    (hcall : ∀ args w, (callFunc gf args).run Tryz.prog w = .ok (.enter gf args) w)
    (hdo : ∀ i, i < n → ∀ R', Ent R' R → bE Tryz.prog W0 gf (iQ (mM pg (pa + i)) :: iQ ((pa + i) % 64 : Nat) :: iQ i :: us) (pt pv (bW ps pm (dd i)) :: aY ps (ff i) :: pt pm (bB pg) :: kH 0 (DH i) :: R')
      (fun v B => v = .tuple #[] ∧ B = pt pv (bW ps pm (dd (i + 1))) :: aY ps (ff (i + 1)) :: pt pm (bB pg) :: kH 0 (DH (i + 1)) :: R')) :
    bE Tryz.prog W0 89 [pQ pv, .int .u32 pa, iQ n, .func (.func gf) #[] us.toArray] (pt pv (bW ps pm (dd 0)) :: aY ps (ff 0) :: pt pm (bB pg) :: kH 0 (DH 0) :: R)
      (fun v B => v = .tuple #[] ∧ B = pt pv (bW ps pm (dd n)) :: aY ps (ff n) :: pt pm (bB pg) :: kH 0 (DH n) :: R) := by
 refine am func89 ntmps89 ?_
 refine dt (jL rfl rfl) fun b1 => ?_
 refine dt (jL rfl rfl) fun b2 => ?_
 refine aa (bD (by first | exact co (by omega) | rfl)) ?_
 refine aD rfl (aC call170 (ID pa n)) ?_
 rintro _ B_ ⟨bn, bp, rfl, hB_⟩
 obtain rfl := hB_.symm
 refine au 3 ?_
 refine Dc (fun C => C = pt b2 (ag [.func (.func gf) #[] us.toArray] 188) :: pt b1 (ag [pQ pv] 56) :: pt pv (bW ps pm (dd n)) :: aY ps (ff n) :: pt pm (bB pg) :: kH 0 (DH n) :: R) (fun C => False) rfl call247 ?_ ?_ ?_
 intro L D
 refine IE pa n (fun i => pt b2 (ag [.func (.func gf) #[] us.toArray] 188) :: pt b1 (ag [pQ pv] 56) :: pt pv (bW ps pm (dd i)) :: aY ps (ff i) :: pt pm (bB pg) :: kH 0 (DH i) :: R) (fun i => True) (by omega) (by omega) zU trivial (fun hI => rfl) ?_
 intro at_ R' h1 h2
 simp only [Qay, Qaw]
 refine zZ rfl rfl ?_
 refine aX (aD rfl (dx NX) ?_)
 rintro _ _ ⟨b3, rfl, rfl⟩
 refine iW 1 aF ?_
 refine zX rfl ?_
 refine mz (aO (aX (ae rfl (cu Nu rfl (aI rfl)) ?_)))
 refine ae rfl (d5 rfl zo rfl aR rfl (by first | exact Qac _ | rfl)) ?_
 refine ae rfl (cu di rfl (aI rfl)) ?_
 refine aD rfl (vm call171 rfl (Iw pv ps pm (dd at_) (ff at_) pg h (((pa + at_) / 64 : Nat) : Int))) ?_
 rintro _ B_ ⟨rfl, hB_⟩
 obtain rfl := hB_.symm
 have hpos := IC (pa := pa) (n := n) (at_ := at_) h1
 refine ae rfl (aM rfl) (ae rfl (lI rfl rfl) (ae rfl (lI rfl rfl) (ae rfl (bA rfl) (ae rfl (bA rfl) (aL (aH (aO ?_)))))))
 refine fT (r := dI) (b := L) (Wi fun HL hHL => ?_)
 refine aX ?_
 refine ae rfl (d5 rfl zo rfl aR rfl (by first | exact Qac _ | rfl)) ?_
 refine ae rfl (cu di rfl (aI rfl)) ?_
 refine ae rfl (aM rfl) (aL (aH (mz ?_)))
 refine fM (fun i : Nat => i ≤ j4 pa n at_) (fun i => [(4, .pointer (some ⟨b1, 0, none⟩)), (7, .pointer (some ⟨b2, 0, none⟩)), (8, .pointer (some ⟨b3, 0, none⟩)), (9, .int .i64 (mM pg (pa + at_))), (25, .int .i64 (j4 pa n at_ : Nat)), (26, .int .i64 i)]) (fun i => kH 1 HL :: pt D (.deferred (some [])) :: pt b3 (ag (DF pa n at_) 311) :: pt b2 (ag [.func (.func gf) #[] us.toArray] 188) :: pt b1 (ag [.pointer (some ⟨pv, 0, none⟩)] 56) :: pt pv (bW ps pm (dd (at_ + i))) :: aY ps (ff (at_ + i)) :: pt pm (bB pg) :: kH 0 (DH (at_ + i)) :: (R ++ R')) (fun i => j4 pa n at_ - i) 0 ?_ ?_ ?_ ?_
 omega
 · repeat (first | exact bK | refine bc rfl ?_)
 simp only [QbN]; exact inferInstance
 intro i hi
 refine aO (aX (ae rfl (nu rfl rfl) (aL (aH (aO ?_)))))
 refine aA rfl (fun c5 => ?_) fun c5 => ?_
 refine jd ?_
 refine aH (aO (mz (aO (aX (ae rfl (aM rfl) (ae rfl (bA rfl) (aL (aH ?_))))))))
 have hlt : i < j4 pa n at_ := by omega
 have hd := hdo (at_ + i) (by omega)
 rw [show mM pg (pa + (at_ + i)) = mM pg (pa + at_) by rw [mM, gW, (IF hlt).1]; rfl, (IF hlt).2] at hd
 refine aX (ae rfl (cu isAgg188 rfl (aI rfl)) ?_)
 refine ae rfl (aM rfl) ?_
 refine ae rfl (d5 rfl zo rfl aR rfl (by first | exact Qac _ | rfl)) ?_
 refine ae rfl (cu di rfl (aI rfl)) ?_
 refine ae rfl (aM rfl) ?_
 refine ae rfl (db rfl rfl (by rw [co (by omega)]; omega : IntKind.wrap .i64 ((((pa + at_) % 64 : Nat) : Int) + (i : Int)) = (((pa + at_) % 64 + i : Nat) : Int))) ?_
 refine ae rfl (d5 rfl zo rfl aR rfl (by first | exact Qac _ | rfl)) ?_
 refine ae rfl (cu di rfl (aI rfl)) ?_
 refine ae rfl (aM rfl) (aa (dU (at_ + i)) ?_)
 refine aD rfl (Wg rfl hcall rfl (hd _ inferInstance)) ?_
 rintro _ B_ ⟨rfl, hB_⟩
 obtain rfl := hB_.symm
 refine aL (oI (aH (aX ?_)))
 refine ae rfl (db rfl rfl (by first | exact co (by omega) | rfl)) ?_
 refine ae rfl (aM rfl) (aL (aH ?_))
 refine bR (i + 1) ?_ (he := ?_)
 omega
 simp only [← QbY]; exact inferInstance
 refine au 5 ?_
 have e1 : i = j4 pa n at_ := by omega
 subst e1
 subst hHL
 refine Wj ?_
 refine zY ?_
 exact ⟨_, .inl ⟨rfl, trivial, rfl⟩, IO⟩
 intro D C hC
 obtain rfl := hC
 refine au 1 ?_
 refine vo (.inr rfl) .nil ?_
 exact ao
 intro D C hC
 exact hC.elim
def oN (fr : List aB) (pg : List Pl) (a : Nat) : Nat := jR fr (mM pg a) ((a % 64 : Nat) : Int) 1
def i9 (fr : List aB) (pg : List Pl) (pa n : Nat) : List Nat := (List.range n).map fun i => oN fr pg (pa + i)
def ia (fr : List aB) (pg : List Pl) (pa : Nat) (n : Int) : List Nat := if iL fr.length pg pa n then i9 fr pg pa n.toNat else []
theorem Xy {fr} (a : cB fr) f off : jR fr f off 1 < 256 := by
 unfold jR; split
 rename_i b
 obtain ⟨i, rfl, c⟩ := qq b
 unfold mK; split
 have d := (a.get c).2
 have := vB ((d.drop off.toNat).take (1 : Int).toNat)
 refine QcE this ?_
 have : ((List.drop off.toNat (fr.getD (i : Int).toNat [])).take (1 : Int).toNat).length ≤ 1 := by simp; omega
 exact Qcu (by decide) this
 decide
 decide
theorem DG {fr} (b : cB fr) pg a : oN fr pg a < 256 := Xy b _ _
theorem uk fr pg pa n : (i9 fr pg pa n).length = n := by simp [i9]
theorem DI {fr} (a : cB fr) pg pa n : By (i9 fr pg pa n) := fun b c => by
 obtain ⟨i, _, rfl⟩ := Qbd.1 c
 exact DG a _ _
def nB (f : Nat → Nat) (n i : Nat) : List Nat := (List.range n).map fun j => if j < i then f j else 0
theorem Xz f n i : (nB f n i).length = n := by simp [nB]
theorem XA f n : bS (nB f n 0) = List.replicate n (bV 0) := by
 apply QaP <;> simp [nB, bS]
theorem XB f n : nB f n n = (List.range n).map f := by
 simp_all [QaP, nB]
theorem XC {f n i} (a : i < n) : (bS (nB f n i)).set i (bV (f i)) = bS (nB f n (i + 1)) := by
 apply QaP
 simp [nB, bS]
 grind [nB, bS]
theorem XD {f n i} (a : i < n) : (bS (nB f n i)).set (i * 1) (bV (f i)) = bS (nB f n (i + 1)) := by rw [QaB]; exact XC a
abbrev DJ (pv b1 b2 g n i : Nat) (f : Nat → Nat) : HP := cv [pt b1 (ag [.pointer (some ⟨pv, 0, none⟩)] 56), pt b2 (ag [.slice (some ⟨g, 0, none⟩) n n] 80), pt g (ag (bS (nB f n i)) 5)]
theorem XE W0 R pv ps pm d b1 b2 g n i fr pg (a : cB fr) pa (b : i < n) (e : n ≤ 512) : sQ W0 90 [iQ (mM pg (pa + i)), iQ ((pa + i) % 64 : Nat), iQ i, pQ b1, pQ b2] (pt pv (bW ps pm d) :: aY ps fr :: pt pm (bB pg) :: kH 0 (DJ pv b1 b2 g n i (fun j => oN fr pg (pa + j))) :: R) (.tuple #[]) (pt pv (bW ps pm d) :: aY ps fr :: pt pm (bB pg) :: kH 0 (DJ pv b1 b2 g n (i + 1) (fun j => oN fr pg (pa + j))) :: R) := by
 have c := DG a pg (pa + i)
 refine lK (qe (r1 := kH) (b1 := 0)) (pD ?_)
 simp only [Qay, Qaw]
 refine am func90 ntmps90 ?_
 refine ah (ap call91 (Iq ps fr _ _ 1 a)) ?_
 refine aa (bD (D4 (by grind [jR, mM, oN]))) ?_
 refine aa (bJ b) ?_
 refine ar (dq (by rw [gz, Xz]; omega) (XD (f := fun j => oN fr pg (pa + j)) b)) ?_
 refine bX (.inr rfl) .nil ?_
 exact ao
theorem DK pv ps pm d fr pg (h : Pgs pg) (r : cB fr) (b : Nat) (e : b < 4294967296) n : sP W0 29 [pQ pv, .int .u32 b, iQ n] (pt pv (bW ps pm d) :: aY ps fr :: pt pm (bB pg) :: R) (fun v B => ∃ a c, v = .tuple #[.slice a (ia fr pg b n).length c, .bool (iL fr.length pg b n)] ∧ B = osl 5 1 (.slice a (ia fr pg b n).length c) (bS (ia fr pg b n)) :: pt pv (bW ps pm d) :: aY ps fr :: pt pm (bB pg) :: R) := by
 by_cases l : iL fr.length pg b n = true
 obtain ⟨k, rfl⟩ : ∃ k : Nat, n = (k : Int) := ⟨n.toNat, by have := (rF.1 l).1; omega⟩
 obtain ⟨s, _⟩ := sK.1 l
 have o : ia fr pg b (k : Int) = i9 fr pg b k := by grind [ia]
 rw [o, uk, l]
 refine am func29 ntmps29 ?_
 refine dt (jL rfl rfl) fun m => ?_
 refine ah (cM call88 (IG pv ps pm d fr pg h b e k)) ?_
 refine ai (fun f => ?_) fun f => ?_
 exact absurd l f
 refine dt (vy (sz := 1) (by_ := 1) (info := Tryz.t5) m0 (by kernel_rfl) rfl rfl rfl rfl (by decide) rfl rfl rfl rfl (by omega) (by decide)) fun p => ?_
 refine dt (rp GG rfl) fun q => ?_
 refine ar dX ?_
 rw [show List.replicate (k * 1) (Value.int .u8 0) = bS (nB (fun j => oN fr pg (b + j)) k 0) by rw [XA, QaB]; rfl]
 refine ah (rq inferInstance (aC call89 (Xx W0 R pv ps pm pg h b k s (fun _ => d) (fun _ => fr) (fun i => DJ pv m q p k i (fun j => oN fr pg (b + j))) 90 [pQ m, pQ q] call90 (fun i t u w => XE W0 u pv ps pm d m q p k i fr pg r b t (by omega))))) ?_
 refine A2 ?_
 simp only [Qay, Qaw]
 refine aw ?_
 refine az ?_
 rw [XB]
 exact ⟨_, ⟨some ⟨p, 0, none⟩, k, rfl, rfl⟩, Wk (by simp only [maxLen]; omega) (by simp_all [QaB, gz, uk])⟩
 have o : ia fr pg b n = [] := by grind [ia]
 have g : iL fr.length pg b n = false := by grind
 rw [o, g]
 refine am func29 ntmps29 ?_
 refine dt (jL rfl rfl) fun m => ?_
 refine ah (cM call88 (IG pv ps pm d fr pg h b e n)) ?_
 refine ai (fun f => ?_) fun f => ?_
 refine az ?_
 exact ⟨_, ⟨none, 0, rfl, rfl⟩, eX⟩
 exact absurd (by rw [g]; decide) f
def ji (d n : Nat) : List Nat := (List.range n).filter fun i => Nat.testBit d i
def xv (n : Nat) : Value := .int .i64 (n : Int)
def vM (l : List Nat) : List Value := l.map xv
theorem IH d n : ji d (n + 1) = ji d n ++ (if Nat.testBit d n then [n] else []) := by
 grind [ji, List.range_succ]
theorem II d n : (ji d n).length ≤ n := by
 grind [QaM, Nat.testBit, List.range, ji]
theorem IJ pv ps pm d (m : d < 4096) : sP W0 78 [pQ pv] (pt pv (bW ps pm d) :: R) (fun v B => ∃ a c, v = .slice a (ji d 12).length c ∧ B = osl 3 1 (.slice a (ji d 12).length c) (vM (ji d 12)) :: pt pv (bW ps pm 0) :: R) := by
 refine am func78 ntmps78 ?_
 refine dV 2 (ap Co (xp pv ps pm d)) ?_
 refine aA rfl (fun e => ?_) fun e => ?_
 exact absurd e (by decide)
 refine aw ?_
 refine fM (fun x : Nat × Option Addr × Nat => x.1 ≤ 12) (fun x => [(0, pQ pv), (3, .slice x.2.1 (ji d x.1).length x.2.2), (7, iQ x.1)]) (fun x => osl 3 1 (.slice x.2.1 (ji d x.1).length x.2.2) (vM (ji d x.1)) :: pt pv (bW ps pm d) :: R) (fun x => 12 - x.1) (0, none, 0) ?_ ?_ ?_ ?_
 simp
 · repeat (first | exact bK | refine bc rfl ?_)
 exact eX
 intro ⟨i, a, c⟩ hi
 dsimp only at hi ⊢
 have n := II d i
 refine aw ?_
 refine ai (fun h => ?_) fun h => ?_
 refine aa (j0 rfl rfl (by omega) (jQ (by simp [IntKind.bits]; omega))) ?_
 refine aa (eH rfl rfl (lk (b := 1) (QaI (QbR _ _) (by omega)) (by omega))) ?_
 refine ai (fun j => ?_) fun j => ?_
 have k : Nat.testBit d i = true := by
  grind
 have f : ji d (i + 1) = ji d i ++ [i] := by grind [IH]
 refine dt (js ek aR m4 rfl rfl rfl rfl rfl (by decide) (by decide)) fun o => ?_
 refine aD rfl (et (sz := 1) (by_ := 8) (info := Tryz.t3) ek (by kernel_rfl) rfl rfl rfl rfl (by decide) rfl rfl ee rfl rfl (by simp only [maxLen]; omega) (by omega)) ?_
 rintro _ _ ⟨g, e, rfl, rfl⟩
 refine aw ?_
 refine aa bY ?_
 refine wS (i + 1, g, e) ?_ ?_ ?_ ?_
 omega
 omega
 · simp only [f, Qaf, QaK, Qbr]; repeat (first | exact bK | refine bc rfl ?_)
 simp only [f, vM, QaH, QaL, Qch, xv, Qaf, QaK, Qbr]; exact inferInstance
 have k : ¬ Nat.testBit d i = true := by
  grind
 have f : ji d (i + 1) = ji d i := by grind [IH]
 obtain ⟨g, rfl⟩ : ∃ x, x = a := ⟨a, rfl⟩
 obtain ⟨e, rfl⟩ : ∃ x, x = c := ⟨c, rfl⟩
 refine aa bY ?_
 refine wS (i + 1, g, e) ?_ ?_ ?_ ?_
 omega
 omega
 · simp only [f, Qaf, QaK, Qbr]; repeat (first | exact bK | refine bc rfl ?_)
 simp only [f, vM, QaH, QaL, Qch, xv, Qaf, QaK, Qbr]; exact inferInstance
 refine ar dX ?_
 refine ac ?_
 have l : i = 12 := by omega
 subst l
 exact ⟨_, ⟨a, c, rfl, rfl⟩, IO⟩
theorem xw {len pg n} : jh len pg n = true ↔ aK pg n = true ∧ n < 8 ∧ (bF pg n).1 < len := by
 grind [jh]
def ul (len : Nat) (pg : List Pl) (a : Nat) : Value := if jh len pg (gW a) then .tuple #[.int .i64 (mM pg a), .int .i64 (a % 64 : Nat), .bool true] else .tuple #[.int .i64 0, .int .i64 0, .bool false]
theorem IK qv qs qm d fr pg (h : Pgs pg) (b : Nat) (i : b < 4294967296) : sQ W0 463 [pQ qv, iQ b] (pt qv (gj qs qm d) :: cN qs fr :: pt qm (dJ pg) :: R) (ul fr.length pg b) (pt qv (gj qs qm d) :: cN qs fr :: pt qm (dJ pg) :: R) := by
 refine am func463 ntmps463 ?_
 refine aa (nr rfl rfl (by decide) ((Qai (IntKind.wrap .i64) (ql b 64)).trans (co (by omega)))) ?_
 refine ai (fun j => ?_) fun j => ?_
 refine aV (.cons (aS rfl) (.cons (aS rfl) (.cons (aS rfl) .nil))) ?_
 refine aG ?_
 have c : jh fr.length pg (gW b) = false := by
  rw [← Qau]; rw [xw, gW]; rintro ⟨_, q, _⟩; omega
 simp [aN, ul, c]
 refine ah (ap wN (uj qm pg h ((b / 64 : Nat) : Int))) ?_
 refine bj fun k => ?_
 refine ar aF ?_
 refine bq [k, qv] 12 fun e => ?_
 refine aj 0 3 e ?_
 refine mF (t := 25) rfl ?_ ?_
 intro a
 refine aj 3 9 e ?_
 refine aJ ?_
 refine aV (.cons (aS rfl) (.cons (aS rfl) (.cons (aS rfl) .nil))) ?_
 refine aG ?_
 have c : jh fr.length pg (gW b) = false := by
  rw [← Qau]; rw [xw, gW]
  rintro ⟨f, l, m⟩
  first
    | exact a f
    | (have n := pH.1 (xo h f); rw [xu] at g; omega)
 simp [aN, ul, c]
 intro a
 refine aj 3 6 e ?_
 refine cg 9 (ap sf (qu qs fr _)) fun e => ?_
 refine aj 10 2 e ?_
 refine aJ ?_
 refine ai (fun g => ?_) fun g => ?_
 refine aV (.cons (aS rfl) (.cons (aS rfl) (.cons (aS rfl) .nil))) ?_
 refine aG ?_
 have c : jh fr.length pg (gW b) = false := by
  rw [← Qau]; rw [xw, gW]
  rintro ⟨f, l, m⟩
  first
    | exact a f
    | (have n := pH.1 (xo h f); rw [xu] at g; omega)
 simp [aN, ul, c]
 refine aa (dT rfl rfl (by decide) (iJ b 64)) ?_
 refine aV (.cons (aS rfl) (.cons (aS rfl) (.cons (aS rfl) .nil))) ?_
 refine aG ?_
 have c : jh fr.length pg (gW b) = true := by
  grind [xw, gW, xu]
 rw [ul, Qad c]; rfl
def DL (len : Nat) (pg : List Pl) (a : Nat) : Int := if jh len pg (gW a) then mM pg a else 0
def DN (len : Nat) (pg : List Pl) (a : Nat) : Int := if jh len pg (gW a) then ((a % 64 : Nat) : Int) else 0
theorem IL {len pg a} : ul len pg a = .tuple #[iQ (DL len pg a), iQ (DN len pg a), .bool (jh len pg (gW a))] := by
 grind [ul, DL, DN]
theorem XF {len pg a} (h : jh len pg (gW a) = true) : DL len pg a = mM pg a := Qad h
theorem XG {len pg a} (h : jh len pg (gW a) = true) : DN len pg a = (a % 64 : Nat) := Qad h
theorem IM qv qs qm d fr pg (h : Pgs pg) (a : Nat) (g : a < 4294967296) n : sQ W0 462 [pQ qv, .int .u32 a, iQ n] (pt qv (gj qs qm d) :: cN qs fr :: pt qm (dJ pg) :: R) (.bool (iL fr.length pg a n)) (pt qv (gj qs qm d) :: cN qs fr :: pt qm (dJ pg) :: R) := by
 refine am func462 ntmps462 ?_
 refine cz (fun b => ?_) fun b => ?_
 refine ac ?_
 refine aG ?_
 refine Qai Value.bool (QcX ?_)
 rw [← Qau, rF]; omega
 refine cz (fun c => ?_) fun c => ?_
 refine ac ?_
 refine aG ?_
 refine Qai Value.bool (QcX ?_)
 rw [← Qau, rF]; omega
 refine aa (bD (by first | exact co (by omega) | rfl)) ?_
 refine aa gF ?_
 refine ai (fun l => ?_) fun l => ?_
 refine ac ?_
 refine aG ?_
 refine Qai Value.bool (QcX ?_)
 rw [← Qau, rF]; omega
 obtain ⟨k, rfl⟩ : ∃ k : Nat, n = (k : Int) := ⟨n.toNat, by omega⟩
 have m : a + k ≤ 512 := by omega
 refine d4 (fun i : Nat => i ≤ k ∧ oM fr.length pg a i) (fun i => [(0, pQ qv), (1, .int .u32 a), (2, iQ k), (7, iQ i)]) (fun i => pt qv (gj qs qm d) :: cN qs fr :: pt qm (dJ pg) :: R) (fun i => k - i) 0 ?_ ?_
 exact ⟨QaF _, fun i o => by omega⟩
 intro i ⟨o, f⟩
 refine aw ?_
 refine ai (fun p => ?_) fun p => ?_
 refine aa (bD (co (by omega))) ?_
 refine aa (dU (a + i)) ?_
 refine jO (cM call463 (IK qv qs qm d fr pg h (a + i) (by omega))) ?_
 rw [IL]
 refine aw ?_
 refine aA rfl (fun e => ?_) fun e => ?_
 refine au 11 ?_
 refine ac ?_
 refine aG ?_
 refine Qai Value.bool (QcX ?_)
 rw [← Qau, sK]; exact fun q => e (q.2 i (by omega))
 refine aw ?_
 refine aa bY ?_
 refine bR (i + 1) ?_
 exact ⟨by omega, fun j r => by
  rcases QaC j i with q | q
  exact f j q
  rw [show j = i by omega]; exact Qbu.1 e⟩
 refine ac ?_
 refine aG ?_
 refine Qai Value.bool (QcX ?_)
 rw [sK]; exact ⟨m, by rw [show k = i by omega]; exact f⟩
theorem XH qv qs qm d fr pg (h : Pgs pg) (o : cB fr) (b : Nat) (g : b < 4294967296) n : sP W0 435 [pQ qv, .int .u32 b, iQ n] (pt qv (gj qs qm d) :: cN qs fr :: pt qm (dJ pg) :: R) (fun v B => ∃ a c, v = .tuple #[.slice a (ia fr pg b n).length c, .bool (iL fr.length pg b n)] ∧ B = osl 5 1 (.slice a (ia fr pg b n).length c) (bS (ia fr pg b n)) :: pt qv (gj qs qm d) :: cN qs fr :: pt qm (dJ pg) :: R) := by
 by_cases f : iL fr.length pg b n = true
 obtain ⟨k, rfl⟩ : ∃ k : Nat, n = (k : Int) := ⟨n.toNat, by have := (rF.1 f).1; omega⟩
 obtain ⟨t, j⟩ := sK.1 f
 have m : ia fr pg b (k : Int) = i9 fr pg b k := by grind [ia]
 rw [m, uk, f]
 refine am func435 ntmps435 ?_
 refine ah (cM call462 (IM qv qs qm d fr pg h b g k)) ?_
 refine ai (fun e => ?_) fun e => ?_
 exact absurd f e
 refine fM (fun x : Nat × Option Addr × Nat => x.1 ≤ k) (fun x => [(0, pQ qv), (1, .int .u32 b), (2, iQ k), (8, .slice x.2.1 x.1 x.2.2), (9, iQ x.1)]) (fun x => osl 5 1 (.slice x.2.1 x.1 x.2.2) (bS (i9 fr pg b x.1)) :: pt qv (gj qs qm d) :: cN qs fr :: pt qm (dJ pg) :: R) (fun x => k - x.1) (0, none, 0) ?_ ?_ ?_ ?_
 simp
 · repeat (first | exact bK | refine bc rfl ?_)
 exact eX
 intro ⟨i, a, c⟩ hi
 dsimp only at hi ⊢
 refine aw ?_
 refine ai (fun r => ?_) fun r => ?_
 have p := j i (by omega)
 have u := DG o pg (b + i)
 refine aa (bD (co (by omega))) ?_
 refine aa (dU (b + i)) ?_
 refine jO (cM call463 (IK qv qs qm d fr pg h (b + i) (by omega))) ?_
 rw [IL, XF p, XG p]
 refine aw ?_
 refine dV 10 (ap GI (Ae qs fr _ _ 1 o)) ?_
 refine aa (bD (D4 (by rw [show jR fr (mM pg (b + i)) (((b + i) % 64 : Nat) : Int) 1 = oN fr pg (b + i) from rfl]; omega))) ?_
 refine dt (js m0 px zeroValue5 rfl rfl rfl rfl rfl (by decide) (by decide)) fun w => ?_
 refine aD rfl (et (sz := 1) (by_ := 1) (info := Tryz.t5) m0 (by kernel_rfl) rfl rfl rfl rfl (by decide) rfl rfl ee rfl rfl (by simp only [maxLen]; omega) (by omega)) ?_
 rintro _ _ ⟨q, e, rfl, rfl⟩
 refine aw ?_
 refine aa bY ?_
 refine bR (i + 1, q, e) ?_ (he := ?_)
 omega
 rw [show i9 fr pg b (i + 1) = i9 fr pg b i ++ [oN fr pg (b + i)] by simp [i9, List.range_succ], Dj]; exact (inferInstanceAs (Ent _ (osl 5 1 (.slice q (i + 1) e) (bS (i9 fr pg b i) ++ [Value.int .u8 ((jR fr (mM pg (b + i)) (((b + i) % 64 : Nat) : Int) 1 : Nat) : Int)]) :: pt qv (gj qs qm d) :: cN qs fr :: pt qm (dJ pg) :: R)))
 refine az ?_
 have s : i = k := by omega
 subst s
 exact ⟨_, ⟨a, c, rfl, rfl⟩, IO⟩
 have m : ia fr pg b n = [] := by rw [ia, Qaa f]
 have l : iL fr.length pg b n = false := by simpa using f
 rw [m, l]
 refine am func435 ntmps435 ?_
 refine ah (cM call462 (IM qv qs qm d fr pg h b g n)) ?_
 refine ai (fun e => ?_) fun e => ?_
 refine az ?_
 exact ⟨_, ⟨none, 0, rfl, rfl⟩, eX⟩
 exact absurd (by rw [l]; decide) e
section
variable {rd : Option Nat} {P : Program} {S : World → Prop} {W0 : World} {N : FSz} {Q : Exit → Act → World → Prop} {e : b0} {A B R : List HP} {ops : Array Oper} {rest : List Oper}
variable {op : Op} {ty t t' : TypeId} {pos : String} {af : Array Edge} {v u : Value} {d b off : Nat} {x y z : Operand} {l l' vs : List Value} {L : Nat} {xr : RecX}
theorem xx {E n : Nat} {ps} (p : P.underlying t = some (.array n E)) (q : ∀ w, (sizeOf E).run P w = .ok 1 w) (r : ∀ w, (zeroValue t).run P w = .ok (.agg l.toArray) w)
    (k : fK e (ps.toList.map (·.2)) = some vs) (m : ps.toList.map (·.1) = List.range' 0 ps.toList.length) (o : fi vs = true) (s : vs.length = l.length) : bP P S N e (.build t ps) (.agg vs.toArray) := fun a w _ _ _ _ _ u _ => by
 have y := D2 ps.toList 0 vs k m o
 have g := D1 (fun x v h => u.eval h) ps.toList vs [] l (by omega) s.symm
 simp only [QaB, Qaw] at g
 have z : Instr.build t (ps.map fun (i, x) => (i, a.eval x)) = (do
     let zero := (← zeroValue t).cells
     match ← underlying t with
     | .struct c =>
       let d ← c.mapM sq
       let some b := Instr.fill (d[·]?) zero (ps.map fun (i, x) => (i, a.eval x)).toList | stuck "build: no such field, or a part of the wrong size"
       pure (.agg b)
     | .array _ j =>
       let f ← sizeOf j
       let some b := Instr.fill (fun i => some (i * f, f)) zero (ps.map fun (i, x) => (i, a.eval x)).toList | stuck "build: a part of the wrong size"
       pure (.agg b)
     | _ => stuck "build: struct or array type expected") := rfl
 simp only [execOp, z, Sem.run_bind, r, eV p, q, Result.andThen_ok, Value.cells, Sem.run_pure, Qcj, QaB]
 rw [g]; rfl
theorem IN {E n : Nat} {k i} {j : Nat} (c : P.underlying t = some (.array n E)) (d : ∀ w, (sizeOf E).run P w = .ok 1 w) (f : ∀ w, (isAgg E).run P w = .ok false w) (g : ev e x = some (.agg l.toArray)) (h : ev e y = some (.int k i))
    (m : i = j) (r : j < n) (o : l[j]? = some v) : bP P S N e (.index t x y) v := fun a w _ _ _ _ _ b _ => by
 subst m
 have p : (0 : Int) ≤ (j : Int) ∧ (j : Int) < (n : Int) := by omega
 have q : j < l.length := by
  grind
 simp only [execOp, Instr.index, b.eval g, b.eval h, asIntOf, Sem.run_bind, Sem.run_pure, Result.andThen_ok, eV c, p, and_self, QbM, d, Qae, QaB]
 rw [vh f o]; rfl
theorem DO {c} (h : av W0 N (c.wpR none P (Exit.noGoto Q)) e A) : av W0 N ((Code.scope c).wpR none P Q) e A := fun a w b d => CO.2 (wp_scope_straight (CO.1 (h a w b d)))
instance a99 [h : POk Q] : POk (Exit.noGoto Q) := ⟨fun c a d v w k => h.ok c a d v w k⟩
theorem rG (h : av W0 N (Ex Q .ret) e A) : av W0 N (Ex (Exit.noGoto Q) .ret) e A := h
theorem IP {id Post} [h : Tk dI L A xr R] (f : ∃ B, Post (.bool false) B ∧ Ent (dI L { xr with st := .done, pe := some (.exit id) } :: R) B) : av W0 N (Ex (vw P W0 L Post) (.exit id)) e A := by
 intro a w m g
 obtain ⟨n, d, i, j, c⟩ := (g.tk (r := dI) (b := L)).loopRec
 obtain ⟨B, k, l⟩ := f
 exact ⟨_, _, run_endRound (some (.exit id)) c.has.2, _, B, rfl, k, Own.ent (Own.toRec (x := { xr with st := .done, pe := some (.exit id) }) i j (c.turn _)) l⟩
theorem XI {n gf : Nat} {g ps asg body lb} id (Go Stop : List HP → Prop) (hg : ev e g = some (.func (.func gf) #[] lb.toArray))
    (hc : ∀ args w, (callFunc gf args).run P w = .ok (.enter gf args) w)
    (hs : ∀ L D, bE P W0 gf (.func (.yield L) #[] #[] :: lb) (dI L ⟨e, n, ps, asg, body, .ready, none, D⟩ :: pt D (.deferred (some [])) :: A)
      (fun _ B => (∃ C, B = dI L ⟨e, n, ps, asg, body, .ready, none, D⟩ :: pt D (.deferred (some [])) :: C ∧ Go C) ∨ (∃ C, B = dI L ⟨e, n, ps, asg, body, .done, some (.exit id), D⟩ :: pt D (.deferred (some [])) :: C ∧ Stop C)))
    (hgo : ∀ D C, Go C → av W0 ⟨n, [pC D]⟩ (Ex Q .normal) e (pt D (.deferred (some [])) :: C))
    (hstop : ∀ D C, Stop C → av W0 ⟨n, [pC D]⟩ (Ex Q (.exit id)) e (pt D (.deferred (some [])) :: C)) :
    av W0 ⟨n, []⟩ ((Code.rangeFunc g ps asg body).wpR none P Q) e A := by
 intro a w hF hO
 refine wpIn_rangeFunc (F := FW none) (n := 0) ?_
 intro fn _
 have hO1 : Own W0 ((w.alloc (.deferred (some []))).alloc (.loop ((⟨e, n, ps, asg, body, .ready, none, w.heap.size⟩ : RecX).loop fn a.tmps))) (dI (w.heap.size + 1) ⟨e, n, ps, asg, body, .ready, none, w.heap.size⟩ :: pt w.heap.size (.deferred (some [])) :: A) := by
  refine Own.toRec (fn := fn) hF.size hF.at_ ?_
  have h1 := (hO.new (.deferred (some []))).new (.loop ((⟨e, n, ps, asg, body, .ready, none, w.heap.size⟩ : RecX).loop fn a.tmps))
  have e1 : (w.heap.push (.deferred (some []))).size = w.heap.size + 1 := by simp
  simp only [e1] at h1
  exact h1
 have hent := run_enterLoop_outer (P := P) (w := w) fn a.tmps ps asg body
 generalize hW1 : (w.alloc (.deferred (some []))).alloc (.loop ((⟨e, n, ps, asg, body, .ready, none, w.heap.size⟩ : RecX).loop fn a.tmps)) = W1 at hO1
 rw [show (w.alloc (.deferred (some []))).alloc (.loop { state := .ready, pending := none, fn, tmps := a.tmps, params := ps, assign := asg, body, defers := w.heap.size }) = W1 from hW1] at hent
 have hF' : ∀ D, Fr { a with defers := [pC D] ++ a.defers } ⟨n, [pC D]⟩ e := fun D => ⟨by simp [hF.defers], hF.size, hF.at_⟩
 refine ⟨w.heap.size + 1, [{ target := .collected w.heap.size, args := #[] }], W1, { target := .fn (.func gf) lb.toArray, args := #[.func (.yield (w.heap.size + 1)) #[] #[]] }, W1, gf,
   #[.func (.yield (w.heap.size + 1)) #[] #[]] ++ lb.toArray, W1, hent, ?_, fun _ _ => trivial, ?_, fun h => (by cases h), ?_⟩
 have hgv := hF.eval hg
 simp only [resolve, hgv]
 simp [go_sem]
 simp [invoke, go_sem, hc]
 refine zH.2 ?_
 have e2 : (#[.func (.yield (w.heap.size + 1)) #[] #[]] ++ lb.toArray : Array Value) = (.func (.yield (w.heap.size + 1)) #[] #[] :: lb).toArray := by simp
 rw [e2]
 refine Calls.mono (hs (w.heap.size + 1) w.heap.size _ hO1) ?_
 rintro _ w' ⟨v, B, rfl, hp, hO2⟩
 rcases hp with ⟨C, rfl, hC⟩ | ⟨C, rfl, hC⟩
 obtain ⟨fn', tmps', h1, h2, hO3⟩ := hO2.loopRec
 refine ⟨none, _, run_endLoop hO3.has.2 (by simp [RecX.loop]), ?_⟩
 exact hgo _ C hC _ _ (hF' _) (hO3.turn _).drop
 obtain ⟨fn', tmps', h1, h2, hO3⟩ := hO2.loopRec
 refine ⟨some (.exit id), _, run_endLoop hO3.has.2 (by simp [RecX.loop]), ?_⟩
 exact wpIn_exit (hstop _ C hC _ _ (hF' _) (hO3.turn _).drop)
theorem Ah {E n c sz : Nat} {a ys K} [h : Tk (osl E sz) (.slice a n c) A ys R] (k : n ≤ c ∧ c ≤ maxLen → av W0 N K e A) : av W0 N K e A := fun d w i f => by
 refine k ?_ d w i f
 rcases (f.tk (r := osl E sz) (b := .slice a n c)).osl with ⟨j, l, _⟩ | ⟨g, o, m, p, j, l, q, _, _, _⟩
 grind
 grind
theorem vN {a ys} (h : xl a ys) (b : ys ≠ []) : ∃ g, a = some ⟨g, 0, none⟩ := by
 rcases h with ⟨_, q⟩ | q
 grind
 exact q
end
abbrev fA (pv ps pm d : Nat) (fr : List aB) (pg : List Pl) (R : List HP) : List HP := pt pv (bW ps pm d) :: aY ps fr :: pt pm (bB pg) :: R
abbrev iM (qv qs qm d : Nat) (fr : List aB) (pg : List Pl) (R : List HP) : List HP := pt qv (gj qs qm d) :: cN qs fr :: pt qm (dJ pg) :: R
def gk (page : Int) (i : Nat) : Nat := 64 * page.toNat + 4 * (i % 16)
def eA (len : Nat) (pg : List Pl) (page : Int) (i : Nat) : Bool := decide (0 ≤ page ∧ page < 8) && iL len pg (gk page i) 4
theorem qw {len pg page i} : eA len pg page i = true ↔ (0 ≤ page ∧ page < 8) ∧ iL len pg (gk page i) 4 = true := by
 grind [eA]
def dY (fr : List aB) (pg : List Pl) (page : Int) (i : Nat) : Nat := if eA fr.length pg page i then ll (i9 fr pg (gk page i) 4) else 0
theorem Ai {fr} (a : cB fr) pg page i : dY fr pg page i < 4294967296 := by
 unfold dY; split
 grind [vB, DI, gk, uk]
 decide
theorem IQ {l} (h : l.length = 4) : mK l 0 4 = ll l ∧ pG l 0 4 = 0 := by
 have a : eI l.length 0 4 = true := i7.2 (by omega)
 constructor
 grind [mK]
 grind [pG]
theorem Aj pv ps pm d fr pg (h : Pgs pg) (u : cB fr) page (i : Nat) (v : i < 4294967296) : sQ W0 439 [pQ pv, iQ page, .int .u32 i] (fA pv ps pm d fr pg R) (.tuple #[.int .u32 (dY fr pg page i), .bool (eA fr.length pg page i)]) (fA pv ps pm d fr pg R) := by
 refine am func439 ntmps439 ?_
 refine cz (fun f => ?_) fun f => ?_
 refine az ?_
 refine aG ?_
 have e : eA fr.length pg page i = false := by grind [qw]
 simp [aN, dY, e]
 refine ai (fun w => ?_) fun w => ?_
 refine az ?_
 refine aG ?_
 have e : eA fr.length pg page i = false := by grind [qw]
 simp [aN, dY, e]
 obtain ⟨p, rfl⟩ : ∃ p : Nat, page = (p : Int) := ⟨page.toNat, by omega⟩
 have l : gk (p : Int) i = 64 * p + 4 * (i % 16) := rfl
 refine aa (ko (64 * p)) ?_
 refine aa (bD (cW (by omega))) ?_
 refine aa (eH rfl rfl (I3 v)) ?_
 refine aa (ko (4 * (i % 16))) ?_
 refine aa (db rfl rfl (by rw [cW (by omega), l]; omega : IntKind.wrap .u32 (((64 * p : Nat) : Int) + ((4 * (i % 16) : Nat) : Int)) = ((gk (p : Int) i : Nat) : Int))) ?_
 refine aD rfl (cM O8 (DK pv ps pm d fr pg h u (gk (p : Int) i) (by omega) 4)) ?_
 rintro _ z ⟨a, c, rfl, m⟩
 obtain rfl := m.symm
 refine aw ?_
 refine ai (fun o => ?_) fun o => ?_
 have k : ¬ iL fr.length pg (gk (p : Int) i) 4 = true := o
 refine az ?_
 refine aG ?_
 have e : eA fr.length pg p i = false := by rw [← Qau, qw]; rintro ⟨_, q⟩; exact k q
 simp [aN, dY, e]
 have k : iL fr.length pg (gk (p : Int) i) 4 = true := Qbu.1 o
 have e : eA fr.length pg p i = true := qw.2 ⟨by omega, k⟩
 have r : ia fr pg (gk (p : Int) i) 4 = i9 fr pg (gk (p : Int) i) 4 := by rw [ia, Qad k]; rfl
 have j : (i9 fr pg (gk (p : Int) i) 4).length = 4 := uk _ _ _ _
 obtain ⟨s, t⟩ := IQ j
 rw [r]
 refine sH (E := 5) (sz := 1) (a := a) (c := c) (n := (i9 fr pg (gk (p : Int) i) 4).length) (fun x => ?_)
 obtain ⟨g, rfl⟩ := vN x (by intro y; have := Qai List.length y; rw [gz, j] at this; simp at this)
 refine Ah (E := 5) (sz := 1) (a := some ⟨g, 0, none⟩) (c := c) (n := (i9 fr pg (gk (p : Int) i) 4).length) (fun b => ?_)
 refine aw ?_
 refine ah (aC call173 (Ie W0 _ g 0 c (i9 fr pg (gk (p : Int) i) 4) 0 4 (uc (E := 5) (sz := 1) (a := some ⟨g, 0, none⟩) (c := c) (n := (i9 fr pg (gk (p : Int) i) 4).length)) (DI u _ _ _) b.1 (A6 b.2))) ?_
 rw [s, t]
 refine az ?_
 refine aG ?_
 simp [aN, dY, e]
theorem XJ qv qs qm d fr pg (h : Pgs pg) (p : cB fr) (b : Nat) (f : b < 4294967296) : sQ W0 402 [pQ qv, .int .u32 b] (iM qv qs qm d fr pg R) (.tuple #[.int .u32 ((if iL fr.length pg b 4 then ll (i9 fr pg b 4) else 0 : Nat)), .bool (iL fr.length pg b 4)]) (iM qv qs qm d fr pg R) := by
 refine am func402 ntmps402 ?_
 refine aD rfl (cM call435 (XH qv qs qm d fr pg h p b f 4)) ?_
 rintro _ s ⟨a, c, rfl, i⟩
 obtain rfl := i.symm
 refine aw ?_
 refine ai (fun q => ?_) fun q => ?_
 refine az ?_
 refine aG ?_
 have j : iL fr.length pg b 4 = false := by grind
 simp [aN, j]
 have j : iL fr.length pg b 4 = true := Qbu.1 q
 have k : ia fr pg b 4 = i9 fr pg b 4 := by grind [ia]
 have l : (i9 fr pg b 4).length = 4 := uk _ _ _ _
 obtain ⟨m, o⟩ := IQ l
 rw [k]
 refine sH (E := 5) (sz := 1) (a := a) (c := c) (n := (i9 fr pg b 4).length) (fun r => ?_)
 obtain ⟨g, rfl⟩ := vN r (by grind [List.length, gz])
 refine Ah (E := 5) (sz := 1) (a := some ⟨g, 0, none⟩) (c := c) (n := (i9 fr pg b 4).length) (fun e => ?_)
 refine aw ?_
 refine ah (aC call305 (Ig W0 _ g 0 c (i9 fr pg b 4) 0 4 (uc (E := 5) (sz := 1) (a := some ⟨g, 0, none⟩) (c := c) (n := (i9 fr pg b 4).length)) (DI p _ _ _) e.1 (A6 e.2))) ?_
 rw [m, o]
 refine az ?_
 refine aG ?_
 simp [aN, j]
theorem IR qv qs qm d fr pg (h : Pgs pg) (f : cB fr) page (i : Nat) (j : i < 16) : sQ W0 351 [pQ qv, iQ page, .int .u32 i] (iM qv qs qm d fr pg R) (.tuple #[.int .u32 (dY fr pg page i), .bool (eA fr.length pg page i)]) (iM qv qs qm d fr pg R) := by
 refine am func351 ntmps351 ?_
 refine cy rfl rfl rfl (fun a => ?_) fun a => ?_
 cases a
 refine aw ?_
 refine cz (fun b => ?_) fun b => ?_
 refine az ?_
 refine aG ?_
 have c : eA fr.length pg page i = false := by grind [qw]
 simp [aN, dY, c]
 refine ai (fun g => ?_) fun g => ?_
 refine az ?_
 refine aG ?_
 have c : eA fr.length pg page i = false := by grind [qw]
 simp [aN, dY, c]
 obtain ⟨p, rfl⟩ : ∃ p : Nat, page = (p : Int) := ⟨page.toNat, by omega⟩
 have e : gk (p : Int) i = 64 * p + 4 * (i % 16) := rfl
 refine aa (bD (cW (by omega))) ?_
 refine aa (ko (64 * p)) ?_
 refine aa (ko (4 * i)) ?_
 refine aa (db rfl rfl (by rw [cW (by omega), e]; omega : IntKind.wrap .u32 (((64 * p : Nat) : Int) + ((4 * i : Nat) : Int)) = ((gk (p : Int) i : Nat) : Int))) ?_
 refine ah (cM call402 (XJ qv qs qm d fr pg h f (gk (p : Int) i) (by omega))) ?_
 refine az ?_
 refine aG ?_
 have c : eA fr.length pg p i = iL fr.length pg (gk (p : Int) i) 4 := by rw [Qag, qw]; exact ⟨fun q => q.2, fun q => ⟨by omega, q⟩⟩
 simp only [aN, dY, c]
structure WS where
  on : Bool
  r : Int
  p : Int
  fault : Int
  root : Int
  leaf : Int
@[reducible] def qx (s : WS) : List Value := [.bool s.on, .int .i64 s.r, .int .i64 s.p, .int .i64 s.fault, .int .i64 s.root, .int .i64 s.leaf]
def nD : WS := ⟨false, 0, 0, 0, -1, -1⟩
abbrev sM (pv va : Nat) (s : WS) : Obj := ag (.pointer (some ⟨pv, 0, none⟩) :: .int .u32 va :: qx s) 510
theorem IS (x : Int) : (x != 0) = !decide (x = 0) := by by_cases q : x = 0 <;> simp [q]
theorem xy bw pv va s f : sQ W0 412 [pQ bw, iQ f] (pt bw (sM pv va s) :: R) (.bool (f != 0)) (pt bw (sM pv va { s with fault := f }) :: R) := by
 refine am func412 ntmps412 ?_
 refine ar dX ?_
 exact ac ao
def kO (fr : List aB) (pg : List Pl) (va : Nat) (a : Int) (s : WS) : WS :=
  if eA fr.length pg a (va / 1024) then { s with root := a, fault := nW (dY fr pg a (va / 1024)) } else { s with fault := 3 }
def eK (fr : List aB) (pg : List Pl) (va : Nat) (a : Int) : Int := if eA fr.length pg a (va / 1024) then pF (dY fr pg a (va / 1024)) else 0
def jj (fr : List aB) (pg : List Pl) (va : Nat) (a : Int) : Bool := eA fr.length pg a (va / 1024) && decide (nW (dY fr pg a (va / 1024)) = 0)
theorem IT {w : Nat} : jK .u32 w 10 = (w / 1024 : Nat) := jQ (s := 10) (by decide)
theorem IU {w : Nat} : jK .u32 w 6 = (w / 64 : Nat) := jQ (s := 6) (by decide)
theorem XK bw pv ps pm d fr pg (h : Pgs pg) (g : cB fr) va (i : va < 4294967296) s a : sQ W0 414 [pQ bw, iQ a] (pt bw (sM pv va s) :: fA pv ps pm d fr pg R) (.tuple #[iQ (eK fr pg va a), .bool (jj fr pg va a)]) (pt bw (sM pv va (kO fr pg va a s)) :: fA pv ps pm d fr pg R) := by
 by_cases c : eA fr.length pg a (va / 1024) = true
 rw [eK, Qad c, kO, Qad c, jj, c, Qbb]
 refine am func414 ntmps414 ?_
 refine bq [bw] 16 fun b => ?_
 refine aj 0 9 b ?_
 refine ax 9 b (j0 rfl rfl (by decide) IT) ?_
 refine cg 10 (cM GJ (Aj pv ps pm d fr pg h g a (va / 1024) (by omega))) fun b => ?_
 refine aj 11 5 b ?_
 refine aJ ?_
 refine ai (fun e => ?_) fun e => ?_
 exact absurd c e
 refine ar dX ?_
 refine ah (aC call440 (WH (dY fr pg a (va / 1024)) (Ai g _ _ _))) ?_
 refine ah (ap Cq (xy bw pv va { s with root := a } _)) ?_
 refine az ?_
 refine aG ?_
 simp [aN]
 exact IS _
 have f : eA fr.length pg a (va / 1024) = false := by grind
 rw [eK, Qaa c, kO, Qaa c, jj, f, QcS]
 refine am func414 ntmps414 ?_
 refine bq [bw] 16 fun b => ?_
 refine aj 0 9 b ?_
 refine ax 9 b (j0 rfl rfl (by decide) IT) ?_
 refine cg 10 (cM GJ (Aj pv ps pm d fr pg h g a (va / 1024) (by omega))) fun b => ?_
 refine aj 11 5 b ?_
 refine aJ ?_
 refine ai (fun e => ?_) fun e => ?_
 refine ah (ap Cq (xy bw pv va _ _)) ?_
 exact az ao
 exact absurd (by rw [f]; decide) e
def pJ (fr : List aB) (pg : List Pl) (va : Nat) (a : Int) (s : WS) : WS :=
  if eA fr.length pg a (va / 64) then { s with leaf := a, on := nX (dY fr pg a (va / 64)), r := nY (dY fr pg a (va / 64)), p := nZ (dY fr pg a (va / 64)), fault := ny (dY fr pg a (va / 64)) } else { s with fault := 3 }
def Al (fr : List aB) (pg : List Pl) (va : Nat) (a : Int) : Bool := eA fr.length pg a (va / 64) && decide (ny (dY fr pg a (va / 64)) = 0)
theorem XL bw pv ps pm d fr pg (h : Pgs pg) (g : cB fr) va (i : va < 4294967296) s a : sQ W0 416 [pQ bw, iQ a] (pt bw (sM pv va s) :: fA pv ps pm d fr pg R) (.bool (Al fr pg va a)) (pt bw (sM pv va (pJ fr pg va a s)) :: fA pv ps pm d fr pg R) := by
 by_cases f : eA fr.length pg a (va / 64) = true
 rw [pJ, Qad f, Al, f, Qbb]
 refine am func416 ntmps416 ?_
 refine bq [bw] 16 fun b => ?_
 refine aj 0 9 b ?_
 refine ax 9 b (j0 rfl rfl (by decide) IU) ?_
 refine cg 10 (cM GJ (Aj pv ps pm d fr pg h g a (va / 64) (by omega))) fun b => ?_
 refine aj 11 5 b ?_
 refine aJ ?_
 refine ai (fun c => ?_) fun c => ?_
 exact absurd f c
 refine ar dX ?_
 refine ah (aC call441 (WL (dY fr pg a (va / 64)) (Ai g _ _ _))) ?_
 rw [qo]
 refine bj fun j => ?_
 refine ar aF ?_
 refine ar (iH (Qab rfl) SetRL.eq) ?_
 refine ah (ap Cq (xy bw pv va { s with leaf := a, on := nX (dY fr pg a (va / 64)), r := nY (dY fr pg a (va / 64)), p := nZ (dY fr pg a (va / 64)) } _)) ?_
 refine ac ?_
 refine aG ?_
 simp [aN]
 exact IS _
 have e : eA fr.length pg a (va / 64) = false := by grind
 rw [pJ, Qaa f, Al, e, QcS]
 refine am func416 ntmps416 ?_
 refine bq [bw] 16 fun b => ?_
 refine aj 0 9 b ?_
 refine ax 9 b (j0 rfl rfl (by decide) IU) ?_
 refine cg 10 (cM GJ (Aj pv ps pm d fr pg h g a (va / 64) (by omega))) fun b => ?_
 refine aj 11 5 b ?_
 refine aJ ?_
 refine ai (fun c => ?_) fun c => ?_
 refine ah (ap Cq (xy bw pv va _ _)) ?_
 exact ac ao
 exact absurd (by rw [e]; decide) c
def fB (fr : List aB) (pg : List Pl) (root : Int) (va : Nat) : Nat → WS × Int
 | 0 => (nD, root)
 | 1 => (if va < 16384 then nD else { nD with fault := 2 }, root)
 | 2 => (kO fr pg va root nD, eK fr pg va root)
 | _ => (pJ fr pg va (eK fr pg va root) (kO fr pg va root nD), eK fr pg va root)
def lN (fr : List aB) (pg : List Pl) (root : Int) (va : Nat) : Nat → Bool
 | 0 => decide (va < 16384)
 | 1 => jj fr pg va root
 | _ => Al fr pg va (eK fr pg va root)
def cn (fr : List aB) (pg : List Pl) (root : Int) (va : Nat) : WS :=
  if va < 16384 then (if jj fr pg va root then (fB fr pg root va 3).1 else (fB fr pg root va 2).1) else (fB fr pg root va 1).1
abbrev rH (bva bwp bat bw pv ps pm d : Nat) (fr : List aB) (pg : List Pl) (va : Nat) (q : WS × Int) (R : List HP) : List HP :=
  pt bva (ag [.int .u32 va] 38) :: pt bwp (ag [.pointer (some ⟨bw, 0, none⟩)] 508) :: pt bat (ag [.int .i64 q.2] 3) :: pt bw (sM pv va q.1) :: fA pv ps pm d fr pg R
theorem XM W0 R bva bwp bat bw pv ps pm d fr pg root va :
    bE Tryz.prog W0 411 [.pointer (some ⟨bva, 0, none⟩), .pointer (some ⟨bwp, 0, none⟩)] (rH bva bwp bat bw pv ps pm d fr pg va (fB fr pg root va 0) R)
      (fun v B => v = .bool (lN fr pg root va 0) ∧ B = rH bva bwp bat bw pv ps pm d fr pg va (fB fr pg root va 1) R) := by
 refine lL func411 ntmps411 rfl rfl ?_
 refine aO (aX (ae rfl (bA rfl) (aL (aH (aO (aX (ae rfl (cu mw rfl (aI rfl)) ?_)))))))
 refine ae rfl (nu rfl rfl) (ae rfl (aM rfl) ?_)
 refine cy rfl rfl rfl (fun b => ?_) fun b => ?_
 refine fy rfl rfl rfl rfl ?_
 refine fy rfl rfl rfl rfl (ae rfl (m5 rfl rfl) (ae rfl (bA rfl) (aL (aH (dE (bX (.inl rfl) (.cons (aS rfl) .nil) ?_))))))
 first
   | (have a : va < 16384 := by omega
      simp only [fB, lN, Qad a, Qah a]
      exact ⟨_, ⟨rfl, rfl⟩, inferInstance⟩)
   | (have a : ¬ va < 16384 := by omega
      simp only [fB, lN, Qaa a, Qal a]
      exact ⟨_, ⟨rfl, rfl⟩, inferInstance⟩)
 refine ae rfl (cu isAgg508 rfl (aI rfl)) ?_
 refine cI rfl rfl (aD rfl (gU Cq rfl (xy bw pv va nD 2)) ?_)
 rintro _ e ⟨rfl, c⟩
 obtain rfl := c.symm
 refine cI rfl rfl (ae rfl (rn rfl) (ae rfl (iu rfl rfl) (ae rfl (bA rfl) (aL (aH (dE (bX (.inl rfl) (.cons (aS rfl) .nil) ?_)))))))
 first
   | (have a : va < 16384 := by omega
      simp only [fB, lN, Qad a, Qah a]
      exact ⟨_, ⟨rfl, rfl⟩, inferInstance⟩)
   | (have a : ¬ va < 16384 := by omega
      simp only [fB, lN, Qaa a, Qal a]
      exact ⟨_, ⟨rfl, rfl⟩, inferInstance⟩)
theorem XN bva bwp bat bw pv ps pm d fr pg (h : Pgs pg) (b : cB fr) root va (a : va < 16384) : sQ W0 413 [.pointer (some ⟨bwp, 0, none⟩), .pointer (some ⟨bat, 0, none⟩)] (rH bva bwp bat bw pv ps pm d fr pg va (fB fr pg root va 1) R) (.bool (lN fr pg root va 1)) (rH bva bwp bat bw pv ps pm d fr pg va (fB fr pg root va 2) R) := by
 simp only [fB, lN, Qad a]
 refine ju 9 func413 ntmps413 ?_
 refine dV 10 (lM call414 rfl (XK bw pv ps pm d fr pg h b va (by omega) nD root)) ?_
 refine iW 9 (m6 aR rfl rfl rfl (Qab rfl) SetL.eq) ?_
 exact ac ao
theorem XO bva bwp bat bw pv ps pm d fr pg (h : Pgs pg) (a : cB fr) root va (b : va < 16384) : sQ W0 415 [.pointer (some ⟨bwp, 0, none⟩), .pointer (some ⟨bat, 0, none⟩)] (rH bva bwp bat bw pv ps pm d fr pg va (fB fr pg root va 2) R) (.bool (lN fr pg root va 2)) (rH bva bwp bat bw pv ps pm d fr pg va (fB fr pg root va 3) R) := by
 simp only [fB, lN]
 refine ju 9 func415 ntmps415 ?_
 refine dV 4 (lM call416 rfl (XL bw pv ps pm d fr pg h a va (by omega) _ (eK fr pg va root))) ?_
 exact ac ao
def vO (bva bwp bat : Nat) : List Value := [.func (.func 411) #[] #[.pointer (some ⟨bva, 0, none⟩), .pointer (some ⟨bwp, 0, none⟩)], .func (.func 413) #[] #[.pointer (some ⟨bwp, 0, none⟩), .pointer (some ⟨bat, 0, none⟩)], .func (.func 415) #[] #[.pointer (some ⟨bwp, 0, none⟩), .pointer (some ⟨bat, 0, none⟩)]]
theorem XP {W0 N e R bva bwp bat bw pv ps pm d fr pg root va i fx v} (h : Pgs pg) (g : cB fr) (k : i < 3) (b : ∀ m, m < i → lN fr pg root va m = true) (c : (vO bva bwp bat)[i]? = some v) (f : ev e fx = some v) :
    cZ Tryz.prog W0 N e (rH bva bwp bat bw pv ps pm d fr pg va (fB fr pg root va i) R) (.call { callee := .value fx, args := #[], argTypes := #[] }) (fun v B => v = .bool (lN fr pg root va i) ∧ B = rH bva bwp bat bw pv ps pm d fr pg va (fB fr pg root va (i + 1)) R) := by
 have j : i = 0 ∨ i = 1 ∨ i = 2 := by omega
 rcases j with rfl | rfl | rfl
 cases c
 exact je (us := []) (vs := []) (cs := [pQ bva, pQ bwp]) f call411 rfl (XM W0 R bva bwp bat bw pv ps pm d fr pg root va)
 cases c
 have a : va < 16384 := Qar (b 0 (by decide))
 exact je (us := []) (vs := []) (cs := [pQ bwp, pQ bat]) f call413 rfl (XN bva bwp bat bw pv ps pm d fr pg h g root va a)
 cases c
 have a : va < 16384 := Qar (b 0 (by decide))
 exact je (us := []) (vs := []) (cs := [pQ bwp, pQ bat]) f call415 rfl (XO bva bwp bat bw pv ps pm d fr pg h g root va a)
theorem XQ {fr pg root va i} (e : i < 3) (a : ∀ m, m < i → lN fr pg root va m = true) (c : lN fr pg root va i = false) : cn fr pg root va = (fB fr pg root va (i + 1)).1 := by
 have d : i = 0 ∨ i = 1 ∨ i = 2 := by omega
 rcases d with rfl | rfl | rfl
 have : ¬ va < 16384 := of_decide_eq_false c
 rw [cn, Qaa this]
 have b : va < 16384 := Qar (a 0 (by decide))
 have : ¬ jj fr pg va root = true := by rw [show jj fr pg va root = false from c]; decide
 rw [cn, Qad b, Qaa this]
 have b : va < 16384 := Qar (a 0 (by decide))
 rw [cn, Qad b, Qad (show jj fr pg va root = true from a 1 (by decide))]
theorem XR {fr pg root va} (a : ∀ m, m < 3 → lN fr pg root va m = true) : cn fr pg root va = (fB fr pg root va 3).1 := by
 have b : va < 16384 := Qar (a 0 (by decide))
 rw [cn, Qad b, Qad (show jj fr pg va root = true from a 1 (by decide))]
theorem DT pv ps pm d fr pg (h : Pgs pg) (q : cB fr) root (a : Nat) (r : a < 4294967296) : sQ W0 375 [pQ pv, iQ root, .int .u32 a] (fA pv ps pm d fr pg R) (.agg (qx (cn fr pg root a)).toArray) (fA pv ps pm d fr pg R) := by
 refine am func375 ntmps375 ?_
 refine dt (jL rfl rfl) fun e => ?_
 refine ez (dx Gy) fun l => ?_
 refine au 2 ?_
 refine DO (aw ?_)
 refine aa (fR a8r zeroValue510 (aP Cb (aP aW (aP pT fQ))) (cA rfl Cb rfl rfl (Qab rfl) SetL.eq (cA rfl aW rfl rfl (Qab rfl) SetL.eq (kh rfl pT rfl rfl (Qab rfl) SetRL.eq fP)))) ?_
 refine bz fun n => ?_
 refine dt (rp zeroValue508 rfl) fun c => ?_
 refine ar dX ?_
 refine dt (rp m4 rfl) fun f => ?_
 refine ar dX ?_
 refine ez (js a8s sizeOf64 zeroValue64 rfl rfl rfl rfl rfl (by decide) (by decide)) fun o => ?_
 refine au 4 ?_
 refine CR (aw ?_)
 refine fM (fun i : Nat => i ≤ 3 ∧ ∀ m, m < i → lN fr pg root a m = true) (fun i => [(6, pQ l), (7, pQ c), (22, .slice (some ⟨o, 0, none⟩) 3 3), (23, iQ 3), (24, iQ i)]) (fun i => pt o (ag (vO e c f) 64) :: pt l (ag (qx ⟨false, 0, 0, 0, 0, 0⟩) 418) :: rH e c f n pv ps pm d fr pg a (fB fr pg root a i) R) (fun i => 3 - i) 0 ?_ ?_ ?_ ?_
 grind
 · repeat (first | exact bK | refine bc rfl ?_)
 show Ent (pt o (ag (vO e c f) 64) :: pt f (ag [iQ (fB fr pg root a 0).2] 3) :: pt c (ag [pQ n] 508) :: pt n (sM pv a (fB fr pg root a 0).1) :: pt l (ag (qx ⟨false, 0, 0, 0, 0, 0⟩) 418) :: pt e (ag [.int .u32 a] 38) :: fA pv ps pm d fr pg R) _
 exact IO
 intro i ⟨t, g⟩
 refine aw ?_
 refine ai (fun s => ?_) fun s => ?_
 obtain ⟨u, j⟩ : ∃ v, (vO e c f)[i]? = some v := ⟨(vO e c f)[i]'(by show i < 3; omega), by simp⟩
 refine aa (bJ (by omega)) ?_
 refine aa (aE (aI (by rw [QaB]; exact j))) ?_
 refine ah (rq inferInstance (XP (R := pt o (ag (vO e c f) 64) :: pt l (ag (qx ⟨false, 0, 0, 0, 0, 0⟩) 418) :: R) (bva := e) (bwp := c) (bat := f) (bw := n) (pv := pv) (ps := ps) (pm := pm) (d := d) h q (by omega) g j rfl)) ?_
 refine ai (fun p => ?_) fun p => ?_
 have k : lN fr pg root a i = false := by grind
 have b := XQ (by omega) g k
 refine aa (pZ s7 pT rfl TakeL.eq rfl) ?_
 refine iW 3 aF ?_
 refine rG (aV (.cons (bi s7 pT rfl rfl) .nil) ?_)
 rw [b]
 exact ao
 have k : lN fr pg root a i = true := Qbu.1 p
 refine aa bY ?_
 refine bR (i + 1) ?_
 grind
 obtain rfl : i = 3 := by omega
 have b := XR g
 refine aa (pZ s7 pT rfl TakeL.eq rfl) ?_
 refine iW 3 aF ?_
 refine rG (aV (.cons (bi s7 pT rfl rfl) .nil) ?_)
 rw [b]
 exact ao
theorem XS qv qs qm d fr pg (h : Pgs pg) (i : cB fr) root (a : Nat) (m : a < 4294967296) : sQ W0 303 [pQ qv, iQ root, .int .u32 a] (iM qv qs qm d fr pg R) (.agg (qx (cn fr pg root a)).toArray) (iM qv qs qm d fr pg R) := by
 refine am func303 ntmps303 ?_
 refine bj fun s => ?_
 refine bj fun u => ?_
 refine ar aF ?_
 refine ai (fun n => ?_) fun n => ?_
 refine ar dX ?_
 refine ar aF ?_
 refine aV (.cons (bi s7 pT rfl rfl) .nil) ?_
 refine aG ?_
 have e : cn fr pg root a = { nD with fault := 2 } := by grind [cn, fB]
 rw [e]; rfl
 refine aa (nr rfl rfl (by decide) ((Qai (IntKind.wrap .u32) (ql a 1024)).trans (cW (by omega)))) ?_
 refine ah (cM call351 (IR qv qs qm d fr pg h i root (a / 1024) (by omega))) ?_
 refine ai (fun k => ?_) fun k => ?_
 have l : eA fr.length pg root (a / 1024) = false := by grind
 refine ar dX ?_
 refine ar aF ?_
 refine aV (.cons (bi s7 pT rfl rfl) .nil) ?_
 refine aG ?_
 have e : cn fr pg root a = { nD with fault := 3 } := by
  grind [cn, jj, fB, kO]
 rw [e]; rfl
 have l : eA fr.length pg root (a / 1024) = true := Qbu.1 k
 refine ar dX ?_
 refine ah (aC call352 (WI (dY fr pg root (a / 1024)) (Ai i _ _ _))) ?_
 refine ai (fun c => ?_) fun c => ?_
 refine ar dX ?_
 refine ar aF ?_
 refine aV (.cons (bi s7 pT rfl rfl) .nil) ?_
 refine aG ?_
 have e : cn fr pg root a = { nD with root := root, fault := nW (dY fr pg root (a / 1024)) } := by
  rw [cn, Qad (by omega), Qaa (by grind [jj])]; simp only [fB, kO]; rw [Qad l]
 rw [e]; rfl
 have v : nW (dY fr pg root (a / 1024)) = 0 := Qbu.1 c
 have o : jj fr pg a root = true := by grind [jj]
 have j : eK fr pg a root = pF (dY fr pg root (a / 1024)) := by grind [eK]
 have b : ∀ t, eA fr.length pg t (a / 64 % 16) = eA fr.length pg t (a / 64) := fun t => by simp only [eA, gk, Nat.mod_mod]
 have f : ∀ t, dY fr pg t (a / 64 % 16) = dY fr pg t (a / 64) := fun t => by simp only [dY, b t, gk, Nat.mod_mod]
 refine aa (nr rfl rfl (by decide) ((Qai (IntKind.wrap .u32) (ql a 64)).trans (cW (by omega)))) ?_
 refine aa (dT rfl rfl (by decide) (iJ (a / 64) 16)) ?_
 refine ah (cM call351 (IR qv qs qm d fr pg h i (pF (dY fr pg root (a / 1024))) (a / 64 % 16) (by omega))) ?_
 rw [b, f, ← j]
 refine ai (fun g => ?_) fun g => ?_
 have q : eA fr.length pg (eK fr pg a root) (a / 64) = false := by grind
 refine ar dX ?_
 refine ar aF ?_
 refine aV (.cons (bi s7 pT rfl rfl) .nil) ?_
 refine aG ?_
 have e : cn fr pg root a = { nD with root := root, fault := 3 } := by
  grind [cn, fB, pJ, kO]
 rw [e]; rfl
 have q : eA fr.length pg (eK fr pg a root) (a / 64) = true := Qbu.1 g
 refine ar dX ?_
 refine ah (aC call353 (WM (dY fr pg (eK fr pg a root) (a / 64)) (Ai i _ _ _))) ?_
 rw [qo]
 refine bj fun w => ?_
 refine ar aF ?_
 refine ar (iH (Qab rfl) SetRL.eq) ?_
 refine ar dX ?_
 refine ar aF ?_
 refine aV (.cons (bi s7 pT rfl rfl) .nil) ?_
 refine aG ?_
 have e : cn fr pg root a = { nD with root := root, leaf := eK fr pg a root, on := nX (dY fr pg (eK fr pg a root) (a / 64)), r := nY (dY fr pg (eK fr pg a root) (a / 64)), p := nZ (dY fr pg (eK fr pg a root) (a / 64)), fault := ny (dY fr pg (eK fr pg a root) (a / 64)) } := by
  grind [cn, fB, pJ, kO]
 rw [e]; rfl
def oQ (n : Nat) (pg : List Pl) (pa : Nat) (w kind : Int) : Int := if dB n pg pa w kind = 0 then ((pa / 64 : Nat) : Int) else 0
def mc (n : Nat) (pg : List Pl) (pa : Nat) (w kind : Int) : Int := if dB n pg pa w kind = 0 then (bF pg ((pa / 64 : Nat) : Int)).1 else 0
def md (n : Nat) (pg : List Pl) (pa : Nat) (w kind : Int) : Int := if dB n pg pa w kind = 0 then ((pa % 64 : Nat) : Int) else 0
theorem Am {n pg pa w kind} : jS n pg pa w kind = [iQ (oQ n pg pa w kind), iQ (mc n pg pa w kind), iQ (md n pg pa w kind), .bool false] := by
 grind [jS, oQ, mc, md]
theorem IV {fr pg pa w x} (h : cB fr) : cB (kN fr pg pa w x) ∧ (kN fr pg pa w x).length = fr.length := by
 grind [kN, A8, xm]
theorem XT w : gP w < 32 := by unfold gP; split <;> omega
theorem XU w : nZ w < 32 := by unfold nZ; split; decide; exact XT w
theorem XV fr pg va a : (kO fr pg va a nD).p = 0 := by unfold kO; split <;> rfl
theorem xz fr pg root va : ∃ k : Nat, (cn fr pg root va).p = k ∧ k < 32 := by
 unfold cn
 split
 grind [fB, pJ, XU, XV]
 simp only [fB]; split <;> exact ⟨0, rfl, by decide⟩
def oR (s : WS) (kind : Int) (user : Bool) : Bool := jw kind && (eE s.r (iK kind) && (!user || eE s.r 8)) && s.on
theorem An {s kind user} : oR s kind user = true ↔ (jw kind = true ∧ eE s.r (iK kind) = true ∧ (¬ user = true ∨ eE s.r 8 = true)) ∧ s.on = true := by simp [oR]
def kv (s : WS) (va : Nat) : Nat := 64 * s.p.toNat + va % 64
def fI (fr : List aB) (pg : List Pl) (on : Bool) (root : Int) (user : Bool) (va : Nat) (kind : Int) : Int :=
  if on then (if (cn fr pg root va).fault ≠ 0 then (cn fr pg root va).fault else if oR (cn fr pg root va) kind user then dB fr.length pg (kv (cn fr pg root va) va) 1 kind else 6) else dB fr.length pg va 1 kind
def eY (g : Nat → List Pl → Nat → Int → Int → Int) (fr : List aB) (pg : List Pl) (on : Bool) (root : Int) (user : Bool) (va : Nat) (kind : Int) : Int :=
  if on then (if (cn fr pg root va).fault ≠ 0 then 0 else if oR (cn fr pg root va) kind user then g fr.length pg (kv (cn fr pg root va) va) 1 kind else 0) else g fr.length pg va 1 kind
@[reducible] def um (fr : List aB) (pg : List Pl) (on : Bool) (root : Int) (user : Bool) (va : Nat) (kind : Int) : List Value :=
  [.int .i64 (eY oQ fr pg on root user va kind), .int .i64 (eY mc fr pg on root user va kind), .int .i64 (eY md fr pg on root user va kind), .bool false]
theorem IW {w : Nat} (h : w < 4294967296) : e9 .u32 w 63 = (w % 64 : Nat) := by
 have := lk (a := w) (b := 63) h (by decide)
 rw [show w &&& 63 = w % 64 from rC (n := 6)] at this
 exact this
@[reducible] def qy (on : Bool) (root : Int) (user : Bool) : List Value := [.bool on, .int .i64 root, .bool user]
theorem Ao pv ps pm d fr pg (h : Pgs pg) (hF : cB fr) on root user (va : Nat) (hva : va < 4294967296) kind : sQ W0 331 [pQ pv, .agg (qy on root user).toArray, .int .u32 va, iQ kind] (fA pv ps pm d fr pg R) (.tuple #[.agg (um fr pg on root user va kind).toArray, iQ (fI fr pg on root user va kind)]) (fA pv ps pm d fr pg R) := by
 obtain ⟨s, hs⟩ : ∃ s, cn fr pg root va = s := ⟨_, rfl⟩
 obtain ⟨k, hk, hk32⟩ := xz fr pg root va
 rw [hs] at hk
 simp only [um, eY, fI, hs]
 refine am func331 ntmps331 ?_
 refine bz fun b1 => ?_
 refine bj fun b2 => ?_
 refine ai (fun c1 => ?_) fun c1 => ?_
 refine ah (cM GE (Ab pv ps pm d fr pg h va hva 1 kind)) ?_
 rw [Am]
 refine ar aF ?_
 refine aV (.cons (bi g8 eT rfl rfl) (.cons (aS rfl) .nil)) ?_
 refine aG ?_
 have ho : on = false := by grind
 subst ho; rfl
 refine ah (cM O9 (DT pv ps pm d fr pg h hF root va hva)) ?_
 rw [hs]
 have ho : on = true := by grind
 subst ho
 refine bj fun b3 => ?_
 refine ar aF ?_
 refine ai (fun c4 => ?_) fun c4 => ?_
 refine bq [b3] 5 fun hS => ?_
 refine aj 0 3 hS ?_
 refine cp 3 aF fun hS => ?_
 refine aj 4 1 hS ?_
 refine aJ ?_
 refine aV (.cons (bi g8 eT rfl rfl) (.cons (aS rfl) .nil)) ?_
 refine aG ?_
 rw [Qad rfl, Qad rfl, Qad rfl, Qad rfl, Qad c4, Qad c4, Qad c4, Qad c4]; rfl
 refine aa (pZ nR nS rfl TakeL.eq rfl) ?_
 refine ah (aC call376 (I9 s.on s.r s.p kind user)) ?_
 refine ai (fun c6 => ?_) fun c6 => ?_
 refine ar aF ?_
 refine aV (.cons (bi g8 eT rfl rfl) (.cons (aS rfl) .nil)) ?_
 refine aG ?_
 have ha : ¬ oR s kind user = true := fun q => c6 (An.1 q)
 rw [Qad rfl, Qad rfl, Qad rfl, Qad rfl, Qaa c4, Qaa c4, Qaa c4, Qaa c4, Qaa ha, Qaa ha, Qaa ha, Qaa ha]; rfl
 have hpa : kv s va = 64 * k + va % 64 := by rw [kv, hk]; rfl
 rw [show qx s = [.bool s.on, iQ s.r, iQ (k : Int), iQ s.fault, iQ s.root, iQ s.leaf] by rw [← hk]]
 refine aa (ko (64 * k)) ?_
 refine aa (bD (cW (by omega))) ?_
 refine aa (eH rfl rfl (IW hva)) ?_
 refine aa (db rfl rfl (by rw [cW (by omega), hpa]; omega : IntKind.wrap .u32 (((64 * k : Nat) : Int) + ((va % 64 : Nat) : Int)) = ((kv s va : Nat) : Int))) ?_
 refine ah (cM GE (Ab pv ps pm d fr pg h (kv s va) (by omega) 1 kind)) ?_
 rw [Am]
 refine ar aF ?_
 refine aV (.cons (bi g8 eT rfl rfl) (.cons (aS rfl) .nil)) ?_
 refine aG ?_
 have ha : oR s kind user = true := An.2 (Qbu.1 c6)
 rw [Qad rfl, Qad rfl, Qad rfl, Qad rfl, Qaa c4, Qaa c4, Qaa c4, Qaa c4, Qad ha, Qad ha, Qad ha, Qad ha]; rfl
theorem vP qv qs qm d fr pg (h : Pgs pg) (hF : cB fr) on root user (va : Nat) (hva : va < 4294967296) kind : sQ W0 218 [pQ qv, .agg (qy on root user).toArray, .int .u32 va, iQ kind] (iM qv qs qm d fr pg R) (.tuple #[.agg (um fr pg on root user va kind).toArray, iQ (fI fr pg on root user va kind)]) (iM qv qs qm d fr pg R) := by
 obtain ⟨s, hs⟩ : ∃ s, cn fr pg root va = s := ⟨_, rfl⟩
 obtain ⟨k, hk, hk32⟩ := xz fr pg root va
 rw [hs] at hk
 simp only [um, eY, fI, hs]
 refine am func218 ntmps218 ?_
 refine bz fun b1 => ?_
 refine bj fun b2 => ?_
 refine ai (fun c1 => ?_) fun c1 => ?_
 refine ah (cM GH (Ag qv qs qm d fr pg h va hva 1 kind)) ?_
 rw [Am]
 refine ar aF ?_
 refine aV (.cons (bi g8 eT rfl rfl) (.cons (aS rfl) .nil)) ?_
 refine aG ?_
 have ho : on = false := by grind
 subst ho; rfl
 refine ah (cM call303 (XS qv qs qm d fr pg h hF root va hva)) ?_
 rw [hs]
 have ho : on = true := by grind
 subst ho
 refine bj fun b3 => ?_
 refine ar aF ?_
 refine ai (fun c4 => ?_) fun c4 => ?_
 refine bq [b3] 5 fun hS => ?_
 refine aj 0 3 hS ?_
 refine cp 3 aF fun hS => ?_
 refine aj 4 1 hS ?_
 refine aJ ?_
 refine aV (.cons (bi g8 eT rfl rfl) (.cons (aS rfl) .nil)) ?_
 refine aG ?_
 rw [Qad rfl, Qad rfl, Qad rfl, Qad rfl, Qad c4, Qad c4, Qad c4, Qad c4]; rfl
 refine aa (pZ nR nS rfl TakeL.eq rfl) ?_
 refine ah (aC call304 (WP s.on s.r s.p kind user)) ?_
 refine ai (fun c6 => ?_) fun c6 => ?_
 refine ar aF ?_
 refine aV (.cons (bi g8 eT rfl rfl) (.cons (aS rfl) .nil)) ?_
 refine aG ?_
 have ha : ¬ oR s kind user = true := fun q => c6 (An.1 q)
 rw [Qad rfl, Qad rfl, Qad rfl, Qad rfl, Qaa c4, Qaa c4, Qaa c4, Qaa c4, Qaa ha, Qaa ha, Qaa ha, Qaa ha]; rfl
 have hpa : kv s va = 64 * k + va % 64 := by rw [kv, hk]; rfl
 rw [show qx s = [.bool s.on, iQ s.r, iQ (k : Int), iQ s.fault, iQ s.root, iQ s.leaf] by rw [← hk]]
 refine aa (bD (cW (by omega))) ?_
 refine aa (ko (64 * k)) ?_
 refine aa (dT rfl rfl (by decide) (iJ va 64)) ?_
 refine aa (db rfl rfl (by rw [cW (by omega), hpa]; omega : IntKind.wrap .u32 (((64 * k : Nat) : Int) + ((va % 64 : Nat) : Int)) = ((kv s va : Nat) : Int))) ?_
 refine ah (cM GH (Ag qv qs qm d fr pg h (kv s va) (by omega) 1 kind)) ?_
 rw [Am]
 refine ar aF ?_
 refine aV (.cons (bi g8 eT rfl rfl) (.cons (aS rfl) .nil)) ?_
 refine aG ?_
 have ha : oR s kind user = true := An.2 (Qbu.1 c6)
 rw [Qad rfl, Qad rfl, Qad rfl, Qad rfl, Qaa c4, Qaa c4, Qaa c4, Qaa c4, Qad ha, Qad ha, Qad ha, Qad ha]; rfl
@[reducible] def XW (x : Nat) : List Value := [.int .u32 x]
end
section
open Go.ChangeShapes Go.WideShapes Go.ChangeAt Go.RowKit
set_option linter.unusedSimpArgs false
set_option linter.unusedVariables false
variable {W : World} {v : Value}
theorem IX {fuel l} (h : kK Tryz.prog W fuel 38 l) : ∃ x, l = XW x ∧ x < 4294967296 := by
 obtain ⟨n, rfl, a⟩ := zT tJ h
 obtain ⟨w, rfl, b⟩ := Pd a
 exact ⟨w, rfl, b⟩
end
section
structure Ins where
  op : Nat
  d : Nat
  a : Nat
  b : Nat
  im : Int
deriving DecidableEq
def rI (w : Nat) : Int := if w / 262144 < 8192 then ((w / 262144 : Nat) : Int) else ((w / 262144 : Nat) : Int) - 16384
def fq (w : Nat) : Ins := ⟨w % 64, w / 64 % 16, w / 1024 % 16, w / 16384 % 16, rI w⟩
def xA : List Nat := [0, 7, 7, 7, 7, 7, 7, 7, 7, 7, 7, 7, 7, 7, 11, 11, 11, 11, 11, 11, 11, 11, 9, 11, 11, 11, 14, 14, 14, 14, 14, 14, 9, 11, 0, 0, 0, 9, 10, 0, 0, 0]
def fX (op : Nat) : Nat := xA.getD op 0
def o8 (op : Nat) : Bool := decide (1 ≤ op ∧ op ≤ 41)
def gX (may : Bool) (n : Nat) : Bool := if may then decide (n < 16) else decide (n = 0)
def du (op : Nat) (n : Int) : Bool :=
  if op = 18 ∨ op = 19 ∨ op = 20 then decide (0 ≤ n ∧ n ≤ 31)
  else if op = 37 ∨ op = 38 then decide (0 ≤ n ∧ n < 9)
  else if fX op / 8 % 2 = 0 then decide (n = 0)
  else decide (-8192 ≤ n ∧ n ≤ 8191)
def gH (i : Ins) : Bool := o8 i.op && gX (fX i.op % 2 != 0) i.d && gX (fX i.op / 2 % 2 != 0) i.a && gX (fX i.op / 4 % 2 != 0) i.b && du i.op i.im
theorem DU w : (fq w).op < 64 ∧ (fq w).d < 16 ∧ (fq w).a < 16 ∧ (fq w).b < 16 := by
 grind [fq]
theorem XX {w} (h : w < 4294967296) : -8192 ≤ rI w ∧ rI w ≤ 8191 := by
 grind [rI]
theorem rJ {i} (h : gH i = true) : (1 ≤ i.op ∧ i.op ≤ 41) ∧ i.d < 16 ∧ i.a < 16 ∧ i.b < 16 ∧ du i.op i.im = true := by
 simp only [gH, Qao] at h
 obtain ⟨⟨⟨⟨e, f⟩, g⟩, j⟩, h5⟩ := h
 have c : ∀ m n, gX m n = true → n < 16 := fun m n q => by
  unfold gX at q
  split at q
  grind
  grind
 exact ⟨Qar e, c _ _ f, c _ _ g, c _ _ j, h5⟩
def u32 (n : Int) : Nat := (n % 4294967296).toNat
theorem dK x : u32 x < 4294967296 := by unfold u32; omega
theorem d8 x : IntKind.wrap .u32 x = (u32 x) := by
 simp only [IntKind.wrap, IntKind.bits, IntKind.signed, u32]; simp; omega
theorem vQ {n : Nat} (h : n < 4294967296) : u32 n = n := by unfold u32; omega
def iN (a : Nat) : Int := IntKind.wrap .i32 (a : Int)
def oS (p : Bool) : Nat := if p then 1 else 0
theorem IY p : oS p < 4294967296 := by cases p <;> decide
def kw (op a b : Nat) : Nat :=
  if op = 1 then u32 ((a : Int) + b)
  else if op = 2 then u32 ((a : Int) - b)
  else if op = 3 then a &&& b
  else if op = 4 then a ||| b
  else if op = 5 then u32 (tP .u32 (a : Int) (b : Int))
  else if op = 6 then u32 (iw .u32 (a : Int) ((b % 32 : Nat) : Int))
  else if op = 7 then a / 2 ^ (b % 32)
  else if op = 8 then u32 (jK .i32 (iN a) ((b % 32 : Nat) : Int))
  else if op = 9 then oS (decide (iN a < iN b))
  else if op = 10 then oS (decide (a < b))
  else if op = 11 then u32 ((a : Int) * b)
  else if op = 12 then (if b = 0 then 4294967295 else a / b)
  else if b = 0 then a else a % b
theorem nE {p} [Decidable p] {a b M : Nat} (c : p → a < M) (d : ¬ p → b < M) : (if p then a else b) < M := by
 grind
theorem vR {op a b} (c : a < 4294967296) (d : b < 4294967296) : kw op a b < 4294967296 := by
 unfold kw
 refine nE (fun _ => dK _) fun _ => nE (fun _ => dK _) fun _ => nE (fun _ => QaI Qbw c) fun _ => nE (fun _ => Qcd (n := 32) c d) fun _ => nE (fun _ => dK _) fun _ => nE (fun _ => dK _) fun _ => nE (fun _ => QaI (QbR _ _) c) fun _ => nE (fun _ => dK _) fun _ => nE (fun _ => IY _) fun _ => nE (fun _ => IY _) fun _ => nE (fun _ => dK _) fun _ => ?_
 refine nE (fun _ => nE (fun _ => by decide) fun _ => QaI (QbR _ _) c) fun _ => nE (fun _ => c) fun _ => QaI (Nat.mod_le _ _) c
def ib (op : Nat) : Nat := if op = 14 then 1 else if op = 21 then 9 else op - 12
def un (op a b : Nat) : Bool :=
  if op = 28 then decide (a = b) else if op = 29 then decide (a ≠ b) else if op = 30 then decide (iN a < iN b) else decide (a < b)
def uo (im : Int) : Nat := u32 (iw .u32 ((u32 im : Nat) : Int) 18)
def d9 (l : List Nat) (i : Nat) : Nat := l.getD i 0
def kx (l : List Nat) (b : Nat) : Bool := d9 l 5 &&& b != 0
def dQ (l : List Nat) : Bool := kx l 4
def o9 (l : List Nat) : Bool := d9 l 1 != 0 && kx l 1
def qz (l : List Nat) (s fb tb : Nat) : Nat := if kx l fb then s ||| tb else s
def oT (l : List Nat) (s f0 t0 f1 t1 : Nat) : Nat := qz l (qz l s f0 t0) f1 t1
def oU (l : List Nat) (pc cause tval : Nat) : List Nat := ((l.set 2 pc).set 3 cause).set 4 tval
def me (l : List Nat) (pc cause tval : Nat) : List Nat := (oU l pc cause tval).set 5 (oT l 4 1 2 4 8)
def oV (l : List Nat) : List Nat := l.set 5 (oT l (d9 l 5 &&& 10) 2 1 8 4)
def oW (l : List Nat) (id clock n : Nat) : Nat := if n = 7 then u32 clock else if n = 8 then id else d9 l n
def kz (n v : Nat) : Nat := if n = 0 then v &&& 7937 else if n = 5 then v &&& 15 else v
def ic (l : List Nat) : Bool := d9 l 0 &&& 1 != 0
def gJ (l : List Nat) : Nat := d9 l 0 / 256 &&& 31
structure CsOk (l : List Nat) : Prop where
  len : l.length = 7
  lt : ∀ x ∈ l, x < 4294967296
theorem CsOk.at_ {l} (h : CsOk l) i : d9 l i < 4294967296 := by
 unfold d9
 rw [Qas]
 cases a : l[i]? with
 | none => decide
 | some v => exact h.lt v (QcQ a)
theorem CsOk.set {l} (h : CsOk l) i v (a : v < 4294967296) : CsOk (l.set i v) := ⟨by rw [Qap, h.len], fun x b => by
 rcases Qco b with q | q
 exact h.lt x q
 rw [q]; exact a⟩
theorem DV {l s fb tb} (a : s < 4294967296) (b : tb < 4294967296) : qz l s fb tb < 4294967296 := by
 unfold qz; split
 exact Qcd (n := 32) a b
 exact a
theorem DW {l s f0 t0 f1 t1} (a : s < 4294967296) (b : t0 < 4294967296) (c : t1 < 4294967296) : oT l s f0 t0 f1 t1 < 4294967296 := DV (DV a b) c
theorem CsOk.trap {l} (h : CsOk l) {pc cause tval} (a : pc < 4294967296) (b : cause < 4294967296) (c : tval < 4294967296) : CsOk (oU l pc cause tval) := ((h.set 2 _ a).set 3 _ b).set 4 _ c
theorem CsOk.enter {l} (h : CsOk l) {pc cause tval} (a : pc < 4294967296) (b : cause < 4294967296) (c : tval < 4294967296) : CsOk (me l pc cause tval) := (h.trap a b c).set 5 _ (DW (by decide) (by decide) (by decide))
theorem CsOk.leave {l} (h : CsOk l) : CsOk (oV l) := h.set 5 _ (DW (QaI Qbw (h.at_ 5)) (by decide) (by decide))
theorem XY {n v} (h : v < 4294967296) : kz n v < 4294967296 := by
 grind [kz, QaI, Qbw]
theorem DY {l id clock n} (h : CsOk l) (a : id < 4) : oW l id clock n < 4294967296 := by
 unfold oW
 split
 exact dK _
 split
 omega
 exact h.at_ n
theorem XZ {l pc cause tval} : d9 (oU l pc cause tval) 5 = d9 l 5 := by
 grind [oU, d9]
theorem DZ {l pc cause tval b} : kx (oU l pc cause tval) b = kx l b := by unfold kx; rw [XZ]
theorem Y0 {l pc cause tval s f0 t0 f1 t1} : oT (oU l pc cause tval) s f0 t0 f1 t1 = oT l s f0 t0 f1 t1 := by
 grind [oT, qz, DZ]
structure Eff where
  k : Nat
  pc : Nat
  addr : Nat
  width : Nat
  signed : Bool
  d : Nat
  val : Nat
  cause : Nat
  tval : Nat
deriving DecidableEq
structure Cpu where
  rl : List Nat
  pc : Nat
  cs : List Nat
structure RlOk (l : List Nat) : Prop where
  len : l.length = 16
  lt : ∀ x ∈ l, x < 4294967296
def bL (rl : List Nat) (i : Nat) : Nat := rl.getD i 0
def j5 (rl : List Nat) (i v : Nat) : List Nat := if i = 0 then rl else rl.set i v
theorem RlOk.at_ {l} (h : RlOk l) i : bL l i < 4294967296 := by
 unfold bL
 rw [Qas]
 cases a : l[i]? with
 | none => decide
 | some v => exact h.lt v (QcQ a)
theorem RlOk.set {l} (h : RlOk l) i v (a : v < 4294967296) : RlOk (j5 l i v) := by
 unfold j5; split
 exact h
 exact ⟨by rw [Qap, h.len], fun x b => by
  rcases Qco b with q | q
  exact h.lt x q
  rw [q]; exact a⟩
structure CpOk (x : Cpu) : Prop where
  r : RlOk x.rl
  pc : x.pc < 4294967296
  cs : CsOk x.cs
def mN (i : Ins) : Nat := u32 (lG .u32 (lG .u32 (lG .u32 (lG .u32 ((i.op : Nat) : Int) (iw .u32 ((i.d : Nat) : Int) 6)) (iw .u32 ((i.a : Nat) : Int) 10)) (iw .u32 ((i.b : Nat) : Int) 14)) (iw .u32 ((u32 i.im : Nat) : Int) 18))
def mf : Eff := ⟨0, 0, 0, 0, false, 0, 0, 0, 0⟩
def cQ (pc : Nat) : Nat := u32 ((pc : Int) + 4)
def mP (pc : Nat) (im : Int) : Nat := u32 ((pc : Int) + ((u32 (4 * ((u32 im : Nat) : Int)) : Nat) : Int))
def mQ (a : Nat) (im : Int) : Nat := u32 ((a : Int) + ((u32 im : Nat) : Int))
abbrev mg (c t : Nat) : Eff := ⟨3, 0, 0, 0, false, 0, 0, c, t⟩
abbrev lq (x : Cpu) (pc : Nat) : Eff × Cpu := (⟨0, pc, 0, 0, false, 0, 0, 0, 0⟩, { x with pc := pc })
abbrev jT (i : Ins) (x : Cpu) (v pc : Nat) : Eff × Cpu := lq { x with rl := j5 x.rl i.d v } pc
def mR (op : Nat) : Nat := if op = 23 ∨ op = 26 then 4 else 1
def rK (i : Ins) (x : Cpu) : Eff :=
  if mQ (bL x.rl i.a) i.im % mR i.op ≠ 0 then mg 2 (mQ (bL x.rl i.a) i.im)
  else if i.op = 26 ∨ i.op = 27 then ⟨2, cQ x.pc, mQ (bL x.rl i.a) i.im, mR i.op, false, 0, bL x.rl i.b, 0, 0⟩
  else ⟨1, cQ x.pc, mQ (bL x.rl i.a) i.im, mR i.op, decide (i.op = 24), i.d, 0, 0, 0⟩
def ie (op : Nat) : Bool := decide (op = 35 ∨ op = 36 ∨ op = 37 ∨ op = 38 ∨ op = 39 ∨ op = 40)
def qA (op : Nat) : Nat := if op = 35 then 4 else if op = 40 then 5 else 6
def kA (id clock : Nat) (i : Ins) (x : Cpu) : Eff × Cpu :=
  if i.op = 34 then (mg 6 0, x)
  else if i.op = 41 then (mg 8 x.pc, x)
  else if i.op = 36 then lq { x with cs := oV x.cs } (d9 x.cs 2)
  else if i.op = 37 then jT i x (oW x.cs id clock i.im.toNat) (cQ x.pc)
  else if i.op = 38 then (if i.im.toNat ≤ 6 then lq { x with cs := x.cs.set i.im.toNat (kz i.im.toNat (bL x.rl i.a)) } (cQ x.pc) else (mg 1 (mN i), x))
  else (⟨qA i.op, cQ x.pc, 0, 0, false, 0, 0, 0, 0⟩, x)
def gm (id clock : Nat) (i : Ins) (x : Cpu) : Eff × Cpu :=
  if i.op ≤ 13 then jT i x (kw i.op (bL x.rl i.a) (bL x.rl i.b)) (cQ x.pc)
  else if i.op ≤ 21 then jT i x (kw (ib i.op) (bL x.rl i.a) (u32 i.im)) (cQ x.pc)
  else if i.op = 22 then jT i x (uo i.im) (cQ x.pc)
  else if i.op ≤ 27 then (rK i x, x)
  else if i.op ≤ 31 then lq x (if un i.op (bL x.rl i.a) (bL x.rl i.b) then mP x.pc i.im else cQ x.pc)
  else if i.op ≤ 33 then jT i x (cQ x.pc) (if i.op = 33 then mQ (bL x.rl i.a) i.im else mP x.pc i.im)
  else kA id clock i x
def jU (id clock : Nat) (i : Ins) (x : Cpu) : Eff × Cpu := if ie i.op && !dQ x.cs then (mg 7 (mN i), x) else gm id clock i x
structure EfOk (e : Eff) : Prop where
  pc : e.pc < 4294967296
  addr : e.addr < 4294967296
  val : e.val < 4294967296
  cause : e.cause < 100
  tval : e.tval < 4294967296
  d : e.d < 16
  w : e.width ≤ 4
theorem xB {k pc addr w d v c t s} (a : pc < 4294967296) (b : addr < 4294967296) (e : v < 4294967296) (f : c < 100) (g : t < 4294967296) (h : d < 16) (i : w ≤ 4) : EfOk ⟨k, pc, addr, w, s, d, v, c, t⟩ := ⟨a, b, e, f, g, h, i⟩
theorem xC {c t} (a : c < 100) (b : t < 4294967296) : EfOk (mg c t) := xB (by decide) (by decide) (by decide) a b (by decide) (by decide)
theorem Ap {x pc} (h : CpOk x) (a : pc < 4294967296) : EfOk (lq x pc).1 ∧ CpOk (lq x pc).2 := ⟨xB a (by decide) (by decide) (by decide) (by decide) (by decide) (by decide), ⟨h.r, a, h.cs⟩⟩
theorem xD {i x v pc} (h : CpOk x) (a : v < 4294967296) (b : pc < 4294967296) : EfOk (jT i x v pc).1 ∧ CpOk (jT i x v pc).2 := Ap ⟨h.r.set i.d v a, h.pc, h.cs⟩ b
theorem E0 op : mR op ≤ 4 := by unfold mR; split <;> decide
theorem Y1 {i x} (h : CpOk x) (a : i.d < 16) : EfOk (rK i x) := by
 unfold rK
 split; · exact xC (by decide) (dK _)
 split; · exact xB (dK _) (dK _) (h.r.at_ _) (by decide) (by decide) (by decide) (E0 _)
 exact xB (dK _) (dK _) (by decide) (by decide) (by decide) a (E0 _)
theorem E1 {id clock i x} (h : CpOk x) (b : i.d < 16) (a : id < 4) : EfOk (jU id clock i x).1 ∧ CpOk (jU id clock i x).2 := by
 unfold jU
 split; · exact ⟨xC (by decide) (dK _), h⟩
 unfold gm
 split; · exact xD h (vR (h.r.at_ _) (h.r.at_ _)) (dK _)
 split; · exact xD h (vR (h.r.at_ _) (dK _)) (dK _)
 split; · exact xD h (dK _) (dK _)
 split; · exact ⟨Y1 h b, h⟩
 split
 refine Ap h ?_
 split <;> exact dK _
 split
 refine xD h (dK _) ?_
 split <;> exact dK _
 unfold kA
 split; · exact ⟨xC (by decide) (by decide), h⟩
 split; · exact ⟨xC (by decide) h.pc, h⟩
 split; · exact Ap ⟨h.r, h.pc, h.cs.leave⟩ (h.cs.at_ 2)
 split; · exact xD h (DY h.cs a) (dK _)
 split
 split
 exact Ap ⟨h.r, h.pc, h.cs.set _ _ (XY (h.r.at_ _))⟩ (dK _)
 exact ⟨xC (by decide) (dK _), h⟩
 exact ⟨xB (dK _) (by decide) (by decide) (by decide) (by decide) (by decide) (by decide), h⟩
class Hk (α : Type) extends Inhabited α where
  ky : α → Int
namespace Hp
variable {α : Type} [Hk α]
def us (l : List α) (i : Nat) : Int := Hk.ky (l.getD i default)
theorem us_eq {l : List α} {i} h : us l i = Hk.ky l[i] := by simp [us, List.getD, h]
def swapL (l : List α) (i j : Nat) : List α := (l.set i (l.getD j default)).set j (l.getD i default)
theorem xE (l : List α) i j : (swapL l i j).length = l.length := by simp [swapL]
theorem rL {l : List α} {i j} (a : i < l.length) (b : j < l.length) x : (swapL l i j).getD x default = if x = i then l.getD j default else if x = j then l.getD i default else l.getD x default := by
 grind [swapL]
theorem kP {l : List α} {i j} (a : i < l.length) (b : j < l.length) x : us (swapL l i j) x = if x = i then us l j else if x = j then us l i else us l x := by
 grind [us, rL]
theorem E2 {β : Type} : ∀ (l : List β) (i j : Nat) (a : i < l.length) (b : j < l.length), ((l.set i l[j]).set j l[i]).Perm l := by
 grind [List.set_set_perm]
theorem lO {l : List α} {i j} (a : i < l.length) (b : j < l.length) : (swapL l i j).Perm l := by
 grind [E2, swapL]
def Heap (l : List α) (n : Nat) : Prop := ∀ c, c < n → 0 < c → us l ((c - 1) / 2) ≤ us l c
def jy (l : List α) (i n : Nat) : Prop := ∀ c, c < n → 0 < c → (c ≠ i → (c - 1) / 2 ≠ i → us l ((c - 1) / 2) ≤ us l c) ∧ ((c - 1) / 2 = i → 0 < i → us l ((i - 1) / 2) ≤ us l c)
def Up (l : List α) (j n : Nat) : Prop := ∀ c, c < n → 0 < c → (c ≠ j → us l ((c - 1) / 2) ≤ us l c) ∧ ((c - 1) / 2 = j → 0 < j → us l ((j - 1) / 2) ≤ us l c)
theorem E3 {l : List α} {i j n} (h : jy l i n) (t : n ≤ l.length) (p : j < n) (g : (j - 1) / 2 = i) (q : 0 < j) (r : us l j < us l i)
    (k : ∀ c, c < n → 0 < c → (c - 1) / 2 = i → us l j ≤ us l c) : jy (swapL l i j) j n ∧ us (swapL l i j) ((j - 1) / 2) ≤ us (swapL l i j) j := by
 have s : i < j := by omega
 have d := kP (l := l) (i := i) (j := j) (by omega) (by omega)
 refine ⟨fun c a b => ⟨fun e m => ?_, fun e m => ?_⟩, ?_⟩
 rw [d, d]
 by_cases f : c = i
 subst f
 have := (h j p q).2 g (by omega)
 rw [Qaa (by omega), Qaa (by omega), Qad rfl]; exact this
 by_cases o : (c - 1) / 2 = i
 grind
 rw [Qaa o, Qaa m, Qaa f, Qaa e]; exact (h c a b).1 f o
 rw [g, d, d, Qad rfl, Qaa (by omega), Qaa (by omega)]
 rw [← e]; exact (h c a b).1 (by omega) (by omega)
 grind
theorem xF {l : List α} {i n} (h : jy l i n) (a : ∀ c, c < n → 0 < c → (c - 1) / 2 = i → us l i ≤ us l c) (g : 0 < i → us l ((i - 1) / 2) ≤ us l i) : Heap l n := fun c b d => by
 by_cases e : (c - 1) / 2 = i
 grind
 by_cases f : c = i
 grind
 exact (h c b d).1 f e
theorem Aq {l : List α} {i n} (h : jy l i n) (a : ∀ c, c < n → 0 < c → (c - 1) / 2 = i → us l i ≤ us l c) : Up l i n := fun c b d => ⟨fun e => by
 by_cases f : (c - 1) / 2 = i
 grind
 exact (h c b d).1 e f, (h c b d).2⟩
theorem E4 {l : List α} {j n} (h : Up l j n) (q : n ≤ l.length) (r : j < n) (m : 0 < j) (o : us l j < us l ((j - 1) / 2)) : Up (swapL l ((j - 1) / 2) j) ((j - 1) / 2) n := by
 have d := kP (l := l) (i := (j - 1) / 2) (j := j) (by omega) (by omega)
 intro c e a
 refine ⟨fun f => ?_, fun f p => ?_⟩
 rw [d, d]
 by_cases b : c = j
 omega
 by_cases g : (c - 1) / 2 = (j - 1) / 2
 rw [Qad g, Qaa (by omega), Qaa b]
 have := (h c e a).1 b; rw [g] at this; omega
 by_cases k : (c - 1) / 2 = j
 rw [Qaa g, Qad k, Qaa f, Qaa b]; exact (h c e a).2 k m
 rw [Qaa g, Qaa k, Qaa f, Qaa b]; exact (h c e a).1 b
 rw [d, d, Qaa (by omega), Qaa (by omega)]
 have s := (h ((j - 1) / 2) (by omega) p).1 (by omega)
 by_cases b : c = j
 omega
 rw [Qaa (by omega), Qaa b]
 have := (h c e a).1 b; rw [f] at this; omega
theorem xG {l : List α} {j n} (h : Up l j n) (d : 0 < j → us l ((j - 1) / 2) ≤ us l j) : Heap l n := fun c a b => by
 by_cases e : c = j
 grind
 exact (h c a b).1 e
theorem heap_min {l : List α} {n} (h : Heap l n) : ∀ c, c < n → us l 0 ≤ us l c := by
 intro c
 induction c using Nat.strongRecOn with
 | _ c a =>
  intro b
  by_cases d : c = 0
  grind
  have := h c b (by omega)
  have := a ((c - 1) / 2) (by omega) (by omega)
  omega
theorem E5 {l i} {x : α} {n} (h : Heap l n) (j : i < l.length) : jy (l.set i x) i n := fun c d f => by
 have e : ∀ y, y ≠ i → us (l.set i x) y = us l y := fun y k => by
  unfold us; simp only [Qas]; rw [QaW (by omega)]
 refine ⟨fun a b => ?_, fun a b => ?_⟩
 rw [e _ a, e _ b]; exact h c d f
 rw [e _ (by omega), e _ (by omega)]
 have g := h c d f
 have m := h i (by omega) b
 rw [a] at g; omega
theorem xH {l a : List α} {n} (h : ∀ i, i < n → l.getD i default = a.getD i default) {i} (b : i < n) : us l i = us a i := by unfold us; rw [h i b]
theorem E6 {l a : List α} {n} (h : ∀ i, i < n → l.getD i default = a.getD i default) (k : Heap l n) : Heap a n := fun c b d => by
 rw [← xH h b, ← xH h (i := (c - 1) / 2) (by omega)]; exact k c b d
theorem E7 {l : List α} {n m} (h : Heap l n) (k : m ≤ n) : Heap l m := fun c b a => h c (by omega) a
structure Down (its l : List α) (i0 n : Nat) (moved : Bool) : Prop where
  perm : l.Perm its
  tail : ∀ x, n ≤ x → l.getD x default = its.getD x default
  no : moved = false → l = its ∧ ∀ c, c < n → 0 < c → (c - 1) / 2 = i0 → us its i0 ≤ us its c
  yes : moved = true → Heap l n
theorem xI {l a : List α} {i i0 n} (d : l.Perm a) (k : i0 ≤ i) (e : jy l i n) (f : ∀ x, n ≤ x → l.getD x default = a.getD x default) (g : i = i0 → l = a)
    (j : i0 < i → us l ((i - 1) / 2) ≤ us l i) (b : ∀ c, c < n → 0 < c → (c - 1) / 2 = i → us l i ≤ us l c) : Down a l i0 n (decide (i0 < i)) :=
  ⟨d, f, fun h => by
 have : i = i0 := by grind
 subst this
 obtain rfl := g rfl
 exact ⟨rfl, b⟩, fun h => by
 have : i0 < i := by simpa using h
 exact xF e b fun _ => j this⟩
theorem xJ {l a : List α} {i j n} (c : i < n) (d : j < n) (e : n ≤ l.length) (h : ∀ x, n ≤ x → l.getD x default = a.getD x default) : ∀ x, n ≤ x → (swapL l i j).getD x default = a.getD x default := fun x b => by
 rw [rL (by omega) (by omega), Qaa (by omega), Qaa (by omega)]; exact h x b
end Hp
instance b0a : Hk Nat := { ky := fun n => (n : Int) }
abbrev Po := List (Int × Bool)
def d6 (po : Po) (f : Nat) : Int × Bool := po.getD f (-1, true)
def bN (po : Po) (w : Nat) : List Nat := (List.range po.length).filter fun f => d6 po f == ((w : Int), false)
theorem jV {po f x} (a : f < po.length) g : d6 (po.set f x) g = if g = f then x else d6 po g := by
 grind [d6]
theorem kB {po w f} : f ∈ bN po w ↔ f < po.length ∧ d6 po f = ((w : Int), false) := by
 grind [bN]
theorem Ar po w : (bN po w).Pairwise (· < ·) := List.pairwise_lt_range.filter _
theorem IZ po w : (bN po w).Nodup := (Ar po w).imp (fun h e => by omega)
theorem Y2 {po} {w : Nat} {l : List Nat} (a : l.Nodup) (h : ∀ f, f ∈ l ↔ f < po.length ∧ d6 po f = ((w : Int), false)) : l.Perm (bN po w) :=
  (List.perm_ext_iff_of_nodup a (IZ po w)).2 fun f => by rw [h, kB]
theorem Y3 {po f u} (a : f < po.length) w : bN (po.set f (u, true)) w = (bN po w).filter (· != f) := by
 simp only [bN, Qap, List.filter_filter]
 apply Qcv
 intro g _
 rw [jV a]
 by_cases h : g = f
 subst h; simp
 simp [h]
theorem Y4 {po f} {w : Nat} (d : f < po.length) (h : d6 po f ≠ ((w : Int), false)) : (bN po w ++ [f]).Perm (bN (po.set f (w, false)) w) := by
 refine Y2 ?_ fun g => ?_
 rw [Qbp]
 refine ⟨IZ po w, by simp, fun a i b c e => ?_⟩
 rw [Qbh] at c; subst c; subst e
 exact h (kB.1 i).2
 rw [QaY, Qbh, kB, Qap, jV d]
 by_cases e : g = f
 grind
 simp [e]
theorem E8 {po f x} {w : Nat} (a : f < po.length) (b : d6 po f ≠ ((w : Int), false)) (c : x ≠ ((w : Int), false)) : bN (po.set f x) w = bN po w := by
 simp only [bN, Qap]
 apply Qcv
 intro g _
 rw [jV a]
 by_cases h : g = f
 grind
 rw [Qaa h]
theorem E9 {po w x l} (hp : (l ++ [x]).Perm (bN po w)) (hm : ∀ y ∈ bN po w, x ≤ y) : bN po w = x :: bN (po.set x (w, true)) w := by
 have a : x ∈ bN po w := hp.mem_iff.1 (by simp)
 have b := Ar po w
 rw [Y3 (kB.1 a).1]
 generalize bN po w = m at a hm b
 cases m with
 | nil => cases a
 | cons y t =>
  rw [Qbi] at b
  have : x = y := by
   rcases QaO.1 a with e | e
   exact e
   have := b.1 x e
   have := hm y (by simp)
   omega
  subst this
  congr 1
  rw [List.filter_cons, Qaa (by simp)]
  refine (QaT.2 fun z c => ?_).symm
  have := b.1 z c
  simp; omega
theorem Y5 {po w x l} (a : (l ++ [x]).Perm (bN po w)) (b : ∀ y ∈ bN po w, x ≤ y) : l.Perm (bN (po.set x (w, true)) w) := by
 have h := E9 a b
 rw [h] at a
 exact ((QaX (l₁ := [x]) (l₂ := l)).trans a).cons_inv
structure LsOk (po : Po) (Ls : List (List Nat)) : Prop where
  len : Ls.length = 16
  row : ∀ w, w < 16 → (Ls.getD w []).Perm (bN po w) ∧ Hp.Heap (Ls.getD w []) (Ls.getD w []).length
structure PoOk (po : Po) : Prop where
  len : po.length ≤ 32
  who : ∀ f, f < po.length → -1 ≤ (d6 po f).1 ∧ (d6 po f).1 < 16 ∧ ((d6 po f).1 = -1 → (d6 po f).2 = false)
theorem PoOk.set {po} (h : PoOk po) {f x} (b : f < po.length) (c : 0 ≤ x.1) (d : x.1 < 16) : PoOk (po.set f x) := ⟨by rw [Qap]; exact h.len, fun g a => by
 rw [Qap] at a
 rw [jV b]
 split
 omega
 exact h.who g a⟩
theorem Y6 {po} (h : PoOk po) w : (bN po w).length ≤ 32 := by
 have := QaM (fun f => d6 po f == ((w : Int), false)) (List.range po.length)
 rw [QcN] at this
 have := h.len
 unfold bN; omega
theorem LsOk.rlen {po Ls} (h : LsOk po Ls) (a : PoOk po) {w} (b : w < 16) : (Ls.getD w []).length ≤ 32 := by
 rw [(h.row w b).1.length_eq]; exact Y6 a w
theorem LsOk.set {po po' Ls} (h : LsOk po Ls) {w} (b : w < 16) {l} (d : l.Perm (bN po' w)) (f : Hp.Heap l l.length) (c : ∀ u, u < 16 → u ≠ w → bN po' u = bN po u) : LsOk po' (Ls.set w l) := ⟨by rw [Qap]; exact h.len, fun u a => by
 have e : (Ls.set w l).getD u [] = if u = w then l else Ls.getD u [] := by
  simp only [Qas, List.getElem?_set]
  by_cases k : w = u
  subst k; simp [h.len, b]
  grind
 rw [e]
 split
 grind
 rename_i k; rw [c u a k]; exact h.row u a⟩
theorem LsOk.new n : LsOk (List.replicate n (-1, false)) (List.replicate 16 []) := ⟨by simp, fun w g => by
 have e : bN (List.replicate n (-1, false)) w = [] := by
  rw [List.eq_nil_iff_forall_not_mem]
  intro f a
  have := (kB.1 a)
  rw [QbC] at this
  have b := this.2
  simp [d6, List.getD, this.1] at b
 rw [e, show (List.replicate 16 ([] : List Nat)).getD w [] = [] by rw [Qas, List.getElem?_replicate]; split <;> rfl]
 exact ⟨QaN _, fun c d _ => absurd d (QbF _)⟩⟩
structure Im where
  fr : List aB
  po : Po
  pg : List Pl
def gK (f : Nat) : List Nat → Nat → List aB → List aB
 | [], _, fr => fr
 | x :: t, k, fr => gK f t (k + 1) (eJ fr f (4 * k : Nat) 4 x)
theorem Ea f x : ∀ (l : List Nat) (k : Nat) (a : List aB), gK f (l ++ [x]) k a = eJ (gK f l k a) f (4 * (k + l.length) : Nat) 4 x
 | [], k, a => by simp [gK]
 | y :: t, k, a => by
  rw [Qay, gK, gK, Ea f x t (k + 1)]
  congr 3; simp only [QaK]; omega
theorem uq {f} : ∀ {l : List Nat} {k : Nat} {a : List aB}, cB a → cB (gK f l k a) ∧ (gK f l k a).length = a.length
 | [], _, _, h => ⟨h, rfl⟩
 | x :: t, k, a, h => by
  obtain ⟨b, c⟩ := uq (f := f) (l := t) (k := k + 1) (A8 (f := f) (off := (4 * k : Nat)) (w := 4) (v := x) h)
  exact ⟨b, by rw [gK, c, xm]⟩
def e7 (words : List Nat) (i : Nat) : List Nat := (words.drop (16 * i)).take 16
def jz (who : Nat) (words : List Nat) (x : Im) (i : Nat) : Im :=
  match bN x.po who with
 | f :: _ => ⟨gK f (e7 words i) 0 x.fr, x.po.set f ((who : Int), true), dO x.pg i ((f : Int), 3)⟩
 | [] => x
def ci (who : Nat) (words : List Nat) : Nat → Im → Im
 | 0, x => x
 | n + 1, x => jz who words (ci who words n x) n
structure ImOk (x : Im) : Prop where
  fr : cB x.fr
  po : PoOk x.po
  pg : Pgs x.pg
  len : x.po.length = x.fr.length
theorem Y7 {who i words x} (h : ImOk x) (d : who < 16) : ImOk (jz who words x i) := by
 unfold jz
 cases e : bN x.po who with
 | nil => exact h
 | cons f t =>
  have a := kB.1 (show f ∈ bN x.po who by rw [e]; simp)
  obtain ⟨b, c⟩ := uq (f := f) (l := e7 words i) (k := 0) h.fr
  exact ⟨b, h.po.set a.1 (by simp) (by simp; omega), vJ h.pg, by rw [Qap, c]; exact h.len⟩
theorem ut {who words} (a : who < 16) : ∀ {n : Nat} {x : Im}, ImOk x → ImOk (ci who words n x)
 | 0, _, h => h
 | n + 1, _, h => Y7 (ut a h) a
theorem Y8 {who i words x} : (bN (jz who words x i).po who).length = (bN x.po who).length - 1 := by
 unfold jz
 cases e : bN x.po who with
 | nil => simp [e]
 | cons f t =>
  have c := kB.1 (show f ∈ bN x.po who by rw [e]; simp)
  dsimp only
  have b : ∀ y ∈ bN x.po who, f ≤ y := fun y a => by
   have := Ar x.po who
   rw [e] at a this
   rw [Qbi] at this
   rcases QaO.1 a with rfl | k
   omega
   grind
  have := E9 (l := t) (by grind) b
  rw [e] at this
  have := (List.cons.inj this).2
  rw [← this, QaK]; omega
theorem xK {who words x} : ∀ n, (bN (ci who words n x).po who).length = (bN x.po who).length - n
 | 0 => rfl
 | n + 1 => by rw [ci, Y8, xK n]; omega
def pK (pg : List Pl) (n m : Nat) : Prop := ∀ i, n ≤ i → i < m → aK pg (i : Nat) = false
theorem xL {who words x} (h : pK x.pg 0 8) (hl : x.pg.length = 12) : ∀ n, n ≤ 8 → pK (ci who words n x).pg n 8 ∧ (ci who words n x).pg.length = 12
 | 0, _ => ⟨h, hl⟩
 | n + 1, g => by
  obtain ⟨a, c⟩ := xL h hl n (by omega)
  rw [ci]
  generalize ci who words n x = y at a c
  unfold jz
  cases e : bN y.po who with
  | nil => exact ⟨fun i d b => a i (by omega) b, c⟩
  | cons f t =>
   dsimp only
   refine ⟨fun i d b => ?_, ?_⟩
   have := a i (by omega) b
   unfold dO
   split
   grind [aK, eG]
   exact this
   grind [dO]
end
section
open Go.RowKit
def nF (T E : TypeId) (sz : Nat) {α : Type} (f : α → List Value) (o b : Nat) (x : List α × List Value) : HP := chk (fun C => o < x.2.length ∧ ∃ a c, C = [pt b (ag (x.2.set o (.slice a x.1.length c)) T), osl E sz (.slice a x.1.length c) (x.1.flatMap f)])
theorem eL {l : List Value} {o v} (h : o < l.length) : (l.set o v)[o]? = some v := by simp [h]
theorem set_set {l : List Value} {o v u} : (l.set o v).set o u = l.set o u := List.set_set ..
section
variable {P : Program} {W0 : World} {N : FSz} {K : Act → World → Prop} {e : b0} {R A B R1 R2 : List HP} {T E : TypeId} {sz o b n : Nat} {α : Type} {f : α → List Value} {its : List α} {cs cs' : List Value} {fn : FuncId} {args : List Value} {Post : Value → List HP → Prop}
theorem sN (h : ∀ a c, o < cs.length → bE P W0 fn args (pt b (ag (cs.set o (.slice a its.length c)) T) :: osl E sz (.slice a its.length c) (its.flatMap f) :: R) Post) : bE P W0 fn args (nF T E sz f o b (its, cs) :: R) Post :=
  qf fun C d => by obtain ⟨e, a, c, rfl⟩ := d; exact h a c e
theorem xM [i : Tk (nF T E sz f o) b A (its, cs) R] (h : ∀ a c, o < cs.length → av W0 N K e (pt b (ag (cs.set o (.slice a its.length c)) T) :: osl E sz (.slice a its.length c) (its.flatMap f) :: R)) : av W0 N K e A :=
  fT (r := nF T E sz f o) (b := b) (nv fun C d => by obtain ⟨g, a, c, rfl⟩ := d; exact h a c g)
theorem nG {a c xs} [d : Tk pt b A (ag cs' T) R1] [e : Tk (osl E sz) (.slice a n c) R1 xs R2] (g : xs = its.flatMap f) (h : cs' = cs.set o (.slice a n c)) (i : o < cs.length) (j : n = its.length) [k : Ent R2 B] : Ent A (nF T E sz f o b (its, cs) :: B) := by
 subst j; subst h; subst g
 exact (Ent.ofPerm (d.perm.trans (e.perm.cons _))).trans ((Ent.cons (Ent.cons k)).trans (fH (R := B) (C := [_, _]) ⟨i, a, c, rfl⟩))
theorem qB (k : ∀ x, (f x).length = sz) (l : its ≠ []) (r : 0 < sz) (h : ∀ g c d, o < cs.length → its.length ≤ c → c ≤ maxLen → (its.flatMap f ++ d).length = c * sz → bE P W0 fn args (pt b (ag (cs.set o (.slice (some ⟨g, 0, none⟩) its.length c)) T) :: pt g (ag (its.flatMap f ++ d) E) :: R) Post) : bE P W0 fn args (nF T E sz f o b (its, cs) :: R) Post :=
  sN fun a c m => lK (List.Perm.swap _ _ _) (xg (fun j e => by
      have := cJ k its
      rw [e] at this
      have i : its.length = 0 := by
        grind
      exact absurd (QaE i) l)
    (fun g n p d j e i s q => by
      cases j
      exact lK (List.Perm.swap _ _ _) (h g _ d m e i q)))
theorem kC {g c xs sp} [d : Tk pt b A (ag cs' T) R1] [r : Tk pt g R1 (ag (xs ++ sp) E) R2] (h : ∀ x, (f x).length = sz) (i : xs = its.flatMap f) (a : cs' = cs.set o (.slice (some ⟨g, 0, none⟩) n c)) (j : o < cs.length) (l : n = its.length) (m : n ≤ c) (p : c ≤ maxLen) (q : (xs ++ sp).length = c * sz) [k : Ent R2 B] : Ent A (nF T E sz f o b (its, cs) :: B) := by
 subst l; subst i; subst a
 have e : Ent R1 (osl E sz (.slice (some ⟨g, 0, none⟩) its.length c) (its.flatMap f) :: B) := fk m p (cJ h its) q
 exact (Ent.ofPerm d.perm).trans ((Ent.cons e).trans (fH (R := B) (C := [_, _]) ⟨j, _, c, rfl⟩))
theorem xN [k : Tk (nF T E sz f o) b A (its, cs) R] {i v} (l : i ≠ o) (h : cs[i]? = some v) : kf (aQ W0 A) b i v := fun w (e : Own W0 w A) => by
 obtain ⟨C, ⟨m, a, c, rfl⟩, d⟩ := (e.tk (r := nF T E sz f o) (b := b)).chk
 have g : Own W0 w (pt b (ag (cs.set o (.slice a its.length c)) T) :: (osl E sz (.slice a its.length c) (its.flatMap f) :: R)) := d
 have j : kf (aQ W0 (pt b (ag (cs.set o (.slice a its.length c)) T) :: (osl E sz (.slice a its.length c) (its.flatMap f) :: R))) b i v := aI (by grind)
 exact j w g
theorem Eb [d : Tk (nF T E sz f o) b A (its, cs) R] {i v} (c : i ≠ o) (h : cs[i]? = some v) : bC (aQ W0 A) b i [v] := fun j u a => by
 match j, a with
 | 0, a => rw [← Qbm a]; exact xN (o := o) (f := f) (T := T) (E := E) (sz := sz) c h
 | j + 1, a => cases a
end
theorem As {α : Type} (f : α → Value) (l : List α) : (l.flatMap fun x => [f x]) = l.map f := by
 induction l with
 | nil => rfl
 | cons x l a => rw [QaQ, a]; rfl
theorem Y9 {α : Type} {f k} (b : ∀ x, (f x).length = k) (a : List α) (c : List Value) i (d : i < a.length) : i * k + k ≤ (a.flatMap f ++ c).length := by
 have := Qcs k (show i + 1 ≤ a.length by omega)
 rw [Qcg] at this
 rw [Qaf, cJ b]; omega
structure HpO (W0 : World) (α : Type) [Hk α] where
  T : TypeId
  p : Value
  el : α → Value
  H : List α → HP
  fL : FuncId
  fE : FuncId
  fS : FuncId
  fU : FuncId
  fO : FuncId
  mL : ∀ w, (method (Tryz.prog.types.size + Made.depth) T p "Len").run Tryz.prog w = .ok (fL, p) w
  mE : ∀ w, (method (Tryz.prog.types.size + Made.depth) T p "Less").run Tryz.prog w = .ok (fE, p) w
  mS : ∀ w, (method (Tryz.prog.types.size + Made.depth) T p "Swap").run Tryz.prog w = .ok (fS, p) w
  mU : ∀ w, (method (Tryz.prog.types.size + Made.depth) T p "Push").run Tryz.prog w = .ok (fU, p) w
  mO : ∀ w, (method (Tryz.prog.types.size + Made.depth) T p "Pop").run Tryz.prog w = .ok (fO, p) w
  cL : ∀ args w, (callFunc fL args).run Tryz.prog w = .ok (.enter fL args) w
  cE : ∀ args w, (callFunc fE args).run Tryz.prog w = .ok (.enter fE args) w
  cS : ∀ args w, (callFunc fS args).run Tryz.prog w = .ok (.enter fS args) w
  cU : ∀ args w, (callFunc fU args).run Tryz.prog w = .ok (.enter fU args) w
  cO : ∀ args w, (callFunc fO args).run Tryz.prog w = .ok (.enter fO args) w
  sL : ∀ R l, bE Tryz.prog W0 fL [p] (kH 0 (H l) :: R) (fun v B => v = .int .i64 (l.length : Nat) ∧ B = kH 0 (H l) :: R)
  sE : ∀ R l (i j : Nat), i < l.length → j < l.length → bE Tryz.prog W0 fE [p, .int .i64 i, .int .i64 j] (kH 0 (H l) :: R) (fun v B => v = .bool (decide (Hp.us l i < Hp.us l j)) ∧ B = kH 0 (H l) :: R)
  sS : ∀ R l (i j : Nat), i < l.length → j < l.length → bE Tryz.prog W0 fS [p, .int .i64 i, .int .i64 j] (kH 0 (H l) :: R) (fun v B => v = .tuple #[] ∧ B = kH 0 (H (Hp.swapL l i j)) :: R)
  sU : ∀ R l x, l.length < 1000 → bE Tryz.prog W0 fU [p, el x] (kH 0 (H l) :: R) (fun v B => v = .tuple #[] ∧ B = kH 0 (H (l ++ [x])) :: R)
  sO : ∀ R l x, bE Tryz.prog W0 fO [p] (kH 0 (H (l ++ [x])) :: R) (fun v B => v = el x ∧ B = kH 0 (H l) :: R)
namespace Hp
variable {W0 : World} {α : Type} [Hk α] (o : HpO W0 α)
def iv : Value := .iface o.T o.p
theorem Ec {j : Nat} (h : j < 1000) : IntKind.wrap .i64 (Int.tdiv (j - 1) 2) = ((j - 1) / 2 : Nat) := by
 grind [Int.tdiv_eq_ediv_of_nonneg, co]
theorem vS R its j n (i : n ≤ its.length) (k : n < 1000) (f : j < n) (b : Up its j n) : sP W0 202 [iv o, iQ j] (kH 0 (o.H its) :: R) (fun v B => v = .tuple #[] ∧ ∃ a, B = kH 0 (o.H a) :: R ∧ a.Perm its ∧ Heap a n ∧ ∀ x, n ≤ x → a.getD x default = its.getD x default) := by
 refine am func202 ntmps202 ?_
 refine d4 (fun X : List α × Nat => X.1.Perm its ∧ X.2 < n ∧ Up X.1 X.2 n ∧ ∀ x, n ≤ x → X.1.getD x default = its.getD x default) (fun X => [(0, iv o), (1, iQ X.2)]) (fun X => kH 0 (o.H X.1) :: R) (fun X => X.2) (its, j) ?_ ?_
 simp_all
 intro ⟨l, j⟩ ⟨c, f, b, g⟩
 have d := c.length_eq
 simp only at f b g c d ⊢
 refine aw ?_
 refine aa gF ?_
 refine aa (nr rfl rfl (by decide) (Ec (by omega))) ?_
 refine cz (fun e => ?_) fun e => ?_
 refine bX (.inr rfl) .nil ?_
 exact ⟨_, ⟨rfl, l, rfl, c, xG b (by omega), g⟩, IO⟩
 refine ah (fz rfl o.mE o.cE rfl (o.sE _ l j ((j - 1) / 2) (by omega) (by omega))) ?_
 refine aA rfl (fun h => ?_) fun h => ?_
 refine au 5 ?_
 refine bX (.inr rfl) .nil ?_
 exact ⟨_, ⟨rfl, l, rfl, c, xG b (by omega), g⟩, IO⟩
 replace h : us l j < us l ((j - 1) / 2) := by omega
 refine aw ?_
 refine ah (fz rfl o.mS o.cS rfl (o.sS _ l ((j - 1) / 2) j (by omega) (by omega))) ?_
 exact bR (swapL l ((j - 1) / 2) j, (j - 1) / 2) (⟨(lO (by omega) (by omega)).trans c, by show (j - 1) / 2 < n; omega, E4 b (by omega) f (by omega) h, xJ (by omega) f (by omega) g⟩)
theorem vT R its i0 n (F : n ≤ its.length) (G : n < 1000) (I : i0 ≤ n) (J : jy its i0 n) : sP W0 272 [iv o, iQ i0, iQ n] (kH 0 (o.H its) :: R) (fun v B => ∃ l m, v = .bool m ∧ B = kH 0 (o.H l) :: R ∧ Down its l i0 n m) := by
 refine am Oa ntmps272 ?_
 refine d4 (fun X : List α × Nat => X.1.Perm its ∧ i0 ≤ X.2 ∧ jy X.1 X.2 n ∧ (∀ x, n ≤ x → X.1.getD x default = its.getD x default) ∧ (X.2 = i0 → X.1 = its) ∧ (i0 < X.2 → us X.1 ((X.2 - 1) / 2) ≤ us X.1 X.2) ∧ X.2 ≤ n) (fun X => [(0, iv o), (1, iQ i0), (2, iQ n), (7, iQ X.2)]) (fun X => kH 0 (o.H X.1) :: R) (fun X => n - X.2) (its, i0) ?_ ?_
 simp_all
 intro ⟨l, i⟩ ⟨h, f, s, t, y, z, A⟩
 have k := h.length_eq
 simp only at h f s t y z A k ⊢
 refine aw ?_
 refine aa u9 ?_
 refine aa (dU (2 * i + 1)) ?_
 refine cz (fun p => ?_) fun p => ?_
 refine ac ?_
 refine ⟨_, ⟨l, decide (i0 < i), by simp [aN], rfl, xI h f s t y z ?_⟩, IO⟩
 first | (intro c b d e; exfalso; omega) | (intro c b d e; have := a c b d e; simp at g; omega)
 refine aA rfl (fun u => ?_) fun u => ?_
 omega
 refine au 8 ?_
 refine cF (fun j : Nat => (j - 1) / 2 = i ∧ 0 < j ∧ j < n ∧ ∀ c, c < n → 0 < c → (c - 1) / 2 = i → us l j ≤ us l c) (fun j => [(0, iv o), (1, iQ i0), (2, iQ n), (7, iQ i), (9, iQ j)]) (fun j => kH 0 (o.H l) :: R) ?_ ?_
 refine au 3 ?_
 refine aa (dU (2 * i + 2)) ?_
 refine bO (fun q => ?_) fun q => ?_
 refine ah (fz rfl o.mE o.cE rfl (o.sE _ l (2 * i + 2) (2 * i + 1) (by omega) (by omega))) ?_
 refine ai (fun w => ?_) fun w => ?_
 refine bu (2 * i + 2) ?_
 refine ⟨by omega, by omega, by omega, fun c b d e => ?_⟩
 have : c = 2 * i + 1 ∨ c = 2 * i + 2 := by omega
 rcases this with rfl | rfl <;> (first | omega | (simp at w; omega) | (simp at u; omega))
 refine bu (2 * i + 1) ?_
 refine ⟨by omega, by omega, by omega, fun c b d e => ?_⟩
 have : c = 2 * i + 1 ∨ c = 2 * i + 2 := by omega
 rcases this with rfl | rfl <;> (first | omega | (simp at w; omega) | (simp at u; omega))
 refine bu (2 * i + 1) ?_
 refine ⟨by omega, by omega, by omega, fun c b d e => ?_⟩
 have : c = 2 * i + 1 ∨ c = 2 * i + 2 := by omega
 rcases this with rfl | rfl <;> (first | omega | (simp at w; omega) | (simp at u; omega))
 intro j ⟨E, C, r, a⟩
 refine aw ?_
 refine ah (fz rfl o.mE o.cE rfl (o.sE _ l j i (by omega) (by omega))) ?_
 refine aA rfl (fun g => ?_) fun g => ?_
 refine au 15 ?_
 refine ac ?_
 refine ⟨_, ⟨l, decide (i0 < i), by simp [aN], rfl, xI h f s t y z ?_⟩, IO⟩
 first | (intro c b d e; exfalso; omega) | (intro c b d e; have := a c b d e; simp at g; omega)
 replace g : us l j < us l i := by simpa using g
 refine aw ?_
 refine ah (fz rfl o.mS o.cS rfl (o.sS _ l i j (by omega) (by omega))) ?_
 refine bR (swapL l i j, j) ?_ (hμ := ?_)
 have D := E3 s (by omega) r E C g a
 exact ⟨(lO (by omega) (by omega)).trans h, by show i0 ≤ j; omega, D.1, xJ (by omega) r (by omega) t, by show j = i0 → _; omega, fun _ => D.2, by show j ≤ n; omega⟩
 show n - j < n - i; omega
theorem Ed {its} {x : α} (h : Heap its its.length) : Up (its ++ [x]) its.length (its.length + 1) := by
 have e : ∀ c, c < its.length → us (its ++ [x]) c = us its c := fun c a => by
  unfold us; simp only [Qas]; rw [QaA a]
 intro c a b
 refine ⟨fun d => ?_, fun d f => by omega⟩
 rw [e c (by omega), e _ (by omega)]; exact h c (by omega) b
theorem heapPush_spec R its x (g : its.length < 900) (d : Heap its its.length) : sP W0 138 [iv o, o.el x] (kH 0 (o.H its) :: R) (fun v B => v = .tuple #[] ∧ ∃ a, B = kH 0 (o.H a) :: R ∧ a.Perm (its ++ [x]) ∧ Heap a a.length) := by
 have e : (its ++ [x]).length = its.length + 1 := by simp
 refine am func138 ntmps138 ?_
 refine ah (fz rfl o.mU o.cU rfl (o.sU _ its x (by omega))) ?_
 refine ah (fz rfl o.mL o.cL rfl (o.sL _ (its ++ [x]))) ?_
 refine aa (nU its.length) ?_
 refine aD rfl (ap Cr (vS o _ (its ++ [x]) its.length (its.length + 1) (by omega) (by omega) (by omega) (Ed d))) ?_
 rintro _ _ ⟨rfl, f, rfl, c, b, _⟩
 refine aw ?_
 refine bX (.inr rfl) .nil ?_
 exact ⟨_, ⟨rfl, f, rfl, c, by rw [c.length_eq, e]; exact b⟩, IO⟩
theorem xO {l : List α} {n} (h : l.length = n + 1) : ∃ b x, l = b ++ [x] ∧ b.length = n ∧ x = l.getD n default := by
 have a : l ≠ [] := fun e => by rw [e] at h; simp at h
 refine ⟨l.dropLast, l.getLast a, (List.dropLast_concat_getLast a).symm, by simp [h], ?_⟩
 rw [List.getLast_eq_getElem]
 simp [List.getD, h]
theorem xP {l} {x : α} {n} (h : Heap (l ++ [x]) n) (a : n ≤ l.length) : Heap l n :=
  E6 (fun i b => by simp only [Qas]; rw [QaA (by omega)]) h
theorem heapPop_spec R its (D : its.length < 900) (g : its ≠ []) (p : Heap its its.length) : sP W0 192 [iv o] (kH 0 (o.H its) :: R) (fun v B => ∃ x a, v = o.el x ∧ B = kH 0 (o.H a) :: R ∧ (a ++ [x]).Perm its ∧ Heap a a.length ∧ ∀ y ∈ its, Hk.ky x ≤ Hk.ky y) := by
 obtain ⟨n, E⟩ : ∃ n, its.length = n + 1 := ⟨its.length - 1, by have := Qcz.2 g; omega⟩
 have q : jy (swapL its 0 n) 0 n := fun c i g => ⟨fun r s => by
  rw [kP (by omega) (by omega), kP (by omega) (by omega), Qaa s, Qaa r, Qaa (by omega), Qaa (by omega)]
  exact p c (by omega) g, fun _ h => by omega⟩
 have t := xE its 0 n
 refine am func192 ntmps192 ?_
 refine ah (fz rfl o.mL o.cL rfl (o.sL _ its)) ?_
 refine aa (nU n) ?_
 refine ah (fz rfl o.mS o.cS rfl (o.sS _ its 0 n (by omega) (by omega))) ?_
 refine aD rfl (ap zt (vT o _ (swapL its 0 n) 0 n (by omega) (by omega) (by omega) q)) ?_
 rintro _ _ ⟨l, m, rfl, rfl, b⟩
 have u := b.perm.length_eq
 obtain ⟨f, x, rfl, j, w⟩ := xO (l := l) (n := n) (by omega)
 have k : x = its.getD 0 default := by
  rw [w, b.tail n (Qam _), rL (by omega) (by omega)]; split
  rename_i e; subst e; rfl
  rw [Qad rfl]
 have z : (f ++ [x]).Perm its := b.perm.trans (lO (by omega) (by omega))
 have A : Heap (f ++ [x]) n := by
  cases m with
  | true => exact b.yes rfl
  | false =>
   obtain ⟨e, d⟩ := b.no rfl
   rw [e]; exact xF q d (fun h => absurd h (by omega))
 refine aw ?_
 refine ah (fz rfl o.mO o.cO rfl (o.sO _ f x)) ?_
 refine ac ?_
 refine ⟨_, ⟨x, f, rfl, rfl, z, by rw [j]; exact xP A (by omega), fun y C => ?_⟩, IO⟩
 obtain ⟨c, i, rfl⟩ := Qbc.1 C
 have := heap_min p c i
 rw [us_eq i] at this
 rw [k]; exact this
end Hp
theorem J0 {a : Nat} (h : a < 9223372036854775808) : (BitVec.ofInt 64 a).toNat = a := by
 grind
theorem Ya {a b : Nat} (c : a < 9223372036854775808) (d : b < 9223372036854775808) : e9 .i64 a b = (a &&& b) := by
 have h : a &&& b < 9223372036854775808 := QaI Qbw c
 show IntKind.wrap .i64 ((BitVec.ofInt 64 (a : Int) &&& BitVec.ofInt 64 (b : Int)).toNat : Int) = _
 rw [BitVec.toNat_and, J0 c, J0 d, co (by omega)]
theorem Yb {a b : Nat} (m : a < 9223372036854775808) (n : b < 9223372036854775808) : rk .i64 a b = (a - (a &&& b) : Nat) := by
 have d : a &&& b ≤ a := Qbw
 generalize f : BitVec.ofInt 64 (a : Int) = x
 generalize g : BitVec.ofInt 64 (b : Int) = y
 have h : x.toNat = a := by grind
 have j : y.toNat = b := by grind
 have e : (x &&& ~~~ y).toNat = a - (a &&& b) := by
  have c : (x &&& ~~~ y) &&& (x &&& y) = 0#64 := by
   grind
  have k : (x &&& ~~~ y) + (x &&& y) = x := by
   rw [BitVec.add_eq_or_of_and_eq_zero _ _ c]
   ext i hi
   simp only [BitVec.getElem_or, BitVec.getElem_and, BitVec.getElem_not]
   cases x[i] <;> cases y[i] <;> rfl
  have l := Qai BitVec.toNat k
  rw [BitVec.toNat_add_of_and_eq_zero c, BitVec.toNat_and x y, h, j] at l
  omega
 show IntKind.wrap .i64 ((BitVec.ofInt 64 (a : Int) &&& ~~~ BitVec.ofInt 64 (b : Int)).toNat : Int) = _
 rw [f, g, e, co (by omega)]
def mT (l : Int) : Bool := decide (0 ≤ l ∧ l < 256)
theorem rM {l} : mT l = true ↔ 0 ≤ l ∧ l < 256 := by simp [mT]
def oX (a b : Int) : Bool := mT a && mT b && decide (a.toNat - (a.toNat &&& b.toNat) = 0)
theorem Av {a b} (h : ¬ (mT a = true ∧ mT b = true)) : oX a b = false := by
 simp_all [Qau, oX, Qao]
theorem J1 {a b} (d : a < 256) : a - (a &&& b) = 0 ↔ ∀ c, c < 8 → a.testBit c = true → b.testBit c = true := by
 have f : a &&& b ≤ a := Qbw
 constructor
 intro h c _ g
 have e : a &&& b = a := by omega
 have := Qai (fun n => n.testBit c) e
 simp only [Nat.testBit_and, g, Qbb] at this
 exact this
 intro h
 have e : a &&& b = a := by
  apply Nat.eq_of_testBit_eq
  intro i
  rw [Nat.testBit_and]
  by_cases j : i < 8
  grind
  have : a.testBit i = false := Nat.testBit_lt_two_pow (QcE d (Qcu (n := 2) (by decide) (show 8 ≤ i by omega)))
  rw [this]; rfl
 omega
theorem Ee l : sQ W0 325 [iQ l] R (.bool (mT l)) R := by
 refine am func325 ntmps325 ?_
 refine bO (fun a => ?_) fun a => ?_
 refine ac ?_
 refine aG ?_
 refine Qai Value.bool ?_
 rw [Qag]; simp only [mT, Qaj, Qaq, QaS]; omega
 refine ac ?_
 refine aG ?_
 refine Qai Value.bool ?_
 rw [Qag]; simp only [mT, Qaj, Qaq, QaS]; omega
theorem Yc a b : bE Tryz.prog W0 266 [.int .i64 a, .int .i64 b] R (fun v B => v = .bool (oX a b) ∧ B = R) := by
 refine lL func266 ntmps266 rfl rfl ?_
 refine aO (aX (ae rfl (bA rfl) (aL (aH (aO (aX (ae rfl (aM rfl) (aD rfl (iE Ob rfl (Ee a)) ?_))))))))
 rintro _ g ⟨rfl, f⟩
 obtain rfl := f.symm
 refine ae rfl (aM rfl) ?_
 refine iF rfl rfl rfl (fun c => ?_) fun c => ?_
 refine ae rfl (aM rfl) ?_
 refine cI rfl rfl (aD rfl (iE Ob rfl (Ee b)) ?_)
 rintro _ g ⟨rfl, f⟩
 obtain rfl := f.symm
 refine ae rfl (m5 rfl rfl) (ae rfl (aM rfl) ?_)
 refine iF rfl rfl rfl (fun d => ?_) fun d => ?_
 obtain ⟨x, rfl, h⟩ : ∃ x : Nat, a = (x : Int) ∧ x < 256 := ⟨a.toNat, by have := rM.1 c; omega, by have := rM.1 c; omega⟩
 obtain ⟨y, rfl, i⟩ : ∃ y : Nat, b = (y : Int) ∧ y < 256 := ⟨b.toNat, by have := rM.1 d; omega, by have := rM.1 d; omega⟩
 refine ae rfl (aM rfl) (cI rfl rfl (ae rfl (aM rfl) (cI rfl rfl ?_)))
 refine ae rfl (zJ rfl rfl (Yb (by omega) (by omega))) ?_
 refine cI rfl rfl (ae rfl (ix rfl rfl) (ae rfl (m5 rfl rfl) (ae rfl (bA rfl) (aL (aH (dE (bX (.inl rfl) (.cons (aS rfl) .nil) ?_)))))))
 refine ⟨_, ⟨?_, rfl⟩, IO⟩
 first
   | (rw [e]; rfl)
   | (refine Qai Value.bool ?_
      rw [Qag, QaZ, oX, c, d, Qae, Qae]
      simp only [Bool.and_self, Qbb, Qak]
      omega)
 have e := Av (a := a) (b := b) (fun q => d q.2)
 refine fy rfl rfl rfl rfl (fy rfl rfl rfl rfl (fy rfl rfl rfl rfl (ae rfl (iu rfl rfl) (ae rfl (bA rfl) (aL (aH (dE (bX (.inl rfl) (.cons (aS rfl) .nil) ?_))))))))
 refine ⟨_, ⟨?_, rfl⟩, IO⟩
 first
   | (rw [e]; rfl)
   | (refine Qai Value.bool ?_
      rw [Qag, QaZ, oX, c, d, Qae, Qae]
      simp only [Bool.and_self, Qbb, Qak]
      omega)
 have e := Av (a := a) (b := b) (fun q => c q.1)
 refine fy rfl rfl rfl rfl (ae rfl (iu rfl rfl) (ae rfl (aM rfl) (fy rfl rfl rfl rfl (fy rfl rfl rfl rfl (fy rfl rfl rfl rfl (fy rfl rfl rfl rfl (ae rfl (iu rfl rfl) (ae rfl (bA rfl) (aL (aH (dE (bX (.inl rfl) (.cons (aS rfl) .nil) ?_))))))))))))
 refine ⟨_, ⟨?_, rfl⟩, IO⟩
 first
   | (rw [e]; rfl)
   | (refine Qai Value.bool ?_
      rw [Qag, QaZ, oX, c, d, Qae, Qae]
      simp only [Bool.and_self, Qbb, Qak]
      omega)
theorem J2 l : sQ W0 369 [iQ l] R (.bool (mT l)) R := by
 refine am func369 ntmps369 ?_
 refine bO (fun a => ?_) fun a => ?_
 refine ac ?_
 refine aG ?_
 refine Qai Value.bool ?_
 rw [Qag]; simp only [mT, Qaj, Qaq, QaS]; omega
 refine ac ?_
 refine aG ?_
 refine Qai Value.bool ?_
 rw [Qag]; simp only [mT, Qaj, Qaq, QaS]; omega
theorem J3 (l c : Nat) (d : l < 256) (e : c < 8) : sQ W0 370 [iQ l, iQ c] R (.bool (l.testBit c)) R := by
 have f : l / 2 ^ c < 256 := QaI (QbR _ _) d
 refine am func370 ntmps370 ?_
 refine aa (j0 rfl rfl (by omega) (jQ (k := .i64) (a := l) (s := c) (by show c ≤ 64; omega))) ?_
 refine aa (eH rfl rfl (Ya (a := l / 2 ^ c) (b := 1) (by omega) (by decide))) ?_
 refine ac ?_
 refine aG ?_
 refine Qai Value.bool ?_
 rw [Qag, QaZ, show (l / 2 ^ c) &&& 1 = l / 2 ^ c % 2 from rC (a := l / 2 ^ c) (n := 1), Nat.testBit_eq_decide_div_mod_eq, Qak]
 omega
theorem Yd a b : sQ W0 324 [iQ a, iQ b] R (.bool (oX a b)) R := by
 refine am func324 ntmps324 ?_
 refine ah (aC call369 (J2 a)) ?_
 refine cz (fun e => ?_) fun e => ?_
 refine ac ?_
 refine aG ?_
 rw [Av (fun q => by simp_all)] <;> rfl
 refine ah (aC call369 (J2 b)) ?_
 refine ai (fun k => ?_) fun k => ?_
 refine ac ?_
 refine aG ?_
 rw [Av (fun q => by simp_all)] <;> rfl
 have f : mT a = true := by grind
 have g : mT b = true := by grind
 obtain ⟨x, rfl, h⟩ : ∃ x : Nat, a = (x : Int) ∧ x < 256 := ⟨a.toNat, by have := rM.1 f; omega, by have := rM.1 f; omega⟩
 obtain ⟨y, rfl, l⟩ : ∃ y : Nat, b = (y : Int) ∧ y < 256 := ⟨b.toNat, by have := rM.1 g; omega, by have := rM.1 g; omega⟩
 refine d4 (fun i : Nat => i ≤ 8 ∧ ∀ c, c < i → x.testBit c = true → y.testBit c = true) (fun i => [(0, iQ x), (1, iQ y), (5, iQ i)]) (fun i => R) (fun i => 8 - i) 0 ?_ ?_
 grind
 intro i ⟨o, m⟩
 refine aw ?_
 refine ai (fun n => ?_) fun n => ?_
 refine ah (aC call370 (J3 x i h (by omega))) ?_
 refine bO (fun d => ?_) fun d => ?_
 refine ah (aC call370 (J3 y i l (by omega))) ?_
 refine ai (fun j => ?_) fun j => ?_
 refine ac ?_
 refine aG ?_
 refine Qai Value.bool (QcX ?_)
 rw [← Qau, oX]
 intro q
 simp only [Qao, Qak, Qae] at q
 exact j ((J1 h).1 q.2 i (by omega) d)
 refine aa bY ?_
 refine bR (i + 1) ?_
 grind
 refine aa bY ?_
 refine bR (i + 1) ?_
 grind
 refine ac ?_
 refine aG ?_
 refine Qai Value.bool (QcX ?_)
 rw [oX, f, g]
 simp only [Bool.and_self, Qbb, Qak, Qae]
 exact (J1 h).2 fun c p => m c (by omega)
section
variable {rd : Option Nat} {P : Program} {S : World → Prop} {W0 : World} {N : FSz} {Q : Exit → Act → World → Prop} {e : b0} {A B R : List HP} {ops : Array Oper} {rest : List Oper}
variable {op : Op} {ty t t' : TypeId} {pos : String} {af : Array Edge} {v u : Value} {d b off : Nat} {x y z : Operand} {l l' vs : List Value}
variable {α : Type} {sz : Nat} {f : α → List Value} {xs : List α} {a : Option Addr}
theorem xQ {k m n r ats} (c : ev e x = some (.int k m)) (d : ev e y = some (.int k n)) (f : (if n > m then n else m) = r) : bP P S N e (.call { callee := .builtin .max, args := #[x, y], argTypes := ats }) (.int k r) := fun a w _ _ _ _ _ b _ => by
 simp [execOp, resolve, invoke, builtin, b.eval c, b.eval d, Builtin.max_, Builtin.max2, f]
def mh (a : Option Addr) (c i sz : Nat) : Option Addr := if c = i then a else a.map (·.add (i * sz))
theorem Ye {E n c g : Nat} {k k'} {i h : Nat} {j1 j2} (j : P.underlying t = some (.slice E)) (l : ∀ w, (sizeOf E).run P w = .ok g w) (m : ev e x = some (.slice a n c))
    {lo hi} (o : ev e lo = some (.int k j1)) (p : ev e hi = some (.int k' j2)) (q : j1 = i) (r : j2 = h) (b : i ≤ h) (d : h ≤ c) :
    bP P S N e (.slice t x (some lo) (some hi) none) (.slice (mh a c i g) (h - i) (c - i)) := fun s w _ _ _ _ _ f _ => by
 subst q; subst r
 simp [execOp, Instr.sliceAt, Instr.slice, f.eval m, f.eval o, f.eval p, eV j, Instr.sliceBounds, rz d, rz b, l, mh]
theorem cG.sub (h : cG S a sz f xs) {c i k} (m : i + k ≤ xs.length) (n : xs.length ≤ c) : cG S (mh a c i sz) sz f ((xs.drop i).take k) := fun j x g => by
 have d : j < k := by
  grind
 rw [QbZ d, Qcm] at g
 obtain ⟨b, e, rfl, l⟩ := h (i + j) x g
 refine ⟨b, e + i * sz, ?_, ?_⟩
 grind [mh, jr]
 grind
theorem cG.take (h : cG S a sz f xs) k : cG S a sz f (xs.take k) := fun j x c => by
 have b : j < k := by
  grind
 rw [QbZ b] at c
 exact h j x c
theorem cG.src (h : cG S a sz f xs) (e : ∀ x, (f x).length = sz) (g : a = none → True) : (xs = []) ∨ ∃ b c, a = some ⟨b, c, none⟩ ∧ bC S b c (xs.flatMap f) := by
 by_cases d : xs = []
 exact .inl d
 exact .inr (h.all d e)
theorem Aw {E n m c u by_ : Nat} {ay info z an xs news} (H : P.underlying t = some (.slice E))
    (I : P.info? E = some info) (hz : info.zero = some z) (J : info.size = sz) (L : info.bytes = by_) (M : z.cells.size = sz) (C : 0 < sz)
    (O : ev e x = some (.slice an n c)) (S : ev e y = some (.slice ay m u)) [h : Tk (osl E sz) (.slice an n c) A xs R]
    (d : m = 0 ∨ ∃ l o, ay = some ⟨l, o, none⟩ ∧ bC (aQ W0 A) l o news) (T : news.length = m * sz) (h1 : fi news = true) (U : n + m ≤ maxLen) (D : (n + m) * by_ ≤ 140737488355328) :
    cZ P W0 N e A (.call { callee := .builtin .append, args := #[x, y], argTypes := #[t, t] }) (fun v B => ∃ V W, v = .slice V (n + m) W ∧ B = osl E sz v (xs ++ news) :: R) := by
 rcases d with rfl | ⟨l, o, rfl, hc⟩
 have X : news = [] := QaE (by omega)
 subst X
 intro p w q F s Y g K Q G Z k
 have f := Z.tk (r := osl E sz) (b := .slice an n c)
 have i : n ≤ c := by
  rcases f.osl with ⟨k1, _, _⟩ | ⟨_, _, _, _, k1, k2, _⟩
  grind
  grind
 have j : (Builtin.append_ #[t, t] F #[.slice an n c, .slice ay 0 u]).run P w = .ok (.slice an n c) w := by
  cases an <;> cases ay <;> simp [Builtin.append_, eV H, sizeOf, typeInfo, I, Builtin.lenOf, Builtin.firstCells, i, loadCells, loadCellsFrom, storeCells]
 unfold Oper.wp
 have a : (execOp p.eval { dst := q, op := .call { callee := .builtin .append, args := #[x, y], argTypes := #[t, t] }, type := F, pos := s, after := Y, guard := g }).run P w = .ok (.value (.slice an n c)) w := by
  simp only [execOp, resolve, invoke, builtin, Sem.run_bind, Sem.run_pure, Result.andThen_ok, QcA, QaL, Qch, G.eval O, G.eval S, j]
 rw [a]
 exact k _ w _ ⟨an, c, rfl, by rw [Qav]⟩ f
 grind [et]
end
section
variable {P : Program} {S : World → Prop} {W0 : World} {N : FSz} {e : b0} {A R : List HP} {t ty : TypeId} {b off : Nat} {x : Operand} {l : List Value}
theorem xR {E n c g o' : Nat} {k} {i : Nat} {j1} (j : P.underlying t = some (.slice E)) (l : ∀ w, (sizeOf E).run P w = .ok g w) (m : ev e x = some (.slice (some ⟨b, off, none⟩) n c))
    {lo} (o : ev e lo = some (.int k j1)) (p : j1 = i) (d : i ≤ n) (q : i < c) (r : off + i * g = o') :
    bP P S N e (.slice t x (some lo) none none) (.slice (some ⟨b, o', none⟩) (n - i) (c - i)) := fun a w _ _ _ _ _ h _ => by
 subst p; subst r
 have f : ¬ c = i := by omega
 simp [execOp, Instr.sliceAt, Instr.slice, h.eval m, h.eval o, eV j, Instr.sliceBounds, rz d, l, f, jr]
theorem sR {E n c d : Nat} {k} {i : Nat} {j1 a a'} (g : P.underlying t = some (.slice E)) (h : ∀ w, (sizeOf E).run P w = .ok d w) (j : ev e x = some (.slice a n c))
    {lo} (l : ev e lo = some (.int k j1)) (m : j1 = i) (b : i ≤ n) (o : mh a c i d = a') :
    bP P S N e (.slice t x (some lo) none none) (.slice a' (n - i) (c - i)) := fun p w _ _ _ _ _ f _ => by
 subst m; subst o
 simp [execOp, Instr.sliceAt, Instr.slice, f.eval j, f.eval l, eV g, Instr.sliceBounds, rz b, h, mh]
theorem J4 z n : (Builtin.zeroCells z n).toList.length = n * z.size := by simp [Builtin.zeroCells]
theorem Yf z n (c : z.all Value.oneCell' = true) : ∀ v ∈ (Builtin.zeroCells z n).toList, v.oneCell' = true := fun v b => by
 simp only [Builtin.zeroCells, Qcj, Qbd, Array.toList_range, QbE] at b
 obtain ⟨i, e, rfl⟩ := b
 have d : 0 < z.size := by
  grind
 have a : i % z.size < z.size := Qce _ d
 rw [getElem!_pos z (i % z.size) a]
 exact (Array.all_eq_true.1 c) _ a
theorem Ef {E n c : Nat} {z} (y : P.underlying t = some (.slice E)) (C : ∀ w, (zeroValue E).run P w = .ok z w) (D : z.cells.all Value.oneCell' = true) (F : ev e x = some (.slice (some ⟨b, off, none⟩) n c)) (J : 0 < n)
    [h : Tk pt b A (ag l ty) R] (L : off + n * z.cells.size ≤ l.length) :
    cZ P W0 N e A (.call { callee := .builtin .clear, args := #[x], argTypes := #[t] }) (fun v B => ∃ s, s.length = n * z.cells.size ∧ v = .tuple #[] ∧ B = pt b (ag (d7 l off s) ty) :: R) := by
 intro a w i j o G g K Q H I k
 have p := I.tk (r := pt) (b := b)
 obtain ⟨u, q, d⟩ := zN (P := P) (off := off) (Builtin.zeroCells z.cells n).toList 0 p (by rw [J4]; omega) (Yf _ _ D)
 rw [QbN] at d
 have f : (execOp a.eval { dst := i, op := .call { callee := .builtin .clear, args := #[x], argTypes := #[t] }, type := j, pos := o, after := G, guard := g }).run P w = .ok (.value (.tuple #[])) u := by
  obtain ⟨m, rfl⟩ : ∃ m, n = m + 1 := ⟨n - 1, by omega⟩
  simp only [execOp, resolve, invoke, builtin, Sem.run_bind, Sem.run_pure, Result.andThen_ok, QcA, QaL, Qch, H.eval F, Builtin.clear_, Qcn, QbU, QbI, eV y, C, q]
 unfold Oper.wp
 rw [f]
 exact k _ u _ ⟨_, J4 _ _, rfl, rfl⟩ d
section
variable {rd : Option Nat} {Q : Exit → Act → World → Prop} {ops : Array Oper} {rest : List Oper} {pos : String} {af : Array Edge} {d : Nat} {y : Operand}
theorem Yg {xc yc} (k : av W0 N (yc.wpR rd P Q) e A) : av W0 N ((Code.cond (.const (.bool false)) xc yc).wpR rd P Q) e A :=
  fun a w b c => wpIn_cond_false (b.eval (x := .const (.bool false)) rfl) (k a w b c)
theorem Yh {k i} {j : Nat} {s} (c : P.underlying t = some .string) (d : ev e x = some (.string s)) (f : ev e y = some (.int k i)) (g : i = j) hj :
    bP P S N e (.index t x y) (.int .u8 (s[j]'hj).toNat) := fun a w _ _ _ _ _ b _ => by
 subst g
 have h : (0 : Int) ≤ (j : Int) := by omega
 simp only [execOp, Instr.index, Sem.run_bind, b.eval d, b.eval f, asIntOf, Sem.run_pure, Result.andThen_ok, eV c, Qad h, Qae, getElem?_pos s j hj]
theorem Yi {k i} {j : Nat} {s} (a : Nat.blt d N.n = true) (b : P.underlying t = some .string) (c : ev e x = some (.string s)) (f : ev e y = some (.int k i)) (g : i = j) (h : j < s.size)
    (l : ∀ m : Nat, m < 256 → av W0 N (bZ rd P ops Q rest) ((d, .int .u8 m) :: e) A) :
    av W0 N (bZ rd P ops Q ({ dst := some d, op := .index t x y, type := ty, pos := pos, after := af, guard := none } :: rest)) e A :=
  ae a (Yh b c f g h) (l _ (UInt8.toNat_lt _))
end
end
section
variable {P : Program} {W0 : World} {N : FSz} {e : b0} {A R R1 R2 R3 R4 R5 R6 R7 : List HP} {vs us cs : List Value}
variable {K1 K2 K3 K4 K5 K6 K7 K8 X1 X2 X3 X4 X5 X6 X7 X8 : Type} {r1 : K1 → X1 → HP} {b1 : K1} {x1 : X1} {r2 : K2 → X2 → HP} {b2 : K2} {x2 : X2} {r3 : K3 → X3 → HP} {b3 : K3} {x3 : X3} {r4 : K4 → X4 → HP} {b4 : K4} {x4 : X4} {r5 : K5 → X5 → HP} {b5 : K5} {x5 : X5} {r6 : K6 → X6 → HP} {b6 : K6} {x6 : X6} {r7 : K7 → X7 → HP} {b7 : K7} {x7 : X7} {r8 : K8 → X8 → HP} {b8 : K8} {x8 : X8}
theorem J5 [a : Tk r1 b1 A x1 R1] [b : Tk r2 b2 R1 x2 R2] [c : Tk r3 b3 R2 x3 R3] [d : Tk r4 b4 R3 x4 R4] [e : Tk r5 b5 R4 x5 R5] [f : Tk r6 b6 R5 x6 R6] [g : Tk r7 b7 R6 x7 R] : A.Perm (r1 b1 x1 :: r2 b2 x2 :: r3 b3 x3 :: r4 b4 x4 :: r5 b5 x5 :: r6 b6 x6 :: r7 b7 x7 :: R) := a.perm.trans (xj.cons _)
theorem Yj [a : Tk r1 b1 A x1 R1] [b : Tk r2 b2 R1 x2 R2] [c : Tk r3 b3 R2 x3 R3] [d : Tk r4 b4 R3 x4 R4] [e : Tk r5 b5 R4 x5 R5] [f : Tk r6 b6 R5 x6 R6] [g : Tk r7 b7 R6 x7 R7] [h : Tk r8 b8 R7 x8 R] : A.Perm (r1 b1 x1 :: r2 b2 x2 :: r3 b3 x3 :: r4 b4 x4 :: r5 b5 x5 :: r6 b6 x6 :: r7 b7 x7 :: r8 b8 x8 :: R) := a.perm.trans (J5.cons _)
variable {f : FuncId} {xs : Array Operand} {ats : Array TypeId} {Post : Value → List HP → Prop}
theorem J6 (b : ∀ a w, (callFunc f a).run P w = .ok (.enter f a) w) (c : fK e xs.toList = some vs)
    (d : bE P W0 f vs (r1 b1 x1 :: r2 b2 x2 :: r3 b3 x3 :: r4 b4 x4 :: r5 b5 x5 :: r6 b6 x6 :: r7 b7 x7 :: R) Post) [g : Tk r1 b1 A x1 R1] [h : Tk r2 b2 R1 x2 R2] [i : Tk r3 b3 R2 x3 R3] [j : Tk r4 b4 R3 x4 R4] [k : Tk r5 b5 R4 x5 R5] [l : Tk r6 b6 R5 x6 R6] [m : Tk r7 b7 R6 x7 R] : cZ P W0 N e A (.call { callee := .value (.func f), args := xs, argTypes := ats }) Post :=
  kj J5 (iE b c d)
theorem xS (b : ∀ a w, (callFunc f a).run P w = .ok (.enter f a) w) (c : fK e xs.toList = some vs)
    (d : bE P W0 f vs (r1 b1 x1 :: r2 b2 x2 :: r3 b3 x3 :: r4 b4 x4 :: r5 b5 x5 :: r6 b6 x6 :: r7 b7 x7 :: r8 b8 x8 :: R) Post) [g : Tk r1 b1 A x1 R1] [h : Tk r2 b2 R1 x2 R2] [i : Tk r3 b3 R2 x3 R3] [j : Tk r4 b4 R3 x4 R4] [k : Tk r5 b5 R4 x5 R5] [l : Tk r6 b6 R5 x6 R6] [m : Tk r7 b7 R6 x7 R7] [n : Tk r8 b8 R7 x8 R] : cZ P W0 N e A (.call { callee := .value (.func f), args := xs, argTypes := ats }) Post :=
  kj Yj (iE b c d)
end
structure Prt where
  lab : Int
  gu : Int
  l : List ByteArray
instance : Inhabited Prt := ⟨⟨0, 0, []⟩⟩
section
variable {P : Program} {W0 : World} {N : FSz} {K : Act → World → Prop} {e : b0} {A B R R1 R2 R3 R4 : List HP} {p g n : Nat} {ps : List Prt} {f : FuncId} {args : List Value} {Post : Value → List HP → Prop}
theorem J7 {α : Type} : ∀ (l : List α) (i : Nat) (h : i < l.length), l.Perm (l[i] :: l.eraseIdx i)
 | x :: l, 0, h => by simp
 | x :: l, i + 1, h => by
  simp only [List.getElem_cons_succ, QcB]
  exact ((J7 l i (by simpa using h)).cons x).trans (List.Perm.swap _ _ _)
theorem J8 {α : Type} : ∀ (l : List α) (i : Nat) (x : α) (h : i < l.length), (x :: l.eraseIdx i).Perm (l.set i x)
 | y :: l, 0, x, h => by simp
 | y :: l, i + 1, x, h => by
  simp only [Qcl, QcB]
  exact (List.Perm.swap _ _ _).trans ((J8 l i x (by simpa using h)).cons y)
theorem Yk {L i} h : Ent (kH 2 (cv L) :: R) (L[i] :: kH 3 (cv (L.eraseIdx i)) :: R) := by
 refine (sk (A := L) (R := R)).trans ?_
 refine (Ent.ofPerm ((J7 L i h).append_right R)).trans ?_
 exact Ent.cons so
theorem Yl {L : List HP} {i x} (h : i < L.length) : Ent (x :: kH 3 (cv (L.eraseIdx i)) :: R) (kH 2 (cv (L.set i x)) :: R) := by
 refine (Ent.cons sk).trans ?_
 exact (Ent.ofPerm ((J8 L i x h).append_right R)).trans so
end
theorem Ax {a : List Value} {i v} (h : a[i]? = some v) : a.set i v = a := by
 have b : i < a.length := by
  rcases QaC i a.length with k | k
  exact k
  rw [Qbl k] at h; cases h
 have : a[i] = v := by simpa [b] using h
 rw [← this]; exact QbV _
@[reducible] def fw (x : Int × Bool) : List Value := [.int .i64 x.1, .bool x.2]
theorem Ay x : (fw x).length = 2 := rfl
@[reducible] def kQ (n : Nat) : List Value := [.int .i64 (n : Int)]
theorem nH n : (kQ n).length = 1 := rfl
def eu (p : Value × List Nat) : HP := osl 3 1 p.1 (p.2.flatMap kQ)
@[reducible] def fY (ps : Nat) (sv : Value) (vs : List Value) : List Value := .pointer (some ⟨ps, 0, none⟩) :: sv :: vs
theorem J9 ps w sv v vs : (fY ps sv vs).set (2 + w * 1) v = fY ps sv (vs.set w v) := by
 grind
abbrev j6 (w : Nat) : Nat → List Nat × List Value → HP := nF 202 3 1 kQ (2 + w * 1)
def cR (pb : Nat) (x : Nat × Po) : HP := chk (fun C => ∃ a c vs Ls, vs.length = 16 ∧ LsOk x.2 Ls ∧ C = [pt pb (ag (fY x.1 (.slice a x.2.length c) vs) 202), osl 204 2 (.slice a x.2.length c) (x.2.flatMap fw), kH 2 (cv ((vs.zip Ls).map eu))])
theorem Ym {F R B} (h : ∀ C, F C → Ent (C ++ R) B) : Ent (chk F :: R) B := ⟨fun l a => by
 obtain ⟨l1, l2, rfl, ⟨C, hC, hs⟩, h2⟩ := a
 exact (h C hC).out _ (jq.append.2 ⟨l1, l2, rfl, hs, h2⟩)⟩
section
variable {P : Program} {W0 : World} {N : FSz} {K : Act → World → Prop} {e : b0} {A B R R1 R2 R3 : List HP} {pb ps w n : Nat} {po : Po} {f : FuncId} {args : List Value} {Post : Value → List HP → Prop}
theorem vU [k : Tk cR pb A (ps, po) R] (h : ∀ a c d f, d.length = 16 → LsOk po f → av W0 N K e (pt pb (ag (fY ps (.slice a po.length c) d) 202) :: osl 204 2 (.slice a po.length c) (po.flatMap fw) :: kH 2 (cv ((d.zip f).map eu)) :: R)) : av W0 N K e A :=
  fT (r := cR) (b := pb) (nv fun C g => by obtain ⟨a, c, d, f, i, j, rfl⟩ := g; exact h a c d f i j)
theorem Ja (h : ∀ a c b d, b.length = 16 → LsOk po d → bE P W0 f args (pt pb (ag (fY ps (.slice a po.length c) b) 202) :: osl 204 2 (.slice a po.length c) (po.flatMap fw) :: kH 2 (cv ((b.zip d).map eu)) :: R) Post) : bE P W0 f args (cR pb (ps, po) :: R) Post :=
  qf fun C e => by obtain ⟨a, c, b, d, g, i, rfl⟩ := e; exact h a c b d g i
theorem vV {a c vs xs Ls sv} [b : Tk pt pb A (ag (fY ps sv vs) 202) R1] [d : Tk (osl 204 2) sv R1 xs R2] [e : Tk kH 2 R2 (cv ((vs.zip Ls).map eu)) R3]
    (f : sv = .slice a n c) (g : vs.length = 16) (h : LsOk po Ls) (i : n = po.length) (j : xs = po.flatMap fw) [k : Ent R3 B] : Ent A (cR pb (ps, po) :: B) := by
 subst f; subst i; subst j
 exact (Ent.ofPerm (b.perm.trans ((d.perm.trans (e.perm.cons _)).cons _))).trans ((Ent.cons (Ent.cons (Ent.cons k))).trans (fH (R := B) (C := [_, _, _]) ⟨a, c, vs, Ls, g, h, rfl⟩))
theorem Az {sv vs Ls} (G : w < 16) (p : vs.length = 16) (x : Ls.length = 16) :
    Ent (pt pb (ag (fY ps sv vs) 202) :: kH 2 (cv ((vs.zip Ls).map eu)) :: R) (j6 w pb (Ls.getD w [], fY ps sv vs) :: kH 3 (cv (((vs.zip Ls).map eu).eraseIdx w)) :: R) := by
 have q : ((vs.zip Ls).map eu).length = 16 := by simp [p, x]
 have y : ((vs.zip Ls).map eu)[w]'(by omega) = osl 3 1 (vs.getD w undef) ((Ls.getD w []).flatMap kQ) := by
  grind [eu]
 have s := Yk (L := (vs.zip Ls).map eu) (R := R) (i := w) (by omega)
 rw [y] at s
 refine (Ent.cons s).trans ?_
 generalize z : vs.getD w undef = v
 have A : vs[w]? = some v := by grind
 refine ⟨fun l B => ?_⟩
 obtain ⟨f, H, rfl, C, d, h, rfl, t, D⟩ := B
 have e : ∀ a c, v = .slice a (Ls.getD w []).length c → ∃ u r, jq (j6 w pb (Ls.getD w [], fY ps sv vs) :: kH 3 (cv (((vs.zip Ls).map eu).eraseIdx w)) :: R) u ∧ (f ++ (d ++ h)).Perm (u ++ r) := fun a c j => by
  have k : (fY ps sv vs).set (2 + w * 1) (.slice a (Ls.getD w []).length c) = fY ps sv vs := by
   grind [J9, Ax]
  refine ⟨(f ++ d) ++ h, [], ⟨f ++ d, h, rfl, ⟨_, ⟨by simp [fY, p]; omega, a, c, rfl⟩, ?_⟩, D⟩, by simp⟩
  rw [k, ← j]
  exact ⟨f, d, rfl, C, d, [], by simp, t, rfl⟩
 rcases id t with ⟨m, E, _⟩ | ⟨g, n, o, I, m, _, _, F, _, _⟩
 have b : (Ls.getD w []).length = 0 := by
  have := Qai List.length E
  rw [cJ nH] at this; simpa using this
 exact e none 0 (by rw [m, b])
 have b : (Ls.getD w []).length = n := by rw [cJ nH] at F; omega
 exact e (some ⟨g, 0, none⟩) o (by rw [m, b])
theorem AA {a c sv vs Ls l po'} (q : w < 16) (h : vs.length = 16) (i : sv = .slice a n c) (j : n = po'.length) (k : Ls.length = 16) (m : LsOk po' (Ls.set w l)) :
    Ent (j6 w pb (l, fY ps sv vs) :: osl 204 2 sv (po'.flatMap fw) :: kH 3 (cv (((vs.zip Ls).map eu).eraseIdx w)) :: R) (cR pb (ps, po') :: R) := by
 refine Ym fun C o => ?_
 obtain ⟨r, b, d, rfl⟩ := o
 have e : (fY ps sv vs).set (2 + w * 1) (.slice b l.length d) = fY ps sv (vs.set w (.slice b l.length d)) := J9 ..
 dsimp only
 rw [e]
 have f : ((vs.zip Ls).map eu).length = 16 := by simp [h, k]
 have g : ((vs.set w (.slice b l.length d)).zip (Ls.set w l)).map eu = ((vs.zip Ls).map eu).set w (eu (.slice b l.length d, l)) := by
  apply QaP
  simp
  grind
 have p : Ent (eu (.slice b l.length d, l) :: kH 3 (cv (((vs.zip Ls).map eu).eraseIdx w)) :: R) (kH 2 (cv (((vs.set w (.slice b l.length d)).zip (Ls.set w l)).map eu)) :: R) := by
  grind [Yl]
 refine (Ent.ofPerm ((List.Perm.swap _ _ _).cons _)).trans ?_
 refine (Ent.cons (Ent.cons p)).trans ?_
 exact vV (vs := vs.set w (.slice b l.length d)) i (by grind) m j rfl
end
theorem Eg po sp i j (a : i < po.length) (b : j < 2) : (po.flatMap fw ++ sp)[i * 2 + j]? = (fw (d6 po i))[j]? := by
 simp_all [mG, Ay, d6]
theorem Yn (a : Po) sp i v (b : i < a.length) : (a.flatMap fw ++ sp).set (i * 2 + 0) (iQ v) = (a.set i (v, (d6 a i).2)).flatMap fw ++ sp :=
  qd Ay a i 0 _ _ sp b (by decide) (by grind [d6])
theorem Jb (a : Po) sp i v (b : i < a.length) : (a.flatMap fw ++ sp).set (i * 2 + 1) (.bool v) = (a.set i ((d6 a i).1, v)).flatMap fw ++ sp :=
  qd Ay a i 1 _ _ sp b (by decide) (by grind [d6])
theorem qC (a : Po) : (a.flatMap fw).length = a.length * 2 := cJ Ay a
abbrev sT (pb w : Nat) : Value := .pointer (some ⟨pb, 2 + w * 1, none⟩)
theorem uu {its : List Nat} {sp i} (a : i < its.length) : (its.flatMap kQ ++ sp)[i * 1]? = some (iQ (its.getD i default)) := by
 have := mG nH its i 0 sp a (by decide)
 rw [QbN] at this
 rw [this]; simp [kQ, List.getD, a]
theorem AB {a : List Nat} {sp} {i x : Nat} (b : i < a.length) : (a.flatMap kQ ++ sp).set (i * 1) (iQ x) = (a.set i x).flatMap kQ ++ sp := by
 have := qd nH a i 0 (iQ (x : Int)) x sp b (by decide) (by simp [kQ])
 rwa [QbN] at this
theorem AC {a : List Nat} {sp i} (b : i < a.length) : i * 1 + 1 ≤ (a.flatMap kQ ++ sp).length := Y9 nH a sp i b
theorem AD pb w its cs : sQ W0 191 [sT pb w] (j6 w pb (its, cs) :: R) (iQ its.length) (j6 w pb (its, cs) :: R) := by
 refine sN fun a c b => ?_
 refine am func191 ntmps191 ?_
 refine aa (aE (aI (eL b))) ?_
 refine ac ?_
 exact ⟨_, ⟨rfl, rfl⟩, nG rfl rfl b rfl⟩
theorem Yo pb w its cs (i k : Nat) (d : i < its.length) (e : k < its.length) : sQ W0 497 [sT pb w, iQ i, iQ k] (j6 w pb (its, cs) :: R) (.bool (decide (Hp.us its i < Hp.us its k))) (j6 w pb (its, cs) :: R) := by
 refine qB nH (by grind) (by decide) fun g c l b f h j => ?_
 refine am func497 ntmps497 ?_
 refine bq [pb, g] 16 fun a => ?_
 refine aj 0 3 a ?_
 refine ax 3 a (aE (dm (k := 0) rfl (eL b))) ?_
 refine aj 4 1 a ?_
 refine ax 5 a (bJ d) ?_
 refine ax 6 a (aE (dm (k := 1) rfl (uu d))) ?_
 refine aj 7 3 a ?_
 refine ax 10 a (aE (dm (k := 0) rfl (eL b))) ?_
 refine aj 11 1 a ?_
 refine ax 12 a (bJ e) ?_
 refine ax 13 a (aE (dm (k := 1) rfl (uu e))) ?_
 refine aj 14 2 a ?_
 refine aJ ?_
 refine ac ?_
 exact ⟨_, ⟨rfl, rfl⟩, kC nH rfl rfl b rfl f h j⟩
theorem Yp pb w its cs (i k : Nat) (b : i < its.length) (e : k < its.length) : sQ W0 500 [sT pb w, iQ i, iQ k] (j6 w pb (its, cs) :: R) (.tuple #[]) (j6 w pb (Hp.swapL its i k, cs) :: R) := by
 refine qB nH (by grind) (by decide) fun g c j d l h f => ?_
 refine am func500 ntmps500 ?_
 refine bq [pb] 28 fun a => ?_
 refine aj 0 3 a ?_
 refine ax 3 a (aE (dm (k := 0) rfl (eL d))) ?_
 refine aj 4 4 a ?_
 refine ax 8 a (aE (dm (k := 0) rfl (eL d))) ?_
 refine aj 9 4 a ?_
 refine ax 13 a (aE (dm (k := 0) rfl (eL d))) ?_
 refine aj 14 1 a ?_
 refine ax 15 a (bJ e) ?_
 refine aj 17 3 a ?_
 refine ax 20 a (aE (dm (k := 0) rfl (eL d))) ?_
 refine aj 21 1 a ?_
 refine ax 22 a (bJ b) ?_
 refine fG (is := [16, 23]) (by kernel_rfl) rfl ⟨?_, ?_, trivial⟩
 refine dy (dP (aE (aI (uu e)))) ?_; clear a
 rintro _ _ ⟨rfl, rfl⟩
 refine ⟨aT, fun a => ?_⟩
 refine cg 23 (dP (aE (aI (uu b)))) fun a => ?_
 refine ax 24 a (bJ b) ?_
 refine cp 25 (dq (AC b) (AB b)) fun a => ?_
 refine ax 26 a (bJ e) ?_
 refine cp 27 (dq (AC (by grind)) (AB (by grind))) fun a => ?_
 refine aJ ?_
 refine bX (.inr rfl) .nil ?_
 exact ⟨_, ⟨rfl, rfl⟩, kC nH rfl rfl d (by simp [Hp.swapL]) (by omega) h (by rw [Qaf, cJ nH] at f ⊢; simpa [Hp.swapL] using f)⟩
 skip
 refine dy (dP (aE (aI (uu b)))) ?_; clear a
 rintro _ _ ⟨rfl, rfl⟩
 refine ⟨aT, fun a => ?_⟩
 refine cg 16 (dP (aE (aI (uu e)))) fun a => ?_
 refine ax 24 a (bJ b) ?_
 refine cp 25 (dq (AC b) (AB b)) fun a => ?_
 refine ax 26 a (bJ e) ?_
 refine cp 27 (dq (AC (by grind)) (AB (by grind))) fun a => ?_
 refine aJ ?_
 refine bX (.inr rfl) .nil ?_
 exact ⟨_, ⟨rfl, rfl⟩, kC nH rfl rfl d (by simp [Hp.swapL]) (by omega) h (by rw [Qaf, cJ nH] at f ⊢; simpa [Hp.swapL] using f)⟩
theorem Yq pb w its (x : Nat) cs : sQ W0 498 [sT pb w] (j6 w pb (its ++ [x], cs) :: R) (.iface 3 (iQ x)) (j6 w pb (its, cs) :: R) := by
 refine qB nH (by simp) (by decide) fun g c d b h e j => ?_
 have k : (its ++ [x]).length = its.length + 1 := by simp
 rw [k] at h ⊢
 have l : (its ++ [x]).getD its.length default = x := by grind
 have f : (its ++ [x]).flatMap kQ ++ d = its.flatMap kQ ++ (kQ x ++ d) := by simp
 have a := uu (its := its ++ [x]) (sp := d) (i := its.length) (by omega)
 rw [l] at a
 refine am func498 ntmps498 ?_
 refine aa (aE (aI (eL b))) ?_
 refine aa (lg rfl rfl (by rw [co (by simp only [maxLen] at e; omega)]; omega : IntKind.wrap .i64 (((its.length + 1 : Nat) : Int) - 1) = ((its.length : Nat) : Int))) ?_
 refine aa (aE (aI (eL b))) ?_
 refine aa (bJ (by omega)) ?_
 refine aa (aE (aI a)) ?_
 refine aa (aE (aI (eL b))) ?_
 refine aa (oL ek aR rfl rfl rfl (by omega)) ?_
 refine ar (dq (by rw [Qap]; exact b) set_set) ?_
 refine ac ?_
 rw [f]
 exact ⟨_, ⟨rfl, rfl⟩, kC (sp := kQ x ++ d) nH rfl rfl b rfl (by omega) e (by rw [← f]; exact j)⟩
theorem Yr pb w its (x : Nat) cs (j : its.length < 1000) : sQ W0 499 [sT pb w, .iface 3 (iQ x)] (j6 w pb (its, cs) :: R) (.tuple #[]) (j6 w pb (its ++ [x], cs) :: R) := by
 refine sN fun a c d => ?_
 have e : its.flatMap kQ ++ [Value.int .i64 (x : Int)] = (its ++ [x]).flatMap kQ := by simp
 refine lL func499 ntmps499 rfl rfl ?_
 refine bq [] 12 fun b => ?_
 refine aj 0 4 b ?_
 refine aj 5 1 b ?_
 refine ax 6 b (sx jI (fun _ h => by cases h) rfl) ?_
 refine fG (is := [4, 7]) (by kernel_rfl) rfl ⟨?_, ?_, trivial⟩
 refine dy (dP (aE (aI (eL d)))) ?_; clear b
 rintro _ _ ⟨rfl, rfl⟩
 refine ⟨aT, fun b => ?_⟩
 refine kl 7 (by kernel_rfl) rfl rfl (js ek aR m4 rfl rfl rfl rfl rfl (by decide) (by decide)) rfl ?_; clear b
 rintro _ _ ⟨f, rfl, rfl⟩
 refine ⟨aT, fun b => ?_⟩
 refine cj 8 (et (sz := 1) (by_ := 8) (info := Tryz.t3) ek (by kernel_rfl) rfl rfl rfl rfl (by decide) rfl rfl ee rfl rfl (by simp only [maxLen]; omega) (by omega)) ?_; clear b
 rintro _ _ ⟨g, i, rfl, rfl⟩
 refine ⟨aT, fun b => ?_⟩
 refine aj 9 2 b ?_
 refine cp 11 (dq (by grind) set_set) fun b => ?_
 refine i6 ?_
 refine bX (.inr rfl) .nil ?_
 exact ⟨_, ⟨rfl, rfl⟩, nG (its := its ++ [x]) e rfl d (by simp)⟩
 skip
 refine nT rfl rfl (js ek aR m4 rfl rfl rfl rfl rfl (by decide) (by decide)) rfl ?_; clear b
 rintro _ _ ⟨f, rfl, rfl⟩
 refine ⟨aT, fun b => ?_⟩
 refine cg 4 (dP (aE (aI (eL d)))) fun b => ?_
 refine cj 8 (et (sz := 1) (by_ := 8) (info := Tryz.t3) ek (by kernel_rfl) rfl rfl rfl rfl (by decide) rfl rfl ee rfl rfl (by simp only [maxLen]; omega) (by omega)) ?_; clear b
 rintro _ _ ⟨g, i, rfl, rfl⟩
 refine ⟨aT, fun b => ?_⟩
 refine aj 9 2 b ?_
 refine cp 11 (dq (by grind) set_set) fun b => ?_
 refine aJ ?_
 refine bX (.inr rfl) .nil ?_
 exact ⟨_, ⟨rfl, rfl⟩, nG (its := its ++ [x]) e rfl d (by simp)⟩
section
variable (w : World) (a : Addr)
theorem Ys : (method (Tryz.prog.types.size + Made.depth) 317 (.pointer (some a)) "Len").run Tryz.prog w = .ok (191, .pointer (some a)) w := by kernel_rfl
theorem Yt : (method (Tryz.prog.types.size + Made.depth) 317 (.pointer (some a)) "Less").run Tryz.prog w = .ok (497, .pointer (some a)) w := by kernel_rfl
theorem Yu : (method (Tryz.prog.types.size + Made.depth) 317 (.pointer (some a)) "Swap").run Tryz.prog w = .ok (500, .pointer (some a)) w := by kernel_rfl
theorem Yv : (method (Tryz.prog.types.size + Made.depth) 317 (.pointer (some a)) "Push").run Tryz.prog w = .ok (499, .pointer (some a)) w := by kernel_rfl
theorem Yw : (method (Tryz.prog.types.size + Made.depth) 317 (.pointer (some a)) "Pop").run Tryz.prog w = .ok (498, .pointer (some a)) w := by kernel_rfl
end
def Jc (W0 : World) (pb w : Nat) (cs : List Value) : HpO W0 Nat where
  T := 317
  p := sT pb w
  el := fun x => .iface 3 (.int .i64 (x : Int))
  H := fun l => j6 w pb (l, cs)
  fL := 191
  fE := 497
  fS := 500
  fU := 499
  fO := 498
  mL := fun u => Ys u _
  mE := fun u => Yt u _
  mS := fun u => Yu u _
  mU := fun u => Yv u _
  mO := fun u => Yw u _
  cL := GK
  cE := call497
  cS := call500
  cU := call499
  cO := call498
  sL := fun R l => AD pb w l cs
  sE := fun R l i j hi hj => Yo pb w l cs i j hi hj
  sS := fun R l i j hi hj => Yp pb w l cs i j hi hj
  sU := fun R l x hl => Yr pb w l x cs hl
  sO := fun R l x => Yq pb w l x cs
theorem Yx pb w its (x : Nat) cs (b : its.length < 900) (c : Hp.Heap its its.length) : sP W0 138 [.iface 317 (sT pb w), .iface 3 (iQ x)] (j6 w pb (its, cs) :: R) (fun v B => v = .tuple #[] ∧ ∃ a, B = j6 w pb (a, cs) :: R ∧ a.Perm (its ++ [x]) ∧ Hp.Heap a a.length) :=
  Hp.heapPush_spec (Jc W0 pb w cs) R its x b c
theorem Yy pb w its cs (b : its.length < 900) (c : its ≠ []) (d : Hp.Heap its its.length) : sP W0 192 [.iface 317 (sT pb w)] (j6 w pb (its, cs) :: R) (fun v B => ∃ x a, v = .iface 3 (iQ (x : Nat)) ∧ B = j6 w pb (a, cs) :: R ∧ (a ++ [x]).Perm its ∧ Hp.Heap a a.length ∧ ∀ y ∈ its, x ≤ (y : Int)) :=
  Hp.heapPop_spec (Jc W0 pb w cs) R its b c d
def eg : Value := .slice none 0 0
theorem Yz ps fr (f : Nat) (hf : f < fr.length) : sQ W0 176 [pQ ps, iQ f] (aY ps fr :: R) (iQ 0) (aY ps (fr.set f cm) :: R) := by
 have b : dN fr.length f = true := by grind [dN]
 refine am func176 ntmps176 ?_
 refine ah (ap zp (vG ps fr f)) ?_
 refine ai (fun a => ?_) fun a => ?_
 exact absurd a (by simp [b])
 refine vF (ps := ps) fun g => ?_
 refine aw ?_
 refine aa (xk Cm px zeroValue315 rfl) ?_
 refine aa (bJ hf) ?_
 refine ar (iH (by rw [Ik]; omega) (Ij (y := cm) hf rfl)) ?_
 refine ac ?_
 exact ⟨_, ⟨rfl, rfl⟩, qp rfl (by simp)⟩
theorem vW pb ps po (d : 0 < po.length) : sQ W0 96 [pQ pb] (cR pb (ps, po) :: R) (.bool false) (cR pb (ps, po) :: R) := by
 refine Ja fun a c h i f g => ?_
 refine am func96 ntmps96 ?_
 refine cy rfl rfl rfl (fun b => ?_) fun b => ?_
 cases b
 refine aw ?_
 refine ac ?_
 exact ⟨_, ⟨by simp [aN, show po ≠ [] from fun e => by subst e; simp at d], rfl⟩, vV rfl f g rfl rfl⟩
theorem Eh pb ps po f : sQ W0 97 [pQ pb, iQ f] (cR pb (ps, po) :: R) (.bool (dN po.length f)) (cR pb (ps, po) :: R) := by
 refine Ja fun a c g h d e => ?_
 refine am func97 ntmps97 ?_
 refine bO (fun b => ?_) fun b => ?_
 refine ac ?_
 refine ⟨_, ⟨?_, rfl⟩, vV rfl d e rfl rfl⟩
 refine Qai Value.bool ?_
 rw [Qag, dN, Qak]
 first
   | (rw [Qak]; constructor <;> (intro q; omega))
   | (constructor
      · intro q; first | omega | (cases q)
      intro q; omega)
 refine ac ?_
 refine ⟨_, ⟨?_, rfl⟩, vV rfl d e rfl rfl⟩
 refine Qai Value.bool ?_
 rw [Qag, dN, Qak]
 first
   | (rw [Qak]; constructor <;> (intro q; omega))
   | (constructor
      · intro q; first | omega | (cases q)
      intro q; omega)
def pL (w : Int) : Bool := decide (0 ≤ w ∧ w < 16)
theorem AE w : sQ W0 98 [iQ w] R (.bool (pL w)) R := by
 refine am func98 ntmps98 ?_
 refine bO (fun a => ?_) fun a => ?_
 refine ac ?_
 refine aG ?_
 refine Qai Value.bool ?_
 rw [Qag, pL, Qak]
 first
   | (rw [Qak]; constructor <;> (intro q; omega))
   | (constructor
      · intro q; first | omega | (cases q)
      intro q; omega)
 refine ac ?_
 refine aG ?_
 refine Qai Value.bool ?_
 rw [Qag, pL, Qak]
 first
   | (rw [Qak]; constructor <;> (intro q; omega))
   | (constructor
      · intro q; first | omega | (cases q)
      intro q; omega)
theorem YA : ∀ n, (List.replicate n ((-1), false)).flatMap fw = (List.replicate n [Value.int .i64 (-1), .bool false]).flatten
 | 0 => rfl
 | n + 1 => by rw [List.replicate_succ, QaQ, YA n, List.replicate_succ, List.flatten_cons]
theorem YB n : (List.replicate n ((-1), false)).flatMap fw ++ [[Value.int .i64 (-1), .bool false]].flatten = (List.replicate (n + 1) ((-1), false)).flatMap fw := by
 grind [QbL]
theorem Jd {R} : ∀ n, Ent R (kH 2 (cv (((List.replicate n eg).zip (List.replicate n [])).map eu)) :: R)
 | 0 => so (A := [])
 | n + 1 => by
  have a := Jd (R := R) n
  refine a.trans ?_
  refine (sk (A := ((List.replicate n eg).zip (List.replicate n ([] : List Nat))).map eu) (R := R)).trans ?_
  refine (eX (E := 3) (sz := 1) (B := ((List.replicate n eg).zip (List.replicate n ([] : List Nat))).map eu ++ R)).trans ?_
  exact so (A := eu (eg, []) :: ((List.replicate n eg).zip (List.replicate n ([] : List Nat))).map eu) (R := R)
theorem YC ps fr (l : 0 < fr.length) (d : fr.length ≤ 32) : sP W0 35 [pQ ps] (aY ps fr :: R) (fun v B => ∃ b, v = .tuple #[pQ b, iQ 0] ∧ B = cR b (ps, List.replicate fr.length (-1, false)) :: aY ps fr :: R) := by
 refine am func35 ntmps35 ?_
 refine ah (ap wM (uf ps fr)) ?_
 refine aA rfl (fun e => ?_) fun e => ?_
 omega
 refine aw ?_
 refine bz fun b => ?_
 refine ah (ap wM (uf ps fr)) ?_
 refine fM (fun X : Nat × Option Addr × Nat => X.1 ≤ fr.length) (fun X => [(4, pQ b), (12, iQ (fr.length : Nat)), (13, iQ X.1)]) (fun X => pt b (ag (fY ps (.slice X.2.1 X.1 X.2.2) (List.replicate 16 eg)) 202) :: osl 204 2 (.slice X.2.1 X.1 X.2.2) ((List.replicate X.1 ((-1 : Int), false)).flatMap fw) :: aY ps fr :: R) (fun X => fr.length - X.1) (0, none, 0) ?_ ?_ ?_ ?_
 omega
 · repeat (first | exact bK | refine bc rfl ?_)
 exact (Ent.ofPerm (List.Perm.swap _ _ _)).trans (Ent.cons (eX (E := 204) (sz := 2)))
 intro ⟨i, f, g⟩ hi
 dsimp only at hi ⊢
 refine aw ?_
 refine ai (fun h => ?_) fun h => ?_
 refine dt (iG zk C7 a8v rfl (fm rfl rfl i5) rfl (by decide) (by decide) (by decide)) fun m => ?_
 refine aD rfl (et (sz := 2) (by_ := 16) (info := Tryz.t204) zk (by kernel_rfl) rfl rfl rfl rfl (by decide) rfl rfl ee rfl rfl (by simp only [maxLen]; omega) (by omega)) ?_
 rintro _ _ ⟨j, k, rfl, rfl⟩
 refine aw ?_
 refine ar dX ?_
 refine aa bY ?_
 refine bR (i + 1, j, k) ?_ (he := ?_)
 omega
 dsimp only
 rw [← YB]
 exact IO
 refine az ?_
 obtain rfl : i = fr.length := by omega
 refine ⟨_, ⟨b, rfl, rfl⟩, ?_⟩
 exact (Ent.cons (Ent.cons (Jd (R := aY ps fr :: R) 16))).trans (vV (a := f) (c := g) rfl (by simp) (LsOk.new _) (by simp) rfl)
theorem Je pb ps po fr (f w : Nat) t (hf : f < po.length) (hff : f < fr.length) (hw : w < 16) (hP : PoOk po) (ha : d6 po f = ((w : Int), t)) a c vs Ls (hv : vs.length = 16) (hL : LsOk (po.set f (-1, false)) Ls) : sQ W0 99 [pQ pb, iQ f] (pt pb (ag (fY ps (.slice a po.length c) vs) 202) :: osl 204 2 (.slice a po.length c) (po.flatMap fw) :: kH 2 (cv ((vs.zip Ls).map eu)) :: aY ps fr :: R) (iQ 0) (cR pb (ps, po.set f (w, false)) :: aY ps (fr.set f cm) :: R) := by
 have h := hL.row w hw
 have q : PoOk (po.set f (-1, false)) := ⟨by rw [Qap]; exact hP.len, fun g D => by
  rw [Qap] at D
  rw [jV hf]
  split
  grind
  exact hP.who g D⟩
 have G := hL.rlen q hw
 have i := Y4 (po := po.set f (-1, false)) (f := f) (w := w) (by grind) (by grind [jV])
 rw [List.set_set] at i
 have m : ∀ u, u < 16 → u ≠ w → bN (po.set f ((w : Int), false)) u = bN (po.set f (-1, false)) u := fun u O H => by
  have := E8 (po := po.set f (-1, false)) (f := f) (x := ((w : Int), false)) (w := u) (by grind) (by grind [jV]) (by grind)
  rw [List.set_set] at this
  exact this
 have p : (po.set f ((d6 po f).1, false)) = po.set f ((w : Int), false) := by rw [ha]
 refine ju 6 func99 ntmps99 ?_
 refine fT (r := osl 204 2) (b := .slice a po.length c) (km (fun F s => by have := Qai List.length s; rw [qC] at this; simp at this; omega) fun g n I l F s J P Q => ?_)
 cases F
 refine aw ?_
 refine aa (bJ hf) ?_
 refine iW 3 (dq (by omega) (Jb po l f false hf)) ?_
 rw [p]
 refine eD (B := pt g (ag ((po.set f ((w : Int), false)).flatMap fw ++ l) 204) :: j6 w pb (Ls.getD w [], fY ps (.slice (some ⟨g, 0, none⟩) po.length c) vs) :: kH 3 (cv (((vs.zip Ls).map eu).eraseIdx w)) :: aY ps fr :: R) ?_ ?_
 refine Ent.cons ?_
 exact Az hw hv hL.len
 have v : ((po.set f ((w : Int), false)).flatMap fw ++ l)[f * 2 + 0]? = some (iQ ((w : Nat) : Int)) := by
  rw [Eg _ _ _ _ (by grind) (by decide), jV hf, Qad rfl]; rfl
 have y : ((po.set f ((w : Int), false)).flatMap fw ++ l).length = c * 2 := by
  grind [Qaf, qC]
 refine fj [(pb, 1, [.slice (some ⟨g, 0, none⟩) po.length c]), (g, 0, _)] 16 mixed rfl (bU (Eb (T := 202) (E := 3) (sz := 1) (f := kQ) (o := 2 + w * 1) (by omega) rfl) (bQ bH)) (fun d => ?_)
 refine aj 0 4 d ?_
 refine ax 4 d (aE (kJ (k := 0) (j := 0) rfl rfl)) ?_
 refine aj 5 1 d ?_
 refine ax 6 d (bJ hf) ?_
 refine aj 7 1 d ?_
 refine ax 8 d (aE (dm (k := 1) rfl v)) ?_
 refine aj 9 2 d ?_
 refine ax 11 d (ew hw) ?_
 refine aj 12 3 d ?_
 refine cj 15 (ap GL (Yx pb w (Ls.getD w []) f (fY ps (.slice (some ⟨g, 0, none⟩) po.length c) vs) (by omega) h.2)) ?_; clear d
 rintro _ _ ⟨rfl, S, rfl, K, L⟩
 refine ⟨(bU (Eb (T := 202) (E := 3) (sz := 1) (f := kQ) (o := 2 + w * 1) (by omega) rfl) (bQ bH)), fun d => ?_⟩
 refine i6 ?_
 refine au 2 ?_
 refine eD (B := cR pb (ps, po.set f ((w : Int), false)) :: aY ps fr :: R) ?_ ?_
 have e := fk (E := 204) (sz := 2) (g := g) (n := po.length) (cap := c) (xs := (po.set f ((w : Int), false)).flatMap fw) (sp := l) (A := pt g (ag ((po.set f ((w : Int), false)).flatMap fw ++ l) 204) :: kH 3 (cv (((vs.zip Ls).map eu).eraseIdx w)) :: aY ps fr :: R) (B := kH 3 (cv (((vs.zip Ls).map eu).eraseIdx w)) :: aY ps fr :: R) s J (by grind) y
 refine (Ent.cons e).trans ?_
 exact AA hw hv rfl (by simp) hL.len (hL.set hw (K.trans ((h.1.append_right [f]).trans i)) L m)
 refine vU (pb := pb) fun U V M N z C => ?_
 refine aw ?_
 refine ah (ap call176 (Yz ps fr f hff)) ?_
 refine ac ?_
 exact ⟨_, ⟨rfl, rfl⟩, vV rfl z C (by simp) rfl⟩
theorem YD pb ps po fr (f w : Nat) (hf : f < po.length) (hff : f < fr.length) (hw : w < 16) (hP : PoOk po) (ha : d6 po f = (-1, false)) : sQ W0 38 [.pointer (some ⟨pb, 0, none⟩), .int .i64 f, .int .i64 w] (cR pb (ps, po) :: aY ps fr :: R) (.int .i64 0) (cR pb (ps, po.set f (w, false)) :: aY ps (fr.set f cm) :: R) := by
 have hi : dN po.length f = true := by grind [dN]
 have hw' : pL w = true := by grind [pL]
 have h0 : po.set f (-1, false) = po := by
  grind [d6, List.getD, QbV]
 refine ju 10 func38 ntmps38 ?_
 refine dV 3 (gU zu rfl (vW pb ps po (by omega))) ?_
 refine aA rfl (fun c1 => ?_) fun c1 => ?_
 exact absurd c1 (by decide)
 refine au 5 ?_
 refine dV 4 (gU Oc rfl (Eh pb ps po f)) ?_
 refine aA rfl (fun c3 => ?_) fun c3 => ?_
 exact absurd c3 (by simp [hi])
 refine au 2 ?_
 refine dV 4 (iE GM rfl (AE w)) ?_
 refine aA rfl (fun c4 => ?_) fun c4 => ?_
 exact absurd c4 (by simp [hw'])
 refine aO ?_
 refine vU (pb := pb) fun a c vs Ls hv hL => ?_
 refine fT (r := osl 204 2) (b := .slice a po.length c) (km (fun h1 h2 => by have := Qai List.length h2; rw [qC] at this; simp at this; omega) fun g n cap sp h1 h2 h3 h4 h5 => ?_)
 cases h1
 refine au 6 ?_
 refine ae rfl (jM zk C7 rfl rfl rfl hf (by first | exact Qac _ | rfl)) ?_
 refine ae rfl (D8 Gq aR) ?_
 refine jP 4 (cu di rfl (aI ((Eg po sp f 0 hf (by decide)).trans (by rw [ha]; rfl)))) ?_
 refine aA rfl (fun c6 => ?_) fun c6 => ?_
 exact absurd c6 (by decide)
 refine au 11 ?_
 refine ae rfl (jM zk C7 rfl rfl rfl hf (by first | exact Qac _ | rfl)) ?_
 refine ae rfl (D8 Gq aR) ?_
 refine iW 3 (m6 aR rfl rfl rfl (by omega) (Yn po sp f (w : Int) hf)) ?_
 rw [ha]
 refine eD (B := pt pb (ag (fY ps (.slice (some ⟨g, 0, none⟩) (po.set f ((w : Int), false)).length c) vs) 202) :: osl 204 2 (.slice (some ⟨g, 0, none⟩) (po.set f ((w : Int), false)).length c) ((po.set f ((w : Int), false)).flatMap fw) :: kH 2 (cv ((vs.zip Ls).map eu)) :: aY ps fr :: R) ?_ ?_
 rw [Qap]
 have e := fk (E := 204) (sz := 2) (g := g) (n := po.length) (cap := c) (xs := (po.set f ((w : Int), false)).flatMap fw) (sp := sp) (A := pt g (ag ((po.set f ((w : Int), false)).flatMap fw ++ sp) 204) :: kH 2 (cv ((vs.zip Ls).map eu)) :: aY ps fr :: R) (B := kH 2 (cv ((vs.zip Ls).map eu)) :: aY ps fr :: R) h2 h3 (by grind [qC]) (by grind [Qaf, qC])
 exact (inferInstance : Ent _ (pt pb (ag (fY ps (.slice (some ⟨g, 0, none⟩) po.length c) vs) 202) :: pt g (ag ((po.set f ((w : Int), false)).flatMap fw ++ sp) 204) :: kH 2 (cv ((vs.zip Ls).map eu)) :: aY ps fr :: R)).trans (Ent.cons e)
 refine au 3 ?_
 refine dV 4 (lM call99 rfl (Je pb ps (po.set f ((w : Int), false)) fr f w false (by grind) hff hw (hP.set hf (by simp) (by simp; omega)) (by grind [jV]) (some ⟨g, 0, none⟩) c vs Ls hv (by simp_all))) ?_
 refine ac ?_
 rw [List.set_set]
 exact ⟨_, ⟨rfl, rfl⟩, IO⟩
theorem YE pb ps po (w : Nat) (l : 0 < po.length) (e : w < 16) : sQ W0 243 [pQ pb, iQ w] (cR pb (ps, po) :: R) (iQ ((bN po w).length)) (cR pb (ps, po) :: R) := by
 have h : pL w = true := by grind [pL]
 refine am func243 ntmps243 ?_
 refine dV 1 (ap zu (vW pb ps po l)) ?_
 refine cy rfl rfl rfl (fun b => ?_) fun b => ?_
 exact absurd b (by decide)
 refine aw ?_
 refine ah (aC GM (AE w)) ?_
 refine aA rfl (fun j => ?_) fun j => ?_
 exact absurd j (by simp [h])
 refine au 3 ?_
 refine vU (pb := pb) fun a c i d k f => ?_
 have g := f.row w e
 refine eD (B := j6 w pb (d.getD w [], fY ps (.slice a po.length c) i) :: kH 3 (cv (((i.zip d).map eu).eraseIdx w)) :: osl 204 2 (.slice a po.length c) (po.flatMap fw) :: R) ?_ ?_
 exact (Ent.cons (Ent.ofPerm (List.Perm.swap _ _ _))).trans (Az e k f.len)
 refine aw ?_
 refine aa (ew e) ?_
 refine ah (ap GK (AD pb w (d.getD w []) (fY ps (.slice a po.length c) i))) ?_
 refine ac ?_
 rw [g.1.length_eq]
 have m : d.set w (d.getD w []) = d := by
  rw [show d.getD w [] = d[w]'(by rw [f.len]; exact e) by simp [List.getD, f.len, e]]; exact QbV _
 refine ⟨_, ⟨rfl, rfl⟩, ?_⟩
 exact (Ent.cons (Ent.ofPerm (List.Perm.swap _ _ _))).trans (AA e k rfl rfl f.len (by grind))
theorem Jf pb ps po w f l (hw : w < 16) (hP : PoOk po) (he : bN po w = f :: l) : sQ W0 117 [pQ pb, iQ w] (cR pb (ps, po) :: R) (.tuple #[iQ f, iQ 0]) (cR pb (ps, po.set f (w, true)) :: R) := by
 have hw' : pL w = true := by grind [pL]
 have hf := kB.1 (show f ∈ bN po w by rw [he]; simp)
 refine am func117 ntmps117 ?_
 refine ah (ap zu (vW pb ps po (by omega))) ?_
 refine ah (aC GM (AE w)) ?_
 refine aA rfl (fun c3 => ?_) fun c3 => ?_
 exact absurd c3 (by simp [hw'])
 refine au 1 ?_
 refine vU (pb := pb) fun a c vs Ls hv hL => ?_
 have hrow := hL.row w hw
 have hrl := hL.rlen hP hw
 refine eD (B := j6 w pb (Ls.getD w [], fY ps (.slice a po.length c) vs) :: kH 3 (cv (((vs.zip Ls).map eu).eraseIdx w)) :: osl 204 2 (.slice a po.length c) (po.flatMap fw) :: R) ?_ ?_
 exact (Ent.cons (Ent.ofPerm (List.Perm.swap _ _ _))).trans (Az hw hv hL.len)
 refine aw ?_
 refine aa (ew hw) ?_
 refine ah (ap GK (AD pb w (Ls.getD w []) (fY ps (.slice a po.length c) vs))) ?_
 refine ai (fun c5 => ?_) fun c5 => ?_
 exact absurd c5 (by simp_all)
 refine aa (ew hw) ?_
 refine aD rfl (ap GN (Yy pb w (Ls.getD w []) (fY ps (.slice a po.length c) vs) (by omega) (fun e => by rw [e] at hrow; have := hrow.1.length_eq; rw [he] at this; simp at this) hrow.2)) ?_
 rintro _ _ ⟨x, l', rfl, rfl, hp, hh, hm⟩
 have hpp := hp.trans hrow.1
 have hmm : ∀ y ∈ bN po w, x ≤ y := fun y hy => by have := hm y (hrow.1.mem_iff.2 hy); omega
 have hx := E9 hpp hmm
 have hr := Y5 hpp hmm
 rw [he] at hx
 obtain ⟨rfl, _⟩ := List.cons.inj hx
 have hk : LsOk (po.set f ((w : Int), true)) (Ls.set w l') := hL.set hw hr hh fun u hu hne => E8 hf.1 (by grind) (by grind)
 refine jP 4 (sx jI (fun _ h => by cases h) rfl) ?_
 refine fT (r := osl 204 2) (b := .slice a po.length c) (km (fun h1 h2 => by have := Qai List.length h2; rw [qC] at this; simp at this; omega) fun g n cap sp h1 h2 h3 h4 h5 => ?_)
 cases h1
 refine aw ?_
 refine aa (aE (xN (T := 202) (E := 3) (sz := 1) (f := kQ) (o := 2 + w * 1) (by omega) rfl)) ?_
 refine aa (bJ hf.1) ?_
 refine ar (dq (by omega) (Jb po sp f true hf.1)) ?_
 refine az ?_
 rw [hf.2]
 refine ⟨_, ⟨rfl, rfl⟩, ?_⟩
 have e := fk (E := 204) (sz := 2) (g := g) (n := po.length) (cap := c) (xs := (po.set f ((w : Int), true)).flatMap fw) (sp := sp) (A := pt g (ag ((po.set f ((w : Int), true)).flatMap fw ++ sp) 204) :: kH 3 (cv (((vs.zip Ls).map eu).eraseIdx w)) :: R) (B := kH 3 (cv (((vs.zip Ls).map eu).eraseIdx w)) :: R) h2 h3 (by grind [qC]) (by grind [Qaf, qC])
 exact (inferInstance : Ent _ (j6 w pb (l', fY ps (.slice (some ⟨g, 0, none⟩) po.length c) vs) :: pt g (ag ((po.set f ((w : Int), true)).flatMap fw ++ sp) 204) :: kH 3 (cv (((vs.zip Ls).map eu).eraseIdx w)) :: R)).trans ((Ent.cons e).trans (AA hw hv rfl (by simp) hL.len hk))
def wV (w : Nat) : Value := .int .u32 (w : Int)
theorem Ei : ∀ a, a.flatMap (fun x => [bV x]) = bS a
 | [] => rfl
 | b :: l => by rw [QaQ, Ei l]; rfl
structure Dsc where
  addr : Nat
  len : Nat
  flags : Nat
  next : Nat
structure Rg3 where
  desc : Nat
  avail : Nat
  used : Nat
  n : Int
def ig (x : Int × Int × Int) : List Value := [.int .i64 x.1, .int .i64 x.2.1, .int .i64 x.2.2]
structure WF (W0 : World) (fn : FuncId) (cs : List Value) (n : Nat) (C : Nat → HP) (w : Nat → Bool) : Prop where
  call : ∀ args u, (callFunc fn args).run Tryz.prog u = .ok (.enter fn args) u
  spec : ∀ i, i < n → ∀ R, bE Tryz.prog W0 fn ([] ++ [.int .i64 (i : Int)] ++ cs) (kH 0 (C i) :: R) (fun v B => v = .bool (w i) ∧ B = kH 0 (C (i + 1)) :: R)
def mV (w : Nat → Bool) (n : Nat) : Bool := (List.range n).any w
theorem vX {w n i} (a : i < n) (h : w i = true) : mV w n = true := Qbo.2 ⟨i, QbE.2 a, h⟩
theorem xT {w n} (h : ∀ i, i < n → w i = false) : mV w n = false := by
 rw [← Qau]; intro q
 obtain ⟨i, b, a⟩ := Qbo.1 q
 rw [h i (QbE.1 b)] at a; cases a
def qD (w : Nat → Bool) (n : Nat) : Option Nat := (List.range n).find? w
theorem YF w n : (qD w n).isSome = mV w n := by
 rw [Qag, qD, List.find?_isSome, mV, Qbo]
theorem Jg {w n i} (a : i < n) (h : w i = true) (b : ∀ j, j < i → w j = false) : qD w n = some i := by
 rw [qD, List.find?_eq_some_iff_getElem]
 exact ⟨h, i, by simpa using a, by simp, fun j c => by simp [b j c]⟩
theorem Jh {w n} (h : ∀ i, i < n → w i = false) : qD w n = none := by
 grind [qD]
theorem YG fn cs n C w (b : WF W0 fn cs n C w) (f : n ≤ 1000) : sQ W0 256 [iQ n, .func (.func fn) #[] cs.toArray] (kH 0 (C 0) :: R) (.tuple #[iQ (((qD w n).getD 0 : Nat) : Int), .bool (qD w n).isSome]) R := by
 refine am func256 ntmps256 ?_
 refine d4 (fun i : Nat => i ≤ n ∧ ∀ j, j < i → w j = false) (fun i => [(1, .func (.func fn) #[] cs.toArray), (7, iQ (n : Int)), (8, iQ (i : Int))]) (fun i => kH 0 (C i) :: R) (fun i => n - i) 0 ?_ ?_
 grind
 intro i ⟨g, c⟩
 refine aw ?_
 refine ai (fun e => ?_) fun e => ?_
 have a : i < n := by omega
 refine ah (u6 (us := []) (cs := cs) rfl b.call rfl (b.spec i a _)) ?_
 refine ai (fun d => ?_) fun d => ?_
 refine az ?_
 rw [Jg a d c]
 exact ao
 refine aa bY ?_
 refine bR (i + 1) ?_
 grind
 refine az ?_
 obtain rfl : i = n := by omega
 rw [Jh c]
 exact ao
theorem Ji fn cs n C w (a : WF W0 fn cs n C w) (b : n ≤ 1000) : sP W0 256 [iQ n, .func (.func fn) #[] cs.toArray] (kH 0 (C 0) :: R) (fun v B => ∃ r, v = .tuple #[iQ r, .bool (mV w n)] ∧ B = R) :=
  ge (YG fn cs n C w a b) fun v B c => by
 obtain ⟨rfl, rfl⟩ := c
 rw [YF]
 exact ⟨_, ⟨_, rfl, rfl⟩, ent_refl⟩
end
end Go.Proofs.YtbhimdcapbflkaaGreatDoor
