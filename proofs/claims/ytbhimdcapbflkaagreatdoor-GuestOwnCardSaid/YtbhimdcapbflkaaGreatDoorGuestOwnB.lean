/-
  Part 2 of the proof of GuestOwn: rules, and walks of functions. Conditions: none.
-/
import Derived.Test.YtbhimdcapbflkaaGreatDoorGuestOwnA
namespace Go.Proofs.YtbhimdcapbflkaaGreatDoor
open Go.Proofs.Tryz
set_option linter.unusedSimpArgs false
set_option linter.unusedVariables false
set_option maxRecDepth 20000
set_option linter.defProp false
set_option synthInstance.maxSize 8192
set_option synthInstance.maxHeartbeats 2000000
variable {W0 : World} {R : List HP}
section
open Go.RowKit
abbrev aD := List Nat
def nq (x : aD) : List Value := (List.range 64).map (fun i => bV (x.getD i 0))
theorem Dj x : (nq x).length = 64 := by simp [nq]
theorem I0 {x} (h : x.length = 64) : nq x = bZ x := by
 apply QaP
 simp [nq, bZ, h]
 grind [bZ, nq]
def cz (fr : List aD) : Prop := ∀ x ∈ fr, x.length = 64 ∧ By x
theorem cz.get {fr} (h : cz fr) {f} (a : f < fr.length) : (fr.getD f []).length = 64 ∧ By (fr.getD f []) := by
 have : fr.getD f [] = fr[f] := by grind
 rw [this]; exact h _ (QaF a)
theorem cz.set {fr} (h : cz fr) {f} {y : aD} (a : y.length = 64 ∧ By y) : cz (fr.set f y) := fun x b => by
 rcases Qcn b with c | rfl
 exact h x c
 exact a
theorem Dl {fr} (h : cz fr) {f} (a : f < fr.length) : ((fr.flatMap nq).drop (f * 64)).take 64 = bZ (fr.getD f []) := by
 have := rE Dj fr f [] a
 rw [Qav] at this
 rw [this, I0 (h _ (QaF a)).1]; simp [List.getD, a]
theorem I1 {a : List aD} {f} {y : aD} (b : f < a.length) (c : y.length = 64) : d7 (a.flatMap nq) (f * 64) (bZ y) = (a.set f y).flatMap nq := by
 have := vy Dj a f y [] b
 rw [Qav, Qav, I0 c] at this
 exact this
theorem I2 (a : List aD) : (a.flatMap nq).length = a.length * 64 := cF Dj a
def cC : aD := List.replicate 64 0
theorem I3 : cC.length = 64 ∧ By cC := ⟨by simp [cC], fun b a => by have := List.eq_of_mem_replicate a; omega⟩
theorem cz.new n : cz (List.replicate n cC) := fun x a => by rw [List.eq_of_mem_replicate a]; exact I3
theorem I4 : ∀ n, (List.replicate n cC).flatMap nq = List.replicate (n * 64) (bV 0)
 | 0 => rfl
 | n + 1 => by
  rw [List.replicate_succ, Qbc, I4 n, Qcf, Nat.add_comm, ← List.replicate_append_replicate]
  congr 1
def bD (ps : Nat) (fr : List aD) : HP := chk (fun C => ∃ g, C = [pt ps (ag [.slice (some ⟨g, 0, none⟩) fr.length fr.length, .bool true] 193), pt g (ag (fr.flatMap nq) 315)])
section
variable {P : Program} {W0 : World} {N : FSz} {K : Act → World → Prop} {e : bi} {A B R R1 R2 : List HP} {ps g n : Nat} {fr : List aD} {f : FuncId} {args : List Value} {Post : Value → List HP → Prop} {l : List Value}
theorem Wu (h : ∀ g, bF P W0 f args (pt ps (ag [.slice (some ⟨g, 0, none⟩) fr.length fr.length, .bool true] 193) :: pt g (ag (fr.flatMap nq) 315) :: R) Post) : bF P W0 f args (bD ps fr :: R) Post :=
  qk fun C a => by obtain ⟨g, rfl⟩ := a; exact h g
theorem qw [a : Tk pt ps A (ag [.slice (some ⟨g, 0, none⟩) n n, .bool true] 193) R1] [b : Tk pt g R1 (ag l 315) R2] (c : l = fr.flatMap nq) (d : n = fr.length) [k : Ent R2 B] : Ent A (bD ps fr :: B) := by
 subst c; subst d
 exact (Ent.ofPerm (a.perm.trans (b.perm.cons _))).trans ((Ent.cons (Ent.cons k)).trans (fK (R := B) (C := [_, _]) ⟨g, rfl⟩))
theorem vL [c : Tk bD ps A fr R] (h : ∀ g, av W0 N K e (pt ps (ag [.slice (some ⟨g, 0, none⟩) fr.length fr.length, .bool true] 193) :: pt g (ag (fr.flatMap nq) 315) :: R)) : av W0 N K e A :=
  fV (r := bD) (b := ps) (ni fun C a => by obtain ⟨g, rfl⟩ := a; exact h g)
end
theorem Wv {g off c n l at_ w} (b : l.length = n) (d : bE (aQ W0 R) g off (bZ l)) (e : By l) (f : n ≤ c) (a : c < 9223372036854775808) : sQ W0 173 [.slice (some ⟨g, off, none⟩) n c, iQ at_, iQ w] R (.tuple #[.int .u32 (mw l at_ w), iQ (pJ l at_ w)]) R := by
 grind [HW]
theorem Ww {g off c n l} {i k w : Nat} (d : l.length = n) (e : w < 4294967296) (f : bE (aQ W0 R) g off (bZ l)) (h : eL n i k = true) (j : n ≤ 1000000) : sP W0 199 [.slice (some ⟨g, off, none⟩) n c, iQ i, iQ k, .int .u32 w] R (fun v B => ∃ a b, v = Aa a n b ∧ B = osl 5 1 (.slice a n b) (bZ (mu l i k w)) :: R) := by
 grind [Wq]
theorem Wx {g off c n l at_ k} {w : Nat} (a : l.length = n) (b : bE (aQ W0 R) g off (bZ l)) (d : eL n at_ k = false) (e : n ≤ 1000000) : sQ W0 199 [.slice (some ⟨g, off, none⟩) n c, iQ at_, iQ k, .int .u32 w] R Di R := by
 grind [Wr]
theorem Wy (n : Nat) (h : n ≤ 32) : sP W0 33 [iQ n] R (fun v B => ∃ b, v = .tuple #[pQ b, iQ 0] ∧ B = bD b (List.replicate n cC) :: R) := by
 refine am func33 ntmps33 ?_
 refine dk rfl rfl rfl (fun a => ?_) fun a => ?_
 omega
 refine aw ?_
 refine aC rfl (fun c => ?_) fun c => ?_
 omega
 refine aw ?_
 refine dw (vC (sz := 64) (by_ := 64) (info := Tryz.t315) a7A (by kernel_rfl) rfl rfl rfl rfl (by decide) rfl rfl rfl rfl (by omega) (by decide)) fun e => ?_
 refine bB fun d => ?_
 refine ax ?_
 exact ⟨_, ⟨d, rfl, rfl⟩, qw (I4 n).symm (by simp)⟩
theorem I5 ps fr : sQ W0 175 [pQ ps] (bD ps fr :: R) (.bool false) (bD ps fr :: R) := by
 refine Wu fun g => ?_
 refine am func175 ntmps175 ?_
 refine dk rfl rfl rfl (fun a => ?_) fun a => ?_
 cases a
 refine aw ?_
 refine ac ?_
 exact ⟨_, ⟨by simp [aK], rfl⟩, qw rfl rfl⟩
theorem uk ps fr : sQ W0 95 [pQ ps] (bD ps fr :: R) (iQ fr.length) (bD ps fr :: R) := by
 refine am func95 ntmps95 ?_
 refine ah (ap call175 (I5 ps fr)) ?_
 refine vL (ps := ps) fun g => ?_
 refine aw ?_
 refine ac ?_
 exact ⟨_, ⟨rfl, rfl⟩, qw rfl rfl⟩
def eu (n : Nat) (f : Int) : Bool := decide (0 ≤ f ∧ f < n)
theorem vM ps fr f : sQ W0 172 [pQ ps, iQ f] (bD ps fr :: R) (iQ (if eu fr.length f then 0 else 1)) (bD ps fr :: R) := by
 refine am func172 ntmps172 ?_
 refine ah (ap call175 (I5 ps fr)) ?_
 refine ai (fun c3 => ?_) fun c3 => ?_
 refine ac ?_
 have hf : eu fr.length f = false := by grind [eu]
 first
   | exact ⟨_, ⟨by simp [aK, hf], rfl⟩, qw rfl rfl⟩
   | exact ⟨_, ⟨by simp [aK, hf], rfl⟩, IO⟩
 refine vL (ps := ps) fun g => ?_
 refine aw ?_
 refine ai (fun c4 => ?_) fun c4 => ?_
 refine ac ?_
 have hf : eu fr.length f = false := by grind [eu]
 first
   | exact ⟨_, ⟨by simp [aK, hf], rfl⟩, qw rfl rfl⟩
   | exact ⟨_, ⟨by simp [aK, hf], rfl⟩, IO⟩
 refine ac ?_
 have hf : eu fr.length f = true := by grind [eu]
 exact ⟨_, ⟨by simp [aK, hf], rfl⟩, qw rfl rfl⟩
def kx (fr : List aD) (f off w : Int) : Nat := if eu fr.length f then mw (fr.getD f.toNat []) off w else 0
def vN (fr : List aD) (f off w : Int) : Int := if eu fr.length f then pJ (fr.getD f.toNat []) off w else 1
theorem qx {n f} (h : eu n f = true) : ∃ i : Nat, f = i ∧ i < n := by
 simp only [eu, Qak] at h
 exact ⟨f.toNat, by omega, by omega⟩
theorem I6 ps fr f off w (e : cz fr) : sQ W0 91 [pQ ps, iQ f, iQ off, iQ w] (bD ps fr :: R) (.tuple #[.int .u32 (kx fr f off w), iQ (vN fr f off w)]) (bD ps fr :: R) := by
 by_cases c : eu fr.length f = true
 obtain ⟨i, rfl, d⟩ := qx c
 obtain ⟨h, j⟩ := e.get d
 refine am func91 ntmps91 ?_
 refine ah (ap zq (vM ps fr i)) ?_
 refine ai (fun a => ?_) fun a => ?_
 exact absurd a (by simp [c])
 refine vL (ps := ps) fun g => ?_
 refine aw ?_
 refine aa (bM d) ?_
 refine aa (A4 Ck pz rfl) ?_
 refine ah (aB call173 (Wv h (cQ (Dl e d) (by rw [gE, h])) j (by decide) (by decide))) ?_
 refine ax ?_
 exact ⟨_, ⟨by simp [aK, kx, vN, c], rfl⟩, qw rfl rfl⟩
 have b : eu fr.length f = false := by grind
 refine am func91 ntmps91 ?_
 refine ah (ap zq (vM ps fr f)) ?_
 refine ai (fun a => ?_) fun a => ?_
 refine ax ?_
 exact ⟨_, ⟨by simp [aK, kx, vN, b], rfl⟩, IO⟩
 exact absurd a (by simp [b])
def lk (fr : List aD) (f off w : Int) : Bool := eu fr.length f && eL 64 off w
def fM (fr : List aD) (f off w : Int) (v : Nat) : List aD := if lk fr f off w then fr.set f.toNat (mu (fr.getD f.toNat []) off.toNat w.toNat v) else fr
theorem Ab {fr f off w v} (h : cz fr) : cz (fM fr f off w v) := by
 unfold fM; split
 rename_i a
 simp only [lk, Qan] at a
 obtain ⟨i, rfl, b⟩ := qx a.1
 obtain ⟨o, k, rfl, rfl, g, c⟩ := rJ a.2
 obtain ⟨d, e⟩ := h.get b
 exact h.set ⟨by rw [uj (by grind)]; exact d, VX e⟩
 exact h
theorem xt {fr f off w v} : (fM fr f off w v).length = fr.length := by unfold fM; split <;> simp
theorem Dm ps fr f off w (x : Nat) (u : x < 4294967296) (r : cz fr) : sQ W0 134 [pQ ps, iQ f, iQ off, iQ w, .int .u32 x] (bD ps fr :: R) (iQ (if lk fr f off w then 0 else 1)) (bD ps (fM fr f off w x) :: R) := by
 by_cases s : eu fr.length f = true
 obtain ⟨i, rfl, d⟩ := qx s
 obtain ⟨q, B⟩ := r.get d
 by_cases l : eL 64 off w = true
 obtain ⟨o, k, rfl, rfl, C, v⟩ := rJ l
 have a : lk fr i o k = true := by grind [lk]
 have t : (mu (fr.getD i []) o k x).length = 64 := by grind [uj]
 refine am NH ntmps134 ?_
 refine ah (ap zq (vM ps fr i)) ?_
 refine ai (fun b => ?_) fun b => ?_
 exact absurd b (by simp [s])
 refine vL (ps := ps) fun g => ?_
 refine aw ?_
 refine aa (bM d) ?_
 refine aa (A4 Ck pz rfl) ?_
 refine aF rfl (aB call199 (Ww q u (cQ (Dl r d) (by rw [gE, q])) l (by decide))) ?_
 rintro _ y ⟨D, E, rfl, e⟩
 obtain rfl := e.symm
 refine ae rfl (aM rfl) (ae rfl (lE rfl rfl) (ae rfl (lE rfl rfl) (ae rfl (bC rfl) (ae rfl (bC rfl) (aL (aH (aO (aO (aY (ae rfl (aM rfl) (ae rfl (oJ rfl rfl) (aL (aH ?_)))))))))))))
 refine aC rfl (fun p => ?_) fun p => ?_
 exact absurd p (by simp)
 refine au 3 ?_
 refine ku (fun h _ => by have := (Value.slice.inj h).2.1; omega) fun F G z H A I J K L => ?_
 cases A
 refine aw ?_
 refine aa (bM d) ?_
 refine aa (A4 Ck pz rfl) ?_
 refine ah (vD nf pz rfl rfl (m := 64) (vs := bZ (mu (fr.getD i []) o k x)) rfl (cQ (n := 64) (by grind) (by omega)) (by omega) (Dc _) (by rw [I2]; omega) (I1 d t)) ?_
 refine ac ?_
 exact ⟨_, ⟨by simp [aK, a], rfl⟩, qw (by simp [fM, a]) (by simp [fM, a])⟩
 have c : eL 64 off w = false := by grind
 have a : lk fr i off w = false := by simp [lk, c]
 refine am NH ntmps134 ?_
 refine ah (ap zq (vM ps fr i)) ?_
 refine ai (fun b => ?_) fun b => ?_
 exact absurd b (by simp [s])
 refine vL (ps := ps) fun g => ?_
 refine aw ?_
 refine aa (bM d) ?_
 refine aa (A4 Ck pz rfl) ?_
 refine aF rfl (iz call199 rfl (Wx q (cQ (Dl r d) (by rw [gE, q])) c (by decide))) ?_
 rintro _ y ⟨rfl, e⟩
 obtain rfl := e.symm
 refine ae rfl (aM rfl) (ae rfl (lE rfl rfl) (ae rfl (lE rfl rfl) (ae rfl (bC rfl) (ae rfl (bC rfl) (aL (aH (aO (aO (aY (ae rfl (aM rfl) (ae rfl (oJ rfl rfl) (aL (aH ?_)))))))))))))
 refine aC rfl (fun p => ?_) fun p => ?_
 refine au 8 ?_
 refine ac ?_
 exact ⟨_, ⟨by simp [aK, a], rfl⟩, qw (by simp [fM, a]) (by simp [fM, a])⟩
 exact absurd p (by simp)
 have j : eu fr.length f = false := by grind
 have a : lk fr f off w = false := by simp [lk, j]
 refine am NH ntmps134 ?_
 refine ah (ap zq (vM ps fr f)) ?_
 refine ai (fun b => ?_) fun b => ?_
 refine ac ?_
 rw [show fM fr f off w x = fr by simp [fM, a]]
 exact ⟨_, ⟨by simp [aK, j, a], rfl⟩, IO⟩
 exact absurd b (by simp [j])
abbrev Pl := Int × Int
@[reducible] def eM (p : Pl) : List Value := [.int .i64 p.1, .int .i64 p.2]
theorem ul p : (eM p).length = 2 := rfl
def ew (pg : List Pl) (n : Nat) : Pl := pg.getD n (0, 0)
def ll (p : Pl) : Bool := decide (0 ≤ p.1 ∧ p.1 < 32 ∧ 1 ≤ p.2 ∧ p.2 ≤ 3)
structure Pgs (pg : List Pl) : Prop where
  len : pg.length = 12
  ok : ∀ n, n < 12 → ew pg n ≠ (0, 0) → ll (ew pg n) = true
def jo (n : Int) : Bool := decide (0 ≤ n ∧ n < 12)
theorem kz {n} (h : jo n = true) : ∃ i : Nat, n = i ∧ i < 12 := by
 simp only [jo, Qak] at h
 exact ⟨n.toNat, by omega, by omega⟩
abbrev bI (pg : List Pl) : Obj := ag (pg.flatMap eM ++ [.bool true]) 161
theorem Dn {pg sp n} (a : n < pg.length) : ((pg.flatMap eM ++ sp).drop (n * 2)).take 2 = eM (ew pg n) := by
 simp_all [rE, ul, ew]
theorem Ac {pg : List Pl} {sp n p} (a : n < pg.length) : d7 (pg.flatMap eM ++ sp) (n * 2) (eM p) = (pg.set n p).flatMap eM ++ sp := vy ul pg n p sp a
theorem I7 (a : List Pl) sp : (a.flatMap eM ++ sp).length = a.length * 2 + sp.length := by rw [Qae, cF ul]
theorem Wz {a : List Pl} (h : a.length = 12) : (a.flatMap eM ++ [.bool true])[24]? = some (Value.bool true) := by
 rw [Qbn (by rw [cF ul]; omega), cF ul, h]; rfl
theorem WA : sP W0 103 [] R (fun v B => ∃ b, v = pQ b ∧ B = pt b (bI (List.replicate 12 (0, 0))) :: R) := by
 refine am func103 ntmps103 ?_
 refine bB fun a => ?_
 refine ac ?_
 exact ⟨_, ⟨a, rfl, rfl⟩, ent_refl⟩
theorem vO b pg (h : Pgs pg) : sQ W0 72 [pQ b] (pt b (bI pg) :: R) (.bool false) (pt b (bI pg) :: R) := by
 refine am func72 ntmps72 ?_
 refine dk rfl rfl rfl (fun a => ?_) fun a => ?_
 cases a
 refine aw ?_
 refine aa (aE (aI (Wz h.len))) ?_
 exact ac ao
theorem xu n : sQ W0 157 [iQ n] R (.bool (jo n)) R := by
 refine am func157 ntmps157 ?_
 refine bN (fun a => ?_) fun a => ?_
 refine ac ?_
 refine aG ?_
 refine Qah Value.bool ?_
 rw [Qag]; simp only [jo, Qak, Qaq, QaR]; omega
 refine ac ?_
 refine aG ?_
 refine Qah Value.bool ?_
 rw [Qag]; simp only [jo, Qak, Qaq, QaR]; omega
theorem WB p : sQ W0 193 [.agg (eM p).toArray] R (.bool (ll p)) R := by
 refine am func193 ntmps193 ?_
 refine bB fun d => ?_
 refine bN (fun b => ?_) fun b => ?_
 refine bN (fun c => ?_) fun c => ?_
 refine bN (fun a => ?_) fun a => ?_
 refine ac ?_
 refine aG ?_
 refine Qah Value.bool ?_
 rw [Qag]; simp only [ll, Qak, Qaq, QaR]; omega
 refine ac ?_
 refine aG ?_
 refine Qah Value.bool ?_
 rw [Qag]; simp only [ll, Qak, Qaq, QaR]; omega
 refine ac ?_
 refine aG ?_
 refine Qah Value.bool ?_
 rw [Qag]; simp only [ll, Qak, Qaq, QaR]; omega
 refine ac ?_
 refine aG ?_
 refine Qah Value.bool ?_
 rw [Qag]; simp only [ll, Qak, Qaq, QaR]; omega
def aN (pg : List Pl) (n : Int) : Bool := jo n && decide (ew pg n.toNat ≠ (0, 0))
theorem Ad b pg (h : Pgs pg) n : sQ W0 73 [pQ b, iQ n] (pt b (bI pg) :: R) (.bool (aN pg n)) (pt b (bI pg) :: R) := by
 refine am func73 ntmps73 ?_
 refine ah (aB Cl (xu n)) ?_
 refine bN (fun a => ?_) fun a => ?_
 obtain ⟨i, rfl, c⟩ := kz a
 have d := h.len
 refine aa (eG (by omega)) ?_
 refine aa (dj (cQ (Dn (by omega)) rfl)) ?_
 refine aa (H6 Tryz.eqGuardType61 rfl rfl (sH Cf Tryz.stoodInHeld61 (lT rfl db rfl rfl (lS jj) (lT rfl db rfl rfl (lS jj) sG)))) ?_
 refine ac ?_
 refine aG ?_
 refine Qah Value.bool ?_
 first
   | (rw [Qag]; simp [aN, a, Prod.ext_iff])
   | simp [aN, a]
 refine ac ?_
 refine aG ?_
 refine Qah Value.bool ?_
 first
   | (rw [Qag]; simp [aN, a, Prod.ext_iff])
   | simp [aN, a]
def bH (pg : List Pl) (n : Int) : Pl := if aN pg n then ew pg n.toNat else (0, 0)
theorem sZ b pg (h : Pgs pg) n : sQ W0 14 [pQ b, iQ n] (pt b (bI pg) :: R) (.tuple #[.agg (eM (bH pg n)).toArray, .bool (aN pg n)]) (pt b (bI pg) :: R) := by
 refine am func14 ntmps14 ?_
 refine bu fun f => ?_
 refine eh 1 (ap zt (vO b pg h)) ?_
 refine dk rfl rfl rfl (fun a => ?_) fun a => ?_
 exact absurd a (by decide)
 refine aw ?_
 refine ah (ap Gj (Ad b pg h n)) ?_
 refine ai (fun d => ?_) fun d => ?_
 refine ar aA ?_
 refine aV (.cons (b0 ze qd rfl rfl) (.cons (aR rfl) .nil)) ?_
 refine aG ?_
 have c : aN pg n = false := by grind
 simp [aK, bH, c]
 have c : aN pg n = true := by grind
 have e : jo n = true := by grind [aN]
 obtain ⟨i, rfl, g⟩ := kz e
 have j := h.len
 refine aa (eG (by omega)) ?_
 refine aa (dj (cQ (Dn (by omega)) rfl)) ?_
 refine ar aA ?_
 refine aV (.cons (b0 ze qd rfl rfl) (.cons (aR rfl) .nil)) ?_
 refine aG ?_
 simp [aK, bH, c]
def fW (pg : List Pl) (n : Int) (p : Pl) : Int := if jo n ∧ ll p then (if aN pg n then 5 else 0) else 1
def dL (pg : List Pl) (n : Int) (p : Pl) : List Pl := if fW pg n p = 0 then pg.set n.toNat p else pg
theorem vP {pg n p} (h : Pgs pg) : Pgs (dL pg n p) := by
 unfold dL; split
 rename_i d
 have b : ll p = true := by
  grind [fW]
 refine ⟨by simp [h.len], fun m c a => ?_⟩
 unfold ew at a ⊢
 by_cases e : n.toNat = m
 grind
 simp only [Qas, QaW e] at a ⊢
 have := h.ok m c
 unfold ew at this
 simp only [Qas] at this
 exact this a
 exact h
theorem Do b pg (h : Pgs pg) n p : sQ W0 118 [pQ b, iQ n, .agg (eM p).toArray] (pt b (bI pg) :: R) (iQ (fW pg n p)) (pt b (bI (dL pg n p)) :: R) := by
 have l := h.len
 refine am func118 ntmps118 ?_
 refine bB fun d => ?_
 refine ah (ap zt (vO b pg h)) ?_
 refine ah (aB Cl (xu n)) ?_
 refine ai (fun e => ?_) fun e => ?_
 refine ac ?_
 have a : fW pg n p = 1 := by
  grind [fW]
 exact ⟨_, ⟨by simp [aK, a], by rw [dL, a, Qaa (by decide)]⟩, IO⟩
 have f : jo n = true := by grind
 refine ah (aB call193 (WB p)) ?_
 refine ai (fun g => ?_) fun g => ?_
 refine ac ?_
 have a : fW pg n p = 1 := by
  grind [fW]
 exact ⟨_, ⟨by simp [aK, a], by rw [dL, a, Qaa (by decide)]⟩, IO⟩
 have m : ll p = true := by grind
 refine ah (ap Gj (Ad b pg h n)) ?_
 refine ai (fun j => ?_) fun j => ?_
 refine ac ?_
 have a : fW pg n p = 5 := by
  grind [fW]
 exact ⟨_, ⟨by simp [aK, a], by rw [dL, a, Qaa (by decide)]⟩, IO⟩
 have o : aN pg n = false := by grind
 have a : fW pg n p = 0 := by grind [fW]
 obtain ⟨i, rfl, k⟩ := kz f
 refine bz [d] 7 fun c => ?_
 refine aj 0 5 c ?_
 refine az 5 c (eG k) ?_
 refine cm 6 (iD (by grind [I7]) (Ac (by omega))) fun c => ?_
 refine aJ ?_
 refine ac ?_
 rw [show dL pg i p = pg.set i p by simp [dL, a]]
 exact ⟨_, ⟨by simp [aK, a], rfl⟩, IO⟩
theorem WC b pg (h : Pgs pg) : sQ W0 122 [pQ b, iQ 12] (pt b (bI pg) :: R) (iQ 1) (pt b (bI pg) :: R) := by
 refine am NI ntmps122 ?_
 refine ah (ap zt (vO b pg h)) ?_
 refine ah (aB Cl (xu 12)) ?_
 refine ai (fun a => ?_) fun a => ?_
 exact ac ao
 exact absurd a (by decide)
def iV (n : Int) (p : Pl) (kind : Int) : Bool := decide (kind = 0 ∧ n < 8 ∨ kind = 1 ∧ p.2 % 2 = 1 ∨ kind = 2 ∧ 2 ≤ p.2)
theorem pK {p} : ll p = true ↔ 0 ≤ p.1 ∧ p.1 < 32 ∧ 1 ≤ p.2 ∧ p.2 ≤ 3 := by simp [ll]
theorem WE {r} (h : 1 ≤ r ∧ r ≤ 3) : e6 .i64 r 1 = r % 2 := by
 have : r = 1 ∨ r = 2 ∨ r = 3 := by omega
 rcases this with rfl | rfl | rfl <;> decide
theorem WG {r} (h : 1 ≤ r ∧ r ≤ 3) : e6 .i64 r 2 = r / 2 * 2 := by
 have : r = 1 ∨ r = 2 ∨ r = 3 := by omega
 rcases this with rfl | rfl | rfl <;> decide
theorem WH n p (b : ll p = true) kind : sQ W0 274 [iQ n, .agg (eM p).toArray, iQ kind] R (.bool (iV n p kind)) R := by
 have a := pK.1 b
 refine am func274 ntmps274 ?_
 refine bB fun f => ?_
 refine ai (fun c => ?_) fun c => ?_
 refine ac ?_
 refine aG ?_
 refine Qah Value.bool ?_
 rw [Qag]; simp only [iV, Qak, Qaq, QaR, QbN]; omega
 refine ai (fun d => ?_) fun d => ?_
 refine aa (eC rfl rfl (WE ⟨a.2.2.1, a.2.2.2⟩)) ?_
 refine ac ?_
 refine aG ?_
 refine Qah Value.bool ?_
 rw [Qag]; simp only [iV, Qak, Qaq, QaR, QbN]; omega
 refine ai (fun e => ?_) fun e => ?_
 refine aa (eC rfl rfl (WG ⟨a.2.2.1, a.2.2.2⟩)) ?_
 refine ac ?_
 refine aG ?_
 refine Qah Value.bool ?_
 rw [Qag]; simp only [iV, Qak, Qaq, QaR, QbN]; omega
 refine ac ?_
 refine aG ?_
 refine Qah Value.bool ?_
 rw [Qag]; simp only [iV, Qak, Qaq, QaR, QbN]; omega
def eX (pg : List Pl) (n kind : Int) : Int := if aN pg n then (if iV n (ew pg n.toNat) kind then 0 else 6) else 7
theorem xv {pg n} (h : Pgs pg) (a : aN pg n = true) : ll (bH pg n) = true := by
 simp only [bH, a, QbL]
 simp only [aN, Qan, Qak] at a
 obtain ⟨i, rfl, b⟩ := kz a.1
 exact h.ok _ (by omega) a.2
theorem I8 b pg (h : Pgs pg) n kind : sQ W0 198 [pQ b, iQ n, iQ kind] (pt b (bI pg) :: R) (iQ (eX pg n kind)) (pt b (bI pg) :: R) := by
 refine am func198 ntmps198 ?_
 refine ah (ap nS (sZ b pg h n)) ?_
 refine bu fun f => ?_
 refine ar aA ?_
 refine ai (fun d => ?_) fun d => ?_
 refine ac ?_
 refine aG ?_
 have a : aN pg n = false := by grind
 simp [aK, eX, a]
 have a : aN pg n = true := by grind
 refine ah (aB call274 (WH n (bH pg n) (xv h a) kind)) ?_
 refine ai (fun e => ?_) fun e => ?_
 refine ac ?_
 refine aG ?_
 have c : iV n (ew pg n.toNat) kind = false := by grind [bH]
 simp [aK, eX, a, c]
 refine ac ?_
 refine aG ?_
 have c : iV n (ew pg n.toNat) kind = true := by grind [bH]
 simp [aK, eX, a, c]
abbrev cg (ps pm d : Nat) : Obj := ag [.pointer (some ⟨ps, 0, none⟩), .pointer (some ⟨pm, 0, none⟩), .int .u32 (d : Nat)] 157
theorem xw pv ps pm d : sQ W0 71 [pQ pv] (pt pv (cg ps pm d) :: R) (.bool false) (pt pv (cg ps pm d) :: R) := by
 refine am func71 ntmps71 ?_
 refine dk rfl rfl rfl (fun a => ?_) fun a => ?_
 cases a
 refine aw ?_
 exact ac ao
def et (pa : Nat) (w : Int) : Bool := decide ((w = 1 ∨ w = 2 ∨ w = 4) ∧ (pa : Int) % w = 0)
theorem WI (d : Nat) (e : d < 4294967296) w : sQ W0 197 [.int .u32 d, iQ w] R (.bool (et d w)) R := by
 refine am func197 ntmps197 ?_
 refine ai (fun a => ?_) fun a => ?_
 refine aa (bG (cZ (by omega))) ?_
 refine aa (dV rfl rfl (by omega) (Qat (by omega))) ?_
 refine ac ?_
 refine aG ?_
 refine Qah Value.bool ?_
 rw [Qag]; simp only [et, Qak, QaZ]
 first
   | (subst a; simp)
   | (subst b; simp)
   | (subst c; simp)
 refine ai (fun b => ?_) fun b => ?_
 refine aa (bG (cZ (by omega))) ?_
 refine aa (dV rfl rfl (by omega) (Qat (by omega))) ?_
 refine ac ?_
 refine aG ?_
 refine Qah Value.bool ?_
 rw [Qag]; simp only [et, Qak, QaZ]
 first
   | (subst a; simp)
   | (subst b; simp)
   | (subst c; simp)
 refine ai (fun c => ?_) fun c => ?_
 refine aa (bG (cZ (by omega))) ?_
 refine aa (dV rfl rfl (by omega) (Qat (by omega))) ?_
 refine ac ?_
 refine aG ?_
 refine Qah Value.bool ?_
 rw [Qag]; simp only [et, Qak, QaZ]
 first
   | (subst a; simp)
   | (subst b; simp)
   | (subst c; simp)
 refine ac ?_
 refine aG ?_
 refine Qah Value.bool ?_
 rw [Qag]; simp only [et, Qak, Qaq, QaR]; omega
def dD (n : Nat) (pg : List Pl) (pa : Nat) (w kind : Int) : Int :=
  if et pa w then (if pa < 768 then (if eX pg ((pa / 64 : Nat) : Int) kind = 0 then (if (bH pg ((pa / 64 : Nat) : Int)).1 < n then 0 else 7) else eX pg ((pa / 64 : Nat) : Int) kind) else 2) else 1
def jV (n : Nat) (pg : List Pl) (pa : Nat) (w kind : Int) : List Value :=
  if dD n pg pa w kind = 0 then [.int .i64 (pa / 64 : Nat), .int .i64 (bH pg ((pa / 64 : Nat) : Int)).1, .int .i64 (pa % 64 : Nat), .bool false] else [.int .i64 0, .int .i64 0, .int .i64 0, .bool false]
theorem Ae pv ps pm d fr pg (h : Pgs pg) (a : Nat) (c : a < 4294967296) w kind : sQ W0 133 [pQ pv, .int .u32 a, iQ w, iQ kind] (pt pv (cg ps pm d) :: bD ps fr :: pt pm (bI pg) :: R) (.tuple #[.agg (jV fr.length pg a w kind).toArray, iQ (dD fr.length pg a w kind)]) (pt pv (cg ps pm d) :: bD ps fr :: pt pm (bI pg) :: R) := by
 refine am func133 ntmps133 ?_
 refine bu fun m => ?_
 refine ah (ap Cm (xw pv ps pm d)) ?_
 refine ah (aB call197 (WI a c w)) ?_
 refine ai (fun i => ?_) fun i => ?_
 refine ar aA ?_
 refine aV (.cons (b0 g8 eU rfl rfl) (.cons (aR rfl) .nil)) ?_
 refine aG ?_
 have g : et a w = false := by grind
 have b : dD fr.length pg a w kind = 1 := by simp [dD, g]
 simp [aK, jV, b]
 have g : et a w = true := by grind
 refine ai (fun j => ?_) fun j => ?_
 refine ar aA ?_
 refine aV (.cons (b0 g8 eU rfl rfl) (.cons (aR rfl) .nil)) ?_
 refine aG ?_
 have b : dD fr.length pg a w kind = 2 := by grind [dD]
 simp [aK, jV, b]
 refine aa (ng rfl rfl (by decide) ((Qah (IntKind.wrap .u32) (qq a 64)).trans (cZ (by omega)))) ?_
 refine aa (bG (cj (by omega))) ?_
 refine ah (ap call198 (I8 pm pg h ((a / 64 : Nat) : Int) kind)) ?_
 refine ai (fun k => ?_) fun k => ?_
 refine ar aA ?_
 refine aV (.cons (b0 g8 eU rfl rfl) (.cons (aR rfl) .nil)) ?_
 refine aG ?_
 have b : dD fr.length pg a w kind = eX pg ((a / 64 : Nat) : Int) kind := by grind [dD]
 rw [jV, Qaa (by omega), b]; rfl
 have n : eX pg ((a / 64 : Nat) : Int) kind = 0 := by omega
 refine ah (ap nS (sZ pm pg h ((a / 64 : Nat) : Int))) ?_
 refine bu fun l => ?_
 refine ar aA ?_
 refine bz [l, pv] 8 fun e => ?_
 refine aj 0 6 e ?_
 refine bY 6 (ap wT (uk ps fr)) fun e => ?_
 refine aj 7 1 e ?_
 refine aJ ?_
 refine ai (fun f => ?_) fun f => ?_
 refine ar aA ?_
 refine aV (.cons (b0 g8 eU rfl rfl) (.cons (aR rfl) .nil)) ?_
 refine aG ?_
 have b : dD fr.length pg a w kind = 7 := by grind [dD]
 simp [aK, jV, b]
 refine aa (dV rfl rfl (by decide) (iE a 64)) ?_
 refine aa (bG (cj (by omega))) ?_
 refine ar aA ?_
 refine aV (.cons (b0 g8 eU rfl rfl) (.cons (aR rfl) .nil)) ?_
 refine aG ?_
 have b : dD fr.length pg a w kind = 0 := by grind [dD]
 simp [aK, jV, b]
theorem xx {n pg pa w kind} (h : dD n pg pa w kind = 0) : pa < 768 ∧ (bH pg (pa / 64 : Nat)).1 < n ∧ jV n pg pa w kind = [iQ (pa / 64 : Nat), iQ (bH pg (pa / 64 : Nat)).1, iQ (pa % 64 : Nat), .bool false] := by
 grind [jV, dD]
def kN (fr : List aD) (pg : List Pl) (pa : Nat) (w : Int) (x : Nat) : List aD := if dD fr.length pg pa w 2 = 0 then fM fr (bH pg ((pa / 64 : Nat) : Int)).1 ((pa % 64 : Nat) : Int) w x else fr
def pL (fr : List aD) (pg : List Pl) (pa : Nat) (w : Int) (d : Nat) : Nat := if dD fr.length pg pa w 2 = 0 then d ||| 2 ^ (pa / 64) else d
theorem WJ {n : Nat} (h : n < 12) : ip .u32 1 n = (2 ^ n : Nat) := by
 have : ∀ n : Nat, n < 12 → ip .u32 1 (n : Int) = ((2 ^ n : Nat) : Int) := by decide
 exact this n h
theorem Dp {n} (h : n < 12) : 2 ^ n < 4096 := by
 have : ∀ n : Nat, n < 12 → 2 ^ n < 4096 := by decide
 exact this n h
theorem I9 pv ps pm d fr pg (h : Pgs pg) (i : cz fr) (l : d < 4096) (b : Nat) (e : b < 4294967296) w (x : Nat) (j : x < 4294967296) : sQ W0 55 [pQ pv, .int .u32 b, iQ w, .int .u32 x] (pt pv (cg ps pm d) :: bD ps fr :: pt pm (bI pg) :: R) (iQ (dD fr.length pg b w 2)) (pt pv (cg ps pm (pL fr pg b w d)) :: bD ps (kN fr pg b w x) :: pt pm (bI pg) :: R) := by
 by_cases c : dD fr.length pg b w 2 = 0
 obtain ⟨m, o, k⟩ := xx c
 have p := Dp (n := b / 64) (by omega)
 rw [pL, Qad c, kN, Qad c]
 refine am func55 ntmps55 ?_
 refine ah (cN Gk (Ae pv ps pm d fr pg h b e w 2)) ?_
 rw [k, c]
 refine bu fun g => ?_
 refine ar aA ?_
 refine ai (fun f => ?_) fun f => ?_
 exact absurd rfl f
 refine bz [pv, g] 11 fun a => ?_
 refine aj 0 10 a ?_
 refine bY 10 (ap NJ (Dm ps fr _ _ w x j i)) fun a => ?_
 refine aJ ?_
 refine bz [g] 11 fun a => ?_
 refine aj 0 3 a ?_
 refine aj 4 2 a ?_
 refine az 6 a (l9 rfl rfl (by omega) (WJ (by omega))) ?_
 refine bY 3 (dP (aE (aI rfl))) fun a => ?_
 refine az 7 a (mo rfl rfl (mt (by omega) (by omega))) ?_
 refine aj 8 2 a ?_
 refine cm 10 dX fun a => ?_
 refine aJ ?_
 exact ac ao
 rw [pL, Qaa c, kN, Qaa c]
 refine am func55 ntmps55 ?_
 refine ah (cN Gk (Ae pv ps pm d fr pg h b e w 2)) ?_
 rw [jV, Qaa c]
 refine bu fun g => ?_
 refine ar aA ?_
 refine ai (fun f => ?_) fun f => ?_
 exact ac ao
 exact absurd c f
theorem WK ps pm fr pg (h : Pgs pg) (d : 0 < fr.length) : sP W0 106 [pQ ps, pQ pm] (bD ps fr :: pt pm (bI pg) :: R) (fun v B => ∃ b, v = .tuple #[pQ b, iQ 0] ∧ B = pt b (cg ps pm 0) :: bD ps fr :: pt pm (bI pg) :: R) := by
 refine am func106 ntmps106 ?_
 refine ah (ap wT (uk ps fr)) ?_
 refine dk rfl rfl rfl (fun a => ?_) fun a => ?_
 omega
 refine aw ?_
 refine eh 5 (ap Gl (WC pm pg h)) ?_
 refine jT ?_
 refine eH (kg rfl) fun c => ?_
 refine aw ?_
 refine ax ?_
 exact ⟨_, ⟨c, rfl, rfl⟩, IO⟩
theorem rL pv ps pm d : sQ W0 12 [pQ pv] (pt pv (cg ps pm d) :: R) (pQ pm) (pt pv (cg ps pm d) :: R) := by
 refine am func12 ntmps12 ?_
 refine ah (ap Cm (xw pv ps pm d)) ?_
 exact ac ao
theorem Dq pv ps pm d : sQ W0 77 [pQ pv] (pt pv (cg ps pm d) :: R) (pQ ps) (pt pv (cg ps pm d) :: R) := by
 refine am func77 ntmps77 ?_
 refine ah (ap Cm (xw pv ps pm d)) ?_
 exact ac ao
def jB (len : Nat) (pg : List Pl) (n : Int) : Bool := aN pg n && decide (n < 8) && decide ((bH pg n).1 < len)
theorem Ia pv ps pm d fr pg (h : Pgs pg) n : sQ W0 171 [pQ pv, iQ n] (pt pv (cg ps pm d) :: bD ps fr :: pt pm (bI pg) :: R) (.tuple #[iQ (bH pg n).1, .bool (jB fr.length pg n)]) (pt pv (cg ps pm d) :: bD ps fr :: pt pm (bI pg) :: R) := by
 refine am func171 ntmps171 ?_
 refine ah (ap nS (sZ pm pg h n)) ?_
 refine bu fun e => ?_
 refine ar aA ?_
 refine bz [pv, e] 19 fun a => ?_
 refine aj 0 4 a ?_
 refine mp (t := 20) rfl ?_ ?_
 · intro b
   refine aj 4 4 a ?_
   refine mp (t := 24) rfl ?_ ?_
   · intro c
     refine aj 8 6 a ?_
     refine bY 14 (ap wT (uk ps fr)) fun a => ?_
     refine aj 15 4 a ?_
     refine aJ ?_
     refine ax ?_
     refine aG ?_
     simp_all [aK, jB]; try omega
   intro c
   refine aj 8 11 a ?_
   refine aJ ?_
   refine ax ?_
   refine aG ?_
   simp_all [aK, jB]; try omega
 intro b
 refine aj 4 15 a ?_
 refine aJ ?_
 refine ax ?_
 refine aG ?_
 simp_all [aK, jB]; try omega
def gF (p : Value × aD) : HP := osl 5 1 p.1 (bZ p.2)
def cH (qs : Nat) (fr : List aD) : HP := chk (fun C => ∃ a c, ∃ vs : List Value, vs.length = fr.length ∧ C = pt qs (ag [.slice a fr.length c] 196) :: osl 80 1 (.slice a fr.length c) vs :: (vs.zip fr).map gF)
section
variable {P : Program} {W0 : World} {N : FSz} {K : Act → World → Prop} {e : bi} {A B R R1 R2 : List HP} {qs g n : Nat} {fr : List aD} {f : FuncId} {args : List Value} {Post : Value → List HP → Prop} {l : List Value}
theorem vQ [i : Tk cH qs A fr R] (h : ∀ a c d, d.length = fr.length → av W0 N K e (pt qs (ag [.slice a fr.length c] 196) :: osl 80 1 (.slice a fr.length c) d :: ((d.zip fr).map gF ++ R))) : av W0 N K e A :=
  fV (r := cH) (b := qs) (ni fun C f => by obtain ⟨a, c, d, g, rfl⟩ := f; exact h a c d g)
theorem um {a c vs} [b : Tk pt qs A (ag [.slice a n c] 196) R1] [d : Tk (osl 80 1) (.slice a n c) R1 vs ((vs.zip fr).map gF ++ R2)] (e : vs.length = fr.length) (f : n = fr.length) [k : Ent R2 B] : Ent A (cH qs fr :: B) := by
 subst f
 have g : A.Perm ((pt qs (ag [.slice a fr.length c] 196) :: osl 80 1 (.slice a fr.length c) vs :: (vs.zip fr).map gF) ++ R2) := b.perm.trans (d.perm.cons _)
 have h : Ent ((pt qs (ag [.slice a fr.length c] 196) :: osl 80 1 (.slice a fr.length c) vs :: (vs.zip fr).map gF) ++ R2) (cH qs fr :: R2) := fK ⟨a, c, vs, e, rfl⟩
 exact (Ent.ofPerm g).trans (h.trans (Ent.cons k))
theorem Ib {α : Type} : ∀ (l : List α) (i : Nat) (h : i < l.length), l.Perm (l[i] :: l.eraseIdx i)
 | x :: l, 0, h => by simp
 | x :: l, i + 1, h => by
  simp only [List.getElem_cons_succ, Qcz]
  exact ((Ib l i (by simpa using h)).cons x).trans (List.Perm.swap _ _ _)
theorem Ic {α : Type} : ∀ (l : List α) (i : Nat) (x : α) (h : i < l.length), (x :: l.eraseIdx i).Perm (l.set i x)
 | y :: l, 0, x, h => by simp
 | y :: l, i + 1, x, h => by
  simp only [Qck, Qcz]
  exact (List.Perm.swap _ _ _).trans ((Ic l i x (by simpa using h)).cons y)
theorem t2 {E sz : Nat} {v xs} [h : Tk (osl E sz) v A xs R] (d : v = .slice none 0 0 → xs = [] → av W0 N K e R)
    (f : ∀ g n a c, v = .slice (some ⟨g, 0, none⟩) n a → n ≤ a → a ≤ maxLen → xs.length = n * sz → (xs ++ c).length = a * sz → av W0 N K e (pt g (ag (xs ++ c) E) :: R)) : av W0 N K e A :=
  fV (r := osl E sz) (b := v) (ku d f)
theorem Af [m : Tk cH qs A fr R] {i} (n : i < fr.length) (h : ∀ a c b f, b.length = fr.length → b[i]? = some f →
      av W0 N K e (pt qs (ag [.slice a fr.length c] 196) :: osl 80 1 (.slice a fr.length c) b :: osl 5 1 f (bZ (fr.getD i [])) :: (((b.zip fr).map gF).eraseIdx i ++ R))) : av W0 N K e A := by
 refine vQ (qs := qs) fun a c b g => ?_
 have j : ((b.zip fr).map gF).length = fr.length := by simp [g]
 have d : i < b.length := by omega
 have l : ((b.zip fr).map gF)[i]'(by omega) = osl 5 1 b[i] (bZ (fr.getD i [])) := by grind [gF]
 have k := Ib ((b.zip fr).map gF) i (by omega)
 rw [l] at k
 exact qf (((k.append_right R).cons _).cons _) (h a c b b[i] g (by simp [d]))
theorem WL {a c i} {b : List Value} {vi} {y : aD} {ys R3} [d : Tk pt qs A (ag [.slice a n c] 196) R1] [e : Tk (osl 80 1) (.slice a n c) R1 (b.set i vi) R2] [f : Tk (osl 5 1) vi R2 ys (((b.zip fr).map gF).eraseIdx i ++ R3)]
    (g : ys = bZ y) (h : b.length = fr.length) (j : n = fr.length) (o : i < fr.length) [k : Ent R3 B] : Ent A (cH qs (fr.set i y) :: B) := by
 subst g
 have l : A.Perm (pt qs (ag [.slice a n c] 196) :: osl 80 1 (.slice a n c) (b.set i vi) :: ((((b.set i vi).zip (fr.set i y)).map gF) ++ R3)) := by
  refine d.perm.trans ((e.perm.trans ((f.perm.trans ?_).cons _)).cons _)
  have m : ((b.set i vi).zip (fr.set i y)).map gF = ((b.zip fr).map gF).set i (gF (vi, y)) := by
   apply QaP
   simp
   grind
  rw [m]
  have := Ic ((b.zip fr).map gF) i (gF (vi, y)) (by grind)
  exact this.append_right R3
 exact (Ent.ofPerm l).trans (um (vs := b.set i vi) (by simp [h]) (by simp [j]))
theorem Ag {c i g2 n2 c2} {vs b d sp2 a : List Value} {y : aD} {vi R3} [l : Tk pt qs A (ag [.slice (some ⟨g, 0, none⟩) n c] 196) R1] [m : Tk pt g R1 (ag (b ++ d) 80) R2] [o : Tk pt g2 R2 (ag (a ++ sp2) 5) R3]
    (e : b = vs.set i vi) (f : vi = .slice (some ⟨g2, 0, none⟩) n2 c2) (p : a = bZ y) (h : vs.length = fr.length) (j : n = fr.length) (q : i < fr.length) (r : n ≤ c) (s : c ≤ maxLen) (t : (b ++ d).length = c * 1) (u : n2 ≤ c2) (v : c2 ≤ maxLen) (w : a.length = n2 * 1) (x : (a ++ sp2).length = c2 * 1) [k : Ent R3 (((vs.zip fr).map gF).eraseIdx i ++ B)] : Ent A (cH qs (fr.set i y) :: B) := by
 subst e
 subst f
 have z : A.Perm (pt qs (ag [.slice (some ⟨g, 0, none⟩) n c] 196) :: pt g (ag (vs.set i (.slice (some ⟨g2, 0, none⟩) n2 c2) ++ d) 80) :: pt g2 (ag (a ++ sp2) 5) :: R3) := l.perm.trans ((m.perm.trans (o.perm.cons _)).cons _)
 have C : Ent (pt g2 (ag (a ++ sp2) 5) :: R3) (osl 5 1 (.slice (some ⟨g2, 0, none⟩) n2 c2) a :: (((vs.zip fr).map gF).eraseIdx i ++ B)) := fk u v w x
 have D : Ent (pt g (ag (vs.set i (.slice (some ⟨g2, 0, none⟩) n2 c2) ++ d) 80) :: osl 5 1 (.slice (some ⟨g2, 0, none⟩) n2 c2) a :: (((vs.zip fr).map gF).eraseIdx i ++ B)) (osl 80 1 (.slice (some ⟨g, 0, none⟩) n c) (vs.set i (.slice (some ⟨g2, 0, none⟩) n2 c2)) :: osl 5 1 (.slice (some ⟨g2, 0, none⟩) n2 c2) a :: (((vs.zip fr).map gF).eraseIdx i ++ B)) := fk r s (by simp [h, j]) t
 exact (Ent.ofPerm z).trans ((Ent.cons ((Ent.cons C).trans D)).trans (WL (vi := .slice (some ⟨g2, 0, none⟩) n2 c2) p h j q))
end
theorem Ie {a : List aD} {i} (b : i < a.length) : a.set i (a.getD i []) = a := by
 simp_all
theorem If {a : List Value} {i v} (h : a[i]? = some v) : a.set i v = a := by
 have b : i < a.length := by
  rcases QaC i a.length with k | k
  exact k
  rw [Qbk k] at h; cases h
 have : a[i] = v := by simpa [b] using h
 rw [← this]; exact QbU _
theorem qy qs fr f : sQ W0 100 [pQ qs, iQ f] (cH qs fr :: R) (.bool (eu fr.length f)) (cH qs fr :: R) := by
 refine am func100 ntmps100 ?_
 refine vQ (qs := qs) fun a c e d => ?_
 refine aw ?_
 refine bN (fun b => ?_) fun b => ?_
 refine ac ?_
 refine ⟨_, ⟨Qah Value.bool ?_, rfl⟩, um d rfl⟩
 rw [Qag]; simp only [eu, Qak, Qaq, QaR]; omega
 refine ac ?_
 refine ⟨_, ⟨Qah Value.bool ?_, rfl⟩, um d rfl⟩
 rw [Qag]; simp only [eu, Qak, Qaq, QaR]; omega
theorem WM {g off c n l at_ w} (b : l.length = n) (d : bE (aQ W0 R) g off (bZ l)) (e : By l) (f : n ≤ c) (a : c < 9223372036854775808) : sQ W0 305 [.slice (some ⟨g, off, none⟩) n c, iQ at_, iQ w] R (.tuple #[.int .u32 (mw l at_ w), iQ (pJ l at_ w)]) R := by
 grind [HY]
theorem WN {g off c n l} {i k w : Nat} (d : l.length = n) (e : w < 4294967296) (f : bE (aQ W0 R) g off (bZ l)) (h : eL n i k = true) (j : n ≤ 1000000) : sP W0 201 [.slice (some ⟨g, off, none⟩) n c, iQ i, iQ k, .int .u32 w] R (fun v B => ∃ a b, v = Aa a n b ∧ B = osl 5 1 (.slice a n b) (bZ (mu l i k w)) :: R) := by
 grind [Ws]
theorem Ig {x : aD} {sp} (h : x.length = 64) : ((bZ x ++ sp).drop 0).take 64 = bZ x := by
 grind [List.take_left', gE]
theorem Ah qs fr f off w (r : cz fr) : sQ W0 219 [pQ qs, iQ f, iQ off, iQ w] (cH qs fr :: R) (.tuple #[.int .u32 (kx fr f off w), iQ (vN fr f off w)]) (cH qs fr :: R) := by
 by_cases m : eu fr.length f = true
 obtain ⟨i, rfl, b⟩ := qx m
 obtain ⟨o, s⟩ := r.get b
 refine am func219 ntmps219 ?_
 refine ah (ap su (qy qs fr i)) ?_
 refine aC rfl (fun d => ?_) fun d => ?_
 exact absurd d (by simp [m])
 refine au 3 ?_
 refine Af (qs := qs) b fun a c t u x h => ?_
 refine t2 (E := 5) (sz := 1) (v := u) (fun k l => by have := Qah List.length l; rw [gE, o] at this; cases this) fun G y H z A p q B C => ?_
 obtain rfl : y = 64 := by grind [gE]
 subst A
 refine t2 (E := 80) (sz := 1) (v := .slice a fr.length c) (fun k l => by have := (Value.slice.inj k).2.1; omega) fun g n I J k l D K F => ?_
 cases k
 refine aw ?_
 refine aa (bM b) ?_
 refine aa (aE (aI (by rw [Qaz, QaB (by omega)]; exact h))) ?_
 refine ah (aB call305 (WM o (cQ (Ig o) (by omega)) s p (A9 q))) ?_
 refine ax ?_
 refine ⟨_, ⟨by simp [aK, kx, vN, m], rfl⟩, ?_⟩
 have e := Ie b
 conv => rhs; rw [← e]
 exact Ag (vs := t) (If h).symm rfl rfl x rfl b l D F p q B C
 have j : eu fr.length f = false := by grind
 refine am func219 ntmps219 ?_
 refine ah (ap su (qy qs fr f)) ?_
 refine ai (fun d => ?_) fun d => ?_
 refine ax ?_
 exact ⟨_, ⟨by simp [aK, kx, vN, j], rfl⟩, IO⟩
 exact absurd d (by simp [j])
theorem xy qs fr f off w (x : Nat) (O : x < 4294967296) (P : cz fr) : sQ W0 136 [pQ qs, iQ f, iQ off, iQ w, .int .u32 x] (cH qs fr :: R) (iQ (if lk fr f off w then 0 else 1)) (cH qs (fM fr f off w x) :: R) := by
 by_cases z : eu fr.length f = true
 obtain ⟨i, rfl, h⟩ := qx z
 obtain ⟨u, hb⟩ := P.get h
 by_cases r : eL 64 off w = true
 obtain ⟨o, k, rfl, rfl, hk, Q⟩ := rJ r
 have l : lk fr i o k = true := by grind [lk]
 have S : (mu (fr.getD i []) o k x).length = 64 := by grind [uj]
 refine am NK ntmps136 ?_
 refine ah (ap su (qy qs fr i)) ?_
 refine aC rfl (fun m => ?_) fun m => ?_
 exact absurd m (by simp [z])
 refine au 3 ?_
 refine Af (qs := qs) h fun a c A B C j => ?_
 refine t2 (E := 5) (sz := 1) (v := B) (fun b d => by have := Qah List.length d; rw [gE, u] at this; cases this) fun T D I F G J K L M => ?_
 obtain rfl : D = 64 := by grind [gE]
 subst G
 refine t2 (E := 80) (sz := 1) (v := .slice a fr.length c) (fun b d => by have := (Value.slice.inj b).2.1; omega) fun g n y U b d H V N => ?_
 cases b
 refine aw ?_
 refine aa (bM h) ?_
 refine aa (aE (aI (by rw [Qaz, QaB (by omega)]; exact j))) ?_
 refine aF rfl (aB call201 (WN u O (cQ (Ig u) (by omega)) r (by decide))) ?_
 rintro _ W ⟨X, y, rfl, q⟩
 obtain rfl := q.symm
 refine t2 (E := 5) (sz := 1) (v := .slice X 64 y) (fun b d => by have := (Value.slice.inj b).2.1; omega) fun Y n3 c3 Z q1 q2 q3 q4 q5 => ?_
 cases q1
 refine ae rfl (aM rfl) (ae rfl (lE rfl rfl) (ae rfl (lE rfl rfl) (ae rfl (bC rfl) (ae rfl (bC rfl) (aL (aH (aO (aO (aY (ae rfl (aM rfl) (ae rfl (iq rfl rfl) (aL (aH ?_)))))))))))))
 refine aC rfl (fun s => ?_) fun s => ?_
 refine au 7 ?_
 refine ae rfl (bM h) ?_
 refine ar (dt (by omega) (by rw [Qaz, Qca _ _ (by omega)])) ?_
 refine ac ?_
 rw [show fM fr i o k x = fr.set i (mu (fr.getD i []) o k x) by simp [fM, l]]
 exact ⟨_, ⟨by simp [aK, l], rfl⟩, Ag (vs := A) (vi := .slice (some ⟨Y, 0, none⟩) 64 y) rfl rfl rfl C rfl h d H (by grind) q2 q3 q4 q5⟩
 exact absurd rfl s
 have p : eL 64 off w = false := by grind
 have l : lk fr i off w = false := by simp [lk, p]
 refine am NK ntmps136 ?_
 refine ah (ap su (qy qs fr i)) ?_
 refine aC rfl (fun m => ?_) fun m => ?_
 exact absurd m (by simp [z])
 refine au 3 ?_
 refine Af (qs := qs) h fun a c A B C j => ?_
 refine t2 (E := 5) (sz := 1) (v := B) (fun b d => by have := Qah List.length d; rw [gE, u] at this; cases this) fun T D I F G J K L M => ?_
 obtain rfl : D = 64 := by grind [gE]
 subst G
 refine t2 (E := 80) (sz := 1) (v := .slice a fr.length c) (fun b d => by have := (Value.slice.inj b).2.1; omega) fun g n y U b d H V N => ?_
 cases b
 refine aw ?_
 refine aa (bM h) ?_
 refine aa (aE (aI (by rw [Qaz, QaB (by omega)]; exact j))) ?_
 refine aF rfl (iz call201 rfl (Wt _ 64 I off w x p (by decide))) ?_
 rintro _ W ⟨rfl, q⟩
 obtain rfl := q.symm
 refine ae rfl (aM rfl) (ae rfl (lE rfl rfl) (ae rfl (lE rfl rfl) (ae rfl (bC rfl) (ae rfl (bC rfl) (aL (aH (aO (aO (aY (ae rfl (aM rfl) (ae rfl (iq rfl rfl) (aL (aH ?_)))))))))))))
 refine aC rfl (fun s => ?_) fun s => ?_
 exact absurd s (by decide)
 refine aw ?_
 refine ac ?_
 rw [show fM fr i off w x = fr by simp [fM, l]]
 refine ⟨_, ⟨by simp [aK, l], rfl⟩, ?_⟩
 have e := Ie h
 conv => rhs; rw [← e]
 exact Ag (vs := A) (If j).symm rfl rfl C rfl h d H N J K L M
 have t : eu fr.length f = false := by grind
 have l : lk fr f off w = false := by simp [lk, t]
 refine am NK ntmps136 ?_
 refine ah (ap su (qy qs fr f)) ?_
 refine ai (fun m => ?_) fun m => ?_
 refine ac ?_
 rw [show fM fr f off w x = fr by simp [fM, l]]
 exact ⟨_, ⟨by simp [aK, l], rfl⟩, IO⟩
 exact absurd m (by simp [t])
theorem Dr {A B R1 R2 R3 qs n c g2 a vs ys vi fr} {y : aD} [e : Tk pt qs A (ag [.slice a n c] 196) R1] [f : Tk (osl 80 1) (.slice a n c) R1 (vs ++ [vi]) R2] [g : Tk pt g2 R2 (ag ys 5) R3]
    (b : vi = .slice (some ⟨g2, 0, none⟩) 64 64) (h : ys = bZ y) (i : y.length = 64) (d : vs.length = fr.length) (j : n = fr.length + 1) [k : Ent R3 ((vs.zip fr).map gF ++ B)] : Ent A (cH qs (fr ++ [y]) :: B) := by
 subst b; subst h
 have l : A.Perm (pt qs (ag [.slice a n c] 196) :: osl 80 1 (.slice a n c) (vs ++ [.slice (some ⟨g2, 0, none⟩) 64 64]) :: pt g2 (ag (bZ y ++ []) 5) :: R3) := by
  rw [Qav]; exact e.perm.trans ((f.perm.trans (g.perm.cons _)).cons _)
 have m : Ent (pt g2 (ag (bZ y ++ []) 5) :: R3) (osl 5 1 (.slice (some ⟨g2, 0, none⟩) 64 64) (bZ y) :: ((vs.zip fr).map gF ++ B)) := fk (Qam _) (by simp only [maxLen]; omega) (by rw [gE, i]) (by grind [gE])
 have p : ((vs ++ [Value.slice (some ⟨g2, 0, none⟩) 64 64]).zip (fr ++ [y])).map gF = (vs.zip fr).map gF ++ [osl 5 1 (.slice (some ⟨g2, 0, none⟩) 64 64) (bZ y)] := by
  rw [List.zip_append d, QaH]; rfl
 have o : (osl 5 1 (.slice (some ⟨g2, 0, none⟩) 64 64) (bZ y) :: ((vs.zip fr).map gF ++ B)).Perm (((vs ++ [Value.slice (some ⟨g2, 0, none⟩) 64 64]).zip (fr ++ [y])).map gF ++ B) := by
  grind [QaJ, List.perm_middle.symm]
 exact (Ent.ofPerm l).trans ((Ent.cons (Ent.cons (m.trans (Ent.ofPerm o)))).trans (um (vs := vs ++ [.slice (some ⟨g2, 0, none⟩) 64 64]) (by simp [d]) (by simp [j])))
theorem WO (n : Nat) (h : n ≤ 32) : sP W0 34 [iQ n] R (fun v B => ∃ b, v = .tuple #[pQ b, iQ 0] ∧ B = cH b (List.replicate n cC) :: R) := by
 refine am func34 ntmps34 ?_
 refine dk rfl rfl rfl (fun j => ?_) fun j => ?_
 omega
 refine aw ?_
 refine aC rfl (fun f => ?_) fun f => ?_
 omega
 refine aw ?_
 refine eH (kg rfl) fun l => ?_
 refine ae rfl (bC rfl) (aL (aH (aO (aO (aY (ae rfl (bC rfl) (aL (aH (mm ?_)))))))))
 refine ge (fun i : Nat => i ≤ n) (fun i => [(0, iQ n), (4, pQ l), (5, iQ i)]) (fun i => cH l (List.replicate i cC) :: R) (fun i => n - i) 0 ?_ ?_ ?_ ?_
 omega
 · repeat (first | exact bK | refine aZ rfl ?_)
 exact (Ent.cons (fm (B := R))).trans (fK (R := R) (C := [_, _]) ⟨none, 0, [], rfl, rfl⟩)
 intro i s
 refine aO (aO (aY (ae rfl (aM rfl) (ae rfl (aM rfl) (ae rfl (nh rfl rfl) (aL (aH ?_)))))))
 refine aC rfl (fun r => ?_) fun r => ?_
 refine jk ?_
 refine aH (aO (mm ?_))
 refine vQ (qs := l) fun a c o m => ?_
 rw [QbC] at m ⊢
 refine bz [] 11 fun d => ?_
 refine aj 0 4 d ?_
 refine eD (is := [4, 5]) (by kernel_rfl) rfl ⟨?_, ?_, trivial⟩
 refine cX (dP (aE (aI rfl))) ?_; clear d
 rintro _ _ ⟨rfl, rfl⟩
 refine ⟨aT, fun d => ?_⟩
 refine bQ 5 (vC (sz := 1) (by_ := 1) (info := Tryz.t5) nf (by kernel_rfl) rfl rfl rfl rfl (by decide) rfl rfl rfl rfl (by decide) (by decide)) ?_; clear d
 rintro _ _ ⟨g, rfl, rfl⟩
 refine ⟨aT, fun d => ?_⟩
 refine kt 6 (by kernel_rfl) rfl rfl (jP wR G3 Gm rfl rfl rfl rfl rfl (by decide) (by decide)) rfl ?_; clear d
 rintro _ _ ⟨p, rfl, rfl⟩
 refine ⟨aT, fun d => ?_⟩
 refine bQ 7 (eE (sz := 1) (by_ := 24) (info := Tryz.t80) wR (by kernel_rfl) rfl rfl rfl rfl (by decide) rfl rfl en rfl rfl (by simp only [maxLen]; omega) (by omega)) ?_; clear d
 rintro _ q ⟨k, f, rfl, e⟩
 obtain rfl := e.symm
 refine ⟨aT, fun d => ?_⟩
 refine aj 8 2 d ?_
 refine cm 10 dX fun d => ?_
 refine hQ ?_
 refine oI (aH (aY (ae rfl (aM rfl) ?_)))
 refine ae rfl (dh rfl rfl (by first | exact cj (by omega) | rfl)) ?_
 refine ae rfl (bC rfl) (aL (aH ?_))
 refine bR (i + 1) ?_ (he := ?_)
 omega
 rw [show List.replicate (i + 1) cC = List.replicate i cC ++ [cC] from QbK]; exact Dr (vs := o) (n := i + 1) (a := k) (c := f) (g2 := g) (ys := List.replicate (64 * 1) (.int .u8 0)) (y := cC) (vi := .slice (some ⟨g, 0, none⟩) 64 64) (fr := List.replicate i cC) rfl rfl (by simp [cC]) (by simp [m]) (by simp)
 skip
 refine cX (vC (sz := 1) (by_ := 1) (info := Tryz.t5) nf (by kernel_rfl) rfl rfl rfl rfl (by decide) rfl rfl rfl rfl (by decide) (by decide)) ?_; clear d
 rintro _ _ ⟨g, rfl, rfl⟩
 refine ⟨aT, fun d => ?_⟩
 refine eD (is := [4, 6]) (by kernel_rfl) rfl ⟨?_, ?_, trivial⟩
 refine cX (dP (aE (aI rfl))) ?_; clear d
 rintro _ _ ⟨rfl, rfl⟩
 refine ⟨aT, fun d => ?_⟩
 refine kt 6 (by kernel_rfl) rfl rfl (jP wR G3 Gm rfl rfl rfl rfl rfl (by decide) (by decide)) rfl ?_; clear d
 rintro _ _ ⟨p, rfl, rfl⟩
 refine ⟨aT, fun d => ?_⟩
 refine bQ 7 (eE (sz := 1) (by_ := 24) (info := Tryz.t80) wR (by kernel_rfl) rfl rfl rfl rfl (by decide) rfl rfl en rfl rfl (by simp only [maxLen]; omega) (by omega)) ?_; clear d
 rintro _ q ⟨k, f, rfl, e⟩
 obtain rfl := e.symm
 refine ⟨aT, fun d => ?_⟩
 refine aj 8 2 d ?_
 refine cm 10 dX fun d => ?_
 refine hQ ?_
 refine oI (aH (aY (ae rfl (aM rfl) ?_)))
 refine ae rfl (dh rfl rfl (by first | exact cj (by omega) | rfl)) ?_
 refine ae rfl (bC rfl) (aL (aH ?_))
 refine bR (i + 1) ?_ (he := ?_)
 omega
 rw [show List.replicate (i + 1) cC = List.replicate i cC ++ [cC] from QbK]; exact Dr (vs := o) (n := i + 1) (a := k) (c := f) (g2 := g) (ys := List.replicate (64 * 1) (.int .u8 0)) (y := cC) (vi := .slice (some ⟨g, 0, none⟩) 64 64) (fr := List.replicate i cC) rfl rfl (by simp [cC]) (by simp [m]) (by simp)
 skip
 refine nU rfl rfl (jP wR G3 Gm rfl rfl rfl rfl rfl (by decide) (by decide)) rfl ?_; clear d
 rintro _ _ ⟨p, rfl, rfl⟩
 refine ⟨aT, fun d => ?_⟩
 refine bY 4 (dP (aE (aI rfl))) fun d => ?_
 refine bQ 7 (eE (sz := 1) (by_ := 24) (info := Tryz.t80) wR (by kernel_rfl) rfl rfl rfl rfl (by decide) rfl rfl en rfl rfl (by simp only [maxLen]; omega) (by omega)) ?_; clear d
 rintro _ q ⟨k, f, rfl, e⟩
 obtain rfl := e.symm
 refine ⟨aT, fun d => ?_⟩
 refine aj 8 2 d ?_
 refine cm 10 dX fun d => ?_
 refine aJ ?_
 refine aa bW ?_
 refine bR (i + 1) ?_ (he := ?_)
 omega
 rw [show List.replicate (i + 1) cC = List.replicate i cC ++ [cC] from QbK]; exact Dr (vs := o) (n := i + 1) (a := k) (c := f) (g2 := g) (ys := List.replicate (64 * 1) (.int .u8 0)) (y := cC) (vi := .slice (some ⟨g, 0, none⟩) 64 64) (fr := List.replicate i cC) rfl rfl (by simp [cC]) (by simp [m]) (by simp)
 refine aw ?_
 refine ax ?_
 have : i = n := by omega
 subst this
 exact ⟨_, ⟨l, rfl, rfl⟩, IO⟩
def kA (p : Pl) : Value := .bool (decide (p ≠ (0, 0)))
abbrev dI (pg : List Pl) : Obj := ag (pg.map kA ++ pg.flatMap eM) 221
theorem Ds {pg sp i} (a : i < pg.length) : ((pg.map kA ++ sp).drop (i * 1)).take 1 = [kA (ew pg i)] := by
 rw [Qaz, List.drop_append_of_le_length (by simp; omega), ← List.map_drop, Qbf a, QaM, Qax, List.take_succ_cons, List.take_zero]
 simp [ew, List.getD, a]
theorem WP {pg i} (h : pg.length = 12) (a : i < 12) : ((pg.map kA ++ pg.flatMap eM).drop (12 + i * 2)).take 2 = eM (ew pg i) := by
 rw [← QcQ, List.drop_left' (by simpa using h)]
 have := Dn (pg := pg) (sp := []) (n := i) (by omega)
 rwa [Qav] at this
theorem Dt : ∀ (d a b : List Value) (c : Nat), d7 (a ++ b) (a.length + c) d = a ++ d7 b c d
 | [], a, b, c => rfl
 | v :: d, a, b, c => by
  rw [d7, d7, QbB _ _ (by omega), show a.length + c - a.length = c by omega, show a.length + c + 1 = a.length + (c + 1) by omega, Dt d]
theorem WQ {a : List Pl} {i p} (h : a.length = 12) (d : i < 12) (b : ll p = true) : d7 ((a.map kA ++ a.flatMap eM).set (i * 1) (.bool true)) (12 + i * 2) (eM p) = (a.set i p).map kA ++ (a.set i p).flatMap eM := by
 have c : kA p = .bool true := by
  have := pK.1 b
  simp only [kA, Value.bool.injEq, Qak]
  intro e; rw [e] at this; simp at this
 rw [Qaz, Qca _ _ (by simp; omega), ← c, ← List.map_set]
 have e := Dt (eM p) ((a.set i p).map kA) (a.flatMap eM) (i * 2)
 rw [show ((a.set i p).map kA).length = 12 by simp [h]] at e
 rw [e]
 have := Ac (pg := a) (sp := []) (n := i) (p := p) (by omega)
 rw [Qav, Qav] at this
 rw [this]
theorem Du n : sQ W0 189 [iQ n] R (.bool (jo n)) R := by
 refine am func189 ntmps189 ?_
 refine bN (fun a => ?_) fun a => ?_
 refine ac ?_
 refine aG ?_
 refine Qah Value.bool ?_
 rw [Qag]; simp only [jo, Qak, Qaq, QaR]; omega
 refine ac ?_
 refine aG ?_
 refine Qah Value.bool ?_
 rw [Qag]; simp only [jo, Qak, Qaq, QaR]; omega
theorem Ai b pg (h : Pgs pg) n p : sQ W0 111 [pQ b, iQ n, .agg (eM p).toArray] (pt b (dI pg) :: R) (iQ (fW pg n p)) (pt b (dI (dL pg n p)) :: R) := by
 have o := h.len
 refine am func111 ntmps111 ?_
 refine bB fun q => ?_
 refine ah (aB NL (Du n)) ?_
 refine cn (fun c => ?_) fun c => ?_
 refine ac ?_
 have a : fW pg n p = 1 := by
  grind [fW]
 exact ⟨_, ⟨by simp [aK, a], by rw [dL, a, Qaa (by decide)]⟩, IO⟩
 refine cn (fun j => ?_) fun j => ?_
 refine ac ?_
 have a : fW pg n p = 1 := by
  unfold fW; rw [Qaa]
  intro d
  have := pK.1 d.2
  first
    | omega
    | (simp [d.1] at c)
 exact ⟨_, ⟨by simp [aK, a], by rw [dL, a, Qaa (by decide)]⟩, IO⟩
 refine cn (fun f => ?_) fun f => ?_
 refine ac ?_
 have a : fW pg n p = 1 := by
  unfold fW; rw [Qaa]
  intro d
  have := pK.1 d.2
  first
    | omega
    | (simp [d.1] at c)
 exact ⟨_, ⟨by simp [aK, a], by rw [dL, a, Qaa (by decide)]⟩, IO⟩
 refine cn (fun g => ?_) fun g => ?_
 refine ac ?_
 have a : fW pg n p = 1 := by
  unfold fW; rw [Qaa]
  intro d
  have := pK.1 d.2
  first
    | omega
    | (simp [d.1] at c)
 exact ⟨_, ⟨by simp [aK, a], by rw [dL, a, Qaa (by decide)]⟩, IO⟩
 refine ai (fun r => ?_) fun r => ?_
 refine ac ?_
 have a : fW pg n p = 1 := by
  unfold fW; rw [Qaa]
  intro d
  have := pK.1 d.2
  first
    | omega
    | (simp [d.1] at c)
 exact ⟨_, ⟨by simp [aK, a], by rw [dL, a, Qaa (by decide)]⟩, IO⟩
 have s : jo n = true := by grind
 have t : ll p = true := pK.2 (by omega)
 obtain ⟨i, e, k⟩ := kz s
 have l := Ds (pg := pg) (sp := pg.flatMap eM) (i := i) (by omega)
 have u : aN pg n = decide (ew pg i ≠ (0, 0)) := by grind [aN]
 refine aa (fB zm iN rfl rfl e k (by first | exact Qac _ | rfl)) ?_
 refine aa (aE (cQ (vs := [kA (ew pg i)]) l rfl 0 _ rfl)) ?_
 refine ai (fun v => ?_) fun v => ?_
 have w : aN pg n = true := by grind
 refine ac ?_
 have a : fW pg n p = 5 := by grind [fW]
 exact ⟨_, ⟨by simp [aK, a], by rw [dL, a, Qaa (by decide)]⟩, IO⟩
 have w : aN pg n = false := by grind
 have a : fW pg n p = 0 := by grind [fW]
 refine aa (fB zm iN rfl rfl e k (by first | exact Qac _ | rfl)) ?_
 refine ar (dt (by grind) rfl) ?_
 refine bz [q] 7 fun m => ?_
 refine aj 0 5 m ?_
 refine az 5 m (fB G4 qd rfl rfl e k (by first | exact Qac _ | rfl)) ?_
 refine cm 6 (iD (by rw [Qap, Qae, Qay, cF ul]; omega) (WQ o k t)) fun m => ?_
 refine aJ ?_
 refine ac ?_
 rw [show dL pg n p = pg.set i p by rw [dL, Qad a, e, Qaf]]
 exact ⟨_, ⟨by simp [aK, a], rfl⟩, IO⟩
theorem un b pg (h : Pgs pg) n : sQ W0 120 [pQ b, iQ n] (pt b (dI pg) :: R) (.tuple #[.agg (eM (bH pg n)).toArray, .bool (aN pg n)]) (pt b (dI pg) :: R) := by
 have j := h.len
 refine am func120 ntmps120 ?_
 refine eH (di pB) fun p => ?_
 refine ae rfl (bC rfl) (aL (aH (aO (aO (aY (ae rfl (aM rfl) (aF rfl (iz NL rfl (Du n)) ?_)))))))
 rintro _ q ⟨rfl, f⟩
 obtain rfl := f.symm
 refine ae rfl (rz rfl) (aL (aH ?_))
 refine aC rfl (fun l => ?_) fun l => ?_
 refine aO ?_
 refine aY (ae rfl (fT Cf pB (aP aS (aP aS fR)) fQ) ?_)
 refine fh (gi qd rfl rfl rfl rfl rfl) ?_
 rintro _ _ rfl
 refine ae rfl (bC rfl) (aL (aH (dE (iP (aV (.cons (b0 ze qd rfl rfl) (.cons (aR rfl) .nil)) ?_)))))
 refine aG ?_
 have m : aN pg n = false := by grind [aN]
 simp [aK, bH, m]
 have o : jo n = true := by grind
 obtain ⟨i, c, g⟩ := kz o
 have d := Ds (pg := pg) (sp := pg.flatMap eM) (i := i) (by omega)
 have e := WP (pg := pg) j g
 refine jk (aH (aO ?_))
 refine fj [(b, 12 + i * 2, eM (ew pg i)), (b, i * 1, [kA (ew pg i)])] 14 mixed rfl (bj (cQ e rfl) (bj (cQ d rfl) aW)) (fun a => ?_)
 refine aj 0 4 a ?_
 refine az 4 a (fB G4 qd rfl rfl c g (by first | exact Qac _ | rfl)) ?_
 refine dr 5 rfl rfl rfl a (iS ze qd rfl (jR (k := 0) rfl) rfl) ?_
 refine dr 6 rfl rfl rfl a (aM rfl) ?_
 refine dr 7 rfl rfl rfl a (aM rfl) ?_
 refine dr 8 rfl rfl rfl a (kL rfl) ?_
 refine dr 9 rfl rfl rfl a (d5 rfl a7B rfl sizeOf219 rfl (by first | exact Qac _ | rfl)) ?_
 refine az 10 a (fB zm iN rfl rfl c g (by first | exact Qac _ | rfl)) ?_
 refine az 11 a (aE (ko (k := 1) rfl)) ?_
 refine iC 12 rfl rfl aA (bj (cQ e rfl) (bj (cQ d rfl) aW)) fun a => ?_
 refine aj 13 1 a ?_
 refine aJ ?_
 refine aV (.cons (b0 ze qd rfl rfl) (.cons (aR rfl) .nil)) ?_
 refine aG ?_
 subst c
 by_cases r : ew pg i = (0, 0)
 grind [aN, aK, bH, kA]
 grind [aN, aK, bH, kA]
theorem WR b pg (h : Pgs pg) n kind : bF Tryz.prog W0 200 [.pointer (some ⟨b, 0, none⟩), .int .i64 n, .int .i64 kind] (pt b (dI pg) :: R)
    (fun v B => v = .int .i64 (eX pg n kind) ∧ B = pt b (dI pg) :: R) := by
 refine CW func200 ntmps200 rfl rfl ?_
 refine aO (aY (ae rfl (bC rfl) (aL (aH (aO (aY (ae rfl (aM rfl) (ae rfl (aM rfl) (aF rfl (ir wU rfl (un b pg h n)) ?_)))))))))
 rintro _ o ⟨rfl, k⟩
 obtain rfl := k.symm
 refine ae rfl (aM rfl) (ae rfl (lE rfl rfl) (ae rfl (lE rfl rfl) (aF rfl (di pB) ?_)))
 rintro _ _ ⟨p, rfl, rfl⟩
 refine fh (gi qd rfl rfl rfl rfl rfl) ?_
 rintro _ _ rfl
 refine ae rfl (bC rfl) (aL (aH (aO (aO (aY (ae rfl (aM rfl) (ae rfl (rz rfl) (aL (aH ?_)))))))))
 refine aC rfl ?_ ?_
 intro l
 refine aO (aY (ae rfl (bC rfl) (aL (aH (dE (iP (bU (.inl rfl) (.cons (aR rfl) .nil) ?_)))))))
 refine ⟨_, ⟨?_, rfl⟩, IO⟩
 have f : aN pg n = false := by simpa using l
 simp [aK, eX, f]
 intro l
 have f : aN pg n = true := by simpa using l
 have q := pK.1 (xv h f)
 have d : bH pg n = ew pg n.toNat := by simp [bH, f]
 refine jk (aH (aO (aO (aY (ae rfl (aM rfl) (ae rfl (iq rfl rfl) (ae rfl (aM rfl) ?_)))))))
 refine iT rfl rfl rfl ?_ ?_
 intro g
 refine ae rfl (aM rfl) (cM rfl rfl (ae rfl (nh rfl rfl) (ae rfl (lR rfl rfl) (ae rfl (aM rfl) ?_))))
 refine dk rfl rfl rfl ?_ ?_
 intro j
 refine fA rfl rfl rfl rfl (fA rfl rfl rfl rfl (pC rfl rfl rfl (pC rfl rfl rfl (pC rfl rfl rfl (pC rfl rfl rfl (fA rfl rfl rfl rfl (ae rfl (lR rfl rfl) (ae rfl (aM rfl) (fA rfl rfl rfl rfl (fA rfl rfl rfl rfl (fA rfl rfl rfl rfl (pC rfl rfl rfl (pC rfl rfl rfl (pC rfl rfl rfl (fA rfl rfl rfl rfl (ae rfl (lR rfl rfl) (aL (aH (zS rfl (aO (aY (ae rfl (bC rfl) (aL ?_)))))))))))))))))))))))
 refine aH (dE (iP (bU (.inl rfl) (.cons (aR rfl) .nil) ?_)))
 refine ⟨_, ⟨?_, rfl⟩, IO⟩
 have e : iV n (ew pg n.toNat) kind = true := by
  rw [← d]; simp only [iV, Qak]
  simp only [Qat (show 0 ≤ (bH pg n).2 by omega)] at *
  omega
 simp [aK, eX, f, e]
 intro j
 refine ae rfl (aM rfl) (cM rfl rfl (ae rfl (iq rfl rfl) (cM rfl rfl (ae rfl (aM rfl) ?_))))
 refine iT rfl rfl rfl ?_ ?_
 intro c
 first | omega | (simp at g c; omega)
 intro c
 refine fA rfl rfl rfl rfl (fA rfl rfl rfl rfl (fA rfl rfl rfl rfl (cM rfl rfl (ae rfl (iR rfl rfl) (ae rfl (iR rfl rfl) (ae rfl (aM rfl) (cM rfl rfl (ae rfl (aM rfl) (cM rfl rfl (ae rfl (iq rfl rfl) (cM rfl rfl (ae rfl (aM rfl) ?_))))))))))))
 refine iT rfl rfl rfl ?_ ?_
 intro a
 first | omega | (simp at g a; omega)
 intro a
 refine fA rfl rfl rfl rfl (fA rfl rfl rfl rfl (cM rfl rfl (ae rfl (iR rfl rfl) (ae rfl (iR rfl rfl) (aL (aH (zT rfl (jk (aH (aO (aY (ae rfl (bC rfl) (aL (aH (dE (bU (.inl rfl) (.cons (aR rfl) .nil) ?_))))))))))))))))
 refine ⟨_, ⟨?_, rfl⟩, IO⟩
 have e : iV n (ew pg n.toNat) kind = false := by
  rw [← d, ← Qau]; simp only [iV, Qak]
  simp only [Qat (show 0 ≤ (bH pg n).2 by omega)] at *
  omega
 simp [aK, eX, f, e]
 intro g
 refine fA rfl rfl rfl rfl (ae rfl (iR rfl rfl) (ae rfl (aM rfl) (cM rfl rfl (ae rfl (aM rfl) (cM rfl rfl (ae rfl (iq rfl rfl) (cM rfl rfl (ae rfl (aM rfl) ?_))))))))
 refine iT rfl rfl rfl ?_ ?_
 intro c
 refine ae rfl (d5 rfl Cf rfl aS rfl (by first | exact Qac _ | rfl)) ?_
 refine cM rfl rfl (ae rfl (co db rfl (aI rfl)) ?_)
 refine cM rfl rfl ?_
 refine ae rfl (dV rfl rfl (by decide) rfl) ?_
 refine cM rfl rfl (ae rfl (iq rfl rfl) (cM rfl rfl (ae rfl (lR rfl rfl) (ae rfl (iR rfl rfl) (ae rfl (aM rfl) ?_)))))
 refine dk rfl rfl rfl ?_ ?_
 intro i
 refine fA rfl rfl rfl rfl (fA rfl rfl rfl rfl (pC rfl rfl rfl (pC rfl rfl rfl (pC rfl rfl rfl (fA rfl rfl rfl rfl (ae rfl (lR rfl rfl) (aL (aH (zS rfl (aO (aY (ae rfl (bC rfl) (aL (aH (dE (iP (bU (.inl rfl) (.cons (aR rfl) .nil) ?_)))))))))))))))))
 refine ⟨_, ⟨?_, rfl⟩, IO⟩
 have e : iV n (ew pg n.toNat) kind = true := by
  rw [← d]; simp only [iV, Qak]
  simp only [Qat (show 0 ≤ (bH pg n).2 by omega)] at *
  omega
 simp [aK, eX, f, e]
 intro i
 refine ae rfl (aM rfl) (cM rfl rfl (ae rfl (iq rfl rfl) (cM rfl rfl (ae rfl (aM rfl) ?_))))
 refine iT rfl rfl rfl ?_ ?_
 intro a
 first | omega | (simp at c a; omega)
 intro a
 refine fA rfl rfl rfl rfl (fA rfl rfl rfl rfl (cM rfl rfl (ae rfl (iR rfl rfl) (ae rfl (iR rfl rfl) (aL (aH (zT rfl (jk (aH (aO (aY (ae rfl (bC rfl) (aL (aH (dE (bU (.inl rfl) (.cons (aR rfl) .nil) ?_))))))))))))))))
 refine ⟨_, ⟨?_, rfl⟩, IO⟩
 have e : iV n (ew pg n.toNat) kind = false := by
  rw [← d, ← Qau]; simp only [iV, Qak]
  simp only [Qat (show 0 ≤ (bH pg n).2 by omega)] at *
  omega
 simp [aK, eX, f, e]
 intro c
 refine fA rfl rfl rfl rfl (fA rfl rfl rfl rfl (fA rfl rfl rfl rfl (cM rfl rfl (ae rfl (iR rfl rfl) (ae rfl (iR rfl rfl) (ae rfl (aM rfl) (cM rfl rfl (ae rfl (aM rfl) (cM rfl rfl (ae rfl (iq rfl rfl) (cM rfl rfl (ae rfl (aM rfl) ?_))))))))))))
 refine iT rfl rfl rfl ?_ ?_
 intro a
 refine ae rfl (d5 rfl Cf rfl aS rfl (by first | exact Qac _ | rfl)) ?_
 refine cM rfl rfl (ae rfl (co db rfl (aI rfl)) ?_)
 refine cM rfl rfl (ae rfl (vl rfl rfl) (cM rfl rfl (ae rfl (lR rfl rfl) (ae rfl (iR rfl rfl) (aL (aH ?_))))))
 refine aC rfl ?_ ?_
 intro m
 refine aO (aY (ae rfl (bC rfl) (aL (aH (dE (iP (bU (.inl rfl) (.cons (aR rfl) .nil) ?_)))))))
 refine ⟨_, ⟨?_, rfl⟩, IO⟩
 have e : iV n (ew pg n.toNat) kind = true := by
  rw [← d]; simp only [iV, Qak]
  simp only [Qat (show 0 ≤ (bH pg n).2 by omega)] at *
  omega
 simp [aK, eX, f, e]
 intro m
 refine jk (aH (aO (aY (ae rfl (bC rfl) (aL (aH (dE (bU (.inl rfl) (.cons (aR rfl) .nil) ?_))))))))
 refine ⟨_, ⟨?_, rfl⟩, IO⟩
 have e : iV n (ew pg n.toNat) kind = false := by
  rw [← d, ← Qau]; simp only [iV, Qak]
  simp only [Qat (show 0 ≤ (bH pg n).2 by omega)] at *
  omega
 simp [aK, eX, f, e]
 intro a
 refine fA rfl rfl rfl rfl (fA rfl rfl rfl rfl (cM rfl rfl (ae rfl (iR rfl rfl) (ae rfl (iR rfl rfl) (aL (aH (zT rfl (jk (aH (aO (aY (ae rfl (bC rfl) (aL (aH (dE (bU (.inl rfl) (.cons (aR rfl) .nil) ?_))))))))))))))))
 refine ⟨_, ⟨?_, rfl⟩, IO⟩
 have e : iV n (ew pg n.toNat) kind = false := by
  rw [← d, ← Qau]; simp only [iV, Qak]
  simp only [Qat (show 0 ≤ (bH pg n).2 by omega)] at *
  omega
 simp [aK, eX, f, e]
theorem xz {n f} : eu n f = true ↔ 0 ≤ f ∧ f < n := by simp [eu]
def vR (d : Nat) : List Value := (List.range 12).map (fun i => .bool (Nat.testBit d i))
abbrev gk (qs qm d : Nat) : Obj := ag (.pointer (some ⟨qs, 0, none⟩) :: .pointer (some ⟨qm, 0, none⟩) :: vR d) 223
theorem Aj qv qs qm d fr pg (h : Pgs pg) (a : Nat) (o : a < 4294967296) w kind : sQ W0 135 [pQ qv, .int .u32 a, iQ w, iQ kind] (pt qv (gk qs qm d) :: cH qs fr :: pt qm (dI pg) :: R) (.tuple #[.agg (jV fr.length pg a w kind).toArray, iQ (dD fr.length pg a w kind)]) (pt qv (gk qs qm d) :: cH qs fr :: pt qm (dI pg) :: R) := by
 refine am func135 ntmps135 ?_
 refine eH (di tV) fun m => ?_
 refine au 3 ?_
 refine cy (fun _ : Unit => et a w = true) (fun _ => [(0, pQ qv), (1, .int .u32 a), (3, iQ kind), (8, pQ m)]) (fun _ => pt m (ag [iQ 0, iQ 0, iQ 0, .bool false] 238) :: pt qv (gk qs qm d) :: cH qs fr :: pt qm (dI pg) :: R) ?_ ?_
 refine au 5 ?_
 refine bN (fun g => ?_) fun g => ?_
 refine bN (fun i => ?_) fun i => ?_
 refine cn (fun e => ?_) fun e => ?_
 refine ar aA ?_
 refine aV (.cons (b0 g8 eU rfl rfl) (.cons (aR rfl) .nil)) ?_
 refine aG ?_
 have c : et a w = false := by
  grind [et]
 have b : dD fr.length pg a w kind = 1 := by simp [dD, c]
 simp [aK, jV, b]
 refine aa (bG (cZ (by omega))) ?_
 refine aa (dV rfl rfl (by omega) (Qat (by omega))) ?_
 refine ai (fun j => ?_) fun j => ?_
 refine ar aA ?_
 refine aV (.cons (b0 g8 eU rfl rfl) (.cons (aR rfl) .nil)) ?_
 refine aG ?_
 have c : et a w = false := by
  rw [← Qau]; simp only [et, Qak]
  rintro ⟨p, u⟩
  first
    | omega
    | (rcases p with rfl | rfl | rfl <;> omega)
 have b : dD fr.length pg a w kind = 1 := by simp [dD, c]
 simp [aK, jV, b]
 have c : et a w = true := by
  simp only [et, Qak]
  refine ⟨by omega, ?_⟩
  have : w = 1 ∨ w = 2 ∨ w = 4 := by omega
  rcases this with rfl | rfl | rfl <;> omega
 exact bq () (c)
 refine aa (bG (cZ (by omega))) ?_
 refine aa (dV rfl rfl (by omega) (Qat (by omega))) ?_
 refine ai (fun j => ?_) fun j => ?_
 refine ar aA ?_
 refine aV (.cons (b0 g8 eU rfl rfl) (.cons (aR rfl) .nil)) ?_
 refine aG ?_
 have c : et a w = false := by
  grind [et]
 have b : dD fr.length pg a w kind = 1 := by simp [dD, c]
 simp [aK, jV, b]
 have c : et a w = true := by
  grind [et]
 exact bq () (c)
 refine aa (bG (cZ (by omega))) ?_
 refine aa (dV rfl rfl (by omega) (Qat (by omega))) ?_
 refine ai (fun j => ?_) fun j => ?_
 refine ar aA ?_
 refine aV (.cons (b0 g8 eU rfl rfl) (.cons (aR rfl) .nil)) ?_
 refine aG ?_
 have c : et a w = false := by
  grind [et]
 have b : dD fr.length pg a w kind = 1 := by simp [dD, c]
 simp [aK, jV, b]
 have c : et a w = true := by
  grind [et]
 exact bq () (c)
 intro _ c
 refine aw ?_
 refine ai (fun q => ?_) fun q => ?_
 refine ar aA ?_
 refine aV (.cons (b0 g8 eU rfl rfl) (.cons (aR rfl) .nil)) ?_
 refine aG ?_
 have b : dD fr.length pg a w kind = 2 := by grind [dD]
 simp [aK, jV, b]
 refine aa (ng rfl rfl (by decide) ((Qah (IntKind.wrap .u32) (qq a 64)).trans (cZ (by omega)))) ?_
 refine aa (bG (cj (by omega))) ?_
 refine ah (ap call200 (WR qm pg h ((a / 64 : Nat) : Int) kind)) ?_
 refine aC rfl (fun r => ?_) fun r => ?_
 refine au 4 ?_
 refine ar aA ?_
 refine aV (.cons (b0 g8 eU rfl rfl) (.cons (aR rfl) .nil)) ?_
 refine aG ?_
 have b : dD fr.length pg a w kind = eX pg ((a / 64 : Nat) : Int) kind := by grind [dD]
 rw [jV, Qaa (by omega), b]; rfl
 have n : eX pg ((a / 64 : Nat) : Int) kind = 0 := by omega
 have k : aN pg ((a / 64 : Nat) : Int) = true := by
  unfold eX at n; split at n
  assumption
  omega
 have v := pK.1 (xv h k)
 refine aw ?_
 refine ah (ap wU (un qm pg h ((a / 64 : Nat) : Int))) ?_
 refine bu fun s => ?_
 refine ar aA ?_
 refine bz [s, qv] 8 fun l => ?_
 refine aj 0 6 l ?_
 refine bY 6 (ap su (qy qs fr _)) fun l => ?_
 refine aj 7 1 l ?_
 refine aJ ?_
 refine ai (fun f => ?_) fun f => ?_
 refine ar aA ?_
 refine aV (.cons (b0 g8 eU rfl rfl) (.cons (aR rfl) .nil)) ?_
 refine aG ?_
 have t : ¬ (bH pg ((a / 64 : Nat) : Int)).1 < fr.length := by
  rw [xz] at f; omega
 have b : dD fr.length pg a w kind = 7 := by grind [dD]
 simp [aK, jV, b]
 refine aa (dV rfl rfl (by decide) (iE a 64)) ?_
 refine aa (bG (cj (by omega))) ?_
 refine ar aA ?_
 refine aV (.cons (b0 g8 eU rfl rfl) (.cons (aR rfl) .nil)) ?_
 refine aG ?_
 have t : (bH pg ((a / 64 : Nat) : Int)).1 < fr.length := by
  rw [xz] at f; omega
 have b : dD fr.length pg a w kind = 0 := by grind [dD]
 simp [aK, jV, b]
theorem WT {a b d n} (h : n < 12) : (a :: b :: vR d).set (2 + n * 1) (.bool true) = a :: b :: vR (d ||| 2 ^ n) := by
 rw [show 2 + n * 1 = n + 1 + 1 by omega, Qck, Qck]
 congr 2
 apply QaP
 simp [vR]
 grind [vR]
theorem WU qv qs qm d fr pg (h : Pgs pg) (i : cz fr) (a : Nat) (e : a < 4294967296) w (x : Nat) (j : x < 4294967296) : sQ W0 56 [pQ qv, .int .u32 a, iQ w, .int .u32 x] (pt qv (gk qs qm d) :: cH qs fr :: pt qm (dI pg) :: R) (iQ (dD fr.length pg a w 2)) (pt qv (gk qs qm (pL fr pg a w d)) :: cH qs (kN fr pg a w x) :: pt qm (dI pg) :: R) := by
 by_cases b : dD fr.length pg a w 2 = 0
 obtain ⟨l, m, k⟩ := xx b
 rw [pL, Qad b, kN, Qad b]
 refine am func56 ntmps56 ?_
 refine ah (cN Gn (Aj qv qs qm d fr pg h a e w 2)) ?_
 rw [k, b]
 refine bu fun g => ?_
 refine iB 10 aA ?_
 refine ai (fun f => ?_) fun f => ?_
 refine bz [qv, g] 11 fun c => ?_
 refine aj 0 10 c ?_
 refine bY 10 (ap Cn (xy qs fr _ _ w x j i)) fun c => ?_
 refine aJ ?_
 refine bz [g] 7 fun c => ?_
 refine aj 0 5 c ?_
 refine az 5 c (eG (by omega)) ?_
 refine cm 6 (dt (by simp [vR]; omega) (WT (by omega))) fun c => ?_
 refine aJ ?_
 exact ac ao
 exact absurd rfl f
 rw [pL, Qaa b, kN, Qaa b]
 refine am func56 ntmps56 ?_
 refine ah (cN Gn (Aj qv qs qm d fr pg h a e w 2)) ?_
 rw [jV, Qaa b]
 refine bu fun g => ?_
 refine ar aA ?_
 refine ai (fun f => ?_) fun f => ?_
 exact absurd f b
 exact ac ao
def j6 (pa n at_ : Nat) : Nat := min (n - at_) (64 - (pa + at_) % 64)
theorem Ih {pa n at_} (h : at_ < n) : 0 < j6 pa n at_ ∧ at_ + j6 pa n at_ ≤ n := by unfold j6; omega
def Dv (pa n at_ : Nat) : List Value := [.int .i64 ((pa + at_) / 64 : Nat), .int .i64 ((pa + at_) % 64 : Nat), .int .i64 (at_ : Nat), .int .i64 (j6 pa n at_ : Nat)]
theorem WV W0 bn bp pa n L (hpa : pa ≤ 100000) (hn : n ≤ 100000) (C : Nat → List HP) (I : Nat → Prop) (h0 : I 0) (Stop : List HP → Prop) (hr : ∀ at_ R, at_ < n → I at_ → qp Tryz.prog W0 L [.agg (Dv pa n at_).toArray] (C at_ ++ R) (fun v B => ∃ b B', v = .bool b ∧ B = B' ++ R ∧ ((b = true ∧ I (at_ + j6 pa n at_) ∧ B' = C (at_ + j6 pa n at_)) ∨ (b = false ∧ Stop B')))) : sP W0 247 [.func (.yield L) #[] #[], pQ bn, pQ bp] (pt bn (ag [iQ n] 3) :: pt bp (ag [iQ pa] 3) :: C 0) (fun v B => v = .tuple #[] ∧ ((I n ∧ B = C n) ∨ Stop B)) := by
 refine am func247 ntmps247 ?_
 refine cW (fun i : Nat => i ≤ n ∧ I i) (fun i => [(0, .func (.yield L) #[] #[]), (1, pQ bn), (2, pQ bp), (4, iQ i)]) (fun i => pt bn (ag [iQ n] 3) :: pt bp (ag [iQ pa] 3) :: C i) (fun i => n - i) 0 ?_ ?_
 grind
 intro i ⟨l, f⟩
 refine aw ?_
 refine ai (fun k => ?_) fun k => ?_
 have g := Ih (pa := pa) (n := n) (at_ := i) (by omega)
 refine aa (dQ (pa + i)) ?_
 refine aa (ng rfl rfl (by decide) ((Qah (IntKind.wrap .i64) (qq (pa + i) 64)).trans (cj (by omega)))) ?_
 refine aa (dQ (pa + i)) ?_
 refine aa (dV rfl rfl (by decide) (iE (pa + i) 64)) ?_
 refine bu fun m => ?_
 refine ar aA ?_
 refine aa (nV (n - i)) ?_
 refine aa (nV (64 - (pa + i) % 64)) ?_
 refine aa (uh rfl rfl (by unfold j6; split <;> omega : (if ((64 - (pa + i) % 64 : Nat) : Int) < ((n - i : Nat) : Int) then ((64 - (pa + i) % 64 : Nat) : Int) else ((n - i : Nat) : Int)) = ((j6 pa n i : Nat) : Int))) ?_
 refine iB 7 dX ?_
 refine D5 rfl rfl rfl (D9 (QaY (l₁ := [_, _, _])) (hr i [_, _, _] (by omega) f)) ?_
 rintro _ o ⟨b, B', rfl, a, j⟩
 obtain rfl := a.symm
 refine qf QaY ?_
 simp only [Qax, Qaw]
 refine aw ?_
 refine aC rfl (fun c => ?_) fun c => ?_
 have d : Stop B' := by
  rcases j with h | h
  exact absurd c (by rw [h.1]; decide)
  exact h.2
 refine aw ?_
 refine bU (.inl rfl) .nil ?_
 exact ⟨_, ⟨rfl, .inr d⟩, IO⟩
 have d : I (i + j6 pa n i) ∧ B' = C (i + j6 pa n i) := by
  rcases j with h | h
  exact h.2
  exact absurd (by rw [h.1]; decide) c
 obtain ⟨e, rfl⟩ := d
 refine aw ?_
 refine aa (dQ (i + j6 pa n i)) ?_
 exact bR (i + j6 pa n i) (⟨by omega, e⟩)
 refine bU (.inr rfl) .nil ?_
 have : i = n := by omega
 subst this
 exact ⟨_, ⟨rfl, .inl ⟨f, rfl⟩⟩, IO⟩
theorem Ii (a n : Nat) : sP W0 170 [iQ a, iQ n] R (fun v B => ∃ b c, v = .func (.func 247) #[] #[pQ b, pQ c] ∧ B = pt b (ag [iQ n] 3) :: pt c (ag [iQ a] 3) :: R) := by
 refine am func170 ntmps170 ?_
 refine dw (jO rfl rfl) fun d => ?_
 refine dw (jO rfl rfl) fun e => ?_
 refine ac ?_
 exact ⟨_, ⟨e, d, rfl, rfl⟩, IO⟩
theorem Ij {W0 A e n' L D bn bp ps asg body} {p b : List HP → Prop} (c n : Nat) (C : Nat → List HP) (I : Nat → Prop) (j : c ≤ 100000) (r : n ≤ 100000)
    (s : A.Perm (pt bn (ag [iQ n] 3) :: pt bp (ag [iQ c] 3) :: C 0)) (t : I 0) (k : I n → p (C n))
    (u : ∀ a R, a < n → I a → qp Tryz.prog W0 L [.agg (Dv c n a).toArray] (dH L ⟨e, n', ps, asg, body, .ready, none, D⟩ :: pt D (.deferred (some [])) :: (C a ++ R))
      (fun v B => (v = .bool true ∧ I (a + j6 c n a) ∧ B = dH L ⟨e, n', ps, asg, body, .ready, none, D⟩ :: pt D (.deferred (some [])) :: (C (a + j6 c n a) ++ R)) ∨
        (v = .bool false ∧ ∃ d, b d ∧ B = dH L ⟨e, n', ps, asg, body, .done, some .ret, D⟩ :: pt D (.deferred (some [])) :: (d ++ R)))) :
    bF Tryz.prog W0 247 (.func (.yield L) #[] #[] :: [pQ bn, pQ bp]) (dH L ⟨e, n', ps, asg, body, .ready, none, D⟩ :: pt D (.deferred (some [])) :: A)
      (fun _ B => (∃ C, B = dH L ⟨e, n', ps, asg, body, .ready, none, D⟩ :: pt D (.deferred (some [])) :: C ∧ p C) ∨ (∃ C, B = dH L ⟨e, n', ps, asg, body, .done, some .ret, D⟩ :: pt D (.deferred (some [])) :: C ∧ b C)) := by
 have g : (dH L ⟨e, n', ps, asg, body, .ready, none, D⟩ :: pt D (.deferred (some [])) :: A).Perm (pt bn (ag [iQ n] 3) :: pt bp (ag [iQ c] 3) :: (dH L ⟨e, n', ps, asg, body, .ready, none, D⟩ :: pt D (.deferred (some [])) :: C 0)) := by
  refine ((s.cons _).cons _).trans ?_
  exact (((List.Perm.swap _ _ _).trans ((List.Perm.swap _ _ _).cons _)).cons _).trans ((List.Perm.swap _ _ _).trans ((List.Perm.swap _ _ _).cons _)) |>.trans (QaN _)
 refine nj g (gQ (WV W0 bn bp c n L j r (fun i => dH L ⟨e, n', ps, asg, body, .ready, none, D⟩ :: pt D (.deferred (some [])) :: C i) I t
   (fun B => ∃ d, b d ∧ B = dH L ⟨e, n', ps, asg, body, .done, some .ret, D⟩ :: pt D (.deferred (some [])) :: d) fun a R l m w x => ?_) ?_)
 obtain ⟨f, h, o, y, z, E⟩ := u a R l m w x
 refine ⟨f, h, o, y, z, RoundIn.mono E ?_⟩
 rintro _ J ⟨v, B, rfl, F, G⟩
 rcases F with ⟨rfl, H, rfl⟩ | ⟨rfl, d, q, rfl⟩
 grind
 grind
 rintro v B ⟨_, ⟨m, rfl⟩ | ⟨d, q, rfl⟩⟩
 exact ⟨_, .inl ⟨_, rfl, k m⟩, ent_refl⟩
 exact ⟨_, .inr ⟨_, rfl, q⟩, ent_refl⟩
def iW (a : Nat) : Int := ((a / 64 : Nat) : Int)
def oN (len : Nat) (pg : List Pl) (pa n : Nat) : Prop := ∀ i, i < n → jB len pg (iW (pa + i)) = true
instance {len : Nat} {pg : List Pl} {pa n : Nat} : Decidable (oN len pg pa n) := by unfold oN; exact Nat.decidableBallLT n _
def j7 (len : Nat) (pg : List Pl) (pa : Nat) (n : Int) : Bool := decide (0 ≤ n ∧ pa ≤ 512 ∧ n ≤ 512 - (pa : Int)) && decide (oN len pg pa n.toNat)
theorem rM {len pg pa n} : j7 len pg pa n = true ↔ (0 ≤ n ∧ pa ≤ 512 ∧ n ≤ 512 - pa) ∧ oN len pg pa n.toNat := by simp [j7]
theorem uo {len pg} {a n : Nat} : j7 len pg a n = true ↔ a + n ≤ 512 ∧ oN len pg a n := by
 grind [rM]
theorem WW {pa n at_ i} (b : at_ ≤ i) (a : i < at_ + j6 pa n at_) : (pa + i) / 64 = (pa + at_) / 64 := by unfold j6 at a; omega
theorem Ik {pa n at_ k} (a : k < j6 pa n at_) : (pa + (at_ + k)) / 64 = (pa + at_) / 64 ∧ (pa + (at_ + k)) % 64 = (pa + at_) % 64 + k := by unfold j6 at a; omega
theorem Il pv ps pm d fr pg (h : Pgs pg) (a : Nat) (s : a < 4294967296) n : sQ W0 88 [pQ pv, .int .u32 a, iQ n] (pt pv (cg ps pm d) :: bD ps fr :: pt pm (bI pg) :: R) (.bool (j7 fr.length pg a n)) (pt pv (cg ps pm d) :: bD ps fr :: pt pm (bI pg) :: R) := by
 refine am func88 ntmps88 ?_
 refine dw (jO rfl rfl) fun l => ?_
 refine dw (rD NM rfl) fun m => ?_
 refine eh 1 (ap Cm (xw pv ps pm d)) ?_
 refine dk rfl rfl rfl (fun e => ?_) fun e => ?_
 exact absurd e (by decide)
 refine aw ?_
 refine cn (fun j => ?_) fun j => ?_
 refine ar dX ?_
 refine aV (.cons (xf nP rfl (aI rfl)) .nil) ?_
 refine aG ?_
 refine Qah Value.bool (QcW ?_)
 rw [← Qau, rM]; omega
 refine cn (fun f => ?_) fun f => ?_
 refine ar dX ?_
 refine aV (.cons (xf nP rfl (aI rfl)) .nil) ?_
 refine aG ?_
 refine Qah Value.bool (QcW ?_)
 rw [← Qau, rM]; omega
 refine aa (bG (by first | exact cj (by omega) | rfl)) ?_
 refine aa gz ?_
 refine ai (fun t => ?_) fun t => ?_
 refine ar dX ?_
 refine aV (.cons (xf nP rfl (aI rfl)) .nil) ?_
 refine aG ?_
 refine Qah Value.bool (QcW ?_)
 rw [← Qau, rM]; omega
 obtain ⟨k, rfl⟩ : ∃ k : Nat, n = (k : Int) := ⟨n.toNat, by omega⟩
 have u : a + k ≤ 512 := by omega
 refine aa (bG (by first | exact cj (by omega) | rfl)) ?_
 refine aF rfl (aB call170 (Ii a k)) ?_
 rintro _ v ⟨B, E, rfl, g⟩
 obtain rfl := g.symm
 refine au 3 ?_
 refine D6 (fun C => oN fr.length pg a k ∧ C = pt pv (cg ps pm d) :: pt m (ag [.bool false] 4) :: pt l (ag [pQ pv] 56) :: bD ps fr :: pt pm (bI pg) :: R) (fun C => ¬ oN fr.length pg a k ∧ C = pt pv (cg ps pm d) :: pt m (ag [.bool false] 4) :: pt l (ag [pQ pv] 56) :: bD ps fr :: pt pm (bI pg) :: R) rfl call247 ?_ ?_ ?_
 intro L D
 refine Ij a k (fun _ => pt pv (cg ps pm d) :: pt m (ag [.bool false] 4) :: pt l (ag [pQ pv] 56) :: bD ps fr :: pt pm (bI pg) :: R) (fun i => oN fr.length pg a i) (by omega) (by omega) zX (fun i w => by omega) (fun x => ⟨x, rfl⟩) ?_
 intro b F y z
 simp only [Qax, Qaw]
 refine A2 rfl rfl ?_
 refine aY (aF rfl (di NC) ?_)
 rintro _ _ ⟨G, rfl, rfl⟩
 refine iB 1 aA ?_
 refine A0 rfl ?_
 refine mm (aO (aY (ae rfl (co Nb rfl (aI rfl)) ?_)))
 refine ae rfl (d5 rfl zp rfl aS rfl (by first | exact Qac _ | rfl)) ?_
 refine ae rfl (co db rfl (aI rfl)) ?_
 refine aF rfl (vq call171 rfl (Ia pv ps pm d fr pg h (((a + b) / 64 : Nat) : Int))) ?_
 rintro _ v ⟨rfl, g⟩
 obtain rfl := g.symm
 refine ae rfl (aM rfl) (ae rfl (lE rfl rfl) (ae rfl (lE rfl rfl) (ae rfl (bC rfl) (ae rfl (bC rfl) (aL (aH (aO (aY (ae rfl (aM rfl) (ae rfl (rz rfl) (aL (aH ?_))))))))))))
 refine aC rfl (fun o => ?_) fun o => ?_
 refine aO ?_
 refine aY (fh (lU iN rfl rfl rfl (Qab rfl) SetL.eq) ?_)
 rintro _ _ rfl
 refine aL (aH (dE (mn (VH ?_))))
 have A : ¬ oN fr.length pg a k := fun q => o (q b y)
 refine ⟨_, .inr ⟨rfl, _, ⟨A, rfl⟩, rfl⟩, ?_⟩
 simp only [Qax]
 exact IO
 refine au 2 ?_
 refine A1 ?_
 have H : jB fr.length pg (iW (a + b)) = true := Qbu.1 o
 have p : oN fr.length pg a (b + j6 a k b) := fun i w => by
  rcases QaC i b with q | q
  exact z i q
  grind [iW, WW]
 exact ⟨_, .inl ⟨rfl, p, rfl⟩, IO⟩
 intro D C r
 obtain ⟨c, rfl⟩ := r
 refine aw ?_
 refine iB 3 dX ?_
 refine vw (.inl rfl) (.cons (xf nP rfl (aI rfl)) .nil) ?_
 refine aG ?_
 refine Qah Value.bool (QcW ?_)
 rw [uo]; exact ⟨u, c⟩
 intro D C r
 obtain ⟨c, rfl⟩ := r
 refine au 2 ?_
 refine vw (.inl rfl) (.cons (xf nP rfl (aI rfl)) .nil) ?_
 refine aG ?_
 refine Qah Value.bool (QcW ?_)
 rw [← Qau, uo]; exact fun q => c q.2
def nr (pg : List Pl) (a : Nat) : Int := (bH pg (iW a)).1
theorem WX W0 R pv ps pm pg (h : Pgs pg) pa n (hpa : pa + n ≤ 512) (dd : Nat → Nat) (ff : Nat → List aD) (DH : Nat → HP) gf us
    (hcall : ∀ args w, (callFunc gf args).run Tryz.prog w = .ok (.enter gf args) w)
    (hdo : ∀ i, i < n → ∀ R', Ent R' R → bF Tryz.prog W0 gf (iQ (nr pg (pa + i)) :: iQ ((pa + i) % 64 : Nat) :: iQ i :: us) (pt pv (cg ps pm (dd i)) :: bD ps (ff i) :: pt pm (bI pg) :: kH 0 (DH i) :: R')
      (fun v B => v = .tuple #[] ∧ B = pt pv (cg ps pm (dd (i + 1))) :: bD ps (ff (i + 1)) :: pt pm (bI pg) :: kH 0 (DH (i + 1)) :: R')) :
    bF Tryz.prog W0 89 [pQ pv, .int .u32 pa, iQ n, .func (.func gf) #[] us.toArray] (pt pv (cg ps pm (dd 0)) :: bD ps (ff 0) :: pt pm (bI pg) :: kH 0 (DH 0) :: R)
      (fun v B => v = .tuple #[] ∧ B = pt pv (cg ps pm (dd n)) :: bD ps (ff n) :: pt pm (bI pg) :: kH 0 (DH n) :: R) := by
 refine am func89 ntmps89 ?_
 refine dw (jO rfl rfl) fun b1 => ?_
 refine dw (jO rfl rfl) fun b2 => ?_
 refine aa (bG (by first | exact cj (by omega) | rfl)) ?_
 refine aF rfl (aB call170 (Ii pa n)) ?_
 rintro _ B_ ⟨bn, bp, rfl, hB_⟩
 obtain rfl := hB_.symm
 refine au 3 ?_
 refine D6 (fun C => C = pt b2 (ag [.func (.func gf) #[] us.toArray] 188) :: pt b1 (ag [pQ pv] 56) :: pt pv (cg ps pm (dd n)) :: bD ps (ff n) :: pt pm (bI pg) :: kH 0 (DH n) :: R) (fun C => False) rfl call247 ?_ ?_ ?_
 intro L D
 refine Ij pa n (fun i => pt b2 (ag [.func (.func gf) #[] us.toArray] 188) :: pt b1 (ag [pQ pv] 56) :: pt pv (cg ps pm (dd i)) :: bD ps (ff i) :: pt pm (bI pg) :: kH 0 (DH i) :: R) (fun i => True) (by omega) (by omega) zX trivial (fun hI => rfl) ?_
 intro at_ R' h1 h2
 simp only [Qax, Qaw]
 refine A2 rfl rfl ?_
 refine aY (aF rfl (di NC) ?_)
 rintro _ _ ⟨b3, rfl, rfl⟩
 refine iB 1 aA ?_
 refine A0 rfl ?_
 refine mm (aO (aY (ae rfl (co Nb rfl (aI rfl)) ?_)))
 refine ae rfl (d5 rfl zp rfl aS rfl (by first | exact Qac _ | rfl)) ?_
 refine ae rfl (co db rfl (aI rfl)) ?_
 refine aF rfl (vq call171 rfl (Ia pv ps pm (dd at_) (ff at_) pg h (((pa + at_) / 64 : Nat) : Int))) ?_
 rintro _ B_ ⟨rfl, hB_⟩
 obtain rfl := hB_.symm
 have hpos := Ih (pa := pa) (n := n) (at_ := at_) h1
 refine ae rfl (aM rfl) (ae rfl (lE rfl rfl) (ae rfl (lE rfl rfl) (ae rfl (bC rfl) (ae rfl (bC rfl) (aL (aH (aO ?_)))))))
 refine fV (r := dH) (b := L) (VL fun HL hHL => ?_)
 refine aY ?_
 refine ae rfl (d5 rfl zp rfl aS rfl (by first | exact Qac _ | rfl)) ?_
 refine ae rfl (co db rfl (aI rfl)) ?_
 refine ae rfl (aM rfl) (aL (aH (mm ?_)))
 refine ge (fun i : Nat => i ≤ j6 pa n at_) (fun i => [(4, .pointer (some ⟨b1, 0, none⟩)), (7, .pointer (some ⟨b2, 0, none⟩)), (8, .pointer (some ⟨b3, 0, none⟩)), (9, .int .i64 (nr pg (pa + at_))), (25, .int .i64 (j6 pa n at_ : Nat)), (26, .int .i64 i)]) (fun i => kH 1 HL :: pt D (.deferred (some [])) :: pt b3 (ag (Dv pa n at_) 311) :: pt b2 (ag [.func (.func gf) #[] us.toArray] 188) :: pt b1 (ag [.pointer (some ⟨pv, 0, none⟩)] 56) :: pt pv (cg ps pm (dd (at_ + i))) :: bD ps (ff (at_ + i)) :: pt pm (bI pg) :: kH 0 (DH (at_ + i)) :: (R ++ R')) (fun i => j6 pa n at_ - i) 0 ?_ ?_ ?_ ?_
 omega
 · repeat (first | exact bK | refine aZ rfl ?_)
 simp only [QbM]; exact inferInstance
 intro i hi
 refine aO (aY (ae rfl (nh rfl rfl) (aL (aH (aO ?_)))))
 refine aC rfl (fun c5 => ?_) fun c5 => ?_
 refine jk ?_
 refine aH (aO (mm (aO (aY (ae rfl (aM rfl) (ae rfl (bC rfl) (aL (aH ?_))))))))
 have hlt : i < j6 pa n at_ := by omega
 have hd := hdo (at_ + i) (by omega)
 rw [show nr pg (pa + (at_ + i)) = nr pg (pa + at_) by rw [nr, iW, (Ik hlt).1]; rfl, (Ik hlt).2] at hd
 refine aY (ae rfl (co isAgg188 rfl (aI rfl)) ?_)
 refine ae rfl (aM rfl) ?_
 refine ae rfl (d5 rfl zp rfl aS rfl (by first | exact Qac _ | rfl)) ?_
 refine ae rfl (co db rfl (aI rfl)) ?_
 refine ae rfl (aM rfl) ?_
 refine ae rfl (dh rfl rfl (by rw [cj (by omega)]; omega : IntKind.wrap .i64 ((((pa + at_) % 64 : Nat) : Int) + (i : Int)) = (((pa + at_) % 64 + i : Nat) : Int))) ?_
 refine ae rfl (d5 rfl zp rfl aS rfl (by first | exact Qac _ | rfl)) ?_
 refine ae rfl (co db rfl (aI rfl)) ?_
 refine ae rfl (aM rfl) (aa (dQ (at_ + i)) ?_)
 refine aF rfl (VJ rfl hcall rfl (hd _ inferInstance)) ?_
 rintro _ B_ ⟨rfl, hB_⟩
 obtain rfl := hB_.symm
 refine aL (oI (aH (aY ?_)))
 refine ae rfl (dh rfl rfl (by first | exact cj (by omega) | rfl)) ?_
 refine ae rfl (aM rfl) (aL (aH ?_))
 refine bR (i + 1) ?_ (he := ?_)
 omega
 simp only [← QbY]; exact inferInstance
 refine au 5 ?_
 have e1 : i = j6 pa n at_ := by omega
 subst e1
 subst hHL
 refine VM ?_
 refine A1 ?_
 exact ⟨_, .inl ⟨rfl, trivial, rfl⟩, IO⟩
 intro D C hC
 obtain rfl := hC
 refine au 1 ?_
 refine vw (.inr rfl) .nil ?_
 exact ao
 intro D C hC
 exact hC.elim
def pM (fr : List aD) (pg : List Pl) (a : Nat) : Nat := kx fr (nr pg a) ((a % 64 : Nat) : Int) 1
def i3 (fr : List aD) (pg : List Pl) (pa n : Nat) : List Nat := (List.range n).map fun i => pM fr pg (pa + i)
def lm (fr : List aD) (pg : List Pl) (pa : Nat) (n : Int) : List Nat := if j7 fr.length pg pa n then i3 fr pg pa n.toNat else []
theorem WY {fr} (a : cz fr) f off : kx fr f off 1 < 256 := by
 unfold kx; split
 rename_i b
 obtain ⟨i, rfl, c⟩ := qx b
 unfold mw; split
 have d := (a.get c).2
 have := vH ((d.drop off.toNat).take (1 : Int).toNat)
 refine QcC this ?_
 have : ((List.drop off.toNat (fr.getD (i : Int).toNat [])).take (1 : Int).toNat).length ≤ 1 := by simp; omega
 exact Qct (by decide) this
 decide
 decide
theorem Dw {fr} (b : cz fr) pg a : pM fr pg a < 256 := WY b _ _
theorem vS fr pg pa n : (i3 fr pg pa n).length = n := by simp [i3]
theorem Dx {fr} (a : cz fr) pg pa n : By (i3 fr pg pa n) := fun b c => by
 obtain ⟨i, _, rfl⟩ := QaX.1 c
 exact Dw a _ _
def nt (f : Nat → Nat) (n i : Nat) : List Nat := (List.range n).map fun j => if j < i then f j else 0
theorem WZ f n i : (nt f n i).length = n := by simp [nt]
theorem X0 f n : bZ (nt f n 0) = List.replicate n (bV 0) := by
 apply QaP <;> simp [nt, bZ]
theorem X9 f n : nt f n n = (List.range n).map f := by
 simp_all [QaP, nt]
theorem Xa {f n i} (a : i < n) : (bZ (nt f n i)).set i (bV (f i)) = bZ (nt f n (i + 1)) := by
 apply QaP
 simp [nt, bZ]
 grind [nt, bZ]
theorem Xb {f n i} (a : i < n) : (bZ (nt f n i)).set (i * 1) (bV (f i)) = bZ (nt f n (i + 1)) := by rw [Qaz]; exact Xa a
abbrev Dy (pv b1 b2 g n i : Nat) (f : Nat → Nat) : HP := cq [pt b1 (ag [.pointer (some ⟨pv, 0, none⟩)] 56), pt b2 (ag [.slice (some ⟨g, 0, none⟩) n n] 80), pt g (ag (bZ (nt f n i)) 5)]
theorem Xc W0 R pv ps pm d b1 b2 g n i fr pg (a : cz fr) pa (b : i < n) (e : n ≤ 512) : sQ W0 90 [iQ (nr pg (pa + i)), iQ ((pa + i) % 64 : Nat), iQ i, pQ b1, pQ b2] (pt pv (cg ps pm d) :: bD ps fr :: pt pm (bI pg) :: kH 0 (Dy pv b1 b2 g n i (fun j => pM fr pg (pa + j))) :: R) (.tuple #[]) (pt pv (cg ps pm d) :: bD ps fr :: pt pm (bI pg) :: kH 0 (Dy pv b1 b2 g n (i + 1) (fun j => pM fr pg (pa + j))) :: R) := by
 have c := Dw a pg (pa + i)
 refine nj (ud (r1 := kH) (b1 := 0)) (pG ?_)
 simp only [Qax, Qaw]
 refine am func90 ntmps90 ?_
 refine ah (ap call91 (I6 ps fr _ _ 1 a)) ?_
 refine aa (bG (CX (by grind [kx, nr, pM]))) ?_
 refine aa (bM b) ?_
 refine ar (dt (by rw [gE, WZ]; omega) (Xb (f := fun j => pM fr pg (pa + j)) b)) ?_
 refine bU (.inr rfl) .nil ?_
 exact ao
theorem Xd pv ps pm d fr pg (h : Pgs pg) (r : cz fr) (b : Nat) (e : b < 4294967296) n : sP W0 29 [pQ pv, .int .u32 b, iQ n] (pt pv (cg ps pm d) :: bD ps fr :: pt pm (bI pg) :: R) (fun v B => ∃ a c, v = .tuple #[.slice a (lm fr pg b n).length c, .bool (j7 fr.length pg b n)] ∧ B = osl 5 1 (.slice a (lm fr pg b n).length c) (bZ (lm fr pg b n)) :: pt pv (cg ps pm d) :: bD ps fr :: pt pm (bI pg) :: R) := by
 by_cases l : j7 fr.length pg b n = true
 obtain ⟨k, rfl⟩ : ∃ k : Nat, n = (k : Int) := ⟨n.toNat, by have := (rM.1 l).1; omega⟩
 obtain ⟨s, _⟩ := uo.1 l
 have o : lm fr pg b (k : Int) = i3 fr pg b k := by grind [lm]
 rw [o, vS, l]
 refine am func29 ntmps29 ?_
 refine dw (jO rfl rfl) fun m => ?_
 refine ah (cN call88 (Il pv ps pm d fr pg h b e k)) ?_
 refine ai (fun f => ?_) fun f => ?_
 exact absurd l f
 refine dw (vC (sz := 1) (by_ := 1) (info := Tryz.t5) nf (by kernel_rfl) rfl rfl rfl rfl (by decide) rfl rfl rfl rfl (by omega) (by decide)) fun p => ?_
 refine dw (rD Gm rfl) fun q => ?_
 refine ar dX ?_
 rw [show List.replicate (k * 1) (Value.int .u8 0) = bZ (nt (fun j => pM fr pg (b + j)) k 0) by rw [X0, Qaz]; rfl]
 refine ah (rF inferInstance (aB call89 (WX W0 R pv ps pm pg h b k s (fun _ => d) (fun _ => fr) (fun i => Dy pv m q p k i (fun j => pM fr pg (b + j))) 90 [pQ m, pQ q] call90 (fun i t u w => Xc W0 u pv ps pm d m q p k i fr pg r b t (by omega))))) ?_
 refine A5 ?_
 simp only [Qax, Qaw]
 refine aw ?_
 refine ax ?_
 rw [X9]
 exact ⟨_, ⟨some ⟨p, 0, none⟩, k, rfl, rfl⟩, VN (by simp only [maxLen]; omega) (by simp_all [Qaz, gE, vS])⟩
 have o : lm fr pg b n = [] := by grind [lm]
 have g : j7 fr.length pg b n = false := by grind
 rw [o, g]
 refine am func29 ntmps29 ?_
 refine dw (jO rfl rfl) fun m => ?_
 refine ah (cN call88 (Il pv ps pm d fr pg h b e n)) ?_
 refine ai (fun f => ?_) fun f => ?_
 refine ax ?_
 exact ⟨_, ⟨none, 0, rfl, rfl⟩, fm⟩
 exact absurd (by rw [g]; decide) f
def jp (d n : Nat) : List Nat := (List.range n).filter fun i => Nat.testBit d i
def xA (n : Nat) : Value := .int .i64 (n : Int)
def vT (l : List Nat) : List Value := l.map xA
theorem Io d n : jp d (n + 1) = jp d n ++ (if Nat.testBit d n then [n] else []) := by
 grind [jp, List.range_succ]
theorem Ip d n : (jp d n).length ≤ n := by
 grind [QaL, Nat.testBit, List.range, jp]
theorem Iq pv ps pm d (m : d < 4096) : sP W0 78 [pQ pv] (pt pv (cg ps pm d) :: R) (fun v B => ∃ a c, v = .slice a (jp d 12).length c ∧ B = osl 3 1 (.slice a (jp d 12).length c) (vT (jp d 12)) :: pt pv (cg ps pm 0) :: R) := by
 refine am func78 ntmps78 ?_
 refine eh 2 (ap Cm (xw pv ps pm d)) ?_
 refine aC rfl (fun e => ?_) fun e => ?_
 exact absurd e (by decide)
 refine aw ?_
 refine ge (fun x : Nat × Option Addr × Nat => x.1 ≤ 12) (fun x => [(0, pQ pv), (3, .slice x.2.1 (jp d x.1).length x.2.2), (7, iQ x.1)]) (fun x => osl 3 1 (.slice x.2.1 (jp d x.1).length x.2.2) (vT (jp d x.1)) :: pt pv (cg ps pm d) :: R) (fun x => 12 - x.1) (0, none, 0) ?_ ?_ ?_ ?_
 simp
 · repeat (first | exact bK | refine aZ rfl ?_)
 exact fm
 intro ⟨i, a, c⟩ hi
 dsimp only at hi ⊢
 have n := Ip d i
 refine aw ?_
 refine ai (fun h => ?_) fun h => ?_
 refine aa (j5 rfl rfl (by omega) (jU (by simp [IntKind.bits]; omega))) ?_
 refine aa (eC rfl rfl (lh (b := 1) (QaI (QbQ _ _) (by omega)) (by omega))) ?_
 refine ai (fun j => ?_) fun j => ?_
 have k : Nat.testBit d i = true := by
  grind
 have f : jp d (i + 1) = jp d i ++ [i] := by grind [Io]
 refine dw (jP eJ aS ml rfl rfl rfl rfl rfl (by decide) (by decide)) fun o => ?_
 refine aF rfl (eE (sz := 1) (by_ := 8) (info := Tryz.t3) eJ (by kernel_rfl) rfl rfl rfl rfl (by decide) rfl rfl en rfl rfl (by simp only [maxLen]; omega) (by omega)) ?_
 rintro _ _ ⟨g, e, rfl, rfl⟩
 refine aw ?_
 refine aa bW ?_
 refine x9 (i + 1, g, e) ?_ ?_ ?_ ?_
 omega
 omega
 · simp only [f, Qae, QaK, Qbr]; repeat (first | exact bK | refine aZ rfl ?_)
 simp only [f, vT, QaH, QaM, Qcg, xA, Qae, QaK, Qbr]; exact inferInstance
 have k : ¬ Nat.testBit d i = true := by
  grind
 have f : jp d (i + 1) = jp d i := by grind [Io]
 obtain ⟨g, rfl⟩ : ∃ x, x = a := ⟨a, rfl⟩
 obtain ⟨e, rfl⟩ : ∃ x, x = c := ⟨c, rfl⟩
 refine aa bW ?_
 refine x9 (i + 1, g, e) ?_ ?_ ?_ ?_
 omega
 omega
 · simp only [f, Qae, QaK, Qbr]; repeat (first | exact bK | refine aZ rfl ?_)
 simp only [f, vT, QaH, QaM, Qcg, xA, Qae, QaK, Qbr]; exact inferInstance
 refine ar dX ?_
 refine ac ?_
 have l : i = 12 := by omega
 subst l
 exact ⟨_, ⟨a, c, rfl, rfl⟩, IO⟩
theorem xB {len pg n} : jB len pg n = true ↔ aN pg n = true ∧ n < 8 ∧ (bH pg n).1 < len := by
 grind [jB]
def uq (len : Nat) (pg : List Pl) (a : Nat) : Value := if jB len pg (iW a) then .tuple #[.int .i64 (nr pg a), .int .i64 (a % 64 : Nat), .bool true] else .tuple #[.int .i64 0, .int .i64 0, .bool false]
theorem Ir qv qs qm d fr pg (h : Pgs pg) (b : Nat) (i : b < 4294967296) : sQ W0 463 [pQ qv, iQ b] (pt qv (gk qs qm d) :: cH qs fr :: pt qm (dI pg) :: R) (uq fr.length pg b) (pt qv (gk qs qm d) :: cH qs fr :: pt qm (dI pg) :: R) := by
 refine am func463 ntmps463 ?_
 refine aa (ng rfl rfl (by decide) ((Qah (IntKind.wrap .i64) (qq b 64)).trans (cj (by omega)))) ?_
 refine ai (fun j => ?_) fun j => ?_
 refine aV (.cons (aR rfl) (.cons (aR rfl) (.cons (aR rfl) .nil))) ?_
 refine aG ?_
 have c : jB fr.length pg (iW b) = false := by
  rw [← Qau]; rw [xB, iW]; rintro ⟨_, q, _⟩; omega
 simp [aK, uq, c]
 refine ah (ap wU (un qm pg h ((b / 64 : Nat) : Int))) ?_
 refine bu fun k => ?_
 refine ar aA ?_
 refine bz [k, qv] 12 fun e => ?_
 refine aj 0 3 e ?_
 refine mp (t := 25) rfl ?_ ?_
 intro a
 refine aj 3 9 e ?_
 refine aJ ?_
 refine aV (.cons (aR rfl) (.cons (aR rfl) (.cons (aR rfl) .nil))) ?_
 refine aG ?_
 have c : jB fr.length pg (iW b) = false := by
  rw [← Qau]; rw [xB, iW]
  rintro ⟨f, l, m⟩
  first
    | exact a f
    | (have n := pK.1 (xv h f); rw [xz] at g; omega)
 simp [aK, uq, c]
 intro a
 refine aj 3 6 e ?_
 refine bY 9 (ap su (qy qs fr _)) fun e => ?_
 refine aj 10 2 e ?_
 refine aJ ?_
 refine ai (fun g => ?_) fun g => ?_
 refine aV (.cons (aR rfl) (.cons (aR rfl) (.cons (aR rfl) .nil))) ?_
 refine aG ?_
 have c : jB fr.length pg (iW b) = false := by
  rw [← Qau]; rw [xB, iW]
  rintro ⟨f, l, m⟩
  first
    | exact a f
    | (have n := pK.1 (xv h f); rw [xz] at g; omega)
 simp [aK, uq, c]
 refine aa (dV rfl rfl (by decide) (iE b 64)) ?_
 refine aV (.cons (aR rfl) (.cons (aR rfl) (.cons (aR rfl) .nil))) ?_
 refine aG ?_
 have c : jB fr.length pg (iW b) = true := by
  grind [xB, iW, xz]
 rw [uq, Qad c]; rfl
def Dz (len : Nat) (pg : List Pl) (a : Nat) : Int := if jB len pg (iW a) then nr pg a else 0
def DC (len : Nat) (pg : List Pl) (a : Nat) : Int := if jB len pg (iW a) then ((a % 64 : Nat) : Int) else 0
theorem Iu {len pg a} : uq len pg a = .tuple #[iQ (Dz len pg a), iQ (DC len pg a), .bool (jB len pg (iW a))] := by
 grind [uq, Dz, DC]
theorem Xe {len pg a} (h : jB len pg (iW a) = true) : Dz len pg a = nr pg a := Qad h
theorem Xf {len pg a} (h : jB len pg (iW a) = true) : DC len pg a = (a % 64 : Nat) := Qad h
theorem Iv qv qs qm d fr pg (h : Pgs pg) (a : Nat) (g : a < 4294967296) n : sQ W0 462 [pQ qv, .int .u32 a, iQ n] (pt qv (gk qs qm d) :: cH qs fr :: pt qm (dI pg) :: R) (.bool (j7 fr.length pg a n)) (pt qv (gk qs qm d) :: cH qs fr :: pt qm (dI pg) :: R) := by
 refine am func462 ntmps462 ?_
 refine cn (fun b => ?_) fun b => ?_
 refine ac ?_
 refine aG ?_
 refine Qah Value.bool (QcW ?_)
 rw [← Qau, rM]; omega
 refine cn (fun c => ?_) fun c => ?_
 refine ac ?_
 refine aG ?_
 refine Qah Value.bool (QcW ?_)
 rw [← Qau, rM]; omega
 refine aa (bG (by first | exact cj (by omega) | rfl)) ?_
 refine aa gz ?_
 refine ai (fun l => ?_) fun l => ?_
 refine ac ?_
 refine aG ?_
 refine Qah Value.bool (QcW ?_)
 rw [← Qau, rM]; omega
 obtain ⟨k, rfl⟩ : ∃ k : Nat, n = (k : Int) := ⟨n.toNat, by omega⟩
 have m : a + k ≤ 512 := by omega
 refine cW (fun i : Nat => i ≤ k ∧ oN fr.length pg a i) (fun i => [(0, pQ qv), (1, .int .u32 a), (2, iQ k), (7, iQ i)]) (fun i => pt qv (gk qs qm d) :: cH qs fr :: pt qm (dI pg) :: R) (fun i => k - i) 0 ?_ ?_
 exact ⟨QaG _, fun i o => by omega⟩
 intro i ⟨o, f⟩
 refine aw ?_
 refine ai (fun p => ?_) fun p => ?_
 refine aa (bG (cj (by omega))) ?_
 refine aa (dQ (a + i)) ?_
 refine kv (cN call463 (Ir qv qs qm d fr pg h (a + i) (by omega))) ?_
 rw [Iu]
 refine aw ?_
 refine aC rfl (fun e => ?_) fun e => ?_
 refine au 11 ?_
 refine ac ?_
 refine aG ?_
 refine Qah Value.bool (QcW ?_)
 rw [← Qau, uo]; exact fun q => e (q.2 i (by omega))
 refine aw ?_
 refine aa bW ?_
 refine bR (i + 1) ?_
 exact ⟨by omega, fun j r => by
  rcases QaC j i with q | q
  exact f j q
  rw [show j = i by omega]; exact Qbu.1 e⟩
 refine ac ?_
 refine aG ?_
 refine Qah Value.bool (QcW ?_)
 rw [uo]; exact ⟨m, by rw [show k = i by omega]; exact f⟩
theorem Xg qv qs qm d fr pg (h : Pgs pg) (o : cz fr) (b : Nat) (g : b < 4294967296) n : sP W0 435 [pQ qv, .int .u32 b, iQ n] (pt qv (gk qs qm d) :: cH qs fr :: pt qm (dI pg) :: R) (fun v B => ∃ a c, v = .tuple #[.slice a (lm fr pg b n).length c, .bool (j7 fr.length pg b n)] ∧ B = osl 5 1 (.slice a (lm fr pg b n).length c) (bZ (lm fr pg b n)) :: pt qv (gk qs qm d) :: cH qs fr :: pt qm (dI pg) :: R) := by
 by_cases f : j7 fr.length pg b n = true
 obtain ⟨k, rfl⟩ : ∃ k : Nat, n = (k : Int) := ⟨n.toNat, by have := (rM.1 f).1; omega⟩
 obtain ⟨t, j⟩ := uo.1 f
 have m : lm fr pg b (k : Int) = i3 fr pg b k := by grind [lm]
 rw [m, vS, f]
 refine am func435 ntmps435 ?_
 refine ah (cN call462 (Iv qv qs qm d fr pg h b g k)) ?_
 refine ai (fun e => ?_) fun e => ?_
 exact absurd f e
 refine ge (fun x : Nat × Option Addr × Nat => x.1 ≤ k) (fun x => [(0, pQ qv), (1, .int .u32 b), (2, iQ k), (8, .slice x.2.1 x.1 x.2.2), (9, iQ x.1)]) (fun x => osl 5 1 (.slice x.2.1 x.1 x.2.2) (bZ (i3 fr pg b x.1)) :: pt qv (gk qs qm d) :: cH qs fr :: pt qm (dI pg) :: R) (fun x => k - x.1) (0, none, 0) ?_ ?_ ?_ ?_
 simp
 · repeat (first | exact bK | refine aZ rfl ?_)
 exact fm
 intro ⟨i, a, c⟩ hi
 dsimp only at hi ⊢
 refine aw ?_
 refine ai (fun r => ?_) fun r => ?_
 have p := j i (by omega)
 have u := Dw o pg (b + i)
 refine aa (bG (cj (by omega))) ?_
 refine aa (dQ (b + i)) ?_
 refine kv (cN call463 (Ir qv qs qm d fr pg h (b + i) (by omega))) ?_
 rw [Iu, Xe p, Xf p]
 refine aw ?_
 refine eh 10 (ap Gp (Ah qs fr _ _ 1 o)) ?_
 refine aa (bG (CX (by rw [show kx fr (nr pg (b + i)) (((b + i) % 64 : Nat) : Int) 1 = pM fr pg (b + i) from rfl]; omega))) ?_
 refine dw (jP nf pz zeroValue5 rfl rfl rfl rfl rfl (by decide) (by decide)) fun w => ?_
 refine aF rfl (eE (sz := 1) (by_ := 1) (info := Tryz.t5) nf (by kernel_rfl) rfl rfl rfl rfl (by decide) rfl rfl en rfl rfl (by simp only [maxLen]; omega) (by omega)) ?_
 rintro _ _ ⟨q, e, rfl, rfl⟩
 refine aw ?_
 refine aa bW ?_
 refine bR (i + 1, q, e) ?_ (he := ?_)
 omega
 rw [show i3 fr pg b (i + 1) = i3 fr pg b i ++ [pM fr pg (b + i)] by simp [i3, List.range_succ], Db]; exact (inferInstanceAs (Ent _ (osl 5 1 (.slice q (i + 1) e) (bZ (i3 fr pg b i) ++ [Value.int .u8 ((kx fr (nr pg (b + i)) (((b + i) % 64 : Nat) : Int) 1 : Nat) : Int)]) :: pt qv (gk qs qm d) :: cH qs fr :: pt qm (dI pg) :: R)))
 refine ax ?_
 have s : i = k := by omega
 subst s
 exact ⟨_, ⟨a, c, rfl, rfl⟩, IO⟩
 have m : lm fr pg b n = [] := by rw [lm, Qaa f]
 have l : j7 fr.length pg b n = false := by simpa using f
 rw [m, l]
 refine am func435 ntmps435 ?_
 refine ah (cN call462 (Iv qv qs qm d fr pg h b g n)) ?_
 refine ai (fun e => ?_) fun e => ?_
 refine ax ?_
 exact ⟨_, ⟨none, 0, rfl, rfl⟩, fm⟩
 exact absurd (by rw [l]; decide) e
section
variable {rd : Option Nat} {P : Program} {S : World → Prop} {W0 : World} {N : FSz} {Q : Exit → Act → World → Prop} {e : bi} {A B R : List HP} {ops : Array Oper} {rest : List Oper}
variable {op : Op} {ty t t' : TypeId} {pos : String} {af : Array Edge} {v u : Value} {d b off : Nat} {x y z : Operand} {l l' vs : List Value} {L : Nat} {xr : RecX}
theorem xC {E n : Nat} {ps} (p : P.underlying t = some (.array n E)) (q : ∀ w, (sizeOf E).run P w = .ok 1 w) (r : ∀ w, (zeroValue t).run P w = .ok (.agg l.toArray) w)
    (k : fP e (ps.toList.map (·.2)) = some vs) (m : ps.toList.map (·.1) = List.range' 0 ps.toList.length) (o : fi vs = true) (s : vs.length = l.length) : bT P S N e (.build t ps) (.agg vs.toArray) := fun a w _ _ _ _ _ u _ => by
 have y := CV ps.toList 0 vs k m o
 have g := CU (fun x v h => u.eval h) ps.toList vs [] l (by omega) s.symm
 simp only [Qaz, Qaw] at g
 have z : Instr.build t (ps.map fun (i, x) => (i, a.eval x)) = (do
     let zero := (← zeroValue t).cells
     match ← underlying t with
     | .struct c =>
       let d ← c.mapM sJ
       let some b := Instr.fill (d[·]?) zero (ps.map fun (i, x) => (i, a.eval x)).toList | stuck "build: no such field, or a part of the wrong size"
       pure (.agg b)
     | .array _ j =>
       let f ← sizeOf j
       let some b := Instr.fill (fun i => some (i * f, f)) zero (ps.map fun (i, x) => (i, a.eval x)).toList | stuck "build: a part of the wrong size"
       pure (.agg b)
     | _ => stuck "build: struct or array type expected") := rfl
 simp only [execOp, z, Sem.run_bind, r, eW p, q, Result.andThen_ok, Value.cells, Sem.run_pure, Qci, Qaz]
 rw [g]; rfl
theorem Iw {E n : Nat} {k i} {j : Nat} (c : P.underlying t = some (.array n E)) (d : ∀ w, (sizeOf E).run P w = .ok 1 w) (f : ∀ w, (isAgg E).run P w = .ok false w) (g : ev e x = some (.agg l.toArray)) (h : ev e y = some (.int k i))
    (m : i = j) (r : j < n) (o : l[j]? = some v) : bT P S N e (.index t x y) v := fun a w _ _ _ _ _ b _ => by
 subst m
 have p : (0 : Int) ≤ (j : Int) ∧ (j : Int) < (n : Int) := by omega
 have q : j < l.length := by
  grind
 simp only [execOp, Instr.index, b.eval g, b.eval h, asIntOf, Sem.run_bind, Sem.run_pure, Result.andThen_ok, eW c, p, and_self, QbL, d, Qaf, Qaz]
 rw [vn f o]; rfl
theorem DD {c} (h : av W0 N (c.wpR none P (Exit.noGoto Q)) e A) : av W0 N ((Code.scope c).wpR none P Q) e A := fun a w b d => CJ.2 (wp_scope_straight (CJ.1 (h a w b d)))
instance a9q [h : POk Q] : POk (Exit.noGoto Q) := ⟨fun c a d v w k => h.ok c a d v w k⟩
theorem rN (h : av W0 N (Ex Q .ret) e A) : av W0 N (Ex (Exit.noGoto Q) .ret) e A := h
theorem Ix {id Post} [h : Tk dH L A xr R] (f : ∃ B, Post (.bool false) B ∧ Ent (dH L { xr with st := .done, pe := some (.exit id) } :: R) B) : av W0 N (Ex (vA P W0 L Post) (.exit id)) e A := by
 intro a w m g
 obtain ⟨n, d, i, j, c⟩ := (g.tk (r := dH) (b := L)).loopRec
 obtain ⟨B, k, l⟩ := f
 exact ⟨_, _, run_endRound (some (.exit id)) c.has.2, _, B, rfl, k, Own.ent (Own.toRec (x := { xr with st := .done, pe := some (.exit id) }) i j (c.turn _)) l⟩
theorem Xh {n gf : Nat} {g ps asg body lb} id (Go Stop : List HP → Prop) (hg : ev e g = some (.func (.func gf) #[] lb.toArray))
    (hc : ∀ args w, (callFunc gf args).run P w = .ok (.enter gf args) w)
    (hs : ∀ L D, bF P W0 gf (.func (.yield L) #[] #[] :: lb) (dH L ⟨e, n, ps, asg, body, .ready, none, D⟩ :: pt D (.deferred (some [])) :: A)
      (fun _ B => (∃ C, B = dH L ⟨e, n, ps, asg, body, .ready, none, D⟩ :: pt D (.deferred (some [])) :: C ∧ Go C) ∨ (∃ C, B = dH L ⟨e, n, ps, asg, body, .done, some (.exit id), D⟩ :: pt D (.deferred (some [])) :: C ∧ Stop C)))
    (hgo : ∀ D C, Go C → av W0 ⟨n, [pF D]⟩ (Ex Q .normal) e (pt D (.deferred (some [])) :: C))
    (hstop : ∀ D C, Stop C → av W0 ⟨n, [pF D]⟩ (Ex Q (.exit id)) e (pt D (.deferred (some [])) :: C)) :
    av W0 ⟨n, []⟩ ((Code.rangeFunc g ps asg body).wpR none P Q) e A := by
 intro a w hF hO
 refine wpIn_rangeFunc (F := FW none) (n := 0) ?_
 intro fn _
 have hO1 : Own W0 ((w.alloc (.deferred (some []))).alloc (.loop ((⟨e, n, ps, asg, body, .ready, none, w.heap.size⟩ : RecX).loop fn a.tmps))) (dH (w.heap.size + 1) ⟨e, n, ps, asg, body, .ready, none, w.heap.size⟩ :: pt w.heap.size (.deferred (some [])) :: A) := by
  refine Own.toRec (fn := fn) hF.size hF.at_ ?_
  have h1 := (hO.new (.deferred (some []))).new (.loop ((⟨e, n, ps, asg, body, .ready, none, w.heap.size⟩ : RecX).loop fn a.tmps))
  have e1 : (w.heap.push (.deferred (some []))).size = w.heap.size + 1 := by simp
  simp only [e1] at h1
  exact h1
 have hent := run_enterLoop_outer (P := P) (w := w) fn a.tmps ps asg body
 generalize hW1 : (w.alloc (.deferred (some []))).alloc (.loop ((⟨e, n, ps, asg, body, .ready, none, w.heap.size⟩ : RecX).loop fn a.tmps)) = W1 at hO1
 rw [show (w.alloc (.deferred (some []))).alloc (.loop { state := .ready, pending := none, fn, tmps := a.tmps, params := ps, assign := asg, body, defers := w.heap.size }) = W1 from hW1] at hent
 have hF' : ∀ D, Fr { a with defers := [pF D] ++ a.defers } ⟨n, [pF D]⟩ e := fun D => ⟨by simp [hF.defers], hF.size, hF.at_⟩
 refine ⟨w.heap.size + 1, [{ target := .collected w.heap.size, args := #[] }], W1, { target := .fn (.func gf) lb.toArray, args := #[.func (.yield (w.heap.size + 1)) #[] #[]] }, W1, gf,
   #[.func (.yield (w.heap.size + 1)) #[] #[]] ++ lb.toArray, W1, hent, ?_, fun _ _ => trivial, ?_, fun h => (by cases h), ?_⟩
 have hgv := hF.eval hg
 simp only [resolve, hgv]
 simp [go_sem]
 simp [invoke, go_sem, hc]
 refine zJ.2 ?_
 have e2 : (#[.func (.yield (w.heap.size + 1)) #[] #[]] ++ lb.toArray : Array Value) = (.func (.yield (w.heap.size + 1)) #[] #[] :: lb).toArray := by simp
 rw [e2]
 refine Calls.mono (hs (w.heap.size + 1) w.heap.size _ hO1) ?_
 rintro _ w' ⟨v, B, rfl, hp, hO2⟩
 rcases hp with ⟨C, rfl, hC⟩ | ⟨C, rfl, hC⟩
 obtain ⟨fn', tmps', h1, h2, hO3⟩ := hO2.loopRec
 refine ⟨none, _, run_endLoop hO3.has.2 (by simp [RecX.loop]), ?_⟩
 exact hgo _ C hC _ _ (hF' _) (hO3.turn _).drop
 obtain ⟨fn', tmps', h1, h2, hO3⟩ := hO2.loopRec
 refine ⟨some (.exit id), _, run_endLoop hO3.has.2 (by simp [RecX.loop]), ?_⟩
 exact wpIn_exit (hstop _ C hC _ _ (hF' _) (hO3.turn _).drop)
theorem Al {E n c sz : Nat} {a ys K} [h : Tk (osl E sz) (.slice a n c) A ys R] (k : n ≤ c ∧ c ≤ maxLen → av W0 N K e A) : av W0 N K e A := fun d w i f => by
 refine k ?_ d w i f
 rcases (f.tk (r := osl E sz) (b := .slice a n c)).osl with ⟨j, l, _⟩ | ⟨g, o, m, p, j, l, q, _, _, _⟩
 grind
 grind
theorem vU {a ys} (h : xp a ys) (b : ys ≠ []) : ∃ g, a = some ⟨g, 0, none⟩ := by
 rcases h with ⟨_, q⟩ | q
 grind
 exact q
end
abbrev fF (pv ps pm d : Nat) (fr : List aD) (pg : List Pl) (R : List HP) : List HP := pt pv (cg ps pm d) :: bD ps fr :: pt pm (bI pg) :: R
abbrev iF (qv qs qm d : Nat) (fr : List aD) (pg : List Pl) (R : List HP) : List HP := pt qv (gk qs qm d) :: cH qs fr :: pt qm (dI pg) :: R
def gm (page : Int) (i : Nat) : Nat := 64 * page.toNat + 4 * (i % 16)
def eI (len : Nat) (pg : List Pl) (page : Int) (i : Nat) : Bool := decide (0 ≤ page ∧ page < 8) && j7 len pg (gm page i) 4
theorem qz {len pg page i} : eI len pg page i = true ↔ (0 ≤ page ∧ page < 8) ∧ j7 len pg (gm page i) 4 = true := by
 grind [eI]
def dY (fr : List aD) (pg : List Pl) (page : Int) (i : Nat) : Nat := if eI fr.length pg page i then li (i3 fr pg (gm page i) 4) else 0
theorem Am {fr} (a : cz fr) pg page i : dY fr pg page i < 4294967296 := by
 unfold dY; split
 grind [vH, Dx, gm, vS]
 decide
theorem Iy {l} (h : l.length = 4) : mw l 0 4 = li l ∧ pJ l 0 4 = 0 := by
 have a : eL l.length 0 4 = true := hZ.2 (by omega)
 constructor
 grind [mw]
 grind [pJ]
theorem An pv ps pm d fr pg (h : Pgs pg) (u : cz fr) page (i : Nat) (v : i < 4294967296) : sQ W0 439 [pQ pv, iQ page, .int .u32 i] (fF pv ps pm d fr pg R) (.tuple #[.int .u32 (dY fr pg page i), .bool (eI fr.length pg page i)]) (fF pv ps pm d fr pg R) := by
 refine am func439 ntmps439 ?_
 refine cn (fun f => ?_) fun f => ?_
 refine ax ?_
 refine aG ?_
 have e : eI fr.length pg page i = false := by grind [qz]
 simp [aK, dY, e]
 refine ai (fun w => ?_) fun w => ?_
 refine ax ?_
 refine aG ?_
 have e : eI fr.length pg page i = false := by grind [qz]
 simp [aK, dY, e]
 obtain ⟨p, rfl⟩ : ∃ p : Nat, page = (p : Int) := ⟨page.toNat, by omega⟩
 have l : gm (p : Int) i = 64 * p + 4 * (i % 16) := rfl
 refine aa (lc (64 * p)) ?_
 refine aa (bG (cZ (by omega))) ?_
 refine aa (eC rfl rfl (HK v)) ?_
 refine aa (lc (4 * (i % 16))) ?_
 refine aa (dh rfl rfl (by rw [cZ (by omega), l]; omega : IntKind.wrap .u32 (((64 * p : Nat) : Int) + ((4 * (i % 16) : Nat) : Int)) = ((gm (p : Int) i : Nat) : Int))) ?_
 refine aF rfl (cN call29 (Xd pv ps pm d fr pg h u (gm (p : Int) i) (by omega) 4)) ?_
 rintro _ z ⟨a, c, rfl, m⟩
 obtain rfl := m.symm
 refine aw ?_
 refine ai (fun o => ?_) fun o => ?_
 have k : ¬ j7 fr.length pg (gm (p : Int) i) 4 = true := o
 refine ax ?_
 refine aG ?_
 have e : eI fr.length pg p i = false := by rw [← Qau, qz]; rintro ⟨_, q⟩; exact k q
 simp [aK, dY, e]
 have k : j7 fr.length pg (gm (p : Int) i) 4 = true := Qbu.1 o
 have e : eI fr.length pg p i = true := qz.2 ⟨by omega, k⟩
 have r : lm fr pg (gm (p : Int) i) 4 = i3 fr pg (gm (p : Int) i) 4 := by rw [lm, Qad k]; rfl
 have j : (i3 fr pg (gm (p : Int) i) 4).length = 4 := vS _ _ _ _
 obtain ⟨s, t⟩ := Iy j
 rw [r]
 refine vG (E := 5) (sz := 1) (a := a) (c := c) (n := (i3 fr pg (gm (p : Int) i) 4).length) (fun x => ?_)
 obtain ⟨g, rfl⟩ := vU x (by intro y; have := Qah List.length y; rw [gE, j] at this; simp at this)
 refine Al (E := 5) (sz := 1) (a := some ⟨g, 0, none⟩) (c := c) (n := (i3 fr pg (gm (p : Int) i) 4).length) (fun b => ?_)
 refine aw ?_
 refine ah (aB call173 (HW W0 _ g 0 c (i3 fr pg (gm (p : Int) i) 4) 0 4 (xq (E := 5) (sz := 1) (a := some ⟨g, 0, none⟩) (c := c) (n := (i3 fr pg (gm (p : Int) i) 4).length)) (Dx u _ _ _) b.1 (A9 b.2))) ?_
 rw [s, t]
 refine ax ?_
 refine aG ?_
 simp [aK, dY, e]
theorem Xi qv qs qm d fr pg (h : Pgs pg) (p : cz fr) (b : Nat) (f : b < 4294967296) : sQ W0 402 [pQ qv, .int .u32 b] (iF qv qs qm d fr pg R) (.tuple #[.int .u32 ((if j7 fr.length pg b 4 then li (i3 fr pg b 4) else 0 : Nat)), .bool (j7 fr.length pg b 4)]) (iF qv qs qm d fr pg R) := by
 refine am func402 ntmps402 ?_
 refine aF rfl (cN call435 (Xg qv qs qm d fr pg h p b f 4)) ?_
 rintro _ s ⟨a, c, rfl, i⟩
 obtain rfl := i.symm
 refine aw ?_
 refine ai (fun q => ?_) fun q => ?_
 refine ax ?_
 refine aG ?_
 have j : j7 fr.length pg b 4 = false := by grind
 simp [aK, j]
 have j : j7 fr.length pg b 4 = true := Qbu.1 q
 have k : lm fr pg b 4 = i3 fr pg b 4 := by grind [lm]
 have l : (i3 fr pg b 4).length = 4 := vS _ _ _ _
 obtain ⟨m, o⟩ := Iy l
 rw [k]
 refine vG (E := 5) (sz := 1) (a := a) (c := c) (n := (i3 fr pg b 4).length) (fun r => ?_)
 obtain ⟨g, rfl⟩ := vU r (by grind [List.length, gE])
 refine Al (E := 5) (sz := 1) (a := some ⟨g, 0, none⟩) (c := c) (n := (i3 fr pg b 4).length) (fun e => ?_)
 refine aw ?_
 refine ah (aB call305 (HY W0 _ g 0 c (i3 fr pg b 4) 0 4 (xq (E := 5) (sz := 1) (a := some ⟨g, 0, none⟩) (c := c) (n := (i3 fr pg b 4).length)) (Dx p _ _ _) e.1 (A9 e.2))) ?_
 rw [m, o]
 refine ax ?_
 refine aG ?_
 simp [aK, j]
theorem Iz qv qs qm d fr pg (h : Pgs pg) (f : cz fr) page (i : Nat) (j : i < 16) : sQ W0 351 [pQ qv, iQ page, .int .u32 i] (iF qv qs qm d fr pg R) (.tuple #[.int .u32 (dY fr pg page i), .bool (eI fr.length pg page i)]) (iF qv qs qm d fr pg R) := by
 refine am func351 ntmps351 ?_
 refine dk rfl rfl rfl (fun a => ?_) fun a => ?_
 cases a
 refine aw ?_
 refine cn (fun b => ?_) fun b => ?_
 refine ax ?_
 refine aG ?_
 have c : eI fr.length pg page i = false := by grind [qz]
 simp [aK, dY, c]
 refine ai (fun g => ?_) fun g => ?_
 refine ax ?_
 refine aG ?_
 have c : eI fr.length pg page i = false := by grind [qz]
 simp [aK, dY, c]
 obtain ⟨p, rfl⟩ : ∃ p : Nat, page = (p : Int) := ⟨page.toNat, by omega⟩
 have e : gm (p : Int) i = 64 * p + 4 * (i % 16) := rfl
 refine aa (bG (cZ (by omega))) ?_
 refine aa (lc (64 * p)) ?_
 refine aa (lc (4 * i)) ?_
 refine aa (dh rfl rfl (by rw [cZ (by omega), e]; omega : IntKind.wrap .u32 (((64 * p : Nat) : Int) + ((4 * i : Nat) : Int)) = ((gm (p : Int) i : Nat) : Int))) ?_
 refine ah (cN call402 (Xi qv qs qm d fr pg h f (gm (p : Int) i) (by omega))) ?_
 refine ax ?_
 refine aG ?_
 have c : eI fr.length pg p i = j7 fr.length pg (gm (p : Int) i) 4 := by rw [Qag, qz]; exact ⟨fun q => q.2, fun q => ⟨by omega, q⟩⟩
 simp only [aK, dY, c]
structure WS where
  on : Bool
  r : Int
  p : Int
  fault : Int
  root : Int
  leaf : Int
@[reducible] def qA (s : WS) : List Value := [.bool s.on, .int .i64 s.r, .int .i64 s.p, .int .i64 s.fault, .int .i64 s.root, .int .i64 s.leaf]
def nu : WS := ⟨false, 0, 0, 0, -1, -1⟩
abbrev t6 (pv va : Nat) (s : WS) : Obj := ag (.pointer (some ⟨pv, 0, none⟩) :: .int .u32 va :: qA s) 510
theorem IA (x : Int) : (x != 0) = !decide (x = 0) := by by_cases q : x = 0 <;> simp [q]
theorem xD bw pv va s f : sQ W0 412 [pQ bw, iQ f] (pt bw (t6 pv va s) :: R) (.bool (f != 0)) (pt bw (t6 pv va { s with fault := f }) :: R) := by
 refine am func412 ntmps412 ?_
 refine ar dX ?_
 exact ac ao
def kO (fr : List aD) (pg : List Pl) (va : Nat) (a : Int) (s : WS) : WS :=
  if eI fr.length pg a (va / 1024) then { s with root := a, fault := nX (dY fr pg a (va / 1024)) } else { s with fault := 3 }
def eN (fr : List aD) (pg : List Pl) (va : Nat) (a : Int) : Int := if eI fr.length pg a (va / 1024) then pI (dY fr pg a (va / 1024)) else 0
def jq (fr : List aD) (pg : List Pl) (va : Nat) (a : Int) : Bool := eI fr.length pg a (va / 1024) && decide (nX (dY fr pg a (va / 1024)) = 0)
theorem IB {w : Nat} : jN .u32 w 10 = (w / 1024 : Nat) := jU (s := 10) (by decide)
theorem IC {w : Nat} : jN .u32 w 6 = (w / 64 : Nat) := jU (s := 6) (by decide)
theorem Xj bw pv ps pm d fr pg (h : Pgs pg) (g : cz fr) va (i : va < 4294967296) s a : sQ W0 414 [pQ bw, iQ a] (pt bw (t6 pv va s) :: fF pv ps pm d fr pg R) (.tuple #[iQ (eN fr pg va a), .bool (jq fr pg va a)]) (pt bw (t6 pv va (kO fr pg va a s)) :: fF pv ps pm d fr pg R) := by
 by_cases c : eI fr.length pg a (va / 1024) = true
 rw [eN, Qad c, kO, Qad c, jq, c, Qbe]
 refine am func414 ntmps414 ?_
 refine bz [bw] 16 fun b => ?_
 refine aj 0 9 b ?_
 refine az 9 b (j5 rfl rfl (by decide) IB) ?_
 refine bY 10 (cN Gq (An pv ps pm d fr pg h g a (va / 1024) (by omega))) fun b => ?_
 refine aj 11 5 b ?_
 refine aJ ?_
 refine ai (fun e => ?_) fun e => ?_
 exact absurd c e
 refine ar dX ?_
 refine ah (aB call440 (Wc (dY fr pg a (va / 1024)) (Am g _ _ _))) ?_
 refine ah (ap Co (xD bw pv va { s with root := a } _)) ?_
 refine ax ?_
 refine aG ?_
 simp [aK]
 exact IA _
 have f : eI fr.length pg a (va / 1024) = false := by grind
 rw [eN, Qaa c, kO, Qaa c, jq, f, QcR]
 refine am func414 ntmps414 ?_
 refine bz [bw] 16 fun b => ?_
 refine aj 0 9 b ?_
 refine az 9 b (j5 rfl rfl (by decide) IB) ?_
 refine bY 10 (cN Gq (An pv ps pm d fr pg h g a (va / 1024) (by omega))) fun b => ?_
 refine aj 11 5 b ?_
 refine aJ ?_
 refine ai (fun e => ?_) fun e => ?_
 refine ah (ap Co (xD bw pv va _ _)) ?_
 exact ax ao
 exact absurd (by rw [f]; decide) e
def pN (fr : List aD) (pg : List Pl) (va : Nat) (a : Int) (s : WS) : WS :=
  if eI fr.length pg a (va / 64) then { s with leaf := a, on := nY (dY fr pg a (va / 64)), r := nZ (dY fr pg a (va / 64)), p := o8 (dY fr pg a (va / 64)), fault := np (dY fr pg a (va / 64)) } else { s with fault := 3 }
def Ao (fr : List aD) (pg : List Pl) (va : Nat) (a : Int) : Bool := eI fr.length pg a (va / 64) && decide (np (dY fr pg a (va / 64)) = 0)
theorem Xk bw pv ps pm d fr pg (h : Pgs pg) (g : cz fr) va (i : va < 4294967296) s a : sQ W0 416 [pQ bw, iQ a] (pt bw (t6 pv va s) :: fF pv ps pm d fr pg R) (.bool (Ao fr pg va a)) (pt bw (t6 pv va (pN fr pg va a s)) :: fF pv ps pm d fr pg R) := by
 by_cases f : eI fr.length pg a (va / 64) = true
 rw [pN, Qad f, Ao, f, Qbe]
 refine am func416 ntmps416 ?_
 refine bz [bw] 16 fun b => ?_
 refine aj 0 9 b ?_
 refine az 9 b (j5 rfl rfl (by decide) IC) ?_
 refine bY 10 (cN Gq (An pv ps pm d fr pg h g a (va / 64) (by omega))) fun b => ?_
 refine aj 11 5 b ?_
 refine aJ ?_
 refine ai (fun c => ?_) fun c => ?_
 exact absurd f c
 refine ar dX ?_
 refine ah (aB call441 (Wh (dY fr pg a (va / 64)) (Am g _ _ _))) ?_
 rw [qu]
 refine bu fun j => ?_
 refine ar aA ?_
 refine ar (iD (Qab rfl) SetRL.eq) ?_
 refine ah (ap Co (xD bw pv va { s with leaf := a, on := nY (dY fr pg a (va / 64)), r := nZ (dY fr pg a (va / 64)), p := o8 (dY fr pg a (va / 64)) } _)) ?_
 refine ac ?_
 refine aG ?_
 simp [aK]
 exact IA _
 have e : eI fr.length pg a (va / 64) = false := by grind
 rw [pN, Qaa f, Ao, e, QcR]
 refine am func416 ntmps416 ?_
 refine bz [bw] 16 fun b => ?_
 refine aj 0 9 b ?_
 refine az 9 b (j5 rfl rfl (by decide) IC) ?_
 refine bY 10 (cN Gq (An pv ps pm d fr pg h g a (va / 64) (by omega))) fun b => ?_
 refine aj 11 5 b ?_
 refine aJ ?_
 refine ai (fun c => ?_) fun c => ?_
 refine ah (ap Co (xD bw pv va _ _)) ?_
 exact ac ao
 exact absurd (by rw [e]; decide) c
def fG (fr : List aD) (pg : List Pl) (root : Int) (va : Nat) : Nat → WS × Int
 | 0 => (nu, root)
 | 1 => (if va < 16384 then nu else { nu with fault := 2 }, root)
 | 2 => (kO fr pg va root nu, eN fr pg va root)
 | _ => (pN fr pg va (eN fr pg va root) (kO fr pg va root nu), eN fr pg va root)
def lH (fr : List aD) (pg : List Pl) (root : Int) (va : Nat) : Nat → Bool
 | 0 => decide (va < 16384)
 | 1 => jq fr pg va root
 | _ => Ao fr pg va (eN fr pg va root)
def ci (fr : List aD) (pg : List Pl) (root : Int) (va : Nat) : WS :=
  if va < 16384 then (if jq fr pg va root then (fG fr pg root va 3).1 else (fG fr pg root va 2).1) else (fG fr pg root va 1).1
abbrev rO (bva bwp bat bw pv ps pm d : Nat) (fr : List aD) (pg : List Pl) (va : Nat) (q : WS × Int) (R : List HP) : List HP :=
  pt bva (ag [.int .u32 va] 38) :: pt bwp (ag [.pointer (some ⟨bw, 0, none⟩)] 508) :: pt bat (ag [.int .i64 q.2] 3) :: pt bw (t6 pv va q.1) :: fF pv ps pm d fr pg R
theorem Xl W0 R bva bwp bat bw pv ps pm d fr pg root va :
    bF Tryz.prog W0 411 [.pointer (some ⟨bva, 0, none⟩), .pointer (some ⟨bwp, 0, none⟩)] (rO bva bwp bat bw pv ps pm d fr pg va (fG fr pg root va 0) R)
      (fun v B => v = .bool (lH fr pg root va 0) ∧ B = rO bva bwp bat bw pv ps pm d fr pg va (fG fr pg root va 1) R) := by
 refine lG func411 ntmps411 rfl rfl ?_
 refine aO (aY (ae rfl (bC rfl) (aL (aH (aO (aY (ae rfl (co pZ rfl (aI rfl)) ?_)))))))
 refine ae rfl (nh rfl rfl) (ae rfl (aM rfl) ?_)
 refine dk rfl rfl rfl (fun b => ?_) fun b => ?_
 refine fA rfl rfl rfl rfl ?_
 refine fA rfl rfl rfl rfl (ae rfl (lR rfl rfl) (ae rfl (bC rfl) (aL (aH (dE (bU (.inl rfl) (.cons (aR rfl) .nil) ?_))))))
 first
   | (have a : va < 16384 := by omega
      simp only [fG, lH, Qad a, Qai a]
      exact ⟨_, ⟨rfl, rfl⟩, inferInstance⟩)
   | (have a : ¬ va < 16384 := by omega
      simp only [fG, lH, Qaa a, Qal a]
      exact ⟨_, ⟨rfl, rfl⟩, inferInstance⟩)
 refine ae rfl (co isAgg508 rfl (aI rfl)) ?_
 refine cM rfl rfl (aF rfl (ir Co rfl (xD bw pv va nu 2)) ?_)
 rintro _ e ⟨rfl, c⟩
 obtain rfl := c.symm
 refine cM rfl rfl (ae rfl (rz rfl) (ae rfl (iR rfl rfl) (ae rfl (bC rfl) (aL (aH (dE (bU (.inl rfl) (.cons (aR rfl) .nil) ?_)))))))
 first
   | (have a : va < 16384 := by omega
      simp only [fG, lH, Qad a, Qai a]
      exact ⟨_, ⟨rfl, rfl⟩, inferInstance⟩)
   | (have a : ¬ va < 16384 := by omega
      simp only [fG, lH, Qaa a, Qal a]
      exact ⟨_, ⟨rfl, rfl⟩, inferInstance⟩)
theorem Xm bva bwp bat bw pv ps pm d fr pg (h : Pgs pg) (b : cz fr) root va (a : va < 16384) : sQ W0 413 [.pointer (some ⟨bwp, 0, none⟩), .pointer (some ⟨bat, 0, none⟩)] (rO bva bwp bat bw pv ps pm d fr pg va (fG fr pg root va 1) R) (.bool (lH fr pg root va 1)) (rO bva bwp bat bw pv ps pm d fr pg va (fG fr pg root va 2) R) := by
 simp only [fG, lH, Qad a]
 refine jz 9 func413 ntmps413 ?_
 refine eh 10 (lW call414 rfl (Xj bw pv ps pm d fr pg h b va (by omega) nu root)) ?_
 refine iB 9 (lU aS rfl rfl rfl (Qab rfl) SetL.eq) ?_
 exact ac ao
theorem Xn bva bwp bat bw pv ps pm d fr pg (h : Pgs pg) (a : cz fr) root va (b : va < 16384) : sQ W0 415 [.pointer (some ⟨bwp, 0, none⟩), .pointer (some ⟨bat, 0, none⟩)] (rO bva bwp bat bw pv ps pm d fr pg va (fG fr pg root va 2) R) (.bool (lH fr pg root va 2)) (rO bva bwp bat bw pv ps pm d fr pg va (fG fr pg root va 3) R) := by
 simp only [fG, lH]
 refine jz 9 func415 ntmps415 ?_
 refine eh 4 (lW call416 rfl (Xk bw pv ps pm d fr pg h a va (by omega) _ (eN fr pg va root))) ?_
 exact ac ao
def vV (bva bwp bat : Nat) : List Value := [.func (.func 411) #[] #[.pointer (some ⟨bva, 0, none⟩), .pointer (some ⟨bwp, 0, none⟩)], .func (.func 413) #[] #[.pointer (some ⟨bwp, 0, none⟩), .pointer (some ⟨bat, 0, none⟩)], .func (.func 415) #[] #[.pointer (some ⟨bwp, 0, none⟩), .pointer (some ⟨bat, 0, none⟩)]]
theorem Xo {W0 N e R bva bwp bat bw pv ps pm d fr pg root va i fx v} (h : Pgs pg) (g : cz fr) (k : i < 3) (b : ∀ m, m < i → lH fr pg root va m = true) (c : (vV bva bwp bat)[i]? = some v) (f : ev e fx = some v) :
    cY Tryz.prog W0 N e (rO bva bwp bat bw pv ps pm d fr pg va (fG fr pg root va i) R) (.call { callee := .value fx, args := #[], argTypes := #[] }) (fun v B => v = .bool (lH fr pg root va i) ∧ B = rO bva bwp bat bw pv ps pm d fr pg va (fG fr pg root va (i + 1)) R) := by
 have j : i = 0 ∨ i = 1 ∨ i = 2 := by omega
 rcases j with rfl | rfl | rfl
 cases c
 exact jm (us := []) (vs := []) (cs := [pQ bva, pQ bwp]) f call411 rfl (Xl W0 R bva bwp bat bw pv ps pm d fr pg root va)
 cases c
 have a : va < 16384 := Qar (b 0 (by decide))
 exact jm (us := []) (vs := []) (cs := [pQ bwp, pQ bat]) f call413 rfl (Xm bva bwp bat bw pv ps pm d fr pg h g root va a)
 cases c
 have a : va < 16384 := Qar (b 0 (by decide))
 exact jm (us := []) (vs := []) (cs := [pQ bwp, pQ bat]) f call415 rfl (Xn bva bwp bat bw pv ps pm d fr pg h g root va a)
theorem Xp {fr pg root va i} (e : i < 3) (a : ∀ m, m < i → lH fr pg root va m = true) (c : lH fr pg root va i = false) : ci fr pg root va = (fG fr pg root va (i + 1)).1 := by
 have d : i = 0 ∨ i = 1 ∨ i = 2 := by omega
 rcases d with rfl | rfl | rfl
 have : ¬ va < 16384 := of_decide_eq_false c
 rw [ci, Qaa this]
 have b : va < 16384 := Qar (a 0 (by decide))
 have : ¬ jq fr pg va root = true := by rw [show jq fr pg va root = false from c]; decide
 rw [ci, Qad b, Qaa this]
 have b : va < 16384 := Qar (a 0 (by decide))
 rw [ci, Qad b, Qad (show jq fr pg va root = true from a 1 (by decide))]
theorem Xq {fr pg root va} (a : ∀ m, m < 3 → lH fr pg root va m = true) : ci fr pg root va = (fG fr pg root va 3).1 := by
 have b : va < 16384 := Qar (a 0 (by decide))
 rw [ci, Qad b, Qad (show jq fr pg va root = true from a 1 (by decide))]
theorem DF pv ps pm d fr pg (h : Pgs pg) (q : cz fr) root (a : Nat) (r : a < 4294967296) : sQ W0 375 [pQ pv, iQ root, .int .u32 a] (fF pv ps pm d fr pg R) (.agg (qA (ci fr pg root a)).toArray) (fF pv ps pm d fr pg R) := by
 refine am func375 ntmps375 ?_
 refine dw (jO rfl rfl) fun e => ?_
 refine eH (di Gf) fun l => ?_
 refine au 2 ?_
 refine DD (aw ?_)
 refine aa (fT a7K zeroValue510 (aP Cb (aP aX (aP q9 fR))) (cu rfl Cb rfl rfl (Qab rfl) SetL.eq (cu rfl aX rfl rfl (Qab rfl) SetL.eq (kh rfl q9 rfl rfl (Qab rfl) SetRL.eq fQ)))) ?_
 refine bB fun n => ?_
 refine dw (rD zeroValue508 rfl) fun c => ?_
 refine ar dX ?_
 refine dw (rD ml rfl) fun f => ?_
 refine ar dX ?_
 refine eH (jP a7L sizeOf64 zeroValue64 rfl rfl rfl rfl rfl (by decide) (by decide)) fun o => ?_
 refine au 4 ?_
 refine CM (aw ?_)
 refine ge (fun i : Nat => i ≤ 3 ∧ ∀ m, m < i → lH fr pg root a m = true) (fun i => [(6, pQ l), (7, pQ c), (22, .slice (some ⟨o, 0, none⟩) 3 3), (23, iQ 3), (24, iQ i)]) (fun i => pt o (ag (vV e c f) 64) :: pt l (ag (qA ⟨false, 0, 0, 0, 0, 0⟩) 418) :: rO e c f n pv ps pm d fr pg a (fG fr pg root a i) R) (fun i => 3 - i) 0 ?_ ?_ ?_ ?_
 grind
 · repeat (first | exact bK | refine aZ rfl ?_)
 show Ent (pt o (ag (vV e c f) 64) :: pt f (ag [iQ (fG fr pg root a 0).2] 3) :: pt c (ag [pQ n] 508) :: pt n (t6 pv a (fG fr pg root a 0).1) :: pt l (ag (qA ⟨false, 0, 0, 0, 0, 0⟩) 418) :: pt e (ag [.int .u32 a] 38) :: fF pv ps pm d fr pg R) _
 exact IO
 intro i ⟨t, g⟩
 refine aw ?_
 refine ai (fun s => ?_) fun s => ?_
 obtain ⟨u, j⟩ : ∃ v, (vV e c f)[i]? = some v := ⟨(vV e c f)[i]'(by show i < 3; omega), by simp⟩
 refine aa (bM (by omega)) ?_
 refine aa (aE (aI (by rw [Qaz]; exact j))) ?_
 refine ah (rF inferInstance (Xo (R := pt o (ag (vV e c f) 64) :: pt l (ag (qA ⟨false, 0, 0, 0, 0, 0⟩) 418) :: R) (bva := e) (bwp := c) (bat := f) (bw := n) (pv := pv) (ps := ps) (pm := pm) (d := d) h q (by omega) g j rfl)) ?_
 refine ai (fun p => ?_) fun p => ?_
 have k : lH fr pg root a i = false := by grind
 have b := Xp (by omega) g k
 refine aa (rC sj q9 rfl TakeL.eq rfl) ?_
 refine iB 3 aA ?_
 refine rN (aV (.cons (b0 sj q9 rfl rfl) .nil) ?_)
 rw [b]
 exact ao
 have k : lH fr pg root a i = true := Qbu.1 p
 refine aa bW ?_
 refine bR (i + 1) ?_
 grind
 obtain rfl : i = 3 := by omega
 have b := Xq g
 refine aa (rC sj q9 rfl TakeL.eq rfl) ?_
 refine iB 3 aA ?_
 refine rN (aV (.cons (b0 sj q9 rfl rfl) .nil) ?_)
 rw [b]
 exact ao
theorem Xr qv qs qm d fr pg (h : Pgs pg) (i : cz fr) root (a : Nat) (m : a < 4294967296) : sQ W0 303 [pQ qv, iQ root, .int .u32 a] (iF qv qs qm d fr pg R) (.agg (qA (ci fr pg root a)).toArray) (iF qv qs qm d fr pg R) := by
 refine am func303 ntmps303 ?_
 refine bu fun s => ?_
 refine bu fun u => ?_
 refine ar aA ?_
 refine ai (fun n => ?_) fun n => ?_
 refine ar dX ?_
 refine ar aA ?_
 refine aV (.cons (b0 sj q9 rfl rfl) .nil) ?_
 refine aG ?_
 have e : ci fr pg root a = { nu with fault := 2 } := by grind [ci, fG]
 rw [e]; rfl
 refine aa (ng rfl rfl (by decide) ((Qah (IntKind.wrap .u32) (qq a 1024)).trans (cZ (by omega)))) ?_
 refine ah (cN call351 (Iz qv qs qm d fr pg h i root (a / 1024) (by omega))) ?_
 refine ai (fun k => ?_) fun k => ?_
 have l : eI fr.length pg root (a / 1024) = false := by grind
 refine ar dX ?_
 refine ar aA ?_
 refine aV (.cons (b0 sj q9 rfl rfl) .nil) ?_
 refine aG ?_
 have e : ci fr pg root a = { nu with fault := 3 } := by
  grind [ci, jq, fG, kO]
 rw [e]; rfl
 have l : eI fr.length pg root (a / 1024) = true := Qbu.1 k
 refine ar dX ?_
 refine ah (aB call352 (Wd (dY fr pg root (a / 1024)) (Am i _ _ _))) ?_
 refine ai (fun c => ?_) fun c => ?_
 refine ar dX ?_
 refine ar aA ?_
 refine aV (.cons (b0 sj q9 rfl rfl) .nil) ?_
 refine aG ?_
 have e : ci fr pg root a = { nu with root := root, fault := nX (dY fr pg root (a / 1024)) } := by
  rw [ci, Qad (by omega), Qaa (by grind [jq])]; simp only [fG, kO]; rw [Qad l]
 rw [e]; rfl
 have v : nX (dY fr pg root (a / 1024)) = 0 := Qbu.1 c
 have o : jq fr pg a root = true := by grind [jq]
 have j : eN fr pg a root = pI (dY fr pg root (a / 1024)) := by grind [eN]
 have b : ∀ t, eI fr.length pg t (a / 64 % 16) = eI fr.length pg t (a / 64) := fun t => by simp only [eI, gm, Nat.mod_mod]
 have f : ∀ t, dY fr pg t (a / 64 % 16) = dY fr pg t (a / 64) := fun t => by simp only [dY, b t, gm, Nat.mod_mod]
 refine aa (ng rfl rfl (by decide) ((Qah (IntKind.wrap .u32) (qq a 64)).trans (cZ (by omega)))) ?_
 refine aa (dV rfl rfl (by decide) (iE (a / 64) 16)) ?_
 refine ah (cN call351 (Iz qv qs qm d fr pg h i (pI (dY fr pg root (a / 1024))) (a / 64 % 16) (by omega))) ?_
 rw [b, f, ← j]
 refine ai (fun g => ?_) fun g => ?_
 have q : eI fr.length pg (eN fr pg a root) (a / 64) = false := by grind
 refine ar dX ?_
 refine ar aA ?_
 refine aV (.cons (b0 sj q9 rfl rfl) .nil) ?_
 refine aG ?_
 have e : ci fr pg root a = { nu with root := root, fault := 3 } := by
  grind [ci, fG, pN, kO]
 rw [e]; rfl
 have q : eI fr.length pg (eN fr pg a root) (a / 64) = true := Qbu.1 g
 refine ar dX ?_
 refine ah (aB call353 (Wi (dY fr pg (eN fr pg a root) (a / 64)) (Am i _ _ _))) ?_
 rw [qu]
 refine bu fun w => ?_
 refine ar aA ?_
 refine ar (iD (Qab rfl) SetRL.eq) ?_
 refine ar dX ?_
 refine ar aA ?_
 refine aV (.cons (b0 sj q9 rfl rfl) .nil) ?_
 refine aG ?_
 have e : ci fr pg root a = { nu with root := root, leaf := eN fr pg a root, on := nY (dY fr pg (eN fr pg a root) (a / 64)), r := nZ (dY fr pg (eN fr pg a root) (a / 64)), p := o8 (dY fr pg (eN fr pg a root) (a / 64)), fault := np (dY fr pg (eN fr pg a root) (a / 64)) } := by
  grind [ci, fG, pN, kO]
 rw [e]; rfl
def oQ (n : Nat) (pg : List Pl) (pa : Nat) (w kind : Int) : Int := if dD n pg pa w kind = 0 then ((pa / 64 : Nat) : Int) else 0
def lZ (n : Nat) (pg : List Pl) (pa : Nat) (w kind : Int) : Int := if dD n pg pa w kind = 0 then (bH pg ((pa / 64 : Nat) : Int)).1 else 0
def m0 (n : Nat) (pg : List Pl) (pa : Nat) (w kind : Int) : Int := if dD n pg pa w kind = 0 then ((pa % 64 : Nat) : Int) else 0
theorem Ap {n pg pa w kind} : jV n pg pa w kind = [iQ (oQ n pg pa w kind), iQ (lZ n pg pa w kind), iQ (m0 n pg pa w kind), .bool false] := by
 grind [jV, oQ, lZ, m0]
theorem ID {fr pg pa w x} (h : cz fr) : cz (kN fr pg pa w x) ∧ (kN fr pg pa w x).length = fr.length := by
 grind [kN, Ab, xt]
theorem Xs w : gP w < 32 := by unfold gP; split <;> omega
theorem Xt w : o8 w < 32 := by unfold o8; split; decide; exact Xs w
theorem Xu fr pg va a : (kO fr pg va a nu).p = 0 := by unfold kO; split <;> rfl
theorem xE fr pg root va : ∃ k : Nat, (ci fr pg root va).p = k ∧ k < 32 := by
 unfold ci
 split
 grind [fG, pN, Xt, Xu]
 simp only [fG]; split <;> exact ⟨0, rfl, by decide⟩
def oR (s : WS) (kind : Int) (user : Bool) : Bool := jn kind && (e8 s.r (iu kind) && (!user || e8 s.r 8)) && s.on
theorem Aq {s kind user} : oR s kind user = true ↔ (jn kind = true ∧ e8 s.r (iu kind) = true ∧ (¬ user = true ∨ e8 s.r 8 = true)) ∧ s.on = true := by simp [oR]
def kB (s : WS) (va : Nat) : Nat := 64 * s.p.toNat + va % 64
def fN (fr : List aD) (pg : List Pl) (on : Bool) (root : Int) (user : Bool) (va : Nat) (kind : Int) : Int :=
  if on then (if (ci fr pg root va).fault ≠ 0 then (ci fr pg root va).fault else if oR (ci fr pg root va) kind user then dD fr.length pg (kB (ci fr pg root va) va) 1 kind else 6) else dD fr.length pg va 1 kind
def eY (g : Nat → List Pl → Nat → Int → Int → Int) (fr : List aD) (pg : List Pl) (on : Bool) (root : Int) (user : Bool) (va : Nat) (kind : Int) : Int :=
  if on then (if (ci fr pg root va).fault ≠ 0 then 0 else if oR (ci fr pg root va) kind user then g fr.length pg (kB (ci fr pg root va) va) 1 kind else 0) else g fr.length pg va 1 kind
@[reducible] def ut (fr : List aD) (pg : List Pl) (on : Bool) (root : Int) (user : Bool) (va : Nat) (kind : Int) : List Value :=
  [.int .i64 (eY oQ fr pg on root user va kind), .int .i64 (eY lZ fr pg on root user va kind), .int .i64 (eY m0 fr pg on root user va kind), .bool false]
theorem IE {w : Nat} (h : w < 4294967296) : e6 .u32 w 63 = (w % 64 : Nat) := by
 have := lh (a := w) (b := 63) h (by decide)
 rw [show w &&& 63 = w % 64 from rI (n := 6)] at this
 exact this
@[reducible] def qB (on : Bool) (root : Int) (user : Bool) : List Value := [.bool on, .int .i64 root, .bool user]
theorem Ar pv ps pm d fr pg (h : Pgs pg) (hF : cz fr) on root user (va : Nat) (hva : va < 4294967296) kind : sQ W0 331 [pQ pv, .agg (qB on root user).toArray, .int .u32 va, iQ kind] (fF pv ps pm d fr pg R) (.tuple #[.agg (ut fr pg on root user va kind).toArray, iQ (fN fr pg on root user va kind)]) (fF pv ps pm d fr pg R) := by
 obtain ⟨s, hs⟩ : ∃ s, ci fr pg root va = s := ⟨_, rfl⟩
 obtain ⟨k, hk, hk32⟩ := xE fr pg root va
 rw [hs] at hk
 simp only [ut, eY, fN, hs]
 refine am func331 ntmps331 ?_
 refine bB fun b1 => ?_
 refine bu fun b2 => ?_
 refine ai (fun c1 => ?_) fun c1 => ?_
 refine ah (cN Gk (Ae pv ps pm d fr pg h va hva 1 kind)) ?_
 rw [Ap]
 refine ar aA ?_
 refine aV (.cons (b0 g8 eU rfl rfl) (.cons (aR rfl) .nil)) ?_
 refine aG ?_
 have ho : on = false := by grind
 subst ho; rfl
 refine ah (cN NN (DF pv ps pm d fr pg h hF root va hva)) ?_
 rw [hs]
 have ho : on = true := by grind
 subst ho
 refine bu fun b3 => ?_
 refine ar aA ?_
 refine ai (fun c4 => ?_) fun c4 => ?_
 refine bz [b3] 5 fun hS => ?_
 refine aj 0 3 hS ?_
 refine cm 3 aA fun hS => ?_
 refine aj 4 1 hS ?_
 refine aJ ?_
 refine aV (.cons (b0 g8 eU rfl rfl) (.cons (aR rfl) .nil)) ?_
 refine aG ?_
 rw [Qad rfl, Qad rfl, Qad rfl, Qad rfl, Qad c4, Qad c4, Qad c4, Qad c4]; rfl
 refine aa (rC nQ nR rfl TakeL.eq rfl) ?_
 refine ah (aB call376 (HS s.on s.r s.p kind user)) ?_
 refine ai (fun c6 => ?_) fun c6 => ?_
 refine ar aA ?_
 refine aV (.cons (b0 g8 eU rfl rfl) (.cons (aR rfl) .nil)) ?_
 refine aG ?_
 have ha : ¬ oR s kind user = true := fun q => c6 (Aq.1 q)
 rw [Qad rfl, Qad rfl, Qad rfl, Qad rfl, Qaa c4, Qaa c4, Qaa c4, Qaa c4, Qaa ha, Qaa ha, Qaa ha, Qaa ha]; rfl
 have hpa : kB s va = 64 * k + va % 64 := by rw [kB, hk]; rfl
 rw [show qA s = [.bool s.on, iQ s.r, iQ (k : Int), iQ s.fault, iQ s.root, iQ s.leaf] by rw [← hk]]
 refine aa (lc (64 * k)) ?_
 refine aa (bG (cZ (by omega))) ?_
 refine aa (eC rfl rfl (IE hva)) ?_
 refine aa (dh rfl rfl (by rw [cZ (by omega), hpa]; omega : IntKind.wrap .u32 (((64 * k : Nat) : Int) + ((va % 64 : Nat) : Int)) = ((kB s va : Nat) : Int))) ?_
 refine ah (cN Gk (Ae pv ps pm d fr pg h (kB s va) (by omega) 1 kind)) ?_
 rw [Ap]
 refine ar aA ?_
 refine aV (.cons (b0 g8 eU rfl rfl) (.cons (aR rfl) .nil)) ?_
 refine aG ?_
 have ha : oR s kind user = true := Aq.2 (Qbu.1 c6)
 rw [Qad rfl, Qad rfl, Qad rfl, Qad rfl, Qaa c4, Qaa c4, Qaa c4, Qaa c4, Qad ha, Qad ha, Qad ha, Qad ha]; rfl
theorem vW qv qs qm d fr pg (h : Pgs pg) (hF : cz fr) on root user (va : Nat) (hva : va < 4294967296) kind : sQ W0 218 [pQ qv, .agg (qB on root user).toArray, .int .u32 va, iQ kind] (iF qv qs qm d fr pg R) (.tuple #[.agg (ut fr pg on root user va kind).toArray, iQ (fN fr pg on root user va kind)]) (iF qv qs qm d fr pg R) := by
 obtain ⟨s, hs⟩ : ∃ s, ci fr pg root va = s := ⟨_, rfl⟩
 obtain ⟨k, hk, hk32⟩ := xE fr pg root va
 rw [hs] at hk
 simp only [ut, eY, fN, hs]
 refine am func218 ntmps218 ?_
 refine bB fun b1 => ?_
 refine bu fun b2 => ?_
 refine ai (fun c1 => ?_) fun c1 => ?_
 refine ah (cN Gn (Aj qv qs qm d fr pg h va hva 1 kind)) ?_
 rw [Ap]
 refine ar aA ?_
 refine aV (.cons (b0 g8 eU rfl rfl) (.cons (aR rfl) .nil)) ?_
 refine aG ?_
 have ho : on = false := by grind
 subst ho; rfl
 refine ah (cN call303 (Xr qv qs qm d fr pg h hF root va hva)) ?_
 rw [hs]
 have ho : on = true := by grind
 subst ho
 refine bu fun b3 => ?_
 refine ar aA ?_
 refine ai (fun c4 => ?_) fun c4 => ?_
 refine bz [b3] 5 fun hS => ?_
 refine aj 0 3 hS ?_
 refine cm 3 aA fun hS => ?_
 refine aj 4 1 hS ?_
 refine aJ ?_
 refine aV (.cons (b0 g8 eU rfl rfl) (.cons (aR rfl) .nil)) ?_
 refine aG ?_
 rw [Qad rfl, Qad rfl, Qad rfl, Qad rfl, Qad c4, Qad c4, Qad c4, Qad c4]; rfl
 refine aa (rC nQ nR rfl TakeL.eq rfl) ?_
 refine ah (aB call304 (Wl s.on s.r s.p kind user)) ?_
 refine ai (fun c6 => ?_) fun c6 => ?_
 refine ar aA ?_
 refine aV (.cons (b0 g8 eU rfl rfl) (.cons (aR rfl) .nil)) ?_
 refine aG ?_
 have ha : ¬ oR s kind user = true := fun q => c6 (Aq.1 q)
 rw [Qad rfl, Qad rfl, Qad rfl, Qad rfl, Qaa c4, Qaa c4, Qaa c4, Qaa c4, Qaa ha, Qaa ha, Qaa ha, Qaa ha]; rfl
 have hpa : kB s va = 64 * k + va % 64 := by rw [kB, hk]; rfl
 rw [show qA s = [.bool s.on, iQ s.r, iQ (k : Int), iQ s.fault, iQ s.root, iQ s.leaf] by rw [← hk]]
 refine aa (bG (cZ (by omega))) ?_
 refine aa (lc (64 * k)) ?_
 refine aa (dV rfl rfl (by decide) (iE va 64)) ?_
 refine aa (dh rfl rfl (by rw [cZ (by omega), hpa]; omega : IntKind.wrap .u32 (((64 * k : Nat) : Int) + ((va % 64 : Nat) : Int)) = ((kB s va : Nat) : Int))) ?_
 refine ah (cN Gn (Aj qv qs qm d fr pg h (kB s va) (by omega) 1 kind)) ?_
 rw [Ap]
 refine ar aA ?_
 refine aV (.cons (b0 g8 eU rfl rfl) (.cons (aR rfl) .nil)) ?_
 refine aG ?_
 have ha : oR s kind user = true := Aq.2 (Qbu.1 c6)
 rw [Qad rfl, Qad rfl, Qad rfl, Qad rfl, Qaa c4, Qaa c4, Qaa c4, Qaa c4, Qad ha, Qad ha, Qad ha, Qad ha]; rfl
@[reducible] def Xv (x : Nat) : List Value := [.int .u32 x]
end
section
open Go.ChangeShapes Go.WideShapes Go.ChangeAt Go.RowKit
set_option linter.unusedSimpArgs false
set_option linter.unusedVariables false
variable {W : World} {v : Value}
theorem IF {fuel l} (h : kM Tryz.prog W fuel 38 l) : ∃ x, l = Xv x ∧ x < 4294967296 := by
 obtain ⟨n, rfl, a⟩ := zW Ga h
 obtain ⟨w, rfl, b⟩ := OM a
 exact ⟨w, rfl, b⟩
end
section
structure Ins where
  op : Nat
  d : Nat
  a : Nat
  b : Nat
  im : Int
deriving DecidableEq
def rP (w : Nat) : Int := if w / 262144 < 8192 then ((w / 262144 : Nat) : Int) else ((w / 262144 : Nat) : Int) - 16384
def fq (w : Nat) : Ins := ⟨w % 64, w / 64 % 16, w / 1024 % 16, w / 16384 % 16, rP w⟩
def xF : List Nat := [0, 7, 7, 7, 7, 7, 7, 7, 7, 7, 7, 7, 7, 7, 11, 11, 11, 11, 11, 11, 11, 11, 9, 11, 11, 11, 14, 14, 14, 14, 14, 14, 9, 11, 0, 0, 0, 9, 10, 0, 0, 0]
def fX (op : Nat) : Nat := xF.getD op 0
def o9 (op : Nat) : Bool := decide (1 ≤ op ∧ op ≤ 41)
def gU (may : Bool) (n : Nat) : Bool := if may then decide (n < 16) else decide (n = 0)
def dx (op : Nat) (n : Int) : Bool :=
  if op = 18 ∨ op = 19 ∨ op = 20 then decide (0 ≤ n ∧ n ≤ 31)
  else if op = 37 ∨ op = 38 then decide (0 ≤ n ∧ n < 9)
  else if fX op / 8 % 2 = 0 then decide (n = 0)
  else decide (-8192 ≤ n ∧ n ≤ 8191)
def gG (i : Ins) : Bool := o9 i.op && gU (fX i.op % 2 != 0) i.d && gU (fX i.op / 2 % 2 != 0) i.a && gU (fX i.op / 4 % 2 != 0) i.b && dx i.op i.im
theorem DG w : (fq w).op < 64 ∧ (fq w).d < 16 ∧ (fq w).a < 16 ∧ (fq w).b < 16 := by
 grind [fq]
theorem Xw {w} (h : w < 4294967296) : -8192 ≤ rP w ∧ rP w ≤ 8191 := by
 grind [rP]
theorem rQ {i} (h : gG i = true) : (1 ≤ i.op ∧ i.op ≤ 41) ∧ i.d < 16 ∧ i.a < 16 ∧ i.b < 16 ∧ dx i.op i.im = true := by
 simp only [gG, Qan] at h
 obtain ⟨⟨⟨⟨e, f⟩, g⟩, j⟩, h5⟩ := h
 have c : ∀ m n, gU m n = true → n < 16 := fun m n q => by
  unfold gU at q
  split at q
  grind
  grind
 exact ⟨Qar e, c _ _ f, c _ _ g, c _ _ j, h5⟩
def u32 (n : Int) : Nat := (n % 4294967296).toNat
theorem dJ x : u32 x < 4294967296 := by unfold u32; omega
theorem d8 x : IntKind.wrap .u32 x = (u32 x) := by
 simp only [IntKind.wrap, IntKind.bits, IntKind.signed, u32]; simp; omega
theorem vX {n : Nat} (h : n < 4294967296) : u32 n = n := by unfold u32; omega
def iG (a : Nat) : Int := IntKind.wrap .i32 (a : Int)
def oS (p : Bool) : Nat := if p then 1 else 0
theorem IG p : oS p < 4294967296 := by cases p <;> decide
def kC (op a b : Nat) : Nat :=
  if op = 1 then u32 ((a : Int) + b)
  else if op = 2 then u32 ((a : Int) - b)
  else if op = 3 then a &&& b
  else if op = 4 then a ||| b
  else if op = 5 then u32 (tZ .u32 (a : Int) (b : Int))
  else if op = 6 then u32 (ip .u32 (a : Int) ((b % 32 : Nat) : Int))
  else if op = 7 then a / 2 ^ (b % 32)
  else if op = 8 then u32 (jN .i32 (iG a) ((b % 32 : Nat) : Int))
  else if op = 9 then oS (decide (iG a < iG b))
  else if op = 10 then oS (decide (a < b))
  else if op = 11 then u32 ((a : Int) * b)
  else if op = 12 then (if b = 0 then 4294967295 else a / b)
  else if b = 0 then a else a % b
theorem nv {p} [Decidable p] {a b M : Nat} (c : p → a < M) (d : ¬ p → b < M) : (if p then a else b) < M := by
 grind
theorem vY {op a b} (c : a < 4294967296) (d : b < 4294967296) : kC op a b < 4294967296 := by
 unfold kC
 refine nv (fun _ => dJ _) fun _ => nv (fun _ => dJ _) fun _ => nv (fun _ => QaI Qbw c) fun _ => nv (fun _ => Qcc (n := 32) c d) fun _ => nv (fun _ => dJ _) fun _ => nv (fun _ => dJ _) fun _ => nv (fun _ => QaI (QbQ _ _) c) fun _ => nv (fun _ => dJ _) fun _ => nv (fun _ => IG _) fun _ => nv (fun _ => IG _) fun _ => nv (fun _ => dJ _) fun _ => ?_
 refine nv (fun _ => nv (fun _ => by decide) fun _ => QaI (QbQ _ _) c) fun _ => nv (fun _ => c) fun _ => QaI (Nat.mod_le _ _) c
def i5 (op : Nat) : Nat := if op = 14 then 1 else if op = 21 then 9 else op - 12
def uu (op a b : Nat) : Bool :=
  if op = 28 then decide (a = b) else if op = 29 then decide (a ≠ b) else if op = 30 then decide (iG a < iG b) else decide (a < b)
def uv (im : Int) : Nat := u32 (ip .u32 ((u32 im : Nat) : Int) 18)
def d9 (l : List Nat) (i : Nat) : Nat := l.getD i 0
def kD (l : List Nat) (b : Nat) : Bool := d9 l 5 &&& b != 0
def dR (l : List Nat) : Bool := kD l 4
def od (l : List Nat) : Bool := d9 l 1 != 0 && kD l 1
def qC (l : List Nat) (s fb tb : Nat) : Nat := if kD l fb then s ||| tb else s
def oT (l : List Nat) (s f0 t0 f1 t1 : Nat) : Nat := qC l (qC l s f0 t0) f1 t1
def oU (l : List Nat) (pc cause tval : Nat) : List Nat := ((l.set 2 pc).set 3 cause).set 4 tval
def m4 (l : List Nat) (pc cause tval : Nat) : List Nat := (oU l pc cause tval).set 5 (oT l 4 1 2 4 8)
def oV (l : List Nat) : List Nat := l.set 5 (oT l (d9 l 5 &&& 10) 2 1 8 4)
def oW (l : List Nat) (id clock n : Nat) : Nat := if n = 7 then u32 clock else if n = 8 then id else d9 l n
def kE (n v : Nat) : Nat := if n = 0 then v &&& 7937 else if n = 5 then v &&& 15 else v
def i6 (l : List Nat) : Bool := d9 l 0 &&& 1 != 0
def gH (l : List Nat) : Nat := d9 l 0 / 256 &&& 31
structure CsOk (l : List Nat) : Prop where
  len : l.length = 7
  lt : ∀ x ∈ l, x < 4294967296
theorem CsOk.at_ {l} (h : CsOk l) i : d9 l i < 4294967296 := by
 unfold d9
 rw [Qas]
 cases a : l[i]? with
 | none => decide
 | some v => exact h.lt v (QcP a)
theorem CsOk.set {l} (h : CsOk l) i v (a : v < 4294967296) : CsOk (l.set i v) := ⟨by rw [Qap, h.len], fun x b => by
 rcases Qcn b with q | q
 exact h.lt x q
 rw [q]; exact a⟩
theorem DI {l s fb tb} (a : s < 4294967296) (b : tb < 4294967296) : qC l s fb tb < 4294967296 := by
 unfold qC; split
 exact Qcc (n := 32) a b
 exact a
theorem DJ {l s f0 t0 f1 t1} (a : s < 4294967296) (b : t0 < 4294967296) (c : t1 < 4294967296) : oT l s f0 t0 f1 t1 < 4294967296 := DI (DI a b) c
theorem CsOk.trap {l} (h : CsOk l) {pc cause tval} (a : pc < 4294967296) (b : cause < 4294967296) (c : tval < 4294967296) : CsOk (oU l pc cause tval) := ((h.set 2 _ a).set 3 _ b).set 4 _ c
theorem CsOk.enter {l} (h : CsOk l) {pc cause tval} (a : pc < 4294967296) (b : cause < 4294967296) (c : tval < 4294967296) : CsOk (m4 l pc cause tval) := (h.trap a b c).set 5 _ (DJ (by decide) (by decide) (by decide))
theorem CsOk.leave {l} (h : CsOk l) : CsOk (oV l) := h.set 5 _ (DJ (QaI Qbw (h.at_ 5)) (by decide) (by decide))
theorem Xx {n v} (h : v < 4294967296) : kE n v < 4294967296 := by
 grind [kE, QaI, Qbw]
theorem DK {l id clock n} (h : CsOk l) (a : id < 4) : oW l id clock n < 4294967296 := by
 unfold oW
 split
 exact dJ _
 split
 omega
 exact h.at_ n
theorem Xy {l pc cause tval} : d9 (oU l pc cause tval) 5 = d9 l 5 := by
 grind [oU, d9]
theorem DL {l pc cause tval b} : kD (oU l pc cause tval) b = kD l b := by unfold kD; rw [Xy]
theorem Xz {l pc cause tval s f0 t0 f1 t1} : oT (oU l pc cause tval) s f0 t0 f1 t1 = oT l s f0 t0 f1 t1 := by
 grind [oT, qC, DL]
structure Eff where
  k : Nat
  pc : Nat
  addr : Nat
  width : Nat
  signed : Bool
  d : Nat
  val : Nat
  cause : Nat
  tval : Nat
deriving DecidableEq
structure Cpu where
  rl : List Nat
  pc : Nat
  cs : List Nat
structure RlOk (l : List Nat) : Prop where
  len : l.length = 16
  lt : ∀ x ∈ l, x < 4294967296
def bP (rl : List Nat) (i : Nat) : Nat := rl.getD i 0
def j8 (rl : List Nat) (i v : Nat) : List Nat := if i = 0 then rl else rl.set i v
theorem RlOk.at_ {l} (h : RlOk l) i : bP l i < 4294967296 := by
 unfold bP
 rw [Qas]
 cases a : l[i]? with
 | none => decide
 | some v => exact h.lt v (QcP a)
theorem RlOk.set {l} (h : RlOk l) i v (a : v < 4294967296) : RlOk (j8 l i v) := by
 unfold j8; split
 exact h
 exact ⟨by rw [Qap, h.len], fun x b => by
  rcases Qcn b with q | q
  exact h.lt x q
  rw [q]; exact a⟩
structure CpOk (x : Cpu) : Prop where
  r : RlOk x.rl
  pc : x.pc < 4294967296
  cs : CsOk x.cs
def my (i : Ins) : Nat := u32 (lD .u32 (lD .u32 (lD .u32 (lD .u32 ((i.op : Nat) : Int) (ip .u32 ((i.d : Nat) : Int) 6)) (ip .u32 ((i.a : Nat) : Int) 10)) (ip .u32 ((i.b : Nat) : Int) 14)) (ip .u32 ((u32 i.im : Nat) : Int) 18))
def m5 : Eff := ⟨0, 0, 0, 0, false, 0, 0, 0, 0⟩
def cP (pc : Nat) : Nat := u32 ((pc : Int) + 4)
def mz (pc : Nat) (im : Int) : Nat := u32 ((pc : Int) + ((u32 (4 * ((u32 im : Nat) : Int)) : Nat) : Int))
def mD (a : Nat) (im : Int) : Nat := u32 ((a : Int) + ((u32 im : Nat) : Int))
abbrev m6 (c t : Nat) : Eff := ⟨3, 0, 0, 0, false, 0, 0, c, t⟩
abbrev lp (x : Cpu) (pc : Nat) : Eff × Cpu := (⟨0, pc, 0, 0, false, 0, 0, 0, 0⟩, { x with pc := pc })
abbrev jW (i : Ins) (x : Cpu) (v pc : Nat) : Eff × Cpu := lp { x with rl := j8 x.rl i.d v } pc
def mF (op : Nat) : Nat := if op = 23 ∨ op = 26 then 4 else 1
def rR (i : Ins) (x : Cpu) : Eff :=
  if mD (bP x.rl i.a) i.im % mF i.op ≠ 0 then m6 2 (mD (bP x.rl i.a) i.im)
  else if i.op = 26 ∨ i.op = 27 then ⟨2, cP x.pc, mD (bP x.rl i.a) i.im, mF i.op, false, 0, bP x.rl i.b, 0, 0⟩
  else ⟨1, cP x.pc, mD (bP x.rl i.a) i.im, mF i.op, decide (i.op = 24), i.d, 0, 0, 0⟩
def i7 (op : Nat) : Bool := decide (op = 35 ∨ op = 36 ∨ op = 37 ∨ op = 38 ∨ op = 39 ∨ op = 40)
def qD (op : Nat) : Nat := if op = 35 then 4 else if op = 40 then 5 else 6
def kF (id clock : Nat) (i : Ins) (x : Cpu) : Eff × Cpu :=
  if i.op = 34 then (m6 6 0, x)
  else if i.op = 41 then (m6 8 x.pc, x)
  else if i.op = 36 then lp { x with cs := oV x.cs } (d9 x.cs 2)
  else if i.op = 37 then jW i x (oW x.cs id clock i.im.toNat) (cP x.pc)
  else if i.op = 38 then (if i.im.toNat ≤ 6 then lp { x with cs := x.cs.set i.im.toNat (kE i.im.toNat (bP x.rl i.a)) } (cP x.pc) else (m6 1 (my i), x))
  else (⟨qD i.op, cP x.pc, 0, 0, false, 0, 0, 0, 0⟩, x)
def gn (id clock : Nat) (i : Ins) (x : Cpu) : Eff × Cpu :=
  if i.op ≤ 13 then jW i x (kC i.op (bP x.rl i.a) (bP x.rl i.b)) (cP x.pc)
  else if i.op ≤ 21 then jW i x (kC (i5 i.op) (bP x.rl i.a) (u32 i.im)) (cP x.pc)
  else if i.op = 22 then jW i x (uv i.im) (cP x.pc)
  else if i.op ≤ 27 then (rR i x, x)
  else if i.op ≤ 31 then lp x (if uu i.op (bP x.rl i.a) (bP x.rl i.b) then mz x.pc i.im else cP x.pc)
  else if i.op ≤ 33 then jW i x (cP x.pc) (if i.op = 33 then mD (bP x.rl i.a) i.im else mz x.pc i.im)
  else kF id clock i x
def jX (id clock : Nat) (i : Ins) (x : Cpu) : Eff × Cpu := if i7 i.op && !dR x.cs then (m6 7 (my i), x) else gn id clock i x
structure EfOk (e : Eff) : Prop where
  pc : e.pc < 4294967296
  addr : e.addr < 4294967296
  val : e.val < 4294967296
  cause : e.cause < 100
  tval : e.tval < 4294967296
  d : e.d < 16
  w : e.width ≤ 4
theorem xG {k pc addr w d v c t s} (a : pc < 4294967296) (b : addr < 4294967296) (e : v < 4294967296) (f : c < 100) (g : t < 4294967296) (h : d < 16) (i : w ≤ 4) : EfOk ⟨k, pc, addr, w, s, d, v, c, t⟩ := ⟨a, b, e, f, g, h, i⟩
theorem xH {c t} (a : c < 100) (b : t < 4294967296) : EfOk (m6 c t) := xG (by decide) (by decide) (by decide) a b (by decide) (by decide)
theorem As {x pc} (h : CpOk x) (a : pc < 4294967296) : EfOk (lp x pc).1 ∧ CpOk (lp x pc).2 := ⟨xG a (by decide) (by decide) (by decide) (by decide) (by decide) (by decide), ⟨h.r, a, h.cs⟩⟩
theorem xI {i x v pc} (h : CpOk x) (a : v < 4294967296) (b : pc < 4294967296) : EfOk (jW i x v pc).1 ∧ CpOk (jW i x v pc).2 := As ⟨h.r.set i.d v a, h.pc, h.cs⟩ b
theorem DN op : mF op ≤ 4 := by unfold mF; split <;> decide
theorem XA {i x} (h : CpOk x) (a : i.d < 16) : EfOk (rR i x) := by
 unfold rR
 split; · exact xH (by decide) (dJ _)
 split; · exact xG (dJ _) (dJ _) (h.r.at_ _) (by decide) (by decide) (by decide) (DN _)
 exact xG (dJ _) (dJ _) (by decide) (by decide) (by decide) a (DN _)
theorem DO {id clock i x} (h : CpOk x) (b : i.d < 16) (a : id < 4) : EfOk (jX id clock i x).1 ∧ CpOk (jX id clock i x).2 := by
 unfold jX
 split; · exact ⟨xH (by decide) (dJ _), h⟩
 unfold gn
 split; · exact xI h (vY (h.r.at_ _) (h.r.at_ _)) (dJ _)
 split; · exact xI h (vY (h.r.at_ _) (dJ _)) (dJ _)
 split; · exact xI h (dJ _) (dJ _)
 split; · exact ⟨XA h b, h⟩
 split
 refine As h ?_
 split <;> exact dJ _
 split
 refine xI h (dJ _) ?_
 split <;> exact dJ _
 unfold kF
 split; · exact ⟨xH (by decide) (by decide), h⟩
 split; · exact ⟨xH (by decide) h.pc, h⟩
 split; · exact As ⟨h.r, h.pc, h.cs.leave⟩ (h.cs.at_ 2)
 split; · exact xI h (DK h.cs a) (dJ _)
 split
 split
 exact As ⟨h.r, h.pc, h.cs.set _ _ (Xx (h.r.at_ _))⟩ (dJ _)
 exact ⟨xH (by decide) (dJ _), h⟩
 exact ⟨xG (dJ _) (by decide) (by decide) (by decide) (by decide) (by decide) (by decide), h⟩
class Hk (α : Type) extends Inhabited α where
  ky : α → Int
namespace Hp
variable {α : Type} [Hk α]
def us (l : List α) (i : Nat) : Int := Hk.ky (l.getD i default)
theorem us_eq {l : List α} {i} h : us l i = Hk.ky l[i] := by simp [us, List.getD, h]
def swapL (l : List α) (i j : Nat) : List α := (l.set i (l.getD j default)).set j (l.getD i default)
theorem xJ (l : List α) i j : (swapL l i j).length = l.length := by simp [swapL]
theorem rS {l : List α} {i j} (a : i < l.length) (b : j < l.length) x : (swapL l i j).getD x default = if x = i then l.getD j default else if x = j then l.getD i default else l.getD x default := by
 grind [swapL]
theorem kP {l : List α} {i j} (a : i < l.length) (b : j < l.length) x : us (swapL l i j) x = if x = i then us l j else if x = j then us l i else us l x := by
 grind [us, rS]
theorem DT {β : Type} : ∀ (l : List β) (i j : Nat) (a : i < l.length) (b : j < l.length), ((l.set i l[j]).set j l[i]).Perm l := by
 grind [List.set_set_perm]
theorem lI {l : List α} {i j} (a : i < l.length) (b : j < l.length) : (swapL l i j).Perm l := by
 grind [DT, swapL]
def Heap (l : List α) (n : Nat) : Prop := ∀ c, c < n → 0 < c → us l ((c - 1) / 2) ≤ us l c
def jC (l : List α) (i n : Nat) : Prop := ∀ c, c < n → 0 < c → (c ≠ i → (c - 1) / 2 ≠ i → us l ((c - 1) / 2) ≤ us l c) ∧ ((c - 1) / 2 = i → 0 < i → us l ((i - 1) / 2) ≤ us l c)
def Up (l : List α) (j n : Nat) : Prop := ∀ c, c < n → 0 < c → (c ≠ j → us l ((c - 1) / 2) ≤ us l c) ∧ ((c - 1) / 2 = j → 0 < j → us l ((j - 1) / 2) ≤ us l c)
theorem DU {l : List α} {i j n} (h : jC l i n) (t : n ≤ l.length) (p : j < n) (g : (j - 1) / 2 = i) (q : 0 < j) (r : us l j < us l i)
    (k : ∀ c, c < n → 0 < c → (c - 1) / 2 = i → us l j ≤ us l c) : jC (swapL l i j) j n ∧ us (swapL l i j) ((j - 1) / 2) ≤ us (swapL l i j) j := by
 have s : i < j := by omega
 have d := kP (l := l) (i := i) (j := j) (by omega) (by omega)
 refine ⟨fun c a b => ⟨fun e m => ?_, fun e m => ?_⟩, ?_⟩
 rw [d, d]
 by_cases f : c = i
 subst f
 have := (h j p q).2 g (by omega)
 rw [Qaa (by omega), Qaa (by omega), Qad rfl]; exact this
 by_cases o : (c - 1) / 2 = i
 grind
 rw [Qaa o, Qaa m, Qaa f, Qaa e]; exact (h c a b).1 f o
 rw [g, d, d, Qad rfl, Qaa (by omega), Qaa (by omega)]
 rw [← e]; exact (h c a b).1 (by omega) (by omega)
 grind
theorem xK {l : List α} {i n} (h : jC l i n) (a : ∀ c, c < n → 0 < c → (c - 1) / 2 = i → us l i ≤ us l c) (g : 0 < i → us l ((i - 1) / 2) ≤ us l i) : Heap l n := fun c b d => by
 by_cases e : (c - 1) / 2 = i
 grind
 by_cases f : c = i
 grind
 exact (h c b d).1 f e
theorem Av {l : List α} {i n} (h : jC l i n) (a : ∀ c, c < n → 0 < c → (c - 1) / 2 = i → us l i ≤ us l c) : Up l i n := fun c b d => ⟨fun e => by
 by_cases f : (c - 1) / 2 = i
 grind
 exact (h c b d).1 e f, (h c b d).2⟩
theorem DV {l : List α} {j n} (h : Up l j n) (q : n ≤ l.length) (r : j < n) (m : 0 < j) (o : us l j < us l ((j - 1) / 2)) : Up (swapL l ((j - 1) / 2) j) ((j - 1) / 2) n := by
 have d := kP (l := l) (i := (j - 1) / 2) (j := j) (by omega) (by omega)
 intro c e a
 refine ⟨fun f => ?_, fun f p => ?_⟩
 rw [d, d]
 by_cases b : c = j
 omega
 by_cases g : (c - 1) / 2 = (j - 1) / 2
 rw [Qad g, Qaa (by omega), Qaa b]
 have := (h c e a).1 b; rw [g] at this; omega
 by_cases k : (c - 1) / 2 = j
 rw [Qaa g, Qad k, Qaa f, Qaa b]; exact (h c e a).2 k m
 rw [Qaa g, Qaa k, Qaa f, Qaa b]; exact (h c e a).1 b
 rw [d, d, Qaa (by omega), Qaa (by omega)]
 have s := (h ((j - 1) / 2) (by omega) p).1 (by omega)
 by_cases b : c = j
 omega
 rw [Qaa (by omega), Qaa b]
 have := (h c e a).1 b; rw [f] at this; omega
theorem xL {l : List α} {j n} (h : Up l j n) (d : 0 < j → us l ((j - 1) / 2) ≤ us l j) : Heap l n := fun c a b => by
 by_cases e : c = j
 grind
 exact (h c a b).1 e
theorem heap_min {l : List α} {n} (h : Heap l n) : ∀ c, c < n → us l 0 ≤ us l c := by
 intro c
 induction c using Nat.strongRecOn with
 | _ c a =>
  intro b
  by_cases d : c = 0
  grind
  have := h c b (by omega)
  have := a ((c - 1) / 2) (by omega) (by omega)
  omega
theorem DW {l i} {x : α} {n} (h : Heap l n) (j : i < l.length) : jC (l.set i x) i n := fun c d f => by
 have e : ∀ y, y ≠ i → us (l.set i x) y = us l y := fun y k => by
  unfold us; simp only [Qas]; rw [QaW (by omega)]
 refine ⟨fun a b => ?_, fun a b => ?_⟩
 rw [e _ a, e _ b]; exact h c d f
 rw [e _ (by omega), e _ (by omega)]
 have g := h c d f
 have m := h i (by omega) b
 rw [a] at g; omega
theorem xM {l a : List α} {n} (h : ∀ i, i < n → l.getD i default = a.getD i default) {i} (b : i < n) : us l i = us a i := by unfold us; rw [h i b]
theorem DY {l a : List α} {n} (h : ∀ i, i < n → l.getD i default = a.getD i default) (k : Heap l n) : Heap a n := fun c b d => by
 rw [← xM h b, ← xM h (i := (c - 1) / 2) (by omega)]; exact k c b d
theorem DZ {l : List α} {n m} (h : Heap l n) (k : m ≤ n) : Heap l m := fun c b a => h c (by omega) a
structure Down (its l : List α) (i0 n : Nat) (moved : Bool) : Prop where
  perm : l.Perm its
  tail : ∀ x, n ≤ x → l.getD x default = its.getD x default
  no : moved = false → l = its ∧ ∀ c, c < n → 0 < c → (c - 1) / 2 = i0 → us its i0 ≤ us its c
  yes : moved = true → Heap l n
theorem xN {l a : List α} {i i0 n} (d : l.Perm a) (k : i0 ≤ i) (e : jC l i n) (f : ∀ x, n ≤ x → l.getD x default = a.getD x default) (g : i = i0 → l = a)
    (j : i0 < i → us l ((i - 1) / 2) ≤ us l i) (b : ∀ c, c < n → 0 < c → (c - 1) / 2 = i → us l i ≤ us l c) : Down a l i0 n (decide (i0 < i)) :=
  ⟨d, f, fun h => by
 have : i = i0 := by grind
 subst this
 obtain rfl := g rfl
 exact ⟨rfl, b⟩, fun h => by
 have : i0 < i := by simpa using h
 exact xK e b fun _ => j this⟩
theorem xO {l a : List α} {i j n} (c : i < n) (d : j < n) (e : n ≤ l.length) (h : ∀ x, n ≤ x → l.getD x default = a.getD x default) : ∀ x, n ≤ x → (swapL l i j).getD x default = a.getD x default := fun x b => by
 rw [rS (by omega) (by omega), Qaa (by omega), Qaa (by omega)]; exact h x b
end Hp
instance a9r : Hk Nat := { ky := fun n => (n : Int) }
abbrev Po := List (Int × Bool)
def d6 (po : Po) (f : Nat) : Int × Bool := po.getD f (-1, true)
def bS (po : Po) (w : Nat) : List Nat := (List.range po.length).filter fun f => d6 po f == ((w : Int), false)
theorem jY {po f x} (a : f < po.length) g : d6 (po.set f x) g = if g = f then x else d6 po g := by
 grind [d6]
theorem kQ {po w f} : f ∈ bS po w ↔ f < po.length ∧ d6 po f = ((w : Int), false) := by
 grind [bS]
theorem Aw po w : (bS po w).Pairwise (· < ·) := List.pairwise_lt_range.filter _
theorem IH po w : (bS po w).Nodup := (Aw po w).imp (fun h e => by omega)
theorem XB {po} {w : Nat} {l : List Nat} (a : l.Nodup) (h : ∀ f, f ∈ l ↔ f < po.length ∧ d6 po f = ((w : Int), false)) : l.Perm (bS po w) :=
  (List.perm_ext_iff_of_nodup a (IH po w)).2 fun f => by rw [h, kQ]
theorem XC {po f u} (a : f < po.length) w : bS (po.set f (u, true)) w = (bS po w).filter (· != f) := by
 simp only [bS, Qap, List.filter_filter]
 apply Qcu
 intro g _
 rw [jY a]
 by_cases h : g = f
 subst h; simp
 simp [h]
theorem XD {po f} {w : Nat} (d : f < po.length) (h : d6 po f ≠ ((w : Int), false)) : (bS po w ++ [f]).Perm (bS (po.set f (w, false)) w) := by
 refine XB ?_ fun g => ?_
 rw [Qbp]
 refine ⟨IH po w, by simp, fun a i b c e => ?_⟩
 rw [Qbg] at c; subst c; subst e
 exact h (kQ.1 i).2
 rw [QaS, Qbg, kQ, Qap, jY d]
 by_cases e : g = f
 grind
 simp [e]
theorem E0 {po f x} {w : Nat} (a : f < po.length) (b : d6 po f ≠ ((w : Int), false)) (c : x ≠ ((w : Int), false)) : bS (po.set f x) w = bS po w := by
 simp only [bS, Qap]
 apply Qcu
 intro g _
 rw [jY a]
 by_cases h : g = f
 grind
 rw [Qaa h]
theorem E1 {po w x l} (hp : (l ++ [x]).Perm (bS po w)) (hm : ∀ y ∈ bS po w, x ≤ y) : bS po w = x :: bS (po.set x (w, true)) w := by
 have a : x ∈ bS po w := hp.mem_iff.1 (by simp)
 have b := Aw po w
 rw [XC (kQ.1 a).1]
 generalize bS po w = m at a hm b
 cases m with
 | nil => cases a
 | cons y t =>
  rw [Qbh] at b
  have : x = y := by
   rcases QaO.1 a with e | e
   exact e
   have := b.1 x e
   have := hm y (by simp)
   omega
  subst this
  congr 1
  rw [List.filter_cons, Qaa (by simp)]
  refine (QaT.2 fun z c => ?_).symm
  have := b.1 z c
  simp; omega
theorem XE {po w x l} (a : (l ++ [x]).Perm (bS po w)) (b : ∀ y ∈ bS po w, x ≤ y) : l.Perm (bS (po.set x (w, true)) w) := by
 have h := E1 a b
 rw [h] at a
 exact ((QaY (l₁ := [x]) (l₂ := l)).trans a).cons_inv
structure LsOk (po : Po) (Ls : List (List Nat)) : Prop where
  len : Ls.length = 16
  row : ∀ w, w < 16 → (Ls.getD w []).Perm (bS po w) ∧ Hp.Heap (Ls.getD w []) (Ls.getD w []).length
structure PoOk (po : Po) : Prop where
  len : po.length ≤ 32
  who : ∀ f, f < po.length → -1 ≤ (d6 po f).1 ∧ (d6 po f).1 < 16 ∧ ((d6 po f).1 = -1 → (d6 po f).2 = false)
theorem PoOk.set {po} (h : PoOk po) {f x} (b : f < po.length) (c : 0 ≤ x.1) (d : x.1 < 16) : PoOk (po.set f x) := ⟨by rw [Qap]; exact h.len, fun g a => by
 rw [Qap] at a
 rw [jY b]
 split
 omega
 exact h.who g a⟩
theorem XF {po} (h : PoOk po) w : (bS po w).length ≤ 32 := by
 have := QaL (fun f => d6 po f == ((w : Int), false)) (List.range po.length)
 rw [QcM] at this
 have := h.len
 unfold bS; omega
theorem LsOk.rlen {po Ls} (h : LsOk po Ls) (a : PoOk po) {w} (b : w < 16) : (Ls.getD w []).length ≤ 32 := by
 rw [(h.row w b).1.length_eq]; exact XF a w
theorem LsOk.set {po po' Ls} (h : LsOk po Ls) {w} (b : w < 16) {l} (d : l.Perm (bS po' w)) (f : Hp.Heap l l.length) (c : ∀ u, u < 16 → u ≠ w → bS po' u = bS po u) : LsOk po' (Ls.set w l) := ⟨by rw [Qap]; exact h.len, fun u a => by
 have e : (Ls.set w l).getD u [] = if u = w then l else Ls.getD u [] := by
  simp only [Qas, List.getElem?_set]
  by_cases k : w = u
  subst k; simp [h.len, b]
  grind
 rw [e]
 split
 grind
 rename_i k; rw [c u a k]; exact h.row u a⟩
theorem LsOk.new n : LsOk (List.replicate n (-1, false)) (List.replicate 16 []) := ⟨by simp, fun w g => by
 have e : bS (List.replicate n (-1, false)) w = [] := by
  rw [List.eq_nil_iff_forall_not_mem]
  intro f a
  have := (kQ.1 a)
  rw [QbC] at this
  have b := this.2
  simp [d6, List.getD, this.1] at b
 rw [e, show (List.replicate 16 ([] : List Nat)).getD w [] = [] by rw [Qas, List.getElem?_replicate]; split <;> rfl]
 exact ⟨QaN _, fun c d _ => absurd d (QbE _)⟩⟩
structure Im where
  fr : List aD
  po : Po
  pg : List Pl
def iX (f : Nat) : List Nat → Nat → List aD → List aD
 | [], _, fr => fr
 | x :: t, k, fr => iX f t (k + 1) (fM fr f (4 * k : Nat) 4 x)
theorem E2 f x : ∀ (l : List Nat) (k : Nat) (a : List aD), iX f (l ++ [x]) k a = fM (iX f l k a) f (4 * (k + l.length) : Nat) 4 x
 | [], k, a => by simp [iX]
 | y :: t, k, a => by
  rw [Qax, iX, iX, E2 f x t (k + 1)]
  congr 3; simp only [QaK]; omega
theorem uw {f} : ∀ {l : List Nat} {k : Nat} {a : List aD}, cz a → cz (iX f l k a) ∧ (iX f l k a).length = a.length
 | [], _, _, h => ⟨h, rfl⟩
 | x :: t, k, a, h => by
  obtain ⟨b, c⟩ := uw (f := f) (l := t) (k := k + 1) (Ab (f := f) (off := (4 * k : Nat)) (w := 4) (v := x) h)
  exact ⟨b, by rw [iX, c, xt]⟩
def e9 (words : List Nat) (i : Nat) : List Nat := (words.drop (16 * i)).take 16
def jD (who : Nat) (words : List Nat) (x : Im) (i : Nat) : Im :=
  match bS x.po who with
 | f :: _ => ⟨iX f (e9 words i) 0 x.fr, x.po.set f ((who : Int), true), dL x.pg i ((f : Int), 3)⟩
 | [] => x
def cI (who : Nat) (words : List Nat) : Nat → Im → Im
 | 0, x => x
 | n + 1, x => jD who words (cI who words n x) n
structure ImOk (x : Im) : Prop where
  fr : cz x.fr
  po : PoOk x.po
  pg : Pgs x.pg
  len : x.po.length = x.fr.length
theorem XG {who i words x} (h : ImOk x) (d : who < 16) : ImOk (jD who words x i) := by
 unfold jD
 cases e : bS x.po who with
 | nil => exact h
 | cons f t =>
  have a := kQ.1 (show f ∈ bS x.po who by rw [e]; simp)
  obtain ⟨b, c⟩ := uw (f := f) (l := e9 words i) (k := 0) h.fr
  exact ⟨b, h.po.set a.1 (by simp) (by simp; omega), vP h.pg, by rw [Qap, c]; exact h.len⟩
theorem ux {who words} (a : who < 16) : ∀ {n : Nat} {x : Im}, ImOk x → ImOk (cI who words n x)
 | 0, _, h => h
 | n + 1, _, h => XG (ux a h) a
theorem XH {who i words x} : (bS (jD who words x i).po who).length = (bS x.po who).length - 1 := by
 unfold jD
 cases e : bS x.po who with
 | nil => simp [e]
 | cons f t =>
  have c := kQ.1 (show f ∈ bS x.po who by rw [e]; simp)
  dsimp only
  have b : ∀ y ∈ bS x.po who, f ≤ y := fun y a => by
   have := Aw x.po who
   rw [e] at a this
   rw [Qbh] at this
   rcases QaO.1 a with rfl | k
   omega
   grind
  have := E1 (l := t) (by grind) b
  rw [e] at this
  have := (List.cons.inj this).2
  rw [← this, QaK]; omega
theorem Ax {who words x} : ∀ n, (bS (cI who words n x).po who).length = (bS x.po who).length - n
 | 0 => rfl
 | n + 1 => by rw [cI, XH, Ax n]; omega
def qE (pg : List Pl) (n m : Nat) : Prop := ∀ i, n ≤ i → i < m → aN pg (i : Nat) = false
theorem Ay {who words x} (h : qE x.pg 0 8) (hl : x.pg.length = 12) : ∀ n, n ≤ 8 → qE (cI who words n x).pg n 8 ∧ (cI who words n x).pg.length = 12
 | 0, _ => ⟨h, hl⟩
 | n + 1, g => by
  obtain ⟨a, c⟩ := Ay h hl n (by omega)
  rw [cI]
  generalize cI who words n x = y at a c
  unfold jD
  cases e : bS y.po who with
  | nil => exact ⟨fun i d b => a i (by omega) b, c⟩
  | cons f t =>
   dsimp only
   refine ⟨fun i d b => ?_, ?_⟩
   have := a i (by omega) b
   unfold dL
   split
   grind [aN, ew]
   exact this
   grind [dL]
end
section
open Go.RowKit
def nx (T E : TypeId) (sz : Nat) {α : Type} (f : α → List Value) (o b : Nat) (x : List α × List Value) : HP := chk (fun C => o < x.2.length ∧ ∃ a c, C = [pt b (ag (x.2.set o (.slice a x.1.length c)) T), osl E sz (.slice a x.1.length c) (x.1.flatMap f)])
theorem eQ {l : List Value} {o v} (h : o < l.length) : (l.set o v)[o]? = some v := by simp [h]
theorem set_set {l : List Value} {o v u} : (l.set o v).set o u = l.set o u := List.set_set ..
section
variable {P : Program} {W0 : World} {N : FSz} {K : Act → World → Prop} {e : bi} {R A B R1 R2 : List HP} {T E : TypeId} {sz o b n : Nat} {α : Type} {f : α → List Value} {its : List α} {cs cs' : List Value} {fn : FuncId} {args : List Value} {Post : Value → List HP → Prop}
theorem t7 (h : ∀ a c, o < cs.length → bF P W0 fn args (pt b (ag (cs.set o (.slice a its.length c)) T) :: osl E sz (.slice a its.length c) (its.flatMap f) :: R) Post) : bF P W0 fn args (nx T E sz f o b (its, cs) :: R) Post :=
  qk fun C d => by obtain ⟨e, a, c, rfl⟩ := d; exact h a c e
theorem xP [i : Tk (nx T E sz f o) b A (its, cs) R] (h : ∀ a c, o < cs.length → av W0 N K e (pt b (ag (cs.set o (.slice a its.length c)) T) :: osl E sz (.slice a its.length c) (its.flatMap f) :: R)) : av W0 N K e A :=
  fV (r := nx T E sz f o) (b := b) (ni fun C d => by obtain ⟨g, a, c, rfl⟩ := d; exact h a c g)
theorem ny {a c xs} [d : Tk pt b A (ag cs' T) R1] [e : Tk (osl E sz) (.slice a n c) R1 xs R2] (g : xs = its.flatMap f) (h : cs' = cs.set o (.slice a n c)) (i : o < cs.length) (j : n = its.length) [k : Ent R2 B] : Ent A (nx T E sz f o b (its, cs) :: B) := by
 subst j; subst h; subst g
 exact (Ent.ofPerm (d.perm.trans (e.perm.cons _))).trans ((Ent.cons (Ent.cons k)).trans (fK (R := B) (C := [_, _]) ⟨i, a, c, rfl⟩))
theorem qF (k : ∀ x, (f x).length = sz) (l : its ≠ []) (r : 0 < sz) (h : ∀ g c d, o < cs.length → its.length ≤ c → c ≤ maxLen → (its.flatMap f ++ d).length = c * sz → bF P W0 fn args (pt b (ag (cs.set o (.slice (some ⟨g, 0, none⟩) its.length c)) T) :: pt g (ag (its.flatMap f ++ d) E) :: R) Post) : bF P W0 fn args (nx T E sz f o b (its, cs) :: R) Post :=
  t7 fun a c m => nj (List.Perm.swap _ _ _) (xk (fun j e => by
      have := cF k its
      rw [e] at this
      have i : its.length = 0 := by
        grind
      exact absurd (QaE i) l)
    (fun g n p d j e i s q => by
      cases j
      exact nj (List.Perm.swap _ _ _) (h g _ d m e i q)))
theorem kG {g c xs sp} [d : Tk pt b A (ag cs' T) R1] [r : Tk pt g R1 (ag (xs ++ sp) E) R2] (h : ∀ x, (f x).length = sz) (i : xs = its.flatMap f) (a : cs' = cs.set o (.slice (some ⟨g, 0, none⟩) n c)) (j : o < cs.length) (l : n = its.length) (m : n ≤ c) (p : c ≤ maxLen) (q : (xs ++ sp).length = c * sz) [k : Ent R2 B] : Ent A (nx T E sz f o b (its, cs) :: B) := by
 subst l; subst i; subst a
 have e : Ent R1 (osl E sz (.slice (some ⟨g, 0, none⟩) its.length c) (its.flatMap f) :: B) := fk m p (cF h its) q
 exact (Ent.ofPerm d.perm).trans ((Ent.cons e).trans (fK (R := B) (C := [_, _]) ⟨j, _, c, rfl⟩))
theorem xQ [k : Tk (nx T E sz f o) b A (its, cs) R] {i v} (l : i ≠ o) (h : cs[i]? = some v) : kf (aQ W0 A) b i v := fun w (e : Own W0 w A) => by
 obtain ⟨C, ⟨m, a, c, rfl⟩, d⟩ := (e.tk (r := nx T E sz f o) (b := b)).chk
 have g : Own W0 w (pt b (ag (cs.set o (.slice a its.length c)) T) :: (osl E sz (.slice a its.length c) (its.flatMap f) :: R)) := d
 have j : kf (aQ W0 (pt b (ag (cs.set o (.slice a its.length c)) T) :: (osl E sz (.slice a its.length c) (its.flatMap f) :: R))) b i v := aI (by grind)
 exact j w g
theorem E3 [d : Tk (nx T E sz f o) b A (its, cs) R] {i v} (c : i ≠ o) (h : cs[i]? = some v) : bE (aQ W0 A) b i [v] := fun j u a => by
 match j, a with
 | 0, a => rw [← Qbl a]; exact xQ (o := o) (f := f) (T := T) (E := E) (sz := sz) c h
 | j + 1, a => cases a
end
theorem II {α : Type} (f : α → Value) (l : List α) : (l.flatMap fun x => [f x]) = l.map f := by
 induction l with
 | nil => rfl
 | cons x l a => rw [Qbc, a]; rfl
theorem XI {α : Type} {f k} (b : ∀ x, (f x).length = k) (a : List α) (c : List Value) i (d : i < a.length) : i * k + k ≤ (a.flatMap f ++ c).length := by
 have := Qcr k (show i + 1 ≤ a.length by omega)
 rw [Qcf] at this
 rw [Qae, cF b]; omega
structure HpO (W0 : World) (α : Type) [Hk α] where
  T : TypeId
  p : Value
  el : α → Value
  H : List α → HP
  fL : FuncId
  fE : FuncId
  fS : FuncId
  fU : FuncId
  fO : FuncId
  mL : ∀ w, (method (Tryz.prog.types.size + Made.depth) T p "Len").run Tryz.prog w = .ok (fL, p) w
  mE : ∀ w, (method (Tryz.prog.types.size + Made.depth) T p "Less").run Tryz.prog w = .ok (fE, p) w
  mS : ∀ w, (method (Tryz.prog.types.size + Made.depth) T p "Swap").run Tryz.prog w = .ok (fS, p) w
  mU : ∀ w, (method (Tryz.prog.types.size + Made.depth) T p "Push").run Tryz.prog w = .ok (fU, p) w
  mO : ∀ w, (method (Tryz.prog.types.size + Made.depth) T p "Pop").run Tryz.prog w = .ok (fO, p) w
  cL : ∀ args w, (callFunc fL args).run Tryz.prog w = .ok (.enter fL args) w
  cE : ∀ args w, (callFunc fE args).run Tryz.prog w = .ok (.enter fE args) w
  cS : ∀ args w, (callFunc fS args).run Tryz.prog w = .ok (.enter fS args) w
  cU : ∀ args w, (callFunc fU args).run Tryz.prog w = .ok (.enter fU args) w
  cO : ∀ args w, (callFunc fO args).run Tryz.prog w = .ok (.enter fO args) w
  sL : ∀ R l, bF Tryz.prog W0 fL [p] (kH 0 (H l) :: R) (fun v B => v = .int .i64 (l.length : Nat) ∧ B = kH 0 (H l) :: R)
  sE : ∀ R l (i j : Nat), i < l.length → j < l.length → bF Tryz.prog W0 fE [p, .int .i64 i, .int .i64 j] (kH 0 (H l) :: R) (fun v B => v = .bool (decide (Hp.us l i < Hp.us l j)) ∧ B = kH 0 (H l) :: R)
  sS : ∀ R l (i j : Nat), i < l.length → j < l.length → bF Tryz.prog W0 fS [p, .int .i64 i, .int .i64 j] (kH 0 (H l) :: R) (fun v B => v = .tuple #[] ∧ B = kH 0 (H (Hp.swapL l i j)) :: R)
  sU : ∀ R l x, l.length < 1000 → bF Tryz.prog W0 fU [p, el x] (kH 0 (H l) :: R) (fun v B => v = .tuple #[] ∧ B = kH 0 (H (l ++ [x])) :: R)
  sO : ∀ R l x, bF Tryz.prog W0 fO [p] (kH 0 (H (l ++ [x])) :: R) (fun v B => v = el x ∧ B = kH 0 (H l) :: R)
namespace Hp
variable {W0 : World} {α : Type} [Hk α] (o : HpO W0 α)
def iv : Value := .iface o.T o.p
theorem E4 {j : Nat} (h : j < 1000) : IntKind.wrap .i64 (Int.tdiv (j - 1) 2) = ((j - 1) / 2 : Nat) := by
 grind [Int.tdiv_eq_ediv_of_nonneg, cj]
theorem vZ R its j n (i : n ≤ its.length) (k : n < 1000) (f : j < n) (b : Up its j n) : sP W0 202 [iv o, iQ j] (kH 0 (o.H its) :: R) (fun v B => v = .tuple #[] ∧ ∃ a, B = kH 0 (o.H a) :: R ∧ a.Perm its ∧ Heap a n ∧ ∀ x, n ≤ x → a.getD x default = its.getD x default) := by
 refine am func202 ntmps202 ?_
 refine cW (fun X : List α × Nat => X.1.Perm its ∧ X.2 < n ∧ Up X.1 X.2 n ∧ ∀ x, n ≤ x → X.1.getD x default = its.getD x default) (fun X => [(0, iv o), (1, iQ X.2)]) (fun X => kH 0 (o.H X.1) :: R) (fun X => X.2) (its, j) ?_ ?_
 simp_all
 intro ⟨l, j⟩ ⟨c, f, b, g⟩
 have d := c.length_eq
 simp only at f b g c d ⊢
 refine aw ?_
 refine aa gz ?_
 refine aa (ng rfl rfl (by decide) (E4 (by omega))) ?_
 refine cn (fun e => ?_) fun e => ?_
 refine bU (.inr rfl) .nil ?_
 exact ⟨_, ⟨rfl, l, rfl, c, xL b (by omega), g⟩, IO⟩
 refine ah (fC rfl o.mE o.cE rfl (o.sE _ l j ((j - 1) / 2) (by omega) (by omega))) ?_
 refine aC rfl (fun h => ?_) fun h => ?_
 refine au 5 ?_
 refine bU (.inr rfl) .nil ?_
 exact ⟨_, ⟨rfl, l, rfl, c, xL b (by omega), g⟩, IO⟩
 replace h : us l j < us l ((j - 1) / 2) := by omega
 refine aw ?_
 refine ah (fC rfl o.mS o.cS rfl (o.sS _ l ((j - 1) / 2) j (by omega) (by omega))) ?_
 exact bR (swapL l ((j - 1) / 2) j, (j - 1) / 2) (⟨(lI (by omega) (by omega)).trans c, by show (j - 1) / 2 < n; omega, DV b (by omega) f (by omega) h, xO (by omega) f (by omega) g⟩)
theorem w0 R its i0 n (F : n ≤ its.length) (G : n < 1000) (I : i0 ≤ n) (J : jC its i0 n) : sP W0 272 [iv o, iQ i0, iQ n] (kH 0 (o.H its) :: R) (fun v B => ∃ l m, v = .bool m ∧ B = kH 0 (o.H l) :: R ∧ Down its l i0 n m) := by
 refine am NO ntmps272 ?_
 refine cW (fun X : List α × Nat => X.1.Perm its ∧ i0 ≤ X.2 ∧ jC X.1 X.2 n ∧ (∀ x, n ≤ x → X.1.getD x default = its.getD x default) ∧ (X.2 = i0 → X.1 = its) ∧ (i0 < X.2 → us X.1 ((X.2 - 1) / 2) ≤ us X.1 X.2) ∧ X.2 ≤ n) (fun X => [(0, iv o), (1, iQ i0), (2, iQ n), (7, iQ X.2)]) (fun X => kH 0 (o.H X.1) :: R) (fun X => n - X.2) (its, i0) ?_ ?_
 simp_all
 intro ⟨l, i⟩ ⟨h, f, s, t, y, z, A⟩
 have k := h.length_eq
 simp only at h f s t y z A k ⊢
 refine aw ?_
 refine aa ug ?_
 refine aa (dQ (2 * i + 1)) ?_
 refine cn (fun p => ?_) fun p => ?_
 refine ac ?_
 refine ⟨_, ⟨l, decide (i0 < i), by simp [aK], rfl, xN h f s t y z ?_⟩, IO⟩
 first | (intro c b d e; exfalso; omega) | (intro c b d e; have := a c b d e; simp at g; omega)
 refine aC rfl (fun u => ?_) fun u => ?_
 omega
 refine au 8 ?_
 refine cy (fun j : Nat => (j - 1) / 2 = i ∧ 0 < j ∧ j < n ∧ ∀ c, c < n → 0 < c → (c - 1) / 2 = i → us l j ≤ us l c) (fun j => [(0, iv o), (1, iQ i0), (2, iQ n), (7, iQ i), (9, iQ j)]) (fun j => kH 0 (o.H l) :: R) ?_ ?_
 refine au 3 ?_
 refine aa (dQ (2 * i + 2)) ?_
 refine bN (fun q => ?_) fun q => ?_
 refine ah (fC rfl o.mE o.cE rfl (o.sE _ l (2 * i + 2) (2 * i + 1) (by omega) (by omega))) ?_
 refine ai (fun w => ?_) fun w => ?_
 refine bq (2 * i + 2) ?_
 refine ⟨by omega, by omega, by omega, fun c b d e => ?_⟩
 have : c = 2 * i + 1 ∨ c = 2 * i + 2 := by omega
 rcases this with rfl | rfl <;> (first | omega | (simp at w; omega) | (simp at u; omega))
 refine bq (2 * i + 1) ?_
 refine ⟨by omega, by omega, by omega, fun c b d e => ?_⟩
 have : c = 2 * i + 1 ∨ c = 2 * i + 2 := by omega
 rcases this with rfl | rfl <;> (first | omega | (simp at w; omega) | (simp at u; omega))
 refine bq (2 * i + 1) ?_
 refine ⟨by omega, by omega, by omega, fun c b d e => ?_⟩
 have : c = 2 * i + 1 ∨ c = 2 * i + 2 := by omega
 rcases this with rfl | rfl <;> (first | omega | (simp at w; omega) | (simp at u; omega))
 intro j ⟨E, C, r, a⟩
 refine aw ?_
 refine ah (fC rfl o.mE o.cE rfl (o.sE _ l j i (by omega) (by omega))) ?_
 refine aC rfl (fun g => ?_) fun g => ?_
 refine au 15 ?_
 refine ac ?_
 refine ⟨_, ⟨l, decide (i0 < i), by simp [aK], rfl, xN h f s t y z ?_⟩, IO⟩
 first | (intro c b d e; exfalso; omega) | (intro c b d e; have := a c b d e; simp at g; omega)
 replace g : us l j < us l i := by simpa using g
 refine aw ?_
 refine ah (fC rfl o.mS o.cS rfl (o.sS _ l i j (by omega) (by omega))) ?_
 refine bR (swapL l i j, j) ?_ (hμ := ?_)
 have D := DU s (by omega) r E C g a
 exact ⟨(lI (by omega) (by omega)).trans h, by show i0 ≤ j; omega, D.1, xO (by omega) r (by omega) t, by show j = i0 → _; omega, fun _ => D.2, by show j ≤ n; omega⟩
 show n - j < n - i; omega
theorem E5 {its} {x : α} (h : Heap its its.length) : Up (its ++ [x]) its.length (its.length + 1) := by
 have e : ∀ c, c < its.length → us (its ++ [x]) c = us its c := fun c a => by
  unfold us; simp only [Qas]; rw [QaB a]
 intro c a b
 refine ⟨fun d => ?_, fun d f => by omega⟩
 rw [e c (by omega), e _ (by omega)]; exact h c (by omega) b
theorem heapPush_spec R its x (g : its.length < 900) (d : Heap its its.length) : sP W0 138 [iv o, o.el x] (kH 0 (o.H its) :: R) (fun v B => v = .tuple #[] ∧ ∃ a, B = kH 0 (o.H a) :: R ∧ a.Perm (its ++ [x]) ∧ Heap a a.length) := by
 have e : (its ++ [x]).length = its.length + 1 := by simp
 refine am func138 ntmps138 ?_
 refine ah (fC rfl o.mU o.cU rfl (o.sU _ its x (by omega))) ?_
 refine ah (fC rfl o.mL o.cL rfl (o.sL _ (its ++ [x]))) ?_
 refine aa (nV its.length) ?_
 refine aF rfl (ap Cp (vZ o _ (its ++ [x]) its.length (its.length + 1) (by omega) (by omega) (by omega) (E5 d))) ?_
 rintro _ _ ⟨rfl, f, rfl, c, b, _⟩
 refine aw ?_
 refine bU (.inr rfl) .nil ?_
 exact ⟨_, ⟨rfl, f, rfl, c, by rw [c.length_eq, e]; exact b⟩, IO⟩
theorem xR {l : List α} {n} (h : l.length = n + 1) : ∃ b x, l = b ++ [x] ∧ b.length = n ∧ x = l.getD n default := by
 have a : l ≠ [] := fun e => by rw [e] at h; simp at h
 refine ⟨l.dropLast, l.getLast a, (List.dropLast_concat_getLast a).symm, by simp [h], ?_⟩
 rw [List.getLast_eq_getElem]
 simp [List.getD, h]
theorem xS {l} {x : α} {n} (h : Heap (l ++ [x]) n) (a : n ≤ l.length) : Heap l n :=
  DY (fun i b => by simp only [Qas]; rw [QaB (by omega)]) h
theorem heapPop_spec R its (D : its.length < 900) (g : its ≠ []) (p : Heap its its.length) : sP W0 192 [iv o] (kH 0 (o.H its) :: R) (fun v B => ∃ x a, v = o.el x ∧ B = kH 0 (o.H a) :: R ∧ (a ++ [x]).Perm its ∧ Heap a a.length ∧ ∀ y ∈ its, Hk.ky x ≤ Hk.ky y) := by
 obtain ⟨n, E⟩ : ∃ n, its.length = n + 1 := ⟨its.length - 1, by have := Qcx.2 g; omega⟩
 have q : jC (swapL its 0 n) 0 n := fun c i g => ⟨fun r s => by
  rw [kP (by omega) (by omega), kP (by omega) (by omega), Qaa s, Qaa r, Qaa (by omega), Qaa (by omega)]
  exact p c (by omega) g, fun _ h => by omega⟩
 have t := xJ its 0 n
 refine am func192 ntmps192 ?_
 refine ah (fC rfl o.mL o.cL rfl (o.sL _ its)) ?_
 refine aa (nV n) ?_
 refine ah (fC rfl o.mS o.cS rfl (o.sS _ its 0 n (by omega) (by omega))) ?_
 refine aF rfl (ap zu (w0 o _ (swapL its 0 n) 0 n (by omega) (by omega) (by omega) q)) ?_
 rintro _ _ ⟨l, m, rfl, rfl, b⟩
 have u := b.perm.length_eq
 obtain ⟨f, x, rfl, j, w⟩ := xR (l := l) (n := n) (by omega)
 have k : x = its.getD 0 default := by
  rw [w, b.tail n (Qam _), rS (by omega) (by omega)]; split
  rename_i e; subst e; rfl
  rw [Qad rfl]
 have z : (f ++ [x]).Perm its := b.perm.trans (lI (by omega) (by omega))
 have A : Heap (f ++ [x]) n := by
  cases m with
  | true => exact b.yes rfl
  | false =>
   obtain ⟨e, d⟩ := b.no rfl
   rw [e]; exact xK q d (fun h => absurd h (by omega))
 refine aw ?_
 refine ah (fC rfl o.mO o.cO rfl (o.sO _ f x)) ?_
 refine ac ?_
 refine ⟨_, ⟨x, f, rfl, rfl, z, by rw [j]; exact xS A (by omega), fun y C => ?_⟩, IO⟩
 obtain ⟨c, i, rfl⟩ := Qbb.1 C
 have := heap_min p c i
 rw [us_eq i] at this
 rw [k]; exact this
end Hp
theorem IJ {a : Nat} (h : a < 9223372036854775808) : (BitVec.ofInt 64 a).toNat = a := by
 grind
theorem XJ {a b : Nat} (c : a < 9223372036854775808) (d : b < 9223372036854775808) : e6 .i64 a b = (a &&& b) := by
 have h : a &&& b < 9223372036854775808 := QaI Qbw c
 show IntKind.wrap .i64 ((BitVec.ofInt 64 (a : Int) &&& BitVec.ofInt 64 (b : Int)).toNat : Int) = _
 rw [BitVec.toNat_and, IJ c, IJ d, cj (by omega)]
theorem XK {a b : Nat} (m : a < 9223372036854775808) (n : b < 9223372036854775808) : ru .i64 a b = (a - (a &&& b) : Nat) := by
 have d : a &&& b ≤ a := Qbw
 generalize f : BitVec.ofInt 64 (a : Int) = x
 generalize g : BitVec.ofInt 64 (b : Int) = y
 have h : x.toNat = a := by grind
 have j : y.toNat = b := by grind
 have e : (x &&& ~~~ y).toNat = a - (a &&& b) := by
  have c : (x &&& ~~~ y) &&& (x &&& y) = 0#64 := by
   grind
  have k : (x &&& ~~~ y) + (x &&& y) = x := by
   rw [BitVec.add_eq_or_of_and_eq_zero _ _ c]
   ext i hi
   simp only [BitVec.getElem_or, BitVec.getElem_and, BitVec.getElem_not]
   cases x[i] <;> cases y[i] <;> rfl
  have l := Qah BitVec.toNat k
  rw [BitVec.toNat_add_of_and_eq_zero c, BitVec.toNat_and x y, h, j] at l
  omega
 show IntKind.wrap .i64 ((BitVec.ofInt 64 (a : Int) &&& ~~~ BitVec.ofInt 64 (b : Int)).toNat : Int) = _
 rw [f, g, e, cj (by omega)]
def mG (l : Int) : Bool := decide (0 ≤ l ∧ l < 256)
theorem rT {l} : mG l = true ↔ 0 ≤ l ∧ l < 256 := by simp [mG]
def oX (a b : Int) : Bool := mG a && mG b && decide (a.toNat - (a.toNat &&& b.toNat) = 0)
theorem Az {a b} (h : ¬ (mG a = true ∧ mG b = true)) : oX a b = false := by
 simp_all [Qau, oX, Qan]
theorem IK {a b} (d : a < 256) : a - (a &&& b) = 0 ↔ ∀ c, c < 8 → a.testBit c = true → b.testBit c = true := by
 have f : a &&& b ≤ a := Qbw
 constructor
 intro h c _ g
 have e : a &&& b = a := by omega
 have := Qah (fun n => n.testBit c) e
 simp only [Nat.testBit_and, g, Qbe] at this
 exact this
 intro h
 have e : a &&& b = a := by
  apply Nat.eq_of_testBit_eq
  intro i
  rw [Nat.testBit_and]
  by_cases j : i < 8
  grind
  have : a.testBit i = false := Nat.testBit_lt_two_pow (QcC d (Qct (n := 2) (by decide) (show 8 ≤ i by omega)))
  rw [this]; rfl
 omega
theorem E6 l : sQ W0 325 [iQ l] R (.bool (mG l)) R := by
 refine am func325 ntmps325 ?_
 refine bN (fun a => ?_) fun a => ?_
 refine ac ?_
 refine aG ?_
 refine Qah Value.bool ?_
 rw [Qag]; simp only [mG, Qak, Qaq, QaR]; omega
 refine ac ?_
 refine aG ?_
 refine Qah Value.bool ?_
 rw [Qag]; simp only [mG, Qak, Qaq, QaR]; omega
theorem XL a b : bF Tryz.prog W0 266 [.int .i64 a, .int .i64 b] R (fun v B => v = .bool (oX a b) ∧ B = R) := by
 refine lG func266 ntmps266 rfl rfl ?_
 refine aO (aY (ae rfl (bC rfl) (aL (aH (aO (aY (ae rfl (aM rfl) (aF rfl (iz NP rfl (E6 a)) ?_))))))))
 rintro _ g ⟨rfl, f⟩
 obtain rfl := f.symm
 refine ae rfl (aM rfl) ?_
 refine iT rfl rfl rfl (fun c => ?_) fun c => ?_
 refine ae rfl (aM rfl) ?_
 refine cM rfl rfl (aF rfl (iz NP rfl (E6 b)) ?_)
 rintro _ g ⟨rfl, f⟩
 obtain rfl := f.symm
 refine ae rfl (lR rfl rfl) (ae rfl (aM rfl) ?_)
 refine iT rfl rfl rfl (fun d => ?_) fun d => ?_
 obtain ⟨x, rfl, h⟩ : ∃ x : Nat, a = (x : Int) ∧ x < 256 := ⟨a.toNat, by have := rT.1 c; omega, by have := rT.1 c; omega⟩
 obtain ⟨y, rfl, i⟩ : ∃ y : Nat, b = (y : Int) ∧ y < 256 := ⟨b.toNat, by have := rT.1 d; omega, by have := rT.1 d; omega⟩
 refine ae rfl (aM rfl) (cM rfl rfl (ae rfl (aM rfl) (cM rfl rfl ?_)))
 refine ae rfl (zL rfl rfl (XK (by omega) (by omega))) ?_
 refine cM rfl rfl (ae rfl (iq rfl rfl) (ae rfl (lR rfl rfl) (ae rfl (bC rfl) (aL (aH (dE (bU (.inl rfl) (.cons (aR rfl) .nil) ?_)))))))
 refine ⟨_, ⟨?_, rfl⟩, IO⟩
 first
   | (rw [e]; rfl)
   | (refine Qah Value.bool ?_
      rw [Qag, QaZ, oX, c, d, Qaf, Qaf]
      simp only [Bool.and_self, Qbe, Qaj]
      omega)
 have e := Az (a := a) (b := b) (fun q => d q.2)
 refine fA rfl rfl rfl rfl (fA rfl rfl rfl rfl (fA rfl rfl rfl rfl (ae rfl (iR rfl rfl) (ae rfl (bC rfl) (aL (aH (dE (bU (.inl rfl) (.cons (aR rfl) .nil) ?_))))))))
 refine ⟨_, ⟨?_, rfl⟩, IO⟩
 first
   | (rw [e]; rfl)
   | (refine Qah Value.bool ?_
      rw [Qag, QaZ, oX, c, d, Qaf, Qaf]
      simp only [Bool.and_self, Qbe, Qaj]
      omega)
 have e := Az (a := a) (b := b) (fun q => c q.1)
 refine fA rfl rfl rfl rfl (ae rfl (iR rfl rfl) (ae rfl (aM rfl) (fA rfl rfl rfl rfl (fA rfl rfl rfl rfl (fA rfl rfl rfl rfl (fA rfl rfl rfl rfl (ae rfl (iR rfl rfl) (ae rfl (bC rfl) (aL (aH (dE (bU (.inl rfl) (.cons (aR rfl) .nil) ?_))))))))))))
 refine ⟨_, ⟨?_, rfl⟩, IO⟩
 first
   | (rw [e]; rfl)
   | (refine Qah Value.bool ?_
      rw [Qag, QaZ, oX, c, d, Qaf, Qaf]
      simp only [Bool.and_self, Qbe, Qaj]
      omega)
theorem IL l : sQ W0 369 [iQ l] R (.bool (mG l)) R := by
 refine am func369 ntmps369 ?_
 refine bN (fun a => ?_) fun a => ?_
 refine ac ?_
 refine aG ?_
 refine Qah Value.bool ?_
 rw [Qag]; simp only [mG, Qak, Qaq, QaR]; omega
 refine ac ?_
 refine aG ?_
 refine Qah Value.bool ?_
 rw [Qag]; simp only [mG, Qak, Qaq, QaR]; omega
theorem IM (l c : Nat) (d : l < 256) (e : c < 8) : sQ W0 370 [iQ l, iQ c] R (.bool (l.testBit c)) R := by
 have f : l / 2 ^ c < 256 := QaI (QbQ _ _) d
 refine am func370 ntmps370 ?_
 refine aa (j5 rfl rfl (by omega) (jU (k := .i64) (a := l) (s := c) (by show c ≤ 64; omega))) ?_
 refine aa (eC rfl rfl (XJ (a := l / 2 ^ c) (b := 1) (by omega) (by decide))) ?_
 refine ac ?_
 refine aG ?_
 refine Qah Value.bool ?_
 rw [Qag, QaZ, show (l / 2 ^ c) &&& 1 = l / 2 ^ c % 2 from rI (a := l / 2 ^ c) (n := 1), Nat.testBit_eq_decide_div_mod_eq, Qaj]
 omega
theorem XM a b : sQ W0 324 [iQ a, iQ b] R (.bool (oX a b)) R := by
 refine am func324 ntmps324 ?_
 refine ah (aB call369 (IL a)) ?_
 refine cn (fun e => ?_) fun e => ?_
 refine ac ?_
 refine aG ?_
 rw [Az (fun q => by simp_all)] <;> rfl
 refine ah (aB call369 (IL b)) ?_
 refine ai (fun k => ?_) fun k => ?_
 refine ac ?_
 refine aG ?_
 rw [Az (fun q => by simp_all)] <;> rfl
 have f : mG a = true := by grind
 have g : mG b = true := by grind
 obtain ⟨x, rfl, h⟩ : ∃ x : Nat, a = (x : Int) ∧ x < 256 := ⟨a.toNat, by have := rT.1 f; omega, by have := rT.1 f; omega⟩
 obtain ⟨y, rfl, l⟩ : ∃ y : Nat, b = (y : Int) ∧ y < 256 := ⟨b.toNat, by have := rT.1 g; omega, by have := rT.1 g; omega⟩
 refine cW (fun i : Nat => i ≤ 8 ∧ ∀ c, c < i → x.testBit c = true → y.testBit c = true) (fun i => [(0, iQ x), (1, iQ y), (5, iQ i)]) (fun i => R) (fun i => 8 - i) 0 ?_ ?_
 grind
 intro i ⟨o, m⟩
 refine aw ?_
 refine ai (fun n => ?_) fun n => ?_
 refine ah (aB call370 (IM x i h (by omega))) ?_
 refine bN (fun d => ?_) fun d => ?_
 refine ah (aB call370 (IM y i l (by omega))) ?_
 refine ai (fun j => ?_) fun j => ?_
 refine ac ?_
 refine aG ?_
 refine Qah Value.bool (QcW ?_)
 rw [← Qau, oX]
 intro q
 simp only [Qan, Qaj, Qaf] at q
 exact j ((IK h).1 q.2 i (by omega) d)
 refine aa bW ?_
 refine bR (i + 1) ?_
 grind
 refine aa bW ?_
 refine bR (i + 1) ?_
 grind
 refine ac ?_
 refine aG ?_
 refine Qah Value.bool (QcW ?_)
 rw [oX, f, g]
 simp only [Bool.and_self, Qbe, Qaj, Qaf]
 exact (IK h).2 fun c p => m c (by omega)
section
variable {rd : Option Nat} {P : Program} {S : World → Prop} {W0 : World} {N : FSz} {Q : Exit → Act → World → Prop} {e : bi} {A B R : List HP} {ops : Array Oper} {rest : List Oper}
variable {op : Op} {ty t t' : TypeId} {pos : String} {af : Array Edge} {v u : Value} {d b off : Nat} {x y z : Operand} {l l' vs : List Value}
variable {α : Type} {sz : Nat} {f : α → List Value} {xs : List α} {a : Option Addr}
theorem xT {k m n r ats} (c : ev e x = some (.int k m)) (d : ev e y = some (.int k n)) (f : (if n > m then n else m) = r) : bT P S N e (.call { callee := .builtin .max, args := #[x, y], argTypes := ats }) (.int k r) := fun a w _ _ _ _ _ b _ => by
 simp [execOp, resolve, invoke, builtin, b.eval c, b.eval d, Builtin.max_, Builtin.max2, f]
def m7 (a : Option Addr) (c i sz : Nat) : Option Addr := if c = i then a else a.map (·.add (i * sz))
theorem XN {E n c g : Nat} {k k'} {i h : Nat} {j1 j2} (j : P.underlying t = some (.slice E)) (l : ∀ w, (sizeOf E).run P w = .ok g w) (m : ev e x = some (.slice a n c))
    {lo hi} (o : ev e lo = some (.int k j1)) (p : ev e hi = some (.int k' j2)) (q : j1 = i) (r : j2 = h) (b : i ≤ h) (d : h ≤ c) :
    bT P S N e (.slice t x (some lo) (some hi) none) (.slice (m7 a c i g) (h - i) (c - i)) := fun s w _ _ _ _ _ f _ => by
 subst q; subst r
 simp [execOp, Instr.sliceAt, Instr.slice, f.eval m, f.eval o, f.eval p, eW j, Instr.sliceBounds, rH d, rH b, l, m7]
theorem cG.sub (h : cG S a sz f xs) {c i k} (m : i + k ≤ xs.length) (n : xs.length ≤ c) : cG S (m7 a c i sz) sz f ((xs.drop i).take k) := fun j x g => by
 have d : j < k := by
  grind
 rw [QbZ d, Qcl] at g
 obtain ⟨b, e, rfl, l⟩ := h (i + j) x g
 refine ⟨b, e + i * sz, ?_, ?_⟩
 grind [m7, jy]
 grind
theorem cG.take (h : cG S a sz f xs) k : cG S a sz f (xs.take k) := fun j x c => by
 have b : j < k := by
  grind
 rw [QbZ b] at c
 exact h j x c
theorem cG.src (h : cG S a sz f xs) (e : ∀ x, (f x).length = sz) (g : a = none → True) : (xs = []) ∨ ∃ b c, a = some ⟨b, c, none⟩ ∧ bE S b c (xs.flatMap f) := by
 by_cases d : xs = []
 exact .inl d
 exact .inr (h.all d e)
theorem AA {E n m c u by_ : Nat} {ay info z an xs news} (H : P.underlying t = some (.slice E))
    (I : P.info? E = some info) (hz : info.zero = some z) (J : info.size = sz) (L : info.bytes = by_) (M : z.cells.size = sz) (C : 0 < sz)
    (O : ev e x = some (.slice an n c)) (S : ev e y = some (.slice ay m u)) [h : Tk (osl E sz) (.slice an n c) A xs R]
    (d : m = 0 ∨ ∃ l o, ay = some ⟨l, o, none⟩ ∧ bE (aQ W0 A) l o news) (T : news.length = m * sz) (h1 : fi news = true) (U : n + m ≤ maxLen) (D : (n + m) * by_ ≤ 140737488355328) :
    cY P W0 N e A (.call { callee := .builtin .append, args := #[x, y], argTypes := #[t, t] }) (fun v B => ∃ V W, v = .slice V (n + m) W ∧ B = osl E sz v (xs ++ news) :: R) := by
 rcases d with rfl | ⟨l, o, rfl, hc⟩
 have X : news = [] := QaE (by omega)
 subst X
 intro p w q F s Y g K Q G Z k
 have f := Z.tk (r := osl E sz) (b := .slice an n c)
 have i : n ≤ c := by
  rcases f.osl with ⟨k1, _, _⟩ | ⟨_, _, _, _, k1, k2, _⟩
  grind
  grind
 have j : (Builtin.append_ #[t, t] F #[.slice an n c, .slice ay 0 u]).run P w = .ok (.slice an n c) w := by
  cases an <;> cases ay <;> simp [Builtin.append_, eW H, sizeOf, typeInfo, I, Builtin.lenOf, Builtin.firstCells, i, loadCells, loadCellsFrom, storeCells]
 unfold Oper.wp
 have a : (execOp p.eval { dst := q, op := .call { callee := .builtin .append, args := #[x, y], argTypes := #[t, t] }, type := F, pos := s, after := Y, guard := g }).run P w = .ok (.value (.slice an n c)) w := by
  simp only [execOp, resolve, invoke, builtin, Sem.run_bind, Sem.run_pure, Result.andThen_ok, Qcy, QaM, Qcg, G.eval O, G.eval S, j]
 rw [a]
 exact k _ w _ ⟨an, c, rfl, by rw [Qav]⟩ f
 grind [eE]
end
section
variable {P : Program} {S : World → Prop} {W0 : World} {N : FSz} {e : bi} {A R : List HP} {t ty : TypeId} {b off : Nat} {x : Operand} {l : List Value}
theorem xU {E n c g o' : Nat} {k} {i : Nat} {j1} (j : P.underlying t = some (.slice E)) (l : ∀ w, (sizeOf E).run P w = .ok g w) (m : ev e x = some (.slice (some ⟨b, off, none⟩) n c))
    {lo} (o : ev e lo = some (.int k j1)) (p : j1 = i) (d : i ≤ n) (q : i < c) (r : off + i * g = o') :
    bT P S N e (.slice t x (some lo) none none) (.slice (some ⟨b, o', none⟩) (n - i) (c - i)) := fun a w _ _ _ _ _ h _ => by
 subst p; subst r
 have f : ¬ c = i := by omega
 simp [execOp, Instr.sliceAt, Instr.slice, h.eval m, h.eval o, eW j, Instr.sliceBounds, rH d, l, f, jy]
theorem t8 {E n c d : Nat} {k} {i : Nat} {j1 a a'} (g : P.underlying t = some (.slice E)) (h : ∀ w, (sizeOf E).run P w = .ok d w) (j : ev e x = some (.slice a n c))
    {lo} (l : ev e lo = some (.int k j1)) (m : j1 = i) (b : i ≤ n) (o : m7 a c i d = a') :
    bT P S N e (.slice t x (some lo) none none) (.slice a' (n - i) (c - i)) := fun p w _ _ _ _ _ f _ => by
 subst m; subst o
 simp [execOp, Instr.sliceAt, Instr.slice, f.eval j, f.eval l, eW g, Instr.sliceBounds, rH b, h, m7]
theorem IN z n : (Builtin.zeroCells z n).toList.length = n * z.size := by simp [Builtin.zeroCells]
theorem XO z n (c : z.all Value.oneCell' = true) : ∀ v ∈ (Builtin.zeroCells z n).toList, v.oneCell' = true := fun v b => by
 simp only [Builtin.zeroCells, Qci, QaX, Array.toList_range, QbD] at b
 obtain ⟨i, e, rfl⟩ := b
 have d : 0 < z.size := by
  grind
 have a : i % z.size < z.size := Qcd _ d
 rw [getElem!_pos z (i % z.size) a]
 exact (Array.all_eq_true.1 c) _ a
theorem E7 {E n c : Nat} {z} (y : P.underlying t = some (.slice E)) (C : ∀ w, (zeroValue E).run P w = .ok z w) (D : z.cells.all Value.oneCell' = true) (F : ev e x = some (.slice (some ⟨b, off, none⟩) n c)) (J : 0 < n)
    [h : Tk pt b A (ag l ty) R] (L : off + n * z.cells.size ≤ l.length) :
    cY P W0 N e A (.call { callee := .builtin .clear, args := #[x], argTypes := #[t] }) (fun v B => ∃ s, s.length = n * z.cells.size ∧ v = .tuple #[] ∧ B = pt b (ag (d7 l off s) ty) :: R) := by
 intro a w i j o G g K Q H I k
 have p := I.tk (r := pt) (b := b)
 obtain ⟨u, q, d⟩ := zP (P := P) (off := off) (Builtin.zeroCells z.cells n).toList 0 p (by rw [IN]; omega) (XO _ _ D)
 rw [QbM] at d
 have f : (execOp a.eval { dst := i, op := .call { callee := .builtin .clear, args := #[x], argTypes := #[t] }, type := j, pos := o, after := G, guard := g }).run P w = .ok (.value (.tuple #[])) u := by
  obtain ⟨m, rfl⟩ : ∃ m, n = m + 1 := ⟨n - 1, by omega⟩
  simp only [execOp, resolve, invoke, builtin, Sem.run_bind, Sem.run_pure, Result.andThen_ok, Qcy, QaM, Qcg, H.eval F, Builtin.clear_, Qcm, QbT, QbH, eW y, C, q]
 unfold Oper.wp
 rw [f]
 exact k _ u _ ⟨_, IN _ _, rfl, rfl⟩ d
section
variable {rd : Option Nat} {Q : Exit → Act → World → Prop} {ops : Array Oper} {rest : List Oper} {pos : String} {af : Array Edge} {d : Nat} {y : Operand}
theorem XP {xc yc} (k : av W0 N (yc.wpR rd P Q) e A) : av W0 N ((Code.cond (.const (.bool false)) xc yc).wpR rd P Q) e A :=
  fun a w b c => wpIn_cond_false (b.eval (x := .const (.bool false)) rfl) (k a w b c)
theorem XQ {k i} {j : Nat} {s} (c : P.underlying t = some .string) (d : ev e x = some (.string s)) (f : ev e y = some (.int k i)) (g : i = j) hj :
    bT P S N e (.index t x y) (.int .u8 (s[j]'hj).toNat) := fun a w _ _ _ _ _ b _ => by
 subst g
 have h : (0 : Int) ≤ (j : Int) := by omega
 simp only [execOp, Instr.index, Sem.run_bind, b.eval d, b.eval f, asIntOf, Sem.run_pure, Result.andThen_ok, eW c, Qad h, Qaf, getElem?_pos s j hj]
theorem XR {k i} {j : Nat} {s} (a : Nat.blt d N.n = true) (b : P.underlying t = some .string) (c : ev e x = some (.string s)) (f : ev e y = some (.int k i)) (g : i = j) (h : j < s.size)
    (l : ∀ m : Nat, m < 256 → av W0 N (bX rd P ops Q rest) ((d, .int .u8 m) :: e) A) :
    av W0 N (bX rd P ops Q ({ dst := some d, op := .index t x y, type := ty, pos := pos, after := af, guard := none } :: rest)) e A :=
  ae a (XQ b c f g h) (l _ (UInt8.toNat_lt _))
end
end
section
variable {P : Program} {W0 : World} {N : FSz} {e : bi} {A R R1 R2 R3 R4 R5 R6 R7 : List HP} {vs us cs : List Value}
variable {K1 K2 K3 K4 K5 K6 K7 K8 X1 X2 X3 X4 X5 X6 X7 X8 : Type} {r1 : K1 → X1 → HP} {b1 : K1} {x1 : X1} {r2 : K2 → X2 → HP} {b2 : K2} {x2 : X2} {r3 : K3 → X3 → HP} {b3 : K3} {x3 : X3} {r4 : K4 → X4 → HP} {b4 : K4} {x4 : X4} {r5 : K5 → X5 → HP} {b5 : K5} {x5 : X5} {r6 : K6 → X6 → HP} {b6 : K6} {x6 : X6} {r7 : K7 → X7 → HP} {b7 : K7} {x7 : X7} {r8 : K8 → X8 → HP} {b8 : K8} {x8 : X8}
theorem IP [a : Tk r1 b1 A x1 R1] [b : Tk r2 b2 R1 x2 R2] [c : Tk r3 b3 R2 x3 R3] [d : Tk r4 b4 R3 x4 R4] [e : Tk r5 b5 R4 x5 R5] [f : Tk r6 b6 R5 x6 R6] [g : Tk r7 b7 R6 x7 R] : A.Perm (r1 b1 x1 :: r2 b2 x2 :: r3 b3 x3 :: r4 b4 x4 :: r5 b5 x5 :: r6 b6 x6 :: r7 b7 x7 :: R) := a.perm.trans (xn.cons _)
theorem XS [a : Tk r1 b1 A x1 R1] [b : Tk r2 b2 R1 x2 R2] [c : Tk r3 b3 R2 x3 R3] [d : Tk r4 b4 R3 x4 R4] [e : Tk r5 b5 R4 x5 R5] [f : Tk r6 b6 R5 x6 R6] [g : Tk r7 b7 R6 x7 R7] [h : Tk r8 b8 R7 x8 R] : A.Perm (r1 b1 x1 :: r2 b2 x2 :: r3 b3 x3 :: r4 b4 x4 :: r5 b5 x5 :: r6 b6 x6 :: r7 b7 x7 :: r8 b8 x8 :: R) := a.perm.trans (IP.cons _)
variable {f : FuncId} {xs : Array Operand} {ats : Array TypeId} {Post : Value → List HP → Prop}
theorem IQ (b : ∀ a w, (callFunc f a).run P w = .ok (.enter f a) w) (c : fP e xs.toList = some vs)
    (d : bF P W0 f vs (r1 b1 x1 :: r2 b2 x2 :: r3 b3 x3 :: r4 b4 x4 :: r5 b5 x5 :: r6 b6 x6 :: r7 b7 x7 :: R) Post) [g : Tk r1 b1 A x1 R1] [h : Tk r2 b2 R1 x2 R2] [i : Tk r3 b3 R2 x3 R3] [j : Tk r4 b4 R3 x4 R4] [k : Tk r5 b5 R4 x5 R5] [l : Tk r6 b6 R5 x6 R6] [m : Tk r7 b7 R6 x7 R] : cY P W0 N e A (.call { callee := .value (.func f), args := xs, argTypes := ats }) Post :=
  kj IP (iz b c d)
theorem xV (b : ∀ a w, (callFunc f a).run P w = .ok (.enter f a) w) (c : fP e xs.toList = some vs)
    (d : bF P W0 f vs (r1 b1 x1 :: r2 b2 x2 :: r3 b3 x3 :: r4 b4 x4 :: r5 b5 x5 :: r6 b6 x6 :: r7 b7 x7 :: r8 b8 x8 :: R) Post) [g : Tk r1 b1 A x1 R1] [h : Tk r2 b2 R1 x2 R2] [i : Tk r3 b3 R2 x3 R3] [j : Tk r4 b4 R3 x4 R4] [k : Tk r5 b5 R4 x5 R5] [l : Tk r6 b6 R5 x6 R6] [m : Tk r7 b7 R6 x7 R7] [n : Tk r8 b8 R7 x8 R] : cY P W0 N e A (.call { callee := .value (.func f), args := xs, argTypes := ats }) Post :=
  kj XS (iz b c d)
end
structure Prt where
  lab : Int
  gu : Int
  l : List ByteArray
instance : Inhabited Prt := ⟨⟨0, 0, []⟩⟩
section
variable {P : Program} {W0 : World} {N : FSz} {K : Act → World → Prop} {e : bi} {A B R R1 R2 R3 R4 : List HP} {p g n : Nat} {ps : List Prt} {f : FuncId} {args : List Value} {Post : Value → List HP → Prop}
theorem IR {α : Type} : ∀ (l : List α) (i : Nat) (h : i < l.length), l.Perm (l[i] :: l.eraseIdx i)
 | x :: l, 0, h => by simp
 | x :: l, i + 1, h => by
  simp only [List.getElem_cons_succ, Qcz]
  exact ((IR l i (by simpa using h)).cons x).trans (List.Perm.swap _ _ _)
theorem IS {α : Type} : ∀ (l : List α) (i : Nat) (x : α) (h : i < l.length), (x :: l.eraseIdx i).Perm (l.set i x)
 | y :: l, 0, x, h => by simp
 | y :: l, i + 1, x, h => by
  simp only [Qck, Qcz]
  exact (List.Perm.swap _ _ _).trans ((IS l i x (by simpa using h)).cons y)
theorem XT {L i} h : Ent (kH 2 (cq L) :: R) (L[i] :: kH 3 (cq (L.eraseIdx i)) :: R) := by
 refine (sD (A := L) (R := R)).trans ?_
 refine (Ent.ofPerm ((IR L i h).append_right R)).trans ?_
 exact Ent.cons sF
theorem XU {L : List HP} {i x} (h : i < L.length) : Ent (x :: kH 3 (cq (L.eraseIdx i)) :: R) (kH 2 (cq (L.set i x)) :: R) := by
 refine (Ent.cons sD).trans ?_
 exact (Ent.ofPerm ((IS L i x h).append_right R)).trans sF
end
theorem AB {a : List Value} {i v} (h : a[i]? = some v) : a.set i v = a := by
 have b : i < a.length := by
  rcases QaC i a.length with k | k
  exact k
  rw [Qbk k] at h; cases h
 have : a[i] = v := by simpa [b] using h
 rw [← this]; exact QbU _
@[reducible] def fw (x : Int × Bool) : List Value := [.int .i64 x.1, .bool x.2]
theorem AC x : (fw x).length = 2 := rfl
@[reducible] def kR (n : Nat) : List Value := [.int .i64 (n : Int)]
theorem nz n : (kR n).length = 1 := rfl
def ez (p : Value × List Nat) : HP := osl 3 1 p.1 (p.2.flatMap kR)
@[reducible] def fY (ps : Nat) (sv : Value) (vs : List Value) : List Value := .pointer (some ⟨ps, 0, none⟩) :: sv :: vs
theorem IT ps w sv v vs : (fY ps sv vs).set (2 + w * 1) v = fY ps sv (vs.set w v) := by
 grind
abbrev j9 (w : Nat) : Nat → List Nat × List Value → HP := nx 202 3 1 kR (2 + w * 1)
def cR (pb : Nat) (x : Nat × Po) : HP := chk (fun C => ∃ a c vs Ls, vs.length = 16 ∧ LsOk x.2 Ls ∧ C = [pt pb (ag (fY x.1 (.slice a x.2.length c) vs) 202), osl 204 2 (.slice a x.2.length c) (x.2.flatMap fw), kH 2 (cq ((vs.zip Ls).map ez))])
theorem XV {F R B} (h : ∀ C, F C → Ent (C ++ R) B) : Ent (chk F :: R) B := ⟨fun l a => by
 obtain ⟨l1, l2, rfl, ⟨C, hC, hs⟩, h2⟩ := a
 exact (h C hC).out _ (jx.append.2 ⟨l1, l2, rfl, hs, h2⟩)⟩
section
variable {P : Program} {W0 : World} {N : FSz} {K : Act → World → Prop} {e : bi} {A B R R1 R2 R3 : List HP} {pb ps w n : Nat} {po : Po} {f : FuncId} {args : List Value} {Post : Value → List HP → Prop}
theorem w3 [k : Tk cR pb A (ps, po) R] (h : ∀ a c d f, d.length = 16 → LsOk po f → av W0 N K e (pt pb (ag (fY ps (.slice a po.length c) d) 202) :: osl 204 2 (.slice a po.length c) (po.flatMap fw) :: kH 2 (cq ((d.zip f).map ez)) :: R)) : av W0 N K e A :=
  fV (r := cR) (b := pb) (ni fun C g => by obtain ⟨a, c, d, f, i, j, rfl⟩ := g; exact h a c d f i j)
theorem IU (h : ∀ a c b d, b.length = 16 → LsOk po d → bF P W0 f args (pt pb (ag (fY ps (.slice a po.length c) b) 202) :: osl 204 2 (.slice a po.length c) (po.flatMap fw) :: kH 2 (cq ((b.zip d).map ez)) :: R) Post) : bF P W0 f args (cR pb (ps, po) :: R) Post :=
  qk fun C e => by obtain ⟨a, c, b, d, g, i, rfl⟩ := e; exact h a c b d g i
theorem w4 {a c vs xs Ls sv} [b : Tk pt pb A (ag (fY ps sv vs) 202) R1] [d : Tk (osl 204 2) sv R1 xs R2] [e : Tk kH 2 R2 (cq ((vs.zip Ls).map ez)) R3]
    (f : sv = .slice a n c) (g : vs.length = 16) (h : LsOk po Ls) (i : n = po.length) (j : xs = po.flatMap fw) [k : Ent R3 B] : Ent A (cR pb (ps, po) :: B) := by
 subst f; subst i; subst j
 exact (Ent.ofPerm (b.perm.trans ((d.perm.trans (e.perm.cons _)).cons _))).trans ((Ent.cons (Ent.cons (Ent.cons k))).trans (fK (R := B) (C := [_, _, _]) ⟨a, c, vs, Ls, g, h, rfl⟩))
theorem AD {sv vs Ls} (G : w < 16) (p : vs.length = 16) (x : Ls.length = 16) :
    Ent (pt pb (ag (fY ps sv vs) 202) :: kH 2 (cq ((vs.zip Ls).map ez)) :: R) (j9 w pb (Ls.getD w [], fY ps sv vs) :: kH 3 (cq (((vs.zip Ls).map ez).eraseIdx w)) :: R) := by
 have q : ((vs.zip Ls).map ez).length = 16 := by simp [p, x]
 have y : ((vs.zip Ls).map ez)[w]'(by omega) = osl 3 1 (vs.getD w undef) ((Ls.getD w []).flatMap kR) := by
  grind [ez]
 have s := XT (L := (vs.zip Ls).map ez) (R := R) (i := w) (by omega)
 rw [y] at s
 refine (Ent.cons s).trans ?_
 generalize z : vs.getD w undef = v
 have A : vs[w]? = some v := by grind
 refine ⟨fun l B => ?_⟩
 obtain ⟨f, H, rfl, C, d, h, rfl, t, D⟩ := B
 have e : ∀ a c, v = .slice a (Ls.getD w []).length c → ∃ u r, jx (j9 w pb (Ls.getD w [], fY ps sv vs) :: kH 3 (cq (((vs.zip Ls).map ez).eraseIdx w)) :: R) u ∧ (f ++ (d ++ h)).Perm (u ++ r) := fun a c j => by
  have k : (fY ps sv vs).set (2 + w * 1) (.slice a (Ls.getD w []).length c) = fY ps sv vs := by
   grind [IT, AB]
  refine ⟨(f ++ d) ++ h, [], ⟨f ++ d, h, rfl, ⟨_, ⟨by simp [fY, p]; omega, a, c, rfl⟩, ?_⟩, D⟩, by simp⟩
  rw [k, ← j]
  exact ⟨f, d, rfl, C, d, [], by simp, t, rfl⟩
 rcases id t with ⟨m, E, _⟩ | ⟨g, n, o, I, m, _, _, F, _, _⟩
 have b : (Ls.getD w []).length = 0 := by
  have := Qah List.length E
  rw [cF nz] at this; simpa using this
 exact e none 0 (by rw [m, b])
 have b : (Ls.getD w []).length = n := by rw [cF nz] at F; omega
 exact e (some ⟨g, 0, none⟩) o (by rw [m, b])
theorem AE {a c sv vs Ls l po'} (q : w < 16) (h : vs.length = 16) (i : sv = .slice a n c) (j : n = po'.length) (k : Ls.length = 16) (m : LsOk po' (Ls.set w l)) :
    Ent (j9 w pb (l, fY ps sv vs) :: osl 204 2 sv (po'.flatMap fw) :: kH 3 (cq (((vs.zip Ls).map ez).eraseIdx w)) :: R) (cR pb (ps, po') :: R) := by
 refine XV fun C o => ?_
 obtain ⟨r, b, d, rfl⟩ := o
 have e : (fY ps sv vs).set (2 + w * 1) (.slice b l.length d) = fY ps sv (vs.set w (.slice b l.length d)) := IT ..
 dsimp only
 rw [e]
 have f : ((vs.zip Ls).map ez).length = 16 := by simp [h, k]
 have g : ((vs.set w (.slice b l.length d)).zip (Ls.set w l)).map ez = ((vs.zip Ls).map ez).set w (ez (.slice b l.length d, l)) := by
  apply QaP
  simp
  grind
 have p : Ent (ez (.slice b l.length d, l) :: kH 3 (cq (((vs.zip Ls).map ez).eraseIdx w)) :: R) (kH 2 (cq (((vs.set w (.slice b l.length d)).zip (Ls.set w l)).map ez)) :: R) := by
  grind [XU]
 refine (Ent.ofPerm ((List.Perm.swap _ _ _).cons _)).trans ?_
 refine (Ent.cons (Ent.cons p)).trans ?_
 exact w4 (vs := vs.set w (.slice b l.length d)) i (by grind) m j rfl
end
theorem E8 po sp i j (a : i < po.length) (b : j < 2) : (po.flatMap fw ++ sp)[i * 2 + j]? = (fw (d6 po i))[j]? := by
 simp_all [mq, AC, d6]
theorem XW (a : Po) sp i v (b : i < a.length) : (a.flatMap fw ++ sp).set (i * 2 + 0) (iQ v) = (a.set i (v, (d6 a i).2)).flatMap fw ++ sp :=
  qj AC a i 0 _ _ sp b (by decide) (by grind [d6])
theorem IV (a : Po) sp i v (b : i < a.length) : (a.flatMap fw ++ sp).set (i * 2 + 1) (.bool v) = (a.set i ((d6 a i).1, v)).flatMap fw ++ sp :=
  qj AC a i 1 _ _ sp b (by decide) (by grind [d6])
theorem qG (a : Po) : (a.flatMap fw).length = a.length * 2 := cF AC a
abbrev t9 (pb w : Nat) : Value := .pointer (some ⟨pb, 2 + w * 1, none⟩)
theorem uy {its : List Nat} {sp i} (a : i < its.length) : (its.flatMap kR ++ sp)[i * 1]? = some (iQ (its.getD i default)) := by
 have := mq nz its i 0 sp a (by decide)
 rw [QbM] at this
 rw [this]; simp [kR, List.getD, a]
theorem AF {a : List Nat} {sp} {i x : Nat} (b : i < a.length) : (a.flatMap kR ++ sp).set (i * 1) (iQ x) = (a.set i x).flatMap kR ++ sp := by
 have := qj nz a i 0 (iQ (x : Int)) x sp b (by decide) (by simp [kR])
 rwa [QbM] at this
theorem AG {a : List Nat} {sp i} (b : i < a.length) : i * 1 + 1 ≤ (a.flatMap kR ++ sp).length := XI nz a sp i b
theorem AH pb w its cs : sQ W0 191 [t9 pb w] (j9 w pb (its, cs) :: R) (iQ its.length) (j9 w pb (its, cs) :: R) := by
 refine t7 fun a c b => ?_
 refine am func191 ntmps191 ?_
 refine aa (aE (aI (eQ b))) ?_
 refine ac ?_
 exact ⟨_, ⟨rfl, rfl⟩, ny rfl rfl b rfl⟩
theorem XX pb w its cs (i k : Nat) (d : i < its.length) (e : k < its.length) : sQ W0 497 [t9 pb w, iQ i, iQ k] (j9 w pb (its, cs) :: R) (.bool (decide (Hp.us its i < Hp.us its k))) (j9 w pb (its, cs) :: R) := by
 refine qF nz (by grind) (by decide) fun g c l b f h j => ?_
 refine am func497 ntmps497 ?_
 refine bz [pb, g] 16 fun a => ?_
 refine aj 0 3 a ?_
 refine az 3 a (aE (dq (k := 0) rfl (eQ b))) ?_
 refine aj 4 1 a ?_
 refine az 5 a (bM d) ?_
 refine az 6 a (aE (dq (k := 1) rfl (uy d))) ?_
 refine aj 7 3 a ?_
 refine az 10 a (aE (dq (k := 0) rfl (eQ b))) ?_
 refine aj 11 1 a ?_
 refine az 12 a (bM e) ?_
 refine az 13 a (aE (dq (k := 1) rfl (uy e))) ?_
 refine aj 14 2 a ?_
 refine aJ ?_
 refine ac ?_
 exact ⟨_, ⟨rfl, rfl⟩, kG nz rfl rfl b rfl f h j⟩
theorem XY pb w its cs (i k : Nat) (b : i < its.length) (e : k < its.length) : sQ W0 500 [t9 pb w, iQ i, iQ k] (j9 w pb (its, cs) :: R) (.tuple #[]) (j9 w pb (Hp.swapL its i k, cs) :: R) := by
 refine qF nz (by grind) (by decide) fun g c j d l h f => ?_
 refine am func500 ntmps500 ?_
 refine bz [pb] 28 fun a => ?_
 refine aj 0 3 a ?_
 refine az 3 a (aE (dq (k := 0) rfl (eQ d))) ?_
 refine aj 4 4 a ?_
 refine az 8 a (aE (dq (k := 0) rfl (eQ d))) ?_
 refine aj 9 4 a ?_
 refine az 13 a (aE (dq (k := 0) rfl (eQ d))) ?_
 refine aj 14 1 a ?_
 refine az 15 a (bM e) ?_
 refine aj 17 3 a ?_
 refine az 20 a (aE (dq (k := 0) rfl (eQ d))) ?_
 refine aj 21 1 a ?_
 refine az 22 a (bM b) ?_
 refine eD (is := [16, 23]) (by kernel_rfl) rfl ⟨?_, ?_, trivial⟩
 refine cX (dP (aE (aI (uy e)))) ?_; clear a
 rintro _ _ ⟨rfl, rfl⟩
 refine ⟨aT, fun a => ?_⟩
 refine bY 23 (dP (aE (aI (uy b)))) fun a => ?_
 refine az 24 a (bM b) ?_
 refine cm 25 (dt (AG b) (AF b)) fun a => ?_
 refine az 26 a (bM e) ?_
 refine cm 27 (dt (AG (by grind)) (AF (by grind))) fun a => ?_
 refine aJ ?_
 refine bU (.inr rfl) .nil ?_
 exact ⟨_, ⟨rfl, rfl⟩, kG nz rfl rfl d (by simp [Hp.swapL]) (by omega) h (by rw [Qae, cF nz] at f ⊢; simpa [Hp.swapL] using f)⟩
 skip
 refine cX (dP (aE (aI (uy b)))) ?_; clear a
 rintro _ _ ⟨rfl, rfl⟩
 refine ⟨aT, fun a => ?_⟩
 refine bY 16 (dP (aE (aI (uy e)))) fun a => ?_
 refine az 24 a (bM b) ?_
 refine cm 25 (dt (AG b) (AF b)) fun a => ?_
 refine az 26 a (bM e) ?_
 refine cm 27 (dt (AG (by grind)) (AF (by grind))) fun a => ?_
 refine aJ ?_
 refine bU (.inr rfl) .nil ?_
 exact ⟨_, ⟨rfl, rfl⟩, kG nz rfl rfl d (by simp [Hp.swapL]) (by omega) h (by rw [Qae, cF nz] at f ⊢; simpa [Hp.swapL] using f)⟩
theorem XZ pb w its (x : Nat) cs : sQ W0 498 [t9 pb w] (j9 w pb (its ++ [x], cs) :: R) (.iface 3 (iQ x)) (j9 w pb (its, cs) :: R) := by
 refine qF nz (by simp) (by decide) fun g c d b h e j => ?_
 have k : (its ++ [x]).length = its.length + 1 := by simp
 rw [k] at h ⊢
 have l : (its ++ [x]).getD its.length default = x := by grind
 have f : (its ++ [x]).flatMap kR ++ d = its.flatMap kR ++ (kR x ++ d) := by simp
 have a := uy (its := its ++ [x]) (sp := d) (i := its.length) (by omega)
 rw [l] at a
 refine am func498 ntmps498 ?_
 refine aa (aE (aI (eQ b))) ?_
 refine aa (l8 rfl rfl (by rw [cj (by simp only [maxLen] at e; omega)]; omega : IntKind.wrap .i64 (((its.length + 1 : Nat) : Int) - 1) = ((its.length : Nat) : Int))) ?_
 refine aa (aE (aI (eQ b))) ?_
 refine aa (bM (by omega)) ?_
 refine aa (aE (aI a)) ?_
 refine aa (aE (aI (eQ b))) ?_
 refine aa (oM eJ aS rfl rfl rfl (by omega)) ?_
 refine ar (dt (by rw [Qap]; exact b) set_set) ?_
 refine ac ?_
 rw [f]
 exact ⟨_, ⟨rfl, rfl⟩, kG (sp := kR x ++ d) nz rfl rfl b rfl (by omega) e (by rw [← f]; exact j)⟩
theorem Y0 pb w its (x : Nat) cs (j : its.length < 1000) : sQ W0 499 [t9 pb w, .iface 3 (iQ x)] (j9 w pb (its, cs) :: R) (.tuple #[]) (j9 w pb (its ++ [x], cs) :: R) := by
 refine t7 fun a c d => ?_
 have e : its.flatMap kR ++ [Value.int .i64 (x : Int)] = (its ++ [x]).flatMap kR := by simp
 refine lG func499 ntmps499 rfl rfl ?_
 refine bz [] 12 fun b => ?_
 refine aj 0 4 b ?_
 refine aj 5 1 b ?_
 refine az 6 b (sM jj (fun _ h => by cases h) rfl) ?_
 refine eD (is := [4, 7]) (by kernel_rfl) rfl ⟨?_, ?_, trivial⟩
 refine cX (dP (aE (aI (eQ d)))) ?_; clear b
 rintro _ _ ⟨rfl, rfl⟩
 refine ⟨aT, fun b => ?_⟩
 refine kt 7 (by kernel_rfl) rfl rfl (jP eJ aS ml rfl rfl rfl rfl rfl (by decide) (by decide)) rfl ?_; clear b
 rintro _ _ ⟨f, rfl, rfl⟩
 refine ⟨aT, fun b => ?_⟩
 refine bQ 8 (eE (sz := 1) (by_ := 8) (info := Tryz.t3) eJ (by kernel_rfl) rfl rfl rfl rfl (by decide) rfl rfl en rfl rfl (by simp only [maxLen]; omega) (by omega)) ?_; clear b
 rintro _ _ ⟨g, i, rfl, rfl⟩
 refine ⟨aT, fun b => ?_⟩
 refine aj 9 2 b ?_
 refine cm 11 (dt (by grind) set_set) fun b => ?_
 refine hQ ?_
 refine bU (.inr rfl) .nil ?_
 exact ⟨_, ⟨rfl, rfl⟩, ny (its := its ++ [x]) e rfl d (by simp)⟩
 skip
 refine nU rfl rfl (jP eJ aS ml rfl rfl rfl rfl rfl (by decide) (by decide)) rfl ?_; clear b
 rintro _ _ ⟨f, rfl, rfl⟩
 refine ⟨aT, fun b => ?_⟩
 refine bY 4 (dP (aE (aI (eQ d)))) fun b => ?_
 refine bQ 8 (eE (sz := 1) (by_ := 8) (info := Tryz.t3) eJ (by kernel_rfl) rfl rfl rfl rfl (by decide) rfl rfl en rfl rfl (by simp only [maxLen]; omega) (by omega)) ?_; clear b
 rintro _ _ ⟨g, i, rfl, rfl⟩
 refine ⟨aT, fun b => ?_⟩
 refine aj 9 2 b ?_
 refine cm 11 (dt (by grind) set_set) fun b => ?_
 refine aJ ?_
 refine bU (.inr rfl) .nil ?_
 exact ⟨_, ⟨rfl, rfl⟩, ny (its := its ++ [x]) e rfl d (by simp)⟩
section
variable (w : World) (a : Addr)
theorem Y1 : (method (Tryz.prog.types.size + Made.depth) 317 (.pointer (some a)) "Len").run Tryz.prog w = .ok (191, .pointer (some a)) w := by kernel_rfl
theorem Y2 : (method (Tryz.prog.types.size + Made.depth) 317 (.pointer (some a)) "Less").run Tryz.prog w = .ok (497, .pointer (some a)) w := by kernel_rfl
theorem Y3 : (method (Tryz.prog.types.size + Made.depth) 317 (.pointer (some a)) "Swap").run Tryz.prog w = .ok (500, .pointer (some a)) w := by kernel_rfl
theorem Y4 : (method (Tryz.prog.types.size + Made.depth) 317 (.pointer (some a)) "Push").run Tryz.prog w = .ok (499, .pointer (some a)) w := by kernel_rfl
theorem Y5 : (method (Tryz.prog.types.size + Made.depth) 317 (.pointer (some a)) "Pop").run Tryz.prog w = .ok (498, .pointer (some a)) w := by kernel_rfl
end
def IW (W0 : World) (pb w : Nat) (cs : List Value) : HpO W0 Nat where
  T := 317
  p := t9 pb w
  el := fun x => .iface 3 (.int .i64 (x : Int))
  H := fun l => j9 w pb (l, cs)
  fL := 191
  fE := 497
  fS := 500
  fU := 499
  fO := 498
  mL := fun u => Y1 u _
  mE := fun u => Y2 u _
  mS := fun u => Y3 u _
  mU := fun u => Y4 u _
  mO := fun u => Y5 u _
  cL := Gr
  cE := call497
  cS := call500
  cU := call499
  cO := call498
  sL := fun R l => AH pb w l cs
  sE := fun R l i j hi hj => XX pb w l cs i j hi hj
  sS := fun R l i j hi hj => XY pb w l cs i j hi hj
  sU := fun R l x hl => Y0 pb w l x cs hl
  sO := fun R l x => XZ pb w l x cs
theorem Y6 pb w its (x : Nat) cs (b : its.length < 900) (c : Hp.Heap its its.length) : sP W0 138 [.iface 317 (t9 pb w), .iface 3 (iQ x)] (j9 w pb (its, cs) :: R) (fun v B => v = .tuple #[] ∧ ∃ a, B = j9 w pb (a, cs) :: R ∧ a.Perm (its ++ [x]) ∧ Hp.Heap a a.length) :=
  Hp.heapPush_spec (IW W0 pb w cs) R its x b c
theorem Y7 pb w its cs (b : its.length < 900) (c : its ≠ []) (d : Hp.Heap its its.length) : sP W0 192 [.iface 317 (t9 pb w)] (j9 w pb (its, cs) :: R) (fun v B => ∃ x a, v = .iface 3 (iQ (x : Nat)) ∧ B = j9 w pb (a, cs) :: R ∧ (a ++ [x]).Perm its ∧ Hp.Heap a a.length ∧ ∀ y ∈ its, x ≤ (y : Int)) :=
  Hp.heapPop_spec (IW W0 pb w cs) R its b c d
def ej : Value := .slice none 0 0
theorem Y8 ps fr (f : Nat) (hf : f < fr.length) : sQ W0 176 [pQ ps, iQ f] (bD ps fr :: R) (iQ 0) (bD ps (fr.set f cC) :: R) := by
 have b : eu fr.length f = true := by grind [eu]
 refine am func176 ntmps176 ?_
 refine ah (ap zq (vM ps fr f)) ?_
 refine ai (fun a => ?_) fun a => ?_
 exact absurd a (by simp [b])
 refine vL (ps := ps) fun g => ?_
 refine aw ?_
 refine aa (xo Ck pz zeroValue315 rfl) ?_
 refine aa (bM hf) ?_
 refine ar (iD (by rw [I2]; omega) (I1 (y := cC) hf rfl)) ?_
 refine ac ?_
 exact ⟨_, ⟨rfl, rfl⟩, qw rfl (by simp)⟩
theorem w5 pb ps po (d : 0 < po.length) : sQ W0 96 [pQ pb] (cR pb (ps, po) :: R) (.bool false) (cR pb (ps, po) :: R) := by
 refine IU fun a c h i f g => ?_
 refine am func96 ntmps96 ?_
 refine dk rfl rfl rfl (fun b => ?_) fun b => ?_
 cases b
 refine aw ?_
 refine ac ?_
 exact ⟨_, ⟨by simp [aK, show po ≠ [] from fun e => by subst e; simp at d], rfl⟩, w4 rfl f g rfl rfl⟩
theorem E9 pb ps po f : sQ W0 97 [pQ pb, iQ f] (cR pb (ps, po) :: R) (.bool (eu po.length f)) (cR pb (ps, po) :: R) := by
 refine IU fun a c g h d e => ?_
 refine am func97 ntmps97 ?_
 refine bN (fun b => ?_) fun b => ?_
 refine ac ?_
 refine ⟨_, ⟨?_, rfl⟩, w4 rfl d e rfl rfl⟩
 refine Qah Value.bool ?_
 rw [Qag, eu, Qaj]
 first
   | (rw [Qaj]; constructor <;> (intro q; omega))
   | (constructor
      · intro q; first | omega | (cases q)
      intro q; omega)
 refine ac ?_
 refine ⟨_, ⟨?_, rfl⟩, w4 rfl d e rfl rfl⟩
 refine Qah Value.bool ?_
 rw [Qag, eu, Qaj]
 first
   | (rw [Qaj]; constructor <;> (intro q; omega))
   | (constructor
      · intro q; first | omega | (cases q)
      intro q; omega)
def pO (w : Int) : Bool := decide (0 ≤ w ∧ w < 16)
theorem AI w : sQ W0 98 [iQ w] R (.bool (pO w)) R := by
 refine am func98 ntmps98 ?_
 refine bN (fun a => ?_) fun a => ?_
 refine ac ?_
 refine aG ?_
 refine Qah Value.bool ?_
 rw [Qag, pO, Qaj]
 first
   | (rw [Qaj]; constructor <;> (intro q; omega))
   | (constructor
      · intro q; first | omega | (cases q)
      intro q; omega)
 refine ac ?_
 refine aG ?_
 refine Qah Value.bool ?_
 rw [Qag, pO, Qaj]
 first
   | (rw [Qaj]; constructor <;> (intro q; omega))
   | (constructor
      · intro q; first | omega | (cases q)
      intro q; omega)
theorem Y9 : ∀ n, (List.replicate n ((-1), false)).flatMap fw = (List.replicate n [Value.int .i64 (-1), .bool false]).flatten
 | 0 => rfl
 | n + 1 => by rw [List.replicate_succ, Qbc, Y9 n, List.replicate_succ, List.flatten_cons]
theorem Ya n : (List.replicate n ((-1), false)).flatMap fw ++ [[Value.int .i64 (-1), .bool false]].flatten = (List.replicate (n + 1) ((-1), false)).flatMap fw := by
 grind [QbK]
theorem IX {R} : ∀ n, Ent R (kH 2 (cq (((List.replicate n ej).zip (List.replicate n [])).map ez)) :: R)
 | 0 => sF (A := [])
 | n + 1 => by
  have a := IX (R := R) n
  refine a.trans ?_
  refine (sD (A := ((List.replicate n ej).zip (List.replicate n ([] : List Nat))).map ez) (R := R)).trans ?_
  refine (fm (E := 3) (sz := 1) (B := ((List.replicate n ej).zip (List.replicate n ([] : List Nat))).map ez ++ R)).trans ?_
  exact sF (A := ez (ej, []) :: ((List.replicate n ej).zip (List.replicate n ([] : List Nat))).map ez) (R := R)
theorem Yb ps fr (l : 0 < fr.length) (d : fr.length ≤ 32) : sP W0 35 [pQ ps] (bD ps fr :: R) (fun v B => ∃ b, v = .tuple #[pQ b, iQ 0] ∧ B = cR b (ps, List.replicate fr.length (-1, false)) :: bD ps fr :: R) := by
 refine am func35 ntmps35 ?_
 refine ah (ap wT (uk ps fr)) ?_
 refine aC rfl (fun e => ?_) fun e => ?_
 omega
 refine aw ?_
 refine bB fun b => ?_
 refine ah (ap wT (uk ps fr)) ?_
 refine ge (fun X : Nat × Option Addr × Nat => X.1 ≤ fr.length) (fun X => [(4, pQ b), (12, iQ (fr.length : Nat)), (13, iQ X.1)]) (fun X => pt b (ag (fY ps (.slice X.2.1 X.1 X.2.2) (List.replicate 16 ej)) 202) :: osl 204 2 (.slice X.2.1 X.1 X.2.2) ((List.replicate X.1 ((-1 : Int), false)).flatMap fw) :: bD ps fr :: R) (fun X => fr.length - X.1) (0, none, 0) ?_ ?_ ?_ ?_
 omega
 · repeat (first | exact bK | refine aZ rfl ?_)
 exact (Ent.ofPerm (List.Perm.swap _ _ _)).trans (Ent.cons (fm (E := 204) (sz := 2)))
 intro ⟨i, f, g⟩ hi
 dsimp only at hi ⊢
 refine aw ?_
 refine ai (fun h => ?_) fun h => ?_
 refine dw (iA zl C7 a7N rfl (fp rfl rfl hJ) rfl (by decide) (by decide) (by decide)) fun m => ?_
 refine aF rfl (eE (sz := 2) (by_ := 16) (info := Tryz.t204) zl (by kernel_rfl) rfl rfl rfl rfl (by decide) rfl rfl en rfl rfl (by simp only [maxLen]; omega) (by omega)) ?_
 rintro _ _ ⟨j, k, rfl, rfl⟩
 refine aw ?_
 refine ar dX ?_
 refine aa bW ?_
 refine bR (i + 1, j, k) ?_ (he := ?_)
 omega
 dsimp only
 rw [← Ya]
 exact IO
 refine ax ?_
 obtain rfl : i = fr.length := by omega
 refine ⟨_, ⟨b, rfl, rfl⟩, ?_⟩
 exact (Ent.cons (Ent.cons (IX (R := bD ps fr :: R) 16))).trans (w4 (a := f) (c := g) rfl (by simp) (LsOk.new _) (by simp) rfl)
theorem IY pb ps po fr (f w : Nat) t (hf : f < po.length) (hff : f < fr.length) (hw : w < 16) (hP : PoOk po) (ha : d6 po f = ((w : Int), t)) a c vs Ls (hv : vs.length = 16) (hL : LsOk (po.set f (-1, false)) Ls) : sQ W0 99 [pQ pb, iQ f] (pt pb (ag (fY ps (.slice a po.length c) vs) 202) :: osl 204 2 (.slice a po.length c) (po.flatMap fw) :: kH 2 (cq ((vs.zip Ls).map ez)) :: bD ps fr :: R) (iQ 0) (cR pb (ps, po.set f (w, false)) :: bD ps (fr.set f cC) :: R) := by
 have h := hL.row w hw
 have q : PoOk (po.set f (-1, false)) := ⟨by rw [Qap]; exact hP.len, fun g D => by
  rw [Qap] at D
  rw [jY hf]
  split
  grind
  exact hP.who g D⟩
 have G := hL.rlen q hw
 have i := XD (po := po.set f (-1, false)) (f := f) (w := w) (by grind) (by grind [jY])
 rw [List.set_set] at i
 have m : ∀ u, u < 16 → u ≠ w → bS (po.set f ((w : Int), false)) u = bS (po.set f (-1, false)) u := fun u O H => by
  have := E0 (po := po.set f (-1, false)) (f := f) (x := ((w : Int), false)) (w := u) (by grind) (by grind [jY]) (by grind)
  rw [List.set_set] at this
  exact this
 have p : (po.set f ((d6 po f).1, false)) = po.set f ((w : Int), false) := by rw [ha]
 refine jz 6 func99 ntmps99 ?_
 refine fV (r := osl 204 2) (b := .slice a po.length c) (ku (fun F s => by have := Qah List.length s; rw [qG] at this; simp at this; omega) fun g n I l F s J P Q => ?_)
 cases F
 refine aw ?_
 refine aa (bM hf) ?_
 refine iB 3 (dt (by omega) (IV po l f false hf)) ?_
 rw [p]
 refine eK (B := pt g (ag ((po.set f ((w : Int), false)).flatMap fw ++ l) 204) :: j9 w pb (Ls.getD w [], fY ps (.slice (some ⟨g, 0, none⟩) po.length c) vs) :: kH 3 (cq (((vs.zip Ls).map ez).eraseIdx w)) :: bD ps fr :: R) ?_ ?_
 refine Ent.cons ?_
 exact AD hw hv hL.len
 have v : ((po.set f ((w : Int), false)).flatMap fw ++ l)[f * 2 + 0]? = some (iQ ((w : Nat) : Int)) := by
  rw [E8 _ _ _ _ (by grind) (by decide), jY hf, Qad rfl]; rfl
 have y : ((po.set f ((w : Int), false)).flatMap fw ++ l).length = c * 2 := by
  grind [Qae, qG]
 refine fj [(pb, 1, [.slice (some ⟨g, 0, none⟩) po.length c]), (g, 0, _)] 16 mixed rfl (bj (E3 (T := 202) (E := 3) (sz := 1) (f := kR) (o := 2 + w * 1) (by omega) rfl) (bL aW)) (fun d => ?_)
 refine aj 0 4 d ?_
 refine az 4 d (aE (km (k := 0) (j := 0) rfl rfl)) ?_
 refine aj 5 1 d ?_
 refine az 6 d (bM hf) ?_
 refine aj 7 1 d ?_
 refine az 8 d (aE (dq (k := 1) rfl v)) ?_
 refine aj 9 2 d ?_
 refine az 11 d (eG hw) ?_
 refine aj 12 3 d ?_
 refine bQ 15 (ap Gs (Y6 pb w (Ls.getD w []) f (fY ps (.slice (some ⟨g, 0, none⟩) po.length c) vs) (by omega) h.2)) ?_; clear d
 rintro _ _ ⟨rfl, S, rfl, K, L⟩
 refine ⟨(bj (E3 (T := 202) (E := 3) (sz := 1) (f := kR) (o := 2 + w * 1) (by omega) rfl) (bL aW)), fun d => ?_⟩
 refine hQ ?_
 refine au 2 ?_
 refine eK (B := cR pb (ps, po.set f ((w : Int), false)) :: bD ps fr :: R) ?_ ?_
 have e := fk (E := 204) (sz := 2) (g := g) (n := po.length) (cap := c) (xs := (po.set f ((w : Int), false)).flatMap fw) (sp := l) (A := pt g (ag ((po.set f ((w : Int), false)).flatMap fw ++ l) 204) :: kH 3 (cq (((vs.zip Ls).map ez).eraseIdx w)) :: bD ps fr :: R) (B := kH 3 (cq (((vs.zip Ls).map ez).eraseIdx w)) :: bD ps fr :: R) s J (by grind) y
 refine (Ent.cons e).trans ?_
 exact AE hw hv rfl (by simp) hL.len (hL.set hw (K.trans ((h.1.append_right [f]).trans i)) L m)
 refine w3 (pb := pb) fun U V M N z C => ?_
 refine aw ?_
 refine ah (ap call176 (Y8 ps fr f hff)) ?_
 refine ac ?_
 exact ⟨_, ⟨rfl, rfl⟩, w4 rfl z C (by simp) rfl⟩
theorem Yc pb ps po fr (f w : Nat) (hf : f < po.length) (hff : f < fr.length) (hw : w < 16) (hP : PoOk po) (ha : d6 po f = (-1, false)) : sQ W0 38 [.pointer (some ⟨pb, 0, none⟩), .int .i64 f, .int .i64 w] (cR pb (ps, po) :: bD ps fr :: R) (.int .i64 0) (cR pb (ps, po.set f (w, false)) :: bD ps (fr.set f cC) :: R) := by
 have hi : eu po.length f = true := by grind [eu]
 have hw' : pO w = true := by grind [pO]
 have h0 : po.set f (-1, false) = po := by
  grind [d6, List.getD, QbU]
 refine jz 10 func38 ntmps38 ?_
 refine eh 3 (ir zv rfl (w5 pb ps po (by omega))) ?_
 refine aC rfl (fun c1 => ?_) fun c1 => ?_
 exact absurd c1 (by decide)
 refine au 5 ?_
 refine eh 4 (ir NQ rfl (E9 pb ps po f)) ?_
 refine aC rfl (fun c3 => ?_) fun c3 => ?_
 exact absurd c3 (by simp [hi])
 refine au 2 ?_
 refine eh 4 (iz Gt rfl (AI w)) ?_
 refine aC rfl (fun c4 => ?_) fun c4 => ?_
 exact absurd c4 (by simp [hw'])
 refine aO ?_
 refine w3 (pb := pb) fun a c vs Ls hv hL => ?_
 refine fV (r := osl 204 2) (b := .slice a po.length c) (ku (fun h1 h2 => by have := Qah List.length h2; rw [qG] at this; simp at this; omega) fun g n cap sp h1 h2 h3 h4 h5 => ?_)
 cases h1
 refine au 6 ?_
 refine ae rfl (jQ zl C7 rfl rfl rfl hf (by first | exact Qac _ | rfl)) ?_
 refine ae rfl (D2 G5 aS) ?_
 refine jS 4 (co db rfl (aI ((E8 po sp f 0 hf (by decide)).trans (by rw [ha]; rfl)))) ?_
 refine aC rfl (fun c6 => ?_) fun c6 => ?_
 exact absurd c6 (by decide)
 refine au 11 ?_
 refine ae rfl (jQ zl C7 rfl rfl rfl hf (by first | exact Qac _ | rfl)) ?_
 refine ae rfl (D2 G5 aS) ?_
 refine iB 3 (lU aS rfl rfl rfl (by omega) (XW po sp f (w : Int) hf)) ?_
 rw [ha]
 refine eK (B := pt pb (ag (fY ps (.slice (some ⟨g, 0, none⟩) (po.set f ((w : Int), false)).length c) vs) 202) :: osl 204 2 (.slice (some ⟨g, 0, none⟩) (po.set f ((w : Int), false)).length c) ((po.set f ((w : Int), false)).flatMap fw) :: kH 2 (cq ((vs.zip Ls).map ez)) :: bD ps fr :: R) ?_ ?_
 rw [Qap]
 have e := fk (E := 204) (sz := 2) (g := g) (n := po.length) (cap := c) (xs := (po.set f ((w : Int), false)).flatMap fw) (sp := sp) (A := pt g (ag ((po.set f ((w : Int), false)).flatMap fw ++ sp) 204) :: kH 2 (cq ((vs.zip Ls).map ez)) :: bD ps fr :: R) (B := kH 2 (cq ((vs.zip Ls).map ez)) :: bD ps fr :: R) h2 h3 (by grind [qG]) (by grind [Qae, qG])
 exact (inferInstance : Ent _ (pt pb (ag (fY ps (.slice (some ⟨g, 0, none⟩) po.length c) vs) 202) :: pt g (ag ((po.set f ((w : Int), false)).flatMap fw ++ sp) 204) :: kH 2 (cq ((vs.zip Ls).map ez)) :: bD ps fr :: R)).trans (Ent.cons e)
 refine au 3 ?_
 refine eh 4 (lW call99 rfl (IY pb ps (po.set f ((w : Int), false)) fr f w false (by grind) hff hw (hP.set hf (by simp) (by simp; omega)) (by grind [jY]) (some ⟨g, 0, none⟩) c vs Ls hv (by simp_all))) ?_
 refine ac ?_
 rw [List.set_set]
 exact ⟨_, ⟨rfl, rfl⟩, IO⟩
theorem Yd pb ps po (w : Nat) (l : 0 < po.length) (e : w < 16) : sQ W0 243 [pQ pb, iQ w] (cR pb (ps, po) :: R) (iQ ((bS po w).length)) (cR pb (ps, po) :: R) := by
 have h : pO w = true := by grind [pO]
 refine am func243 ntmps243 ?_
 refine eh 1 (ap zv (w5 pb ps po l)) ?_
 refine dk rfl rfl rfl (fun b => ?_) fun b => ?_
 exact absurd b (by decide)
 refine aw ?_
 refine ah (aB Gt (AI w)) ?_
 refine aC rfl (fun j => ?_) fun j => ?_
 exact absurd j (by simp [h])
 refine au 3 ?_
 refine w3 (pb := pb) fun a c i d k f => ?_
 have g := f.row w e
 refine eK (B := j9 w pb (d.getD w [], fY ps (.slice a po.length c) i) :: kH 3 (cq (((i.zip d).map ez).eraseIdx w)) :: osl 204 2 (.slice a po.length c) (po.flatMap fw) :: R) ?_ ?_
 exact (Ent.cons (Ent.ofPerm (List.Perm.swap _ _ _))).trans (AD e k f.len)
 refine aw ?_
 refine aa (eG e) ?_
 refine ah (ap Gr (AH pb w (d.getD w []) (fY ps (.slice a po.length c) i))) ?_
 refine ac ?_
 rw [g.1.length_eq]
 have m : d.set w (d.getD w []) = d := by
  rw [show d.getD w [] = d[w]'(by rw [f.len]; exact e) by simp [List.getD, f.len, e]]; exact QbU _
 refine ⟨_, ⟨rfl, rfl⟩, ?_⟩
 exact (Ent.cons (Ent.ofPerm (List.Perm.swap _ _ _))).trans (AE e k rfl rfl f.len (by grind))
theorem IZ pb ps po w f l (hw : w < 16) (hP : PoOk po) (he : bS po w = f :: l) : sQ W0 117 [pQ pb, iQ w] (cR pb (ps, po) :: R) (.tuple #[iQ f, iQ 0]) (cR pb (ps, po.set f (w, true)) :: R) := by
 have hw' : pO w = true := by grind [pO]
 have hf := kQ.1 (show f ∈ bS po w by rw [he]; simp)
 refine am func117 ntmps117 ?_
 refine ah (ap zv (w5 pb ps po (by omega))) ?_
 refine ah (aB Gt (AI w)) ?_
 refine aC rfl (fun c3 => ?_) fun c3 => ?_
 exact absurd c3 (by simp [hw'])
 refine au 1 ?_
 refine w3 (pb := pb) fun a c vs Ls hv hL => ?_
 have hrow := hL.row w hw
 have hrl := hL.rlen hP hw
 refine eK (B := j9 w pb (Ls.getD w [], fY ps (.slice a po.length c) vs) :: kH 3 (cq (((vs.zip Ls).map ez).eraseIdx w)) :: osl 204 2 (.slice a po.length c) (po.flatMap fw) :: R) ?_ ?_
 exact (Ent.cons (Ent.ofPerm (List.Perm.swap _ _ _))).trans (AD hw hv hL.len)
 refine aw ?_
 refine aa (eG hw) ?_
 refine ah (ap Gr (AH pb w (Ls.getD w []) (fY ps (.slice a po.length c) vs))) ?_
 refine ai (fun c5 => ?_) fun c5 => ?_
 exact absurd c5 (by simp_all)
 refine aa (eG hw) ?_
 refine aF rfl (ap Gv (Y7 pb w (Ls.getD w []) (fY ps (.slice a po.length c) vs) (by omega) (fun e => by rw [e] at hrow; have := hrow.1.length_eq; rw [he] at this; simp at this) hrow.2)) ?_
 rintro _ _ ⟨x, l', rfl, rfl, hp, hh, hm⟩
 have hpp := hp.trans hrow.1
 have hmm : ∀ y ∈ bS po w, x ≤ y := fun y hy => by have := hm y (hrow.1.mem_iff.2 hy); omega
 have hx := E1 hpp hmm
 have hr := XE hpp hmm
 rw [he] at hx
 obtain ⟨rfl, _⟩ := List.cons.inj hx
 have hk : LsOk (po.set f ((w : Int), true)) (Ls.set w l') := hL.set hw hr hh fun u hu hne => E0 hf.1 (by grind) (by grind)
 refine jS 4 (sM jj (fun _ h => by cases h) rfl) ?_
 refine fV (r := osl 204 2) (b := .slice a po.length c) (ku (fun h1 h2 => by have := Qah List.length h2; rw [qG] at this; simp at this; omega) fun g n cap sp h1 h2 h3 h4 h5 => ?_)
 cases h1
 refine aw ?_
 refine aa (aE (xQ (T := 202) (E := 3) (sz := 1) (f := kR) (o := 2 + w * 1) (by omega) rfl)) ?_
 refine aa (bM hf.1) ?_
 refine ar (dt (by omega) (IV po sp f true hf.1)) ?_
 refine ax ?_
 rw [hf.2]
 refine ⟨_, ⟨rfl, rfl⟩, ?_⟩
 have e := fk (E := 204) (sz := 2) (g := g) (n := po.length) (cap := c) (xs := (po.set f ((w : Int), true)).flatMap fw) (sp := sp) (A := pt g (ag ((po.set f ((w : Int), true)).flatMap fw ++ sp) 204) :: kH 3 (cq (((vs.zip Ls).map ez).eraseIdx w)) :: R) (B := kH 3 (cq (((vs.zip Ls).map ez).eraseIdx w)) :: R) h2 h3 (by grind [qG]) (by grind [Qae, qG])
 exact (inferInstance : Ent _ (j9 w pb (l', fY ps (.slice (some ⟨g, 0, none⟩) po.length c) vs) :: pt g (ag ((po.set f ((w : Int), true)).flatMap fw ++ sp) 204) :: kH 3 (cq (((vs.zip Ls).map ez).eraseIdx w)) :: R)).trans ((Ent.cons e).trans (AE hw hv rfl (by simp) hL.len hk))
def wV (w : Nat) : Value := .int .u32 (w : Int)
structure Dsc where
  addr : Nat
  len : Nat
  flags : Nat
  next : Nat
structure Rg3 where
  desc : Nat
  avail : Nat
  used : Nat
  n : Int
def i9 (x : Int × Int × Int) : List Value := [.int .i64 x.1, .int .i64 x.2.1, .int .i64 x.2.2]
structure WF (W0 : World) (fn : FuncId) (cs : List Value) (n : Nat) (C : Nat → HP) (w : Nat → Bool) : Prop where
  call : ∀ args u, (callFunc fn args).run Tryz.prog u = .ok (.enter fn args) u
  spec : ∀ i, i < n → ∀ R, bF Tryz.prog W0 fn ([] ++ [.int .i64 (i : Int)] ++ cs) (kH 0 (C i) :: R) (fun v B => v = .bool (w i) ∧ B = kH 0 (C (i + 1)) :: R)
def mH (w : Nat → Bool) (n : Nat) : Bool := (List.range n).any w
theorem w6 {w n i} (a : i < n) (h : w i = true) : mH w n = true := Qbo.2 ⟨i, QbD.2 a, h⟩
theorem xW {w n} (h : ∀ i, i < n → w i = false) : mH w n = false := by
 rw [← Qau]; intro q
 obtain ⟨i, b, a⟩ := Qbo.1 q
 rw [h i (QbD.1 b)] at a; cases a
def qH (w : Nat → Bool) (n : Nat) : Option Nat := (List.range n).find? w
theorem Ye w n : (qH w n).isSome = mH w n := by
 rw [Qag, qH, List.find?_isSome, mH, Qbo]
theorem J0 {w n i} (a : i < n) (h : w i = true) (b : ∀ j, j < i → w j = false) : qH w n = some i := by
 rw [qH, List.find?_eq_some_iff_getElem]
 exact ⟨h, i, by simpa using a, by simp, fun j c => by simp [b j c]⟩
theorem J1 {w n} (h : ∀ i, i < n → w i = false) : qH w n = none := by
 grind [qH]
theorem Yf fn cs n C w (b : WF W0 fn cs n C w) (f : n ≤ 1000) : sQ W0 256 [iQ n, .func (.func fn) #[] cs.toArray] (kH 0 (C 0) :: R) (.tuple #[iQ (((qH w n).getD 0 : Nat) : Int), .bool (qH w n).isSome]) R := by
 refine am func256 ntmps256 ?_
 refine cW (fun i : Nat => i ≤ n ∧ ∀ j, j < i → w j = false) (fun i => [(1, .func (.func fn) #[] cs.toArray), (7, iQ (n : Int)), (8, iQ (i : Int))]) (fun i => kH 0 (C i) :: R) (fun i => n - i) 0 ?_ ?_
 grind
 intro i ⟨g, c⟩
 refine aw ?_
 refine ai (fun e => ?_) fun e => ?_
 have a : i < n := by omega
 refine ah (ue (us := []) (cs := cs) rfl b.call rfl (b.spec i a _)) ?_
 refine ai (fun d => ?_) fun d => ?_
 refine ax ?_
 rw [J0 a d c]
 exact ao
 refine aa bW ?_
 refine bR (i + 1) ?_
 grind
 refine ax ?_
 obtain rfl : i = n := by omega
 rw [J1 c]
 exact ao
theorem J2 fn cs n C w (a : WF W0 fn cs n C w) (b : n ≤ 1000) : sP W0 256 [iQ n, .func (.func fn) #[] cs.toArray] (kH 0 (C 0) :: R) (fun v B => ∃ r, v = .tuple #[iQ r, .bool (mH w n)] ∧ B = R) :=
  gQ (Yf fn cs n C w a b) fun v B c => by
 obtain ⟨rfl, rfl⟩ := c
 rw [Ye]
 exact ⟨_, ⟨_, rfl, rfl⟩, ent_refl⟩
end
end Go.Proofs.YtbhimdcapbflkaaGreatDoor
