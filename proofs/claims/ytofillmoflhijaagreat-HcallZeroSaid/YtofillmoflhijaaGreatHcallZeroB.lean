/-
  Part 2 of the proof of HcallZero: rules, and walks of functions. Conditions: none.
-/
import Derived.Test.YtofillmoflhijaaGreatHcallZeroA
namespace Go.Proofs.YtofillmoflhijaaGreat
open Go.Proofs.Tryz
set_option linter.unusedSimpArgs false
set_option linter.unusedVariables false
set_option maxRecDepth 20000
set_option linter.defProp false
set_option synthInstance.maxSize 8192
set_option synthInstance.maxHeartbeats 2000000
variable {W0 : World} {R : List HP}
section
open Go.RowKit
section
variable {rd : Option Nat} {P : Program} {S : World → Prop} {W0 : World} {N : FSz} {Q : Exit → Act → World → Prop} {e : bK} {A B R : List HP} {ops : Array Oper} {rest : List Oper}
variable {op : Op} {ty t t' : TypeId} {pos : String} {af : Array Edge} {v u : Value} {d b off : Nat} {x y z : Operand} {l l' vs : List Value} {L : Nat} {xr : RecX}
theorem y7 {E n : Nat} {k : IntKind} {i : Int} {j : Nat} (hu : P.underlying t = some (.array n E)) (hs : ∀ w, (sizeOf E).run P w = .ok 1 w) (ha : ∀ w, (isAgg E).run P w = .ok false w) (hx : ev e x = some (.agg l.toArray)) (hy : ev e y = some (.int k i))
    (hi : i = (j : Int)) (hj : j < n) (hl : l[j]? = some v) : cn P S N e (.index t x y) v := fun a w _ _ _ _ _ hF _ => by
 subst hi
 have h1 : (0 : Int) ≤ (j : Int) ∧ (j : Int) < (n : Int) := by omega
 have hlt : j < l.length := by
  rcases Nat.lt_or_ge j l.length with q | q
  exact q
  rw [List.getElem?_eq_none q] at hl; cases hl
 simp only [execOp, Instr.index, hF.eval hx, hF.eval hy, asIntOf, Sem.run_bind, Sem.run_pure, Result.andThen_ok, dF hu, h1, and_self, if_true, hs, Int.toNat_natCast, Nat.mul_one]
 rw [mQ ha hl]; rfl
theorem tj {c : Code} (h : aQ W0 N (c.wpR none P (Exit.noGoto Q)) e A) : aQ W0 N ((Code.scope c).wpR none P Q) e A := fun a w hF hO => oQ.2 (wp_scope_straight (oQ.1 (h a w hF hO)))
instance Dc [h : POk Q] : POk (Exit.noGoto Q) := ⟨fun c a d v w k => h.ok c a d v w k⟩
theorem jV (h : aQ W0 N (Ex Q .ret) e A) : aQ W0 N (Ex (Exit.noGoto Q) .ret) e A := h
theorem tm {id : Nat} {Post : Value → List HP → Prop} [h : Tk dQ L A xr R] (hp : ∃ B, Post (.bool false) B ∧ Ent (dQ L { xr with st := .done, pe := some (.exit id) } :: R) B) : aQ W0 N (Ex (lT P W0 L Post) (.exit id)) e A := by
 intro a w hF hO
 obtain ⟨fn, tmps, h1, h2, hO1⟩ := (hO.tk (r := dQ) (b := L)).loopRec
 obtain ⟨B, hB, hE⟩ := hp
 exact ⟨_, _, run_endRound (some (.exit id)) hO1.has.2, _, B, rfl, hB, Own.ent (Own.toRec (x := { xr with st := .done, pe := some (.exit id) }) h1 h2 (hO1.turn _)) hE⟩
theorem y8 {n gf : Nat} {g : Operand} {ps : Array Tmp} {asg body : Code} {lb : List Value} (id : Nat) (Go Stop : List HP → Prop) (hg : ev e g = some (.func (.func gf) #[] lb.toArray))
    (hc : ∀ args w, (callFunc gf args).run P w = .ok (.enter gf args) w)
    (hs : ∀ L D, aC P W0 gf (.func (.yield L) #[] #[] :: lb) (dQ L ⟨e, n, ps, asg, body, .ready, none, D⟩ :: pt D (.deferred (some [])) :: A)
      (fun _ B => (∃ C, B = dQ L ⟨e, n, ps, asg, body, .ready, none, D⟩ :: pt D (.deferred (some [])) :: C ∧ Go C) ∨ (∃ C, B = dQ L ⟨e, n, ps, asg, body, .done, some (.exit id), D⟩ :: pt D (.deferred (some [])) :: C ∧ Stop C)))
    (hgo : ∀ D C, Go C → aQ W0 ⟨n, [jM D]⟩ (Ex Q .normal) e (pt D (.deferred (some [])) :: C))
    (hstop : ∀ D C, Stop C → aQ W0 ⟨n, [jM D]⟩ (Ex Q (.exit id)) e (pt D (.deferred (some [])) :: C)) :
    aQ W0 ⟨n, []⟩ ((Code.rangeFunc g ps asg body).wpR none P Q) e A := by
 intro a w hF hO
 refine wpIn_rangeFunc (F := FW none) (n := 0) ?_
 intro fn _
 have hO1 : Own W0 ((w.alloc (.deferred (some []))).alloc (.loop ((⟨e, n, ps, asg, body, .ready, none, w.heap.size⟩ : RecX).loop fn a.tmps))) (dQ (w.heap.size + 1) ⟨e, n, ps, asg, body, .ready, none, w.heap.size⟩ :: pt w.heap.size (.deferred (some [])) :: A) := by
  refine Own.toRec (fn := fn) hF.size hF.at_ ?_
  have h1 := (hO.new (.deferred (some []))).new (.loop ((⟨e, n, ps, asg, body, .ready, none, w.heap.size⟩ : RecX).loop fn a.tmps))
  have e1 : (w.heap.push (.deferred (some []))).size = w.heap.size + 1 := by simp
  simp only [e1] at h1
  exact h1
 have hent := run_enterLoop_outer (P := P) (w := w) fn a.tmps ps asg body
 generalize hW1 : (w.alloc (.deferred (some []))).alloc (.loop ((⟨e, n, ps, asg, body, .ready, none, w.heap.size⟩ : RecX).loop fn a.tmps)) = W1 at hO1
 rw [show (w.alloc (.deferred (some []))).alloc (.loop { state := .ready, pending := none, fn, tmps := a.tmps, params := ps, assign := asg, body, defers := w.heap.size }) = W1 from hW1] at hent
 have hF' : ∀ D, Fr { a with defers := [jM D] ++ a.defers } ⟨n, [jM D]⟩ e := fun D => ⟨by simp [hF.defers], hF.size, hF.at_⟩
 refine ⟨w.heap.size + 1, [{ target := .collected w.heap.size, args := #[] }], W1, { target := .fn (.func gf) lb.toArray, args := #[.func (.yield (w.heap.size + 1)) #[] #[]] }, W1, gf,
   #[.func (.yield (w.heap.size + 1)) #[] #[]] ++ lb.toArray, W1, hent, ?_, fun _ _ => trivial, ?_, fun h => (by cases h), ?_⟩
 have hgv := hF.eval hg
 simp only [resolve, hgv]
 simp [go_sem]
 simp [invoke, go_sem, hc]
 refine oR.2 ?_
 have e2 : (#[.func (.yield (w.heap.size + 1)) #[] #[]] ++ lb.toArray : Array Value) = (.func (.yield (w.heap.size + 1)) #[] #[] :: lb).toArray := by simp
 rw [e2]
 refine Calls.mono (hs (w.heap.size + 1) w.heap.size _ hO1) ?_
 rintro _ w' ⟨v, B, rfl, hp, hO2⟩
 rcases hp with ⟨C, rfl, hC⟩ | ⟨C, rfl, hC⟩
 obtain ⟨fn', tmps', h1, h2, hO3⟩ := hO2.loopRec
 refine ⟨none, _, run_endLoop hO3.has.2 (by simp [RecX.loop]), ?_⟩
 exact hgo _ C hC _ _ (hF' _) (hO3.turn _).drop
 obtain ⟨fn', tmps', h1, h2, hO3⟩ := hO2.loopRec
 refine ⟨some (.exit id), _, run_endLoop hO3.has.2 (by simp [RecX.loop]), ?_⟩
 exact wpIn_exit (hstop _ C hC _ _ (hF' _) (hO3.turn _).drop)
theorem y9 {E n c sz : Nat} {a : Option Addr} {ys : List Value} {K : Act → World → Prop} [h : Tk (osl E sz) (.slice a n c) A ys R] (k : n ≤ c ∧ c ≤ maxLen → aQ W0 N K e A) : aQ W0 N K e A := fun act w hF hO => by
 refine k ?_ act w hF hO
 rcases (hO.tk (r := osl E sz) (b := .slice a n c)).osl with ⟨k1, k2, _⟩ | ⟨g, n', cap, sp, k1, k2, k3, _, _, _⟩
 cases k1; simp
 cases k1; exact ⟨k2, k3⟩
theorem pU {a : Option Addr} {ys : List Value} (h : pJ a ys) (hne : ys ≠ []) : ∃ g, a = some ⟨g, 0, none⟩ := by
 rcases h with ⟨_, q⟩ | q
 exact absurd q hne
 exact q
end
section
variable {rd : Option Nat} {P : Program} {S : World → Prop} {W0 : World} {N : FSz} {Q : Exit → Act → World → Prop} {e : bK} {A B R : List HP} {ops : Array Oper} {rest : List Oper}
variable {op : Op} {ty t t' : TypeId} {pos : String} {af : Array Edge} {v u : Value} {d b off : Nat} {x y z : Operand} {l l' vs : List Value}
variable {α : Type} {sz : Nat} {f : α → List Value} {xs : List α} {a : Option Addr}
theorem tn {k : IntKind} {m n r : Int} {ats : Array TypeId} (hx : ev e x = some (.int k m)) (hy : ev e y = some (.int k n)) (hr : (if n > m then n else m) = r) : cn P S N e (.call { callee := .builtin .max, args := #[x, y], argTypes := ats }) (.int k r) := fun a w _ _ _ _ _ hF _ => by
 simp [execOp, resolve, invoke, builtin, hF.eval hx, hF.eval hy, Builtin.max_, Builtin.max2, hr]
def fT (a : Option Addr) (c i sz : Nat) : Option Addr := if c = i then a else a.map (·.add (i * sz))
theorem ya {E n c sz : Nat} {k k' : IntKind} {i h : Nat} {j1 j2 : Int} (hu : P.underlying t = some (.slice E)) (hs : ∀ w, (sizeOf E).run P w = .ok sz w) (hx : ev e x = some (.slice a n c))
    {lo hi : Operand} (h1 : ev e lo = some (.int k j1)) (h2 : ev e hi = some (.int k' j2)) (e1 : j1 = (i : Int)) (e2 : j2 = (h : Int)) (hil : i ≤ h) (hmc : h ≤ c) :
    cn P S N e (.slice t x (some lo) (some hi) none) (.slice (fT a c i sz) (h - i) (c - i)) := fun act w _ _ _ _ _ hF _ => by
 subst e1; subst e2
 simp [execOp, Instr.sliceAt, Instr.slice, hF.eval hx, hF.eval h1, hF.eval h2, dF hu, Instr.sliceBounds, jj hmc, jj hil, hs, fT]
theorem cq.sub (h : cq S a sz f xs) {c i k : Nat} (hk : i + k ≤ xs.length) (hc : xs.length ≤ c) : cq S (fT a c i sz) sz f ((xs.drop i).take k) := fun j x hj => by
 have hjk : j < k := by
  rcases Nat.lt_or_ge j k with q | q
  exact q
  rw [List.getElem?_eq_none (by rw [List.length_take]; omega)] at hj; cases hj
 rw [List.getElem?_take_of_lt hjk, List.getElem?_drop] at hj
 obtain ⟨b, off, rfl, hcl⟩ := h (i + j) x hj
 refine ⟨b, off + i * sz, ?_, ?_⟩
 rw [fT, if_neg (by omega)]; simp [fa]
 rw [Nat.add_assoc, ← Nat.add_mul]; exact hcl
theorem cq.take (h : cq S a sz f xs) (k : Nat) : cq S a sz f (xs.take k) := fun j x hj => by
 have hjk : j < k := by
  rcases Nat.lt_or_ge j k with q | q
  exact q
  rw [List.getElem?_eq_none (by rw [List.length_take]; omega)] at hj; cases hj
 rw [List.getElem?_take_of_lt hjk] at hj
 exact h j x hj
theorem cq.src (h : cq S a sz f xs) (hf : ∀ x, (f x).length = sz) (ha : a = none → True) : (xs = []) ∨ ∃ b off, a = some ⟨b, off, none⟩ ∧ cJ S b off (xs.flatMap f) := by
 by_cases h0 : xs = []
 exact .inl h0
 exact .inr (h.all h0 hf)
theorem to {E n m c cx by_ : Nat} {ay : Option Addr} {info : TypeInfo} {z : Value} {an : Option Addr} {xs news : List Value} (hu : P.underlying t = some (.slice E))
    (hi : P.info? E = some info) (hz : info.zero = some z) (hsz : info.size = sz) (hby : info.bytes = by_) (hz1 : z.cells.size = sz) (hsz0 : 0 < sz)
    (hx : ev e x = some (.slice an n c)) (hy : ev e y = some (.slice ay m cx)) [h : Tk (osl E sz) (.slice an n c) A xs R]
    (hsrc : m = 0 ∨ ∃ bx ox, ay = some ⟨bx, ox, none⟩ ∧ cJ (bI W0 A) bx ox news) (hnl : news.length = m * sz) (h1 : en news = true) (h63 : n + m ≤ maxLen) (hbig : (n + m) * by_ ≤ 140737488355328) :
    di P W0 N e A (.call { callee := .builtin .append, args := #[x, y], argTypes := #[t, t] }) (fun v B => ∃ a' c', v = .slice a' (n + m) c' ∧ B = osl E sz v (xs ++ news) :: R) := by
 rcases hsrc with rfl | ⟨bx, ox, rfl, hc⟩
 have h0 : news = [] := List.eq_nil_of_length_eq_zero (by simpa using hnl)
 subst h0
 intro act w dst ty pos af g K Q hF hO k
 have hO' := hO.tk (r := osl E sz) (b := .slice an n c)
 have hcap : n ≤ c := by
  rcases hO'.osl with ⟨k1, _, _⟩ | ⟨_, _, _, _, k1, k2, _⟩
  cases k1; exact Nat.le_refl _
  cases k1; exact k2
 have hrun : (Builtin.append_ #[t, t] ty #[.slice an n c, .slice ay 0 cx]).run P w = .ok (.slice an n c) w := by
  cases an <;> cases ay <;> simp [Builtin.append_, dF hu, sizeOf, typeInfo, hi, Builtin.lenOf, Builtin.firstCells, hcap, loadCells, loadCellsFrom, storeCells]
 unfold Oper.wp
 have hexec : (execOp act.eval { dst := dst, op := .call { callee := .builtin .append, args := #[x, y], argTypes := #[t, t] }, type := ty, pos := pos, after := af, guard := g }).run P w = .ok (.value (.slice an n c)) w := by
  simp only [execOp, resolve, invoke, builtin, Sem.run_bind, Sem.run_pure, Result.andThen_ok, List.map_toArray, List.map_cons, List.map_nil, hF.eval hx, hF.eval hy, hrun]
 rw [hexec]
 exact k _ w _ ⟨an, c, rfl, by rw [List.append_nil]⟩ hO'
 exact dL hu hi hz hsz hby hz1 hsz0 hx hy hc hnl h1 h63 hbig
end
section
variable {P : Program} {S : World → Prop} {W0 : World} {N : FSz} {e : bK} {A R : List HP} {t ty : TypeId} {b off : Nat} {x : Operand} {l : List Value}
theorem jm {E n c sz : Nat} {k : IntKind} {i : Nat} {j1 : Int} {a a' : Option Addr} (hu : P.underlying t = some (.slice E)) (hs : ∀ w, (sizeOf E).run P w = .ok sz w) (hx : ev e x = some (.slice a n c))
    {lo : Operand} (h1 : ev e lo = some (.int k j1)) (e1 : j1 = (i : Int)) (hil : i ≤ n) (ha : fT a c i sz = a') :
    cn P S N e (.slice t x (some lo) none none) (.slice a' (n - i) (c - i)) := fun act w _ _ _ _ _ hF _ => by
 subst e1; subst ha
 simp [execOp, Instr.sliceAt, Instr.slice, hF.eval hx, hF.eval h1, dF hu, Instr.sliceBounds, jj hil, hs, fT]
section
variable {rd : Option Nat} {Q : Exit → Act → World → Prop} {ops : Array Oper} {rest : List Oper} {pos : String} {af : Array Edge} {d : Nat} {y : Operand}
end
end
section
variable {P : Program} {W0 : World} {N : FSz} {e : bK} {A R R1 R2 R3 R4 R5 R6 R7 : List HP} {vs us cs : List Value}
variable {K1 K2 K3 K4 K5 K6 K7 K8 X1 X2 X3 X4 X5 X6 X7 X8 : Type} {r1 : K1 → X1 → HP} {b1 : K1} {x1 : X1} {r2 : K2 → X2 → HP} {b2 : K2} {x2 : X2} {r3 : K3 → X3 → HP} {b3 : K3} {x3 : X3} {r4 : K4 → X4 → HP} {b4 : K4} {x4 : X4} {r5 : K5 → X5 → HP} {b5 : K5} {x5 : X5} {r6 : K6 → X6 → HP} {b6 : K6} {x6 : X6} {r7 : K7 → X7 → HP} {b7 : K7} {x7 : X7} {r8 : K8 → X8 → HP} {b8 : K8} {x8 : X8}
variable {f : FuncId} {xs : Array Operand} {ats : Array TypeId} {Post : Value → List HP → Prop}
end
def sV (s : ByteArray) : Value := .string s
def tp (l : List ByteArray) : List Value := l.map sV
structure Prt where
  lab : Int
  gu : Int
  l : List ByteArray
instance : Inhabited Prt := ⟨⟨0, 0, []⟩⟩
def nw (p : Value × Prt) : List Value := [.int .i64 p.2.lab, .int .i64 p.2.gu, p.1]
def jn (p : Value × Prt) : HP := osl 9 1 p.1 (tp p.2.l)
def m7 (p : Nat) (ps : List Prt) : HP := chk (fun C => ∃ a c, ∃ vs : List Value, vs.length = ps.length ∧ C = [pt p (aw [.slice a ps.length c, .bool true] 267), osl 270 3 (.slice a ps.length c) ((vs.zip ps).flatMap nw), kH 2 (bG ((vs.zip ps).map jn))])
section
variable {P : Program} {W0 : World} {N : FSz} {K : Act → World → Prop} {e : bK} {A B R R1 R2 R3 R4 : List HP} {p g n : Nat} {ps : List Prt} {f : FuncId} {args : List Value} {Post : Value → List HP → Prop}
theorem tq {α : Type} : ∀ (l : List α) (i : Nat) (h : i < l.length), l.Perm (l[i] :: l.eraseIdx i)
 | x :: l, 0, h => by simp
 | x :: l, i + 1, h => by
  simp only [List.getElem_cons_succ, List.eraseIdx_cons_succ]
  exact ((tq l i (by simpa using h)).cons x).trans (List.Perm.swap _ _ _)
theorem tt {α : Type} : ∀ (l : List α) (i : Nat) (x : α) (h : i < l.length), (x :: l.eraseIdx i).Perm (l.set i x)
 | y :: l, 0, x, h => by simp
 | y :: l, i + 1, x, h => by
  simp only [List.set_cons_succ, List.eraseIdx_cons_succ]
  exact (List.Perm.swap _ _ _).trans ((tt l i x (by simpa using h)).cons y)
theorem yd {L : List HP} {i : Nat} (h : i < L.length) : Ent (kH 2 (bG L) :: R) (L[i] :: kH 3 (bG (L.eraseIdx i)) :: R) := by
 refine (ip (A := L) (R := R)).trans ?_
 refine (Ent.ofPerm ((tq L i h).append_right R)).trans ?_
 exact Ent.cons g8
theorem yf {L : List HP} {i : Nat} {x : HP} (h : i < L.length) : Ent (x :: kH 3 (bG (L.eraseIdx i)) :: R) (kH 2 (bG (L.set i x)) :: R) := by
 refine (Ent.cons ip).trans ?_
 exact (Ent.ofPerm ((tt L i x h).append_right R)).trans g8
theorem yg {a : Option Addr} {c : Nat} {vs : List Value} [h1 : Tk pt p A (aw [.slice a n c, .bool true] 267) R1] [h2 : Tk (osl 270 3) (.slice a n c) R1 ((vs.zip ps).flatMap nw) R2] [h3 : Tk kH 2 R2 (bG ((vs.zip ps).map jn)) R3] (hv : vs.length = ps.length) (hn : n = ps.length) [k : Ent R3 B] : Ent A (m7 p ps :: B) := by
 subst hn
 have e1 : A.Perm ([pt p (aw [.slice a ps.length c, .bool true] 267), osl 270 3 (.slice a ps.length c) ((vs.zip ps).flatMap nw), kH 2 (bG ((vs.zip ps).map jn))] ++ R3) := h1.perm.trans ((h2.perm.trans (h3.perm.cons _)).cons _)
 exact (Ent.ofPerm e1).trans ((eE (R := R3) ⟨a, c, vs, hv, rfl⟩).trans (Ent.cons k))
end
theorem pW {vs : List Value} {i : Nat} {v : Value} (h : vs[i]? = some v) : vs.set i v = vs := by
 have hi : i < vs.length := by
  rcases Nat.lt_or_ge i vs.length with k | k
  exact k
  rw [List.getElem?_eq_none k] at h; cases h
 have : vs[i] = v := by simpa [hi] using h
 rw [← this]; exact List.set_getElem_self _
@[reducible] def dC (x : Int × Bool) : List Value := [.int .i64 x.1, .bool x.2]
theorem nx (x : Int × Bool) : (dC x).length = 2 := rfl
@[reducible] def fc (n : Nat) : List Value := [.int .i64 (n : Int)]
theorem gE (n : Nat) : (fc n).length = 1 := rfl
def dp (p : Value × List Nat) : HP := osl 3 1 p.1 (p.2.flatMap fc)
@[reducible] def eb (ps : Nat) (sv : Value) (vs : List Value) : List Value := .pointer (some ⟨ps, 0, none⟩) :: sv :: vs
theorem tu (ps w : Nat) (sv v : Value) (vs : List Value) : (eb ps sv vs).set (2 + w * 1) v = eb ps sv (vs.set w v) := by
 rw [show 2 + w * 1 = w + 1 + 1 by omega]; rfl
abbrev eQ (w : Nat) : Nat → List Nat × List Value → HP := jl 420 3 1 fc (2 + w * 1)
def d6 (pb : Nat) (x : Nat × Po) : HP := chk (fun C => ∃ a c vs Ls, vs.length = 16 ∧ LsOk x.2 Ls ∧ C = [pt pb (aw (eb x.1 (.slice a x.2.length c) vs) 420), osl 422 2 (.slice a x.2.length c) (x.2.flatMap dC), kH 2 (bG ((vs.zip Ls).map dp))])
theorem yh {F : List HP → Prop} {R B : List HP} (h : ∀ C, F C → Ent (C ++ R) B) : Ent (chk F :: R) B := ⟨fun l hl => by
 obtain ⟨l1, l2, rfl, ⟨C, hC, hs⟩, h2⟩ := hl
 exact (h C hC).out _ (eO.append.2 ⟨l1, l2, rfl, hs, h2⟩)⟩
section
variable {P : Program} {W0 : World} {N : FSz} {K : Act → World → Prop} {e : bK} {A B R R1 R2 R3 : List HP} {pb ps w n : Nat} {po : Po} {f : FuncId} {args : List Value} {Post : Value → List HP → Prop}
theorem ny [hk : Tk d6 pb A (ps, po) R] (h : ∀ a c vs Ls, vs.length = 16 → LsOk po Ls → aQ W0 N K e (pt pb (aw (eb ps (.slice a po.length c) vs) 420) :: osl 422 2 (.slice a po.length c) (po.flatMap dC) :: kH 2 (bG ((vs.zip Ls).map dp)) :: R)) : aQ W0 N K e A :=
  dP (r := d6) (b := pb) (iM fun C hC => by obtain ⟨a, c, vs, Ls, h1, h2, rfl⟩ := hC; exact h a c vs Ls h1 h2)
theorem tv (h : ∀ a c vs Ls, vs.length = 16 → LsOk po Ls → aC P W0 f args (pt pb (aw (eb ps (.slice a po.length c) vs) 420) :: osl 422 2 (.slice a po.length c) (po.flatMap dC) :: kH 2 (bG ((vs.zip Ls).map dp)) :: R) Post) : aC P W0 f args (d6 pb (ps, po) :: R) Post :=
  ng fun C hC => by obtain ⟨a, c, vs, Ls, h1, h2, rfl⟩ := hC; exact h a c vs Ls h1 h2
theorem kR {a : Option Addr} {c : Nat} {vs xs : List Value} {Ls : List (List Nat)} {sv : Value} [h1 : Tk pt pb A (aw (eb ps sv vs) 420) R1] [h2 : Tk (osl 422 2) sv R1 xs R2] [h3 : Tk kH 2 R2 (bG ((vs.zip Ls).map dp)) R3]
    (hs : sv = .slice a n c) (hv : vs.length = 16) (hL : LsOk po Ls) (hn : n = po.length) (hx : xs = po.flatMap dC) [k : Ent R3 B] : Ent A (d6 pb (ps, po) :: B) := by
 subst hs; subst hn; subst hx
 exact (Ent.ofPerm (h1.perm.trans ((h2.perm.trans (h3.perm.cons _)).cons _))).trans ((Ent.cons (Ent.cons (Ent.cons k))).trans (eE (R := B) (C := [_, _, _]) ⟨a, c, vs, Ls, hv, hL, rfl⟩))
theorem pX {sv : Value} {vs : List Value} {Ls : List (List Nat)} (hw : w < 16) (hv : vs.length = 16) (hL : Ls.length = 16) :
    Ent (pt pb (aw (eb ps sv vs) 420) :: kH 2 (bG ((vs.zip Ls).map dp)) :: R) (eQ w pb (Ls.getD w [], eb ps sv vs) :: kH 3 (bG (((vs.zip Ls).map dp).eraseIdx w)) :: R) := by
 have hlen : ((vs.zip Ls).map dp).length = 16 := by simp [hv, hL]
 have hg : ((vs.zip Ls).map dp)[w]'(by omega) = osl 3 1 (vs.getD w undef) ((Ls.getD w []).flatMap fc) := by
  simp [dp, List.getD, show w < vs.length by omega, show w < Ls.length by omega]
 have e2 := yd (L := (vs.zip Ls).map dp) (R := R) (i := w) (by omega)
 rw [hg] at e2
 refine (Ent.cons e2).trans ?_
 generalize hvw : vs.getD w undef = v
 have hvs : vs[w]? = some v := by rw [← hvw]; simp [List.getD, show w < vs.length by omega]
 refine ⟨fun l hl => ?_⟩
 obtain ⟨l1, l2, rfl, h1, l3, l4, rfl, h3, h4⟩ := hl
 have key : ∀ a c, v = .slice a (Ls.getD w []).length c → ∃ l' r, eO (eQ w pb (Ls.getD w [], eb ps sv vs) :: kH 3 (bG (((vs.zip Ls).map dp).eraseIdx w)) :: R) l' ∧ (l1 ++ (l3 ++ l4)).Perm (l' ++ r) := fun a c hva => by
  have hcs : (eb ps sv vs).set (2 + w * 1) (.slice a (Ls.getD w []).length c) = eb ps sv vs := by
   rw [← hva, tu, pW hvs]
  refine ⟨(l1 ++ l3) ++ l4, [], ⟨l1 ++ l3, l4, rfl, ⟨_, ⟨by simp [eb, hv]; omega, a, c, rfl⟩, ?_⟩, h4⟩, by simp⟩
  rw [hcs, ← hva]
  exact ⟨l1, l3, rfl, h1, l3, [], by simp, h3, rfl⟩
 rcases id h3 with ⟨k1, k2, _⟩ | ⟨g, n, cap, sp, k1, _, _, k4, _, _⟩
 have hl0 : (Ls.getD w []).length = 0 := by
  have := congrArg List.length k2
  rw [dm gE] at this; simpa using this
 exact key none 0 (by rw [k1, hl0])
 have hl0 : (Ls.getD w []).length = n := by rw [dm gE] at k4; omega
 exact key (some ⟨g, 0, none⟩) cap (by rw [k1, hl0])
theorem pY {a : Option Addr} {c : Nat} {sv : Value} {vs : List Value} {Ls : List (List Nat)} {l : List Nat} {po' : Po} (hw : w < 16) (hv : vs.length = 16) (hs : sv = .slice a n c) (hn : n = po'.length) (hL : Ls.length = 16) (hk : LsOk po' (Ls.set w l)) :
    Ent (eQ w pb (l, eb ps sv vs) :: osl 422 2 sv (po'.flatMap dC) :: kH 3 (bG (((vs.zip Ls).map dp).eraseIdx w)) :: R) (d6 pb (ps, po') :: R) := by
 refine yh fun C hC => ?_
 obtain ⟨ho, a2, c2, rfl⟩ := hC
 have hcs : (eb ps sv vs).set (2 + w * 1) (.slice a2 l.length c2) = eb ps sv (vs.set w (.slice a2 l.length c2)) := tu ..
 dsimp only
 rw [hcs]
 have hlen : ((vs.zip Ls).map dp).length = 16 := by simp [hv, hL]
 have hset : ((vs.set w (.slice a2 l.length c2)).zip (Ls.set w l)).map dp = ((vs.zip Ls).map dp).set w (dp (.slice a2 l.length c2, l)) := by
  apply List.ext_getElem
  simp
  intro j h1 h2
  by_cases e : j = w
  subst e; simp
  have e' : ¬ w = j := fun h => e h.symm
  simp [List.getElem_set, e']
 have e2 : Ent (dp (.slice a2 l.length c2, l) :: kH 3 (bG (((vs.zip Ls).map dp).eraseIdx w)) :: R) (kH 2 (bG (((vs.set w (.slice a2 l.length c2)).zip (Ls.set w l)).map dp)) :: R) := by
  rw [hset]; exact yf (by omega)
 refine (Ent.ofPerm ((List.Perm.swap _ _ _).cons _)).trans ?_
 refine (Ent.cons (Ent.cons e2)).trans ?_
 exact kR (vs := vs.set w (.slice a2 l.length c2)) hs (by simpa using hv) hk hn rfl
end
theorem tw (po : Po) (sp : List Value) (i j : Nat) (hi : i < po.length) (hj : j < 2) : (po.flatMap dC ++ sp)[i * 2 + j]? = (dC (cW po i))[j]? := by
 rw [iY nx po i j sp hi hj]; simp [cW, List.getD, hi]
theorem yi (po : Po) (sp : List Value) (i : Nat) (v : Int) (hi : i < po.length) : (po.flatMap dC ++ sp).set (i * 2 + 0) (.int .i64 v) = (po.set i (v, (cW po i).2)).flatMap dC ++ sp :=
  lP nx po i 0 _ _ sp hi (by decide) (by simp [cW, List.getD, hi, dC])
theorem tx (po : Po) (sp : List Value) (i : Nat) (v : Bool) (hi : i < po.length) : (po.flatMap dC ++ sp).set (i * 2 + 1) (.bool v) = (po.set i ((cW po i).1, v)).flatMap dC ++ sp :=
  lP nx po i 1 _ _ sp hi (by decide) (by simp [cW, List.getD, hi, dC])
theorem hZ (po : Po) : (po.flatMap dC).length = po.length * 2 := dm nx po
abbrev jo (pb w : Nat) : Value := .pointer (some ⟨pb, 2 + w * 1, none⟩)
theorem jW {its : List Nat} {sp : List Value} {i : Nat} (hi : i < its.length) : (its.flatMap fc ++ sp)[i * 1]? = some (.int .i64 ((its.getD i default : Nat) : Int)) := by
 have := iY gE its i 0 sp hi (by decide)
 rw [Nat.add_zero] at this
 rw [this]; simp [fc, List.getD, hi]
theorem nz {its : List Nat} {sp : List Value} {i x : Nat} (hi : i < its.length) : (its.flatMap fc ++ sp).set (i * 1) (.int .i64 (x : Int)) = (its.set i x).flatMap fc ++ sp := by
 have := lP gE its i 0 (.int .i64 (x : Int)) x sp hi (by decide) (by simp [fc])
 rwa [Nat.add_zero] at this
theorem nB {its : List Nat} {sp : List Value} {i : Nat} (hi : i < its.length) : i * 1 + 1 ≤ (its.flatMap fc ++ sp).length := y3 gE its sp i hi
theorem pZ (W0 : World) (R : List HP) (pb w : Nat) (its : List Nat) (cs : List Value) :
    aC Tryz.prog W0 299 [jo pb w] (eQ w pb (its, cs) :: R) (fun v B => v = .int .i64 (its.length : Nat) ∧ B = eQ w pb (its, cs) :: R) := by
 refine pL fun a c ho => ?_
 refine aF func299 ntmps299 rfl rfl ?_
 refine ae (ah (aa rfl (ai rfl) (ag (ab (ae (ah (aa rfl (ac rfl) (aa rfl (aH rfl) ?_))))))))
 refine aa rfl (ao rfl gU rfl d9 rfl (by first | exact Nat.zero_add _ | rfl)) ?_
 refine aa rfl (ap eA rfl (aA (hQ ho))) ?_
 refine aa rfl (bq dt rfl) (aa rfl (ai rfl) (ag (ab (av (au (.inl rfl) (.cons (ak rfl) .nil) ?_)))))
 exact ⟨_, ⟨rfl, rfl⟩, pM rfl rfl ho rfl⟩
theorem yj (W0 : World) (R : List HP) (pb w : Nat) (its : List Nat) (cs : List Value) (i k : Nat) (hi : i < its.length) (hk : k < its.length) :
    aC Tryz.prog W0 495 [jo pb w, .int .i64 i, .int .i64 k] (eQ w pb (its, cs) :: R) (fun v B => v = .bool (decide (Hp.us its i < Hp.us its k)) ∧ B = eQ w pb (its, cs) :: R) := by
 refine pN gE (by intro e; subst e; simp at hi) (by decide) fun g c sp ho h1 h2 h3 => ?_
 refine aF func495 ntmps495 rfl rfl ?_
 refine ae (ah (aa rfl (ai rfl) (ag (ab (ae ?_)))))
 refine cY [(pb, 0, _), (g, 0, _)] 16 cV rfl (aV (aV aK)) (fun hS => ?_)
 refine aj 0 rfl rfl (by kernel_rfl) (by kernel_rfl) (by kernel_rfl) rfl hS (ac rfl) ?_
 refine aj 1 rfl rfl (by kernel_rfl) (by kernel_rfl) (by kernel_rfl) rfl hS (aH rfl) ?_
 refine aj 2 rfl rfl (by kernel_rfl) (by kernel_rfl) (by kernel_rfl) rfl hS (ao rfl gU rfl d9 rfl (by first | exact Nat.zero_add _ | rfl)) ?_
 refine aj 3 rfl rfl (by kernel_rfl) (by kernel_rfl) (by kernel_rfl) rfl hS (ap eA rfl (aG (k := 0) rfl (hQ ho))) ?_
 refine aj 4 rfl rfl (by kernel_rfl) (by kernel_rfl) (by kernel_rfl) rfl hS (ac rfl) ?_
 refine aj 5 rfl rfl (by kernel_rfl) (by kernel_rfl) (by kernel_rfl) rfl hS (bY dt az rfl rfl rfl hi (by first | exact Nat.zero_add _ | rfl)) ?_
 refine aj 6 rfl rfl (by kernel_rfl) (by kernel_rfl) (by kernel_rfl) rfl hS (ap aM rfl (aG (k := 1) rfl (jW hi))) ?_
 refine aj 7 rfl rfl (by kernel_rfl) (by kernel_rfl) (by kernel_rfl) rfl hS (ac rfl) ?_
 refine aj 8 rfl rfl (by kernel_rfl) (by kernel_rfl) (by kernel_rfl) rfl hS (aH rfl) ?_
 refine aj 9 rfl rfl (by kernel_rfl) (by kernel_rfl) (by kernel_rfl) rfl hS (ao rfl gU rfl d9 rfl (by first | exact Nat.zero_add _ | rfl)) ?_
 refine aj 10 rfl rfl (by kernel_rfl) (by kernel_rfl) (by kernel_rfl) rfl hS (ap eA rfl (aG (k := 0) rfl (hQ ho))) ?_
 refine aj 11 rfl rfl (by kernel_rfl) (by kernel_rfl) (by kernel_rfl) rfl hS (ac rfl) ?_
 refine aj 12 rfl rfl (by kernel_rfl) (by kernel_rfl) (by kernel_rfl) rfl hS (bY dt az rfl rfl rfl hk (by first | exact Nat.zero_add _ | rfl)) ?_
 refine aj 13 rfl rfl (by kernel_rfl) (by kernel_rfl) (by kernel_rfl) rfl hS (ap aM rfl (aG (k := 1) rfl (jW hk))) ?_
 refine aj 14 rfl rfl (by kernel_rfl) (by kernel_rfl) (by kernel_rfl) rfl hS (aY rfl rfl) ?_
 refine aj 15 rfl rfl (by kernel_rfl) (by kernel_rfl) (by kernel_rfl) rfl hS (ai rfl) ?_
 refine cg (by kernel_rfl) ?_; clear hS
 refine ab (av (au (.inl rfl) (.cons (ak rfl) .nil) ?_))
 exact ⟨_, ⟨rfl, rfl⟩, nr gE rfl rfl ho rfl h1 h2 h3⟩
theorem yk (W0 : World) (R : List HP) (pb w : Nat) (its : List Nat) (cs : List Value) (i k : Nat) (hi : i < its.length) (hk : k < its.length) :
    aC Tryz.prog W0 498 [jo pb w, .int .i64 i, .int .i64 k] (eQ w pb (its, cs) :: R) (fun v B => v = .tuple #[] ∧ B = eQ w pb (Hp.swapL its i k, cs) :: R) := by
 refine pN gE (by intro e; subst e; simp at hi) (by decide) fun g c sp ho h1 h2 h3 => ?_
 refine aF func498 ntmps498 rfl rfl ?_
 refine cY [(pb, 0, _)] 28 cV rfl (aV aK) (fun hS => ?_)
 refine aj 0 rfl rfl (by kernel_rfl) (by kernel_rfl) (by kernel_rfl) rfl hS (ac rfl) ?_
 refine aj 1 rfl rfl (by kernel_rfl) (by kernel_rfl) (by kernel_rfl) rfl hS (aH rfl) ?_
 refine aj 2 rfl rfl (by kernel_rfl) (by kernel_rfl) (by kernel_rfl) rfl hS (ao rfl gU rfl d9 rfl (by first | exact Nat.zero_add _ | rfl)) ?_
 refine aj 3 rfl rfl (by kernel_rfl) (by kernel_rfl) (by kernel_rfl) rfl hS (ap eA rfl (aG (k := 0) rfl (hQ ho))) ?_
 refine aj 4 rfl rfl (by kernel_rfl) (by kernel_rfl) (by kernel_rfl) rfl hS (ac rfl) ?_
 refine aj 5 rfl rfl (by kernel_rfl) (by kernel_rfl) (by kernel_rfl) rfl hS (ac rfl) ?_
 refine aj 6 rfl rfl (by kernel_rfl) (by kernel_rfl) (by kernel_rfl) rfl hS (aH rfl) ?_
 refine aj 7 rfl rfl (by kernel_rfl) (by kernel_rfl) (by kernel_rfl) rfl hS (ao rfl gU rfl d9 rfl (by first | exact Nat.zero_add _ | rfl)) ?_
 refine aj 8 rfl rfl (by kernel_rfl) (by kernel_rfl) (by kernel_rfl) rfl hS (ap eA rfl (aG (k := 0) rfl (hQ ho))) ?_
 refine aj 9 rfl rfl (by kernel_rfl) (by kernel_rfl) (by kernel_rfl) rfl hS (ac rfl) ?_
 refine aj 10 rfl rfl (by kernel_rfl) (by kernel_rfl) (by kernel_rfl) rfl hS (ac rfl) ?_
 refine aj 11 rfl rfl (by kernel_rfl) (by kernel_rfl) (by kernel_rfl) rfl hS (aH rfl) ?_
 refine aj 12 rfl rfl (by kernel_rfl) (by kernel_rfl) (by kernel_rfl) rfl hS (ao rfl gU rfl d9 rfl (by first | exact Nat.zero_add _ | rfl)) ?_
 refine aj 13 rfl rfl (by kernel_rfl) (by kernel_rfl) (by kernel_rfl) rfl hS (ap eA rfl (aG (k := 0) rfl (hQ ho))) ?_
 refine aj 14 rfl rfl (by kernel_rfl) (by kernel_rfl) (by kernel_rfl) rfl hS (ac rfl) ?_
 refine aj 15 rfl rfl (by kernel_rfl) (by kernel_rfl) (by kernel_rfl) rfl hS (bY dt az rfl rfl rfl hk (by first | exact Nat.zero_add _ | rfl)) ?_
 refine aj 17 rfl rfl (by kernel_rfl) (by kernel_rfl) (by kernel_rfl) rfl hS (ac rfl) ?_
 refine aj 18 rfl rfl (by kernel_rfl) (by kernel_rfl) (by kernel_rfl) rfl hS (aH rfl) ?_
 refine aj 19 rfl rfl (by kernel_rfl) (by kernel_rfl) (by kernel_rfl) rfl hS (ao rfl gU rfl d9 rfl (by first | exact Nat.zero_add _ | rfl)) ?_
 refine aj 20 rfl rfl (by kernel_rfl) (by kernel_rfl) (by kernel_rfl) rfl hS (ap eA rfl (aG (k := 0) rfl (hQ ho))) ?_
 refine aj 21 rfl rfl (by kernel_rfl) (by kernel_rfl) (by kernel_rfl) rfl hS (ac rfl) ?_
 refine aj 22 rfl rfl (by kernel_rfl) (by kernel_rfl) (by kernel_rfl) rfl hS (bY dt az rfl rfl rfl hi (by first | exact Nat.zero_add _ | rfl)) ?_
 refine iL (is := [16, 23]) (by kernel_rfl) rfl ⟨?_, ?_, trivial⟩
 skip
 refine f8 rfl rfl (eD (ap aM rfl (aA (jW hk)))) rfl ?_; clear hS
 rintro _ _ ⟨rfl, rfl⟩
 refine ⟨(aV aK), fun hS => ?_⟩
 refine bB 23 (by kernel_rfl) rfl rfl (eD (ap aM rfl (aA (jW hi)))) rfl ?_; clear hS
 rintro _ _ ⟨rfl, rfl⟩
 refine ⟨(aV aK), fun hS => ?_⟩
 refine aj 24 rfl rfl (by kernel_rfl) (by kernel_rfl) (by kernel_rfl) rfl hS (bY dt az rfl rfl rfl hi (by first | exact Nat.zero_add _ | rfl)) ?_
 refine bB 25 (by kernel_rfl) rfl rfl (ce az rfl rfl rfl (nB hi) (nz hi)) rfl ?_; clear hS
 rintro _ _ rfl
 refine ⟨(aV aK), fun hS => ?_⟩
 refine aj 26 rfl rfl (by kernel_rfl) (by kernel_rfl) (by kernel_rfl) rfl hS (bY dt az rfl rfl rfl hk (by first | exact Nat.zero_add _ | rfl)) ?_
 refine bB 27 (by kernel_rfl) rfl rfl (ce az rfl rfl rfl (nB (by simpa using hk)) (nz (by simpa using hk))) rfl ?_; clear hS
 rintro _ _ rfl
 refine ⟨(aV aK), fun hS => ?_⟩
 refine cg (by kernel_rfl) ?_; clear hS
 refine au (.inr rfl) .nil ?_
 exact ⟨_, ⟨rfl, rfl⟩, nr gE rfl rfl ho (by simp [Hp.swapL]) (by simpa [Hp.swapL] using h1) h2 (by rw [List.length_append, dm gE] at h3 ⊢; simpa [Hp.swapL] using h3)⟩
 skip
 refine f8 rfl rfl (eD (ap aM rfl (aA (jW hi)))) rfl ?_; clear hS
 rintro _ _ ⟨rfl, rfl⟩
 refine ⟨(aV aK), fun hS => ?_⟩
 refine bB 16 (by kernel_rfl) rfl rfl (eD (ap aM rfl (aA (jW hk)))) rfl ?_; clear hS
 rintro _ _ ⟨rfl, rfl⟩
 refine ⟨(aV aK), fun hS => ?_⟩
 refine aj 24 rfl rfl (by kernel_rfl) (by kernel_rfl) (by kernel_rfl) rfl hS (bY dt az rfl rfl rfl hi (by first | exact Nat.zero_add _ | rfl)) ?_
 refine bB 25 (by kernel_rfl) rfl rfl (ce az rfl rfl rfl (nB hi) (nz hi)) rfl ?_; clear hS
 rintro _ _ rfl
 refine ⟨(aV aK), fun hS => ?_⟩
 refine aj 26 rfl rfl (by kernel_rfl) (by kernel_rfl) (by kernel_rfl) rfl hS (bY dt az rfl rfl rfl hk (by first | exact Nat.zero_add _ | rfl)) ?_
 refine bB 27 (by kernel_rfl) rfl rfl (ce az rfl rfl rfl (nB (by simpa using hk)) (nz (by simpa using hk))) rfl ?_; clear hS
 rintro _ _ rfl
 refine ⟨(aV aK), fun hS => ?_⟩
 refine cg (by kernel_rfl) ?_; clear hS
 refine au (.inr rfl) .nil ?_
 exact ⟨_, ⟨rfl, rfl⟩, nr gE rfl rfl ho (by simp [Hp.swapL]) (by simpa [Hp.swapL] using h1) h2 (by rw [List.length_append, dm gE] at h3 ⊢; simpa [Hp.swapL] using h3)⟩
theorem yl (W0 : World) (R : List HP) (pb w : Nat) (its : List Nat) (x : Nat) (cs : List Value) :
    aC Tryz.prog W0 496 [jo pb w] (eQ w pb (its ++ [x], cs) :: R) (fun v B => v = .iface 3 (.int .i64 (x : Int)) ∧ B = eQ w pb (its, cs) :: R) := by
 refine pN gE (by simp) (by decide) fun g c sp ho h1 h2 h3 => ?_
 have hl : (its ++ [x]).length = its.length + 1 := by simp
 rw [hl] at h1 ⊢
 have hg : (its ++ [x]).getD its.length default = x := by simp [List.getD]
 have he : (its ++ [x]).flatMap fc ++ sp = its.flatMap fc ++ (fc x ++ sp) := by simp
 have hget := jW (its := its ++ [x]) (sp := sp) (i := its.length) (by omega)
 rw [hg] at hget
 refine aF func496 ntmps496 rfl rfl ?_
 refine ae (ah (aa rfl (ai rfl) (ag (ab (ae (ah (aa rfl (ac rfl) (aa rfl (aH rfl) ?_))))))))
 refine aa rfl (ao rfl gU rfl d9 rfl (by first | exact Nat.zero_add _ | rfl)) ?_
 refine aa rfl (ap eA rfl (aA (hQ ho))) ?_
 refine aa rfl (bq dt rfl) ?_
 refine aa rfl (dW rfl rfl (by rw [aW (by simp only [maxLen] at h2; omega)]; omega : IntKind.wrap .i64 (((its.length + 1 : Nat) : Int) - 1) = ((its.length : Nat) : Int))) ?_
 refine aa rfl (ai rfl) (ag (ab (ae (ah (aa rfl (ac rfl) (aa rfl (aH rfl) ?_))))))
 refine aa rfl (ao rfl gU rfl d9 rfl (by first | exact Nat.zero_add _ | rfl)) ?_
 refine aa rfl (ap eA rfl (aA (hQ ho))) ?_
 refine aa rfl (ac rfl) ?_
 refine aa rfl (bY dt az rfl rfl rfl (by omega) (by first | exact Nat.zero_add _ | rfl)) ?_
 refine aa rfl (ap aM rfl (aA hget)) ?_
 refine aa rfl (ai rfl) (ag (ab (ae (ah (aa rfl (ac rfl) (aa rfl (ac rfl) (aa rfl (aH rfl) ?_)))))))
 refine aa rfl (ao rfl gU rfl d9 rfl (by first | exact Nat.zero_add _ | rfl)) ?_
 refine aa rfl (ap eA rfl (aA (hQ ho))) ?_
 refine aa rfl (ac rfl) ?_
 refine aa rfl (jN dt az rfl rfl rfl (by omega)) ?_
 refine aa rfl (aH rfl) ?_
 refine aa rfl (ao rfl gU rfl d9 rfl (by first | exact Nat.zero_add _ | rfl)) ?_
 refine bE (ce d9 rfl rfl rfl (by rw [List.length_set]; exact ho) set_set) ?_
 rintro _ _ rfl
 refine ag (ab (ae (ah (aa rfl (ac rfl) ?_))))
 refine aa rfl (lQ jx (fun _ h => by cases h) rfl) ?_
 refine aa rfl (ai rfl) (ag (ab (av (au (.inl rfl) (.cons (ak rfl) .nil) ?_))))
 rw [he]
 exact ⟨_, ⟨rfl, rfl⟩, nr (sp := fc x ++ sp) gE rfl rfl ho rfl (by omega) h2 (by rw [← he]; exact h3)⟩
theorem ym (W0 : World) (R : List HP) (pb w : Nat) (its : List Nat) (x : Nat) (cs : List Value) (hn : its.length < 1000) :
    aC Tryz.prog W0 497 [jo pb w, .iface 3 (.int .i64 (x : Int))] (eQ w pb (its, cs) :: R) (fun v B => v = .tuple #[] ∧ B = eQ w pb (its ++ [x], cs) :: R) := by
 refine pL fun a c ho => ?_
 have he : its.flatMap fc ++ [Value.int .i64 (x : Int)] = (its ++ [x]).flatMap fc := by simp
 refine aF func497 ntmps497 rfl rfl ?_
 refine cY [] 12 cV rfl aK (fun hS => ?_)
 refine aj 0 rfl rfl (by kernel_rfl) (by kernel_rfl) (by kernel_rfl) rfl hS (ac rfl) ?_
 refine aj 1 rfl rfl (by kernel_rfl) (by kernel_rfl) (by kernel_rfl) rfl hS (ac rfl) ?_
 refine aj 2 rfl rfl (by kernel_rfl) (by kernel_rfl) (by kernel_rfl) rfl hS (aH rfl) ?_
 refine aj 3 rfl rfl (by kernel_rfl) (by kernel_rfl) (by kernel_rfl) rfl hS (ao rfl gU rfl d9 rfl (by first | exact Nat.zero_add _ | rfl)) ?_
 refine aj 5 rfl rfl (by kernel_rfl) (by kernel_rfl) (by kernel_rfl) rfl hS (ac rfl) ?_
 refine aj 6 rfl rfl (by kernel_rfl) (by kernel_rfl) (by kernel_rfl) rfl hS (p5 jx (fun _ h => by cases h) rfl) ?_
 refine iL (is := [4, 7]) (by kernel_rfl) rfl ⟨?_, ?_, trivial⟩
 skip
 refine f8 rfl rfl (eD (ap eA rfl (aA (hQ ho)))) rfl ?_; clear hS
 rintro _ _ ⟨rfl, rfl⟩
 refine ⟨aK, fun hS => ?_⟩
 refine bB 7 (by kernel_rfl) rfl rfl (fK dt az ln rfl rfl rfl rfl rfl (by decide) (by decide)) rfl ?_; clear hS
 rintro _ _ ⟨b1, rfl, rfl⟩
 refine ⟨aK, fun hS => ?_⟩
 refine bB 8 (by kernel_rfl) rfl rfl (dL (sz := 1) (by_ := 8) (info := Tryz.t3) dt (by kernel_rfl) rfl rfl rfl rfl (by decide) rfl rfl dM rfl rfl (by simp only [maxLen]; omega) (by omega)) rfl ?_; clear hS
 rintro _ _ ⟨a1, c1, rfl, rfl⟩
 refine ⟨aK, fun hS => ?_⟩
 refine aj 9 rfl rfl (by kernel_rfl) (by kernel_rfl) (by kernel_rfl) rfl hS (aH rfl) ?_
 refine aj 10 rfl rfl (by kernel_rfl) (by kernel_rfl) (by kernel_rfl) rfl hS (ao rfl gU rfl d9 rfl (by first | exact Nat.zero_add _ | rfl)) ?_
 refine bB 11 (by kernel_rfl) rfl rfl (ce d9 rfl rfl rfl (by rw [List.length_set]; exact ho) set_set) rfl ?_; clear hS
 rintro _ _ rfl
 refine ⟨aK, fun hS => ?_⟩
 refine cg (by kernel_rfl) ?_; clear hS
 refine au (.inr rfl) .nil ?_
 exact ⟨_, ⟨rfl, rfl⟩, pM (its := its ++ [x]) he rfl ho (by simp)⟩
 skip
 refine f8 rfl rfl (fK dt az ln rfl rfl rfl rfl rfl (by decide) (by decide)) rfl ?_; clear hS
 rintro _ _ ⟨b1, rfl, rfl⟩
 refine ⟨aK, fun hS => ?_⟩
 refine bB 4 (by kernel_rfl) rfl rfl (eD (ap eA rfl (aA (hQ ho)))) rfl ?_; clear hS
 rintro _ _ ⟨rfl, rfl⟩
 refine ⟨aK, fun hS => ?_⟩
 refine bB 8 (by kernel_rfl) rfl rfl (dL (sz := 1) (by_ := 8) (info := Tryz.t3) dt (by kernel_rfl) rfl rfl rfl rfl (by decide) rfl rfl dM rfl rfl (by simp only [maxLen]; omega) (by omega)) rfl ?_; clear hS
 rintro _ _ ⟨a1, c1, rfl, rfl⟩
 refine ⟨aK, fun hS => ?_⟩
 refine aj 9 rfl rfl (by kernel_rfl) (by kernel_rfl) (by kernel_rfl) rfl hS (aH rfl) ?_
 refine aj 10 rfl rfl (by kernel_rfl) (by kernel_rfl) (by kernel_rfl) rfl hS (ao rfl gU rfl d9 rfl (by first | exact Nat.zero_add _ | rfl)) ?_
 refine bB 11 (by kernel_rfl) rfl rfl (ce d9 rfl rfl rfl (by rw [List.length_set]; exact ho) set_set) rfl ?_; clear hS
 rintro _ _ rfl
 refine ⟨aK, fun hS => ?_⟩
 refine cg (by kernel_rfl) ?_; clear hS
 refine au (.inr rfl) .nil ?_
 exact ⟨_, ⟨rfl, rfl⟩, pM (its := its ++ [x]) he rfl ho (by simp)⟩
section
variable (w : World) (a : Addr)
theorem yn : (method (Tryz.prog.types.size + Made.depth) 454 (.pointer (some a)) "Len").run Tryz.prog w = .ok (299, .pointer (some a)) w := by kernel_rfl
theorem yo : (method (Tryz.prog.types.size + Made.depth) 454 (.pointer (some a)) "Less").run Tryz.prog w = .ok (495, .pointer (some a)) w := by kernel_rfl
theorem yp : (method (Tryz.prog.types.size + Made.depth) 454 (.pointer (some a)) "Swap").run Tryz.prog w = .ok (498, .pointer (some a)) w := by kernel_rfl
theorem yq : (method (Tryz.prog.types.size + Made.depth) 454 (.pointer (some a)) "Push").run Tryz.prog w = .ok (497, .pointer (some a)) w := by kernel_rfl
theorem yr : (method (Tryz.prog.types.size + Made.depth) 454 (.pointer (some a)) "Pop").run Tryz.prog w = .ok (496, .pointer (some a)) w := by kernel_rfl
end
def tz (W0 : World) (pb w : Nat) (cs : List Value) : HpO W0 Nat where
  T := 454
  p := jo pb w
  el := fun x => .iface 3 (.int .i64 (x : Int))
  H := fun l => eQ w pb (l, cs)
  fL := 299
  fE := 495
  fS := 498
  fU := 497
  fO := 496
  mL := fun u => yn u _
  mE := fun u => yo u _
  mS := fun u => yp u _
  mU := fun u => yq u _
  mO := fun u => yr u _
  cL := vA
  cE := call495
  cS := call498
  cU := call497
  cO := call496
  sL := fun R l => pZ W0 R pb w l cs
  sE := fun R l i j hi hj => yj W0 R pb w l cs i j hi hj
  sS := fun R l i j hi hj => yk W0 R pb w l cs i j hi hj
  sU := fun R l x hl => ym W0 R pb w l x cs hl
  sO := fun R l x => yl W0 R pb w l x cs
theorem yt (W0 : World) (R : List HP) (pb w : Nat) (its : List Nat) (x : Nat) (cs : List Value) (hN : its.length < 900) (hh : Hp.Heap its its.length) :
    aC Tryz.prog W0 176 [.iface 454 (jo pb w), .iface 3 (.int .i64 (x : Int))] (eQ w pb (its, cs) :: R) (fun v B => v = .tuple #[] ∧ ∃ its', B = eQ w pb (its', cs) :: R ∧ its'.Perm (its ++ [x]) ∧ Hp.Heap its' its'.length) :=
  Hp.heapPush_spec (tz W0 pb w cs) R its x hN hh
theorem yu (W0 : World) (R : List HP) (pb w : Nat) (its : List Nat) (cs : List Value) (hN : its.length < 900) (h0 : its ≠ []) (hh : Hp.Heap its its.length) :
    aC Tryz.prog W0 300 [.iface 454 (jo pb w)] (eQ w pb (its, cs) :: R) (fun v B => ∃ x its', v = .iface 3 (.int .i64 ((x : Nat) : Int)) ∧ B = eQ w pb (its', cs) :: R ∧ (its' ++ [x]).Perm its ∧ Hp.Heap its' its'.length ∧ ∀ y ∈ its, (x : Int) ≤ (y : Int)) :=
  Hp.heapPop_spec (tz W0 pb w cs) R its hN h0 hh
def nD (x : Prt) : Nat := if x.gu = -1 then 64 else 4
def kS (ps : List Prt) : Prop := ps.length ≤ 8 ∧ ∀ x ∈ ps, x.l.length ≤ nD x
theorem kS.at_ {ps : List Prt} (h : kS ps) {i : Nat} (hi : i < ps.length) : (ps.getD i default).l.length ≤ nD (ps.getD i default) := by
 rw [show ps.getD i default = ps[i] by simp [List.getD, hi]]; exact h.2 _ (List.getElem_mem hi)
theorem kS.set {ps : List Prt} (h : kS ps) {i : Nat} {x : Prt} (hx : x.l.length ≤ nD x) : kS (ps.set i x) := ⟨by simpa using h.1, fun y hy => by
 rcases List.mem_or_eq_of_mem_set hy with q | q
 exact h.2 y q
 rw [q]; exact hx⟩
abbrev i3 := Int × Int
@[reducible] def q9 (x : i3) : List Value := [.int .i64 x.1, .int .i64 x.2]
def fp (l : List i3) : List Prt := l.map fun x => ⟨x.1, x.2, []⟩
theorem qa (l : List i3) : (fp l).length = l.length := by simp [fp]
def eG : Value := .slice none 0 0
theorem tA {R : List HP} : ∀ l : List i3, Ent R (kH 2 (bG (((List.replicate l.length eG).zip (fp l)).map jn)) :: R)
 | [] => g8 (A := [])
 | x :: l => by
  have ih := tA (R := R) l
  refine ih.trans ?_
  refine (ip (A := ((List.replicate l.length eG).zip (fp l)).map jn) (R := R)).trans ?_
  refine (fb (E := 9) (sz := 1) (B := ((List.replicate l.length eG).zip (fp l)).map jn ++ R)).trans ?_
  exact g8 (A := jn (eG, ⟨x.1, x.2, []⟩) :: ((List.replicate l.length eG).zip (fp l)).map jn) (R := R)
theorem yw (l : List i3) : ((List.replicate l.length eG).zip (fp l)).flatMap nw = l.flatMap fun x => [.int .i64 x.1, .int .i64 x.2, eG] := by
 induction l with
 | nil => rfl
 | cons x l ih =>
  rw [List.flatMap_cons, ← ih]
  rfl
theorem yx (l : List i3) (a : Option Addr) (n c : Nat) (hln : l.length = n) (hn : n ≤ 8) (hs : cq (bI W0 R) a 2 q9 l) (hlab : ∀ x ∈ l, dw x.1 = true) :
    aC Tryz.prog W0 50 [.slice a n c] R (fun v B => ∃ p, v = .tuple #[.pointer (some ⟨p, 0, none⟩), .int .i64 0] ∧ B = m7 p (fp l) :: R) := by
 subst hln
 refine aF func50 ntmps50 rfl rfl ?_
 refine ae (ah (aa rfl (ai rfl) (aa rfl (ai rfl) (ag (ab (ae (ae (ah (aa rfl (ac rfl) (aa rfl (bq eT rfl) (aa rfl (cd rfl rfl) (ag (ab ?_)))))))))))))
 refine ax rfl ?_ ?_
 intro c1
 omega
 intro c1
 refine aB (ab (ae (ah (aa rfl (bQ ry zeroValue267 (aE mr (aE cB bP)) (bn rfl cB rfl rfl (Nat.le_of_ble_eq_true rfl) SetL.eq bO)) ?_))))
 refine am rfl (bL rfl) ?_
 rintro _ _ ⟨p, rfl, rfl⟩
 refine aa rfl (ai rfl) (ag (ab (ae (ae (ah (aa rfl (ac rfl) (aa rfl (bq eT rfl) (aa rfl (ac rfl) (ag (ab (b0 ?_)))))))))))
 refine cC (fun X : Nat × Option Addr × Nat => X.1 ≤ l.length) (fun X => [(4, .pointer (some ⟨p, 0, none⟩)), (12, .slice a l.length c), (13, .int .i64 (l.length : Nat)), (14, .int .i64 X.1)]) (fun X => pt p (aw [.slice X.2.1 X.1 X.2.2, .bool true] 267) :: osl 270 3 (.slice X.2.1 X.1 X.2.2) ((l.take X.1).flatMap fun x => [.int .i64 x.1, .int .i64 x.2, eG]) :: R) (fun X => l.length - X.1) (0, none, 0) ?_ ?_ ?_ ?_
 exact Nat.zero_le _
 · repeat (first | exact aX | refine aU rfl ?_)
 exact (Ent.cons (fb (E := 270) (sz := 3)))
 intro ⟨i, a2, c2⟩ hi
 dsimp only at hi ⊢
 refine ae (ah (aa rfl (aY rfl rfl) (ag (ab (ae ?_)))))
 refine ax rfl ?_ ?_
 intro c5
 have hi1 : i < l.length := by omega
 obtain ⟨g, o, rfl, hc⟩ := hs.at_ hi1
 have hlb := hlab _ (List.getElem_mem hi1)
 have htk : l.take (i + 1) = l.take i ++ [l[i]] := List.take_succ_eq_append_getElem hi1
 refine aB (ab (ae (b0 (ae (ah ?_)))))
 refine aa rfl (bY eT eN rfl rfl rfl hi1 (by first | exact Nat.zero_add _ | rfl)) ?_
 refine aa rfl (cQ mt eN rfl hc.weak rfl) ?_
 refine am rfl (dd jy) ?_
 rintro _ _ ⟨bx, rfl, rfl⟩
 refine bE (cK eN rfl rfl rfl rfl rfl) ?_
 rintro _ _ rfl
 refine ag (ab (ae (ae (ah ?_))))
 refine aa rfl (ao rfl eB rfl az rfl (by first | exact Nat.zero_add _ | rfl)) ?_
 refine aa rfl (ap aM rfl (aA rfl)) ?_
 refine am rfl (aS call126 rfl (tf l[i].1)) ?_
 rintro _ B_ ⟨m, rfl, hm, hB_⟩
 obtain rfl := hB_.symm
 rw [hlb] at hm
 have hm0 : ¬ m < 0 := by simpa using hm
 refine aa rfl (aY rfl rfl) (ag (ab ?_))
 refine ax rfl ?_ ?_
 intro c7
 exact absurd c7 hm0
 intro c7
 refine aB (ab ?_)
 refine cY [(bx, 0, _)] 12 cV rfl (aV aK) (fun hS => ?_)
 refine aj 0 rfl rfl (by kernel_rfl) (by kernel_rfl) (by kernel_rfl) rfl hS (ac rfl) ?_
 refine aj 1 rfl rfl (by kernel_rfl) (by kernel_rfl) (by kernel_rfl) rfl hS (ac rfl) ?_
 refine aj 2 rfl rfl (by kernel_rfl) (by kernel_rfl) (by kernel_rfl) rfl hS (aH rfl) ?_
 refine aj 3 rfl rfl (by kernel_rfl) (by kernel_rfl) (by kernel_rfl) rfl hS (ao rfl ry rfl mr rfl (by first | exact Nat.zero_add _ | rfl)) ?_
 refine aj 5 rfl rfl (by kernel_rfl) (by kernel_rfl) (by kernel_rfl) rfl hS (cQ mt eN rfl (dA (k := 0) rfl) rfl) ?_
 refine aj 6 rfl rfl (by kernel_rfl) (by kernel_rfl) (by kernel_rfl) rfl hS (bQ underlying270 vB (aE eN (aE lp bP)) (it rfl eN rfl rfl (Nat.le_of_ble_eq_true rfl) SetRL.eq bO)) ?_
 refine iL (is := [4, 7]) (by kernel_rfl) rfl ⟨?_, ?_, trivial⟩
 skip
 refine f8 rfl rfl (eD (ap isAgg265 rfl (aA rfl))) rfl ?_; clear hS
 rintro _ _ ⟨rfl, rfl⟩
 refine ⟨(aV aK), fun hS => ?_⟩
 refine bB 7 (by kernel_rfl) rfl rfl (fN rz sizeOf270 vB rfl (eM rfl rfl fM) rfl (by decide) (by decide) (by decide)) rfl ?_; clear hS
 rintro _ _ ⟨b3, rfl, rfl⟩
 refine ⟨(aV aK), fun hS => ?_⟩
 refine bB 8 (by kernel_rfl) rfl rfl (dL (sz := 3) (by_ := 40) (info := Tryz.t270) rz (by kernel_rfl) rfl rfl rfl rfl (by decide) rfl rfl dM rfl rfl (by simp only [maxLen]; omega) (by omega)) rfl ?_; clear hS
 rintro _ _ ⟨a3, c3, rfl, rfl⟩
 refine ⟨(aV aK), fun hS => ?_⟩
 refine aj 9 rfl rfl (by kernel_rfl) (by kernel_rfl) (by kernel_rfl) rfl hS (aH rfl) ?_
 refine aj 10 rfl rfl (by kernel_rfl) (by kernel_rfl) (by kernel_rfl) rfl hS (ao rfl ry rfl mr rfl (by first | exact Nat.zero_add _ | rfl)) ?_
 refine bB 11 (by kernel_rfl) rfl rfl (ce mr rfl rfl rfl (Nat.le_of_ble_eq_true rfl) SetL.eq) rfl ?_; clear hS
 rintro _ _ rfl
 refine ⟨(aV aK), fun hS => ?_⟩
 refine cg (by kernel_rfl) ?_; clear hS
 refine bF (ab (ah ?_))
 refine aa rfl (bC rfl rfl (by first | exact aW (by omega) | rfl)) ?_
 refine aa rfl (ac rfl) (ag (ab ?_))
 refine cp (i + 1, a3, c3) ?_ ?_ ?_ ?_
 omega
 omega
 · repeat (first | exact aX | refine aU rfl ?_)
 dsimp only
 rw [htk, List.flatMap_append]
 show Ent _ (pt p (aw [.slice a3 (i + 1) c3, .bool true] 267) :: osl 270 3 (.slice a3 (i + 1) c3) (((l.take i).flatMap fun x => [.int .i64 x.1, .int .i64 x.2, eG]) ++ [[.int .i64 l[i].1, .int .i64 l[i].2, .slice none 0 0]].flatten) :: R)
 exact inferInstance
 skip
 refine f8 rfl rfl (fN rz sizeOf270 vB rfl (eM rfl rfl fM) rfl (by decide) (by decide) (by decide)) rfl ?_; clear hS
 rintro _ _ ⟨b3, rfl, rfl⟩
 refine ⟨(aV aK), fun hS => ?_⟩
 refine bB 4 (by kernel_rfl) rfl rfl (eD (ap isAgg265 rfl (aA rfl))) rfl ?_; clear hS
 rintro _ _ ⟨rfl, rfl⟩
 refine ⟨(aV aK), fun hS => ?_⟩
 refine bB 8 (by kernel_rfl) rfl rfl (dL (sz := 3) (by_ := 40) (info := Tryz.t270) rz (by kernel_rfl) rfl rfl rfl rfl (by decide) rfl rfl dM rfl rfl (by simp only [maxLen]; omega) (by omega)) rfl ?_; clear hS
 rintro _ _ ⟨a3, c3, rfl, rfl⟩
 refine ⟨(aV aK), fun hS => ?_⟩
 refine aj 9 rfl rfl (by kernel_rfl) (by kernel_rfl) (by kernel_rfl) rfl hS (aH rfl) ?_
 refine aj 10 rfl rfl (by kernel_rfl) (by kernel_rfl) (by kernel_rfl) rfl hS (ao rfl ry rfl mr rfl (by first | exact Nat.zero_add _ | rfl)) ?_
 refine bB 11 (by kernel_rfl) rfl rfl (ce mr rfl rfl rfl (Nat.le_of_ble_eq_true rfl) SetL.eq) rfl ?_; clear hS
 rintro _ _ rfl
 refine ⟨(aV aK), fun hS => ?_⟩
 refine cg (by kernel_rfl) ?_; clear hS
 refine bF (ab (ah ?_))
 refine aa rfl (bC rfl rfl (by first | exact aW (by omega) | rfl)) ?_
 refine aa rfl (ac rfl) (ag (ab ?_))
 refine cp (i + 1, a3, c3) ?_ ?_ ?_ ?_
 omega
 omega
 · repeat (first | exact aX | refine aU rfl ?_)
 dsimp only
 rw [htk, List.flatMap_append]
 show Ent _ (pt p (aw [.slice a3 (i + 1) c3, .bool true] 267) :: osl 270 3 (.slice a3 (i + 1) c3) (((l.take i).flatMap fun x => [.int .i64 x.1, .int .i64 x.2, eG]) ++ [[.int .i64 l[i].1, .int .i64 l[i].2, .slice none 0 0]].flatten) :: R)
 exact inferInstance
 intro c5
 refine bX (bi (bi (bZ (ab (ae (ah (aa rfl (ac rfl) (aa rfl (ai rfl) (aa rfl (ai rfl) (ag (ab (av (au (.inl rfl) (.cons (ak rfl) (.cons (ak rfl) .nil)) ?_)))))))))))))
 obtain rfl : i = l.length := by omega
 rw [List.take_of_length_le (Nat.le_refl _), ← yw l]
 refine ⟨_, ⟨p, rfl, rfl⟩, ?_⟩
 exact (Ent.cons (Ent.cons (tA (R := R) l))).trans (yg (by rw [List.length_replicate, qa]) (qa l).symm)
theorem yy (W0 : World) (R : List HP) (ps : Nat) (fr : List bW) (f : Nat) (hf : f < fr.length) :
    aC Tryz.prog W0 339 [.pointer (some ⟨ps, 0, none⟩), .int .i64 f] (cy ps fr :: R) (fun v B => v = .int .i64 0 ∧ B = cy ps (fr.set f bT) :: R) := by
 have hi : dH fr.length f = true := by simp only [dH, decide_eq_true_eq]; omega
 refine aF func339 ntmps339 rfl rfl ?_
 refine ae (ah (aa rfl (ai rfl) (ag (ab (ae (ae (ah (aa rfl (ac rfl) (aa rfl (ac rfl) (am rfl (bz rn rfl (ni W0 _ ps fr f)) ?_))))))))))
 rintro _ B_ ⟨rfl, hB_⟩
 obtain rfl := hB_.symm
 refine aa rfl (ai rfl) (ag (ab (ae (ah (aa rfl (ac rfl) (aa rfl (co rfl rfl) (ag (ab ?_))))))))
 refine ax rfl ?_ ?_
 intro c2
 exact absurd c2 (by simp [hi])
 intro c2
 refine aB (ab (ae ?_))
 refine lX (ps := ps) fun g => ?_
 refine ah (aa rfl (ac rfl) (aa rfl (aH rfl) ?_))
 refine aa rfl (ao rfl kh rfl ki rfl (by first | exact Nat.zero_add _ | rfl)) ?_
 refine aa rfl (ap mq rfl (aA rfl)) ?_
 refine aa rfl (ac rfl) (aa rfl (m6 rp gT zeroValue178 rfl) ?_)
 refine aa rfl (bY lj ow rfl rfl rfl hf (by first | exact Nat.zero_add _ | rfl)) ?_
 refine bE (ir ow rfl rfl rfl rfl (by rw [sQ]; omega) (sP (y := bT) hf rfl)) ?_
 rintro _ _ rfl
 refine ag (ab (ae (ah (aa rfl (ai rfl) (ag (ab (av (au (.inl rfl) (.cons (ak rfl) .nil) ?_))))))))
 exact ⟨_, ⟨rfl, rfl⟩, j0 rfl (by simp)⟩
theorem nE (W0 : World) (R : List HP) (pb ps : Nat) (po : Po) (h0 : 0 < po.length) :
    aC Tryz.prog W0 257 [.pointer (some ⟨pb, 0, none⟩)] (d6 pb (ps, po) :: R) (fun v B => v = .bool false ∧ B = d6 pb (ps, po) :: R) := by
 refine tv fun a c vs Ls hv hL => ?_
 refine aF func257 ntmps257 rfl rfl ?_
 refine ae (ah (aa rfl (ai rfl) (ag (ab (ae (ah (aa rfl (ac rfl) (aa rfl (dl vC rfl rfl) (aa rfl (ac rfl) ?_)))))))))
 refine bA rfl rfl rfl ?_ ?_
 intro g1_3
 cases g1_3
 intro g1_3
 refine aa rfl (ac rfl) (ar rfl rfl (aa rfl (aH rfl) (ar rfl rfl ?_)))
 refine aa rfl (ao rfl gK rfl iR rfl (by first | exact Nat.zero_add _ | rfl)) ?_
 refine ar rfl rfl (aa rfl (ap kj rfl (aA rfl)) ?_)
 refine ar rfl rfl (aa rfl (bq jz rfl) (ar rfl rfl (aa rfl (cz rfl rfl) (aa rfl (aJ rfl rfl) (aa rfl (ai rfl) (ag (ab (av (au (.inl rfl) (.cons (ak rfl) .nil) ?_)))))))))
 exact ⟨_, ⟨by simp [cA, show po ≠ [] from fun e => by subst e; simp at h0], rfl⟩, kR rfl hv hL rfl rfl⟩
theorem tB (W0 : World) (R : List HP) (pb ps : Nat) (po : Po) (f : Int) :
    aC Tryz.prog W0 258 [.pointer (some ⟨pb, 0, none⟩), .int .i64 f] (d6 pb (ps, po) :: R) (fun v B => v = .bool (dH po.length f) ∧ B = d6 pb (ps, po) :: R) := by
 refine tv fun a c vs Ls hv hL => ?_
 refine aF func258 ntmps258 rfl rfl ?_
 refine ae (ah (aa rfl (ai rfl) (ag (ab (ae (ah (aa rfl (ac rfl) (aa rfl (cF rfl rfl) (aa rfl (ac rfl) ?_)))))))))
 refine cG rfl rfl rfl ?_ ?_
 intro g1_3
 refine aa rfl (ac rfl) (ar rfl rfl (aa rfl (ac rfl) (ar rfl rfl (aa rfl (aH rfl) (ar rfl rfl ?_)))))
 refine aa rfl (ao rfl gK rfl iR rfl (by first | exact Nat.zero_add _ | rfl)) ?_
 refine ar rfl rfl (aa rfl (ap kj rfl (aA rfl)) ?_)
 refine ar rfl rfl (aa rfl (bq jz rfl) (ar rfl rfl (aa rfl (aY rfl rfl) (aa rfl (aT rfl rfl) (aa rfl (ai rfl) (ag (ab (av (au (.inl rfl) (.cons (ak rfl) .nil) ?_)))))))))
 refine ⟨_, ⟨?_, rfl⟩, kR rfl hv hL rfl rfl⟩
 refine congrArg Value.bool ?_
 rw [Bool.eq_iff_iff, dH, decide_eq_true_iff]
 first
   | (rw [decide_eq_true_iff]; constructor <;> (intro q; omega))
   | (constructor
      · intro q; first | omega | (cases q)
      intro q; omega)
 intro g1_3
 refine al rfl rfl rfl rfl (al rfl rfl rfl rfl (al rfl rfl rfl rfl (al rfl rfl rfl rfl (al rfl rfl rfl rfl (al rfl rfl rfl rfl (aa rfl (aJ rfl rfl) (aa rfl (ai rfl) (ag (ab (av (au (.inl rfl) (.cons (ak rfl) .nil) ?_)))))))))))
 refine ⟨_, ⟨?_, rfl⟩, kR rfl hv hL rfl rfl⟩
 refine congrArg Value.bool ?_
 rw [Bool.eq_iff_iff, dH, decide_eq_true_iff]
 first
   | (rw [decide_eq_true_iff]; constructor <;> (intro q; omega))
   | (constructor
      · intro q; first | omega | (cases q)
      intro q; omega)
def j7 (w : Int) : Bool := decide (0 ≤ w ∧ w < 16)
theorem qc (W0 : World) (R : List HP) (w : Int) :
    aC Tryz.prog W0 259 [.int .i64 w] R (fun v B => v = .bool (j7 w) ∧ B = R) := by
 refine aF func259 ntmps259 rfl rfl ?_
 refine ae (ah (aa rfl (ai rfl) (ag (ab (ae (ah (aa rfl (ac rfl) (aa rfl (cF rfl rfl) (aa rfl (ac rfl) ?_)))))))))
 refine cG rfl rfl rfl ?_ ?_
 intro g1_3
 refine aa rfl (ac rfl) (ar rfl rfl (aa rfl (aY rfl rfl) (aa rfl (aT rfl rfl) (aa rfl (ai rfl) (ag (ab (av (au (.inl rfl) (.cons (ak rfl) .nil) ?_))))))))
 refine ⟨_, ⟨?_, rfl⟩, inferInstance⟩
 refine congrArg Value.bool ?_
 rw [Bool.eq_iff_iff, j7, decide_eq_true_iff]
 first
   | (rw [decide_eq_true_iff]; constructor <;> (intro q; omega))
   | (constructor
      · intro q; first | omega | (cases q)
      intro q; omega)
 intro g1_3
 refine al rfl rfl rfl rfl (aa rfl (aJ rfl rfl) (aa rfl (ai rfl) (ag (ab (av (au (.inl rfl) (.cons (ak rfl) .nil) ?_))))))
 refine ⟨_, ⟨?_, rfl⟩, inferInstance⟩
 refine congrArg Value.bool ?_
 rw [Bool.eq_iff_iff, j7, decide_eq_true_iff]
 first
   | (rw [decide_eq_true_iff]; constructor <;> (intro q; omega))
   | (constructor
      · intro q; first | omega | (cases q)
      intro q; omega)
theorem yz (n : Nat) : (List.replicate n ((-1 : Int), false)).flatMap dC ++ [[Value.int .i64 (-1), .bool false]].flatten = (List.replicate (n + 1) ((-1 : Int), false)).flatMap dC := by
 rw [List.replicate_succ', List.flatMap_append]; rfl
theorem tC {R : List HP} : ∀ n : Nat, Ent R (kH 2 (bG (((List.replicate n eG).zip (List.replicate n ([] : List Nat))).map dp)) :: R)
 | 0 => g8 (A := [])
 | n + 1 => by
  have ih := tC (R := R) n
  refine ih.trans ?_
  refine (ip (A := ((List.replicate n eG).zip (List.replicate n ([] : List Nat))).map dp) (R := R)).trans ?_
  refine (fb (E := 3) (sz := 1) (B := ((List.replicate n eG).zip (List.replicate n ([] : List Nat))).map dp ++ R)).trans ?_
  exact g8 (A := dp (eG, []) :: ((List.replicate n eG).zip (List.replicate n ([] : List Nat))).map dp) (R := R)
theorem yA (W0 : World) (R : List HP) (ps : Nat) (fr : List bW) (h0 : 0 < fr.length) (h32 : fr.length ≤ 32) :
    aC Tryz.prog W0 121 [.pointer (some ⟨ps, 0, none⟩)] (cy ps fr :: R)
      (fun v B => ∃ pb, v = .tuple #[.pointer (some ⟨pb, 0, none⟩), .int .i64 0] ∧ B = d6 pb (ps, List.replicate fr.length (-1, false)) :: cy ps fr :: R) := by
 refine aF func121 ntmps121 rfl rfl ?_
 refine ae (ah (aa rfl (ai rfl) (aa rfl (ai rfl) (ag (ab (ae (ae (ah (aa rfl (ac rfl) (am rfl (bz mu rfl (kO W0 _ ps fr)) ?_))))))))))
 rintro _ B_ ⟨rfl, hB_⟩
 obtain rfl := hB_.symm
 refine aa rfl (cz rfl rfl) (ag (ab ?_))
 refine ax rfl ?_ ?_
 intro c1
 omega
 intro c1
 refine aB (ab (ae (ah (aa rfl (ac rfl) (aa rfl (bQ gK zeroValue420 (aE ic (aE iR (aE oA bP))) (bn rfl ic rfl rfl (Nat.le_of_ble_eq_true rfl) SetL.eq bO)) ?_)))))
 refine am rfl (bL rfl) ?_
 rintro _ _ ⟨pb, rfl, rfl⟩
 refine aa rfl (ai rfl) (ag (ab (ae (ae (ah (aa rfl (ac rfl) (am rfl (bz mu rfl (kO W0 _ ps fr)) ?_)))))))
 rintro _ B_ ⟨rfl, hB_⟩
 obtain rfl := hB_.symm
 refine aa rfl (ac rfl) (ag (ab (b0 ?_)))
 refine cC (fun X : Nat × Option Addr × Nat => X.1 ≤ fr.length) (fun X => [(4, .pointer (some ⟨pb, 0, none⟩)), (12, .int .i64 (fr.length : Nat)), (13, .int .i64 X.1)]) (fun X => pt pb (aw (eb ps (.slice X.2.1 X.1 X.2.2) (List.replicate 16 eG)) 420) :: osl 422 2 (.slice X.2.1 X.1 X.2.2) ((List.replicate X.1 ((-1 : Int), false)).flatMap dC) :: cy ps fr :: R) (fun X => fr.length - X.1) (0, none, 0) ?_ ?_ ?_ ?_
 exact Nat.zero_le _
 · repeat (first | exact aX | refine aU rfl ?_)
 exact (Ent.ofPerm (List.Perm.swap _ _ _)).trans (Ent.cons (fb (E := 422) (sz := 2)))
 intro ⟨i, a2, c2⟩ hi
 dsimp only at hi ⊢
 refine ae (ah (aa rfl (aY rfl rfl) (ag (ab (ae ?_)))))
 refine ax rfl ?_ ?_
 intro c5
 refine aB (ab (ae (b0 (ah (aa rfl (ac rfl) (aa rfl (ac rfl) (aa rfl (aH rfl) ?_)))))))
 refine aa rfl (ao rfl gK rfl iR rfl (by first | exact Nat.zero_add _ | rfl)) ?_
 refine aa rfl (ap kj rfl (aA rfl)) ?_
 refine aa rfl (bQ mw Cz (aE az (aE cB bP)) (bn rfl az rfl rfl (Nat.le_of_ble_eq_true rfl) SetL.eq bO)) ?_
 refine am rfl (fN jz my Cz rfl (eM rfl rfl fM) rfl (by decide) (by decide) (by decide)) ?_
 rintro _ _ ⟨b2, rfl, rfl⟩
 refine am rfl (dL (sz := 2) (by_ := 16) (info := Tryz.t422) jz (by kernel_rfl) rfl rfl rfl rfl (by decide) rfl rfl dM rfl rfl (by simp only [maxLen]; omega) (by omega)) ?_
 rintro _ _ ⟨a3, c3, rfl, rfl⟩
 refine aa rfl (aH rfl) ?_
 refine aa rfl (ao rfl gK rfl iR rfl (by first | exact Nat.zero_add _ | rfl)) ?_
 refine bE (ce iR rfl rfl rfl (Nat.le_of_ble_eq_true rfl) SetL.eq) ?_
 rintro _ _ rfl
 refine ag (bF (ab (ah ?_)))
 refine aa rfl (bC rfl rfl (by first | exact aW (by omega) | rfl)) ?_
 refine aa rfl (ac rfl) (ag (ab ?_))
 refine cp (i + 1, a3, c3) ?_ ?_ ?_ ?_
 show i + 1 ≤ fr.length; omega
 show fr.length - (i + 1) < fr.length - i; omega
 · repeat (first | exact aX | refine aU rfl ?_)
 dsimp only
 rw [← yz]
 exact inferInstance
 intro c5
 refine bX (bi (bi (bZ (ab (ae (ah (aa rfl (ac rfl) (aa rfl (ai rfl) (aa rfl (ai rfl) (ag (ab (av (au (.inl rfl) (.cons (ak rfl) (.cons (ak rfl) .nil)) ?_)))))))))))))
 obtain rfl : i = fr.length := by omega
 refine ⟨_, ⟨pb, rfl, rfl⟩, ?_⟩
 exact (Ent.cons (Ent.cons (tC (R := cy ps fr :: R) 16))).trans (kR (a := a2) (c := c2) rfl (by simp) (LsOk.new _) (by simp) rfl)
theorem yB (W0 : World) (R : List HP) (pb ps : Nat) (po : Po) (fr : List bW) (f w : Nat) (t : Bool) (hf : f < po.length) (hff : f < fr.length) (hw : w < 16) (hP : PoOk po) (ha : cW po f = ((w : Int), t))
    (a : Option Addr) (c : Nat) (vs : List Value) (Ls : List (List Nat)) (hv : vs.length = 16) (hL : LsOk (po.set f (-1, false)) Ls) :
    aC Tryz.prog W0 260 [.pointer (some ⟨pb, 0, none⟩), .int .i64 f] (pt pb (aw (eb ps (.slice a po.length c) vs) 420) :: osl 422 2 (.slice a po.length c) (po.flatMap dC) :: kH 2 (bG ((vs.zip Ls).map dp)) :: cy ps fr :: R)
      (fun v B => v = .int .i64 0 ∧ B = d6 pb (ps, po.set f ((w : Int), false)) :: cy ps (fr.set f bT) :: R) := by
 have hrow := hL.row w hw
 have hP1 : PoOk (po.set f (-1, false)) := ⟨by rw [List.length_set]; exact hP.len, fun g hg => by
  rw [List.length_set] at hg
  rw [j6 hf]
  split
  exact ⟨by decide, by decide, fun _ => rfl⟩
  exact hP.who g hg⟩
 have hrl := hL.rlen hP1 hw
 have hown := xN (po := po.set f (-1, false)) (f := f) (w := w) (by rw [List.length_set]; exact hf) (by rw [j6 hf, if_pos rfl]; intro e; have := (Prod.mk.inj e).1; omega)
 rw [List.set_set] at hown
 have hoth : ∀ u, u < 16 → u ≠ w → bJ (po.set f ((w : Int), false)) u = bJ (po.set f (-1, false)) u := fun u hu hne => by
  have := pC (po := po.set f (-1, false)) (f := f) (x := ((w : Int), false)) (w := u) (by rw [List.length_set]; exact hf) (by rw [j6 hf, if_pos rfl]; intro e; have := (Prod.mk.inj e).1; omega) (by intro e; have := (Prod.mk.inj e).1; omega)
  rw [List.set_set] at this
  exact this
 have hset : (po.set f ((cW po f).1, false)) = po.set f ((w : Int), false) := by rw [ha]
 refine aF func260 ntmps260 rfl rfl ?_
 refine ae (ah (aa rfl (ai rfl) (ag (ab (ae ?_)))))
 refine dP (r := osl 422 2) (b := .slice a po.length c) (ge (fun h1 h2 => by have := congrArg List.length h2; rw [hZ] at this; simp at this; omega) fun g n cap sp h1 h2 h3 h4 h5 => ?_)
 cases h1
 refine ah (aa rfl (ac rfl) (aa rfl (aH rfl) ?_))
 refine aa rfl (ao rfl gK rfl iR rfl (by first | exact Nat.zero_add _ | rfl)) ?_
 refine aa rfl (ap kj rfl (aA rfl)) ?_
 refine aa rfl (ac rfl) ?_
 refine aa rfl (bY jz my rfl rfl rfl hf (by first | exact Nat.zero_add _ | rfl)) ?_
 refine aa rfl (ao rfl mw rfl cB rfl (by first | exact Nat.zero_add _ | rfl)) ?_
 refine bE (ce cB rfl rfl rfl (by rw [List.length_append, hZ]; omega) (tx po sp f false hf)) ?_
 rintro _ _ rfl
 refine ag (ab (ae ?_))
 rw [hset]
 refine fJ (B := pt g (aw ((po.set f ((w : Int), false)).flatMap dC ++ sp) 422) :: eQ w pb (Ls.getD w [], eb ps (.slice (some ⟨g, 0, none⟩) po.length c) vs) :: kH 3 (bG (((vs.zip Ls).map dp).eraseIdx w)) :: cy ps fr :: R) ?_ ?_
 refine Ent.cons ?_
 exact pX hw hv hL.len
 have hg0 : ((po.set f ((w : Int), false)).flatMap dC ++ sp)[f * 2 + 0]? = some (.int .i64 ((w : Nat) : Int)) := by
  rw [tw _ _ _ _ (by rw [List.length_set]; exact hf) (by decide), j6 hf, if_pos rfl]; rfl
 have hgl : ((po.set f ((w : Int), false)).flatMap dC ++ sp).length = c * 2 := by
  rw [List.length_append, hZ, List.length_set] at *; omega
 refine cY [(pb, 1, [.slice (some ⟨g, 0, none⟩) po.length c]), (g, 0, _)] 16 cV rfl (df (tc (T := 420) (E := 3) (sz := 1) (f := fc) (o := 2 + w * 1) (by omega) rfl) (aV aK)) (fun hS => ?_)
 refine aj 0 rfl rfl (by kernel_rfl) (by kernel_rfl) (by kernel_rfl) rfl hS (ac rfl) ?_
 refine aj 1 rfl rfl (by kernel_rfl) (by kernel_rfl) (by kernel_rfl) rfl hS (ac rfl) ?_
 refine aj 2 rfl rfl (by kernel_rfl) (by kernel_rfl) (by kernel_rfl) rfl hS (aH rfl) ?_
 refine aj 3 rfl rfl (by kernel_rfl) (by kernel_rfl) (by kernel_rfl) rfl hS (ao rfl gK rfl iR rfl (by first | exact Nat.zero_add _ | rfl)) ?_
 refine aj 4 rfl rfl (by kernel_rfl) (by kernel_rfl) (by kernel_rfl) rfl hS (ap kj rfl (eW (k := 0) (j := 0) rfl rfl)) ?_
 refine aj 5 rfl rfl (by kernel_rfl) (by kernel_rfl) (by kernel_rfl) rfl hS (ac rfl) ?_
 refine aj 6 rfl rfl (by kernel_rfl) (by kernel_rfl) (by kernel_rfl) rfl hS (bY jz my rfl rfl rfl hf (by first | exact Nat.zero_add _ | rfl)) ?_
 refine aj 7 rfl rfl (by kernel_rfl) (by kernel_rfl) (by kernel_rfl) rfl hS (ao rfl mw rfl az rfl (by first | exact Nat.zero_add _ | rfl)) ?_
 refine aj 8 rfl rfl (by kernel_rfl) (by kernel_rfl) (by kernel_rfl) rfl hS (ap aM rfl (aG (k := 1) rfl hg0)) ?_
 refine aj 9 rfl rfl (by kernel_rfl) (by kernel_rfl) (by kernel_rfl) rfl hS (aH rfl) ?_
 refine aj 10 rfl rfl (by kernel_rfl) (by kernel_rfl) (by kernel_rfl) rfl hS (ao rfl gK rfl oA rfl (by first | exact Nat.zero_add _ | rfl)) ?_
 refine aj 11 rfl rfl (by kernel_rfl) (by kernel_rfl) (by kernel_rfl) rfl hS (fk rA rB rfl rfl rfl hw (by first | exact Nat.zero_add _ | rfl)) ?_
 refine aj 12 rfl rfl (by kernel_rfl) (by kernel_rfl) (by kernel_rfl) rfl hS (lQ CB (fun _ h => by cases h) rfl) ?_
 refine aj 13 rfl rfl (by kernel_rfl) (by kernel_rfl) (by kernel_rfl) rfl hS (ac rfl) ?_
 refine aj 14 rfl rfl (by kernel_rfl) (by kernel_rfl) (by kernel_rfl) rfl hS (lQ jx (fun _ h => by cases h) rfl) ?_
 refine bB 15 (by kernel_rfl) rfl rfl (bz call176 rfl (yt W0 _ pb w (Ls.getD w []) f (eb ps (.slice (some ⟨g, 0, none⟩) po.length c) vs) (by omega) hrow.2)) rfl ?_; clear hS
 rintro _ _ ⟨rfl, l', rfl, hp, hh⟩
 refine ⟨(df (tc (T := 420) (E := 3) (sz := 1) (f := fc) (o := 2 + w * 1) (by omega) rfl) (aV aK)), fun hS => ?_⟩
 refine cg (by kernel_rfl) ?_; clear hS
 refine ab (ae ?_)
 refine fJ (B := d6 pb (ps, po.set f ((w : Int), false)) :: cy ps fr :: R) ?_ ?_
 have e := eP (E := 422) (sz := 2) (g := g) (n := po.length) (cap := c) (xs := (po.set f ((w : Int), false)).flatMap dC) (sp := sp) (A := pt g (aw ((po.set f ((w : Int), false)).flatMap dC ++ sp) 422) :: kH 3 (bG (((vs.zip Ls).map dp).eraseIdx w)) :: cy ps fr :: R) (B := kH 3 (bG (((vs.zip Ls).map dp).eraseIdx w)) :: cy ps fr :: R) h2 h3 (by rw [hZ, List.length_set]) hgl
 refine (Ent.cons e).trans ?_
 exact pY hw hv rfl (by simp) hL.len (hL.set hw (hp.trans ((hrow.1.append_right [f]).trans hown)) hh hoth)
 refine ny (pb := pb) fun a2 c2 vs2 Ls2 hv2 hL2 => ?_
 refine ah (aa rfl (ac rfl) (aa rfl (aH rfl) ?_))
 refine aa rfl (ao rfl gK rfl ic rfl (by first | exact Nat.zero_add _ | rfl)) ?_
 refine aa rfl (ap kl rfl (aA rfl)) ?_
 refine aa rfl (ac rfl) (am rfl (bz call339 rfl (yy W0 _ ps fr f hff)) ?_)
 rintro _ B_ ⟨rfl, hB_⟩
 obtain rfl := hB_.symm
 refine aa rfl (ai rfl) (ag (ab (av (au (.inl rfl) (.cons (ak rfl) .nil) ?_))))
 exact ⟨_, ⟨rfl, rfl⟩, kR rfl hv2 hL2 (by simp) rfl⟩
theorem yC (W0 : World) (R : List HP) (pb ps : Nat) (po : Po) (fr : List bW) (f w : Nat) (hf : f < po.length) (hff : f < fr.length) (hw : w < 16) (hP : PoOk po) (ha : cW po f = (-1, false)) :
    aC Tryz.prog W0 123 [.pointer (some ⟨pb, 0, none⟩), .int .i64 f, .int .i64 w] (d6 pb (ps, po) :: cy ps fr :: R)
      (fun v B => v = .int .i64 0 ∧ B = d6 pb (ps, po.set f ((w : Int), false)) :: cy ps (fr.set f bT) :: R) := by
 have hi : dH po.length f = true := by simp only [dH, decide_eq_true_eq]; omega
 have hw' : j7 w = true := by simp only [j7, decide_eq_true_eq]; omega
 have h0 : po.set f (-1, false) = po := by
  have : cW po f = po[f] := by simp [cW, List.getD, hf]
  rw [← ha, this]; exact List.set_getElem_self _
 refine aF func123 ntmps123 rfl rfl ?_
 refine ae (ah (aa rfl (ai rfl) (ag (ab (ae (b0 (ae (ah (aa rfl (ac rfl) ?_)))))))))
 refine am rfl (bz rC rfl (nE W0 _ pb ps po (by omega))) ?_
 rintro _ B_ ⟨rfl, hB_⟩
 obtain rfl := hB_.symm
 refine aa rfl (ai rfl) (ag (ab ?_))
 refine ax rfl ?_ ?_
 intro c1
 exact absurd c1 (by decide)
 intro c1
 refine ae (ae (ah (aa rfl (ac rfl) (aa rfl (ac rfl) (am rfl (bz call258 rfl (tB W0 _ pb ps po f)) ?_)))))
 rintro _ B_ ⟨rfl, hB_⟩
 obtain rfl := hB_.symm
 refine aa rfl (bN rfl) (aa rfl (ai rfl) (ag (ab ?_)))
 refine ax rfl ?_ ?_
 intro c3
 exact absurd c3 (by simp [hi])
 intro c3
 refine ah (aa rfl (ac rfl) (am rfl (aS vD rfl (qc W0 _ w)) ?_))
 rintro _ B_ ⟨rfl, hB_⟩
 obtain rfl := hB_.symm
 refine aa rfl (bN rfl) (aa rfl (ai rfl) (ag (ab ?_)))
 refine ax rfl ?_ ?_
 intro c4
 exact absurd c4 (by simp [hw'])
 intro c4
 refine ae ?_
 refine ny (pb := pb) fun a c vs Ls hv hL => ?_
 refine dP (r := osl 422 2) (b := .slice a po.length c) (ge (fun h1 h2 => by have := congrArg List.length h2; rw [hZ] at this; simp at this; omega) fun g n cap sp h1 h2 h3 h4 h5 => ?_)
 cases h1
 refine ah (aa rfl (ac rfl) (aa rfl (aH rfl) ?_))
 refine aa rfl (ao rfl gK rfl iR rfl (by first | exact Nat.zero_add _ | rfl)) ?_
 refine aa rfl (ap kj rfl (aA rfl)) ?_
 refine aa rfl (ac rfl) ?_
 refine aa rfl (bY jz my rfl rfl rfl hf (by first | exact Nat.zero_add _ | rfl)) ?_
 refine aa rfl (ao rfl mw rfl az rfl (by first | exact Nat.zero_add _ | rfl)) ?_
 refine aa rfl (ap aM rfl (aA ((tw po sp f 0 hf (by decide)).trans (by rw [ha]; rfl)))) ?_
 refine aa rfl (co rfl rfl) (aa rfl (ai rfl) (ag (ab ?_)))
 refine ax rfl ?_ ?_
 intro c6
 exact absurd c6 (by decide)
 intro c6
 refine aB (bF (ab (ae (ah (aa rfl (ac rfl) (aa rfl (aH rfl) ?_))))))
 refine aa rfl (ao rfl gK rfl iR rfl (by first | exact Nat.zero_add _ | rfl)) ?_
 refine aa rfl (ap kj rfl (aA rfl)) ?_
 refine aa rfl (ac rfl) (aa rfl (ac rfl) ?_)
 refine aa rfl (bY jz my rfl rfl rfl hf (by first | exact Nat.zero_add _ | rfl)) ?_
 refine aa rfl (ao rfl mw rfl az rfl (by first | exact Nat.zero_add _ | rfl)) ?_
 refine bE (ce az rfl rfl rfl (by rw [List.length_append, hZ]; omega) (yi po sp f (w : Int) hf)) ?_
 rintro _ _ rfl
 refine ag (ab (ae ?_))
 rw [ha]
 refine fJ (B := pt pb (aw (eb ps (.slice (some ⟨g, 0, none⟩) (po.set f ((w : Int), false)).length c) vs) 420) :: osl 422 2 (.slice (some ⟨g, 0, none⟩) (po.set f ((w : Int), false)).length c) ((po.set f ((w : Int), false)).flatMap dC) :: kH 2 (bG ((vs.zip Ls).map dp)) :: cy ps fr :: R) ?_ ?_
 rw [List.length_set]
 have e := eP (E := 422) (sz := 2) (g := g) (n := po.length) (cap := c) (xs := (po.set f ((w : Int), false)).flatMap dC) (sp := sp) (A := pt g (aw ((po.set f ((w : Int), false)).flatMap dC ++ sp) 422) :: kH 2 (bG ((vs.zip Ls).map dp)) :: cy ps fr :: R) (B := kH 2 (bG ((vs.zip Ls).map dp)) :: cy ps fr :: R) h2 h3 (by rw [hZ, List.length_set]) (by rw [List.length_append, hZ] at h5 ⊢; rw [List.length_set]; exact h5)
 exact (inferInstance : Ent _ (pt pb (aw (eb ps (.slice (some ⟨g, 0, none⟩) po.length c) vs) 420) :: pt g (aw ((po.set f ((w : Int), false)).flatMap dC ++ sp) 422) :: kH 2 (bG ((vs.zip Ls).map dp)) :: cy ps fr :: R)).trans (Ent.cons e)
 refine ah (aa rfl (ac rfl) (aa rfl (ac rfl) ?_))
 refine am rfl (xU call260 rfl (yB W0 _ pb ps (po.set f ((w : Int), false)) fr f w false (by rw [List.length_set]; exact hf) hff hw (hP.set hf (by simp) (by simp; omega)) (by rw [j6 hf, if_pos rfl]) (some ⟨g, 0, none⟩) c vs Ls hv (by rw [List.set_set, h0]; exact hL))) ?_
 rintro _ B_ ⟨rfl, hB_⟩
 obtain rfl := hB_.symm
 refine aa rfl (ai rfl) (ag (ab (av (au (.inl rfl) (.cons (ak rfl) .nil) ?_))))
 rw [List.set_set]
 exact ⟨_, ⟨rfl, rfl⟩, inferInstance⟩
theorem yD (W0 : World) (R : List HP) (pb ps : Nat) (po : Po) (w : Nat) (h0 : 0 < po.length) (hw : w < 16) :
    aC Tryz.prog W0 298 [.pointer (some ⟨pb, 0, none⟩), .int .i64 w] (d6 pb (ps, po) :: R) (fun v B => v = .int .i64 ((bJ po w).length : Nat) ∧ B = d6 pb (ps, po) :: R) := by
 have hw' : j7 w = true := by simp only [j7, decide_eq_true_eq]; omega
 refine aF func298 ntmps298 rfl rfl ?_
 refine ae (ah (aa rfl (ai rfl) (ag (ab (ae (ae (ah (aa rfl (ac rfl) (am rfl (bz rC rfl (nE W0 _ pb ps po h0)) ?_)))))))))
 rintro _ B_ ⟨rfl, hB_⟩
 obtain rfl := hB_.symm
 refine aa rfl (ac rfl) ?_
 refine bA rfl rfl rfl ?_ ?_
 intro g1_3
 exact absurd g1_3 (by decide)
 intro g1_3
 refine aa rfl (ac rfl) (ar rfl rfl (am rfl (aS vD rfl (qc W0 _ w)) ?_))
 rintro _ B_ ⟨rfl, hB_⟩
 obtain rfl := hB_.symm
 refine ar rfl rfl (aa rfl (bN rfl) (aa rfl (aJ rfl rfl) (ag (ab ?_))))
 refine ax rfl ?_ ?_
 intro c1
 exact absurd c1 (by simp [hw'])
 intro c1
 refine aB (ab (ae ?_))
 refine ny (pb := pb) fun a c vs Ls hv hL => ?_
 have hrow := hL.row w hw
 refine fJ (B := eQ w pb (Ls.getD w [], eb ps (.slice a po.length c) vs) :: kH 3 (bG (((vs.zip Ls).map dp).eraseIdx w)) :: osl 422 2 (.slice a po.length c) (po.flatMap dC) :: R) ?_ ?_
 exact (Ent.cons (Ent.ofPerm (List.Perm.swap _ _ _))).trans (pX hw hv hL.len)
 refine ah (aa rfl (ac rfl) (aa rfl (ac rfl) (aa rfl (aH rfl) ?_)))
 refine aa rfl (ao rfl gK rfl oA rfl (by first | exact Nat.zero_add _ | rfl)) ?_
 refine aa rfl (fk rA rB rfl rfl rfl hw (by first | exact Nat.zero_add _ | rfl)) ?_
 refine am rfl (bz vA rfl (pZ W0 _ pb w (Ls.getD w []) (eb ps (.slice a po.length c) vs))) ?_
 rintro _ B_ ⟨rfl, hB_⟩
 obtain rfl := hB_.symm
 refine aa rfl (ai rfl) (ag (ab (av (au (.inl rfl) (.cons (ak rfl) .nil) ?_))))
 rw [hrow.1.length_eq]
 have hLs : Ls.set w (Ls.getD w []) = Ls := by
  rw [show Ls.getD w [] = Ls[w]'(by rw [hL.len]; exact hw) by simp [List.getD, hL.len, hw]]; exact List.set_getElem_self _
 refine ⟨_, ⟨rfl, rfl⟩, ?_⟩
 exact (Ent.cons (Ent.ofPerm (List.Perm.swap _ _ _))).trans (pY hw hv rfl rfl hL.len (by rw [hLs]; exact hL))
theorem yE (W0 : World) (R : List HP) (pb ps : Nat) (po : Po) (w f : Nat) (l : List Nat) (hw : w < 16) (hP : PoOk po) (he : bJ po w = f :: l) :
    aC Tryz.prog W0 202 [.pointer (some ⟨pb, 0, none⟩), .int .i64 w] (d6 pb (ps, po) :: R)
      (fun v B => v = .tuple #[.int .i64 f, .int .i64 0] ∧ B = d6 pb (ps, po.set f ((w : Int), true)) :: R) := by
 have hw' : j7 w = true := by simp only [j7, decide_eq_true_eq]; omega
 have hf := gD.1 (show f ∈ bJ po w by rw [he]; simp)
 refine aF func202 ntmps202 rfl rfl ?_
 refine ae (ah (aa rfl (ai rfl) (aa rfl (ai rfl) (ag (ab (ae (b0 (ae (ah (aa rfl (ac rfl) ?_))))))))))
 refine am rfl (bz rC rfl (nE W0 _ pb ps po (by omega))) ?_
 rintro _ B_ ⟨rfl, hB_⟩
 obtain rfl := hB_.symm
 refine aa rfl (ai rfl) (ag (ab ?_))
 refine ax rfl ?_ ?_
 intro c1
 exact absurd c1 (by decide)
 intro c1
 refine ae (ah (aa rfl (ac rfl) (am rfl (aS vD rfl (qc W0 _ w)) ?_)))
 rintro _ B_ ⟨rfl, hB_⟩
 obtain rfl := hB_.symm
 refine aa rfl (bN rfl) (aa rfl (ai rfl) (ag (ab ?_)))
 refine ax rfl ?_ ?_
 intro c3
 exact absurd c3 (by simp [hw'])
 intro c3
 refine ae ?_
 refine ny (pb := pb) fun a c vs Ls hv hL => ?_
 have hrow := hL.row w hw
 have hrl := hL.rlen hP hw
 refine fJ (B := eQ w pb (Ls.getD w [], eb ps (.slice a po.length c) vs) :: kH 3 (bG (((vs.zip Ls).map dp).eraseIdx w)) :: osl 422 2 (.slice a po.length c) (po.flatMap dC) :: R) ?_ ?_
 exact (Ent.cons (Ent.ofPerm (List.Perm.swap _ _ _))).trans (pX hw hv hL.len)
 refine ah (aa rfl (ac rfl) (aa rfl (ac rfl) (aa rfl (aH rfl) ?_)))
 refine aa rfl (ao rfl gK rfl oA rfl (by first | exact Nat.zero_add _ | rfl)) ?_
 refine aa rfl (fk rA rB rfl rfl rfl hw (by first | exact Nat.zero_add _ | rfl)) ?_
 refine am rfl (bz vA rfl (pZ W0 _ pb w (Ls.getD w []) (eb ps (.slice a po.length c) vs))) ?_
 rintro _ B_ ⟨rfl, hB_⟩
 obtain rfl := hB_.symm
 refine aa rfl (cz rfl rfl) (aa rfl (ai rfl) (ag (ab ?_)))
 refine ax rfl ?_ ?_
 intro c5
 exact absurd c5 (by rw [hrow.1.length_eq, he, List.length_cons]; omega)
 intro c5
 refine aB (bF (ab (ae (ah (aa rfl (ac rfl) (aa rfl (ac rfl) (aa rfl (aH rfl) ?_)))))))
 refine aa rfl (ao rfl gK rfl oA rfl (by first | exact Nat.zero_add _ | rfl)) ?_
 refine aa rfl (fk rA rB rfl rfl rfl hw (by first | exact Nat.zero_add _ | rfl)) ?_
 refine aa rfl (lQ CB (fun _ h => by cases h) rfl) ?_
 refine am rfl (bz call300 rfl (yu W0 _ pb w (Ls.getD w []) (eb ps (.slice a po.length c) vs) (by omega) (fun e => by rw [e] at hrow; have := hrow.1.length_eq; rw [he] at this; simp at this) hrow.2)) ?_
 rintro _ _ ⟨x, l', rfl, rfl, hp, hh, hm⟩
 have hpp := hp.trans hrow.1
 have hmm : ∀ y ∈ bJ po w, x ≤ y := fun y hy => by have := hm y (hrow.1.mem_iff.2 hy); omega
 have hx := pD hpp hmm
 have hr := xO hpp hmm
 rw [he] at hx
 obtain ⟨rfl, _⟩ := List.cons.inj hx
 have hk : LsOk (po.set f ((w : Int), true)) (Ls.set w l') := hL.set hw hr hh fun u hu hne => pC hf.1 (by rw [hf.2]; intro e; have := (Prod.mk.inj e).1; omega) (by intro e; have := (Prod.mk.inj e).2; cases this)
 refine aa rfl (p5 jx (fun _ h => by cases h) rfl) ?_
 refine aa rfl (ai rfl) (ag (ab (ae ?_)))
 refine dP (r := osl 422 2) (b := .slice a po.length c) (ge (fun h1 h2 => by have := congrArg List.length h2; rw [hZ] at this; simp at this; omega) fun g n cap sp h1 h2 h3 h4 h5 => ?_)
 cases h1
 refine ah (aa rfl (ac rfl) (aa rfl (aH rfl) ?_))
 refine aa rfl (ao rfl gK rfl iR rfl (by first | exact Nat.zero_add _ | rfl)) ?_
 refine aa rfl (ap kj rfl (t9 (T := 420) (E := 3) (sz := 1) (f := fc) (o := 2 + w * 1) (by omega) rfl)) ?_
 refine aa rfl (ac rfl) ?_
 refine aa rfl (bY jz my rfl rfl rfl hf.1 (by first | exact Nat.zero_add _ | rfl)) ?_
 refine aa rfl (ao rfl mw rfl cB rfl (by first | exact Nat.zero_add _ | rfl)) ?_
 refine bE (ce cB rfl rfl rfl (by rw [List.length_append, hZ]; omega) (tx po sp f true hf.1)) ?_
 rintro _ _ rfl
 refine ag (ab (ae (ah (aa rfl (ac rfl) (aa rfl (ai rfl) (aa rfl (ai rfl) (ag (ab (av (au (.inl rfl) (.cons (ak rfl) (.cons (ak rfl) .nil)) ?_))))))))))
 rw [hf.2]
 refine ⟨_, ⟨rfl, rfl⟩, ?_⟩
 have e := eP (E := 422) (sz := 2) (g := g) (n := po.length) (cap := c) (xs := (po.set f ((w : Int), true)).flatMap dC) (sp := sp) (A := pt g (aw ((po.set f ((w : Int), true)).flatMap dC ++ sp) 422) :: kH 3 (bG (((vs.zip Ls).map dp).eraseIdx w)) :: R) (B := kH 3 (bG (((vs.zip Ls).map dp).eraseIdx w)) :: R) h2 h3 (by rw [hZ, List.length_set]) (by rw [List.length_append, hZ] at h5 ⊢; rw [List.length_set]; exact h5)
 exact (inferInstance : Ent _ (eQ w pb (l', eb ps (.slice (some ⟨g, 0, none⟩) po.length c) vs) :: pt g (aw ((po.set f ((w : Int), true)).flatMap dC ++ sp) 422) :: kH 3 (bG (((vs.zip Ls).map dp).eraseIdx w)) :: R)).trans ((Ent.cons e).trans (pY hw hv rfl (by simp) hL.len hk))
def wV (w : Nat) : Value := .int .u32 (w : Int)
def nF (l : List Nat) (i : Nat) : Nat := pi ((l.drop (4 * i)).take 4)
structure Dsc where
  addr : Nat
  len : Nat
  flags : Nat
  next : Nat
structure Dsc.ok (d : Dsc) : Prop where
  addr : d.addr < 4294967296
  len : d.len < 4294967296
  flags : d.flags < 4294967296
  next : d.next < 4294967296
def yF (l : List Nat) : Dsc := ⟨nF l 0, nF l 1, nF l 2, nF l 3⟩
def zD : Dsc := ⟨0, 0, 0, 0⟩
def tD (d : Dsc) (n : Nat) : Int := if 4 ≤ d.flags then 3 else if 64 < d.len then 4 else if d.flags % 2 = 1 ∧ n ≤ d.next then 1 else 0
structure Rg3 where
  desc : Nat
  avail : Nat
  used : Nat
  n : Int
structure Rg3.ok (r : Rg3) : Prop where
  desc : r.desc < 4294967296
  avail : r.avail < 4294967296
  used : r.used < 4294967296
def dZ (x : Int × Int × Int) : List Value := [.int .i64 x.1, .int .i64 x.2.1, .int .i64 x.2.2]
structure WF (W0 : World) (fn : FuncId) (cs : List Value) (n : Nat) (C : Nat → HP) (w : Nat → Bool) : Prop where
  call : ∀ args u, (callFunc fn args).run Tryz.prog u = .ok (.enter fn args) u
  spec : ∀ i, i < n → ∀ R, aC Tryz.prog W0 fn ([] ++ [.int .i64 (i : Int)] ++ cs) (kH 0 (C i) :: R) (fun v B => v = .bool (w i) ∧ B = kH 0 (C (i + 1)) :: R)
def gk (w : Nat → Bool) (n : Nat) : Bool := (List.range n).any w
theorem kT {w : Nat → Bool} {n i : Nat} (hi : i < n) (h : w i = true) : gk w n = true := List.any_eq_true.2 ⟨i, List.mem_range.2 hi, h⟩
theorem m8 {w : Nat → Bool} {n : Nat} (h : ∀ i, i < n → w i = false) : gk w n = false := by
 rw [← Bool.not_eq_true]; intro q
 obtain ⟨i, hi, hw⟩ := List.any_eq_true.1 q
 rw [h i (List.mem_range.1 hi)] at hw; cases hw
def iN (w : Nat → Bool) (n : Nat) : Option Nat := (List.range n).find? w
theorem yG (w : Nat → Bool) (n : Nat) : (iN w n).isSome = gk w n := by
 rw [Bool.eq_iff_iff, iN, List.find?_isSome, gk, List.any_eq_true]
theorem tE {w : Nat → Bool} {n i : Nat} (hi : i < n) (h : w i = true) (hj : ∀ j, j < i → w j = false) : iN w n = some i := by
 rw [iN, List.find?_eq_some_iff_getElem]
 exact ⟨h, i, by simpa using hi, by simp, fun j h2 => by simp [hj j h2]⟩
theorem tF {w : Nat → Bool} {n : Nat} (h : ∀ i, i < n → w i = false) : iN w n = none := by
 rw [iN, List.find?_eq_none]
 intro i hi; rw [h i (List.mem_range.1 hi)]; decide
theorem yH (W0 : World) (R : List HP) (fn : FuncId) (cs : List Value) (n : Nat) (C : Nat → HP) (w : Nat → Bool) (hw : WF W0 fn cs n C w) (hn : n ≤ 1000) :
    aC Tryz.prog W0 127 [.int .i64 (n : Int), .func (.func fn) #[] cs.toArray] (kH 0 (C 0) :: R) (fun v B => v = .tuple #[.int .i64 (((iN w n).getD 0 : Nat) : Int), .bool (iN w n).isSome] ∧ B = R) := by
 refine aF func127 ntmps127 rfl rfl ?_
 refine ae (ah (aa rfl (ai rfl) (aa rfl (ai rfl) (ag (ab (ae (ae (ah (aa rfl (ac rfl) (aa rfl (ac rfl) (ag (ab (b0 ?_)))))))))))))
 refine cC (fun i : Nat => i ≤ n ∧ ∀ j, j < i → w j = false) (fun i => [(1, .func (.func fn) #[] cs.toArray), (7, .int .i64 (n : Int)), (8, .int .i64 (i : Int))]) (fun i => kH 0 (C i) :: R) (fun i => n - i) 0 ?_ ?_ ?_ ?_
 exact ⟨Nat.zero_le _, fun j hj => absurd hj (Nat.not_lt_zero _)⟩
 · repeat (first | exact aX | refine aU rfl ?_)
 exact inferInstance
 intro i ⟨hi, hj⟩
 refine ae (ah (aa rfl (aY rfl rfl) (ag (ab (ae ?_)))))
 refine ax rfl ?_ ?_
 intro c2
 refine aB (ab (ae (b0 (ae (ah (aa rfl (ac rfl) (aa rfl (ai rfl) (ag (ab (ae ?_))))))))))
 have hi1 : i < n := by omega
 refine ah (aa rfl (ac rfl) (aa rfl (ac rfl) (am rfl (p7 (us := []) (cs := cs) rfl hw.call rfl (hw.spec i hi1 _)) ?_)))
 rintro _ B_ ⟨rfl, hB_⟩
 obtain rfl := hB_.symm
 refine ag (ab ?_)
 refine ax rfl ?_ ?_
 intro c4
 refine ae (ah (aa rfl (ac rfl) (aa rfl (ai rfl) (aa rfl (ai rfl) (ag (ab (av (bj (aD (aD (bj (aD (au (.inl rfl) (.cons (ak rfl) (.cons (ak rfl) .nil)) ?_)))))))))))))
 rw [tE hi1 c4 hj]
 exact ⟨_, ⟨rfl, rfl⟩, inferInstance⟩
 intro c4
 refine aB (bF (ab (ah ?_)))
 refine aa rfl (bC rfl rfl (by first | exact aW (by omega) | rfl)) ?_
 refine aa rfl (ac rfl) (ag (ab ?_))
 refine cp (i + 1) ?_ ?_ ?_ ?_
 refine ⟨by omega, fun j h => ?_⟩
 rcases Nat.lt_or_ge j i with q | q
 exact hj j q
 rw [show j = i by omega]; simpa using c4
 omega
 · repeat (first | exact aX | refine aU rfl ?_)
 exact inferInstance
 intro c2
 refine bX (bi (bi (bZ (ab (ae (ah (aa rfl (ai rfl) (aa rfl (ai rfl) (ag (ab (av (au (.inl rfl) (.cons (ak rfl) (.cons (ak rfl) .nil)) ?_))))))))))))
 obtain rfl : i = n := by omega
 rw [tF hj]
 exact ⟨_, ⟨rfl, rfl⟩, inferInstance⟩
theorem tG (W0 : World) (R : List HP) (fn : FuncId) (cs : List Value) (n : Nat) (C : Nat → HP) (w : Nat → Bool) (hw : WF W0 fn cs n C w) (hn : n ≤ 1000) :
    aC Tryz.prog W0 127 [.int .i64 (n : Int), .func (.func fn) #[] cs.toArray] (kH 0 (C 0) :: R) (fun v B => ∃ r, v = .tuple #[.int .i64 r, .bool (gk w n)] ∧ B = R) :=
  p8 (yH W0 R fn cs n C w hw hn) fun v B hB => by
 obtain ⟨rfl, rfl⟩ := hB
 rw [yG]
 exact ⟨_, ⟨_, rfl, rfl⟩, ent_refl⟩
def dD (l cats : Int) : Bool := decide (0 ≤ cats ∧ cats ≤ 8) && dw l && decide (kC .i64 l cats = 0)
theorem qd (l cats : Int) : aC Tryz.prog W0 164 [.int .i64 l, .int .i64 cats] R (fun v B => v = .bool (dD l cats) ∧ B = R) := by
 refine aF func164 ntmps164 rfl rfl ?_
 refine ae (ah (aa rfl (ai rfl) (ag (ab (ae (b0 (ae (ae (ah (aa rfl (ac rfl) (aa rfl (aY rfl rfl) (aa rfl (ai rfl) (ag (ab ?_))))))))))))))
 refine ax rfl ?_ ?_
 intro c1
 refine aB (ab (bR rfl (ae (ah (aa rfl (ai rfl) (ag (ab (av (bj (aD (au (.inl rfl) (.cons (ak rfl) .nil) ?_)))))))))))
 have hv : dD l cats = false := by
  rw [← Bool.not_eq_true, dD]; intro q
  simp only [Bool.and_eq_true, decide_eq_true_iff] at q
  first
    | omega
    | (have := q.1.2; simp_all)
 rw [hv]; exact ⟨_, ⟨rfl, rfl⟩, inferInstance⟩
 intro c1
 refine ae (ah (aa rfl (ac rfl) (aa rfl (cd rfl rfl) (aa rfl (ai rfl) (ag (ab ?_))))))
 refine ax rfl ?_ ?_
 intro c2
 refine aB (ab (bR rfl (ae (ah (aa rfl (ai rfl) (ag (ab (av (bj (aD (au (.inl rfl) (.cons (ak rfl) .nil) ?_)))))))))))
 have hv : dD l cats = false := by
  rw [← Bool.not_eq_true, dD]; intro q
  simp only [Bool.and_eq_true, decide_eq_true_iff] at q
  first
    | omega
    | (have := q.1.2; simp_all)
 rw [hv]; exact ⟨_, ⟨rfl, rfl⟩, inferInstance⟩
 intro c2
 refine ah (aa rfl (ac rfl) (am rfl (aS ru rfl (nu l)) ?_))
 rintro _ B_ ⟨rfl, hB_⟩
 obtain rfl := hB_.symm
 refine aa rfl (bN rfl) (aa rfl (ai rfl) (ag (ab ?_)))
 refine ax rfl ?_ ?_
 intro c3
 refine ae (ah (aa rfl (ai rfl) (ag (ab (av (bj (aD (au (.inl rfl) (.cons (ak rfl) .nil) ?_))))))))
 have hv : dD l cats = false := by
  rw [← Bool.not_eq_true, dD]; intro q
  simp only [Bool.and_eq_true, decide_eq_true_iff] at q
  first
    | omega
    | (have := q.1.2; simp_all)
 rw [hv]; exact ⟨_, ⟨rfl, rfl⟩, inferInstance⟩
 intro c3
 refine aB (bF (ab (ae (ah (aa rfl (ac rfl) (aa rfl (ac rfl) ?_))))))
 refine aa rfl (mP rfl rfl (by omega) rfl) ?_
 refine aa rfl (cz rfl rfl) (aa rfl (ai rfl) (ag (ab (av (au (.inl rfl) (.cons (ak rfl) .nil) ?_)))))
 refine ⟨_, ⟨?_, rfl⟩, inferInstance⟩
 refine congrArg Value.bool ?_
 rw [Bool.eq_iff_iff, dD]
 simp only [Bool.and_eq_true, decide_eq_true_iff]
 constructor
 intro q
 refine ⟨⟨by omega, by simp_all⟩, by simpa using q⟩
 intro q
 simpa using q.2
structure Cfg where
  cats : Int
  ga : Option Addr
  gc : Nat
  gl : List (Int × Int × Int)
  ra : Option Addr
  rc : Nat
  rl : List (Int × Int × Int)
  pa : Option Addr
  pc : Nat
  pl : List (Int × Int)
  na : Option Addr
  nc : Nat
  nl : List (Int × Int)
  sa : Option Addr
  sc : Nat
  sl : List (Int × Int)
  gate : Int
  quota : Int
@[reducible] def cj (c : Cfg) : List Value := [.int .i64 c.cats, .slice c.ga c.gl.length c.gc, .slice c.ra c.rl.length c.rc, .slice c.pa c.pl.length c.pc, .slice c.na c.nl.length c.nc, .slice c.sa c.sl.length c.sc, .int .i64 c.gate, .int .i64 c.quota]
def ix (cats : Int) (g : Int × Int × Int) : Bool := !(dD g.1 cats && decide (1 ≤ g.2.1 ∧ g.2.1 ≤ 8 ∧ 0 ≤ g.2.2 ∧ g.2.2 ≤ 8 - g.2.1))
theorem m9 {cats : Int} {g : Int × Int × Int} : ix cats g = false ↔ dD g.1 cats = true ∧ 1 ≤ g.2.1 ∧ g.2.1 ≤ 8 ∧ 0 ≤ g.2.2 ∧ g.2.2 ≤ 8 - g.2.1 := by
 rw [ix]; simp only [Bool.not_eq_false', Bool.and_eq_true, decide_eq_true_iff]
theorem jp {cats : Int} {g : Int × Int × Int} (h : ¬ (dD g.1 cats = true ∧ 1 ≤ g.2.1 ∧ g.2.1 ≤ 8 ∧ 0 ≤ g.2.2 ∧ g.2.2 ≤ 8 - g.2.1)) : ix cats g = true := by
 rw [← Bool.not_eq_false, m9]; exact h
theorem yI (W0 : World) (b1 : Nat) (c : Cfg) (hs : ∀ A, cq (bI W0 A) c.ga 3 dZ c.gl) :
    WF W0 246 [.pointer (some ⟨b1, 0, none⟩)] c.gl.length (fun _ => bG [pt b1 (aw (cj c) 29)]) (fun i => ix c.cats (c.gl.getD i (0, 0, 0))) := ⟨call246, fun i hi R => by
 refine kQ ?_
 simp only [List.cons_append, List.nil_append]
 obtain ⟨cats, ga, gc, gl, ra, rc, rl, pa, pc, pl, na, nc, nl, sa, sc, sl, gate, quota⟩ := c
 dsimp only at hs hi ⊢
 obtain ⟨g, o, rfl, hc⟩ := (hs (pt b1 (aw (cj ⟨cats, ga, gc, gl, ra, rc, rl, pa, pc, pl, na, nc, nl, sa, sc, sl, gate, quota⟩) 29) :: R)).at_ hi
 obtain ⟨x, hx⟩ : ∃ x, gl[i] = x := ⟨_, rfl⟩
 rw [show gl.getD i (0, 0, 0) = x by simp [List.getD, hi, hx]]
 rw [hx] at hc
 refine aF func246 ntmps246 rfl rfl ?_
 refine ae (ah (aa rfl (ai rfl) (ag (ab (ae (ah ?_))))))
 refine aa rfl (ao rfl bw rfl du rfl (by first | exact Nat.zero_add _ | rfl)) ?_
 refine aa rfl (ap dy rfl (aA rfl)) ?_
 refine aa rfl (ac rfl) ?_
 refine aa rfl (bY dj ej rfl rfl rfl hi (by first | exact Nat.zero_add _ | rfl)) ?_
 refine aa rfl (cQ rD ej rfl hc.weak rfl) ?_
 refine am rfl (dd lq) ?_
 rintro _ _ ⟨bx, rfl, rfl⟩
 refine bE (cK ej rfl rfl rfl rfl rfl) ?_
 rintro _ _ rfl
 refine ag (ab (ae (b0 (ae (ah ?_)))))
 refine aa rfl (ao rfl dO rfl az rfl (by first | exact Nat.zero_add _ | rfl)) ?_
 refine aa rfl (ap aM rfl (aA rfl)) ?_
 refine aa rfl (ao rfl bw rfl az rfl (by first | exact Nat.zero_add _ | rfl)) ?_
 refine aa rfl (ap aM rfl (aA rfl)) ?_
 refine am rfl (aS vE rfl (qd x.1 cats)) ?_
 rintro _ B_ ⟨rfl, hB_⟩
 obtain rfl := hB_.symm
 refine aa rfl (bN rfl) (aa rfl (ai rfl) (ag (ab ?_)))
 refine ax rfl ?_ ?_
 intro c2
 refine ae (ah (aa rfl (ai rfl) (ag (ab (av (bj (aD (au (.inl rfl) (.cons (ak rfl) .nil) ?_))))))))
 rw [jp (fun q => by simp_all)]
 exact ⟨_, ⟨rfl, rfl⟩, inferInstance⟩
 intro c2
 refine ae (ae (ah ?_))
 refine aa rfl (ao rfl dO rfl az rfl (by first | exact Nat.zero_add _ | rfl)) ?_
 refine aa rfl (ap aM rfl (aA rfl)) ?_
 refine aa rfl (aY rfl rfl) (aa rfl (ai rfl) (ag (ab ?_)))
 refine ax rfl ?_ ?_
 intro c4
 refine aB (ab (bR rfl (ae (ah (aa rfl (ai rfl) (ag (ab (av (bj (aD (au (.inl rfl) (.cons (ak rfl) .nil) ?_)))))))))))
 rw [jp (fun q => by omega)]
 exact ⟨_, ⟨rfl, rfl⟩, inferInstance⟩
 intro c4
 refine ah ?_
 refine aa rfl (ao rfl dO rfl az rfl (by first | exact Nat.zero_add _ | rfl)) ?_
 refine aa rfl (ap aM rfl (aA rfl)) ?_
 refine aa rfl (cd rfl rfl) (aa rfl (ai rfl) (ag (ab ?_)))
 refine ax rfl ?_ ?_
 intro c5
 refine ae (ah (aa rfl (ai rfl) (ag (ab (av (bj (aD (au (.inl rfl) (.cons (ak rfl) .nil) ?_))))))))
 rw [jp (fun q => by omega)]
 exact ⟨_, ⟨rfl, rfl⟩, inferInstance⟩
 intro c5
 refine aB (bF (ab (ae (ah ?_))))
 refine aa rfl (ao rfl dO rfl az rfl (by first | exact Nat.zero_add _ | rfl)) ?_
 refine aa rfl (ap aM rfl (aA rfl)) ?_
 refine aa rfl (aY rfl rfl) (aa rfl (ac rfl) ?_)
 refine bA rfl rfl rfl ?_ ?_
 intro g7_4
 refine al rfl rfl rfl rfl (al rfl rfl rfl rfl (al rfl rfl rfl rfl (al rfl rfl rfl rfl (al rfl rfl rfl rfl (aa rfl (aT rfl rfl) (aa rfl (ai rfl) (ag (ab (av (au (.inl rfl) (.cons (ak rfl) .nil) ?_))))))))))
 first
   | (rw [jp (fun q => by omega)]; exact ⟨_, ⟨rfl, rfl⟩, inferInstance⟩)
   | (refine ⟨_, ⟨?_, rfl⟩, inferInstance⟩
      refine congrArg Value.bool ?_
      rw [Bool.eq_iff_iff, decide_eq_true_iff]
      constructor
      · intro q; exact jp (fun q2 => by omega)
      intro q
      apply Decidable.byContradiction
      intro q2
      rw [m9.2 ⟨by simp_all, by omega, by omega, by omega, by omega⟩] at q; cases q)
 intro g7_4
 refine aa rfl (ao rfl dO rfl az rfl (by first | exact Nat.zero_add _ | rfl)) ?_
 refine ar rfl rfl (aa rfl (ap aM rfl (aA rfl)) ?_)
 refine ar rfl rfl ?_
 refine aa rfl (ao rfl dO rfl az rfl (by first | exact Nat.zero_add _ | rfl)) ?_
 refine ar rfl rfl (aa rfl (ap aM rfl (aA rfl)) ?_)
 refine ar rfl rfl ?_
 refine aa rfl (dW rfl rfl (aW (by omega))) ?_
 refine ar rfl rfl (aa rfl (cd rfl rfl) (aa rfl (aJ rfl rfl) (aa rfl (ai rfl) (ag (ab (av (au (.inl rfl) (.cons (ak rfl) .nil) ?_)))))))
 first
   | (rw [jp (fun q => by omega)]; exact ⟨_, ⟨rfl, rfl⟩, inferInstance⟩)
   | (refine ⟨_, ⟨?_, rfl⟩, inferInstance⟩
      refine congrArg Value.bool ?_
      rw [Bool.eq_iff_iff, decide_eq_true_iff]
      constructor
      · intro q; exact jp (fun q2 => by omega)
      · intro q
        apply Decidable.byContradiction
        intro q2
        rw [m9.2 ⟨by simp_all, by omega, by omega, by omega, by omega⟩] at q; cases q)
 ⟩
theorem nG (W0 : World) (R : List HP) (fn : FuncId) (cs : List Value) (n b : Nat) (o : Obj) (w : Nat → Bool) (hw : WF W0 fn cs n (fun _ => bG [pt b o]) w) (hn : n ≤ 1000) :
    aC Tryz.prog W0 127 [.int .i64 (n : Int), .func (.func fn) #[] cs.toArray] (pt b o :: R) (fun v B => ∃ r, v = .tuple #[.int .i64 r, .bool (gk w n)] ∧ B = R) :=
  xX (B := kH 0 (bG [pt b o]) :: R) (g8 (A := [pt b o])) (tG W0 R fn cs n (fun _ => bG [pt b o]) w hw hn)
def eZ (c : Cfg) : Bool := decide (c.gl.length < 1 ∨ 4 < c.gl.length) || gk (fun i => ix c.cats (c.gl.getD i (0, 0, 0))) c.gl.length
theorem yJ (W0 : World) (R : List HP) (c : Cfg) (hs : ∀ A, cq (bI W0 A) c.ga 3 dZ c.gl) :
    aC Tryz.prog W0 113 [.agg (cj c).toArray] R (fun v B => ∃ r, v = .tuple #[.int .i64 r, .bool (eZ c)] ∧ B = R) := by
 obtain ⟨w, hw⟩ : ∃ w, (fun i => ix c.cats (c.gl.getD i (0, 0, 0))) = w := ⟨_, rfl⟩
 have hG : eZ c = (decide (c.gl.length < 1 ∨ 4 < c.gl.length) || gk w c.gl.length) := by rw [eZ, hw]
 refine aF func113 ntmps113 rfl rfl ?_
 refine ae (ah (am rfl (bL rfl) ?_))
 rintro _ _ ⟨b1, rfl, rfl⟩
 refine aa rfl (ai rfl) (aa rfl (ai rfl) (ag (ab (ae (ae (ah ?_))))))
 refine aa rfl (ao rfl bw rfl du rfl (by first | exact Nat.zero_add _ | rfl)) ?_
 refine aa rfl (ap dy rfl (aA rfl)) ?_
 refine aa rfl (bq dj rfl) (aa rfl (aY rfl rfl) (aa rfl (ac rfl) ?_))
 refine bA rfl rfl rfl ?_ ?_
 intro g1_5
 refine al rfl rfl rfl rfl (al rfl rfl rfl rfl (al rfl rfl rfl rfl (aa rfl (aT rfl rfl) (ag (ab (bR rfl (ae (ah (aa rfl (ai rfl) (aa rfl (ai rfl) (ag (ab (av (aD (au (.inl rfl) (.cons (ak rfl) (.cons (ak rfl) .nil)) ?_)))))))))))))))
 rw [hG, decide_eq_true (by omega), Bool.true_or]
 exact ⟨_, ⟨0, rfl, rfl⟩, inferInstance⟩
 intro g1_5
 refine aa rfl (ao rfl bw rfl du rfl (by first | exact Nat.zero_add _ | rfl)) ?_
 refine ar rfl rfl (aa rfl (ap dy rfl (aA rfl)) ?_)
 refine ar rfl rfl (aa rfl (bq dj rfl) (ar rfl rfl (aa rfl (cd rfl rfl) (aa rfl (aJ rfl rfl) (ag (ab ?_))))))
 refine ax rfl ?_ ?_
 intro c1
 refine ae (ah (aa rfl (ai rfl) (aa rfl (ai rfl) (ag (ab (av (aD (au (.inl rfl) (.cons (ak rfl) (.cons (ak rfl) .nil)) ?_))))))))
 rw [hG, decide_eq_true (by omega), Bool.true_or]
 exact ⟨_, ⟨0, rfl, rfl⟩, inferInstance⟩
 intro c1
 refine aB (ab (ae (ah ?_)))
 refine aa rfl (ao rfl bw rfl du rfl (by first | exact Nat.zero_add _ | rfl)) ?_
 refine aa rfl (ap dy rfl (aA rfl)) ?_
 refine aa rfl (bq dj rfl) (aa rfl (iZ rfl rfl) ?_)
 refine am rfl (bz oB rfl (nG W0 _ 246 [.pointer (some ⟨b1, 0, none⟩)] c.gl.length b1 _ w (hw ▸ yI W0 b1 c hs) (by omega))) ?_
 rintro _ B_ ⟨r, rfl, hB_⟩
 obtain rfl := hB_.symm
 refine aa rfl (aZ rfl rfl) (aa rfl (aZ rfl rfl) (aa rfl (ai rfl) (aa rfl (ai rfl) (ag (ab (av (au (.inl rfl) (.cons (ak rfl) (.cons (ak rfl) .nil)) ?_)))))))
 rw [hG, decide_eq_false (by omega), Bool.false_or]
 exact ⟨_, ⟨r, rfl, rfl⟩, inferInstance⟩
def dR (c : Cfg) (i : Int) : Bool := decide (0 ≤ i ∧ i < c.gl.length)
theorem jX (c : Cfg) (i : Int) : aC Tryz.prog W0 251 [.agg (cj c).toArray, .int .i64 i] R (fun v B => v = .bool (dR c i) ∧ B = R) := by
 refine aF func251 ntmps251 rfl rfl ?_
 refine ae (ah (am rfl (bL rfl) ?_))
 rintro _ _ ⟨b1, rfl, rfl⟩
 refine aa rfl (ai rfl) (ag (ab (ae (ah (aa rfl (ac rfl) (aa rfl (cF rfl rfl) (aa rfl (ac rfl) ?_)))))))
 refine cG rfl rfl rfl ?_ ?_
 intro g1_3
 refine aa rfl (ac rfl) (ar rfl rfl ?_)
 refine aa rfl (ao rfl bw rfl du rfl (by first | exact Nat.zero_add _ | rfl)) ?_
 refine ar rfl rfl (aa rfl (ap dy rfl (aA rfl)) ?_)
 refine ar rfl rfl (aa rfl (bq dj rfl) (ar rfl rfl (aa rfl (aY rfl rfl) (aa rfl (aT rfl rfl) (aa rfl (ai rfl) (ag (ab (av (au (.inl rfl) (.cons (ak rfl) .nil) ?_)))))))))
 refine ⟨_, ⟨?_, rfl⟩, inferInstance⟩
 refine congrArg Value.bool ?_
 rw [Bool.eq_iff_iff, dR, decide_eq_true_iff]
 first
   | (rw [decide_eq_true_iff]; constructor
      · intro q; omega
      · intro q; omega)
   | (constructor
      · intro q; first | omega | (cases q)
      intro q; omega)
 intro g1_3
 refine al rfl rfl rfl rfl (al rfl rfl rfl rfl (al rfl rfl rfl rfl (al rfl rfl rfl rfl (aa rfl (aJ rfl rfl) (aa rfl (ai rfl) (ag (ab (av (au (.inl rfl) (.cons (ak rfl) .nil) ?_)))))))))
 refine ⟨_, ⟨?_, rfl⟩, inferInstance⟩
 refine congrArg Value.bool ?_
 rw [Bool.eq_iff_iff, dR, decide_eq_true_iff]
 first
   | (rw [decide_eq_true_iff]; constructor
      · intro q; omega
      · intro q; omega)
   | (constructor
      · intro q; first | omega | (cases q)
      intro q; omega)
@[reducible] def dS (x : Int × Int) : List Value := [.int .i64 x.1, .int .i64 x.2]
def i4 (c : Cfg) (s : Int × Int) : Bool := !(dR c s.1 && decide (1 ≤ s.2 ∧ s.2 ≤ 32))
theorem yK (W0 : World) (b1 : Nat) (c : Cfg) (hs : ∀ A, cq (bI W0 A) c.sa 2 dS c.sl) :
    WF W0 255 [.pointer (some ⟨b1, 0, none⟩)] c.sl.length (fun _ => bG [pt b1 (aw (cj c) 29)]) (fun i => i4 c (c.sl.getD i (0, 0))) := ⟨call255, fun i hi R => by
 refine kQ ?_
 simp only [List.cons_append, List.nil_append]
 obtain ⟨g, o, hga, hc⟩ := (hs (pt b1 (aw (cj c) 29) :: R)).at_ hi
 obtain ⟨x, hx⟩ : ∃ x, c.sl[i] = x := ⟨_, rfl⟩
 rw [show c.sl.getD i (0, 0) = x by simp [List.getD, hi, hx]]
 rw [hx] at hc
 obtain ⟨w, hw⟩ : ∃ w, dR c x.1 = w := ⟨_, rfl⟩
 have hW : i4 c x = !(w && decide (1 ≤ x.2 ∧ x.2 ≤ 32)) := by rw [i4, hw]
 rw [hW]
 obtain ⟨cats, ga, gc, gl, ra, rc, rl, pa, pc, pl, na, nc, nl, sa, sc, sl, gate, quota⟩ := c
 dsimp only at hs hi hga hc hw ⊢
 subst hga
 refine aF func255 ntmps255 rfl rfl ?_
 refine ae (ah (aa rfl (ai rfl) (ag (ab (ae (ah ?_))))))
 refine aa rfl (ao rfl bw rfl iS rfl (by first | exact Nat.zero_add _ | rfl)) ?_
 refine aa rfl (ap km rfl (aA rfl)) ?_
 refine aa rfl (ac rfl) ?_
 refine aa rfl (bY jA lr rfl rfl rfl hi (by first | exact Nat.zero_add _ | rfl)) ?_
 refine aa rfl (cQ isAgg87 lr rfl hc.weak rfl) ?_
 refine am rfl (dd rE) ?_
 rintro _ _ ⟨bx, rfl, rfl⟩
 refine bE (cK lr rfl rfl rfl rfl rfl) ?_
 rintro _ _ rfl
 refine ag (ab (ae (ah (aa rfl (cu cm bS rfl rfl) ?_))))
 refine aa rfl (ao rfl lu rfl az rfl (by first | exact Nat.zero_add _ | rfl)) ?_
 refine aa rfl (ap aM rfl (aA rfl)) ?_
 refine am rfl (aS lw rfl (jX ⟨cats, ga, gc, gl, ra, rc, rl, pa, pc, pl, na, nc, nl, some ⟨g, o, none⟩, sc, sl, gate, quota⟩ x.1)) ?_
 rintro _ B_ ⟨rfl, hB_⟩
 obtain rfl := hB_.symm
 rw [hw]
 refine aa rfl (bN rfl) (aa rfl (ac rfl) ?_)
 refine bA rfl rfl rfl ?_ ?_
 intro g2_6
 refine al rfl rfl rfl rfl (al rfl rfl rfl rfl (aa rfl (aT rfl rfl) (aa rfl (ac rfl) (al rfl rfl rfl rfl (al rfl rfl rfl rfl (al rfl rfl rfl rfl (aa rfl (aT rfl rfl) (aa rfl (ai rfl) (ag (ab (av (au (.inl rfl) (.cons (ak rfl) .nil) ?_))))))))))))
 refine ⟨_, ⟨?_, rfl⟩, inferInstance⟩
 refine congrArg Value.bool ?_
 rw [Bool.eq_iff_iff]
 cases w <;> simp_all <;> omega
 intro g2_6
 refine aa rfl (ao rfl lu rfl az rfl (by first | exact Nat.zero_add _ | rfl)) ?_
 refine ar rfl rfl (aa rfl (ap aM rfl (aA rfl)) ?_)
 refine ar rfl rfl (aa rfl (aY rfl rfl) (aa rfl (aJ rfl rfl) (aa rfl (ac rfl) ?_)))
 refine bA rfl rfl rfl ?_ ?_
 intro g2_11
 refine al rfl rfl rfl rfl (al rfl rfl rfl rfl (aa rfl (aT rfl rfl) (aa rfl (ai rfl) (ag (ab (av (au (.inl rfl) (.cons (ak rfl) .nil) ?_)))))))
 refine ⟨_, ⟨?_, rfl⟩, inferInstance⟩
 refine congrArg Value.bool ?_
 rw [Bool.eq_iff_iff]
 cases w <;> simp_all <;> omega
 intro g2_11
 refine aa rfl (ao rfl lu rfl az rfl (by first | exact Nat.zero_add _ | rfl)) ?_
 refine ar rfl rfl (aa rfl (ap aM rfl (aA rfl)) ?_)
 refine ar rfl rfl (aa rfl (cd rfl rfl) (aa rfl (aJ rfl rfl) (aa rfl (ai rfl) (ag (ab (av (au (.inl rfl) (.cons (ak rfl) .nil) ?_)))))))
 refine ⟨_, ⟨?_, rfl⟩, inferInstance⟩
 refine congrArg Value.bool ?_
 rw [Bool.eq_iff_iff]
 cases w <;> simp_all <;> omega
 ⟩
def gF (c : Cfg) : Bool := decide (c.sl.length < 1 ∨ 8 < c.sl.length) || gk (fun i => i4 c (c.sl.getD i (0, 0))) c.sl.length
theorem yL (W0 : World) (R : List HP) (c : Cfg) (hs : ∀ A, cq (bI W0 A) c.sa 2 dS c.sl) :
    aC Tryz.prog W0 117 [.agg (cj c).toArray] R (fun v B => ∃ r, v = .tuple #[.int .i64 r, .bool (gF c)] ∧ B = R) := by
 obtain ⟨w, hw⟩ : ∃ w, (fun i => i4 c (c.sl.getD i (0, 0))) = w := ⟨_, rfl⟩
 have hG : gF c = (decide (c.sl.length < 1 ∨ 8 < c.sl.length) || gk w c.sl.length) := by rw [gF, hw]
 refine aF func117 ntmps117 rfl rfl ?_
 refine ae (ah (am rfl (bL rfl) ?_))
 rintro _ _ ⟨b1, rfl, rfl⟩
 refine aa rfl (ai rfl) (aa rfl (ai rfl) (ag (ab (ae (ae (ah ?_))))))
 refine aa rfl (ao rfl bw rfl iS rfl (by first | exact Nat.zero_add _ | rfl)) ?_
 refine aa rfl (ap km rfl (aA rfl)) ?_
 refine aa rfl (bq jA rfl) (aa rfl (aY rfl rfl) (aa rfl (ac rfl) ?_))
 refine bA rfl rfl rfl ?_ ?_
 intro g1_5
 refine al rfl rfl rfl rfl (al rfl rfl rfl rfl (al rfl rfl rfl rfl (aa rfl (aT rfl rfl) (ag (ab (bR rfl (ae (ah (aa rfl (ai rfl) (aa rfl (ai rfl) (ag (ab (av (aD (au (.inl rfl) (.cons (ak rfl) (.cons (ak rfl) .nil)) ?_)))))))))))))))
 rw [hG, decide_eq_true (by omega), Bool.true_or]
 exact ⟨_, ⟨0, rfl, rfl⟩, inferInstance⟩
 intro g1_5
 refine aa rfl (ao rfl bw rfl iS rfl (by first | exact Nat.zero_add _ | rfl)) ?_
 refine ar rfl rfl (aa rfl (ap km rfl (aA rfl)) ?_)
 refine ar rfl rfl (aa rfl (bq jA rfl) (ar rfl rfl (aa rfl (cd rfl rfl) (aa rfl (aJ rfl rfl) (ag (ab ?_))))))
 refine ax rfl ?_ ?_
 intro c1
 refine ae (ah (aa rfl (ai rfl) (aa rfl (ai rfl) (ag (ab (av (aD (au (.inl rfl) (.cons (ak rfl) (.cons (ak rfl) .nil)) ?_))))))))
 rw [hG, decide_eq_true (by omega), Bool.true_or]
 exact ⟨_, ⟨0, rfl, rfl⟩, inferInstance⟩
 intro c1
 refine aB (ab (ae (ah ?_)))
 refine aa rfl (ao rfl bw rfl iS rfl (by first | exact Nat.zero_add _ | rfl)) ?_
 refine aa rfl (ap km rfl (aA rfl)) ?_
 refine aa rfl (bq jA rfl) (aa rfl (iZ rfl rfl) ?_)
 refine am rfl (bz oB rfl (nG W0 _ 255 [.pointer (some ⟨b1, 0, none⟩)] c.sl.length b1 _ w (hw ▸ yK W0 b1 c hs) (by omega))) ?_
 rintro _ B_ ⟨r, rfl, hB_⟩
 obtain rfl := hB_.symm
 refine aa rfl (aZ rfl rfl) (aa rfl (aZ rfl rfl) (aa rfl (ai rfl) (aa rfl (ai rfl) (ag (ab (av (au (.inl rfl) (.cons (ak rfl) (.cons (ak rfl) .nil)) ?_)))))))
 rw [hG, decide_eq_false (by omega), Bool.false_or]
 exact ⟨_, ⟨r, rfl, rfl⟩, inferInstance⟩
def fB (c : Cfg) : Bool := if c.gate = -1 then decide (c.quota ≠ 0) else !(dR c c.gate && decide (0 ≤ c.quota ∧ c.quota ≤ 64))
theorem yM (c : Cfg) : aC Tryz.prog W0 118 [.agg (cj c).toArray] R (fun v B => v = .bool (fB c) ∧ B = R) := by
 obtain ⟨w, hw⟩ : ∃ w, dR c c.gate = w := ⟨_, rfl⟩
 have hW : fB c = if c.gate = -1 then decide (c.quota ≠ 0) else !(w && decide (0 ≤ c.quota ∧ c.quota ≤ 64)) := by rw [fB, hw]
 rw [hW]
 refine aF func118 ntmps118 rfl rfl ?_
 refine ae (ah (am rfl (bL rfl) ?_))
 rintro _ _ ⟨b1, rfl, rfl⟩
 refine aa rfl (ai rfl) (ag (ab (ae (b0 (ae (b0 (b0 (ae (b0 (ae (ae (ae (ah ?_)))))))))))))
 refine aa rfl (ao rfl bw rfl az rfl (by first | exact Nat.zero_add _ | rfl)) ?_
 refine aa rfl (ap aM rfl (aA rfl)) ?_
 refine aa rfl (cz rfl rfl) (aa rfl (ai rfl) (ag (ab ?_)))
 refine ax rfl ?_ ?_
 intro c1
 refine bX (bi (bi (bZ (ab (ae (ae (ah ?_)))))))
 refine aa rfl (ao rfl bw rfl az rfl (by first | exact Nat.zero_add _ | rfl)) ?_
 refine aa rfl (ap aM rfl (aA rfl)) ?_
 refine aa rfl (co rfl rfl) (aa rfl (ai rfl) (ag (ab (av (aD (bj (bj (aD (bj (aD (au (.inl rfl) (.cons (ak rfl) .nil) ?_)))))))))))
 refine ⟨_, ⟨?_, rfl⟩, inferInstance⟩
 refine congrArg Value.bool ?_
 rw [Bool.eq_iff_iff]
 cases w <;> simp_all <;> omega
 intro c1
 refine aB (ab (ae (ae (ah (aa rfl (cu cm bS rfl rfl) ?_)))))
 refine aa rfl (ao rfl bw rfl az rfl (by first | exact Nat.zero_add _ | rfl)) ?_
 refine aa rfl (ap aM rfl (aA rfl)) ?_
 refine am rfl (aS lw rfl (jX c c.gate)) ?_
 rintro _ B_ ⟨rfl, hB_⟩
 obtain rfl := hB_.symm
 rw [hw]
 refine aa rfl (bN rfl) (aa rfl (ai rfl) (ag (ab ?_)))
 refine ax rfl ?_ ?_
 intro c2
 refine bX (bi (bi (eK rfl (bi (bZ (bF (ab (ae (ae (ah (aa rfl (ai rfl) (ag (ab (av (aD (bj (aD (au (.inl rfl) (.cons (ak rfl) .nil) ?_))))))))))))))))))
 refine ⟨_, ⟨?_, rfl⟩, inferInstance⟩
 refine congrArg Value.bool ?_
 rw [Bool.eq_iff_iff]
 cases w <;> simp_all <;> omega
 intro c2
 refine aB (ab (ae (ae (ah ?_))))
 refine aa rfl (ao rfl bw rfl az rfl (by first | exact Nat.zero_add _ | rfl)) ?_
 refine aa rfl (ap aM rfl (aA rfl)) ?_
 refine aa rfl (aY rfl rfl) (aa rfl (ai rfl) (ag (ab ?_)))
 refine ax rfl ?_ ?_
 intro c3
 refine aB (ab (bR rfl (bX (bi (eK rfl (bi (eK rfl (bZ (ab (ae (ae (ah (aa rfl (ai rfl) (ag (ab (av (aD (bj (aD (au (.inl rfl) (.cons (ak rfl) .nil) ?_))))))))))))))))))))
 refine ⟨_, ⟨?_, rfl⟩, inferInstance⟩
 refine congrArg Value.bool ?_
 rw [Bool.eq_iff_iff]
 cases w <;> simp_all <;> omega
 intro c3
 refine ah ?_
 refine aa rfl (ao rfl bw rfl az rfl (by first | exact Nat.zero_add _ | rfl)) ?_
 refine aa rfl (ap aM rfl (aA rfl)) ?_
 refine aa rfl (cd rfl rfl) (aa rfl (ai rfl) (ag (ab ?_)))
 refine ax rfl ?_ ?_
 intro c4
 refine bX (bi (eK rfl (bi (eK rfl (bZ (ab (ae (ae (ah (aa rfl (ai rfl) (ag (ab (av (aD (bj (aD (au (.inl rfl) (.cons (ak rfl) .nil) ?_)))))))))))))))))
 refine ⟨_, ⟨?_, rfl⟩, inferInstance⟩
 refine congrArg Value.bool ?_
 rw [Bool.eq_iff_iff]
 cases w <;> simp_all <;> omega
 intro c4
 refine aB (ab (bX (eK rfl (bi (eK rfl (eK rfl (bi (bZ (ab (ae (ah (aa rfl (ai rfl) (ag (ab (av (au (.inl rfl) (.cons (ak rfl) .nil) ?_))))))))))))))))
 refine ⟨_, ⟨?_, rfl⟩, inferInstance⟩
 refine congrArg Value.bool ?_
 rw [Bool.eq_iff_iff]
 cases w <;> simp_all <;> omega
def f0 (c : Cfg) (i : Int) : Int := (c.gl.getD i.toNat (0, 0, 0)).1
def gO (c : Cfg) (x : Int × Int) : Bool := !(dR c x.1 && dR c x.2 && decide (x.1 ≠ x.2) && hX (f0 c x.1) (f0 c x.2))
theorem yN (W0 : World) (b1 : Nat) (c : Cfg) (hs : ∀ A, cq (bI W0 A) c.na 2 dS c.nl) (hgs : ∀ A, cq (bI W0 A) c.ga 3 dZ c.gl) :
    WF W0 253 [.pointer (some ⟨b1, 0, none⟩)] c.nl.length (fun _ => bG [pt b1 (aw (cj c) 29)]) (fun i => gO c (c.nl.getD i (0, 0))) := ⟨call253, fun i hi R => by
 refine kQ ?_
 simp only [List.cons_append, List.nil_append]
 obtain ⟨g, o, hga, hc⟩ := (hs (pt b1 (aw (cj c) 29) :: R)).at_ hi
 obtain ⟨x, hx⟩ : ∃ x, c.nl[i] = x := ⟨_, rfl⟩
 rw [show c.nl.getD i (0, 0) = x by simp [List.getD, hi, hx]]
 rw [hx] at hc
 obtain ⟨p, q⟩ := x
 obtain ⟨w1, hw1⟩ : ∃ w, dR c p = w := ⟨_, rfl⟩
 obtain ⟨w2, hw2⟩ : ∃ w, dR c q = w := ⟨_, rfl⟩
 have hW : gO c (p, q) = !(w1 && w2 && decide (p ≠ q) && hX (f0 c p) (f0 c q)) := by rw [gO, hw1, hw2]
 by_cases hb : w1 = true ∧ w2 = true
 obtain ⟨rfl, rfl⟩ := hb
 have h1 : 0 ≤ p ∧ p < c.gl.length := of_decide_eq_true hw1
 have h2 : 0 ≤ q ∧ q < c.gl.length := of_decide_eq_true hw2
 obtain ⟨j, rfl⟩ : ∃ j : Nat, p = (j : Int) := ⟨p.toNat, by omega⟩
 obtain ⟨k, rfl⟩ : ∃ k : Nat, q = (k : Int) := ⟨q.toNat, by omega⟩
 have hj : j < c.gl.length := by omega
 have hk : k < c.gl.length := by omega
 obtain ⟨u, hu⟩ : ∃ u, c.gl[j] = u := ⟨_, rfl⟩
 obtain ⟨v, hv⟩ : ∃ v, c.gl[k] = v := ⟨_, rfl⟩
 have hl1 : f0 c (j : Int) = u.1 := by rw [f0, Int.toNat_natCast]; simp [List.getD, hj, hu]
 have hl2 : f0 c (k : Int) = v.1 := by rw [f0, Int.toNat_natCast]; simp [List.getD, hk, hv]
 rw [hl1, hl2] at hW
 rw [hW]
 obtain ⟨gg, og, hgg, hcj⟩ := (hgs (pt b1 (aw (cj c) 29) :: R)).at_ hj
 obtain ⟨gh, oh, hgh, hck⟩ := (hgs (pt b1 (aw (cj c) 29) :: R)).at_ hk
 rw [hu] at hcj
 rw [hv] at hck
 obtain ⟨cats, ga, gc, gl, ra, rc, rl, pa, pc, pl, na, nc, nl, sa, sc, sl, gate, quota⟩ := c
 dsimp only at hi hga hc hw1 hw2 hj hk hgg hgh hcj hck ⊢
 subst hga
 subst hgg
 obtain ⟨rfl, rfl⟩ : gg = gh ∧ og = oh := by cases hgh; exact ⟨rfl, rfl⟩
 refine aF func253 ntmps253 rfl rfl ?_
 refine ae (ah (aa rfl (ai rfl) (ag (ab (ae (ah ?_))))))
 refine aa rfl (ao rfl bw rfl fg rfl (by first | exact Nat.zero_add _ | rfl)) ?_
 refine aa rfl (ap fZ rfl (aA rfl)) ?_
 refine aa rfl (ac rfl) ?_
 refine aa rfl (bY fv gt rfl rfl rfl hi (by first | exact Nat.zero_add _ | rfl)) ?_
 refine aa rfl (cQ oC gt rfl hc.weak rfl) ?_
 refine am rfl (dd mz) ?_
 rintro _ _ ⟨bx, rfl, rfl⟩
 refine bE (cK gt rfl rfl rfl rfl rfl) ?_
 rintro _ _ rfl
 refine ag (ab (ae (ae (ah (aa rfl (cu cm bS rfl rfl) ?_)))))
 refine aa rfl (ao rfl fw rfl az rfl (by first | exact Nat.zero_add _ | rfl)) ?_
 refine aa rfl (ap aM rfl (aA rfl)) ?_
 refine am rfl (aS lw rfl (jX ⟨cats, some ⟨gg, og, none⟩, gc, gl, ra, rc, rl, pa, pc, pl, some ⟨g, o, none⟩, nc, nl, sa, sc, sl, gate, quota⟩ (j : Int))) ?_
 rintro _ B_ ⟨rfl, hB_⟩
 obtain rfl := hB_.symm
 rw [hw1]
 refine aa rfl (bN rfl) (aa rfl (ac rfl) ?_)
 refine bA rfl rfl rfl ?_ ?_
 intro g2_6
 exact absurd rfl g2_6
 intro g2_6
 refine aa rfl (cu cm bS rfl rfl) ?_
 refine ar rfl rfl ?_
 refine aa rfl (ao rfl fw rfl az rfl (by first | exact Nat.zero_add _ | rfl)) ?_
 refine ar rfl rfl (aa rfl (ap aM rfl (aA rfl)) ?_)
 refine ar rfl rfl (am rfl (aS lw rfl (jX ⟨cats, some ⟨gg, og, none⟩, gc, gl, ra, rc, rl, pa, pc, pl, some ⟨g, o, none⟩, nc, nl, sa, sc, sl, gate, quota⟩ (k : Int))) ?_)
 rintro _ B_ ⟨rfl, hB_⟩
 obtain rfl := hB_.symm
 rw [hw2]
 refine ar rfl rfl (aa rfl (bN rfl) (aa rfl (aJ rfl rfl) (aa rfl (ac rfl) ?_)))
 refine bA rfl rfl rfl ?_ ?_
 intro g2_13
 exact absurd rfl g2_13
 intro g2_13
 refine aa rfl (ao rfl fw rfl az rfl (by first | exact Nat.zero_add _ | rfl)) ?_
 refine ar rfl rfl (aa rfl (ap aM rfl (aA rfl)) ?_)
 refine ar rfl rfl ?_
 refine aa rfl (ao rfl fw rfl az rfl (by first | exact Nat.zero_add _ | rfl)) ?_
 refine ar rfl rfl (aa rfl (ap aM rfl (aA rfl)) ?_)
 refine ar rfl rfl (aa rfl (cz rfl rfl) (aa rfl (aJ rfl rfl) (ag (ab ?_))))
 refine ax rfl ?_ ?_
 intro c2
 refine ae (ah (aa rfl (ai rfl) (ag (ab (av (aD (au (.inl rfl) (.cons (ak rfl) .nil) ?_)))))))
 refine ⟨_, ⟨?_, rfl⟩, inferInstance⟩
 refine congrArg Value.bool ?_
 rw [Bool.eq_iff_iff]
 simp_all
 intro c2
 refine aB (ab (ae ?_))
 refine cY [(b1, 0, _), (bx, 0, _), (gg, og + j * 3, dZ u), (gg, og + k * 3, dZ v)] 17 cV rfl (aV (aV (df hcj.weak (df hck.weak aK)))) (fun hS => ?_)
 refine aj 0 rfl rfl (by kernel_rfl) (by kernel_rfl) (by kernel_rfl) rfl hS (ao rfl bw rfl du rfl (by first | exact Nat.zero_add _ | rfl)) ?_
 refine aj 1 rfl rfl (by kernel_rfl) (by kernel_rfl) (by kernel_rfl) rfl hS (ap dy rfl (by first | exact aG (k := 0) rfl rfl | exact aG (k := 1) rfl rfl | exact aG (k := 2) rfl rfl | exact aG (k := 3) rfl rfl)) ?_
 refine aj 2 rfl rfl (by kernel_rfl) (by kernel_rfl) (by kernel_rfl) rfl hS (ao rfl fw rfl az rfl (by first | exact Nat.zero_add _ | rfl)) ?_
 refine aj 3 rfl rfl (by kernel_rfl) (by kernel_rfl) (by kernel_rfl) rfl hS (ap aM rfl (by first | exact aG (k := 0) rfl rfl | exact aG (k := 1) rfl rfl | exact aG (k := 2) rfl rfl | exact aG (k := 3) rfl rfl)) ?_
 refine aj 4 rfl rfl (by kernel_rfl) (by kernel_rfl) (by kernel_rfl) rfl hS (bY dj ej rfl rfl rfl hj (by first | exact Nat.zero_add _ | rfl)) ?_
 refine aj 5 rfl rfl (by kernel_rfl) (by kernel_rfl) (by kernel_rfl) rfl hS (ao rfl dO rfl az rfl (by first | exact Nat.zero_add _ | rfl)) ?_
 refine aj 6 rfl rfl (by kernel_rfl) (by kernel_rfl) (by kernel_rfl) rfl hS (ap aM rfl (eW (k := 2) (j := 0) rfl rfl)) ?_
 refine aj 7 rfl rfl (by kernel_rfl) (by kernel_rfl) (by kernel_rfl) rfl hS (ao rfl bw rfl du rfl (by first | exact Nat.zero_add _ | rfl)) ?_
 refine aj 8 rfl rfl (by kernel_rfl) (by kernel_rfl) (by kernel_rfl) rfl hS (ap dy rfl (by first | exact aG (k := 0) rfl rfl | exact aG (k := 1) rfl rfl | exact aG (k := 2) rfl rfl | exact aG (k := 3) rfl rfl)) ?_
 refine aj 9 rfl rfl (by kernel_rfl) (by kernel_rfl) (by kernel_rfl) rfl hS (ao rfl fw rfl az rfl (by first | exact Nat.zero_add _ | rfl)) ?_
 refine aj 10 rfl rfl (by kernel_rfl) (by kernel_rfl) (by kernel_rfl) rfl hS (ap aM rfl (by first | exact aG (k := 0) rfl rfl | exact aG (k := 1) rfl rfl | exact aG (k := 2) rfl rfl | exact aG (k := 3) rfl rfl)) ?_
 refine aj 11 rfl rfl (by kernel_rfl) (by kernel_rfl) (by kernel_rfl) rfl hS (bY dj ej rfl rfl rfl hk (by first | exact Nat.zero_add _ | rfl)) ?_
 refine aj 12 rfl rfl (by kernel_rfl) (by kernel_rfl) (by kernel_rfl) rfl hS (ao rfl dO rfl az rfl (by first | exact Nat.zero_add _ | rfl)) ?_
 refine aj 13 rfl rfl (by kernel_rfl) (by kernel_rfl) (by kernel_rfl) rfl hS (ap aM rfl (eW (k := 3) (j := 0) rfl rfl)) ?_
 refine bB 14 (by kernel_rfl) rfl rfl (aS call254 rfl (y5 u.1 v.1)) rfl ?_; clear hS
 rintro _ B_ ⟨rfl, hB_⟩
 obtain rfl := hB_.symm
 refine ⟨(aV (aV (df hcj.weak (df hck.weak aK)))), fun hS => ?_⟩
 refine aj 15 rfl rfl (by kernel_rfl) (by kernel_rfl) (by kernel_rfl) rfl hS (bN rfl) ?_
 refine aj 16 rfl rfl (by kernel_rfl) (by kernel_rfl) (by kernel_rfl) rfl hS (ai rfl) ?_
 refine cg (by kernel_rfl) ?_; clear hS
 refine ab (av (au (.inl rfl) (.cons (ak rfl) .nil) ?_))
 refine ⟨_, ⟨?_, rfl⟩, inferInstance⟩
 refine congrArg Value.bool ?_
 rw [Bool.eq_iff_iff]
 simp_all
 have hW2 : gO c (p, q) = true := by
  rw [hW]; cases w1 <;> cases w2 <;> simp_all
 rw [hW2]
 obtain ⟨cats, ga, gc, gl, ra, rc, rl, pa, pc, pl, na, nc, nl, sa, sc, sl, gate, quota⟩ := c
 dsimp only at hi hga hc hw1 hw2 ⊢
 subst hga
 refine aF func253 ntmps253 rfl rfl ?_
 refine ae (ah (aa rfl (ai rfl) (ag (ab (ae (ah ?_))))))
 refine aa rfl (ao rfl bw rfl fg rfl (by first | exact Nat.zero_add _ | rfl)) ?_
 refine aa rfl (ap fZ rfl (aA rfl)) ?_
 refine aa rfl (ac rfl) ?_
 refine aa rfl (bY fv gt rfl rfl rfl hi (by first | exact Nat.zero_add _ | rfl)) ?_
 refine aa rfl (cQ oC gt rfl hc.weak rfl) ?_
 refine am rfl (dd mz) ?_
 rintro _ _ ⟨bx, rfl, rfl⟩
 refine bE (cK gt rfl rfl rfl rfl rfl) ?_
 rintro _ _ rfl
 refine ag (ab (ae (ae (ah (aa rfl (cu cm bS rfl rfl) ?_)))))
 refine aa rfl (ao rfl fw rfl az rfl (by first | exact Nat.zero_add _ | rfl)) ?_
 refine aa rfl (ap aM rfl (aA rfl)) ?_
 refine am rfl (aS lw rfl (jX ⟨cats, ga, gc, gl, ra, rc, rl, pa, pc, pl, some ⟨g, o, none⟩, nc, nl, sa, sc, sl, gate, quota⟩ p)) ?_
 rintro _ B_ ⟨rfl, hB_⟩
 obtain rfl := hB_.symm
 rw [hw1]
 refine aa rfl (bN rfl) (aa rfl (ac rfl) ?_)
 refine bA rfl rfl rfl ?_ ?_
 intro g2_6
 refine al rfl rfl rfl rfl (al rfl rfl rfl rfl (al rfl rfl rfl rfl (al rfl rfl rfl rfl (aa rfl (aT rfl rfl) (aa rfl (ac rfl) (al rfl rfl rfl rfl (al rfl rfl rfl rfl (al rfl rfl rfl rfl (al rfl rfl rfl rfl (al rfl rfl rfl rfl (aa rfl (aT rfl rfl) (ag (ab (bR rfl (ae (ah (aa rfl (ai rfl) (ag (ab (av (aD (au (.inl rfl) (.cons (ak rfl) .nil) ?_))))))))))))))))))))))
 exact ⟨_, ⟨rfl, rfl⟩, inferInstance⟩
 intro g2_6
 refine aa rfl (cu cm bS rfl rfl) ?_
 refine ar rfl rfl ?_
 refine aa rfl (ao rfl fw rfl az rfl (by first | exact Nat.zero_add _ | rfl)) ?_
 refine ar rfl rfl (aa rfl (ap aM rfl (aA rfl)) ?_)
 refine ar rfl rfl (am rfl (aS lw rfl (jX ⟨cats, ga, gc, gl, ra, rc, rl, pa, pc, pl, some ⟨g, o, none⟩, nc, nl, sa, sc, sl, gate, quota⟩ q)) ?_)
 rintro _ B_ ⟨rfl, hB_⟩
 obtain rfl := hB_.symm
 rw [hw2]
 refine ar rfl rfl (aa rfl (bN rfl) (aa rfl (aJ rfl rfl) (aa rfl (ac rfl) ?_)))
 refine bA rfl rfl rfl ?_ ?_
 intro g2_13
 refine al rfl rfl rfl rfl (al rfl rfl rfl rfl (al rfl rfl rfl rfl (al rfl rfl rfl rfl (aa rfl (aT rfl rfl) (ag (ab (bR rfl (ae (ah (aa rfl (ai rfl) (ag (ab (av (aD (au (.inl rfl) (.cons (ak rfl) .nil) ?_)))))))))))))))
 exact ⟨_, ⟨rfl, rfl⟩, inferInstance⟩
 intro g2_13
 exfalso; cases w1 <;> cases w2 <;> simp_all
 ⟩
def eR (c : Cfg) : Bool := decide (4 < c.nl.length) || gk (fun i => gO c (c.nl.getD i (0, 0))) c.nl.length
theorem yO (W0 : World) (R : List HP) (c : Cfg) (hs : ∀ A, cq (bI W0 A) c.na 2 dS c.nl) (hgs : ∀ A, cq (bI W0 A) c.ga 3 dZ c.gl) :
    aC Tryz.prog W0 116 [.agg (cj c).toArray] R (fun v B => ∃ r, v = .tuple #[.int .i64 r, .bool (eR c)] ∧ B = R) := by
 obtain ⟨w, hw⟩ : ∃ w, (fun i => gO c (c.nl.getD i (0, 0))) = w := ⟨_, rfl⟩
 have hG : eR c = (decide (4 < c.nl.length) || gk w c.nl.length) := by rw [eR, hw]
 refine aF func116 ntmps116 rfl rfl ?_
 refine ae (ah (am rfl (bL rfl) ?_))
 rintro _ _ ⟨b1, rfl, rfl⟩
 refine aa rfl (ai rfl) (aa rfl (ai rfl) (ag (ab (ae (ae (ah ?_))))))
 refine aa rfl (ao rfl bw rfl fg rfl (by first | exact Nat.zero_add _ | rfl)) ?_
 refine aa rfl (ap fZ rfl (aA rfl)) ?_
 refine aa rfl (bq fv rfl) (aa rfl (cd rfl rfl) (ag (ab ?_)))
 refine ax rfl ?_ ?_
 intro c1
 refine ae (ah (aa rfl (ai rfl) (aa rfl (ai rfl) (ag (ab (av (aD (au (.inl rfl) (.cons (ak rfl) (.cons (ak rfl) .nil)) ?_))))))))
 rw [hG, decide_eq_true (by omega), Bool.true_or]
 exact ⟨_, ⟨0, rfl, rfl⟩, inferInstance⟩
 intro c1
 refine aB (ab (ae (ah ?_)))
 refine aa rfl (ao rfl bw rfl fg rfl (by first | exact Nat.zero_add _ | rfl)) ?_
 refine aa rfl (ap fZ rfl (aA rfl)) ?_
 refine aa rfl (bq fv rfl) (aa rfl (iZ rfl rfl) ?_)
 refine am rfl (bz oB rfl (nG W0 _ 253 [.pointer (some ⟨b1, 0, none⟩)] c.nl.length b1 _ w (hw ▸ yN W0 b1 c hs hgs) (by omega))) ?_
 rintro _ B_ ⟨r, rfl, hB_⟩
 obtain rfl := hB_.symm
 refine aa rfl (aZ rfl rfl) (aa rfl (aZ rfl rfl) (aa rfl (ai rfl) (aa rfl (ai rfl) (ag (ab (av (au (.inl rfl) (.cons (ak rfl) (.cons (ak rfl) .nil)) ?_)))))))
 rw [hG, decide_eq_false (by omega), Bool.false_or]
 exact ⟨_, ⟨r, rfl, rfl⟩, inferInstance⟩
def dq (c : Cfg) : Nat → Int
 | 0 => (c.nl.length : Int)
 | i + 1 => dq c i + ((c.gl.getD i (0, 0, 0)).2.1 + (c.gl.getD i (0, 0, 0)).2.2)
theorem qe {c : Cfg} (hb : ∀ g ∈ c.gl, 1 ≤ g.2.1 ∧ g.2.1 ≤ 8 ∧ 0 ≤ g.2.2 ∧ g.2.2 ≤ 8 - g.2.1) (hn : c.nl.length ≤ 4) : ∀ i, i ≤ c.gl.length → 0 ≤ dq c i ∧ dq c i ≤ 4 + 8 * i
 | 0, _ => by rw [dq]; omega
 | i + 1, hi => by
  obtain ⟨h1, h2⟩ := qe hb hn i (by omega)
  have := hb _ (List.getElem_mem (show i < c.gl.length by omega))
  rw [dq, show c.gl.getD i (0, 0, 0) = c.gl[i]'(by omega) by simp [List.getD, show i < c.gl.length by omega]]
  omega
theorem qf (W0 : World) (R : List HP) (c : Cfg) (hs : ∀ A, cq (bI W0 A) c.ga 3 dZ c.gl) (hb : ∀ g ∈ c.gl, 1 ≤ g.2.1 ∧ g.2.1 ≤ 8 ∧ 0 ≤ g.2.2 ∧ g.2.2 ≤ 8 - g.2.1) (hn : c.nl.length ≤ 4) (hg : c.gl.length ≤ 4) :
    aC Tryz.prog W0 119 [.agg (cj c).toArray] R (fun v B => v = .int .i64 (dq c c.gl.length) ∧ B = R) := by
 have hle := qe hb hn
 refine aF func119 ntmps119 rfl rfl ?_
 refine ae (ah (am rfl (bL rfl) ?_))
 rintro _ _ ⟨b1, rfl, rfl⟩
 refine aa rfl (ai rfl) (ag (ab (ae (ah ?_))))
 refine aa rfl (ao rfl bw rfl fg rfl (by first | exact Nat.zero_add _ | rfl)) ?_
 refine aa rfl (ap fZ rfl (aA rfl)) ?_
 refine aa rfl (bq fv rfl) (aa rfl (ai rfl) (ag (ab (ae (ae (ah ?_))))))
 refine aa rfl (ao rfl bw rfl du rfl (by first | exact Nat.zero_add _ | rfl)) ?_
 refine aa rfl (ap dy rfl (aA rfl)) ?_
 refine aa rfl (bq dj rfl) (aa rfl (ac rfl) (ag (ab (b0 ?_))))
 refine cC (fun i : Nat => i ≤ c.gl.length) (fun i => [(3, .int .i64 (dq c i)), (10, .slice c.ga c.gl.length c.gc), (11, .int .i64 (c.gl.length : Nat)), (12, .int .i64 (i : Nat))]) (fun _ => R) (fun i => c.gl.length - i) 0 ?_ ?_ ?_ ?_
 exact Nat.zero_le _
 · repeat (first | exact aX | refine aU rfl ?_)
 exact inferInstance
 intro i hi
 refine ae (ah (aa rfl (aY rfl rfl) (ag (ab (ae ?_)))))
 refine ax rfl ?_ ?_
 intro c3
 refine aB (ab (ae (b0 (ae ?_))))
 have hi1 : i < c.gl.length := by omega
 obtain ⟨g, o, hga, hc⟩ := (hs R).at_ hi1
 obtain ⟨x, hx⟩ : ∃ x, c.gl[i] = x := ⟨_, rfl⟩
 rw [hx] at hc
 have hbx := hb _ (List.getElem_mem hi1)
 rw [hx] at hbx
 have hst : dq c (i + 1) = dq c i + (x.2.1 + x.2.2) := by rw [dq, show c.gl.getD i (0, 0, 0) = x by simp [List.getD, hi1, hx]]
 have hl1 := hle i hi
 rw [hga]
 refine ah ?_
 refine aa rfl (bY dj ej rfl rfl rfl hi1 (by first | exact Nat.zero_add _ | rfl)) ?_
 refine aa rfl (cQ rD ej rfl hc.weak rfl) ?_
 refine am rfl (dd lq) ?_
 rintro _ _ ⟨bx, rfl, rfl⟩
 refine bE (cK ej rfl rfl rfl rfl rfl) ?_
 rintro _ _ rfl
 refine ag (ab (ah (aa rfl (ac rfl) ?_)))
 refine aa rfl (ao rfl dO rfl az rfl (by first | exact Nat.zero_add _ | rfl)) ?_
 refine aa rfl (ap aM rfl (aA rfl)) ?_
 refine aa rfl (ao rfl dO rfl az rfl (by first | exact Nat.zero_add _ | rfl)) ?_
 refine aa rfl (ap aM rfl (aA rfl)) ?_
 refine aa rfl (bC rfl rfl (aW (by omega))) ?_
 refine aa rfl (bC rfl rfl (by rw [aW (by omega)]; exact hst.symm : IntKind.wrap .i64 (dq c i + (x.2.1 + x.2.2)) = dq c (i + 1))) ?_
 refine aa rfl (ai rfl) (ag (bF (ab (ah ?_))))
 refine aa rfl (bC rfl rfl (by first | exact aW (by omega) | rfl)) ?_
 refine aa rfl (ac rfl) (ag (ab ?_))
 refine cp (i + 1) ?_ ?_ ?_ ?_
 omega
 omega
 · repeat (first | exact aX | refine aU rfl ?_)
 exact inferInstance
 intro c3
 refine bX (bi (bi (bZ (ab (ae (ah (aa rfl (ac rfl) (aa rfl (ai rfl) (ag (ab (av (au (.inl rfl) (.cons (ak rfl) .nil) ?_))))))))))))
 obtain rfl : i = c.gl.length := by omega
 exact ⟨_, ⟨rfl, rfl⟩, inferInstance⟩
section
variable {rd : Option Nat} {P : Program} {S : World → Prop} {W0 : World} {N : FSz} {Q : Exit → Act → World → Prop} {e : bK} {A B R R1 R2 : List HP} {ops : Array Oper} {rest : List Oper}
variable {op : Op} {ty t t' : TypeId} {pos : String} {af : Array Edge} {v u : Value} {d b off : Nat} {x y z : Operand} {l l' vs : List Value}
theorem nH {z : Array Value} {n : Nat} : (Builtin.zeroCells z n).toList.length = n * z.size := by simp [Builtin.zeroCells]
theorem yP {E sz n k c by_ : Nat} {info : TypeInfo} {zz : Value} {an : Option Addr} {olds : List Value} {kk : Int} {kq kn : IntKind} (hu : P.underlying t = some (.slice E)) (htn : P.underlying t' = some (.int kn))
    (hi : P.info? E = some info) (hz : info.zero = some zz) (hsz : info.size = sz) (hby : info.bytes = by_) (hz1 : zz.cells.size = sz) (hsz0 : 0 < sz)
    (hx : ev e x = some (.slice an n c)) (hy : ev e y = some (.int kq kk)) (hk : kk = (k : Int)) (hold : (an = none ∧ olds = []) ∨ ∃ bx ox, an = some ⟨bx, ox, none⟩ ∧ cJ (bI W0 A) bx ox olds) (hol : olds.length = n * sz)
    (h0 : 0 < k) (hg : c < n + k) (h63 : n + k ≤ maxLen) (hbig : (n + k) * by_ ≤ 140737488355328) :
    di P W0 N e A (.call { callee := .builtin .append, args := #[x, y], argTypes := #[t, t'] }) (fun v B => ∃ a' c' zs, v = .slice a' (n + k) c' ∧ zs.length = k * sz ∧ B = osl E sz v (olds ++ zs) :: A) := jJ fun a w dst ty pos af g hF hO => by
 subst hk
 subst hsz
 subst hby
 have hsmall : n + k ≤ 9223372036854775807 := by simp only [maxLen] at h63; omega
 have hfc : (Builtin.firstCells info.size n (.slice an n c)).run P w.drew = .ok olds.toArray w.drew := by
  rcases hold with ⟨rfl, rfl⟩ | ⟨bx, ox, rfl, hc⟩
  simp [Builtin.firstCells]
  exact run_firstCells_some (P := P) w.drew info.size n ⟨bx, ox, none⟩ n c olds hol (fun j u hj => by
   have := hc j u hj w hO
   simpa [fa] using this)
 have hbk : k * info.bytes ≤ 281474976710656 := by
  have := Nat.mul_le_mul_right info.bytes (show k ≤ n + k by omega); omega
 have hr := Go.Lib.run_append_grow_zeros (P := P) w t t' ty E info zz kq kn hu htn hi hz an n c olds hfc k h0 hsz0 hg (by omega) hbk (growslice_fits (by omega) hbig)
 have hge := grownCap_ge w (n + k) c E
 have hcm := grownCap_le_maxLen w (n + k) c E h63
 have hnew := (Own.drew hO (w.drawn + 1)).new (aw ((olds ++ (Builtin.zeroCells zz.cells k).toList) ++ (Builtin.zeroCells zz.cells (grownCap w (n + k) c E - (n + k))).toList) E)
 have ea : ((olds ++ (Builtin.zeroCells zz.cells k).toList) ++ (Builtin.zeroCells zz.cells (grownCap w (n + k) c E - (n + k))).toList).toArray = olds.toArray ++ Builtin.zeroCells zz.cells k ++ Builtin.zeroCells zz.cells (grownCap w (n + k) c E - (n + k)) := by apply Array.ext'; simp
 refine ⟨_, { ({ w with drawn := w.drawn + 1 } : World) with heap := w.heap.push (aw ((olds ++ (Builtin.zeroCells zz.cells k).toList) ++ (Builtin.zeroCells zz.cells (grownCap w (n + k) c E - (n + k))).toList) E) }, _, .inl ?_, ⟨some ⟨w.heap.size, 0, none⟩, grownCap w (n + k) c E, (Builtin.zeroCells zz.cells k).toList, rfl, by rw [nH, hz1], rfl⟩, ?_⟩
 simp only [execOp, resolve, invoke, builtin, Sem.run_bind, Sem.run_pure, Result.andThen_ok, List.map_toArray, List.map_cons, List.map_nil, hF.eval hx, hF.eval hy, hr]
 simp only [World.drew, World.alloc, aw, ea]
 refine hnew.ent ?_
 exact @eP _ A A E info.size w.heap.size (n + k) (grownCap w (n + k) c E) (olds ++ (Builtin.zeroCells zz.cells k).toList) _ _ hge hcm (by rw [List.length_append, hol, nH, hz1, Nat.add_mul]) (by
   rw [List.length_append, List.length_append, hol, nH, nH, hz1, ← Nat.add_mul, ← Nat.add_mul]; congr 1; omega) _
theorem yQ {f : FuncId} {xs : Array Operand} {ats : Array TypeId} (hx : eC e xs.toList = some vs) (hc : ∀ w, S w → (callFunc f vs.toArray).run P w = .ok (.value v) w) : cn P S N e (.call { callee := .value (.func f), args := xs, argTypes := ats }) v := fun a w dst ty pos af g hF hO => by
 rw [execOp_call_go]
 have he : (#[] ++ xs.map a.eval ++ #[] : Array Value) = vs.toArray := by
  have := hF.evals hx
  rw [← this]; apply Array.ext'; simp
 rw [he, hc w hO]
theorem yR {n c : Nat} {a : Option Addr} (hu : P.underlying t = some (.slice d)) (hx : ev e x = some (.slice a n c)) : cn P S N e (.call { callee := .builtin .cap, args := #[x], argTypes := #[t] }) (.int .i64 (c : Nat)) := fun act w _ _ _ _ _ hF _ => by
 simp [execOp, resolve, invoke, builtin, hF.eval hx, Builtin.cap_, dF hu, goInt]
theorem nI {p q s r : List Value} (h : q.length = r.length) : setR (p ++ q ++ s) p.length r = p ++ r ++ s := by
 rw [kI _ _ _ (by simp only [List.length_append]; omega), ← h, List.append_assoc p q s, List.take_left, ← List.drop_drop, List.drop_left, List.drop_left]
theorem tH {g o : Nat} {l1 l2 : List Value} (h : cJ S g o (l1 ++ l2)) : cJ S g o l1 := fun i v hi => h i v (by
  rw [List.getElem?_append_left (by
    rcases Nat.lt_or_ge i l1.length with q | q
    · exact q
    rw [List.getElem?_eq_none q] at hi; cases hi)]
  exact hi)
theorem yS {g o : Nat} {l1 l2 : List Value} (h : cJ S g o (l1 ++ l2)) : cJ S g (o + l1.length) l2 := fun i v hi => by
 rw [Nat.add_assoc]
 exact h (l1.length + i) v (by rw [List.getElem?_append_right (by omega), Nat.add_sub_cancel_left]; exact hi)
theorem tI {l1 l2 l3 : List Value} {o : Nat} [h : Tk pt b A (aw l ty) R] (hl : l = l1 ++ l2 ++ l3) (ho : l1.length = o) : cJ (bI W0 A) b o l2 := by
 subst ho
 have h0 : cJ (bI W0 A) b 0 (l1 ++ l2) := tH (l2 := l3) (by rw [← hl]; exact dM (ty := ty) (R := R) (h := h))
 have := yS h0
 rwa [Nat.zero_add] at this
theorem yT {E sz : Nat} {tS tR ba ga na ca nb cb oa ob : Nat} {la lb : List Value} {ta tb : TypeId} (ht : P.underlying tS = some (.slice E)) (hz : ∀ w, (sizeOf E).run P w = .ok sz w) [h1 : Tk pt ba A (aw la ta) R1] [h2 : Tk pt ga R1 (aw lb tb) R2] (hla : oa ≤ la.length) (hlb : 0 < lb.length) {w : World} (hO : Own W0 w A) :
    (Extern.SlicesOverlaps.overlaps #[tS, tS] #[tR] #[.slice (some ⟨ba, oa, none⟩) na ca, .slice (some ⟨ga, ob, none⟩) nb cb]).run P w = .ok (.bool false) w := by
 have hO1 := hO.tk (r := pt) (b := ba)
 have ha := hO1.has.2
 have hO2 := (hO1.drop).tk (r := pt) (b := ga)
 have hb := hO2.has.2
 have hne : ba ≠ ga := by
  intro q; subst q
  have hO3 : Own W0 w (pt ba (aw la ta) :: pt ba (aw lb tb) :: R2) := hO1.perm (h2.perm.cons _)
  obtain ⟨ls, ⟨l1, l2, rfl, e1, l3, l4, rfl, e2, _⟩, hn, _⟩ := hO3.owns
  cases e1; cases e2
  simp at hn
 refine Go.Lib.run_overlaps_apart w tS tR E ht sz hz ⟨ba, oa, none⟩ ⟨ga, ob, none⟩ na ca nb cb hne ta tb la.length lb.length ?_ ?_ (by omega) ?_ ?_
 simp [World.shape?, ha]
 simp [World.shape?, hb]
 simp [World.frozen?, ha]
 simp [World.frozen?, ha]
end
class NOut (Q : Exit → Act → World → Prop) : Prop where
  no : ∀ a w, ¬ Q .outgrown a w
instance Dd {n : Act → World → Prop} {Q : Exit → Act → World → Prop} [h : NOut Q] : NOut (Exit.then n Q) := ⟨fun a w k => h.no a w k⟩
instance De {id : Nat} {Q : Exit → Act → World → Prop} [h : NOut Q] : NOut (Exit.inBlock id Q) := ⟨fun a w k => h.no a w k⟩
instance Df {Q : Exit → Act → World → Prop} [h : NOut Q] : NOut (Exit.noGoto Q) := ⟨fun a w k => h.no a w k⟩
instance Dg {P : Program} {W0 : World} {L : Nat} {Post : Value → List HP → Prop} : NOut (lT P W0 L Post) := ⟨fun a w k => k⟩
instance Dh : NOut (fun _ _ _ => False) := ⟨fun a w k => k⟩
instance Di {P : Program} {W0 : World} {L : Nat} {Post : Value → List HP → Prop} : POk (lT P W0 L Post) := ⟨fun c a d v w k => k.elim⟩
instance Dj : POk (fun _ _ _ => False) := ⟨fun c a d v w k => k⟩
section
variable {rd : Option Nat} {P : Program} {W0 : World} {N : FSz} {Q : Exit → Act → World → Prop} {e : bK} {A : List HP} {ops : Array Oper} {S : World → Prop}
theorem nJ (hp : jG rd ops.toList = true) (hq : NOut Q) : ∀ (fuel : Nat) (listed : Array Bool) (a : Act) (w : World), wpAnyH P .any ops Q S fuel listed a w → wpAnyIn (FW rd) 0 P .any ops Q fuel listed a w
 | 0, _, _, _, h => h
 | fuel + 1, listed, a, w, h => ⟨h.1, fun i hi => by
  have h2 := h.2 i hi
  unfold wpOp at h2
  unfold wpOpIn
  cases ho : ops[i]? with
  | none =>
   rw [ho] at h2
   exact nJ hp hq fuel _ a w h2.2
  | some o =>
   rw [ho] at h2
   simp only at h2 ⊢
   split at h2
   rename_i hwant
   rw [if_pos hwant]
   rcases h2 with h2 | ⟨_, a', w', h3⟩
   have hsem : o.semAt (FW rd).round a.eval = execOp a.eval o := by
    cases rd with
    | none => rfl
    | some l =>
     refine Oper.semAt_eq _ _ _ (rZ ?_)
     simp only [jG, Option.isNone_some, Bool.false_or, List.all_eq_true] at hp
     exact hp _ (by
       obtain ⟨hlt, rfl⟩ := Array.getElem?_eq_some_iff.1 ho
       simp)
   refine ⟨fun _ _ => trivial, ?_⟩
   rw [hsem]
   exact rY (fun a' w' h' => nJ hp hq fuel _ a' w' h'.2) h2
   exact absurd h3 (hq.no a' w')
   rename_i hwant
   rw [if_neg hwant]
   exact ⟨fun _ _ => trivial, nJ hp hq fuel _ _ w h2.2⟩⟩
theorem yU {id : Nat} (cs : List (Nat × Nat × List Value)) (n : Nat) (hm : P.follows .mixedOrders = true) (hn : Nat.beq ops.size n = true) [hq : NOut Q] (hS : ∀ w, Own W0 w A → SC cs w) (k : (∀ w, Own W0 w A → SC cs w) → aQ W0 N (DR P ops Q cs n (Array.replicate n false)) e A) (hp : jG rd ops.toList = true := by rfl) : aQ W0 N ((Code.region id ops true).wpR rd P Q) e A := by
 intro a w hF hO
 have : ops.size = n := Nat.eq_of_beq_eq_true hn
 subst this
 exact wpIn_region_any hm (nJ hp hq _ _ _ _ (k hS a _ hF (hO.drew _)))
end
abbrev Rn := Int × Int × Int
def bM (x : Rn) : List Value := [.int .i64 x.1, .int .i64 x.2.1, .int .i64 x.2.2]
theorem iO (x : Rn) : (bM x).length = 3 := rfl
theorem qg (x : Rn) : en (bM x) = true := by simp [bM, en, Value.oneCell']
theorem qh (l : List Rn) : en (l.flatMap bM) = true := by
 induction l with
 | nil => rfl
 | cons x l ih =>
  rw [List.flatMap_cons, en, List.all_append, Bool.and_eq_true]
  exact ⟨qg x, ih⟩
@[reducible] def fV (a : Option Addr) (k c : Nat) (n : Int) : Obj := aw [.slice a k c, .int .i64 n, .bool true] 494
def gm (b : Nat) (x : List Rn × Int) : HP := chk (fun C => ∃ a c, C = [pt b (fV a x.1.length c x.2), osl 498 3 (.slice a x.1.length c) (x.1.flatMap bM)])
section
variable {W0 : World} {N : FSz} {K : Act → World → Prop} {e : bK} {A B R R1 R2 : List HP} {b n c : Nat} {x : List Rn × Int}
theorem yV [hk : Tk gm b A x R] (h : ∀ a c, aQ W0 N K e (pt b (fV a x.1.length c x.2) :: osl 498 3 (.slice a x.1.length c) (x.1.flatMap bM) :: R)) : aQ W0 N K e A :=
  dP (r := gm) (b := b) (iM fun C hC => by obtain ⟨a, c, rfl⟩ := hC; exact h a c)
theorem j8 {rs : List Rn} {k m : Nat} {nn : Int} {a : Option Addr} {ys : List Value} [h1 : Tk pt b A (fV a k m nn) R1] [h2 : Tk (osl 498 3) (.slice a k m) R1 ys R2] (hk : k = rs.length) (hy : ys = rs.flatMap bM) [q : Ent R2 B] : Ent A (gm b (rs, nn) :: B) := by
 subst hk; subst hy
 exact (Ent.ofPerm (h1.perm.trans (h2.perm.cons _))).trans ((eE (R := R2) (C := [_, _]) ⟨a, m, rfl⟩).trans (Ent.cons q))
theorem tJ {α : Type} {E sz g c i : Nat} {f : α → List Value} {xs : List α} {x : α} {ys : List Value} [h : Tk (osl E sz) (.slice (some ⟨g, 0, none⟩) n c) A ys R] (hy : ys = xs.flatMap f) (hf : ∀ x, (f x).length = sz) (hz : 0 < sz) (hx : xs[i]? = some x) : cJ (bI W0 A) g (i * sz) (f x) := by
 obtain ⟨b, off, e1, hc⟩ := y1 (S := bI W0 A) (a := some ⟨g, 0, none⟩) (.inr ⟨g, rfl⟩) (t8 (E := E) (sz := sz) (n := n) (c := c) (ys := ys)) hf hy hz i x hx
 cases e1
 rw [Nat.zero_add] at hc; exact hc
end
theorem yW (W0 : World) (b1 bt L : Nat) (rs : List Rn) (n : Int) (a : Option Addr) (c : Nat) (hl : rs.length ≤ 1000) (C : Nat → List HP) (I : Nat → Prop) (h0 : I 0) (Stop : List HP → Prop)
    (hr : ∀ i R, i < rs.length → I i → kK Tryz.prog W0 L [.int .i64 (i : Nat), .agg (bM (rs.getD i (0, 0, 0))).toArray] (C i ++ R) (fun v B => ∃ b B', v = .bool b ∧ B = B' ++ R ∧ ((b = true ∧ I (i + 1) ∧ B' = C (i + 1)) ∨ (b = false ∧ Stop B')))) :
    aC Tryz.prog W0 388 [.func (.yield L) #[] #[], .pointer (some ⟨b1, 0, none⟩)] (pt b1 (aw [.pointer (some ⟨bt, 0, none⟩)] 410) :: pt bt (fV a rs.length c n) :: osl 498 3 (.slice a rs.length c) (rs.flatMap bM) :: C 0)
      (fun v B => v = .tuple #[] ∧ ∃ B', B = pt bt (fV a rs.length c n) :: osl 498 3 (.slice a rs.length c) (rs.flatMap bM) :: B' ∧ ((I rs.length ∧ B' = C rs.length) ∨ Stop B')) := by
 refine aF func388 ntmps388 rfl rfl ?_
 refine ae (ah (aa rfl (ap isAgg410 rfl (aA rfl)) ?_))
 refine aa rfl (aH rfl) ?_
 refine aa rfl (ao rfl ko rfl mB rfl (by first | exact Nat.zero_add _ | rfl)) ?_
 refine aa rfl (ap vF rfl (aA rfl)) ?_
 refine aa rfl (bq ek rfl) (aa rfl (ac rfl) (ag (ab (b0 ?_))))
 refine cC (fun i : Nat => i ≤ rs.length ∧ I i) (fun i => [(0, .func (.yield L) #[] #[]), (8, .slice a rs.length c), (9, .int .i64 (rs.length : Nat)), (10, .int .i64 (i : Nat))]) (fun i => pt bt (fV a rs.length c n) :: osl 498 3 (.slice a rs.length c) (rs.flatMap bM) :: C i) (fun i => rs.length - i) 0 ?_ ?_ ?_ ?_
 exact ⟨Nat.zero_le _, h0⟩
 · repeat (first | exact aX | refine aU rfl ?_)
 exact inferInstance
 intro i ⟨hi, hI⟩
 refine ae (ah (aa rfl (aY rfl rfl) (ag (ab (ae ?_)))))
 refine ax rfl ?_ ?_
 intro c1
 refine aB (ab (ae (b0 (ae ?_))))
 have hi1 : i < rs.length := by omega
 have hgi : rs[i]? = some (rs.getD i (0, 0, 0)) := by simp [List.getD, hi1]
 refine pK (E := 498) (sz := 3) (a := a) (c := c) (n := rs.length) (ys := rs.flatMap bM) (fun hf => ?_)
 obtain ⟨g, rfl⟩ := pU hf (by rw [← List.length_pos_iff, dm iO]; omega)
 refine ah (aa rfl (ac rfl) ?_)
 refine aa rfl (bY ek eU rfl rfl rfl hi1 (by first | exact Nat.zero_add _ | rfl)) ?_
 refine aa rfl (cQ vG eU rfl (tJ (f := bM) (E := 498) (sz := 3) (n := rs.length) (c := c) rfl iO (by decide) hgi) rfl) ?_
 refine am rfl (dd rF) ?_
 rintro _ _ ⟨b1, rfl, rfl⟩
 refine aa rfl (ai rfl) (bE (cK eU rfl rfl rfl rfl rfl) ?_)
 rintro _ _ rfl
 refine ag (ab (ae (ah (aa rfl (ac rfl) (aa rfl (ac rfl) (aa rfl (cu vG eU rfl rfl) ?_))))))
 refine xb rfl rfl rfl (xW (List.perm_append_comm (l₁ := [_, _, _])) (hr i [_, _, _] hi1 hI)) ?_
 rintro _ B_ ⟨b, B', rfl, hB_, hb⟩
 obtain rfl := hB_.symm
 refine oP List.perm_append_comm ?_
 simp only [List.cons_append, List.nil_append]
 refine aa rfl (bN rfl) (ag (ab ?_))
 refine ax rfl ?_ ?_
 intro c3
 have hs : Stop B' := by
  rcases hb with h | h
  exact absurd c3 (by rw [h.1]; decide)
  exact h.2
 refine av (bj (aD (aD (bj (au (.inl rfl) .nil ?_)))))
 exact ⟨_, ⟨rfl, _, rfl, .inr hs⟩, inferInstance⟩
 intro c3
 have hs : I (i + 1) ∧ B' = C (i + 1) := by
  rcases hb with h | h
  exact h.2
  exact absurd (by rw [h.1]; decide) c3
 obtain ⟨hI', rfl⟩ := hs
 refine aB (bF (ab (ah ?_)))
 refine aa rfl (bC rfl rfl (by first | exact aW (by omega) | rfl)) ?_
 refine aa rfl (ac rfl) (ag (ab ?_))
 refine cp (i + 1) ?_ ?_ ?_ ?_
 exact ⟨by omega, hI'⟩
 omega
 · repeat (first | exact aX | refine aU rfl ?_)
 exact inferInstance
 intro c1
 refine bX (bi (bi (bZ (au (.inr rfl) .nil ?_))))
 obtain rfl : i = rs.length := by omega
 exact ⟨_, ⟨rfl, _, rfl, .inl ⟨hI, rfl⟩⟩, inferInstance⟩
theorem yX (W0 : World) (R : List HP) (bt : Nat) :
    aC Tryz.prog W0 358 [.pointer (some ⟨bt, 0, none⟩)] R (fun v B => ∃ b1, v = .func (.func 388) #[] #[.pointer (some ⟨b1, 0, none⟩)] ∧ B = pt b1 (aw [.pointer (some ⟨bt, 0, none⟩)] 410) :: R) := by
 refine aF func358 ntmps358 rfl rfl ?_
 refine ae (ah (am rfl (ji rfl rfl) ?_))
 rintro _ _ ⟨b1, rfl, rfl⟩
 refine aa rfl (ai rfl) (ag (ab (ae (ah (aa rfl (iZ rfl rfl) ?_)))))
 refine aa rfl (ai rfl) (ag (ab (av (au (.inl rfl) (.cons (ak rfl) .nil) ?_))))
 exact ⟨_, ⟨b1, rfl, rfl⟩, inferInstance⟩
theorem yY {W0 : World} {A : List HP} {e : bK} {n' L D b1 bt c : Nat} {n : Int} {a : Option Addr} {ps' : Array Tmp} {asg body : Code} (pe : Code) {Go Stop : List HP → Prop} (rs : List Rn) (hl : rs.length ≤ 1000) (Ct : Nat → List HP) (I : Nat → Prop) (St : List HP → Prop)
    (hp : A.Perm (pt b1 (aw [.pointer (some ⟨bt, 0, none⟩)] 410) :: pt bt (fV a rs.length c n) :: osl 498 3 (.slice a rs.length c) (rs.flatMap bM) :: Ct 0)) (h0 : I 0)
    (hgo : I rs.length → Go (pt bt (fV a rs.length c n) :: osl 498 3 (.slice a rs.length c) (rs.flatMap bM) :: Ct rs.length))
    (hst : ∀ B', St B' → Stop (pt bt (fV a rs.length c n) :: osl 498 3 (.slice a rs.length c) (rs.flatMap bM) :: B'))
    (hrd : ∀ i R', i < rs.length → I i → kK Tryz.prog W0 L [.int .i64 (i : Nat), .agg (bM (rs.getD i (0, 0, 0))).toArray] (dQ L ⟨e, n', ps', asg, body, .ready, none, D⟩ :: pt D (.deferred (some [])) :: (Ct i ++ R'))
      (fun v B => (v = .bool true ∧ I (i + 1) ∧ B = dQ L ⟨e, n', ps', asg, body, .ready, none, D⟩ :: pt D (.deferred (some [])) :: (Ct (i + 1) ++ R')) ∨
        (v = .bool false ∧ ∃ B', St B' ∧ B = dQ L ⟨e, n', ps', asg, body, .done, some pe, D⟩ :: pt D (.deferred (some [])) :: (B' ++ R')))) :
    aC Tryz.prog W0 388 (.func (.yield L) #[] #[] :: [.pointer (some ⟨b1, 0, none⟩)]) (dQ L ⟨e, n', ps', asg, body, .ready, none, D⟩ :: pt D (.deferred (some [])) :: A)
      (fun _ B => (∃ C, B = dQ L ⟨e, n', ps', asg, body, .ready, none, D⟩ :: pt D (.deferred (some [])) :: C ∧ Go C) ∨ (∃ C, B = dQ L ⟨e, n', ps', asg, body, .done, some pe, D⟩ :: pt D (.deferred (some [])) :: C ∧ Stop C)) := by
 have hperm : (dQ L ⟨e, n', ps', asg, body, .ready, none, D⟩ :: pt D (.deferred (some [])) :: A).Perm (pt b1 (aw [.pointer (some ⟨bt, 0, none⟩)] 410) :: pt bt (fV a rs.length c n) :: osl 498 3 (.slice a rs.length c) (rs.flatMap bM) :: (dQ L ⟨e, n', ps', asg, body, .ready, none, D⟩ :: pt D (.deferred (some [])) :: Ct 0)) :=
   ((hp.cons _).cons _).trans (List.perm_append_comm_assoc [_, _] [_, _, _] (Ct 0))
 refine lR hperm (p8 (yW W0 b1 bt L rs n a c hl (fun i => dQ L ⟨e, n', ps', asg, body, .ready, none, D⟩ :: pt D (.deferred (some [])) :: Ct i) I h0
   (fun B => ∃ B', St B' ∧ B = dQ L ⟨e, n', ps', asg, body, .done, some pe, D⟩ :: pt D (.deferred (some [])) :: B') fun i R hat hI w hO => ?_) ?_)
 obtain ⟨f, tmps, as_, bd, hy, hR⟩ := hrd i R hat hI w hO
 refine ⟨f, tmps, as_, bd, hy, RoundIn.mono hR ?_⟩
 rintro _ w' ⟨v, B, rfl, hB, hO'⟩
 rcases hB with ⟨rfl, hI', rfl⟩ | ⟨rfl, B', hS, rfl⟩
 exact ⟨_, _, rfl, ⟨true, _, rfl, rfl, .inl ⟨rfl, hI', rfl⟩⟩, hO'⟩
 exact ⟨_, _, rfl, ⟨false, dQ L ⟨e, n', ps', asg, body, .done, some pe, D⟩ :: pt D (.deferred (some [])) :: B', rfl, rfl, .inr ⟨rfl, B', hS, rfl⟩⟩, hO'⟩
 rintro v B ⟨_, B0, rfl, ⟨hI, rfl⟩ | ⟨B', hS, rfl⟩⟩
 exact ⟨_, .inl ⟨_, rfl, hgo hI⟩, Ent.ofPerm (List.perm_append_comm_assoc [_, _] [_, _] (Ct rs.length))⟩
 exact ⟨_, .inr ⟨_, rfl, hst B' hS⟩, Ent.ofPerm (List.perm_append_comm_assoc [_, _] [_, _] B')⟩
theorem yZ (x : Rn) (h : -1000 ≤ x.1 + x.2.1 ∧ x.1 + x.2.1 ≤ 1000) : aC Tryz.prog W0 359 [.agg (bM x).toArray] R (fun v B => v = .int .i64 (x.1 + x.2.1) ∧ B = R) := by
 refine aF func359 ntmps359 rfl rfl ?_
 refine ae (ah (am rfl (bL rfl) ?_))
 rintro _ _ ⟨b1, rfl, rfl⟩
 refine aa rfl (ai rfl) (ag (ab (ae (ah ?_))))
 refine aa rfl (ao rfl rG rfl az rfl (by first | exact Nat.zero_add _ | rfl)) ?_
 refine aa rfl (ap aM rfl (aA rfl)) ?_
 refine aa rfl (ao rfl rG rfl az rfl (by first | exact Nat.zero_add _ | rfl)) ?_
 refine aa rfl (ap aM rfl (aA rfl)) ?_
 refine aa rfl (bC rfl rfl (aW (by omega))) ?_
 refine aa rfl (ai rfl) (ag (ab (av (au (.inl rfl) (.cons (ak rfl) .nil) ?_))))
 exact ⟨_, ⟨rfl, rfl⟩, inferInstance⟩
def fe : List Rn → Int → Nat
 | [], _ => 0
 | x :: l, f => if x.1 + x.2.1 ≤ f then fe l f + 1 else 0
def gP (rs : List Rn) (f n : Int) : Bool := match rs[fe rs f]? with
 | some x => decide (x.1 < f + n)
 | none => false
theorem qi : ∀ (rs : List Rn) (f : Int) (i : Nat), i ≤ rs.length → (∀ j (hj : j < rs.length), j < i → rs[j].1 + rs[j].2.1 ≤ f) → (∀ h : i < rs.length, ¬ rs[i].1 + rs[i].2.1 ≤ f) → fe rs f = i
 | [], f, i, h, _, _ => by simp at h; rw [fe, h]
 | x :: l, f, 0, _, _, h2 => by
  have := h2 (by simp)
  rw [fe, if_neg (by simpa using this)]
 | x :: l, f, i + 1, h, h1, h2 => by
  have h0 := h1 0 (by simp) (by omega)
  rw [fe, if_pos (by simpa using h0), qi l f i (by simpa using h) (fun j hj hji => by
   have := h1 (j + 1) (by simpa using hj) (by omega)
   simpa using this) (fun hi => by
   have := h2 (by simpa using hi)
   simpa using this)]
theorem qj : ∀ (rs : List Rn) (f : Int), fe rs f ≤ rs.length
 | [], f => Nat.le_refl _
 | x :: l, f => by
  have := qj l f
  rw [fe]; split
  simpa using this
  exact Nat.zero_le _
def iy (rs : List Rn) : Prop := ∀ x ∈ rs, 0 ≤ x.1 ∧ 1 ≤ x.2.1 ∧ x.1 + x.2.1 ≤ 64 ∧ 0 ≤ x.2.2 ∧ x.2.2 < 64
theorem iy.get {rs : List Rn} (h : iy rs) {i : Nat} (hi : i < rs.length) : 0 ≤ (rs.getD i (0, 0, 0)).1 ∧ 1 ≤ (rs.getD i (0, 0, 0)).2.1 ∧ (rs.getD i (0, 0, 0)).1 + (rs.getD i (0, 0, 0)).2.1 ≤ 64 ∧ 0 ≤ (rs.getD i (0, 0, 0)).2.2 ∧ (rs.getD i (0, 0, 0)).2.2 < 64 := by
 rw [show rs.getD i (0, 0, 0) = rs[i] by simp [List.getD, hi]]; exact h _ (List.getElem_mem hi)
theorem z0 (b k c : Nat) (a : Option Addr) (n : Int) : aC Tryz.prog W0 335 [.pointer (some ⟨b, 0, none⟩)] (pt b (fV a k c n) :: R) (fun v B => v = .bool false ∧ B = pt b (fV a k c n) :: R) := by
 refine aF func335 ntmps335 rfl rfl ?_
 refine ae (ah (aa rfl (ai rfl) (ag (ab (ae (ah (aa rfl (ac rfl) (aa rfl (dl underlying410 rfl rfl) (aa rfl (ac rfl) ?_)))))))))
 refine bA rfl rfl rfl ?_ ?_
 intro g1_3
 cases g1_3
 intro g1_3
 refine aa rfl (ac rfl) (ar rfl rfl (aa rfl (aH rfl) (ar rfl rfl ?_)))
 refine aa rfl (ao rfl ko rfl cB rfl (by first | exact Nat.zero_add _ | rfl)) ?_
 refine ar rfl rfl (aa rfl (ap ib rfl (aA rfl)) ?_)
 refine ar rfl rfl (aa rfl (bN rfl) (aa rfl (aJ rfl rfl) (aa rfl (ai rfl) (ag (ab (av (au (.inl rfl) (.cons (ak rfl) .nil) ?_)))))))
 exact ⟨_, ⟨rfl, rfl⟩, inferInstance⟩
theorem tK (n : Int) (h : 0 ≤ n ∧ n ≤ 64) : aC Tryz.prog W0 247 [.int .i64 n] R (fun v B => ∃ b, v = .tuple #[.pointer (some ⟨b, 0, none⟩), .int .i64 0] ∧ B = gm b ([], n) :: R) := by
 refine aF func247 ntmps247 rfl rfl ?_
 refine ae (ah (aa rfl (ai rfl) (aa rfl (ai rfl) (ag (ab (ae (ae (ah (aa rfl (ac rfl) (aa rfl (aY rfl rfl) (aa rfl (ac rfl) ?_)))))))))))
 refine bA rfl rfl rfl ?_ ?_
 intro g1_3
 omega
 intro g1_3
 refine aa rfl (ac rfl) (ar rfl rfl (aa rfl (cd rfl rfl) (aa rfl (aJ rfl rfl) (ag (ab ?_)))))
 refine ax rfl ?_ ?_
 intro c1
 omega
 intro c1
 refine aB (ab (ae (ah (aa rfl (ac rfl) (aa rfl (bQ ko zeroValue494 (aE mB (aE az (aE cB bP))) (bn rfl az rfl rfl (Nat.le_of_ble_eq_true rfl) SetL.eq (bn rfl cB rfl rfl (Nat.le_of_ble_eq_true rfl) SetL.eq bO))) ?_)))))
 refine am rfl (bL rfl) ?_
 rintro _ _ ⟨b1, rfl, rfl⟩
 refine aa rfl (ai rfl) (aa rfl (ai rfl) (ag (ab (av (au (.inl rfl) (.cons (ak rfl) (.cons (ak rfl) .nil)) ?_)))))
 refine ⟨_, ⟨b1, rfl, rfl⟩, ?_⟩
 exact (Ent.cons (fb (E := 498) (sz := 3) (B := R))).trans (j8 (rs := []) rfl rfl)
theorem z4 (W0 : World) (R : List HP) (bt c : Nat) (rs : List Rn) (n : Int) (a : Option Addr) (hok : iy rs) (hl : rs.length ≤ 1000) (f k : Int) (hf : 0 ≤ f ∧ f ≤ 64 ∧ 1 ≤ k ∧ k ≤ 64) :
    aC Tryz.prog W0 336 [.pointer (some ⟨bt, 0, none⟩), .int .i64 f, .int .i64 k] (pt bt (fV a rs.length c n) :: osl 498 3 (.slice a rs.length c) (rs.flatMap bM) :: R)
      (fun v B => v = .tuple #[.int .i64 (fe rs f : Nat), .bool (gP rs f k)] ∧ B = pt bt (fV a rs.length c n) :: osl 498 3 (.slice a rs.length c) (rs.flatMap bM) :: R) := by
 refine aF func336 ntmps336 rfl rfl ?_
 refine ae (ah (am rfl (ji rfl rfl) ?_))
 rintro _ _ ⟨bf, rfl, rfl⟩
 refine am rfl (ji rfl rfl) ?_
 rintro _ _ ⟨bk, rfl, rfl⟩
 refine aa rfl (ai rfl) (aa rfl (ai rfl) (ag (ab (tj (ae (ah (aa rfl (ac rfl) (aa rfl (aH rfl) ?_))))))))
 refine aa rfl (ao rfl ko rfl mB rfl (by first | exact Nat.zero_add _ | rfl)) ?_
 refine aa rfl (ap vF rfl (aA rfl)) ?_
 refine aa rfl (bq ek rfl) (am rfl (mV ln rfl) ?_)
 rintro _ _ ⟨ba, rfl, rfl⟩
 refine am rfl (mV zeroValue4 rfl) ?_
 rintro _ _ ⟨bh, rfl, rfl⟩
 refine bE (ce az rfl rfl rfl (Nat.le_of_ble_eq_true rfl) SetL.eq) ?_
 rintro _ _ rfl
 refine bE (ce cB rfl rfl rfl (Nat.le_of_ble_eq_true rfl) SetL.eq) ?_
 rintro _ _ rfl
 refine ag (ab (ae (s3 (ab (ae (ae (ah (aa rfl (ac rfl) (am rfl (aS call358 rfl (yX W0 _ bt)) ?_)))))))))
 rintro _ B_ ⟨b1, rfl, hB_⟩
 obtain rfl := hB_.symm
 refine ag (ab (b0 ?_))
 refine y8 0 (fun C => (∀ j, j < rs.length → (rs.getD j (0, 0, 0)).1 + (rs.getD j (0, 0, 0)).2.1 ≤ f) ∧ C = pt bt (fV a rs.length c n) :: osl 498 3 (.slice a rs.length c) (rs.flatMap bM) :: pt bh (aw [.bool false] 4) :: pt ba (aw [.int .i64 (rs.length : Nat)] 3) :: pt bk (aw [.int .i64 k] 3) :: pt bf (aw [.int .i64 f] 3) :: R) (fun C => ∃ i, i < rs.length ∧ (∀ j, j < i → (rs.getD j (0, 0, 0)).1 + (rs.getD j (0, 0, 0)).2.1 ≤ f) ∧ (¬ (rs.getD i (0, 0, 0)).1 + (rs.getD i (0, 0, 0)).2.1 ≤ f) ∧ C = pt bt (fV a rs.length c n) :: osl 498 3 (.slice a rs.length c) (rs.flatMap bM) :: pt bh (aw [.bool (decide ((rs.getD i (0, 0, 0)).1 < f + k))] 4) :: pt ba (aw [.int .i64 (i : Nat)] 3) :: pt bk (aw [.int .i64 k] 3) :: pt bf (aw [.int .i64 f] 3) :: R) rfl call388 ?_ ?_ ?_
 intro L D
 refine yY (.exit 0) rs hl (fun _ => pt bh (aw [.bool false] 4) :: pt ba (aw [.int .i64 (rs.length : Nat)] 3) :: pt bk (aw [.int .i64 k] 3) :: pt bf (aw [.int .i64 f] 3) :: R) (fun i => ∀ j, j < i → (rs.getD j (0, 0, 0)).1 + (rs.getD j (0, 0, 0)).2.1 ≤ f) (fun B => ∃ i, i < rs.length ∧ (∀ j, j < i → (rs.getD j (0, 0, 0)).1 + (rs.getD j (0, 0, 0)).2.1 ≤ f) ∧ (¬ (rs.getD i (0, 0, 0)).1 + (rs.getD i (0, 0, 0)).2.1 ≤ f) ∧ B = pt bh (aw [.bool (decide ((rs.getD i (0, 0, 0)).1 < f + k))] 4) :: pt ba (aw [.int .i64 (i : Nat)] 3) :: pt bk (aw [.int .i64 k] 3) :: pt bf (aw [.int .i64 f] 3) :: R) ((t1 (r1 := pt) (b1 := b1) (r2 := pt) (b2 := bt) (r3 := osl 498 3) (b3 := .slice a rs.length c)).trans (List.Perm.refl _)) (fun j hj => absurd hj (Nat.not_lt_zero j)) (fun h => ⟨h, rfl⟩) (fun B' h => by obtain ⟨i, h1, h2, h3, rfl⟩ := h; exact ⟨i, h1, h2, h3, rfl⟩) ?_
 intro i R' hi hI
 have hx := hok.get hi
 obtain ⟨x, hxe⟩ : ∃ x, rs.getD i (0, 0, 0) = x := ⟨_, rfl⟩
 rw [hxe] at hx ⊢
 simp only [List.cons_append, List.nil_append]
 refine xf rfl rfl ?_
 refine ae (ah (aa rfl (ai rfl) (ag (ab (ah (am rfl (dd rF) ?_))))))
 rintro _ _ ⟨bd, rfl, rfl⟩
 refine bE (cK eU rfl rfl rfl rfl rfl) ?_
 rintro _ _ rfl
 refine ag (xd rfl ?_)
 refine b0 (ae (b0 (ae ?_)))
 refine yU [(bd, 0, _), (bf, 0, _)] 5 cV rfl (aV (aV aK)) (fun hS => ?_)
 refine aj 0 rfl rfl (by kernel_rfl) (by kernel_rfl) (by kernel_rfl) rfl hS (cQ vG eU rfl (by first | exact dA (k := 0) rfl | exact dA (k := 1) rfl) rfl) ?_
 refine aj 2 rfl rfl (by kernel_rfl) (by kernel_rfl) (by kernel_rfl) rfl hS (ap aM rfl (by first | exact aG (k := 0) rfl rfl | exact aG (k := 1) rfl rfl)) ?_
 refine bB 1 (by kernel_rfl) rfl rfl (aS call359 rfl (yZ x (by omega))) rfl ?_; clear hS
 rintro _ B_ ⟨rfl, hB_⟩
 obtain rfl := hB_.symm
 refine ⟨(aV (aV aK)), fun hS => ?_⟩
 refine aj 3 rfl rfl (by kernel_rfl) (by kernel_rfl) (by kernel_rfl) rfl hS (jH rfl rfl) ?_
 refine aj 4 rfl rfl (by kernel_rfl) (by kernel_rfl) (by kernel_rfl) rfl hS (ai rfl) ?_
 refine cg (by kernel_rfl) ?_; clear hS
 refine ab ?_
 refine ax rfl ?_ ?_
 intro c5
 refine bX (eK rfl (bi (bZ (xe ?_))))
 have hI' : ∀ j, j < i + 1 → (rs.getD j (0, 0, 0)).1 + (rs.getD j (0, 0, 0)).2.1 ≤ f := fun j hj => by
  rcases Nat.lt_or_ge j i with q | q
  exact hI j q
  obtain rfl : j = i := by omega
  rw [hxe]; exact c5
 exact ⟨_, .inl ⟨rfl, hI', rfl⟩, inferInstance⟩
 intro c5
 refine ae (ah ?_)
 refine aa rfl (ao rfl rG rfl az rfl (by first | exact Nat.zero_add _ | rfl)) ?_
 refine aa rfl (ap aM rfl (aA rfl)) ?_
 refine aa rfl (ap aM rfl (aA rfl)) ?_
 refine aa rfl (ap aM rfl (aA rfl)) ?_
 refine aa rfl (bC rfl rfl (aW (by omega))) ?_
 refine aa rfl (aY rfl rfl) (aa rfl (ai rfl) (ag (ab ?_)))
 refine ax rfl ?_ ?_
 intro c6
 refine ah (bE (ce cB rfl rfl rfl (Nat.le_of_ble_eq_true rfl) SetL.eq) ?_)
 rintro _ _ rfl
 refine ag (bF (ab (ae (ah (aa rfl (ac rfl) (bE (ce az rfl rfl rfl (Nat.le_of_ble_eq_true rfl) SetL.eq) ?_))))))
 rintro _ _ rfl
 refine ag (ab (bX (eK rfl (tm ?_))))
 refine ⟨_, .inr ⟨rfl, _, ⟨i, hi, hI, by rw [hxe]; exact c5, rfl⟩, rfl⟩, ?_⟩
 simp only [List.cons_append]
 rw [hxe]
 first
   | (rw [decide_eq_true c6]; exact inferInstance)
   | (rw [decide_eq_false c6]; exact inferInstance)
 intro c6
 refine aB (bF (ab (ae (ah (aa rfl (ac rfl) (bE (ce az rfl rfl rfl (Nat.le_of_ble_eq_true rfl) SetL.eq) ?_))))))
 rintro _ _ rfl
 refine ag (ab (bX (eK rfl (tm ?_))))
 refine ⟨_, .inr ⟨rfl, _, ⟨i, hi, hI, by rw [hxe]; exact c5, rfl⟩, rfl⟩, ?_⟩
 simp only [List.cons_append]
 rw [hxe]
 first
   | (rw [decide_eq_true c6]; exact inferInstance)
   | (rw [decide_eq_false c6]; exact inferInstance)
 intro D C hC
 obtain ⟨hall, rfl⟩ := hC
 have hA : fe rs f = rs.length := qi rs f rs.length (Nat.le_refl _) (fun j hj _ => by have := hall j hj; rwa [show rs.getD j (0, 0, 0) = rs[j] by simp [List.getD, hj]] at this) (fun h => absurd h (Nat.lt_irrefl _))
 have hH : gP rs f k = false := by rw [gP, hA, List.getElem?_eq_none (Nat.le_refl _)]
 refine bF (ab (ae ?_))
 refine cY [(ba, 0, _), (bh, 0, _)] 4 cV rfl (aV (aV aK)) (fun hS => ?_)
 refine aj 0 rfl rfl (by kernel_rfl) (by kernel_rfl) (by kernel_rfl) rfl hS (ap aM rfl (by first | exact aG (k := 0) rfl rfl | exact aG (k := 1) rfl rfl)) ?_
 refine aj 1 rfl rfl (by kernel_rfl) (by kernel_rfl) (by kernel_rfl) rfl hS (ap ib rfl (by first | exact aG (k := 0) rfl rfl | exact aG (k := 1) rfl rfl)) ?_
 refine aj 2 rfl rfl (by kernel_rfl) (by kernel_rfl) (by kernel_rfl) rfl hS (ai rfl) ?_
 refine aj 3 rfl rfl (by kernel_rfl) (by kernel_rfl) (by kernel_rfl) rfl hS (ai rfl) ?_
 refine cg (by kernel_rfl) ?_; clear hS
 refine ab (av (jV (so (.inl rfl) (.cons (ak rfl) (.cons (ak rfl) .nil)) ?_)))
 rw [hA, hH]
 exact ⟨_, ⟨rfl, rfl⟩, inferInstance⟩
 intro D C hC
 obtain ⟨i, hi, h1, h2, rfl⟩ := hC
 have hgi : rs.getD i (0, 0, 0) = rs[i] := by simp [List.getD, hi]
 have hA : fe rs f = i := qi rs f i (by omega) (fun j hj hji => by have := h1 j hji; rwa [show rs.getD j (0, 0, 0) = rs[j] by simp [List.getD, hj]] at this) (fun h => by rw [← hgi]; exact h2)
 have hH : gP rs f k = decide ((rs.getD i (0, 0, 0)).1 < f + k) := by rw [gP, hA, List.getElem?_eq_getElem hi, hgi]
 refine bZ (ab (ae ?_))
 refine cY [(ba, 0, _), (bh, 0, _)] 4 cV rfl (aV (aV aK)) (fun hS => ?_)
 refine aj 0 rfl rfl (by kernel_rfl) (by kernel_rfl) (by kernel_rfl) rfl hS (ap aM rfl (by first | exact aG (k := 0) rfl rfl | exact aG (k := 1) rfl rfl)) ?_
 refine aj 1 rfl rfl (by kernel_rfl) (by kernel_rfl) (by kernel_rfl) rfl hS (ap ib rfl (by first | exact aG (k := 0) rfl rfl | exact aG (k := 1) rfl rfl)) ?_
 refine aj 2 rfl rfl (by kernel_rfl) (by kernel_rfl) (by kernel_rfl) rfl hS (ai rfl) ?_
 refine aj 3 rfl rfl (by kernel_rfl) (by kernel_rfl) (by kernel_rfl) rfl hS (ai rfl) ?_
 refine cg (by kernel_rfl) ?_; clear hS
 refine ab (av (jV (so (.inl rfl) (.cons (ak rfl) (.cons (ak rfl) .nil)) ?_)))
 rw [hA, hH]
 exact ⟨_, ⟨rfl, rfl⟩, inferInstance⟩
theorem z5 (l : List Rn) (a : Option Addr) (n c : Nat) (hl : l.length = n) (hN : n ≤ 1000) (hs : cq (bI W0 R) a 3 bM l) :
    aC Tryz.prog W0 338 [.slice a n c] R
      (fun v B => ∃ a' c', v = .slice a' n c' ∧ B = osl 498 3 (.slice a' n c') (l.flatMap bM) :: R) := by
 subst hl
 refine aF func338 ntmps338 rfl rfl ?_
 refine ae (ah (aa rfl (ai rfl) (ag (ab (ae (ae (ah (aa rfl (ac rfl) (aa rfl (sB ek rfl rfl) (ag (ab ?_)))))))))))
 refine ax rfl ?_ ?_
 intro c1
 refine ae (ah (aa rfl (ai rfl) (ag (ab (av (aD (au (.inl rfl) (.cons (ak rfl) .nil) ?_)))))))
 have h0 : l = [] := by
  rcases l with _ | ⟨x, l⟩
  rfl
  obtain ⟨b, o, h, _⟩ := hs 0 x rfl
  rw [c1] at h; cases h
 subst h0
 exact ⟨_, ⟨none, 0, rfl, rfl⟩, fb⟩
 intro c1
 have hsrc := hs.src (fun _ => rfl) (fun _ => trivial)
 refine aB (ab (ae (ah (am rfl (lU ek eU rfl) ?_))))
 rintro _ _ ⟨b1, rfl, rfl⟩
 refine aa rfl (ac rfl) ?_
 refine am rfl (to (sz := 3) (by_ := 24) (info := Tryz.t498) ek (by kernel_rfl) rfl rfl rfl rfl (by decide) rfl rfl (news := l.flatMap bM) (by
 rcases hsrc with h | ⟨bs, os, h1, h2⟩
 left; rw [h]; rfl
 right; exact ⟨bs, os, h1, h2.weak⟩) (by rw [dm iO]) (qh l) (by simp only [maxLen]; omega) (by omega)) ?_
 rintro _ _ ⟨a1, c1, rfl, rfl⟩
 refine aa rfl (ai rfl) (ag (ab (av (au (.inl rfl) (.cons (ak rfl) .nil) ?_))))
 rw [Nat.zero_add, List.nil_append]
 exact ⟨_, ⟨a1, c1, rfl, rfl⟩, inferInstance⟩
def ff (rs : List Rn) (i : Nat) (x : Rn) : List Rn := rs.take i ++ x :: rs.drop i
theorem qk (rs : List Rn) (i : Nat) (x : Rn) : (ff rs i x).flatMap bM = (rs.take i).flatMap bM ++ bM x ++ (rs.drop i).flatMap bM := by
 rw [ff, List.flatMap_append, List.flatMap_cons, List.append_assoc]
theorem nK {rs : List Rn} {i : Nat} (x : Rn) (hi : i ≤ rs.length) : (ff rs i x).length = rs.length + 1 := by
 rw [ff, List.length_append, List.length_cons, List.length_take, List.length_drop]; omega
theorem nL (rs : List Rn) (i : Nat) : rs.flatMap bM = (rs.take i).flatMap bM ++ (rs.drop i).flatMap bM := by rw [← List.flatMap_append, List.take_append_drop]
theorem z6 (W0 : World) (R : List HP) (rs : List Rn) (a : Option Addr) (c bv : Nat) (x : Rn) (i : Nat) (hi : i ≤ rs.length) (hl : rs.length ≤ 1000) :
    aC Tryz.prog W0 337 [.slice a rs.length c, .int .i64 (i : Nat), .slice (some ⟨bv, 0, none⟩) 1 1] (osl 498 3 (.slice a rs.length c) (rs.flatMap bM) :: pt bv (aw (bM x) 498) :: R)
      (fun v B => ∃ a' c', v = .slice a' (rs.length + 1) c' ∧ B = osl 498 3 (.slice a' (rs.length + 1) c') ((ff rs i x).flatMap bM) :: R) := by
 have hLt : ((rs.take i).flatMap bM).length = i * 3 := by rw [dm iO, List.length_take, Nat.min_eq_left hi]
 have hLd : ((rs.drop i).flatMap bM).length = (rs.length - i) * 3 := by rw [dm iO, List.length_drop]
 have hLr : (rs.flatMap bM).length = rs.length * 3 := dm iO rs
 refine aF func337 ntmps337 rfl rfl ?_
 refine ae ?_
 refine y9 (E := 498) (sz := 3) (a := a) (c := c) (n := rs.length) (fun hcap => ?_)
 refine ah (aa rfl (ai rfl) (ag (ab (ae (ah (aa rfl (ac rfl) (aa rfl (ac rfl) (aa rfl (jm ek eU rfl (i := i) rfl rfl hi rfl) ?_))))))))
 refine ag (ab (ae (ah (aa rfl (ac rfl) (aa rfl (bq ek rfl) (aa rfl (ai rfl) (ag (ab (ae (ae (ah (aa rfl (ac rfl) (aa rfl (cz rfl rfl) (ag (ab ?_)))))))))))))))
 refine ax rfl ?_ ?_
 intro c3
 exact absurd c3 (by decide)
 intro c3
 refine aB (ab (ae (ah (aa rfl (ac rfl) (aa rfl (bq ek rfl) (aa rfl (ai rfl) (ag (ab (ae (ae (ah (aa rfl (ac rfl) (aa rfl (ac rfl) (aa rfl (cz rfl rfl) (ag (ab ?_))))))))))))))))
 refine ax rfl ?_ ?_
 intro c6
 refine ae (ah (aa rfl (ac rfl) (aa rfl (ac rfl) ?_)))
 refine am rfl (dL (sz := 3) (by_ := 24) (info := Tryz.t498) ek (by kernel_rfl) rfl rfl rfl rfl (by decide) rfl rfl dM rfl rfl (by simp only [maxLen]; omega) (by omega)) ?_
 rintro _ _ ⟨a1, c1, rfl, rfl⟩
 refine aa rfl (ai rfl) (ag (ab (av (aD (au (.inl rfl) (.cons (ak rfl) .nil) ?_)))))
 obtain rfl : i = rs.length := by omega
 refine ⟨_, ⟨a1, c1, rfl, rfl⟩, ?_⟩
 rw [qk, List.take_of_length_le (Nat.le_refl _), List.drop_length, List.flatMap_nil, List.append_nil]
 exact inferInstance
 intro c6
 have hi1 : i < rs.length := by omega
 refine dP (r := osl 498 3) (b := .slice a rs.length c) (ge (fun h1 h2 => by rw [h2] at hLr; simp at hLr; omega) fun g n' cap sp h1 h2 h3 h4 h5 => ?_)
 cases h1
 refine aB (ab (ae (ae (ah (aa rfl (ac rfl) (aa rfl (ac rfl) ?_))))))
 refine aa rfl (bC rfl rfl (by rw [aW (by omega)]; omega : IntKind.wrap .i64 ((rs.length : Int) + ((1 : Nat) : Int)) = ((rs.length + 1 : Nat) : Int))) ?_
 refine aa rfl (ac rfl) (aa rfl (yR ek rfl) ?_)
 refine aa rfl (cd rfl rfl) (ag (ab ?_))
 refine ax rfl ?_ ?_
 intro c8
 refine ae (ah (aa rfl (ac rfl) (aa rfl (ac rfl) ?_)))
 refine aa rfl (jN ek eU rfl rfl rfl (by omega)) ?_
 refine aa rfl (ac rfl) (aa rfl (ac rfl) ?_)
 refine aa rfl (bC rfl rfl (by rw [aW (by omega)]; omega : IntKind.wrap .i64 ((rs.length : Int) + ((1 : Nat) : Int)) = ((rs.length + 1 : Nat) : Int))) ?_
 refine aa rfl (ac rfl) ?_
 refine aa rfl (dW rfl rfl (by rw [aW (by omega)]; omega : IntKind.wrap .i64 (((rs.length + 1 : Nat) : Int) - (i : Int)) = ((rs.length + 1 - i : Nat) : Int))) ?_
 refine am rfl (yP (sz := 3) (by_ := 24) (info := Tryz.t498) (k := rs.length + 1 - i) (olds := (rs.take i).flatMap bM) ek jx (by kernel_rfl) rfl rfl rfl rfl (by decide) rfl rfl rfl (.inr ⟨g, 0, rfl, tH (l2 := (rs.drop i).flatMap bM ++ sp) (by rw [← List.append_assoc, ← nL]; exact dM (b := g))⟩) hLt (by omega) (by omega) (by simp only [maxLen]; omega) (by omega)) ?_
 rintro _ _ ⟨a9, k9, zs, rfl, hzs, rfl⟩
 rw [show i + (rs.length + 1 - i) = rs.length + 1 by omega]
 refine dP (r := osl 498 3) (b := .slice a9 (rs.length + 1) k9) (ge (fun q1 q2 => by
  have := congrArg List.length q2
  rw [List.length_append, hLt, hzs] at this; simp at this; omega) fun g9 n9 cap9 sp9 q1 q2 q3 q4 q5 => ?_)
 cases q1
 refine aa rfl (ai rfl) (ag (ab (ae (ah (aa rfl (ac rfl) (aa rfl (ac rfl) ?_))))))
 refine aa rfl (jm ek eU rfl (i := i) (a' := some ⟨g9, i * 3, none⟩) rfl rfl (by omega) (by rw [fT, if_neg (by omega)]; simp [fa])) ?_
 refine aa rfl (ac rfl) ?_
 refine am rfl (kL ek eU rfl rfl (m := 1) (vs := bM x) (Nat.min_eq_left (by omega)) (dM (b := bv)) rfl (qg x) (by rw [List.length_append, List.length_append, hLt, hzs]; omega) rfl) ?_
 rintro _ B_ ⟨rfl, hB_⟩
 obtain rfl := hB_.symm
 refine ag (ab (ae ?_))
 refine cY [] 9 cV rfl aK (fun hS => ?_)
 refine aj 0 rfl rfl (by kernel_rfl) (by kernel_rfl) (by kernel_rfl) rfl hS (ac rfl) ?_
 refine aj 1 rfl rfl (by kernel_rfl) (by kernel_rfl) (by kernel_rfl) rfl hS (ac rfl) ?_
 refine aj 2 rfl rfl (by kernel_rfl) (by kernel_rfl) (by kernel_rfl) rfl hS (ac rfl) ?_
 refine aj 3 rfl rfl (by kernel_rfl) (by kernel_rfl) (by kernel_rfl) rfl hS (bC rfl rfl (by rw [aW (by omega)]; omega : IntKind.wrap .i64 ((i : Int) + ((1 : Nat) : Int)) = ((i + 1 : Nat) : Int))) ?_
 refine aj 4 rfl rfl (by kernel_rfl) (by kernel_rfl) (by kernel_rfl) rfl hS (jm ek eU rfl (i := i + 1) (a' := some ⟨g9, (i + 1) * 3, none⟩) rfl rfl (by omega) (by rw [fT, if_neg (by omega)]; simp [fa])) ?_
 refine aj 5 rfl rfl (by kernel_rfl) (by kernel_rfl) (by kernel_rfl) rfl hS (ac rfl) ?_
 refine aj 6 rfl rfl (by kernel_rfl) (by kernel_rfl) (by kernel_rfl) rfl hS (ac rfl) ?_
 refine aj 7 rfl rfl (by kernel_rfl) (by kernel_rfl) (by kernel_rfl) rfl hS (jm ek eU rfl (i := i) (a' := some ⟨g, i * 3, none⟩) rfl rfl (by omega) (by rw [fT, if_neg (by omega)]; simp [fa])) ?_
 refine bB 8 (by kernel_rfl) rfl rfl (kL ek eU rfl rfl (m := rs.length - i) (vs := (rs.drop i).flatMap bM) (Nat.min_eq_left (by omega)) (tI (b := g) (l1 := (rs.take i).flatMap bM) (l3 := sp) (by rw [← nL]) hLt) hLd (qh _) (by rw [lI, List.length_append, List.length_append, hLt, hzs]; omega) rfl) rfl ?_; clear hS
 rintro _ B_ ⟨rfl, hB_⟩
 obtain rfl := hB_.symm
 refine ⟨aK, fun hS => ?_⟩
 refine cg (by kernel_rfl) ?_; clear hS
 refine ab (ae (ah (aa rfl (ac rfl) (aa rfl (ai rfl) (ag (ab (av (aD (au (.inl rfl) (.cons (ak rfl) .nil) ?_)))))))))
 obtain ⟨z1, z2, rfl, hz1⟩ : ∃ z1 z2, zs = z1 ++ z2 ∧ z1.length = 3 := ⟨zs.take 3, zs.drop 3, (List.take_append_drop 3 zs).symm, by rw [List.length_take]; omega⟩
 have hz2 : z2.length = (rs.length - i) * 3 := by rw [List.length_append] at hzs; omega
 have hL : setR (setR ((rs.take i).flatMap bM ++ (z1 ++ z2) ++ sp9) (i * 3) (bM x)) ((i + 1) * 3) ((rs.drop i).flatMap bM) = (ff rs i x).flatMap bM ++ sp9 := by
  rw [qk, ← hLt, show (rs.take i).flatMap bM ++ (z1 ++ z2) ++ sp9 = (rs.take i).flatMap bM ++ z1 ++ (z2 ++ sp9) by simp, nI (by rw [hz1]; rfl)]
  have e : (i + 1) * 3 = ((rs.take i).flatMap bM ++ bM x).length := by rw [List.length_append, hLt, iO, Nat.succ_mul]
  rw [e, ← List.append_assoc, nI (by rw [hz2, hLd])]
 rw [hL]
 have hlen : ((ff rs i x).flatMap bM).length = (rs.length + 1) * 3 := by rw [dm iO, nK x hi]
 refine ⟨_, ⟨some ⟨g9, 0, none⟩, k9, rfl, rfl⟩, ?_⟩
 exact eP q2 q3 hlen (by rw [List.length_append, hlen]; rw [List.length_append, List.length_append, hLt, List.length_append, hz1, hz2] at q5; omega)
 intro c8
 refine aB (ab (ae (ah (aa rfl (ac rfl) (aa rfl (ac rfl) (aa rfl (ac rfl) ?_))))))
 refine aa rfl (bC rfl rfl (by rw [aW (by omega)]; omega : IntKind.wrap .i64 ((rs.length : Int) + ((1 : Nat) : Int)) = ((rs.length + 1 : Nat) : Int))) ?_
 refine aa rfl (jN ek eU rfl rfl rfl (by omega)) ?_
 refine aa rfl (ai rfl) (ag (ab (ae (ae (ah (aa rfl (ac rfl) (aa rfl (ac rfl) (aa rfl (ac rfl) (aa rfl (ac rfl) ?_)))))))))
 refine aa rfl (bC rfl rfl (by rw [aW (by omega)]; omega : IntKind.wrap .i64 ((i : Int) + ((1 : Nat) : Int)) = ((i + 1 : Nat) : Int))) ?_
 refine aa rfl (jm ek eU rfl (i := i + 1) (a' := some ⟨g, (i + 1) * 3, none⟩) rfl rfl (by omega) (by rw [fT, if_neg (by omega)]; simp [fa])) ?_
 refine aa rfl (yQ (v := .bool false) rfl (fun w hO => by have h1 := yT (P := Tryz.prog) (tR := 4) (oa := 0) (na := 1) (ca := 1) (ob := (i + 1) * 3) (nb := rs.length + 1 - (i + 1)) (cb := c - (i + 1)) (ba := bv) (ga := g) (la := bM x) (lb := rs.flatMap bM ++ sp) ek eU (Nat.zero_le _) (by rw [h5]; omega) hO; rw [run_callFunc_extern func375 (by kernel_rfl) (by kernel_rfl) (by kernel_rfl) (e := Extern.SlicesOverlaps.overlaps #[492, 492] #[4]) (by kernel_rfl), h1]; rfl)) ?_
 refine aa rfl (bN rfl) (ag (ab ?_))
 refine ax rfl ?_ ?_
 intro c14
 refine ae ?_
 refine cY [] 9 cV rfl aK (fun hS => ?_)
 refine aj 0 rfl rfl (by kernel_rfl) (by kernel_rfl) (by kernel_rfl) rfl hS (ac rfl) ?_
 refine aj 1 rfl rfl (by kernel_rfl) (by kernel_rfl) (by kernel_rfl) rfl hS (ac rfl) ?_
 refine aj 2 rfl rfl (by kernel_rfl) (by kernel_rfl) (by kernel_rfl) rfl hS (ac rfl) ?_
 refine aj 3 rfl rfl (by kernel_rfl) (by kernel_rfl) (by kernel_rfl) rfl hS (bC rfl rfl (by rw [aW (by omega)]; omega : IntKind.wrap .i64 ((i : Int) + ((1 : Nat) : Int)) = ((i + 1 : Nat) : Int))) ?_
 refine aj 4 rfl rfl (by kernel_rfl) (by kernel_rfl) (by kernel_rfl) rfl hS (jm ek eU rfl (i := i + 1) (a' := some ⟨g, (i + 1) * 3, none⟩) rfl rfl (by omega) (by rw [fT, if_neg (by omega)]; simp [fa])) ?_
 refine aj 5 rfl rfl (by kernel_rfl) (by kernel_rfl) (by kernel_rfl) rfl hS (ac rfl) ?_
 refine aj 6 rfl rfl (by kernel_rfl) (by kernel_rfl) (by kernel_rfl) rfl hS (ac rfl) ?_
 refine aj 7 rfl rfl (by kernel_rfl) (by kernel_rfl) (by kernel_rfl) rfl hS (jm ek eU rfl (i := i) (a' := some ⟨g, i * 3, none⟩) rfl rfl (by omega) (by rw [fT, if_neg (by omega)]; simp [fa])) ?_
 refine bB 8 (by kernel_rfl) rfl rfl (kL ek eU rfl rfl (m := rs.length - i) (vs := (rs.drop i).flatMap bM) ((Nat.min_eq_right (by omega)).trans (by omega)) (tI (b := g) (l1 := (rs.take i).flatMap bM) (l3 := sp) (by rw [← nL]) hLt) hLd (qh _) (by omega) rfl) rfl ?_; clear hS
 rintro _ B_ ⟨rfl, hB_⟩
 obtain rfl := hB_.symm
 refine ⟨aK, fun hS => ?_⟩
 refine cg (by kernel_rfl) ?_; clear hS
 refine ab (ae (ah (aa rfl (ac rfl) (aa rfl (ac rfl) ?_))))
 refine aa rfl (jm ek eU rfl (i := i) (a' := some ⟨g, i * 3, none⟩) rfl rfl (by omega) (by rw [fT, if_neg (by omega)]; simp [fa])) ?_
 refine aa rfl (ac rfl) ?_
 refine am rfl (kL ek eU rfl rfl (m := 1) (vs := bM x) (Nat.min_eq_left (by omega)) (dM (b := bv)) rfl (qg x) (by rw [lI]; omega) rfl) ?_
 rintro _ B_ ⟨rfl, hB_⟩
 obtain rfl := hB_.symm
 refine ag (ab (ae (ah (aa rfl (ac rfl) (aa rfl (ai rfl) (ag (ab (av (aD (au (.inl rfl) (.cons (ak rfl) .nil) ?_))))))))))
 have hsp : 3 ≤ sp.length := by rw [List.length_append, hLr] at h5; omega
 obtain ⟨s1, s2, rfl, hs1⟩ : ∃ s1 s2, sp = s1 ++ s2 ∧ s1.length = 3 := ⟨sp.take 3, sp.drop 3, (List.take_append_drop 3 sp).symm, by rw [List.length_take]; omega⟩
 obtain ⟨q1, q2, hq, hq1⟩ : ∃ q1 q2, (rs.drop i).flatMap bM ++ s1 = q1 ++ q2 ∧ q1.length = 3 := ⟨((rs.drop i).flatMap bM ++ s1).take 3, ((rs.drop i).flatMap bM ++ s1).drop 3, (List.take_append_drop 3 _).symm, by rw [List.length_take, List.length_append]; omega⟩
 have hq2 : q2.length = ((rs.drop i).flatMap bM).length := by
  have := congrArg List.length hq
  rw [List.length_append, List.length_append] at this; omega
 have hL : setR (setR (rs.flatMap bM ++ (s1 ++ s2)) ((i + 1) * 3) ((rs.drop i).flatMap bM)) (i * 3) (bM x) = (ff rs i x).flatMap bM ++ s2 := by
  have h0 : rs.flatMap bM ++ (s1 ++ s2) = (rs.take i).flatMap bM ++ q1 ++ q2 ++ s2 := by
   conv => lhs; rw [nL rs i]
   rw [List.append_assoc, ← List.append_assoc ((rs.drop i).flatMap bM), hq]
   simp only [List.append_assoc]
  have e : (i + 1) * 3 = ((rs.take i).flatMap bM ++ q1).length := by rw [List.length_append, hLt, hq1, Nat.succ_mul]
  have h6 : (rs.take i).flatMap bM ++ q1 ++ (rs.drop i).flatMap bM ++ s2 = (rs.take i).flatMap bM ++ q1 ++ ((rs.drop i).flatMap bM ++ s2) := by simp only [List.append_assoc]
  have h7 := nI (p := (rs.take i).flatMap bM) (q := q1) (s := (rs.drop i).flatMap bM ++ s2) (r := bM x) (by rw [hq1]; rfl)
  rw [hLt] at h7
  rw [h0, e, nI hq2, h6, h7, qk]
  simp only [List.append_assoc]
 rw [hL]
 have hlen : ((ff rs i x).flatMap bM).length = (rs.length + 1) * 3 := by rw [dm iO, nK x hi]
 refine ⟨_, ⟨some ⟨g, 0, none⟩, c, rfl, rfl⟩, ?_⟩
 exact eP (by omega) h3 hlen (by rw [List.length_append, hlen]; rw [List.length_append, List.length_append, hLr, hs1] at h5; omega)
 intro c14
 first | exact absurd rfl c14 | exact absurd (by decide) c14
def dr (rs : List Rn) (n f k w : Int) : Int := if f < 0 ∨ k < 1 ∨ n < f ∨ n - f < k ∨ w < 0 ∨ 64 ≤ w then 1 else if gP rs f k then 5 else 0
def dT (rs : List Rn) (n f k w : Int) : List Rn := if dr rs n f k w = 0 then ff rs (fe rs f) (f, k, w) else rs
theorem ql {rs : List Rn} {n f k w : Int} (h : iy rs) (hn : n ≤ 64) : iy (dT rs n f k w) := by
 unfold dT; split
 rename_i he
 have hb : ¬ (f < 0 ∨ k < 1 ∨ n < f ∨ n - f < k ∨ w < 0 ∨ 64 ≤ w) := fun q => by rw [dr, if_pos q] at he; exact absurd he (by decide)
 intro x hx
 rw [ff] at hx
 rcases List.mem_append.1 hx with q | q
 exact h x (List.mem_of_mem_take q)
 rcases List.mem_cons.1 q with rfl | q
 exact ⟨by show 0 ≤ f; omega, by show 1 ≤ k; omega, by show f + k ≤ 64; omega, by show 0 ≤ w; omega, by show w < 64; omega⟩
 exact h x (List.mem_of_mem_drop q)
 exact h
theorem tL {rs : List Rn} {n f k w : Int} : (dT rs n f k w).length ≤ rs.length + 1 := by
 unfold dT; split
 rw [nK _ (qj _ _)]; omega
 omega
theorem tM (W0 : World) (R : List HP) (b : Nat) (rs : List Rn) (n : Int) (hn : 0 ≤ n ∧ n ≤ 64) (hok : iy rs) (hl : rs.length ≤ 900) (f k w : Int) :
    aC Tryz.prog W0 249 [.pointer (some ⟨b, 0, none⟩), .int .i64 f, .int .i64 k, .int .i64 w] (gm b (rs, n) :: R) (fun v B => v = .int .i64 (dr rs n f k w) ∧ B = gm b (dT rs n f k w, n) :: R) := by
 refine aF func249 ntmps249 rfl rfl ?_
 refine ae ?_
 refine yV (b := b) fun a c => ?_
 dsimp only
 refine ah (aa rfl (ai rfl) (ag (ab (ae (b0 (ae (ah (aa rfl (ac rfl) (am rfl (bz call335 rfl (z0 b rs.length c a n)) ?_)))))))))
 rintro _ B_ ⟨rfl, hB_⟩
 obtain rfl := hB_.symm
 refine aa rfl (ai rfl) (ag (ab ?_))
 refine ax rfl ?_ ?_
 intro c1
 exact absurd c1 (by decide)
 intro c1
 refine ae (ae (ah (aa rfl (ac rfl) (aa rfl (aY rfl rfl) (aa rfl (ai rfl) (ag (ab ?_)))))))
 refine ax rfl ?_ ?_
 intro c3
 refine aB (ab (bR rfl (ae (ah (aa rfl (ai rfl) (ag (ab (av (bj (aD (au (.inl rfl) (.cons (ak rfl) .nil) ?_)))))))))))
 have he : dr rs n f k w = 1 := by rw [dr, if_pos (by omega)]
 rw [dT, he, if_neg (by decide)]
 exact ⟨_, ⟨rfl, rfl⟩, j8 rfl rfl⟩
 intro c3
 refine ae (ah (aa rfl (ac rfl) (aa rfl (aY rfl rfl) (aa rfl (ai rfl) (ag (ab ?_))))))
 refine ax rfl ?_ ?_
 intro c4
 refine aB (ab (bR rfl (ae (ah (aa rfl (ai rfl) (ag (ab (av (bj (aD (au (.inl rfl) (.cons (ak rfl) .nil) ?_)))))))))))
 have he : dr rs n f k w = 1 := by rw [dr, if_pos (by omega)]
 rw [dT, he, if_neg (by decide)]
 exact ⟨_, ⟨rfl, rfl⟩, j8 rfl rfl⟩
 intro c4
 refine ae (ah (aa rfl (ac rfl) (aa rfl (ac rfl) (aa rfl (aH rfl) ?_))))
 refine aa rfl (ao rfl ko rfl az rfl (by first | exact Nat.zero_add _ | rfl)) ?_
 refine aa rfl (ap aM rfl (aA rfl)) ?_
 refine aa rfl (cd rfl rfl) (aa rfl (ai rfl) (ag (ab ?_)))
 refine ax rfl ?_ ?_
 intro c5
 refine aB (ab (bR rfl (ae (ah (aa rfl (ai rfl) (ag (ab (av (bj (aD (au (.inl rfl) (.cons (ak rfl) .nil) ?_)))))))))))
 have he : dr rs n f k w = 1 := by rw [dr, if_pos (by omega)]
 rw [dT, he, if_neg (by decide)]
 exact ⟨_, ⟨rfl, rfl⟩, j8 rfl rfl⟩
 intro c5
 refine ae (ah (aa rfl (ac rfl) (aa rfl (ac rfl) (aa rfl (aH rfl) ?_))))
 refine aa rfl (ao rfl ko rfl az rfl (by first | exact Nat.zero_add _ | rfl)) ?_
 refine aa rfl (ap aM rfl (aA rfl)) ?_
 refine aa rfl (ac rfl) ?_
 refine aa rfl (dW rfl rfl (aW (by omega))) ?_
 refine aa rfl (cd rfl rfl) (aa rfl (ai rfl) (ag (ab ?_)))
 refine ax rfl ?_ ?_
 intro c6
 refine aB (ab (bR rfl (ae (ah (aa rfl (ai rfl) (ag (ab (av (bj (aD (au (.inl rfl) (.cons (ak rfl) .nil) ?_)))))))))))
 have he : dr rs n f k w = 1 := by rw [dr, if_pos (by omega)]
 rw [dT, he, if_neg (by decide)]
 exact ⟨_, ⟨rfl, rfl⟩, j8 rfl rfl⟩
 intro c6
 refine ae (ah (aa rfl (ac rfl) (aa rfl (aY rfl rfl) (aa rfl (ai rfl) (ag (ab ?_))))))
 refine ax rfl ?_ ?_
 intro c7
 refine aB (ab (bR rfl (ae (ah (aa rfl (ai rfl) (ag (ab (av (bj (aD (au (.inl rfl) (.cons (ak rfl) .nil) ?_)))))))))))
 have he : dr rs n f k w = 1 := by rw [dr, if_pos (by omega)]
 rw [dT, he, if_neg (by decide)]
 exact ⟨_, ⟨rfl, rfl⟩, j8 rfl rfl⟩
 intro c7
 refine ah (aa rfl (ac rfl) (aa rfl (cF rfl rfl) (aa rfl (ai rfl) (ag (ab ?_)))))
 refine ax rfl ?_ ?_
 intro c8
 refine ae (ah (aa rfl (ai rfl) (ag (ab (av (bj (aD (au (.inl rfl) (.cons (ak rfl) .nil) ?_))))))))
 have he : dr rs n f k w = 1 := by rw [dr, if_pos (by omega)]
 rw [dT, he, if_neg (by decide)]
 exact ⟨_, ⟨rfl, rfl⟩, j8 rfl rfl⟩
 intro c8
 refine aB (bF (ab (ae (ah (aa rfl (ac rfl) (aa rfl (ac rfl) (aa rfl (ac rfl) ?_)))))))
 refine am rfl (gN call336 rfl (z4 W0 _ b c rs n a hok (by omega) f k (by omega))) ?_
 rintro _ B_ ⟨rfl, hB_⟩
 obtain rfl := hB_.symm
 refine aa rfl (ac rfl) (aa rfl (aZ rfl rfl) (aa rfl (aZ rfl rfl) (aa rfl (ai rfl) (aa rfl (ai rfl) (ag (ab (ae (ae (ah (aa rfl (ac rfl) (ag (ab ?_))))))))))))
 refine ax rfl ?_ ?_
 intro c11
 refine ae (ah (aa rfl (ai rfl) (ag (ab (av (aD (au (.inl rfl) (.cons (ak rfl) .nil) ?_)))))))
 have he : dr rs n f k w = 5 := by rw [dr, if_neg (by omega), if_pos c11]
 rw [dT, he, if_neg (by decide)]
 exact ⟨_, ⟨rfl, rfl⟩, j8 rfl rfl⟩
 intro c11
 refine aB (ab (ae ?_))
 have he : dr rs n f k w = 0 := by rw [dr, if_neg (by omega), if_neg c11]
 have hal := qj rs f
 refine y0 (E := 498) (sz := 3) (a := a) (n := rs.length) (c := c) bM rs iO (by decide) rfl (fun hs => ?_)
 refine ah (aa rfl (ac rfl) (aa rfl (ac rfl) (aa rfl (aH rfl) ?_)))
 refine aa rfl (ao rfl ko rfl mB rfl (by first | exact Nat.zero_add _ | rfl)) ?_
 refine aa rfl (ap vF rfl (aA rfl)) ?_
 refine am rfl (aS call338 rfl (z5 rs a rs.length c rfl (by omega) hs)) ?_
 rintro _ B_ ⟨a2, cc, rfl, hB_⟩
 obtain rfl := hB_.symm
 refine aa rfl (ac rfl) (aa rfl (ac rfl) (aa rfl (ac rfl) (aa rfl (ac rfl) (aa rfl (bQ rG rF (aE az (aE az (aE az bP))) (bn rfl az rfl rfl (Nat.le_of_ble_eq_true rfl) SetL.eq (bn rfl az rfl rfl (Nat.le_of_ble_eq_true rfl) SetL.eq (bn rfl az rfl rfl (Nat.le_of_ble_eq_true rfl) SetL.eq bO)))) ?_))))
 refine am rfl (fN ek eU rF rfl (eM rfl rfl fM) rfl (by decide) (by decide) (by decide)) ?_
 rintro _ _ ⟨bv, rfl, rfl⟩
 refine am rfl (gN call337 rfl (z6 W0 _ rs a2 cc bv (f, k, w) (fe rs f) hal (by omega))) ?_
 rintro _ B_ ⟨a3, c3', rfl, hB_⟩
 obtain rfl := hB_.symm
 refine aa rfl (aH rfl) ?_
 refine aa rfl (ao rfl ko rfl mB rfl (by first | exact Nat.zero_add _ | rfl)) ?_
 refine bE (ce mB rfl rfl rfl (Nat.le_of_ble_eq_true rfl) SetL.eq) ?_
 rintro _ _ rfl
 refine ag (ab (ae (ah (aa rfl (ai rfl) (ag (ab (av (au (.inl rfl) (.cons (ak rfl) .nil) ?_))))))))
 rw [dT, he, if_pos rfl]
 exact ⟨_, ⟨rfl, rfl⟩, j8 (nK _ hal).symm rfl⟩
def eH : List Rn → Int → Option Int
 | [], _ => none
 | x :: l, i => if x.1 ≤ i ∧ i < x.1 + x.2.1 then some x.2.2 else eH l i
theorem z7 {rs : List Rn} (h : iy rs) : ∀ {x w : Int}, eH rs x = some w → 0 ≤ w ∧ w < 64 := by
 intro x w hw
 induction rs with
 | nil => cases hw
 | cons y l ih =>
  rw [eH] at hw
  split at hw
  cases hw
  have := h y (by simp)
  exact ⟨this.2.2.2.1, this.2.2.2.2⟩
  exact ih (fun z hz => h z (by simp [hz])) hw
def jY (rs : List Rn) : Prop := rs.Pairwise fun x y => x.1 + x.2.1 ≤ y.1
theorem tN (x : Rn) (l : List Rn) (f k : Int) : gP (x :: l) f k = if x.1 + x.2.1 ≤ f then gP l f k else decide (x.1 < f + k) := by
 unfold gP; rw [fe]
 by_cases h : x.1 + x.2.1 ≤ f
 simp only [if_pos h, List.getElem?_cons_succ]
 simp only [if_neg h, List.getElem?_cons_zero]
theorem tO (x y : Rn) (l : List Rn) (f : Int) : ff (x :: l) (fe (x :: l) f) y = if x.1 + x.2.1 ≤ f then x :: ff l (fe l f) y else y :: x :: l := by
 unfold ff; rw [fe]
 by_cases h : x.1 + x.2.1 ≤ f
 simp only [if_pos h, List.take_succ_cons, List.drop_succ_cons, List.cons_append]
 simp only [if_neg h, List.take_zero, List.drop_zero, List.nil_append]
theorem z8 {l : List Rn} {i : Int} (h : eH l i ≠ none) : ∃ y ∈ l, y.1 ≤ i ∧ i < y.1 + y.2.1 := by
 induction l with
 | nil => exact absurd rfl h
 | cons x l ih =>
  rw [eH] at h
  by_cases q : x.1 ≤ i ∧ i < x.1 + x.2.1
  exact ⟨x, by simp, q⟩
  rw [if_neg q] at h
  obtain ⟨y, hy, h2⟩ := ih h
  exact ⟨y, by simp [hy], h2⟩
theorem tP : ∀ {rs : List Rn} {f k : Int}, jY rs → (∀ x ∈ rs, 1 ≤ x.2.1) → 1 ≤ k → (gP rs f k = true ↔ ∃ i, f ≤ i ∧ i < f + k ∧ eH rs i ≠ none)
 | [], f, k, _, _, _ => by
  constructor
  intro h; simp [gP] at h
  rintro ⟨i, _, _, h⟩; exact absurd rfl h
 | x :: l, f, k, hs, hp, hk => by
  obtain ⟨h1, h2⟩ := List.pairwise_cons.1 hs
  have hx := hp x (by simp)
  rw [tN]
  by_cases q : x.1 + x.2.1 ≤ f
  rw [if_pos q, tP h2 (fun y hy => hp y (by simp [hy])) hk]
  constructor
  rintro ⟨i, a, b, c⟩; exact ⟨i, a, b, by rw [eH, if_neg (by omega)]; exact c⟩
  rintro ⟨i, a, b, c⟩; rw [eH, if_neg (by omega)] at c; exact ⟨i, a, b, c⟩
  rw [if_neg q, decide_eq_true_iff]
  constructor
  intro h
  by_cases q2 : f ≤ x.1
  exact ⟨x.1, q2, h, by rw [eH, if_pos (by omega)]; simp⟩
  exact ⟨f, Int.le_refl _, by omega, by rw [eH, if_pos (by omega)]; simp⟩
  rintro ⟨i, a, b, c⟩
  rw [eH] at c
  by_cases q2 : x.1 ≤ i ∧ i < x.1 + x.2.1
  omega
  rw [if_neg q2] at c
  obtain ⟨y, hy, h3⟩ := z8 c
  have := h1 y hy
  omega
theorem tQ : ∀ {rs : List Rn} {f k w : Int} (i : Int), eH (ff rs (fe rs f) (f, k, w)) i = if f ≤ i ∧ i < f + k then some w else eH rs i
 | [], f, k, w, i => by
  show eH [(f, k, w)] i = _
  rw [eH, eH]; rfl
 | x :: l, f, k, w, i => by
  rw [tO]
  by_cases q : x.1 + x.2.1 ≤ f
  rw [if_pos q, eH, tQ i, eH]
  by_cases q2 : x.1 ≤ i ∧ i < x.1 + x.2.1
  rw [if_pos q2, if_pos q2, if_neg (by omega)]
  rw [if_neg q2, if_neg q2]
  rw [if_neg q, eH]
theorem z9 {x y : Rn} {l : List Rn} {i : Nat} (h : x ∈ ff l i y) : x = y ∨ x ∈ l := by
 unfold ff at h
 rcases List.mem_append.1 h with q | q
 exact .inr (List.mem_of_mem_take q)
 rcases List.mem_cons.1 q with q | q
 exact .inl q
 exact .inr (List.mem_of_mem_drop q)
theorem tT : ∀ {rs : List Rn} {f k w : Int}, jY rs → (∀ x ∈ rs, 1 ≤ x.2.1) → gP rs f k = false → jY (ff rs (fe rs f) (f, k, w))
 | [], f, k, w, _, _, _ => List.pairwise_singleton _ _
 | x :: l, f, k, w, hs, hp, hm => by
  obtain ⟨h1, h2⟩ := List.pairwise_cons.1 hs
  have hx := hp x (by simp)
  rw [tN] at hm
  rw [tO]
  by_cases q : x.1 + x.2.1 ≤ f
  rw [if_pos q] at hm ⊢
  refine List.pairwise_cons.2 ⟨fun y hy => ?_, tT h2 (fun y hy => hp y (by simp [hy])) hm⟩
  rcases z9 hy with rfl | hy
  exact q
  exact h1 y hy
  rw [if_neg q] at hm ⊢
  have hm := of_decide_eq_false hm
  refine List.pairwise_cons.2 ⟨fun y hy => ?_, hs⟩
  rcases List.mem_cons.1 hy with rfl | hy
  show f + k ≤ _; omega
  have := h1 y hy
  show f + k ≤ _; omega
theorem tU {rs : List Rn} {n f k w : Int} (h : jY rs) (hp : ∀ x ∈ rs, 1 ≤ x.2.1) : jY (dT rs n f k w) := by
 unfold dT; split
 rename_i he
 unfold dr at he
 split at he
 exact absurd he (by decide)
 split at he
 exact absurd he (by decide)
 rename_i q; exact tT h hp (by simpa using q)
 exact h
structure RT (rs : List Rn) (L : List Int) : Prop where
  at_ : ∀ i : Nat, i < L.length → L.getD i (-1) = (eH rs i).getD (-1)
  s : jY rs
  ok : iy rs
def eI (L : List Int) (f k w : Int) : Int := if f < 0 ∨ k < 1 ∨ (L.length : Int) < f ∨ L.length - f < k ∨ w < 0 ∨ 64 ≤ w then 1 else if (List.range k.toNat).any (fun i => decide (0 ≤ L.getD (f.toNat + i) (-1))) then 5 else 0
def fW (L : List Int) (f k w : Int) : List Int := if eI L f k w = 0 then (List.range L.length).map fun (i : Nat) => if f ≤ i ∧ (i : Int) < f + k then w else L.getD i (-1) else L
theorem qn {L : List Int} {f k w : Int} : (fW L f k w).length = L.length := by unfold fW; split <;> simp
theorem tV {rs : List Rn} (h : iy rs) {i : Int} : 0 ≤ (eH rs i).getD (-1) ↔ eH rs i ≠ none := by
 cases e : eH rs i with
 | none => simp
 | some w => have := z7 h e; simp; omega
theorem za {rs : List Rn} {L : List Int} (h : RT rs L) {f k : Int} (hb : 0 ≤ f ∧ 1 ≤ k ∧ f + k ≤ L.length) : (List.range k.toNat).any (fun i => decide (0 ≤ L.getD (f.toNat + i) (-1))) = gP rs f k := by
 rw [Bool.eq_iff_iff, tP h.s (fun x hx => (h.ok x hx).2.1) hb.2.1, List.any_eq_true]
 constructor
 rintro ⟨i, hi, hd⟩
 have hi := List.mem_range.1 hi
 have hd := of_decide_eq_true hd
 rw [h.at_ _ (by omega)] at hd
 exact ⟨((f.toNat + i : Nat) : Int), by omega, by omega, (tV h.ok).1 hd⟩
 rintro ⟨i, a, b, c⟩
 refine ⟨(i - f).toNat, List.mem_range.2 (by omega), decide_eq_true ?_⟩
 rw [h.at_ _ (by omega), show ((f.toNat + (i - f).toNat : Nat) : Int) = i by omega]
 exact (tV h.ok).2 c
theorem qo {rs : List Rn} {L : List Int} (h : RT rs L) {n : Int} (hn : n = L.length) (f k w : Int) : eI L f k w = dr rs n f k w := by
 unfold eI dr
 rw [hn]
 by_cases q : f < 0 ∨ k < 1 ∨ (L.length : Int) < f ∨ L.length - f < k ∨ w < 0 ∨ 64 ≤ w
 rw [if_pos q, if_pos q]
 rw [if_neg q, if_neg q, za h (by omega)]
theorem tW {rs : List Rn} {L : List Int} (h : RT rs L) {n : Int} (hn : n = L.length) (h64 : n ≤ 64) (f k w : Int) : RT (dT rs n f k w) (fW L f k w) := by
 refine ⟨fun i hi => ?_, tU h.s (fun x hx => (h.ok x hx).2.1), ql h.ok h64⟩
 rw [qn] at hi
 unfold fW dT
 rw [qo h hn]
 by_cases q : dr rs n f k w = 0
 rw [if_pos q, if_pos q, tQ]
 simp only [List.getD, List.getElem?_map, List.getElem?_range hi, Option.map_some, Option.getD_some]
 by_cases q2 : f ≤ (i : Int) ∧ (i : Int) < f + k
 rw [if_pos q2, if_pos q2]; rfl
 rw [if_neg q2, if_neg q2]; exact h.at_ i hi
 rw [if_neg q, if_neg q]; exact h.at_ i hi
theorem tX (n : Nat) : RT [] (List.replicate n (-1)) := ⟨fun i hi => by simp at hi; simp [List.getD, hi, eH], List.Pairwise.nil, fun x hx => by simp at hx⟩
section
variable {P : Program} {W0 : World} {N : FSz} {e : bK} {A R : List HP} {t : TypeId} {v : Value} {x y : Operand} {l' ys : List Value}
theorem zb {E sz n c g j : Nat} [h : Tk (osl E sz) (.slice (some ⟨g, 0, none⟩) n c) A ys R] (hs : ∀ w, (sizeOf t).run P w = .ok 1 w) (hx : ev e x = some (.pointer (some ⟨g, j, none⟩))) (hy : ev e y = some v)
    (h1 : v.oneCell' = true) (hj : j < ys.length) (hl : ys.set j v = l') : di P W0 N e A (.store t x y) (fun _ B => B = osl E sz (.slice (some ⟨g, 0, none⟩) n c) l' :: R) := by
 intro a w dst ty pos af gd K Q hF hO k
 rcases (hO.tk (r := osl E sz) (b := .slice (some ⟨g, 0, none⟩) n c)).osl with ⟨k1, _, _⟩ | ⟨g', n', cap, sp, k1, k2, k3, k4, k5, k6⟩
 cases k1
 cases k1
 refine ce (b := g) (l := ys ++ sp) hs hx hy h1 (by rw [List.length_append]; omega) rfl a w dst ty pos af gd K Q hF k6 fun v' w' B hp hO' => ?_
 subst hp
 refine k v' w' _ rfl (hO'.ent ?_)
 have e1 : (ys ++ sp).set j v = l' ++ sp := by rw [List.set_append_left _ _ hj, hl]
 rw [e1]
 exact eP k2 k3 (by rw [← hl, List.length_set]; exact k4) (by rw [← hl, List.length_append, List.length_set, ← List.length_append]; exact k5)
theorem ec {S : World → Prop} {E n c j sz o' b off : Nat} {k : IntKind} {i : Int} {a' : Option Addr} (hu : P.underlying t = some (.slice E)) (hs : ∀ w, (sizeOf E).run P w = .ok sz w) (hx : ev e x = some (.slice a' n c)) (ha : a' = some ⟨b, off, none⟩) (hy : ev e y = some (.int k i))
    (hi : i = (j : Int)) (hj : j < n) (ho : off + j * sz = o') : cn P S N e (.indexAddr t x y) (.pointer (some ⟨b, o', none⟩)) := by
 subst ha; exact bY hu hs hx hy hi hj ho
instance (priority := high) ent_nil {A : List HP} : Ent A [] := ⟨fun l _ => ⟨[], l, rfl, List.Perm.refl _⟩⟩
end
abbrev d7 (c : Cfg) : Obj := aw (cj c) 29
def fC (c : Cfg) (i : Nat) : Rn := c.rl.getD i (0, 0, 0)
def et (c : Cfg) : Nat → List Rn
 | 0 => []
 | i + 1 => if dD (fC c i).1 c.cats = true then dT (et c i) 32 (fC c i).2.1 (fC c i).2.2 i else et c i
theorem tY (c : Cfg) : ∀ i, iy (et c i) ∧ (et c i).length ≤ i ∧ jY (et c i)
 | 0 => ⟨fun x hx => by simp [et] at hx, Nat.le_refl _, List.Pairwise.nil⟩
 | i + 1 => by
  obtain ⟨h1, h2, h3⟩ := tY c i
  rw [et]; split
  exact ⟨ql h1 (by decide), Nat.le_trans tL (by omega), tU h3 fun x hx => (h1 x hx).2.1⟩
  exact ⟨h1, by omega, h3⟩
def iz (c : Cfg) (i : Nat) : Bool := !(dD (fC c i).1 c.cats && decide (dr (et c i) 32 (fC c i).2.1 (fC c i).2.2 i = 0))
theorem zc (W0 : World) (b1 b4 bt : Nat) (c : Cfg) (hl : c.rl.length ≤ 8) (hs : ∀ A, cq (bI W0 A) c.ra 3 dZ c.rl) :
    WF W0 248 [.pointer (some ⟨b1, 0, none⟩), .pointer (some ⟨b4, 0, none⟩)] c.rl.length (fun i => bG [pt b1 (d7 c), pt b4 (aw [.pointer (some ⟨bt, 0, none⟩)] 410), gm bt (et c i, 32)]) (iz c) := ⟨call248, fun i hi R => by
 refine kQ ?_
 simp only [List.cons_append, List.nil_append]
 obtain ⟨g, o, hra, hc⟩ := (hs (pt b1 (d7 c) :: R)).at_ hi
 obtain ⟨x, hx⟩ : ∃ x, c.rl[i] = x := ⟨_, rfl⟩
 have hA : fC c i = x := by simp [fC, List.getD, hi, hx]
 rw [hx] at hc
 obtain ⟨h1, h2, h3⟩ := tY c i
 have hT : et c (i + 1) = if dD x.1 c.cats = true then dT (et c i) 32 x.2.1 x.2.2 i else et c i := by rw [et, hA]
 have hW : iz c i = !(dD x.1 c.cats && decide (dr (et c i) 32 x.2.1 x.2.2 i = 0)) := by rw [iz, hA]
 rw [hT, hW]
 generalize et c i = T at h1 h2 h3 ⊢
 refine aF func248 ntmps248 rfl rfl ?_
 refine ae (ah (aa rfl (ai rfl) (ag (ab (ae (ah ?_))))))
 refine aa rfl (ao rfl bw rfl ie rfl (by first | exact Nat.zero_add _ | rfl)) ?_
 refine aa rfl (ap ks rfl (aA rfl)) ?_
 refine aa rfl (ac rfl) ?_
 refine aa rfl (ec g5 gV rfl hra rfl rfl hi (by first | exact Nat.zero_add _ | rfl)) ?_
 refine aa rfl (cQ vH gV rfl hc.weak rfl) ?_
 refine am rfl (dd oD) ?_
 rintro _ _ ⟨bx, rfl, rfl⟩
 refine bE (cK gV rfl rfl rfl rfl rfl) ?_
 rintro _ _ rfl
 refine ag (ab (ae (ah ?_)))
 refine aa rfl (ao rfl gW rfl az rfl (by first | exact Nat.zero_add _ | rfl)) ?_
 refine aa rfl (ap aM rfl (aA rfl)) ?_
 refine aa rfl (ao rfl bw rfl az rfl (by first | exact Nat.zero_add _ | rfl)) ?_
 refine aa rfl (ap aM rfl (aA rfl)) ?_
 refine am rfl (aS vE rfl (qd x.1 c.cats)) ?_
 rintro _ B_ ⟨rfl, hB_⟩
 obtain rfl := hB_.symm
 refine aa rfl (bN rfl) (aa rfl (ac rfl) ?_)
 refine bA rfl rfl rfl ?_ ?_
 intro g2_7
 have hv : dD x.1 c.cats = false := by first | exact g2_7 | simpa using g2_7
 rw [hv]
 refine al rfl rfl rfl rfl (al rfl rfl rfl rfl (al rfl rfl rfl rfl (al rfl rfl rfl rfl (al rfl rfl rfl rfl (al rfl rfl rfl rfl (al rfl rfl rfl rfl (aa rfl (aT rfl rfl) (aa rfl (ai rfl) (ag (ab (av (au (.inl rfl) (.cons (ak rfl) .nil) ?_))))))))))))
 refine ⟨_, ⟨?_, rfl⟩, ?_⟩
 refine congrArg Value.bool ?_
 first
   | rfl
   | (rw [Bool.true_and, bne, Bool.eq_iff_iff]; simp)
 first
   | (rw [if_pos rfl]; exact inferInstance)
   | (rw [if_neg (by decide)]; exact inferInstance)
 intro g2_7
 have hv : dD x.1 c.cats = true := by first | exact g2_7 | simpa using g2_7
 rw [hv]
 refine aa rfl (ap isAgg410 rfl (aA rfl)) ?_
 refine ar rfl rfl ?_
 refine aa rfl (ao rfl gW rfl az rfl (by first | exact Nat.zero_add _ | rfl)) ?_
 refine ar rfl rfl (aa rfl (ap aM rfl (aA rfl)) ?_)
 refine ar rfl rfl ?_
 refine aa rfl (ao rfl gW rfl az rfl (by first | exact Nat.zero_add _ | rfl)) ?_
 refine ar rfl rfl (aa rfl (ap aM rfl (aA rfl)) ?_)
 refine ar rfl rfl (aa rfl (ac rfl) (ar rfl rfl ?_))
 refine am rfl (bz call249 rfl (tM W0 _ bt T 32 (by decide) h1 (by omega) x.2.1 x.2.2 i)) ?_
 rintro _ B_ ⟨rfl, hB_⟩
 obtain rfl := hB_.symm
 refine ar rfl rfl (aa rfl (co rfl rfl) (aa rfl (aJ rfl rfl) (aa rfl (ai rfl) (ag (ab (av (au (.inl rfl) (.cons (ak rfl) .nil) ?_)))))))
 refine ⟨_, ⟨?_, rfl⟩, ?_⟩
 refine congrArg Value.bool ?_
 first
   | rfl
   | (rw [Bool.true_and, bne, Bool.eq_iff_iff]; simp)
 first
   | (rw [if_pos rfl]; exact inferInstance)
   | (rw [if_neg (by decide)]; exact inferInstance)
 ⟩
def fD (c : Cfg) : Bool := decide (8 < c.rl.length) || gk (iz c) c.rl.length
theorem zd (W0 : World) (R : List HP) (c : Cfg) (hs : ∀ A, cq (bI W0 A) c.ra 3 dZ c.rl) :
    aC Tryz.prog W0 114 [.agg (cj c).toArray] R (fun v B => ∃ r, v = .tuple #[.int .i64 r, .bool (fD c)] ∧ B = R) := by
 refine aF func114 ntmps114 rfl rfl ?_
 refine ae (ah (am rfl (bL rfl) ?_))
 rintro _ _ ⟨b1, rfl, rfl⟩
 refine aa rfl (ai rfl) (aa rfl (ai rfl) (ag (ab (ae (ae (ah ?_))))))
 refine aa rfl (ao rfl bw rfl ie rfl (by first | exact Nat.zero_add _ | rfl)) ?_
 refine aa rfl (ap ks rfl (aA rfl)) ?_
 refine aa rfl (bq g5 rfl) (aa rfl (cd rfl rfl) (ag (ab ?_)))
 refine ax rfl ?_ ?_
 intro c1
 refine ae (ah (aa rfl (ai rfl) (aa rfl (ai rfl) (ag (ab (av (aD (au (.inl rfl) (.cons (ak rfl) (.cons (ak rfl) .nil)) ?_))))))))
 rw [fD, decide_eq_true (by omega), Bool.true_or]
 exact ⟨_, ⟨0, rfl, rfl⟩, inferInstance⟩
 intro c1
 refine aB (ab (ae (ah ?_)))
 refine am rfl (aS call247 rfl (tK 32 (by decide))) ?_
 rintro _ B_ ⟨bt, rfl, hB_⟩
 obtain rfl := hB_.symm
 refine aa rfl (ac rfl) (aa rfl (aZ rfl rfl) (aa rfl (aZ rfl rfl) (am rfl (mV zeroValue410 rfl) ?_)))
 rintro _ _ ⟨b4, rfl, rfl⟩
 refine bE (ce vJ rfl rfl rfl (Nat.le_of_ble_eq_true rfl) SetL.eq) ?_
 rintro _ _ rfl
 refine aa rfl (ai rfl) (ag (ab (ae (fJ (B := kH 0 (bG [pt b1 (d7 c), pt b4 (aw [.pointer (some ⟨bt, 0, none⟩)] 410), gm bt ([], 32)]) :: R) inferInstance ?_))))
 refine xY ?_
 simp only [List.cons_append, List.nil_append]
 refine ah ?_
 refine aa rfl (ao rfl bw rfl ie rfl (by first | exact Nat.zero_add _ | rfl)) ?_
 refine aa rfl (ap ks rfl (aA rfl)) ?_
 refine aa rfl (bq g5 rfl) (aa rfl (iZ rfl rfl) ?_)
 refine am rfl (x9 (B := kH 0 (bG [pt b1 (d7 c), pt b4 (aw [.pointer (some ⟨bt, 0, none⟩)] 410), gm bt ([], 32)]) :: R) inferInstance (aS oB rfl (tG W0 R 248 [.pointer (some ⟨b1, 0, none⟩), .pointer (some ⟨b4, 0, none⟩)] c.rl.length (fun i => bG [pt b1 (d7 c), pt b4 (aw [.pointer (some ⟨bt, 0, none⟩)] 410), gm bt (et c i, 32)]) (iz c) (zc W0 b1 b4 bt c (by omega) hs) (by omega)))) ?_
 rintro _ B_ ⟨r, rfl, hB_⟩
 obtain rfl := hB_.symm
 refine aa rfl (aZ rfl rfl) (aa rfl (aZ rfl rfl) (aa rfl (ai rfl) (aa rfl (ai rfl) (ag (ab (av (au (.inl rfl) (.cons (ak rfl) (.cons (ak rfl) .nil)) ?_)))))))
 rw [fD, decide_eq_false (by omega), Bool.false_or]
 exact ⟨_, ⟨r, rfl, rfl⟩, inferInstance⟩
def gG (c : Cfg) (g : Int) (k : Nat) : Bool := (c.pl.take k).any fun q => decide (q.2 = g)
theorem ze (W0 : World) (R : List HP) (c : Cfg) (g : Int) (k : Nat) (hk : k < c.pl.length) (hl : c.pl.length ≤ 8) (hcap : c.pl.length ≤ c.pc) (hs : ∀ A, cq (bI W0 A) c.pa 2 dS c.pl) :
    aC Tryz.prog W0 252 [.agg (cj c).toArray, .int .i64 g, .int .i64 k] R (fun v B => v = .bool (gG c g k) ∧ B = R) := by
 refine aF func252 ntmps252 rfl rfl ?_
 refine ae (ah (am rfl (bL rfl) ?_))
 rintro _ _ ⟨b1, rfl, rfl⟩
 refine aa rfl (ai rfl) (ag (ab (ae (ae (ah ?_)))))
 refine aa rfl (ao rfl bw rfl fh rfl (by first | exact Nat.zero_add _ | rfl)) ?_
 refine aa rfl (ap ig rfl (aA rfl)) ?_
 refine aa rfl (ac rfl) ?_
 refine aa rfl (jN eT eN rfl rfl (h := k) rfl (by omega)) ?_
 refine aa rfl (bq eT rfl) (aa rfl (ac rfl) (ag (ab (b0 ?_))))
 refine cC (fun i : Nat => i ≤ k ∧ ∀ j, j < i → (c.pl.getD j (0, 0)).2 ≠ g) (fun i => [(1, .int .i64 g), (12, .slice c.pa k c.pc), (13, .int .i64 k), (14, .int .i64 i)]) (fun _ => R) (fun i => k - i) 0 ?_ ?_ ?_ ?_
 exact ⟨Nat.zero_le _, fun j hj => absurd hj (Nat.not_lt_zero _)⟩
 · repeat (first | exact aX | refine aU rfl ?_)
 exact inferInstance
 intro i ⟨hi, hI⟩
 refine ae (ah (aa rfl (aY rfl rfl) (ag (ab (ae ?_)))))
 refine ax rfl ?_ ?_
 intro c2
 refine aB (ab (ae (b0 (ae ?_))))
 have hi1 : i < c.pl.length := by omega
 have hik : i < k := by omega
 obtain ⟨gp, o, hpa, hc⟩ := (hs R).at_ hi1
 obtain ⟨x, hx⟩ : ∃ x, c.pl[i] = x := ⟨_, rfl⟩
 have hgd : c.pl.getD i (0, 0) = x := by simp [List.getD, hi1, hx]
 rw [hx] at hc
 refine ah ?_
 refine aa rfl (ec eT eN rfl hpa rfl rfl hik (by first | exact Nat.zero_add _ | rfl)) ?_
 refine aa rfl (cQ mt eN rfl hc.weak rfl) ?_
 refine am rfl (dd jy) ?_
 rintro _ _ ⟨bx, rfl, rfl⟩
 refine bE (cK eN rfl rfl rfl rfl rfl) ?_
 rintro _ _ rfl
 refine ag (ab (ae (ah ?_)))
 refine aa rfl (ao rfl eB rfl az rfl (by first | exact Nat.zero_add _ | rfl)) ?_
 refine aa rfl (ap aM rfl (aA rfl)) ?_
 refine aa rfl (ac rfl) (aa rfl (cz rfl rfl) (ag (ab ?_)))
 refine ax rfl ?_ ?_
 intro c4
 refine ae (ah (aa rfl (ai rfl) (ag (ab (av (bj (aD (aD (bj (aD (au (.inl rfl) (.cons (ak rfl) .nil) ?_)))))))))))
 have ht : gG c g k = true := by
  rw [gG, List.any_eq_true]
  exact ⟨x, by rw [← hx]; exact List.mem_take_iff_getElem.2 ⟨i, by omega, rfl⟩, decide_eq_true c4⟩
 rw [ht]
 exact ⟨_, ⟨rfl, rfl⟩, inferInstance⟩
 intro c4
 refine aB (bF (ab (ah ?_)))
 refine aa rfl (bC rfl rfl (by first | exact aW (by omega) | rfl)) ?_
 refine aa rfl (ac rfl) (ag (ab ?_))
 refine cp (i + 1) ?_ ?_ ?_ ?_
 refine ⟨by omega, fun j hj => ?_⟩
 rcases Nat.lt_or_ge j i with q | q
 exact hI j q
 rw [show j = i by omega, hgd]; exact c4
 omega
 · repeat (first | exact aX | refine aU rfl ?_)
 exact inferInstance
 intro c2
 refine bX (bi (bi (bZ (ab (ae (ah (aa rfl (ai rfl) (ag (ab (av (au (.inl rfl) (.cons (ak rfl) .nil) ?_)))))))))))
 have ht : gG c g k = false := by
  rw [gG, List.any_eq_false]
  intro x hx
  obtain ⟨j, hj, rfl⟩ := List.mem_take_iff_getElem.1 hx
  have := hI j (by omega)
  rw [show c.pl.getD j (0, 0) = c.pl[j]'(by omega) by simp [List.getD, show j < c.pl.length by omega]] at this
  simpa using this
 rw [ht]
 exact ⟨_, ⟨rfl, rfl⟩, inferInstance⟩
def iA (c : Cfg) (i : Nat) : Bool := !dD (c.pl.getD i (0, 0)).1 c.cats || (decide ((c.pl.getD i (0, 0)).2 ≠ -1) && (!dR c (c.pl.getD i (0, 0)).2 || decide ((c.pl.getD i (0, 0)).1 ≠ f0 c (c.pl.getD i (0, 0)).2) || gG c (c.pl.getD i (0, 0)).2 i))
theorem zf (W0 : World) (b1 : Nat) (c : Cfg) (hl : c.pl.length ≤ 8) (hcap : c.pl.length ≤ c.pc) (hs : ∀ A, cq (bI W0 A) c.pa 2 dS c.pl) (hgs : ∀ A, cq (bI W0 A) c.ga 3 dZ c.gl) :
    WF W0 250 [.pointer (some ⟨b1, 0, none⟩)] c.pl.length (fun _ => bG [pt b1 (d7 c)]) (iA c) := ⟨call250, fun i hi R => by
 refine kQ ?_
 simp only [List.cons_append, List.nil_append]
 obtain ⟨g, o, hpa, hc⟩ := (hs (pt b1 (d7 c) :: R)).at_ hi
 obtain ⟨⟨p, q⟩, hx⟩ : ∃ x, c.pl[i] = x := ⟨_, rfl⟩
 have hgd : c.pl.getD i (0, 0) = (p, q) := by simp [List.getD, hi, hx]
 have hW : iA c i = (!dD p c.cats || (decide (q ≠ -1) && (!dR c q || decide (p ≠ f0 c q) || gG c q i))) := by rw [iA, hgd]
 rw [hx] at hc
 rw [hW]
 have hrow : ∃ (gg og j : Nat) (vs : List Value), (∀ A, cJ (bI W0 A) gg (og + j * 3) vs) ∧ (dR c q = true → c.ga = some ⟨gg, og, none⟩ ∧ q = (j : Int) ∧ j < c.gl.length ∧ ∃ u : Int × Int × Int, vs = dZ u ∧ f0 c q = u.1) := by
  cases hG : dR c q with
  | false => exact ⟨0, 0, 0, [], fun A k v hk => by simp at hk, fun h => by cases h⟩
  | true =>
   have hb : 0 ≤ q ∧ q < c.gl.length := of_decide_eq_true hG
   obtain ⟨j, rfl⟩ : ∃ j : Nat, q = (j : Int) := ⟨q.toNat, by omega⟩
   have hj : j < c.gl.length := by omega
   obtain ⟨gg, og, hga, _⟩ := (hgs []).at_ hj
   refine ⟨gg, og, j, dZ c.gl[j], fun A => ?_, fun _ => ⟨hga, rfl, hj, c.gl[j], rfl, ?_⟩⟩
   obtain ⟨g2, o2, h2, hc2⟩ := (hgs A).at_ hj
   rw [hga] at h2; cases h2; exact hc2
   rw [f0, Int.toNat_natCast]; simp [List.getD, hj]
 obtain ⟨gg, og, j, vs, hcv, hrw⟩ := hrow
 obtain ⟨w, hw⟩ : ∃ w, dR c q = w := ⟨_, rfl⟩
 rw [hw] at hrw ⊢
 refine aF func250 ntmps250 rfl rfl ?_
 refine ae (ah (aa rfl (ai rfl) (ag (ab (ae (ah ?_))))))
 refine aa rfl (ao rfl bw rfl fh rfl (by first | exact Nat.zero_add _ | rfl)) ?_
 refine aa rfl (ap ig rfl (aA rfl)) ?_
 refine aa rfl (ac rfl) ?_
 refine aa rfl (ec eT eN rfl hpa rfl rfl hi (by first | exact Nat.zero_add _ | rfl)) ?_
 refine aa rfl (cQ mt eN rfl hc.weak rfl) ?_
 refine am rfl (dd jy) ?_
 rintro _ _ ⟨bx, rfl, rfl⟩
 refine bE (cK eN rfl rfl rfl rfl rfl) ?_
 rintro _ _ rfl
 refine ag (ab (ae (b0 (ae (ah ?_)))))
 refine aa rfl (ao rfl eB rfl az rfl (by first | exact Nat.zero_add _ | rfl)) ?_
 refine aa rfl (ap aM rfl (aA rfl)) ?_
 refine aa rfl (ao rfl bw rfl az rfl (by first | exact Nat.zero_add _ | rfl)) ?_
 refine aa rfl (ap aM rfl (aA rfl)) ?_
 refine am rfl (aS vE rfl (qd p c.cats)) ?_
 rintro _ B_ ⟨rfl, hB_⟩
 obtain rfl := hB_.symm
 refine aa rfl (bN rfl) (aa rfl (ai rfl) (ag (ab ?_)))
 refine ax rfl ?_ ?_
 intro c2
 refine ae (ah (aa rfl (ai rfl) (ag (ab (av (bj (aD (au (.inl rfl) (.cons (ak rfl) .nil) ?_))))))))
 have hv : dD p c.cats = false := by first | exact c2 | simpa using c2
 rw [hv]
 exact ⟨_, ⟨rfl, rfl⟩, inferInstance⟩
 intro c2
 have hv : dD p c.cats = true := by first | exact c2 | simpa using c2
 rw [hv]
 refine ae (ah ?_)
 refine aa rfl (ao rfl eB rfl az rfl (by first | exact Nat.zero_add _ | rfl)) ?_
 refine aa rfl (ap aM rfl (aA rfl)) ?_
 refine aa rfl (cz rfl rfl) (aa rfl (ai rfl) (ag (ab ?_)))
 refine ax rfl ?_ ?_
 intro c4
 refine ae (ah (aa rfl (ai rfl) (ag (ab (av (bj (aD (au (.inl rfl) (.cons (ak rfl) .nil) ?_))))))))
 rw [decide_eq_false (by omega)]
 exact ⟨_, ⟨rfl, rfl⟩, inferInstance⟩
 intro c4
 refine ae (ah (aa rfl (cu cm bS rfl rfl) ?_))
 refine aa rfl (ao rfl eB rfl az rfl (by first | exact Nat.zero_add _ | rfl)) ?_
 refine aa rfl (ap aM rfl (aA rfl)) ?_
 refine am rfl (aS lw rfl (jX c q)) ?_
 rintro _ B_ ⟨rfl, hB_⟩
 obtain rfl := hB_.symm
 rw [hw]
 refine aa rfl (bN rfl) (aa rfl (ai rfl) (ag (ab ?_)))
 refine ax rfl ?_ ?_
 intro c6
 refine ae (ah (aa rfl (ai rfl) (ag (ab (av (bj (aD (au (.inl rfl) (.cons (ak rfl) .nil) ?_))))))))
 have hw0 : w = false := by first | exact c6 | simpa using c6
 rw [hw0, decide_eq_true (by omega)]
 exact ⟨_, ⟨rfl, rfl⟩, inferInstance⟩
 intro c6
 obtain rfl : w = true := by first | exact c6 | simpa using c6
 obtain ⟨hga, hqj, hj, u, rfl, hlu⟩ := hrw rfl
 rw [hlu, decide_eq_true (by omega : q ≠ -1)]
 have hne : ¬ q = -1 := by omega
 refine aB (bF (ab (ae ?_)))
 refine cY [(b1, 0, cj c), (bx, 0, dS (p, q)), (gg, og + j * 3, dZ u)] 18 cV rfl (aV (aV (df (hcv _) aK))) (fun hS => ?_)
 refine aj 0 rfl rfl (by kernel_rfl) (by kernel_rfl) (by kernel_rfl) rfl hS (ao rfl eB rfl az rfl (by first | exact Nat.zero_add _ | rfl)) ?_
 refine aj 1 rfl rfl (by kernel_rfl) (by kernel_rfl) (by kernel_rfl) rfl hS (ap aM rfl (by first | exact aG (k := 0) rfl rfl | exact aG (k := 1) rfl rfl | exact aG (k := 2) rfl rfl | exact aG (k := 3) rfl rfl)) ?_
 refine aj 2 rfl rfl (by kernel_rfl) (by kernel_rfl) (by kernel_rfl) rfl hS (ao rfl bw rfl du rfl (by first | exact Nat.zero_add _ | rfl)) ?_
 refine aj 3 rfl rfl (by kernel_rfl) (by kernel_rfl) (by kernel_rfl) rfl hS (ap dy rfl (by first | exact aG (k := 0) rfl rfl | exact aG (k := 1) rfl rfl | exact aG (k := 2) rfl rfl | exact aG (k := 3) rfl rfl)) ?_
 refine aj 4 rfl rfl (by kernel_rfl) (by kernel_rfl) (by kernel_rfl) rfl hS (ao rfl eB rfl az rfl (by first | exact Nat.zero_add _ | rfl)) ?_
 refine aj 5 rfl rfl (by kernel_rfl) (by kernel_rfl) (by kernel_rfl) rfl hS (ap aM rfl (by first | exact aG (k := 0) rfl rfl | exact aG (k := 1) rfl rfl | exact aG (k := 2) rfl rfl | exact aG (k := 3) rfl rfl)) ?_
 refine aj 6 rfl rfl (by kernel_rfl) (by kernel_rfl) (by kernel_rfl) rfl hS (ec dj ej rfl hga rfl hqj hj (by first | exact Nat.zero_add _ | rfl)) ?_
 refine aj 7 rfl rfl (by kernel_rfl) (by kernel_rfl) (by kernel_rfl) rfl hS (ao rfl dO rfl az rfl (by first | exact Nat.zero_add _ | rfl)) ?_
 refine aj 8 rfl rfl (by kernel_rfl) (by kernel_rfl) (by kernel_rfl) rfl hS (ap aM rfl (eW (k := 2) (j := 0) rfl rfl)) ?_
 refine aj 9 rfl rfl (by kernel_rfl) (by kernel_rfl) (by kernel_rfl) rfl hS (co rfl rfl) ?_
 refine aj 10 rfl rfl (by kernel_rfl) (by kernel_rfl) (by kernel_rfl) rfl hS (ac rfl) ?_
 refine f7 (t := 37) rfl ?_ ?_
 intro g8_11
 refine bp 11 rfl rfl (by kernel_rfl) (by kernel_rfl) (by kernel_rfl) rfl hS ?_
 refine bp 12 rfl rfl (by kernel_rfl) (by kernel_rfl) (by kernel_rfl) rfl hS ?_
 refine bp 13 rfl rfl (by kernel_rfl) (by kernel_rfl) (by kernel_rfl) rfl hS ?_
 refine bp 14 rfl rfl (by kernel_rfl) (by kernel_rfl) (by kernel_rfl) rfl hS ?_
 refine bp 15 rfl rfl (by kernel_rfl) (by kernel_rfl) (by kernel_rfl) rfl hS ?_
 refine aj 16 rfl rfl (by kernel_rfl) (by kernel_rfl) (by kernel_rfl) rfl hS (aT rfl rfl) ?_
 refine aj 17 rfl rfl (by kernel_rfl) (by kernel_rfl) (by kernel_rfl) rfl hS (ai rfl) ?_
 refine cg (by kernel_rfl) ?_; clear hS
 refine ab (av (au (.inl rfl) (.cons (ak rfl) .nil) ?_))
 refine ⟨_, ⟨?_, rfl⟩, inferInstance⟩
 refine congrArg Value.bool ?_
 rw [Bool.eq_iff_iff]
 simp_all
 intro g8_11
 refine aj 11 rfl rfl (by kernel_rfl) (by kernel_rfl) (by kernel_rfl) rfl hS (cQ cm bS rfl (by first | exact dA (k := 0) rfl | exact dA (k := 1) rfl | exact dA (k := 2) rfl | exact dA (k := 3) rfl) rfl) ?_
 refine aj 12 rfl rfl (by kernel_rfl) (by kernel_rfl) (by kernel_rfl) rfl hS (ao rfl eB rfl az rfl (by first | exact Nat.zero_add _ | rfl)) ?_
 refine aj 13 rfl rfl (by kernel_rfl) (by kernel_rfl) (by kernel_rfl) rfl hS (ap aM rfl (by first | exact aG (k := 0) rfl rfl | exact aG (k := 1) rfl rfl | exact aG (k := 2) rfl rfl | exact aG (k := 3) rfl rfl)) ?_
 refine aj 14 rfl rfl (by kernel_rfl) (by kernel_rfl) (by kernel_rfl) rfl hS (ac rfl) ?_
 refine bB 15 (by kernel_rfl) rfl rfl (aS call252 rfl (ze W0 _ c q i hi hl hcap hs)) rfl ?_; clear hS
 rintro _ B_ ⟨rfl, hB_⟩
 obtain rfl := hB_.symm
 refine ⟨(aV (aV (df (hcv _) aK))), fun hS => ?_⟩
 refine aj 16 rfl rfl (by kernel_rfl) (by kernel_rfl) (by kernel_rfl) rfl hS (aJ rfl rfl) ?_
 refine aj 17 rfl rfl (by kernel_rfl) (by kernel_rfl) (by kernel_rfl) rfl hS (ai rfl) ?_
 refine cg (by kernel_rfl) ?_; clear hS
 refine ab (av (au (.inl rfl) (.cons (ak rfl) .nil) ?_))
 refine ⟨_, ⟨?_, rfl⟩, inferInstance⟩
 refine congrArg Value.bool ?_
 rw [Bool.eq_iff_iff]
 simp_all
 ⟩
def gH (c : Cfg) : Bool := decide (8 < c.pl.length) || gk (iA c) c.pl.length
theorem zg (W0 : World) (R : List HP) (c : Cfg) (hcap : c.pl.length ≤ c.pc) (hs : ∀ A, cq (bI W0 A) c.pa 2 dS c.pl) (hgs : ∀ A, cq (bI W0 A) c.ga 3 dZ c.gl) :
    aC Tryz.prog W0 115 [.agg (cj c).toArray] R (fun v B => ∃ r, v = .tuple #[.int .i64 r, .bool (gH c)] ∧ B = R) := by
 refine aF func115 ntmps115 rfl rfl ?_
 refine ae (ah (am rfl (bL rfl) ?_))
 rintro _ _ ⟨b1, rfl, rfl⟩
 refine aa rfl (ai rfl) (aa rfl (ai rfl) (ag (ab (ae (ae (ah ?_))))))
 refine aa rfl (ao rfl bw rfl fh rfl (by first | exact Nat.zero_add _ | rfl)) ?_
 refine aa rfl (ap ig rfl (aA rfl)) ?_
 refine aa rfl (bq eT rfl) (aa rfl (cd rfl rfl) (ag (ab ?_)))
 refine ax rfl ?_ ?_
 intro c1
 refine ae (ah (aa rfl (ai rfl) (aa rfl (ai rfl) (ag (ab (av (aD (au (.inl rfl) (.cons (ak rfl) (.cons (ak rfl) .nil)) ?_))))))))
 rw [gH, decide_eq_true (by omega), Bool.true_or]
 exact ⟨_, ⟨0, rfl, rfl⟩, inferInstance⟩
 intro c1
 refine aB (ab (ae (ah ?_)))
 refine aa rfl (ao rfl bw rfl fh rfl (by first | exact Nat.zero_add _ | rfl)) ?_
 refine aa rfl (ap ig rfl (aA rfl)) ?_
 refine aa rfl (bq eT rfl) (aa rfl (iZ rfl rfl) ?_)
 refine am rfl (bz oB rfl (nG W0 _ 250 [.pointer (some ⟨b1, 0, none⟩)] c.pl.length b1 _ (iA c) (zf W0 b1 c (by omega) hcap hs hgs) (by omega))) ?_
 rintro _ B_ ⟨r, rfl, hB_⟩
 obtain rfl := hB_.symm
 refine aa rfl (aZ rfl rfl) (aa rfl (aZ rfl rfl) (aa rfl (ai rfl) (aa rfl (ai rfl) (ag (ab (av (au (.inl rfl) (.cons (ak rfl) (.cons (ak rfl) .nil)) ?_)))))))
 rw [gH, decide_eq_false (by omega), Bool.false_or]
 exact ⟨_, ⟨r, rfl, rfl⟩, inferInstance⟩
structure CfOk (W0 : World) (c : Cfg) : Prop where
  g : ∀ A, cq (bI W0 A) c.ga 3 dZ c.gl
  r : ∀ A, cq (bI W0 A) c.ra 3 dZ c.rl
  p : ∀ A, cq (bI W0 A) c.pa 2 dS c.pl
  n : ∀ A, cq (bI W0 A) c.na 2 dS c.nl
  s : ∀ A, cq (bI W0 A) c.sa 2 dS c.sl
  pc : c.pl.length ≤ c.pc
def zh (W0 : World) (c : Cfg) (C : HP) (l : List (Value × Int × Bool)) : Prop := ∀ x ∈ l, ∃ fn cs, x.1 = .func (.func fn) #[] cs.toArray ∧ (∀ args w, (callFunc fn args).run Tryz.prog w = .ok (.enter fn args) w) ∧
  ∀ R, aC Tryz.prog W0 fn ([] ++ [.agg (cj c).toArray] ++ cs) (kH 0 C :: R) (fun v B => ∃ r, v = .tuple #[.int .i64 r, .bool x.2.2] ∧ B = kH 0 C :: R)
def gQ : List (Value × Int × Bool) → Int
 | [] => 0
 | x :: t => if x.2.2 then x.2.1 else gQ t
theorem tZ : ∀ (l : List (Value × Int × Bool)) (i : Nat) (hi : i < l.length), (∀ j (hj : j < l.length), j < i → l[j].2.2 = false) → l[i].2.2 = true → gQ l = l[i].2.1
 | x :: t, 0, _, _, h => by rw [gQ, if_pos (by simpa using h)]; rfl
 | x :: t, i + 1, hi, h1, h2 => by
  have h0 := h1 0 (by simp) (by omega)
  rw [gQ, if_neg (by simpa using h0), tZ t i (by simpa using hi) (fun j hj hji => by
   have := h1 (j + 1) (by simpa using hj) (by omega)
   simpa using this) (by simpa using h2)]
  simp
theorem u0 : ∀ (l : List (Value × Int × Bool)), (∀ j (hj : j < l.length), l[j].2.2 = false) → gQ l = 0
 | [], _ => rfl
 | x :: t, h => by
  have h0 := h 0 (by simp)
  rw [gQ, if_neg (by simpa using h0), u0 t (fun j hj => by
   have := h (j + 1) (by simpa using hj)
   simpa using this)]
def kU (x : Value × Int × Bool) : List Value := [x.1, .int .i64 x.2.1]
def ed (c : Cfg) (bg : Nat) : List (Value × Int × Bool) := [(.func (.func 113) #[] #[], 13, eZ c), (.func (.func 114) #[] #[], 14, fD c), (.func (.func 115) #[] #[], 15, gH c), (.func (.func 116) #[] #[], 16, eR c), (.func (.func 117) #[] #[], 17, gF c), (.func (.func 112) #[] #[.pointer (some ⟨bg, 0, none⟩)], 18, fB c)]
theorem zi (W0 : World) (R : List HP) (bg : Nat) (x : Bool) (c : Cfg) : aC Tryz.prog W0 112 [.agg (cj c).toArray, .pointer (some ⟨bg, 0, none⟩)] (pt bg (aw [.bool x] 4) :: R) (fun v B => v = .tuple #[.int .i64 0, .bool x] ∧ B = pt bg (aw [.bool x] 4) :: R) := by
 refine aF func112 ntmps112 rfl rfl ?_
 refine ae (ah (am rfl (bL rfl) ?_))
 rintro _ _ ⟨b2, rfl, rfl⟩
 refine aa rfl (ai rfl) (aa rfl (ai rfl) (ag (ab (ae ?_))))
 refine cY [(bg, 0, _)] 3 cV rfl (aV aK) (fun hS => ?_)
 refine aj 0 rfl rfl (by kernel_rfl) (by kernel_rfl) (by kernel_rfl) rfl hS (ap ib rfl (aG (k := 0) rfl rfl)) ?_
 refine aj 1 rfl rfl (by kernel_rfl) (by kernel_rfl) (by kernel_rfl) rfl hS (ai rfl) ?_
 refine aj 2 rfl rfl (by kernel_rfl) (by kernel_rfl) (by kernel_rfl) rfl hS (ai rfl) ?_
 refine cg (by kernel_rfl) ?_; clear hS
 refine ab (av (au (.inl rfl) (.cons (ak rfl) (.cons (ak rfl) .nil)) ?_))
 exact ⟨_, ⟨rfl, rfl⟩, inferInstance⟩
theorem zj (x : Bool) : aC Tryz.prog W0 111 [.bool x] R (fun v B => ∃ bg, v = .func (.func 112) #[] #[.pointer (some ⟨bg, 0, none⟩)] ∧ B = pt bg (aw [.bool x] 4) :: R) := by
 refine aF func111 ntmps111 rfl rfl ?_
 refine ae (ah (am rfl (ji rfl rfl) ?_))
 rintro _ _ ⟨bg, rfl, rfl⟩
 refine aa rfl (ai rfl) (ag (ab (ae (ah (aa rfl (iZ rfl rfl) ?_)))))
 refine aa rfl (ai rfl) (ag (ab (av (au (.inl rfl) (.cons (ak rfl) .nil) ?_))))
 exact ⟨_, ⟨bg, rfl, rfl⟩, inferInstance⟩
theorem zk (W0 : World) (c : Cfg) (h : CfOk W0 c) (bg : Nat) : zh W0 c (bG [pt bg (aw [.bool (fB c)] 4)]) (ed c bg) := by
 intro x hx
 simp only [ed, List.mem_cons, List.not_mem_nil, or_false] at hx
 rcases hx with rfl | rfl | rfl | rfl | rfl | rfl
 exact ⟨_, [], rfl, call113, fun R => yJ W0 _ c h.g⟩
 exact ⟨_, [], rfl, call114, fun R => zd W0 _ c h.r⟩
 exact ⟨_, [], rfl, call115, fun R => zg W0 _ c h.pc h.p h.g⟩
 exact ⟨_, [], rfl, call116, fun R => yO W0 _ c h.n h.g⟩
 exact ⟨_, [], rfl, call117, fun R => yL W0 _ c h.s⟩
 exact ⟨_, [.pointer (some ⟨bg, 0, none⟩)], rfl, call112, fun R => kQ (p8 (zi W0 R bg (fB c) c) fun v B hB => by
  obtain ⟨rfl, rfl⟩ := hB
  exact ⟨_, ⟨0, rfl, rfl⟩, inferInstance⟩)⟩
def gn (c : Cfg) : Int := if c.cats < 0 ∨ 8 < c.cats then 12 else if eZ c then 13 else if fD c then 14 else if gH c then 15 else if eR c then 16 else if gF c then 17 else if fB c then 18 else if 32 < dq c c.gl.length then 19 else 0
theorem zl (c : Cfg) (bg : Nat) (h : ¬ (c.cats < 0 ∨ 8 < c.cats)) : gn c = if gQ (ed c bg) = 0 ∧ 32 < dq c c.gl.length then 19 else gQ (ed c bg) := by
 rw [gn, if_neg h]
 simp only [ed, gQ]
 generalize eZ c = a1; generalize fD c = a2; generalize gH c = a3; generalize eR c = a4; generalize gF c = a5; generalize fB c = a6
 cases a1 <;> cases a2 <;> cases a3 <;> cases a4 <;> cases a5 <;> cases a6 <;> simp
theorem nM {w : Nat → Bool} {n i : Nat} (h : gk w n = false) (hi : i < n) : w i = false := by
 rw [← Bool.not_eq_true]; intro q
 rw [kT hi q] at h; cases h
theorem kV {c : Cfg} (h : eZ c = false) : 1 ≤ c.gl.length ∧ c.gl.length ≤ 4 ∧ ∀ g ∈ c.gl, dD g.1 c.cats = true ∧ 1 ≤ g.2.1 ∧ g.2.1 ≤ 8 ∧ 0 ≤ g.2.2 ∧ g.2.2 ≤ 8 - g.2.1 := by
 simp only [eZ, Bool.or_eq_false_iff, decide_eq_false_iff_not] at h
 obtain ⟨h1, h2⟩ := h
 refine ⟨by omega, by omega, fun g hg => ?_⟩
 obtain ⟨i, hi, rfl⟩ := List.getElem_of_mem hg
 have := nM h2 hi
 rw [show c.gl.getD i (0, 0, 0) = c.gl[i] by simp [List.getD, hi]] at this
 exact m9.1 this
theorem qp {c : Cfg} (h : fD c = false) : c.rl.length ≤ 8 ∧ ∀ r ∈ c.rl, dD r.1 c.cats = true ∧ 0 ≤ r.2.1 ∧ 1 ≤ r.2.2 ∧ r.2.1 + r.2.2 ≤ 32 := by
 simp only [fD, Bool.or_eq_false_iff, decide_eq_false_iff_not] at h
 obtain ⟨h1, h2⟩ := h
 refine ⟨by omega, fun r hr => ?_⟩
 obtain ⟨i, hi, rfl⟩ := List.getElem_of_mem hr
 have := nM h2 hi
 rw [iz, show fC c i = c.rl[i] by simp [fC, List.getD, hi], Bool.not_eq_false', Bool.and_eq_true, decide_eq_true_iff] at this
 obtain ⟨q1, q2⟩ := this
 refine ⟨q1, ?_⟩
 unfold dr at q2
 split at q2
 exact absurd q2 (by decide)
 omega
theorem qq (W0 : World) (R : List HP) (c : Cfg) (h : CfOk W0 c) :
    aC Tryz.prog W0 45 [.agg (cj c).toArray] R (fun v B => ∃ at_, v = .tuple #[.int .i64 (gn c), .int .i64 at_] ∧ B = R) := by
 refine aF func45 ntmps45 rfl rfl ?_
 refine ae (ah (am rfl (bL rfl) ?_))
 rintro _ _ ⟨b1, rfl, rfl⟩
 refine aa rfl (ai rfl) (aa rfl (ai rfl) (ag (ab (tj (ae (ah (aa rfl (ai rfl) (ag (ab (ae (ae (ah ?_))))))))))))
 refine aa rfl (ao rfl bw rfl az rfl (by first | exact Nat.zero_add _ | rfl)) ?_
 refine aa rfl (ap aM rfl (aA rfl)) ?_
 refine aa rfl (aY rfl rfl) (aa rfl (ac rfl) ?_)
 refine bA rfl rfl rfl ?_ ?_
 intro g2_4
 refine al rfl rfl rfl rfl (al rfl rfl rfl rfl (aa rfl (aT rfl rfl) (ag (ab (bR rfl (ae (ah (aa rfl (ai rfl) (aa rfl (ai rfl) (ag (ab (av (aD (jV (au (.inl rfl) (.cons (ak rfl) (.cons (ak rfl) .nil)) ?_)))))))))))))))
 have he : gn c = 12 := by rw [gn, if_pos (by omega)]
 rw [he]
 exact ⟨_, ⟨0, rfl, rfl⟩, inferInstance⟩
 intro g2_4
 refine aa rfl (ao rfl bw rfl az rfl (by first | exact Nat.zero_add _ | rfl)) ?_
 refine ar rfl rfl (aa rfl (ap aM rfl (aA rfl)) ?_)
 refine ar rfl rfl (aa rfl (cd rfl rfl) (aa rfl (aJ rfl rfl) (ag (ab ?_))))
 refine ax rfl ?_ ?_
 intro c2
 refine ae (ah (aa rfl (ai rfl) (aa rfl (ai rfl) (ag (ab (av (aD (jV (au (.inl rfl) (.cons (ak rfl) (.cons (ak rfl) .nil)) ?_)))))))))
 have he : gn c = 12 := by rw [gn, if_pos (by omega)]
 rw [he]
 exact ⟨_, ⟨0, rfl, rfl⟩, inferInstance⟩
 intro c2
 refine aB (ab (ae (ah (aa rfl (ai rfl) (aa rfl (ai rfl) (ag (ab (ae (s3 (ab ?_))))))))))
 refine gM (fun e : Int × Int => e.1 = gQ (ed c 0) ∧ ¬ (c.cats < 0 ∨ 8 < c.cats)) (fun e => [(1, .pointer (some ⟨b1, 0, none⟩)), (5, .int .i64 e.2), (6, .int .i64 e.1)]) (fun _ => pt b1 (d7 c) :: R) ?_ ?_
 skip
 refine ae (ah (aa rfl (bQ kt ku (aE ii (aE ij bP)) (bn rfl ii rfl rfl (Nat.le_of_ble_eq_true rfl) SetL.eq (bn rfl ij rfl rfl (Nat.le_of_ble_eq_true rfl) SetL.eq bO))) ?_))
 refine aa rfl (bQ kt ku (aE ii (aE ij bP)) (bn rfl ii rfl rfl (Nat.le_of_ble_eq_true rfl) SetL.eq (bn rfl ij rfl rfl (Nat.le_of_ble_eq_true rfl) SetL.eq bO))) ?_
 refine aa rfl (bQ kt ku (aE ii (aE ij bP)) (bn rfl ii rfl rfl (Nat.le_of_ble_eq_true rfl) SetL.eq (bn rfl ij rfl rfl (Nat.le_of_ble_eq_true rfl) SetL.eq bO))) ?_
 refine aa rfl (bQ kt ku (aE ii (aE ij bP)) (bn rfl ii rfl rfl (Nat.le_of_ble_eq_true rfl) SetL.eq (bn rfl ij rfl rfl (Nat.le_of_ble_eq_true rfl) SetL.eq bO))) ?_
 refine aa rfl (bQ kt ku (aE ii (aE ij bP)) (bn rfl ii rfl rfl (Nat.le_of_ble_eq_true rfl) SetL.eq (bn rfl ij rfl rfl (Nat.le_of_ble_eq_true rfl) SetL.eq bO))) ?_
 refine aa rfl (ac rfl) (aa rfl (cu cm bS rfl rfl) ?_)
 refine am rfl (aS call118 rfl (yM c)) ?_
 rintro _ B_ ⟨rfl, hB_⟩
 obtain rfl := hB_.symm
 refine am rfl (p6 rfl call111 rfl (zj (fB c))) ?_
 rintro _ B_ ⟨bg, rfl, hB_⟩
 obtain rfl := hB_.symm
 refine aa rfl (bQ kt ku (aE ii (aE ij bP)) (bn rfl ii rfl rfl (Nat.le_of_ble_eq_true rfl) SetL.eq (bn rfl ij rfl rfl (Nat.le_of_ble_eq_true rfl) SetL.eq bO))) ?_
 refine am rfl (fN vK rH ku rfl (eM rfl rfl (eM rfl rfl (eM rfl rfl (eM rfl rfl (eM rfl rfl (eM rfl rfl fM)))))) rfl (by decide) (by decide) (by decide)) ?_
 rintro _ _ ⟨bl, rfl, rfl⟩
 refine iu (b := bl) (o' := aw ((ed c bg).flatMap kU) 258) rfl ?_
 refine aa rfl (bq vK rfl) (aa rfl (ac rfl) (ag (ab (b0 ?_))))
 refine cC (fun i : Nat => i ≤ 6 ∧ ∀ j (hj : j < (ed c bg).length), j < i → ((ed c bg)[j]).2.2 = false) (fun i => [(1, .pointer (some ⟨b1, 0, none⟩)), (5, .int .i64 0), (6, .int .i64 0), (29, .slice (some ⟨bl, 0, none⟩) 6 6), (30, .int .i64 6), (31, .int .i64 i)]) (fun _ => pt bl (aw ((ed c bg).flatMap kU) 258) :: pt b1 (d7 c) :: kH 0 (bG [pt bg (aw [.bool (fB c)] 4)]) :: R) (fun i => 6 - i) 0 ?_ ?_ ?_ ?_
 exact ⟨Nat.zero_le _, fun j hj q => absurd q (Nat.not_lt_zero _)⟩
 · repeat (first | exact aX | refine aU rfl ?_)
 exact inferInstance
 intro i ⟨hi, hI⟩
 refine ae (ah (aa rfl (aY rfl rfl) (ag (ab (ae ?_)))))
 refine ax rfl ?_ ?_
 intro c6
 refine aB (ab (ae (b0 (ae ?_))))
 have hi1 : i < 6 := by omega
 have hlen : (ed c bg).length = 6 := rfl
 have hil : i < (ed c bg).length := by rw [hlen]; exact hi1
 have hok := zk W0 c h bg (ed c bg)[i] (List.getElem_mem hil)
 have hEq := tZ (ed c bg) i hil hI
 have hnx : (ed c bg)[i].2.2 = false → ∀ j (hj : j < (ed c bg).length), j < i + 1 → ((ed c bg)[j]).2.2 = false := fun q j hj hji => by
  rcases Nat.lt_or_ge j i with q2 | q2
  exact hI j hj q2
  obtain rfl : j = i := by omega
  exact q
 have hcell : cJ (bI W0 (pt bl (aw ((ed c bg).flatMap kU) 258) :: pt b1 (d7 c) :: kH 0 (bG [pt bg (aw [.bool (fB c)] 4)]) :: R)) bl (i * 2) (kU (ed c bg)[i]) := by
  obtain ⟨b, off, e1, hc⟩ := jk (W0 := W0) (A := pt bl (aw ((ed c bg).flatMap kU) 258) :: pt b1 (d7 c) :: kH 0 (bG [pt bg (aw [.bool (fB c)] 4)]) :: R) (f := kU) (sz := 2) (xs := ed c bg) (b := bl) (fun _ => rfl) rfl i (ed c bg)[i] (by simp [hil])
  cases e1
  rwa [Nat.zero_add] at hc
 generalize hy : (ed c bg)[i] = y at hok hEq hnx hcell
 obtain ⟨yv, ye, yb⟩ := y
 obtain ⟨fn, cs, rfl, hcall, hsp⟩ := hok
 dsimp only at hEq hnx hsp
 refine ah ?_
 refine aa rfl (bY vK rH rfl rfl rfl hi1 (by first | exact Nat.zero_add _ | rfl)) ?_
 refine aa rfl (cQ isAgg258 rH rfl hcell rfl) ?_
 refine am rfl (dd ku) ?_
 rintro _ _ ⟨bx, rfl, rfl⟩
 refine bE (cK rH rfl rfl rfl rfl rfl) ?_
 rintro _ _ rfl
 refine ag (ab (ae (ah ?_)))
 refine aa rfl (ao rfl kt rfl ii rfl (by first | exact Nat.zero_add _ | rfl)) ?_
 refine aa rfl (ap isAgg255 rfl (aA rfl)) ?_
 refine aa rfl (cu cm bS rfl rfl) ?_
 refine am rfl (p7 (us := []) (cs := cs) rfl hcall rfl (hsp _)) ?_
 rintro _ B_ ⟨r_, rfl, hB_⟩
 obtain rfl := hB_.symm
 refine aa rfl (ac rfl) (aa rfl (aZ rfl rfl) (aa rfl (aZ rfl rfl) (aa rfl (ai rfl) (aa rfl (ai rfl) (ag (ab (ae (ah (aa rfl (ac rfl) (ag (ab ?_)))))))))))
 refine ax rfl ?_ ?_
 intro c9
 refine ae ?_
 refine cY [(bx, 0, _)] 5 cV rfl (aV aK) (fun hS => ?_)
 refine aj 0 rfl rfl (by kernel_rfl) (by kernel_rfl) (by kernel_rfl) rfl hS (ac rfl) ?_
 refine aj 1 rfl rfl (by kernel_rfl) (by kernel_rfl) (by kernel_rfl) rfl hS (ao rfl kt rfl ij rfl (by first | exact Nat.zero_add _ | rfl)) ?_
 refine aj 2 rfl rfl (by kernel_rfl) (by kernel_rfl) (by kernel_rfl) rfl hS (ap isAgg51 rfl (aG (k := 0) rfl rfl)) ?_
 refine aj 3 rfl rfl (by kernel_rfl) (by kernel_rfl) (by kernel_rfl) rfl hS (ai rfl) ?_
 refine aj 4 rfl rfl (by kernel_rfl) (by kernel_rfl) (by kernel_rfl) rfl hS (ai rfl) ?_
 refine cg (by kernel_rfl) ?_; clear hS
 refine ab (bX (eK rfl (bi (bi (bZ (ab ?_))))))
 refine dK (ye, r_) ?_ ?_ ?_
 exact ⟨(hEq c9).symm, by omega⟩
 · repeat (first | exact aX | refine aU rfl ?_)
 exact inferInstance
 intro c9
 refine aB (bF (ab (ah ?_)))
 refine aa rfl (bC rfl rfl (by first | exact aW (by omega) | rfl)) ?_
 refine aa rfl (ac rfl) (ag (ab ?_))
 refine cp (i + 1) ?_ ?_ ?_ ?_
 exact ⟨by omega, hnx (by simpa using c9)⟩
 omega
 · repeat (first | exact aX | refine aU rfl ?_)
 exact inferInstance
 intro c6
 refine bX (bi (bi (bZ (ab ?_))))
 refine dK ((0 : Int), (0 : Int)) ?_ ?_ ?_
 obtain rfl : i = 6 := by omega
 exact ⟨(u0 _ fun j hj => hI j hj (by have : (ed c bg).length = 6 := rfl; omega)).symm, by omega⟩
 · repeat (first | exact aX | refine aU rfl ?_)
 exact inferInstance
 intro ⟨e, at_⟩ ⟨he, hcat⟩
 dsimp only at he ⊢
 have hce := zl c 0 hcat
 rw [← he] at hce
 refine ae (ae (ah (aa rfl (ac rfl) (aa rfl (cz rfl rfl) (aa rfl (ac rfl) ?_)))))
 refine cG rfl rfl rfl ?_ ?_
 intro g12_3
 have hall : gQ (ed c 0) = 0 := by rw [← he]; exact g12_3
 have hgr : eZ c = false := by
  rw [← Bool.not_eq_true]; intro q; simp only [ed, gQ, q, if_true] at hall; exact absurd hall (by decide)
 have hri : eR c = false := by
  rw [← Bool.not_eq_true]; intro q; simp only [ed, gQ, q, if_true] at hall; split at hall <;> (try split at hall) <;> (try split at hall) <;> exact absurd hall (by decide)
 obtain ⟨k1, k2, k3⟩ := kV hgr
 have k4 : c.nl.length ≤ 4 := by
  simp only [eR, Bool.or_eq_false_iff, decide_eq_false_iff_not] at hri; omega
 refine aa rfl (cu cm bS rfl rfl) ?_
 refine ar rfl rfl ?_
 refine am rfl (aS vL rfl (qf W0 _ c h.g (fun g hg => (k3 g hg).2) k4 k2)) ?_
 rintro _ B_ ⟨rfl, hB_⟩
 obtain rfl := hB_.symm
 refine ar rfl rfl (aa rfl (cd rfl rfl) (aa rfl (aT rfl rfl) (ag (ab ?_))))
 refine ax rfl ?_ ?_
 intro c12
 refine ae (ah (aa rfl (ai rfl) (aa rfl (ai rfl) (ag (ab (av (aD (jV (au (.inl rfl) (.cons (ak rfl) (.cons (ak rfl) .nil)) ?_)))))))))
 rw [hce, if_pos (by omega)]
 exact ⟨_, ⟨0, rfl, rfl⟩, inferInstance⟩
 intro c12
 refine aB (ab (ae (ah (aa rfl (ac rfl) (aa rfl (ac rfl) (aa rfl (ai rfl) (aa rfl (ai rfl) (ag (ab (av (jV (au (.inl rfl) (.cons (ak rfl) (.cons (ak rfl) .nil)) ?_))))))))))))
 rw [hce, if_neg (by omega)]
 exact ⟨_, ⟨_, rfl, rfl⟩, inferInstance⟩
 intro g12_3
 refine al rfl rfl rfl rfl (al rfl rfl rfl rfl (aa rfl (aJ rfl rfl) (ag (ab (eL rfl (aB (ab (ae (ah (aa rfl (ac rfl) (aa rfl (ac rfl) (aa rfl (ai rfl) (aa rfl (ai rfl) (ag (ab (av (jV (au (.inl rfl) (.cons (ak rfl) (.cons (ak rfl) .nil)) ?_))))))))))))))))))
 rw [hce, if_neg (by omega)]
 exact ⟨_, ⟨_, rfl, rfl⟩, inferInstance⟩
def rt (c : Cfg) : Bool := decide (gn c = 0)
theorem qt (W0 : World) (R : List HP) (c : Cfg) (h : CfOk W0 c) :
    aC Tryz.prog W0 120 [.agg (cj c).toArray] R (fun v B => v = .bool (rt c) ∧ B = R) := by
 refine aF func120 ntmps120 rfl rfl ?_
 refine ae (ah (am rfl (bL rfl) ?_))
 rintro _ _ ⟨b1, rfl, rfl⟩
 refine aa rfl (ai rfl) (ag (ab (ae (ah (aa rfl (cu cm bS rfl rfl) ?_)))))
 refine am rfl (aS vM rfl (qq W0 _ c h)) ?_
 rintro _ B_ ⟨at_, rfl, hB_⟩
 obtain rfl := hB_.symm
 refine aa rfl (ac rfl) (aa rfl (aZ rfl rfl) (aa rfl (aZ rfl rfl) (aa rfl (ai rfl) (aa rfl (ai rfl) (ag (ab (ae (ah (aa rfl (ac rfl) (aa rfl (cz rfl rfl) (aa rfl (ai rfl) (ag (ab (av (au (.inl rfl) (.cons (ak rfl) .nil) ?_)))))))))))))))
 refine ⟨_, ⟨?_, rfl⟩, inferInstance⟩
 refine congrArg Value.bool ?_
 rw [Bool.eq_iff_iff, rt]; simp
theorem kW {c : Cfg} (h : rt c = true) : 0 ≤ c.cats ∧ c.cats ≤ 8 ∧ eZ c = false ∧ fD c = false ∧ gH c = false ∧ eR c = false ∧ gF c = false ∧ fB c = false ∧ dq c c.gl.length ≤ 32 := by
 have h := of_decide_eq_true h
 unfold gn at h
 split at h
 exact absurd h (by decide)
 rename_i q1
 repeat' split at h
 all_goals first | exact absurd h (by decide) | skip
 rename_i q2 q3 q4 q5 q6 q7 q8
 exact ⟨by omega, by omega, by simpa using q2, by simpa using q3, by simpa using q4, by simpa using q5, by simpa using q6, by simpa using q7, by omega⟩
section
variable {P : Program} {S : World → Prop} {W0 : World} {N : FSz} {e : bK} {A R : List HP} {t t' : TypeId} {x : Operand} {bs : List Nat} {a : Option Addr} {c n : Nat}
end
end
section
open Go.ChangeShapes Go.WideShapes Go.ChangeAt Go.RowKit
def jq (P : Program) (w : World) : Nat → TypeId → List Value → Prop
 | 0, _, _ => False
 | fuel + 1, t, cs =>
  match P.underlying t with
  | some .bool => ∃ b, cs = [.bool b]
  | some (.int k) => ∃ n, cs = [.int k n] ∧ (Lit.int k n).wf = true
  | some .string => ∃ s, cs = [.string s] ∧ s.size ≤ maxLen
  | some (.slice e) => cs = [.slice none 0 0] ∨ ∃ a len cap, cs = [.slice (some a) len cap] ∧ len ≤ cap ∧ cap ≤ maxLen ∧
      ∀ i, i < len → ∃ cs', w.cells? 0 (a.add (i * P.cellsOf e)) (P.cellsOf e) = some cs' ∧ jq P w fuel e cs'
  | some (.struct fs) => cs.length = P.cellsOf t ∧ ∀ f : Field, f ∈ fs.toList → jq P w fuel f.type ((cs.drop f.offset).take (P.cellsOf f.type))
  | some (.array n e) => cs.length = P.cellsOf t ∧ ∀ i, i < n → jq P w fuel e ((cs.drop (i * P.cellsOf e)).take (P.cellsOf e))
  | _ => True
section
variable {H : Type} {enc : TypeId × Value → H} {P : Program} {w W : World}
theorem nN {sp : Nat → Bool} : ∀ (fuel : Nat) (t : TypeId) (cs : List Value) (x : DataW H × List MemPlace), DataW.trod enc P w 0 sp true fuel t cs = some x → jq P w fuel t cs
 | 0, t, cs, x, h => by simp [DataW.trod] at h
 | fuel + 1, t, cs, x, h => by
  unfold jq
  cases hu : P.underlying t with
  | none => trivial
  | some d =>
   cases d with
   | bool =>
    simp only []
    unfold DataW.trod at h; simp only [hu] at h
    split at h <;> simp_all
   | int k =>
    simp only []
    obtain ⟨n, hc, _, hw⟩ := DataW.trod_int hu h
    exact ⟨n, hc, hw⟩
   | string =>
    simp only []
    unfold DataW.trod at h; simp only [hu] at h
    split at h <;> simp_all
   | slice e =>
    simp only []
    rcases DataW.trod_slice hu h with ⟨hc, _⟩ | ⟨a, len, cap, elems, rest, n, hf, hc, _, _, hl, hm, hle, hel, _⟩
    exact .inl hc
    refine .inr ⟨a, len, cap, hc, hl, hm, fun i hi => ?_⟩
    obtain rfl : fuel = n := by omega
    have h1 := hel i hi
    have h2 : elems[i]? = some elems[i] := by simp
    rw [h2] at h1
    cases hcs : w.cells? 0 (a.add (i * P.cellsOf e)) (P.cellsOf e) with
    | none => rw [hcs] at h1; cases h1
    | some cs' =>
     rw [hcs] at h1
     exact ⟨cs', rfl, nN fuel e cs' _ h1⟩
   | struct fs =>
    simp only []
    obtain ⟨xs, n, hf, _, hlen, hxs, hel⟩ := DataW.trod_struct hu h
    obtain rfl : fuel = n := by omega
    refine ⟨hlen, fun f hm => ?_⟩
    obtain ⟨i, hi, hfi⟩ := List.getElem_of_mem hm
    have h1 := hel i f (by simp at hi; simp [← hfi, hi])
    have h2 : xs[i]? = some (xs[i]'(by simp at hi; omega)) := by simp at hi; simp [hxs, hi]
    rw [h2] at h1
    exact nN fuel _ _ _ h1
   | array n e =>
    simp only []
    obtain ⟨xs, m, hf, _, hlen, hxs, hel⟩ := DataW.trod_array hu h
    obtain rfl : fuel = m := by omega
    refine ⟨hlen, fun i hi => ?_⟩
    have h1 := hel i hi
    have h2 : xs[i]? = some (xs[i]'(by omega)) := by simp [hxs, hi]
    rw [h2] at h1
    exact nN fuel _ _ _ h1
   | _ => trivial
def Ty (P : Program) (W : World) (t : TypeId) (v : Value) : Prop := (∃ (r : Reach) (b : Nat), Value.okWide P W r b t v) ∧ ∃ fuel, jq P W fuel t v.cells.toList
theorem zm {t : TypeId} {v : Value} {d : DataW H} {p : List MemPlace} {sp : Nat → Bool} {r : Reach} {b : Nat} (h : Value.okWide P W r b t v) (k : DataW.Trod enc P W 0 sp true t v d p) : Ty P W t v := by
 obtain ⟨fuel, hf⟩ := k
 exact ⟨⟨r, b, h⟩, fuel, nN fuel t _ _ hf⟩
variable {t : TypeId} {v : Value}
theorem zn {k : IntKind} {fuel : Nat} {cs : List Value} (hu : P.underlying t = some (.int k)) (h : jq P W fuel t cs) : ∃ n, cs = [.int k n] ∧ (Lit.int k n).wf = true := by
 cases fuel with
 | zero => exact h.elim
 | succ f => unfold jq at h; simpa only [hu] using h
theorem zo {k : IntKind} (hu : P.underlying t = some (.int k)) (h : Ty P W t v) : ∃ n, v = .int k n ∧ (Lit.int k n).wf = true := by
 obtain ⟨⟨r, b, h1⟩, fuel, h2⟩ := h
 obtain ⟨n, rfl⟩ := okWide_int hu h1
 obtain ⟨m, hm, hw⟩ := zn hu h2
 simp only [Value.cells, List.cons.injEq, Value.int.injEq, true_and, and_true] at hm
 subst hm; exact ⟨n, rfl, hw⟩
theorem u3 {α : Type} {l : List α} {n : Nat} (h : n + 1 = l.length) : ∃ a l', l = a :: l' ∧ n = l'.length := by
 cases l with
 | nil => cases h
 | cons a l => exact ⟨a, l, rfl, by simpa using h⟩
theorem u4 {α : Type} {l : List α} (h : 0 = l.length) : l = [] := List.length_eq_zero_iff.1 h.symm
theorem u5 (hl : laidOutB P = true) {W' : World} (hb : Below W.heap.size W W') : ∀ (ts : List TypeId) (vs : List Value) (ds : List (DataW H)) (p : List MemPlace), (ts.all fun t => P.readableRec t && decide (t < P.types.size)) = true →
    DataW.TrodAll enc P W 0 (fun _ => true) true ts vs ds p → DataW.TrodAll enc P W' 0 (fun b => decide (b < W.heap.size)) true ts vs ds p
 | [], [], [], p, _, h => h
 | [], _ :: _, _, p, _, h => by cases h
 | [], [], _ :: _, p, _, h => by cases h
 | _ :: _, [], _, p, _, h => by cases h
 | _ :: _, _ :: _, [], p, _, h => by cases h
 | t :: ts, v :: vs, d :: ds, p, hr, h => by
  obtain ⟨q, q', h1, h2, rfl⟩ := h
  simp only [List.all_cons, Bool.and_eq_true, decide_eq_true_eq] at hr
  have lt : ∀ x ∈ q, x.block < W.heap.size := by obtain ⟨m, hm⟩ := h1; exact DataW.trod_lt m _ _ _ hm
  exact ⟨q, q', Below.trod hl hr.1.1 hr.1.2 h1 hb lt, u5 hl hb ts vs ds q' hr.2 h2, rfl⟩
theorem u6 {sp : Nat → Bool} {r : Reach} {b : Nat} : ∀ (ts : List TypeId) (vs : List Value) (ds : List (DataW H)) (p : List MemPlace), (∀ (j : Nat) t v, ts[j]? = some t → vs[j]? = some v → Value.okWide P W r b t v) →
    DataW.TrodAll enc P W 0 sp true ts vs ds p → ts.length = vs.length ∧ ts.length = ds.length ∧ ∀ (j : Nat) t v, ts[j]? = some t → vs[j]? = some v → Ty P W t v
 | [], [], [], p, _, h => ⟨rfl, rfl, fun j t v h => by simp at h⟩
 | [], _ :: _, _, p, _, h => by cases h
 | [], [], _ :: _, p, _, h => by cases h
 | _ :: _, [], _, p, _, h => by cases h
 | _ :: _, _ :: _, [], p, _, h => by cases h
 | t :: ts, v :: vs, d :: ds, p, hok, h => by
  obtain ⟨q, q', h1, h2, rfl⟩ := h
  obtain ⟨k1, k2, k3⟩ := u6 ts vs ds q' (fun j t v ht hv => hok (j + 1) t v (by simpa using ht) (by simpa using hv)) h2
  refine ⟨by simp [k1], by simp [k2], fun j t' v' ht hv => ?_⟩
  cases j with
  | zero =>
   simp only [List.getElem?_cons_zero, Option.some.injEq] at ht hv
   subst ht; subst hv
   exact zm (hok 0 t v rfl rfl) h1
  | succ j => exact k3 j t' v' (by simpa using ht) (by simpa using hv)
end
end
section
open Go.ChangeShapes Go.WideShapes Go.ChangeAt Go.RowKit
set_option linter.unusedSimpArgs false
set_option linter.unusedVariables false
variable {P : Program} {w W : World} {t : TypeId} {v : Value}
end
section
open Go.RowKit
structure Sec where
  at_ : Int
  d : ByteArray
instance : Inhabited Sec := ⟨⟨0, ByteArray.empty⟩⟩
structure Inp where
  at_ : Int
  g : Int
  k : Int
  code : Int
  d : ByteArray
instance : Inhabited Inp := ⟨⟨0, 0, 0, 0, ByteArray.empty⟩⟩
theorem Own.step {W0 w w' : World} {A C : List HP} (h : Own W0 w A) (k : Own w w' C) : Own W0 w' (C ++ A) := by
 obtain ⟨lA, sA, nA, mA⟩ := h.owns
 obtain ⟨lC, sC, nC, mC⟩ := k.owns
 have hlt : ∀ p ∈ lA, p.1 < w.heap.size := fun p hp => by
  have := (mA p hp).2
  rcases Nat.lt_or_ge p.1 w.heap.size with q | q
  exact q
  rw [Array.getElem?_eq_none q] at this; cases this
 refine ⟨k.os.trans h.os, k.tape.trans h.tape, k.output.trans h.output, Nat.le_trans h.size k.size, fun b hb => (k.base b (Nat.lt_of_lt_of_le hb h.size)).trans (h.base b hb), lC ++ lA, eO.append.2 ⟨lC, lA, rfl, sC, sA⟩, ?_, fun p hp => ?_⟩
 rw [List.map_append, List.nodup_append]
 refine ⟨nC, nA, fun x hx y hy e => ?_⟩
 obtain ⟨p, hp, rfl⟩ := List.mem_map.1 hx
 obtain ⟨q, hq, rfl⟩ := List.mem_map.1 hy
 have h1 := (mC p hp).1
 have h2 := hlt q hq
 omega
 rcases List.mem_append.1 hp with q | q
 exact ⟨Nat.le_trans h.size (mC p q).1, (mC p q).2⟩
 exact ⟨(mA p q).1, (k.base p.1 (hlt p q)).trans (mA p q).2⟩
theorem u7 {P : Program} {W0 : World} {f : FuncId} {args : List Value} {A : List HP} {Post : Value → List HP → Prop} (h : ∀ W, Own W0 W A → aC P W f args [] Post) : aC P W0 f args A (fun v B => ∃ C, Post v C ∧ B = C ++ A) := by
 intro w hO
 refine (h w hO w (Own.refl w)).mono ?_
 rintro e w' ⟨v, C, rfl, hp, hO'⟩
 exact ⟨v, C ++ A, rfl, ⟨C, hp, rfl⟩, hO.step hO'⟩
theorem zp {W0 W : World} {A : List HP} {b off : Nat} {vs : List Value} (hO : Own W0 W A) (h : cJ (bI W0 A) b off vs) : ∀ B, cJ (bI W B) b off vs := fun B i v hi => wR (h i v hi W hO)
theorem ma {α : Type} {W0 W : World} {A : List HP} {a : Option Addr} {sz : Nat} {f : α → List Value} {xs : List α} (hO : Own W0 W A) (h : cq (bI W0 A) a sz f xs) : ∀ B, cq (bI W B) a sz f xs := fun B i x hi => by
 obtain ⟨b, off, rfl, hc⟩ := h i x hi
 exact ⟨b, off, rfl, zp hO hc B⟩
abbrev mb := Int × Value × Nat
def zq (p : mb) : MapEntry := { key := .int .i64 p.1, val := p.2.1, born := p.2.2 }
def qu (L : List mb) : Array MapEntry := (L.map zq).toArray
def qv : List mb → Int → Option Value
 | [], _ => none
 | p :: l, k => if p.1 = k then some p.2.1 else qv l k
def jZ (b : Nat) (f : Int → Option Value) : HP := chk (fun C => ∃ (L : List mb) (clock : Nat), (L.map (·.1)).Nodup ∧ (∀ k, qv L k = f k) ∧ C = [pt b (.map (qu L) clock)])
section
variable {rd : Option Nat} {P : Program} {S : World → Prop} {W0 : World} {N : FSz} {e : bK} {A B R : List HP}
variable {op : Op} {ty t K E : TypeId} {v z : Value} {b : Nat} {x y u : Operand} {f : Int → Option Value} {k : Int}
theorem zr {L : List mb} {c : Nat} (h1 : (L.map (·.1)).Nodup) (h2 : ∀ k, qv L k = f k) : Ent (pt b (.map (qu L) c) :: R) (jZ b f :: R) := eE (R := R) (C := [_]) ⟨L, c, h1, h2, rfl⟩
theorem zt : di P W0 N e A (.makeMap t none) (fun v B => ∃ b, v = .map (some b) ∧ B = jZ b (fun _ => none) :: A) := jJ fun a w _ _ _ _ _ hF hO => by
 refine ⟨_, w.alloc (.map #[] 0), _, .inl ?_, ⟨w.heap.size, rfl, rfl⟩, ?_⟩
 simp [execOp, Instr.makeMap, newObj, Sem.run]
 have hn := hO.new (.map (qu []) 0)
 exact hn.ent (zr (L := []) (by simp) (fun _ => rfl))
end
section
variable {P : Program} {S : World → Prop} {W0 : World} {N : FSz} {e : bK} {A R : List HP} {t t' ty : TypeId} {b off : Nat} {x y : Operand} {l l' : List Value}
theorem zu {E n sz i h o' : Nat} {k k' : IntKind} {j1 j2 : Int} (hu : P.underlying t = some (.array n E)) (hs : ∀ w, (sizeOf E).run P w = .ok sz w) (hx : ev e x = some (.pointer (some ⟨b, off, none⟩))) {lo hi : Operand} (h1 : ev e lo = some (.int k j1)) (h2 : ev e hi = some (.int k' j2)) (e1 : j1 = (i : Int)) (e2 : j2 = (h : Int)) (hih : i ≤ h) (hhn : h ≤ n) (hin : i < n) (ho : off + i * sz = o') :
    cn P S N e (.slice t x (some lo) (some hi) none) (.slice (some ⟨b, o', none⟩) (h - i) (n - i)) := fun a w _ _ _ _ _ hF _ => by
 subst e1; subst e2; subst ho
 have hmi : ¬ n = i := by omega
 simp [execOp, Instr.sliceAt, hF.eval hx, hF.eval h1, hF.eval h2, dF hu, Instr.sureAddr, Instr.sliceBounds, jj hhn, jj hih, hs, hmi, fa]
theorem zv {E n m c : Nat} {a : Option Addr} (hu : P.underlying t = some (.array n E)) (hx : ev e x = some (.slice a m c)) (hn : ¬ m < n) : cn P S N e (.sliceToArrayPointer t x) (.pointer a) := fun act w _ _ _ _ _ hF _ => by
 simp [execOp, hF.eval hx, Instr.arrayAt, dF hu, hn]
theorem zw {S : World → Prop} {b off n j : Nat} {l vs : List Value} (h : cJ S b off l) (hv : (l.drop j).take n = vs) : cJ S b (off + j) vs := fun i v hi => by
 subst hv
 rw [List.getElem?_take] at hi
 split at hi
 rw [List.getElem?_drop] at hi
 rw [Nat.add_assoc]
 exact h (j + i) v hi
 cases hi
end
abbrev i5 (ps pm d : Nat) : Obj := aw [.pointer (some ⟨ps, 0, none⟩), .pointer (some ⟨pm, 0, none⟩), .int .u32 (d : Nat)] 368
theorem zx (pv ps pm d : Nat) : aC Tryz.prog W0 276 [.pointer (some ⟨pv, 0, none⟩)] (pt pv (i5 ps pm d) :: R) (fun v B => v = .bool false ∧ B = pt pv (i5 ps pm d) :: R) := by
 refine aF func276 ntmps276 rfl rfl ?_
 refine ae (ah (aa rfl (ai rfl) (ag (ab (ae (ah (aa rfl (ac rfl) (aa rfl (dl CC rfl rfl) (aa rfl (ac rfl) ?_)))))))))
 refine bA rfl rfl rfl ?_ ?_
 intro g1_3
 cases g1_3
 intro g1_3
 refine aa rfl (ac rfl) (ar rfl rfl (aa rfl (aH rfl) (ar rfl rfl ?_)))
 refine aa rfl (ao rfl vN rfl ic rfl (by first | exact Nat.zero_add _ | rfl)) ?_
 refine ar rfl rfl (aa rfl (ap kl rfl (aA rfl)) ?_)
 refine ar rfl rfl (aa rfl (dl ov rfl rfl) (aa rfl (aJ rfl rfl) (aa rfl (ai rfl) (ag (ab (av (au (.inl rfl) (.cons (ak rfl) .nil) ?_)))))))
 exact ⟨_, ⟨rfl, rfl⟩, inferInstance⟩
theorem zy (W0 : World) (R : List HP) (ps pm : Nat) (fr : List bW) (pg : List Pl) (h : Pgs pg) (h0 : 0 < fr.length) :
    aC Tryz.prog W0 90 [.pointer (some ⟨ps, 0, none⟩), .pointer (some ⟨pm, 0, none⟩)] (cy ps fr :: pt pm (dv pg) :: R)
      (fun v B => ∃ b, v = .tuple #[.pointer (some ⟨b, 0, none⟩), .int .i64 0] ∧ B = pt b (i5 ps pm 0) :: cy ps fr :: pt pm (dv pg) :: R) := by
 refine aF func90 ntmps90 rfl rfl ?_
 refine ae (ah (aa rfl (ai rfl) (aa rfl (ai rfl) (ag (ab (ae (ae (ah (aa rfl (ac rfl) (am rfl (bz mu rfl (kO W0 _ ps fr)) ?_))))))))))
 rintro _ B_ ⟨rfl, hB_⟩
 obtain rfl := hB_.symm
 refine aa rfl (cz rfl rfl) (aa rfl (ac rfl) ?_)
 refine bA rfl rfl rfl ?_ ?_
 intro g1_4
 omega
 intro g1_4
 refine aa rfl (ac rfl) (ar rfl rfl (am rfl (bz call207 rfl (xK pm pg h)) ?_))
 rintro _ B_ ⟨rfl, hB_⟩
 obtain rfl := hB_.symm
 refine ar rfl rfl (aa rfl (cz rfl rfl) (aa rfl (aJ rfl rfl) (ag (ab ?_))))
 refine ax rfl ?_ ?_
 intro c1
 exact absurd c1 (by decide)
 intro c1
 refine aB (ab (ae (ah (aa rfl (ac rfl) (aa rfl (ac rfl) (aa rfl (bQ vN zeroValue368 (aE ic (aE vP (aE dz bP))) (bn rfl ic rfl rfl (Nat.le_of_ble_eq_true rfl) SetL.eq (bn rfl vP rfl rfl (Nat.le_of_ble_eq_true rfl) SetL.eq bO))) ?_))))))
 refine am rfl (bL rfl) ?_
 rintro _ _ ⟨b1, rfl, rfl⟩
 refine aa rfl (ai rfl) (aa rfl (ai rfl) (ag (ab (av (au (.inl rfl) (.cons (ak rfl) (.cons (ak rfl) .nil)) ?_)))))
 exact ⟨_, ⟨b1, rfl, rfl⟩, inferInstance⟩
theorem zA (pv ps pm d : Nat) : aC Tryz.prog W0 143 [.pointer (some ⟨pv, 0, none⟩)] (pt pv (i5 ps pm d) :: R) (fun v B => v = .pointer (some ⟨pm, 0, none⟩) ∧ B = pt pv (i5 ps pm d) :: R) := by
 refine aF func143 ntmps143 rfl rfl ?_
 refine ae (ah (aa rfl (ai rfl) (ag (ab (ae (ae (ah (aa rfl (ac rfl) (am rfl (bz call276 rfl (zx pv ps pm d)) ?_)))))))))
 rintro _ B_ ⟨rfl, hB_⟩
 obtain rfl := hB_.symm
 refine ag (ab ?_)
 refine ax rfl ?_ ?_
 intro c1
 exact absurd c1 (by decide)
 intro c1
 refine aB (ab (ae (ah (aa rfl (ac rfl) (aa rfl (aH rfl) ?_)))))
 refine aa rfl (ao rfl vN rfl vP rfl (by first | exact Nat.zero_add _ | rfl)) ?_
 refine aa rfl (ap vQ rfl (aA rfl)) ?_
 refine aa rfl (ai rfl) (ag (ab (av (au (.inl rfl) (.cons (ak rfl) .nil) ?_))))
 exact ⟨_, ⟨rfl, rfl⟩, inferInstance⟩
def zB (len : Nat) (pg : List Pl) (n : Int) : Bool := dX pg n && decide (n < 8) && decide ((j4 pg n).1 < len)
def u9 (a : Nat) : Int := ((a / 64 : Nat) : Int)
def qw (len : Nat) (pg : List Pl) (pa n : Nat) : Prop := ∀ i, i < n → zB len pg (u9 (pa + i)) = true
instance {len : Nat} {pg : List Pl} {pa n : Nat} : Decidable (qw len pg pa n) := by unfold qw; exact Nat.decidableBallLT n _
def qx (len : Nat) (pg : List Pl) (pa : Nat) (n : Int) : Bool := decide (0 ≤ n ∧ pa ≤ 512 ∧ n ≤ 512 - (pa : Int)) && decide (qw len pg pa n.toNat)
def zC (pg : List Pl) (a : Nat) : Int := (j4 pg (u9 a)).1
def zE (fr : List bW) (pg : List Pl) (a : Nat) : Nat := xB fr (zC pg a) ((a % 64 : Nat) : Int) 1
def zF (fr : List bW) (pg : List Pl) (pa n : Nat) : List Nat := (List.range n).map fun i => zE fr pg (pa + i)
def ua (d : Dsc) : Bool := decide (d.flags / 2 % 2 = 1)
def ub (d : Dsc) : Bool := decide (d.flags % 2 = 1)
def qy (r : Rg3) (at_ : Nat) : Nat := (r.desc + 16 * at_) % 4294967296
def kX (fr : List bW) (pg : List Pl) (r : Rg3) (at_ : Nat) : Dsc := if qx fr.length pg (qy r at_) 16 then yF (zF fr pg (qy r at_) 16) else zD
def lk (fr : List bW) (pg : List Pl) (r : Rg3) (at_ : Int) (n : Nat) (wr : Bool) : Dsc × Int :=
  if at_ < 0 ∨ r.n ≤ at_ then (zD, 1) else if r.n ≤ (n : Int) then (zD, 2) else
  if qx fr.length pg (qy r at_.toNat) 16 = false then (zD, 5) else
  if tD (kX fr pg r at_.toNat) r.n.toNat ≠ 0 then (zD, tD (kX fr pg r at_.toNat) r.n.toNat) else
  if qx fr.length pg (kX fr pg r at_.toNat).addr (kX fr pg r at_.toNat).len = false then (zD, 5) else
  if wr = true ∧ ua (kX fr pg r at_.toNat) = false then (zD, 6) else (kX fr pg r at_.toNat, 0)
abbrev uc := Int × Bool × List Dsc
def ud (fr : List bW) (pg : List Pl) (r : Rg3) (n : Nat) (x : uc) : Dsc × Int := lk fr pg r x.1 n x.2.1
def qz (fr : List bW) (pg : List Pl) (r : Rg3) (head : Int) : Nat → uc
 | 0 => (head, false, [])
 | n + 1 => let d := (ud fr pg r n (qz fr pg r head n)).1; ((d.next : Int), ua d, (qz fr pg r head n).2.2 ++ [d])
abbrev nO (fr : List bW) (pg : List Pl) (r : Rg3) (head : Int) (n : Nat) : Dsc × Int := ud fr pg r n (qz fr pg r head n)
def qA (fr : List bW) (pg : List Pl) (r : Rg3) (head : Int) (n : Nat) : Prop := ∀ m, m < n → (nO fr pg r head m).2 = 0 ∧ ub (nO fr pg r head m).1 = true
theorem qA.succ {fr : List bW} {pg : List Pl} {r : Rg3} {head : Int} {n : Nat} (h : qA fr pg r head n) (h1 : (nO fr pg r head n).2 = 0) (h2 : ub (nO fr pg r head n).1 = true) : qA fr pg r head (n + 1) := fun m hm => by
 rcases Nat.lt_or_ge m n with q | q
 exact h m q
 rw [show m = n by omega]; exact ⟨h1, h2⟩
section
variable {W0 : World} {N : FSz} {K : Act → World → Prop} {e : bK} {A R R1 R2 : List HP} {b n c : Nat} {l : List Dsc} {a : Option Addr} {ys : List Value}
end
def dN (p : Value × bW) : HP := osl 5 1 p.1 (bU p.2)
def cD (qs : Nat) (fr : List bW) : HP := chk (fun C => ∃ a c, ∃ vs : List Value, vs.length = fr.length ∧ C = pt qs (aw [.slice a fr.length c] 193) :: osl 174 1 (.slice a fr.length c) vs :: (vs.zip fr).map dN)
section
variable {P : Program} {W0 : World} {N : FSz} {K : Act → World → Prop} {e : bK} {A B R R1 R2 : List HP} {qs g n : Nat} {fr : List bW} {f : FuncId} {args : List Value} {Post : Value → List HP → Prop} {l : List Value}
theorem k0 [hk : Tk cD qs A fr R] (h : ∀ a c vs, vs.length = fr.length → aQ W0 N K e (pt qs (aw [.slice a fr.length c] 193) :: osl 174 1 (.slice a fr.length c) vs :: ((vs.zip fr).map dN ++ R))) : aQ W0 N K e A :=
  dP (r := cD) (b := qs) (iM fun C hC => by obtain ⟨a, c, vs, h1, rfl⟩ := hC; exact h a c vs h1)
theorem ka {a : Option Addr} {c : Nat} {vs : List Value} [h1 : Tk pt qs A (aw [.slice a n c] 193) R1] [h2 : Tk (osl 174 1) (.slice a n c) R1 vs ((vs.zip fr).map dN ++ R2)] (hv : vs.length = fr.length) (hn : n = fr.length) [k : Ent R2 B] : Ent A (cD qs fr :: B) := by
 subst hn
 have e1 : A.Perm ((pt qs (aw [.slice a fr.length c] 193) :: osl 174 1 (.slice a fr.length c) vs :: (vs.zip fr).map dN) ++ R2) := h1.perm.trans (h2.perm.cons _)
 have e2 : Ent ((pt qs (aw [.slice a fr.length c] 193) :: osl 174 1 (.slice a fr.length c) vs :: (vs.zip fr).map dN) ++ R2) (cD qs fr :: R2) := eE ⟨a, c, vs, hv, rfl⟩
 exact (Ent.ofPerm e1).trans (e2.trans (Ent.cons k))
theorem ue {α : Type} : ∀ (l : List α) (i : Nat) (h : i < l.length), l.Perm (l[i] :: l.eraseIdx i)
 | x :: l, 0, h => by simp
 | x :: l, i + 1, h => by
  simp only [List.getElem_cons_succ, List.eraseIdx_cons_succ]
  exact ((ue l i (by simpa using h)).cons x).trans (List.Perm.swap _ _ _)
theorem uf {α : Type} : ∀ (l : List α) (i : Nat) (x : α) (h : i < l.length), (x :: l.eraseIdx i).Perm (l.set i x)
 | y :: l, 0, x, h => by simp
 | y :: l, i + 1, x, h => by
  simp only [List.set_cons_succ, List.eraseIdx_cons_succ]
  exact (List.Perm.swap _ _ _).trans ((uf l i x (by simpa using h)).cons y)
theorem kY {E sz : Nat} {v : Value} {xs : List Value} [hk : Tk (osl E sz) v A xs R] (h0 : v = .slice none 0 0 → xs = [] → aQ W0 N K e R)
    (h1 : ∀ g n cap sp, v = .slice (some ⟨g, 0, none⟩) n cap → n ≤ cap → cap ≤ maxLen → xs.length = n * sz → (xs ++ sp).length = cap * sz → aQ W0 N K e (pt g (aw (xs ++ sp) E) :: R)) : aQ W0 N K e A :=
  dP (r := osl E sz) (b := v) (ge h0 h1)
theorem qB [hk : Tk cD qs A fr R] {i : Nat} (hi : i < fr.length) (h : ∀ a c vs vi, vs.length = fr.length → vs[i]? = some vi →
      aQ W0 N K e (pt qs (aw [.slice a fr.length c] 193) :: osl 174 1 (.slice a fr.length c) vs :: osl 5 1 vi (bU (fr.getD i [])) :: (((vs.zip fr).map dN).eraseIdx i ++ R))) : aQ W0 N K e A := by
 refine k0 (qs := qs) fun a c vs hv => ?_
 have hlen : ((vs.zip fr).map dN).length = fr.length := by simp [hv]
 have hiv : i < vs.length := by omega
 have hg : ((vs.zip fr).map dN)[i]'(by omega) = osl 5 1 vs[i] (bU (fr.getD i [])) := by simp [dN, List.getD, hi]
 have hp := ue ((vs.zip fr).map dN) i (by omega)
 rw [hg] at hp
 exact oP (((hp.append_right R).cons _).cons _) (h a c vs vs[i] hv (by simp [hiv]))
theorem zG {a : Option Addr} {c i : Nat} {vs : List Value} {vi : Value} {y : bW} {ys : List Value} {R3 : List HP} [h1 : Tk pt qs A (aw [.slice a n c] 193) R1] [h2 : Tk (osl 174 1) (.slice a n c) R1 (vs.set i vi) R2] [h3 : Tk (osl 5 1) vi R2 ys (((vs.zip fr).map dN).eraseIdx i ++ R3)]
    (hy : ys = bU y) (hv : vs.length = fr.length) (hn : n = fr.length) (hi : i < fr.length) [k : Ent R3 B] : Ent A (cD qs (fr.set i y) :: B) := by
 subst hy
 have e1 : A.Perm (pt qs (aw [.slice a n c] 193) :: osl 174 1 (.slice a n c) (vs.set i vi) :: ((((vs.set i vi).zip (fr.set i y)).map dN) ++ R3)) := by
  refine h1.perm.trans ((h2.perm.trans ((h3.perm.trans ?_).cons _)).cons _)
  have hs : ((vs.set i vi).zip (fr.set i y)).map dN = ((vs.zip fr).map dN).set i (dN (vi, y)) := by
   apply List.ext_getElem
   simp
   intro j h1 h2
   by_cases e : j = i
   subst e; simp
   have e' : ¬ i = j := fun h => e h.symm
   simp [List.getElem_set, e']
  rw [hs]
  have := uf ((vs.zip fr).map dN) i (dN (vi, y)) (by simp [hv]; exact hi)
  exact this.append_right R3
 exact (Ent.ofPerm e1).trans (ka (vs := vs.set i vi) (by simp [hv]) (by simp [hn]))
theorem qC {c i g2 n2 c2 : Nat} {vs vs' sp sp2 ys : List Value} {y : bW} {vi : Value} {R3 : List HP} [h1 : Tk pt qs A (aw [.slice (some ⟨g, 0, none⟩) n c] 193) R1] [h2 : Tk pt g R1 (aw (vs' ++ sp) 174) R2] [h3 : Tk pt g2 R2 (aw (ys ++ sp2) 5) R3]
    (hvs : vs' = vs.set i vi) (hvi : vi = .slice (some ⟨g2, 0, none⟩) n2 c2) (hy : ys = bU y) (hv : vs.length = fr.length) (hn : n = fr.length) (hi : i < fr.length) (a1 : n ≤ c) (a2 : c ≤ maxLen) (a3 : (vs' ++ sp).length = c * 1) (b1 : n2 ≤ c2) (b2 : c2 ≤ maxLen) (b3 : ys.length = n2 * 1) (b4 : (ys ++ sp2).length = c2 * 1) [k : Ent R3 (((vs.zip fr).map dN).eraseIdx i ++ B)] : Ent A (cD qs (fr.set i y) :: B) := by
 subst hvs
 subst hvi
 have e1 : A.Perm (pt qs (aw [.slice (some ⟨g, 0, none⟩) n c] 193) :: pt g (aw (vs.set i (.slice (some ⟨g2, 0, none⟩) n2 c2) ++ sp) 174) :: pt g2 (aw (ys ++ sp2) 5) :: R3) := h1.perm.trans ((h2.perm.trans (h3.perm.cons _)).cons _)
 have e2 : Ent (pt g2 (aw (ys ++ sp2) 5) :: R3) (osl 5 1 (.slice (some ⟨g2, 0, none⟩) n2 c2) ys :: (((vs.zip fr).map dN).eraseIdx i ++ B)) := eP b1 b2 b3 b4
 have e3 : Ent (pt g (aw (vs.set i (.slice (some ⟨g2, 0, none⟩) n2 c2) ++ sp) 174) :: osl 5 1 (.slice (some ⟨g2, 0, none⟩) n2 c2) ys :: (((vs.zip fr).map dN).eraseIdx i ++ B)) (osl 174 1 (.slice (some ⟨g, 0, none⟩) n c) (vs.set i (.slice (some ⟨g2, 0, none⟩) n2 c2)) :: osl 5 1 (.slice (some ⟨g2, 0, none⟩) n2 c2) ys :: (((vs.zip fr).map dN).eraseIdx i ++ B)) := eP a1 a2 (by simp [hv, hn]) a3
 exact (Ent.ofPerm e1).trans ((Ent.cons ((Ent.cons e2).trans e3)).trans (zG (vi := .slice (some ⟨g2, 0, none⟩) n2 c2) hy hv hn hi))
end
theorem zH {fr : List bW} {i : Nat} (hi : i < fr.length) : fr.set i (fr.getD i []) = fr := by
 rw [show fr.getD i [] = fr[i] by simp [List.getD, hi]]; exact List.set_getElem_self _
theorem zI {vs : List Value} {i : Nat} {v : Value} (h : vs[i]? = some v) : vs.set i v = vs := by
 have hi : i < vs.length := by
  rcases Nat.lt_or_ge i vs.length with k | k
  exact k
  rw [List.getElem?_eq_none k] at h; cases h
 have : vs[i] = v := by simpa [hi] using h
 rw [← this]; exact List.set_getElem_self _
theorem mc (W0 : World) (R : List HP) (qs : Nat) (fr : List bW) (f : Int) :
    aC Tryz.prog W0 192 [.pointer (some ⟨qs, 0, none⟩), .int .i64 f] (cD qs fr :: R) (fun v B => v = .bool (dH fr.length f) ∧ B = cD qs fr :: R) := by
 refine aF func192 ntmps192 rfl rfl ?_
 refine ae (ah (aa rfl (ai rfl) (ag (ab (ae ?_)))))
 refine k0 (qs := qs) fun a c vs hv => ?_
 refine ah (aa rfl (ac rfl) (aa rfl (cF rfl rfl) (aa rfl (ac rfl) ?_)))
 refine cG rfl rfl rfl ?_ ?_
 intro g1_3
 refine aa rfl (ac rfl) (ar rfl rfl (aa rfl (ac rfl) (ar rfl rfl (aa rfl (aH rfl) (ar rfl rfl ?_)))))
 refine aa rfl (ao rfl gX rfl g6 rfl (by first | exact Nat.zero_add _ | rfl)) ?_
 refine ar rfl rfl (aa rfl (ap iG rfl (aA rfl)) ?_)
 refine ar rfl rfl (aa rfl (bq gL rfl) (ar rfl rfl (aa rfl (aY rfl rfl) (aa rfl (aT rfl rfl) (aa rfl (ai rfl) (ag (ab (av (au (.inl rfl) (.cons (ak rfl) .nil) ?_)))))))))
 refine ⟨_, ⟨congrArg Value.bool ?_, rfl⟩, ka hv rfl⟩
 rw [Bool.eq_iff_iff]; simp only [dH, decide_eq_true_eq, Bool.false_eq_true, false_iff]; omega
 intro g1_3
 refine al rfl rfl rfl rfl (al rfl rfl rfl rfl (al rfl rfl rfl rfl (al rfl rfl rfl rfl (al rfl rfl rfl rfl (al rfl rfl rfl rfl (aa rfl (aJ rfl rfl) (aa rfl (ai rfl) (ag (ab (av (au (.inl rfl) (.cons (ak rfl) .nil) ?_)))))))))))
 refine ⟨_, ⟨congrArg Value.bool ?_, rfl⟩, ka hv rfl⟩
 rw [Bool.eq_iff_iff]; simp only [dH, decide_eq_true_eq, Bool.false_eq_true, false_iff]; omega
theorem zJ {g off c n : Nat} {l : List Nat} {i k w : Nat} (hl : l.length = n) (hw : w < 4294967296) (hc : cJ (bI W0 R) g off (bU l)) (hi : dB n i k = true) (hn : n ≤ 1000000) :
    aC Tryz.prog W0 362 [.slice (some ⟨g, off, none⟩) n c, .int .i64 i, .int .i64 k, .int .u32 w] R (fun v B => ∃ a' c', v = nh a' n c' ∧ B = osl 5 1 (.slice a' n c') (bU (gi l i k w)) :: R) := by
 subst hl; exact xu g off c l i k w hw hc hi hn
theorem zK {x : bW} {sp : List Value} (h : x.length = 64) : ((bU x ++ sp).drop 0).take 64 = bU x := by
 rw [List.drop_zero, List.take_left' (by rw [dG, h])]
theorem zL (W0 : World) (R : List HP) (qs : Nat) (fr : List bW) (f off w : Int) (x : Nat) (hx : x < 4294967296) (hF : eX fr) :
    aC Tryz.prog W0 310 [.pointer (some ⟨qs, 0, none⟩), .int .i64 f, .int .i64 off, .int .i64 w, .int .u32 x] (cD qs fr :: R)
      (fun v B => v = .int .i64 (if fQ fr f off w then 0 else 1) ∧ B = cD qs (eY fr f off w x) :: R) := by
 by_cases hf : dH fr.length f = true
 obtain ⟨i, rfl, hi⟩ := pq hf
 obtain ⟨hl, hb⟩ := hF.get hi
 by_cases hin : dB 64 off w = true
 obtain ⟨o, k, rfl, rfl, hk, hok⟩ := kN hin
 have hs : fQ fr i o k = true := by simp [fQ, hf, hin]
 have hpl : (gi (fr.getD i []) o k x).length = 64 := by rw [jO (by omega)]; exact hl
 refine aF vR ntmps310 rfl rfl ?_
 refine ae (ah (aa rfl (ai rfl) (ag (ab (ae (ae (ah (aa rfl (ac rfl) (aa rfl (ac rfl) (am rfl (bz oE rfl (mc W0 _ qs fr i)) ?_))))))))))
 rintro _ B_ ⟨rfl, hB_⟩
 obtain rfl := hB_.symm
 refine aa rfl (bN rfl) (ag (ab ?_))
 refine ax rfl ?_ ?_
 intro c1
 exact absurd c1 (by simp [hf])
 intro c1
 refine aB (ab (ae ?_))
 refine qB (qs := qs) hi fun a c vs vi hv hvi => ?_
 refine kY (E := 5) (sz := 1) (v := vi) (fun h1 h2 => by have := congrArg List.length h2; rw [dG, hl] at this; cases this) fun g2 n2 c2 sp2 k1 k2 k3 k4 k5 => ?_
 obtain rfl : n2 = 64 := by rw [dG, hl] at k4; omega
 subst k1
 refine kY (E := 174) (sz := 1) (v := .slice a fr.length c) (fun h1 h2 => by have := (Value.slice.inj h1).2.1; omega) fun g n c' sp h1 h2 h3 h4 h5 => ?_
 cases h1
 refine ah (aa rfl (ac rfl) (aa rfl (aH rfl) ?_))
 refine aa rfl (ao rfl gX rfl g6 rfl (by first | exact Nat.zero_add _ | rfl)) ?_
 refine aa rfl (ap iG rfl (aA rfl)) ?_
 refine aa rfl (ac rfl) ?_
 refine aa rfl (bY gL jB rfl rfl rfl hi (by first | exact Nat.zero_add _ | rfl)) ?_
 refine aa rfl (ap isAgg174 rfl (aA (by rw [Nat.mul_one, List.getElem?_append_left (by omega)]; exact hvi))) ?_
 refine aa rfl (ac rfl) (aa rfl (ac rfl) (aa rfl (ac rfl) ?_))
 refine am rfl (aS call362 rfl (zJ hl hx (fz (zK hl) (by rw [dG, hl])) hin (by decide))) ?_
 rintro _ B_ ⟨a', c', rfl, hB_⟩
 obtain rfl := hB_.symm
 refine kY (E := 5) (sz := 1) (v := .slice a' 64 c') (fun h1 h2 => by have := (Value.slice.inj h1).2.1; omega) fun g3 n3 c3 sp3 q1 q2 q3 q4 q5 => ?_
 cases q1
 refine aa rfl (ac rfl) (aa rfl (aZ rfl rfl) (aa rfl (aZ rfl rfl) (aa rfl (ai rfl) (aa rfl (ai rfl) (ag (ab (ae (ae (ah (aa rfl (ac rfl) (aa rfl (cz rfl rfl) (ag (ab ?_)))))))))))))
 refine ax rfl ?_ ?_
 intro c4
 refine ah (aa rfl (ac rfl) (aa rfl (aH rfl) ?_))
 refine aa rfl (ao rfl gX rfl g6 rfl (by first | exact Nat.zero_add _ | rfl)) ?_
 refine aa rfl (ap iG rfl (aA rfl)) ?_
 refine aa rfl (ac rfl) (aa rfl (ac rfl) ?_)
 refine aa rfl (bY gL jB rfl rfl rfl hi (by first | exact Nat.zero_add _ | rfl)) ?_
 refine bE (ce jB rfl rfl rfl (by rw [List.length_append]; omega) (by rw [Nat.mul_one, List.set_append_left _ _ (by omega)])) ?_
 rintro _ _ rfl
 refine ag (ab (ae (ah (aa rfl (ac rfl) (aa rfl (ai rfl) (ag (ab (av (au (.inl rfl) (.cons (ak rfl) .nil) ?_)))))))))
 rw [show eY fr i o k x = fr.set i (gi (fr.getD i []) o k x) by simp [eY, hs]]
 exact ⟨_, ⟨by simp [cA, hs], rfl⟩, qC (vs := vs) (vi := .slice (some ⟨g3, 0, none⟩) 64 c') rfl rfl rfl hv rfl hi h2 h3 (by rw [← h5]; simp) q2 q3 q4 q5⟩
 intro c4
 exact absurd rfl c4
 have hin' : dB 64 off w = false := by simpa using hin
 have hs : fQ fr i off w = false := by simp [fQ, hin']
 refine aF vR ntmps310 rfl rfl ?_
 refine ae (ah (aa rfl (ai rfl) (ag (ab (ae (ae (ah (aa rfl (ac rfl) (aa rfl (ac rfl) (am rfl (bz oE rfl (mc W0 _ qs fr i)) ?_))))))))))
 rintro _ B_ ⟨rfl, hB_⟩
 obtain rfl := hB_.symm
 refine aa rfl (bN rfl) (ag (ab ?_))
 refine ax rfl ?_ ?_
 intro c1
 exact absurd c1 (by simp [hf])
 intro c1
 refine aB (ab (ae ?_))
 refine qB (qs := qs) hi fun a c vs vi hv hvi => ?_
 refine kY (E := 5) (sz := 1) (v := vi) (fun h1 h2 => by have := congrArg List.length h2; rw [dG, hl] at this; cases this) fun g2 n2 c2 sp2 k1 k2 k3 k4 k5 => ?_
 obtain rfl : n2 = 64 := by rw [dG, hl] at k4; omega
 subst k1
 refine kY (E := 174) (sz := 1) (v := .slice a fr.length c) (fun h1 h2 => by have := (Value.slice.inj h1).2.1; omega) fun g n c' sp h1 h2 h3 h4 h5 => ?_
 cases h1
 refine ah (aa rfl (ac rfl) (aa rfl (aH rfl) ?_))
 refine aa rfl (ao rfl gX rfl g6 rfl (by first | exact Nat.zero_add _ | rfl)) ?_
 refine aa rfl (ap iG rfl (aA rfl)) ?_
 refine aa rfl (ac rfl) ?_
 refine aa rfl (bY gL jB rfl rfl rfl hi (by first | exact Nat.zero_add _ | rfl)) ?_
 refine aa rfl (ap isAgg174 rfl (aA (by rw [Nat.mul_one, List.getElem?_append_left (by omega)]; exact hvi))) ?_
 refine aa rfl (ac rfl) (aa rfl (ac rfl) (aa rfl (ac rfl) ?_))
 refine am rfl (aS call362 rfl (xv W0 _ _ 64 c2 off w x hin' (by decide))) ?_
 rintro _ B_ ⟨rfl, hB_⟩
 obtain rfl := hB_.symm
 refine aa rfl (ac rfl) (aa rfl (aZ rfl rfl) (aa rfl (aZ rfl rfl) (aa rfl (ai rfl) (aa rfl (ai rfl) (ag (ab (ae (ae (ah (aa rfl (ac rfl) (aa rfl (cz rfl rfl) (ag (ab ?_)))))))))))))
 refine ax rfl ?_ ?_
 intro c4
 exact absurd c4 (by decide)
 intro c4
 refine aB (ab (ae (ah (aa rfl (ac rfl) (aa rfl (ai rfl) (ag (ab (av (au (.inl rfl) (.cons (ak rfl) .nil) ?_)))))))))
 rw [show eY fr i off w x = fr by simp [eY, hs]]
 refine ⟨_, ⟨by simp [cA, hs], rfl⟩, ?_⟩
 have e := zH hi
 conv => rhs; rw [← e]
 exact qC (vs := vs) (zI hvi).symm rfl rfl hv rfl hi h2 h3 h5 k2 k3 k4 k5
 have hf' : dH fr.length f = false := by simpa using hf
 have hs : fQ fr f off w = false := by simp [fQ, hf']
 refine aF vR ntmps310 rfl rfl ?_
 refine ae (ah (aa rfl (ai rfl) (ag (ab (ae (ae (ah (aa rfl (ac rfl) (aa rfl (ac rfl) (am rfl (bz oE rfl (mc W0 _ qs fr f)) ?_))))))))))
 rintro _ B_ ⟨rfl, hB_⟩
 obtain rfl := hB_.symm
 refine aa rfl (bN rfl) (ag (ab ?_))
 refine ax rfl ?_ ?_
 intro c1
 refine ae (ah (aa rfl (ai rfl) (ag (ab (av (aD (au (.inl rfl) (.cons (ak rfl) .nil) ?_)))))))
 rw [show eY fr f off w x = fr by simp [eY, hs]]
 exact ⟨_, ⟨by simp [cA, hs], rfl⟩, inferInstance⟩
 intro c1
 exact absurd c1 (by simp [hf'])
end
end Go.Proofs.YtofillmoflhijaaGreat
