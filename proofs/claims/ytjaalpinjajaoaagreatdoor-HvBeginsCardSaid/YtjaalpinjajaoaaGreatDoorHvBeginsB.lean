/-
  Part 2 of the proof of HvBegins: rules, and walks of functions. Conditions: none.
-/
import Derived.Test.YtjaalpinjajaoaaGreatDoorHvBeginsA
namespace Go.Proofs.YtjaalpinjajaoaaGreatDoor
open Go.Proofs.Tryz
set_option linter.unusedSimpArgs false
set_option linter.unusedVariables false
set_option maxRecDepth 20000
set_option linter.defProp false
set_option synthInstance.maxSize 8192
set_option synthInstance.maxHeartbeats 2000000
variable {W0 : World} {R : List HP}
section
open Go.RowKit
def gL (c : Cfg) : Nat → Int
 | 0 => (c.nl.length : Int)
 | i + 1 => gL c i + ((c.gl.getD i (0, 0, 0)).2.1 + (c.gl.getD i (0, 0, 0)).2.2)
theorem FD {c : Cfg} (hb : ∀ g ∈ c.gl, 1 ≤ g.2.1 ∧ g.2.1 ≤ 8 ∧ 0 ≤ g.2.2 ∧ g.2.2 ≤ 8 - g.2.1) (hn : c.nl.length ≤ 4) : ∀ i, i ≤ c.gl.length → 0 ≤ gL c i ∧ gL c i ≤ 4 + 8 * i
 | 0, _ => by rw [gL]; omega
 | i + 1, hi => by
  obtain ⟨h1, h2⟩ := FD hb hn i (by omega)
  have := hb _ (QaL (show i < c.gl.length by omega))
  rw [gL, show c.gl.getD i (0, 0, 0) = c.gl[i]'(by omega) by simp [List.getD, show i < c.gl.length by omega]]
  omega
theorem Bu (c : Cfg) (hs : ∀ A, bK (az W0 A) c.ga 3 iz c.gl) (hb : ∀ g ∈ c.gl, 1 ≤ g.2.1 ∧ g.2.1 ≤ 8 ∧ 0 ≤ g.2.2 ∧ g.2.2 ≤ 8 - g.2.1) (hn : c.nl.length ≤ 4) (hg : c.gl.length ≤ 4) : sQ W0 42 [.agg (cX c).toArray] R (iQ (gL c c.gl.length)) R := by
 have hle := FD hb hn
 refine ac func42 ntmps42 ?_
 refine aV fun b1 => ?_
 refine dr (fun i : Nat => i ≤ c.gl.length) (fun i => [(3, iQ (gL c i)), (10, .slice c.ga c.gl.length c.gc), (11, iQ (c.gl.length : Nat)), (12, iQ (i : Nat))]) (fun _ => R) (fun i => c.gl.length - i) 0 ?_ ?_
 omega
 intro i hi
 refine aw ?_
 refine ah (fun c3 => ?_) fun c3 => ?_
 have hi1 : i < c.gl.length := by omega
 obtain ⟨g, o, hga, hc⟩ := (hs R).at_ hi1
 obtain ⟨x, hx⟩ : ∃ x, c.gl[i] = x := ⟨_, rfl⟩
 rw [hx] at hc
 have hbx := hb _ (QaL hi1)
 rw [hx] at hbx
 have hst : gL c (i + 1) = gL c i + (x.2.1 + x.2.2) := by grind [gL]
 have hl1 := hle i hi
 rw [hga]
 refine a7 (bE hi1) ?_
 refine a7 (bZ hc.weak) ?_
 refine bB fun bx => ?_
 refine eu (gD rK rfl rfl rfl rfl rfl) ?_
 rintro _ _ rfl
 refine aM (aC (aU (ab rfl (aW rfl) ?_)))
 refine ab rfl (d3 rfl nU rfl aO rfl (by first | exact Qac _ | rfl)) ?_
 refine ab rfl (ci cy rfl (aE rfl)) ?_
 refine ab rfl (d3 rfl nU rfl aO rfl (by first | exact Qac _ | rfl)) ?_
 refine ab rfl (ci cy rfl (aE rfl)) ?_
 refine ab rfl (dx rfl rfl (bU (by omega))) ?_
 refine a7 (dx rfl rfl (by rw [bU (by omega)]; exact hst.symm : IntKind.wrap .i64 (gL c i + (x.2.1 + x.2.2)) = gL c (i + 1))) ?_
 refine a7 cQ ?_
 exact cv (i + 1) (by omega)
 refine aa ?_
 obtain rfl : i = c.gl.length := by omega
 exact ai
section
variable {rd : Option Nat} {P : Program} {S : World → Prop} {W0 : World} {N : FSz} {Q : Exit → Act → World → Prop} {e : aP} {A B R R1 R2 : List HP} {ops : Array Oper} {rest : List Oper}
variable {op : Op} {ty t t' : TypeId} {pos : String} {af : Array Edge} {v u : Value} {d b off : Nat} {x y z : Operand} {l l' vs : List Value}
theorem yq {z : Array Value} {n : Nat} : (Builtin.zeroCells z n).toList.length = n * z.size := by simp [Builtin.zeroCells]
theorem Us {E sz n k c by_ : Nat} {info : TypeInfo} {zz : Value} {an : Option Addr} {olds : List Value} {kk : Int} {kq kn : IntKind} (hu : P.underlying t = some (.slice E)) (htn : P.underlying t' = some (.int kn))
    (hi : P.info? E = some info) (hz : info.zero = some zz) (hsz : info.size = sz) (hby : info.bytes = by_) (hz1 : zz.cells.size = sz) (hsz0 : 0 < sz)
    (hx : ev e x = some (.slice an n c)) (hy : ev e y = some (.int kq kk)) (hk : kk = (k : Int)) (hold : (an = none ∧ olds = []) ∨ ∃ bx ox, an = some ⟨bx, ox, none⟩ ∧ aR (az W0 A) bx ox olds) (hol : olds.length = n * sz)
    (h0 : 0 < k) (hg : c < n + k) (h63 : n + k ≤ maxLen) (hbig : (n + k) * by_ ≤ 140737488355328) :
    bW P W0 N e A (.call { callee := .builtin .append, args := #[x, y], argTypes := #[t, t'] }) (fun v B => ∃ a' c' zs, v = .slice a' (n + k) c' ∧ zs.length = k * sz ∧ B = osl E sz v (olds ++ zs) :: A) := pf fun a w dst ty pos af g hF hO => by
 subst hk
 subst hsz
 subst hby
 have hsmall : n + k ≤ 9223372036854775807 := by simp only [maxLen] at h63; omega
 have hfc : (Builtin.firstCells info.size n (.slice an n c)).run P w.drew = .ok olds.toArray w.drew := by
  rcases hold with ⟨rfl, rfl⟩ | ⟨bx, ox, rfl, hc⟩
  simp [Builtin.firstCells]
  exact run_firstCells_some (P := P) w.drew info.size n ⟨bx, ox, none⟩ n c olds hol (fun j u hj => by
   have := hc j u hj w hO
   simpa [iN] using this)
 have hbk : k * info.bytes ≤ 281474976710656 := by
  grind
 have hr := Go.Lib.run_append_grow_zeros (P := P) w t t' ty E info zz kq kn hu htn hi hz an n c olds hfc k h0 hsz0 hg (by omega) hbk (growslice_fits (by omega) hbig)
 have hge := grownCap_ge w (n + k) c E
 have hcm := grownCap_le_maxLen w (n + k) c E h63
 have hnew := (Own.drew hO (w.drawn + 1)).new (a8 ((olds ++ (Builtin.zeroCells zz.cells k).toList) ++ (Builtin.zeroCells zz.cells (grownCap w (n + k) c E - (n + k))).toList) E)
 have ea : ((olds ++ (Builtin.zeroCells zz.cells k).toList) ++ (Builtin.zeroCells zz.cells (grownCap w (n + k) c E - (n + k))).toList).toArray = olds.toArray ++ Builtin.zeroCells zz.cells k ++ Builtin.zeroCells zz.cells (grownCap w (n + k) c E - (n + k)) := by grind
 refine ⟨_, { ({ w with drawn := w.drawn + 1 } : World) with heap := w.heap.push (a8 ((olds ++ (Builtin.zeroCells zz.cells k).toList) ++ (Builtin.zeroCells zz.cells (grownCap w (n + k) c E - (n + k))).toList) E) }, _, .inl ?_, ⟨some ⟨w.heap.size, 0, none⟩, grownCap w (n + k) c E, (Builtin.zeroCells zz.cells k).toList, rfl, by rw [yq, hz1], rfl⟩, ?_⟩
 simp only [execOp, resolve, invoke, builtin, Sem.run_bind, Sem.run_pure, Result.andThen_ok, QbA, Qaz, Qbt, hF.eval hx, hF.eval hy, hr]
 simp only [World.drew, World.alloc, a8, ea]
 refine hnew.ent ?_
 exact @gG _ A A E info.size w.heap.size (n + k) (grownCap w (n + k) c E) (olds ++ (Builtin.zeroCells zz.cells k).toList) _ _ hge hcm (by grind [Qad, yq]) (by
   rw [Qad, Qad, hol, yq, yq, hz1, ← Nat.add_mul, ← Nat.add_mul]; congr 1; omega) _
theorem Ut {f : FuncId} {xs : Array Operand} {ats : Array TypeId} (hx : eJ e xs.toList = some vs) (hc : ∀ w, S w → (callFunc f vs.toArray).run P w = .ok (.value v) w) : bC P S N e (.call { callee := .value (.func f), args := xs, argTypes := ats }) v := fun a w dst ty pos af g hF hO => by
 rw [execOp_call_go]
 have he : (#[] ++ xs.map a.eval ++ #[] : Array Value) = vs.toArray := by
  have := hF.evals hx
  rw [← this]; apply Qcj; simp
 rw [he, hc w hO]
theorem Uu {n c : Nat} {a : Option Addr} (hu : P.underlying t = some (.slice d)) (hx : ev e x = some (.slice a n c)) : bC P S N e (.call { callee := .builtin .cap, args := #[x], argTypes := #[t] }) (iQ (c : Nat)) := fun act w _ _ _ _ _ hF _ => by
 simp [execOp, resolve, invoke, builtin, hF.eval hx, Builtin.cap_, dA hu, goInt]
theorem yr {p q s r : List Value} (h : q.length = r.length) : d4 (p ++ q ++ s) p.length r = p ++ r ++ s := by
 grind [pq]
theorem Bv {g o : Nat} {l1 l2 : List Value} (h : aR S g o (l1 ++ l2)) : aR S g o l1 := fun i v hi => h i v (by
  rw [QaJ (by
    rcases Qay i l1.length with q | q
    · exact q
    rw [QaW q] at hi; cases hi)]
  exact hi)
theorem Uv {g o : Nat} {l1 l2 : List Value} (h : aR S g o (l1 ++ l2)) : aR S g (o + l1.length) l2 := fun i v hi => by
 rw [Qcg]
 exact h (l1.length + i) v (by grind)
theorem FE {l1 l2 l3 : List Value} {o : Nat} [h : Tk pt b A (a8 l ty) R] (hl : l = l1 ++ l2 ++ l3) (ho : l1.length = o) : aR (az W0 A) b o l2 := by
 subst ho
 have h0 : aR (az W0 A) b 0 (l1 ++ l2) := Bv (l2 := l3) (by rw [← hl]; exact dW (ty := ty) (R := R) (h := h))
 have := Uv h0
 rwa [Qac] at this
theorem Uw {E sz : Nat} {tS tR ba ga na ca nb cb oa ob : Nat} {la lb : List Value} {ta tb : TypeId} (ht : P.underlying tS = some (.slice E)) (hz : ∀ w, (sizeOf E).run P w = .ok sz w) [h1 : Tk pt ba A (a8 la ta) R1] [h2 : Tk pt ga R1 (a8 lb tb) R2] (hla : oa ≤ la.length) (hlb : 0 < lb.length) {w : World} (hO : Own W0 w A) :
    (Extern.SlicesOverlaps.overlaps #[tS, tS] #[tR] #[.slice (some ⟨ba, oa, none⟩) na ca, .slice (some ⟨ga, ob, none⟩) nb cb]).run P w = .ok (.bool false) w := by
 have hO1 := hO.tk (r := pt) (b := ba)
 have ha := hO1.has.2
 have hO2 := (hO1.drop).tk (r := pt) (b := ga)
 have hb := hO2.has.2
 have hne : ba ≠ ga := by
  intro q; subst q
  have hO3 : Own W0 w (pt ba (a8 la ta) :: pt ba (a8 lb tb) :: R2) := hO1.perm (h2.perm.cons _)
  obtain ⟨ls, ⟨l1, l2, rfl, e1, l3, l4, rfl, e2, _⟩, hn, _⟩ := hO3.owns
  cases e1; cases e2
  simp at hn
 refine Go.Lib.run_overlaps_apart w tS tR E ht sz hz ⟨ba, oa, none⟩ ⟨ga, ob, none⟩ na ca nb cb hne ta tb la.length lb.length ?_ ?_ (by omega) ?_ ?_
 simp [World.shape?, ha]
 simp [World.shape?, hb]
 simp [World.frozen?, ha]
 simp [World.frozen?, ha]
end
section
variable {P : Program} {S : World → Prop} {W0 : World} {N : FSz} {e : aP} {A R : List HP} {t ty : TypeId} {b off : Nat} {x : Operand} {l : List Value}
theorem vT {E n c sz o' : Nat} {k : IntKind} {i : Nat} {j1 : Int} (hu : P.underlying t = some (.slice E)) (hs : ∀ w, (sizeOf E).run P w = .ok sz w) (hx : ev e x = some (.slice (some ⟨b, off, none⟩) n c))
    {lo : Operand} (h1 : ev e lo = some (.int k j1)) (e1 : j1 = (i : Int)) (hil : i ≤ n) (hne : i < c) (ho : off + i * sz = o') :
    bC P S N e (.slice t x (some lo) none none) (.slice (some ⟨b, o', none⟩) (n - i) (c - i)) := fun a w _ _ _ _ _ hF _ => by
 subst e1; subst ho
 have hmi : ¬ c = i := by omega
 simp [execOp, Instr.sliceAt, Instr.slice, hF.eval hx, hF.eval h1, dA hu, Instr.sliceBounds, su hil, hs, hmi, iN]
theorem pD {E n c sz : Nat} {k : IntKind} {i : Nat} {j1 : Int} {a a' : Option Addr} (hu : P.underlying t = some (.slice E)) (hs : ∀ w, (sizeOf E).run P w = .ok sz w) (hx : ev e x = some (.slice a n c))
    {lo : Operand} (h1 : ev e lo = some (.int k j1)) (e1 : j1 = (i : Int)) (hil : i ≤ n) (ha : jJ a c i sz = a') :
    bC P S N e (.slice t x (some lo) none none) (.slice a' (n - i) (c - i)) := fun act w _ _ _ _ _ hF _ => by
 subst e1; subst ha
 simp [execOp, Instr.sliceAt, Instr.slice, hF.eval hx, hF.eval h1, dA hu, Instr.sliceBounds, su hil, hs, jJ]
theorem FF (z : Array Value) (n : Nat) : (Builtin.zeroCells z n).toList.length = n * z.size := by simp [Builtin.zeroCells]
theorem Ux (z : Array Value) (n : Nat) (hz : z.all Value.oneCell' = true) : ∀ v ∈ (Builtin.zeroCells z n).toList, v.oneCell' = true := fun v hv => by
 simp only [Builtin.zeroCells, QbU, QaS, Array.toList_range, QbC] at hv
 obtain ⟨i, hi, rfl⟩ := hv
 have hp : 0 < z.size := by
  grind
 have hlt : i % z.size < z.size := QbW _ hp
 rw [getElem!_pos z (i % z.size) hlt]
 exact (Array.all_eq_true.1 hz) _ hlt
theorem Bw {E n c : Nat} {z : Value} (hu : P.underlying t = some (.slice E)) (hz : ∀ w, (zeroValue E).run P w = .ok z w) (h1 : z.cells.all Value.oneCell' = true) (hx : ev e x = some (.slice (some ⟨b, off, none⟩) n c)) (hn : 0 < n)
    [h : Tk pt b A (a8 l ty) R] (ho : off + n * z.cells.size ≤ l.length) :
    bW P W0 N e A (.call { callee := .builtin .clear, args := #[x], argTypes := #[t] }) (fun v B => ∃ vs : List Value, vs.length = n * z.cells.size ∧ v = .tuple #[] ∧ B = pt b (a8 (d4 l off vs) ty) :: R) := by
 intro a w dst ty' pos af g K Q hF hO k
 have hO' := hO.tk (r := pt) (b := b)
 obtain ⟨w', hst, hO''⟩ := vB (P := P) (off := off) (Builtin.zeroCells z.cells n).toList 0 hO' (by rw [FF]; omega) (Ux _ _ h1)
 rw [Qcc] at hO''
 have hexec : (execOp a.eval { dst := dst, op := .call { callee := .builtin .clear, args := #[x], argTypes := #[t] }, type := ty', pos := pos, after := af, guard := g }).run P w = .ok (.value (.tuple #[])) w' := by
  obtain ⟨m, rfl⟩ : ∃ m, n = m + 1 := ⟨n - 1, by omega⟩
  simp only [execOp, resolve, invoke, builtin, Sem.run_bind, Sem.run_pure, Result.andThen_ok, QbA, Qaz, Qbt, hF.eval hx, Builtin.clear_, QbG, QaV, QaY, dA hu, hz, hst]
 unfold Oper.wp
 rw [hexec]
 exact k _ w' _ ⟨_, FF _ _, rfl, rfl⟩ hO''
section
variable {rd : Option Nat} {Q : Exit → Act → World → Prop} {ops : Array Oper} {rest : List Oper} {pos : String} {af : Array Edge} {d : Nat} {y : Operand}
theorem Uy {xc yc : Code} (k : am W0 N (yc.wpR rd P Q) e A) : am W0 N ((Code.cond (.const (.bool false)) xc yc).wpR rd P Q) e A :=
  fun a w hF hO => wpIn_cond_false (hF.eval (x := .const (.bool false)) rfl) (k a w hF hO)
theorem Uz {k : IntKind} {i : Int} {j : Nat} {s : ByteArray} (hu : P.underlying t = some .string) (hx : ev e x = some (.string s)) (hy : ev e y = some (.int k i)) (hi : i = (j : Int)) (hj : j < s.size) :
    bC P S N e (.index t x y) (.int .u8 (s[j]'hj).toNat) := fun a w _ _ _ _ _ hF _ => by
 subst hi
 have h1 : (0 : Int) ≤ (j : Int) := by omega
 simp only [execOp, Instr.index, Sem.run_bind, hF.eval hx, hF.eval hy, asIntOf, Sem.run_pure, Result.andThen_ok, dA hu, Qae h1, Qal, getElem?_pos s j hj]
theorem UA {k : IntKind} {i : Int} {j : Nat} {s : ByteArray} (hd : Nat.blt d N.n = true) (hu : P.underlying t = some .string) (hx : ev e x = some (.string s)) (hy : ev e y = some (.int k i)) (hi : i = (j : Int)) (hj : j < s.size)
    (kk : ∀ m : Nat, m < 256 → am W0 N (bz rd P ops Q rest) ((d, .int .u8 m) :: e) A) :
    am W0 N (bz rd P ops Q ({ dst := some d, op := .index t x y, type := ty, pos := pos, after := af, guard := none } :: rest)) e A :=
  ab hd (Uz hu hx hy hi hj) (kk _ (UInt8.toNat_lt _))
end
end
section
variable {P : Program} {W0 : World} {N : FSz} {e : aP} {A R R1 R2 R3 R4 R5 R6 R7 : List HP} {vs us cs : List Value}
variable {K1 K2 K3 K4 K5 K6 K7 K8 X1 X2 X3 X4 X5 X6 X7 X8 : Type} {r1 : K1 → X1 → HP} {b1 : K1} {x1 : X1} {r2 : K2 → X2 → HP} {b2 : K2} {x2 : X2} {r3 : K3 → X3 → HP} {b3 : K3} {x3 : X3} {r4 : K4 → X4 → HP} {b4 : K4} {x4 : X4} {r5 : K5 → X5 → HP} {b5 : K5} {x5 : X5} {r6 : K6 → X6 → HP} {b6 : K6} {x6 : X6} {r7 : K7 → X7 → HP} {b7 : K7} {x7 : X7} {r8 : K8 → X8 → HP} {b8 : K8} {x8 : X8}
theorem FG [h1 : Tk r1 b1 A x1 R1] [h2 : Tk r2 b2 R1 x2 R2] [h3 : Tk r3 b3 R2 x3 R3] [h4 : Tk r4 b4 R3 x4 R4] [h5 : Tk r5 b5 R4 x5 R5] [h6 : Tk r6 b6 R5 x6 R6] [h7 : Tk r7 b7 R6 x7 R] : A.Perm (r1 b1 x1 :: r2 b2 x2 :: r3 b3 x3 :: r4 b4 x4 :: r5 b5 x5 :: r6 b6 x6 :: r7 b7 x7 :: R) := h1.perm.trans (vO.cons _)
theorem UB [h1 : Tk r1 b1 A x1 R1] [h2 : Tk r2 b2 R1 x2 R2] [h3 : Tk r3 b3 R2 x3 R3] [h4 : Tk r4 b4 R3 x4 R4] [h5 : Tk r5 b5 R4 x5 R5] [h6 : Tk r6 b6 R5 x6 R6] [h7 : Tk r7 b7 R6 x7 R7] [h8 : Tk r8 b8 R7 x8 R] : A.Perm (r1 b1 x1 :: r2 b2 x2 :: r3 b3 x3 :: r4 b4 x4 :: r5 b5 x5 :: r6 b6 x6 :: r7 b7 x7 :: r8 b8 x8 :: R) := h1.perm.trans (FG.cons _)
variable {f : FuncId} {xs : Array Operand} {ats : Array TypeId} {Post : Value → List HP → Prop}
theorem FH (hc : ∀ args w, (callFunc f args).run P w = .ok (.enter f args) w) (hx : eJ e xs.toList = some vs)
    (hs : aZ P W0 f vs (r1 b1 x1 :: r2 b2 x2 :: r3 b3 x3 :: r4 b4 x4 :: r5 b5 x5 :: r6 b6 x6 :: r7 b7 x7 :: R) Post) [h1 : Tk r1 b1 A x1 R1] [h2 : Tk r2 b2 R1 x2 R2] [h3 : Tk r3 b3 R2 x3 R3] [h4 : Tk r4 b4 R3 x4 R4] [h5 : Tk r5 b5 R4 x5 R5] [h6 : Tk r6 b6 R5 x6 R6] [h7 : Tk r7 b7 R6 x7 R] : bW P W0 N e A (.call { callee := .value (.func f), args := xs, argTypes := ats }) Post :=
  jn FG (ix hc hx hs)
end
class NOut (Q : Exit → Act → World → Prop) : Prop where
  no : ∀ a w, ¬ Q .outgrown a w
instance a7F {n : Act → World → Prop} {Q : Exit → Act → World → Prop} [h : NOut Q] : NOut (Exit.then n Q) := ⟨fun a w k => h.no a w k⟩
instance a7G {id : Nat} {Q : Exit → Act → World → Prop} [h : NOut Q] : NOut (Exit.inBlock id Q) := ⟨fun a w k => h.no a w k⟩
instance a7H {P : Program} {W0 : World} {L : Nat} {Post : Value → List HP → Prop} : NOut (uk P W0 L Post) := ⟨fun a w k => k⟩
instance a7I {P : Program} {W0 : World} {L : Nat} {Post : Value → List HP → Prop} : POk (uk P W0 L Post) := ⟨fun c a d v w k => k.elim⟩
section
variable {rd : Option Nat} {P : Program} {W0 : World} {N : FSz} {Q : Exit → Act → World → Prop} {e : aP} {A : List HP} {ops : Array Oper} {S : World → Prop}
theorem yt (hp : rU rd ops.toList = true) (hq : NOut Q) : ∀ (fuel : Nat) (listed : Array Bool) (a : Act) (w : World), wpAnyH P .any ops Q S fuel listed a w → wpAnyIn (FW rd) 0 P .any ops Q fuel listed a w
 | 0, _, _, _, h => h
 | fuel + 1, listed, a, w, h => ⟨h.1, fun i hi => by
  have h2 := h.2 i hi
  unfold wpOp at h2
  unfold wpOpIn
  cases ho : ops[i]? with
  | none =>
   rw [ho] at h2
   exact yt hp hq fuel _ a w h2.2
  | some o =>
   rw [ho] at h2
   simp only at h2 ⊢
   split at h2
   rename_i hwant
   rw [Qae hwant]
   rcases h2 with h2 | ⟨_, a', w', h3⟩
   have hsem : o.semAt (FW rd).round a.eval = execOp a.eval o := by
    cases rd with
    | none => rfl
    | some l =>
     refine Oper.semAt_eq _ _ _ (EF ?_)
     simp only [rU, Option.isNone_some, Qcf, Qbz] at hp
     exact hp _ (by
       obtain ⟨hlt, rfl⟩ := Array.getElem?_eq_some_iff.1 ho
       simp)
   refine ⟨fun _ _ => trivial, ?_⟩
   rw [hsem]
   exact EE (fun a' w' h' => yt hp hq fuel _ a' w' h'.2) h2
   exact absurd h3 (hq.no a' w')
   rename_i hwant
   rw [Qab hwant]
   exact ⟨fun _ _ => trivial, yt hp hq fuel _ _ w h2.2⟩⟩
theorem FI {id : Nat} (cs : List (Nat × Nat × List Value)) (n : Nat) (hm : P.follows .mixedOrders = true) (hn : Nat.beq ops.size n = true) [hq : NOut Q] (hS : ∀ w, Own W0 w A → SC cs w) (k : (∀ w, Own W0 w A → SC cs w) → am W0 N (DR P ops Q cs n (Array.replicate n false)) e A) (hp : rU rd ops.toList = true := by rfl) : am W0 N ((Code.region id ops true).wpR rd P Q) e A := by
 intro a w hF hO
 have : ops.size = n := Nat.eq_of_beq_eq_true hn
 subst this
 exact wpIn_region_any hm (yt hp hq _ _ _ _ (k hS a _ hF (hO.drew _)))
end
abbrev Rn := Int × Int × Int
def bI (x : Rn) : List Value := [.int .i64 x.1, .int .i64 x.2.1, .int .i64 x.2.2]
theorem oj (x : Rn) : (bI x).length = 3 := rfl
theorem Bz (x : Rn) : dV (bI x) = true := by simp [bI, dV, Value.oneCell']
theorem BA (l : List Rn) : dV (l.flatMap bI) = true := by
 induction l with
 | nil => rfl
 | cons x l ih =>
  rw [Qbb, dV, List.all_append, Qap]
  exact ⟨Bz x, ih⟩
@[reducible] def jL (a : Option Addr) (k c : Nat) (n : Int) : Obj := a8 [.slice a k c, .int .i64 n, .bool true] 267
def jo (b : Nat) (x : List Rn × Int) : HP := chk (fun C => ∃ a c, C = [pt b (jL a x.1.length c x.2), osl 271 3 (.slice a x.1.length c) (x.1.flatMap bI)])
section
variable {W0 : World} {N : FSz} {K : Act → World → Prop} {e : aP} {A B R R1 R2 : List HP} {b n c : Nat} {x : List Rn × Int}
theorem FJ [hk : Tk jo b A x R] (h : ∀ a c, am W0 N K e (pt b (jL a x.1.length c x.2) :: osl 271 3 (.slice a x.1.length c) (x.1.flatMap bI) :: R)) : am W0 N K e A :=
  gJ (r := jo) (b := b) (mN fun C hC => by obtain ⟨a, c, rfl⟩ := hC; exact h a c)
theorem ma {rs : List Rn} {k m : Nat} {nn : Int} {a : Option Addr} {ys : List Value} [h1 : Tk pt b A (jL a k m nn) R1] [h2 : Tk (osl 271 3) (.slice a k m) R1 ys R2] (hk : k = rs.length) (hy : ys = rs.flatMap bI) [q : Ent R2 B] : Ent A (jo b (rs, nn) :: B) := by
 subst hk; subst hy
 exact (Ent.ofPerm (h1.perm.trans (h2.perm.cons _))).trans ((dQ (R := R2) (C := [_, _]) ⟨a, m, rfl⟩).trans (Ent.cons q))
theorem UC {α : Type} {E sz g c i : Nat} {f : α → List Value} {xs : List α} {x : α} {ys : List Value} [h : Tk (osl E sz) (.slice (some ⟨g, 0, none⟩) n c) A ys R] (hy : ys = xs.flatMap f) (hf : ∀ x, (f x).length = sz) (hz : 0 < sz) (hx : xs[i]? = some x) : aR (az W0 A) g (i * sz) (f x) := by
 obtain ⟨b, off, e1, hc⟩ := TZ (S := az W0 A) (a := some ⟨g, 0, none⟩) (.inr ⟨g, rfl⟩) (Fl (E := E) (sz := sz) (n := n) (c := c) (ys := ys)) hf hy hz i x hx
 cases e1
 rw [Qac] at hc; exact hc
end
theorem UD (W0 : World) (b1 bt L : Nat) (rs : List Rn) (n : Int) (a : Option Addr) (c : Nat) (hl : rs.length ≤ 1000) (C : Nat → List HP) (I : Nat → Prop) (h0 : I 0) (Stop : List HP → Prop) (hr : ∀ i R, i < rs.length → I i → oe Tryz.prog W0 L [iQ (i : Nat), .agg (bI (rs.getD i (0, 0, 0))).toArray] (C i ++ R) (fun v B => ∃ b B', v = .bool b ∧ B = B' ++ R ∧ ((b = true ∧ I (i + 1) ∧ B' = C (i + 1)) ∨ (b = false ∧ Stop B')))) : sP W0 329 [.func (.yield L) #[] #[], pQ b1] (pt b1 (a8 [pQ bt] 174) :: pt bt (jL a rs.length c n) :: osl 271 3 (.slice a rs.length c) (rs.flatMap bI) :: C 0) (fun v B => v = .tuple #[] ∧ ∃ B', B = pt bt (jL a rs.length c n) :: osl 271 3 (.slice a rs.length c) (rs.flatMap bI) :: B' ∧ ((I rs.length ∧ B' = C rs.length) ∨ Stop B')) := by
 refine ac func329 ntmps329 ?_
 refine dr (fun i : Nat => i ≤ rs.length ∧ I i) (fun i => [(0, .func (.yield L) #[] #[]), (8, .slice a rs.length c), (9, iQ (rs.length : Nat)), (10, iQ (i : Nat))]) (fun i => pt bt (jL a rs.length c n) :: osl 271 3 (.slice a rs.length c) (rs.flatMap bI) :: C i) (fun i => rs.length - i) 0 ?_ ?_
 grind
 intro i ⟨hi, hI⟩
 refine aw ?_
 refine ah (fun c1 => ?_) fun c1 => ?_
 have hi1 : i < rs.length := by omega
 have hgi : rs[i]? = some (rs.getD i (0, 0, 0)) := by grind
 refine Bn (E := 271) (sz := 3) (a := a) (c := c) (n := rs.length) (ys := rs.flatMap bI) (fun hf => ?_)
 obtain ⟨g, rfl⟩ := Bs hf (by rw [← Qci, bX oj]; omega)
 refine aw ?_
 refine a7 (bE hi1) ?_
 refine a7 (bZ (UC (f := bI) (E := 271) (sz := 3) (n := rs.length) (c := c) rfl oj (by decide) hgi)) ?_
 refine bB fun b1 => ?_
 refine eu (gD iw rfl rfl rfl rfl rfl) ?_
 rintro _ _ rfl
 refine aM (aC (aI (aU (ab rfl (aW rfl) (ab rfl (aW rfl) (ab rfl (nr DC iw rfl rfl) ?_))))))
 refine Be rfl rfl rfl (Bh (QaO (l₁ := [_, _, _])) (hr i [_, _, _] hi1 hI)) ?_
 rintro _ B_ ⟨b, B', rfl, hB_, hb⟩
 obtain rfl := hB_.symm
 refine oY QaO ?_
 simp only [Qar, Qan]
 refine aw ?_
 refine ah (fun c3 => ?_) fun c3 => ?_
 have hs : Stop B' := by
  grind
 refine bA (.inl rfl) .nil ?_
 exact ⟨_, ⟨rfl, _, rfl, .inr hs⟩, IO⟩
 have hs : I (i + 1) ∧ B' = C (i + 1) := by
  grind
 obtain ⟨hI', rfl⟩ := hs
 refine a7 cQ ?_
 refine cv (i + 1) ?_
 grind
 refine bA (.inr rfl) .nil ?_
 obtain rfl : i = rs.length := by omega
 exact ⟨_, ⟨rfl, _, rfl, .inl ⟨hI, rfl⟩⟩, IO⟩
theorem FK (bt : Nat) : sP W0 254 [pQ bt] R (fun v B => ∃ b1, v = .func (.func 329) #[] #[pQ b1] ∧ B = pt b1 (a8 [pQ bt] 174) :: R) := by
 refine ac func254 ntmps254 ?_
 refine cW (gE rfl rfl) fun b1 => ?_
 refine aa ?_
 exact ⟨_, ⟨b1, rfl, rfl⟩, IO⟩
theorem FL {W0 : World} {A : List HP} {e : aP} {n' L D b1 bt c : Nat} {n : Int} {a : Option Addr} {ps' : Array Tmp} {asg body : Code} (pe : Code) {Go Stop : List HP → Prop} (rs : List Rn) (hl : rs.length ≤ 1000) (Ct : Nat → List HP) (I : Nat → Prop) (St : List HP → Prop)
    (hp : A.Perm (pt b1 (a8 [pQ bt] 174) :: pt bt (jL a rs.length c n) :: osl 271 3 (.slice a rs.length c) (rs.flatMap bI) :: Ct 0)) (h0 : I 0)
    (hgo : I rs.length → Go (pt bt (jL a rs.length c n) :: osl 271 3 (.slice a rs.length c) (rs.flatMap bI) :: Ct rs.length))
    (hst : ∀ B', St B' → Stop (pt bt (jL a rs.length c n) :: osl 271 3 (.slice a rs.length c) (rs.flatMap bI) :: B'))
    (hrd : ∀ i R', i < rs.length → I i → oe Tryz.prog W0 L [iQ (i : Nat), .agg (bI (rs.getD i (0, 0, 0))).toArray] (d5 L ⟨e, n', ps', asg, body, .ready, none, D⟩ :: pt D (.deferred (some [])) :: (Ct i ++ R'))
      (fun v B => (v = .bool true ∧ I (i + 1) ∧ B = d5 L ⟨e, n', ps', asg, body, .ready, none, D⟩ :: pt D (.deferred (some [])) :: (Ct (i + 1) ++ R')) ∨
        (v = .bool false ∧ ∃ B', St B' ∧ B = d5 L ⟨e, n', ps', asg, body, .done, some pe, D⟩ :: pt D (.deferred (some [])) :: (B' ++ R')))) :
    aZ Tryz.prog W0 329 (.func (.yield L) #[] #[] :: [pQ b1]) (d5 L ⟨e, n', ps', asg, body, .ready, none, D⟩ :: pt D (.deferred (some [])) :: A)
      (fun _ B => (∃ C, B = d5 L ⟨e, n', ps', asg, body, .ready, none, D⟩ :: pt D (.deferred (some [])) :: C ∧ Go C) ∨ (∃ C, B = d5 L ⟨e, n', ps', asg, body, .done, some pe, D⟩ :: pt D (.deferred (some [])) :: C ∧ Stop C)) := by
 have hperm : (d5 L ⟨e, n', ps', asg, body, .ready, none, D⟩ :: pt D (.deferred (some [])) :: A).Perm (pt b1 (a8 [pQ bt] 174) :: pt bt (jL a rs.length c n) :: osl 271 3 (.slice a rs.length c) (rs.flatMap bI) :: (d5 L ⟨e, n', ps', asg, body, .ready, none, D⟩ :: pt D (.deferred (some [])) :: Ct 0)) :=
   ((hp.cons _).cons _).trans (List.perm_append_comm_assoc [_, _] [_, _, _] (Ct 0))
 refine lZ hperm (iy (UD W0 b1 bt L rs n a c hl (fun i => d5 L ⟨e, n', ps', asg, body, .ready, none, D⟩ :: pt D (.deferred (some [])) :: Ct i) I h0
   (fun B => ∃ B', St B' ∧ B = d5 L ⟨e, n', ps', asg, body, .done, some pe, D⟩ :: pt D (.deferred (some [])) :: B') fun i R hat hI w hO => ?_) ?_)
 obtain ⟨f, tmps, as_, bd, hy, hR⟩ := hrd i R hat hI w hO
 refine ⟨f, tmps, as_, bd, hy, RoundIn.mono hR ?_⟩
 rintro _ w' ⟨v, B, rfl, hB, hO'⟩
 rcases hB with ⟨rfl, hI', rfl⟩ | ⟨rfl, B', hS, rfl⟩
 grind
 grind
 rintro v B ⟨_, B0, rfl, ⟨hI, rfl⟩ | ⟨B', hS, rfl⟩⟩
 exact ⟨_, .inl ⟨_, rfl, hgo hI⟩, Ent.ofPerm (List.perm_append_comm_assoc [_, _] [_, _] (Ct rs.length))⟩
 exact ⟨_, .inr ⟨_, rfl, hst B' hS⟩, Ent.ofPerm (List.perm_append_comm_assoc [_, _] [_, _] B')⟩
theorem FM (x : Rn) (h : -1000 ≤ x.1 + x.2.1 ∧ x.1 + x.2.1 ≤ 1000) : sQ W0 255 [.agg (bI x).toArray] R (iQ (x.1 + x.2.1)) R := by
 refine ac func255 ntmps255 ?_
 refine dR (k0 rfl) fun b1 => ?_
 refine ab rfl (bq rfl) (aM (aC (aI (aU ?_))))
 refine ab rfl (d3 rfl xI rfl aO rfl (by first | exact Qac _ | rfl)) ?_
 refine ab rfl (ci cy rfl (aE rfl)) ?_
 refine ab rfl (d3 rfl xI rfl aO rfl (by first | exact Qac _ | rfl)) ?_
 refine ab rfl (ci cy rfl (aE rfl)) ?_
 refine ab rfl (dx rfl rfl (bU (by omega))) ?_
 refine ab rfl (bq rfl) (aM (aC (dC ?_)))
 exact aa ai
def jM : List Rn → Int → Nat
 | [], _ => 0
 | x :: l, f => if x.1 + x.2.1 ≤ f then jM l f + 1 else 0
def ol (rs : List Rn) (f n : Int) : Bool := match rs[jM rs f]? with
 | some x => decide (x.1 < f + n)
 | none => false
theorem BB : ∀ (rs : List Rn) (f : Int) (i : Nat), i ≤ rs.length → (∀ j (hj : j < rs.length), j < i → rs[j].1 + rs[j].2.1 ≤ f) → (∀ h : i < rs.length, ¬ rs[i].1 + rs[i].2.1 ≤ f) → jM rs f = i
 | [], f, i, h, _, _ => by simp at h; rw [jM, h]
 | x :: l, f, 0, _, _, h2 => by
  have := h2 (by simp)
  rw [jM, Qab (by grind)]
 | x :: l, f, i + 1, h, h1, h2 => by
  have h0 := h1 0 (by simp) (by omega)
  rw [jM, Qae (by grind), BB l f i (by simpa using h) (fun j hj hji => by
   have := h1 (j + 1) (by omega) (by omega)
   simpa using this) (fun hi => by
   have := h2 (by grind)
   simpa using this)]
theorem BC : ∀ (rs : List Rn) (f : Int), jM rs f ≤ rs.length
 | [], f => Qaj _
 | x :: l, f => by
  have := BC l f
  rw [jM]; split
  grind
  omega
def om (rs : List Rn) : Prop := ∀ x ∈ rs, 0 ≤ x.1 ∧ 1 ≤ x.2.1 ∧ x.1 + x.2.1 ≤ 64 ∧ 0 ≤ x.2.2 ∧ x.2.2 < 64
theorem om.get {rs : List Rn} (h : om rs) {i : Nat} (hi : i < rs.length) : 0 ≤ (rs.getD i (0, 0, 0)).1 ∧ 1 ≤ (rs.getD i (0, 0, 0)).2.1 ∧ (rs.getD i (0, 0, 0)).1 + (rs.getD i (0, 0, 0)).2.1 ≤ 64 ∧ 0 ≤ (rs.getD i (0, 0, 0)).2.2 ∧ (rs.getD i (0, 0, 0)).2.2 < 64 := by
 rw [show rs.getD i (0, 0, 0) = rs[i] by simp [List.getD, hi]]; exact h _ (QaL hi)
theorem FN (b k c : Nat) (a : Option Addr) (n : Int) : sQ W0 153 [pQ b] (pt b (jL a k c n) :: R) (.bool false) (pt b (jL a k c n) :: R) := by
 refine ac func153 ntmps153 ?_
 refine cP rfl rfl rfl (fun g1_3 => ?_) fun g1_3 => ?_
 cases g1_3
 refine aw ?_
 exact aa ai
theorem FO (n : Int) (h : 0 ≤ n ∧ n ≤ 64) : sP W0 82 [iQ n] R (fun v B => ∃ b, v = .tuple #[pQ b, iQ 0] ∧ B = jo b ([], n) :: R) := by
 refine ac func82 ntmps82 ?_
 refine cP rfl rfl rfl (fun g1_3 => ?_) fun g1_3 => ?_
 omega
 refine aw ?_
 refine aA rfl (fun c1 => ?_) fun c1 => ?_
 omega
 refine aw ?_
 refine aV fun b1 => ?_
 refine aT ?_
 refine ⟨_, ⟨b1, rfl, rfl⟩, ?_⟩
 exact (Ent.cons (dP (E := 271) (sz := 3) (B := R))).trans (ma (rs := []) rfl rfl)
theorem UE (bt c : Nat) (rs : List Rn) (n : Int) (a : Option Addr) (hok : om rs) (hl : rs.length ≤ 1000) (f k : Int) (hf : 0 ≤ f ∧ f ≤ 64 ∧ 1 ≤ k ∧ k ≤ 64) : sQ W0 154 [pQ bt, iQ f, iQ k] (pt bt (jL a rs.length c n) :: osl 271 3 (.slice a rs.length c) (rs.flatMap bI) :: R) (.tuple #[iQ (jM rs f : Nat), .bool (ol rs f k)]) (pt bt (jL a rs.length c n) :: osl 271 3 (.slice a rs.length c) (rs.flatMap bI) :: R) := by
 refine ac func154 ntmps154 ?_
 refine cW (gE rfl rfl) fun bf => ?_
 refine dR (gE rfl rfl) fun bk => ?_
 refine au 4 ?_
 refine Bq (aw ?_)
 refine cW (mK lV rfl) fun ba => ?_
 refine cW (mK Lz rfl) fun bh => ?_
 refine aB dq ?_
 refine eu (jZ nk rfl rfl rfl (Qaa rfl) SetL.eq) ?_
 rintro _ _ rfl
 refine aM (aC (aI (AP (aC (aI (aI (aU (ab rfl (aW rfl) (ao rfl (ar call254 (FK bt)) ?_)))))))))
 rintro _ B_ ⟨b1, rfl, hB_⟩
 obtain rfl := hB_.symm
 refine aM (aC (kQ ?_))
 refine Ug 0 (fun C => (∀ j, j < rs.length → (rs.getD j (0, 0, 0)).1 + (rs.getD j (0, 0, 0)).2.1 ≤ f) ∧ C = pt bt (jL a rs.length c n) :: osl 271 3 (.slice a rs.length c) (rs.flatMap bI) :: pt bh (a8 [.bool false] 4) :: pt ba (a8 [iQ (rs.length : Nat)] 3) :: pt bk (a8 [iQ k] 3) :: pt bf (a8 [iQ f] 3) :: R) (fun C => ∃ i, i < rs.length ∧ (∀ j, j < i → (rs.getD j (0, 0, 0)).1 + (rs.getD j (0, 0, 0)).2.1 ≤ f) ∧ (¬ (rs.getD i (0, 0, 0)).1 + (rs.getD i (0, 0, 0)).2.1 ≤ f) ∧ C = pt bt (jL a rs.length c n) :: osl 271 3 (.slice a rs.length c) (rs.flatMap bI) :: pt bh (a8 [.bool (decide ((rs.getD i (0, 0, 0)).1 < f + k))] 4) :: pt ba (a8 [iQ (i : Nat)] 3) :: pt bk (a8 [iQ k] 3) :: pt bf (a8 [iQ f] 3) :: R) rfl call329 ?_ ?_ ?_
 intro L D
 refine FL (.exit 0) rs hl (fun _ => pt bh (a8 [.bool false] 4) :: pt ba (a8 [iQ (rs.length : Nat)] 3) :: pt bk (a8 [iQ k] 3) :: pt bf (a8 [iQ f] 3) :: R) (fun i => ∀ j, j < i → (rs.getD j (0, 0, 0)).1 + (rs.getD j (0, 0, 0)).2.1 ≤ f) (fun B => ∃ i, i < rs.length ∧ (∀ j, j < i → (rs.getD j (0, 0, 0)).1 + (rs.getD j (0, 0, 0)).2.1 ≤ f) ∧ (¬ (rs.getD i (0, 0, 0)).1 + (rs.getD i (0, 0, 0)).2.1 ≤ f) ∧ B = pt bh (a8 [.bool (decide ((rs.getD i (0, 0, 0)).1 < f + k))] 4) :: pt ba (a8 [iQ (i : Nat)] 3) :: pt bk (a8 [iQ k] 3) :: pt bf (a8 [iQ f] 3) :: R) ((px (r1 := pt) (b1 := b1) (r2 := pt) (b2 := bt) (r3 := osl 271 3) (b3 := .slice a rs.length c)).trans (QaC _)) (fun j hj => absurd hj (Qbx j)) (fun h => ⟨h, rfl⟩) (fun B' h => by obtain ⟨i, h1, h2, h3, rfl⟩ := h; exact ⟨i, h1, h2, h3, rfl⟩) ?_
 intro i R' hi hI
 have hx := hok.get hi
 obtain ⟨x, hxe⟩ : ∃ x, rs.getD i (0, 0, 0) = x := ⟨_, rfl⟩
 rw [hxe] at hx ⊢
 simp only [Qar, Qan]
 refine vM rfl rfl ?_
 refine aI (aU (ab rfl (bq rfl) (aM (aC (aU (ao rfl (da E3) ?_))))))
 rintro _ _ ⟨bd, rfl, rfl⟩
 refine eu (gD iw rfl rfl rfl rfl rfl) ?_
 rintro _ _ rfl
 refine aM (vL rfl ?_)
 refine kQ (aI (kQ (aI ?_)))
 refine FI [(bd, 0, _), (bf, 0, _)] 5 mixed rfl (cz (cz cG)) (fun hS => ?_)
 refine cH 0 rfl rfl rfl hS (gd DC iw rfl (by first | exact gF (k := 0) rfl | exact gF (k := 1) rfl) rfl) ?_
 refine cH 2 rfl rfl rfl hS (ci cy rfl (by first | exact cY (k := 0) rfl rfl | exact cY (k := 1) rfl rfl)) ?_
 refine bF 1 (ar call255 (FM x (by omega))) fun hS => ?_
 refine cH 3 rfl rfl rfl hS (AT rfl rfl) ?_
 refine cH 4 rfl rfl rfl hS (bq rfl) ?_
 refine aK ?_
 refine aA rfl (fun c5 => ?_) fun c5 => ?_
 refine au 4 ?_
 refine ul ?_
 have hI' : ∀ j, j < i + 1 → (rs.getD j (0, 0, 0)).1 + (rs.getD j (0, 0, 0)).2.1 ≤ f := fun j hj => by
  rcases Qay j i with q | q
  exact hI j q
  grind
 exact ⟨_, .inl ⟨rfl, hI', rfl⟩, IO⟩
 refine aI (aU ?_)
 refine ab rfl (d3 rfl xI rfl aO rfl (by first | exact Qac _ | rfl)) ?_
 refine ab rfl (ci cy rfl (aE rfl)) ?_
 refine ab rfl (ci cy rfl (aE rfl)) ?_
 refine ab rfl (ci cy rfl (aE rfl)) ?_
 refine ab rfl (dx rfl rfl (bU (by omega))) ?_
 refine ab rfl (pd rfl rfl) (ab rfl (bq rfl) (aM (aC ?_)))
 refine aA rfl (fun c6 => ?_) fun c6 => ?_
 refine aU ?_
 refine eu (jZ nk rfl rfl rfl (Qaa rfl) SetL.eq) ?_
 rintro _ _ rfl
 refine aM (mI (aC (aI (aU (ab rfl (aW rfl) (eu (jZ aO rfl rfl rfl (Qaa rfl) SetL.eq) ?_))))))
 rintro _ _ rfl
 refine aM (aC (AO (AQ rfl (Fy ?_))))
 refine ⟨_, .inr ⟨rfl, _, ⟨i, hi, hI, by rw [hxe]; exact c5, rfl⟩, rfl⟩, ?_⟩
 simp only [Qar]
 rw [hxe]
 first
   | (rw [Qaw c6]; exact inferInstance)
   | (rw [Qav c6]; exact inferInstance)
 refine gC (mI (aC (aI (aU (ab rfl (aW rfl) (eu (jZ aO rfl rfl rfl (Qaa rfl) SetL.eq) ?_))))))
 rintro _ _ rfl
 refine aM (aC (AO (AQ rfl (Fy ?_))))
 refine ⟨_, .inr ⟨rfl, _, ⟨i, hi, hI, by rw [hxe]; exact c5, rfl⟩, rfl⟩, ?_⟩
 simp only [Qar]
 rw [hxe]
 first
   | (rw [Qaw c6]; exact inferInstance)
   | (rw [Qav c6]; exact inferInstance)
 intro D C hC
 obtain ⟨hall, rfl⟩ := hC
 have hA : jM rs f = rs.length := BB rs f rs.length (Qaj _) (fun j hj _ => by have := hall j hj; rwa [show rs.getD j (0, 0, 0) = rs[j] by simp [List.getD, hj]] at this) (fun h => absurd h (Nat.lt_irrefl _))
 have hH : ol rs f k = false := by grind [ol]
 refine mI (aC (aI ?_))
 refine bu [ba, bh] 4 fun hS => ?_
 refine cH 0 rfl rfl rfl hS (ci cy rfl (by first | exact cY (k := 0) rfl rfl | exact cY (k := 1) rfl rfl)) ?_
 refine cH 1 rfl rfl rfl hS (ci mD rfl (by first | exact cY (k := 0) rfl rfl | exact cY (k := 1) rfl rfl)) ?_
 refine cH 2 rfl rfl rfl hS (bq rfl) ?_
 refine cH 3 rfl rfl rfl hS (bq rfl) ?_
 refine fw ?_
 refine aC (dC (pA (qF (.inl rfl) (.cons (bP rfl) (.cons (bP rfl) .nil)) ?_)))
 rw [hA, hH]
 exact ai
 intro D C hC
 obtain ⟨i, hi, h1, h2, rfl⟩ := hC
 have hgi : rs.getD i (0, 0, 0) = rs[i] := by grind
 have hA : jM rs f = i := BB rs f i (by omega) (fun j hj hji => by have := h1 j hji; rwa [show rs.getD j (0, 0, 0) = rs[j] by simp [List.getD, hj]] at this) (fun h => by rw [← hgi]; exact h2)
 have hH : ol rs f k = decide ((rs.getD i (0, 0, 0)).1 < f + k) := by grind [ol]
 refine EH (aC (aI ?_))
 refine bu [ba, bh] 4 fun hS => ?_
 refine cH 0 rfl rfl rfl hS (ci cy rfl (by first | exact cY (k := 0) rfl rfl | exact cY (k := 1) rfl rfl)) ?_
 refine cH 1 rfl rfl rfl hS (ci mD rfl (by first | exact cY (k := 0) rfl rfl | exact cY (k := 1) rfl rfl)) ?_
 refine cH 2 rfl rfl rfl hS (bq rfl) ?_
 refine cH 3 rfl rfl rfl hS (bq rfl) ?_
 refine fw ?_
 refine au 2 ?_
 refine pA (qF (.inl rfl) (.cons (bP rfl) (.cons (bP rfl) .nil)) ?_)
 rw [hA, hH]
 exact ai
theorem UF (l : List Rn) (a : Option Addr) (n c : Nat) (hl : l.length = n) (hN : n ≤ 1000) (hs : bK (az W0 R) a 3 bI l) : sP W0 156 [.slice a n c] R (fun v B => ∃ a' c', v = .slice a' n c' ∧ B = osl 271 3 (.slice a' n c') (l.flatMap bI) :: R) := by
 subst hl
 refine ac func156 ntmps156 ?_
 refine a7 (sr iK rfl rfl) ?_
 refine aA rfl (fun c1 => ?_) fun c1 => ?_
 refine au 7 ?_
 refine aa ?_
 have h0 : l = [] := by
  rcases l with _ | ⟨x, l⟩
  rfl
  obtain ⟨b, o, h, _⟩ := hs 0 x rfl
  rw [c1] at h; cases h
 subst h0
 exact ⟨_, ⟨none, 0, rfl, rfl⟩, dP⟩
 have hsrc := hs.src (fun _ => rfl) (fun _ => trivial)
 refine gC (aC (aI (aU (ao rfl (sy iK iw rfl) ?_))))
 rintro _ _ ⟨b1, rfl, rfl⟩
 refine aw ?_
 refine ao rfl (ut (sz := 3) (by_ := 24) (info := Tryz.t271) iK (by kernel_rfl) rfl rfl rfl rfl (by decide) rfl rfl (news := l.flatMap bI) (by
 rcases hsrc with h | ⟨bs, os, h1, h2⟩
 grind
 right; exact ⟨bs, os, h1, h2.weak⟩) (by rw [bX oj]) (BA l) (by simp only [maxLen]; omega) (by omega)) ?_
 rintro _ _ ⟨a1, c1, rfl, rfl⟩
 refine aw ?_
 refine aa ?_
 rw [Qac, Qan]
 exact ⟨_, ⟨a1, c1, rfl, rfl⟩, IO⟩
def jN (rs : List Rn) (i : Nat) (x : Rn) : List Rn := rs.take i ++ x :: rs.drop i
theorem BD (rs : List Rn) (i : Nat) (x : Rn) : (jN rs i x).flatMap bI = (rs.take i).flatMap bI ++ bI x ++ (rs.drop i).flatMap bI := by
 grind [jN]
theorem yu {rs : List Rn} {i : Nat} (x : Rn) (hi : i ≤ rs.length) : (jN rs i x).length = rs.length + 1 := by
 grind [jN]
theorem yw (rs : List Rn) (i : Nat) : rs.flatMap bI = (rs.take i).flatMap bI ++ (rs.drop i).flatMap bI := by rw [← QaZ, QbJ]
theorem UG (rs : List Rn) (a : Option Addr) (c bv : Nat) (x : Rn) (i : Nat) (hi : i ≤ rs.length) (hl : rs.length ≤ 1000) : sP W0 155 [.slice a rs.length c, iQ (i : Nat), .slice (some ⟨bv, 0, none⟩) 1 1] (osl 271 3 (.slice a rs.length c) (rs.flatMap bI) :: pt bv (a8 (bI x) 271) :: R) (fun v B => ∃ a' c', v = .slice a' (rs.length + 1) c' ∧ B = osl 271 3 (.slice a' (rs.length + 1) c') ((jN rs i x).flatMap bI) :: R) := by
 have hLt : ((rs.take i).flatMap bI).length = i * 3 := by rw [bX oj, QaK, Qbf hi]
 have hLd : ((rs.drop i).flatMap bI).length = (rs.length - i) * 3 := by rw [bX oj, Qcy]
 have hLr : (rs.flatMap bI).length = rs.length * 3 := bX oj rs
 refine ac func155 ntmps155 ?_
 refine Br (E := 271) (sz := 3) (a := a) (c := c) (n := rs.length) (fun hcap => ?_)
 refine aw ?_
 refine k8 16 (pD iK iw rfl (i := i) rfl rfl hi rfl) ?_
 refine dS ?_
 refine aA rfl (fun c6 => ?_) fun c6 => ?_
 refine aI ?_
 refine aU (ab rfl (aW rfl) (ab rfl (aW rfl) ?_))
 refine ao rfl (eQ (sz := 3) (by_ := 24) (info := Tryz.t271) iK (by kernel_rfl) rfl rfl rfl rfl (by decide) rfl rfl dW rfl rfl (by simp only [maxLen]; omega) (by omega)) ?_
 rintro _ _ ⟨a1, c1, rfl, rfl⟩
 refine aw ?_
 refine aa ?_
 obtain rfl : i = rs.length := by omega
 refine ⟨_, ⟨a1, c1, rfl, rfl⟩, ?_⟩
 rw [BD, QaM (Qaj _), List.drop_length, List.flatMap_nil, Qax]
 exact IO
 have hi1 : i < rs.length := by omega
 refine gJ (r := osl 271 3) (b := .slice a rs.length c) (ny (fun h1 h2 => by rw [h2] at hLr; simp at hLr; omega) fun g n' cap sp h1 h2 h3 h4 h5 => ?_)
 cases h1
 refine aw ?_
 refine a7 (eC (rs.length + 1)) ?_
 refine a7 (Uu iK rfl) ?_
 refine ah (fun c8 => ?_) fun c8 => ?_
 refine a7 (mM iK iw rfl rfl rfl (by omega)) ?_
 refine a7 (eC (rs.length + 1)) ?_
 refine a7 (m0 (rs.length + 1 - i)) ?_
 refine ao rfl (Us (sz := 3) (by_ := 24) (info := Tryz.t271) (k := rs.length + 1 - i) (olds := (rs.take i).flatMap bI) iK dw (by kernel_rfl) rfl rfl rfl rfl (by decide) rfl rfl rfl (.inr ⟨g, 0, rfl, Bv (l2 := (rs.drop i).flatMap bI ++ sp) (by rw [← QaG, ← yw]; exact dW (b := g))⟩) hLt (by omega) (by omega) (by simp only [maxLen]; omega) (by omega)) ?_
 rintro _ _ ⟨a9, k9, zs, rfl, hzs, rfl⟩
 rw [show i + (rs.length + 1 - i) = rs.length + 1 by omega]
 refine gJ (r := osl 271 3) (b := .slice a9 (rs.length + 1) k9) (ny (fun q1 q2 => by
  have := Qak List.length q2
  rw [Qad, hLt, hzs] at this; simp at this; omega) fun g9 n9 cap9 sp9 q1 q2 q3 q4 q5 => ?_)
 cases q1
 refine aw ?_
 refine a7 (pD iK iw rfl (i := i) (a' := some ⟨g9, i * 3, none⟩) rfl rfl (by omega) (by rw [jJ, Qab (by omega)]; simp [iN])) ?_
 refine ag (sB iK iw rfl rfl (m := 1) (vs := bI x) (Qbf (by omega)) (dW (b := bv)) rfl (Bz x) (by rw [Qad, Qad, hLt, hzs]; omega) rfl) ?_
 refine bu [] 9 fun hS => ?_
 refine ae 0 3 hS ?_
 refine ax 3 hS (eC (i + 1)) ?_
 refine ax 4 hS (pD iK iw rfl (i := i + 1) (a' := some ⟨g9, (i + 1) * 3, none⟩) rfl rfl (by omega) (by rw [jJ, Qab (by omega)]; simp [iN])) ?_
 refine ae 5 2 hS ?_
 refine ax 7 hS (pD iK iw rfl (i := i) (a' := some ⟨g, i * 3, none⟩) rfl rfl (by omega) (by rw [jJ, Qab (by omega)]; simp [iN])) ?_
 refine bF 8 (sB iK iw rfl rfl (m := rs.length - i) (vs := (rs.drop i).flatMap bI) (Qbf (by omega)) (FE (b := g) (l1 := (rs.take i).flatMap bI) (l3 := sp) (by rw [← yw]) hLt) hLd (BA _) (by rw [xX, Qad, Qad, hLt, hzs]; omega) rfl) fun hS => ?_
 refine aK ?_
 refine aa ?_
 obtain ⟨z1, z2, rfl, hz1⟩ : ∃ z1 z2, zs = z1 ++ z2 ∧ z1.length = 3 := ⟨zs.take 3, zs.drop 3, (QbJ 3 zs).symm, by rw [QaK]; omega⟩
 have hz2 : z2.length = (rs.length - i) * 3 := by rw [Qad] at hzs; omega
 have hL : d4 (d4 ((rs.take i).flatMap bI ++ (z1 ++ z2) ++ sp9) (i * 3) (bI x)) ((i + 1) * 3) ((rs.drop i).flatMap bI) = (jN rs i x).flatMap bI ++ sp9 := by
  rw [BD, ← hLt, show (rs.take i).flatMap bI ++ (z1 ++ z2) ++ sp9 = (rs.take i).flatMap bI ++ z1 ++ (z2 ++ sp9) by simp, yr (by rw [hz1]; rfl)]
  have e : (i + 1) * 3 = ((rs.take i).flatMap bI ++ bI x).length := by rw [Qad, hLt, oj, QbS]
  rw [e, ← QaG, yr (by rw [hz2, hLd])]
 rw [hL]
 have hlen : ((jN rs i x).flatMap bI).length = (rs.length + 1) * 3 := by rw [bX oj, yu x hi]
 refine ⟨_, ⟨some ⟨g9, 0, none⟩, k9, rfl, rfl⟩, ?_⟩
 exact gG q2 q3 hlen (by rw [Qad, hlen]; rw [Qad, Qad, hLt, Qad, hz1, hz2] at q5; omega)
 refine a7 (eC (rs.length + 1)) ?_
 refine a7 (mM iK iw rfl rfl rfl (by omega)) ?_
 refine a7 (eC (i + 1)) ?_
 refine a7 (pD iK iw rfl (i := i + 1) (a' := some ⟨g, (i + 1) * 3, none⟩) rfl rfl (by omega) (by rw [jJ, Qab (by omega)]; simp [iN])) ?_
 refine a7 (Ut (v := .bool false) rfl (fun w hO => by have h1 := Uw (P := Tryz.prog) (tR := 4) (oa := 0) (na := 1) (ca := 1) (ob := (i + 1) * 3) (nb := rs.length + 1 - (i + 1)) (cb := c - (i + 1)) (ba := bv) (ga := g) (la := bI x) (lb := rs.flatMap bI ++ sp) iK iw (QaE _) (by rw [h5]; omega) hO; rw [run_callFunc_extern func256 (by kernel_rfl) (by kernel_rfl) (by kernel_rfl) (e := Extern.SlicesOverlaps.overlaps #[265, 265] #[4]) (by kernel_rfl), h1]; rfl)) ?_
 refine aA rfl (fun c14 => ?_) fun c14 => ?_
 refine au 1 ?_
 refine bu [] 9 fun hS => ?_
 refine ae 0 3 hS ?_
 refine ax 3 hS (eC (i + 1)) ?_
 refine ax 4 hS (pD iK iw rfl (i := i + 1) (a' := some ⟨g, (i + 1) * 3, none⟩) rfl rfl (by omega) (by rw [jJ, Qab (by omega)]; simp [iN])) ?_
 refine ae 5 2 hS ?_
 refine ax 7 hS (pD iK iw rfl (i := i) (a' := some ⟨g, i * 3, none⟩) rfl rfl (by omega) (by rw [jJ, Qab (by omega)]; simp [iN])) ?_
 refine bF 8 (sB iK iw rfl rfl (m := rs.length - i) (vs := (rs.drop i).flatMap bI) ((Nat.min_eq_right (by omega)).trans (by omega)) (FE (b := g) (l1 := (rs.take i).flatMap bI) (l3 := sp) (by rw [← yw]) hLt) hLd (BA _) (by omega) rfl) fun hS => ?_
 refine aK ?_
 refine a7 (pD iK iw rfl (i := i) (a' := some ⟨g, i * 3, none⟩) rfl rfl (by omega) (by rw [jJ, Qab (by omega)]; simp [iN])) ?_
 refine ag (sB iK iw rfl rfl (m := 1) (vs := bI x) (Qbf (by omega)) (dW (b := bv)) rfl (Bz x) (by rw [xX]; omega) rfl) ?_
 refine aa ?_
 have hsp : 3 ≤ sp.length := by rw [Qad, hLr] at h5; omega
 obtain ⟨s1, s2, rfl, hs1⟩ : ∃ s1 s2, sp = s1 ++ s2 ∧ s1.length = 3 := ⟨sp.take 3, sp.drop 3, (QbJ 3 sp).symm, by rw [QaK]; omega⟩
 obtain ⟨q1, q2, hq, hq1⟩ : ∃ q1 q2, (rs.drop i).flatMap bI ++ s1 = q1 ++ q2 ∧ q1.length = 3 := ⟨((rs.drop i).flatMap bI ++ s1).take 3, ((rs.drop i).flatMap bI ++ s1).drop 3, (QbJ 3 _).symm, by rw [QaK, Qad]; omega⟩
 have hq2 : q2.length = ((rs.drop i).flatMap bI).length := by
  have := Qak List.length hq
  rw [Qad, Qad] at this; omega
 have hL : d4 (d4 (rs.flatMap bI ++ (s1 ++ s2)) ((i + 1) * 3) ((rs.drop i).flatMap bI)) (i * 3) (bI x) = (jN rs i x).flatMap bI ++ s2 := by
  have h0 : rs.flatMap bI ++ (s1 ++ s2) = (rs.take i).flatMap bI ++ q1 ++ q2 ++ s2 := by
   conv => lhs; rw [yw rs i]
   rw [QaG, ← QaG ((rs.drop i).flatMap bI), hq]
   simp only [QaG]
  have e : (i + 1) * 3 = ((rs.take i).flatMap bI ++ q1).length := by rw [Qad, hLt, hq1, QbS]
  have h6 : (rs.take i).flatMap bI ++ q1 ++ (rs.drop i).flatMap bI ++ s2 = (rs.take i).flatMap bI ++ q1 ++ ((rs.drop i).flatMap bI ++ s2) := by simp only [QaG]
  have h7 := yr (p := (rs.take i).flatMap bI) (q := q1) (s := (rs.drop i).flatMap bI ++ s2) (r := bI x) (by rw [hq1]; rfl)
  rw [hLt] at h7
  rw [h0, e, yr hq2, h6, h7, BD]
  simp only [QaG]
 rw [hL]
 have hlen : ((jN rs i x).flatMap bI).length = (rs.length + 1) * 3 := by rw [bX oj, yu x hi]
 refine ⟨_, ⟨some ⟨g, 0, none⟩, c, rfl, rfl⟩, ?_⟩
 exact gG (by omega) h3 hlen (by rw [Qad, hlen]; rw [Qad, Qad, hLr, hs1] at h5; omega)
 first | exact absurd rfl c14 | exact absurd (by decide) c14
def fy (rs : List Rn) (n f k w : Int) : Int := if f < 0 ∨ k < 1 ∨ n < f ∨ n - f < k ∨ w < 0 ∨ 64 ≤ w then 1 else if ol rs f k then 5 else 0
def gO (rs : List Rn) (n f k w : Int) : List Rn := if fy rs n f k w = 0 then jN rs (jM rs f) (f, k, w) else rs
theorem FP {rs : List Rn} {n f k w : Int} (h : om rs) (hn : n ≤ 64) : om (gO rs n f k w) := by
 unfold gO; split
 rename_i he
 have hb : ¬ (f < 0 ∨ k < 1 ∨ n < f ∨ n - f < k ∨ w < 0 ∨ 64 ≤ w) := fun q => by rw [fy, Qae q] at he; exact absurd he (by decide)
 intro x hx
 rw [jN] at hx
 rcases Qbg.1 hx with q | q
 exact h x (QbP q)
 rcases QaN.1 q with rfl | q
 grind
 exact h x (List.mem_of_mem_drop q)
 exact h
theorem FQ {rs : List Rn} {n f k w : Int} : (gO rs n f k w).length ≤ rs.length + 1 := by
 grind [gO, yu, BC]
theorem FR (b : Nat) (rs : List Rn) (n : Int) (hn : 0 ≤ n ∧ n ≤ 64) (hok : om rs) (hl : rs.length ≤ 900) (f k w : Int) : sQ W0 84 [pQ b, iQ f, iQ k, iQ w] (jo b (rs, n) :: R) (iQ (fy rs n f k w)) (jo b (gO rs n f k w, n) :: R) := by
 refine ac func84 ntmps84 ?_
 refine FJ (b := b) fun a c => ?_
 dsimp only
 refine aw ?_
 refine ag (aj call153 (FN b rs.length c a n)) ?_
 refine ah (fun c3 => ?_) fun c3 => ?_
 refine aa ?_
 have he : fy rs n f k w = 1 := by grind [fy]
 rw [gO, he, Qab (by decide)]
 exact ⟨_, ⟨rfl, rfl⟩, ma rfl rfl⟩
 refine ah (fun c4 => ?_) fun c4 => ?_
 refine aa ?_
 have he : fy rs n f k w = 1 := by grind [fy]
 rw [gO, he, Qab (by decide)]
 exact ⟨_, ⟨rfl, rfl⟩, ma rfl rfl⟩
 refine ah (fun c5 => ?_) fun c5 => ?_
 refine aa ?_
 have he : fy rs n f k w = 1 := by grind [fy]
 rw [gO, he, Qab (by decide)]
 exact ⟨_, ⟨rfl, rfl⟩, ma rfl rfl⟩
 refine a7 i6 ?_
 refine ah (fun c6 => ?_) fun c6 => ?_
 refine aa ?_
 have he : fy rs n f k w = 1 := by grind [fy]
 rw [gO, he, Qab (by decide)]
 exact ⟨_, ⟨rfl, rfl⟩, ma rfl rfl⟩
 refine ah (fun c7 => ?_) fun c7 => ?_
 refine aa ?_
 have he : fy rs n f k w = 1 := by grind [fy]
 rw [gO, he, Qab (by decide)]
 exact ⟨_, ⟨rfl, rfl⟩, ma rfl rfl⟩
 refine ah (fun c8 => ?_) fun c8 => ?_
 refine aa ?_
 have he : fy rs n f k w = 1 := by grind [fy]
 rw [gO, he, Qab (by decide)]
 exact ⟨_, ⟨rfl, rfl⟩, ma rfl rfl⟩
 refine ag (cJ call154 (UE b c rs n a hok (by omega) f k (by omega))) ?_
 refine ah (fun c11 => ?_) fun c11 => ?_
 refine aa ?_
 have he : fy rs n f k w = 5 := by grind [fy]
 rw [gO, he, Qab (by decide)]
 exact ⟨_, ⟨rfl, rfl⟩, ma rfl rfl⟩
 have he : fy rs n f k w = 0 := by grind [fy]
 have hal := BC rs f
 refine jH (E := 271) (sz := 3) (a := a) (n := rs.length) (c := c) bI rs oj (by decide) rfl (fun hs => ?_)
 refine aw ?_
 refine ao rfl (ar call156 (UF rs a rs.length c rfl (by omega) hs)) ?_
 rintro _ B_ ⟨a2, cc, rfl, hB_⟩
 obtain rfl := hB_.symm
 refine aw ?_
 refine cW (gH iK iw E3 rfl (dX rfl rfl fR) rfl (by decide) (by decide) (by decide)) fun bv => ?_
 refine ao rfl (cJ call155 (UG rs a2 cc bv (f, k, w) (jM rs f) hal (by omega))) ?_
 rintro _ B_ ⟨a3, c3', rfl, hB_⟩
 obtain rfl := hB_.symm
 refine aw ?_
 refine aB dq ?_
 refine aa ?_
 rw [gO, he, Qae rfl]
 exact ⟨_, ⟨rfl, rfl⟩, ma (yu _ hal).symm rfl⟩
def lE : List Rn → Int → Option Int
 | [], _ => none
 | x :: l, i => if x.1 ≤ i ∧ i < x.1 + x.2.1 then some x.2.2 else lE l i
def mT (rs : List Rn) (n i : Int) : Option Int := if i < 0 ∨ n ≤ i then none else lE rs i
theorem FT : ∀ (rs : List Rn) (x : Int) (i : Nat) (hi : i < rs.length), (∀ j (hj : j < rs.length), j < i → ¬ (rs[j].1 ≤ x ∧ x < rs[j].1 + rs[j].2.1)) → (rs[i].1 ≤ x ∧ x < rs[i].1 + rs[i].2.1) → lE rs x = some rs[i].2.2
 | y :: l, x, 0, _, _, h => by rw [lE, Qae (by simpa using h)]; rfl
 | y :: l, x, i + 1, hi, h1, h2 => by
  have h0 := h1 0 (by simp) (by omega)
  rw [lE, Qab (by grind), FT l x i (by grind) (fun j hj hji => by
   have := h1 (j + 1) (by omega) (by omega)
   simpa using this) (by grind)]
  simp
theorem FU : ∀ (rs : List Rn) (x : Int), (∀ j (hj : j < rs.length), ¬ (rs[j].1 ≤ x ∧ x < rs[j].1 + rs[j].2.1)) → lE rs x = none
 | [], _, _ => rfl
 | y :: l, x, h => by
  have h0 := h 0 (by simp)
  rw [lE, Qab (by grind), FU l x (fun j hj => by
   have := h (j + 1) (by grind)
   simpa using this)]
theorem UH (b : Nat) (rs : List Rn) (n : Int) (hok : om rs) (hl : rs.length ≤ 1000) (i : Int) : sQ W0 260 [pQ b, iQ i] (jo b (rs, n) :: R) (.tuple #[iQ ((mT rs n i).getD 0), .bool (mT rs n i).isSome]) (jo b (rs, n) :: R) := by
 refine ac func260 ntmps260 ?_
 refine cW (gE rfl rfl) fun bi => ?_
 refine cW (mK lV rfl) fun b4 => ?_
 refine cW (mK Lz rfl) fun b5 => ?_
 refine FJ (b := b) fun a c => ?_
 dsimp only
 refine bu [bi, b] 14 fun hS => ?_
 refine ae 0 1 hS ?_
 refine bF 1 (aj call153 (FN b rs.length c a n)) fun hS => ?_
 refine ae 2 1 hS ?_
 refine lY (t := 10) rfl ?_ ?_
 intro g1_3
 exact absurd g1_3 (by decide)
 intro g1_3
 refine ae 3 4 hS ?_
 refine lY (t := 14) rfl ?_ ?_
 intro g1_7
 refine ae 7 7 hS ?_
 refine aK ?_
 refine aB dq ?_
 refine aB dq ?_
 refine bH (.cons (lX cy rfl (aE rfl)) (.cons (lX mD rfl (aE rfl)) .nil)) ?_
 have hw : mT rs n i = none := by rw [mT, Qae (by omega)]
 rw [hw]
 exact ⟨_, ⟨rfl, rfl⟩, ma rfl rfl⟩
 intro g1_7
 refine ae 7 7 hS ?_
 refine aK ?_
 refine aA rfl (fun c1 => ?_) fun c1 => ?_
 refine au 2 ?_
 refine Fc dq ?_
 refine eu (jZ nk rfl rfl rfl (Qaa rfl) SetL.eq) ?_
 rintro _ _ rfl
 refine aM (aC (dC (jT (bH (.cons (lX cy rfl (aE rfl)) (.cons (lX mD rfl (aE rfl)) .nil)) ?_))))
 have hw : mT rs n i = none := by rw [mT, Qae (by omega)]
 rw [hw]
 exact ⟨_, ⟨rfl, rfl⟩, ma rfl rfl⟩
 refine gC (aC (aI (aI ?_)))
 have hw : mT rs n i = lE rs i := by rw [mT, Qab (by omega)]
 refine aU (ab rfl (aW rfl) (ao rfl (ar call254 (FK b)) ?_))
 rintro _ B_ ⟨b1, rfl, hB_⟩
 obtain rfl := hB_.symm
 refine aM (aC (kQ ?_))
 refine yh (fun C => (∀ j, j < rs.length → ¬ ((rs.getD j (0, 0, 0)).1 ≤ i ∧ i < (rs.getD j (0, 0, 0)).1 + (rs.getD j (0, 0, 0)).2.1)) ∧ C = pt b (jL a rs.length c n) :: osl 271 3 (.slice a rs.length c) (rs.flatMap bI) :: pt b5 (a8 [.bool false] 4) :: pt b4 (a8 [iQ 0] 3) :: pt bi (a8 [iQ i] 3) :: R) (fun C => ∃ k, k < rs.length ∧ (∀ j, j < k → ¬ ((rs.getD j (0, 0, 0)).1 ≤ i ∧ i < (rs.getD j (0, 0, 0)).1 + (rs.getD j (0, 0, 0)).2.1)) ∧ ((rs.getD k (0, 0, 0)).1 ≤ i ∧ i < (rs.getD k (0, 0, 0)).1 + (rs.getD k (0, 0, 0)).2.1) ∧ C = pt b (jL a rs.length c n) :: osl 271 3 (.slice a rs.length c) (rs.flatMap bI) :: pt b5 (a8 [.bool true] 4) :: pt b4 (a8 [iQ (rs.getD k (0, 0, 0)).2.2] 3) :: pt bi (a8 [iQ i] 3) :: R) rfl call329 ?_ ?_ ?_
 intro L D
 refine FL .ret rs hl (fun _ => pt b5 (a8 [.bool false] 4) :: pt b4 (a8 [iQ 0] 3) :: pt bi (a8 [iQ i] 3) :: R) (fun k => ∀ j, j < k → ¬ ((rs.getD j (0, 0, 0)).1 ≤ i ∧ i < (rs.getD j (0, 0, 0)).1 + (rs.getD j (0, 0, 0)).2.1)) (fun B => ∃ k, k < rs.length ∧ (∀ j, j < k → ¬ ((rs.getD j (0, 0, 0)).1 ≤ i ∧ i < (rs.getD j (0, 0, 0)).1 + (rs.getD j (0, 0, 0)).2.1)) ∧ ((rs.getD k (0, 0, 0)).1 ≤ i ∧ i < (rs.getD k (0, 0, 0)).1 + (rs.getD k (0, 0, 0)).2.1) ∧ B = pt b5 (a8 [.bool true] 4) :: pt b4 (a8 [iQ (rs.getD k (0, 0, 0)).2.2] 3) :: pt bi (a8 [iQ i] 3) :: R) ((px (r1 := pt) (b1 := b1) (r2 := pt) (b2 := b) (r3 := osl 271 3) (b3 := .slice a rs.length c)).trans (QaC _)) (fun j hj => absurd hj (Qbx j)) (fun h => ⟨h, rfl⟩) (fun B' h => by obtain ⟨k, h1, h2, h3, rfl⟩ := h; exact ⟨k, h1, h2, h3, rfl⟩) ?_
 intro k R' hk hI
 have hx := hok.get hk
 obtain ⟨x, hxe⟩ : ∃ x, rs.getD k (0, 0, 0) = x := ⟨_, rfl⟩
 rw [hxe] at hx ⊢
 simp only [Qar, Qan]
 refine vM rfl rfl ?_
 refine aU (ao rfl (da E3) ?_)
 rintro _ _ ⟨bd, rfl, rfl⟩
 refine eu (gD iw rfl rfl rfl rfl rfl) ?_
 rintro _ _ rfl
 refine aM (vL rfl ?_)
 refine kQ (aI ?_)
 refine FI [(bd, 0, _), (bi, 0, _)] 10 mixed rfl (cz (cz cG)) (fun hS => ?_)
 refine cH 0 rfl rfl rfl hS (d3 rfl xI rfl aO rfl (by first | exact Qac _ | rfl)) ?_
 refine cH 1 rfl rfl rfl hS (ci cy rfl (by first | exact cY (k := 0) rfl rfl | exact cY (k := 1) rfl rfl)) ?_
 refine cH 2 rfl rfl rfl hS (ci cy rfl (by first | exact cY (k := 0) rfl rfl | exact cY (k := 1) rfl rfl)) ?_
 refine cH 3 rfl rfl rfl hS (AT rfl rfl) ?_
 refine cH 4 rfl rfl rfl hS (aW rfl) ?_
 refine lY (t := 30) rfl ?_ ?_
 intro g5_5
 refine cH 5 rfl rfl rfl hS (ci cy rfl (by first | exact cY (k := 0) rfl rfl | exact cY (k := 1) rfl rfl)) ?_
 refine cH 6 rfl rfl rfl hS (gd DC iw rfl (by first | exact gF (k := 0) rfl | exact gF (k := 1) rfl) rfl) ?_
 refine bF 7 (ar call255 (FM x (by omega))) fun hS => ?_
 refine cH 8 rfl rfl rfl hS (pd rfl rfl) ?_
 refine cH 9 rfl rfl rfl hS (uf rfl rfl) ?_
 refine fw ?_
 refine aC ?_
 refine aA rfl (fun c5 => ?_) fun c5 => ?_
 refine aI ?_
 refine aU ?_
 refine ab rfl (d3 rfl xI rfl aO rfl (by first | exact Qac _ | rfl)) ?_
 refine ab rfl (ci cy rfl (aE rfl)) ?_
 refine eu (jZ aO rfl rfl rfl (Qaa rfl) SetL.eq) ?_
 rintro _ _ rfl
 refine eu (jZ nk rfl rfl rfl (Qaa rfl) SetL.eq) ?_
 rintro _ _ rfl
 refine aM (aC (dC (np (Fi ?_))))
 refine ⟨_, .inr ⟨rfl, _, ⟨k, hk, hI, by rw [hxe]; omega, rfl⟩, rfl⟩, ?_⟩
 simp only [Qar]
 rw [hxe]
 exact IO
 refine gC (mI (ul ?_))
 have hI' : ∀ j, j < k + 1 → ¬ ((rs.getD j (0, 0, 0)).1 ≤ i ∧ i < (rs.getD j (0, 0, 0)).1 + (rs.getD j (0, 0, 0)).2.1) := fun j hj => by
  rcases Qay j k with q | q
  exact hI j q
  obtain rfl : j = k := by omega
  rw [hxe]; omega
 exact ⟨_, .inl ⟨rfl, hI', rfl⟩, IO⟩
 intro g5_5
 refine yg 5 rfl rfl rfl hS ?_
 refine yg 6 rfl rfl rfl hS ?_
 refine yg 7 rfl rfl rfl hS ?_
 refine yg 8 rfl rfl rfl hS ?_
 refine cH 9 rfl rfl rfl hS (oZ rfl rfl) ?_
 refine fw ?_
 refine au 4 ?_
 refine ul ?_
 have hI' : ∀ j, j < k + 1 → ¬ ((rs.getD j (0, 0, 0)).1 ≤ i ∧ i < (rs.getD j (0, 0, 0)).1 + (rs.getD j (0, 0, 0)).2.1) := fun j hj => by
  rcases Qay j k with q | q
  exact hI j q
  obtain rfl : j = k := by omega
  rw [hxe]; omega
 exact ⟨_, .inl ⟨rfl, hI', rfl⟩, IO⟩
 intro D C hC
 obtain ⟨hall, rfl⟩ := hC
 have hN : lE rs i = none := FU rs i (fun j hj => by have := hall j hj; rwa [show rs.getD j (0, 0, 0) = rs[j] by simp [List.getD, hj]] at this)
 refine aw ?_
 refine aB dq ?_
 refine i7 3 dq ?_
 refine qF (.inl rfl) (.cons (lX cy rfl (aE rfl)) (.cons (lX mD rfl (aE rfl)) .nil)) ?_
 rw [hw, hN]
 exact ⟨_, ⟨rfl, rfl⟩, ma rfl rfl⟩
 intro D C hC
 obtain ⟨k, hk, h1, h2, rfl⟩ := hC
 have hgk : rs.getD k (0, 0, 0) = rs[k] := by simp [List.getD, hk]
 have hN : lE rs i = some (rs.getD k (0, 0, 0)).2.2 := by
  rw [hgk]
  exact FT rs i k hk (fun j hj hjk => by have := h1 j hjk; rwa [show rs.getD j (0, 0, 0) = rs[j] by simp [List.getD, hj]] at this) (by rw [← hgk]; exact h2)
 refine au 2 ?_
 refine qF (.inl rfl) (.cons (lX cy rfl (aE rfl)) (.cons (lX mD rfl (aE rfl)) .nil)) ?_
 rw [hw, hN]
 exact ⟨_, ⟨rfl, rfl⟩, ma rfl rfl⟩
def vU (rs : List Rn) : Prop := rs.Pairwise fun x y => x.1 + x.2.1 ≤ y.1
theorem UI (x : Rn) (l : List Rn) (f k : Int) : ol (x :: l) f k = if x.1 + x.2.1 ≤ f then ol l f k else decide (x.1 < f + k) := by
 grind [ol, jM]
theorem UJ (x y : Rn) (l : List Rn) (f : Int) : jN (x :: l) (jM (x :: l) f) y = if x.1 + x.2.1 ≤ f then x :: jN l (jM l f) y else y :: x :: l := by
 grind [jN, jM]
theorem UK {x y : Rn} {l : List Rn} {i : Nat} (h : x ∈ jN l i y) : x = y ∨ x ∈ l := by
 grind [jN]
theorem FV : ∀ {rs : List Rn} {f k w : Int}, vU rs → (∀ x ∈ rs, 1 ≤ x.2.1) → ol rs f k = false → vU (jN rs (jM rs f) (f, k, w))
 | [], f, k, w, _, _, _ => List.pairwise_singleton _ _
 | x :: l, f, k, w, hs, hp, hm => by
  obtain ⟨h1, h2⟩ := QbL.1 hs
  have hx := hp x (by simp)
  rw [UI] at hm
  rw [UJ]
  by_cases q : x.1 + x.2.1 ≤ f
  rw [Qae q] at hm ⊢
  refine QbL.2 ⟨fun y hy => ?_, FV h2 (fun y hy => hp y (by simp [hy])) hm⟩
  rcases UK hy with rfl | hy
  exact q
  exact h1 y hy
  rw [Qab q] at hm ⊢
  have hm := of_decide_eq_false hm
  refine QbL.2 ⟨fun y hy => ?_, hs⟩
  rcases QaN.1 hy with rfl | hy
  grind
  grind
theorem UL {rs : List Rn} {n f k w : Int} (h : vU rs) (hp : ∀ x ∈ rs, 1 ≤ x.2.1) : vU (gO rs n f k w) := by
 grind [gO, fy, FV]
section
variable {P : Program} {W0 : World} {N : FSz} {e : aP} {A R : List HP} {t : TypeId} {v : Value} {x y : Operand} {l' ys : List Value}
theorem fT {S : World → Prop} {E n c j sz o' b off : Nat} {k : IntKind} {i : Int} {a' : Option Addr} (hu : P.underlying t = some (.slice E)) (hs : ∀ w, (sizeOf E).run P w = .ok sz w) (hx : ev e x = some (.slice a' n c)) (ha : a' = some ⟨b, off, none⟩) (hy : ev e y = some (.int k i))
    (hi : i = (j : Int)) (hj : j < n) (ho : off + j * sz = o') : bC P S N e (.indexAddr t x y) (.pointer (some ⟨b, o', none⟩)) := by
 grind [jE]
instance (priority := high) ent_nil {A : List HP} : Ent A [] := ⟨fun l _ => ⟨[], l, rfl, QaC _⟩⟩
end
abbrev gn (c : Cfg) : Obj := a8 (cX c) 28
def kX (c : Cfg) (i : Nat) : Rn := c.rl.getD i (0, 0, 0)
def jp (c : Cfg) : Nat → List Rn
 | 0 => []
 | i + 1 => if gi (kX c i).1 c.cats = true then gO (jp c i) 32 (kX c i).2.1 (kX c i).2.2 i else jp c i
theorem FX (c : Cfg) : ∀ i, om (jp c i) ∧ (jp c i).length ≤ i ∧ vU (jp c i)
 | 0 => ⟨fun x hx => by simp [jp] at hx, Qaj _, List.Pairwise.nil⟩
 | i + 1 => by
  obtain ⟨h1, h2, h3⟩ := FX c i
  rw [jp]; split
  exact ⟨FP h1 (by decide), Qbl FQ (by omega), UL h3 fun x hx => (h1 x hx).2.1⟩
  grind
def sM (c : Cfg) (i : Nat) : Bool := !(gi (kX c i).1 c.cats && decide (fy (jp c i) 32 (kX c i).2.1 (kX c i).2.2 i = 0))
theorem UM (W0 : World) (b1 b4 bt : Nat) (c : Cfg) (hl : c.rl.length ≤ 8) (hs : ∀ A, bK (az W0 A) c.ra 3 iz c.rl) :
    WF W0 83 [pQ b1, pQ b4] c.rl.length (fun i => aS [pt b1 (gn c), pt b4 (a8 [pQ bt] 174), jo bt (jp c i, 32)]) (sM c) := ⟨call83, fun i hi R => by
 refine nz ?_
 simp only [Qar, Qan]
 obtain ⟨g, o, hra, hc⟩ := (hs (pt b1 (gn c) :: R)).at_ hi
 obtain ⟨x, hx⟩ : ∃ x, c.rl[i] = x := ⟨_, rfl⟩
 have hA : kX c i = x := by grind [kX]
 rw [hx] at hc
 obtain ⟨h1, h2, h3⟩ := FX c i
 have hT : jp c (i + 1) = if gi x.1 c.cats = true then gO (jp c i) 32 x.2.1 x.2.2 i else jp c i := by rw [jp, hA]
 have hW : sM c i = !(gi x.1 c.cats && decide (fy (jp c i) 32 x.2.1 x.2.2 i = 0)) := by rw [sM, hA]
 rw [hT, hW]
 generalize jp c i = T at h1 h2 h3 ⊢
 refine ac func83 ntmps83 ?_
 refine a7 (fT Lc DK rfl hra rfl rfl hi (by first | exact Qac _ | rfl)) ?_
 refine a7 (bZ hc.weak) ?_
 refine bB fun bx => ?_
 refine eu (gD DK rfl rfl rfl rfl rfl) ?_
 rintro _ _ rfl
 refine aM (aC (aI (aU ?_)))
 refine ab rfl (d3 rfl u9 rfl aO rfl (by first | exact Qac _ | rfl)) ?_
 refine ab rfl (ci cy rfl (aE rfl)) ?_
 refine ab rfl (d3 rfl Al rfl aO rfl (by first | exact Qac _ | rfl)) ?_
 refine ab rfl (ci cy rfl (aE rfl)) ?_
 refine ao rfl (ix Ly rfl (Bt x.1 c.cats)) ?_
 rintro _ B_ ⟨rfl, hB_⟩
 obtain rfl := hB_.symm
 refine ab rfl (s8 rfl) (ab rfl (aW rfl) ?_)
 refine cP rfl rfl rfl ?_ ?_
 intro g2_7
 have hv : gi x.1 c.cats = false := by grind
 rw [hv]
 refine aw ?_
 refine aa ?_
 refine ⟨_, ⟨?_, rfl⟩, ?_⟩
 refine Qak Value.bool ?_
 first
   | rfl
   | (rw [QbO, bne, Qag]; simp)
 first
   | (rw [Qae rfl]; exact inferInstance)
   | (rw [Qab (by decide)]; exact inferInstance)
 intro g2_7
 have hv : gi x.1 c.cats = true := by grind
 rw [hv]
 refine ab rfl (ci KF rfl (aE rfl)) ?_
 refine eK rfl rfl ?_
 refine ab rfl (d3 rfl u9 rfl aO rfl (by first | exact Qac _ | rfl)) ?_
 refine eK rfl rfl (ab rfl (ci cy rfl (aE rfl)) ?_)
 refine eK rfl rfl ?_
 refine ab rfl (d3 rfl u9 rfl aO rfl (by first | exact Qac _ | rfl)) ?_
 refine eK rfl rfl (ab rfl (ci cy rfl (aE rfl)) ?_)
 refine eK rfl rfl (ab rfl (aW rfl) (eK rfl rfl ?_))
 refine ao rfl (jD call84 rfl (FR bt T 32 (by decide) h1 (by omega) x.2.1 x.2.2 i)) ?_
 rintro _ B_ ⟨rfl, hB_⟩
 obtain rfl := hB_.symm
 refine eK rfl rfl (ab rfl (nW rfl rfl) (ab rfl (oZ rfl rfl) (ab rfl (bq rfl) (aM (aC (dC (aa ?_)))))))
 refine ⟨_, ⟨?_, rfl⟩, ?_⟩
 refine Qak Value.bool ?_
 first
   | rfl
   | (rw [QbO, bne, Qag]; simp)
 first
   | (rw [Qae rfl]; exact inferInstance)
   | (rw [Qab (by decide)]; exact inferInstance)
 ⟩
def oo (c : Cfg) : Bool := decide (8 < c.rl.length) || lD (sM c) c.rl.length
theorem UN (c : Cfg) (hs : ∀ A, bK (az W0 A) c.ra 3 iz c.rl) : sP W0 37 [.agg (cX c).toArray] R (fun v B => ∃ r, v = .tuple #[iQ r, .bool (oo c)] ∧ B = R) := by
 refine ac func37 ntmps37 ?_
 refine aV fun b1 => ?_
 refine ah (fun c1 => ?_) fun c1 => ?_
 refine aT ?_
 rw [oo, Qaw (by omega), Qck]
 exact ⟨_, ⟨0, rfl, rfl⟩, IO⟩
 refine ao rfl (ar call82 (FO 32 (by decide))) ?_
 rintro _ B_ ⟨bt, rfl, hB_⟩
 obtain rfl := hB_.symm
 refine aw ?_
 refine cW (mK zeroValue174 rfl) fun b4 => ?_
 refine aB dq ?_
 refine ja (B := kH 0 (aS [pt b1 (gn c), pt b4 (a8 [pQ bt] 174), jo bt ([], 32)]) :: R) inferInstance ?_
 refine yk ?_
 simp only [Qar, Qan]
 refine aw ?_
 refine ao rfl (nx (B := kH 0 (aS [pt b1 (gn c), pt b4 (a8 [pQ bt] 174), jo bt ([], 32)]) :: R) inferInstance (ar xM (FC 83 [pQ b1, pQ b4] c.rl.length (fun i => aS [pt b1 (gn c), pt b4 (a8 [pQ bt] 174), jo bt (jp c i, 32)]) (sM c) (UM W0 b1 b4 bt c (by omega) hs) (by omega)))) ?_
 rintro _ B_ ⟨r, rfl, hB_⟩
 obtain rfl := hB_.symm
 refine aw ?_
 refine aT ?_
 rw [oo, Qav (by omega), Qcf]
 exact ⟨_, ⟨r, rfl, rfl⟩, IO⟩
def sN (c : Cfg) (g : Int) (k : Nat) : Bool := (c.pl.take k).any fun q => decide (q.2 = g)
theorem UO (c : Cfg) (g : Int) (k : Nat) (hk : k < c.pl.length) (hl : c.pl.length ≤ 8) (hcap : c.pl.length ≤ c.pc) (hs : ∀ A, bK (az W0 A) c.pa 2 dU c.pl) : sQ W0 87 [.agg (cX c).toArray, iQ g, iQ k] R (.bool (sN c g k)) R := by
 refine ac func87 ntmps87 ?_
 refine aV fun b1 => ?_
 refine a7 (mM xH tY rfl rfl (h := k) rfl (by omega)) ?_
 refine dr (fun i : Nat => i ≤ k ∧ ∀ j, j < i → (c.pl.getD j (0, 0)).2 ≠ g) (fun i => [(1, iQ g), (12, .slice c.pa k c.pc), (13, iQ k), (14, iQ i)]) (fun _ => R) (fun i => k - i) 0 ?_ ?_
 grind
 intro i ⟨hi, hI⟩
 refine aw ?_
 refine ah (fun c2 => ?_) fun c2 => ?_
 have hi1 : i < c.pl.length := by omega
 have hik : i < k := by omega
 obtain ⟨gp, o, hpa, hc⟩ := (hs R).at_ hi1
 obtain ⟨x, hx⟩ : ∃ x, c.pl[i] = x := ⟨_, rfl⟩
 have hgd : c.pl.getD i (0, 0) = x := by grind
 rw [hx] at hc
 refine a7 (fT xH tY rfl hpa rfl rfl hik (by first | exact Qac _ | rfl)) ?_
 refine a7 (bZ hc.weak) ?_
 refine bB fun bx => ?_
 refine aB aD ?_
 refine ah (fun c4 => ?_) fun c4 => ?_
 refine aa ?_
 have ht : sN c g k = true := by
  grind [sN, List.any_eq_true, List.mem_take_iff_getElem.2]
 rw [ht]
 exact ai
 refine a7 cQ ?_
 refine cv (i + 1) ?_
 grind
 refine aa ?_
 have ht : sN c g k = false := by
  grind [sN, List.any_eq_false, List.mem_take_iff_getElem.1]
 rw [ht]
 exact ai
def ux (c : Cfg) (i : Nat) : Bool := !gi (c.pl.getD i (0, 0)).1 c.cats || (decide ((c.pl.getD i (0, 0)).2 ≠ -1) && (!jK c (c.pl.getD i (0, 0)).2 || decide ((c.pl.getD i (0, 0)).1 ≠ mR c (c.pl.getD i (0, 0)).2) || sN c (c.pl.getD i (0, 0)).2 i))
theorem UP (W0 : World) (b1 : Nat) (c : Cfg) (hl : c.pl.length ≤ 8) (hcap : c.pl.length ≤ c.pc) (hs : ∀ A, bK (az W0 A) c.pa 2 dU c.pl) (hgs : ∀ A, bK (az W0 A) c.ga 3 iz c.gl) :
    WF W0 85 [pQ b1] c.pl.length (fun _ => aS [pt b1 (gn c)]) (ux c) := ⟨call85, fun i hi R => by
 refine nz ?_
 simp only [Qar, Qan]
 obtain ⟨g, o, hpa, hc⟩ := (hs (pt b1 (gn c) :: R)).at_ hi
 obtain ⟨⟨p, q⟩, hx⟩ : ∃ x, c.pl[i] = x := ⟨_, rfl⟩
 have hgd : c.pl.getD i (0, 0) = (p, q) := by grind
 have hW : ux c i = (!gi p c.cats || (decide (q ≠ -1) && (!jK c q || decide (p ≠ mR c q) || sN c q i))) := by rw [ux, hgd]
 rw [hx] at hc
 rw [hW]
 have hrow : ∃ (gg og j : Nat) (vs : List Value), (∀ A, aR (az W0 A) gg (og + j * 3) vs) ∧ (jK c q = true → c.ga = some ⟨gg, og, none⟩ ∧ q = (j : Int) ∧ j < c.gl.length ∧ ∃ u : Int × Int × Int, vs = iz u ∧ mR c q = u.1) := by
  cases hG : jK c q with
  | false => exact ⟨0, 0, 0, [], fun A k v hk => by simp at hk, fun h => by cases h⟩
  | true =>
   have hb : 0 ≤ q ∧ q < c.gl.length := Qat hG
   obtain ⟨j, rfl⟩ : ∃ j : Nat, q = (j : Int) := ⟨q.toNat, by omega⟩
   have hj : j < c.gl.length := by omega
   obtain ⟨gg, og, hga, _⟩ := (hgs []).at_ hj
   refine ⟨gg, og, j, iz c.gl[j], fun A => ?_, fun _ => ⟨hga, rfl, hj, c.gl[j], rfl, ?_⟩⟩
   obtain ⟨g2, o2, h2, hc2⟩ := (hgs A).at_ hj
   rw [hga] at h2; cases h2; exact hc2
   grind [mR]
 obtain ⟨gg, og, j, vs, hcv, hrw⟩ := hrow
 obtain ⟨w, hw⟩ : ∃ w, jK c q = w := ⟨_, rfl⟩
 rw [hw] at hrw ⊢
 refine ac func85 ntmps85 ?_
 refine a7 (fT xH tY rfl hpa rfl rfl hi (by first | exact Qac _ | rfl)) ?_
 refine a7 (bZ hc.weak) ?_
 refine bB fun bx => ?_
 refine aB aD ?_
 refine ag (ar Ly (Bt p c.cats)) ?_
 refine aA rfl ?_ ?_
 intro c2
 refine aw ?_
 refine aa ?_
 have hv : gi p c.cats = false := by grind
 rw [hv]
 exact ai
 intro c2
 have hv : gi p c.cats = true := by grind
 rw [hv]
 refine aw ?_
 refine aA rfl ?_ ?_
 intro c4
 refine aw ?_
 refine aa ?_
 rw [Qav (by omega)]
 exact ai
 intro c4
 refine aw ?_
 refine ag (ar vr (sJ c q)) ?_
 rw [hw]
 refine aA rfl ?_ ?_
 intro c6
 refine aw ?_
 refine aa ?_
 have hw0 : w = false := by grind
 rw [hw0, Qaw (by omega)]
 exact ai
 intro c6
 obtain rfl : w = true := by grind
 obtain ⟨hga, hqj, hj, u, rfl, hlu⟩ := hrw rfl
 rw [hlu, Qaw (by omega)]
 have hne : ¬ q = -1 := by omega
 refine aw ?_
 refine jF [(b1, 0, cX c), (bx, 0, dU (p, q)), (gg, og + j * 3, iz u)] 18 mixed rfl (cz (cz (dD (hcv _) cG))) (fun hS => ?_)
 refine ae 0 6 hS ?_
 refine ax 6 hS (fT vn rK rfl hga rfl hqj hj (by first | exact Qac _ | rfl)) ?_
 refine ae 7 1 hS ?_
 refine ax 8 hS (aH (nu (k := 2) (j := 0) rfl rfl)) ?_
 refine ae 9 2 hS ?_
 refine lY (t := 37) rfl ?_ ?_
 intro g8_11
 refine ae 11 7 hS ?_
 refine aK ?_
 refine aa ?_
 refine aQ ?_
 refine Qak Value.bool ?_
 rw [Qag]
 simp_all
 intro g8_11
 refine ae 11 4 hS ?_
 refine kU 15 rfl rfl (ar call87 (UO c q i hi hl hcap hs)) (cz (cz (dD (hcv _) cG))) fun hS => ?_
 refine ae 16 2 hS ?_
 refine aK ?_
 refine aa ?_
 refine aQ ?_
 refine Qak Value.bool ?_
 rw [Qag]
 simp_all
 ⟩
def qN (c : Cfg) : Bool := decide (8 < c.pl.length) || lD (ux c) c.pl.length
theorem UQ (c : Cfg) (hcap : c.pl.length ≤ c.pc) (hs : ∀ A, bK (az W0 A) c.pa 2 dU c.pl) (hgs : ∀ A, bK (az W0 A) c.ga 3 iz c.gl) : sP W0 38 [.agg (cX c).toArray] R (fun v B => ∃ r, v = .tuple #[iQ r, .bool (qN c)] ∧ B = R) := by
 refine ac func38 ntmps38 ?_
 refine aV fun b1 => ?_
 refine ah (fun c1 => ?_) fun c1 => ?_
 refine aT ?_
 rw [qN, Qaw (by omega), Qck]
 exact ⟨_, ⟨0, rfl, rfl⟩, IO⟩
 refine ao rfl (aj xM (yp 85 [pQ b1] c.pl.length b1 _ (ux c) (UP W0 b1 c (by omega) hcap hs hgs) (by omega))) ?_
 rintro _ B_ ⟨r, rfl, hB_⟩
 obtain rfl := hB_.symm
 refine aw ?_
 refine aT ?_
 rw [qN, Qav (by omega), Qcf]
 exact ⟨_, ⟨r, rfl, rfl⟩, IO⟩
structure CfOk (W0 : World) (c : Cfg) : Prop where
  g : ∀ A, bK (az W0 A) c.ga 3 iz c.gl
  r : ∀ A, bK (az W0 A) c.ra 3 iz c.rl
  p : ∀ A, bK (az W0 A) c.pa 2 dU c.pl
  n : ∀ A, bK (az W0 A) c.na 2 dU c.nl
  s : ∀ A, bK (az W0 A) c.sa 2 dU c.sl
  pc : c.pl.length ≤ c.pc
def UR (W0 : World) (c : Cfg) (C : HP) (l : List (Value × Int × Bool)) : Prop := ∀ x ∈ l, ∃ fn cs, x.1 = .func (.func fn) #[] cs.toArray ∧ (∀ args w, (callFunc fn args).run Tryz.prog w = .ok (.enter fn args) w) ∧
  ∀ R, aZ Tryz.prog W0 fn ([] ++ [.agg (cX c).toArray] ++ cs) (kH 0 C :: R) (fun v B => ∃ r, v = .tuple #[.int .i64 r, .bool x.2.2] ∧ B = kH 0 C :: R)
def mb : List (Value × Int × Bool) → Int
 | [] => 0
 | x :: t => if x.2.2 then x.2.1 else mb t
theorem FY : ∀ (l : List (Value × Int × Bool)) (i : Nat) (hi : i < l.length), (∀ j (hj : j < l.length), j < i → l[j].2.2 = false) → l[i].2.2 = true → mb l = l[i].2.1
 | x :: t, 0, _, _, h => by rw [mb, Qae (by simpa using h)]; rfl
 | x :: t, i + 1, hi, h1, h2 => by
  have h0 := h1 0 (by simp) (by omega)
  rw [mb, Qab (by grind), FY t i (by grind) (fun j hj hji => by
   have := h1 (j + 1) (by omega) (by omega)
   simpa using this) (by grind)]
  simp
theorem FZ : ∀ (l : List (Value × Int × Bool)), (∀ j (hj : j < l.length), l[j].2.2 = false) → mb l = 0
 | [], _ => rfl
 | x :: t, h => by
  have h0 := h 0 (by simp)
  rw [mb, Qab (by grind), FZ t (fun j hj => by
   have := h (j + 1) (by grind)
   simpa using this)]
def uy (x : Value × Int × Bool) : List Value := [x.1, .int .i64 x.2.1]
def fF (c : Cfg) (bg : Nat) : List (Value × Int × Bool) := [(.func (.func 36) #[] #[], 13, pB c), (.func (.func 37) #[] #[], 14, oo c), (.func (.func 38) #[] #[], 15, qN c), (.func (.func 39) #[] #[], 16, pC c), (.func (.func 40) #[] #[], 17, sK c), (.func (.func 35) #[] #[.pointer (some ⟨bg, 0, none⟩)], 18, m9 c)]
theorem US (W0 : World) (R : List HP) (bg : Nat) (x : Bool) (c : Cfg) : sQ W0 35 [.agg (cX c).toArray, pQ bg] (pt bg (a8 [.bool x] 4) :: R) (.tuple #[iQ 0, .bool x]) (pt bg (a8 [.bool x] 4) :: R) := by
 refine ac func35 ntmps35 ?_
 refine aV fun b2 => ?_
 refine bu [bg] 3 fun hS => ?_
 refine ae 0 3 hS ?_
 refine aK ?_
 exact aT ai
theorem UT (x : Bool) : sP W0 34 [.bool x] R (fun v B => ∃ bg, v = .func (.func 35) #[] #[pQ bg] ∧ B = pt bg (a8 [.bool x] 4) :: R) := by
 refine ac func34 ntmps34 ?_
 refine cW (gE rfl rfl) fun bg => ?_
 refine aa ?_
 exact ⟨_, ⟨bg, rfl, rfl⟩, IO⟩
theorem UU (W0 : World) (c : Cfg) (h : CfOk W0 c) (bg : Nat) : UR W0 c (aS [pt bg (a8 [.bool (m9 c)] 4)]) (fF c bg) := by
 intro x hx
 simp only [fF, QaN, List.not_mem_nil, or_false] at hx
 rcases hx with rfl | rfl | rfl | rfl | rfl | rfl
 exact ⟨_, [], rfl, call36, fun R => Ul c h.g⟩
 exact ⟨_, [], rfl, call37, fun R => UN c h.r⟩
 exact ⟨_, [], rfl, call38, fun R => UQ c h.pc h.p h.g⟩
 exact ⟨_, [], rfl, call39, fun R => Ur c h.n h.g⟩
 exact ⟨_, [], rfl, call40, fun R => Un c h.s⟩
 exact ⟨_, [pQ bg], rfl, call35, fun R => nz (iy (US W0 R bg (m9 c) c) fun v B hB => by
  obtain ⟨rfl, rfl⟩ := hB
  exact ⟨_, ⟨0, rfl, rfl⟩, inferInstance⟩)⟩
def iA (c : Cfg) : Int := if c.cats < 0 ∨ 8 < c.cats then 12 else if pB c then 13 else if oo c then 14 else if qN c then 15 else if pC c then 16 else if sK c then 17 else if m9 c then 18 else if 32 < gL c c.gl.length then 19 else 0
theorem UV (c : Cfg) (bg : Nat) (h : ¬ (c.cats < 0 ∨ 8 < c.cats)) : iA c = if mb (fF c bg) = 0 ∧ 32 < gL c c.gl.length then 19 else mb (fF c bg) := by
 grind [iA, fF, mb]
theorem vV {w : Nat → Bool} {n i : Nat} (h : lD w n = false) (hi : i < n) : w i = false := by
 grind [Ui]
theorem G0 {c : Cfg} (h : pB c = false) : 1 ≤ c.gl.length ∧ c.gl.length ≤ 4 ∧ ∀ g ∈ c.gl, gi g.1 c.cats = true ∧ 1 ≤ g.2.1 ∧ g.2.1 ≤ 8 ∧ 0 ≤ g.2.2 ∧ g.2.2 ≤ 8 - g.2.1 := by
 simp only [pB, Qbr, Qbh] at h
 obtain ⟨h1, h2⟩ := h
 refine ⟨by omega, by omega, fun g hg => ?_⟩
 obtain ⟨i, hi, rfl⟩ := Qbm hg
 have := vV h2 hi
 rw [show c.gl.getD i (0, 0, 0) = c.gl[i] by simp [List.getD, hi]] at this
 exact yo.1 this
theorem G1 {c : Cfg} (h : oo c = false) : c.rl.length ≤ 8 ∧ ∀ r ∈ c.rl, gi r.1 c.cats = true ∧ 0 ≤ r.2.1 ∧ 1 ≤ r.2.2 ∧ r.2.1 + r.2.2 ≤ 32 := by
 simp only [oo, Qbr, Qbh] at h
 obtain ⟨h1, h2⟩ := h
 refine ⟨by omega, fun r hr => ?_⟩
 obtain ⟨i, hi, rfl⟩ := Qbm hr
 have := vV h2 hi
 rw [sM, show kX c i = c.rl[i] by simp [kX, List.getD, hi], Bool.not_eq_false', Qap, Qah] at this
 obtain ⟨q1, q2⟩ := this
 refine ⟨q1, ?_⟩
 unfold fy at q2
 split at q2
 omega
 omega
theorem qP (c : Cfg) (h : CfOk W0 c) : sP W0 13 [.agg (cX c).toArray] R (fun v B => ∃ at_, v = .tuple #[iQ (iA c), iQ at_] ∧ B = R) := by
 refine ac func13 ntmps13 ?_
 refine dR (k0 rfl) fun b1 => ?_
 refine au 4 ?_
 refine Bq (aw ?_)
 refine cP rfl rfl rfl (fun g2_4 => ?_) fun g2_4 => ?_
 refine au 14 ?_
 refine pA (aT ?_)
 have he : iA c = 12 := by grind [iA]
 rw [he]
 exact ⟨_, ⟨0, rfl, rfl⟩, IO⟩
 refine aw ?_
 refine aA rfl (fun c2 => ?_) fun c2 => ?_
 refine au 8 ?_
 refine pA (aT ?_)
 have he : iA c = 12 := by grind [iA]
 rw [he]
 exact ⟨_, ⟨0, rfl, rfl⟩, IO⟩
 refine au 9 ?_
 refine AP (au 1 ?_)
 refine ec (fun e : Int × Int => e.1 = mb (fF c 0) ∧ ¬ (c.cats < 0 ∨ 8 < c.cats)) (fun e => [(1, pQ b1), (5, iQ e.2), (6, iQ e.1)]) (fun _ => pt b1 (gn c) :: R) ?_ ?_
 refine au 9 ?_
 refine ag (ar call41 (Uo c)) ?_
 refine ao rfl (fQ rfl call34 rfl (UT (m9 c))) ?_
 rintro _ B_ ⟨bg, rfl, hB_⟩
 obtain rfl := hB_.symm
 refine aw ?_
 refine cW (gH a5B KO Lu rfl (dX rfl rfl (dX rfl rfl (dX rfl rfl (dX rfl rfl (dX rfl rfl (dX rfl rfl fR)))))) rfl (by decide) (by decide) (by decide)) fun bl => ?_
 refine mQ (b := bl) (o' := a8 ((fF c bg).flatMap uy) 102) rfl ?_
 refine aw ?_
 refine dr (fun i : Nat => i ≤ 6 ∧ ∀ j (hj : j < (fF c bg).length), j < i → ((fF c bg)[j]).2.2 = false) (fun i => [(1, pQ b1), (5, iQ 0), (6, iQ 0), (29, .slice (some ⟨bl, 0, none⟩) 6 6), (30, iQ 6), (31, iQ i)]) (fun _ => pt bl (a8 ((fF c bg).flatMap uy) 102) :: pt b1 (gn c) :: kH 0 (aS [pt bg (a8 [.bool (m9 c)] 4)]) :: R) (fun i => 6 - i) 0 ?_ ?_
 grind
 intro i ⟨hi, hI⟩
 refine aw ?_
 refine aA rfl (fun c6 => ?_) fun c6 => ?_
 refine au 5 ?_
 have hi1 : i < 6 := by omega
 have hlen : (fF c bg).length = 6 := rfl
 have hil : i < (fF c bg).length := by omega
 have hok := UU W0 c h bg (fF c bg)[i] (QaL hil)
 have hEq := FY (fF c bg) i hil hI
 have hnx : (fF c bg)[i].2.2 = false → ∀ j (hj : j < (fF c bg).length), j < i + 1 → ((fF c bg)[j]).2.2 = false := fun q j hj hji => by
  rcases Qay j i with q2 | q2
  grind
  grind
 have hcell : aR (az W0 (pt bl (a8 ((fF c bg).flatMap uy) 102) :: pt b1 (gn c) :: kH 0 (aS [pt bg (a8 [.bool (m9 c)] 4)]) :: R)) bl (i * 2) (uy (fF c bg)[i]) := by
  obtain ⟨b, off, e1, hc⟩ := sF (W0 := W0) (A := pt bl (a8 ((fF c bg).flatMap uy) 102) :: pt b1 (gn c) :: kH 0 (aS [pt bg (a8 [.bool (m9 c)] 4)]) :: R) (f := uy) (sz := 2) (xs := fF c bg) (b := bl) (fun _ => rfl) rfl i (fF c bg)[i] (by simp [hil])
  cases e1
  rwa [Qac] at hc
 generalize hy : (fF c bg)[i] = y at hok hEq hnx hcell
 obtain ⟨yv, ye, yb⟩ := y
 obtain ⟨fn, cs, rfl, hcall, hsp⟩ := hok
 dsimp only at hEq hnx hsp
 refine aU (ab rfl (bE hi1) ?_)
 refine ab rfl (bZ hcell) ?_
 refine dR (da Lu) fun bx => ?_
 refine eu (gD KO rfl rfl rfl rfl rfl) ?_
 rintro _ _ rfl
 refine aM (aC (aI (aU ?_)))
 refine ab rfl (d3 rfl L8 rfl sizeOf99 rfl (by first | exact Qac _ | rfl)) ?_
 refine ab rfl (ci isAgg99 rfl (aE rfl)) ?_
 refine ab rfl (nr KH rL rfl rfl) ?_
 refine ao rfl (so (us := []) (cs := cs) rfl hcall rfl (hsp _)) ?_
 rintro _ B_ ⟨r_, rfl, hB_⟩
 obtain rfl := hB_.symm
 refine ab rfl (aW rfl) (ab rfl (jY rfl rfl) (ab rfl (jY rfl rfl) (ab rfl (bq rfl) (ab rfl (bq rfl) (aM (aC (aI (aU (ab rfl (aW rfl) (aM (aC ?_)))))))))))
 refine aA rfl (fun c9 => ?_) fun c9 => ?_
 refine aI ?_
 refine bu [bx] 5 fun hS => ?_
 refine cH 0 rfl rfl rfl hS (aW rfl) ?_
 refine cH 1 rfl rfl rfl hS (d3 rfl L8 rfl sizeOf38 rfl (by first | exact Qac _ | rfl)) ?_
 refine cH 2 rfl rfl rfl hS (ci isAgg38 rfl (cY (k := 0) rfl rfl)) ?_
 refine cH 3 rfl rfl rfl hS (bq rfl) ?_
 refine cH 4 rfl rfl rfl hS (bq rfl) ?_
 refine aK ?_
 exact cq (ye, r_) (⟨(hEq c9).symm, by omega⟩)
 refine aw ?_
 refine a7 cQ ?_
 refine cv (i + 1) ?_
 grind
 refine aw ?_
 refine cq ((0 : Int), (0 : Int)) ?_
 obtain rfl : i = 6 := by omega
 exact ⟨(FZ _ fun j hj => hI j hj (by grind [fF])).symm, by omega⟩
 intro ⟨e, at_⟩ ⟨he, hcat⟩
 dsimp only at he ⊢
 have hce := UV c 0 hcat
 rw [← he] at hce
 refine aw ?_
 refine pi rfl rfl rfl (fun g12_3 => ?_) fun g12_3 => ?_
 have hall : mb (fF c 0) = 0 := by omega
 have hgr : pB c = false := by
  rw [← QaB]; intro q; simp only [fF, mb, q, QbH] at hall; exact absurd hall (by decide)
 have hri : pC c = false := by
  rw [← QaB]; intro q; simp only [fF, mb, q, QbH] at hall; split at hall <;> (try split at hall) <;> (try split at hall) <;> exact absurd hall (by decide)
 obtain ⟨k1, k2, k3⟩ := G0 hgr
 have k4 : c.nl.length ≤ 4 := by
  grind [pC]
 refine aw ?_
 refine ag (ar LA (Bu c h.g (fun g hg => (k3 g hg).2) k4 k2)) ?_
 refine aA rfl (fun c12 => ?_) fun c12 => ?_
 refine au 8 ?_
 refine pA (aT ?_)
 rw [hce, Qae (by omega)]
 exact ⟨_, ⟨0, rfl, rfl⟩, IO⟩
 refine au 11 ?_
 refine pA (aT ?_)
 rw [hce, Qab (by omega)]
 exact ⟨_, ⟨_, rfl, rfl⟩, IO⟩
 refine au 17 ?_
 refine pA (aT ?_)
 rw [hce, Qab (by omega)]
 exact ⟨_, ⟨_, rfl, rfl⟩, IO⟩
def rt (c : Cfg) : Bool := decide (iA c = 0)
theorem yx (c : Cfg) (h : CfOk W0 c) : sQ W0 95 [.agg (cX c).toArray] R (.bool (rt c)) R := by
 refine ac func95 ntmps95 ?_
 refine aV fun b1 => ?_
 refine ao rfl (ar ua (qP c h)) ?_
 rintro _ B_ ⟨at_, rfl, hB_⟩
 obtain rfl := hB_.symm
 refine aw ?_
 refine aa ?_
 refine aQ ?_
 refine Qak Value.bool ?_
 rw [Qag, rt]; simp
theorem sR {c : Cfg} (h : rt c = true) : 0 ≤ c.cats ∧ c.cats ≤ 8 ∧ pB c = false ∧ oo c = false ∧ qN c = false ∧ pC c = false ∧ sK c = false ∧ m9 c = false ∧ gL c c.gl.length ≤ 32 := by
 have h := Qat h
 unfold iA at h
 split at h
 omega
 rename_i q1
 repeat' split at h
 all_goals first | exact absurd h (by decide) | skip
 rename_i q2 q3 q4 q5 q6 q7 q8
 exact ⟨by omega, by omega, by simpa using q2, by simpa using q3, by simpa using q4, by simpa using q5, by simpa using q6, by simpa using q7, by omega⟩
def G2 : Option Nat → Int
 | some i => (i : Int)
 | none => -1
def jb (g off n : Nat) (at_ w : Int) : Value := if eS n at_ w then .tuple #[.slice (some ⟨g, off + at_.toNat, none⟩) w.toNat w.toNat, .bool true] else .tuple #[.slice none 0 0, .bool false]
theorem BE (g off n c : Nat) (at_ w : Int) (hn : n ≤ c) (h63 : c < 9223372036854775808) : sQ W0 332 [.slice (some ⟨g, off, none⟩) n c, iQ at_, iQ w] R (jb g off n at_ w) R := by
 refine ac func332 ntmps332 ?_
 refine cA (fun g1_3 => ?_) fun g1_3 => ?_
 refine cA (fun g1_7 => ?_) fun g1_7 => ?_
 refine ah (fun c1 => ?_) fun c1 => ?_
 refine aT ?_
 refine aQ ?_
 have hi : eS n at_ w = false := by
  grind [ka]
 simp [bD, jb, hi]
 refine ah (fun c3 => ?_) fun c3 => ?_
 refine aT ?_
 refine aQ ?_
 have hi : eS n at_ w = false := by
  grind [ka]
 simp [bD, jb, hi]
 refine ah (fun c4 => ?_) fun c4 => ?_
 refine aT ?_
 refine aQ ?_
 have hi : eS n at_ w = false := by
  grind [ka]
 simp [bD, jb, hi]
 refine a7 i6 ?_
 refine ah (fun c5 => ?_) fun c5 => ?_
 refine aT ?_
 refine aQ ?_
 have hi : eS n at_ w = false := by
  grind [ka]
 simp [bD, jb, hi]
 have hi : eS n at_ w = true := ka.2 ⟨by omega, by omega, by omega, by omega⟩
 obtain ⟨i, k, rfl, rfl, hk, hik⟩ := sH hi
 refine a7 (dx rfl rfl (by rw [bU (by omega)]; exact (Qcp i k).symm : IntKind.wrap .i64 ((i : Int) + (k : Int)) = ((i + k : Nat) : Int))) ?_
 refine a7 (dx rfl rfl (by rw [bU (by omega)]; exact (Qcp i k).symm : IntKind.wrap .i64 ((i : Int) + (k : Int)) = ((i + k : Nat) : Int))) ?_
 refine a7 (Bf nV lT rfl rfl rfl rfl rfl rfl rfl (by omega) (by omega) (by omega) (by omega) (by first | exact Qac _ | rfl)) ?_
 refine aT ?_
 refine aQ ?_
 simp [bD, jb, hi]
 refine ah (fun c3 => ?_) fun c3 => ?_
 refine aT ?_
 refine aQ ?_
 have hi : eS n at_ w = false := by
  grind [ka]
 simp [bD, jb, hi]
 refine ah (fun c4 => ?_) fun c4 => ?_
 refine aT ?_
 refine aQ ?_
 have hi : eS n at_ w = false := by
  grind [ka]
 simp [bD, jb, hi]
 refine a7 i6 ?_
 refine ah (fun c5 => ?_) fun c5 => ?_
 refine aT ?_
 refine aQ ?_
 have hi : eS n at_ w = false := by
  grind [ka]
 simp [bD, jb, hi]
 have hi : eS n at_ w = true := ka.2 ⟨by omega, by omega, by omega, by omega⟩
 obtain ⟨i, k, rfl, rfl, hk, hik⟩ := sH hi
 refine a7 (dx rfl rfl (by rw [bU (by omega)]; exact (Qcp i k).symm : IntKind.wrap .i64 ((i : Int) + (k : Int)) = ((i + k : Nat) : Int))) ?_
 refine a7 (dx rfl rfl (by rw [bU (by omega)]; exact (Qcp i k).symm : IntKind.wrap .i64 ((i : Int) + (k : Int)) = ((i + k : Nat) : Int))) ?_
 refine a7 (Bf nV lT rfl rfl rfl rfl rfl rfl rfl (by omega) (by omega) (by omega) (by omega) (by first | exact Qac _ | rfl)) ?_
 refine aT ?_
 refine aQ ?_
 simp [bD, jb, hi]
 refine ah (fun c3 => ?_) fun c3 => ?_
 refine aT ?_
 refine aQ ?_
 have hi : eS n at_ w = false := by
  rw [← QaB, ka]; omega
 simp [bD, jb, hi]
 refine ah (fun c4 => ?_) fun c4 => ?_
 refine aT ?_
 refine aQ ?_
 have hi : eS n at_ w = false := by
  grind [ka]
 simp [bD, jb, hi]
 refine a7 i6 ?_
 refine ah (fun c5 => ?_) fun c5 => ?_
 refine aT ?_
 refine aQ ?_
 have hi : eS n at_ w = false := by
  grind [ka]
 simp [bD, jb, hi]
 have hi : eS n at_ w = true := ka.2 ⟨by omega, by omega, by omega, by omega⟩
 obtain ⟨i, k, rfl, rfl, hk, hik⟩ := sH hi
 refine a7 (dx rfl rfl (by rw [bU (by omega)]; exact (Qcp i k).symm : IntKind.wrap .i64 ((i : Int) + (k : Int)) = ((i + k : Nat) : Int))) ?_
 refine a7 (dx rfl rfl (by rw [bU (by omega)]; exact (Qcp i k).symm : IntKind.wrap .i64 ((i : Int) + (k : Int)) = ((i + k : Nat) : Int))) ?_
 refine a7 (Bf nV lT rfl rfl rfl rfl rfl rfl rfl (by omega) (by omega) (by omega) (by omega) (by first | exact Qac _ | rfl)) ?_
 refine aT ?_
 refine aQ ?_
 simp [bD, jb, hi]
theorem UW (a : Option Addr) (n c : Nat) (at_ w : Int) (hi : eS n at_ w = false) (hn : n < 9223372036854775808) : sQ W0 332 [.slice a n c, iQ at_, iQ w] R (.tuple #[.slice none 0 0, .bool false]) R := by
 have hq : ¬ ((w = 1 ∨ w = 2 ∨ w = 4) ∧ 0 ≤ at_ ∧ at_ ≤ n ∧ w ≤ n - at_) := fun h => by rw [ka.2 h] at hi; cases hi
 refine ac func332 ntmps332 ?_
 refine cA (fun g1_3 => ?_) fun g1_3 => ?_
 refine cA (fun g1_7 => ?_) fun g1_7 => ?_
 refine ah (fun c1 => ?_) fun c1 => ?_
 exact aT ai
 refine ah (fun c3 => ?_) fun c3 => ?_
 exact aT ai
 refine ah (fun c4 => ?_) fun c4 => ?_
 exact aT ai
 refine a7 i6 ?_
 refine aA rfl (fun c5 => ?_) fun c5 => ?_
 refine au 9 ?_
 exact aT ai
 exfalso; omega
 refine ah (fun c3 => ?_) fun c3 => ?_
 exact aT ai
 refine ah (fun c4 => ?_) fun c4 => ?_
 exact aT ai
 refine a7 i6 ?_
 refine aA rfl (fun c5 => ?_) fun c5 => ?_
 refine au 9 ?_
 exact aT ai
 exfalso; omega
 refine ah (fun c3 => ?_) fun c3 => ?_
 exact aT ai
 refine ah (fun c4 => ?_) fun c4 => ?_
 exact aT ai
 refine a7 i6 ?_
 refine aA rfl (fun c5 => ?_) fun c5 => ?_
 refine au 9 ?_
 exact aT ai
 exfalso; omega
theorem UX (g off c : Nat) (l : List Nat) (hc : aR (az W0 R) g off (cn l)) (hl : l.length ≤ 4) (hb : By l) : sQ W0 356 [.slice (some ⟨g, off, none⟩) l.length c] R (.int .u32 (kW l : Nat)) R := by
 refine ac func356 ntmps356 ?_
 refine dr (fun i : Nat => i ≤ l.length) (fun i => [(0, .slice (some ⟨g, off, none⟩) l.length c), (3, .int .u32 (kW (l.take i) : Nat)), (6, iQ (l.length : Nat)), (7, iQ i)]) (fun _ => R) (fun i => l.length - i) 0 ?_ ?_
 omega
 intro i hi
 refine aw ?_
 refine ah (fun c3 => ?_) fun c3 => ?_
 have hil : i < l.length := by omega
 have hbi := hb.get hil
 have hlt := vR (hb.take i)
 rw [QaK, Qbf (by omega)] at hlt
 refine a7 (bE hil) ?_
 refine a7 (aH (by have := hc i (bV l[i]) (U3 l i hil); rwa [Qbc])) ?_
 refine a7 (cR (dO (by omega))) ?_
 refine a7 (pw (8 * i)) ?_
 refine a7 (p9 rfl rfl (by omega) (U5 hbi (by omega))) ?_
 refine a7 (p8 rfl rfl ((U6 hlt hbi (by omega)).trans (Qak _ (U4 hil).symm))) ?_
 refine a7 cQ ?_
 exact cv (i + 1) (by omega)
 refine aa ?_
 refine aQ ?_
 have : i = l.length := by omega
 subst this; simp [bD]
theorem aR.part {S : World → Prop} {b off : Nat} {l : List Nat} (h : aR S b off (cn l)) (i k : Nat) (hik : i + k ≤ l.length) : aR S b (off + i) (cn ((l.drop i).take k)) := fun j v hv => by
 have hj : j < k := by
  rcases Qay j k with q | q
  exact q
  rw [QaW (by rw [jI, QaK]; omega)] at hv; cases hv
 have := h (i + j) v (by
   rw [cn, Qce, QbN hj, QbV] at hv
   rw [cn, Qce]; exact hv)
 rwa [← Qcg] at this
def oq (l : List Nat) (at_ w : Int) : Nat := if eS l.length at_ w then kW ((l.drop at_.toNat).take w.toNat) else 0
def sT (l : List Nat) (at_ w : Int) : Int := if eS l.length at_ w then 0 else 1
theorem UY {l : List Nat} {at_ w : Int} (hb : By l) : oq l at_ w < 4294967296 := by
 unfold oq; split
 rename_i h
 obtain ⟨i, k, rfl, rfl, hk, hik⟩ := sH h
 have := vR ((hb.drop i).take k)
 simp only [QaK, Qcy, Qal] at this ⊢
 have e : min k (l.length - i) = k := by omega
 rw [e] at this
 rcases hk with rfl | rfl | rfl <;> omega
 omega
theorem G3 (W0 : World) (R : List HP) (g off c : Nat) (l : List Nat) (at_ w : Int) (hc : aR (az W0 R) g off (cn l)) (hb : By l) (hn : l.length ≤ c) (h63 : c < 9223372036854775808) : sQ W0 289 [.slice (some ⟨g, off, none⟩) l.length c, iQ at_, iQ w] R (.tuple #[.int .u32 (oq l at_ w : Nat), iQ (sT l at_ w)]) R := by
 by_cases hi : eS l.length at_ w = true
 obtain ⟨i, k, rfl, rfl, hk, hik⟩ := sH hi
 have hw : jb g off l.length i k = .tuple #[.slice (some ⟨g, off + i, none⟩) ((l.drop i).take k).length k, .bool true] := by
  grind [jb]
 refine ac func289 ntmps289 ?_
 refine oc (ar E8 (BE g off l.length c i k hn h63)) ?_
 rw [hw]
 refine aw ?_
 refine aA rfl (fun c2 => ?_) fun c2 => ?_
 exact absurd c2 (by simp)
 refine aw ?_
 refine ag (ar call356 (UX g (off + i) k ((l.drop i).take k) (hc.part i k hik) (by grind) ((hb.drop i).take k))) ?_
 refine aT ?_
 refine aQ ?_
 simp [bD, oq, sT, hi]
 have hi' : eS l.length at_ w = false := by grind
 have hw : jb g off l.length at_ w = .tuple #[.slice none 0 0, .bool false] := by simp [jb, hi']
 refine ac func289 ntmps289 ?_
 refine oc (ar E8 (BE g off l.length c at_ w hn h63)) ?_
 rw [hw]
 refine aw ?_
 refine aA rfl (fun c2 => ?_) fun c2 => ?_
 refine au 8 ?_
 refine aT ?_
 refine aQ ?_
 simp [bD, oq, sT, hi']
 exact absurd c2 (by simp)
theorem UZ (g off n c ty : Nat) (L : List Value) (w : Nat) (hw : w < 4294967296) (hn : n ≤ 4) (hL : off + n ≤ L.length) : sQ W0 333 [.slice (some ⟨g, off, none⟩) n c, .int .u32 w] (pt g (a8 L ty) :: R) (.tuple #[]) (pt g (a8 (d4 L off (cn (lB n w))) ty) :: R) := by
 refine ac func333 ntmps333 ?_
 refine fu (fun i : Nat => i ≤ n) (fun i => [(0, .slice (some ⟨g, off, none⟩) n c), (1, .int .u32 w), (6, iQ n), (7, iQ i)]) (fun i => pt g (a8 (d4 L off (cn (lB i w))) ty) :: R) (fun i => n - i) 0 ?_ ?_ ?_ ?_
 omega
 · repeat (first | exact cI | refine cj rfl ?_)
 rw [show d4 L off (cn (lB 0 w)) = L from rfl]; exact inferInstance
 intro i hi
 refine aw ?_
 refine ah (fun c1 => ?_) fun c1 => ?_
 refine a7 (pw (8 * i)) ?_
 refine a7 (kR rfl rfl (by omega) rfl) ?_
 refine a7 (cR (U9 (by omega))) ?_
 refine a7 (bE (by omega)) ?_
 refine aB (dF (by rw [xX]; omega) (by rw [U8, Fp, show cn [w / 256 ^ i % 256] = [bV (w / 256 ^ i % 256)] from rfl, Ft, jI, vS, Qbc]; rfl : (d4 L off (cn (lB i w))).set (off + i * 1) _ = d4 L off (cn (lB (i + 1) w)))) ?_
 refine a7 cQ ?_
 exact cv (i + 1) (by omega)
 refine bA (.inr rfl) .nil ?_
 have : i = n := by omega
 subst this
 exact ai
theorem G4 (g off c : Nat) (l : List Nat) (hc : aR (az W0 R) g off (cn l)) (hn : l.length ≤ 1000000) : sP W0 331 [.slice (some ⟨g, off, none⟩) l.length c] R (fun v B => ∃ a' c', v = .slice a' l.length c' ∧ B = osl 5 1 (.slice a' l.length c') (cn l) :: R) := by
 refine ac func331 ntmps331 ?_
 refine a7 (sr nV rfl rfl) ?_
 refine aA rfl (fun c1 => ?_) fun c1 => ?_
 cases c1
 refine gC (aC (aI (aU (ao rfl (sy nV lT rfl) ?_))))
 rintro _ _ ⟨b1, rfl, rfl⟩
 refine aw ?_
 refine ao rfl (eQ (sz := 1) (by_ := 1) (info := Tryz.t5) nV (by kernel_rfl) rfl rfl rfl rfl (by decide) rfl rfl hc.weak ((jI l).trans (Qbc _).symm) (Bo l) (by simp only [maxLen]; omega) (by omega)) ?_
 rintro _ _ ⟨a1, c1, rfl, rfl⟩
 refine aw ?_
 refine aa ?_
 exact ⟨_, ⟨a1, c1, by simp [bD], rfl⟩, by simpa using (ent_refl : Ent _ _)⟩
theorem G5 {c : Nat} (h : c ≤ maxLen) : c < 9223372036854775808 := by simp only [maxLen] at h; omega
theorem V0 {l : List Nat} {sp : List Value} {i k w : Nat} (h : i + k ≤ l.length) : d4 (cn l ++ sp) i (cn (lB k w)) = cn (nD l i k w) ++ sp := by
 grind [Fu, jI, vS, Ub]
def G6 (a : Option Addr) (n c : Nat) : Value := .tuple #[.slice a n c, .int .i64 0]
def G7 : Value := .tuple #[.slice none 0 0, .int .i64 1]
theorem V1 (W0 : World) (R : List HP) (g off c : Nat) (l : List Nat) (i k w : Nat) (hw : w < 4294967296) (hc : aR (az W0 R) g off (cn l)) (hi : eS l.length i k = true) (hn : l.length ≤ 1000000) : sP W0 266 [.slice (some ⟨g, off, none⟩) l.length c, iQ i, iQ k, .int .u32 w] R (fun v B => ∃ a' c', v = G6 a' l.length c' ∧ B = osl 5 1 (.slice a' l.length c') (cn (nD l i k w)) :: R) := by
 have hb := ka.1 hi
 refine ac func266 ntmps266 ?_
 refine ao rfl (ar call331 (G4 g off c l hc hn)) ?_
 rintro _ B_ ⟨a', c', rfl, hB_⟩
 obtain rfl := hB_.symm
 refine au 4 ?_
 refine ny (fun h _ => by have := (Value.slice.inj h).2.1; omega) fun g' n' cap sp h1 h2 h3 h4 h5 => ?_
 cases h1
 have hwv : jb g' 0 l.length i k = .tuple #[.slice (some ⟨g', i, none⟩) k k, .bool true] := by simp [jb, hi]
 refine aw ?_
 refine oc (ar E8 (BE g' 0 l.length c' i k h2 (G5 h3))) ?_
 rw [hwv]
 refine aw ?_
 refine aA rfl (fun c3 => ?_) fun c3 => ?_
 exact absurd c3 (by simp)
 refine aw ?_
 refine ag (aj call333 (UZ g' i k k 5 (cn l ++ sp) w hw (by omega) (by omega))) ?_
 rw [V0 (by omega)]
 refine aT ?_
 exact ⟨_, ⟨_, c', rfl, rfl⟩, gG h2 h3 (by grind [jI, yl]) (by grind [Qad, jI, yl])⟩
theorem V2 (W0 : World) (R : List HP) (g off c : Nat) (l : List Nat) (at_ k : Int) (w : Nat) (hc : aR (az W0 R) g off (cn l)) (hi : eS l.length at_ k = false) (hn : l.length ≤ 1000000) : sQ W0 266 [.slice (some ⟨g, off, none⟩) l.length c, iQ at_, iQ k, .int .u32 w] R G7 R := by
 refine ac func266 ntmps266 ?_
 refine ao rfl (ar call331 (G4 g off c l hc hn)) ?_
 rintro _ B_ ⟨a', c', rfl, hB_⟩
 obtain rfl := hB_.symm
 refine aw ?_
 obtain ⟨R', hR'⟩ : ∃ R', R' = osl 5 1 (.slice a' l.length c') (cn l) :: R := ⟨_, rfl⟩
 refine ag (ar E8 (UW a' l.length c' at_ k hi (by omega))) ?_
 refine ah (fun c3 => ?_) fun c3 => ?_
 exact aT ai
 exact absurd c3 (by simp)
def wV (w : Nat) : Value := .int .u32 (w : Int)
structure Rg3 where
  desc : Nat
  avail : Nat
  used : Nat
  n : Int
structure Rg3.ok (r : Rg3) : Prop where
  desc : r.desc < 4294967296
  avail : r.avail < 4294967296
  used : r.used < 4294967296
structure Img where
  a : Option Addr
  c : Nat
  l : List Nat
@[reducible] def vW (x : Img) : List Value := [.slice x.a x.l.length x.c]
structure Sec where
  at_ : Int
  d : ByteArray
instance : Inhabited Sec := ⟨⟨0, ByteArray.empty⟩⟩
@[reducible] def vX (x : Sec) : List Value := [.int .i64 x.at_, .string x.d]
structure Inp where
  at_ : Int
  g : Int
  k : Int
  code : Int
  d : ByteArray
instance : Inhabited Inp := ⟨⟨0, 0, 0, 0, ByteArray.empty⟩⟩
@[reducible] def BF (x : Inp) : List Value := [.int .i64 x.at_, .int .i64 x.g, .int .i64 x.k, .int .i64 x.code, .string x.d]
structure Scr where
  ia : Option Addr
  ic : Nat
  il : List Img
  sa : Option Addr
  sc : Nat
  sl : List Sec
  na : Option Addr
  nc : Nat
  nl : List Inp
@[reducible] def kY (s : Scr) : List Value := [.slice s.ia s.il.length s.ic, .slice s.sa s.sl.length s.sc, .slice s.na s.nl.length s.nc]
structure ScrOk (W0 : World) (s : Scr) : Prop where
  i : ∀ A, bK (az W0 A) s.ia 1 vW s.il
  w : ∀ x ∈ s.il, ∀ A, bK (az W0 A) x.a 1 (fun x => [wV x]) x.l
  wl : ∀ x ∈ s.il, x.l.length ≤ x.c ∧ x.l.length < 9223372036854775808
  wb : ∀ x ∈ s.il, ∀ w ∈ x.l, w < 4294967296
  sx : ∀ A, bK (az W0 A) s.sa 2 vX s.sl
  sb : ∀ x ∈ s.sl, (-9223372036854775808 ≤ x.at_ ∧ x.at_ < 9223372036854775808) ∧ x.d.size < 9223372036854775808
  n : ∀ A, bK (az W0 A) s.na 5 BF s.nl
  nb : ∀ x ∈ s.nl, x.d.size < 9223372036854775808
def uz (c : Cfg) : Bool := decide (c.gl.length ≤ 20 ∧ c.rl.length ≤ 40 ∧ c.pl.length ≤ 40 ∧ c.nl.length ≤ 40 ∧ c.sl.length ≤ 40)
theorem Own.step {W0 w w' : World} {A C : List HP} (h : Own W0 w A) (k : Own w w' C) : Own W0 w' (C ++ A) := by
 obtain ⟨lA, sA, nA, mA⟩ := h.owns
 obtain ⟨lC, sC, nC, mC⟩ := k.owns
 have hlt : ∀ p ∈ lA, p.1 < w.heap.size := fun p hp => by
  have := (mA p hp).2
  rcases Qay p.1 w.heap.size with q | q
  exact q
  grind
 refine ⟨k.os.trans h.os, k.tape.trans h.tape, k.output.trans h.output, Qbl h.size k.size, fun b hb => (k.base b (Nat.lt_of_lt_of_le hb h.size)).trans (h.base b hb), lC ++ lA, dJ.append.2 ⟨lC, lA, rfl, sC, sA⟩, ?_, fun p hp => ?_⟩
 grind
 rcases Qbg.1 hp with q | q
 exact ⟨Qbl h.size (mC p q).1, (mC p q).2⟩
 exact ⟨(mA p q).1, (k.base p.1 (hlt p q)).trans (mA p q).2⟩
theorem BG {W0 W : World} {A : List HP} {b off : Nat} {vs : List Value} (hO : Own W0 W A) (h : aR (az W0 A) b off vs) : ∀ B, aR (az W B) b off vs := fun B i v hi => xY (h i v hi W hO)
theorem yy {α : Type} {W0 W : World} {A : List HP} {a : Option Addr} {sz : Nat} {f : α → List Value} {xs : List α} (hO : Own W0 W A) (h : bK (az W0 A) a sz f xs) : ∀ B, bK (az W B) a sz f xs := fun B i x hi => by
 obtain ⟨b, off, rfl, hc⟩ := h i x hi
 exact ⟨b, off, rfl, BG hO hc B⟩
end
section
open Go.ChangeShapes Go.WideShapes Go.ChangeAt Go.RowKit
set_option linter.unusedSimpArgs false
set_option linter.unusedVariables false
variable {W : World} {v : Value}
theorem yz {l : List Value} (h : l.length = 2) : ∃ x0 x1, l = [x0, x1] := by
 match l, h with
 | [x0, x1], _ => exact ⟨x0, x1, rfl⟩
theorem BH {l : List Value} (h : l.length = 3) : ∃ x0 x1 x2, l = [x0, x1, x2] := by
 match l, h with
 | [x0, x1, x2], _ => exact ⟨x0, x1, x2, rfl⟩
theorem V3 {l : List Value} (h : l.length = 5) : ∃ x0 x1 x2 x3 x4, l = [x0, x1, x2, x3, x4] := by
 match l, h with
 | [x0, x1, x2, x3, x4], _ => exact ⟨x0, x1, x2, x3, x4, rfl⟩
theorem V4 {l : List Value} (h : l.length = 8) : ∃ x0 x1 x2 x3 x4 x5 x6 x7, l = [x0, x1, x2, x3, x4, x5, x6, x7] := by
 match l, h with
 | [x0, x1, x2, x3, x4, x5, x6, x7], _ => exact ⟨x0, x1, x2, x3, x4, x5, x6, x7, rfl⟩
theorem V5 {fuel : Nat} {l : List Value} (h : fj Tryz.prog W fuel 112 l) : ∃ x : Int × Int × Int, l = iz x ∧ True := by
 obtain ⟨hl, f', hf⟩ := pj nU h
 obtain ⟨a, b, c, rfl⟩ := BH (hl.trans (by kernel_rfl))
 have h0 := hf _ (Qas ..)
 have h1 := hf _ (Qaf _ (Qas ..))
 have h2 := hf _ (Qaf _ (Qaf _ (Qas ..)))
 rw [show Tryz.prog.cellsOf 3 = 1 by kernel_rfl] at h0 h1 h2
 obtain ⟨x0, e0, _⟩ := iO dw h0
 obtain ⟨x1, e1, _⟩ := iO dw h1
 obtain ⟨x2, e2, _⟩ := iO dw h2
 simp at e0 e1 e2
 exact ⟨(x0, x1, x2), by rw [e0, e1, e2]; rfl, trivial⟩
theorem V6 {fuel : Nat} {l : List Value} (h : fj Tryz.prog W fuel 178 l) : ∃ x : Int × Int × Int, l = iz x ∧ True := by
 obtain ⟨hl, f', hf⟩ := pj u9 h
 obtain ⟨a, b, c, rfl⟩ := BH (hl.trans (by kernel_rfl))
 have h0 := hf _ (Qas ..)
 have h1 := hf _ (Qaf _ (Qas ..))
 have h2 := hf _ (Qaf _ (Qaf _ (Qas ..)))
 rw [show Tryz.prog.cellsOf 3 = 1 by kernel_rfl] at h0 h1 h2
 obtain ⟨x0, e0, _⟩ := iO dw h0
 obtain ⟨x1, e1, _⟩ := iO dw h1
 obtain ⟨x2, e2, _⟩ := iO dw h2
 simp at e0 e1 e2
 exact ⟨(x0, x1, x2), by rw [e0, e1, e2]; rfl, trivial⟩
theorem V7 {fuel : Nat} {l : List Value} (h : fj Tryz.prog W fuel 181 l) : ∃ x : Int × Int, l = dU x ∧ True := by
 obtain ⟨hl, f', hf⟩ := pj Lb h
 obtain ⟨a, b, rfl⟩ := yz (hl.trans (by kernel_rfl))
 have h0 := hf _ (Qas ..)
 have h1 := hf _ (Qaf _ (Qas ..))
 rw [show Tryz.prog.cellsOf 3 = 1 by kernel_rfl] at h0 h1
 obtain ⟨x0, e0, _⟩ := iO dw h0
 obtain ⟨x1, e1, _⟩ := iO dw h1
 simp at e0 e1
 exact ⟨(x0, x1), by rw [e0, e1], trivial⟩
theorem V8 {fuel : Nat} {l : List Value} (h : fj Tryz.prog W fuel 185 l) : ∃ x : Int × Int, l = dU x ∧ True := by
 obtain ⟨hl, f', hf⟩ := pj a5G h
 obtain ⟨a, b, rfl⟩ := yz (hl.trans (by kernel_rfl))
 have h0 := hf _ (Qas ..)
 have h1 := hf _ (Qaf _ (Qas ..))
 rw [show Tryz.prog.cellsOf 3 = 1 by kernel_rfl] at h0 h1
 obtain ⟨x0, e0, _⟩ := iO dw h0
 obtain ⟨x1, e1, _⟩ := iO dw h1
 simp at e0 e1
 exact ⟨(x0, x1), by rw [e0, e1], trivial⟩
theorem V9 {fuel : Nat} {l : List Value} (h : fj Tryz.prog W fuel 114 l) : ∃ x : Int × Int, l = dU x ∧ True := by
 obtain ⟨hl, f', hf⟩ := pj a5C h
 obtain ⟨a, b, rfl⟩ := yz (hl.trans (by kernel_rfl))
 have h0 := hf _ (Qas ..)
 have h1 := hf _ (Qaf _ (Qas ..))
 rw [show Tryz.prog.cellsOf 3 = 1 by kernel_rfl] at h0 h1
 obtain ⟨x0, e0, _⟩ := iO dw h0
 obtain ⟨x1, e1, _⟩ := iO dw h1
 simp at e0 e1
 exact ⟨(x0, x1), by rw [e0, e1], trivial⟩
theorem Va (h : Ty Tryz.prog W 28 v) : ∃ c : Cfg, v = .agg (cX c).toArray ∧ CfOk W c ∧ c.gl.length ≤ c.gc := by
 obtain ⟨l, rfl, fuel, hI⟩ := EZ Al h
 obtain ⟨hl, f', hf⟩ := pj Al hI
 obtain ⟨x0, x1, x2, x3, x4, x5, x6, x7, rfl⟩ := V4 (hl.trans (by kernel_rfl))
 have h0 := hf _ (Qas ..)
 have h1 := hf _ (Qaf _ (Qas ..))
 have h2 := hf _ (Qaf _ (Qaf _ (Qas ..)))
 have h3 := hf _ (Qaf _ (Qaf _ (Qaf _ (Qas ..))))
 have h4 := hf _ (Qaf _ (Qaf _ (Qaf _ (Qaf _ (Qas ..)))))
 have h5 := hf _ (Qaf _ (Qaf _ (Qaf _ (Qaf _ (Qaf _ (Qas ..))))))
 have h6 := hf _ (Qaf _ (Qaf _ (Qaf _ (Qaf _ (Qaf _ (Qaf _ (Qas ..)))))))
 have h7 := hf _ (Qaf _ (Qaf _ (Qaf _ (Qaf _ (Qaf _ (Qaf _ (Qaf _ (Qas ..))))))))
 rw [show Tryz.prog.cellsOf 3 = 1 by kernel_rfl] at h0
 rw [show Tryz.prog.cellsOf 22 = 1 by kernel_rfl] at h1
 rw [show Tryz.prog.cellsOf 23 = 1 by kernel_rfl] at h2
 rw [show Tryz.prog.cellsOf 24 = 1 by kernel_rfl] at h3
 rw [show Tryz.prog.cellsOf 25 = 1 by kernel_rfl] at h4
 rw [show Tryz.prog.cellsOf 26 = 1 by kernel_rfl] at h5
 rw [show Tryz.prog.cellsOf 3 = 1 by kernel_rfl] at h6
 rw [show Tryz.prog.cellsOf 3 = 1 by kernel_rfl] at h7
 obtain ⟨y0, e0, _⟩ := iO dw h0
 obtain ⟨a1, c1, L1, e1, p1, q1, r1, s1⟩ := py (α := Int × Int × Int) (f := iz) (Q := fun _ => True) 3 vn (by kernel_rfl) (by decide) (fun fuel r h => V5 h) h1
 obtain ⟨a2, c2, L2, e2, p2, q2, r2, s2⟩ := py (α := Int × Int × Int) (f := iz) (Q := fun _ => True) 3 Lc (by kernel_rfl) (by decide) (fun fuel r h => V6 h) h2
 obtain ⟨a3, c3, L3, e3, p3, q3, r3, s3⟩ := py (α := Int × Int) (f := dU) (Q := fun _ => True) 2 xH (by kernel_rfl) (by decide) (fun fuel r h => V7 h) h3
 obtain ⟨a4, c4, L4, e4, p4, q4, r4, s4⟩ := py (α := Int × Int) (f := dU) (Q := fun _ => True) 2 Le (by kernel_rfl) (by decide) (fun fuel r h => V8 h) h4
 obtain ⟨a5, c5, L5, e5, p5, q5, r5, s5⟩ := py (α := Int × Int) (f := dU) (Q := fun _ => True) 2 rO (by kernel_rfl) (by decide) (fun fuel r h => V9 h) h5
 obtain ⟨y6, e6, _⟩ := iO dw h6
 obtain ⟨y7, e7, _⟩ := iO dw h7
 simp at e0 e1 e2 e3 e4 e5 e6 e7
 exact ⟨⟨y0, a1, c1, L1, a2, c2, L2, a3, c3, L3, a4, c4, L4, a5, c5, L5, y6, y7⟩, by rw [e0, e1, e2, e3, e4, e5, e6, e7], ⟨fun A => pz r1, fun A => pz r2, fun A => pz r3, fun A => pz r4, fun A => pz r5, p3⟩, p1⟩
theorem Vb {fuel : Nat} {l : List Value} (h : fj Tryz.prog W fuel 62 l) : ∃ x : Nat, l = [wV x] ∧ x < 4294967296 := by
 obtain ⟨n, rfl, hw⟩ := iO Lr h
 obtain ⟨w, rfl, h2⟩ := MA hw
 exact ⟨w, rfl, h2⟩
theorem Vd {fuel : Nat} {l : List Value} (h : fj Tryz.prog W fuel 63 l) : ∃ x : Img, l = vW x ∧ (y8 W x.a 1 (fun x => [wV x]) x.l ∧ x.l.length ≤ x.c ∧ x.c ≤ maxLen ∧ ∀ w ∈ x.l, w < 4294967296) := by
 obtain ⟨a, c, xs, e, p, q, r, s⟩ := py (f := fun x => [wV x]) (Q := fun x => x < 4294967296) 1 vp (by kernel_rfl) (by decide) (fun fuel r h => Vb h) h
 exact ⟨⟨a, c, xs⟩, e, r, p, q, s⟩
theorem G8 {fuel : Nat} {l : List Value} (h : fj Tryz.prog W fuel 9 l) : ∃ s : ByteArray, l = [.string s] ∧ s.size < 9223372036854775808 := by
 obtain ⟨s, rfl, h1⟩ := Mv a56 h
 exact ⟨s, rfl, by simp only [maxLen] at h1; omega⟩
theorem Ve {fuel : Nat} {l : List Value} (h : fj Tryz.prog W fuel 205 l) : ∃ x : Sec, l = vX x ∧ ((-9223372036854775808 ≤ x.at_ ∧ x.at_ < 9223372036854775808) ∧ x.d.size < 9223372036854775808) := by
 obtain ⟨hl, f', hf⟩ := pj a5I h
 obtain ⟨a, b, rfl⟩ := yz (hl.trans (by kernel_rfl))
 have h0 := hf _ (Qas ..)
 have h1 := hf _ (Qaf _ (Qas ..))
 rw [show Tryz.prog.cellsOf 3 = 1 by kernel_rfl] at h0
 rw [show Tryz.prog.cellsOf 9 = 1 by kernel_rfl] at h1
 obtain ⟨x0, e0, q0⟩ := iO dw h0
 obtain ⟨x1, e1, q1⟩ := G8 h1
 simp at e0 e1
 exact ⟨⟨x0, x1⟩, by rw [e0, e1], Uc q0, q1⟩
theorem Vf {fuel : Nat} {l : List Value} (h : fj Tryz.prog W fuel 122 l) : ∃ x : Inp, l = BF x ∧ x.d.size < 9223372036854775808 := by
 obtain ⟨hl, f', hf⟩ := pj a5D h
 obtain ⟨a, b, c, d, e, rfl⟩ := V3 (hl.trans (by kernel_rfl))
 have h0 := hf _ (Qas ..)
 have h1 := hf _ (Qaf _ (Qas ..))
 have h2 := hf _ (Qaf _ (Qaf _ (Qas ..)))
 have h3 := hf _ (Qaf _ (Qaf _ (Qaf _ (Qas ..))))
 have h4 := hf _ (Qaf _ (Qaf _ (Qaf _ (Qaf _ (Qas ..)))))
 rw [show Tryz.prog.cellsOf 3 = 1 by kernel_rfl] at h0 h1 h2 h3
 rw [show Tryz.prog.cellsOf 9 = 1 by kernel_rfl] at h4
 obtain ⟨x0, e0, _⟩ := iO dw h0
 obtain ⟨x1, e1, _⟩ := iO dw h1
 obtain ⟨x2, e2, _⟩ := iO dw h2
 obtain ⟨x3, e3, _⟩ := iO dw h3
 obtain ⟨x4, e4, q4⟩ := G8 h4
 simp at e0 e1 e2 e3 e4
 exact ⟨⟨x0, x1, x2, x3, x4⟩, by rw [e0, e1, e2, e3, e4], q4⟩
theorem Vg (h : Ty Tryz.prog W 33 v) : ∃ s : Scr, v = .agg (kY s).toArray ∧ ScrOk W s ∧ s.sl.length < 9223372036854775808 := by
 obtain ⟨l, rfl, fuel, hI⟩ := EZ DW h
 obtain ⟨hl, f', hf⟩ := pj DW hI
 obtain ⟨x0, x1, x2, rfl⟩ := BH (hl.trans (by kernel_rfl))
 have h0 := hf _ (Qas ..)
 have h1 := hf _ (Qaf _ (Qas ..))
 have h2 := hf _ (Qaf _ (Qaf _ (Qas ..)))
 rw [show Tryz.prog.cellsOf 29 = 1 by kernel_rfl] at h0
 rw [show Tryz.prog.cellsOf 30 = 1 by kernel_rfl] at h1
 rw [show Tryz.prog.cellsOf 31 = 1 by kernel_rfl] at h2
 obtain ⟨a0, c0, L0, e0, p0, q0, r0, s0⟩ := py (f := vW) (Q := fun x => y8 W x.a 1 (fun x => [wV x]) x.l ∧ x.l.length ≤ x.c ∧ x.c ≤ maxLen ∧ ∀ w ∈ x.l, w < 4294967296) 1 DV (by kernel_rfl) (by decide) (fun fuel r h => Vd h) h0
 obtain ⟨a1, c1, L1, e1, p1, q1, r1, s1⟩ := py (f := vX) (Q := fun x => (-9223372036854775808 ≤ x.at_ ∧ x.at_ < 9223372036854775808) ∧ x.d.size < 9223372036854775808) 2 Lg (by kernel_rfl) (by decide) (fun fuel r h => Ve h) h1
 obtain ⟨a2, c2, L2, e2, p2, q2, r2, s2⟩ := py (f := BF) (Q := fun x => x.d.size < 9223372036854775808) 5 Lh (by kernel_rfl) (by decide) (fun fuel r h => Vf h) h2
 simp at e0 e1 e2
 refine ⟨⟨a0, c0, L0, a1, c1, L1, a2, c2, L2⟩, by rw [e0, e1, e2], ⟨fun A => pz r0, fun x hx A => pz (s0 x hx).1, fun x hx => ?_, fun x hx => (s0 x hx).2.2.2, fun A => pz r1, s1, fun A => pz r2, s2⟩, by show L1.length < _; simp only [maxLen] at q1; omega⟩
 obtain ⟨k1, k2, k3, k4⟩ := s0 x hx
 simp only [maxLen] at k3
 exact ⟨k2, by omega⟩
end
section
structure Ins where
  op : Nat
  d : Nat
  a : Nat
  b : Nat
  im : Int
deriving DecidableEq
def sW (w : Nat) : Int := if w / 262144 < 8192 then ((w / 262144 : Nat) : Int) else ((w / 262144 : Nat) : Int) - 16384
def gr (w : Nat) : Ins := ⟨w % 64, w / 64 % 16, w / 1024 % 16, w / 16384 % 16, sW w⟩
def vY : List Nat := [0, 7, 7, 7, 7, 7, 7, 7, 7, 7, 7, 7, 7, 7, 11, 11, 11, 11, 11, 11, 11, 11, 9, 11, 11, 11, 14, 14, 14, 14, 14, 14, 9, 11, 0, 0, 0, 9, 10, 0, 0, 0]
def mV (op : Nat) : Nat := vY.getD op 0
def pE (op : Nat) : Bool := decide (1 ≤ op ∧ op ≤ 41)
def pF (may : Bool) (n : Nat) : Bool := if may then decide (n < 16) else decide (n = 0)
def eT (op : Nat) (n : Int) : Bool :=
  if op = 18 ∨ op = 19 ∨ op = 20 then decide (0 ≤ n ∧ n ≤ 31)
  else if op = 37 ∨ op = 38 then decide (0 ≤ n ∧ n < 9)
  else if mV op / 8 % 2 = 0 then decide (n = 0)
  else decide (-8192 ≤ n ∧ n ≤ 8191)
def kc (i : Ins) : Bool := pE i.op && pF (mV i.op % 2 != 0) i.d && pF (mV i.op / 2 % 2 != 0) i.a && pF (mV i.op / 4 % 2 != 0) i.b && eT i.op i.im
theorem G9 (w : Nat) : (gr w).op < 64 ∧ (gr w).d < 16 ∧ (gr w).a < 16 ∧ (gr w).b < 16 := by
 grind [gr]
theorem Vh {w : Nat} (h : w < 4294967296) : -8192 ≤ sW w ∧ sW w ≤ 8191 := by
 grind [sW]
theorem yA {i : Ins} (h : kc i = true) : (1 ≤ i.op ∧ i.op ≤ 41) ∧ i.d < 16 ∧ i.a < 16 ∧ i.b < 16 ∧ eT i.op i.im = true := by
 simp only [kc, Qap] at h
 obtain ⟨⟨⟨⟨h1, h2⟩, h3⟩, h4⟩, h5⟩ := h
 have key : ∀ m n, pF m n = true → n < 16 := fun m n q => by
  unfold pF at q
  split at q
  grind
  grind
 exact ⟨Qat h1, key _ _ h2, key _ _ h3, key _ _ h4, h5⟩
def u32 (n : Int) : Nat := (n % 4294967296).toNat
theorem dG (x : Int) : u32 x < 4294967296 := by unfold u32; omega
theorem gQ (x : Int) : IntKind.wrap .u32 x = ((u32 x : Nat) : Int) := by
 simp only [IntKind.wrap, IntKind.bits, IntKind.signed, u32]; simp; omega
theorem BI {n : Nat} (h : n < 4294967296) : u32 (n : Int) = n := by unfold u32; omega
def nE (a : Nat) : Int := IntKind.wrap .i32 (a : Int)
def pG (p : Bool) : Nat := if p then 1 else 0
theorem Ga (p : Bool) : pG p < 4294967296 := by cases p <;> decide
def mc (op a b : Nat) : Nat :=
  if op = 1 then u32 ((a : Int) + b)
  else if op = 2 then u32 ((a : Int) - b)
  else if op = 3 then a &&& b
  else if op = 4 then a ||| b
  else if op = 5 then u32 (rV .u32 (a : Int) (b : Int))
  else if op = 6 then u32 (jC .u32 (a : Int) ((b % 32 : Nat) : Int))
  else if op = 7 then a / 2 ^ (b % 32)
  else if op = 8 then u32 (lv .i32 (nE a) ((b % 32 : Nat) : Int))
  else if op = 9 then pG (decide (nE a < nE b))
  else if op = 10 then pG (decide (a < b))
  else if op = 11 then u32 ((a : Int) * b)
  else if op = 12 then (if b = 0 then 4294967295 else a / b)
  else if b = 0 then a else a % b
theorem lF {p : Prop} [Decidable p] {a b M : Nat} (h1 : p → a < M) (h2 : ¬ p → b < M) : (if p then a else b) < M := by
 grind
theorem yB {op a b : Nat} (ha : a < 4294967296) (hb : b < 4294967296) : mc op a b < 4294967296 := by
 unfold mc
 refine lF (fun _ => dG _) fun _ => lF (fun _ => dG _) fun _ => lF (fun _ => QaR QbE ha) fun _ => lF (fun _ => Nat.or_lt_two_pow (n := 32) ha hb) fun _ => lF (fun _ => dG _) fun _ => lF (fun _ => dG _) fun _ => lF (fun _ => QaR (Qcq _ _) ha) fun _ => lF (fun _ => dG _) fun _ => lF (fun _ => Ga _) fun _ => lF (fun _ => Ga _) fun _ => lF (fun _ => dG _) fun _ => ?_
 refine lF (fun _ => lF (fun _ => by decide) fun _ => QaR (Qcq _ _) ha) fun _ => lF (fun _ => ha) fun _ => QaR (Nat.mod_le _ _) ha
def iR (op : Nat) : Nat := if op = 14 then 1 else if op = 21 then 9 else op - 12
def vZ (op a b : Nat) : Bool :=
  if op = 28 then decide (a = b) else if op = 29 then decide (a ≠ b) else if op = 30 then decide (nE a < nE b) else decide (a < b)
def w0 (im : Int) : Nat := u32 (jC .u32 ((u32 im : Nat) : Int) 18)
def dH (l : List Nat) (i : Nat) : Nat := l.getD i 0
def qQ (l : List Nat) (b : Nat) : Bool := dH l 5 &&& b != 0
def ew (l : List Nat) : Bool := qQ l 4
def sX (l : List Nat) : Bool := dH l 1 != 0 && qQ l 1
def ou (l : List Nat) (s fb tb : Nat) : Nat := if qQ l fb then s ||| tb else s
def ov (l : List Nat) (s f0 t0 f1 t1 : Nat) : Nat := ou l (ou l s f0 t0) f1 t1
def pH (l : List Nat) (pc cause tval : Nat) : List Nat := ((l.set 2 pc).set 3 cause).set 4 tval
def sY (l : List Nat) (pc cause tval : Nat) : List Nat := (pH l pc cause tval).set 5 (ov l 4 1 2 4 8)
def qR (l : List Nat) : List Nat := l.set 5 (ov l (dH l 5 &&& 10) 2 1 8 4)
def qS (l : List Nat) (id clock n : Nat) : Nat := if n = 7 then u32 clock else if n = 8 then id else dH l n
def lG (n v : Nat) : Nat := if n = 0 then v &&& 7937 else if n = 5 then v &&& 15 else v
def kA (l : List Nat) : Bool := dH l 0 &&& 1 != 0
def kB (l : List Nat) : Nat := dH l 0 / 256 &&& 31
structure CsOk (l : List Nat) : Prop where
  len : l.length = 7
  lt : ∀ x ∈ l, x < 4294967296
theorem CsOk.at_ {l : List Nat} (h : CsOk l) (i : Nat) : dH l i < 4294967296 := by
 unfold dH
 rw [Qai]
 cases hq : l[i]? with
 | none => decide
 | some v => exact h.lt v (Qcu hq)
theorem CsOk.set {l : List Nat} (h : CsOk l) (i v : Nat) (hv : v < 4294967296) : CsOk (l.set i v) := ⟨by rw [Qao, h.len], fun x hx => by
 rcases QbZ hx with q | q
 exact h.lt x q
 rw [q]; exact hv⟩
theorem BJ {l : List Nat} {s fb tb : Nat} (hs : s < 4294967296) (ht : tb < 4294967296) : ou l s fb tb < 4294967296 := by
 unfold ou; split
 exact Nat.or_lt_two_pow (n := 32) hs ht
 exact hs
theorem BK {l : List Nat} {s f0 t0 f1 t1 : Nat} (hs : s < 4294967296) (h0 : t0 < 4294967296) (h1 : t1 < 4294967296) : ov l s f0 t0 f1 t1 < 4294967296 := BJ (BJ hs h0) h1
theorem CsOk.trap {l : List Nat} (h : CsOk l) {pc cause tval : Nat} (h1 : pc < 4294967296) (h2 : cause < 4294967296) (h3 : tval < 4294967296) : CsOk (pH l pc cause tval) := ((h.set 2 _ h1).set 3 _ h2).set 4 _ h3
theorem CsOk.enter {l : List Nat} (h : CsOk l) {pc cause tval : Nat} (h1 : pc < 4294967296) (h2 : cause < 4294967296) (h3 : tval < 4294967296) : CsOk (sY l pc cause tval) := (h.trap h1 h2 h3).set 5 _ (BK (by decide) (by decide) (by decide))
theorem CsOk.leave {l : List Nat} (h : CsOk l) : CsOk (qR l) := h.set 5 _ (BK (QaR QbE (h.at_ 5)) (by decide) (by decide))
theorem Vi {n v : Nat} (h : v < 4294967296) : lG n v < 4294967296 := by
 grind [lG, QaR, QbE]
theorem Gb {l : List Nat} {id clock n : Nat} (h : CsOk l) (hi : id < 4) : qS l id clock n < 4294967296 := by
 unfold qS
 split
 exact dG _
 split
 omega
 exact h.at_ n
theorem Vj {l : List Nat} {pc cause tval : Nat} : dH (pH l pc cause tval) 5 = dH l 5 := by
 grind [pH, dH]
theorem Vk {l : List Nat} {pc cause tval b : Nat} : qQ (pH l pc cause tval) b = qQ l b := by unfold qQ; rw [Vj]
theorem Vl {l : List Nat} {pc cause tval s f0 t0 f1 t1 : Nat} : ov (pH l pc cause tval) s f0 t0 f1 t1 = ov l s f0 t0 f1 t1 := by
 grind [ov, ou, Vk]
structure Eff where
  k : Nat
  pc : Nat
  addr : Nat
  width : Nat
  signed : Bool
  d : Nat
  val : Nat
  cause : Nat
  tval : Nat
deriving DecidableEq
structure Cpu where
  rl : List Nat
  pc : Nat
  cs : List Nat
structure RlOk (l : List Nat) : Prop where
  len : l.length = 16
  lt : ∀ x ∈ l, x < 4294967296
def d6 (rl : List Nat) (i : Nat) : Nat := rl.getD i 0
def ow (rl : List Nat) (i v : Nat) : List Nat := if i = 0 then rl else rl.set i v
theorem RlOk.at_ {l : List Nat} (h : RlOk l) (i : Nat) : d6 l i < 4294967296 := by
 unfold d6
 rw [Qai]
 cases hq : l[i]? with
 | none => decide
 | some v => exact h.lt v (Qcu hq)
theorem RlOk.set {l : List Nat} (h : RlOk l) (i v : Nat) (hv : v < 4294967296) : RlOk (ow l i v) := by
 unfold ow; split
 exact h
 exact ⟨by rw [Qao, h.len], fun x hx => by
  rcases QbZ hx with q | q
  exact h.lt x q
  rw [q]; exact hv⟩
structure CpOk (x : Cpu) : Prop where
  r : RlOk x.rl
  pc : x.pc < 4294967296
  cs : CsOk x.cs
def pI (i : Ins) : Nat := u32 (jX .u32 (jX .u32 (jX .u32 (jX .u32 ((i.op : Nat) : Int) (jC .u32 ((i.d : Nat) : Int) 6)) (jC .u32 ((i.a : Nat) : Int) 10)) (jC .u32 ((i.b : Nat) : Int) 14)) (jC .u32 ((u32 i.im : Nat) : Int) 18))
def uA : Eff := ⟨0, 0, 0, 0, false, 0, 0, 0, 0⟩
def df (pc : Nat) : Nat := u32 ((pc : Int) + 4)
def farN (pc : Nat) (im : Int) : Nat := u32 ((pc : Int) + ((u32 (4 * ((u32 im : Nat) : Int)) : Nat) : Int))
def oy (a : Nat) (im : Int) : Nat := u32 ((a : Int) + ((u32 im : Nat) : Int))
abbrev kZ (c t : Nat) : Eff := ⟨3, 0, 0, 0, false, 0, 0, c, t⟩
abbrev l5 (x : Cpu) (pc : Nat) : Eff × Cpu := (⟨0, pc, 0, 0, false, 0, 0, 0, 0⟩, { x with pc := pc })
abbrev jc (i : Ins) (x : Cpu) (v pc : Nat) : Eff × Cpu := l5 { x with rl := ow x.rl i.d v } pc
def md (op : Nat) : Nat := if op = 23 ∨ op = 26 then 4 else 1
def uB (i : Ins) (x : Cpu) : Eff :=
  if oy (d6 x.rl i.a) i.im % md i.op ≠ 0 then kZ 2 (oy (d6 x.rl i.a) i.im)
  else if i.op = 26 ∨ i.op = 27 then ⟨2, df x.pc, oy (d6 x.rl i.a) i.im, md i.op, false, 0, d6 x.rl i.b, 0, 0⟩
  else ⟨1, df x.pc, oy (d6 x.rl i.a) i.im, md i.op, decide (i.op = 24), i.d, 0, 0, 0⟩
def kC (op : Nat) : Bool := decide (op = 35 ∨ op = 36 ∨ op = 37 ∨ op = 38 ∨ op = 39 ∨ op = 40)
def sZ (op : Nat) : Nat := if op = 35 then 4 else if op = 40 then 5 else 6
def oz (id clock : Nat) (i : Ins) (x : Cpu) : Eff × Cpu :=
  if i.op = 34 then (kZ 6 0, x)
  else if i.op = 41 then (kZ 8 x.pc, x)
  else if i.op = 36 then l5 { x with cs := qR x.cs } (dH x.cs 2)
  else if i.op = 37 then jc i x (qS x.cs id clock i.im.toNat) (df x.pc)
  else if i.op = 38 then (if i.im.toNat ≤ 6 then l5 { x with cs := x.cs.set i.im.toNat (lG i.im.toNat (d6 x.rl i.a)) } (df x.pc) else (kZ 1 (pI i), x))
  else (⟨sZ i.op, df x.pc, 0, 0, false, 0, 0, 0, 0⟩, x)
def nF (id clock : Nat) (i : Ins) (x : Cpu) : Eff × Cpu :=
  if i.op ≤ 13 then jc i x (mc i.op (d6 x.rl i.a) (d6 x.rl i.b)) (df x.pc)
  else if i.op ≤ 21 then jc i x (mc (iR i.op) (d6 x.rl i.a) (u32 i.im)) (df x.pc)
  else if i.op = 22 then jc i x (w0 i.im) (df x.pc)
  else if i.op ≤ 27 then (uB i x, x)
  else if i.op ≤ 31 then l5 x (if vZ i.op (d6 x.rl i.a) (d6 x.rl i.b) then farN x.pc i.im else df x.pc)
  else if i.op ≤ 33 then jc i x (df x.pc) (if i.op = 33 then oy (d6 x.rl i.a) i.im else farN x.pc i.im)
  else oz id clock i x
def mW (id clock : Nat) (i : Ins) (x : Cpu) : Eff × Cpu := if kC i.op && !ew x.cs then (kZ 7 (pI i), x) else nF id clock i x
structure EfOk (e : Eff) : Prop where
  pc : e.pc < 4294967296
  addr : e.addr < 4294967296
  val : e.val < 4294967296
  cause : e.cause < 100
  tval : e.tval < 4294967296
  d : e.d < 16
  w : e.width ≤ 4
theorem w4 {k pc addr w d v c t : Nat} {s : Bool} (h1 : pc < 4294967296) (h2 : addr < 4294967296) (h3 : v < 4294967296) (h4 : c < 100) (h5 : t < 4294967296) (h6 : d < 16) (h7 : w ≤ 4) : EfOk ⟨k, pc, addr, w, s, d, v, c, t⟩ := ⟨h1, h2, h3, h4, h5, h6, h7⟩
theorem w5 {c t : Nat} (hc : c < 100) (ht : t < 4294967296) : EfOk (kZ c t) := w4 (by decide) (by decide) (by decide) hc ht (by decide) (by decide)
theorem yC {x : Cpu} {pc : Nat} (h : CpOk x) (hp : pc < 4294967296) : EfOk (l5 x pc).1 ∧ CpOk (l5 x pc).2 := ⟨w4 hp (by decide) (by decide) (by decide) (by decide) (by decide) (by decide), ⟨h.r, hp, h.cs⟩⟩
theorem w6 {i : Ins} {x : Cpu} {v pc : Nat} (h : CpOk x) (hv : v < 4294967296) (hp : pc < 4294967296) : EfOk (jc i x v pc).1 ∧ CpOk (jc i x v pc).2 := yC ⟨h.r.set i.d v hv, h.pc, h.cs⟩ hp
theorem BL (op : Nat) : md op ≤ 4 := by unfold md; split <;> decide
theorem Vm {i : Ins} {x : Cpu} (h : CpOk x) (hi : i.d < 16) : EfOk (uB i x) := by
 unfold uB
 split; · exact w5 (by decide) (dG _)
 split; · exact w4 (dG _) (dG _) (h.r.at_ _) (by decide) (by decide) (by decide) (BL _)
 exact w4 (dG _) (dG _) (by decide) (by decide) (by decide) hi (BL _)
theorem Gc {id clock : Nat} {i : Ins} {x : Cpu} (h : CpOk x) (hd : i.d < 16) (hid : id < 4) : EfOk (mW id clock i x).1 ∧ CpOk (mW id clock i x).2 := by
 unfold mW
 split; · exact ⟨w5 (by decide) (dG _), h⟩
 unfold nF
 split; · exact w6 h (yB (h.r.at_ _) (h.r.at_ _)) (dG _)
 split; · exact w6 h (yB (h.r.at_ _) (dG _)) (dG _)
 split; · exact w6 h (dG _) (dG _)
 split; · exact ⟨Vm h hd, h⟩
 split
 refine yC h ?_
 split <;> exact dG _
 split
 refine w6 h (dG _) ?_
 split <;> exact dG _
 unfold oz
 split; · exact ⟨w5 (by decide) (by decide), h⟩
 split; · exact ⟨w5 (by decide) h.pc, h⟩
 split; · exact yC ⟨h.r, h.pc, h.cs.leave⟩ (h.cs.at_ 2)
 split; · exact w6 h (Gb h.cs hid) (dG _)
 split
 split
 exact yC ⟨h.r, h.pc, h.cs.set _ _ (Vi (h.r.at_ _))⟩ (dG _)
 exact ⟨w5 (by decide) (dG _), h⟩
 exact ⟨w4 (dG _) (by decide) (by decide) (by decide) (by decide) (by decide) (by decide), h⟩
end
section
open Go.RowKit
abbrev ap := List Nat
def lH (x : ap) : List Value := (List.range 64).map (fun i => bV (x.getD i 0))
theorem BM (x : ap) : (lH x).length = 64 := by simp [lH]
theorem Gd {x : ap} (h : x.length = 64) : lH x = cn x := by
 apply Qba
 simp [lH, cn, h]
 grind [cn, lH]
def cB (fr : List ap) : Prop := ∀ x ∈ fr, x.length = 64 ∧ By x
theorem cB.get {fr : List ap} (h : cB fr) {f : Nat} (hf : f < fr.length) : (fr.getD f []).length = 64 ∧ By (fr.getD f []) := by
 have : fr.getD f [] = fr[f] := by grind
 rw [this]; exact h _ (QaL hf)
theorem cB.set {fr : List ap} (h : cB fr) {f : Nat} {y : ap} (hy : y.length = 64 ∧ By y) : cB (fr.set f y) := fun x hx => by
 rcases QbZ hx with h' | rfl
 exact h x h'
 exact hy
theorem BN {fr : List ap} (h : cB fr) {f : Nat} (hf : f < fr.length) : ((fr.flatMap lH).drop (f * 64)).take 64 = cn (fr.getD f []) := by
 have := pn BM fr f [] hf
 rw [Qax] at this
 rw [this, Gd (h _ (QaL hf)).1]; simp [List.getD, hf]
theorem Ge {fr : List ap} {f : Nat} {y : ap} (hf : f < fr.length) (hy : y.length = 64) : d4 (fr.flatMap lH) (f * 64) (cn y) = (fr.set f y).flatMap lH := by
 have := si BM fr f y [] hf
 rw [Qax, Qax, Gd hy] at this
 exact this
theorem Gf (fr : List ap) : (fr.flatMap lH).length = fr.length * 64 := bX BM fr
def fk : ap := List.replicate 64 0
theorem Vn : fk.length = 64 ∧ By fk := ⟨by simp [fk], fun b hb => by have := Qch hb; omega⟩
theorem cB.new (n : Nat) : cB (List.replicate n fk) := fun x hx => by rw [Qch hx]; exact Vn
theorem Gg : ∀ n, (List.replicate n fk).flatMap lH = List.replicate (n * 64) (bV 0)
 | 0 => rfl
 | n + 1 => by
  rw [List.replicate_succ, Qbb, Gg n, QbS, Nat.add_comm, ← List.replicate_append_replicate]
  congr 1
def bj (ps : Nat) (fr : List ap) : HP := chk (fun C => ∃ g, C = [pt ps (a8 [.slice (some ⟨g, 0, none⟩) fr.length fr.length, .bool true] 197), pt g (a8 (fr.flatMap lH) 416)])
section
variable {P : Program} {W0 : World} {N : FSz} {K : Act → World → Prop} {e : aP} {A B R R1 R2 : List HP} {ps g n : Nat} {fr : List ap} {f : FuncId} {args : List Value} {Post : Value → List HP → Prop} {l : List Value}
theorem Vo (h : ∀ g, aZ P W0 f args (pt ps (a8 [.slice (some ⟨g, 0, none⟩) fr.length fr.length, .bool true] 197) :: pt g (a8 (fr.flatMap lH) 416) :: R) Post) : aZ P W0 f args (bj ps fr :: R) Post :=
  nY fun C hC => by obtain ⟨g, rfl⟩ := hC; exact h g
theorem oA [h1 : Tk pt ps A (a8 [.slice (some ⟨g, 0, none⟩) n n, .bool true] 197) R1] [h2 : Tk pt g R1 (a8 l 416) R2] (hl : l = fr.flatMap lH) (hn : n = fr.length) [k : Ent R2 B] : Ent A (bj ps fr :: B) := by
 subst hl; subst hn
 exact (Ent.ofPerm (h1.perm.trans (h2.perm.cons _))).trans ((Ent.cons (Ent.cons k)).trans (dQ (R := B) (C := [_, _]) ⟨g, rfl⟩))
theorem uC [hk : Tk bj ps A fr R] (h : ∀ g, am W0 N K e (pt ps (a8 [.slice (some ⟨g, 0, none⟩) fr.length fr.length, .bool true] 197) :: pt g (a8 (fr.flatMap lH) 416) :: R)) : am W0 N K e A :=
  gJ (r := bj) (b := ps) (mN fun C hC => by obtain ⟨g, rfl⟩ := hC; exact h g)
end
theorem Vp {g off c n : Nat} {l : List Nat} {at_ w : Int} (hl : l.length = n) (hc : aR (az W0 R) g off (cn l)) (hb : By l) (hn : n ≤ c) (h63 : c < 9223372036854775808) : sQ W0 289 [.slice (some ⟨g, off, none⟩) n c, iQ at_, iQ w] R (.tuple #[.int .u32 (oq l at_ w : Nat), iQ (sT l at_ w)]) R := by
 grind [G3]
theorem Vq {g off c n : Nat} {l : List Nat} {i k w : Nat} (hl : l.length = n) (hw : w < 4294967296) (hc : aR (az W0 R) g off (cn l)) (hi : eS n i k = true) (hn : n ≤ 1000000) : sP W0 266 [.slice (some ⟨g, off, none⟩) n c, iQ i, iQ k, .int .u32 w] R (fun v B => ∃ a' c', v = G6 a' n c' ∧ B = osl 5 1 (.slice a' n c') (cn (nD l i k w)) :: R) := by
 grind [V1]
theorem Vr {g off c n : Nat} {l : List Nat} {at_ k : Int} {w : Nat} (hl : l.length = n) (hc : aR (az W0 R) g off (cn l)) (hi : eS n at_ k = false) (hn : n ≤ 1000000) : sQ W0 266 [.slice (some ⟨g, off, none⟩) n c, iQ at_, iQ k, .int .u32 w] R G7 R := by
 grind [V2]
theorem Vs (n : Nat) (h : n ≤ 32) : sP W0 51 [iQ n] R (fun v B => ∃ b, v = .tuple #[pQ b, iQ 0] ∧ B = bj b (List.replicate n fk) :: R) := by
 refine ac func51 ntmps51 ?_
 refine cP rfl rfl rfl (fun g1_3 => ?_) fun g1_3 => ?_
 omega
 refine aw ?_
 refine aA rfl (fun c1 => ?_) fun c1 => ?_
 omega
 refine aw ?_
 refine cW (yi (sz := 64) (by_ := 64) (info := Tryz.t416) a5H (by kernel_rfl) rfl rfl rfl rfl (by decide) rfl rfl rfl rfl (by omega) (by decide)) fun b1 => ?_
 refine aV fun b2 => ?_
 refine aT ?_
 exact ⟨_, ⟨b2, rfl, rfl⟩, oA (Gg n).symm (by simp)⟩
theorem Gh (ps : Nat) (fr : List ap) : sQ W0 159 [pQ ps] (bj ps fr :: R) (.bool false) (bj ps fr :: R) := by
 refine Vo fun g => ?_
 refine ac func159 ntmps159 ?_
 refine cP rfl rfl rfl (fun g1_3 => ?_) fun g1_3 => ?_
 cases g1_3
 refine aw ?_
 refine aa ?_
 exact ⟨_, ⟨by simp [bD], rfl⟩, oA rfl rfl⟩
theorem qT (ps : Nat) (fr : List ap) : sQ W0 97 [pQ ps] (bj ps fr :: R) (iQ (fr.length : Nat)) (bj ps fr :: R) := by
 refine ac func97 ntmps97 ?_
 refine ag (aj call159 (Gh ps fr)) ?_
 refine uC (ps := ps) fun g => ?_
 refine aw ?_
 refine aa ?_
 exact ⟨_, ⟨rfl, rfl⟩, oA rfl rfl⟩
def gx (n : Nat) (f : Int) : Bool := decide (0 ≤ f ∧ f < n)
theorem uD (ps : Nat) (fr : List ap) (f : Int) : sQ W0 265 [pQ ps, iQ f] (bj ps fr :: R) (iQ (if gx fr.length f then 0 else 1)) (bj ps fr :: R) := by
 refine ac func265 ntmps265 ?_
 refine ag (aj call159 (Gh ps fr)) ?_
 refine ah (fun c3 => ?_) fun c3 => ?_
 refine aa ?_
 have hf : gx fr.length f = false := by grind [gx]
 first
   | exact ⟨_, ⟨by simp [bD, hf], rfl⟩, oA rfl rfl⟩
   | exact ⟨_, ⟨by simp [bD, hf], rfl⟩, IO⟩
 refine uC (ps := ps) fun g => ?_
 refine aw ?_
 refine ah (fun c4 => ?_) fun c4 => ?_
 refine aa ?_
 have hf : gx fr.length f = false := by grind [gx]
 first
   | exact ⟨_, ⟨by simp [bD, hf], rfl⟩, oA rfl rfl⟩
   | exact ⟨_, ⟨by simp [bD, hf], rfl⟩, IO⟩
 refine aa ?_
 have hf : gx fr.length f = true := by grind [gx]
 exact ⟨_, ⟨by simp [bD, hf], rfl⟩, oA rfl rfl⟩
def l6 (fr : List ap) (f off w : Int) : Nat := if gx fr.length f then oq (fr.getD f.toNat []) off w else 0
def BO (fr : List ap) (f off w : Int) : Int := if gx fr.length f then sT (fr.getD f.toNat []) off w else 1
theorem qU {n : Nat} {f : Int} (h : gx n f = true) : ∃ i : Nat, f = (i : Int) ∧ i < n := by
 simp only [gx, Qaq] at h
 exact ⟨f.toNat, by omega, by omega⟩
theorem Gi (ps : Nat) (fr : List ap) (f off w : Int) (hF : cB fr) : sQ W0 211 [pQ ps, iQ f, iQ off, iQ w] (bj ps fr :: R) (.tuple #[.int .u32 (l6 fr f off w : Nat), iQ (BO fr f off w)]) (bj ps fr :: R) := by
 by_cases hf : gx fr.length f = true
 obtain ⟨i, rfl, hi⟩ := qU hf
 obtain ⟨hl, hb⟩ := hF.get hi
 refine ac func211 ntmps211 ?_
 refine ag (aj xN (uD ps fr i)) ?_
 refine ah (fun c2 => ?_) fun c2 => ?_
 exact absurd c2 (by simp [hf])
 refine uC (ps := ps) fun g => ?_
 refine aw ?_
 refine a7 (bE hi) ?_
 refine a7 (vN As lT rfl) ?_
 refine ag (ar call289 (Vp hl (cp (BN hF hi) (by rw [jI, hl])) hb (by decide) (by decide))) ?_
 refine aT ?_
 exact ⟨_, ⟨by simp [bD, l6, BO, hf], rfl⟩, oA rfl rfl⟩
 have hf' : gx fr.length f = false := by grind
 refine ac func211 ntmps211 ?_
 refine ag (aj xN (uD ps fr f)) ?_
 refine ah (fun c2 => ?_) fun c2 => ?_
 refine aT ?_
 exact ⟨_, ⟨by simp [bD, l6, BO, hf'], rfl⟩, IO⟩
 exact absurd c2 (by simp [hf'])
def nG (fr : List ap) (f off w : Int) : Bool := gx fr.length f && eS 64 off w
def ie (fr : List ap) (f off w : Int) (v : Nat) : List ap := if nG fr f off w then fr.set f.toNat (nD (fr.getD f.toNat []) off.toNat w.toNat v) else fr
theorem BQ {fr : List ap} {f off w : Int} {v : Nat} (h : cB fr) : cB (ie fr f off w v) := by
 unfold ie; split
 rename_i hs
 simp only [nG, Qap] at hs
 obtain ⟨i, rfl, hi⟩ := qU hs.1
 obtain ⟨o, k, rfl, rfl, hk, hok⟩ := sH hs.2
 obtain ⟨hl, hb⟩ := h.get hi
 exact h.set ⟨by rw [yl (by grind)]; exact hl, Ua hb⟩
 exact h
theorem yD {fr : List ap} {f off w : Int} {v : Nat} : (ie fr f off w v).length = fr.length := by unfold ie; split <;> simp
theorem BR (ps : Nat) (fr : List ap) (f off w : Int) (x : Nat) (hx : x < 4294967296) (hF : cB fr) : sQ W0 172 [pQ ps, iQ f, iQ off, iQ w, .int .u32 x] (bj ps fr :: R) (iQ (if nG fr f off w then 0 else 1)) (bj ps (ie fr f off w x) :: R) := by
 by_cases hf : gx fr.length f = true
 obtain ⟨i, rfl, hi⟩ := qU hf
 obtain ⟨hl, hb⟩ := hF.get hi
 by_cases hin : eS 64 off w = true
 obtain ⟨o, k, rfl, rfl, hk, hok⟩ := sH hin
 have hs : nG fr i o k = true := by grind [nG]
 have hpl : (nD (fr.getD i []) o k x).length = 64 := by grind [yl]
 refine ac LB ntmps172 ?_
 refine ag (aj xN (uD ps fr i)) ?_
 refine ah (fun c2 => ?_) fun c2 => ?_
 exact absurd c2 (by simp [hf])
 refine uC (ps := ps) fun g => ?_
 refine aw ?_
 refine a7 (bE hi) ?_
 refine a7 (vN As lT rfl) ?_
 refine ao rfl (ar call266 (Vq hl hx (cp (BN hF hi) (by rw [jI, hl])) hin (by decide))) ?_
 rintro _ B_ ⟨a', c', rfl, hB_⟩
 obtain rfl := hB_.symm
 refine ab rfl (aW rfl) (ab rfl (jY rfl rfl) (ab rfl (jY rfl rfl) (ab rfl (bq rfl) (ab rfl (bq rfl) (aM (aC (aI (aI (aU (ab rfl (aW rfl) (ab rfl (nW rfl rfl) (aM (aC ?_)))))))))))))
 refine aA rfl (fun c5 => ?_) fun c5 => ?_
 exact absurd c5 (by simp)
 refine au 3 ?_
 refine ny (fun h _ => by have := (Value.slice.inj h).2.1; omega) fun g' n' cap sp h1 h2 h3 h4 h5 => ?_
 cases h1
 refine aw ?_
 refine a7 (bE hi) ?_
 refine a7 (vN As lT rfl) ?_
 refine ag (sB nV lT rfl rfl (m := 64) (vs := cn (nD (fr.getD i []) o k x)) rfl (cp (n := 64) (by grind) (by omega)) (by omega) (Bo _) (by rw [Gf]; omega) (Ge hi hpl)) ?_
 refine aa ?_
 exact ⟨_, ⟨by simp [bD, hs], rfl⟩, oA (by simp [ie, hs]) (by simp [ie, hs])⟩
 have hin' : eS 64 off w = false := by grind
 have hs : nG fr i off w = false := by simp [nG, hin']
 refine ac LB ntmps172 ?_
 refine ag (aj xN (uD ps fr i)) ?_
 refine ah (fun c2 => ?_) fun c2 => ?_
 exact absurd c2 (by simp [hf])
 refine uC (ps := ps) fun g => ?_
 refine aw ?_
 refine a7 (bE hi) ?_
 refine a7 (vN As lT rfl) ?_
 refine ao rfl (ix call266 rfl (Vr hl (cp (BN hF hi) (by rw [jI, hl])) hin' (by decide))) ?_
 rintro _ B_ ⟨rfl, hB_⟩
 obtain rfl := hB_.symm
 refine ab rfl (aW rfl) (ab rfl (jY rfl rfl) (ab rfl (jY rfl rfl) (ab rfl (bq rfl) (ab rfl (bq rfl) (aM (aC (aI (aI (aU (ab rfl (aW rfl) (ab rfl (nW rfl rfl) (aM (aC ?_)))))))))))))
 refine aA rfl (fun c5 => ?_) fun c5 => ?_
 refine au 8 ?_
 refine aa ?_
 exact ⟨_, ⟨by simp [bD, hs], rfl⟩, oA (by simp [ie, hs]) (by simp [ie, hs])⟩
 exact absurd c5 (by simp)
 have hf' : gx fr.length f = false := by grind
 have hs : nG fr f off w = false := by simp [nG, hf']
 refine ac LB ntmps172 ?_
 refine ag (aj xN (uD ps fr f)) ?_
 refine ah (fun c2 => ?_) fun c2 => ?_
 refine aa ?_
 rw [show ie fr f off w x = fr by simp [ie, hs]]
 exact ⟨_, ⟨by simp [bD, hf', hs], rfl⟩, IO⟩
 exact absurd c2 (by simp [hf'])
abbrev Pl := Int × Int
@[reducible] def me (p : Pl) : List Value := [.int .i64 p.1, .int .i64 p.2]
theorem w7 (p : Pl) : (me p).length = 2 := rfl
def kd (pg : List Pl) (n : Nat) : Pl := pg.getD n (0, 0)
def kD (p : Pl) : Bool := decide (0 ≤ p.1 ∧ p.1 < 32 ∧ 1 ≤ p.2 ∧ p.2 ≤ 3)
structure Pgs (pg : List Pl) : Prop where
  len : pg.length = 12
  ok : ∀ n, n < 12 → kd pg n ≠ (0, 0) → kD (kd pg n) = true
def nH (n : Int) : Bool := decide (0 ≤ n ∧ n < 12)
theorem mf {n : Int} (h : nH n = true) : ∃ i : Nat, n = (i : Int) ∧ i < 12 := by
 simp only [nH, Qaq] at h
 exact ⟨n.toNat, by omega, by omega⟩
abbrev bN (pg : List Pl) : Obj := a8 (pg.flatMap me ++ [.bool true]) 299
theorem Gj {pg : List Pl} {sp : List Value} {n : Nat} (hn : n < pg.length) : ((pg.flatMap me ++ sp).drop (n * 2)).take 2 = me (kd pg n) := by
 simp_all [pn, w7, kd]
theorem Vt {pg : List Pl} {sp : List Value} {n : Nat} {p : Pl} (hn : n < pg.length) : d4 (pg.flatMap me ++ sp) (n * 2) (me p) = (pg.set n p).flatMap me ++ sp := si w7 pg n p sp hn
theorem Vu (pg : List Pl) (sp : List Value) : (pg.flatMap me ++ sp).length = pg.length * 2 + sp.length := by rw [Qad, bX w7]
theorem Vv {pg : List Pl} (h : pg.length = 12) : (pg.flatMap me ++ [.bool true])[24]? = some (Value.bool true) := by
 rw [QaU (by rw [bX w7]; omega), bX w7, h]; rfl
theorem Vw : sP W0 103 [] R (fun v B => ∃ b, v = pQ b ∧ B = pt b (bN (List.replicate 12 (0, 0))) :: R) := by
 refine ac func103 ntmps103 ?_
 refine aV fun b1 => ?_
 refine aa ?_
 exact ⟨_, ⟨b1, rfl, rfl⟩, ent_refl⟩
theorem yE (b : Nat) (pg : List Pl) (h : Pgs pg) : sQ W0 267 [pQ b] (pt b (bN pg) :: R) (.bool false) (pt b (bN pg) :: R) := by
 refine ac func267 ntmps267 ?_
 refine cP rfl rfl rfl (fun g1_3 => ?_) fun g1_3 => ?_
 cases g1_3
 refine aw ?_
 refine a7 (aH (aE (Vv h.len))) ?_
 exact aa ai
theorem yF (n : Int) : sQ W0 268 [iQ n] R (.bool (nH n)) R := by
 refine ac func268 ntmps268 ?_
 refine cA (fun g1_3 => ?_) fun g1_3 => ?_
 refine aa ?_
 refine aQ ?_
 refine Qak Value.bool ?_
 rw [Qag]; simp only [nH, Qaq, Qau, Qbq]; omega
 refine aa ?_
 refine aQ ?_
 refine Qak Value.bool ?_
 rw [Qag]; simp only [nH, Qaq, Qau, Qbq]; omega
theorem Vx (p : Pl) : sQ W0 269 [.agg (me p).toArray] R (.bool (kD p)) R := by
 refine ac func269 ntmps269 ?_
 refine aV fun b1 => ?_
 refine cA (fun g1_4 => ?_) fun g1_4 => ?_
 refine cA (fun g1_9 => ?_) fun g1_9 => ?_
 refine cA (fun g1_14 => ?_) fun g1_14 => ?_
 refine aa ?_
 refine aQ ?_
 refine Qak Value.bool ?_
 rw [Qag]; simp only [kD, Qaq, Qau, Qbq]; omega
 refine aa ?_
 refine aQ ?_
 refine Qak Value.bool ?_
 rw [Qag]; simp only [kD, Qaq, Qau, Qbq]; omega
 refine aa ?_
 refine aQ ?_
 refine Qak Value.bool ?_
 rw [Qag]; simp only [kD, Qaq, Qau, Qbq]; omega
 refine aa ?_
 refine aQ ?_
 refine Qak Value.bool ?_
 rw [Qag]; simp only [kD, Qaq, Qau, Qbq]; omega
def aX (pg : List Pl) (n : Int) : Bool := nH n && decide (kd pg n.toNat ≠ (0, 0))
theorem Gk (b : Nat) (pg : List Pl) (h : Pgs pg) (n : Int) : sQ W0 270 [pQ b, iQ n] (pt b (bN pg) :: R) (.bool (aX pg n)) (pt b (bN pg) :: R) := by
 refine ac func270 ntmps270 ?_
 refine ag (ar E9 (yF n)) ?_
 refine cA (fun g1_3 => ?_) fun g1_3 => ?_
 obtain ⟨i, rfl, hi⟩ := mf g1_3
 have hl := h.len
 refine a7 (gK (by omega)) ?_
 refine a7 (bZ (cp (Gj (by omega)) rfl)) ?_
 refine a7 (Ml Tryz.eqGuardType296 rfl rfl (rY a5K Tryz.stoodInHeld296 (kw rfl cy rfl rfl (kv dw) (kw rfl cy rfl rfl (kv dw) rX)))) ?_
 refine aa ?_
 refine aQ ?_
 refine Qak Value.bool ?_
 first
   | (rw [Qag]; simp [aX, g1_3, Prod.ext_iff])
   | simp [aX, g1_3]
 refine aa ?_
 refine aQ ?_
 refine Qak Value.bool ?_
 first
   | (rw [Qag]; simp [aX, g1_3, Prod.ext_iff])
   | simp [aX, g1_3]
def bS (pg : List Pl) (n : Int) : Pl := if aX pg n then kd pg n.toNat else (0, 0)
theorem yG (b : Nat) (pg : List Pl) (h : Pgs pg) (n : Int) : sQ W0 327 [pQ b, iQ n] (pt b (bN pg) :: R) (.tuple #[.agg (me (bS pg n)).toArray, .bool (aX pg n)]) (pt b (bN pg) :: R) := by
 refine ac func327 ntmps327 ?_
 refine bB fun b1 => ?_
 refine dE 1 (aj Ea (yE b pg h)) ?_
 refine cP rfl rfl rfl (fun g1_3 => ?_) fun g1_3 => ?_
 exact absurd g1_3 (by decide)
 refine aw ?_
 refine ag (aj call270 (Gk b pg h n)) ?_
 refine ah (fun c1 => ?_) fun c1 => ?_
 refine aB aD ?_
 refine bH (.cons (bM KI KS rfl rfl) (.cons (bP rfl) .nil)) ?_
 refine aQ ?_
 have ht : aX pg n = false := by grind
 simp [bD, bS, ht]
 have ht : aX pg n = true := by grind
 have hp : nH n = true := by grind [aX]
 obtain ⟨i, rfl, hi⟩ := mf hp
 have hl := h.len
 refine a7 (gK (by omega)) ?_
 refine a7 (bZ (cp (Gj (by omega)) rfl)) ?_
 refine aB aD ?_
 refine bH (.cons (bM KI KS rfl rfl) (.cons (bP rfl) .nil)) ?_
 refine aQ ?_
 simp [bD, bS, ht]
def iB (pg : List Pl) (n : Int) (p : Pl) : Int := if nH n ∧ kD p then (if aX pg n then 5 else 0) else 1
def fG (pg : List Pl) (n : Int) (p : Pl) : List Pl := if iB pg n p = 0 then pg.set n.toNat p else pg
theorem yH {pg : List Pl} {n : Int} {p : Pl} (h : Pgs pg) : Pgs (fG pg n p) := by
 unfold fG; split
 rename_i hs
 have hop : kD p = true := by
  grind [iB]
 refine ⟨by simp [h.len], fun m hm hne => ?_⟩
 unfold kd at hne ⊢
 by_cases e : n.toNat = m
 grind
 simp only [Qai, QaT e] at hne ⊢
 have := h.ok m hm
 unfold kd at this
 simp only [Qai] at this
 exact this hne
 exact h
theorem Gl (b : Nat) (pg : List Pl) (h : Pgs pg) (n : Int) (p : Pl) : sQ W0 173 [pQ b, iQ n, .agg (me p).toArray] (pt b (bN pg) :: R) (iQ (iB pg n p)) (pt b (bN (fG pg n p)) :: R) := by
 have hl := h.len
 refine ac func173 ntmps173 ?_
 refine aV fun b1 => ?_
 refine ag (aj Ea (yE b pg h)) ?_
 refine ag (ar E9 (yF n)) ?_
 refine ah (fun c3 => ?_) fun c3 => ?_
 refine aa ?_
 have he : iB pg n p = 1 := by
  grind [iB]
 exact ⟨_, ⟨by simp [bD, he], by rw [fG, he, Qab (by decide)]⟩, IO⟩
 have hp : nH n = true := by grind
 refine ag (ar call269 (Vx p)) ?_
 refine ah (fun c4 => ?_) fun c4 => ?_
 refine aa ?_
 have he : iB pg n p = 1 := by
  grind [iB]
 exact ⟨_, ⟨by simp [bD, he], by rw [fG, he, Qab (by decide)]⟩, IO⟩
 have ho : kD p = true := by grind
 refine ag (aj call270 (Gk b pg h n)) ?_
 refine ah (fun c6 => ?_) fun c6 => ?_
 refine aa ?_
 have he : iB pg n p = 5 := by
  grind [iB]
 exact ⟨_, ⟨by simp [bD, he], by rw [fG, he, Qab (by decide)]⟩, IO⟩
 have ht : aX pg n = false := by grind
 have he : iB pg n p = 0 := by grind [iB]
 obtain ⟨i, rfl, hi⟩ := mf hp
 refine bu [b1] 7 fun hS => ?_
 refine ae 0 5 hS ?_
 refine ax 5 hS (gK hi) ?_
 refine bG 6 (iP (by grind [Vu]) (Vt (by omega))) fun hS => ?_
 refine aK ?_
 refine aa ?_
 rw [show fG pg i p = pg.set i p by simp [fG, he]]
 exact ⟨_, ⟨by simp [bD, he], rfl⟩, IO⟩
theorem Vy (b : Nat) (pg : List Pl) (h : Pgs pg) : sQ W0 176 [pQ b, iQ 12] (pt b (bN pg) :: R) (iQ 1) (pt b (bN pg) :: R) := by
 refine ac func176 ntmps176 ?_
 refine ag (aj Ea (yE b pg h)) ?_
 refine ag (ar E9 (yF 12)) ?_
 refine ah (fun c3 => ?_) fun c3 => ?_
 exact aa ai
 exact absurd c3 (by decide)
def qV (n : Int) (p : Pl) (kind : Int) : Bool := decide (kind = 0 ∧ n < 8 ∨ kind = 1 ∧ p.2 % 2 = 1 ∨ kind = 2 ∧ 2 ≤ p.2)
theorem Vz {p : Pl} : kD p = true ↔ 0 ≤ p.1 ∧ p.1 < 32 ∧ 1 ≤ p.2 ∧ p.2 ≤ 3 := by simp [kD]
theorem VA {r : Int} (h : 1 ≤ r ∧ r ≤ 3) : fi .i64 r 1 = r % 2 := by
 have : r = 1 ∨ r = 2 ∨ r = 3 := by omega
 rcases this with rfl | rfl | rfl <;> decide
theorem VB {r : Int} (h : 1 ≤ r ∧ r ≤ 3) : fi .i64 r 2 = r / 2 * 2 := by
 have : r = 1 ∨ r = 2 ∨ r = 3 := by omega
 rcases this with rfl | rfl | rfl <;> decide
theorem VC (n : Int) (p : Pl) (hp : kD p = true) (kind : Int) : sQ W0 439 [iQ n, .agg (me p).toArray, iQ kind] R (.bool (qV n p kind)) R := by
 have ho := Vz.1 hp
 refine ac func439 ntmps439 ?_
 refine aV fun b1 => ?_
 refine ah (fun c2 => ?_) fun c2 => ?_
 refine aa ?_
 refine aQ ?_
 refine Qak Value.bool ?_
 rw [Qag]; simp only [qV, Qaq, Qau, Qbq, Qcw]; omega
 refine ah (fun c4 => ?_) fun c4 => ?_
 refine a7 (fD rfl rfl (VA ⟨ho.2.2.1, ho.2.2.2⟩)) ?_
 refine aa ?_
 refine aQ ?_
 refine Qak Value.bool ?_
 rw [Qag]; simp only [qV, Qaq, Qau, Qbq, Qcw]; omega
 refine ah (fun c6 => ?_) fun c6 => ?_
 refine a7 (fD rfl rfl (VB ⟨ho.2.2.1, ho.2.2.2⟩)) ?_
 refine aa ?_
 refine aQ ?_
 refine Qak Value.bool ?_
 rw [Qag]; simp only [qV, Qaq, Qau, Qbq, Qcw]; omega
 refine aa ?_
 refine aQ ?_
 refine Qak Value.bool ?_
 rw [Qag]; simp only [qV, Qaq, Qau, Qbq, Qcw]; omega
def ig (pg : List Pl) (n kind : Int) : Int := if aX pg n then (if qV n (kd pg n.toNat) kind then 0 else 6) else 7
theorem VD {pg : List Pl} {n : Int} (h : Pgs pg) (ht : aX pg n = true) : kD (bS pg n) = true := by
 simp only [bS, ht, QbH]
 simp only [aX, Qap, Qaq] at ht
 obtain ⟨i, rfl, hi⟩ := mf ht.1
 exact h.ok _ (by omega) ht.2
theorem Gm (b : Nat) (pg : List Pl) (h : Pgs pg) (n kind : Int) : sQ W0 392 [pQ b, iQ n, iQ kind] (pt b (bN pg) :: R) (iQ (ig pg n kind)) (pt b (bN pg) :: R) := by
 refine ac func392 ntmps392 ?_
 refine ag (aj Eb (yG b pg h n)) ?_
 refine bB fun b1 => ?_
 refine aB aD ?_
 refine ah (fun c2 => ?_) fun c2 => ?_
 refine aa ?_
 refine aQ ?_
 have ht : aX pg n = false := by grind
 simp [bD, ig, ht]
 have ht : aX pg n = true := by grind
 refine ag (ar call439 (VC n (bS pg n) (VD h ht) kind)) ?_
 refine ah (fun c4 => ?_) fun c4 => ?_
 refine aa ?_
 refine aQ ?_
 have hm : qV n (kd pg n.toNat) kind = false := by grind [bS]
 simp [bD, ig, ht, hm]
 refine aa ?_
 refine aQ ?_
 have hm : qV n (kd pg n.toNat) kind = true := by grind [bS]
 simp [bD, ig, ht, hm]
end
section
class Hk (α : Type) extends Inhabited α where
  ky : α → Int
namespace Hp
variable {α : Type} [Hk α]
def us (l : List α) (i : Nat) : Int := Hk.ky (l.getD i default)
theorem us_eq {l : List α} {i : Nat} (h : i < l.length) : us l i = Hk.ky l[i] := by simp [us, List.getD, h]
def swapL (l : List α) (i j : Nat) : List α := (l.set i (l.getD j default)).set j (l.getD i default)
theorem w8 (l : List α) (i j : Nat) : (swapL l i j).length = l.length := by simp [swapL]
theorem pJ {l : List α} {i j : Nat} (hi : i < l.length) (hj : j < l.length) (x : Nat) : (swapL l i j).getD x default = if x = i then l.getD j default else if x = j then l.getD i default else l.getD x default := by
 grind [swapL]
theorem jq {l : List α} {i j : Nat} (hi : i < l.length) (hj : j < l.length) (x : Nat) : us (swapL l i j) x = if x = i then us l j else if x = j then us l i else us l x := by
 grind [us, pJ]
theorem BS {β : Type} : ∀ (l : List β) (i j : Nat) (hi : i < l.length) (hj : j < l.length), ((l.set i l[j]).set j l[i]).Perm l := by
 grind [List.set_set_perm]
theorem ke {l : List α} {i j : Nat} (hi : i < l.length) (hj : j < l.length) : (swapL l i j).Perm l := by
 grind [BS, swapL]
def Heap (l : List α) (n : Nat) : Prop := ∀ c, c < n → 0 < c → us l ((c - 1) / 2) ≤ us l c
def iC (l : List α) (i n : Nat) : Prop := ∀ c, c < n → 0 < c → (c ≠ i → (c - 1) / 2 ≠ i → us l ((c - 1) / 2) ≤ us l c) ∧ ((c - 1) / 2 = i → 0 < i → us l ((i - 1) / 2) ≤ us l c)
def Up (l : List α) (j n : Nat) : Prop := ∀ c, c < n → 0 < c → (c ≠ j → us l ((c - 1) / 2) ≤ us l c) ∧ ((c - 1) / 2 = j → 0 < j → us l ((j - 1) / 2) ≤ us l c)
theorem BU {l : List α} {i j n : Nat} (h : iC l i n) (hn : n ≤ l.length) (hj : j < n) (hc : (j - 1) / 2 = i) (h0 : 0 < j) (hlt : us l j < us l i)
    (hmin : ∀ c, c < n → 0 < c → (c - 1) / 2 = i → us l j ≤ us l c) : iC (swapL l i j) j n ∧ us (swapL l i j) ((j - 1) / 2) ≤ us (swapL l i j) j := by
 have hij : i < j := by omega
 have sw := jq (l := l) (i := i) (j := j) (by omega) (by omega)
 refine ⟨fun c hcn hc0 => ⟨fun h1 h2 => ?_, fun h1 h2 => ?_⟩, ?_⟩
 rw [sw, sw]
 by_cases e1 : c = i
 subst e1
 have := (h j hj h0).2 hc (by omega)
 rw [Qab (by omega), Qab (by omega), Qae rfl]; exact this
 by_cases e2 : (c - 1) / 2 = i
 grind
 rw [Qab e2, Qab h2, Qab e1, Qab h1]; exact (h c hcn hc0).1 e1 e2
 rw [hc, sw, sw, Qae rfl, Qab (by omega), Qab (by omega)]
 rw [← h1]; exact (h c hcn hc0).1 (by omega) (by omega)
 grind
theorem w9 {l : List α} {i n : Nat} (h : iC l i n) (hmin : ∀ c, c < n → 0 < c → (c - 1) / 2 = i → us l i ≤ us l c) (hp : 0 < i → us l ((i - 1) / 2) ≤ us l i) : Heap l n := fun c hc h0 => by
 by_cases e1 : (c - 1) / 2 = i
 grind
 by_cases e2 : c = i
 grind
 exact (h c hc h0).1 e2 e1
theorem yI {l : List α} {i n : Nat} (h : iC l i n) (hmin : ∀ c, c < n → 0 < c → (c - 1) / 2 = i → us l i ≤ us l c) : Up l i n := fun c hc h0 => ⟨fun e => by
 by_cases e1 : (c - 1) / 2 = i
 grind
 exact (h c hc h0).1 e e1, (h c hc h0).2⟩
theorem BV {l : List α} {j n : Nat} (h : Up l j n) (hn : n ≤ l.length) (hj : j < n) (h0 : 0 < j) (hlt : us l j < us l ((j - 1) / 2)) : Up (swapL l ((j - 1) / 2) j) ((j - 1) / 2) n := by
 have sw := jq (l := l) (i := (j - 1) / 2) (j := j) (by omega) (by omega)
 intro c hc hc0
 refine ⟨fun h1 => ?_, fun h1 h2 => ?_⟩
 rw [sw, sw]
 by_cases e1 : c = j
 omega
 by_cases e2 : (c - 1) / 2 = (j - 1) / 2
 rw [Qae e2, Qab (by omega), Qab e1]
 have := (h c hc hc0).1 e1; rw [e2] at this; omega
 by_cases e3 : (c - 1) / 2 = j
 rw [Qab e2, Qae e3, Qab h1, Qab e1]; exact (h c hc hc0).2 e3 h0
 rw [Qab e2, Qab e3, Qab h1, Qab e1]; exact (h c hc hc0).1 e1
 rw [sw, sw, Qab (by omega), Qab (by omega)]
 have hp := (h ((j - 1) / 2) (by omega) h2).1 (by omega)
 by_cases e1 : c = j
 omega
 rw [Qab (by omega), Qab e1]
 have := (h c hc hc0).1 e1; rw [h1] at this; omega
theorem wa {l : List α} {j n : Nat} (h : Up l j n) (hp : 0 < j → us l ((j - 1) / 2) ≤ us l j) : Heap l n := fun c hc h0 => by
 by_cases e : c = j
 grind
 exact (h c hc h0).1 e
theorem heap_min {l : List α} {n : Nat} (h : Heap l n) : ∀ c, c < n → us l 0 ≤ us l c := by
 intro c
 induction c using Nat.strongRecOn with
 | _ c ih =>
  intro hc
  by_cases h0 : c = 0
  grind
  have := h c hc (by omega)
  have := ih ((c - 1) / 2) (by omega) (by omega)
  omega
theorem BW {l : List α} {i : Nat} {x : α} {n : Nat} (h : Heap l n) (hi : i < l.length) : iC (l.set i x) i n := fun c hc h0 => by
 have e : ∀ y, y ≠ i → us (l.set i x) y = us l y := fun y hy => by
  unfold us; simp only [Qai]; rw [QaT (by omega)]
 refine ⟨fun h1 h2 => ?_, fun h1 h2 => ?_⟩
 rw [e _ h1, e _ h2]; exact h c hc h0
 rw [e _ (by omega), e _ (by omega)]
 have k1 := h c hc h0
 have k2 := h i (by omega) h2
 rw [h1] at k1; omega
theorem wc {l l' : List α} {n : Nat} (h : ∀ i, i < n → l.getD i default = l'.getD i default) {i : Nat} (hi : i < n) : us l i = us l' i := by unfold us; rw [h i hi]
theorem BX {l l' : List α} {n : Nat} (h : ∀ i, i < n → l.getD i default = l'.getD i default) (k : Heap l n) : Heap l' n := fun c hc h0 => by
 rw [← wc h hc, ← wc h (i := (c - 1) / 2) (by omega)]; exact k c hc h0
theorem BY {l : List α} {n m : Nat} (h : Heap l n) (k : m ≤ n) : Heap l m := fun c hc h0 => h c (by omega) h0
structure Down (its l : List α) (i0 n : Nat) (moved : Bool) : Prop where
  perm : l.Perm its
  tail : ∀ x, n ≤ x → l.getD x default = its.getD x default
  no : moved = false → l = its ∧ ∀ c, c < n → 0 < c → (c - 1) / 2 = i0 → us its i0 ≤ us its c
  yes : moved = true → Heap l n
theorem wd {l its : List α} {i i0 n : Nat} (hp : l.Perm its) (hi : i0 ≤ i) (hH : iC l i n) (ht : ∀ x, n ≤ x → l.getD x default = its.getD x default) (h0 : i = i0 → l = its)
    (hg : i0 < i → us l ((i - 1) / 2) ≤ us l i) (hmin : ∀ c, c < n → 0 < c → (c - 1) / 2 = i → us l i ≤ us l c) : Down its l i0 n (decide (i0 < i)) :=
  ⟨hp, ht, fun h => by
 have : i = i0 := by grind
 subst this
 obtain rfl := h0 rfl
 exact ⟨rfl, hmin⟩, fun h => by
 have : i0 < i := by simpa using h
 exact w9 hH hmin fun _ => hg this⟩
theorem we {l l0 : List α} {i j n : Nat} (hi : i < n) (hj : j < n) (hn : n ≤ l.length) (h : ∀ x, n ≤ x → l.getD x default = l0.getD x default) : ∀ x, n ≤ x → (swapL l i j).getD x default = l0.getD x default := fun x hx => by
 rw [pJ (by omega) (by omega), Qab (by omega), Qab (by omega)]; exact h x hx
end Hp
instance a7J : Hk Nat := { ky := fun n => (n : Int) }
abbrev Po := List (Int × Bool)
def cr (po : Po) (f : Nat) : Int × Bool := po.getD f (-1, true)
def bQ (po : Po) (w : Nat) : List Nat := (List.range po.length).filter fun f => cr po f == ((w : Int), false)
theorem kf {po : Po} {f : Nat} {x : Int × Bool} (hf : f < po.length) (g : Nat) : cr (po.set f x) g = if g = f then x else cr po g := by
 grind [cr]
theorem mg {po : Po} {w f : Nat} : f ∈ bQ po w ↔ f < po.length ∧ cr po f = ((w : Int), false) := by
 grind [bQ]
theorem BZ (po : Po) (w : Nat) : (bQ po w).Pairwise (· < ·) := List.pairwise_lt_range.filter _
theorem Gn (po : Po) (w : Nat) : (bQ po w).Nodup := (BZ po w).imp (fun h e => by omega)
theorem VE {po : Po} {w : Nat} {l : List Nat} (hn : l.Nodup) (h : ∀ f, f ∈ l ↔ f < po.length ∧ cr po f = ((w : Int), false)) : l.Perm (bQ po w) :=
  (List.perm_ext_iff_of_nodup hn (Gn po w)).2 fun f => by rw [h, mg]
theorem VF {po : Po} {f : Nat} {u : Int} (hf : f < po.length) (w : Nat) : bQ (po.set f (u, true)) w = (bQ po w).filter (· != f) := by
 simp only [bQ, Qao, List.filter_filter]
 apply Qct
 intro g _
 rw [kf hf]
 by_cases h : g = f
 subst h; simp
 simp [h]
theorem VG {po : Po} {f : Nat} {w : Nat} (hf : f < po.length) (h : cr po f ≠ ((w : Int), false)) : (bQ po w ++ [f]).Perm (bQ (po.set f ((w : Int), false)) w) := by
 refine VE ?_ fun g => ?_
 rw [Qbv]
 refine ⟨Gn po w, by simp, fun a ha b hb e => ?_⟩
 rw [Qcl] at hb; subst hb; subst e
 exact h (mg.1 ha).2
 rw [Qbg, Qcl, mg, Qao, kf hf]
 by_cases e : g = f
 grind
 simp [e]
theorem Gr {po : Po} {f : Nat} {x : Int × Bool} {w : Nat} (hf : f < po.length) (h1 : cr po f ≠ ((w : Int), false)) (h2 : x ≠ ((w : Int), false)) : bQ (po.set f x) w = bQ po w := by
 simp only [bQ, Qao]
 apply Qct
 intro g _
 rw [kf hf]
 by_cases h : g = f
 grind
 rw [Qab h]
theorem C0 {po : Po} {w x : Nat} {l : List Nat} (hp : (l ++ [x]).Perm (bQ po w)) (hm : ∀ y ∈ bQ po w, x ≤ y) : bQ po w = x :: bQ (po.set x ((w : Int), true)) w := by
 have hx : x ∈ bQ po w := hp.mem_iff.1 (by simp)
 have hs := BZ po w
 rw [VF (mg.1 hx).1]
 generalize bQ po w = m at hx hm hs
 cases m with
 | nil => cases hx
 | cons y t =>
  rw [QbL] at hs
  have : x = y := by
   rcases QaN.1 hx with e | e
   exact e
   have := hs.1 x e
   have := hm y (by simp)
   omega
  subst this
  congr 1
  rw [List.filter_cons, Qab (by simp)]
  refine (Qbn.2 fun z hz => ?_).symm
  have := hs.1 z hz
  simp; omega
theorem VH {po : Po} {w x : Nat} {l : List Nat} (hp : (l ++ [x]).Perm (bQ po w)) (hm : ∀ y ∈ bQ po w, x ≤ y) : l.Perm (bQ (po.set x ((w : Int), true)) w) := by
 have h := C0 hp hm
 rw [h] at hp
 exact ((QaO (l₁ := [x]) (l₂ := l)).trans hp).cons_inv
structure LsOk (po : Po) (Ls : List (List Nat)) : Prop where
  len : Ls.length = 16
  row : ∀ w, w < 16 → (Ls.getD w []).Perm (bQ po w) ∧ Hp.Heap (Ls.getD w []) (Ls.getD w []).length
structure PoOk (po : Po) : Prop where
  len : po.length ≤ 32
  who : ∀ f, f < po.length → -1 ≤ (cr po f).1 ∧ (cr po f).1 < 16 ∧ ((cr po f).1 = -1 → (cr po f).2 = false)
theorem PoOk.set {po : Po} (h : PoOk po) {f : Nat} {x : Int × Bool} (hf : f < po.length) (h1 : 0 ≤ x.1) (h2 : x.1 < 16) : PoOk (po.set f x) := ⟨by rw [Qao]; exact h.len, fun g hg => by
 rw [Qao] at hg
 rw [kf hf]
 split
 omega
 exact h.who g hg⟩
theorem VI {po : Po} (h : PoOk po) (w : Nat) : (bQ po w).length ≤ 32 := by
 have := QaQ (fun f => cr po f == ((w : Int), false)) (List.range po.length)
 rw [List.length_range] at this
 have := h.len
 unfold bQ; omega
theorem LsOk.rlen {po : Po} {Ls : List (List Nat)} (h : LsOk po Ls) (hp : PoOk po) {w : Nat} (hw : w < 16) : (Ls.getD w []).length ≤ 32 := by
 rw [(h.row w hw).1.length_eq]; exact VI hp w
theorem LsOk.set {po po' : Po} {Ls : List (List Nat)} (h : LsOk po Ls) {w : Nat} (hw : w < 16) {l : List Nat} (h1 : l.Perm (bQ po' w)) (h2 : Hp.Heap l l.length) (h3 : ∀ u, u < 16 → u ≠ w → bQ po' u = bQ po u) : LsOk po' (Ls.set w l) := ⟨by rw [Qao]; exact h.len, fun u hu => by
 have e : (Ls.set w l).getD u [] = if u = w then l else Ls.getD u [] := by
  simp only [Qai, List.getElem?_set]
  by_cases k : w = u
  subst k; simp [h.len, hw]
  grind
 rw [e]
 split
 grind
 rename_i k; rw [h3 u hu k]; exact h.row u hu⟩
theorem LsOk.new (n : Nat) : LsOk (List.replicate n (-1, false)) (List.replicate 16 []) := ⟨by simp, fun w hw => by
 have e : bQ (List.replicate n (-1, false)) w = [] := by
  rw [List.eq_nil_iff_forall_not_mem]
  intro f hf
  have := (mg.1 hf)
  rw [Qbo] at this
  have h2 := this.2
  simp [cr, List.getD, this.1] at h2
 rw [e, show (List.replicate 16 ([] : List Nat)).getD w [] = [] by rw [Qai, List.getElem?_replicate]; split <;> rfl]
 exact ⟨QaC _, fun c hc _ => absurd hc (Qbx _)⟩⟩
structure Im where
  fr : List ap
  po : Po
  pg : List Pl
def kg (f : Nat) : List Nat → Nat → List ap → List ap
 | [], _, fr => fr
 | x :: t, k, fr => kg f t (k + 1) (ie fr f (4 * k : Nat) 4 x)
theorem Gs (f x : Nat) : ∀ (l : List Nat) (k : Nat) (fr : List ap), kg f (l ++ [x]) k fr = ie (kg f l k fr) f (4 * (k + l.length) : Nat) 4 x
 | [], k, fr => by simp [kg]
 | y :: t, k, fr => by
  rw [Qar, kg, kg, Gs f x t (k + 1)]
  congr 3; simp only [QaH]; omega
theorem t2 {f : Nat} : ∀ {l : List Nat} {k : Nat} {fr : List ap}, cB fr → cB (kg f l k fr) ∧ (kg f l k fr).length = fr.length
 | [], _, _, h => ⟨h, rfl⟩
 | x :: t, k, fr, h => by
  obtain ⟨h1, h2⟩ := t2 (f := f) (l := t) (k := k + 1) (BQ (f := f) (off := (4 * k : Nat)) (w := 4) (v := x) h)
  exact ⟨h1, by rw [kg, h2, yD]⟩
def eD (words : List Nat) (i : Nat) : List Nat := (words.drop (16 * i)).take 16
def jd (who : Nat) (words : List Nat) (x : Im) (i : Nat) : Im :=
  match bQ x.po who with
 | f :: _ => ⟨kg f (eD words i) 0 x.fr, x.po.set f ((who : Int), true), fG x.pg i ((f : Int), 3)⟩
 | [] => x
def d7 (who : Nat) (words : List Nat) : Nat → Im → Im
 | 0, x => x
 | n + 1, x => jd who words (d7 who words n x) n
structure ImOk (x : Im) : Prop where
  fr : cB x.fr
  po : PoOk x.po
  pg : Pgs x.pg
  len : x.po.length = x.fr.length
theorem VJ {who i : Nat} {words : List Nat} {x : Im} (h : ImOk x) (hw : who < 16) : ImOk (jd who words x i) := by
 unfold jd
 cases e : bQ x.po who with
 | nil => exact h
 | cons f t =>
  have hf := mg.1 (show f ∈ bQ x.po who by rw [e]; simp)
  obtain ⟨k1, k2⟩ := t2 (f := f) (l := eD words i) (k := 0) h.fr
  exact ⟨k1, h.po.set hf.1 (by simp) (by simp; omega), yH h.pg, by rw [Qao, k2]; exact h.len⟩
theorem uE {who : Nat} {words : List Nat} (hw : who < 16) : ∀ {n : Nat} {x : Im}, ImOk x → ImOk (d7 who words n x)
 | 0, _, h => h
 | n + 1, _, h => VJ (uE hw h) hw
theorem VK {who i : Nat} {words : List Nat} {x : Im} : (bQ (jd who words x i).po who).length = (bQ x.po who).length - 1 := by
 unfold jd
 cases e : bQ x.po who with
 | nil => simp [e]
 | cons f t =>
  have hf := mg.1 (show f ∈ bQ x.po who by rw [e]; simp)
  dsimp only
  have hm : ∀ y ∈ bQ x.po who, f ≤ y := fun y hy => by
   have := BZ x.po who
   rw [e] at hy this
   rw [QbL] at this
   rcases QaN.1 hy with rfl | k
   omega
   grind
  have := C0 (l := t) (by grind) hm
  rw [e] at this
  have := (List.cons.inj this).2
  rw [← this, QaH]; omega
theorem yJ {who : Nat} {words : List Nat} {x : Im} : ∀ n : Nat, (bQ (d7 who words n x).po who).length = (bQ x.po who).length - n
 | 0 => rfl
 | n + 1 => by rw [d7, VK, yJ n]; omega
def qW (pg : List Pl) (n m : Nat) : Prop := ∀ i, n ≤ i → i < m → aX pg (i : Nat) = false
theorem C1 {who : Nat} {words : List Nat} {x : Im} (h : qW x.pg 0 8) (hl : x.pg.length = 12) : ∀ n : Nat, n ≤ 8 → qW (d7 who words n x).pg n 8 ∧ (d7 who words n x).pg.length = 12
 | 0, _ => ⟨h, hl⟩
 | n + 1, hn => by
  obtain ⟨k1, k2⟩ := C1 h hl n (by omega)
  rw [d7]
  generalize d7 who words n x = y at k1 k2
  unfold jd
  cases e : bQ y.po who with
  | nil => exact ⟨fun i h1 h2 => k1 i (by omega) h2, k2⟩
  | cons f t =>
   dsimp only
   refine ⟨fun i h1 h2 => ?_, ?_⟩
   have := k1 i (by omega) h2
   unfold fG
   split
   grind [aX, kd]
   exact this
   grind [fG]
end
section
open Go.RowKit
def l7 (T E : TypeId) (sz : Nat) {α : Type} (f : α → List Value) (o b : Nat) (x : List α × List Value) : HP := chk (fun C => o < x.2.length ∧ ∃ a c, C = [pt b (a8 (x.2.set o (.slice a x.1.length c)) T), osl E sz (.slice a x.1.length c) (x.1.flatMap f)])
theorem d8 {l : List Value} {o : Nat} {v : Value} (h : o < l.length) : (l.set o v)[o]? = some v := by simp [h]
theorem set_set {l : List Value} {o : Nat} {v u : Value} : (l.set o v).set o u = l.set o u := List.set_set ..
section
variable {P : Program} {W0 : World} {N : FSz} {K : Act → World → Prop} {e : aP} {R A B R1 R2 : List HP} {T E : TypeId} {sz o b n : Nat} {α : Type} {f : α → List Value} {its : List α} {cs cs' : List Value} {fn : FuncId} {args : List Value} {Post : Value → List HP → Prop}
theorem oB (h : ∀ a c, o < cs.length → aZ P W0 fn args (pt b (a8 (cs.set o (.slice a its.length c)) T) :: osl E sz (.slice a its.length c) (its.flatMap f) :: R) Post) : aZ P W0 fn args (l7 T E sz f o b (its, cs) :: R) Post :=
  nY fun C hC => by obtain ⟨ho, a, c, rfl⟩ := hC; exact h a c ho
theorem wi [hk : Tk (l7 T E sz f o) b A (its, cs) R] (h : ∀ a c, o < cs.length → am W0 N K e (pt b (a8 (cs.set o (.slice a its.length c)) T) :: osl E sz (.slice a its.length c) (its.flatMap f) :: R)) : am W0 N K e A :=
  gJ (r := l7 T E sz f o) (b := b) (mN fun C hC => by obtain ⟨ho, a, c, rfl⟩ := hC; exact h a c ho)
theorem jr {a : Option Addr} {c : Nat} {xs : List Value} [h1 : Tk pt b A (a8 cs' T) R1] [h2 : Tk (osl E sz) (.slice a n c) R1 xs R2] (hx : xs = its.flatMap f) (hc : cs' = cs.set o (.slice a n c)) (ho : o < cs.length) (hn : n = its.length) [k : Ent R2 B] : Ent A (l7 T E sz f o b (its, cs) :: B) := by
 subst hn; subst hc; subst hx
 exact (Ent.ofPerm (h1.perm.trans (h2.perm.cons _))).trans ((Ent.cons (Ent.cons k)).trans (dQ (R := B) (C := [_, _]) ⟨ho, a, c, rfl⟩))
theorem mh (hf : ∀ x, (f x).length = sz) (h0 : its ≠ []) (hz : 0 < sz) (h : ∀ g c sp, o < cs.length → its.length ≤ c → c ≤ maxLen → (its.flatMap f ++ sp).length = c * sz → aZ P W0 fn args (pt b (a8 (cs.set o (.slice (some ⟨g, 0, none⟩) its.length c)) T) :: pt g (a8 (its.flatMap f ++ sp) E) :: R) Post) : aZ P W0 fn args (l7 T E sz f o b (its, cs) :: R) Post :=
  oB fun a c ho => lZ (List.Perm.swap _ _ _) (vI (fun h1 h2 => by
      have := bX hf its
      rw [h2] at this
      have h3 : its.length = 0 := by
        grind
      exact absurd (QaD h3) h0)
    (fun g n cap sp h1 h2 h3 h4 h5 => by
      cases h1
      exact lZ (List.Perm.swap _ _ _) (h g _ sp ho h2 h3 h5)))
theorem fH {g c : Nat} {xs sp : List Value} [h1 : Tk pt b A (a8 cs' T) R1] [h2 : Tk pt g R1 (a8 (xs ++ sp) E) R2] (hf : ∀ x, (f x).length = sz) (hx : xs = its.flatMap f) (hcs : cs' = cs.set o (.slice (some ⟨g, 0, none⟩) n c)) (ho : o < cs.length) (hn : n = its.length) (hc : n ≤ c) (hm : c ≤ maxLen) (hl : (xs ++ sp).length = c * sz) [k : Ent R2 B] : Ent A (l7 T E sz f o b (its, cs) :: B) := by
 subst hn; subst hx; subst hcs
 have e : Ent R1 (osl E sz (.slice (some ⟨g, 0, none⟩) its.length c) (its.flatMap f) :: B) := gG hc hm (bX hf its) hl
 exact (Ent.ofPerm h1.perm).trans ((Ent.cons e).trans (dQ (R := B) (C := [_, _]) ⟨ho, _, c, rfl⟩))
theorem wj [hk : Tk (l7 T E sz f o) b A (its, cs) R] {i : Nat} {v : Value} (hi : i ≠ o) (h : cs[i]? = some v) : iM (az W0 A) b i v := fun w (hO : Own W0 w A) => by
 obtain ⟨C, ⟨ho, a, c, rfl⟩, hO'⟩ := (hO.tk (r := l7 T E sz f o) (b := b)).chk
 have h1 : Own W0 w (pt b (a8 (cs.set o (.slice a its.length c)) T) :: (osl E sz (.slice a its.length c) (its.flatMap f) :: R)) := hO'
 have h2 : iM (az W0 (pt b (a8 (cs.set o (.slice a its.length c)) T) :: (osl E sz (.slice a its.length c) (its.flatMap f) :: R))) b i v := aE (by grind)
 exact h2 w h1
theorem Gv [hk : Tk (l7 T E sz f o) b A (its, cs) R] {i : Nat} {v : Value} (hi : i ≠ o) (h : cs[i]? = some v) : aR (az W0 A) b i [v] := fun j u hj => by
 match j, hj with
 | 0, hj => rw [← Qbe hj]; exact wj (o := o) (f := f) (T := T) (E := E) (sz := sz) hi h
 | j + 1, hj => cases hj
end
theorem yK {α : Type} (f : α → Value) (l : List α) : (l.flatMap fun x => [f x]) = l.map f := by
 induction l with
 | nil => rfl
 | cons x l ih => rw [Qbb, ih]; rfl
theorem VL {α : Type} {f : α → List Value} {k : Nat} (hf : ∀ x, (f x).length = k) (its : List α) (sp : List Value) (i : Nat) (hi : i < its.length) : i * k + k ≤ (its.flatMap f ++ sp).length := by
 have := Qcv k (show i + 1 ≤ its.length by omega)
 rw [QbS] at this
 rw [Qad, bX hf]; omega
structure HpO (W0 : World) (α : Type) [Hk α] where
  T : TypeId
  p : Value
  el : α → Value
  H : List α → HP
  fL : FuncId
  fE : FuncId
  fS : FuncId
  fU : FuncId
  fO : FuncId
  mL : ∀ w, (method (Tryz.prog.types.size + Made.depth) T p "Len").run Tryz.prog w = .ok (fL, p) w
  mE : ∀ w, (method (Tryz.prog.types.size + Made.depth) T p "Less").run Tryz.prog w = .ok (fE, p) w
  mS : ∀ w, (method (Tryz.prog.types.size + Made.depth) T p "Swap").run Tryz.prog w = .ok (fS, p) w
  mU : ∀ w, (method (Tryz.prog.types.size + Made.depth) T p "Push").run Tryz.prog w = .ok (fU, p) w
  mO : ∀ w, (method (Tryz.prog.types.size + Made.depth) T p "Pop").run Tryz.prog w = .ok (fO, p) w
  cL : ∀ args w, (callFunc fL args).run Tryz.prog w = .ok (.enter fL args) w
  cE : ∀ args w, (callFunc fE args).run Tryz.prog w = .ok (.enter fE args) w
  cS : ∀ args w, (callFunc fS args).run Tryz.prog w = .ok (.enter fS args) w
  cU : ∀ args w, (callFunc fU args).run Tryz.prog w = .ok (.enter fU args) w
  cO : ∀ args w, (callFunc fO args).run Tryz.prog w = .ok (.enter fO args) w
  sL : ∀ R l, aZ Tryz.prog W0 fL [p] (kH 0 (H l) :: R) (fun v B => v = .int .i64 (l.length : Nat) ∧ B = kH 0 (H l) :: R)
  sE : ∀ R l (i j : Nat), i < l.length → j < l.length → aZ Tryz.prog W0 fE [p, .int .i64 i, .int .i64 j] (kH 0 (H l) :: R) (fun v B => v = .bool (decide (Hp.us l i < Hp.us l j)) ∧ B = kH 0 (H l) :: R)
  sS : ∀ R l (i j : Nat), i < l.length → j < l.length → aZ Tryz.prog W0 fS [p, .int .i64 i, .int .i64 j] (kH 0 (H l) :: R) (fun v B => v = .tuple #[] ∧ B = kH 0 (H (Hp.swapL l i j)) :: R)
  sU : ∀ R l x, l.length < 1000 → aZ Tryz.prog W0 fU [p, el x] (kH 0 (H l) :: R) (fun v B => v = .tuple #[] ∧ B = kH 0 (H (l ++ [x])) :: R)
  sO : ∀ R l x, aZ Tryz.prog W0 fO [p] (kH 0 (H (l ++ [x])) :: R) (fun v B => v = el x ∧ B = kH 0 (H l) :: R)
namespace Hp
variable {W0 : World} {α : Type} [Hk α] (o : HpO W0 α)
def iv : Value := .iface o.T o.p
theorem C2 {j : Nat} (h : j < 1000) : IntKind.wrap .i64 (Int.tdiv ((j : Int) - 1) 2) = (((j - 1) / 2 : Nat) : Int) := by
 grind [Int.tdiv_eq_ediv_of_nonneg, bU]
theorem uF (R : List HP) (its : List α) (j n : Nat) (hn : n ≤ its.length) (hN : n < 1000) (hj : j < n) (hU : Up its j n) : sP W0 94 [iv o, iQ j] (kH 0 (o.H its) :: R) (fun v B => v = .tuple #[] ∧ ∃ its', B = kH 0 (o.H its') :: R ∧ its'.Perm its ∧ Heap its' n ∧ ∀ x, n ≤ x → its'.getD x default = its.getD x default) := by
 refine ac func94 ntmps94 ?_
 refine dr (fun X : List α × Nat => X.1.Perm its ∧ X.2 < n ∧ Up X.1 X.2 n ∧ ∀ x, n ≤ x → X.1.getD x default = its.getD x default) (fun X => [(0, iv o), (1, iQ X.2)]) (fun X => kH 0 (o.H X.1) :: R) (fun X => X.2) (its, j) ?_ ?_
 simp_all
 intro ⟨l, j⟩ ⟨hp, hj, hU, ht⟩
 have hlen := hp.length_eq
 simp only at hj hU ht hp hlen ⊢
 refine aw ?_
 refine a7 i6 ?_
 refine a7 (qD rfl rfl (by decide) (C2 (by omega))) ?_
 refine eR (fun g1_4 => ?_) fun g1_4 => ?_
 refine bA (.inr rfl) .nil ?_
 exact ⟨_, ⟨rfl, l, rfl, hp, wa hU (by omega), ht⟩, IO⟩
 refine ag (dY rfl o.mE o.cE rfl (o.sE _ l j ((j - 1) / 2) (by omega) (by omega))) ?_
 refine aA rfl (fun c1 => ?_) fun c1 => ?_
 refine au 5 ?_
 refine bA (.inr rfl) .nil ?_
 exact ⟨_, ⟨rfl, l, rfl, hp, wa hU (by omega), ht⟩, IO⟩
 replace c1 : us l j < us l ((j - 1) / 2) := by omega
 refine aw ?_
 refine ag (dY rfl o.mS o.cS rfl (o.sS _ l ((j - 1) / 2) j (by omega) (by omega))) ?_
 exact cv (swapL l ((j - 1) / 2) j, (j - 1) / 2) (⟨(ke (by omega) (by omega)).trans hp, by show (j - 1) / 2 < n; omega, BV hU (by omega) hj (by omega) c1, we (by omega) hj (by omega) ht⟩)
theorem uG (R : List HP) (its : List α) (i0 n : Nat) (hn : n ≤ its.length) (hN : n < 1000) (hi : i0 ≤ n) (hH : iC its i0 n) : sP W0 187 [iv o, iQ i0, iQ n] (kH 0 (o.H its) :: R) (fun v B => ∃ l m, v = .bool m ∧ B = kH 0 (o.H l) :: R ∧ Down its l i0 n m) := by
 refine ac LC ntmps187 ?_
 refine dr (fun X : List α × Nat => X.1.Perm its ∧ i0 ≤ X.2 ∧ iC X.1 X.2 n ∧ (∀ x, n ≤ x → X.1.getD x default = its.getD x default) ∧ (X.2 = i0 → X.1 = its) ∧ (i0 < X.2 → us X.1 ((X.2 - 1) / 2) ≤ us X.1 X.2) ∧ X.2 ≤ n) (fun X => [(0, iv o), (1, iQ i0), (2, iQ n), (7, iQ X.2)]) (fun X => kH 0 (o.H X.1) :: R) (fun X => n - X.2) (its, i0) ?_ ?_
 simp_all
 intro ⟨l, i⟩ ⟨hp, hi0, hl, ht, he, hg, hin⟩
 have hlen := hp.length_eq
 simp only at hp hi0 hl ht he hg hin hlen ⊢
 refine aw ?_
 refine a7 Ba ?_
 refine a7 (eC (2 * i + 1)) ?_
 refine eR (fun g3_4 => ?_) fun g3_4 => ?_
 refine aa ?_
 refine ⟨_, ⟨l, decide (i0 < i), by simp [bD], rfl, wd hp hi0 hl ht he hg ?_⟩, IO⟩
 first | (intro c hc h0 h1; exfalso; omega) | (intro c hc h0 h1; have := hmin c hc h0 h1; simp at c8; omega)
 refine aA rfl (fun c3 => ?_) fun c3 => ?_
 omega
 refine au 8 ?_
 refine ec (fun j : Nat => (j - 1) / 2 = i ∧ 0 < j ∧ j < n ∧ ∀ c, c < n → 0 < c → (c - 1) / 2 = i → us l j ≤ us l c) (fun j => [(0, iv o), (1, iQ i0), (2, iQ n), (7, iQ i), (9, iQ j)]) (fun j => kH 0 (o.H l) :: R) ?_ ?_
 refine au 3 ?_
 refine a7 (eC (2 * i + 2)) ?_
 refine cA (fun g6_4 => ?_) fun g6_4 => ?_
 refine ag (dY rfl o.mE o.cE rfl (o.sE _ l (2 * i + 2) (2 * i + 1) (by omega) (by omega))) ?_
 refine ah (fun c6 => ?_) fun c6 => ?_
 refine cq (2 * i + 2) ?_
 refine ⟨by omega, by omega, by omega, fun c hc h0 h1 => ?_⟩
 have : c = 2 * i + 1 ∨ c = 2 * i + 2 := by omega
 rcases this with rfl | rfl <;> (first | omega | (simp at c6; omega) | (simp at c3; omega))
 refine cq (2 * i + 1) ?_
 refine ⟨by omega, by omega, by omega, fun c hc h0 h1 => ?_⟩
 have : c = 2 * i + 1 ∨ c = 2 * i + 2 := by omega
 rcases this with rfl | rfl <;> (first | omega | (simp at c6; omega) | (simp at c3; omega))
 refine cq (2 * i + 1) ?_
 refine ⟨by omega, by omega, by omega, fun c hc h0 h1 => ?_⟩
 have : c = 2 * i + 1 ∨ c = 2 * i + 2 := by omega
 rcases this with rfl | rfl <;> (first | omega | (simp at c6; omega) | (simp at c3; omega))
 intro j ⟨hj, hj0, hjn, hmin⟩
 refine aw ?_
 refine ag (dY rfl o.mE o.cE rfl (o.sE _ l j i (by omega) (by omega))) ?_
 refine aA rfl (fun c8 => ?_) fun c8 => ?_
 refine au 15 ?_
 refine aa ?_
 refine ⟨_, ⟨l, decide (i0 < i), by simp [bD], rfl, wd hp hi0 hl ht he hg ?_⟩, IO⟩
 first | (intro c hc h0 h1; exfalso; omega) | (intro c hc h0 h1; have := hmin c hc h0 h1; simp at c8; omega)
 replace c8 : us l j < us l i := by simpa using c8
 refine aw ?_
 refine ag (dY rfl o.mS o.cS rfl (o.sS _ l i j (by omega) (by omega))) ?_
 refine cv (swapL l i j, j) ?_ (hμ := ?_)
 have hs := BU hl (by omega) hjn hj hj0 c8 hmin
 exact ⟨(ke (by omega) (by omega)).trans hp, by show i0 ≤ j; omega, hs.1, we (by omega) hjn (by omega) ht, by show j = i0 → _; omega, fun _ => hs.2, by show j ≤ n; omega⟩
 show n - j < n - i; omega
theorem C3 {its : List α} {x : α} (h : Heap its its.length) : Up (its ++ [x]) its.length (its.length + 1) := by
 have e : ∀ c, c < its.length → us (its ++ [x]) c = us its c := fun c hc => by
  unfold us; simp only [Qai]; rw [QaJ hc]
 intro c hc h0
 refine ⟨fun h1 => ?_, fun h1 h2 => by omega⟩
 rw [e c (by omega), e _ (by omega)]; exact h c (by omega) h0
theorem heapPush_spec (R : List HP) (its : List α) (x : α) (hN : its.length < 900) (hh : Heap its its.length) : sP W0 50 [iv o, o.el x] (kH 0 (o.H its) :: R) (fun v B => v = .tuple #[] ∧ ∃ its', B = kH 0 (o.H its') :: R ∧ its'.Perm (its ++ [x]) ∧ Heap its' its'.length) := by
 have hl : (its ++ [x]).length = its.length + 1 := by simp
 refine ac func50 ntmps50 ?_
 refine ag (dY rfl o.mU o.cU rfl (o.sU _ its x (by omega))) ?_
 refine ag (dY rfl o.mL o.cL rfl (o.sL _ (its ++ [x]))) ?_
 refine a7 (m0 its.length) ?_
 refine ao rfl (aj Av (uF o _ (its ++ [x]) its.length (its.length + 1) (by omega) (by omega) (by omega) (C3 hh))) ?_
 rintro _ _ ⟨rfl, l', rfl, hp, hh', _⟩
 refine aw ?_
 refine bA (.inr rfl) .nil ?_
 exact ⟨_, ⟨rfl, l', rfl, hp, by rw [hp.length_eq, hl]; exact hh'⟩, IO⟩
theorem wm {l : List α} {n : Nat} (h : l.length = n + 1) : ∃ l' x, l = l' ++ [x] ∧ l'.length = n ∧ x = l.getD n default := by
 have hne : l ≠ [] := fun e => by rw [e] at h; simp at h
 refine ⟨l.dropLast, l.getLast hne, (List.dropLast_concat_getLast hne).symm, by simp [h], ?_⟩
 rw [List.getLast_eq_getElem]
 simp [List.getD, h]
theorem wn {l : List α} {x : α} {n : Nat} (h : Heap (l ++ [x]) n) (hn : n ≤ l.length) : Heap l n :=
  BX (fun i hi => by simp only [Qai]; rw [QaJ (by omega)]) h
theorem heapPop_spec (R : List HP) (its : List α) (hN : its.length < 900) (h0 : its ≠ []) (hh : Heap its its.length) : sP W0 117 [iv o] (kH 0 (o.H its) :: R) (fun v B => ∃ x its', v = o.el x ∧ B = kH 0 (o.H its') :: R ∧ (its' ++ [x]).Perm its ∧ Heap its' its'.length ∧ ∀ y ∈ its, Hk.ky x ≤ Hk.ky y) := by
 obtain ⟨n, hn⟩ : ∃ n, its.length = n + 1 := ⟨its.length - 1, by have := Qci.2 h0; omega⟩
 have hs : iC (swapL its 0 n) 0 n := fun c hc h0 => ⟨fun h1 h2 => by
  rw [jq (by omega) (by omega), jq (by omega) (by omega), Qab h2, Qab h1, Qab (by omega), Qab (by omega)]
  exact hh c (by omega) h0, fun _ h => by omega⟩
 have hsl := w8 its 0 n
 refine ac func117 ntmps117 ?_
 refine ag (dY rfl o.mL o.cL rfl (o.sL _ its)) ?_
 refine a7 (m0 n) ?_
 refine ag (dY rfl o.mS o.cS rfl (o.sS _ its 0 n (by omega) (by omega))) ?_
 refine ao rfl (aj xO (uG o _ (swapL its 0 n) 0 n (by omega) (by omega) (by omega) hs)) ?_
 rintro _ _ ⟨l, m, rfl, rfl, hD⟩
 have hll := hD.perm.length_eq
 obtain ⟨l', x, rfl, hl', hx⟩ := wm (l := l) (n := n) (by omega)
 have hx0 : x = its.getD 0 default := by
  rw [hx, hD.tail n (Qaj _), pJ (by omega) (by omega)]; split
  rename_i e; subst e; rfl
  rw [Qae rfl]
 have hp : (l' ++ [x]).Perm its := hD.perm.trans (ke (by omega) (by omega))
 have hH : Heap (l' ++ [x]) n := by
  cases m with
  | true => exact hD.yes rfl
  | false =>
   obtain ⟨e, hmin⟩ := hD.no rfl
   rw [e]; exact w9 hs hmin (fun h => absurd h (by omega))
 refine aw ?_
 refine ag (dY rfl o.mO o.cO rfl (o.sO _ l' x)) ?_
 refine aa ?_
 refine ⟨_, ⟨x, l', rfl, rfl, hp, by rw [hl']; exact wn hH (by omega), fun y hy => ?_⟩, IO⟩
 obtain ⟨c, hc, rfl⟩ := Qbs.1 hy
 have := heap_min hh c hc
 rw [us_eq hc] at this
 rw [hx0]; exact this
end Hp
def sV (s : ByteArray) : Value := .string s
def Gw (l : List ByteArray) : List Value := l.map sV
structure Prt where
  lab : Int
  gu : Int
  l : List ByteArray
instance : Inhabited Prt := ⟨⟨0, 0, []⟩⟩
def yL (p : Value × Prt) : List Value := [.int .i64 p.2.lab, .int .i64 p.2.gu, p.1]
def qX (p : Value × Prt) : HP := osl 9 1 p.1 (Gw p.2.l)
def qY (p : Nat) (ps : List Prt) : HP := chk (fun C => ∃ a c, ∃ vs : List Value, vs.length = ps.length ∧ C = [pt p (a8 [.slice a ps.length c, .bool true] 209), osl 212 3 (.slice a ps.length c) ((vs.zip ps).flatMap yL), kH 2 (aS ((vs.zip ps).map qX))])
section
variable {P : Program} {W0 : World} {N : FSz} {K : Act → World → Prop} {e : aP} {A B R R1 R2 R3 R4 : List HP} {p g n : Nat} {ps : List Prt} {f : FuncId} {args : List Value} {Post : Value → List HP → Prop}
theorem Gx {α : Type} : ∀ (l : List α) (i : Nat) (h : i < l.length), l.Perm (l[i] :: l.eraseIdx i)
 | x :: l, 0, h => by simp
 | x :: l, i + 1, h => by
  simp only [List.getElem_cons_succ, List.eraseIdx_cons_succ]
  exact ((Gx l i (by simpa using h)).cons x).trans (List.Perm.swap _ _ _)
theorem Gy {α : Type} : ∀ (l : List α) (i : Nat) (x : α) (h : i < l.length), (x :: l.eraseIdx i).Perm (l.set i x)
 | y :: l, 0, x, h => by simp
 | y :: l, i + 1, x, h => by
  simp only [List.set_cons_succ, List.eraseIdx_cons_succ]
  exact (List.Perm.swap _ _ _).trans ((Gy l i x (by simpa using h)).cons y)
theorem VM {L : List HP} {i : Nat} (h : i < L.length) : Ent (kH 2 (aS L) :: R) (L[i] :: kH 3 (aS (L.eraseIdx i)) :: R) := by
 refine (kP (A := L) (R := R)).trans ?_
 refine (Ent.ofPerm ((Gx L i h).append_right R)).trans ?_
 exact Ent.cons jB
theorem VN {L : List HP} {i : Nat} {x : HP} (h : i < L.length) : Ent (x :: kH 3 (aS (L.eraseIdx i)) :: R) (kH 2 (aS (L.set i x)) :: R) := by
 refine (Ent.cons kP).trans ?_
 exact (Ent.ofPerm ((Gy L i x h).append_right R)).trans jB
theorem VO {a : Option Addr} {c : Nat} {vs : List Value} [h1 : Tk pt p A (a8 [.slice a n c, .bool true] 209) R1] [h2 : Tk (osl 212 3) (.slice a n c) R1 ((vs.zip ps).flatMap yL) R2] [h3 : Tk kH 2 R2 (aS ((vs.zip ps).map qX)) R3] (hv : vs.length = ps.length) (hn : n = ps.length) [k : Ent R3 B] : Ent A (qY p ps :: B) := by
 subst hn
 have e1 : A.Perm ([pt p (a8 [.slice a ps.length c, .bool true] 209), osl 212 3 (.slice a ps.length c) ((vs.zip ps).flatMap yL), kH 2 (aS ((vs.zip ps).map qX))] ++ R3) := h1.perm.trans ((h2.perm.trans (h3.perm.cons _)).cons _)
 exact (Ent.ofPerm e1).trans ((dQ (R := R3) ⟨a, c, vs, hv, rfl⟩).trans (Ent.cons k))
end
theorem VP {vs : List Value} {i : Nat} {v : Value} (h : vs[i]? = some v) : vs.set i v = vs := by
 have hi : i < vs.length := by
  rcases Qay i vs.length with k | k
  exact k
  rw [QaW k] at h; cases h
 have : vs[i] = v := by simpa [hi] using h
 rw [← this]; exact QbY _
@[reducible] def eE (x : Int × Bool) : List Value := [.int .i64 x.1, .bool x.2]
theorem yM (x : Int × Bool) : (eE x).length = 2 := rfl
@[reducible] def jt (n : Nat) : List Value := [.int .i64 (n : Int)]
theorem lI (n : Nat) : (jt n).length = 1 := rfl
def dL (p : Value × List Nat) : HP := osl 3 1 p.1 (p.2.flatMap jt)
@[reducible] def fI (ps : Nat) (sv : Value) (vs : List Value) : List Value := .pointer (some ⟨ps, 0, none⟩) :: sv :: vs
theorem GA (ps w : Nat) (sv v : Value) (vs : List Value) : (fI ps sv vs).set (2 + w * 1) v = fI ps sv (vs.set w v) := by
 grind
abbrev iD (w : Nat) : Nat → List Nat × List Value → HP := l7 284 3 1 jt (2 + w * 1)
def cZ (pb : Nat) (x : Nat × Po) : HP := chk (fun C => ∃ a c vs Ls, vs.length = 16 ∧ LsOk x.2 Ls ∧ C = [pt pb (a8 (fI x.1 (.slice a x.2.length c) vs) 284), osl 286 2 (.slice a x.2.length c) (x.2.flatMap eE), kH 2 (aS ((vs.zip Ls).map dL))])
theorem GC {F : List HP → Prop} {R B : List HP} (h : ∀ C, F C → Ent (C ++ R) B) : Ent (chk F :: R) B := ⟨fun l hl => by
 obtain ⟨l1, l2, rfl, ⟨C, hC, hs⟩, h2⟩ := hl
 exact (h C hC).out _ (dJ.append.2 ⟨l1, l2, rfl, hs, h2⟩)⟩
section
variable {P : Program} {W0 : World} {N : FSz} {K : Act → World → Prop} {e : aP} {A B R R1 R2 R3 : List HP} {pb ps w n : Nat} {po : Po} {f : FuncId} {args : List Value} {Post : Value → List HP → Prop}
theorem yN [hk : Tk cZ pb A (ps, po) R] (h : ∀ a c vs Ls, vs.length = 16 → LsOk po Ls → am W0 N K e (pt pb (a8 (fI ps (.slice a po.length c) vs) 284) :: osl 286 2 (.slice a po.length c) (po.flatMap eE) :: kH 2 (aS ((vs.zip Ls).map dL)) :: R)) : am W0 N K e A :=
  gJ (r := cZ) (b := pb) (mN fun C hC => by obtain ⟨a, c, vs, Ls, h1, h2, rfl⟩ := hC; exact h a c vs Ls h1 h2)
theorem GD (h : ∀ a c vs Ls, vs.length = 16 → LsOk po Ls → aZ P W0 f args (pt pb (a8 (fI ps (.slice a po.length c) vs) 284) :: osl 286 2 (.slice a po.length c) (po.flatMap eE) :: kH 2 (aS ((vs.zip Ls).map dL)) :: R) Post) : aZ P W0 f args (cZ pb (ps, po) :: R) Post :=
  nY fun C hC => by obtain ⟨a, c, vs, Ls, h1, h2, rfl⟩ := hC; exact h a c vs Ls h1 h2
theorem uH {a : Option Addr} {c : Nat} {vs xs : List Value} {Ls : List (List Nat)} {sv : Value} [h1 : Tk pt pb A (a8 (fI ps sv vs) 284) R1] [h2 : Tk (osl 286 2) sv R1 xs R2] [h3 : Tk kH 2 R2 (aS ((vs.zip Ls).map dL)) R3]
    (hs : sv = .slice a n c) (hv : vs.length = 16) (hL : LsOk po Ls) (hn : n = po.length) (hx : xs = po.flatMap eE) [k : Ent R3 B] : Ent A (cZ pb (ps, po) :: B) := by
 subst hs; subst hn; subst hx
 exact (Ent.ofPerm (h1.perm.trans ((h2.perm.trans (h3.perm.cons _)).cons _))).trans ((Ent.cons (Ent.cons (Ent.cons k))).trans (dQ (R := B) (C := [_, _, _]) ⟨a, c, vs, Ls, hv, hL, rfl⟩))
theorem C4 {sv : Value} {vs : List Value} {Ls : List (List Nat)} (hw : w < 16) (hv : vs.length = 16) (hL : Ls.length = 16) :
    Ent (pt pb (a8 (fI ps sv vs) 284) :: kH 2 (aS ((vs.zip Ls).map dL)) :: R) (iD w pb (Ls.getD w [], fI ps sv vs) :: kH 3 (aS (((vs.zip Ls).map dL).eraseIdx w)) :: R) := by
 have hlen : ((vs.zip Ls).map dL).length = 16 := by simp [hv, hL]
 have hg : ((vs.zip Ls).map dL)[w]'(by omega) = osl 3 1 (vs.getD w undef) ((Ls.getD w []).flatMap jt) := by
  grind [dL]
 have e2 := VM (L := (vs.zip Ls).map dL) (R := R) (i := w) (by omega)
 rw [hg] at e2
 refine (Ent.cons e2).trans ?_
 generalize hvw : vs.getD w undef = v
 have hvs : vs[w]? = some v := by grind
 refine ⟨fun l hl => ?_⟩
 obtain ⟨l1, l2, rfl, h1, l3, l4, rfl, h3, h4⟩ := hl
 have key : ∀ a c, v = .slice a (Ls.getD w []).length c → ∃ l' r, dJ (iD w pb (Ls.getD w [], fI ps sv vs) :: kH 3 (aS (((vs.zip Ls).map dL).eraseIdx w)) :: R) l' ∧ (l1 ++ (l3 ++ l4)).Perm (l' ++ r) := fun a c hva => by
  have hcs : (fI ps sv vs).set (2 + w * 1) (.slice a (Ls.getD w []).length c) = fI ps sv vs := by
   grind [GA, VP]
  refine ⟨(l1 ++ l3) ++ l4, [], ⟨l1 ++ l3, l4, rfl, ⟨_, ⟨by simp [fI, hv]; omega, a, c, rfl⟩, ?_⟩, h4⟩, by simp⟩
  rw [hcs, ← hva]
  exact ⟨l1, l3, rfl, h1, l3, [], by simp, h3, rfl⟩
 rcases id h3 with ⟨k1, k2, _⟩ | ⟨g, n, cap, sp, k1, _, _, k4, _, _⟩
 have hl0 : (Ls.getD w []).length = 0 := by
  have := Qak List.length k2
  rw [bX lI] at this; simpa using this
 exact key none 0 (by rw [k1, hl0])
 have hl0 : (Ls.getD w []).length = n := by rw [bX lI] at k4; omega
 exact key (some ⟨g, 0, none⟩) cap (by rw [k1, hl0])
theorem C5 {a : Option Addr} {c : Nat} {sv : Value} {vs : List Value} {Ls : List (List Nat)} {l : List Nat} {po' : Po} (hw : w < 16) (hv : vs.length = 16) (hs : sv = .slice a n c) (hn : n = po'.length) (hL : Ls.length = 16) (hk : LsOk po' (Ls.set w l)) :
    Ent (iD w pb (l, fI ps sv vs) :: osl 286 2 sv (po'.flatMap eE) :: kH 3 (aS (((vs.zip Ls).map dL).eraseIdx w)) :: R) (cZ pb (ps, po') :: R) := by
 refine GC fun C hC => ?_
 obtain ⟨ho, a2, c2, rfl⟩ := hC
 have hcs : (fI ps sv vs).set (2 + w * 1) (.slice a2 l.length c2) = fI ps sv (vs.set w (.slice a2 l.length c2)) := GA ..
 dsimp only
 rw [hcs]
 have hlen : ((vs.zip Ls).map dL).length = 16 := by simp [hv, hL]
 have hset : ((vs.set w (.slice a2 l.length c2)).zip (Ls.set w l)).map dL = ((vs.zip Ls).map dL).set w (dL (.slice a2 l.length c2, l)) := by
  apply Qba
  simp
  grind
 have e2 : Ent (dL (.slice a2 l.length c2, l) :: kH 3 (aS (((vs.zip Ls).map dL).eraseIdx w)) :: R) (kH 2 (aS (((vs.set w (.slice a2 l.length c2)).zip (Ls.set w l)).map dL)) :: R) := by
  grind [VN]
 refine (Ent.ofPerm ((List.Perm.swap _ _ _).cons _)).trans ?_
 refine (Ent.cons (Ent.cons e2)).trans ?_
 exact uH (vs := vs.set w (.slice a2 l.length c2)) hs (by grind) hk hn rfl
end
theorem GE (po : Po) (sp : List Value) (i j : Nat) (hi : i < po.length) (hj : j < 2) : (po.flatMap eE ++ sp)[i * 2 + j]? = (eE (cr po i))[j]? := by
 simp_all [nv, yM, cr]
theorem VR (po : Po) (sp : List Value) (i : Nat) (v : Int) (hi : i < po.length) : (po.flatMap eE ++ sp).set (i * 2 + 0) (iQ v) = (po.set i (v, (cr po i).2)).flatMap eE ++ sp :=
  qG yM po i 0 _ _ sp hi (by decide) (by grind [cr])
theorem GF (po : Po) (sp : List Value) (i : Nat) (v : Bool) (hi : i < po.length) : (po.flatMap eE ++ sp).set (i * 2 + 1) (.bool v) = (po.set i ((cr po i).1, v)).flatMap eE ++ sp :=
  qG yM po i 1 _ _ sp hi (by decide) (by grind [cr])
theorem qZ (po : Po) : (po.flatMap eE).length = po.length * 2 := bX yM po
abbrev r9 (pb w : Nat) : Value := .pointer (some ⟨pb, 2 + w * 1, none⟩)
theorem t4 {its : List Nat} {sp : List Value} {i : Nat} (hi : i < its.length) : (its.flatMap jt ++ sp)[i * 1]? = some (iQ ((its.getD i default : Nat) : Int)) := by
 have := nv lI its i 0 sp hi (by decide)
 rw [Qcc] at this
 rw [this]; simp [jt, List.getD, hi]
theorem yO {its : List Nat} {sp : List Value} {i x : Nat} (hi : i < its.length) : (its.flatMap jt ++ sp).set (i * 1) (iQ (x : Int)) = (its.set i x).flatMap jt ++ sp := by
 have := qG lI its i 0 (iQ (x : Int)) x sp hi (by decide) (by simp [jt])
 rwa [Qcc] at this
theorem yP {its : List Nat} {sp : List Value} {i : Nat} (hi : i < its.length) : i * 1 + 1 ≤ (its.flatMap jt ++ sp).length := VL lI its sp i hi
theorem C6 (pb w : Nat) (its : List Nat) (cs : List Value) : sQ W0 264 [r9 pb w] (iD w pb (its, cs) :: R) (iQ (its.length : Nat)) (iD w pb (its, cs) :: R) := by
 refine oB fun a c ho => ?_
 refine ac func264 ntmps264 ?_
 refine a7 (aH (aE (d8 ho))) ?_
 refine aa ?_
 exact ⟨_, ⟨rfl, rfl⟩, jr rfl rfl ho rfl⟩
theorem VS (pb w : Nat) (its : List Nat) (cs : List Value) (i k : Nat) (hi : i < its.length) (hk : k < its.length) : sQ W0 551 [r9 pb w, iQ i, iQ k] (iD w pb (its, cs) :: R) (.bool (decide (Hp.us its i < Hp.us its k))) (iD w pb (its, cs) :: R) := by
 refine mh lI (by grind) (by decide) fun g c sp ho h1 h2 h3 => ?_
 refine ac func551 ntmps551 ?_
 refine bu [pb, g] 16 fun hS => ?_
 refine ae 0 3 hS ?_
 refine ax 3 hS (aH (cY (k := 0) rfl (d8 ho))) ?_
 refine ae 4 1 hS ?_
 refine ax 5 hS (bE hi) ?_
 refine ax 6 hS (aH (cY (k := 1) rfl (t4 hi))) ?_
 refine ae 7 3 hS ?_
 refine ax 10 hS (aH (cY (k := 0) rfl (d8 ho))) ?_
 refine ae 11 1 hS ?_
 refine ax 12 hS (bE hk) ?_
 refine ax 13 hS (aH (cY (k := 1) rfl (t4 hk))) ?_
 refine ae 14 2 hS ?_
 refine aK ?_
 refine aa ?_
 exact ⟨_, ⟨rfl, rfl⟩, fH lI rfl rfl ho rfl h1 h2 h3⟩
theorem VT (pb w : Nat) (its : List Nat) (cs : List Value) (i k : Nat) (hi : i < its.length) (hk : k < its.length) : sQ W0 554 [r9 pb w, iQ i, iQ k] (iD w pb (its, cs) :: R) (.tuple #[]) (iD w pb (Hp.swapL its i k, cs) :: R) := by
 refine mh lI (by grind) (by decide) fun g c sp ho h1 h2 h3 => ?_
 refine ac func554 ntmps554 ?_
 refine bu [pb] 28 fun hS => ?_
 refine ae 0 3 hS ?_
 refine ax 3 hS (aH (cY (k := 0) rfl (d8 ho))) ?_
 refine ae 4 4 hS ?_
 refine ax 8 hS (aH (cY (k := 0) rfl (d8 ho))) ?_
 refine ae 9 4 hS ?_
 refine ax 13 hS (aH (cY (k := 0) rfl (d8 ho))) ?_
 refine ae 14 1 hS ?_
 refine ax 15 hS (bE hk) ?_
 refine ae 17 3 hS ?_
 refine ax 20 hS (aH (cY (k := 0) rfl (d8 ho))) ?_
 refine ae 21 1 hS ?_
 refine ax 22 hS (bE hi) ?_
 refine eh (is := [16, 23]) (by kernel_rfl) rfl ⟨?_, ?_, trivial⟩
 refine cT (cV (aH (aE (t4 hk)))) ?_; clear hS
 rintro _ _ ⟨rfl, rfl⟩
 refine ⟨aF, fun hS => ?_⟩
 refine bF 23 (cV (aH (aE (t4 hi)))) fun hS => ?_
 refine ax 24 hS (bE hi) ?_
 refine bG 25 (dF (yP hi) (yO hi)) fun hS => ?_
 refine ax 26 hS (bE hk) ?_
 refine bG 27 (dF (yP (by grind)) (yO (by grind))) fun hS => ?_
 refine aK ?_
 refine bA (.inr rfl) .nil ?_
 exact ⟨_, ⟨rfl, rfl⟩, fH lI rfl rfl ho (by simp [Hp.swapL]) (by omega) h2 (by rw [Qad, bX lI] at h3 ⊢; simpa [Hp.swapL] using h3)⟩
 skip
 refine cT (cV (aH (aE (t4 hi)))) ?_; clear hS
 rintro _ _ ⟨rfl, rfl⟩
 refine ⟨aF, fun hS => ?_⟩
 refine bF 16 (cV (aH (aE (t4 hk)))) fun hS => ?_
 refine ax 24 hS (bE hi) ?_
 refine bG 25 (dF (yP hi) (yO hi)) fun hS => ?_
 refine ax 26 hS (bE hk) ?_
 refine bG 27 (dF (yP (by grind)) (yO (by grind))) fun hS => ?_
 refine aK ?_
 refine bA (.inr rfl) .nil ?_
 exact ⟨_, ⟨rfl, rfl⟩, fH lI rfl rfl ho (by simp [Hp.swapL]) (by omega) h2 (by rw [Qad, bX lI] at h3 ⊢; simpa [Hp.swapL] using h3)⟩
theorem VU (pb w : Nat) (its : List Nat) (x : Nat) (cs : List Value) : sQ W0 552 [r9 pb w] (iD w pb (its ++ [x], cs) :: R) (.iface 3 (iQ (x : Int))) (iD w pb (its, cs) :: R) := by
 refine mh lI (by simp) (by decide) fun g c sp ho h1 h2 h3 => ?_
 have hl : (its ++ [x]).length = its.length + 1 := by simp
 rw [hl] at h1 ⊢
 have hg : (its ++ [x]).getD its.length default = x := by grind
 have he : (its ++ [x]).flatMap jt ++ sp = its.flatMap jt ++ (jt x ++ sp) := by simp
 have hget := t4 (its := its ++ [x]) (sp := sp) (i := its.length) (by omega)
 rw [hg] at hget
 refine ac func552 ntmps552 ?_
 refine a7 (aH (aE (d8 ho))) ?_
 refine a7 (jW rfl rfl (by rw [bU (by simp only [maxLen] at h2; omega)]; omega : IntKind.wrap .i64 (((its.length + 1 : Nat) : Int) - 1) = ((its.length : Nat) : Int))) ?_
 refine a7 (aH (aE (d8 ho))) ?_
 refine a7 (bE (by omega)) ?_
 refine a7 (aH (aE hget)) ?_
 refine a7 (aH (aE (d8 ho))) ?_
 refine a7 (mM fC aO rfl rfl rfl (by omega)) ?_
 refine aB (dF (by rw [Qao]; exact ho) set_set) ?_
 refine aa ?_
 rw [he]
 exact ⟨_, ⟨rfl, rfl⟩, fH (sp := jt x ++ sp) lI rfl rfl ho rfl (by omega) h2 (by rw [← he]; exact h3)⟩
theorem VV (pb w : Nat) (its : List Nat) (x : Nat) (cs : List Value) (hn : its.length < 1000) : sQ W0 553 [r9 pb w, .iface 3 (iQ (x : Int))] (iD w pb (its, cs) :: R) (.tuple #[]) (iD w pb (its ++ [x], cs) :: R) := by
 refine oB fun a c ho => ?_
 have he : its.flatMap jt ++ [Value.int .i64 (x : Int)] = (its ++ [x]).flatMap jt := by simp
 refine ly func553 ntmps553 rfl rfl ?_
 refine bu [] 12 fun hS => ?_
 refine ae 0 4 hS ?_
 refine ae 5 1 hS ?_
 refine ax 6 hS (pr dw (fun _ h => by cases h) rfl) ?_
 refine eh (is := [4, 7]) (by kernel_rfl) rfl ⟨?_, ?_, trivial⟩
 refine cT (cV (aH (aE (d8 ho)))) ?_; clear hS
 rintro _ _ ⟨rfl, rfl⟩
 refine ⟨aF, fun hS => ?_⟩
 refine lw 7 (by kernel_rfl) rfl rfl (kx fC aO lV rfl rfl rfl rfl rfl (by decide) (by decide)) rfl ?_; clear hS
 rintro _ _ ⟨b1, rfl, rfl⟩
 refine ⟨aF, fun hS => ?_⟩
 refine cg 8 (eQ (sz := 1) (by_ := 8) (info := Tryz.t3) fC (by kernel_rfl) rfl rfl rfl rfl (by decide) rfl rfl dW rfl rfl (by simp only [maxLen]; omega) (by omega)) ?_; clear hS
 rintro _ _ ⟨a1, c1, rfl, rfl⟩
 refine ⟨aF, fun hS => ?_⟩
 refine ae 9 2 hS ?_
 refine bG 11 (dF (by grind) set_set) fun hS => ?_
 refine fw ?_
 refine bA (.inr rfl) .nil ?_
 exact ⟨_, ⟨rfl, rfl⟩, jr (its := its ++ [x]) he rfl ho (by simp)⟩
 skip
 refine lx rfl rfl (kx fC aO lV rfl rfl rfl rfl rfl (by decide) (by decide)) rfl ?_; clear hS
 rintro _ _ ⟨b1, rfl, rfl⟩
 refine ⟨aF, fun hS => ?_⟩
 refine bF 4 (cV (aH (aE (d8 ho)))) fun hS => ?_
 refine cg 8 (eQ (sz := 1) (by_ := 8) (info := Tryz.t3) fC (by kernel_rfl) rfl rfl rfl rfl (by decide) rfl rfl dW rfl rfl (by simp only [maxLen]; omega) (by omega)) ?_; clear hS
 rintro _ _ ⟨a1, c1, rfl, rfl⟩
 refine ⟨aF, fun hS => ?_⟩
 refine ae 9 2 hS ?_
 refine bG 11 (dF (by grind) set_set) fun hS => ?_
 refine aK ?_
 refine bA (.inr rfl) .nil ?_
 exact ⟨_, ⟨rfl, rfl⟩, jr (its := its ++ [x]) he rfl ho (by simp)⟩
section
variable (w : World) (a : Addr)
theorem VW : (method (Tryz.prog.types.size + Made.depth) 407 (.pointer (some a)) "Len").run Tryz.prog w = .ok (264, .pointer (some a)) w := by kernel_rfl
theorem VX : (method (Tryz.prog.types.size + Made.depth) 407 (.pointer (some a)) "Less").run Tryz.prog w = .ok (551, .pointer (some a)) w := by kernel_rfl
theorem VY : (method (Tryz.prog.types.size + Made.depth) 407 (.pointer (some a)) "Swap").run Tryz.prog w = .ok (554, .pointer (some a)) w := by kernel_rfl
theorem VZ : (method (Tryz.prog.types.size + Made.depth) 407 (.pointer (some a)) "Push").run Tryz.prog w = .ok (553, .pointer (some a)) w := by kernel_rfl
theorem W2 : (method (Tryz.prog.types.size + Made.depth) 407 (.pointer (some a)) "Pop").run Tryz.prog w = .ok (552, .pointer (some a)) w := by kernel_rfl
end
def GG (W0 : World) (pb w : Nat) (cs : List Value) : HpO W0 Nat where
  T := 407
  p := r9 pb w
  el := fun x => .iface 3 (.int .i64 (x : Int))
  H := fun l => iD w pb (l, cs)
  fL := 264
  fE := 551
  fS := 554
  fU := 553
  fO := 552
  mL := fun u => VW u _
  mE := fun u => VX u _
  mS := fun u => VY u _
  mU := fun u => VZ u _
  mO := fun u => W2 u _
  cL := LD
  cE := call551
  cS := call554
  cU := call553
  cO := call552
  sL := fun R l => C6 pb w l cs
  sE := fun R l i j hi hj => VS pb w l cs i j hi hj
  sS := fun R l i j hi hj => VT pb w l cs i j hi hj
  sU := fun R l x hl => VV pb w l x cs hl
  sO := fun R l x => VU pb w l x cs
theorem W3 (pb w : Nat) (its : List Nat) (x : Nat) (cs : List Value) (hN : its.length < 900) (hh : Hp.Heap its its.length) : sP W0 50 [.iface 407 (r9 pb w), .iface 3 (iQ (x : Int))] (iD w pb (its, cs) :: R) (fun v B => v = .tuple #[] ∧ ∃ its', B = iD w pb (its', cs) :: R ∧ its'.Perm (its ++ [x]) ∧ Hp.Heap its' its'.length) :=
  Hp.heapPush_spec (GG W0 pb w cs) R its x hN hh
theorem W4 (pb w : Nat) (its : List Nat) (cs : List Value) (hN : its.length < 900) (h0 : its ≠ []) (hh : Hp.Heap its its.length) : sP W0 117 [.iface 407 (r9 pb w)] (iD w pb (its, cs) :: R) (fun v B => ∃ x its', v = .iface 3 (iQ ((x : Nat) : Int)) ∧ B = iD w pb (its', cs) :: R ∧ (its' ++ [x]).Perm its ∧ Hp.Heap its' its'.length ∧ ∀ y ∈ its, (x : Int) ≤ (y : Int)) :=
  Hp.heapPop_spec (GG W0 pb w cs) R its hN h0 hh
def W5 (x : Prt) : Nat := if x.gu = -1 then 64 else 4
def GH (ps : List Prt) : Prop := ps.length ≤ 8 ∧ ∀ x ∈ ps, x.l.length ≤ W5 x
abbrev nI := Int × Int
@[reducible] def W6 (x : nI) : List Value := [.int .i64 x.1, .int .i64 x.2]
def l8 (l : List nI) : List Prt := l.map fun x => ⟨x.1, x.2, []⟩
theorem C7 (l : List nI) : (l8 l).length = l.length := by simp [l8]
theorem W7 {l : List nI} (h : l.length ≤ 8) : GH (l8 l) := ⟨by rw [C7]; exact h, fun x hx => by
 obtain ⟨y, _, rfl⟩ := QaS.1 hx
 exact QaE _⟩
def eG : Value := .slice none 0 0
theorem GI {R : List HP} : ∀ l : List nI, Ent R (kH 2 (aS (((List.replicate l.length eG).zip (l8 l)).map qX)) :: R)
 | [] => jB (A := [])
 | x :: l => by
  have ih := GI (R := R) l
  refine ih.trans ?_
  refine (kP (A := ((List.replicate l.length eG).zip (l8 l)).map qX) (R := R)).trans ?_
  refine (dP (E := 9) (sz := 1) (B := ((List.replicate l.length eG).zip (l8 l)).map qX ++ R)).trans ?_
  exact jB (A := qX (eG, ⟨x.1, x.2, []⟩) :: ((List.replicate l.length eG).zip (l8 l)).map qX) (R := R)
theorem W8 (l : List nI) : ((List.replicate l.length eG).zip (l8 l)).flatMap yL = l.flatMap fun x => [iQ x.1, iQ x.2, eG] := by
 induction l with
 | nil => rfl
 | cons x l ih =>
  rw [Qbb, ← ih]
  rfl
theorem W9 (l : List nI) (a : Option Addr) (n c : Nat) (hln : l.length = n) (hn : n ≤ 8) (hs : bK (az W0 R) a 2 W6 l) (hlab : ∀ x ∈ l, i9 x.1 = true) : sP W0 55 [.slice a n c] R (fun v B => ∃ p, v = .tuple #[pQ p, iQ 0] ∧ B = qY p (l8 l) :: R) := by
 subst hln
 refine ac func55 ntmps55 ?_
 refine aA rfl (fun c1 => ?_) fun c1 => ?_
 omega
 refine aw ?_
 refine aV fun p => ?_
 refine fu (fun X : Nat × Option Addr × Nat => X.1 ≤ l.length) (fun X => [(4, pQ p), (12, .slice a l.length c), (13, iQ (l.length : Nat)), (14, iQ X.1)]) (fun X => pt p (a8 [.slice X.2.1 X.1 X.2.2, .bool true] 209) :: osl 212 3 (.slice X.2.1 X.1 X.2.2) ((l.take X.1).flatMap fun x => [iQ x.1, iQ x.2, eG]) :: R) (fun X => l.length - X.1) (0, none, 0) ?_ ?_ ?_ ?_
 exact QaE _
 · repeat (first | exact cI | refine cj rfl ?_)
 exact (Ent.cons (dP (E := 212) (sz := 3)))
 intro ⟨i, a2, c2⟩ hi
 dsimp only at hi ⊢
 refine aw ?_
 refine aA rfl (fun c5 => ?_) fun c5 => ?_
 have hi1 : i < l.length := by omega
 obtain ⟨g, o, rfl, hc⟩ := hs.at_ hi1
 have hlb := hlab _ (QaL hi1)
 have htk : l.take (i + 1) = l.take i ++ [l[i]] := Qam hi1
 refine gC (aC (aI (kQ (aI (aU (ab rfl (bE hi1) ?_))))))
 refine ab rfl (bZ hc.weak) ?_
 refine dR (da a52) fun bx => ?_
 refine eu (gD tY rfl rfl rfl rfl rfl) ?_
 rintro _ _ rfl
 refine aM (aC (aI (aI (aU ?_))))
 refine ab rfl (d3 rfl Lb rfl aO rfl (by first | exact Qac _ | rfl)) ?_
 refine ab rfl (ci cy rfl (aE rfl)) ?_
 refine ao rfl (ar call102 (Fx l[i].1)) ?_
 rintro _ B_ ⟨m, rfl, hm, hB_⟩
 obtain rfl := hB_.symm
 rw [hlb] at hm
 have hm0 : ¬ m < 0 := by simpa using hm
 refine ab rfl (pd rfl rfl) (aM (aC ?_))
 refine aA rfl (fun c7 => ?_) fun c7 => ?_
 exact absurd c7 hm0
 refine gC (aC ?_)
 refine bu [bx] 12 fun hS => ?_
 refine ae 0 4 hS ?_
 refine ae 5 1 hS ?_
 refine ax 6 hS (eg underlying212 LE (aG tY (aG sizeOf210 ee)) (ge rfl tY rfl rfl (Qaa rfl) SetRL.eq ed)) ?_
 refine eh (is := [4, 7]) (by kernel_rfl) rfl ⟨?_, ?_, trivial⟩
 refine cT (cV (aH (aE rfl))) ?_; clear hS
 rintro _ _ ⟨rfl, rfl⟩
 refine ⟨aF, fun hS => ?_⟩
 refine lw 7 (by kernel_rfl) rfl rfl (gH Ec sizeOf212 LE rfl (dX rfl rfl fR) rfl (by decide) (by decide) (by decide)) rfl ?_; clear hS
 rintro _ _ ⟨b3, rfl, rfl⟩
 refine ⟨aF, fun hS => ?_⟩
 refine cg 8 (eQ (sz := 3) (by_ := 40) (info := Tryz.t212) Ec (by kernel_rfl) rfl rfl rfl rfl (by decide) rfl rfl dW rfl rfl (by simp only [maxLen]; omega) (by omega)) ?_; clear hS
 rintro _ _ ⟨a3, c3, rfl, rfl⟩
 refine ⟨aF, fun hS => ?_⟩
 refine ae 9 2 hS ?_
 refine bG 11 dq fun hS => ?_
 refine fw ?_
 refine mI (aC (aU ?_))
 refine ab rfl (dx rfl rfl (by first | exact bU (by omega) | rfl)) ?_
 refine ab rfl (aW rfl) (aM (aC ?_))
 refine cv (i + 1, a3, c3) ?_ (he := ?_)
 omega
 dsimp only
 rw [htk, QaZ]
 show Ent _ (pt p (a8 [.slice a3 (i + 1) c3, .bool true] 209) :: osl 212 3 (.slice a3 (i + 1) c3) (((l.take i).flatMap fun x => [iQ x.1, iQ x.2, eG]) ++ [[iQ l[i].1, iQ l[i].2, .slice none 0 0]].flatten) :: R)
 exact IO
 skip
 refine lx rfl rfl (gH Ec sizeOf212 LE rfl (dX rfl rfl fR) rfl (by decide) (by decide) (by decide)) rfl ?_; clear hS
 rintro _ _ ⟨b3, rfl, rfl⟩
 refine ⟨aF, fun hS => ?_⟩
 refine bF 4 (cV (aH (aE rfl))) fun hS => ?_
 refine cg 8 (eQ (sz := 3) (by_ := 40) (info := Tryz.t212) Ec (by kernel_rfl) rfl rfl rfl rfl (by decide) rfl rfl dW rfl rfl (by simp only [maxLen]; omega) (by omega)) ?_; clear hS
 rintro _ _ ⟨a3, c3, rfl, rfl⟩
 refine ⟨aF, fun hS => ?_⟩
 refine ae 9 2 hS ?_
 refine bG 11 dq fun hS => ?_
 refine aK ?_
 refine a7 cQ ?_
 refine cv (i + 1, a3, c3) ?_ (he := ?_)
 omega
 dsimp only
 rw [htk, QaZ]
 show Ent _ (pt p (a8 [.slice a3 (i + 1) c3, .bool true] 209) :: osl 212 3 (.slice a3 (i + 1) c3) (((l.take i).flatMap fun x => [iQ x.1, iQ x.2, eG]) ++ [[iQ l[i].1, iQ l[i].2, .slice none 0 0]].flatten) :: R)
 exact IO
 refine aw ?_
 refine aT ?_
 obtain rfl : i = l.length := by omega
 rw [QaM (Qaj _), ← W8 l]
 refine ⟨_, ⟨p, rfl, rfl⟩, ?_⟩
 exact (Ent.cons (Ent.cons (GI (R := R) l))).trans (VO (by rw [Qbo, C7]) (C7 l).symm)
theorem Wa (ps : Nat) (fr : List ap) (f : Nat) (hf : f < fr.length) : sQ W0 258 [pQ ps, iQ f] (bj ps fr :: R) (iQ 0) (bj ps (fr.set f fk) :: R) := by
 have hi : gx fr.length f = true := by grind [gx]
 refine ac func258 ntmps258 ?_
 refine ag (aj xN (uD ps fr f)) ?_
 refine ah (fun c2 => ?_) fun c2 => ?_
 exact absurd c2 (by simp [hi])
 refine uC (ps := ps) fun g => ?_
 refine aw ?_
 refine a7 (Bi As lT zeroValue416 rfl) ?_
 refine a7 (bE hf) ?_
 refine aB (iP (by rw [Gf]; omega) (Ge (y := fk) hf rfl)) ?_
 refine aa ?_
 exact ⟨_, ⟨rfl, rfl⟩, oA rfl (by simp)⟩
theorem yQ (pb ps : Nat) (po : Po) (h0 : 0 < po.length) : sQ W0 161 [pQ pb] (cZ pb (ps, po) :: R) (.bool false) (cZ pb (ps, po) :: R) := by
 refine GD fun a c vs Ls hv hL => ?_
 refine ac func161 ntmps161 ?_
 refine cP rfl rfl rfl (fun g1_3 => ?_) fun g1_3 => ?_
 cases g1_3
 refine aw ?_
 refine aa ?_
 exact ⟨_, ⟨by simp [bD, show po ≠ [] from fun e => by subst e; simp at h0], rfl⟩, uH rfl hv hL rfl rfl⟩
theorem GJ (pb ps : Nat) (po : Po) (f : Int) : sQ W0 162 [pQ pb, iQ f] (cZ pb (ps, po) :: R) (.bool (gx po.length f)) (cZ pb (ps, po) :: R) := by
 refine GD fun a c vs Ls hv hL => ?_
 refine ac func162 ntmps162 ?_
 refine cA (fun g1_3 => ?_) fun g1_3 => ?_
 refine aa ?_
 refine ⟨_, ⟨?_, rfl⟩, uH rfl hv hL rfl rfl⟩
 refine Qak Value.bool ?_
 rw [Qag, gx, Qah]
 first
   | (rw [Qah]; constructor <;> (intro q; omega))
   | (constructor
      · intro q; first | omega | (cases q)
      intro q; omega)
 refine aa ?_
 refine ⟨_, ⟨?_, rfl⟩, uH rfl hv hL rfl rfl⟩
 refine Qak Value.bool ?_
 rw [Qag, gx, Qah]
 first
   | (rw [Qah]; constructor <;> (intro q; omega))
   | (constructor
      · intro q; first | omega | (cases q)
      intro q; omega)
def pK (w : Int) : Bool := decide (0 ≤ w ∧ w < 16)
theorem C8 (w : Int) : sQ W0 163 [iQ w] R (.bool (pK w)) R := by
 refine ac func163 ntmps163 ?_
 refine cA (fun g1_3 => ?_) fun g1_3 => ?_
 refine aa ?_
 refine aQ ?_
 refine Qak Value.bool ?_
 rw [Qag, pK, Qah]
 first
   | (rw [Qah]; constructor <;> (intro q; omega))
   | (constructor
      · intro q; first | omega | (cases q)
      intro q; omega)
 refine aa ?_
 refine aQ ?_
 refine Qak Value.bool ?_
 rw [Qag, pK, Qah]
 first
   | (rw [Qah]; constructor <;> (intro q; omega))
   | (constructor
      · intro q; first | omega | (cases q)
      intro q; omega)
theorem Wb : ∀ n : Nat, (List.replicate n ((-1 : Int), false)).flatMap eE = (List.replicate n [Value.int .i64 (-1), .bool false]).flatten
 | 0 => rfl
 | n + 1 => by rw [List.replicate_succ, Qbb, Wb n, List.replicate_succ, List.flatten_cons]
theorem Wc (n : Nat) : (List.replicate n ((-1 : Int), false)).flatMap eE ++ [[Value.int .i64 (-1), .bool false]].flatten = (List.replicate (n + 1) ((-1 : Int), false)).flatMap eE := by
 grind [List.replicate_succ']
theorem GK {R : List HP} : ∀ n : Nat, Ent R (kH 2 (aS (((List.replicate n eG).zip (List.replicate n ([] : List Nat))).map dL)) :: R)
 | 0 => jB (A := [])
 | n + 1 => by
  have ih := GK (R := R) n
  refine ih.trans ?_
  refine (kP (A := ((List.replicate n eG).zip (List.replicate n ([] : List Nat))).map dL) (R := R)).trans ?_
  refine (dP (E := 3) (sz := 1) (B := ((List.replicate n eG).zip (List.replicate n ([] : List Nat))).map dL ++ R)).trans ?_
  exact jB (A := dL (eG, []) :: ((List.replicate n eG).zip (List.replicate n ([] : List Nat))).map dL) (R := R)
theorem Wd (ps : Nat) (fr : List ap) (h0 : 0 < fr.length) (h32 : fr.length ≤ 32) : sP W0 96 [pQ ps] (bj ps fr :: R) (fun v B => ∃ pb, v = .tuple #[pQ pb, iQ 0] ∧ B = cZ pb (ps, List.replicate fr.length (-1, false)) :: bj ps fr :: R) := by
 refine ac func96 ntmps96 ?_
 refine ag (aj ub (qT ps fr)) ?_
 refine aA rfl (fun c1 => ?_) fun c1 => ?_
 omega
 refine aw ?_
 refine aV fun pb => ?_
 refine ag (aj ub (qT ps fr)) ?_
 refine fu (fun X : Nat × Option Addr × Nat => X.1 ≤ fr.length) (fun X => [(4, pQ pb), (12, iQ (fr.length : Nat)), (13, iQ X.1)]) (fun X => pt pb (a8 (fI ps (.slice X.2.1 X.1 X.2.2) (List.replicate 16 eG)) 284) :: osl 286 2 (.slice X.2.1 X.1 X.2.2) ((List.replicate X.1 ((-1 : Int), false)).flatMap eE) :: bj ps fr :: R) (fun X => fr.length - X.1) (0, none, 0) ?_ ?_ ?_ ?_
 omega
 · repeat (first | exact cI | refine cj rfl ?_)
 exact (Ent.ofPerm (List.Perm.swap _ _ _)).trans (Ent.cons (dP (E := 286) (sz := 2)))
 intro ⟨i, a2, c2⟩ hi
 dsimp only at hi ⊢
 refine aw ?_
 refine ah (fun c5 => ?_) fun c5 => ?_
 refine cW (gH Ak DL a53 rfl (dX rfl rfl fR) rfl (by decide) (by decide) (by decide)) fun b2 => ?_
 refine ao rfl (eQ (sz := 2) (by_ := 16) (info := Tryz.t286) Ak (by kernel_rfl) rfl rfl rfl rfl (by decide) rfl rfl dW rfl rfl (by simp only [maxLen]; omega) (by omega)) ?_
 rintro _ _ ⟨a3, c3, rfl, rfl⟩
 refine aw ?_
 refine aB dq ?_
 refine a7 cQ ?_
 refine cv (i + 1, a3, c3) ?_ (he := ?_)
 omega
 dsimp only
 rw [← Wc]
 exact IO
 refine aT ?_
 obtain rfl : i = fr.length := by omega
 refine ⟨_, ⟨pb, rfl, rfl⟩, ?_⟩
 exact (Ent.cons (Ent.cons (GK (R := bj ps fr :: R) 16))).trans (uH (a := a2) (c := c2) rfl (by simp) (LsOk.new _) (by simp) rfl)
theorem We (pb ps : Nat) (po : Po) (fr : List ap) (f w : Nat) (t : Bool) (hf : f < po.length) (hff : f < fr.length) (hw : w < 16) (hP : PoOk po) (ha : cr po f = ((w : Int), t)) (a : Option Addr) (c : Nat) (vs : List Value) (Ls : List (List Nat)) (hv : vs.length = 16) (hL : LsOk (po.set f (-1, false)) Ls) : sQ W0 164 [pQ pb, iQ f] (pt pb (a8 (fI ps (.slice a po.length c) vs) 284) :: osl 286 2 (.slice a po.length c) (po.flatMap eE) :: kH 2 (aS ((vs.zip Ls).map dL)) :: bj ps fr :: R) (iQ 0) (cZ pb (ps, po.set f ((w : Int), false)) :: bj ps (fr.set f fk) :: R) := by
 have hrow := hL.row w hw
 have hP1 : PoOk (po.set f (-1, false)) := ⟨by rw [Qao]; exact hP.len, fun g hg => by
  rw [Qao] at hg
  rw [kf hf]
  split
  grind
  exact hP.who g hg⟩
 have hrl := hL.rlen hP1 hw
 have hown := VG (po := po.set f (-1, false)) (f := f) (w := w) (by grind) (by grind [kf])
 rw [List.set_set] at hown
 have hoth : ∀ u, u < 16 → u ≠ w → bQ (po.set f ((w : Int), false)) u = bQ (po.set f (-1, false)) u := fun u hu hne => by
  have := Gr (po := po.set f (-1, false)) (f := f) (x := ((w : Int), false)) (w := u) (by grind) (by grind [kf]) (by grind)
  rw [List.set_set] at this
  exact this
 have hset : (po.set f ((cr po f).1, false)) = po.set f ((w : Int), false) := by rw [ha]
 refine jG 6 func164 ntmps164 ?_
 refine gJ (r := osl 286 2) (b := .slice a po.length c) (ny (fun h1 h2 => by have := Qak List.length h2; rw [qZ] at this; simp at this; omega) fun g n cap sp h1 h2 h3 h4 h5 => ?_)
 cases h1
 refine aw ?_
 refine a7 (bE hf) ?_
 refine i7 3 (dF (by omega) (GF po sp f false hf)) ?_
 rw [hset]
 refine ja (B := pt g (a8 ((po.set f ((w : Int), false)).flatMap eE ++ sp) 286) :: iD w pb (Ls.getD w [], fI ps (.slice (some ⟨g, 0, none⟩) po.length c) vs) :: kH 3 (aS (((vs.zip Ls).map dL).eraseIdx w)) :: bj ps fr :: R) ?_ ?_
 refine Ent.cons ?_
 exact C4 hw hv hL.len
 have hg0 : ((po.set f ((w : Int), false)).flatMap eE ++ sp)[f * 2 + 0]? = some (iQ ((w : Nat) : Int)) := by
  rw [GE _ _ _ _ (by grind) (by decide), kf hf, Qae rfl]; rfl
 have hgl : ((po.set f ((w : Int), false)).flatMap eE ++ sp).length = c * 2 := by
  grind [Qad, qZ]
 refine jF [(pb, 1, [.slice (some ⟨g, 0, none⟩) po.length c]), (g, 0, _)] 16 mixed rfl (dD (Gv (T := 284) (E := 3) (sz := 1) (f := jt) (o := 2 + w * 1) (by omega) rfl) (cz cG)) (fun hS => ?_)
 refine ae 0 4 hS ?_
 refine ax 4 hS (aH (nu (k := 0) (j := 0) rfl rfl)) ?_
 refine ae 5 1 hS ?_
 refine ax 6 hS (bE hf) ?_
 refine ae 7 1 hS ?_
 refine ax 8 hS (aH (cY (k := 1) rfl hg0)) ?_
 refine ae 9 2 hS ?_
 refine ax 11 hS (gK hw) ?_
 refine ae 12 3 hS ?_
 refine cg 15 (aj Ed (W3 pb w (Ls.getD w []) f (fI ps (.slice (some ⟨g, 0, none⟩) po.length c) vs) (by omega) hrow.2)) ?_; clear hS
 rintro _ _ ⟨rfl, l', rfl, hp, hh⟩
 refine ⟨(dD (Gv (T := 284) (E := 3) (sz := 1) (f := jt) (o := 2 + w * 1) (by omega) rfl) (cz cG)), fun hS => ?_⟩
 refine fw ?_
 refine au 2 ?_
 refine ja (B := cZ pb (ps, po.set f ((w : Int), false)) :: bj ps fr :: R) ?_ ?_
 have e := gG (E := 286) (sz := 2) (g := g) (n := po.length) (cap := c) (xs := (po.set f ((w : Int), false)).flatMap eE) (sp := sp) (A := pt g (a8 ((po.set f ((w : Int), false)).flatMap eE ++ sp) 286) :: kH 3 (aS (((vs.zip Ls).map dL).eraseIdx w)) :: bj ps fr :: R) (B := kH 3 (aS (((vs.zip Ls).map dL).eraseIdx w)) :: bj ps fr :: R) h2 h3 (by grind) hgl
 refine (Ent.cons e).trans ?_
 exact C5 hw hv rfl (by simp) hL.len (hL.set hw (hp.trans ((hrow.1.append_right [f]).trans hown)) hh hoth)
 refine yN (pb := pb) fun a2 c2 vs2 Ls2 hv2 hL2 => ?_
 refine aw ?_
 refine ag (aj call258 (Wa ps fr f hff)) ?_
 refine aa ?_
 exact ⟨_, ⟨rfl, rfl⟩, uH rfl hv2 hL2 (by simp) rfl⟩
theorem Wg (pb ps : Nat) (po : Po) (fr : List ap) (f w : Nat) (hf : f < po.length) (hff : f < fr.length) (hw : w < 16) (hP : PoOk po) (ha : cr po f = (-1, false)) : sQ W0 99 [.pointer (some ⟨pb, 0, none⟩), .int .i64 f, .int .i64 w] (cZ pb (ps, po) :: bj ps fr :: R) (.int .i64 0) (cZ pb (ps, po.set f ((w : Int), false)) :: bj ps (fr.set f fk) :: R) := by
 have hi : gx po.length f = true := by grind [gx]
 have hw' : pK w = true := by grind [pK]
 have h0 : po.set f (-1, false) = po := by
  grind [cr, List.getD, QbY]
 refine jG 10 func99 ntmps99 ?_
 refine dE 3 (jD Ee rfl (yQ pb ps po (by omega))) ?_
 refine aA rfl (fun c1 => ?_) fun c1 => ?_
 exact absurd c1 (by decide)
 refine au 5 ?_
 refine dE 4 (jD call162 rfl (GJ pb ps po f)) ?_
 refine aA rfl (fun c3 => ?_) fun c3 => ?_
 exact absurd c3 (by simp [hi])
 refine au 2 ?_
 refine dE 4 (ix LF rfl (C8 w)) ?_
 refine aA rfl (fun c4 => ?_) fun c4 => ?_
 exact absurd c4 (by simp [hw'])
 refine aI ?_
 refine yN (pb := pb) fun a c vs Ls hv hL => ?_
 refine gJ (r := osl 286 2) (b := .slice a po.length c) (ny (fun h1 h2 => by have := Qak List.length h2; rw [qZ] at this; simp at this; omega) fun g n cap sp h1 h2 h3 h4 h5 => ?_)
 cases h1
 refine au 6 ?_
 refine ab rfl (jE Ak DL rfl rfl rfl hf (by first | exact Qac _ | rfl)) ?_
 refine ab rfl (Fa Lf aO) ?_
 refine k8 4 (ci cy rfl (aE ((GE po sp f 0 hf (by decide)).trans (by rw [ha]; rfl)))) ?_
 refine aA rfl (fun c6 => ?_) fun c6 => ?_
 exact absurd c6 (by decide)
 refine au 11 ?_
 refine ab rfl (jE Ak DL rfl rfl rfl hf (by first | exact Qac _ | rfl)) ?_
 refine ab rfl (Fa Lf aO) ?_
 refine i7 3 (jZ aO rfl rfl rfl (by omega) (VR po sp f (w : Int) hf)) ?_
 rw [ha]
 refine ja (B := pt pb (a8 (fI ps (.slice (some ⟨g, 0, none⟩) (po.set f ((w : Int), false)).length c) vs) 284) :: osl 286 2 (.slice (some ⟨g, 0, none⟩) (po.set f ((w : Int), false)).length c) ((po.set f ((w : Int), false)).flatMap eE) :: kH 2 (aS ((vs.zip Ls).map dL)) :: bj ps fr :: R) ?_ ?_
 rw [Qao]
 have e := gG (E := 286) (sz := 2) (g := g) (n := po.length) (cap := c) (xs := (po.set f ((w : Int), false)).flatMap eE) (sp := sp) (A := pt g (a8 ((po.set f ((w : Int), false)).flatMap eE ++ sp) 286) :: kH 2 (aS ((vs.zip Ls).map dL)) :: bj ps fr :: R) (B := kH 2 (aS ((vs.zip Ls).map dL)) :: bj ps fr :: R) h2 h3 (by grind [qZ]) (by grind [Qad, qZ])
 exact (inferInstance : Ent _ (pt pb (a8 (fI ps (.slice (some ⟨g, 0, none⟩) po.length c) vs) 284) :: pt g (a8 ((po.set f ((w : Int), false)).flatMap eE ++ sp) 286) :: kH 2 (aS ((vs.zip Ls).map dL)) :: bj ps fr :: R)).trans (Ent.cons e)
 refine au 3 ?_
 refine dE 4 (mP call164 rfl (We pb ps (po.set f ((w : Int), false)) fr f w false (by grind) hff hw (hP.set hf (by simp) (by simp; omega)) (by grind [kf]) (some ⟨g, 0, none⟩) c vs Ls hv (by simp_all))) ?_
 refine aa ?_
 rw [List.set_set]
 exact ⟨_, ⟨rfl, rfl⟩, IO⟩
theorem Wh (pb ps : Nat) (po : Po) (w : Nat) (h0 : 0 < po.length) (hw : w < 16) : sQ W0 263 [pQ pb, iQ w] (cZ pb (ps, po) :: R) (iQ ((bQ po w).length : Nat)) (cZ pb (ps, po) :: R) := by
 have hw' : pK w = true := by grind [pK]
 refine ac func263 ntmps263 ?_
 refine dE 1 (aj Ee (yQ pb ps po h0)) ?_
 refine cP rfl rfl rfl (fun g1_3 => ?_) fun g1_3 => ?_
 exact absurd g1_3 (by decide)
 refine aw ?_
 refine ag (ar LF (C8 w)) ?_
 refine aA rfl (fun c1 => ?_) fun c1 => ?_
 exact absurd c1 (by simp [hw'])
 refine au 3 ?_
 refine yN (pb := pb) fun a c vs Ls hv hL => ?_
 have hrow := hL.row w hw
 refine ja (B := iD w pb (Ls.getD w [], fI ps (.slice a po.length c) vs) :: kH 3 (aS (((vs.zip Ls).map dL).eraseIdx w)) :: osl 286 2 (.slice a po.length c) (po.flatMap eE) :: R) ?_ ?_
 exact (Ent.cons (Ent.ofPerm (List.Perm.swap _ _ _))).trans (C4 hw hv hL.len)
 refine aw ?_
 refine a7 (gK hw) ?_
 refine ag (aj LD (C6 pb w (Ls.getD w []) (fI ps (.slice a po.length c) vs))) ?_
 refine aa ?_
 rw [hrow.1.length_eq]
 have hLs : Ls.set w (Ls.getD w []) = Ls := by
  rw [show Ls.getD w [] = Ls[w]'(by rw [hL.len]; exact hw) by simp [List.getD, hL.len, hw]]; exact QbY _
 refine ⟨_, ⟨rfl, rfl⟩, ?_⟩
 exact (Ent.cons (Ent.ofPerm (List.Perm.swap _ _ _))).trans (C5 hw hv rfl rfl hL.len (by grind))
theorem Wi (pb ps : Nat) (po : Po) (w f : Nat) (l : List Nat) (hw : w < 16) (hP : PoOk po) (he : bQ po w = f :: l) : sQ W0 170 [pQ pb, iQ w] (cZ pb (ps, po) :: R) (.tuple #[iQ f, iQ 0]) (cZ pb (ps, po.set f ((w : Int), true)) :: R) := by
 have hw' : pK w = true := by grind [pK]
 have hf := mg.1 (show f ∈ bQ po w by rw [he]; simp)
 refine ac func170 ntmps170 ?_
 refine ag (aj Ee (yQ pb ps po (by omega))) ?_
 refine ag (ar LF (C8 w)) ?_
 refine aA rfl (fun c3 => ?_) fun c3 => ?_
 exact absurd c3 (by simp [hw'])
 refine au 1 ?_
 refine yN (pb := pb) fun a c vs Ls hv hL => ?_
 have hrow := hL.row w hw
 have hrl := hL.rlen hP hw
 refine ja (B := iD w pb (Ls.getD w [], fI ps (.slice a po.length c) vs) :: kH 3 (aS (((vs.zip Ls).map dL).eraseIdx w)) :: osl 286 2 (.slice a po.length c) (po.flatMap eE) :: R) ?_ ?_
 exact (Ent.cons (Ent.ofPerm (List.Perm.swap _ _ _))).trans (C4 hw hv hL.len)
 refine aw ?_
 refine a7 (gK hw) ?_
 refine ag (aj LD (C6 pb w (Ls.getD w []) (fI ps (.slice a po.length c) vs))) ?_
 refine ah (fun c5 => ?_) fun c5 => ?_
 exact absurd c5 (by simp_all)
 refine a7 (gK hw) ?_
 refine ao rfl (aj Ef (W4 pb w (Ls.getD w []) (fI ps (.slice a po.length c) vs) (by omega) (fun e => by rw [e] at hrow; have := hrow.1.length_eq; rw [he] at this; simp at this) hrow.2)) ?_
 rintro _ _ ⟨x, l', rfl, rfl, hp, hh, hm⟩
 have hpp := hp.trans hrow.1
 have hmm : ∀ y ∈ bQ po w, x ≤ y := fun y hy => by have := hm y (hrow.1.mem_iff.2 hy); omega
 have hx := C0 hpp hmm
 have hr := VH hpp hmm
 rw [he] at hx
 obtain ⟨rfl, _⟩ := List.cons.inj hx
 have hk : LsOk (po.set f ((w : Int), true)) (Ls.set w l') := hL.set hw hr hh fun u hu hne => Gr hf.1 (by grind) (by grind)
 refine k8 4 (pr dw (fun _ h => by cases h) rfl) ?_
 refine gJ (r := osl 286 2) (b := .slice a po.length c) (ny (fun h1 h2 => by have := Qak List.length h2; rw [qZ] at this; simp at this; omega) fun g n cap sp h1 h2 h3 h4 h5 => ?_)
 cases h1
 refine aw ?_
 refine a7 (aH (wj (T := 284) (E := 3) (sz := 1) (f := jt) (o := 2 + w * 1) (by omega) rfl)) ?_
 refine a7 (bE hf.1) ?_
 refine aB (dF (by omega) (GF po sp f true hf.1)) ?_
 refine aT ?_
 rw [hf.2]
 refine ⟨_, ⟨rfl, rfl⟩, ?_⟩
 have e := gG (E := 286) (sz := 2) (g := g) (n := po.length) (cap := c) (xs := (po.set f ((w : Int), true)).flatMap eE) (sp := sp) (A := pt g (a8 ((po.set f ((w : Int), true)).flatMap eE ++ sp) 286) :: kH 3 (aS (((vs.zip Ls).map dL).eraseIdx w)) :: R) (B := kH 3 (aS (((vs.zip Ls).map dL).eraseIdx w)) :: R) h2 h3 (by grind [qZ]) (by grind [Qad, qZ])
 exact (inferInstance : Ent _ (iD w pb (l', fI ps (.slice (some ⟨g, 0, none⟩) po.length c) vs) :: pt g (a8 ((po.set f ((w : Int), true)).flatMap eE ++ sp) 286) :: kH 3 (aS (((vs.zip Ls).map dL).eraseIdx w)) :: R)).trans ((Ent.cons e).trans (C5 hw hv rfl (by simp) hL.len hk))
abbrev je := Int × Value × Nat
def uI (p : je) : MapEntry := { key := .int .i64 p.1, val := p.2.1, born := p.2.2 }
def iE (L : List je) : Array MapEntry := (L.map uI).toArray
def gU : List je → Int → Option Value
 | [], _ => none
 | p :: l, k => if p.1 = k then some p.2.1 else gU l k
def jO : List je → Int → Nat → Option (Nat × Value)
 | [], _, _ => none
 | p :: l, k, i => if p.1 = k then some (i, p.2.1) else jO l k (i + 1)
theorem GL (k : Int) : ∀ (L : List je) (i : Nat), Instr.findNow (.int .i64) (.int .i64 k) (L.map uI) i = some (jO L k i)
 | [], i => rfl
 | p :: l, i => by
  rw [Qaz, Instr.findNow, jO]
  simp only [uI, Instr.sameNow, QbH]
  by_cases h : p.1 = k
  subst h; simp
  have h' : (k == p.1) = false := by simpa using fun q => h q.symm
  rw [h', Qab h]
  exact GL k l (i + 1)
theorem C9 : ∀ {L : List je} {k : Int} {i : Nat}, jO L k i = none → gU L k = none ∧ k ∉ L.map (·.1)
 | [], k, i, _ => ⟨rfl, by simp⟩
 | p :: l, k, i, h => by
  rw [jO] at h
  by_cases q : p.1 = k
  grind
  rw [Qab q] at h
  obtain ⟨h1, h2⟩ := C9 h
  refine ⟨by rw [gU, Qab q]; exact h1, ?_⟩
  rw [Qaz, QaN]
  rintro (r | r)
  omega
  exact h2 r
theorem wq : ∀ {L : List je} {k : Int} {i j : Nat} {v : Value}, jO L k i = some (j, v) → gU L k = some v ∧ ∃ m, j = i + m ∧ m < L.length ∧ (L[m]?).map (·.1) = some k
 | [], k, i, j, v, h => by cases h
 | p :: l, k, i, j, v, h => by
  rw [jO] at h
  by_cases q : p.1 = k
  rw [Qae q] at h
  cases h
  exact ⟨by rw [gU, Qae q], 0, rfl, by simp, by simp [q]⟩
  rw [Qab q] at h
  obtain ⟨h1, m, h2, h3, h4⟩ := wq h
  exact ⟨by rw [gU, Qab q]; exact h1, m + 1, by omega, by simpa using h3, by simpa using h4⟩
def t6 (L : List je) (j : Nat) (k : Int) (v : Value) : List je := L.modify j fun e => (k, v, e.2.2)
theorem GM : ∀ {L : List je} {k : Int} {i m : Nat} {w v : Value}, jO L k i = some (i + m, w) → (t6 L m k v).map (·.1) = L.map (·.1) ∧ ∀ k', gU (t6 L m k v) k' = if k' = k then some v else gU L k'
 | [], k, i, m, w, v, h => by cases h
 | p :: l, k, i, m, w, v, h => by
  rw [jO] at h
  by_cases q : p.1 = k
  grind [t6, gU]
  rw [Qab q] at h
  obtain ⟨_, m', h2, _, _⟩ := wq h
  obtain rfl : m = m' + 1 := by omega
  have h3 : jO l k (i + 1) = some (i + 1 + m', w) := by rw [h, h2]
  obtain ⟨e1, e2⟩ := GM (v := v) h3
  refine ⟨?_, fun k' => ?_⟩
  grind [t6]
  grind [gU, t6]
theorem Wj {L : List je} {k : Int} {v : Value} {c : Nat} : ∀ (h : k ∉ L.map (·.1)) (k' : Int), gU (L ++ [(k, v, c)]) k' = if k' = k then some v else gU L k' := by
 intro h k'
 induction L with
 | nil =>
  show (if k = k' then some v else none) = _
  by_cases r : k' = k
  grind
  rw [Qab (fun s => r s.symm), Qab r]; rfl
 | cons p l ih =>
  rw [Qaz, QaN, not_or] at h
  rw [Qar, gU, gU, ih h.2]
  by_cases r : k' = k
  grind
  simp [r]
theorem Wk {L : List je} {k : Int} (h : k ∉ L.map (·.1)) : gU L k = none := by
 induction L with
 | nil => rfl
 | cons p l ih =>
  rw [Qaz, QaN, not_or] at h
  rw [gU, Qab (fun s => h.1 s.symm), ih h.2]
theorem GN : ∀ {L : List je} {k : Int} {i m : Nat} {w : Value}, (L.map (·.1)).Nodup → jO L k i = some (i + m, w) → ((L.eraseIdx m).map (·.1)).Nodup ∧ ∀ k', gU (L.eraseIdx m) k' = if k' = k then none else gU L k'
 | [], k, i, m, w, _, h => by cases h
 | p :: l, k, i, m, w, hn, h => by
  rw [Qaz, QbF] at hn
  rw [jO] at h
  by_cases q : p.1 = k
  rw [Qae q] at h
  have hm : m = 0 := by
   grind
  subst hm
  refine ⟨hn.2, fun k' => ?_⟩
  show gU l k' = _
  rw [gU]
  by_cases r : k' = k
  grind [Wk]
  grind
  rw [Qab q] at h
  obtain ⟨_, m', h2, _, _⟩ := wq h
  obtain rfl : m = m' + 1 := by omega
  have h3 : jO l k (i + 1) = some (i + 1 + m', w) := by rw [h, h2]
  obtain ⟨e1, e2⟩ := GN hn.2 h3
  refine ⟨?_, fun k' => ?_⟩
  show (p.1 :: (l.eraseIdx m').map (·.1)).Nodup
  rw [QbF]
  refine ⟨fun hm => hn.1 ?_, e1⟩
  obtain ⟨x, hx, hxe⟩ := QaS.1 hm
  exact QaS.2 ⟨x, List.mem_of_mem_eraseIdx hx, hxe⟩
  grind [gU]
theorem Wl (L : List je) (j : Nat) (k : Int) (v : Value) : (iE L).modify j (fun e => { e with key := iQ k, val := v }) = iE (t6 L j k v) := by
 apply Qcj
 rw [Array.toList_modify, iE, iE, t6, List.toList_toArray, List.toList_toArray]
 apply List.ext_getElem?
 intro i
 simp only [List.getElem?_modify, Qce]
 cases L[i]? with
 | none => simp
 | some e => by_cases h : j = i <;> simp [h, uI]
theorem Wm (L : List je) (k : Int) (v : Value) (c : Nat) : (iE L).push { key := iQ k, val := v, born := c } = iE (L ++ [(k, v, c)]) := by
 apply Qcj
 simp [iE, uI]
theorem Wn (L : List je) (j : Nat) (h : j < L.length) : (iE L).eraseIdxIfInBounds j = iE (L.eraseIdx j) := by
 grind [Qcj, iE]
def kE (b : Nat) (f : Int → Option Value) : HP := chk (fun C => ∃ (L : List je) (clock : Nat), (L.map (·.1)).Nodup ∧ (∀ k, gU L k = f k) ∧ C = [pt b (.map (iE L) clock)])
def yR (f : Int → Option Value) (k : Int) (o : Option Value) : Int → Option Value := fun k' => if k' = k then o else f k'
section
variable {rd : Option Nat} {P : Program} {S : World → Prop} {W0 : World} {N : FSz} {e : aP} {A B R : List HP}
variable {op : Op} {ty t K E : TypeId} {v z : Value} {b : Nat} {x y u : Operand} {f : Int → Option Value} {k : Int}
theorem Own.mapL {w : World} (h : Own W0 w (kE b f :: R)) : ∃ (L : List je) (clock : Nat), (L.map (·.1)).Nodup ∧ (∀ k, gU L k = f k) ∧ Own W0 w (pt b (.map (iE L) clock) :: R) := by
 obtain ⟨C, ⟨L, c, h1, h2, rfl⟩, hO⟩ := h.chk
 exact ⟨L, c, h1, h2, hO⟩
theorem wt {L : List je} {c : Nat} (h1 : (L.map (·.1)).Nodup) (h2 : ∀ k, gU L k = f k) : Ent (pt b (.map (iE L) c) :: R) (kE b f :: R) := dQ (R := R) (C := [_]) ⟨L, c, h1, h2, rfl⟩
theorem run_checkKey {w : World} {em : Bool} (hK : P.underlying K = some (.int .i64)) : (Instr.checkKey em 10000 K (.int .i64 k)).run P w = .ok () w := by
 exact MapKept.run_checkKey hK (by trivial) em 9999
theorem yS {w : World} (hK : P.underlying K = some (.int .i64)) (L : List je) : (Instr.findKey K (.int .i64 k) (iE L).toList).run P w = .ok (jO L k 0) w := by
 simp only [Instr.findKey, Sem.run_bind, dA hK, Result.andThen_ok, iE, List.toList_toArray, GL, Sem.run_pure]
theorem Wo {d : Nat} {m : Option Nat} (hu : P.underlying t = some (.map K E)) : lW P (d + 1) t (.map m) (.map none) m.isNone := fun w => by
 cases m <;> simp [Op.equalIn, dA hu]
theorem Wp {t' : TypeId} {m : Option Nat} (hu : P.underlying t = some (.map K E)) (hx : ev e x = some (.map m)) (hy : ev e y = some (.map none)) : bC P S N e (.binOp .eql t x y t') (.bool m.isNone) :=
  g8 hx hy (fun w x y => by simp [eqGuard]) (vy rfl (Wo hu))
theorem Wq : bW P W0 N e A (.makeMap t none) (fun v B => ∃ b, v = .map (some b) ∧ B = kE b (fun _ => none) :: A) := pf fun a w _ _ _ _ _ hF hO => by
 refine ⟨_, w.alloc (.map #[] 0), _, .inl ?_, ⟨w.heap.size, rfl, rfl⟩, ?_⟩
 simp [execOp, Instr.makeMap, newObj, Sem.run]
 have hn := hO.new (.map (iE []) 0)
 exact hn.ent (wt (L := []) (by simp) (fun _ => rfl))
theorem Ws [h : Tk kE b A f R] (hu : P.underlying t = some (.map K E)) (hK : P.underlying K = some (.int .i64)) (hx : ev e x = some (.map (some b))) (hy : ev e y = some (.int .i64 k)) (hv : ev e u = some v) :
    bW P W0 N e A (.mapUpdate t x y u) (fun _ B => B = kE b (yR f k (some v)) :: R) := pf fun a w _ _ _ _ _ hF hO => by
 obtain ⟨L, c, h1, h2, hO1⟩ := Own.mapL (Own.tk (r := kE) (b := b) hO)
 have hb := hO1.has.2
 have hlt : b < w.heap.size := by
  grind
 cases hm : jO L k 0 with
 | none =>
  obtain ⟨g1, g2⟩ := C9 hm
  refine ⟨_, w.putObj b (.map ((iE L).push { key := iQ k, val := v, born := c }) (c + 1)), _, .inr ⟨?_, rfl⟩, rfl, ?_⟩
  simp only [execOp, hF.eval hx, hF.eval hy, hF.eval hv, Instr.mapUpdate, Sem.run_bind, Sem.run_pure, dA hu, Result.andThen_ok, MapKept.run_getObj_map hb, MapKept.run_setObj_map _ hb, run_checkKey hK, yS hK, hm]
  simp [World.putObj, hlt]
  rw [Wm]
  refine (hO1.turn _).ent (wt ?_ fun k' => ?_)
  grind
  rw [Wj g2, h2]; rfl
 | some p =>
  obtain ⟨j, v0⟩ := p
  obtain ⟨g1, m, g2, g3, g5⟩ := wq hm
  obtain rfl : j = m := by omega
  have g4 : jO L k 0 = some (0 + j, v0) := by grind
  obtain ⟨e1, e2⟩ := GM (v := v) g4
  have hkey : (((iE L)[j]?).map (·.key)).getD (iQ k) = iQ k := by
   rw [iE, QaV, Qce]
   cases hq : L[j]? with
   | none => rw [hq] at g5; cases g5
   | some q => rw [hq] at g5; simp at g5; simp [uI, g5]
  refine ⟨_, w.putObj b (.map ((iE L).modify j fun e => { e with key := iQ k, val := v }) c), _, .inr ⟨?_, rfl⟩, rfl, ?_⟩
  simp only [execOp, hF.eval hx, hF.eval hy, hF.eval hv, Instr.mapUpdate, Sem.run_bind, Sem.run_pure, dA hu, Result.andThen_ok, MapKept.run_getObj_map hb, MapKept.run_setObj_map _ hb, run_checkKey hK, yS hK, hm, hkey, Instr.keyThatStays]
  simp [World.putObj, hlt, Instr.sameBits, MapKept.run_setObj_map _ hb]
  rw [Wl]
  exact (hO1.turn _).ent (wt (by rw [e1]; exact h1) fun k' => by rw [e2, h2]; rfl)
theorem Wt [h : Tk kE b A f R] {t' : TypeId} (hu : P.underlying t = some (.map K E)) (hK : P.underlying K = some (.int .i64)) (hx : ev e x = some (.map (some b))) (hy : ev e y = some (.int .i64 k)) :
    bW P W0 N e A (.call { callee := .builtin .delete, args := #[x, y], argTypes := #[t, t'] }) (fun v B => v = .tuple #[] ∧ B = kE b (yR f k none) :: R) := pf fun a w _ _ _ _ _ hF hO => by
 obtain ⟨L, c, h1, h2, hO1⟩ := Own.mapL (Own.tk (r := kE) (b := b) hO)
 have hb := hO1.has.2
 have hlt : b < w.heap.size := by
  grind
 cases hm : jO L k 0 with
 | none =>
  obtain ⟨g1, g2⟩ := C9 hm
  refine ⟨_, w.putObj b (.map (iE L) c), _, .inl ?_, ⟨rfl, rfl⟩, ?_⟩
  simp only [execOp, resolve, invoke, builtin, QbA, Qaz, Qbt, hF.eval hx, hF.eval hy, Builtin.delete_, QaV, QaY, QbB, Sem.run_bind, Sem.run_pure, dA hu, Result.andThen_ok, MapKept.run_getObj_map hb, MapKept.run_setObj_map _ hb, run_checkKey hK, yS hK, hm]
  simp [World.putObj, hlt]
  refine (hO1.turn _).ent (wt h1 fun k' => ?_)
  rw [h2]
  show f k' = if k' = k then none else f k'
  by_cases q : k' = k
  grind
  rw [Qab q]
 | some p =>
  obtain ⟨j, v0⟩ := p
  obtain ⟨g1, m, g2, g3, g5⟩ := wq hm
  obtain rfl : j = m := by omega
  have g4 : jO L k 0 = some (0 + j, v0) := by grind
  obtain ⟨e1, e2⟩ := GN h1 g4
  refine ⟨_, w.putObj b (.map ((iE L).eraseIdxIfInBounds j) c), _, .inl ?_, ⟨rfl, rfl⟩, ?_⟩
  simp only [execOp, resolve, invoke, builtin, QbA, Qaz, Qbt, hF.eval hx, hF.eval hy, Builtin.delete_, QaV, QaY, QbB, Sem.run_bind, Sem.run_pure, dA hu, Result.andThen_ok, MapKept.run_getObj_map hb, MapKept.run_setObj_map _ hb, run_checkKey hK, yS hK, hm]
  simp [World.putObj, hlt]
  rw [Wn _ _ g3]
  exact (hO1.turn _).ent (wt e1 fun k' => by rw [e2, h2]; rfl)
end
section
variable {P : Program} {S : World → Prop} {W0 : World} {N : FSz} {e : aP} {A R : List HP} {t t' ty : TypeId} {b off : Nat} {x y : Operand} {l l' : List Value}
theorem GO {E : TypeId} {k k' : IntKind} (ha : ∀ w, (isAgg E).run P w = .ok false w) (he : P.underlying E = some (.int k')) (D : Nat) (w : World) :
    ∀ (m s : Nat) (ms ns : List Int), ms.length = s + m → ns.length = s + m →
      (Op.eqItems (D + 1) E 1 (ms.map (Value.int k)).toArray (ns.map (Value.int k)).toArray (List.range' s m)).run P w = .ok (ms.drop s == ns.drop s) w
 | 0, s, ms, ns, h1, h2 => by
  rw [show ms.drop s = [] from List.drop_eq_nil_of_le (by omega), show ns.drop s = [] from List.drop_eq_nil_of_le (by omega)]
  simp [Op.eqItems]
 | m + 1, s, ms, ns, h1, h2 => by
  have e1 : (ms.map (Value.int k))[s]? = some (.int k ms[s]) := by grind
  have e2 : (ns.map (Value.int k))[s]? = some (.int k ns[s]) := by grind
  have d1 : ms.drop s = ms[s] :: ms.drop (s + 1) := Qbk (by omega)
  have d2 : ns.drop s = ns[s] :: ns.drop (s + 1) := Qbk (by omega)
  have ih := GO (k := k) ha he D w m (s + 1) ms ns (by omega) (by omega)
  rw [List.range'_succ, d1, d2]
  simp only [Op.eqItems, Qbc, Sem.run_bind, vz ha e1 w, vz ha e2 w, Result.andThen_ok, run_equalIn_int w D E k k' _ _ he]
  by_cases h : ms[s] = ns[s]
  have hb3 : ((ns[s] :: ms.drop (s + 1)) == (ns[s] :: ns.drop (s + 1))) = (ms.drop (s + 1) == ns.drop (s + 1)) := by
   rw [Qag, Qbu, Qbu]
   exact ⟨fun q => (List.cons.inj q).2, fun q => by rw [q]⟩
  rw [h, hb3]
  simp only [beq_self_eq_true, Bool.not_true, Qau, QcB]
  exact ih
  have hb : (ms[s] == ns[s]) = false := by simpa using h
  rw [hb]
  have hb2 : ((ms[s] :: ms.drop (s + 1)) == (ns[s] :: ns.drop (s + 1))) = false := by
   grind
  rw [hb2]
  simp
theorem GP {E n z : Nat} {k k' : IntKind} {i : TypeInfo} {ms ns : List Int} {us vs : List Value} (hu : P.underlying t = some (.array n E)) (hi : P.info? E = some i) (hc : P.cellsOf E = 1) (he : P.underlying E = some (.int k')) (ha : ∀ w, (isAgg E).run P w = .ok false w)
    (h1 : us = ms.map (Value.int k)) (h2 : vs = ns.map (Value.int k)) (l1 : ms.length = n) (l2 : ns.length = n) : lW P (z + 2) t (.agg us.toArray) (.agg vs.toArray) (ms == ns) := fun d w => by
 subst h1; subst h2
 rw [show d + (z + 2) = (d + z + 1) + 1 by omega, run_equalIn_array w (d + z + 1) _ _ hu hi, hc, List.range_eq_range', GO ha he (d + z) w n 0 ms ns (by omega) (by omega)]
 simp
theorem Wu {E sz dn dc m : Nat} {s : ByteArray} (hu : P.underlying t = some (.slice E)) (hs : ∀ w, (sizeOf E).run P w = .ok sz w) (hx : ev e x = some (.slice (some ⟨b, off, none⟩) dn dc)) (hy : ev e y = some (.string s))
    [h : Tk pt b A (a8 l ty) R] (hm : Nat.min s.size dn = m) (ho : off + m ≤ l.length) (hr : d4 l off ((s.data.toList.take m).map fun b => Value.int .u8 b.toNat) = l') :
    bW P W0 N e A (.call { callee := .builtin .copy, args := #[x, y], argTypes := #[t, t'] }) (fun v B => v = iQ m ∧ B = pt b (a8 l' ty) :: R) := by
 intro a w dst ty' pos af g K Q hF hO k
 have hO' := hO.tk (r := pt) (b := b)
 have hml : m ≤ s.data.toList.length := by
  have : m ≤ s.size := by grind
  exact this
 have hcells : ((s.extract 0 m).data.map fun b => Value.int .u8 b.toNat).toList = (s.data.toList.take m).map fun b => Value.int .u8 b.toNat := by
  simp_all
 obtain ⟨w', hst, hO''⟩ := vB (P := P) (off := off) ((s.data.toList.take m).map fun b => Value.int .u8 b.toNat) 0 hO' (by grind) (fun v hv => by
  obtain ⟨q, _, rfl⟩ := QaS.1 hv; rfl)
 rw [Qcc, hr] at hO''
 have hexec : (execOp a.eval { dst := dst, op := .call { callee := .builtin .copy, args := #[x, y], argTypes := #[t, t'] }, type := ty', pos := pos, after := af, guard := g }).run P w = .ok (.value (iQ m)) w' := by
  simp only [execOp, resolve, invoke, builtin, Sem.run_bind, Sem.run_pure, Result.andThen_ok, QbA, Qaz, Qbt, hF.eval hx, hF.eval hy, Builtin.copy_, Builtin.lenOf, Builtin.firstCells, dA hu, hs]
  have hs' : (sizeOf E).run P w = .ok sz w := hs w
  simp only [hm, QbG, QaV, QaY, QbB, Sem.run_bind, Sem.run_pure, Result.andThen_ok, dA hu, hs', hcells, hst, goInt]
 unfold Oper.wp
 rw [hexec]
 exact k _ w' _ ⟨rfl, rfl⟩ hO''
end
abbrev cu (ps pm d : Nat) : Obj := a8 [.pointer (some ⟨ps, 0, none⟩), .pointer (some ⟨pm, 0, none⟩), .int .u32 (d : Nat)] 305
theorem wu (pv ps pm d : Nat) : sQ W0 288 [pQ pv] (pt pv (cu ps pm d) :: R) (.bool false) (pt pv (cu ps pm d) :: R) := by
 refine ac func288 ntmps288 ?_
 refine cP rfl rfl rfl (fun g1_3 => ?_) fun g1_3 => ?_
 cases g1_3
 refine aw ?_
 exact aa ai
def gW (pa : Nat) (w : Int) : Bool := decide ((w = 1 ∨ w = 2 ∨ w = 4) ∧ (pa : Int) % w = 0)
theorem Wv (pa : Nat) (hpa : pa < 4294967296) (w : Int) : sQ W0 391 [.int .u32 pa, iQ w] R (.bool (gW pa w)) R := by
 refine ac func391 ntmps391 ?_
 refine ah (fun c2 => ?_) fun c2 => ?_
 refine a7 (cR (dO (by omega))) ?_
 refine a7 (lu rfl rfl (by omega) (Qbi (by omega))) ?_
 refine aa ?_
 refine aQ ?_
 refine Qak Value.bool ?_
 rw [Qag]; simp only [gW, Qaq, Qbu]
 first
   | (subst c2; simp)
   | (subst c3; simp)
   | (subst c4; simp)
 refine ah (fun c3 => ?_) fun c3 => ?_
 refine a7 (cR (dO (by omega))) ?_
 refine a7 (lu rfl rfl (by omega) (Qbi (by omega))) ?_
 refine aa ?_
 refine aQ ?_
 refine Qak Value.bool ?_
 rw [Qag]; simp only [gW, Qaq, Qbu]
 first
   | (subst c2; simp)
   | (subst c3; simp)
   | (subst c4; simp)
 refine ah (fun c4 => ?_) fun c4 => ?_
 refine a7 (cR (dO (by omega))) ?_
 refine a7 (lu rfl rfl (by omega) (Qbi (by omega))) ?_
 refine aa ?_
 refine aQ ?_
 refine Qak Value.bool ?_
 rw [Qag]; simp only [gW, Qaq, Qbu]
 first
   | (subst c2; simp)
   | (subst c3; simp)
   | (subst c4; simp)
 refine aa ?_
 refine aQ ?_
 refine Qak Value.bool ?_
 rw [Qag]; simp only [gW, Qaq, Qau, Qbq]; omega
def ez (n : Nat) (pg : List Pl) (pa : Nat) (w kind : Int) : Int :=
  if gW pa w then (if pa < 768 then (if ig pg ((pa / 64 : Nat) : Int) kind = 0 then (if (bS pg ((pa / 64 : Nat) : Int)).1 < n then 0 else 7) else ig pg ((pa / 64 : Nat) : Int) kind) else 2) else 1
def nJ (n : Nat) (pg : List Pl) (pa : Nat) (w kind : Int) : List Value :=
  if ez n pg pa w kind = 0 then [.int .i64 (pa / 64 : Nat), .int .i64 (bS pg ((pa / 64 : Nat) : Int)).1, .int .i64 (pa % 64 : Nat), .bool false] else [.int .i64 0, .int .i64 0, .int .i64 0, .bool false]
theorem yT (pv ps pm d : Nat) (fr : List ap) (pg : List Pl) (h : Pgs pg) (pa : Nat) (hpa : pa < 4294967296) (w kind : Int) : sQ W0 344 [pQ pv, .int .u32 pa, iQ w, iQ kind] (pt pv (cu ps pm d) :: bj ps fr :: pt pm (bN pg) :: R) (.tuple #[.agg (nJ fr.length pg pa w kind).toArray, iQ (ez fr.length pg pa w kind)]) (pt pv (cu ps pm d) :: bj ps fr :: pt pm (bN pg) :: R) := by
 refine ac func344 ntmps344 ?_
 refine bB fun b1 => ?_
 refine ag (aj Aw (wu pv ps pm d)) ?_
 refine ag (ar call391 (Wv pa hpa w)) ?_
 refine ah (fun c3 => ?_) fun c3 => ?_
 refine aB aD ?_
 refine bH (.cons (bM j9 g7 rfl rfl) (.cons (bP rfl) .nil)) ?_
 refine aQ ?_
 have ha : gW pa w = false := by grind
 have he : ez fr.length pg pa w kind = 1 := by simp [ez, ha]
 simp [bD, nJ, he]
 have ha : gW pa w = true := by grind
 refine ah (fun c5 => ?_) fun c5 => ?_
 refine aB aD ?_
 refine bH (.cons (bM j9 g7 rfl rfl) (.cons (bP rfl) .nil)) ?_
 refine aQ ?_
 have he : ez fr.length pg pa w kind = 2 := by grind [ez]
 simp [bD, nJ, he]
 refine a7 (qD rfl rfl (by decide) ((Qak (IntKind.wrap .u32) (vQ pa 64)).trans (dO (by omega)))) ?_
 refine a7 (cR (bU (by omega))) ?_
 refine ag (aj call392 (Gm pm pg h ((pa / 64 : Nat) : Int) kind)) ?_
 refine ah (fun c9 => ?_) fun c9 => ?_
 refine aB aD ?_
 refine bH (.cons (bM j9 g7 rfl rfl) (.cons (bP rfl) .nil)) ?_
 refine aQ ?_
 have he : ez fr.length pg pa w kind = ig pg ((pa / 64 : Nat) : Int) kind := by grind [ez]
 rw [nJ, Qab (by omega), he]; rfl
 have hz : ig pg ((pa / 64 : Nat) : Int) kind = 0 := by omega
 refine ag (aj Eb (yG pm pg h ((pa / 64 : Nat) : Int))) ?_
 refine bB fun b2 => ?_
 refine aB aD ?_
 refine bu [b2, pv] 8 fun hS => ?_
 refine ae 0 6 hS ?_
 refine bF 6 (aj ub (qT ps fr)) fun hS => ?_
 refine ae 7 1 hS ?_
 refine aK ?_
 refine ah (fun c12 => ?_) fun c12 => ?_
 refine aB aD ?_
 refine bH (.cons (bM j9 g7 rfl rfl) (.cons (bP rfl) .nil)) ?_
 refine aQ ?_
 have he : ez fr.length pg pa w kind = 7 := by grind [ez]
 simp [bD, nJ, he]
 refine a7 (lu rfl rfl (by decide) (sG pa 64)) ?_
 refine a7 (cR (bU (by omega))) ?_
 refine aB aD ?_
 refine bH (.cons (bM j9 g7 rfl rfl) (.cons (bP rfl) .nil)) ?_
 refine aQ ?_
 have he : ez fr.length pg pa w kind = 0 := by grind [ez]
 simp [bD, nJ, he]
theorem Ca {n : Nat} {pg : List Pl} {pa : Nat} {w kind : Int} (h : ez n pg pa w kind = 0) : pa < 768 ∧ (bS pg ((pa / 64 : Nat) : Int)).1 < n ∧ nJ n pg pa w kind = [iQ (pa / 64 : Nat), iQ (bS pg ((pa / 64 : Nat) : Int)).1, iQ (pa % 64 : Nat), .bool false] := by
 grind [nJ, ez]
def ww (fr : List ap) (pg : List Pl) (pa : Nat) (w : Int) (x : Nat) : List ap := if ez fr.length pg pa w 2 = 0 then ie fr (bS pg ((pa / 64 : Nat) : Int)).1 ((pa % 64 : Nat) : Int) w x else fr
def wx (fr : List ap) (pg : List Pl) (pa : Nat) (w : Int) (d : Nat) : Nat := if ez fr.length pg pa w 2 = 0 then d ||| 2 ^ (pa / 64) else d
theorem Ww {n : Nat} (h : n < 12) : jC .u32 1 (n : Int) = ((2 ^ n : Nat) : Int) := by
 have : ∀ n : Nat, n < 12 → jC .u32 1 (n : Int) = ((2 ^ n : Nat) : Int) := by decide
 exact this n h
theorem GQ {n : Nat} (h : n < 12) : 2 ^ n < 4096 := by
 have : ∀ n : Nat, n < 12 → 2 ^ n < 4096 := by decide
 exact this n h
theorem Wx (pv ps pm d : Nat) (fr : List ap) (pg : List Pl) (h : Pgs pg) (hF : cB fr) (hd : d < 4096) (pa : Nat) (hpa : pa < 4294967296) (w : Int) (x : Nat) (hx : x < 4294967296) : sQ W0 373 [pQ pv, .int .u32 pa, iQ w, .int .u32 x] (pt pv (cu ps pm d) :: bj ps fr :: pt pm (bN pg) :: R) (iQ (ez fr.length pg pa w 2)) (pt pv (cu ps pm (wx fr pg pa w d)) :: bj ps (ww fr pg pa w x) :: pt pm (bN pg) :: R) := by
 by_cases hz : ez fr.length pg pa w 2 = 0
 obtain ⟨h1, h2, hv⟩ := Ca hz
 have hp := GQ (n := pa / 64) (by omega)
 rw [wx, Qae hz, ww, Qae hz]
 refine ac func373 ntmps373 ?_
 refine ag (dT Eg (yT pv ps pm d fr pg h pa hpa w 2)) ?_
 rw [hv, hz]
 refine bB fun b1 => ?_
 refine aB aD ?_
 refine ah (fun c2 => ?_) fun c2 => ?_
 exact absurd rfl c2
 refine bu [pv, b1] 11 fun hS => ?_
 refine ae 0 10 hS ?_
 refine bF 10 (aj LG (BR ps fr _ _ w x hx hF)) fun hS => ?_
 refine aK ?_
 refine bu [b1] 11 fun hS => ?_
 refine ae 0 3 hS ?_
 refine ae 4 2 hS ?_
 refine ax 6 hS (p9 rfl rfl (by omega) (Ww (by omega))) ?_
 refine bF 3 (cV (aH (aE rfl))) fun hS => ?_
 refine ax 7 hS (p8 rfl rfl (vP (by omega) (by omega))) ?_
 refine ae 8 2 hS ?_
 refine bG 10 dq fun hS => ?_
 refine aK ?_
 exact aa ai
 rw [wx, Qab hz, ww, Qab hz]
 refine ac func373 ntmps373 ?_
 refine ag (dT Eg (yT pv ps pm d fr pg h pa hpa w 2)) ?_
 rw [nJ, Qab hz]
 refine bB fun b1 => ?_
 refine aB aD ?_
 refine ah (fun c2 => ?_) fun c2 => ?_
 exact aa ai
 exact absurd hz c2
theorem Wy (ps pm : Nat) (fr : List ap) (pg : List Pl) (h : Pgs pg) (h0 : 0 < fr.length) : sP W0 107 [pQ ps, pQ pm] (bj ps fr :: pt pm (bN pg) :: R) (fun v B => ∃ b, v = .tuple #[pQ b, iQ 0] ∧ B = pt b (cu ps pm 0) :: bj ps fr :: pt pm (bN pg) :: R) := by
 refine ac func107 ntmps107 ?_
 refine ag (aj ub (qT ps fr)) ?_
 refine cP rfl rfl rfl (fun g1_4 => ?_) fun g1_4 => ?_
 omega
 refine aw ?_
 refine dE 5 (aj call176 (Vy pm pg h)) ?_
 refine dS ?_
 refine dR (k0 rfl) fun b1 => ?_
 refine aw ?_
 refine aT ?_
 exact ⟨_, ⟨b1, rfl, rfl⟩, IO⟩
theorem GR (pv ps pm d : Nat) : sQ W0 252 [pQ pv] (pt pv (cu ps pm d) :: R) (pQ pm) (pt pv (cu ps pm d) :: R) := by
 refine ac func252 ntmps252 ?_
 refine ag (aj Aw (wu pv ps pm d)) ?_
 exact aa ai
theorem GT (pv ps pm d : Nat) : sQ W0 210 [pQ pv] (pt pv (cu ps pm d) :: R) (pQ ps) (pt pv (cu ps pm d) :: R) := by
 refine ac func210 ntmps210 ?_
 refine ag (aj Aw (wu pv ps pm d)) ?_
 exact aa ai
def mX (len : Nat) (pg : List Pl) (n : Int) : Bool := aX pg n && decide (n < 8) && decide ((bS pg n).1 < len)
theorem GU (pv ps pm d : Nat) (fr : List ap) (pg : List Pl) (h : Pgs pg) (n : Int) : sQ W0 317 [pQ pv, iQ n] (pt pv (cu ps pm d) :: bj ps fr :: pt pm (bN pg) :: R) (.tuple #[iQ (bS pg n).1, .bool (mX fr.length pg n)]) (pt pv (cu ps pm d) :: bj ps fr :: pt pm (bN pg) :: R) := by
 refine ac func317 ntmps317 ?_
 refine ag (aj Eb (yG pm pg h n)) ?_
 refine bB fun b1 => ?_
 refine aB aD ?_
 refine bu [pv, b1] 19 fun hS => ?_
 refine ae 0 4 hS ?_
 refine lY (t := 20) rfl ?_ ?_
 · intro g2_4
   refine ae 4 4 hS ?_
   refine lY (t := 24) rfl ?_ ?_
   · intro g2_8
     refine ae 8 6 hS ?_
     refine bF 14 (aj ub (qT ps fr)) fun hS => ?_
     refine ae 15 4 hS ?_
     refine aK ?_
     refine aT ?_
     refine aQ ?_
     simp_all [bD, mX]; try omega
   intro g2_8
   refine ae 8 11 hS ?_
   refine aK ?_
   refine aT ?_
   refine aQ ?_
   simp_all [bD, mX]; try omega
 intro g2_4
 refine ae 4 15 hS ?_
 refine aK ?_
 refine aT ?_
 refine aQ ?_
 simp_all [bD, mX]; try omega
def gX (pa n at_ : Nat) : Nat := min (n - at_) (64 - (pa + at_) % 64)
theorem GV {pa n at_ : Nat} (h : at_ < n) : 0 < gX pa n at_ ∧ at_ + gX pa n at_ ≤ n := by unfold gX; omega
def Cb (pa n at_ : Nat) : List Value := [.int .i64 ((pa + at_) / 64 : Nat), .int .i64 ((pa + at_) % 64 : Nat), .int .i64 (at_ : Nat), .int .i64 (gX pa n at_ : Nat)]
theorem Wz (W0 : World) (bn bp pa n L : Nat) (hpa : pa ≤ 100000) (hn : n ≤ 100000) (C : Nat → List HP) (I : Nat → Prop) (h0 : I 0) (Stop : List HP → Prop) (hr : ∀ at_ R, at_ < n → I at_ → oe Tryz.prog W0 L [.agg (Cb pa n at_).toArray] (C at_ ++ R) (fun v B => ∃ b B', v = .bool b ∧ B = B' ++ R ∧ ((b = true ∧ I (at_ + gX pa n at_) ∧ B' = C (at_ + gX pa n at_)) ∨ (b = false ∧ Stop B')))) : sP W0 381 [.func (.yield L) #[] #[], pQ bn, pQ bp] (pt bn (a8 [iQ n] 3) :: pt bp (a8 [iQ pa] 3) :: C 0) (fun v B => v = .tuple #[] ∧ ((I n ∧ B = C n) ∨ Stop B)) := by
 refine ac func381 ntmps381 ?_
 refine dr (fun i : Nat => i ≤ n ∧ I i) (fun i => [(0, .func (.yield L) #[] #[]), (1, pQ bn), (2, pQ bp), (4, iQ i)]) (fun i => pt bn (a8 [iQ n] 3) :: pt bp (a8 [iQ pa] 3) :: C i) (fun i => n - i) 0 ?_ ?_
 grind
 intro i ⟨hi, hI⟩
 refine aw ?_
 refine ah (fun c1 => ?_) fun c1 => ?_
 have hpos := GV (pa := pa) (n := n) (at_ := i) (by omega)
 refine a7 (eC (pa + i)) ?_
 refine a7 (qD rfl rfl (by decide) ((Qak (IntKind.wrap .i64) (vQ (pa + i) 64)).trans (bU (by omega)))) ?_
 refine a7 (eC (pa + i)) ?_
 refine a7 (lu rfl rfl (by decide) (sG (pa + i) 64)) ?_
 refine bB fun b1 => ?_
 refine aB aD ?_
 refine a7 (m0 (n - i)) ?_
 refine a7 (m0 (64 - (pa + i) % 64)) ?_
 refine a7 (qK rfl rfl (by unfold gX; split <;> omega : (if ((64 - (pa + i) % 64 : Nat) : Int) < ((n - i : Nat) : Int) then ((64 - (pa + i) % 64 : Nat) : Int) else ((n - i : Nat) : Int)) = ((gX pa n i : Nat) : Int))) ?_
 refine i7 7 dq ?_
 refine Be rfl rfl rfl (Bh (QaO (l₁ := [_, _, _])) (hr i [_, _, _] (by omega) hI)) ?_
 rintro _ B_ ⟨b, B', rfl, hB_, hb⟩
 obtain rfl := hB_.symm
 refine oY QaO ?_
 simp only [Qar, Qan]
 refine aw ?_
 refine aA rfl (fun c4 => ?_) fun c4 => ?_
 have hs : Stop B' := by
  rcases hb with h | h
  exact absurd c4 (by rw [h.1]; decide)
  exact h.2
 refine aw ?_
 refine bA (.inl rfl) .nil ?_
 exact ⟨_, ⟨rfl, .inr hs⟩, IO⟩
 have hs : I (i + gX pa n i) ∧ B' = C (i + gX pa n i) := by
  rcases hb with h | h
  exact h.2
  exact absurd (by rw [h.1]; decide) c4
 obtain ⟨hI', rfl⟩ := hs
 refine aw ?_
 refine a7 (eC (i + gX pa n i)) ?_
 exact cv (i + gX pa n i) (⟨by omega, hI'⟩)
 refine bA (.inr rfl) .nil ?_
 have : i = n := by omega
 subst this
 exact ⟨_, ⟨rfl, .inl ⟨hI, rfl⟩⟩, IO⟩
theorem GW (pa n : Nat) : sP W0 316 [iQ pa, iQ n] R (fun v B => ∃ bn bp, v = .func (.func 381) #[] #[pQ bn, pQ bp] ∧ B = pt bn (a8 [iQ n] 3) :: pt bp (a8 [iQ pa] 3) :: R) := by
 refine ac func316 ntmps316 ?_
 refine cW (gE rfl rfl) fun b1 => ?_
 refine cW (gE rfl rfl) fun b2 => ?_
 refine aa ?_
 exact ⟨_, ⟨b2, b1, rfl, rfl⟩, IO⟩
theorem GX {W0 : World} {A : List HP} {e : aP} {n' L D bn bp : Nat} {ps : Array Tmp} {asg body : Code} {Go Stop : List HP → Prop} (pa n : Nat) (C : Nat → List HP) (I : Nat → Prop) (hpa : pa ≤ 100000) (hn : n ≤ 100000)
    (hp : A.Perm (pt bn (a8 [iQ n] 3) :: pt bp (a8 [iQ pa] 3) :: C 0)) (h0 : I 0) (hgo : I n → Go (C n))
    (hr : ∀ at_ R, at_ < n → I at_ → oe Tryz.prog W0 L [.agg (Cb pa n at_).toArray] (d5 L ⟨e, n', ps, asg, body, .ready, none, D⟩ :: pt D (.deferred (some [])) :: (C at_ ++ R))
      (fun v B => (v = .bool true ∧ I (at_ + gX pa n at_) ∧ B = d5 L ⟨e, n', ps, asg, body, .ready, none, D⟩ :: pt D (.deferred (some [])) :: (C (at_ + gX pa n at_) ++ R)) ∨
        (v = .bool false ∧ ∃ B', Stop B' ∧ B = d5 L ⟨e, n', ps, asg, body, .done, some .ret, D⟩ :: pt D (.deferred (some [])) :: (B' ++ R)))) :
    aZ Tryz.prog W0 381 (.func (.yield L) #[] #[] :: [pQ bn, pQ bp]) (d5 L ⟨e, n', ps, asg, body, .ready, none, D⟩ :: pt D (.deferred (some [])) :: A)
      (fun _ B => (∃ C, B = d5 L ⟨e, n', ps, asg, body, .ready, none, D⟩ :: pt D (.deferred (some [])) :: C ∧ Go C) ∨ (∃ C, B = d5 L ⟨e, n', ps, asg, body, .done, some .ret, D⟩ :: pt D (.deferred (some [])) :: C ∧ Stop C)) := by
 have hperm : (d5 L ⟨e, n', ps, asg, body, .ready, none, D⟩ :: pt D (.deferred (some [])) :: A).Perm (pt bn (a8 [iQ n] 3) :: pt bp (a8 [iQ pa] 3) :: (d5 L ⟨e, n', ps, asg, body, .ready, none, D⟩ :: pt D (.deferred (some [])) :: C 0)) := by
  refine ((hp.cons _).cons _).trans ?_
  exact (((List.Perm.swap _ _ _).trans ((List.Perm.swap _ _ _).cons _)).cons _).trans ((List.Perm.swap _ _ _).trans ((List.Perm.swap _ _ _).cons _)) |>.trans (QaC _)
 refine lZ hperm (iy (Wz W0 bn bp pa n L hpa hn (fun i => d5 L ⟨e, n', ps, asg, body, .ready, none, D⟩ :: pt D (.deferred (some [])) :: C i) I h0
   (fun B => ∃ B', Stop B' ∧ B = d5 L ⟨e, n', ps, asg, body, .done, some .ret, D⟩ :: pt D (.deferred (some [])) :: B') fun at_ R hat hI w hO => ?_) ?_)
 obtain ⟨f, tmps, as_, bd, hy, hR⟩ := hr at_ R hat hI w hO
 refine ⟨f, tmps, as_, bd, hy, RoundIn.mono hR ?_⟩
 rintro _ w' ⟨v, B, rfl, hB, hO'⟩
 rcases hB with ⟨rfl, hI', rfl⟩ | ⟨rfl, B', hS, rfl⟩
 grind
 grind
 rintro v B ⟨_, ⟨hI, rfl⟩ | ⟨B', hS, rfl⟩⟩
 exact ⟨_, .inl ⟨_, rfl, hgo hI⟩, ent_refl⟩
 exact ⟨_, .inr ⟨_, rfl, hS⟩, ent_refl⟩
def nK (a : Nat) : Int := ((a / 64 : Nat) : Int)
def nL (len : Nat) (pg : List Pl) (pa n : Nat) : Prop := ∀ i, i < n → mX len pg (nK (pa + i)) = true
instance {len : Nat} {pg : List Pl} {pa n : Nat} : Decidable (nL len pg pa n) := by unfold nL; exact Nat.decidableBallLT n _
def l9 (len : Nat) (pg : List Pl) (pa : Nat) (n : Int) : Bool := decide (0 ≤ n ∧ pa ≤ 512 ∧ n ≤ 512 - (pa : Int)) && decide (nL len pg pa n.toNat)
theorem wy {len : Nat} {pg : List Pl} {pa : Nat} {n : Int} : l9 len pg pa n = true ↔ (0 ≤ n ∧ pa ≤ 512 ∧ n ≤ 512 - (pa : Int)) ∧ nL len pg pa n.toNat := by simp [l9]
theorem yU {len : Nat} {pg : List Pl} {pa n : Nat} : l9 len pg pa n = true ↔ pa + n ≤ 512 ∧ nL len pg pa n := by
 grind [wy]
theorem WA {pa n at_ i : Nat} (h1 : at_ ≤ i) (h2 : i < at_ + gX pa n at_) : (pa + i) / 64 = (pa + at_) / 64 := by unfold gX at h2; omega
theorem GY {pa n at_ k : Nat} (h2 : k < gX pa n at_) : (pa + (at_ + k)) / 64 = (pa + at_) / 64 ∧ (pa + (at_ + k)) % 64 = (pa + at_) % 64 + k := by unfold gX at h2; omega
theorem GZ (pv ps pm d : Nat) (fr : List ap) (pg : List Pl) (h : Pgs pg) (pa : Nat) (hpa : pa < 4294967296) (n : Int) : sQ W0 235 [pQ pv, .int .u32 pa, iQ n] (pt pv (cu ps pm d) :: bj ps fr :: pt pm (bN pg) :: R) (.bool (l9 fr.length pg pa n)) (pt pv (cu ps pm d) :: bj ps fr :: pt pm (bN pg) :: R) := by
 refine ac func235 ntmps235 ?_
 refine cW (gE rfl rfl) fun b1 => ?_
 refine cW (mK Lz rfl) fun b2 => ?_
 refine dE 1 (aj Aw (wu pv ps pm d)) ?_
 refine cP rfl rfl rfl (fun g1_3 => ?_) fun g1_3 => ?_
 exact absurd g1_3 (by decide)
 refine aw ?_
 refine eR (fun g1_7 => ?_) fun g1_7 => ?_
 refine aB dq ?_
 refine bH (.cons (lX mD rfl (aE rfl)) .nil) ?_
 refine aQ ?_
 refine Qak Value.bool (Eq.symm ?_)
 rw [← QaB, wy]; omega
 refine eR (fun g1_11 => ?_) fun g1_11 => ?_
 refine aB dq ?_
 refine bH (.cons (lX mD rfl (aE rfl)) .nil) ?_
 refine aQ ?_
 refine Qak Value.bool (Eq.symm ?_)
 rw [← QaB, wy]; omega
 refine a7 (cR (by first | exact bU (by omega) | rfl)) ?_
 refine a7 i6 ?_
 refine ah (fun c1 => ?_) fun c1 => ?_
 refine aB dq ?_
 refine bH (.cons (lX mD rfl (aE rfl)) .nil) ?_
 refine aQ ?_
 refine Qak Value.bool (Eq.symm ?_)
 rw [← QaB, wy]; omega
 obtain ⟨k, rfl⟩ : ∃ k : Nat, n = (k : Int) := ⟨n.toNat, by omega⟩
 have hk : pa + k ≤ 512 := by omega
 refine a7 (cR (by first | exact bU (by omega) | rfl)) ?_
 refine ao rfl (ar call316 (GW pa k)) ?_
 rintro _ B_ ⟨bn, bp, rfl, hB_⟩
 obtain rfl := hB_.symm
 refine au 3 ?_
 refine yh (fun C => nL fr.length pg pa k ∧ C = pt pv (cu ps pm d) :: pt b2 (a8 [.bool false] 4) :: pt b1 (a8 [pQ pv] 94) :: bj ps fr :: pt pm (bN pg) :: R) (fun C => ¬ nL fr.length pg pa k ∧ C = pt pv (cu ps pm d) :: pt b2 (a8 [.bool false] 4) :: pt b1 (a8 [pQ pv] 94) :: bj ps fr :: pt pm (bN pg) :: R) rfl call381 ?_ ?_ ?_
 intro L D
 refine GX pa k (fun _ => pt pv (cu ps pm d) :: pt b2 (a8 [.bool false] 4) :: pt b1 (a8 [pQ pv] 94) :: bj ps fr :: pt pm (bN pg) :: R) (fun i => nL fr.length pg pa i) (by omega) (by omega) ya (fun i hi => by omega) (fun hI => ⟨hI, rfl⟩) ?_
 intro at_ R' h1 h2
 simp only [Qar, Qan]
 refine vM rfl rfl ?_
 refine aU (ao rfl (da Lx) ?_)
 rintro _ _ ⟨b3, rfl, rfl⟩
 refine i7 1 aD ?_
 refine vL rfl ?_
 refine kQ (aI (aU (ab rfl (ci KM rfl (aE rfl)) ?_)))
 refine ab rfl (d3 rfl xK rfl aO rfl (by first | exact Qac _ | rfl)) ?_
 refine ab rfl (ci cy rfl (aE rfl)) ?_
 refine ao rfl (vD call317 rfl (GU pv ps pm d fr pg h (((pa + at_) / 64 : Nat) : Int))) ?_
 rintro _ B_ ⟨rfl, hB_⟩
 obtain rfl := hB_.symm
 refine ab rfl (aW rfl) (ab rfl (jY rfl rfl) (ab rfl (jY rfl rfl) (ab rfl (bq rfl) (ab rfl (bq rfl) (aM (aC (aI (aU (ab rfl (aW rfl) (ab rfl (s8 rfl) (aM (aC ?_))))))))))))
 refine aA rfl (fun c6 => ?_) fun c6 => ?_
 refine aI ?_
 refine aU (eu (jZ nk rfl rfl rfl (Qaa rfl) SetL.eq) ?_)
 rintro _ _ rfl
 refine aM (aC (dC (np (Fi ?_))))
 have hn : ¬ nL fr.length pg pa k := fun q => c6 (q at_ h1)
 refine ⟨_, .inr ⟨rfl, _, ⟨hn, rfl⟩, rfl⟩, ?_⟩
 simp only [Qar]
 exact IO
 refine au 2 ?_
 refine ul ?_
 have hb : mX fr.length pg (nK (pa + at_)) = true := Qcd.1 c6
 have hI' : nL fr.length pg pa (at_ + gX pa k at_) := fun i hi => by
  rcases Qay i at_ with q | q
  exact h2 i q
  grind [nK, WA]
 exact ⟨_, .inl ⟨rfl, hI', rfl⟩, IO⟩
 intro D C hC
 obtain ⟨hown, rfl⟩ := hC
 refine aw ?_
 refine i7 3 dq ?_
 refine qF (.inl rfl) (.cons (lX mD rfl (aE rfl)) .nil) ?_
 refine aQ ?_
 refine Qak Value.bool (Eq.symm ?_)
 rw [yU]; exact ⟨hk, hown⟩
 intro D C hC
 obtain ⟨hown, rfl⟩ := hC
 refine au 2 ?_
 refine qF (.inl rfl) (.cons (lX mD rfl (aE rfl)) .nil) ?_
 refine aQ ?_
 refine Qak Value.bool (Eq.symm ?_)
 rw [← QaB, yU]; exact fun q => hown q.2
end
end Go.Proofs.YtjaalpinjajaoaaGreatDoor
