/-
  Part 3 of the proof of GuestClock: rules, and walks of functions. Conditions: none.
-/
import Derived.Test.YtedopnjjkddhaaaGreatDoorGuestClockB
namespace Go.Proofs.YtedopnjjkddhaaaGreatDoor
open Go.Proofs.Tryz
set_option linter.unusedSimpArgs false
set_option linter.unusedVariables false
set_option maxRecDepth 20000
set_option linter.defProp false
set_option synthInstance.maxSize 8192
set_option synthInstance.maxHeartbeats 2000000
variable {W0 : World} {R : List HP}
section
open Go.RowKit
section
variable {rd : Option Nat} {P : Program} {S : World → Prop} {W0 : World} {N : FSz} {Q : Exit → Act → World → Prop} {e : aW} {A B R R1 R2 : List HP} {ops : Array Oper} {rest : List Oper}
variable {op : Op} {ty t t' : TypeId} {pos : String} {af : Array Edge} {v u : Value} {d b off : Nat} {x y z : Operand} {l l' vs : List Value}
theorem xV {z : Array Value} {n : Nat} : (Builtin.zeroCells z n).toList.length = n * z.size := by simp [Builtin.zeroCells]
theorem Rp {E sz n k c by_ : Nat} {info : TypeInfo} {zz : Value} {an : Option Addr} {olds : List Value} {kk : Int} {kq kn : IntKind} (hu : P.underlying t = some (.slice E)) (htn : P.underlying t' = some (.int kn))
  (hi : P.info? E = some info) (hz : info.zero = some zz) (hsz : info.size = sz) (hby : info.bytes = by_) (hz1 : zz.cells.size = sz) (hsz0 : 0 < sz)
  (hx : ev e x = some (.slice an n c)) (hy : ev e y = some (.int kq kk)) (hk : kk = (k : Int)) (hold : (an = none ∧ olds = []) ∨ ∃ bx ox, an = some ⟨bx, ox, none⟩ ∧ bG (aO W0 A) bx ox olds) (hol : olds.length = n * sz)
  (h0 : 0 < k) (hg : c < n + k) (h63 : n + k ≤ maxLen) (hbig : (n + k) * by_ ≤ 140737488355328) :
  dj P W0 N e A (.call { callee := .builtin .append, args := #[x, y], argTypes := #[t, t'] }) (fun v B => ∃ a' c' zs, v = .slice a' (n + k) c' ∧ zs.length = k * sz ∧ B = osl E sz v (olds ++ zs) :: A) := sh fun a w dst ty pos af g hF hO => by
 subst hk
 subst hsz
 subst hby
 have hsmall : n + k ≤ 9223372036854775807 := by simp only [maxLen] at h63; omega
 have hfc : (Builtin.firstCells info.size n (.slice an n c)).run P w.drew = .ok olds.toArray w.drew := by
  rcases hold with ⟨rfl, rfl⟩ | ⟨bx, ox, rfl, hc⟩
  ·simp [Builtin.firstCells]
  exact run_firstCells_some (P := P) w.drew info.size n ⟨bx, ox, none⟩ n c olds hol (fun j u hj => by
   have := hc j u hj w hO
   simpa [ii] using this)
 have hbk : k * info.bytes ≤ 281474976710656 := by
  have := Nat.mul_le_mul_right info.bytes (show k ≤ n + k by omega); omega
 have hr := Go.Lib.run_append_grow_zeros (P := P) w t t' ty E info zz kq kn hu htn hi hz an n c olds hfc k h0 hsz0 hg (by omega) hbk (growslice_fits (by omega) hbig)
 have hge := grownCap_ge w (n + k) c E
 have hcm := grownCap_le_maxLen w (n + k) c E h63
 have hnew := (Own.drew hO (w.drawn + 1)).new (ac ((olds ++ (Builtin.zeroCells zz.cells k).toList) ++ (Builtin.zeroCells zz.cells (grownCap w (n + k) c E - (n + k))).toList) E)
 have ea : ((olds ++ (Builtin.zeroCells zz.cells k).toList) ++ (Builtin.zeroCells zz.cells (grownCap w (n + k) c E - (n + k))).toList).toArray = olds.toArray ++ Builtin.zeroCells zz.cells k ++ Builtin.zeroCells zz.cells (grownCap w (n + k) c E - (n + k)) := by apply Array.ext'; simp
 refine ⟨_, { ({ w with drawn := w.drawn + 1 } : World) with heap := w.heap.push (ac ((olds ++ (Builtin.zeroCells zz.cells k).toList) ++ (Builtin.zeroCells zz.cells (grownCap w (n + k) c E - (n + k))).toList) E) }, _, .inl ?_, ⟨some ⟨w.heap.size, 0, none⟩, grownCap w (n + k) c E, (Builtin.zeroCells zz.cells k).toList, rfl, by rw [xV, hz1], rfl⟩, ?_⟩
 ·simp only [execOp, resolve, invoke, builtin, Sem.run_bind, Sem.run_pure, Result.andThen_ok, List.map_toArray, List.map_cons, List.map_nil, hF.eval hx, hF.eval hy, hr]
  simp only [World.drew, World.alloc, ac, ea]
 refine hnew.ent ?_
 exact @eB _ A A E info.size w.heap.size (n + k) (grownCap w (n + k) c E) (olds ++ (Builtin.zeroCells zz.cells k).toList) _ _ hge hcm (by rw [List.length_append, hol, xV, hz1, Nat.add_mul]) (by
  rw [List.length_append, List.length_append, hol, xV, xV, hz1, ← Nat.add_mul, ← Nat.add_mul]; congr 1; omega) _
theorem Rq {f : FuncId} {xs : Array Operand} {ats : Array TypeId} (hx : eU e xs.toList = some vs) (hc : ∀ w, S w → (callFunc f vs.toArray).run P w = .ok (.value v) w) : cy P S N e (.call { callee := .value (.func f), args := xs, argTypes := ats }) v := fun a w dst ty pos af g hF hO => by
 rw [execOp_call_go]
 have he : (#[] ++ xs.map a.eval ++ #[] : Array Value) = vs.toArray := by
  have := hF.evals hx
  rw [← this]; apply Array.ext'; simp
 rw [he, hc w hO]
theorem Rr {n c : Nat} {a : Option Addr} (hu : P.underlying t = some (.slice d)) (hx : ev e x = some (.slice a n c)) : cy P S N e (.call { callee := .builtin .cap, args := #[x], argTypes := #[t] }) (.int .i64 (c : Nat)) := fun act w _ _ _ _ _ hF _ => by
 simp [execOp, resolve, invoke, builtin, hF.eval hx, Builtin.cap_, e7 hu, goInt]
theorem xW {p q s r : List Value} (h : q.length = r.length) : setR (p ++ q ++ s) p.length r = p ++ r ++ s := by
 rw [pD _ _ _ (by simp only [List.length_append]; omega), ← h, List.append_assoc p q s, List.take_left, ← List.drop_drop, List.drop_left, List.drop_left]
theorem FB {g o : Nat} {l1 l2 : List Value} (h : bG S g o (l1 ++ l2)) : bG S g o l1 := fun i v hi => h i v (by
 rw [List.getElem?_append_left (by
  rcases Nat.lt_or_ge i l1.length with q | q
  ·exact q
  rw [List.getElem?_eq_none q] at hi; cases hi)]
 exact hi)
theorem Rs {g o : Nat} {l1 l2 : List Value} (h : bG S g o (l1 ++ l2)) : bG S g (o + l1.length) l2 := fun i v hi => by
 rw [Nat.add_assoc]
 exact h (l1.length + i) v (by rw [List.getElem?_append_right (by omega), Nat.add_sub_cancel_left]; exact hi)
theorem FC {l1 l2 l3 : List Value} {o : Nat} [h : Tk pt b A (ac l ty) R] (hl : l = l1 ++ l2 ++ l3) (ho : l1.length = o) : bG (aO W0 A) b o l2 := by
 subst ho
 have h0 : bG (aO W0 A) b 0 (l1 ++ l2) := FB (l2 := l3) (by rw [← hl]; exact eC (ty := ty) (R := R) (h := h))
 have := Rs h0
 rwa [Nat.zero_add] at this
theorem Rt {E sz : Nat} {tS tR ba ga na ca nb cb oa ob : Nat} {la lb : List Value} {ta tb : TypeId} (ht : P.underlying tS = some (.slice E)) (hz : ∀ w, (sizeOf E).run P w = .ok sz w) [h1 : Tk pt ba A (ac la ta) R1] [h2 : Tk pt ga R1 (ac lb tb) R2] (hla : oa ≤ la.length) (hlb : 0 < lb.length) {w : World} (hO : Own W0 w A) :
  (Extern.SlicesOverlaps.overlaps #[tS, tS] #[tR] #[.slice (some ⟨ba, oa, none⟩) na ca, .slice (some ⟨ga, ob, none⟩) nb cb]).run P w = .ok (.bool false) w := by
 have hO1 := hO.tk (r := pt) (b := ba)
 have ha := hO1.has.2
 have hO2 := (hO1.drop).tk (r := pt) (b := ga)
 have hb := hO2.has.2
 have hne : ba ≠ ga := by
  intro q; subst q
  have hO3 : Own W0 w (pt ba (ac la ta) :: pt ba (ac lb tb) :: R2) := hO1.perm (h2.perm.cons _)
  obtain ⟨ls, ⟨l1, l2, rfl, e1, l3, l4, rfl, e2, _⟩, hn, _⟩ := hO3.owns
  cases e1; cases e2
  simp at hn
 refine Go.Lib.run_overlaps_apart w tS tR E ht sz hz ⟨ba, oa, none⟩ ⟨ga, ob, none⟩ na ca nb cb hne ta tb la.length lb.length ?_ ?_ (by omega) ?_ ?_
 ·simp [World.shape?, ha]
 ·simp [World.shape?, hb]
 ·simp [World.frozen?, ha]
 simp [World.frozen?, ha]
end
class NOut (Q : Exit → Act → World → Prop) : Prop where
  no : ∀ a w, ¬ Q .outgrown a w
instance a1Q {n : Act → World → Prop} {Q : Exit → Act → World → Prop} [h : NOut Q] : NOut (Exit.then n Q) := ⟨fun a w k => h.no a w k⟩
instance a1R {id : Nat} {Q : Exit → Act → World → Prop} [h : NOut Q] : NOut (Exit.inBlock id Q) := ⟨fun a w k => h.no a w k⟩
instance a1S {P : Program} {W0 : World} {L : Nat} {Post : Value → List HP → Prop} : NOut (sD P W0 L Post) := ⟨fun a w k => k⟩
instance a1T {P : Program} {W0 : World} {L : Nat} {Post : Value → List HP → Prop} : POk (sD P W0 L Post) := ⟨fun c a d v w k => k.elim⟩
section
variable {rd : Option Nat} {P : Program} {W0 : World} {N : FSz} {Q : Exit → Act → World → Prop} {e : aW} {A : List HP} {ops : Array Oper} {S : World → Prop}
theorem xX (hp : pz rd ops.toList = true) (hq : NOut Q) : ∀ (fuel : Nat) (listed : Array Bool) (a : Act) (w : World), wpAnyH P .any ops Q S fuel listed a w → wpAnyIn (FW rd) 0 P .any ops Q fuel listed a w
 | 0, _, _, _, h => h
 | fuel + 1, listed, a, w, h => ⟨h.1, fun i hi => by
  have h2 := h.2 i hi
  unfold wpOp at h2
  unfold wpOpIn
  cases ho : ops[i]? with
  | none =>
   rw [ho] at h2
   exact xX hp hq fuel _ a w h2.2
  | some o =>
   rw [ho] at h2
   simp only at h2 ⊢
   split at h2
   ·rename_i hwant
    rw [if_pos hwant]
    rcases h2 with h2 | ⟨_, a', w', h3⟩
    ·have hsem : o.semAt (FW rd).round a.eval = execOp a.eval o := by
      cases rd with
      | none => rfl
      | some l =>
       refine Oper.semAt_eq _ _ _ (Dv ?_)
       simp only [pz, Option.isNone_some, Bool.false_or, List.all_eq_true] at hp
       exact hp _ (by
        obtain ⟨hlt, rfl⟩ := Array.getElem?_eq_some_iff.1 ho
        simp)
     refine ⟨fun _ _ => trivial, ?_⟩
     rw [hsem]
     exact Du (fun a' w' h' => xX hp hq fuel _ a' w' h'.2) h2
    exact absurd h3 (hq.no a' w')
   rename_i hwant
   rw [if_neg hwant]
   exact ⟨fun _ _ => trivial, xX hp hq fuel _ _ w h2.2⟩⟩
theorem Ru {id : Nat} (cs : List (Nat × Nat × List Value)) (n : Nat) (hm : P.follows .mixedOrders = true) (hn : Nat.beq ops.size n = true) [hq : NOut Q] (hS : ∀ w, Own W0 w A → SC cs w) (k : (∀ w, Own W0 w A → SC cs w) → az W0 N (DR P ops Q cs n (Array.replicate n false)) e A) (hp : pz rd ops.toList = true := by rfl) : az W0 N ((Code.region id ops true).wpR rd P Q) e A := by
 intro a w hF hO
 have : ops.size = n := Nat.eq_of_beq_eq_true hn
 subst this
 exact wpIn_region_any hm (xX hp hq _ _ _ _ (k hS a _ hF (hO.drew _)))
end
abbrev Rn := Int × Int × Int
def cq (x : Rn) : List Value := [.int .i64 x.1, .int .i64 x.2.1, .int .i64 x.2.2]
theorem nD (x : Rn) : (cq x).length = 3 := rfl
theorem Bb (x : Rn) : fw (cq x) = true := by simp [cq, fw, Value.oneCell']
theorem Bc (l : List Rn) : fw (l.flatMap cq) = true := by
 induction l with
 | nil => rfl
 | cons x l ih =>
  rw [List.flatMap_cons, fw, List.all_append, Bool.and_eq_true]
  exact ⟨Bb x, ih⟩
@[reducible] def kc (a : Option Addr) (k c : Nat) (n : Int) : Obj := ac [.slice a k c, .int .i64 n, .bool true] 435
def nE (b : Nat) (x : List Rn × Int) : HP := chk (fun C => ∃ a c, C = [pt b (kc a x.1.length c x.2), osl 439 3 (.slice a x.1.length c) (x.1.flatMap cq)])
section
variable {W0 : World} {N : FSz} {K : Act → World → Prop} {e : aW} {A B R R1 R2 : List HP} {b n c : Nat} {x : List Rn × Int}
theorem Rv [hk : Tk nE b A x R] (h : ∀ a c, az W0 N K e (pt b (kc a x.1.length c x.2) :: osl 439 3 (.slice a x.1.length c) (x.1.flatMap cq) :: R)) : az W0 N K e A :=
 fK (r := nE) (b := b) (mt fun C hC => by obtain ⟨a, c, rfl⟩ := hC; exact h a c)
theorem oK {rs : List Rn} {k m : Nat} {nn : Int} {a : Option Addr} {ys : List Value} [h1 : Tk pt b A (kc a k m nn) R1] [h2 : Tk (osl 439 3) (.slice a k m) R1 ys R2] (hk : k = rs.length) (hy : ys = rs.flatMap cq) [q : Ent R2 B] : Ent A (nE b (rs, nn) :: B) := by
 subst hk; subst hy
 exact (Ent.ofPerm (h1.perm.trans (h2.perm.cons _))).trans ((fC (R := R2) (C := [_, _]) ⟨a, m, rfl⟩).trans (Ent.cons q))
theorem FD {α : Type} {E sz g c i : Nat} {f : α → List Value} {xs : List α} {x : α} {ys : List Value} [h : Tk (osl E sz) (.slice (some ⟨g, 0, none⟩) n c) A ys R] (hy : ys = xs.flatMap f) (hf : ∀ x, (f x).length = sz) (hz : 0 < sz) (hx : xs[i]? = some x) : bG (aO W0 A) g (i * sz) (f x) := by
 obtain ⟨b, off, e1, hc⟩ := OU (S := aO W0 A) (a := some ⟨g, 0, none⟩) (.inr ⟨g, rfl⟩) (Ao (E := E) (sz := sz) (n := n) (c := c) (ys := ys)) hf hy hz i x hx
 cases e1
 rw [Nat.zero_add] at hc; exact hc
end
theorem Rw (W0 : World) (b1 bt L : Nat) (rs : List Rn) (n : Int) (a : Option Addr) (c : Nat) (hl : rs.length ≤ 1000) (C : Nat → List HP) (I : Nat → Prop) (h0 : I 0) (Stop : List HP → Prop) (hr : ∀ i R, i < rs.length → I i → nj Tryz.prog W0 L [.int .i64 (i : Nat), .agg (cq (rs.getD i (0, 0, 0))).toArray] (C i ++ R) (fun v B => ∃ b B', v = .bool b ∧ B = B' ++ R ∧ ((b = true ∧ I (i + 1) ∧ B' = C (i + 1)) ∨ (b = false ∧ Stop B')))) : sP W0 397 [.func (.yield L) #[] #[], .pointer (some ⟨b1, 0, none⟩)] (pt b1 (ac [.pointer (some ⟨bt, 0, none⟩)] 374) :: pt bt (kc a rs.length c n) :: osl 439 3 (.slice a rs.length c) (rs.flatMap cq) :: C 0) (fun v B => v = .tuple #[] ∧ ∃ B', B = pt bt (kc a rs.length c n) :: osl 439 3 (.slice a rs.length c) (rs.flatMap cq) :: B' ∧ ((I rs.length ∧ B' = C rs.length) ∨ Stop B')) := by
 refine ai 11 func397 ntmps397 ?_
 refine cY (fun i : Nat => i ≤ rs.length ∧ I i) (fun i => [(0, .func (.yield L) #[] #[]), (8, .slice a rs.length c), (9, .int .i64 (rs.length : Nat)), (10, .int .i64 (i : Nat))]) (fun i => pt bt (kc a rs.length c n) :: osl 439 3 (.slice a rs.length c) (rs.flatMap cq) :: C i) (fun i => rs.length - i) 0 ?_ ?_
 ·exact ⟨Nat.zero_le _, h0⟩
 intro i ⟨hi, hI⟩
 refine au 6 ?_
 refine a8 rfl (fun c1 => ?_) fun c1 => ?_
 ·refine au 5 ?_
  have hi1 : i < rs.length := by omega
  have hgi : rs[i]? = some (rs.getD i (0, 0, 0)) := by simp [List.getD, hi1]
  refine sI (E := 439) (sz := 3) (a := a) (c := c) (n := rs.length) (ys := rs.flatMap cq) (fun hf => ?_)
  obtain ⟨g, rfl⟩ := sZ hf (by rw [← List.length_pos_iff, cz nD]; omega)
  refine au 2 ?_
  refine a7 rfl (bc gC ic rfl rfl rfl hi1 (by first | exact Nat.zero_add _ | rfl)) ?_
  refine a7 rfl (b0 JK ic rfl (FD (f := cq) (E := 439) (sz := 3) (n := rs.length) (c := c) rfl nD (by decide) hgi) rfl) ?_
  refine ax (aS CZ) fun b1 => ?_
  refine a7 rfl (bR rfl) (eI (aF ic rfl rfl rfl rfl rfl) ?_)
  rintro _ _ rfl
  refine au 4 ?_
  refine a7 rfl (aH rfl) (a7 rfl (aH rfl) (a7 rfl (kS JK ic rfl rfl) ?_))
  refine Af rfl rfl rfl (Aj (List.perm_append_comm (l₁ := [_, _, _])) (hr i [_, _, _] hi1 hI)) ?_
  rintro _ B_ ⟨b, B', rfl, hB_, hb⟩
  obtain rfl := hB_.symm
  refine mZ List.perm_append_comm ?_
  simp only [List.cons_append, List.nil_append]
  refine au 3 ?_
  refine a8 rfl (fun c3 => ?_) fun c3 => ?_
  ·have hs : Stop B' := by
    rcases hb with h | h
    ·exact absurd c3 (by rw [h.1]; decide)
    exact h.2
   refine au 5 ?_
   refine bT (.inl rfl) .nil ?_
   exact ⟨_, ⟨rfl, _, rfl, .inr hs⟩, inferInstance⟩
  have hs : I (i + 1) ∧ B' = C (i + 1) := by
   rcases hb with h | h
   ·exact h.2
   exact absurd (by rw [h.1]; decide) c3
  obtain ⟨hI', rfl⟩ := hs
  refine au 4 ?_
  refine ap 3 (cM rfl rfl) ?_
  exact bZ (i + 1) (⟨by omega, hI'⟩)
 refine au 4 ?_
 refine bT (.inr rfl) .nil ?_
 obtain rfl : i = rs.length := by omega
 exact ⟨_, ⟨rfl, _, rfl, .inl ⟨hI, rfl⟩⟩, inferInstance⟩
theorem Rx (bt : Nat) : sP W0 367 [.pointer (some ⟨bt, 0, none⟩)] R (fun v B => ∃ b1, v = .func (.func 397) #[] #[.pointer (some ⟨b1, 0, none⟩)] ∧ B = pt b1 (ac [.pointer (some ⟨bt, 0, none⟩)] 374) :: R) := by
 refine ai 2 func367 ntmps367 ?_
 refine ax (ik rfl rfl) fun b1 => ?_
 refine au 5 ?_
 refine ap 4 (dM rfl rfl) ?_
 refine ae ?_
 exact ⟨_, ⟨b1, rfl, rfl⟩, inferInstance⟩
theorem Ry {W0 : World} {A : List HP} {e : aW} {n' L D b1 bt c : Nat} {n : Int} {a : Option Addr} {ps' : Array Tmp} {asg body : Code} (pe : Code) {Go Stop : List HP → Prop} (rs : List Rn) (hl : rs.length ≤ 1000) (Ct : Nat → List HP) (I : Nat → Prop) (St : List HP → Prop)
  (hp : A.Perm (pt b1 (ac [.pointer (some ⟨bt, 0, none⟩)] 374) :: pt bt (kc a rs.length c n) :: osl 439 3 (.slice a rs.length c) (rs.flatMap cq) :: Ct 0)) (h0 : I 0)
  (hgo : I rs.length → Go (pt bt (kc a rs.length c n) :: osl 439 3 (.slice a rs.length c) (rs.flatMap cq) :: Ct rs.length))
  (hst : ∀ B', St B' → Stop (pt bt (kc a rs.length c n) :: osl 439 3 (.slice a rs.length c) (rs.flatMap cq) :: B'))
  (hrd : ∀ i R', i < rs.length → I i → nj Tryz.prog W0 L [.int .i64 (i : Nat), .agg (cq (rs.getD i (0, 0, 0))).toArray] (df L ⟨e, n', ps', asg, body, .ready, none, D⟩ :: pt D (.deferred (some [])) :: (Ct i ++ R'))
   (fun v B => (v = .bool true ∧ I (i + 1) ∧ B = df L ⟨e, n', ps', asg, body, .ready, none, D⟩ :: pt D (.deferred (some [])) :: (Ct (i + 1) ++ R')) ∨
    (v = .bool false ∧ ∃ B', St B' ∧ B = df L ⟨e, n', ps', asg, body, .done, some pe, D⟩ :: pt D (.deferred (some [])) :: (B' ++ R')))) :
  bN Tryz.prog W0 397 (.func (.yield L) #[] #[] :: [.pointer (some ⟨b1, 0, none⟩)]) (df L ⟨e, n', ps', asg, body, .ready, none, D⟩ :: pt D (.deferred (some [])) :: A)
   (fun _ B => (∃ C, B = df L ⟨e, n', ps', asg, body, .ready, none, D⟩ :: pt D (.deferred (some [])) :: C ∧ Go C) ∨ (∃ C, B = df L ⟨e, n', ps', asg, body, .done, some pe, D⟩ :: pt D (.deferred (some [])) :: C ∧ Stop C)) := by
 have hperm : (df L ⟨e, n', ps', asg, body, .ready, none, D⟩ :: pt D (.deferred (some [])) :: A).Perm (pt b1 (ac [.pointer (some ⟨bt, 0, none⟩)] 374) :: pt bt (kc a rs.length c n) :: osl 439 3 (.slice a rs.length c) (rs.flatMap cq) :: (df L ⟨e, n', ps', asg, body, .ready, none, D⟩ :: pt D (.deferred (some [])) :: Ct 0)) :=
  ((hp.cons _).cons _).trans (List.perm_append_comm_assoc [_, _] [_, _, _] (Ct 0))
 refine kU hperm (hJ (Rw W0 b1 bt L rs n a c hl (fun i => df L ⟨e, n', ps', asg, body, .ready, none, D⟩ :: pt D (.deferred (some [])) :: Ct i) I h0
  (fun B => ∃ B', St B' ∧ B = df L ⟨e, n', ps', asg, body, .done, some pe, D⟩ :: pt D (.deferred (some [])) :: B') fun i R hat hI w hO => ?_) ?_)
 ·obtain ⟨f, tmps, as_, bd, hy, hR⟩ := hrd i R hat hI w hO
  refine ⟨f, tmps, as_, bd, hy, RoundIn.mono hR ?_⟩
  rintro _ w' ⟨v, B, rfl, hB, hO'⟩
  rcases hB with ⟨rfl, hI', rfl⟩ | ⟨rfl, B', hS, rfl⟩
  ·exact ⟨_, _, rfl, ⟨true, _, rfl, rfl, .inl ⟨rfl, hI', rfl⟩⟩, hO'⟩
  exact ⟨_, _, rfl, ⟨false, df L ⟨e, n', ps', asg, body, .done, some pe, D⟩ :: pt D (.deferred (some [])) :: B', rfl, rfl, .inr ⟨rfl, B', hS, rfl⟩⟩, hO'⟩
 rintro v B ⟨_, B0, rfl, ⟨hI, rfl⟩ | ⟨B', hS, rfl⟩⟩
 ·exact ⟨_, .inl ⟨_, rfl, hgo hI⟩, Ent.ofPerm (List.perm_append_comm_assoc [_, _] [_, _] (Ct rs.length))⟩
 exact ⟨_, .inr ⟨_, rfl, hst B' hS⟩, Ent.ofPerm (List.perm_append_comm_assoc [_, _] [_, _] B')⟩
theorem Rz (x : Rn) (h : -1000 ≤ x.1 + x.2.1 ∧ x.1 + x.2.1 ≤ 1000) : sQ W0 368 [.agg (cq x).toArray] R (.int .i64 (x.1 + x.2.1)) R := by
 refine ai 2 func368 ntmps368 ?_
 refine ax (aV rfl) fun b1 => ?_
 refine a7 rfl (bR rfl) (au 4 ?_)
 refine a7 rfl (dp rfl D1 rfl aj rfl (by first | exact Nat.zero_add _ | rfl)) ?_
 refine a7 rfl (aA aX rfl (aN rfl)) ?_
 refine a7 rfl (dp rfl D1 rfl aj rfl (by first | exact Nat.zero_add _ | rfl)) ?_
 refine a7 rfl (aA aX rfl (aN rfl)) ?_
 refine a7 rfl (bO rfl rfl (aG (by omega))) ?_
 refine a7 rfl (bR rfl) (au 3 ?_)
 exact ae aL
def j8 : List Rn → Int → Nat
  | [], _ => 0
  | x :: l, f => if x.1 + x.2.1 ≤ f then j8 l f + 1 else 0
def lK (rs : List Rn) (f n : Int) : Bool := match rs[j8 rs f]? with
  | some x => decide (x.1 < f + n)
  | none => false
theorem Be : ∀ (rs : List Rn) (f : Int) (i : Nat), i ≤ rs.length → (∀ j (hj : j < rs.length), j < i → rs[j].1 + rs[j].2.1 ≤ f) → (∀ h : i < rs.length, ¬ rs[i].1 + rs[i].2.1 ≤ f) → j8 rs f = i
 | [], f, i, h, _, _ => by simp at h; rw [j8, h]
 | x :: l, f, 0, _, _, h2 => by
  have := h2 (by simp)
  rw [j8, if_neg (by simpa using this)]
 | x :: l, f, i + 1, h, h1, h2 => by
  have h0 := h1 0 (by simp) (by omega)
  rw [j8, if_pos (by simpa using h0), Be l f i (by simpa using h) (fun j hj hji => by
   have := h1 (j + 1) (by simpa using hj) (by omega)
   simpa using this) (fun hi => by
   have := h2 (by simpa using hi)
   simpa using this)]
theorem Bf : ∀ (rs : List Rn) (f : Int), j8 rs f ≤ rs.length
 | [], f => Nat.le_refl _
 | x :: l, f => by
  have := Bf l f
  rw [j8]; split
  ·simpa using this
  exact Nat.zero_le _
def nF (rs : List Rn) : Prop := ∀ x ∈ rs, 0 ≤ x.1 ∧ 1 ≤ x.2.1 ∧ x.1 + x.2.1 ≤ 64 ∧ 0 ≤ x.2.2 ∧ x.2.2 < 64
theorem nF.get {rs : List Rn} (h : nF rs) {i : Nat} (hi : i < rs.length) : 0 ≤ (rs.getD i (0, 0, 0)).1 ∧ 1 ≤ (rs.getD i (0, 0, 0)).2.1 ∧ (rs.getD i (0, 0, 0)).1 + (rs.getD i (0, 0, 0)).2.1 ≤ 64 ∧ 0 ≤ (rs.getD i (0, 0, 0)).2.2 ∧ (rs.getD i (0, 0, 0)).2.2 < 64 := by
 rw [show rs.getD i (0, 0, 0) = rs[i] by simp [List.getD, hi]]; exact h _ (List.getElem_mem hi)
theorem RA (b k c : Nat) (a : Option Addr) (n : Int) : sQ W0 325 [.pointer (some ⟨b, 0, none⟩)] (pt b (kc a k c n) :: R) (.bool false) (pt b (kc a k c n) :: R) := by
 refine ai 10 func325 ntmps325 ?_
 refine bB rfl rfl rfl (fun g1_3 => ?_) fun g1_3 => ?_
 ·cases g1_3
 refine au 14 ?_
 exact ae aL
theorem RB (n : Int) (h : 0 ≤ n ∧ n ≤ 64) : sP W0 261 [.int .i64 n] R (fun v B => ∃ b, v = .tuple #[.pointer (some ⟨b, 0, none⟩), .int .i64 0] ∧ B = nE b ([], n) :: R) := by
 refine ai 12 func261 ntmps261 ?_
 refine bB rfl rfl rfl (fun g1_3 => ?_) fun g1_3 => ?_
 ·omega
 refine au 6 ?_
 refine a8 rfl (fun c1 => ?_) fun c1 => ?_
 ·omega
 refine au 5 ?_
 refine a7 rfl (bq Ju zeroValue435 (am CF (am aj (am bI bj))) (aI rfl aj rfl rfl (Nat.le_of_ble_eq_true rfl) SetL.eq (aI rfl bI rfl rfl (Nat.le_of_ble_eq_true rfl) SetL.eq bi))) ?_
 refine ax (aV rfl) fun b1 => ?_
 refine au 5 ?_
 refine aJ ?_
 refine ⟨_, ⟨b1, rfl, rfl⟩, ?_⟩
 exact (Ent.cons (fR (E := 439) (sz := 3) (B := R))).trans (oK (rs := []) rfl rfl)
theorem RD (W0 : World) (R : List HP) (bt c : Nat) (rs : List Rn) (n : Int) (a : Option Addr) (hok : nF rs) (hl : rs.length ≤ 1000) (f k : Int) (hf : 0 ≤ f ∧ f ≤ 64 ∧ 1 ≤ k ∧ k ≤ 64) :
  bN Tryz.prog W0 326 [.pointer (some ⟨bt, 0, none⟩), .int .i64 f, .int .i64 k] (pt bt (kc a rs.length c n) :: osl 439 3 (.slice a rs.length c) (rs.flatMap cq) :: R)
   (fun v B => v = .tuple #[.int .i64 (j8 rs f : Nat), .bool (lK rs f k)] ∧ B = pt bt (kc a rs.length c n) :: osl 439 3 (.slice a rs.length c) (rs.flatMap cq) :: R) := by
 refine gY func326 ntmps326 rfl rfl ?_
 refine bD (bQ (aB rfl (ik rfl rfl) ?_))
 rintro _ _ ⟨bf, rfl, rfl⟩
 refine aB rfl (ik rfl rfl) ?_
 rintro _ _ ⟨bk, rfl, rfl⟩
 refine a7 rfl (bR rfl) (a7 rfl (bR rfl) (bX (aY (AM (bD (bQ (a7 rfl (aH rfl) (a7 rfl (wS rfl) ?_))))))))
 refine a7 rfl (dp rfl Ju rfl CF rfl (by first | exact Nat.zero_add _ | rfl)) ?_
 refine a7 rfl (aA isAgg433 rfl (aN rfl)) ?_
 refine a7 rfl (sg gC rfl) (aB rfl (o8 ml rfl) ?_)
 rintro _ _ ⟨ba, rfl, rfl⟩
 refine aB rfl (o8 JE rfl) ?_
 rintro _ _ ⟨bh, rfl, rfl⟩
 refine eI (bA aj rfl rfl rfl (Nat.le_of_ble_eq_true rfl) SetL.eq) ?_
 rintro _ _ rfl
 refine eI (bA bI rfl rfl rfl (Nat.le_of_ble_eq_true rfl) SetL.eq) ?_
 rintro _ _ rfl
 refine bX (aY (bD (zZ (aY (bD (bD (bQ (a7 rfl (aH rfl) (aB rfl (aD call367 rfl (Rx bt)) ?_)))))))))
 rintro _ B_ ⟨b1, rfl, hB_⟩
 obtain rfl := hB_.symm
 refine bX (aY (jS ?_))
 refine Q7 0 (fun C => (∀ j, j < rs.length → (rs.getD j (0, 0, 0)).1 + (rs.getD j (0, 0, 0)).2.1 ≤ f) ∧ C = pt bt (kc a rs.length c n) :: osl 439 3 (.slice a rs.length c) (rs.flatMap cq) :: pt bh (ac [.bool false] 4) :: pt ba (ac [.int .i64 (rs.length : Nat)] 3) :: pt bk (ac [.int .i64 k] 3) :: pt bf (ac [.int .i64 f] 3) :: R) (fun C => ∃ i, i < rs.length ∧ (∀ j, j < i → (rs.getD j (0, 0, 0)).1 + (rs.getD j (0, 0, 0)).2.1 ≤ f) ∧ (¬ (rs.getD i (0, 0, 0)).1 + (rs.getD i (0, 0, 0)).2.1 ≤ f) ∧ C = pt bt (kc a rs.length c n) :: osl 439 3 (.slice a rs.length c) (rs.flatMap cq) :: pt bh (ac [.bool (decide ((rs.getD i (0, 0, 0)).1 < f + k))] 4) :: pt ba (ac [.int .i64 (i : Nat)] 3) :: pt bk (ac [.int .i64 k] 3) :: pt bf (ac [.int .i64 f] 3) :: R) rfl call397 ?_ ?_ ?_
 ·intro L D
  refine Ry (.exit 0) rs hl (fun _ => pt bh (ac [.bool false] 4) :: pt ba (ac [.int .i64 (rs.length : Nat)] 3) :: pt bk (ac [.int .i64 k] 3) :: pt bf (ac [.int .i64 f] 3) :: R) (fun i => ∀ j, j < i → (rs.getD j (0, 0, 0)).1 + (rs.getD j (0, 0, 0)).2.1 ≤ f) (fun B => ∃ i, i < rs.length ∧ (∀ j, j < i → (rs.getD j (0, 0, 0)).1 + (rs.getD j (0, 0, 0)).2.1 ≤ f) ∧ (¬ (rs.getD i (0, 0, 0)).1 + (rs.getD i (0, 0, 0)).2.1 ≤ f) ∧ B = pt bh (ac [.bool (decide ((rs.getD i (0, 0, 0)).1 < f + k))] 4) :: pt ba (ac [.int .i64 (i : Nat)] 3) :: pt bk (ac [.int .i64 k] 3) :: pt bf (ac [.int .i64 f] 3) :: R) ((pF (r1 := pt) (b1 := b1) (r2 := pt) (b2 := bt) (r3 := osl 439 3) (b3 := .slice a rs.length c)).trans (List.Perm.refl _)) (fun j hj => absurd hj (Nat.not_lt_zero j)) (fun h => ⟨h, rfl⟩) (fun B' h => by obtain ⟨i, h1, h2, h3, rfl⟩ := h; exact ⟨i, h1, h2, h3, rfl⟩) ?_
  intro i R' hi hI
  have hx := hok.get hi
  obtain ⟨x, hxe⟩ : ∃ x, rs.getD i (0, 0, 0) = x := ⟨_, rfl⟩
  rw [hxe] at hx ⊢
  simp only [List.cons_append, List.nil_append]
  refine xh rfl rfl ?_
  refine bD (bQ (a7 rfl (bR rfl) (bX (aY (bQ (aB rfl (aS CZ) ?_))))))
  rintro _ _ ⟨bd, rfl, rfl⟩
  refine eI (aF ic rfl rfl rfl rfl rfl) ?_
  rintro _ _ rfl
  refine bX (xf rfl ?_)
  refine jS (bD (jS (bD ?_)))
  refine Ru [(bd, 0, _), (bf, 0, _)] 5 aT rfl (aa (aa ag)) (fun hS => ?_)
  refine av 0 rfl rfl rfl hS (b0 JK ic rfl (by first | exact co (k := 0) rfl | exact co (k := 1) rfl) rfl) ?_
  refine av 2 rfl rfl rfl hS (aA aX rfl (by first | exact dv (k := 0) rfl rfl | exact dv (k := 1) rfl rfl)) ?_
  refine bS 1 (by kernel_rfl) rfl rfl (aD call368 rfl (Rz x (by omega))) rfl ?_; clear hS
  rintro _ B_ ⟨rfl, hB_⟩
  obtain rfl := hB_.symm
  refine ⟨(aa (aa ag)), fun hS => ?_⟩
  refine av 3 rfl rfl rfl hS (A2 rfl rfl) ?_
  refine av 4 rfl rfl rfl hS (bR rfl) ?_
  refine so (by kernel_rfl) ?_; clear hS
  refine aY ?_
  refine a8 rfl (fun c5 => ?_) fun c5 => ?_
  ·refine s8 ?_
   refine wP rfl (s9 (uo (xg ?_)))
   have hI' : ∀ j, j < i + 1 → (rs.getD j (0, 0, 0)).1 + (rs.getD j (0, 0, 0)).2.1 ≤ f := fun j hj => by
    rcases Nat.lt_or_ge j i with q | q
    ·exact hI j q
    obtain rfl : j = i := by omega
    rw [hxe]; exact c5
   exact ⟨_, .inl ⟨rfl, hI', rfl⟩, inferInstance⟩
  refine bD (bQ ?_)
  refine a7 rfl (dp rfl D1 rfl aj rfl (by first | exact Nat.zero_add _ | rfl)) ?_
  refine a7 rfl (aA aX rfl (aN rfl)) ?_
  refine a7 rfl (aA aX rfl (aN rfl)) ?_
  refine a7 rfl (aA aX rfl (aN rfl)) ?_
  refine a7 rfl (bO rfl rfl (aG (by omega))) ?_
  refine a7 rfl (kR rfl rfl) (a7 rfl (bR rfl) (bX (aY ?_)))
  refine a8 rfl (fun c6 => ?_) fun c6 => ?_
  ·refine bQ ?_
   refine eI (bA bI rfl rfl rfl (Nat.le_of_ble_eq_true rfl) SetL.eq) ?_
   rintro _ _ rfl
   refine bX (lX (aY (bD (bQ (a7 rfl (aH rfl) (eI (bA aj rfl rfl rfl (Nat.le_of_ble_eq_true rfl) SetL.eq) ?_))))))
   rintro _ _ rfl
   refine bX (aY (s8 (wP rfl (EY ?_))))
   refine ⟨_, .inr ⟨rfl, _, ⟨i, hi, hI, by rw [hxe]; exact c5, rfl⟩, rfl⟩, ?_⟩
   simp only [List.cons_append]
   rw [hxe]
   first
    | (rw [decide_eq_true c6]; exact inferInstance)
    | (rw [decide_eq_false c6]; exact inferInstance)
  refine iF (lX (aY (bD (bQ (a7 rfl (aH rfl) (eI (bA aj rfl rfl rfl (Nat.le_of_ble_eq_true rfl) SetL.eq) ?_))))))
  rintro _ _ rfl
  refine bX (aY (s8 (wP rfl (EY ?_))))
  refine ⟨_, .inr ⟨rfl, _, ⟨i, hi, hI, by rw [hxe]; exact c5, rfl⟩, rfl⟩, ?_⟩
  simp only [List.cons_append]
  rw [hxe]
  first
   | (rw [decide_eq_true c6]; exact inferInstance)
   | (rw [decide_eq_false c6]; exact inferInstance)
 ·intro D C hC
  obtain ⟨hall, rfl⟩ := hC
  have hA : j8 rs f = rs.length := Be rs f rs.length (Nat.le_refl _) (fun j hj _ => by have := hall j hj; rwa [show rs.getD j (0, 0, 0) = rs[j] by simp [List.getD, hj]] at this) (fun h => absurd h (Nat.lt_irrefl _))
  have hH : lK rs f k = false := by rw [lK, hA, List.getElem?_eq_none (Nat.le_refl _)]
  refine lX (aY (bD ?_))
  refine aU [(ba, 0, _), (bh, 0, _)] 4 aT rfl (aa (aa ag)) (fun hS => ?_)
  refine av 0 rfl rfl rfl hS (aA aX rfl (by first | exact dv (k := 0) rfl rfl | exact dv (k := 1) rfl rfl)) ?_
  refine av 1 rfl rfl rfl hS (aA gz rfl (by first | exact dv (k := 0) rfl rfl | exact dv (k := 1) rfl rfl)) ?_
  refine av 2 rfl rfl rfl hS (bR rfl) ?_
  refine av 3 rfl rfl rfl hS (bR rfl) ?_
  refine so (by kernel_rfl) ?_; clear hS
  refine aY (gE (ov (sk (.inl rfl) (.cons (bK rfl) (.cons (bK rfl) .nil)) ?_)))
  rw [hA, hH]
  exact ⟨_, ⟨rfl, rfl⟩, inferInstance⟩
 intro D C hC
 obtain ⟨i, hi, h1, h2, rfl⟩ := hC
 have hgi : rs.getD i (0, 0, 0) = rs[i] := by simp [List.getD, hi]
 have hA : j8 rs f = i := Be rs f i (by omega) (fun j hj hji => by have := h1 j hji; rwa [show rs.getD j (0, 0, 0) = rs[j] by simp [List.getD, hj]] at this) (fun h => by rw [← hgi]; exact h2)
 have hH : lK rs f k = decide ((rs.getD i (0, 0, 0)).1 < f + k) := by rw [lK, hA, List.getElem?_eq_getElem hi, hgi]
 refine uo (aY (bD ?_))
 refine aU [(ba, 0, _), (bh, 0, _)] 4 aT rfl (aa (aa ag)) (fun hS => ?_)
 refine av 0 rfl rfl rfl hS (aA aX rfl (by first | exact dv (k := 0) rfl rfl | exact dv (k := 1) rfl rfl)) ?_
 refine av 1 rfl rfl rfl hS (aA gz rfl (by first | exact dv (k := 0) rfl rfl | exact dv (k := 1) rfl rfl)) ?_
 refine av 2 rfl rfl rfl hS (bR rfl) ?_
 refine av 3 rfl rfl rfl hS (bR rfl) ?_
 refine so (by kernel_rfl) ?_; clear hS
 refine aY (gE (ov (sk (.inl rfl) (.cons (bK rfl) (.cons (bK rfl) .nil)) ?_)))
 rw [hA, hH]
 exact ⟨_, ⟨rfl, rfl⟩, inferInstance⟩
theorem RE (l : List Rn) (a : Option Addr) (n c : Nat) (hl : l.length = n) (hN : n ≤ 1000) (hs : cG (aO W0 R) a 3 cq l) : sP W0 328 [.slice a n c] R (fun v B => ∃ a' c', v = .slice a' n c' ∧ B = osl 439 3 (.slice a' n c') (l.flatMap cq) :: R) := by
 subst hl
 refine ai 9 func328 ntmps328 ?_
 refine ap 2 (xi gC rfl rfl) ?_
 refine a8 rfl (fun c1 => ?_) fun c1 => ?_
 ·refine au 7 ?_
  refine ae ?_
  have h0 : l = [] := by
   rcases l with _ | ⟨x, l⟩
   ·rfl
   obtain ⟨b, o, h, _⟩ := hs 0 x rfl
   rw [c1] at h; cases h
  subst h0
  exact ⟨_, ⟨none, 0, rfl, rfl⟩, fR⟩
 have hsrc := hs.src (fun _ => rfl) (fun _ => trivial)
 refine au 4 ?_
 refine aB rfl (sF gC ic rfl) ?_
 rintro _ _ ⟨b1, rfl, rfl⟩
 refine a7 rfl (aH rfl) ?_
 refine aB rfl (B4 (sz := 3) (by_ := 24) (info := Tryz.t439) gC (by kernel_rfl) rfl rfl rfl rfl (by decide) rfl rfl (news := l.flatMap cq) (by
 rcases hsrc with h | ⟨bs, os, h1, h2⟩
 ·left; rw [h]; rfl
 right; exact ⟨bs, os, h1, h2.weak⟩) (by rw [cz nD]) (Bc l) (by simp only [maxLen]; omega) (by omega)) ?_
 rintro _ _ ⟨a1, c1, rfl, rfl⟩
 refine au 4 ?_
 refine ae ?_
 rw [Nat.zero_add, List.nil_append]
 exact ⟨_, ⟨a1, c1, rfl, rfl⟩, inferInstance⟩
def js (rs : List Rn) (i : Nat) (x : Rn) : List Rn := rs.take i ++ x :: rs.drop i
theorem Bg (rs : List Rn) (i : Nat) (x : Rn) : (js rs i x).flatMap cq = (rs.take i).flatMap cq ++ cq x ++ (rs.drop i).flatMap cq := by
 rw [js, List.flatMap_append, List.flatMap_cons, List.append_assoc]
theorem xY {rs : List Rn} {i : Nat} (x : Rn) (hi : i ≤ rs.length) : (js rs i x).length = rs.length + 1 := by
 rw [js, List.length_append, List.length_cons, List.length_take, List.length_drop]; omega
theorem xZ (rs : List Rn) (i : Nat) : rs.flatMap cq = (rs.take i).flatMap cq ++ (rs.drop i).flatMap cq := by rw [← List.flatMap_append, List.take_append_drop]
theorem RF (rs : List Rn) (a : Option Addr) (c bv : Nat) (x : Rn) (i : Nat) (hi : i ≤ rs.length) (hl : rs.length ≤ 1000) : sP W0 327 [.slice a rs.length c, .int .i64 (i : Nat), .slice (some ⟨bv, 0, none⟩) 1 1] (osl 439 3 (.slice a rs.length c) (rs.flatMap cq) :: pt bv (ac (cq x) 439) :: R) (fun v B => ∃ a' c', v = .slice a' (rs.length + 1) c' ∧ B = osl 439 3 (.slice a' (rs.length + 1) c') ((js rs i x).flatMap cq) :: R) := by
 have hLt : ((rs.take i).flatMap cq).length = i * 3 := by rw [cz nD, List.length_take, Nat.min_eq_left hi]
 have hLd : ((rs.drop i).flatMap cq).length = (rs.length - i) * 3 := by rw [cz nD, List.length_drop]
 have hLr : (rs.flatMap cq).length = rs.length * 3 := cz nD rs
 refine gY func327 ntmps327 rfl rfl ?_
 refine bD ?_
 refine xw (E := 439) (sz := 3) (a := a) (c := c) (n := rs.length) (fun hcap => ?_)
 refine au 8 ?_
 refine ap 16 (pR gC ic rfl (i := i) rfl rfl hi rfl) ?_
 refine a8 rfl (fun c3 => ?_) fun c3 => ?_
 ·exact absurd c3 (by decide)
 refine au 17 ?_
 refine a8 rfl (fun c6 => ?_) fun c6 => ?_
 ·refine au 4 ?_
  refine aB rfl (eV (sz := 3) (by_ := 24) (info := Tryz.t439) gC (by kernel_rfl) rfl rfl rfl rfl (by decide) rfl rfl eC rfl rfl (by simp only [maxLen]; omega) (by omega)) ?_
  rintro _ _ ⟨a1, c1, rfl, rfl⟩
  refine au 5 ?_
  refine ae ?_
  obtain rfl : i = rs.length := by omega
  refine ⟨_, ⟨a1, c1, rfl, rfl⟩, ?_⟩
  rw [Bg, List.take_of_length_le (Nat.le_refl _), List.drop_length, List.flatMap_nil, List.append_nil]
  exact inferInstance
 have hi1 : i < rs.length := by omega
 refine fK (r := osl 439 3) (b := .slice a rs.length c) (jW (fun h1 h2 => by rw [h2] at hLr; simp at hLr; omega) fun g n' cap sp h1 h2 h3 h4 h5 => ?_)
 cases h1
 refine au 7 ?_
 refine a7 rfl (bO rfl rfl (by rw [aG (by omega)]; omega : IntKind.wrap .i64 ((rs.length : Int) + ((1 : Nat) : Int)) = ((rs.length + 1 : Nat) : Int))) ?_
 refine a7 rfl (aH rfl) (ap 3 (Rr gC rfl) ?_)
 refine a8 rfl (fun c8 => ?_) fun c8 => ?_
 ·refine au 4 ?_
  refine ap 2 (m0 gC ic rfl rfl rfl (by omega)) ?_
  refine a7 rfl (bO rfl rfl (by rw [aG (by omega)]; omega : IntKind.wrap .i64 ((rs.length : Int) + ((1 : Nat) : Int)) = ((rs.length + 1 : Nat) : Int))) ?_
  refine a7 rfl (aH rfl) ?_
  refine a7 rfl (cZ rfl rfl (by rw [aG (by omega)]; omega : IntKind.wrap .i64 (((rs.length + 1 : Nat) : Int) - (i : Int)) = ((rs.length + 1 - i : Nat) : Int))) ?_
  refine aB rfl (Rp (sz := 3) (by_ := 24) (info := Tryz.t439) (k := rs.length + 1 - i) (olds := (rs.take i).flatMap cq) gC cW (by kernel_rfl) rfl rfl rfl rfl (by decide) rfl rfl rfl (.inr ⟨g, 0, rfl, FB (l2 := (rs.drop i).flatMap cq ++ sp) (by rw [← List.append_assoc, ← xZ]; exact eC (b := g))⟩) hLt (by omega) (by omega) (by simp only [maxLen]; omega) (by omega)) ?_
  rintro _ _ ⟨a9, k9, zs, rfl, hzs, rfl⟩
  rw [show i + (rs.length + 1 - i) = rs.length + 1 by omega]
  refine fK (r := osl 439 3) (b := .slice a9 (rs.length + 1) k9) (jW (fun q1 q2 => by
   have := congrArg List.length q2
   rw [List.length_append, hLt, hzs] at this; simp at this; omega) fun g9 n9 cap9 sp9 q1 q2 q3 q4 q5 => ?_)
  cases q1
  refine au 7 ?_
  refine a7 rfl (pR gC ic rfl (i := i) (a' := some ⟨g9, i * 3, none⟩) rfl rfl (by omega) (by rw [k8, if_neg (by omega)]; simp [ii])) ?_
  refine a7 rfl (aH rfl) ?_
  refine ar 3 (sH gC ic rfl rfl (m := 1) (vs := cq x) (Nat.min_eq_left (by omega)) (eC (b := bv)) rfl (Bb x) (by rw [List.length_append, List.length_append, hLt, hzs]; omega) rfl) ?_
  refine aU [] 9 aT rfl ag (fun hS => ?_)
  refine ah 0 3 hS ?_
  refine av 3 rfl rfl rfl hS (bO rfl rfl (by rw [aG (by omega)]; omega : IntKind.wrap .i64 ((i : Int) + ((1 : Nat) : Int)) = ((i + 1 : Nat) : Int))) ?_
  refine av 4 rfl rfl rfl hS (pR gC ic rfl (i := i + 1) (a' := some ⟨g9, (i + 1) * 3, none⟩) rfl rfl (by omega) (by rw [k8, if_neg (by omega)]; simp [ii])) ?_
  refine ah 5 2 hS ?_
  refine av 7 rfl rfl rfl hS (pR gC ic rfl (i := i) (a' := some ⟨g, i * 3, none⟩) rfl rfl (by omega) (by rw [k8, if_neg (by omega)]; simp [ii])) ?_
  refine bF 8 rfl rfl (sH gC ic rfl rfl (m := rs.length - i) (vs := (rs.drop i).flatMap cq) (Nat.min_eq_left (by omega)) (FC (b := g) (l1 := (rs.take i).flatMap cq) (l3 := sp) (by rw [← xZ]) hLt) hLd (Bc _) (by rw [ux, List.length_append, List.length_append, hLt, hzs]; omega) rfl) ag fun hS => ?_
  refine aK ?_
  refine au 9 ?_
  refine ae ?_
  obtain ⟨z1, z2, rfl, hz1⟩ : ∃ z1 z2, zs = z1 ++ z2 ∧ z1.length = 3 := ⟨zs.take 3, zs.drop 3, (List.take_append_drop 3 zs).symm, by rw [List.length_take]; omega⟩
  have hz2 : z2.length = (rs.length - i) * 3 := by rw [List.length_append] at hzs; omega
  have hL : setR (setR ((rs.take i).flatMap cq ++ (z1 ++ z2) ++ sp9) (i * 3) (cq x)) ((i + 1) * 3) ((rs.drop i).flatMap cq) = (js rs i x).flatMap cq ++ sp9 := by
   rw [Bg, ← hLt, show (rs.take i).flatMap cq ++ (z1 ++ z2) ++ sp9 = (rs.take i).flatMap cq ++ z1 ++ (z2 ++ sp9) by simp, xW (by rw [hz1]; rfl)]
   have e : (i + 1) * 3 = ((rs.take i).flatMap cq ++ cq x).length := by rw [List.length_append, hLt, nD, Nat.succ_mul]
   rw [e, ← List.append_assoc, xW (by rw [hz2, hLd])]
  rw [hL]
  have hlen : ((js rs i x).flatMap cq).length = (rs.length + 1) * 3 := by rw [cz nD, xY x hi]
  refine ⟨_, ⟨some ⟨g9, 0, none⟩, k9, rfl, rfl⟩, ?_⟩
  exact eB q2 q3 hlen (by rw [List.length_append, hlen]; rw [List.length_append, List.length_append, hLt, List.length_append, hz1, hz2] at q5; omega)
 refine au 7 ?_
 refine a7 rfl (bO rfl rfl (by rw [aG (by omega)]; omega : IntKind.wrap .i64 ((rs.length : Int) + ((1 : Nat) : Int)) = ((rs.length + 1 : Nat) : Int))) ?_
 refine ap 10 (m0 gC ic rfl rfl rfl (by omega)) ?_
 refine a7 rfl (bO rfl rfl (by rw [aG (by omega)]; omega : IntKind.wrap .i64 ((i : Int) + ((1 : Nat) : Int)) = ((i + 1 : Nat) : Int))) ?_
 refine a7 rfl (pR gC ic rfl (i := i + 1) (a' := some ⟨g, (i + 1) * 3, none⟩) rfl rfl (by omega) (by rw [k8, if_neg (by omega)]; simp [ii])) ?_
 refine ap 3 (Rq (v := .bool false) rfl (fun w hO => by have h1 := Rt (P := Tryz.prog) (tR := 4) (oa := 0) (na := 1) (ca := 1) (ob := (i + 1) * 3) (nb := rs.length + 1 - (i + 1)) (cb := c - (i + 1)) (ba := bv) (ga := g) (la := cq x) (lb := rs.flatMap cq ++ sp) gC ic (Nat.zero_le _) (by rw [h5]; omega) hO; rw [run_callFunc_extern func369 (by kernel_rfl) (by kernel_rfl) (by kernel_rfl) (e := Extern.SlicesOverlaps.overlaps #[433, 433] #[4]) (by kernel_rfl), h1]; rfl)) ?_
 refine a8 rfl (fun c14 => ?_) fun c14 => ?_
 ·refine bD ?_
  refine aU [] 9 aT rfl ag (fun hS => ?_)
  refine ah 0 3 hS ?_
  refine av 3 rfl rfl rfl hS (bO rfl rfl (by rw [aG (by omega)]; omega : IntKind.wrap .i64 ((i : Int) + ((1 : Nat) : Int)) = ((i + 1 : Nat) : Int))) ?_
  refine av 4 rfl rfl rfl hS (pR gC ic rfl (i := i + 1) (a' := some ⟨g, (i + 1) * 3, none⟩) rfl rfl (by omega) (by rw [k8, if_neg (by omega)]; simp [ii])) ?_
  refine ah 5 2 hS ?_
  refine av 7 rfl rfl rfl hS (pR gC ic rfl (i := i) (a' := some ⟨g, i * 3, none⟩) rfl rfl (by omega) (by rw [k8, if_neg (by omega)]; simp [ii])) ?_
  refine bF 8 rfl rfl (sH gC ic rfl rfl (m := rs.length - i) (vs := (rs.drop i).flatMap cq) ((Nat.min_eq_right (by omega)).trans (by omega)) (FC (b := g) (l1 := (rs.take i).flatMap cq) (l3 := sp) (by rw [← xZ]) hLt) hLd (Bc _) (by omega) rfl) ag fun hS => ?_
  refine aK ?_
  refine au 5 ?_
  refine a7 rfl (pR gC ic rfl (i := i) (a' := some ⟨g, i * 3, none⟩) rfl rfl (by omega) (by rw [k8, if_neg (by omega)]; simp [ii])) ?_
  refine a7 rfl (aH rfl) ?_
  refine ar 10 (sH gC ic rfl rfl (m := 1) (vs := cq x) (Nat.min_eq_left (by omega)) (eC (b := bv)) rfl (Bb x) (by rw [ux]; omega) rfl) ?_
  refine ae ?_
  have hsp : 3 ≤ sp.length := by rw [List.length_append, hLr] at h5; omega
  obtain ⟨s1, s2, rfl, hs1⟩ : ∃ s1 s2, sp = s1 ++ s2 ∧ s1.length = 3 := ⟨sp.take 3, sp.drop 3, (List.take_append_drop 3 sp).symm, by rw [List.length_take]; omega⟩
  obtain ⟨q1, q2, hq, hq1⟩ : ∃ q1 q2, (rs.drop i).flatMap cq ++ s1 = q1 ++ q2 ∧ q1.length = 3 := ⟨((rs.drop i).flatMap cq ++ s1).take 3, ((rs.drop i).flatMap cq ++ s1).drop 3, (List.take_append_drop 3 _).symm, by rw [List.length_take, List.length_append]; omega⟩
  have hq2 : q2.length = ((rs.drop i).flatMap cq).length := by
   have := congrArg List.length hq
   rw [List.length_append, List.length_append] at this; omega
  have hL : setR (setR (rs.flatMap cq ++ (s1 ++ s2)) ((i + 1) * 3) ((rs.drop i).flatMap cq)) (i * 3) (cq x) = (js rs i x).flatMap cq ++ s2 := by
   have h0 : rs.flatMap cq ++ (s1 ++ s2) = (rs.take i).flatMap cq ++ q1 ++ q2 ++ s2 := by
    conv => lhs; rw [xZ rs i]
    rw [List.append_assoc, ← List.append_assoc ((rs.drop i).flatMap cq), hq]
    simp only [List.append_assoc]
   have e : (i + 1) * 3 = ((rs.take i).flatMap cq ++ q1).length := by rw [List.length_append, hLt, hq1, Nat.succ_mul]
   have h6 : (rs.take i).flatMap cq ++ q1 ++ (rs.drop i).flatMap cq ++ s2 = (rs.take i).flatMap cq ++ q1 ++ ((rs.drop i).flatMap cq ++ s2) := by simp only [List.append_assoc]
   have h7 := xW (p := (rs.take i).flatMap cq) (q := q1) (s := (rs.drop i).flatMap cq ++ s2) (r := cq x) (by rw [hq1]; rfl)
   rw [hLt] at h7
   rw [h0, e, xW hq2, h6, h7, Bg]
   simp only [List.append_assoc]
  rw [hL]
  have hlen : ((js rs i x).flatMap cq).length = (rs.length + 1) * 3 := by rw [cz nD, xY x hi]
  refine ⟨_, ⟨some ⟨g, 0, none⟩, c, rfl, rfl⟩, ?_⟩
  exact eB (by omega) h3 hlen (by rw [List.length_append, hlen]; rw [List.length_append, List.length_append, hLr, hs1] at h5; omega)
 first | exact absurd rfl c14 | exact absurd (by decide) c14
def fW (rs : List Rn) (n f k w : Int) : Int := if f < 0 ∨ k < 1 ∨ n < f ∨ n - f < k ∨ w < 0 ∨ 64 ≤ w then 1 else if lK rs f k then 5 else 0
def iS (rs : List Rn) (n f k w : Int) : List Rn := if fW rs n f k w = 0 then js rs (j8 rs f) (f, k, w) else rs
theorem FE {rs : List Rn} {n f k w : Int} (h : nF rs) (hn : n ≤ 64) : nF (iS rs n f k w) := by
 unfold iS; split
 ·rename_i he
  have hb : ¬ (f < 0 ∨ k < 1 ∨ n < f ∨ n - f < k ∨ w < 0 ∨ 64 ≤ w) := fun q => by rw [fW, if_pos q] at he; exact absurd he (by decide)
  intro x hx
  rw [js] at hx
  rcases List.mem_append.1 hx with q | q
  ·exact h x (List.mem_of_mem_take q)
  rcases List.mem_cons.1 q with rfl | q
  ·exact ⟨by show 0 ≤ f; omega, by show 1 ≤ k; omega, by show f + k ≤ 64; omega, by show 0 ≤ w; omega, by show w < 64; omega⟩
  exact h x (List.mem_of_mem_drop q)
 exact h
theorem RG {rs : List Rn} {n f k w : Int} : (iS rs n f k w).length ≤ rs.length + 1 := by
 unfold iS; split
 ·rw [xY _ (Bf _ _)]; omega
 omega
theorem RH (b : Nat) (rs : List Rn) (n : Int) (hn : 0 ≤ n ∧ n ≤ 64) (hok : nF rs) (hl : rs.length ≤ 900) (f k w : Int) : sQ W0 263 [.pointer (some ⟨b, 0, none⟩), .int .i64 f, .int .i64 k, .int .i64 w] (nE b (rs, n) :: R) (.int .i64 (fW rs n f k w)) (nE b (iS rs n f k w, n) :: R) := by
 refine gY func263 ntmps263 rfl rfl ?_
 refine bD ?_
 refine Rv (b := b) fun a c => ?_
 dsimp only
 refine au 9 ?_
 refine ar 3 (ao call325 rfl (RA b rs.length c a n)) ?_
 refine a8 rfl (fun c1 => ?_) fun c1 => ?_
 ·exact absurd c1 (by decide)
 refine au 8 ?_
 refine a8 rfl (fun c3 => ?_) fun c3 => ?_
 ·refine au 11 ?_
  refine ae ?_
  have he : fW rs n f k w = 1 := by rw [fW, if_pos (by omega)]
  rw [iS, he, if_neg (by decide)]
  exact ⟨_, ⟨rfl, rfl⟩, oK rfl rfl⟩
 refine au 7 ?_
 refine a8 rfl (fun c4 => ?_) fun c4 => ?_
 ·refine au 11 ?_
  refine ae ?_
  have he : fW rs n f k w = 1 := by rw [fW, if_pos (by omega)]
  rw [iS, he, if_neg (by decide)]
  exact ⟨_, ⟨rfl, rfl⟩, oK rfl rfl⟩
 refine au 11 ?_
 refine a8 rfl (fun c5 => ?_) fun c5 => ?_
 ·refine au 11 ?_
  refine ae ?_
  have he : fW rs n f k w = 1 := by rw [fW, if_pos (by omega)]
  rw [iS, he, if_neg (by decide)]
  exact ⟨_, ⟨rfl, rfl⟩, oK rfl rfl⟩
 refine au 8 ?_
 refine ap 4 (cZ rfl rfl (aG (by omega))) ?_
 refine a8 rfl (fun c6 => ?_) fun c6 => ?_
 ·refine au 11 ?_
  refine ae ?_
  have he : fW rs n f k w = 1 := by rw [fW, if_pos (by omega)]
  rw [iS, he, if_neg (by decide)]
  exact ⟨_, ⟨rfl, rfl⟩, oK rfl rfl⟩
 refine au 7 ?_
 refine a8 rfl (fun c7 => ?_) fun c7 => ?_
 ·refine au 11 ?_
  refine ae ?_
  have he : fW rs n f k w = 1 := by rw [fW, if_pos (by omega)]
  rw [iS, he, if_neg (by decide)]
  exact ⟨_, ⟨rfl, rfl⟩, oK rfl rfl⟩
 refine au 6 ?_
 refine a8 rfl (fun c8 => ?_) fun c8 => ?_
 ·refine au 8 ?_
  refine ae ?_
  have he : fW rs n f k w = 1 := by rw [fW, if_pos (by omega)]
  rw [iS, he, if_neg (by decide)]
  exact ⟨_, ⟨rfl, rfl⟩, oK rfl rfl⟩
 refine au 8 ?_
 refine ar 13 (cK call326 rfl (RD W0 _ b c rs n a hok (by omega) f k (by omega))) ?_
 refine a8 rfl (fun c11 => ?_) fun c11 => ?_
 ·refine au 7 ?_
  refine ae ?_
  have he : fW rs n f k w = 5 := by rw [fW, if_neg (by omega), if_pos c11]
  rw [iS, he, if_neg (by decide)]
  exact ⟨_, ⟨rfl, rfl⟩, oK rfl rfl⟩
 refine au 3 ?_
 have he : fW rs n f k w = 0 := by rw [fW, if_neg (by omega), if_neg c11]
 have hal := Bf rs f
 refine lB (E := 439) (sz := 3) (a := a) (n := rs.length) (c := c) cq rs nD (by decide) rfl (fun hs => ?_)
 refine au 6 ?_
 refine aB rfl (aD call328 rfl (RE rs a rs.length c rfl (by omega) hs)) ?_
 rintro _ B_ ⟨a2, cc, rfl, hB_⟩
 obtain rfl := hB_.symm
 refine au 4 ?_
 refine a7 rfl (bq D1 CZ (am aj (am aj (am aj bj))) (aI rfl aj rfl rfl (Nat.le_of_ble_eq_true rfl) SetL.eq (aI rfl aj rfl rfl (Nat.le_of_ble_eq_true rfl) SetL.eq (aI rfl aj rfl rfl (Nat.le_of_ble_eq_true rfl) SetL.eq bi)))) ?_
 refine ax (iM gC ic CZ rfl (eW rfl rfl gZ) rfl (by decide) (by decide) (by decide)) fun bv => ?_
 refine aB rfl (cK call327 rfl (RF rs a2 cc bv (f, k, w) (j8 rs f) hal (by omega))) ?_
 rintro _ B_ ⟨a3, c3', rfl, hB_⟩
 obtain rfl := hB_.symm
 refine au 2 ?_
 refine aE 8 (bA CF rfl rfl rfl (Nat.le_of_ble_eq_true rfl) SetL.eq) ?_
 refine ae ?_
 rw [iS, he, if_pos rfl]
 exact ⟨_, ⟨rfl, rfl⟩, oK (xY _ hal).symm rfl⟩
def gk : List Rn → Int → Option Int
  | [], _ => none
  | x :: l, i => if x.1 ≤ i ∧ i < x.1 + x.2.1 then some x.2.2 else gk l i
theorem RI {rs : List Rn} (h : nF rs) : ∀ {x w : Int}, gk rs x = some w → 0 ≤ w ∧ w < 64 := by
 intro x w hw
 induction rs with
 | nil => cases hw
 | cons y l ih =>
  rw [gk] at hw
  split at hw
  ·cases hw
   have := h y (by simp)
   exact ⟨this.2.2.2.1, this.2.2.2.2⟩
  exact ih (fun z hz => h z (by simp [hz])) hw
def ru (rs : List Rn) : Prop := rs.Pairwise fun x y => x.1 + x.2.1 ≤ y.1
theorem FF (x : Rn) (l : List Rn) (f k : Int) : lK (x :: l) f k = if x.1 + x.2.1 ≤ f then lK l f k else decide (x.1 < f + k) := by
 unfold lK; rw [j8]
 by_cases h : x.1 + x.2.1 ≤ f
 ·simp only [if_pos h, List.getElem?_cons_succ]
 simp only [if_neg h, List.getElem?_cons_zero]
theorem FG (x y : Rn) (l : List Rn) (f : Int) : js (x :: l) (j8 (x :: l) f) y = if x.1 + x.2.1 ≤ f then x :: js l (j8 l f) y else y :: x :: l := by
 unfold js; rw [j8]
 by_cases h : x.1 + x.2.1 ≤ f
 ·simp only [if_pos h, List.take_succ_cons, List.drop_succ_cons, List.cons_append]
 simp only [if_neg h, List.take_zero, List.drop_zero, List.nil_append]
theorem RJ {l : List Rn} {i : Int} (h : gk l i ≠ none) : ∃ y ∈ l, y.1 ≤ i ∧ i < y.1 + y.2.1 := by
 induction l with
 | nil => exact absurd rfl h
 | cons x l ih =>
  rw [gk] at h
  by_cases q : x.1 ≤ i ∧ i < x.1 + x.2.1
  ·exact ⟨x, by simp, q⟩
  rw [if_neg q] at h
  obtain ⟨y, hy, h2⟩ := ih h
  exact ⟨y, by simp [hy], h2⟩
theorem FH : ∀ {rs : List Rn} {f k : Int}, ru rs → (∀ x ∈ rs, 1 ≤ x.2.1) → 1 ≤ k → (lK rs f k = true ↔ ∃ i, f ≤ i ∧ i < f + k ∧ gk rs i ≠ none)
 | [], f, k, _, _, _ => by
  constructor
  ·intro h; simp [lK] at h
  ·rintro ⟨i, _, _, h⟩; exact absurd rfl h
 | x :: l, f, k, hs, hp, hk => by
  obtain ⟨h1, h2⟩ := List.pairwise_cons.1 hs
  have hx := hp x (by simp)
  rw [FF]
  by_cases q : x.1 + x.2.1 ≤ f
  ·rw [if_pos q, FH h2 (fun y hy => hp y (by simp [hy])) hk]
   constructor
   ·rintro ⟨i, a, b, c⟩; exact ⟨i, a, b, by rw [gk, if_neg (by omega)]; exact c⟩
   rintro ⟨i, a, b, c⟩; rw [gk, if_neg (by omega)] at c; exact ⟨i, a, b, c⟩
  rw [if_neg q, decide_eq_true_iff]
  constructor
  ·intro h
   by_cases q2 : f ≤ x.1
   ·exact ⟨x.1, q2, h, by rw [gk, if_pos (by omega)]; simp⟩
   exact ⟨f, Int.le_refl _, by omega, by rw [gk, if_pos (by omega)]; simp⟩
  rintro ⟨i, a, b, c⟩
  rw [gk] at c
  by_cases q2 : x.1 ≤ i ∧ i < x.1 + x.2.1
  ·omega
  rw [if_neg q2] at c
  obtain ⟨y, hy, h3⟩ := RJ c
  have := h1 y hy
  omega
theorem FI : ∀ {rs : List Rn} {f k w : Int} (i : Int), gk (js rs (j8 rs f) (f, k, w)) i = if f ≤ i ∧ i < f + k then some w else gk rs i
 | [], f, k, w, i => by
  show gk [(f, k, w)] i = _
  rw [gk, gk]; rfl
 | x :: l, f, k, w, i => by
  rw [FG]
  by_cases q : x.1 + x.2.1 ≤ f
  ·rw [if_pos q, gk, FI i, gk]
   by_cases q2 : x.1 ≤ i ∧ i < x.1 + x.2.1
   ·rw [if_pos q2, if_pos q2, if_neg (by omega)]
   rw [if_neg q2, if_neg q2]
  rw [if_neg q, gk]
theorem RL {x y : Rn} {l : List Rn} {i : Nat} (h : x ∈ js l i y) : x = y ∨ x ∈ l := by
 unfold js at h
 rcases List.mem_append.1 h with q | q
 ·exact .inr (List.mem_of_mem_take q)
 rcases List.mem_cons.1 q with q | q
 ·exact .inl q
 exact .inr (List.mem_of_mem_drop q)
theorem FJ : ∀ {rs : List Rn} {f k w : Int}, ru rs → (∀ x ∈ rs, 1 ≤ x.2.1) → lK rs f k = false → ru (js rs (j8 rs f) (f, k, w))
 | [], f, k, w, _, _, _ => List.pairwise_singleton _ _
 | x :: l, f, k, w, hs, hp, hm => by
  obtain ⟨h1, h2⟩ := List.pairwise_cons.1 hs
  have hx := hp x (by simp)
  rw [FF] at hm
  rw [FG]
  by_cases q : x.1 + x.2.1 ≤ f
  ·rw [if_pos q] at hm ⊢
   refine List.pairwise_cons.2 ⟨fun y hy => ?_, FJ h2 (fun y hy => hp y (by simp [hy])) hm⟩
   rcases RL hy with rfl | hy
   ·exact q
   exact h1 y hy
  rw [if_neg q] at hm ⊢
  have hm := of_decide_eq_false hm
  refine List.pairwise_cons.2 ⟨fun y hy => ?_, hs⟩
  rcases List.mem_cons.1 hy with rfl | hy
  ·show f + k ≤ _; omega
  have := h1 y hy
  show f + k ≤ _; omega
theorem FK {rs : List Rn} {n f k w : Int} (h : ru rs) (hp : ∀ x ∈ rs, 1 ≤ x.2.1) : ru (iS rs n f k w) := by
 unfold iS; split
 ·rename_i he
  unfold fW at he
  split at he
  ·exact absurd he (by decide)
  split at he
  ·exact absurd he (by decide)
  rename_i q; exact FJ h hp (by simpa using q)
 exact h
structure RT (rs : List Rn) (L : List Int) : Prop where
  at_ : ∀ i : Nat, i < L.length → L.getD i (-1) = (gk rs i).getD (-1)
  s : ru rs
  ok : nF rs
def gm (L : List Int) (f k w : Int) : Int := if f < 0 ∨ k < 1 ∨ (L.length : Int) < f ∨ L.length - f < k ∨ w < 0 ∨ 64 ≤ w then 1 else if (List.range k.toNat).any (fun i => decide (0 ≤ L.getD (f.toNat + i) (-1))) then 5 else 0
def kI (L : List Int) (f k w : Int) : List Int := if gm L f k w = 0 then (List.range L.length).map fun (i : Nat) => if f ≤ i ∧ (i : Int) < f + k then w else L.getD i (-1) else L
theorem FL {L : List Int} {f k w : Int} : (kI L f k w).length = L.length := by unfold kI; split <;> simp
theorem FM {rs : List Rn} (h : nF rs) {i : Int} : 0 ≤ (gk rs i).getD (-1) ↔ gk rs i ≠ none := by
 cases e : gk rs i with
 | none => simp
 | some w => have := RI h e; simp; omega
theorem RN {rs : List Rn} {L : List Int} (h : RT rs L) {f k : Int} (hb : 0 ≤ f ∧ 1 ≤ k ∧ f + k ≤ L.length) : (List.range k.toNat).any (fun i => decide (0 ≤ L.getD (f.toNat + i) (-1))) = lK rs f k := by
 rw [Bool.eq_iff_iff, FH h.s (fun x hx => (h.ok x hx).2.1) hb.2.1, List.any_eq_true]
 constructor
 ·rintro ⟨i, hi, hd⟩
  have hi := List.mem_range.1 hi
  have hd := of_decide_eq_true hd
  rw [h.at_ _ (by omega)] at hd
  exact ⟨((f.toNat + i : Nat) : Int), by omega, by omega, (FM h.ok).1 hd⟩
 rintro ⟨i, a, b, c⟩
 refine ⟨(i - f).toNat, List.mem_range.2 (by omega), decide_eq_true ?_⟩
 rw [h.at_ _ (by omega), show ((f.toNat + (i - f).toNat : Nat) : Int) = i by omega]
 exact (FM h.ok).2 c
theorem FN {rs : List Rn} {L : List Int} (h : RT rs L) {n : Int} (hn : n = L.length) (f k w : Int) : gm L f k w = fW rs n f k w := by
 unfold gm fW
 rw [hn]
 by_cases q : f < 0 ∨ k < 1 ∨ (L.length : Int) < f ∨ L.length - f < k ∨ w < 0 ∨ 64 ≤ w
 ·rw [if_pos q, if_pos q]
 rw [if_neg q, if_neg q, RN h (by omega)]
theorem RO {rs : List Rn} {L : List Int} (h : RT rs L) {n : Int} (hn : n = L.length) (h64 : n ≤ 64) (f k w : Int) : RT (iS rs n f k w) (kI L f k w) := by
 refine ⟨fun i hi => ?_, FK h.s (fun x hx => (h.ok x hx).2.1), FE h.ok h64⟩
 rw [FL] at hi
 unfold kI iS
 rw [FN h hn]
 by_cases q : fW rs n f k w = 0
 ·rw [if_pos q, if_pos q, FI]
  simp only [List.getD, List.getElem?_map, List.getElem?_range hi, Option.map_some, Option.getD_some]
  by_cases q2 : f ≤ (i : Int) ∧ (i : Int) < f + k
  ·rw [if_pos q2, if_pos q2]; rfl
  rw [if_neg q2, if_neg q2]; exact h.at_ i hi
 rw [if_neg q, if_neg q]; exact h.at_ i hi
theorem RP (n : Nat) : RT [] (List.replicate n (-1)) := ⟨fun i hi => by simp at hi; simp [List.getD, hi, gk], List.Pairwise.nil, fun x hx => by simp at hx⟩
section
variable {P : Program} {W0 : World} {N : FSz} {e : aW} {A R : List HP} {t : TypeId} {v : Value} {x y : Operand} {l' ys : List Value}
theorem RQ {E sz n c g j : Nat} [h : Tk (osl E sz) (.slice (some ⟨g, 0, none⟩) n c) A ys R] (hs : ∀ w, (sizeOf t).run P w = .ok 1 w) (hx : ev e x = some (.pointer (some ⟨g, j, none⟩))) (hy : ev e y = some v)
  (h1 : v.oneCell' = true) (hj : j < ys.length) (hl : ys.set j v = l') : dj P W0 N e A (.store t x y) (fun _ B => B = osl E sz (.slice (some ⟨g, 0, none⟩) n c) l' :: R) := by
 intro a w dst ty pos af gd K Q hF hO k
 rcases (hO.tk (r := osl E sz) (b := .slice (some ⟨g, 0, none⟩) n c)).osl with ⟨k1, _, _⟩ | ⟨g', n', cap, sp, k1, k2, k3, k4, k5, k6⟩
 ·cases k1
 cases k1
 refine bA (b := g) (l := ys ++ sp) hs hx hy h1 (by rw [List.length_append]; omega) rfl a w dst ty pos af gd K Q hF k6 fun v' w' B hp hO' => ?_
 subst hp
 refine k v' w' _ rfl (hO'.ent ?_)
 have e1 : (ys ++ sp).set j v = l' ++ sp := by rw [List.set_append_left _ _ hj, hl]
 rw [e1]
 exact eB k2 k3 (by rw [← hl, List.length_set]; exact k4) (by rw [← hl, List.length_append, List.length_set, ← List.length_append]; exact k5)
theorem dW {S : World → Prop} {E n c j sz o' b off : Nat} {k : IntKind} {i : Int} {a' : Option Addr} (hu : P.underlying t = some (.slice E)) (hs : ∀ w, (sizeOf E).run P w = .ok sz w) (hx : ev e x = some (.slice a' n c)) (ha : a' = some ⟨b, off, none⟩) (hy : ev e y = some (.int k i))
  (hi : i = (j : Int)) (hj : j < n) (ho : off + j * sz = o') : cy P S N e (.indexAddr t x y) (.pointer (some ⟨b, o', none⟩)) := by
 subst ha; exact bc hu hs hx hy hi hj ho
instance (priority := high) ent_nil {A : List HP} : Ent A [] := ⟨fun l _ => ⟨[], l, rfl, List.Perm.refl _⟩⟩
end
abbrev fz (c : Cfg) : Obj := ac (di c) 35
def nG (c : Cfg) (i : Nat) : Rn := c.rl.getD i (0, 0, 0)
def hZ (c : Cfg) : Nat → List Rn
  | 0 => []
  | i + 1 => if fh (nG c i).1 c.cats = true then iS (hZ c i) 32 (nG c i).2.1 (nG c i).2.2 i else hZ c i
theorem FO (c : Cfg) : ∀ i, nF (hZ c i) ∧ (hZ c i).length ≤ i ∧ ru (hZ c i)
 | 0 => ⟨fun x hx => by simp [hZ] at hx, Nat.le_refl _, List.Pairwise.nil⟩
 | i + 1 => by
  obtain ⟨h1, h2, h3⟩ := FO c i
  rw [hZ]; split
  ·exact ⟨FE h1 (by decide), Nat.le_trans RG (by omega), FK h3 fun x hx => (h1 x hx).2.1⟩
  exact ⟨h1, by omega, h3⟩
def oL (c : Cfg) (i : Nat) : Bool := !(fh (nG c i).1 c.cats && decide (fW (hZ c i) 32 (nG c i).2.1 (nG c i).2.2 i = 0))
theorem RR (W0 : World) (b1 b4 bt : Nat) (c : Cfg) (hl : c.rl.length ≤ 8) (hs : ∀ A, cG (aO W0 A) c.ra 3 fF c.rl) :
  WF W0 262 [.pointer (some ⟨b1, 0, none⟩), .pointer (some ⟨b4, 0, none⟩)] c.rl.length (fun i => cn [pt b1 (fz c), pt b4 (ac [.pointer (some ⟨bt, 0, none⟩)] 374), nE bt (hZ c i, 32)]) (oL c) := ⟨call262, fun i hi R => by
 refine mu ?_
 simp only [List.cons_append, List.nil_append]
 obtain ⟨g, o, hra, hc⟩ := (hs (pt b1 (fz c) :: R)).at_ hi
 obtain ⟨x, hx⟩ : ∃ x, c.rl[i] = x := ⟨_, rfl⟩
 have hA : nG c i = x := by simp [nG, List.getD, hi, hx]
 rw [hx] at hc
 obtain ⟨h1, h2, h3⟩ := FO c i
 have hT : hZ c (i + 1) = if fh x.1 c.cats = true then iS (hZ c i) 32 x.2.1 x.2.2 i else hZ c i := by rw [hZ, hA]
 have hW : oL c i = !(fh x.1 c.cats && decide (fW (hZ c i) 32 x.2.1 x.2.2 i = 0)) := by rw [oL, hA]
 rw [hT, hW]
 generalize hZ c i = T at h1 h2 h3 ⊢
 refine ai 10 func262 ntmps262 ?_
 refine a7 rfl (dW Jq wA rfl hra rfl rfl hi (by first | exact Nat.zero_add _ | rfl)) ?_
 refine a7 rfl (b0 isAgg378 wA rfl hc.weak rfl) ?_
 refine ax (aS a0f) fun bx => ?_
 refine eI (aF wA rfl rfl rfl rfl rfl) ?_
 rintro _ _ rfl
 refine au 4 ?_
 refine a7 rfl (dp rfl wC rfl aj rfl (by first | exact Nat.zero_add _ | rfl)) ?_
 refine a7 rfl (aA aX rfl (aN rfl)) ?_
 refine a7 rfl (dp rfl wo rfl aj rfl (by first | exact Nat.zero_add _ | rfl)) ?_
 refine a7 rfl (aA aX rfl (aN rfl)) ?_
 refine aB rfl (aD JJ rfl (B9 x.1 c.cats)) ?_
 rintro _ B_ ⟨rfl, hB_⟩
 obtain rfl := hB_.symm
 refine a7 rfl (lZ rfl) (a7 rfl (aH rfl) ?_)
 refine bB rfl rfl rfl ?_ ?_
 ·intro g2_7
  have hv : fh x.1 c.cats = false := by first | exact g2_7 | simpa using g2_7
  rw [hv]
  refine au 12 ?_
  refine ae ?_
  refine ⟨_, ⟨?_, rfl⟩, ?_⟩
  ·refine congrArg Value.bool ?_
   first
    | rfl
    | (rw [Bool.true_and, bne, Bool.eq_iff_iff]; simp)
  first
   | (rw [if_pos rfl]; exact inferInstance)
   | (rw [if_neg (by decide)]; exact inferInstance)
 ·intro g2_7
  have hv : fh x.1 c.cats = true := by first | exact g2_7 | simpa using g2_7
  rw [hv]
  refine a7 rfl (aA isAgg374 rfl (aN rfl)) ?_
  refine cP rfl rfl ?_
  refine a7 rfl (dp rfl wC rfl aj rfl (by first | exact Nat.zero_add _ | rfl)) ?_
  refine cP rfl rfl (a7 rfl (aA aX rfl (aN rfl)) ?_)
  refine cP rfl rfl ?_
  refine a7 rfl (dp rfl wC rfl aj rfl (by first | exact Nat.zero_add _ | rfl)) ?_
  refine cP rfl rfl (a7 rfl (aA aX rfl (aN rfl)) ?_)
  refine cP rfl rfl (a7 rfl (aH rfl) (cP rfl rfl ?_))
  refine aB rfl (ao call263 rfl (RH bt T 32 (by decide) h1 (by omega) x.2.1 x.2.2 i)) ?_
  rintro _ B_ ⟨rfl, hB_⟩
  obtain rfl := hB_.symm
  refine cP rfl rfl (a7 rfl (n1 rfl rfl) (a7 rfl (iY rfl rfl) (a7 rfl (bR rfl) (au 3 ?_))))
  refine ae ?_
  refine ⟨_, ⟨?_, rfl⟩, ?_⟩
  ·refine congrArg Value.bool ?_
   first
    | rfl
    | (rw [Bool.true_and, bne, Bool.eq_iff_iff]; simp)
  ·first
    | (rw [if_pos rfl]; exact inferInstance)
    | (rw [if_neg (by decide)]; exact inferInstance)
 ⟩
def lL (c : Cfg) : Bool := decide (8 < c.rl.length) || kG (oL c) c.rl.length
theorem RS (c : Cfg) (hs : ∀ A, cG (aO W0 A) c.ra 3 fF c.rl) : sP W0 179 [.agg (di c).toArray] R (fun v B => ∃ r, v = .tuple #[.int .i64 r, .bool (lL c)] ∧ B = R) := by
 refine ai 2 func179 ntmps179 ?_
 refine ax (aV rfl) fun b1 => ?_
 refine au 13 ?_
 refine a8 rfl (fun c1 => ?_) fun c1 => ?_
 ·refine au 8 ?_
  refine aJ ?_
  rw [lL, decide_eq_true (by omega), Bool.true_or]
  exact ⟨_, ⟨0, rfl, rfl⟩, inferInstance⟩
 refine au 4 ?_
 refine aB rfl (aD call261 rfl (RB 32 (by decide))) ?_
 rintro _ B_ ⟨bt, rfl, hB_⟩
 obtain rfl := hB_.symm
 refine au 3 ?_
 refine ax (o8 zeroValue374 rfl) fun b4 => ?_
 refine aE 4 (bA sizeOf374 rfl rfl rfl (Nat.le_of_ble_eq_true rfl) SetL.eq) ?_
 refine gD (B := kH 0 (cn [pt b1 (fz c), pt b4 (ac [.pointer (some ⟨bt, 0, none⟩)] 374), nE bt ([], 32)]) :: R) inferInstance ?_
 refine xm ?_
 simp only [List.cons_append, List.nil_append]
 refine au 4 ?_
 refine a7 rfl (dM rfl rfl) ?_
 refine aB rfl (od (B := kH 0 (cn [pt b1 (fz c), pt b4 (ac [.pointer (some ⟨bt, 0, none⟩)] 374), nE bt ([], 32)]) :: R) inferInstance (aD zD rfl (FA 262 [.pointer (some ⟨b1, 0, none⟩), .pointer (some ⟨b4, 0, none⟩)] c.rl.length (fun i => cn [pt b1 (fz c), pt b4 (ac [.pointer (some ⟨bt, 0, none⟩)] 374), nE bt (hZ c i, 32)]) (oL c) (RR W0 b1 b4 bt c (by omega) hs) (by omega)))) ?_
 rintro _ B_ ⟨r, rfl, hB_⟩
 obtain rfl := hB_.symm
 refine au 7 ?_
 refine aJ ?_
 rw [lL, decide_eq_false (by omega), Bool.false_or]
 exact ⟨_, ⟨r, rfl, rfl⟩, inferInstance⟩
def lc (c : Cfg) (g : Int) (k : Nat) : Bool := (c.pl.take k).any fun q => decide (q.2 = g)
theorem RU (c : Cfg) (g : Int) (k : Nat) (hk : k < c.pl.length) (hl : c.pl.length ≤ 8) (hcap : c.pl.length ≤ c.pc) (hs : ∀ A, cG (aO W0 A) c.pa 2 fM c.pl) : sQ W0 266 [.agg (di c).toArray, .int .i64 g, .int .i64 k] R (.bool (lc c g k)) R := by
 refine ai 2 func266 ntmps266 ?_
 refine ax (aV rfl) fun b1 => ?_
 refine au 9 ?_
 refine ap 5 (m0 uf mY rfl rfl (h := k) rfl (by omega)) ?_
 refine cY (fun i : Nat => i ≤ k ∧ ∀ j, j < i → (c.pl.getD j (0, 0)).2 ≠ g) (fun i => [(1, .int .i64 g), (12, .slice c.pa k c.pc), (13, .int .i64 k), (14, .int .i64 i)]) (fun _ => R) (fun i => k - i) 0 ?_ ?_
 ·exact ⟨Nat.zero_le _, fun j hj => absurd hj (Nat.not_lt_zero _)⟩
 intro i ⟨hi, hI⟩
 refine au 6 ?_
 refine a8 rfl (fun c2 => ?_) fun c2 => ?_
 ·refine au 5 ?_
  have hi1 : i < c.pl.length := by omega
  have hik : i < k := by omega
  obtain ⟨gp, o, hpa, hc⟩ := (hs R).at_ hi1
  obtain ⟨x, hx⟩ : ∃ x, c.pl[i] = x := ⟨_, rfl⟩
  have hgd : c.pl.getD i (0, 0) = x := by simp [List.getD, hi1, hx]
  rw [hx] at hc
  refine bQ ?_
  refine a7 rfl (dW uf mY rfl hpa rfl rfl hik (by first | exact Nat.zero_add _ | rfl)) ?_
  refine a7 rfl (b0 JL mY rfl hc.weak rfl) ?_
  refine ax (aS JM) fun bx => ?_
  refine aE 10 (aF mY rfl rfl rfl rfl rfl) ?_
  refine a8 rfl (fun c4 => ?_) fun c4 => ?_
  ·refine au 11 ?_
   refine ae ?_
   have ht : lc c g k = true := by
    rw [lc, List.any_eq_true]
    exact ⟨x, by rw [← hx]; exact List.mem_take_iff_getElem.2 ⟨i, by omega, rfl⟩, decide_eq_true c4⟩
   rw [ht]
   exact ⟨_, ⟨rfl, rfl⟩, inferInstance⟩
  refine au 4 ?_
  refine ap 3 (cM rfl rfl) ?_
  refine bZ (i + 1) ?_
  ·refine ⟨by omega, fun j hj => ?_⟩
   rcases Nat.lt_or_ge j i with q | q
   ·exact hI j q
   rw [show j = i by omega, hgd]; exact c4
 refine au 11 ?_
 refine ae ?_
 have ht : lc c g k = false := by
  rw [lc, List.any_eq_false]
  intro x hx
  obtain ⟨j, hj, rfl⟩ := List.mem_take_iff_getElem.1 hx
  have := hI j (by omega)
  rw [show c.pl.getD j (0, 0) = c.pl[j]'(by omega) by simp [List.getD, show j < c.pl.length by omega]] at this
  simpa using this
 rw [ht]
 exact ⟨_, ⟨rfl, rfl⟩, inferInstance⟩
def nH (c : Cfg) (i : Nat) : Bool := !fh (c.pl.getD i (0, 0)).1 c.cats || (decide ((c.pl.getD i (0, 0)).2 ≠ -1) && (!fG c (c.pl.getD i (0, 0)).2 || decide ((c.pl.getD i (0, 0)).1 ≠ iw c (c.pl.getD i (0, 0)).2) || lc c (c.pl.getD i (0, 0)).2 i))
theorem RV (W0 : World) (b1 : Nat) (c : Cfg) (hl : c.pl.length ≤ 8) (hcap : c.pl.length ≤ c.pc) (hs : ∀ A, cG (aO W0 A) c.pa 2 fM c.pl) (hgs : ∀ A, cG (aO W0 A) c.ga 3 fF c.gl) :
  WF W0 264 [.pointer (some ⟨b1, 0, none⟩)] c.pl.length (fun _ => cn [pt b1 (fz c)]) (nH c) := ⟨call264, fun i hi R => by
 refine mu ?_
 simp only [List.cons_append, List.nil_append]
 obtain ⟨g, o, hpa, hc⟩ := (hs (pt b1 (fz c) :: R)).at_ hi
 obtain ⟨⟨p, q⟩, hx⟩ : ∃ x, c.pl[i] = x := ⟨_, rfl⟩
 have hgd : c.pl.getD i (0, 0) = (p, q) := by simp [List.getD, hi, hx]
 have hW : nH c i = (!fh p c.cats || (decide (q ≠ -1) && (!fG c q || decide (p ≠ iw c q) || lc c q i))) := by rw [nH, hgd]
 rw [hx] at hc
 rw [hW]
 have hrow : ∃ (gg og j : Nat) (vs : List Value), (∀ A, bG (aO W0 A) gg (og + j * 3) vs) ∧ (fG c q = true → c.ga = some ⟨gg, og, none⟩ ∧ q = (j : Int) ∧ j < c.gl.length ∧ ∃ u : Int × Int × Int, vs = fF u ∧ iw c q = u.1) := by
  cases hG : fG c q with
  | false => exact ⟨0, 0, 0, [], fun A k v hk => by simp at hk, fun h => by cases h⟩
  | true =>
   have hb : 0 ≤ q ∧ q < c.gl.length := of_decide_eq_true hG
   obtain ⟨j, rfl⟩ : ∃ j : Nat, q = (j : Int) := ⟨q.toNat, by omega⟩
   have hj : j < c.gl.length := by omega
   obtain ⟨gg, og, hga, _⟩ := (hgs []).at_ hj
   refine ⟨gg, og, j, fF c.gl[j], fun A => ?_, fun _ => ⟨hga, rfl, hj, c.gl[j], rfl, ?_⟩⟩
   ·obtain ⟨g2, o2, h2, hc2⟩ := (hgs A).at_ hj
    rw [hga] at h2; cases h2; exact hc2
   rw [iw, Int.toNat_natCast]; simp [List.getD, hj]
 obtain ⟨gg, og, j, vs, hcv, hrw⟩ := hrow
 obtain ⟨w, hw⟩ : ∃ w, fG c q = w := ⟨_, rfl⟩
 rw [hw] at hrw ⊢
 refine ai 10 func264 ntmps264 ?_
 refine a7 rfl (dW uf mY rfl hpa rfl rfl hi (by first | exact Nat.zero_add _ | rfl)) ?_
 refine a7 rfl (b0 JL mY rfl hc.weak rfl) ?_
 refine ax (aS JM) fun bx => ?_
 refine aE 10 (aF mY rfl rfl rfl rfl rfl) ?_
 refine ar 4 (aD JJ rfl (B9 p c.cats)) ?_
 refine a8 rfl ?_ ?_
 ·intro c2
  refine au 8 ?_
  refine ae ?_
  have hv : fh p c.cats = false := by first | exact c2 | simpa using c2
  rw [hv]
  exact ⟨_, ⟨rfl, rfl⟩, inferInstance⟩
 ·intro c2
  have hv : fh p c.cats = true := by first | exact c2 | simpa using c2
  rw [hv]
  refine au 8 ?_
  refine a8 rfl ?_ ?_
  ·intro c4
   refine au 8 ?_
   refine ae ?_
   rw [decide_eq_false (by omega)]
   exact ⟨_, ⟨rfl, rfl⟩, inferInstance⟩
  ·intro c4
   refine au 5 ?_
   refine aM (aD ul rfl (rq c q)) ?_
   rw [hw]
   refine au 4 ?_
   refine a8 rfl ?_ ?_
   ·intro c6
    refine au 8 ?_
    refine ae ?_
    have hw0 : w = false := by first | exact c6 | simpa using c6
    rw [hw0, decide_eq_true (by omega)]
    exact ⟨_, ⟨rfl, rfl⟩, inferInstance⟩
   ·intro c6
    obtain rfl : w = true := by first | exact c6 | simpa using c6
    obtain ⟨hga, hqj, hj, u, rfl, hlu⟩ := hrw rfl
    rw [hlu, decide_eq_true (by omega : q ≠ -1)]
    have hne : ¬ q = -1 := by omega
    refine au 4 ?_
    refine aU [(b1, 0, di c), (bx, 0, fM (p, q)), (gg, og + j * 3, fF u)] 18 aT rfl (aa (aa (cR (hcv _) ag))) (fun hS => ?_)
    refine ah 0 6 hS ?_
    refine av 6 rfl rfl rfl hS (dW iX fQ rfl hga rfl hqj hj (by first | exact Nat.zero_add _ | rfl)) ?_
    refine ah 7 1 hS ?_
    refine av 8 rfl rfl rfl hS (aA aX rfl (io (k := 2) (j := 0) rfl rfl)) ?_
    refine ah 9 2 hS ?_
    refine ip (t := 37) rfl ?_ ?_
    ·intro g8_11
     refine ah 11 7 hS ?_
     refine aK ?_
     refine au 2 ?_
     refine ae ?_
     refine aR ?_
     refine congrArg Value.bool ?_
     rw [Bool.eq_iff_iff]
     simp_all
    ·intro g8_11
     refine av 11 rfl rfl rfl hS (b0 rU mi rfl (by first | exact co (k := 0) rfl | exact co (k := 1) rfl | exact co (k := 2) rfl | exact co (k := 3) rfl) rfl) ?_
     refine ah 12 3 hS ?_
     refine bF 15 rfl rfl (aD call266 rfl (RU c q i hi hl hcap hs)) (aa (aa (cR (hcv _) ag))) fun hS => ?_
     refine ah 16 2 hS ?_
     refine aK ?_
     refine au 2 ?_
     refine ae ?_
     refine aR ?_
     refine congrArg Value.bool ?_
     rw [Bool.eq_iff_iff]
     simp_all
 ⟩
def lM (c : Cfg) : Bool := decide (8 < c.pl.length) || kG (nH c) c.pl.length
theorem RX (c : Cfg) (hcap : c.pl.length ≤ c.pc) (hs : ∀ A, cG (aO W0 A) c.pa 2 fM c.pl) (hgs : ∀ A, cG (aO W0 A) c.ga 3 fF c.gl) : sP W0 180 [.agg (di c).toArray] R (fun v B => ∃ r, v = .tuple #[.int .i64 r, .bool (lM c)] ∧ B = R) := by
 refine ai 2 func180 ntmps180 ?_
 refine ax (aV rfl) fun b1 => ?_
 refine au 13 ?_
 refine a8 rfl (fun c1 => ?_) fun c1 => ?_
 ·refine au 8 ?_
  refine aJ ?_
  rw [lM, decide_eq_true (by omega), Bool.true_or]
  exact ⟨_, ⟨0, rfl, rfl⟩, inferInstance⟩
 refine au 7 ?_
 refine a7 rfl (dM rfl rfl) ?_
 refine aB rfl (ao zD rfl (xU 264 [.pointer (some ⟨b1, 0, none⟩)] c.pl.length b1 _ (nH c) (RV W0 b1 c (by omega) hcap hs hgs) (by omega))) ?_
 rintro _ B_ ⟨r, rfl, hB_⟩
 obtain rfl := hB_.symm
 refine au 7 ?_
 refine aJ ?_
 rw [lM, decide_eq_false (by omega), Bool.false_or]
 exact ⟨_, ⟨r, rfl, rfl⟩, inferInstance⟩
structure CfOk (W0 : World) (c : Cfg) : Prop where
  g : ∀ A, cG (aO W0 A) c.ga 3 fF c.gl
  r : ∀ A, cG (aO W0 A) c.ra 3 fF c.rl
  p : ∀ A, cG (aO W0 A) c.pa 2 fM c.pl
  n : ∀ A, cG (aO W0 A) c.na 2 fM c.nl
  s : ∀ A, cG (aO W0 A) c.sa 2 fM c.sl
  pc : c.pl.length ≤ c.pc
def RY (W0 : World) (c : Cfg) (C : HP) (l : List (Value × Int × Bool)) : Prop := ∀ x ∈ l, ∃ fn cs, x.1 = .func (.func fn) #[] cs.toArray ∧ (∀ args w, (callFunc fn args).run Tryz.prog w = .ok (.enter fn args) w) ∧
  ∀ R, bN Tryz.prog W0 fn ([] ++ [.agg (di c).toArray] ++ cs) (kH 0 C :: R) (fun v B => ∃ r, v = .tuple #[.int .i64 r, .bool x.2.2] ∧ B = kH 0 C :: R)
def lN : List (Value × Int × Bool) → Int
  | [] => 0
  | x :: t => if x.2.2 then x.2.1 else lN t
theorem FP : ∀ (l : List (Value × Int × Bool)) (i : Nat) (hi : i < l.length), (∀ j (hj : j < l.length), j < i → l[j].2.2 = false) → l[i].2.2 = true → lN l = l[i].2.1
 | x :: t, 0, _, _, h => by rw [lN, if_pos (by simpa using h)]; rfl
 | x :: t, i + 1, hi, h1, h2 => by
  have h0 := h1 0 (by simp) (by omega)
  rw [lN, if_neg (by simpa using h0), FP t i (by simpa using hi) (fun j hj hji => by
   have := h1 (j + 1) (by simpa using hj) (by omega)
   simpa using this) (by simpa using h2)]
  simp
theorem FQ : ∀ (l : List (Value × Int × Bool)), (∀ j (hj : j < l.length), l[j].2.2 = false) → lN l = 0
 | [], _ => rfl
 | x :: t, h => by
  have h0 := h 0 (by simp)
  rw [lN, if_neg (by simpa using h0), FQ t (fun j hj => by
   have := h (j + 1) (by simpa using hj)
   simpa using this)]
def tq (x : Value × Int × Bool) : List Value := [x.1, .int .i64 x.2.1]
def fN (c : Cfg) (bg : Nat) : List (Value × Int × Bool) := [(.func (.func 178) #[] #[], 13, iu c), (.func (.func 179) #[] #[], 14, lL c), (.func (.func 180) #[] #[], 15, lM c), (.func (.func 181) #[] #[], 16, hY c), (.func (.func 182) #[] #[], 17, l9 c), (.func (.func 177) #[] #[.pointer (some ⟨bg, 0, none⟩)], 18, ka c)]
theorem RZ (W0 : World) (R : List HP) (bg : Nat) (x : Bool) (c : Cfg) : sQ W0 177 [.agg (di c).toArray, .pointer (some ⟨bg, 0, none⟩)] (pt bg (ac [.bool x] 4) :: R) (.tuple #[.int .i64 0, .bool x]) (pt bg (ac [.bool x] 4) :: R) := by
 refine ai 2 func177 ntmps177 ?_
 refine ax (aV rfl) fun b2 => ?_
 refine au 5 ?_
 refine aU [(bg, 0, _)] 3 aT rfl (aa ag) (fun hS => ?_)
 refine ah 0 3 hS ?_
 refine aK ?_
 refine au 2 ?_
 exact aJ aL
theorem S0 (x : Bool) : sP W0 176 [.bool x] R (fun v B => ∃ bg, v = .func (.func 177) #[] #[.pointer (some ⟨bg, 0, none⟩)] ∧ B = pt bg (ac [.bool x] 4) :: R) := by
 refine ai 2 func176 ntmps176 ?_
 refine ax (ik rfl rfl) fun bg => ?_
 refine au 5 ?_
 refine ap 4 (dM rfl rfl) ?_
 refine ae ?_
 exact ⟨_, ⟨bg, rfl, rfl⟩, inferInstance⟩
theorem S1 (W0 : World) (c : Cfg) (h : CfOk W0 c) (bg : Nat) : RY W0 c (cn [pt bg (ac [.bool (ka c)] 4)]) (fN c bg) := by
 intro x hx
 simp only [fN, List.mem_cons, List.not_mem_nil, or_false] at hx
 rcases hx with rfl | rfl | rfl | rfl | rfl | rfl
 ·exact ⟨_, [], rfl, call178, fun R => Rh c h.g⟩
 ·exact ⟨_, [], rfl, call179, fun R => RS c h.r⟩
 ·exact ⟨_, [], rfl, call180, fun R => RX c h.pc h.p h.g⟩
 ·exact ⟨_, [], rfl, call181, fun R => Rm c h.n h.g⟩
 ·exact ⟨_, [], rfl, call182, fun R => Rj c h.s⟩
 exact ⟨_, [.pointer (some ⟨bg, 0, none⟩)], rfl, call177, fun R => mu (hJ (RZ W0 R bg (ka c) c) fun v B hB => by
  obtain ⟨rfl, rfl⟩ := hB
  exact ⟨_, ⟨0, rfl, rfl⟩, inferInstance⟩)⟩
def lO (c : Cfg) : Int := if c.cats < 0 ∨ 8 < c.cats then 12 else if iu c then 13 else if lL c then 14 else if lM c then 15 else if hY c then 16 else if l9 c then 17 else if ka c then 18 else if 32 < en c c.gl.length then 19 else 0
theorem S2 (c : Cfg) (bg : Nat) (h : ¬ (c.cats < 0 ∨ 8 < c.cats)) : lO c = if lN (fN c bg) = 0 ∧ 32 < en c c.gl.length then 19 else lN (fN c bg) := by
 rw [lO, if_neg h]
 simp only [fN, lN]
 generalize iu c = a1; generalize lL c = a2; generalize lM c = a3; generalize hY c = a4; generalize l9 c = a5; generalize ka c = a6
 cases a1 <;> cases a2 <;> cases a3 <;> cases a4 <;> cases a5 <;> cases a6 <;> simp
theorem S3 {w : Nat → Bool} {n i : Nat} (h : kG w n = false) (hi : i < n) : w i = false := by
 rw [← Bool.not_eq_true]; intro q
 rw [tp hi q] at h; cases h
theorem tt {c : Cfg} (h : iu c = false) : 1 ≤ c.gl.length ∧ c.gl.length ≤ 4 ∧ ∀ g ∈ c.gl, fh g.1 c.cats = true ∧ 1 ≤ g.2.1 ∧ g.2.1 ≤ 8 ∧ 0 ≤ g.2.2 ∧ g.2.2 ≤ 8 - g.2.1 := by
 simp only [iu, Bool.or_eq_false_iff, decide_eq_false_iff_not] at h
 obtain ⟨h1, h2⟩ := h
 refine ⟨by omega, by omega, fun g hg => ?_⟩
 obtain ⟨i, hi, rfl⟩ := List.getElem_of_mem hg
 have := S3 h2 hi
 rw [show c.gl.getD i (0, 0, 0) = c.gl[i] by simp [List.getD, hi]] at this
 exact vk.1 this
theorem FR (c : Cfg) (h : CfOk W0 c) : sP W0 97 [.agg (di c).toArray] R (fun v B => ∃ at_, v = .tuple #[.int .i64 (lO c), .int .i64 at_] ∧ B = R) := by
 refine ai 2 func97 ntmps97 ?_
 refine ax (aV rfl) fun b1 => ?_
 refine au 4 ?_
 refine AM (au 12 ?_)
 refine bB rfl rfl rfl (fun g2_4 => ?_) fun g2_4 => ?_
 ·refine au 14 ?_
  refine ov (aJ ?_)
  have he : lO c = 12 := by rw [lO, if_pos (by omega)]
  rw [he]
  exact ⟨_, ⟨0, rfl, rfl⟩, inferInstance⟩
 refine au 8 ?_
 refine a8 rfl (fun c2 => ?_) fun c2 => ?_
 ·refine au 8 ?_
  refine ov (aJ ?_)
  have he : lO c = 12 := by rw [lO, if_pos (by omega)]
  rw [he]
  exact ⟨_, ⟨0, rfl, rfl⟩, inferInstance⟩
 refine au 9 ?_
 refine zZ (aY ?_)
 refine dU (fun e : Int × Int => e.1 = lN (fN c 0) ∧ ¬ (c.cats < 0 ∨ 8 < c.cats)) (fun e => [(1, .pointer (some ⟨b1, 0, none⟩)), (5, .int .i64 e.2), (6, .int .i64 e.1)]) (fun _ => pt b1 (fz c) :: R) ?_ ?_
 ·skip
  refine au 2 ?_
  refine a7 rfl (bq rZ s0 (am mm (am mn bj)) (aI rfl mm rfl rfl (Nat.le_of_ble_eq_true rfl) SetL.eq (aI rfl mn rfl rfl (Nat.le_of_ble_eq_true rfl) SetL.eq bi))) ?_
  refine a7 rfl (bq rZ s0 (am mm (am mn bj)) (aI rfl mm rfl rfl (Nat.le_of_ble_eq_true rfl) SetL.eq (aI rfl mn rfl rfl (Nat.le_of_ble_eq_true rfl) SetL.eq bi))) ?_
  refine a7 rfl (bq rZ s0 (am mm (am mn bj)) (aI rfl mm rfl rfl (Nat.le_of_ble_eq_true rfl) SetL.eq (aI rfl mn rfl rfl (Nat.le_of_ble_eq_true rfl) SetL.eq bi))) ?_
  refine a7 rfl (bq rZ s0 (am mm (am mn bj)) (aI rfl mm rfl rfl (Nat.le_of_ble_eq_true rfl) SetL.eq (aI rfl mn rfl rfl (Nat.le_of_ble_eq_true rfl) SetL.eq bi))) ?_
  refine ap 2 (bq rZ s0 (am mm (am mn bj)) (aI rfl mm rfl rfl (Nat.le_of_ble_eq_true rfl) SetL.eq (aI rfl mn rfl rfl (Nat.le_of_ble_eq_true rfl) SetL.eq bi))) ?_
  refine aM (aD call183 rfl (Rk c)) ?_
  refine aB rfl (gF rfl call176 rfl (S0 (ka c))) ?_
  rintro _ B_ ⟨bg, rfl, hB_⟩
  obtain rfl := hB_.symm
  refine a7 rfl (bq rZ s0 (am mm (am mn bj)) (aI rfl mm rfl rfl (Nat.le_of_ble_eq_true rfl) SetL.eq (aI rfl mn rfl rfl (Nat.le_of_ble_eq_true rfl) SetL.eq bi))) ?_
  refine ax (iM Jr D2 s0 rfl (eW rfl rfl (eW rfl rfl (eW rfl rfl (eW rfl rfl (eW rfl rfl (eW rfl rfl gZ)))))) rfl (by decide) (by decide) (by decide)) fun bl => ?_
  refine lz (b := bl) (o' := ac ((fN c bg).flatMap tq) 303) rfl ?_
  refine au 5 ?_
  refine cY (fun i : Nat => i ≤ 6 ∧ ∀ j (hj : j < (fN c bg).length), j < i → ((fN c bg)[j]).2.2 = false) (fun i => [(1, .pointer (some ⟨b1, 0, none⟩)), (5, .int .i64 0), (6, .int .i64 0), (29, .slice (some ⟨bl, 0, none⟩) 6 6), (30, .int .i64 6), (31, .int .i64 i)]) (fun _ => pt bl (ac ((fN c bg).flatMap tq) 303) :: pt b1 (fz c) :: kH 0 (cn [pt bg (ac [.bool (ka c)] 4)]) :: R) (fun i => 6 - i) 0 ?_ ?_
  ·exact ⟨Nat.zero_le _, fun j hj q => absurd q (Nat.not_lt_zero _)⟩
  intro i ⟨hi, hI⟩
  refine au 6 ?_
  refine a8 rfl (fun c6 => ?_) fun c6 => ?_
  ·refine au 5 ?_
   have hi1 : i < 6 := by omega
   have hlen : (fN c bg).length = 6 := rfl
   have hil : i < (fN c bg).length := by rw [hlen]; exact hi1
   have hok := S1 W0 c h bg (fN c bg)[i] (List.getElem_mem hil)
   have hEq := FP (fN c bg) i hil hI
   have hnx : (fN c bg)[i].2.2 = false → ∀ j (hj : j < (fN c bg).length), j < i + 1 → ((fN c bg)[j]).2.2 = false := fun q j hj hji => by
    rcases Nat.lt_or_ge j i with q2 | q2
    ·exact hI j hj q2
    obtain rfl : j = i := by omega
    exact q
   have hcell : bG (aO W0 (pt bl (ac ((fN c bg).flatMap tq) 303) :: pt b1 (fz c) :: kH 0 (cn [pt bg (ac [.bool (ka c)] 4)]) :: R)) bl (i * 2) (tq (fN c bg)[i]) := by
    obtain ⟨b, off, e1, hc⟩ := pG (W0 := W0) (A := pt bl (ac ((fN c bg).flatMap tq) 303) :: pt b1 (fz c) :: kH 0 (cn [pt bg (ac [.bool (ka c)] 4)]) :: R) (f := tq) (sz := 2) (xs := fN c bg) (b := bl) (fun _ => rfl) rfl i (fN c bg)[i] (by simp [hil])
    cases e1
    rwa [Nat.zero_add] at hc
   generalize hy : (fN c bg)[i] = y at hok hEq hnx hcell
   obtain ⟨yv, ye, yb⟩ := y
   obtain ⟨fn, cs, rfl, hcall, hsp⟩ := hok
   dsimp only at hEq hnx hsp
   refine bQ ?_
   refine a7 rfl (bc Jr D2 rfl rfl rfl hi1 (by first | exact Nat.zero_add _ | rfl)) ?_
   refine a7 rfl (b0 isAgg303 D2 rfl hcell rfl) ?_
   refine ax (aS s0) fun bx => ?_
   refine eI (aF D2 rfl rfl rfl rfl rfl) ?_
   rintro _ _ rfl
   refine au 4 ?_
   refine a7 rfl (dp rfl rZ rfl mm rfl (by first | exact Nat.zero_add _ | rfl)) ?_
   refine a7 rfl (aA isAgg300 rfl (aN rfl)) ?_
   refine a7 rfl (kS rU mi rfl rfl) ?_
   refine aB rfl (qL (us := []) (cs := cs) rfl hcall rfl (hsp _)) ?_
   rintro _ B_ ⟨r_, rfl, hB_⟩
   obtain rfl := hB_.symm
   refine au 12 ?_
   refine a8 rfl (fun c9 => ?_) fun c9 => ?_
   ·refine bD ?_
    refine aU [(bx, 0, _)] 5 aT rfl (aa ag) (fun hS => ?_)
    refine av 0 rfl rfl rfl hS (aH rfl) ?_
    refine av 1 rfl rfl rfl hS (dp rfl rZ rfl mn rfl (by first | exact Nat.zero_add _ | rfl)) ?_
    refine av 2 rfl rfl rfl hS (aA isAgg26 rfl (dv (k := 0) rfl rfl)) ?_
    refine av 3 rfl rfl rfl hS (bR rfl) ?_
    refine av 4 rfl rfl rfl hS (bR rfl) ?_
    refine so (by kernel_rfl) ?_; clear hS
    refine au 7 ?_
    exact cj (ye, r_) (⟨(hEq c9).symm, by omega⟩)
   refine au 4 ?_
   refine ap 3 (cM rfl rfl) ?_
   exact bZ (i + 1) (⟨by omega, hnx (by simpa using c9)⟩)
  refine au 5 ?_
  refine cj ((0 : Int), (0 : Int)) ?_
  ·obtain rfl : i = 6 := by omega
   exact ⟨(FQ _ fun j hj => hI j hj (by have : (fN c bg).length = 6 := rfl; omega)).symm, by omega⟩
 intro ⟨e, at_⟩ ⟨he, hcat⟩
 dsimp only at he ⊢
 have hce := S2 c 0 hcat
 rw [← he] at hce
 refine au 6 ?_
 refine cp rfl rfl rfl (fun g12_3 => ?_) fun g12_3 => ?_
 ·have hall : lN (fN c 0) = 0 := by rw [← he]; exact g12_3
  have hgr : iu c = false := by
   rw [← Bool.not_eq_true]; intro q; simp only [fN, lN, q, if_true] at hall; exact absurd hall (by decide)
  have hri : hY c = false := by
   rw [← Bool.not_eq_true]; intro q; simp only [fN, lN, q, if_true] at hall; split at hall <;> (try split at hall) <;> (try split at hall) <;> exact absurd hall (by decide)
  obtain ⟨k1, k2, k3⟩ := tt hgr
  have k4 : c.nl.length ≤ 4 := by
   simp only [hY, Bool.or_eq_false_iff, decide_eq_false_iff_not] at hri; omega
  refine au 2 ?_
  refine ar 5 (aD call184 rfl (Ro c h.g (fun g hg => (k3 g hg).2) k4 k2)) ?_
  refine a8 rfl (fun c12 => ?_) fun c12 => ?_
  ·refine au 8 ?_
   refine ov (aJ ?_)
   rw [hce, if_pos (by omega)]
   exact ⟨_, ⟨0, rfl, rfl⟩, inferInstance⟩
  refine au 11 ?_
  refine ov (aJ ?_)
  rw [hce, if_neg (by omega)]
  exact ⟨_, ⟨_, rfl, rfl⟩, inferInstance⟩
 refine au 17 ?_
 refine ov (aJ ?_)
 rw [hce, if_neg (by omega)]
 exact ⟨_, ⟨_, rfl, rfl⟩, inferInstance⟩
def rt (c : Cfg) : Bool := decide (lO c = 0)
theorem S4 (c : Cfg) (h : CfOk W0 c) : sQ W0 270 [.agg (di c).toArray] R (.bool (rt c)) R := by
 refine ai 2 func270 ntmps270 ?_
 refine ax (aV rfl) fun b1 => ?_
 refine au 6 ?_
 refine aB rfl (aD call97 rfl (FR c h)) ?_
 rintro _ B_ ⟨at_, rfl, hB_⟩
 obtain rfl := hB_.symm
 refine au 15 ?_
 refine ae ?_
 refine aR ?_
 refine congrArg Value.bool ?_
 rw [Bool.eq_iff_iff, rt]; simp
theorem S5 {c : Cfg} (h : rt c = true) : 0 ≤ c.cats ∧ c.cats ≤ 8 ∧ iu c = false ∧ lL c = false ∧ lM c = false ∧ hY c = false ∧ l9 c = false ∧ ka c = false ∧ en c c.gl.length ≤ 32 := by
 have h := of_decide_eq_true h
 unfold lO at h
 split at h
 ·exact absurd h (by decide)
 rename_i q1
 repeat' split at h
 all_goals first | exact absurd h (by decide) | skip
 rename_i q2 q3 q4 q5 q6 q7 q8
 exact ⟨by omega, by omega, by simpa using q2, by simpa using q3, by simpa using q4, by simpa using q5, by simpa using q6, by simpa using q7, by omega⟩
section
variable {P : Program} {S : World → Prop} {W0 : World} {N : FSz} {e : aW} {A R : List HP} {t t' : TypeId} {x : Operand} {bs : List Nat} {a : Option Addr} {c n : Nat}
end
structure Sec where
  at_ : Int
  d : ByteArray
instance : Inhabited Sec := ⟨⟨0, ByteArray.empty⟩⟩
structure Inp where
  at_ : Int
  g : Int
  k : Int
  code : Int
  d : ByteArray
instance : Inhabited Inp := ⟨⟨0, 0, 0, 0, ByteArray.empty⟩⟩
theorem Own.step {W0 w w' : World} {A C : List HP} (h : Own W0 w A) (k : Own w w' C) : Own W0 w' (C ++ A) := by
 obtain ⟨lA, sA, nA, mA⟩ := h.owns
 obtain ⟨lC, sC, nC, mC⟩ := k.owns
 have hlt : ∀ p ∈ lA, p.1 < w.heap.size := fun p hp => by
  have := (mA p hp).2
  rcases Nat.lt_or_ge p.1 w.heap.size with q | q
  ·exact q
  rw [Array.getElem?_eq_none q] at this; cases this
 refine ⟨k.os.trans h.os, k.tape.trans h.tape, k.output.trans h.output, Nat.le_trans h.size k.size, fun b hb => (k.base b (Nat.lt_of_lt_of_le hb h.size)).trans (h.base b hb), lC ++ lA, gU.append.2 ⟨lC, lA, rfl, sC, sA⟩, ?_, fun p hp => ?_⟩
 ·rw [List.map_append, List.nodup_append]
  refine ⟨nC, nA, fun x hx y hy e => ?_⟩
  obtain ⟨p, hp, rfl⟩ := List.mem_map.1 hx
  obtain ⟨q, hq, rfl⟩ := List.mem_map.1 hy
  have h1 := (mC p hp).1
  have h2 := hlt q hq
  omega
 rcases List.mem_append.1 hp with q | q
 ·exact ⟨Nat.le_trans h.size (mC p q).1, (mC p q).2⟩
 exact ⟨(mA p q).1, (k.base p.1 (hlt p q)).trans (mA p q).2⟩
theorem vl {W0 W : World} {A : List HP} {b off : Nat} {vs : List Value} (hO : Own W0 W A) (h : bG (aO W0 A) b off vs) : ∀ B, bG (aO W B) b off vs := fun B i v hi => uy (h i v hi W hO)
theorem tu {α : Type} {W0 W : World} {A : List HP} {a : Option Addr} {sz : Nat} {f : α → List Value} {xs : List α} (hO : Own W0 W A) (h : cG (aO W0 A) a sz f xs) : ∀ B, cG (aO W B) a sz f xs := fun B i x hi => by
 obtain ⟨b, off, rfl, hc⟩ := h i x hi
 exact ⟨b, off, rfl, vl hO hc B⟩
section
variable {rd : Option Nat} {P : Program} {S : World → Prop} {W0 : World} {N : FSz} {e : aW} {A B R : List HP}
variable {op : Op} {ty t K E : TypeId} {v z : Value} {b : Nat} {x y u : Operand} {f : Int → Option Value} {k : Int}
end
section
variable {P : Program} {S : World → Prop} {W0 : World} {N : FSz} {e : aW} {A R : List HP} {t t' ty : TypeId} {b off : Nat} {x y : Operand} {l l' : List Value}
theorem FT {E : TypeId} {k k' : IntKind} (ha : ∀ w, (isAgg E).run P w = .ok false w) (he : P.underlying E = some (.int k')) (D : Nat) (w : World) :
  ∀ (m s : Nat) (ms ns : List Int), ms.length = s + m → ns.length = s + m →
   (Op.eqItems (D + 1) E 1 (ms.map (Value.int k)).toArray (ns.map (Value.int k)).toArray (List.range' s m)).run P w = .ok (ms.drop s == ns.drop s) w
 | 0, s, ms, ns, h1, h2 => by
  rw [show ms.drop s = [] from List.drop_eq_nil_of_le (by omega), show ns.drop s = [] from List.drop_eq_nil_of_le (by omega)]
  simp [Op.eqItems]
 | m + 1, s, ms, ns, h1, h2 => by
  have e1 : (ms.map (Value.int k))[s]? = some (.int k ms[s]) := by simp [show s < ms.length by omega]
  have e2 : (ns.map (Value.int k))[s]? = some (.int k ns[s]) := by simp [show s < ns.length by omega]
  have d1 : ms.drop s = ms[s] :: ms.drop (s + 1) := List.drop_eq_getElem_cons (by omega)
  have d2 : ns.drop s = ns[s] :: ns.drop (s + 1) := List.drop_eq_getElem_cons (by omega)
  have ih := FT (k := k) ha he D w m (s + 1) ms ns (by omega) (by omega)
  rw [List.range'_succ, d1, d2]
  simp only [Op.eqItems, Nat.mul_one, Sem.run_bind, sf ha e1 w, sf ha e2 w, Result.andThen_ok, run_equalIn_int w D E k k' _ _ he]
  by_cases h : ms[s] = ns[s]
  ·have hb3 : ((ns[s] :: ms.drop (s + 1)) == (ns[s] :: ns.drop (s + 1))) = (ms.drop (s + 1) == ns.drop (s + 1)) := by
    rw [Bool.eq_iff_iff, beq_iff_eq, beq_iff_eq]
    exact ⟨fun q => (List.cons.inj q).2, fun q => by rw [q]⟩
   rw [h, hb3]
   simp only [beq_self_eq_true, Bool.not_true, Bool.false_eq_true, if_false]
   exact ih
  have hb : (ms[s] == ns[s]) = false := by simpa using h
  rw [hb]
  have hb2 : ((ms[s] :: ms.drop (s + 1)) == (ns[s] :: ns.drop (s + 1))) = false := by
   rw [← Bool.not_eq_true, beq_iff_eq]
   intro q
   exact h (List.cons.inj q).1
  rw [hb2]
  simp
theorem FU {E n z : Nat} {k k' : IntKind} {i : TypeInfo} {ms ns : List Int} {us vs : List Value} (hu : P.underlying t = some (.array n E)) (hi : P.info? E = some i) (hc : P.cellsOf E = 1) (he : P.underlying E = some (.int k')) (ha : ∀ w, (isAgg E).run P w = .ok false w)
  (h1 : us = ms.map (Value.int k)) (h2 : vs = ns.map (Value.int k)) (l1 : ms.length = n) (l2 : ns.length = n) : mq P (z + 2) t (.agg us.toArray) (.agg vs.toArray) (ms == ns) := fun d w => by
 subst h1; subst h2
 rw [show d + (z + 2) = (d + z + 1) + 1 by omega, run_equalIn_array w (d + z + 1) _ _ hu hi, hc, List.range_eq_range', FT ha he (d + z) w n 0 ms ns (by omega) (by omega)]
 simp
end
section
variable {W0 : World} {N : FSz} {K : Act → World → Prop} {e : aW} {A R R1 R2 : List HP} {b n c : Nat} {l : List Dsc} {a : Option Addr} {ys : List Value}
end
structure QS where
  r : Rg3
  on : Bool
  br : Int
  last : Nat
  put : Nat
@[reducible] def d5 : QS := ⟨⟨0, 0, 0, 0⟩, false, 0, 0, 0⟩
abbrev qO (m : Bool) (s : QS) : Obj := ac [.int .u32 s.r.desc, .int .u32 s.r.avail, .int .u32 s.r.used, .int .i64 s.r.n, .bool s.on, .int .i64 s.br, .int .i64 s.last, .int .i64 s.put, .bool m] 333
theorem S6 : sP W0 128 [] R (fun v B => ∃ b, v = .pointer (some ⟨b, 0, none⟩) ∧ B = pt b (qO true d5) :: R) := by
 refine ai 7 func128 ntmps128 ?_
 refine a7 rfl (bq underlying333 zeroValue333 (am sizeOf161 (am bI bj)) (aI rfl bI rfl rfl (Nat.le_of_ble_eq_true rfl) SetL.eq bi)) ?_
 refine ax (aV rfl) fun b1 => ?_
 refine au 4 ?_
 refine ae ?_
 exact ⟨_, ⟨_, rfl, rfl⟩, inferInstance⟩
section
variable {P : Program} {S : World → Prop} {W0 : World} {N : FSz} {e : aW} {A R : List HP} {t t' : TypeId} {x : Operand} {v : Value} {b : Nat} {vs : List Value}
end
structure Dk where
  rs : List Rn
  lb : List Int
  ss : List (List Nat)
section
variable {W0 : World} {N : FSz} {K : Act → World → Prop} {e : aW} {A B R R1 R2 R3 R4 : List HP} {d : Nat} {x : Dk}
end
section
variable {P : Program} {S : World → Prop} {W0 : World} {N : FSz} {e : aW} {A R : List HP} {ty t t' : TypeId} {x y : Operand} {b off : Nat} {l l' vs : List Value}
theorem S7 {E sz dn dc sn sc m : Nat} {ay : Option Addr} (hu : P.underlying t = some (.slice E)) (hs : ∀ w, (sizeOf E).run P w = .ok sz w) (hx : ev e x = some (.slice (some ⟨b, off, none⟩) dn dc)) (hy : ev e y = some (.slice ay sn sc))
  [h : Tk pt b A (ac l ty) R] (hm : Nat.min sn dn = m) (hsrc : m = 0 ∨ ∃ bx ox, ay = some ⟨bx, ox, none⟩ ∧ bG (aO W0 A) bx ox vs) (hl : vs.length = m * sz) (h1 : fw vs = true) (ho : off + m * sz ≤ l.length) (hr : setR l off vs = l') :
  dj P W0 N e A (.call { callee := .builtin .copy, args := #[x, y], argTypes := #[t, t'] }) (fun v B => v = .int .i64 m ∧ B = pt b (ac l' ty) :: R) := by
 rcases hsrc with rfl | ⟨bx, ox, rfl, hc⟩
 ·have h0 : vs = [] := List.eq_nil_of_length_eq_zero (by simpa using hl)
  subst h0
  have hr' : l = l' := hr
  subst hr'
  intro a w dst ty' pos af g K Q hF hO k
  have hO' := hO.tk (r := pt) (b := b)
  have hexec : (execOp a.eval { dst := dst, op := .call { callee := .builtin .copy, args := #[x, y], argTypes := #[t, t'] }, type := ty', pos := pos, after := af, guard := g }).run P w = .ok (.value (.int .i64 0)) w := by
   have hs' : (sizeOf E).run P w = .ok sz w := hs w
   cases ay <;>
   simp only [execOp, resolve, invoke, builtin, Sem.run_bind, Sem.run_pure, Result.andThen_ok, List.map_toArray, List.map_cons, List.map_nil, hF.eval hx, hF.eval hy, Builtin.copy_, Builtin.lenOf, Builtin.firstCells, e7 hu, hm, Array.getElem?_eq_getElem, List.getElem?_toArray, List.getElem?_cons_zero, List.getElem?_cons_succ, hs', loadCells, loadCellsFrom, Nat.zero_mul, storeCells, goInt] <;> rfl
  unfold Oper.wp
  rw [hexec]
  exact k _ w _ ⟨rfl, rfl⟩ hO'
 exact sH hu hs hx hy hm hc hl h1 ho hr
end
theorem S8 (l : List Nat) : (l.flatMap fun x => [wV x]) = l.map wV := by
 induction l with
 | nil => rfl
 | cons x l ih => rw [List.flatMap_cons, ih]; rfl
@[reducible] def i3 (x : Nat) : List Value := [wV x]
theorem Bh (x : Nat) : (i3 x).length = 1 := rfl
theorem Bi (l : List Nat) : l.flatMap i3 = l.map wV := Qx wV l
def bC (ws : List Nat) (p : Nat) : List Nat := ws.take (16 * p)
theorem tx (ws : List Nat) (p : Nat) : (bC ws p).length = min (16 * p) ws.length := by rw [bC, List.length_take]
theorem Bj (a b : Nat) : (if (b : Int) < (a : Int) then (b : Int) else (a : Int)) = ((min a b : Nat) : Int) := by
 split <;> omega
theorem FV {p : Nat} (h : p ≤ 8) : (if (8 : Int) < (p : Int) then (8 : Int) else (p : Int)) = (p : Int) := by rw [if_neg (by omega)]
theorem S9 (a : Nat) : (if (a : Int) > (0 : Int) then (a : Int) else (0 : Int)) = (a : Int) := by
 split <;> omega
theorem FX (a : Option Addr) (c p : Nat) (ws : List Nat) (hs : cG (aO W0 R) a 1 i3 ws) (hp : p ≤ 8) (hn : ws.length < 9223372036854775808) : sP W0 99 [.slice a ws.length c, .int .i64 p] R (fun v B => ∃ g, v = .slice (some ⟨g, 0, none⟩) (bC ws p).length (bC ws p).length ∧ B = pt g (ac ((bC ws p).map wV) 37) :: R) := by
 have hl := tx ws p
 have hsrc := (hs.take (16 * p)).src Bh (fun _ => trivial)
 rw [Bi] at hsrc
 refine ai 8 func99 ntmps99 ?_
 refine a7 rfl (qP rfl rfl (FV hp)) ?_
 refine a7 rfl (xL rfl rfl (S9 p)) ?_
 refine ap 3 (iH rfl rfl (by rw [aG (by omega)]; omega : IntKind.wrap .i64 ((p : Int) * 16) = ((16 * p : Nat) : Int))) ?_
 refine dU (fun m : Nat => m = (bC ws p).length) (fun m => [(0, .slice a ws.length c), (5, .int .i64 m)]) (fun _ => R) ?_ ?_
 ·skip
  refine au 8 ?_
  refine a8 rfl (fun c2 => ?_) fun c2 => ?_
  ·refine au 6 ?_
   exact cj ws.length (by omega)
  refine au 2 ?_
  exact cj (16 * p) (by omega)
 intro m hm
 refine au 3 ?_
 refine ax (sG (sz := 1) (by_ := 4) (info := Tryz.t37) qy (by kernel_rfl) rfl rfl rfl rfl (by decide) rfl rfl rfl rfl (by omega) (by decide)) fun g => ?_
 refine au 7 ?_
 refine aB rfl (S7 qy bE rfl rfl (m := m) (vs := (bC ws p).map wV) (Nat.min_eq_right (by omega)) (by
 rcases hsrc with h | ⟨b, o, h1, h2⟩
 ·left; rw [hm, bC, h]; rfl
 right; exact ⟨b, o, h1, h2.weak⟩) (by rw [List.length_map, hm]; omega) (by simp [fw, wV, Value.oneCell']) (by rw [List.length_replicate]; omega) (by have := wT ((bC ws p).map wV) (List.replicate (m * 1) (.int .u32 0)) [] (by rw [List.length_map, List.length_replicate, hm]; omega); simpa using this)) ?_
 rintro _ B_ ⟨rfl, hB_⟩
 obtain rfl := hB_.symm
 refine au 9 ?_
 refine ae ?_
 subst hm
 exact ⟨_, ⟨g, rfl, rfl⟩, inferInstance⟩
def jI (n i : Nat) : Nat := min n (i * 16)
theorem FY (ws : List Nat) (i : Nat) : (dE ws i).length = min ws.length (jI ws.length i + 16) - jI ws.length i := by
 rw [dE, List.length_take, List.length_drop, jI]; omega
theorem Sa (a : Option Addr) (c n i : Nat) (ws : List Nat) (hn : ws.length = n) (hc : n ≤ c) (hi : i < 8) (h63 : n ≤ 1000) : sQ W0 122 [.slice a n c, .int .i64 i] R (.slice (k8 a c (jI n i) 1) (dE ws i).length (c - jI n i)) R := by
 have hl := FY ws i
 rw [hn] at hl
 have hF : jI n i = min n (i * 16) := rfl
 refine ai 10 func122 ntmps122 ?_
 refine a7 rfl (iH rfl rfl (by rw [aG (by omega)]; omega : IntKind.wrap .i64 ((i : Int) * 16) = ((i * 16 : Nat) : Int))) ?_
 refine ap 10 (qP rfl rfl (Bj n (i * 16))) ?_
 refine a7 rfl (bO rfl rfl (by rw [aG (by omega)]; omega : IntKind.wrap .i64 (((jI n i : Nat) : Int) + 16) = ((jI n i + 16 : Nat) : Int))) ?_
 refine a7 rfl (qP rfl rfl (Bj n (jI n i + 16))) ?_
 refine ap 4 (QD qy bE rfl rfl rfl rfl rfl (by omega) (by omega)) ?_
 refine ae ?_
 rw [hl]
 exact ⟨_, ⟨rfl, rfl⟩, inferInstance⟩
theorem Sb {S : World → Prop} {a : Option Addr} {c i : Nat} {ws : List Nat} (h : cG S a 1 i3 ws) (hc : ws.length ≤ c) : cG S (k8 a c (jI ws.length i) 1) 1 i3 (dE ws i) := by
 have hk : jI ws.length i + (dE ws i).length ≤ ws.length := by
  rw [FY]; have : jI ws.length i = min ws.length (i * 16) := rfl; omega
 have := h.sub hk hc
 have e : (ws.drop (jI ws.length i)).take (dE ws i).length = dE ws i := by
  have hF : jI ws.length i = min ws.length (i * 16) := rfl
  rcases Nat.lt_or_ge ws.length (i * 16) with q | q
  ·have h0 : dE ws i = [] := by
    rw [dE, List.drop_of_length_le (by omega)]; rfl
   rw [h0]; rfl
  rw [show jI ws.length i = 16 * i by omega, dE, List.length_take]
  rcases Nat.le_total 16 (ws.drop (16 * i)).length with z | z
  ·rw [Nat.min_eq_left z]
  rw [Nat.min_eq_right z, List.take_of_length_le (Nat.le_refl _), List.take_of_length_le z]
 rwa [e] at this
theorem Sc (pb ps : Nat) (po : Po) (h0 : 0 < po.length) : sQ W0 35 [.pointer (some ⟨pb, 0, none⟩), .int .i64 (-1), .int .i64 0] (cJ pb (ps, po) :: R) (.int .i64 1) (cJ pb (ps, po) :: R) := by
 have hi : dY po.length (-1) = false := by simp [dY]
 refine ai 10 func35 ntmps35 ?_
 refine ar 3 (ao wy rfl (tj pb ps po h0)) ?_
 refine a8 rfl (fun c1 => ?_) fun c1 => ?_
 ·exact absurd c1 (by decide)
 refine au 5 ?_
 refine ar 4 (ao JI rfl (B8 pb ps po (-1))) ?_
 refine a8 rfl (fun c3 => ?_) fun c3 => ?_
 ·refine au 11 ?_
  exact ae aL
 exact absurd (by simp [hi]) c3
theorem Sd (b : Nat) (pg : List Pl) (h : Pgs pg) : sQ W0 50 [.pointer (some ⟨b, 0, none⟩), .int .i64 (-1)] (pt b (bJ pg) :: R) (.int .i64 1) (pt b (bJ pg) :: R) := by
 refine ai 10 JA ntmps50 ?_
 refine ar 3 (ao zr rfl (uQ b pg h)) ?_
 refine a8 rfl (fun c1 => ?_) fun c1 => ?_
 ·exact absurd c1 (by decide)
 refine au 3 ?_
 refine ar 4 (aD zq rfl (uR (-1))) ?_
 refine a8 rfl (fun c3 => ?_) fun c3 => ?_
 ·refine au 8 ?_
  exact ae aL
 exact absurd c3 (by decide)
theorem Se (pb ps pm : Nat) (x : Im) (h : ImOk x) (h0 : 0 < x.fr.length) : sQ W0 197 [.pointer (some ⟨pb, 0, none⟩), .pointer (some ⟨ps, 0, none⟩), .pointer (some ⟨pm, 0, none⟩)] (cJ pb (ps, x.po) :: bu ps x.fr :: pt pm (bJ x.pg) :: R) (.bool true) (cJ pb (ps, x.po) :: bu ps x.fr :: pt pm (bJ x.pg) :: R) := by
 have hl := h.len
 refine ai 8 func197 ntmps197 ?_
 refine ar 2 (ao call35 rfl (Sc pb ps x.po (by omega))) ?_
 refine cp rfl rfl rfl (fun g1_4 => ?_) fun g1_4 => ?_
 ·refine au 2 ?_
  refine ar 4 (ao uh rfl (qU ps x.fr)) ?_
  refine cp rfl rfl rfl (fun g1_9 => ?_) fun g1_9 => ?_
  ·refine au 2 ?_
   refine ar 7 (ao CO rfl (Sd pm x.pg h.pg)) ?_
   exact ae aL
  omega
 exact absurd (by decide) g1_4
theorem Sf (pm : Nat) (pg : List Pl) (h : Pgs pg) (n : Nat) (hn : n ≤ 8) (hf : oI pg 0 n) : sQ W0 198 [.pointer (some ⟨pm, 0, none⟩), .int .i64 n] (pt pm (bJ pg) :: R) (.bool true) (pt pm (bJ pg) :: R) := by
 refine ai 13 func198 ntmps198 ?_
 refine cY (fun i : Nat => i ≤ n) (fun i => [(0, .pointer (some ⟨pm, 0, none⟩)), (8, .int .i64 n), (9, .int .i64 i)]) (fun _ => pt pm (bJ pg) :: R) (fun i => n - i) 0 ?_ ?_
 ·exact Nat.zero_le _
 intro i hi
 refine au 6 ?_
 refine a8 rfl (fun c2 => ?_) fun c2 => ?_
 ·refine au 14 ?_
  refine ar 3 (ao ug rfl (qW pm pg h i)) ?_
  refine ax (aS jh) fun bx => ?_
  refine aE 8 (aF fm rfl rfl rfl rfl rfl) ?_
  refine a8 rfl (fun c5 => ?_) fun c5 => ?_
  ·exact absurd c5 (by rw [hf i (Nat.zero_le _) (by omega)]; decide)
  refine au 4 ?_
  refine ap 3 (cM rfl rfl) ?_
  exact bZ (i + 1) (by omega)
 refine au 11 ?_
 exact ae aL
theorem Sg (pb ps pm who n : Nat) (x : Im) (h : ImOk x) (h0 : 0 < x.fr.length) (hw : who < 16) (h1 : 1 ≤ n) (h8 : n ≤ 8) (hf : oI x.pg 0 n) (hl : n ≤ (bP x.po who).length) : sQ W0 120 [.pointer (some ⟨pb, 0, none⟩), .pointer (some ⟨ps, 0, none⟩), .pointer (some ⟨pm, 0, none⟩), .int .i64 who, .int .i64 n] (cJ pb (ps, x.po) :: bu ps x.fr :: pt pm (bJ x.pg) :: R) (.int .i64 0) (cJ pb (ps, x.po) :: bu ps x.fr :: pt pm (bJ x.pg) :: R) := by
 have hle := h.len
 refine ai 12 func120 ntmps120 ?_
 refine ar 4 (du call197 rfl (Se pb ps pm x h h0)) ?_
 refine a8 rfl (fun c1 => ?_) fun c1 => ?_
 ·exact absurd c1 (by decide)
 refine au 8 ?_
 refine a8 rfl (fun c3 => ?_) fun c3 => ?_
 ·omega
 refine au 7 ?_
 refine a8 rfl (fun c4 => ?_) fun c4 => ?_
 ·omega
 refine au 7 ?_
 refine a8 rfl (fun c5 => ?_) fun c5 => ?_
 ·omega
 refine au 6 ?_
 refine a8 rfl (fun c6 => ?_) fun c6 => ?_
 ·omega
 refine au 4 ?_
 refine ar 4 (ao call198 rfl (Sf pm x.pg h.pg n h8 hf)) ?_
 refine a8 rfl (fun c8 => ?_) fun c8 => ?_
 ·exact absurd c8 (by decide)
 refine au 4 ?_
 refine ar 5 (ao call199 rfl (Rb pb ps x.po who (by omega) hw)) ?_
 refine a8 rfl (fun c10 => ?_) fun c10 => ?_
 ·omega
 refine au 9 ?_
 exact ae aL
theorem FZ {pg : List Pl} {i f : Nat} (hi : i < 8) (hf : f < 32) (ht : aP pg (i : Nat) = false) : ej pg i ((f : Int), 3) = 0 := by
 rw [ej, if_pos ⟨by simp only [gG, decide_eq_true_eq]; omega, by simp only [jp, decide_eq_true_eq]; omega⟩, ht]; rfl
theorem Si (b6 b9 b14 b7 b8 g pb ps pm who i f : Nat) (l : List Nat) (x : Im) (h : ImOk x) (ws : List Nat) (hw : who < 16) (hi : i < 8) (he : bP x.po who = f :: l) (ht : aP x.pg (i : Nat) = false) (hb : ∀ y ∈ ws, y < 4294967296) (hN : ws.length ≤ 128) : sQ W0 121 ([] ++ [.int .i64 i] ++ [.pointer (some ⟨b6, 0, none⟩), .pointer (some ⟨b9, 0, none⟩), .pointer (some ⟨b14, 0, none⟩), .pointer (some ⟨b7, 0, none⟩), .pointer (some ⟨b8, 0, none⟩)]) (pt b6 (ac [.pointer (some ⟨pb, 0, none⟩)] 71) :: pt b9 (ac [.int .i64 who] 3) :: pt b14 (ac [.slice (some ⟨g, 0, none⟩) ws.length ws.length] 22) :: pt b7 (ac [.pointer (some ⟨ps, 0, none⟩)] 65) :: pt b8 (ac [.pointer (some ⟨pm, 0, none⟩)] 119) :: pt g (ac (ws.map wV) 37) :: cJ pb (ps, x.po) :: bu ps x.fr :: pt pm (bJ x.pg) :: R) (.int .i64 0) (pt b6 (ac [.pointer (some ⟨pb, 0, none⟩)] 71) :: pt b9 (ac [.int .i64 who] 3) :: pt b14 (ac [.slice (some ⟨g, 0, none⟩) ws.length ws.length] 22) :: pt b7 (ac [.pointer (some ⟨ps, 0, none⟩)] 65) :: pt b8 (ac [.pointer (some ⟨pm, 0, none⟩)] 119) :: pt g (ac (ws.map wV) 37) :: cJ pb (ps, (iQ who ws x i).po) :: bu ps (iQ who ws x i).fr :: pt pm (bJ (iQ who ws x i).pg) :: R) := by
 have hf := jr.1 (show f ∈ bP x.po who by rw [he]; simp)
 have hpl := h.po.len
 have hst : iQ who ws x i = ⟨g7 f (dE ws i) 0 x.fr, x.po.set f ((who : Int), true), dJ x.pg i ((f : Int), 3)⟩ := by rw [iQ, he]
 rw [hst]
 have hpgb : ∀ y ∈ dE ws i, y < 4294967296 := fun y hy => hb y (List.mem_of_mem_drop (List.mem_of_mem_take hy))
 have hpl16 : (dE ws i).length ≤ 16 := by rw [dE, List.length_take]; omega
 simp only [List.nil_append, List.cons_append]
 refine ai 9 func121 ntmps121 ?_
 refine ar 14 (ao call48 rfl (Fx pb ps x.po who f l hw h.po he)) ?_
 refine a8 rfl (fun c2 => ?_) fun c2 => ?_
 ·exact absurd c2 (by decide)
 refine au 7 ?_
 refine ar 5 (aD call122 rfl (Sa (some ⟨g, 0, none⟩) ws.length ws.length i ws rfl (Nat.le_refl _) hi (by omega))) ?_
 refine ge (fun k : Nat => k ≤ (dE ws i).length) (fun k => [(0, .int .i64 i), (4, .pointer (some ⟨b7, 0, none⟩)), (5, .pointer (some ⟨b8, 0, none⟩)), (8, .int .i64 f), (23, .slice (k8 (some ⟨g, 0, none⟩) ws.length (jI ws.length i) 1) (dE ws i).length (ws.length - jI ws.length i)), (24, .int .i64 (dE ws i).length), (25, .int .i64 k)]) (fun k => pt b6 (ac [.pointer (some ⟨pb, 0, none⟩)] 71) :: pt b9 (ac [.int .i64 who] 3) :: pt b14 (ac [.slice (some ⟨g, 0, none⟩) ws.length ws.length] 22) :: pt b7 (ac [.pointer (some ⟨ps, 0, none⟩)] 65) :: pt b8 (ac [.pointer (some ⟨pm, 0, none⟩)] 119) :: pt g (ac (ws.map wV) 37) :: cJ pb (ps, x.po.set f ((who : Int), true)) :: bu ps (g7 f ((dE ws i).take k) 0 x.fr) :: pt pm (bJ x.pg) :: R) (fun k => (dE ws i).length - k) 0 ?_ ?_ ?_ ?_
 ·exact Nat.zero_le _
 ·repeat (first | exact dy | refine db rfl ?_)
 ·rw [show g7 f ((dE ws i).take 0) 0 x.fr = x.fr from rfl]
  exact inferInstance
 intro k hk
 refine au 6 ?_
 refine a8 rfl (fun c5 => ?_) fun c5 => ?_
 ·refine au 5 ?_
  have hk1 : k < (dE ws i).length := by omega
  have hsl : cG (aO W0 (pt b6 (ac [.pointer (some ⟨pb, 0, none⟩)] 71) :: pt b9 (ac [.int .i64 who] 3) :: pt b14 (ac [.slice (some ⟨g, 0, none⟩) ws.length ws.length] 22) :: pt b7 (ac [.pointer (some ⟨ps, 0, none⟩)] 65) :: pt b8 (ac [.pointer (some ⟨pm, 0, none⟩)] 119) :: pt g (ac (ws.map wV) 37) :: cJ pb (ps, x.po.set f ((who : Int), true)) :: bu ps (g7 f ((dE ws i).take k) 0 x.fr) :: pt pm (bJ x.pg) :: R)) (some ⟨g, 0, none⟩) 1 i3 ws := pG (b := g) Bh (Bi ws).symm
  obtain ⟨gb, go, hga, hc⟩ := (Sb (i := i) hsl (Nat.le_refl _)).at_ hk1
  obtain ⟨y, hy⟩ : ∃ y, (dE ws i)[k] = y := ⟨_, rfl⟩
  rw [hy] at hc
  have hyb := hpgb _ (List.getElem_mem hk1)
  rw [hy] at hyb
  have htk : (dE ws i).take (k + 1) = (dE ws i).take k ++ [y] := by rw [← hy]; exact List.take_succ_eq_append_getElem hk1
  obtain ⟨hF, hFl⟩ := rk (f := f) (l := (dE ws i).take k) (k := 0) h.fr
  have hs0 := AY f y ((dE ws i).take k) 0 x.fr
  rw [← htk, List.length_take, Nat.min_eq_left (by omega), Nat.zero_add] at hs0
  refine au 2 ?_
  refine a7 rfl (dW qy bE rfl hga rfl rfl hk1 (by first | exact Nat.zero_add _ | rfl)) ?_
  refine ap 8 (aA ia rfl (hc 0 _ rfl)) ?_
  refine a7 rfl (iH rfl rfl (by rw [aG (by omega)]; omega : IntKind.wrap .i64 (4 * (k : Int)) = ((4 * k : Nat) : Int))) ?_
  refine a7 rfl (aH rfl) (ar 4 (ao JB rfl (Az ps (g7 f ((dE ws i).take k) 0 x.fr) f (4 * k : Nat) 4 y hyb hF)) ?_)
  refine ap 3 (cM rfl rfl) ?_
  refine bZ (k + 1) ?_ (he := ?_)
  ·omega
  rw [hs0]
  exact inferInstance
 refine au 6 ?_
 obtain rfl : k = (dE ws i).length := by omega
 rw [List.take_of_length_le (Nat.le_refl _)]
 refine au 4 ?_
 refine a7 rfl (bq mX jh (am aj (am aj bj)) (aI rfl aj rfl rfl (Nat.le_of_ble_eq_true rfl) SetL.eq (aI rfl aj rfl rfl (Nat.le_of_ble_eq_true rfl) SetL.eq bi))) ?_
 refine ar 4 (ao JN rfl (AD pm x.pg h.pg i ((f : Int), 3))) ?_
 refine ae ?_
 rw [FZ hi (by omega) ht]
 exact ⟨_, ⟨rfl, rfl⟩, inferInstance⟩
theorem G0 (pb ps pm who n : Nat) (x : Im) (h : ImOk x) (h0 : 0 < x.fr.length) (a : Option Addr) (c : Nat) (ws : List Nat) (hw : who < 16) (h1 : 1 ≤ n) (h8 : n ≤ 8) (hf : oI x.pg 0 8) (hl : n ≤ (bP x.po who).length) (hs : ∀ A, Ent A R → cG (aO W0 A) a 1 i3 ws) (hb : ∀ y ∈ ws, y < 4294967296) (hn : ws.length < 9223372036854775808) : sQ W0 54 [.pointer (some ⟨pb, 0, none⟩), .pointer (some ⟨ps, 0, none⟩), .pointer (some ⟨pm, 0, none⟩), .int .i64 who, .int .i64 n, .slice a ws.length c] (cJ pb (ps, x.po) :: bu ps x.fr :: pt pm (bJ x.pg) :: R) (.int .i64 0) (cJ pb (ps, (d6 who (bC ws n) n x).po) :: bu ps (d6 who (bC ws n) n x).fr :: pt pm (bJ (d6 who (bC ws n) n x).pg) :: R) := by
 have hlen := tx ws n
 have hcb : ∀ y ∈ bC ws n, y < 4294967296 := fun y hy => hb y (List.mem_of_mem_take hy)
 have hok : ∀ i, ImOk (d6 who (bC ws n) i x) := fun i => rn hw h
 have hfl : ∀ i, (d6 who (bC ws n) i x).fr.length = x.fr.length := fun i => by
  induction i with
  | zero => rfl
  | succ i ih =>
   rw [d6, iQ]
   split
   ·rw [(rk (hok i).fr).2]; exact ih
   exact ih
 refine ai 2 func54 ntmps54 ?_
 refine ax (ik rfl rfl) fun b6 => ?_
 refine ax (ik rfl rfl) fun b7 => ?_
 refine ax (ik rfl rfl) fun b8 => ?_
 refine ax (ik rfl rfl) fun b9 => ?_
 refine au 11 ?_
 refine ar 9 (du call120 rfl (Sg pb ps pm who n x h h0 hw h1 h8 (fun i q1 q2 => hf i q1 (by omega)) hl)) ?_
 refine a8 rfl (fun c2 => ?_) fun c2 => ?_
 ·exact absurd c2 (by decide)
 refine au 6 ?_
 refine aB rfl (aD call99 rfl (FX a c n ws (hs _ inferInstance) h8 hn)) ?_
 rintro _ B_ ⟨g, rfl, hB_⟩
 obtain rfl := hB_.symm
 refine ax (o8 zeroValue22 rfl) fun b14 => ?_
 refine aE 4 (bA wh rfl rfl rfl (Nat.le_of_ble_eq_true rfl) SetL.eq) ?_
 refine ap 11 (dM rfl rfl) ?_
 refine ge (fun i : Nat => i ≤ n) (fun i => [(15, .func (.func 121) #[] #[.pointer (some ⟨b6, 0, none⟩), .pointer (some ⟨b9, 0, none⟩), .pointer (some ⟨b14, 0, none⟩), .pointer (some ⟨b7, 0, none⟩), .pointer (some ⟨b8, 0, none⟩)]), (31, .int .i64 n), (32, .int .i64 i)]) (fun i => pt b6 (ac [.pointer (some ⟨pb, 0, none⟩)] 71) :: pt b9 (ac [.int .i64 who] 3) :: pt b14 (ac [.slice (some ⟨g, 0, none⟩) (bC ws n).length (bC ws n).length] 22) :: pt b7 (ac [.pointer (some ⟨ps, 0, none⟩)] 65) :: pt b8 (ac [.pointer (some ⟨pm, 0, none⟩)] 119) :: pt g (ac ((bC ws n).map wV) 37) :: cJ pb (ps, (d6 who (bC ws n) i x).po) :: bu ps (d6 who (bC ws n) i x).fr :: pt pm (bJ (d6 who (bC ws n) i x).pg) :: R) (fun i => n - i) 0 ?_ ?_ ?_ ?_
 ·exact Nat.zero_le _
 ·repeat (first | exact dy | refine db rfl ?_)
 ·rw [show d6 who (bC ws n) 0 x = x from rfl]
  exact inferInstance
 intro i hi
 refine au 6 ?_
 refine a8 rfl (fun c7 => ?_) fun c7 => ?_
 ·refine au 11 ?_
  have hin : i < n := by omega
  have hfr := xH (who := who) (words := bC ws n) (x := x) i
  have hpg := (xI (who := who) (words := bC ws n) hf h.pg.len i (by omega)).1
  obtain ⟨f, l, he⟩ : ∃ f l, bP (d6 who (bC ws n) i x).po who = f :: l := by
   cases e : bP (d6 who (bC ws n) i x).po who with
   | nil => rw [e] at hfr; simp at hfr; omega
   | cons f l => exact ⟨f, l, rfl⟩
  refine au 3 ?_
  refine ar 9 (gF (us := []) (cs := [.pointer (some ⟨b6, 0, none⟩), .pointer (some ⟨b9, 0, none⟩), .pointer (some ⟨b14, 0, none⟩), .pointer (some ⟨b7, 0, none⟩), .pointer (some ⟨b8, 0, none⟩)]) rfl call121 rfl (Si b6 b9 b14 b7 b8 g pb ps pm who i f l (d6 who (bC ws n) i x) (hok i) (bC ws n) hw (by omega) he (hpg i (Nat.le_refl _) (by omega)) hcb (by omega))) ?_
  refine a8 rfl (fun c10 => ?_) fun c10 => ?_
  ·exact absurd c10 (by decide)
  refine au 4 ?_
  refine ap 3 (cM rfl rfl) ?_
  exact bZ (i + 1) (by omega)
 refine au 11 ?_
 refine ae ?_
 obtain rfl : i = n := by omega
 exact ⟨_, ⟨rfl, rfl⟩, inferInstance⟩
@[reducible] def ix (x : Int × Bool) : List Value := [.int .i64 x.1]
@[reducible] def iy (x : Int × Bool) : List Value := [.bool x.2]
def eh (pb : Nat) (x : Nat × Po) : HP := chk (fun C => ∃ a c a2 c2, C = [pt pb (ac [.pointer (some ⟨x.1, 0, none⟩), .slice a x.2.length c, .slice a2 x.2.length c2] 213), osl 3 1 (.slice a x.2.length c) (x.2.flatMap ix), osl 4 1 (.slice a2 x.2.length c2) (x.2.flatMap iy)])
section
variable {P : Program} {W0 : World} {N : FSz} {K : Act → World → Prop} {e : aW} {A B R R1 R2 R3 : List HP} {pb ps n : Nat} {po : Po} {f : FuncId} {args : List Value} {Post : Value → List HP → Prop}
theorem vm (po : Po) : (po.flatMap ix).length = po.length := by rw [cz (k := 1) (fun _ => rfl)]; omega
theorem vn (po : Po) : (po.flatMap iy).length = po.length := by rw [cz (k := 1) (fun _ => rfl)]; omega
theorem G1 [hk : Tk eh pb A (ps, po) R] (h : ∀ a c a2 c2, az W0 N K e (pt pb (ac [.pointer (some ⟨ps, 0, none⟩), .slice a po.length c, .slice a2 po.length c2] 213) :: osl 3 1 (.slice a po.length c) (po.flatMap ix) :: osl 4 1 (.slice a2 po.length c2) (po.flatMap iy) :: R)) : az W0 N K e A :=
 fK (r := eh) (b := pb) (mt fun C hC => by obtain ⟨a, c, a2, c2, rfl⟩ := hC; exact h a c a2 c2)
theorem G2 {a a2 : Option Addr} {c c2 n2 : Nat} {xs ys : List Value} [h1 : Tk pt pb A (ac [.pointer (some ⟨ps, 0, none⟩), .slice a n c, .slice a2 n2 c2] 213) R1] [h2 : Tk (osl 3 1) (.slice a n c) R1 xs R2] [h3 : Tk (osl 4 1) (.slice a2 n2 c2) R2 ys R3]
  (hn : n = po.length) (hn2 : n2 = po.length) (hx : xs = po.flatMap ix) (hy : ys = po.flatMap iy) [k : Ent R3 B] : Ent A (eh pb (ps, po) :: B) := by
 subst hn; subst hn2; subst hx; subst hy
 exact (Ent.ofPerm (h1.perm.trans ((h2.perm.trans (h3.perm.cons _)).cons _))).trans ((Ent.cons (Ent.cons (Ent.cons k))).trans (fC (R := B) (C := [_, _, _]) ⟨a, c, a2, c2, rfl⟩))
theorem Bl [hk : Tk eh pb A (ps, po) R] (h0 : 0 < po.length) (h : ∀ g c g2 c2 sp sp2, po.length ≤ c → c ≤ maxLen → (po.flatMap ix ++ sp).length = c * 1 → po.length ≤ c2 → c2 ≤ maxLen → (po.flatMap iy ++ sp2).length = c2 * 1 →
  az W0 N K e (pt pb (ac [.pointer (some ⟨ps, 0, none⟩), .slice (some ⟨g, 0, none⟩) po.length c, .slice (some ⟨g2, 0, none⟩) po.length c2] 213) :: pt g (ac (po.flatMap ix ++ sp) 3) :: pt g2 (ac (po.flatMap iy ++ sp2) 4) :: R)) : az W0 N K e A := by
 refine G1 (pb := pb) fun a c a2 c2 => ?_
 refine fK (r := osl 3 1) (b := .slice a po.length c) ?_
 refine jW (fun h1 h2 => by have := congrArg List.length h2; rw [vm, List.length_nil] at this; omega) fun g n cap sp h1 h2 h3 h4 h5 => ?_
 cases h1
 refine fK (r := osl 4 1) (b := .slice a2 po.length c2) ?_
 refine jW (fun h1 h2 => by have := congrArg List.length h2; rw [vn, List.length_nil] at this; omega) fun g2 n2 cap2 sp2 k1 k2 k3 k4 k5 => ?_
 cases k1
 exact gD inferInstance (h g c g2 c2 sp sp2 h2 h3 h5 k2 k3 k5)
theorem nI {g g2 c c2 n2 : Nat} {xs ys sp sp2 : List Value} [h1 : Tk pt pb A (ac [.pointer (some ⟨ps, 0, none⟩), .slice (some ⟨g, 0, none⟩) n c, .slice (some ⟨g2, 0, none⟩) n2 c2] 213) R1] [h2 : Tk pt g R1 (ac (xs ++ sp) 3) R2] [h3 : Tk pt g2 R2 (ac (ys ++ sp2) 4) R3]
  (hn : n = po.length) (hn2 : n2 = po.length) (hx : xs = po.flatMap ix) (hy : ys = po.flatMap iy) (a1 : n ≤ c) (a2 : c ≤ maxLen) (a3 : (xs ++ sp).length = c * 1) (b1 : n2 ≤ c2) (b2 : c2 ≤ maxLen) (b3 : (ys ++ sp2).length = c2 * 1) [k : Ent R3 B] : Ent A (eh pb (ps, po) :: B) := by
 have e3 : Ent R2 (osl 4 1 (.slice (some ⟨g2, 0, none⟩) n2 c2) ys :: B) := eB b1 b2 (by rw [hy, vn, hn2]; omega) b3
 have e2 : Ent R1 (osl 3 1 (.slice (some ⟨g, 0, none⟩) n c) xs :: osl 4 1 (.slice (some ⟨g2, 0, none⟩) n2 c2) ys :: B) := eB (k := e3) a1 a2 (by rw [hx, vm, hn]; omega) a3
 refine (Ent.ofPerm h1.perm).trans ((Ent.cons e2).trans ?_)
 exact G2 hn hn2 hx hy
end
theorem y3 {po : Po} {sp : List Value} {i : Nat} (hi : i < po.length) : (po.flatMap ix ++ sp)[i * 1]? = some (.int .i64 (cD po i).1) := by
 have := ly (f := ix) (k := 1) (fun _ => rfl) po i 0 sp hi (by decide)
 rw [Nat.add_zero] at this
 rw [this]; simp [ix, cD, List.getD, hi]
theorem Bm {po : Po} {sp : List Value} {i : Nat} (hi : i < po.length) : (po.flatMap iy ++ sp)[i * 1]? = some (.bool (cD po i).2) := by
 have := ly (f := iy) (k := 1) (fun _ => rfl) po i 0 sp hi (by decide)
 rw [Nat.add_zero] at this
 rw [this]; simp [iy, cD, List.getD, hi]
theorem G3 {po : Po} {sp : List Value} {i : Nat} {v : Int} {t : Bool} (hi : i < po.length) : (po.flatMap ix ++ sp).set (i * 1) (.int .i64 v) = (po.set i (v, t)).flatMap ix ++ sp := by
 have := ni (f := ix) (k := 1) (fun _ => rfl) po i 0 (.int .i64 v) (v, t) sp hi (by decide) (by simp [ix])
 rwa [Nat.add_zero] at this
theorem G4 {po : Po} {sp : List Value} {i : Nat} {v : Int} {t : Bool} (hi : i < po.length) : (po.flatMap iy ++ sp).set (i * 1) (.bool t) = (po.set i (v, t)).flatMap iy ++ sp := by
 have := ni (f := iy) (k := 1) (fun _ => rfl) po i 0 (.bool t) (v, t) sp hi (by decide) (by simp [iy])
 rwa [Nat.add_zero] at this
theorem Sj {po : Po} {i : Nat} {t : Bool} (hi : i < po.length) : (po.set i ((cD po i).1, t)).flatMap ix = po.flatMap ix := by
 have h := G3 (po := po) (sp := []) (i := i) (v := (cD po i).1) (t := t) hi
 rw [List.append_nil, List.append_nil, Nat.mul_one] at h
 rw [← h]
 refine B6 ?_
 have := y3 (po := po) (sp := []) hi
 rwa [List.append_nil, Nat.mul_one] at this
theorem Sk {po : Po} {i : Nat} {v : Int} (hi : i < po.length) : (po.set i (v, (cD po i).2)).flatMap iy = po.flatMap iy := by
 have h := G4 (po := po) (sp := []) (i := i) (v := v) (t := (cD po i).2) hi
 rw [List.append_nil, List.append_nil, Nat.mul_one] at h
 rw [← h]
 refine B6 ?_
 have := Bm (po := po) (sp := []) hi
 rwa [List.append_nil, Nat.mul_one] at this
theorem Sl (qs : Nat) (fr : List aC) (f : Nat) (hf : f < fr.length) : sQ W0 96 [.pointer (some ⟨qs, 0, none⟩), .int .i64 f] (dN qs fr :: R) (.int .i64 0) (dN qs (fr.set f cI) :: R) := by
 have hi : dY fr.length f = true := by simp only [dY, decide_eq_true_eq]; omega
 refine ai 10 func96 ntmps96 ?_
 refine ar 3 (ao zu rfl (uT qs fr f)) ?_
 refine a8 rfl (fun c1 => ?_) fun c1 => ?_
 ·exact absurd c1 (by simp [hi])
 refine au 3 ?_
 refine AG (qs := qs) hf fun a c vs vi hv hvi => ?_
 refine sW (E := 196) (sz := 1) (v := .slice a fr.length c) (fun h1 h2 => by have := (Value.slice.inj h1).2.1; omega) fun g n c' sp h1 h2 h3 h4 h5 => ?_
 cases h1
 refine aU [(qs, 0, _)] 8 aT rfl (aa ag) (fun hS => ?_)
 refine ah 0 5 hS ?_
 refine bS 5 (by kernel_rfl) rfl rfl (sG (sz := 1) (by_ := 1) (info := Tryz.t5) jQ (by kernel_rfl) rfl rfl rfl rfl (by decide) rfl rfl rfl rfl (by decide) (by decide)) rfl ?_; clear hS
 rintro _ _ ⟨g3, rfl, rfl⟩
 refine ⟨(aa ag), fun hS => ?_⟩
 refine av 6 rfl rfl rfl hS (bc nV pp rfl rfl rfl hf (by first | exact Nat.zero_add _ | rfl)) ?_
 refine bU 7 rfl rfl (bA pp rfl rfl rfl (by rw [List.length_append]; omega) (by rw [Nat.mul_one, List.set_append_left _ _ (by omega)])) (aa ag) fun hS => ?_
 refine aK ?_
 refine au 7 ?_
 refine ae ?_
 exact ⟨_, ⟨rfl, rfl⟩, AH (vs := vs) (vi := .slice (some ⟨g3, 0, none⟩) 64 64) (y := cI) (sp2 := []) rfl rfl rfl hv rfl hf h2 h3 (by rw [← h5]; simp) (by decide) (by decide) rfl rfl⟩
theorem Sm (n : Nat) : (List.replicate n ((-1 : Int), false)).flatMap ix ++ [[Value.int .i64 (-1)]].flatten = (List.replicate (n + 1) ((-1 : Int), false)).flatMap ix := by
 rw [List.replicate_succ', List.flatMap_append]; rfl
theorem Sn (n : Nat) : (List.replicate n ((-1 : Int), false)).flatMap iy ++ [[Value.bool false]].flatten = (List.replicate (n + 1) ((-1 : Int), false)).flatMap iy := by
 rw [List.replicate_succ', List.flatMap_append]; rfl
section
variable {A B R R2 : List HP} {qs n c : Nat} {a : Option Addr} {fr : List aC} {vs : List Value}
theorem G5 {x : HP} (hv : vs.length = fr.length) : Ent (pt qs (ac [.slice a fr.length c] 195) :: osl 196 1 (.slice a fr.length c) vs :: ((vs.zip fr).map eX ++ (x :: R))) (dN qs fr :: x :: R) := qZ (vs := vs) hv rfl
theorem Sp {x : HP} (hv : vs.length = fr.length) : Ent (pt qs (ac [.slice a fr.length c] 195) :: osl 196 1 (.slice a fr.length c) vs :: ((vs.zip fr).map eX ++ (x :: R))) (x :: dN qs fr :: R) := (G5 hv).trans (Ent.ofPerm (List.Perm.swap _ _ _))
end
theorem Sq {B : List HP} {pb ps : Nat} : Ent (pt pb (ac [.pointer (some ⟨ps, 0, none⟩), gK, gK] 213) :: B) (eh pb (ps, []) :: B) :=
 (Ent.cons (fR (E := 3) (sz := 1) (k := fR (E := 4) (sz := 1) (A := B) (B := B)))).trans (fC (R := B) (C := [_, _, _]) ⟨none, 0, none, 0, rfl⟩)
theorem Sr (qs : Nat) (fr : List aC) (h0 : 0 < fr.length) (h32 : fr.length ≤ 32) : sP W0 33 [.pointer (some ⟨qs, 0, none⟩)] (dN qs fr :: R) (fun v B => ∃ pb, v = .tuple #[.pointer (some ⟨pb, 0, none⟩), .int .i64 0] ∧ B = eh pb (qs, List.replicate fr.length (-1, false)) :: dN qs fr :: R) := by
 refine ai 8 func33 ntmps33 ?_
 refine sV (qs := qs) fun a c vs hv => ?_
 refine au 4 ?_
 refine bB rfl rfl rfl (fun g1_3 => ?_) fun g1_3 => ?_
 ·cases g1_3
 refine au 14 ?_
 refine a8 rfl (fun c1 => ?_) fun c1 => ?_
 ·omega
 refine au 5 ?_
 refine a7 rfl (bq ZN zeroValue213 (am zk (am pf (am J8 bj))) (aI rfl zk rfl rfl (Nat.le_of_ble_eq_true rfl) SetL.eq bi)) ?_
 refine ax (aV rfl) fun pb => ?_
 refine au 10 ?_
 refine ge (fun X : Nat => X ≤ fr.length) (fun X => [(0, .pointer (some ⟨qs, 0, none⟩)), (4, .pointer (some ⟨pb, 0, none⟩)), (5, .int .i64 X)]) (fun X => eh pb (qs, List.replicate X (-1, false)) :: dN qs fr :: R) (fun X => fr.length - X) 0 ?_ ?_ ?_ ?_
 ·exact Nat.zero_le _
 ·repeat (first | exact dy | refine db rfl ?_)
 ·exact (Ent.cons (qZ (vs := vs) hv rfl)).trans Sq
 intro i hi
 refine au 2 ?_
 refine sV (qs := qs) fun a c vs hv => ?_
 refine au 10 ?_
 refine a8 rfl (fun c5 => ?_) fun c5 => ?_
 ·refine au 5 ?_
  refine gD (B := dN qs fr :: eh pb (qs, List.replicate i (-1, false)) :: R) (G5 hv) ?_
  refine G1 (pb := pb) fun a c a2 c2 => ?_
  refine au 6 ?_
  refine ax (jT dB aj ml rfl rfl rfl rfl rfl (by decide) (by decide)) fun b2 => ?_
  refine aB rfl (eV (sz := 1) (by_ := 8) (info := Tryz.t3) dB (by kernel_rfl) rfl rfl rfl rfl (by decide) rfl rfl eC rfl rfl (by simp only [maxLen, List.length_replicate]; omega) (by rw [List.length_replicate]; omega)) ?_
  rintro _ _ ⟨a3, c3, rfl, rfl⟩
  refine au 2 ?_
  refine aE 8 (bA pf rfl rfl rfl (Nat.le_of_ble_eq_true rfl) SetL.eq) ?_
  refine ax (jT wm bI JE rfl rfl rfl rfl rfl (by decide) (by decide)) fun b3 => ?_
  refine aB rfl (eV (sz := 1) (by_ := 1) (info := Tryz.t4) wm (by kernel_rfl) rfl rfl rfl rfl (by decide) rfl rfl eC rfl rfl (by simp only [maxLen, List.length_replicate]; omega) (by rw [List.length_replicate]; omega)) ?_
  rintro _ _ ⟨a4, c4, rfl, rfl⟩
  refine au 2 ?_
  refine aE 5 (bA J8 rfl rfl rfl (Nat.le_of_ble_eq_true rfl) SetL.eq) ?_
  refine ap 3 (cM rfl rfl) ?_
  refine bZ (i + 1) ?_ (he := ?_)
  ·omega
  exact G2 (by simp) (by simp) (Sm i) (Sn i)
 refine au 13 ?_
 refine aJ ?_
 obtain rfl : i = fr.length := by omega
 exact ⟨_, ⟨pb, rfl, rfl⟩, Sp hv⟩
theorem Ss {po : Po} {sp : List Value} {i : Nat} (hi : i < po.length) : i * 1 + 1 ≤ (po.flatMap ix ++ sp).length := by rw [List.length_append, vm]; omega
theorem Su {po : Po} {sp : List Value} {i : Nat} (hi : i < po.length) : i * 1 + 1 ≤ (po.flatMap iy ++ sp).length := by rw [List.length_append, vn]; omega
theorem Sv (pb qs : Nat) (po : Po) (fr : List aC) (f w : Nat) (hf : f < po.length) (hff : f < fr.length) (hw : w < 16) (ha : cD po f = (-1, false)) : sQ W0 36 [.pointer (some ⟨pb, 0, none⟩), .int .i64 f, .int .i64 w] (eh pb (qs, po) :: dN qs fr :: R) (.int .i64 0) (eh pb (qs, po.set f ((w : Int), false)) :: dN qs (fr.set f cI) :: R) := by
 have hi : dY fr.length f = true := by simp only [dY, decide_eq_true_eq]; omega
 have hts : (po.set f ((w : Int), false)).flatMap iy = po.flatMap iy := by
  have := Sk (po := po) (i := f) (v := (w : Int)) hf
  rwa [ha] at this
 refine ai 7 func36 ntmps36 ?_
 refine Bl (pb := pb) (by omega) fun g c g2 c2 sp sp2 h1 h2 h3 k1 k2 k3 => ?_
 refine au 6 ?_
 refine ar 2 (ao zu rfl (uT qs fr f)) ?_
 refine bB rfl rfl rfl (fun g1_8 => ?_) fun g1_8 => ?_
 ·exact absurd g1_8 (by simp [hi])
 refine au 5 ?_
 refine bB rfl rfl rfl (fun g1_12 => ?_) fun g1_12 => ?_
 ·omega
 refine au 6 ?_
 refine a8 rfl (fun c1 => ?_) fun c1 => ?_
 ·omega
 refine au 10 ?_
 refine a7 rfl (bc dB aj rfl rfl rfl hf (by first | exact Nat.zero_add _ | rfl)) ?_
 refine ap 3 (aA aX rfl (aN (y3 hf))) ?_
 refine a8 rfl (fun c3 => ?_) fun c3 => ?_
 ·exact absurd c3 (by rw [ha]; decide)
 refine au 10 ?_
 refine a7 rfl (bc dB aj rfl rfl rfl hf (by first | exact Nat.zero_add _ | rfl)) ?_
 refine aE 9 (bA aj rfl rfl rfl (Ss hf) (G3 (t := false) hf)) ?_
 refine ar 8 (ao call96 rfl (Sl qs fr f hff)) ?_
 refine ae ?_
 exact ⟨_, ⟨rfl, rfl⟩, nI (by simp) (by simp) rfl hts.symm h1 h2 (by rw [List.length_append, vm, List.length_set, ← vm, ← List.length_append]; exact h3) k1 k2 k3⟩
def lP (po : Po) (w : Int) (k : Nat) : Nat := ((List.range k).filter fun f => decide (cD po f = (w, false))).length
theorem G6 (po : Po) (w : Nat) : lP po w po.length = (bP po w).length := by
 rw [lP, bP]; congr 2; funext f; rw [Bool.eq_iff_iff, decide_eq_true_iff, beq_iff_eq]
theorem Sw (po : Po) (w : Int) (k : Nat) : lP po w (k + 1) = lP po w k + if cD po k = (w, false) then 1 else 0 := by
 rw [lP, List.range_succ, List.filter_append, List.length_append, lP]
 congr 1
 by_cases h : cD po k = (w, false)
 ·simp [h]
 simp [h]
theorem Sx (po : Po) (w : Int) (k : Nat) : lP po w k ≤ k := by
 have := List.length_filter_le (fun f => decide (cD po f = (w, false))) (List.range k)
 rwa [List.length_range] at this
theorem Sy (pb qs : Nat) (po : Po) (w : Nat) (h0 : 0 < po.length) (h32 : po.length ≤ 32) : sQ W0 272 [.pointer (some ⟨pb, 0, none⟩), .int .i64 w] (eh pb (qs, po) :: R) (.int .i64 ((bP po w).length : Nat)) (eh pb (qs, po) :: R) := by
 refine ai 17 func272 ntmps272 ?_
 refine cY (fun i : Nat => i ≤ po.length) (fun i => [(0, .pointer (some ⟨pb, 0, none⟩)), (1, .int .i64 w), (5, .int .i64 (lP po w i : Nat)), (6, .int .i64 i)]) (fun _ => eh pb (qs, po) :: R) (fun i => po.length - i) 0 ?_ ?_
 ·exact Nat.zero_le _
 intro i hi
 refine Bl (pb := pb) (by omega) fun g c g2 c2 sp sp2 h1 h2 h3 k1 k2 k3 => ?_
 have hle := Sx po w i
 refine au 11 ?_
 refine cp rfl rfl rfl (fun g3_8 => ?_) fun g3_8 => ?_
 ·refine au 16 ?_
  refine a8 rfl (fun c3 => ?_) fun c3 => ?_
  ·refine au 2 ?_
   refine dU (fun n : Nat => n = lP po w (i + 1) ∧ i < po.length) (fun n => [(0, .pointer (some ⟨pb, 0, none⟩)), (1, .int .i64 w), (5, .int .i64 n), (6, .int .i64 i)]) (fun _ => eh pb (qs, po) :: R) ?_ ?_
   ·skip
    refine au 2 ?_
    have hi1 : i < po.length := by omega
    have hs := Sw po w i
    refine au 6 ?_
    refine a7 rfl (bc dB aj rfl rfl rfl hi1 (by first | exact Nat.zero_add _ | rfl)) ?_
    refine ap 3 (aA aX rfl (aN (y3 hi1))) ?_
    refine cp rfl rfl rfl (fun g5_10 => ?_) fun g5_10 => ?_
    ·refine au 5 ?_
     refine cp rfl rfl rfl (fun g5_14 => ?_) fun g5_14 => ?_
     ·refine au 10 ?_
      refine a7 rfl (bc wm bI rfl rfl rfl hi1 (by first | exact Nat.zero_add _ | rfl)) ?_
      refine cP rfl rfl (ap 5 (aA gz rfl (aN (Bm hi1))) ?_)
      refine a8 rfl (fun c5 => ?_) fun c5 => ?_
      ·refine au 2 ?_
       refine ap 4 (bO rfl rfl (aG (by omega))) ?_
       refine cj (lP po w i + 1) ?_ (he := ?_)
       ·refine ⟨?_, hi1⟩
        rw [hs, if_pos (by rw [show cD po i = ((cD po i).1, (cD po i).2) from rfl]; first | (congr 1; simp_all; done) | (rw [Prod.mk.injEq]; simp_all))]
       exact nI rfl rfl rfl rfl h1 h2 h3 k1 k2 k3
      refine au 3 ?_
      refine cj (lP po w i) ?_ (he := ?_)
      ·refine ⟨?_, hi1⟩
       rw [hs, if_neg (by intro q; have q1 := congrArg Prod.fst q; have q2 := congrArg Prod.snd q; simp_all)]; rfl
      exact nI rfl rfl rfl rfl h1 h2 h3 k1 k2 k3
     refine au 14 ?_
     refine cj (lP po w i) ?_ (he := ?_)
     ·refine ⟨?_, hi1⟩
      rw [hs, if_neg (by intro q; have q1 := congrArg Prod.fst q; have q2 := congrArg Prod.snd q; simp_all)]; rfl
     exact nI rfl rfl rfl rfl h1 h2 h3 k1 k2 k3
    refine au 18 ?_
    refine cj (lP po w i) ?_ (he := ?_)
    ·refine ⟨?_, hi1⟩
     rw [hs, if_neg (by intro q; have q1 := congrArg Prod.fst q; have q2 := congrArg Prod.snd q; simp_all)]; rfl
    exact nI rfl rfl rfl rfl h1 h2 h3 k1 k2 k3
   intro n ⟨hn, hi1⟩
   subst hn
   refine au 2 ?_
   refine ap 3 (bO rfl rfl (aG (by omega))) ?_
   exact bZ (i + 1) (by omega)
  refine au 12 ?_
  refine ae ?_
  obtain rfl : i = po.length := by omega
  rw [G6]
  exact ⟨_, ⟨rfl, rfl⟩, nI rfl rfl rfl rfl h1 h2 h3 k1 k2 k3⟩
 refine au 22 ?_
 refine ae ?_
 obtain rfl : i = po.length := by omega
 rw [G6]
 exact ⟨_, ⟨rfl, rfl⟩, nI rfl rfl rfl rfl h1 h2 h3 k1 k2 k3⟩
theorem Sz (pb qs : Nat) (po : Po) (w f : Nat) (l : List Nat) (hw : w < 16) (h32 : po.length ≤ 32) (he : bP po w = f :: l) : sQ W0 152 [.pointer (some ⟨pb, 0, none⟩), .int .i64 w] (eh pb (qs, po) :: R) (.tuple #[.int .i64 f, .int .i64 0]) (eh pb (qs, po.set f ((w : Int), true)) :: R) := by
 have hf := jr.1 (show f ∈ bP po w by rw [he]; simp)
 have hlow : ∀ j, j < f → cD po j ≠ ((w : Int), false) := fun j hj q => by
  have hm := jr.2 ⟨by have := hf.1; omega, q⟩
  have hs := xG po w
  rw [he] at hm hs
  rw [List.pairwise_cons] at hs
  rcases List.mem_cons.1 hm with k | k
  ·omega
  have := hs.1 j k; omega
 have hws : (po.set f ((w : Int), true)).flatMap ix = po.flatMap ix := by
  have := Sj (po := po) (i := f) (t := true) hf.1
  rwa [hf.2] at this
 refine ai 12 func152 ntmps152 ?_
 refine bB rfl rfl rfl (fun g1_3 => ?_) fun g1_3 => ?_
 ·omega
 refine au 6 ?_
 refine a8 rfl (fun c1 => ?_) fun c1 => ?_
 ·omega
 refine au 9 ?_
 refine cY (fun i : Nat => i ≤ f) (fun i => [(0, .pointer (some ⟨pb, 0, none⟩)), (1, .int .i64 w), (6, .int .i64 i)]) (fun _ => eh pb (qs, po) :: R) (fun i => po.length - i) 0 ?_ ?_
 ·exact Nat.zero_le _
 intro i hi
 have hfl := hf.1
 refine Bl (pb := pb) (by omega) fun g c g2 c2 sp sp2 h1 h2 h3 k1 k2 k3 => ?_
 refine au 11 ?_
 refine cp rfl rfl rfl (fun g4_8 => ?_) fun g4_8 => ?_
 ·refine au 16 ?_
  refine a8 rfl (fun c4 => ?_) fun c4 => ?_
  ·refine au 5 ?_
   have hi1 : i < po.length := by omega
   refine au 6 ?_
   refine a7 rfl (bc dB aj rfl rfl rfl hi1 (by first | exact Nat.zero_add _ | rfl)) ?_
   refine ap 3 (aA aX rfl (aN (y3 hi1))) ?_
   refine cp rfl rfl rfl (fun g6_10 => ?_) fun g6_10 => ?_
   ·refine au 10 ?_
    refine a7 rfl (bc wm bI rfl rfl rfl hi1 (by first | exact Nat.zero_add _ | rfl)) ?_
    refine cP rfl rfl (ap 5 (aA gz rfl (aN (Bm hi1))) ?_)
    refine a8 rfl (fun c6 => ?_) fun c6 => ?_
    ·refine bD ?_
     have hif : i = f := by
      rcases Nat.lt_or_ge i f with q | q
      ·exact absurd (by rw [Prod.ext_iff]; constructor <;> simp_all) (hlow i q)
      omega
     subst hif
     refine au 6 ?_
     refine a7 rfl (bc wm bI rfl rfl rfl hi1 (by first | exact Nat.zero_add _ | rfl)) ?_
     refine aE 15 (bA bI rfl rfl rfl (Su hi1) (G4 (v := (w : Int)) hi1)) ?_
     refine aJ ?_
     exact ⟨_, ⟨rfl, rfl⟩, nI (by simp) (by simp) hws.symm rfl h1 h2 h3 k1 k2 (by rw [List.length_append, vn, List.length_set, ← vn, ← List.length_append]; exact k3)⟩
    refine au 3 ?_
    have hne : i ≠ f := by
     intro q; subst q
     have q1 := congrArg Prod.fst hf.2
     have q2 := congrArg Prod.snd hf.2
     simp_all
    refine au 2 ?_
    refine ap 3 (bO rfl rfl (aG (by omega))) ?_
    refine bZ (i + 1) ?_ (he := ?_)
    ·show i + 1 ≤ f; omega
    exact nI rfl rfl rfl rfl h1 h2 h3 k1 k2 k3
   refine au 14 ?_
   have hne : i ≠ f := by
    intro q; subst q
    have q1 := congrArg Prod.fst hf.2
    have q2 := congrArg Prod.snd hf.2
    simp_all
   refine au 2 ?_
   refine ap 3 (bO rfl rfl (aG (by omega))) ?_
   refine bZ (i + 1) ?_ (he := ?_)
   ·show i + 1 ≤ f; omega
   exact nI rfl rfl rfl rfl h1 h2 h3 k1 k2 k3
  refine au 12 ?_
  refine aJ ?_
  exfalso; omega
 refine au 22 ?_
 refine aJ ?_
 exfalso; omega
theorem SA (a : Option Addr) (c p : Nat) (ws : List Nat) (h1 : 1 ≤ p) (hp : p ≤ 8) (hn : ws.length < 9223372036854775808) (hc : ws.length ≤ c) : sQ W0 273 [.slice a ws.length c, .int .i64 p] R (.slice a (bC ws p).length c) R := by
 have hl := tx ws p
 refine ai 12 func273 ntmps273 ?_
 refine a8 rfl (fun c1 => ?_) fun c1 => ?_
 ·omega
 refine au 5 ?_
 refine a7 rfl (qP rfl rfl (FV hp)) ?_
 refine ap 9 (iH rfl rfl (by rw [aG (by omega)]; omega : IntKind.wrap .i64 (16 * (p : Int)) = ((16 * p : Nat) : Int))) ?_
 refine a7 rfl (qP rfl rfl (Bj (16 * p) ws.length)) ?_
 refine ap 4 (m0 qy bE rfl rfl (h := min (16 * p) ws.length) rfl (by omega)) ?_
 refine ae ?_
 rw [hl]
 exact ⟨_, ⟨rfl, rfl⟩, inferInstance⟩
theorem SB {ws : List Nat} {i k : Nat} (hk : k < 16) : (dE ws i)[k]? = ws[16 * i + k]? := by
 rw [dE, List.getElem?_take_of_lt hk, List.getElem?_drop]
theorem SD {f : Nat} {ws : List Nat} {i k : Nat} (hk : k < 16) (fr : List aC) : g7 f ((dE ws i).take (k + 1)) 0 fr = match ws[16 * i + k]? with | some y => eK (g7 f ((dE ws i).take k) 0 fr) f (4 * k : Nat) 4 y | none => g7 f ((dE ws i).take k) 0 fr := by
 have hg := SB (ws := ws) (i := i) hk
 cases e : ws[16 * i + k]? with
 | none =>
  rw [e] at hg
  have := List.getElem?_eq_none_iff.1 hg
  rw [List.take_of_length_le (by omega), List.take_of_length_le this]
 | some y =>
  rw [e] at hg
  obtain ⟨hlt, hy⟩ := List.getElem?_eq_some_iff.1 hg
  rw [List.take_succ_eq_append_getElem hlt, hy, AY, List.length_take, Nat.min_eq_left (by omega), Nat.zero_add]
theorem SE (pb qs pm who n : Nat) (x : Im) (h : ImOk x) (h0 : 0 < x.fr.length) (a : Option Addr) (c : Nat) (ws : List Nat) (hw : who < 16) (h1 : 1 ≤ n) (h8 : n ≤ 8) (hf : oI x.pg 0 8) (hl : n ≤ (bP x.po who).length) (hs : ∀ A, Ent A R → cG (aO W0 A) a 1 i3 ws) (hb : ∀ y ∈ ws, y < 4294967296) (hn : ws.length < 9223372036854775808) (hc : ws.length ≤ c) : sQ W0 187 [.pointer (some ⟨pb, 0, none⟩), .pointer (some ⟨qs, 0, none⟩), .pointer (some ⟨pm, 0, none⟩), .int .i64 who, .int .i64 n, .slice a ws.length c] (eh pb (qs, x.po) :: dN qs x.fr :: pt pm (jE x.pg) :: R) (.int .i64 0) (eh pb (qs, (d6 who (bC ws n) n x).po) :: dN qs (d6 who (bC ws n) n x).fr :: pt pm (jE (d6 who (bC ws n) n x).pg) :: R) := by
 have hlen := tx ws n
 have hle := h.len
 have hcb : ∀ y ∈ bC ws n, y < 4294967296 := fun y hy => hb y (List.mem_of_mem_take hy)
 have hok : ∀ i, ImOk (d6 who (bC ws n) i x) := fun i => rn hw h
 have hcs : ∀ A, Ent A R → cG (aO W0 A) a 1 i3 (bC ws n) := fun A hA => (hs A hA).take _
 have hp32 : ∀ i, (d6 who (bC ws n) i x).po.length ≤ 32 := fun i => (hok i).po.len
 refine ai 11 func187 ntmps187 ?_
 refine bB rfl rfl rfl (fun g1_3 => ?_) fun g1_3 => ?_
 ·omega
 refine au 5 ?_
 refine bB rfl rfl rfl (fun g1_7 => ?_) fun g1_7 => ?_
 ·omega
 refine au 5 ?_
 refine bB rfl rfl rfl (fun g1_11 => ?_) fun g1_11 => ?_
 ·omega
 refine au 6 ?_
 refine a8 rfl (fun c1 => ?_) fun c1 => ?_
 ·omega
 refine au 9 ?_
 refine cY (fun i : Nat => i ≤ n) (fun i => [(0, .pointer (some ⟨pb, 0, none⟩)), (1, .pointer (some ⟨qs, 0, none⟩)), (2, .pointer (some ⟨pm, 0, none⟩)), (3, .int .i64 who), (4, .int .i64 n), (5, .slice a ws.length c), (13, .int .i64 i)]) (fun i => eh pb (qs, x.po) :: dN qs x.fr :: pt pm (jE x.pg) :: R) (fun i => n - i) 0 ?_ ?_
 ·exact Nat.zero_le _
 intro i hi
 refine au 8 ?_
 refine a8 rfl (fun c4 => ?_) fun c4 => ?_
 ·refine au 8 ?_
  refine ar 3 (ao call86 rfl (PT pm x.pg h.pg i)) ?_
  refine ax (aS jh) fun bx => ?_
  refine aE 8 (aF fm rfl rfl rfl rfl rfl) ?_
  refine a8 rfl (fun c7 => ?_) fun c7 => ?_
  ·exact absurd c7 (by rw [hf i (Nat.zero_le _) (by omega)]; decide)
  refine au 5 ?_
  refine ap 3 (cM rfl rfl) ?_
  exact bZ (i + 1) (by omega)
 refine au 10 ?_
 refine ar 4 (ao call272 rfl (Sy pb qs x.po who (by omega) (hp32 0))) ?_
 refine a8 rfl (fun c9 => ?_) fun c9 => ?_
 ·omega
 refine au 6 ?_
 refine ar 10 (aD call273 rfl (SA a c n ws h1 h8 hn hc)) ?_
 refine cY (fun i : Nat => i ≤ n) (fun i => [(0, .pointer (some ⟨pb, 0, none⟩)), (1, .pointer (some ⟨qs, 0, none⟩)), (2, .pointer (some ⟨pm, 0, none⟩)), (3, .int .i64 who), (4, .int .i64 n), (16, .slice a (bC ws n).length c), (17, .int .i64 i)]) (fun i => eh pb (qs, (d6 who (bC ws n) i x).po) :: dN qs (d6 who (bC ws n) i x).fr :: pt pm (jE (d6 who (bC ws n) i x).pg) :: R) (fun i => n - i) 0 ?_ ?_
 ·exact Nat.zero_le _
 intro i hi
 refine au 8 ?_
 refine a8 rfl (fun c13 => ?_) fun c13 => ?_
 ·refine au 5 ?_
  have hin : i < n := by omega
  have hfr := xH (who := who) (words := bC ws n) (x := x) i
  have hpg := (xI (who := who) (words := bC ws n) hf h.pg.len i (by omega)).1
  obtain ⟨f, l, he⟩ : ∃ f l, bP (d6 who (bC ws n) i x).po who = f :: l := by
   cases e : bP (d6 who (bC ws n) i x).po who with
   | nil => rw [e] at hfr; simp at hfr; omega
   | cons f l => exact ⟨f, l, rfl⟩
  obtain ⟨y, hy⟩ : ∃ y, d6 who (bC ws n) i x = y := ⟨_, rfl⟩
  have hoki := hok i
  have hnx : d6 who (bC ws n) (i + 1) x = iQ who (bC ws n) y i := by rw [d6, hy]
  have hp32i := hp32 i
  have hti := hpg i (Nat.le_refl _) (by omega)
  rw [hy] at he hoki hp32i hti ⊢
  rw [iQ, he] at hnx
  dsimp only at hnx
  have hff := jr.1 (show f ∈ bP y.po who by rw [he]; simp)
  refine au 3 ?_
  refine ar 12 (ao call152 rfl (Sz pb qs y.po who f l hw hp32i he)) ?_
  refine a7 rfl (bq mX jh (am aj (am aj bj)) (aI rfl aj rfl rfl (Nat.le_of_ble_eq_true rfl) SetL.eq (aI rfl aj rfl rfl (Nat.le_of_ble_eq_true rfl) SetL.eq bi))) ?_
  refine ar 8 (ao JO rfl (AJ pm y.pg hoki.pg i ((f : Int), 3))) ?_
  refine ge (fun k : Nat => k ≤ 16) (fun k => [(0, .pointer (some ⟨pb, 0, none⟩)), (1, .pointer (some ⟨qs, 0, none⟩)), (2, .pointer (some ⟨pm, 0, none⟩)), (3, .int .i64 who), (4, .int .i64 n), (16, .slice a (bC ws n).length c), (17, .int .i64 i), (18, .int .i64 f), (20, .int .i64 k)]) (fun k => eh pb (qs, y.po.set f ((who : Int), true)) :: dN qs (g7 f ((dE (bC ws n) i).take k) 0 y.fr) :: pt pm (jE (dJ y.pg i ((f : Int), 3))) :: R) (fun k => 16 - k) 0 ?_ ?_ ?_ ?_
  ·exact Nat.zero_le _
  ·repeat (first | exact dy | refine db rfl ?_)
  ·rw [show g7 f ((dE (bC ws n) i).take 0) 0 y.fr = y.fr from rfl]
   exact inferInstance
  intro k hk
  refine au 7 ?_
  refine a8 rfl (fun c18 => ?_) fun c18 => ?_
  ·refine au 2 ?_
   refine dU (fun _ : Unit => k < 16) (fun _ => [(0, .pointer (some ⟨pb, 0, none⟩)), (1, .pointer (some ⟨qs, 0, none⟩)), (2, .pointer (some ⟨pm, 0, none⟩)), (3, .int .i64 who), (4, .int .i64 n), (16, .slice a (bC ws n).length c), (17, .int .i64 i), (18, .int .i64 f), (20, .int .i64 k)]) (fun _ => eh pb (qs, y.po.set f ((who : Int), true)) :: dN qs (g7 f ((dE (bC ws n) i).take (k + 1)) 0 y.fr) :: pt pm (jE (dJ y.pg i ((f : Int), 3))) :: R) ?_ ?_
   ·skip
    refine au 2 ?_
    have hk1 : k < 16 := by omega
    have hwt := SD (f := f) (ws := bC ws n) (i := i) hk1 y.fr
    refine au 2 ?_
    refine a7 rfl (iH rfl rfl (by rw [aG (by omega)]; omega : IntKind.wrap .i64 (16 * (i : Int)) = ((16 * i : Nat) : Int))) ?_
    refine a7 rfl (aH rfl) ?_
    refine ap 5 (bO rfl rfl (by rw [aG (by omega)]; omega : IntKind.wrap .i64 (((16 * i : Nat) : Int) + (k : Int)) = ((16 * i + k : Nat) : Int))) ?_
    refine a8 rfl (fun c20 => ?_) fun c20 => ?_
    ·have hlt : 16 * i + k < (bC ws n).length := by omega
     obtain ⟨gb, go, hga, hc'⟩ := (hcs (eh pb (qs, y.po.set f ((who : Int), true)) :: dN qs (g7 f ((dE (bC ws n) i).take k) 0 y.fr) :: pt pm (jE (dJ y.pg i ((f : Int), 3))) :: R) inferInstance).at_ hlt
     obtain ⟨z, hz⟩ : ∃ z, (bC ws n)[16 * i + k] = z := ⟨_, rfl⟩
     rw [hz] at hc'
     have hzb := hcb _ (List.getElem_mem hlt)
     rw [hz] at hzb
     obtain ⟨hF, hFl⟩ := rk (f := f) (l := (dE (bC ws n) i).take k) (k := 0) hoki.fr
     rw [List.getElem?_eq_getElem hlt, hz] at hwt
     dsimp only at hwt
     refine au 4 ?_
     refine ap 2 (iH rfl rfl (by rw [aG (by omega)]; omega : IntKind.wrap .i64 (4 * (k : Int)) = ((4 * k : Nat) : Int))) ?_
     refine a7 rfl (iH rfl rfl (by rw [aG (by omega)]; omega : IntKind.wrap .i64 (16 * (i : Int)) = ((16 * i : Nat) : Int))) ?_
     refine a7 rfl (aH rfl) ?_
     refine a7 rfl (bO rfl rfl (by rw [aG (by omega)]; omega : IntKind.wrap .i64 (((16 * i : Nat) : Int) + (k : Int)) = ((16 * i + k : Nat) : Int))) ?_
     refine a7 rfl (dW qy bE rfl hga rfl rfl hlt (by first | exact Nat.zero_add _ | rfl)) ?_
     refine a7 rfl (aA ia rfl (hc' 0 _ rfl)) ?_
     refine ar 3 (ao call159 rfl (PP qs (g7 f ((dE (bC ws n) i).take k) 0 y.fr) f (4 * k : Nat) 4 z hzb hF)) ?_
     refine cj () ?_ (he := ?_)
     ·exact hk1
     rw [hwt]
     exact inferInstance
    refine au 3 ?_
    refine cj () ?_ (he := ?_)
    ·exact hk1
    rw [hwt, List.getElem?_eq_none (by omega)]
    exact inferInstance
   intro _ hk1
   refine au 2 ?_
   refine ap 3 (cM rfl rfl) ?_
   exact bZ (k + 1) (by omega)
  refine au 8 ?_
  refine ap 3 (cM rfl rfl) ?_
  refine bZ (i + 1) ?_ (he := ?_)
  ·omega
  obtain rfl : k = 16 := by omega
  rw [hnx, show (dE (bC ws n) i).take 16 = dE (bC ws n) i from List.take_of_length_le (by rw [dE, List.length_take]; omega)]
  exact inferInstance
 refine au 11 ?_
 refine ae ?_
 obtain rfl : i = n := by omega
 exact ⟨_, ⟨rfl, rfl⟩, inferInstance⟩
def rz (b : Nat) (L : List Int) : HP := chk (fun C => ∃ a c, C = [pt b (ac [.slice a L.length c] 466), osl 3 1 (.slice a L.length c) (L.flatMap jm)])
section
variable {W0 : World} {N : FSz} {K : Act → World → Prop} {e : aW} {A B R R1 R2 : List HP} {b n c : Nat} {L : List Int}
theorem SF [hk : Tk rz b A L R] (h : ∀ a c, az W0 N K e (pt b (ac [.slice a L.length c] 466) :: osl 3 1 (.slice a L.length c) (L.flatMap jm) :: R)) : az W0 N K e A :=
 fK (r := rz) (b := b) (mt fun C hC => by obtain ⟨a, c, rfl⟩ := hC; exact h a c)
theorem oM {a : Option Addr} {ys : List Value} [h1 : Tk pt b A (ac [.slice a n c] 466) R1] [h2 : Tk (osl 3 1) (.slice a n c) R1 ys R2] (hk : n = L.length) (hy : ys = L.flatMap jm) [q : Ent R2 B] : Ent A (rz b L :: B) := by
 subst hk; subst hy
 exact (Ent.ofPerm (h1.perm.trans (h2.perm.cons _))).trans ((fC (R := R2) (C := [_, _]) ⟨a, c, rfl⟩).trans (Ent.cons q))
end
theorem G7 (x : Int) : (jm x).length = 1 := rfl
theorem y4 (L : List Int) : (L.flatMap jm).length = L.length := by rw [cz G7]; omega
theorem SG (L : List Int) (j : Nat) (w : Int) : (L.flatMap jm).set j (.int .i64 w) = (L.set j w).flatMap jm := by
 induction L generalizing j with
 | nil => rfl
 | cons x L ih =>
  cases j with
  | zero => rfl
  | succ j => simp only [List.flatMap_cons, jm, List.cons_append, List.nil_append, List.set_cons_succ] at ih ⊢; rw [ih]
theorem SH (L : List Int) : fw (L.flatMap jm) = true := by
 induction L with
 | nil => rfl
 | cons x l ih => rw [List.flatMap_cons, fw, List.all_append, Bool.and_eq_true]; exact ⟨rfl, ih⟩
theorem SI (n : Nat) (h : n ≤ 64) : sP W0 321 [.int .i64 n] R (fun v B => ∃ b, v = .tuple #[.pointer (some ⟨b, 0, none⟩), .int .i64 0] ∧ B = rz b (List.replicate n (-1)) :: R) := by
 refine ai 12 func321 ntmps321 ?_
 refine bB rfl rfl rfl (fun g1_3 => ?_) fun g1_3 => ?_
 ·omega
 refine au 6 ?_
 refine a8 rfl (fun c1 => ?_) fun c1 => ?_
 ·omega
 refine au 4 ?_
 refine a7 rfl (bq ZZ zeroValue466 (am pf bj) bi) ?_
 refine ax (aV rfl) fun bt => ?_
 refine au 10 ?_
 refine ge (fun X : Nat × Option Addr × Nat => X.1 ≤ n) (fun X => [(0, .int .i64 n), (4, .pointer (some ⟨bt, 0, none⟩)), (5, .int .i64 X.1)]) (fun X => pt bt (ac [.slice X.2.1 X.1 X.2.2] 466) :: osl 3 1 (.slice X.2.1 X.1 X.2.2) ((List.replicate X.1 (-1)).flatMap jm) :: R) (fun X => n - X.1) (0, none, 0) ?_ ?_ ?_ ?_
 ·exact Nat.zero_le _
 ·repeat (first | exact dy | refine db rfl ?_)
 ·exact Ent.cons fR
 intro ⟨i, a, c⟩ hi
 dsimp only at hi ⊢
 refine au 8 ?_
 refine a8 rfl (fun c5 => ?_) fun c5 => ?_
 ·refine au 10 ?_
  refine ax (jT dB aj ml rfl rfl rfl rfl rfl (by decide) (by decide)) fun b2 => ?_
  refine aB rfl (eV (sz := 1) (by_ := 8) (info := Tryz.t3) dB (by kernel_rfl) rfl rfl rfl rfl (by decide) rfl rfl eC rfl rfl (by simp only [maxLen]; omega) (by omega)) ?_
  rintro _ _ ⟨a3, c3, rfl, rfl⟩
  have hmp : (List.replicate i (-1)).flatMap jm ++ [Value.int .i64 (-1)] = (List.replicate (i + 1) (-1 : Int)).flatMap jm := by
   rw [List.replicate_succ', List.flatMap_append]; rfl
  rw [hmp]
  refine au 2 ?_
  refine aE 5 (bA pf rfl rfl rfl (Nat.le_of_ble_eq_true rfl) SetL.eq) ?_
  refine ap 3 (cM rfl rfl) ?_
  exact bZ (i + 1, a3, c3) (by omega)
 refine au 13 ?_
 refine aJ ?_
 obtain rfl : i = n := by omega
 exact ⟨_, ⟨bt, rfl, rfl⟩, oM (by simp) rfl⟩
def ma (L : List Int) (f k : Nat) (w : Int) : List Int := (List.range L.length).map fun j => if f ≤ j ∧ j < f + k then w else L.getD j (-1)
theorem Bn {L : List Int} {f k : Nat} {w : Int} : (ma L f k w).length = L.length := by simp [ma]
theorem SJ {L : List Int} {f : Nat} {w : Int} : ma L f 0 w = L := by
 apply List.ext_getElem
 ·exact Bn
 intro i h1 h2
 simp only [ma, List.getElem_map, List.getElem_range]
 rw [if_neg (by omega)]; simp [List.getD, h2]
theorem SK {L : List Int} {f k : Nat} {w : Int} (h : f + k < L.length) : (ma L f k w).set (f + k) w = ma L f (k + 1) w := by
 apply List.ext_getElem
 ·simp [ma]
 intro i h1 h2
 rw [List.getElem_set]
 simp only [ma, List.getElem_map, List.getElem_range]
 by_cases e : f + k = i
 ·rw [if_pos e, if_pos (by omega)]
 rw [if_neg e]
 by_cases q : f ≤ i ∧ i < f + k
 ·rw [if_pos q, if_pos (by omega)]
 rw [if_neg q, if_neg (by omega)]
theorem SL {L : List Int} {f k : Nat} {w : Int} (h : gm L f k w = 0) : kI L f k w = ma L f k w := by
 rw [kI, if_pos h, ma]
 apply List.map_congr_left
 intro i _
 by_cases q : f ≤ i ∧ i < f + k
 ·rw [if_pos q, if_pos (by omega)]
 rw [if_neg q, if_neg (by omega)]
theorem SN {L : List Int} {f k i : Nat} {w : Int} (hb : ¬ ((f : Int) < 0 ∨ (k : Int) < 1 ∨ (L.length : Int) < f ∨ (L.length : Int) - f < k ∨ w < 0 ∨ 64 ≤ w)) (hi : i < k) (h : 0 ≤ L.getD (f + i) (-1)) : gm L f k w = 5 := by
 rw [gm, if_neg hb, if_pos]
 rw [List.any_eq_true]
 exact ⟨i, List.mem_range.2 (by omega), decide_eq_true (by rw [Int.toNat_natCast]; exact h)⟩
theorem SO {L : List Int} {f k : Nat} {w : Int} (hb : ¬ ((f : Int) < 0 ∨ (k : Int) < 1 ∨ (L.length : Int) < f ∨ (L.length : Int) - f < k ∨ w < 0 ∨ 64 ≤ w)) (h : ∀ j, j < k → ¬ 0 ≤ L.getD (f + j) (-1)) : gm L f k w = 0 := by
 rw [gm, if_neg hb, if_neg]
 intro q
 obtain ⟨i, hi, hd⟩ := List.any_eq_true.1 q
 have hd := of_decide_eq_true hd
 rw [Int.toNat_natCast] at hd
 exact h i (by have := List.mem_range.1 hi; omega) hd
theorem SP (b : Nat) (L : List Int) (hl : L.length ≤ 64) (f k w : Int) : sQ W0 322 [.pointer (some ⟨b, 0, none⟩), .int .i64 f, .int .i64 k, .int .i64 w] (rz b L :: R) (.int .i64 (gm L f k w)) (rz b (kI L f k w) :: R) := by
 refine ai 7 func322 ntmps322 ?_
 refine SF (b := b) fun a c => ?_
 refine au 4 ?_
 refine bB rfl rfl rfl (fun g1_3 => ?_) fun g1_3 => ?_
 ·refine au 40 ?_
  refine ae ?_
  have he : gm L f k w = 1 := by rw [gm, if_pos (by omega)]
  rw [kI, he, if_neg (by decide)]
  exact ⟨_, ⟨rfl, rfl⟩, oM rfl rfl⟩
 refine au 5 ?_
 refine bB rfl rfl rfl (fun g1_7 => ?_) fun g1_7 => ?_
 ·refine au 36 ?_
  refine ae ?_
  have he : gm L f k w = 1 := by rw [gm, if_pos (by omega)]
  rw [kI, he, if_neg (by decide)]
  exact ⟨_, ⟨rfl, rfl⟩, oM rfl rfl⟩
 refine au 15 ?_
 refine bB rfl rfl rfl (fun g1_16 => ?_) fun g1_16 => ?_
 ·refine au 27 ?_
  refine ae ?_
  have he : gm L f k w = 1 := by rw [gm, if_pos (by omega)]
  rw [kI, he, if_neg (by decide)]
  exact ⟨_, ⟨rfl, rfl⟩, oM rfl rfl⟩
 refine au 14 ?_
 refine ap 4 (cZ rfl rfl (aG (by omega))) ?_
 refine bB rfl rfl rfl (fun g1_27 => ?_) fun g1_27 => ?_
 ·refine au 16 ?_
  refine ae ?_
  have he : gm L f k w = 1 := by rw [gm, if_pos (by omega)]
  rw [kI, he, if_neg (by decide)]
  exact ⟨_, ⟨rfl, rfl⟩, oM rfl rfl⟩
 refine au 5 ?_
 refine bB rfl rfl rfl (fun g1_31 => ?_) fun g1_31 => ?_
 ·refine au 12 ?_
  refine ae ?_
  have he : gm L f k w = 1 := by rw [gm, if_pos (by omega)]
  rw [kI, he, if_neg (by decide)]
  exact ⟨_, ⟨rfl, rfl⟩, oM rfl rfl⟩
 refine au 6 ?_
 refine a8 rfl (fun c1 => ?_) fun c1 => ?_
 ·refine au 7 ?_
  refine ae ?_
  have he : gm L f k w = 1 := by rw [gm, if_pos (by omega)]
  rw [kI, he, if_neg (by decide)]
  exact ⟨_, ⟨rfl, rfl⟩, oM rfl rfl⟩
 refine au 4 ?_
 have hb : ¬ (f < 0 ∨ k < 1 ∨ (L.length : Int) < f ∨ (L.length : Int) - f < k ∨ w < 0 ∨ 64 ≤ w) := by omega
 obtain ⟨f, rfl⟩ : ∃ f' : Nat, f = (f' : Int) := ⟨f.toNat, by omega⟩
 obtain ⟨k, rfl⟩ : ∃ k' : Nat, k = (k' : Int) := ⟨k.toNat, by omega⟩
 have hfk : f + k ≤ L.length := by omega
 refine sI (E := 3) (sz := 1) (a := a) (c := c) (n := L.length) (ys := L.flatMap jm) (fun hf => ?_)
 obtain ⟨g, rfl⟩ := sZ hf (by rw [← List.length_pos_iff, y4]; omega)
 refine au 5 ?_
 refine cY (fun i : Nat => i ≤ k ∧ ∀ j, j < i → ¬ 0 ≤ L.getD (f + j) (-1)) (fun i => [(0, .pointer (some ⟨b, 0, none⟩)), (1, .int .i64 f), (2, .int .i64 k), (3, .int .i64 w), (9, .int .i64 i)]) (fun i => pt b (ac [.slice (some ⟨g, 0, none⟩) L.length c] 466) :: osl 3 1 (.slice (some ⟨g, 0, none⟩) L.length c) (L.flatMap jm) :: R) (fun i => k - i) 0 ?_ ?_
 ·exact ⟨Nat.zero_le _, fun j hj => absurd hj (Nat.not_lt_zero j)⟩
 intro i ⟨hi, hI⟩
 refine au 8 ?_
 refine a8 rfl (fun c4 => ?_) fun c4 => ?_
 ·refine au 5 ?_
  have hi1 : f + i < L.length := by omega
  have hgi : L[f + i]? = some (L.getD (f + i) (-1)) := by simp [List.getD, hi1]
  refine au 7 ?_
  refine a7 rfl (bO rfl rfl (by rw [aG (by omega)]; omega : IntKind.wrap .i64 ((f : Int) + (i : Int)) = ((f + i : Nat) : Int))) ?_
  refine a7 rfl (bc dB aj rfl rfl rfl hi1 (by first | exact Nat.zero_add _ | rfl)) ?_
  refine ap 3 (aA aX rfl (FD (f := jm) (E := 3) (sz := 1) (n := L.length) (c := c) rfl G7 (by decide) hgi 0 _ rfl)) ?_
  refine a8 rfl (fun c6 => ?_) fun c6 => ?_
  ·refine au 11 ?_
   refine ae ?_
   have he : gm L f k w = 5 := SN hb (by omega) c6
   rw [kI, he, if_neg (by decide)]
   exact ⟨_, ⟨rfl, rfl⟩, oM rfl rfl⟩
  refine au 5 ?_
  refine ap 3 (cM rfl rfl) ?_
  refine bZ (i + 1) ?_
  ·refine ⟨by omega, fun j hj => ?_⟩
   rcases Nat.lt_or_ge j i with q | q
   ·exact hI j q
   rw [show j = i by omega]; exact c6
 refine au 6 ?_
 obtain rfl : i = k := by omega
 have he : gm L f i w = 0 := SO hb hI
 refine bQ (aB rfl (sF dB aj rfl) ?_)
 rintro _ _ ⟨be, rfl, rfl⟩
 refine au 4 ?_
 refine aB rfl (eV (sz := 1) (by_ := 8) (info := Tryz.t3) dB (by kernel_rfl) rfl rfl rfl rfl (by decide) rfl rfl (Ao (E := 3) (sz := 1) (a := some ⟨g, 0, none⟩) (c := c) (n := L.length)) (by rw [y4, Nat.mul_one]) (SH L) (by simp only [maxLen]; omega) (by omega)) ?_
 rintro _ _ ⟨a3, c3, rfl, rfl⟩
 rw [List.nil_append, Nat.zero_add]
 refine sI (E := 3) (sz := 1) (a := a3) (c := c3) (n := L.length) (ys := L.flatMap jm) (fun hf3 => ?_)
 obtain ⟨g3, rfl⟩ := sZ hf3 (by rw [← List.length_pos_iff, y4]; omega)
 refine au 10 ?_
 refine ge (fun j : Nat => j ≤ i) (fun j => [(0, .pointer (some ⟨b, 0, none⟩)), (1, .int .i64 f), (2, .int .i64 i), (3, .int .i64 w), (10, .slice (some ⟨g3, 0, none⟩) L.length c3), (11, .int .i64 j)]) (fun j => pt b (ac [.slice (some ⟨g, 0, none⟩) L.length c] 466) :: osl 3 1 (.slice (some ⟨g3, 0, none⟩) L.length c3) ((ma L f j w).flatMap jm) :: R) (fun j => i - j) 0 ?_ ?_ ?_ ?_
 ·exact Nat.zero_le _
 ·repeat (first | exact dy | refine db rfl ?_)
 ·rw [SJ]; exact inferInstance
 intro j hj
 refine au 8 ?_
 refine a8 rfl (fun c10 => ?_) fun c10 => ?_
 ·refine au 8 ?_
  refine a7 rfl (bO rfl rfl (by rw [aG (by omega)]; omega : IntKind.wrap .i64 ((f : Int) + (j : Int)) = ((f + j : Nat) : Int))) ?_
  refine a7 rfl (aH rfl) ?_
  refine a7 rfl (bc dB aj rfl rfl rfl (by omega) (by first | exact Nat.zero_add _ | rfl)) ?_
  refine aE 5 (RQ (E := 3) (sz := 1) (n := L.length) (c := c3) (l' := (ma L f (j + 1) w).flatMap jm) aj rfl rfl rfl (by rw [y4, Bn]; omega) (by rw [Nat.mul_one, SG, SK (by omega)])) ?_
  refine ap 3 (cM rfl rfl) ?_
  exact bZ (j + 1) (by omega)
 refine au 11 ?_
 refine aE 8 (bA pf rfl rfl rfl (Nat.le_of_ble_eq_true rfl) SetL.eq) ?_
 refine ae ?_
 obtain rfl : j = i := by omega
 rw [he, SL he]
 exact ⟨_, ⟨rfl, rfl⟩, oM Bn.symm rfl⟩
theorem SQ {c : Nat} (h : c ≤ 8) : ig .i64 1 (c : Int) = ((2 ^ c : Nat) : Int) := by
 have : c = 0 ∨ c = 1 ∨ c = 2 ∨ c = 3 ∨ c = 4 ∨ c = 5 ∨ c = 6 ∨ c = 7 ∨ c = 8 := by omega
 rcases this with rfl | rfl | rfl | rfl | rfl | rfl | rfl | rfl | rfl <;> rfl
theorem SR {l cats : Int} : fh l cats = true ↔ 0 ≤ cats ∧ cats ≤ 8 ∧ 0 ≤ l ∧ l < ((2 ^ cats.toNat : Nat) : Int) := by
 simp only [fh, Bool.and_eq_true, decide_eq_true_iff, oJ]
 constructor
 ·rintro ⟨⟨⟨h1, h2⟩, h3, h4⟩, h5⟩
  refine ⟨h1, h2, h3, ?_⟩
  obtain ⟨c, rfl⟩ : ∃ c : Nat, cats = (c : Int) := ⟨cats.toNat, by omega⟩
  obtain ⟨x, rfl⟩ : ∃ x : Nat, l = (x : Int) := ⟨l.toNat, by omega⟩
  rw [lE (k := .i64) (a := x) (s := c) (by show c ≤ 64; omega)] at h5
  have h6 : x / 2 ^ c = 0 := by omega
  have := (Nat.div_eq_zero_iff_lt (Nat.two_pow_pos c)).1 h6
  rw [Int.toNat_natCast]; omega
 rintro ⟨h1, h2, h3, h4⟩
 obtain ⟨c, rfl⟩ : ∃ c : Nat, cats = (c : Int) := ⟨cats.toNat, by omega⟩
 obtain ⟨x, rfl⟩ : ∃ x : Nat, l = (x : Int) := ⟨l.toNat, by omega⟩
 rw [Int.toNat_natCast] at h4
 have h5 : x < 2 ^ c := by omega
 have h6 : 2 ^ c ≤ 2 ^ 8 := Nat.pow_le_pow_right (by decide) (by omega)
 refine ⟨⟨⟨h1, h2⟩, h3, by omega⟩, ?_⟩
 rw [lE (k := .i64) (a := x) (s := c) (by show c ≤ 64; omega), Nat.div_eq_of_lt h5]; rfl
theorem Bo (l cats : Int) : sQ W0 320 [.int .i64 l, .int .i64 cats] R (.bool (fh l cats)) R := by
  have hv := SR (l := l) (cats := cats)
  refine ai 10 func320 ntmps320 ?_
  refine cp rfl rfl rfl (fun g1_3 => ?_) fun g1_3 => ?_
  · refine au 5 ?_
    refine cp rfl rfl rfl (fun g1_7 => ?_) fun g1_7 => ?_
    · refine au 5 ?_
      refine cp rfl rfl rfl (fun g1_11 => ?_) fun g1_11 => ?_
      · obtain ⟨k, rfl⟩ : ∃ k : Nat, cats = (k : Int) := ⟨cats.toNat, by omega⟩
        have hp := Nat.two_pow_pos k
        rw [Int.toNat_natCast] at hv
        refine au 4 ?_
        refine ap 7 (n0 rfl rfl (by omega) (SQ (by omega))) ?_
        refine ae ?_
        refine aR ?_
        refine congrArg Value.bool ?_
        rw [Bool.eq_iff_iff, hv]
        first
          | (rw [decide_eq_true_iff]; constructor
             · intro q; omega
             · intro q; omega)
          | (constructor
             · intro q; first | omega | (cases q)
             intro q; omega)
      refine au 8 ?_
      refine ae ?_
      refine aR ?_
      refine congrArg Value.bool ?_
      rw [Bool.eq_iff_iff, hv]
      first
        | (rw [decide_eq_true_iff]; constructor
           · intro q; omega
           · intro q; omega)
        | (constructor
           · intro q; first | omega | (cases q)
           intro q; omega)
    refine au 12 ?_
    refine ae ?_
    refine aR ?_
    refine congrArg Value.bool ?_
    rw [Bool.eq_iff_iff, hv]
    first
      | (rw [decide_eq_true_iff]; constructor
         · intro q; omega
         · intro q; omega)
      | (constructor
         · intro q; first | omega | (cases q)
         intro q; omega)
  refine au 16 ?_
  refine ae ?_
  refine aR ?_
  refine congrArg Value.bool ?_
  rw [Bool.eq_iff_iff, hv]
  first
    | (rw [decide_eq_true_iff]; constructor
       · intro q; omega
       · intro q; omega)
    | (constructor
       · intro q; first | omega | (cases q)
       intro q; omega)
theorem vo (c : Cfg) (i : Int) : sQ W0 257 [.agg (di c).toArray, .int .i64 i] R (.bool (fG c i)) R := by
  refine ai 2 func257 ntmps257 ?_
  refine ax (aV rfl) fun b2 => ?_
  refine au 8 ?_
  refine cp rfl rfl rfl (fun g1_3 => ?_) fun g1_3 => ?_
  · refine au 14 ?_
    refine ae ?_
    refine aR ?_
    refine congrArg Value.bool ?_
    rw [Bool.eq_iff_iff, fG, decide_eq_true_iff]
    first
      | (rw [decide_eq_true_iff]; constructor
         · intro q; omega
         · intro q; omega)
      | (constructor
         · intro q; first | omega | (cases q)
         intro q; omega)
  refine au 9 ?_
  refine ae ?_
  refine aR ?_
  refine congrArg Value.bool ?_
  rw [Bool.eq_iff_iff, fG, decide_eq_true_iff]
  first
    | (rw [decide_eq_true_iff]; constructor
       · intro q; omega
       · intro q; omega)
    | (constructor
       · intro q; first | omega | (cases q)
       intro q; omega)
theorem vp {w : Nat → Bool} {i : Nat} (h : ∀ j, j < i → w j = false) (h2 : w i = false) : ∀ j, j < i + 1 → w j = false := fun j hj => by
 rcases Nat.lt_or_ge j i with q | q
 ·exact h j q
 rw [show j = i by omega]; exact h2
theorem SS (c : Cfg) (h : CfOk W0 c) : sP W0 252 [.agg (di c).toArray] R (fun v B => ∃ r, v = .tuple #[.bool (iu c), .int .i64 r] ∧ B = R) := by
 refine ai 2 func252 ntmps252 ?_
 refine ax (aV rfl) fun b1 => ?_
 refine au 12 ?_
 refine bB rfl rfl rfl (fun g1_5 => ?_) fun g1_5 => ?_
 ·refine au 15 ?_
  refine aJ ?_
  rw [iu, decide_eq_true (by omega), Bool.true_or]
  exact ⟨_, ⟨0, rfl, rfl⟩, inferInstance⟩
 refine au 10 ?_
 refine a8 rfl (fun c1 => ?_) fun c1 => ?_
 ·refine au 8 ?_
  refine aJ ?_
  rw [iu, decide_eq_true (by omega), Bool.true_or]
  exact ⟨_, ⟨0, rfl, rfl⟩, inferInstance⟩
 refine au 9 ?_
 refine cY (fun i : Nat => i ≤ c.gl.length ∧ (∀ j, j < i → mH c.cats (c.gl.getD j (0, 0, 0)) = false)) (fun i => [(1, .pointer (some ⟨b1, 0, none⟩)), (4, .int .i64 i)]) (fun _ => pt b1 (fz c) :: R) (fun i => c.gl.length - i) 0 ?_ ?_
 ·exact ⟨Nat.zero_le _, fun j hj => absurd hj (Nat.not_lt_zero _)⟩
 intro i ⟨hi, hI⟩
 refine au 10 ?_
 refine a8 rfl (fun c4 => ?_) fun c4 => ?_
 ·refine au 5 ?_
  have hi1 : i < c.gl.length := by omega
  obtain ⟨g, o, hga, hc⟩ := (h.g []).at_ hi1
  obtain ⟨x, hx⟩ : ∃ x, c.gl[i] = x := ⟨_, rfl⟩
  have hgd : c.gl.getD i (0, 0, 0) = x := by simp [List.getD, hi1, hx]
  rw [hx] at hc
  have hbad : mH c.cats x = true → iu c = true := fun q => by
   rw [iu, tp (w := fun i => mH c.cats (c.gl.getD i (0, 0, 0))) hi1 (by rw [hgd]; exact q), Bool.or_true]
  have hgood := fun q => vp (w := fun i => mH c.cats (c.gl.getD i (0, 0, 0))) hI (show mH c.cats (c.gl.getD i (0, 0, 0)) = false by rw [hgd]; exact q)
  obtain ⟨v, hv⟩ : ∃ v, fh x.1 c.cats = v := ⟨_, rfl⟩
  have hno := vk (cats := c.cats) (g := x)
  have hye := pT (cats := c.cats) (g := x)
  rw [hv] at hno hye
  refine au 4 ?_
  refine a7 rfl (dW iX fQ rfl hga rfl rfl hi1 (by first | exact Nat.zero_add _ | rfl)) ?_
  refine a7 rfl (b0 CX fQ rfl hc.weak rfl) ?_
  refine ax (aS uj) fun bx => ?_
  refine eI (aF fQ rfl rfl rfl rfl rfl) ?_
  rintro _ _ rfl
  refine au 4 ?_
  refine a7 rfl (dp rfl jg rfl aj rfl (by first | exact Nat.zero_add _ | rfl)) ?_
  refine a7 rfl (aA aX rfl (aN rfl)) ?_
  refine a7 rfl (dp rfl wo rfl aj rfl (by first | exact Nat.zero_add _ | rfl)) ?_
  refine a7 rfl (aA aX rfl (aN rfl)) ?_
  refine aB rfl (aD JP rfl (Bo x.1 c.cats)) ?_
  rintro _ B_ ⟨rfl, hB_⟩
  obtain rfl := hB_.symm
  rw [hv]
  refine au 2 ?_
  refine bB rfl rfl rfl (fun g7_7 => ?_) fun g7_7 => ?_
  ·refine au 37 ?_
   refine aJ ?_
   rw [hbad (hye (by first | (intro q; omega) | (intro q; simp_all)))]
   exact ⟨_, ⟨_, rfl, rfl⟩, inferInstance⟩
  refine a7 rfl (dp rfl jg rfl aj rfl (by first | exact Nat.zero_add _ | rfl)) ?_
  refine cP rfl rfl (a7 rfl (aA aX rfl (aN rfl)) ?_)
  refine cP rfl rfl (a7 rfl (kR rfl rfl) (a7 rfl (iY rfl rfl) (a7 rfl (aH rfl) ?_)))
  refine bB rfl rfl rfl (fun g7_12 => ?_) fun g7_12 => ?_
  ·refine au 32 ?_
   refine aJ ?_
   rw [hbad (hye (by first | (intro q; omega) | (intro q; simp_all)))]
   exact ⟨_, ⟨_, rfl, rfl⟩, inferInstance⟩
  refine a7 rfl (dp rfl jg rfl aj rfl (by first | exact Nat.zero_add _ | rfl)) ?_
  refine cP rfl rfl (a7 rfl (aA aX rfl (aN rfl)) ?_)
  refine cP rfl rfl (a7 rfl (nZ rfl rfl) (a7 rfl (iY rfl rfl) (a7 rfl (aH rfl) ?_)))
  refine bB rfl rfl rfl (fun g7_17 => ?_) fun g7_17 => ?_
  ·refine au 27 ?_
   refine aJ ?_
   rw [hbad (hye (by first | (intro q; omega) | (intro q; simp_all)))]
   exact ⟨_, ⟨_, rfl, rfl⟩, inferInstance⟩
  refine a7 rfl (dp rfl jg rfl aj rfl (by first | exact Nat.zero_add _ | rfl)) ?_
  refine cP rfl rfl (a7 rfl (aA aX rfl (aN rfl)) ?_)
  refine cP rfl rfl (a7 rfl (kR rfl rfl) (a7 rfl (iY rfl rfl) (a7 rfl (aH rfl) ?_)))
  refine bB rfl rfl rfl (fun g7_22 => ?_) fun g7_22 => ?_
  ·refine au 22 ?_
   refine aJ ?_
   rw [hbad (hye (by first | (intro q; omega) | (intro q; simp_all)))]
   exact ⟨_, ⟨_, rfl, rfl⟩, inferInstance⟩
  refine a7 rfl (dp rfl jg rfl aj rfl (by first | exact Nat.zero_add _ | rfl)) ?_
  refine cP rfl rfl (a7 rfl (aA aX rfl (aN rfl)) ?_)
  refine cP rfl rfl ?_
  refine a7 rfl (dp rfl jg rfl aj rfl (by first | exact Nat.zero_add _ | rfl)) ?_
  refine cP rfl rfl (a7 rfl (aA aX rfl (aN rfl)) ?_)
  refine cP rfl rfl ?_
  refine a7 rfl (cZ rfl rfl (aG (by omega))) ?_
  refine cP rfl rfl (a7 rfl (nZ rfl rfl) (a7 rfl (iY rfl rfl) (au 2 ?_)))
  refine a8 rfl (fun c7 => ?_) fun c7 => ?_
  ·refine au 13 ?_
   refine aJ ?_
   rw [hbad (hye (by first | (intro q; omega) | (intro q; simp_all)))]
   exact ⟨_, ⟨_, rfl, rfl⟩, inferInstance⟩
  refine au 5 ?_
  refine ap 3 (cM rfl rfl) ?_
  refine bZ (i + 1) ?_
  ·refine ⟨by omega, hgood (hno.2 ⟨by simp_all, by omega, by omega, by omega, by omega⟩)⟩
 refine au 12 ?_
 refine aJ ?_
 obtain rfl : i = c.gl.length := by omega
 rw [iu, decide_eq_false (by omega), Bool.false_or, vj hI]
 exact ⟨_, ⟨0, rfl, rfl⟩, inferInstance⟩
theorem SU (c : Cfg) (h : CfOk W0 c) : sP W0 253 [.agg (di c).toArray] R (fun v B => ∃ r, v = .tuple #[.bool (lL c), .int .i64 r] ∧ B = R) := by
 refine ai 2 func253 ntmps253 ?_
 refine ax (aV rfl) fun b1 => ?_
 refine au 13 ?_
 refine a8 rfl (fun c1 => ?_) fun c1 => ?_
 ·refine au 8 ?_
  refine aJ ?_
  rw [lL, decide_eq_true (by omega), Bool.true_or]
  exact ⟨_, ⟨0, rfl, rfl⟩, inferInstance⟩
 refine au 4 ?_
 refine aB rfl (aD call321 rfl (SI 32 (by decide))) ?_
 rintro _ B_ ⟨bt, rfl, hB_⟩
 obtain rfl := hB_.symm
 refine au 14 ?_
 refine cY (fun X : Nat × List Int => X.1 ≤ c.rl.length ∧ (∀ j, j < X.1 → oL c j = false) ∧ X.2.length = 32 ∧ RT (hZ c X.1) X.2) (fun X => [(1, .pointer (some ⟨b1, 0, none⟩)), (4, .pointer (some ⟨bt, 0, none⟩)), (6, .int .i64 X.1)]) (fun X => rz bt X.2 :: pt b1 (fz c) :: R) (fun X => c.rl.length - X.1) (0, List.replicate 32 (-1)) ?_ ?_
 ·exact ⟨Nat.zero_le _, fun j hj => absurd hj (Nat.not_lt_zero _), rfl, RP 32⟩
 intro ⟨i, L⟩ ⟨hi, hI, hL, hRT⟩
 dsimp only at hi hI hL hRT ⊢
 refine au 10 ?_
 refine a8 rfl (fun c5 => ?_) fun c5 => ?_
 ·refine au 5 ?_
  have hi1 : i < c.rl.length := by omega
  obtain ⟨g, o, hga, hc⟩ := (h.r []).at_ hi1
  obtain ⟨x, hx⟩ : ∃ x, c.rl[i] = x := ⟨_, rfl⟩
  have hA : nG c i = x := by simp [nG, List.getD, hi1, hx]
  rw [hx] at hc
  have hT : hZ c (i + 1) = if fh x.1 c.cats = true then iS (hZ c i) 32 x.2.1 x.2.2 i else hZ c i := by rw [hZ, hA]
  have hW : oL c i = !(fh x.1 c.cats && decide (fW (hZ c i) 32 x.2.1 x.2.2 i = 0)) := by rw [oL, hA]
  have hE := FN hRT (n := 32) (by rw [hL]; rfl) x.2.1 x.2.2 i
  have hS := RO hRT (n := 32) (by rw [hL]; rfl) (by decide) x.2.1 x.2.2 i
  rw [← hE] at hW
  have hbad : oL c i = true → lL c = true := fun q => by rw [lL, tp hi1 q, Bool.or_true]
  obtain ⟨v, hv⟩ : ∃ v, fh x.1 c.cats = v := ⟨_, rfl⟩
  rw [hv] at hT hW
  refine au 4 ?_
  refine a7 rfl (dW Jq wA rfl hga rfl rfl hi1 (by first | exact Nat.zero_add _ | rfl)) ?_
  refine a7 rfl (b0 isAgg378 wA rfl hc.weak rfl) ?_
  refine ax (aS a0f) fun bx => ?_
  refine eI (aF wA rfl rfl rfl rfl rfl) ?_
  rintro _ _ rfl
  refine au 4 ?_
  refine a7 rfl (dp rfl wC rfl aj rfl (by first | exact Nat.zero_add _ | rfl)) ?_
  refine a7 rfl (aA aX rfl (aN rfl)) ?_
  refine a7 rfl (dp rfl wo rfl aj rfl (by first | exact Nat.zero_add _ | rfl)) ?_
  refine a7 rfl (aA aX rfl (aN rfl)) ?_
  refine aB rfl (aD JP rfl (Bo x.1 c.cats)) ?_
  rintro _ B_ ⟨rfl, hB_⟩
  obtain rfl := hB_.symm
  rw [hv]
  refine au 2 ?_
  refine bB rfl rfl rfl (fun g8_7 => ?_) fun g8_7 => ?_
  ·refine au 24 ?_
   refine aJ ?_
   rw [hbad (by rw [hW]; first | (simp_all; done) | (rw [decide_eq_false (by omega), Bool.and_false]; rfl))]
   exact ⟨_, ⟨_, rfl, rfl⟩, inferInstance⟩
  refine a7 rfl (aH rfl) (cP rfl rfl ?_)
  refine a7 rfl (dp rfl wC rfl aj rfl (by first | exact Nat.zero_add _ | rfl)) ?_
  refine cP rfl rfl (a7 rfl (aA aX rfl (aN rfl)) ?_)
  refine cP rfl rfl ?_
  refine a7 rfl (dp rfl wC rfl aj rfl (by first | exact Nat.zero_add _ | rfl)) ?_
  refine cP rfl rfl (a7 rfl (aA aX rfl (aN rfl)) ?_)
  refine cP rfl rfl (a7 rfl (aH rfl) (cP rfl rfl ?_))
  refine aB rfl (ao call322 rfl (SP bt L (by omega) x.2.1 x.2.2 i)) ?_
  rintro _ B_ ⟨rfl, hB_⟩
  obtain rfl := hB_.symm
  refine cP rfl rfl (a7 rfl (n1 rfl rfl) (a7 rfl (iY rfl rfl) (au 2 ?_)))
  refine a8 rfl (fun c8 => ?_) fun c8 => ?_
  ·refine au 13 ?_
   refine aJ ?_
   rw [hbad (by rw [hW]; first | (simp_all; done) | (rw [decide_eq_false (by omega), Bool.and_false]; rfl))]
   exact ⟨_, ⟨_, rfl, rfl⟩, inferInstance⟩
  refine au 3 ?_
  have hv1 : v = true := by first | assumption | simp_all
  have hz : gm L x.2.1 x.2.2 i = 0 := by omega
  rw [hv1, if_pos rfl] at hT
  rw [hv1, hz] at hW
  refine au 2 ?_
  refine ap 3 (cM rfl rfl) ?_
  exact bZ (i + 1, kI L x.2.1 x.2.2 i) (⟨by omega, vp hI hW, FL.trans hL, by rw [hT]; exact hS⟩)
 refine au 12 ?_
 refine aJ ?_
 obtain rfl : i = c.rl.length := by omega
 rw [lL, decide_eq_false (by omega), Bool.false_or, vj hI]
 exact ⟨_, ⟨0, rfl, rfl⟩, inferInstance⟩
theorem SV (c : Cfg) (h : CfOk W0 c) : sP W0 256 [.agg (di c).toArray] R (fun v B => ∃ r, v = .tuple #[.bool (l9 c), .int .i64 r] ∧ B = R) := by
 refine ai 2 func256 ntmps256 ?_
 refine ax (aV rfl) fun b1 => ?_
 refine au 12 ?_
 refine bB rfl rfl rfl (fun g1_5 => ?_) fun g1_5 => ?_
 ·refine au 15 ?_
  refine aJ ?_
  rw [l9, decide_eq_true (by omega), Bool.true_or]
  exact ⟨_, ⟨0, rfl, rfl⟩, inferInstance⟩
 refine au 10 ?_
 refine a8 rfl (fun c1 => ?_) fun c1 => ?_
 ·refine au 8 ?_
  refine aJ ?_
  rw [l9, decide_eq_true (by omega), Bool.true_or]
  exact ⟨_, ⟨0, rfl, rfl⟩, inferInstance⟩
 refine au 9 ?_
 refine cY (fun i : Nat => i ≤ c.sl.length ∧ (∀ j, j < i → m9 c (c.sl.getD j (0, 0)) = false)) (fun i => [(1, .pointer (some ⟨b1, 0, none⟩)), (4, .int .i64 i)]) (fun _ => pt b1 (fz c) :: R) (fun i => c.sl.length - i) 0 ?_ ?_
 ·exact ⟨Nat.zero_le _, fun j hj => absurd hj (Nat.not_lt_zero _)⟩
 intro i ⟨hi, hI⟩
 refine au 10 ?_
 refine a8 rfl (fun c4 => ?_) fun c4 => ?_
 ·refine au 5 ?_
  have hi1 : i < c.sl.length := by omega
  obtain ⟨g, o, hga, hc⟩ := (h.s []).at_ hi1
  obtain ⟨x, hx⟩ : ∃ x, c.sl[i] = x := ⟨_, rfl⟩
  have hgd : c.sl.getD i (0, 0) = x := by simp [List.getD, hi1, hx]
  rw [hx] at hc
  have hbad : m9 c x = true → l9 c = true := fun q => by
   rw [l9, tp (w := fun i => m9 c (c.sl.getD i (0, 0))) hi1 (by rw [hgd]; exact q), Bool.or_true]
  have hgood := fun q => vp (w := fun i => m9 c (c.sl.getD i (0, 0))) hI (show m9 c (c.sl.getD i (0, 0)) = false by rw [hgd]; exact q)
  obtain ⟨v, hv⟩ : ∃ v, fG c x.1 = v := ⟨_, rfl⟩
  have hW : m9 c x = !(v && decide (1 ≤ x.2 ∧ x.2 ≤ 32)) := by rw [m9, hv]
  refine au 4 ?_
  refine a7 rfl (dW CJ uk rfl hga rfl rfl hi1 (by first | exact Nat.zero_add _ | rfl)) ?_
  refine a7 rfl (b0 isAgg91 uk rfl hc.weak rfl) ?_
  refine ax (aS CY) fun bx => ?_
  refine aE 7 (aF uk rfl rfl rfl rfl rfl) ?_
  refine aM (aD zE rfl (vo c x.1)) ?_
  rw [hv]
  refine au 2 ?_
  refine bB rfl rfl rfl (fun g7_6 => ?_) fun g7_6 => ?_
  ·refine au 24 ?_
   refine aJ ?_
   rw [hbad (by rw [hW]; first | (rw [decide_eq_false (by omega), Bool.and_false]; rfl) | (simp_all; done))]
   exact ⟨_, ⟨_, rfl, rfl⟩, inferInstance⟩
  refine au 7 ?_
  refine bB rfl rfl rfl (fun g7_11 => ?_) fun g7_11 => ?_
  ·refine au 19 ?_
   refine aJ ?_
   rw [hbad (by rw [hW]; first | (rw [decide_eq_false (by omega), Bool.and_false]; rfl) | (simp_all; done))]
   exact ⟨_, ⟨_, rfl, rfl⟩, inferInstance⟩
  refine au 8 ?_
  refine a8 rfl (fun c7 => ?_) fun c7 => ?_
  ·refine au 13 ?_
   refine aJ ?_
   rw [hbad (by rw [hW]; first | (rw [decide_eq_false (by omega), Bool.and_false]; rfl) | (simp_all; done))]
   exact ⟨_, ⟨_, rfl, rfl⟩, inferInstance⟩
  refine au 3 ?_
  have hv1 : v = true := by first | assumption | simp_all
  rw [hv1, decide_eq_true (by omega)] at hW
  refine au 2 ?_
  refine ap 3 (cM rfl rfl) ?_
  exact bZ (i + 1) (⟨by omega, hgood hW⟩)
 refine au 12 ?_
 refine aJ ?_
 obtain rfl : i = c.sl.length := by omega
 rw [l9, decide_eq_false (by omega), Bool.false_or, vj hI]
 exact ⟨_, ⟨0, rfl, rfl⟩, inferInstance⟩
theorem tz (c : Cfg) (hs : ∀ A, cG (aO W0 A) c.ga 3 fF c.gl) (hb : ∀ g ∈ c.gl, 1 ≤ g.2.1 ∧ g.2.1 ≤ 8 ∧ 0 ≤ g.2.2 ∧ g.2.2 ≤ 8 - g.2.1) (hn : c.nl.length ≤ 4) (hg : c.gl.length ≤ 4) : sQ W0 89 [.agg (di c).toArray] R (.int .i64 (en c c.gl.length)) R := by
 have hle := Ba hb hn
 refine ai 2 func89 ntmps89 ?_
 refine ax (aV rfl) fun b1 => ?_
 refine au 18 ?_
 refine cY (fun i : Nat => i ≤ c.gl.length) (fun i => [(1, .pointer (some ⟨b1, 0, none⟩)), (3, .int .i64 (en c i)), (4, .int .i64 (i : Nat))]) (fun _ => pt b1 (fz c) :: R) (fun i => c.gl.length - i) 0 ?_ ?_
 ·exact Nat.zero_le _
 intro i hi
 refine au 10 ?_
 refine a8 rfl (fun c3 => ?_) fun c3 => ?_
 ·refine au 4 ?_
  have hi1 : i < c.gl.length := by omega
  obtain ⟨g, o, hga, hc⟩ := (hs []).at_ hi1
  obtain ⟨x, hx⟩ : ∃ x, c.gl[i] = x := ⟨_, rfl⟩
  rw [hx] at hc
  have hbx := hb _ (List.getElem_mem hi1)
  rw [hx] at hbx
  have hst : en c (i + 1) = en c i + (x.2.1 + x.2.2) := by rw [en, show c.gl.getD i (0, 0, 0) = x by simp [List.getD, hi1, hx]]
  have hl1 := hle i hi
  refine aU [(b1, 0, di c), (g, o + i * 3, fF x)] 16 aT rfl (aa (cR hc.weak ag)) (fun hS => ?_)
  refine ah 0 4 hS ?_
  refine av 4 rfl rfl rfl hS (dW iX fQ rfl hga rfl rfl hi1 (by first | exact Nat.zero_add _ | rfl)) ?_
  refine ah 5 1 hS ?_
  refine av 6 rfl rfl rfl hS (aA aX rfl (io (k := 1) (j := 1) rfl rfl)) ?_
  refine av 7 rfl rfl rfl hS (bO rfl rfl (aG (by omega))) ?_
  refine ah 8 3 hS ?_
  refine av 11 rfl rfl rfl hS (dW iX fQ rfl hga rfl rfl hi1 (by first | exact Nat.zero_add _ | rfl)) ?_
  refine ah 12 1 hS ?_
  refine av 13 rfl rfl rfl hS (aA aX rfl (io (k := 1) (j := 2) rfl rfl)) ?_
  refine av 14 rfl rfl rfl hS (bO rfl rfl (by rw [aG (by omega), hst]; omega : IntKind.wrap .i64 (en c i + x.2.1 + x.2.2) = en c (i + 1))) ?_
  refine ah 15 1 hS ?_
  refine aK ?_
  refine au 4 ?_
  refine ap 3 (cM rfl rfl) ?_
  exact bZ (i + 1) (by omega)
 refine au 12 ?_
 refine ae ?_
 obtain rfl : i = c.gl.length := by omega
 exact ⟨_, ⟨rfl, rfl⟩, inferInstance⟩
theorem Bp {W0 : World} {c : Cfg} (h : CfOk W0 c) (q : Int) : ∃ (gg og j : Nat) (vs : List Value), (∀ A, bG (aO W0 A) gg (og + j * 3) vs) ∧ (fG c q = true → c.ga = some ⟨gg, og, none⟩ ∧ q = (j : Int) ∧ j < c.gl.length ∧ ∃ u : Int × Int × Int, vs = fF u ∧ iw c q = u.1) := by
 cases hG : fG c q with
 | false => exact ⟨0, 0, 0, [], fun A k v hk => by simp at hk, fun h => by cases h⟩
 | true =>
  have hb : 0 ≤ q ∧ q < c.gl.length := of_decide_eq_true hG
  obtain ⟨j, rfl⟩ : ∃ j : Nat, q = (j : Int) := ⟨q.toNat, by omega⟩
  have hj : j < c.gl.length := by omega
  obtain ⟨gg, og, hga, _⟩ := (h.g []).at_ hj
  refine ⟨gg, og, j, fF c.gl[j], fun A => ?_, fun _ => ⟨hga, rfl, hj, c.gl[j], rfl, ?_⟩⟩
  ·obtain ⟨g2, o2, h2, hc2⟩ := (h.g A).at_ hj
   rw [hga] at h2; cases h2; exact hc2
  rw [iw, Int.toNat_natCast]; simp [List.getD, hj]
theorem SX {c : Cfg} {q : Int} (h : fG c q = true) : 0 ≤ q ∧ q < c.gl.length := of_decide_eq_true h
theorem SY {c : Cfg} {q : Int} (h : fG c q = false) : ¬ (0 ≤ q ∧ q < c.gl.length) := of_decide_eq_false h
theorem SZ (c : Cfg) (h : CfOk W0 c) : sP W0 255 [.agg (di c).toArray] R (fun v B => ∃ r, v = .tuple #[.bool (hY c), .int .i64 r] ∧ B = R) := by
 refine ai 2 func255 ntmps255 ?_
 refine ax (aV rfl) fun b1 => ?_
 refine au 13 ?_
 refine a8 rfl (fun c1 => ?_) fun c1 => ?_
 ·refine au 8 ?_
  refine aJ ?_
  rw [hY, decide_eq_true (by omega), Bool.true_or]
  exact ⟨_, ⟨0, rfl, rfl⟩, inferInstance⟩
 refine au 9 ?_
 refine cY (fun i : Nat => i ≤ c.nl.length ∧ (∀ j, j < i → lJ c (c.nl.getD j (0, 0)) = false)) (fun i => [(1, .pointer (some ⟨b1, 0, none⟩)), (4, .int .i64 i)]) (fun _ => pt b1 (fz c) :: R) (fun i => c.nl.length - i) 0 ?_ ?_
 ·exact ⟨Nat.zero_le _, fun j hj => absurd hj (Nat.not_lt_zero _)⟩
 intro i ⟨hi, hI⟩
 refine au 10 ?_
 refine a8 rfl (fun c4 => ?_) fun c4 => ?_
 ·refine au 5 ?_
  have hi1 : i < c.nl.length := by omega
  obtain ⟨g, o, hga, hc⟩ := (h.n []).at_ hi1
  obtain ⟨⟨p, q⟩, hx⟩ : ∃ x, c.nl[i] = x := ⟨_, rfl⟩
  have hgd : c.nl.getD i (0, 0) = (p, q) := by simp [List.getD, hi1, hx]
  rw [hx] at hc
  have hbad : lJ c (p, q) = true → hY c = true := fun z => by
   rw [hY, tp (w := fun i => lJ c (c.nl.getD i (0, 0))) hi1 (by rw [hgd]; exact z), Bool.or_true]
  have hgood := fun z => vp (w := fun i => lJ c (c.nl.getD i (0, 0))) hI (show lJ c (c.nl.getD i (0, 0)) = false by rw [hgd]; exact z)
  obtain ⟨g1, o1, j1, vs1, hcv1, hr1⟩ := Bp h p
  obtain ⟨g2, o2, j2, vs2, hcv2, hr2⟩ := Bp h q
  obtain ⟨w1, hw1⟩ : ∃ w, fG c p = w := ⟨_, rfl⟩
  obtain ⟨w2, hw2⟩ : ∃ w, fG c q = w := ⟨_, rfl⟩
  have hW : lJ c (p, q) = !(w1 && w2 && decide (p ≠ q) && m8 (iw c p) (iw c q)) := by rw [lJ, hw1, hw2]
  rw [hw1] at hr1
  rw [hw2] at hr2
  refine au 4 ?_
  refine a7 rfl (dW rW kN rfl hga rfl rfl hi1 (by first | exact Nat.zero_add _ | rfl)) ?_
  refine a7 rfl (b0 zg kN rfl hc.weak rfl) ?_
  refine ax (aS wz) fun bx => ?_
  refine aE 3 (aF kN rfl rfl rfl rfl rfl) ?_
  refine aU [(b1, 0, di c), (bx, 0, fM (p, q)), (g1, o1 + j1 * 3, vs1), (g2, o2 + j2 * 3, vs2)] 37 aT rfl (aa (aa (cR (hcv1 _) (cR (hcv2 _) ag)))) (fun hS => ?_)
  refine av 0 rfl rfl rfl hS (b0 rU mi rfl (by first | exact co (k := 0) rfl | exact co (k := 1) rfl | exact co (k := 2) rfl | exact co (k := 3) rfl | exact co (k := 4) rfl) rfl) ?_
  refine ah 1 2 hS ?_
  refine bS 3 (by kernel_rfl) rfl rfl (aD zE rfl (vo c p)) rfl ?_; clear hS
  rintro _ B_ ⟨rfl, hB_⟩
  obtain rfl := hB_.symm
  rw [hw1]
  refine ⟨(aa (aa (cR (hcv1 _) (cR (hcv2 _) ag)))), fun hS => ?_⟩
  refine ah 4 2 hS ?_
  refine ip (t := 27) rfl ?_ ?_
  ·intro g7_6
   refine ah 6 31 hS ?_
   refine aK ?_
   refine au 15 ?_
   refine aJ ?_
   rw [hbad (by rw [hW]; first | (simp_all; done) | (rw [decide_eq_false (by omega)]; simp))]
   exact ⟨_, ⟨_, rfl, rfl⟩, inferInstance⟩
  intro g7_6
  refine av 6 rfl rfl rfl hS (b0 rU mi rfl (by first | exact co (k := 0) rfl | exact co (k := 1) rfl | exact co (k := 2) rfl | exact co (k := 3) rfl | exact co (k := 4) rfl) rfl) ?_
  refine ah 7 2 hS ?_
  refine bS 9 (by kernel_rfl) rfl rfl (aD zE rfl (vo c q)) rfl ?_; clear hS
  rintro _ B_ ⟨rfl, hB_⟩
  obtain rfl := hB_.symm
  rw [hw2]
  refine ⟨(aa (aa (cR (hcv1 _) (cR (hcv2 _) ag)))), fun hS => ?_⟩
  refine ah 10 3 hS ?_
  refine ip (t := 34) rfl ?_ ?_
  ·intro g7_13
   refine ah 13 24 hS ?_
   refine aK ?_
   refine au 15 ?_
   refine aJ ?_
   rw [hbad (by rw [hW]; first | (simp_all; done) | (rw [decide_eq_false (by omega)]; simp))]
   exact ⟨_, ⟨_, rfl, rfl⟩, inferInstance⟩
  intro g7_13
  refine ah 13 7 hS ?_
  refine ip (t := 41) rfl ?_ ?_
  ·intro g7_20
   refine ah 20 17 hS ?_
   refine aK ?_
   refine au 15 ?_
   refine aJ ?_
   rw [hbad (by rw [hW]; first | (simp_all; done) | (rw [decide_eq_false (by omega)]; simp))]
   exact ⟨_, ⟨_, rfl, rfl⟩, inferInstance⟩
  intro g7_20
  obtain rfl : w1 = true := by first | assumption | simp_all
  obtain rfl : w2 = true := by first | assumption | simp_all
  obtain ⟨ha1, hq1, hj1, u1, rfl, hl1⟩ := hr1 rfl
  obtain ⟨ha2, hq2, hj2, u2, rfl, hl2⟩ := hr2 rfl
  rw [hl1, hl2] at hW
  refine ah 20 4 hS ?_
  refine av 24 rfl rfl rfl hS (dW iX fQ rfl ha1 rfl hq1 hj1 (by first | exact Nat.zero_add _ | rfl)) ?_
  refine ah 25 1 hS ?_
  refine av 26 rfl rfl rfl hS (aA aX rfl (io (k := 2) (j := 0) rfl rfl)) ?_
  refine ah 27 4 hS ?_
  refine av 31 rfl rfl rfl hS (dW iX fQ rfl ha2 rfl hq2 hj2 (by first | exact Nat.zero_add _ | rfl)) ?_
  refine ah 32 1 hS ?_
  refine av 33 rfl rfl rfl hS (aA aX rfl (io (k := 3) (j := 0) rfl rfl)) ?_
  refine bF 34 rfl rfl (aD call323 rfl (QC u1.1 u2.1)) (aa (aa (cR (hcv1 _) (cR (hcv2 _) ag)))) fun hS => ?_
  refine ah 35 2 hS ?_
  refine aK ?_
  refine aY ?_
  refine a8 rfl (fun c7 => ?_) fun c7 => ?_
  ·refine au 13 ?_
   refine aJ ?_
   rw [hbad (by rw [hW]; first | (simp_all; done) | (rw [decide_eq_false (by omega)]; simp))]
   exact ⟨_, ⟨_, rfl, rfl⟩, inferInstance⟩
  refine au 5 ?_
  refine ap 3 (cM rfl rfl) ?_
  refine bZ (i + 1) ?_
  ·refine ⟨by omega, hgood ?_⟩
   rw [hW, decide_eq_true (by omega)]; simp_all
 refine au 12 ?_
 refine aJ ?_
 obtain rfl : i = c.nl.length := by omega
 rw [hY, decide_eq_false (by omega), Bool.false_or, vj hI]
 exact ⟨_, ⟨0, rfl, rfl⟩, inferInstance⟩
theorem G8 {c : Cfg} {g : Int} {k j : Nat} (hj : j < k) (h : j < c.pl.length) (e : (c.pl[j]).2 = g) : lc c g k = true := by
 rw [lc, List.any_eq_true]
 exact ⟨c.pl[j], List.mem_take_iff_getElem.2 ⟨j, by omega, rfl⟩, decide_eq_true e⟩
theorem G9 {c : Cfg} {g : Int} {k : Nat} (hI : ∀ j, j < k → (c.pl.getD j (0, 0)).2 ≠ g) : lc c g k = false := by
 rw [lc, List.any_eq_false]
 intro x hx
 obtain ⟨j, hj, rfl⟩ := List.mem_take_iff_getElem.1 hx
 have := hI j (by omega)
 rw [show c.pl.getD j (0, 0) = c.pl[j]'(by omega) by simp [List.getD, show j < c.pl.length by omega]] at this
 simpa using this
theorem T5 (c : Cfg) (h : CfOk W0 c) : sP W0 254 [.agg (di c).toArray] R (fun v B => ∃ r, v = .tuple #[.bool (lM c), .int .i64 r] ∧ B = R) := by
  refine ai 2 func254 ntmps254 ?_
  refine ax (aV rfl) fun b1 => ?_
  refine au 13 ?_
  refine a8 rfl (fun c1 => ?_) fun c1 => ?_
  · refine au 8 ?_
    refine aJ ?_
    rw [lM, decide_eq_true (by omega), Bool.true_or]
    exact ⟨_, ⟨0, rfl, rfl⟩, inferInstance⟩
  refine au 9 ?_
  refine cY (fun i : Nat => i ≤ c.pl.length ∧ (∀ j, j < i → nH c j = false)) (fun i => [(1, .pointer (some ⟨b1, 0, none⟩)), (4, .int .i64 i)]) (fun _ => pt b1 (fz c) :: R) (fun i => c.pl.length - i) 0 ?_ ?_
  · exact ⟨Nat.zero_le _, fun j hj => absurd hj (Nat.not_lt_zero _)⟩
  intro i ⟨hi, hI⟩
  refine au 10 ?_
  refine a8 rfl (fun c4 => ?_) fun c4 => ?_
  · refine au 5 ?_
    have hi1 : i < c.pl.length := by omega
    obtain ⟨g, o, hga, hc⟩ := (h.p []).at_ hi1
    obtain ⟨⟨p, q⟩, hx⟩ : ∃ x, c.pl[i] = x := ⟨_, rfl⟩
    have hgd : c.pl.getD i (0, 0) = (p, q) := by simp [List.getD, hi1, hx]
    rw [hx] at hc
    have hbad : nH c i = true → lM c = true := fun z => by
      rw [lM, tp hi1 z, Bool.or_true]
    have hgood := fun z => vp (w := nH c) hI z
    obtain ⟨g1, o1, j1, vs1, hcv1, hr1⟩ := Bp h q
    obtain ⟨w1, hw1⟩ : ∃ w, fG c q = w := ⟨_, rfl⟩
    obtain ⟨v1, hv1⟩ : ∃ w, fh p c.cats = w := ⟨_, rfl⟩
    have hW : nH c i = (!v1 || (decide (q ≠ -1) && (!w1 || decide (p ≠ iw c q) || lc c q i))) := by rw [nH, hgd, hw1, hv1]
    rw [hw1] at hr1
    have hlt : w1 = true → 0 ≤ q := fun z => (SX (hw1.trans z)).1
    have hge : w1 = false → ¬ (0 ≤ q ∧ q < c.gl.length) := fun z => SY (hw1.trans z)
    refine au 4 ?_
    refine a7 rfl (dW uf mY rfl hga rfl rfl hi1 (by first | exact Nat.zero_add _ | rfl)) ?_
    refine a7 rfl (b0 JL mY rfl hc.weak rfl) ?_
    refine ax (aS JM) fun bx => ?_
    refine aE 9 (aF mY rfl rfl rfl rfl rfl) ?_
    refine aM (aD JP rfl (Bo p c.cats)) ?_
    rw [hv1]
    refine au 2 ?_
    refine bB rfl rfl rfl (fun g7_7 => ?_) fun g7_7 => ?_
    · refine au 27 ?_
      refine aJ ?_
      rw [hbad (by rw [hW]; simp_all)]
      exact ⟨_, ⟨_, rfl, rfl⟩, inferInstance⟩
    refine au 7 ?_
    refine cp rfl rfl rfl (fun g7_11 => ?_) fun g7_11 => ?_
    · refine au 6 ?_
      refine aM (aD zE rfl (vo c q)) ?_
      rw [hw1]
      refine au 7 ?_
      refine a8 rfl (fun c7 => ?_) fun c7 => ?_
      · refine au 14 ?_
        refine aJ ?_
        rw [hbad (by rw [hW]; simp_all)]
        exact ⟨_, ⟨_, rfl, rfl⟩, inferInstance⟩
      refine au 2 ?_
      refine dU (fun _ : Unit => v1 = true ∧ (q = -1 ∨ (w1 = true ∧ p = iw c q))) (fun _ => [(1, .pointer (some ⟨b1, 0, none⟩)), (4, .int .i64 i), (5, .pointer (some ⟨bx, 0, none⟩))]) (fun _ => pt bx (ac (fM (p, q)) 381) :: pt b1 (fz c) :: R) ?_ ?_
      · skip
        refine bD ?_
        have hv2 : v1 = true := by simp_all
        have hq2 : q = -1 ∨ w1 = true := by
          by_cases z : q = -1
          · exact .inl z
          right; simp_all
        refine aU [(b1, 0, di c), (bx, 0, fM (p, q)), (g1, o1 + j1 * 3, vs1)] 15 aT rfl (aa (aa (cR (hcv1 _) ag))) (fun hS => ?_)
        refine ah 0 4 hS ?_
        refine ip (t := 45) rfl ?_ ?_
        · intro g9_4
          obtain rfl : w1 = true := by
            rcases hq2 with z | z
            · exact absurd z (by omega)
            exact z
          obtain ⟨ha1, hq1, hj1, u1, rfl, hl1⟩ := hr1 rfl
          refine ah 4 6 hS ?_
          refine av 10 rfl rfl rfl hS (dW iX fQ rfl ha1 rfl hq1 hj1 (by first | exact Nat.zero_add _ | rfl)) ?_
          refine ah 11 1 hS ?_
          refine av 12 rfl rfl rfl hS (aA aX rfl (io (k := 2) (j := 0) rfl rfl)) ?_
          refine ah 13 2 hS ?_
          refine aK ?_
          refine aY ?_
          refine a8 rfl (fun c9 => ?_) fun c9 => ?_
          · refine au 9 ?_
            refine aJ ?_
            rw [hbad (by rw [hW, hv2, hl1, decide_eq_true (show p ≠ u1.1 by omega)]; simp_all)]
            exact ⟨_, ⟨_, rfl, rfl⟩, inferInstance⟩
          refine au 2 ?_
          refine cj () ?_
          · refine ⟨hv2, ?_⟩
            first
              | (left; rcases hq2 with z | z
                 · exact z
                 · exact absurd (hlt z) (by omega))
              | exact .inr ⟨rfl, by rw [hl1]; omega⟩
        intro g9_4
        refine ah 4 11 hS ?_
        refine aK ?_
        refine au 4 ?_
        refine cj () ?_
        · refine ⟨hv2, ?_⟩
          first
            | (left; rcases hq2 with z | z
               · exact z
               · exact absurd (hlt z) (by omega))
            | exact .inr ⟨rfl, by rw [hl1]; omega⟩
      intro _ ⟨hv2, hcut⟩
      rw [hv2, show (!true) = false from rfl, Bool.false_or] at hW
      refine au 6 ?_
      refine cY (fun k : Nat => k ≤ i ∧ ∀ j, j < k → 0 ≤ q → (c.pl.getD j (0, 0)).2 ≠ q) (fun k => [(1, .pointer (some ⟨b1, 0, none⟩)), (4, .int .i64 i), (5, .pointer (some ⟨bx, 0, none⟩)), (6, .int .i64 k)]) (fun _ => pt bx (ac (fM (p, q)) 381) :: pt b1 (fz c) :: R) (fun k => i - k) 0 ?_ ?_
      · exact ⟨Nat.zero_le _, fun j hj => absurd hj (Nat.not_lt_zero _)⟩
      intro k ⟨hk, hK⟩
      refine au 8 ?_
      refine a8 rfl (fun c12 => ?_) fun c12 => ?_
      · refine au 5 ?_
        have hk1 : k < c.pl.length := by omega
        obtain ⟨g2, o2, hga2, hc2⟩ := (h.p []).at_ hk1
        obtain ⟨⟨p2, q2⟩, hx2⟩ : ∃ x, c.pl[k] = x := ⟨_, rfl⟩
        have hgd2 : c.pl.getD k (0, 0) = (p2, q2) := by simp [List.getD, hk1, hx2]
        have htk : q2 = q → lc c q i = true := fun z => G8 (j := k) (by omega) hk1 (by rw [hx2]; exact z)
        rw [hx2] at hc2
        refine aU [(b1, 0, di c), (bx, 0, fM (p, q)), (g2, o2 + k * 2, fM (p2, q2))] 14 aT rfl (aa (aa (cR hc2.weak ag))) (fun hS => ?_)
        refine ah 0 4 hS ?_
        refine ip (t := 66) rfl ?_ ?_
        · intro g14_4
          refine ah 4 3 hS ?_
          refine av 7 rfl rfl rfl hS (dW uf mY rfl hga2 rfl rfl hk1 (by first | exact Nat.zero_add _ | rfl)) ?_
          refine ah 8 1 hS ?_
          refine av 9 rfl rfl rfl hS (aA aX rfl (io (k := 2) (j := 1) rfl rfl)) ?_
          refine ah 10 4 hS ?_
          refine aK ?_
          refine aY ?_
          refine a8 rfl (fun c14 => ?_) fun c14 => ?_
          · refine au 17 ?_
            refine aJ ?_
            have hz : w1 = true := by
              rcases hcut with z | z
              · omega
              exact z.1
            rw [hbad (by rw [hW, htk (by omega), decide_eq_true (by omega)]; simp)]
            exact ⟨_, ⟨_, rfl, rfl⟩, inferInstance⟩
          refine au 5 ?_
          refine ap 3 (cM rfl rfl) ?_
          refine bZ (k + 1) ?_
          · refine ⟨by omega, fun j hj hq0 => ?_⟩
            rcases Nat.lt_or_ge j k with z | z
            · exact hK j z hq0
            rw [show j = k by omega, hgd2]
            dsimp only
            omega
        intro g14_4
        refine ah 4 10 hS ?_
        refine aK ?_
        refine au 7 ?_
        refine ap 3 (cM rfl rfl) ?_
        refine bZ (k + 1) ?_
        · refine ⟨by omega, fun j hj hq0 => ?_⟩
          rcases Nat.lt_or_ge j k with z | z
          · exact hK j z hq0
          rw [show j = k by omega, hgd2]
          dsimp only
          omega
      refine au 8 ?_
      refine ap 3 (cM rfl rfl) ?_
      refine bZ (i + 1) ?_
      · refine ⟨by omega, hgood ?_⟩
        rw [hW]
        rcases hcut with z | ⟨z1, z2⟩
        · rw [z]; rfl
        rw [z1, G9 (fun j hj => hK j (by omega) (hlt z1)), decide_eq_false (by omega : ¬ p ≠ iw c q)]
        simp
    refine au 12 ?_
    refine dU (fun _ : Unit => v1 = true ∧ (q = -1 ∨ (w1 = true ∧ p = iw c q))) (fun _ => [(1, .pointer (some ⟨b1, 0, none⟩)), (4, .int .i64 i), (5, .pointer (some ⟨bx, 0, none⟩))]) (fun _ => pt bx (ac (fM (p, q)) 381) :: pt b1 (fz c) :: R) ?_ ?_
    · skip
      refine bD ?_
      have hv2 : v1 = true := by simp_all
      have hq2 : q = -1 ∨ w1 = true := by
        by_cases z : q = -1
        · exact .inl z
        right; simp_all
      refine aU [(b1, 0, di c), (bx, 0, fM (p, q)), (g1, o1 + j1 * 3, vs1)] 15 aT rfl (aa (aa (cR (hcv1 _) ag))) (fun hS => ?_)
      refine ah 0 4 hS ?_
      refine ip (t := 45) rfl ?_ ?_
      · intro g9_4
        obtain rfl : w1 = true := by
          rcases hq2 with z | z
          · exact absurd z (by omega)
          exact z
        obtain ⟨ha1, hq1, hj1, u1, rfl, hl1⟩ := hr1 rfl
        refine ah 4 6 hS ?_
        refine av 10 rfl rfl rfl hS (dW iX fQ rfl ha1 rfl hq1 hj1 (by first | exact Nat.zero_add _ | rfl)) ?_
        refine ah 11 1 hS ?_
        refine av 12 rfl rfl rfl hS (aA aX rfl (io (k := 2) (j := 0) rfl rfl)) ?_
        refine ah 13 2 hS ?_
        refine aK ?_
        refine aY ?_
        refine a8 rfl (fun c9 => ?_) fun c9 => ?_
        · refine au 9 ?_
          refine aJ ?_
          rw [hbad (by rw [hW, hv2, hl1, decide_eq_true (show p ≠ u1.1 by omega)]; simp_all)]
          exact ⟨_, ⟨_, rfl, rfl⟩, inferInstance⟩
        refine au 2 ?_
        refine cj () ?_
        · refine ⟨hv2, ?_⟩
          first
            | (left; rcases hq2 with z | z
               · exact z
               · exact absurd (hlt z) (by omega))
            | exact .inr ⟨rfl, by rw [hl1]; omega⟩
      intro g9_4
      refine ah 4 11 hS ?_
      refine aK ?_
      refine au 4 ?_
      refine cj () ?_
      · refine ⟨hv2, ?_⟩
        first
          | (left; rcases hq2 with z | z
             · exact z
             · exact absurd (hlt z) (by omega))
          | exact .inr ⟨rfl, by rw [hl1]; omega⟩
    intro _ ⟨hv2, hcut⟩
    rw [hv2, show (!true) = false from rfl, Bool.false_or] at hW
    refine au 6 ?_
    refine cY (fun k : Nat => k ≤ i ∧ ∀ j, j < k → 0 ≤ q → (c.pl.getD j (0, 0)).2 ≠ q) (fun k => [(1, .pointer (some ⟨b1, 0, none⟩)), (4, .int .i64 i), (5, .pointer (some ⟨bx, 0, none⟩)), (6, .int .i64 k)]) (fun _ => pt bx (ac (fM (p, q)) 381) :: pt b1 (fz c) :: R) (fun k => i - k) 0 ?_ ?_
    · exact ⟨Nat.zero_le _, fun j hj => absurd hj (Nat.not_lt_zero _)⟩
    intro k ⟨hk, hK⟩
    refine au 8 ?_
    refine a8 rfl (fun c12 => ?_) fun c12 => ?_
    · refine au 5 ?_
      have hk1 : k < c.pl.length := by omega
      obtain ⟨g2, o2, hga2, hc2⟩ := (h.p []).at_ hk1
      obtain ⟨⟨p2, q2⟩, hx2⟩ : ∃ x, c.pl[k] = x := ⟨_, rfl⟩
      have hgd2 : c.pl.getD k (0, 0) = (p2, q2) := by simp [List.getD, hk1, hx2]
      have htk : q2 = q → lc c q i = true := fun z => G8 (j := k) (by omega) hk1 (by rw [hx2]; exact z)
      rw [hx2] at hc2
      refine aU [(b1, 0, di c), (bx, 0, fM (p, q)), (g2, o2 + k * 2, fM (p2, q2))] 14 aT rfl (aa (aa (cR hc2.weak ag))) (fun hS => ?_)
      refine ah 0 4 hS ?_
      refine ip (t := 66) rfl ?_ ?_
      · intro g14_4
        refine ah 4 3 hS ?_
        refine av 7 rfl rfl rfl hS (dW uf mY rfl hga2 rfl rfl hk1 (by first | exact Nat.zero_add _ | rfl)) ?_
        refine ah 8 1 hS ?_
        refine av 9 rfl rfl rfl hS (aA aX rfl (io (k := 2) (j := 1) rfl rfl)) ?_
        refine ah 10 4 hS ?_
        refine aK ?_
        refine aY ?_
        refine a8 rfl (fun c14 => ?_) fun c14 => ?_
        · refine au 17 ?_
          refine aJ ?_
          have hz : w1 = true := by
            rcases hcut with z | z
            · omega
            exact z.1
          rw [hbad (by rw [hW, htk (by omega), decide_eq_true (by omega)]; simp)]
          exact ⟨_, ⟨_, rfl, rfl⟩, inferInstance⟩
        refine au 5 ?_
        refine ap 3 (cM rfl rfl) ?_
        refine bZ (k + 1) ?_
        · refine ⟨by omega, fun j hj hq0 => ?_⟩
          rcases Nat.lt_or_ge j k with z | z
          · exact hK j z hq0
          rw [show j = k by omega, hgd2]
          dsimp only
          omega
      intro g14_4
      refine ah 4 10 hS ?_
      refine aK ?_
      refine au 7 ?_
      refine ap 3 (cM rfl rfl) ?_
      refine bZ (k + 1) ?_
      · refine ⟨by omega, fun j hj hq0 => ?_⟩
        rcases Nat.lt_or_ge j k with z | z
        · exact hK j z hq0
        rw [show j = k by omega, hgd2]
        dsimp only
        omega
    refine au 8 ?_
    refine ap 3 (cM rfl rfl) ?_
    refine bZ (i + 1) ?_
    · refine ⟨by omega, hgood ?_⟩
      rw [hW]
      rcases hcut with z | ⟨z1, z2⟩
      · rw [z]; rfl
      rw [z1, G9 (fun j hj => hK j (by omega) (hlt z1)), decide_eq_false (by omega : ¬ p ≠ iw c q)]
      simp
  refine au 12 ?_
  refine aJ ?_
  obtain rfl : i = c.pl.length := by omega
  rw [lM, decide_eq_false (by omega), Bool.false_or, vj hI]
  exact ⟨_, ⟨0, rfl, rfl⟩, inferInstance⟩
theorem y5 {c : Cfg} (h : hY c = false) : c.nl.length ≤ 4 := by
 simp only [hY, Bool.or_eq_false_iff, decide_eq_false_iff_not] at h; omega
theorem T6 (c : Cfg) (h : CfOk W0 c) : sP W0 173 [.agg (di c).toArray] R (fun v B => ∃ at_, v = .tuple #[.int .i64 (lO c), .int .i64 at_] ∧ B = R) := by
 obtain ⟨w1, hw1⟩ : ∃ w, fG c c.gate = w := ⟨_, rfl⟩
 have hG : ka c = if c.gate = -1 then decide (c.quota ≠ 0) else !(w1 && decide (0 ≤ c.quota ∧ c.quota ≤ 64)) := by rw [ka, hw1]
 obtain ⟨x0, hx0⟩ : ∃ x, lO c = x := ⟨_, rfl⟩
 obtain ⟨x1, hx1⟩ : ∃ x, iu c = x := ⟨_, rfl⟩
 obtain ⟨x2, hx2⟩ : ∃ x, lL c = x := ⟨_, rfl⟩
 obtain ⟨x3, hx3⟩ : ∃ x, lM c = x := ⟨_, rfl⟩
 obtain ⟨x4, hx4⟩ : ∃ x, hY c = x := ⟨_, rfl⟩
 obtain ⟨x5, hx5⟩ : ∃ x, l9 c = x := ⟨_, rfl⟩
 obtain ⟨x6, hx6⟩ : ∃ x, ka c = x := ⟨_, rfl⟩
 have hC : x0 = if c.cats < 0 ∨ 8 < c.cats then 12 else if x1 then 13 else if x2 then 14 else if x3 then 15 else if x4 then 16 else if x5 then 17 else if x6 then 18 else if 32 < en c c.gl.length then 19 else 0 := by rw [← hx0, lO, hx1, hx2, hx3, hx4, hx5, hx6]
 rw [hx6] at hG
 rw [hx0]
 refine ai 2 func173 ntmps173 ?_
 refine ax (aV rfl) fun b1 => ?_
 refine au 11 ?_
 refine bB rfl rfl rfl (fun g1_4 => ?_) fun g1_4 => ?_
 ·refine au 14 ?_
  refine aJ ?_
  rw [hC, if_pos (by omega)]
  exact ⟨_, ⟨0, rfl, rfl⟩, inferInstance⟩
 refine au 8 ?_
 refine a8 rfl (fun c1 => ?_) fun c1 => ?_
 ·refine au 8 ?_
  refine aJ ?_
  rw [hC, if_pos (by omega)]
  exact ⟨_, ⟨0, rfl, rfl⟩, inferInstance⟩
 refine au 3 ?_
 rw [if_neg (by omega)] at hC
 refine au 2 ?_
 refine aB rfl (aD call252 rfl (SS c h)) ?_
 rintro _ B_ ⟨r1, rfl, hB_⟩
 obtain rfl := hB_.symm
 rw [hx1]
 refine au 13 ?_
 refine a8 rfl (fun c4 => ?_) fun c4 => ?_
 ·refine au 9 ?_
  refine aJ ?_
  rw [hC, if_pos (by simpa using c4)]
  exact ⟨_, ⟨r1, rfl, rfl⟩, inferInstance⟩
 refine au 3 ?_
 rw [if_neg (by simpa using c4)] at hC
 refine au 2 ?_
 refine aB rfl (aD call253 rfl (SU c h)) ?_
 rintro _ B_ ⟨r2, rfl, hB_⟩
 obtain rfl := hB_.symm
 rw [hx2]
 refine au 13 ?_
 refine a8 rfl (fun c7 => ?_) fun c7 => ?_
 ·refine au 9 ?_
  refine aJ ?_
  rw [hC, if_pos (by simpa using c7)]
  exact ⟨_, ⟨r2, rfl, rfl⟩, inferInstance⟩
 refine au 3 ?_
 rw [if_neg (by simpa using c7)] at hC
 refine au 2 ?_
 refine aB rfl (aD call254 rfl (T5 c h)) ?_
 rintro _ B_ ⟨r3, rfl, hB_⟩
 obtain rfl := hB_.symm
 rw [hx3]
 refine au 13 ?_
 refine a8 rfl (fun c10 => ?_) fun c10 => ?_
 ·refine au 9 ?_
  refine aJ ?_
  rw [hC, if_pos (by simpa using c10)]
  exact ⟨_, ⟨r3, rfl, rfl⟩, inferInstance⟩
 refine au 3 ?_
 rw [if_neg (by simpa using c10)] at hC
 refine au 2 ?_
 refine aB rfl (aD call255 rfl (SZ c h)) ?_
 rintro _ B_ ⟨r4, rfl, hB_⟩
 obtain rfl := hB_.symm
 rw [hx4]
 refine au 13 ?_
 refine a8 rfl (fun c13 => ?_) fun c13 => ?_
 ·refine au 9 ?_
  refine aJ ?_
  rw [hC, if_pos (by simpa using c13)]
  exact ⟨_, ⟨r4, rfl, rfl⟩, inferInstance⟩
 refine au 3 ?_
 rw [if_neg (by simpa using c13)] at hC
 refine au 2 ?_
 refine aB rfl (aD call256 rfl (SV c h)) ?_
 rintro _ B_ ⟨r5, rfl, hB_⟩
 obtain rfl := hB_.symm
 rw [hx5]
 refine au 13 ?_
 refine a8 rfl (fun c16 => ?_) fun c16 => ?_
 ·refine au 9 ?_
  refine aJ ?_
  rw [hC, if_pos (by simpa using c16)]
  exact ⟨_, ⟨r5, rfl, rfl⟩, inferInstance⟩
 refine au 4 ?_
 rw [if_neg (by simpa using c16)] at hC
 refine au 5 ?_
 refine cp rfl rfl rfl (fun g18_4 => ?_) fun g18_4 => ?_
 ·refine au 6 ?_
  refine aM (aD zE rfl (vo c c.gate)) ?_
  rw [hw1]
  refine au 4 ?_
  refine bB rfl rfl rfl (fun g18_11 => ?_) fun g18_11 => ?_
  ·refine au 29 ?_
   refine aJ ?_
   have hz : x6 = true := by
    rw [hG]; split
    ·exact decide_eq_true (by first | omega | simp_all)
    first
     | (rw [decide_eq_false (by omega), Bool.and_false]; rfl)
     | simp_all
   rw [hC, hz]
   exact ⟨_, ⟨0, rfl, rfl⟩, inferInstance⟩
  refine au 7 ?_
  refine bB rfl rfl rfl (fun g18_16 => ?_) fun g18_16 => ?_
  ·refine au 24 ?_
   refine aJ ?_
   have hz : x6 = true := by
    rw [hG]; split
    ·exact decide_eq_true (by first | omega | simp_all)
    first
     | (rw [decide_eq_false (by omega), Bool.and_false]; rfl)
     | simp_all
   rw [hC, hz]
   exact ⟨_, ⟨0, rfl, rfl⟩, inferInstance⟩
  refine au 7 ?_
  refine bB rfl rfl rfl (fun g18_21 => ?_) fun g18_21 => ?_
  ·refine au 19 ?_
   refine aJ ?_
   have hz : x6 = true := by
    rw [hG]; split
    ·exact decide_eq_true (by first | omega | simp_all)
    first
     | (rw [decide_eq_false (by omega), Bool.and_false]; rfl)
     | simp_all
   rw [hC, hz]
   exact ⟨_, ⟨0, rfl, rfl⟩, inferInstance⟩
  refine au 7 ?_
  refine cp rfl rfl rfl (fun g18_25 => ?_) fun g18_25 => ?_
  ·refine au 10 ?_
   refine a8 rfl (fun c18 => ?_) fun c18 => ?_
   ·refine au 8 ?_
    refine aJ ?_
    have hz : x6 = true := by
     rw [hG]; split
     ·exact decide_eq_true (by first | omega | simp_all)
     first
      | (rw [decide_eq_false (by omega), Bool.and_false]; rfl)
      | simp_all
    rw [hC, hz]
    exact ⟨_, ⟨0, rfl, rfl⟩, inferInstance⟩
   refine au 4 ?_
   have hz : x6 = false := by
    rw [hG]; split
    ·exact decide_eq_false (by first | omega | simp_all)
    rw [decide_eq_true (by omega)]; simp_all
   rw [hz] at hC
   have hgr : iu c = false := by rw [hx1]; simpa using c4
   have hri : hY c = false := by rw [hx4]; simpa using c13
   obtain ⟨k1, k2, k3⟩ := tt hgr
   refine au 2 ?_
   refine ar 3 (aD wD rfl (tz c h.g (fun g hg => (k3 g hg).2) (y5 hri) k2)) ?_
   refine a8 rfl (fun c20 => ?_) fun c20 => ?_
   ·refine au 8 ?_
    refine aJ ?_
    rw [hC, if_neg (by decide), if_pos (by omega)]
    exact ⟨_, ⟨0, rfl, rfl⟩, inferInstance⟩
   refine au 9 ?_
   refine aJ ?_
   rw [hC, if_neg (by decide), if_neg (by omega)]
   exact ⟨_, ⟨0, rfl, rfl⟩, inferInstance⟩
  refine au 12 ?_
  have hz : x6 = false := by
   rw [hG]; split
   ·exact decide_eq_false (by first | omega | simp_all)
   rw [decide_eq_true (by omega)]; simp_all
  rw [hz] at hC
  have hgr : iu c = false := by rw [hx1]; simpa using c4
  have hri : hY c = false := by rw [hx4]; simpa using c13
  obtain ⟨k1, k2, k3⟩ := tt hgr
  refine au 2 ?_
  refine ar 3 (aD wD rfl (tz c h.g (fun g hg => (k3 g hg).2) (y5 hri) k2)) ?_
  refine a8 rfl (fun c20 => ?_) fun c20 => ?_
  ·refine au 8 ?_
   refine aJ ?_
   rw [hC, if_neg (by decide), if_pos (by omega)]
   exact ⟨_, ⟨0, rfl, rfl⟩, inferInstance⟩
  refine au 9 ?_
  refine aJ ?_
  rw [hC, if_neg (by decide), if_neg (by omega)]
  exact ⟨_, ⟨0, rfl, rfl⟩, inferInstance⟩
 refine au 14 ?_
 refine bB rfl rfl rfl (fun g18_16 => ?_) fun g18_16 => ?_
 ·refine au 24 ?_
  refine aJ ?_
  have hz : x6 = true := by
   rw [hG]; split
   ·exact decide_eq_true (by first | omega | simp_all)
   first
    | (rw [decide_eq_false (by omega), Bool.and_false]; rfl)
    | simp_all
  rw [hC, hz]
  exact ⟨_, ⟨0, rfl, rfl⟩, inferInstance⟩
 refine au 7 ?_
 refine bB rfl rfl rfl (fun g18_21 => ?_) fun g18_21 => ?_
 ·refine au 19 ?_
  refine aJ ?_
  have hz : x6 = true := by
   rw [hG]; split
   ·exact decide_eq_true (by first | omega | simp_all)
   first
    | (rw [decide_eq_false (by omega), Bool.and_false]; rfl)
    | simp_all
  rw [hC, hz]
  exact ⟨_, ⟨0, rfl, rfl⟩, inferInstance⟩
 refine au 7 ?_
 refine cp rfl rfl rfl (fun g18_25 => ?_) fun g18_25 => ?_
 ·refine au 10 ?_
  refine a8 rfl (fun c18 => ?_) fun c18 => ?_
  ·refine au 8 ?_
   refine aJ ?_
   have hz : x6 = true := by
    rw [hG]; split
    ·exact decide_eq_true (by first | omega | simp_all)
    first
     | (rw [decide_eq_false (by omega), Bool.and_false]; rfl)
     | simp_all
   rw [hC, hz]
   exact ⟨_, ⟨0, rfl, rfl⟩, inferInstance⟩
  refine au 4 ?_
  have hz : x6 = false := by
   rw [hG]; split
   ·exact decide_eq_false (by first | omega | simp_all)
   rw [decide_eq_true (by omega)]; simp_all
  rw [hz] at hC
  have hgr : iu c = false := by rw [hx1]; simpa using c4
  have hri : hY c = false := by rw [hx4]; simpa using c13
  obtain ⟨k1, k2, k3⟩ := tt hgr
  refine au 2 ?_
  refine ar 3 (aD wD rfl (tz c h.g (fun g hg => (k3 g hg).2) (y5 hri) k2)) ?_
  refine a8 rfl (fun c20 => ?_) fun c20 => ?_
  ·refine au 8 ?_
   refine aJ ?_
   rw [hC, if_neg (by decide), if_pos (by omega)]
   exact ⟨_, ⟨0, rfl, rfl⟩, inferInstance⟩
  refine au 9 ?_
  refine aJ ?_
  rw [hC, if_neg (by decide), if_neg (by omega)]
  exact ⟨_, ⟨0, rfl, rfl⟩, inferInstance⟩
 refine au 12 ?_
 have hz : x6 = false := by
  rw [hG]; split
  ·exact decide_eq_false (by first | omega | simp_all)
  rw [decide_eq_true (by omega)]; simp_all
 rw [hz] at hC
 have hgr : iu c = false := by rw [hx1]; simpa using c4
 have hri : hY c = false := by rw [hx4]; simpa using c13
 obtain ⟨k1, k2, k3⟩ := tt hgr
 refine au 2 ?_
 refine ar 3 (aD wD rfl (tz c h.g (fun g hg => (k3 g hg).2) (y5 hri) k2)) ?_
 refine a8 rfl (fun c20 => ?_) fun c20 => ?_
 ·refine au 8 ?_
  refine aJ ?_
  rw [hC, if_neg (by decide), if_pos (by omega)]
  exact ⟨_, ⟨0, rfl, rfl⟩, inferInstance⟩
 refine au 9 ?_
 refine aJ ?_
 rw [hC, if_neg (by decide), if_neg (by omega)]
 exact ⟨_, ⟨0, rfl, rfl⟩, inferInstance⟩
theorem y6 (c : Cfg) (h : CfOk W0 c) : sQ W0 88 [.agg (di c).toArray] R (.bool (rt c)) R := by
 refine ai 2 func88 ntmps88 ?_
 refine ax (aV rfl) fun b1 => ?_
 refine au 6 ?_
 refine aB rfl (aD call173 rfl (T6 c h)) ?_
 rintro _ B_ ⟨at_, rfl, hB_⟩
 obtain rfl := hB_.symm
 refine au 15 ?_
 refine ae ?_
 refine aR ?_
 refine congrArg Value.bool ?_
 rw [Bool.eq_iff_iff, rt]; simp
end
section
def cQ (c : Cfg) (i : Nat) : Int × Int × Int := c.gl.getD i (0, 0, 0)
def dG (c : Cfg) : Nat → Int
  | 0 => 0
  | i + 1 => dG c i + ((cQ c i).2.1 + (cQ c i).2.2)
theorem rA (c : Cfg) : ∀ i, en c i = dG c i + (c.nl.length : Int)
 | 0 => by rw [en, dG, Int.zero_add]
 | i + 1 => by rw [en, dG, rA c i, cQ]; omega
def jt (c : Cfg) (f : Int) : Option Nat := nB (fun i => decide (f < dG c (i + 1))) c.gl.length
def cF (c : Cfg) : Nat := (en c c.gl.length).toNat
def T7 (b f : Int) : Option Nat → Int × Int
  | some i => (1, (i : Int))
  | none => (2, f - b)
def pU (c : Cfg) (f : Int) : Int × Int := if rt c = true ∧ 0 ≤ f ∧ f < en c c.gl.length then T7 (dG c c.gl.length) f (jt c f) else (0, 0)
structure CfR (c : Cfg) : Prop where
  g1 : 1 ≤ c.gl.length
  g4 : c.gl.length ≤ 4
  gs : ∀ i, i < c.gl.length → 1 ≤ (cQ c i).2.1 ∧ (cQ c i).2.1 ≤ 8 ∧ 0 ≤ (cQ c i).2.2 ∧ (cQ c i).2.2 ≤ 8 - (cQ c i).2.1
  nn : c.nl.length ≤ 4
  nd : 1 ≤ en c c.gl.length ∧ en c c.gl.length ≤ 32
theorem pW {c : Cfg} (h : ∀ i, i < c.gl.length → 1 ≤ (cQ c i).2.1 ∧ (cQ c i).2.1 ≤ 8 ∧ 0 ≤ (cQ c i).2.2 ∧ (cQ c i).2.2 ≤ 8 - (cQ c i).2.1) : ∀ i, i ≤ c.gl.length → (i : Int) ≤ dG c i ∧ dG c i ≤ 8 * i
 | 0, _ => by simp [dG]
 | i + 1, hi => by
  have := pW h i (by omega)
  have := h i (by omega)
  rw [dG]; omega
theorem T8 {c : Cfg} (h : CfR c) {i : Nat} (hi : i < c.gl.length) : dG c i < dG c (i + 1) := by
 have := h.gs i hi
 rw [dG]; omega
theorem Bq {c : Cfg} (h : CfR c) {i j : Nat} (hij : i ≤ j) (hj : j ≤ c.gl.length) : dG c i ≤ dG c j := by
  induction j with
  | zero => obtain rfl : i = 0 := by omega
            exact Int.le_refl _
  | succ j ih =>
    rcases Nat.lt_or_ge i (j + 1) with k | k
    · have := ih (by omega) (by omega)
      have := T8 h (i := j) (by omega)
      omega
    obtain rfl : i = j + 1 := by omega
    exact Int.le_refl _
theorem lg {c : Cfg} (h : rt c = true) : CfR c := by
 obtain ⟨_, _, k1, _, _, k2, _, _, k3⟩ := S5 h
 obtain ⟨g1, g4, gs⟩ := tt k1
 have hn : c.nl.length ≤ 4 := by
  simp only [hY, Bool.or_eq_false_iff, decide_eq_false_iff_not] at k2; omega
 have hg : ∀ i, i < c.gl.length → 1 ≤ (cQ c i).2.1 ∧ (cQ c i).2.1 ≤ 8 ∧ 0 ≤ (cQ c i).2.2 ∧ (cQ c i).2.2 ≤ 8 - (cQ c i).2.1 := fun i hi => by
  have := (gs _ (List.getElem_mem hi)).2
  rwa [show cQ c i = c.gl[i] by simp [cQ, List.getD, hi]]
 have := pW hg c.gl.length (Nat.le_refl _)
 exact ⟨g1, g4, hg, hn, by rw [rA]; omega, k3⟩
theorem y7 {c : Cfg} (h : CfR c) {f : Int} {i : Nat} : (jt c f = some i ↔ i < c.gl.length ∧ f < dG c (i + 1) ∧ (0 < i → dG c i ≤ f)) := by
 rw [jt, nB, List.find?_eq_some_iff_getElem]
 simp only [decide_eq_true_iff]
 constructor
 ·rintro ⟨h1, k, hk, rfl, h2⟩
  rw [List.getElem_range] at h1 ⊢
  simp only [List.length_range] at hk
  refine ⟨hk, h1, fun h0 => ?_⟩
  have := h2 (k - 1) (by omega)
  simp only [List.getElem_range, Bool.not_eq_true', decide_eq_false_iff_not] at this
  rw [show k - 1 + 1 = k by omega] at this
  omega
 rintro ⟨h1, h2, h3⟩
 refine ⟨h2, i, by simpa using h1, by simp, fun j hj => ?_⟩
 simp only [List.getElem_range, Bool.not_eq_true', decide_eq_false_iff_not]
 have := Bq h (i := j + 1) (j := i) (by omega) (by omega)
 have := h3 (by omega)
 omega
def rB : Option Nat → Int × Bool
  | some i => ((i : Int), false)
  | none => (-1, false)
def dQ (c : Cfg) (k : Nat) : Po := (List.range (cF c)).map fun g => if g < k then rB (jt c g) else (-1, false)
theorem nJ (c : Cfg) (k : Nat) : (dQ c k).length = cF c := by simp [dQ]
theorem tA {c : Cfg} {k f : Nat} (hf : f < cF c) : cD (dQ c k) f = if f < k then rB (jt c f) else (-1, false) := by
 simp [cD, dQ, List.getD, hf]
theorem Ga (c : Cfg) : dQ c 0 = List.replicate (cF c) (-1, false) := by
 apply List.ext_getElem
 ·simp [dQ]
 intro i h1 h2; simp [dQ]
theorem T9 {c : Cfg} {k i : Nat} (hk : k < cF c) (h : jt c k = some i) : dQ c (k + 1) = (dQ c k).set k ((i : Int), false) := by
 apply List.ext_getElem
 ·simp [dQ]
 intro j h1 h2
 rw [List.getElem_set]
 simp only [dQ, List.getElem_map, List.getElem_range]
 by_cases e : k = j
 ·subst e; simp [h, rB]
 rw [if_neg e]; congr 1; simp; omega
theorem Ta {c : Cfg} {k : Nat} (h : jt c k = none) : dQ c (k + 1) = dQ c k := by
 apply List.ext_getElem
 ·simp [dQ]
 intro j h1 h2
 simp only [dQ, List.getElem_map, List.getElem_range]
 by_cases e : j = k
 ·subst e; simp [h, rB]
 congr 1; simp; omega
theorem y8 {c : Cfg} (h : CfR c) (k : Nat) : PoOk (dQ c k) := ⟨by rw [nJ, cF]; have := h.nd; omega, fun f hf => by
 rw [nJ] at hf
 rw [tA hf]
 split
 ·cases e : jt c f with
  | none => simp [rB]
  | some i =>
   have := ((y7 h).1 e).1
   have := h.g4
   simp only [rB]; omega
 simp⟩
theorem Gb : ∀ {l m : List Nat}, l.Nodup → (∀ x ∈ l, x ∈ m) → l.length ≤ m.length
 | [], _, _, _ => Nat.zero_le _
 | x :: l, m, hd, h => by
  rw [List.nodup_cons] at hd
  have hx := h x (by simp)
  have := Gb (l := l) (m := m.erase x) hd.2 fun y hy => by
   have hne : y ≠ x := fun e => hd.1 (by rw [← e]; exact hy)
   rw [List.mem_erase_of_ne hne]
   exact h y (List.mem_cons_of_mem _ hy)
  rw [List.length_erase_of_mem hx] at this
  have := List.length_pos_of_mem hx
  rw [List.length_cons]; omega
theorem Gc {c : Cfg} (h : CfR c) {i : Nat} (hi : i < c.gl.length) : (cQ c i).2.1 + (cQ c i).2.2 ≤ ((bP (dQ c (cF c)) i).length : Int) := by
 obtain ⟨a, ha⟩ : ∃ a : Nat, dG c i = (a : Int) := ⟨(dG c i).toNat, by have := pW h.gs i (by omega); omega⟩
 have hg := h.gs i hi
 obtain ⟨n, hn⟩ : ∃ n : Nat, (cQ c i).2.1 + (cQ c i).2.2 = (n : Int) := ⟨((cQ c i).2.1 + (cQ c i).2.2).toNat, by omega⟩
 have hs : dG c (i + 1) = (a : Int) + n := by rw [dG, ha, hn]
 have hl := Bq h (i := i + 1) (j := c.gl.length) (by omega) (Nat.le_refl _)
 have hnd := rA c c.gl.length
 have hsub : ∀ x ∈ List.range' a n, x ∈ bP (dQ c (cF c)) i := fun x hx => by
  rw [List.mem_range'_1] at hx
  have hxn : x < cF c := by rw [cF]; omega
  rw [jr, nJ, tA hxn, if_pos hxn, (y7 h (i := i)).2 ⟨hi, by omega, fun _ => by omega⟩]
  exact ⟨hxn, rfl⟩
 have hd : (List.range' a n).Nodup := List.nodup_range' ..
 have := Gb hd hsub
 rw [List.length_range'] at this
 rw [hn]; omega
end
section
open Go.RowKit
structure CfK (W0 : World) (c : Cfg) : Prop where
  ok : CfOk W0 c
  gc : c.gl.length ≤ c.gc
theorem Gd {c : Cfg} (h : CfR c) : (∀ g ∈ c.gl, 1 ≤ g.2.1 ∧ g.2.1 ≤ 8 ∧ 0 ≤ g.2.2 ∧ g.2.2 ≤ 8 - g.2.1) := fun g hg => by
 obtain ⟨i, hi, rfl⟩ := List.getElem_of_mem hg
 have := h.gs i hi
 rwa [show cQ c i = c.gl[i] by simp [cQ, List.getD, hi]] at this
def tB (c : Cfg) : Nat := if rt c then cF c else 0
theorem Tb (c : Cfg) (h : CfK W0 c) (hR : CfR c) (n : Nat) (hn : n ≤ c.gl.length) : sQ W0 271 [.agg (di c).toArray, .int .i64 n] R (.int .i64 (dG c n)) R := by
 have hgc := h.gc
 have hg4 := hR.g4
 refine ai 2 func271 ntmps271 ?_
 refine ax (aV rfl) fun b1 => ?_
 refine au 14 ?_
 refine ap 5 (m0 iX fQ rfl rfl (h := n) rfl (by omega)) ?_
 refine cY (fun i : Nat => i ≤ n) (fun i => [(5, .int .i64 (dG c i)), (11, .slice c.ga n c.gc), (12, .int .i64 n), (13, .int .i64 i)]) (fun _ => R) (fun i => n - i) 0 ?_ ?_
 ·exact Nat.zero_le _
 intro i hi
 refine au 6 ?_
 refine a8 rfl (fun c3 => ?_) fun c3 => ?_
 ·refine au 5 ?_
  have hi1 : i < c.gl.length := by omega
  have hin : i < n := by omega
  obtain ⟨g, o, hga, hc⟩ := (h.ok.g R).at_ hi1
  obtain ⟨x, hx⟩ : ∃ x, c.gl[i] = x := ⟨_, rfl⟩
  rw [hx] at hc
  have hA : cQ c i = x := by simp [cQ, List.getD, hi1, hx]
  have hbx := hR.gs i hi1
  rw [hA] at hbx
  have hst : dG c (i + 1) = dG c i + (x.2.1 + x.2.2) := by rw [dG, hA]
  have hl1 := pW hR.gs i (by omega)
  refine bQ ?_
  refine a7 rfl (dW iX fQ rfl hga rfl rfl hin (by first | exact Nat.zero_add _ | rfl)) ?_
  refine a7 rfl (b0 CX fQ rfl hc.weak rfl) ?_
  refine ax (aS uj) fun bx => ?_
  refine eI (aF fQ rfl rfl rfl rfl rfl) ?_
  rintro _ _ rfl
  refine au 3 ?_
  refine a7 rfl (aH rfl) ?_
  refine a7 rfl (dp rfl jg rfl aj rfl (by first | exact Nat.zero_add _ | rfl)) ?_
  refine a7 rfl (aA aX rfl (aN rfl)) ?_
  refine a7 rfl (dp rfl jg rfl aj rfl (by first | exact Nat.zero_add _ | rfl)) ?_
  refine a7 rfl (aA aX rfl (aN rfl)) ?_
  refine a7 rfl (bO rfl rfl (aG (by omega))) ?_
  refine ap 5 (bO rfl rfl (by rw [aG (by omega)]; exact hst.symm : IntKind.wrap .i64 (dG c i + (x.2.1 + x.2.2)) = dG c (i + 1))) ?_
  refine ap 3 (cM rfl rfl) ?_
  exact bZ (i + 1) (by omega)
 refine au 12 ?_
 refine ae ?_
 obtain rfl : i = n := by omega
 exact ⟨_, ⟨rfl, rfl⟩, inferInstance⟩
theorem Tc {c : Cfg} {f : Int} {i : Nat} (hi : i < c.gl.length) (h : f < dG c (i + 1)) (hI : ∀ j, j < i → ¬ f < dG c (j + 1)) : jt c f = some i :=
 Fy hi (decide_eq_true h) fun j hj => decide_eq_false (hI j hj)
theorem Td {c : Cfg} {f : Int} (hI : ∀ j, j < c.gl.length → ¬ f < dG c (j + 1)) : jt c f = none := Fz fun j hj => decide_eq_false (hI j hj)
@[reducible] def Br (x : Int × Int) : List Value := [.int .i64 x.1, .int .i64 x.2]
def lh (c : Cfg) (i : Int) : Int := if rt c = true ∧ 0 ≤ i ∧ i < c.nl.length then dG c c.gl.length + i else -1
theorem Te (c : Cfg) (h : CfK W0 c) (i : Int) : sQ W0 186 [.agg (di c).toArray, .int .i64 i] R (.int .i64 (lh c i)) R := by
 obtain ⟨w, hw⟩ : ∃ w, rt c = w := ⟨_, rfl⟩
 have hO : lh c i = if w = true ∧ 0 ≤ i ∧ i < c.nl.length then dG c c.gl.length + i else -1 := by rw [lh, hw]
 rw [hO]
 refine ai 2 func186 ntmps186 ?_
 refine ax (aV rfl) fun b2 => ?_
 refine au 7 ?_
 refine aM (aD call270 rfl (S4 c h.ok)) ?_
 rw [hw]
 refine au 2 ?_
 refine bB rfl rfl rfl (fun g1_4 => ?_) fun g1_4 => ?_
 ·refine au 19 ?_
  refine ae ?_
  rw [if_neg (by first | (rintro ⟨q1, q2, q3⟩; omega) | (rintro ⟨q1, q2⟩; simp_all; done) | (rintro ⟨q1, q2, q3⟩; simp_all; omega))]
  exact ⟨_, ⟨rfl, rfl⟩, inferInstance⟩
 refine au 5 ?_
 refine bB rfl rfl rfl (fun g1_8 => ?_) fun g1_8 => ?_
 ·refine au 15 ?_
  refine ae ?_
  rw [if_neg (by first | (rintro ⟨q1, q2, q3⟩; omega) | (rintro ⟨q1, q2⟩; simp_all; done) | (rintro ⟨q1, q2, q3⟩; simp_all; omega))]
  exact ⟨_, ⟨rfl, rfl⟩, inferInstance⟩
 refine au 12 ?_
 refine a8 rfl (fun c1 => ?_) fun c1 => ?_
 ·refine au 7 ?_
  refine ae ?_
  rw [if_neg (by first | (rintro ⟨q1, q2, q3⟩; omega) | (rintro ⟨q1, q2⟩; simp_all; done) | (rintro ⟨q1, q2, q3⟩; simp_all; omega))]
  exact ⟨_, ⟨rfl, rfl⟩, inferInstance⟩
 refine au 3 ?_
 have hw1 : w = true := by simp_all
 have hR := lg (hw.trans hw1)
 have hg4 := hR.g4
 have hnn := hR.nn
 have hlt : i < c.nl.length := by first | omega | (simp_all; omega)
 rw [if_pos ⟨hw1, by omega, hlt⟩]
 have hbn := pW hR.gs c.gl.length (Nat.le_refl _)
 refine au 5 ?_
 refine aM (aD call271 rfl (Tb c h hR c.gl.length (Nat.le_refl _))) ?_
 refine a7 rfl (aH rfl) ?_
 refine ap 4 (bO rfl rfl (aG (by omega))) ?_
 exact ae aL
theorem Tf (c : Cfg) (h : CfOk W0 c) : sQ W0 29 [.agg (di c).toArray] R (.int .i64 (tB c : Nat)) R := by
 refine ai 2 func29 ntmps29 ?_
 refine ax (aV rfl) fun b1 => ?_
 refine au 7 ?_
 refine ar 3 (aD D3 rfl (y6 c h)) ?_
 refine a8 rfl (fun c1 => ?_) fun c1 => ?_
 ·refine au 7 ?_
  refine ae ?_
  have hr : rt c = false := by simpa using c1
  rw [tB, hr]
  exact ⟨_, ⟨rfl, rfl⟩, inferInstance⟩
 have hr : rt c = true := by simpa using c1
 have hR := lg hr
 refine au 5 ?_
 refine ar 4 (aD wD rfl (tz c h.g (Gd hR) hR.nn hR.g4)) ?_
 refine ae ?_
 have hn : ((tB c : Nat) : Int) = en c c.gl.length := by
  have := hR.nd
  rw [tB, if_pos hr, cF]; omega
 rw [hn]
 exact ⟨_, ⟨rfl, rfl⟩, inferInstance⟩
theorem Tg (c : Cfg) (h : CfK W0 c) (f : Nat) (hr : rt c = true) (hf : (f : Int) < en c c.gl.length) : sQ W0 34 [.agg (di c).toArray, .int .i64 f] R (.agg (Br (pU c f)).toArray) R := by
 have hR := lg hr
 have hg4 := hR.g4
 have hnd := hR.nd
 have hnb := rA c c.gl.length
 rw [pU, if_pos ⟨hr, by omega, hf⟩]
 refine ai 2 func34 ntmps34 ?_
 refine ax (aV rfl) fun b2 => ?_
 refine ax (aS D4) fun b4 => ?_
 refine au 6 ?_
 refine aM (aD D3 rfl (y6 c h.ok)) ?_
 rw [hr]
 refine au 2 ?_
 refine bB rfl rfl rfl (fun g1_4 => ?_) fun g1_4 => ?_
 ·exact absurd g1_4 (by decide)
 refine au 6 ?_
 refine a8 rfl (fun c1 => ?_) fun c1 => ?_
 ·first | exact absurd c1 (by decide) | (exfalso; omega)
 refine au 14 ?_
 refine cY (fun i : Nat => i ≤ c.gl.length ∧ ∀ j, j < i → ¬ (f : Int) < dG c (j + 1)) (fun i => [(1, .int .i64 f), (2, .pointer (some ⟨b2, 0, none⟩)), (4, .pointer (some ⟨b4, 0, none⟩)), (5, .int .i64 (dG c i)), (6, .int .i64 i)]) (fun _ => pt b2 (fz c) :: pt b4 (ac [.int .i64 0, .int .i64 0] 78) :: R) (fun i => c.gl.length - i) 0 ?_ ?_
 ·exact ⟨Nat.zero_le _, fun j hj => absurd hj (Nat.not_lt_zero _)⟩
 intro i ⟨hi, hI⟩
 refine au 10 ?_
 refine a8 rfl (fun c5 => ?_) fun c5 => ?_
 ·refine au 5 ?_
  have hi1 : i < c.gl.length := by omega
  obtain ⟨g, o, hga, hc⟩ := (h.ok.g []).at_ hi1
  obtain ⟨x, hx⟩ : ∃ x, c.gl[i] = x := ⟨_, rfl⟩
  rw [hx] at hc
  have hA : cQ c i = x := by simp [cQ, List.getD, hi1, hx]
  have hbx := hR.gs i hi1
  rw [hA] at hbx
  have hst : dG c (i + 1) = dG c i + (x.2.1 + x.2.2) := by rw [dG, hA]
  have hl1 := pW hR.gs i (by omega)
  refine aU [(b2, 0, di c), (g, o + i * 3, fF x)] 16 aT rfl (aa (cR hc.weak ag)) (fun hS => ?_)
  refine ah 0 4 hS ?_
  refine av 4 rfl rfl rfl hS (dW iX fQ rfl hga rfl rfl hi1 (by first | exact Nat.zero_add _ | rfl)) ?_
  refine ah 5 1 hS ?_
  refine av 6 rfl rfl rfl hS (aA aX rfl (io (k := 1) (j := 1) rfl rfl)) ?_
  refine av 7 rfl rfl rfl hS (bO rfl rfl (aG (by omega))) ?_
  refine ah 8 3 hS ?_
  refine av 11 rfl rfl rfl hS (dW iX fQ rfl hga rfl rfl hi1 (by first | exact Nat.zero_add _ | rfl)) ?_
  refine ah 12 1 hS ?_
  refine av 13 rfl rfl rfl hS (aA aX rfl (io (k := 1) (j := 2) rfl rfl)) ?_
  refine av 14 rfl rfl rfl hS (bO rfl rfl (by rw [aG (by omega)]; omega : IntKind.wrap .i64 (dG c i + x.2.1 + x.2.2) = dG c (i + 1))) ?_
  refine ah 15 1 hS ?_
  refine aK ?_
  refine au 8 ?_
  refine a8 rfl (fun c8 => ?_) fun c8 => ?_
  ·refine au 3 ?_
   refine a7 rfl (bq Jw D4 (am aj (am aj bj)) (aI rfl aj rfl rfl (Nat.le_of_ble_eq_true rfl) SetL.eq (aI rfl aj rfl rfl (Nat.le_of_ble_eq_true rfl) SetL.eq bi))) ?_
   refine aE 8 (aF zF rfl rfl rfl rfl rfl) ?_
   refine bY (.cons (cg isAgg78 zF rfl rfl) .nil) ?_
   rw [Tc hi1 c8 hI]
   exact ⟨_, ⟨rfl, rfl⟩, inferInstance⟩
  refine au 5 ?_
  refine ap 3 (cM rfl rfl) ?_
  refine bZ (i + 1) ?_
  ·refine ⟨by omega, fun j hj => ?_⟩
   rcases Nat.lt_or_ge j i with q | q
   ·exact hI j q
   rw [show j = i by omega]; exact c8
 refine au 7 ?_
 obtain rfl : i = c.gl.length := by omega
 rw [Td hI]
 have hbn := pW hR.gs c.gl.length (Nat.le_refl _)
 refine au 3 ?_
 refine ap 6 (cZ rfl rfl (aG (by omega))) ?_
 refine a8 rfl (fun c10 => ?_) fun c10 => ?_
 ·refine au 4 ?_
  refine a7 rfl (cZ rfl rfl (aG (by omega))) ?_
  refine a7 rfl (bq Jw D4 (am aj (am aj bj)) (aI rfl aj rfl rfl (Nat.le_of_ble_eq_true rfl) SetL.eq (aI rfl aj rfl rfl (Nat.le_of_ble_eq_true rfl) SetL.eq bi))) ?_
  refine aE 4 (aF zF rfl rfl rfl rfl rfl) ?_
  exact bY (.cons (cg isAgg78 zF rfl rfl) .nil) aL
 omega
theorem Ti (c : Cfg) (h : CfOk W0 c) (hr : rt c = true) (i : Int) (h0 : 0 ≤ i) (hi : i < c.nl.length) : sQ W0 105 [.agg (di c).toArray, .int .i64 i] R (.int .i64 (lh c i)) R := by
 have hR := lg hr
 have hnd := hR.nd
 have hnn := hR.nn
 have hnb := rA c c.gl.length
 rw [lh, if_pos ⟨hr, h0, hi⟩]
 refine ai 2 func105 ntmps105 ?_
 refine ax (aV rfl) fun b2 => ?_
 refine au 7 ?_
 refine aM (aD D3 rfl (y6 c h)) ?_
 rw [hr]
 refine au 2 ?_
 refine bB rfl rfl rfl (fun g1_4 => ?_) fun g1_4 => ?_
 ·exact absurd g1_4 (by decide)
 refine au 5 ?_
 refine bB rfl rfl rfl (fun g1_8 => ?_) fun g1_8 => ?_
 ·first | exact absurd g1_8 (by decide) | (exfalso; omega)
 refine au 12 ?_
 refine a8 rfl (fun c1 => ?_) fun c1 => ?_
 ·first | exact absurd c1 (by decide) | (exfalso; omega)
 refine au 3 ?_
 refine aU [(b2, 0, _)] 9 aT rfl (aa ag) (fun hS => ?_)
 refine av 0 rfl rfl rfl hS (b0 rU mi rfl (co (k := 0) rfl) rfl) ?_
 refine ah 2 3 hS ?_
 refine ah 6 1 hS ?_
 refine bF 1 rfl rfl (aD wD rfl (tz c h.g (Gd hR) hR.nn hR.g4)) (aa ag) fun hS => ?_
 refine av 5 rfl rfl rfl hS (cZ rfl rfl (aG (by omega))) ?_
 refine av 7 rfl rfl rfl hS (bO rfl rfl (by rw [aG (by omega)]; omega : IntKind.wrap .i64 (en c c.gl.length - (c.nl.length : Int) + i) = dG c c.gl.length + i)) ?_
 refine ah 8 1 hS ?_
 refine aK ?_
 refine au 2 ?_
 exact ae aL
abbrev dq (rl : List Nat) (pc : Nat) : Obj := ac (rl.map wV ++ [.bool true, wV pc]) 228
theorem Ge {rl : List Nat} {pc : Nat} (h : rl.length = 16) : (rl.map wV ++ [Value.bool true, wV pc]).length = 18 := by simp [h]
theorem Tj {rl : List Nat} {pc : Nat} (h : rl.length = 16) : ((rl.map wV ++ [Value.bool true, wV pc]).drop 0).take 16 = rl.map wV := by
 rw [List.drop_zero, List.take_left' (by rw [List.length_map, h])]
theorem Gf {rl : List Nat} {pc : Nat} (h : rl.length = 16) : (rl.map wV ++ [Value.bool true, wV pc])[16]? = some (.bool true) := by
 rw [List.getElem?_append_right (by rw [List.length_map, h]; exact Nat.le_refl _), List.length_map, h]; rfl
theorem Tl {rl : List Nat} {pc : Nat} (h : rl.length = 16) : (rl.map wV ++ [Value.bool true, wV pc])[17]? = some (wV pc) := by
 rw [List.getElem?_append_right (by rw [List.length_map, h]; decide), List.length_map, h]; rfl
theorem Tn {rl : List Nat} {pc q : Nat} (h : rl.length = 16) : (rl.map wV ++ [Value.bool true, wV pc]).set 17 (wV q) = rl.map wV ++ [.bool true, wV q] := by
 rw [List.set_append_right _ _ (by rw [List.length_map, h]; decide), List.length_map, h]; rfl
theorem To {rl : List Nat} {pc i x : Nat} (h : rl.length = 16) (hi : i < 16) : (rl.map wV ++ [Value.bool true, wV pc]).set (i * 1) (wV x) = (rl.set i x).map wV ++ [.bool true, wV pc] := by
 rw [Nat.mul_one, List.set_append_left _ _ (by rw [List.length_map, h]; exact hi), List.map_set]
theorem y9 (rl : List Nat) : fw (rl.map wV) = true := by simp [fw, wV, Value.oneCell']
section
variable {P : Program} {S : World → Prop} {N : FSz} {e : aW} {t : TypeId} {l : List Value} {v : Value}
theorem Tp {E n i : Nat} {y : Operand} (hu : P.underlying t = some (.array n E)) (hs : ∀ w, (sizeOf E).run P w = .ok 1 w) (hz : ∀ w, (zeroValue t).run P w = .ok (.agg l.toArray) w)
  (hy : ev e y = some v) (h1 : v.oneCell' = true) (hi : i < l.length) : cy P S N e (.build t #[(i, y)]) (.agg (l.set i v).toArray) := fun a w _ _ _ _ _ hF _ => by
 have hb : Instr.build t ((#[(i, y)] : Array (Nat × Operand)).map fun (i, x) => (i, a.eval x)) = (do
   let zero := (← zeroValue t).cells
   match ← underlying t with
   | .struct fields =>
    let places ← fields.mapM pA
    let some cells := Instr.fill (places[·]?) zero ((#[(i, y)] : Array (Nat × Operand)).map fun (i, x) => (i, a.eval x)).toList | stuck "build: no such field, or a part of the wrong size"
    pure (.agg cells)
   | .array _ elem =>
    let size ← sizeOf elem
    let some cells := Instr.fill (fun i => some (i * size, size)) zero ((#[(i, y)] : Array (Nat × Operand)).map fun (i, x) => (i, a.eval x)).toList | stuck "build: a part of the wrong size"
    pure (.agg cells)
   | _ => stuck "build: struct or array type expected") := rfl
 have hc : ¬ (i + 1 > l.length) := by omega
 have hf : Instr.fill (fun i => some (i * 1, 1)) l.toArray [(i, a.eval y)] = some (l.set i v).toArray := by
  simp only [Instr.fill, hF.eval hy, qG h1, Nat.mul_one]
  simp [hc]
 simp only [execOp, hb, Sem.run_bind, hz, e7 hu, hs, Result.andThen_ok, Value.cells, Sem.run_pure, Array.toList_map, List.map_cons, List.map_nil]
 rw [hf]; rfl
end
theorem Tq : sP W0 125 [] R (fun v B => ∃ b, v = .pointer (some ⟨b, 0, none⟩) ∧ B = pt b (dq (List.replicate 16 0) 0) :: R) := by
 refine ai 7 func125 ntmps125 ?_
 refine a7 rfl (bq ZP zeroValue226 (am mW (am bI bj)) (aI rfl bI rfl rfl (Nat.le_of_ble_eq_true rfl) SetL.eq bi)) ?_
 refine a7 rfl (bq ZQ zeroValue228 (am Ja (am bE bj)) (iJ rfl Ja rfl rfl (Nat.le_of_ble_eq_true rfl) rfl bi)) ?_
 refine ax (aV rfl) fun b1 => ?_
 refine au 4 ?_
 refine ae ?_
 exact ⟨_, ⟨_, rfl, rfl⟩, ent_refl⟩
theorem Gg (b : Nat) (rl : List Nat) (pc : Nat) (hl : rl.length = 16) : sQ W0 40 [.pointer (some ⟨b, 0, none⟩)] (pt b (dq rl pc) :: R) (.agg (rl.map wV).toArray) (pt b (dq rl pc) :: R) := by
 refine ai 2 func40 ntmps40 ?_
 refine ax (aS JQ) fun b1 => ?_
 refine au 9 ?_
 refine a8 rfl (fun c1 => ?_) fun c1 => ?_
 ·cases c1
 refine au 8 ?_
 refine a7 rfl (b0 D5 mW rfl (cC (b := b) (Tj hl) (by rw [List.length_map, hl])) (by rw [List.length_map, hl])) ?_
 refine aE 3 (aF mW rfl rfl (by rw [List.length_map, hl]) (y9 rl) rfl) ?_
 exact bY (.cons (cg D5 mW rfl (by rw [List.length_map, hl])) .nil) aL
theorem nK (b : Nat) (rl : List Nat) (pc : Nat) (hl : rl.length = 16) : sQ W0 41 [.pointer (some ⟨b, 0, none⟩)] (pt b (dq rl pc) :: R) (wV pc) (pt b (dq rl pc) :: R) := by
 refine ai 12 func41 ntmps41 ?_
 refine a8 rfl (fun c1 => ?_) fun c1 => ?_
 ·cases c1
 refine au 7 ?_
 refine ap 4 (aA ia rfl (aN (Tl hl))) ?_
 exact ae aL
theorem vq (b : Nat) (rl : List Nat) (pc q : Nat) (hl : rl.length = 16) : sQ W0 61 [.pointer (some ⟨b, 0, none⟩), wV q] (pt b (dq rl pc) :: R) (.int .i64 0) (pt b (dq rl q) :: R) := by
 refine ai 11 func61 ntmps61 ?_
 refine bB rfl rfl rfl (fun g1_3 => ?_) fun g1_3 => ?_
 ·cases g1_3
 refine au 8 ?_
 refine ap 5 (aA gz rfl (aN (Gf hl))) ?_
 refine a8 rfl (fun c1 => ?_) fun c1 => ?_
 ·exact absurd c1 (by decide)
 refine au 8 ?_
 refine aE 8 (bA bE rfl rfl rfl (by rw [Ge hl]; decide) (Tn hl)) ?_
 exact ae aL
def j9 (i : Int) : Bool := decide (0 ≤ i ∧ i < 16)
theorem ya (b : Nat) (rl : List Nat) (pc : Nat) (hl : rl.length = 16) (i : Int) : sQ W0 131 [.pointer (some ⟨b, 0, none⟩), .int .i64 i] (pt b (dq rl pc) :: R) (.int .i64 (if j9 i then 0 else 1)) (pt b (dq rl pc) :: R) := by
 refine ai 12 func131 ntmps131 ?_
 refine ap 4 (aA gz rfl (aN (Gf hl))) ?_
 refine a8 rfl (fun c1 => ?_) fun c1 => ?_
 ·exact absurd c1 (by decide)
 refine au 8 ?_
 refine a8 rfl (fun c3 => ?_) fun c3 => ?_
 ·refine au 11 ?_
  refine ae ?_
  rw [if_neg (by simp only [j9, decide_eq_true_eq]; omega)]
  exact ⟨_, ⟨rfl, rfl⟩, inferInstance⟩
 refine au 6 ?_
 refine a8 rfl (fun c4 => ?_) fun c4 => ?_
 ·refine au 8 ?_
  refine ae ?_
  rw [if_neg (by simp only [j9, decide_eq_true_eq]; omega)]
  exact ⟨_, ⟨rfl, rfl⟩, inferInstance⟩
 refine au 9 ?_
 refine ae ?_
 rw [if_pos (by simp only [j9, decide_eq_true_eq]; omega)]
 exact ⟨_, ⟨rfl, rfl⟩, inferInstance⟩
theorem Tr (b : Nat) (rl : List Nat) (pc i x : Nat) (hl : rl.length = 16) (hi : i < 16) (h0 : i ≠ 0) : sQ W0 132 [.pointer (some ⟨b, 0, none⟩), .int .i64 i, wV x] (pt b (dq rl pc) :: R) (.tuple #[]) (pt b (dq (rl.set i x) pc) :: R) := by
 refine ai 6 func132 ntmps132 ?_
 refine a8 rfl (fun c0 => ?_) fun c0 => ?_
 ·refine au 6 ?_
  refine a7 rfl (dI D6 bE rfl rfl rfl hi (by first | exact Nat.zero_add _ | rfl)) ?_
  refine o9 (bA bE rfl rfl rfl (by rw [Ge hl]; omega) (To hl hi)) ?_
  refine bX (bT (.inr rfl) .nil ?_)
  exact ⟨_, ⟨rfl, rfl⟩, inferInstance⟩
 simp at c0; omega
theorem Bs (b : Nat) (rl : List Nat) (pc i x : Nat) (hl : rl.length = 16) (hi : i < 16) (h0 : i ≠ 0) : sQ W0 60 [.pointer (some ⟨b, 0, none⟩), .int .i64 i, wV x] (pt b (dq rl pc) :: R) (.int .i64 0) (pt b (dq (rl.set i x) pc) :: R) := by
 have hir : j9 i = true := by simp only [j9, decide_eq_true_eq]; omega
 refine ai 12 JR ntmps60 ?_
 refine a8 rfl (fun c1 => ?_) fun c1 => ?_
 ·cases c1
 refine au 8 ?_
 refine ar 10 (ao D7 rfl (ya b rl pc hl i)) ?_
 refine a8 rfl (fun c4 => ?_) fun c4 => ?_
 ·refine au 6 ?_
  refine ar 9 (ao call132 rfl (Tr b rl pc i x hl hi h0)) ?_
  refine ae ?_
  rw [hir]
  exact ⟨_, ⟨rfl, rfl⟩, inferInstance⟩
 exact absurd (by rw [hir]; rfl) c4
abbrev Gh (id : Nat) : Obj := ac ([wV 0, wV 0, wV 0, wV 0, wV 0, wV 4, wV 0] ++ [.int .i64 id, .bool true]) 328
theorem Ts : sQ W0 200 [] R (.agg #[wV 0, wV 0, wV 0, wV 0, wV 0, wV 4, wV 0]) R := by
 refine ai 2 func200 ntmps200 ?_
 refine ax (aS zG) fun b1 => ?_
 refine au 4 ?_
 refine a7 rfl (Tp kt bE zG rfl rfl (by decide)) ?_
 refine aE 3 (aF pi rfl rfl rfl rfl rfl) ?_
 exact bY (.cons (cg JS pi rfl rfl) .nil) aL
theorem Tt (i : Nat) (hi : i < 4) : sP W0 123 [.int .i64 i] R (fun v B => ∃ b, v = .tuple #[.pointer (some ⟨b, 0, none⟩), .int .i64 0] ∧ B = pt b (Gh i) :: R) := by
 refine ai 12 func123 ntmps123 ?_
 refine bB rfl rfl rfl (fun g1_3 => ?_) fun g1_3 => ?_
 ·omega
 refine au 6 ?_
 refine a8 rfl (fun c1 => ?_) fun c1 => ?_
 ·omega
 refine au 4 ?_
 refine aM (aD call200 rfl (Ts)) ?_
 refine a7 rfl (aH rfl) (a7 rfl (bq ZT zeroValue328 (am pi (am aj (am bI bj))) (iJ rfl pi rfl rfl (Nat.le_of_ble_eq_true rfl) SetRL.eq (aI rfl aj rfl rfl (Nat.le_of_ble_eq_true rfl) SetL.eq (aI rfl bI rfl rfl (Nat.le_of_ble_eq_true rfl) SetL.eq bi)))) ?_)
 refine ax (aV rfl) fun b1 => ?_
 refine au 5 ?_
 refine aJ ?_
 exact ⟨_, ⟨_, rfl, rfl⟩, ent_refl⟩
abbrev pX : Obj := ac ([.bool false, .bool false, .int .i64 0, .int .i64 0, .bool false, .bool false, .int .i64 0, .int .i64 0, .bool false, .bool false, .int .i64 0, .int .i64 0, .bool false, .bool false, .int .i64 0, .int .i64 0, .bool false, .bool false, .int .i64 0, .int .i64 0, .bool false, .bool false, .int .i64 0, .int .i64 0, .bool false, .bool false, .int .i64 0, .int .i64 0, .bool false, .bool false, .int .i64 0, .int .i64 0, .slice none 0 0, .int .i64 0, .bool false].set 34 (.bool true)) 113
theorem Tu : sP W0 126 [] R (fun v B => ∃ b, v = .pointer (some ⟨b, 0, none⟩) ∧ B = pt b pX :: R) := by
 refine ai 7 func126 ntmps126 ?_
 refine a7 rfl (bq ZD zeroValue113 (am sizeOf108 (am sizeOf111 (am aj (am bI bj)))) (aI rfl bI rfl rfl (Nat.le_of_ble_eq_true rfl) SetL.eq bi)) ?_
 refine ax (aV rfl) fun b1 => ?_
 refine au 4 ?_
 refine ae ?_
 exact ⟨_, ⟨_, rfl, rfl⟩, ent_refl⟩
abbrev pY : Obj := ac [gK, .bool false, .bool false, .bool false, .bool false, .int .i64 0, .bool true] 148
theorem Tv : sP W0 127 [] R (fun v B => ∃ b, v = .pointer (some ⟨b, 0, none⟩) ∧ B = pt b pY :: R) := by
 refine ai 7 func127 ntmps127 ?_
 refine a7 rfl (bq ZF zeroValue148 (am sizeOf145 (am IX (am aj (am bI bj)))) (aI rfl bI rfl rfl (Nat.le_of_ble_eq_true rfl) SetL.eq bi)) ?_
 refine ax (aV rfl) fun b1 => ?_
 refine au 4 ?_
 refine ae ?_
 exact ⟨_, ⟨_, rfl, rfl⟩, ent_refl⟩
abbrev tC : Obj := ac [gK, .bool true] 298
theorem Tw : sP W0 102 [] R (fun v B => ∃ b, v = .pointer (some ⟨b, 0, none⟩) ∧ B = pt b tC :: R) := by
 refine ai 7 func102 ntmps102 ?_
 refine a7 rfl (bq underlying298 zeroValue298 (am sizeOf186 (am bI bj)) (aI rfl bI rfl rfl (Nat.le_of_ble_eq_true rfl) SetL.eq bi)) ?_
 refine ax (aV rfl) fun b1 => ?_
 refine au 4 ?_
 refine ae ?_
 exact ⟨_, ⟨_, rfl, rfl⟩, ent_refl⟩
structure Evt where
  k : Int
  clock : Int
  code : Nat
  val : Nat
  pc : Nat
  rl : List Nat
@[reducible] def mJ (e : Evt) : List Value := [.int .i64 e.k, .int .i64 e.clock, wV e.code, wV e.val, wV e.pc] ++ (List.range 16).map fun i => wV (e.rl.getD i 0)
theorem Tx (e : Evt) : (mJ e).length = 21 := by simp [mJ]
theorem Tz {e : Evt} (h : e.rl.length = 16) : mJ e = [.int .i64 e.k, .int .i64 e.clock, wV e.code, wV e.val, wV e.pc] ++ e.rl.map wV := by
 unfold mJ; congr 1
 apply List.ext_getElem
 ·simp [h]
 intro i h1 h2
 have : i < e.rl.length := by simpa using h2
 simp [List.getD, this]
def eN (b : Nat) (es : List Evt) : HP := chk (fun C => ∃ a c, C = [pt b (ac [.slice a es.length c, .bool true] 105), osl 253 21 (.slice a es.length c) (es.flatMap mJ)])
section
variable {P : Program} {W0 : World} {N : FSz} {K : Act → World → Prop} {e : aW} {A B R R1 R2 : List HP} {b n : Nat} {es : List Evt} {f : FuncId} {args : List Value} {Post : Value → List HP → Prop}
theorem yd [hk : Tk eN b A es R] (h : ∀ a c, az W0 N K e (pt b (ac [.slice a es.length c, .bool true] 105) :: osl 253 21 (.slice a es.length c) (es.flatMap mJ) :: R)) : az W0 N K e A :=
 fK (r := eN) (b := b) (mt fun C hC => by obtain ⟨a, c, rfl⟩ := hC; exact h a c)
theorem vr {a : Option Addr} {c : Nat} {xs : List Value} [h1 : Tk pt b A (ac [.slice a n c, .bool true] 105) R1] [h2 : Tk (osl 253 21) (.slice a n c) R1 xs R2] (hn : n = es.length) (hx : xs = es.flatMap mJ) [k : Ent R2 B] : Ent A (eN b es :: B) := by
 subst hn; subst hx
 exact (Ent.ofPerm (h1.perm.trans (h2.perm.cons _))).trans ((Ent.cons (Ent.cons k)).trans (fC (R := B) (C := [_, _]) ⟨a, c, rfl⟩))
end
theorem TA : sP W0 103 [] R (fun v B => ∃ b, v = .pointer (some ⟨b, 0, none⟩) ∧ B = eN b [] :: R) := by
 refine ai 7 func103 ntmps103 ?_
 refine a7 rfl (bq ZC zeroValue105 (am zh (am bI bj)) (aI rfl bI rfl rfl (Nat.le_of_ble_eq_true rfl) SetL.eq bi)) ?_
 refine ax (aV rfl) fun b1 => ?_
 refine au 4 ?_
 refine ae ?_
 exact ⟨_, ⟨_, rfl, rfl⟩, (Ent.cons (fR (E := 253) (sz := 21) (A := R) (B := R))).trans (fC (R := R) (C := [_, _]) ⟨none, 0, rfl⟩)⟩
theorem Bt (b : Nat) (es : List Evt) : sQ W0 42 [.pointer (some ⟨b, 0, none⟩)] (eN b es :: R) (.bool false) (eN b es :: R) := by
 refine ai 6 func42 ntmps42 ?_
 refine yd (b := b) fun a c => ?_
 refine au 4 ?_
 refine bB rfl rfl rfl (fun g1_3 => ?_) fun g1_3 => ?_
 ·cases g1_3
 refine au 14 ?_
 refine ae ?_
 exact ⟨_, ⟨rfl, rfl⟩, vr rfl rfl⟩
theorem Gi (b : Nat) (es : List Evt) : sQ W0 12 [.pointer (some ⟨b, 0, none⟩)] (eN b es :: R) (.int .i64 (es.length : Nat)) (eN b es :: R) := by
 refine ai 9 func12 ntmps12 ?_
 refine ar 2 (ao JU rfl (Bt b es)) ?_
 refine a8 rfl (fun c1 => ?_) fun c1 => ?_
 ·exact absurd c1 (by decide)
 refine au 3 ?_
 refine yd (b := b) fun a c => ?_
 refine au 10 ?_
 refine ae ?_
 exact ⟨_, ⟨rfl, rfl⟩, vr rfl rfl⟩
theorem TB (W0 : World) (R : List HP) (b : Nat) (es : List Evt) (x : Evt) (hn : es.length < 4096) : sQ W0 129 [.pointer (some ⟨b, 0, none⟩), .agg (mJ x).toArray] (eN b es :: R) (.int .i64 0) (eN b (es ++ [x]) :: R) := by
 have he : es.flatMap mJ ++ [mJ x].flatten = (es ++ [x]).flatMap mJ := by simp
 refine ai 2 func129 ntmps129 ?_
 refine ax (aV rfl) fun b3 => ?_
 refine au 8 ?_
 refine ar 3 (ao JU rfl (Bt b es)) ?_
 refine a8 rfl (fun c1 => ?_) fun c1 => ?_
 ·exact absurd c1 (by decide)
 refine bD ?_
 refine yd (b := b) fun a c => ?_
 refine au 10 ?_
 refine a8 rfl (fun c3 => ?_) fun c3 => ?_
 ·omega
 refine au 4 ?_
 refine aU [(b3, 0, _)] 11 aT rfl (aa ag) (fun hS => ?_)
 refine ah 0 4 hS ?_
 refine av 5 rfl rfl rfl hS (b0 isAgg253 JV rfl (co (k := 0) rfl) (Tx x)) ?_
 refine eJ (is := [4, 6]) (by kernel_rfl) rfl ⟨?_, ?_, trivial⟩
 ·skip
  refine cV rfl rfl (dC (aA IQ rfl (aN rfl))) rfl ?_; clear hS
  rintro _ _ ⟨rfl, rfl⟩
  refine ⟨(aa ag), fun hS => ?_⟩
  refine bS 6 (by kernel_rfl) rfl rfl (iM zm JV JW rfl (eW rfl rfl gZ) rfl (by decide) (by decide) (by decide)) rfl ?_; clear hS
  rintro _ _ ⟨b2, rfl, rfl⟩
  refine ⟨(aa ag), fun hS => ?_⟩
  refine bS 7 (by kernel_rfl) rfl rfl (eV (sz := 21) (by_ := 96) (info := Tryz.t253) zm (by kernel_rfl) rfl rfl rfl rfl (by decide) rfl rfl eC rfl rfl (by simp only [maxLen]; omega) (by omega)) rfl ?_; clear hS
  rintro _ _ ⟨a3, c3, rfl, rfl⟩
  refine ⟨(aa ag), fun hS => ?_⟩
  refine ah 8 2 hS ?_
  refine bU 10 rfl rfl (bA zh rfl rfl rfl (Nat.le_of_ble_eq_true rfl) SetL.eq) (aa ag) fun hS => ?_
  refine aK ?_
  refine au 7 ?_
  refine ae ?_
  exact ⟨_, ⟨rfl, rfl⟩, vr (es := es ++ [x]) (by simp) he⟩
 skip
 refine cV rfl rfl (iM zm JV JW rfl (eW rfl rfl gZ) rfl (by decide) (by decide) (by decide)) rfl ?_; clear hS
 rintro _ _ ⟨b2, rfl, rfl⟩
 refine ⟨(aa ag), fun hS => ?_⟩
 refine bF 4 rfl rfl (dC (aA IQ rfl (aN rfl))) (aa ag) fun hS => ?_
 refine bS 7 (by kernel_rfl) rfl rfl (eV (sz := 21) (by_ := 96) (info := Tryz.t253) zm (by kernel_rfl) rfl rfl rfl rfl (by decide) rfl rfl eC rfl rfl (by simp only [maxLen]; omega) (by omega)) rfl ?_; clear hS
 rintro _ _ ⟨a3, c3, rfl, rfl⟩
 refine ⟨(aa ag), fun hS => ?_⟩
 refine ah 8 2 hS ?_
 refine bU 10 rfl rfl (bA zh rfl rfl rfl (Nat.le_of_ble_eq_true rfl) SetL.eq) (aa ag) fun hS => ?_
 refine aK ?_
 refine au 7 ?_
 refine ae ?_
 exact ⟨_, ⟨rfl, rfl⟩, vr (es := es ++ [x]) (by simp) he⟩
end
section
structure It where
  kr : Int
  kp : Int
  ep : Int
  ef : Int
  er : Int
  u : Int
deriving DecidableEq
instance : Inhabited It := ⟨⟨0, 0, 0, 0, 0, 0⟩⟩
def It.key (x : It) : Int × Int := (x.kr, x.kp)
def It.ent (x : It) : Int × Int × Int := (x.ep, x.ef, x.er)
def bH (x : It) : List Value := [.int .i64 x.kr, .int .i64 x.kp, .int .i64 x.ep, .int .i64 x.ef, .int .i64 x.er, .int .i64 x.u]
theorem eQ (x : It) : (bH x).length = 6 := rfl
def us (l : List It) (i : Nat) : Int := (l.getD i default).u
theorem us_eq {l : List It} {i : Nat} (h : i < l.length) : us l i = l[i].u := by simp [us, List.getD, h]
def swapL (l : List It) (i j : Nat) : List It := (l.set i (l.getD j default)).set j (l.getD i default)
theorem v6 (l : List It) (i j : Nat) : (swapL l i j).length = l.length := by simp [swapL]
theorem oH {l : List It} {i j : Nat} (hi : i < l.length) (hj : j < l.length) (x : Nat) : (swapL l i j).getD x default = if x = i then l.getD j default else if x = j then l.getD i default else l.getD x default := by
 simp only [swapL, List.getD_eq_getElem?_getD, List.getElem?_set, List.length_set]
 by_cases h1 : x = j
 ·subst h1
  by_cases h2 : x = i
  ·subst h2; simp [hj]
  simp [hj, h2]
 have h1' : ¬ j = x := fun h => h1 h.symm
 by_cases h2 : x = i
 ·subst h2; simp [h1', hi]
 have h2' : ¬ i = x := fun h => h2 h.symm
 simp [h1, h1', h2, h2']
theorem j6 {l : List It} {i j : Nat} (hi : i < l.length) (hj : j < l.length) (x : Nat) : us (swapL l i j) x = if x = i then us l j else if x = j then us l i else us l x := by
 unfold us; rw [oH hi hj]; split
 ·rfl
 split <;> rfl
theorem AR {α : Type} : ∀ (l : List α) (i j : Nat) (hi : i < l.length) (hj : j < l.length), ((l.set i l[j]).set j l[i]).Perm l := by
 intro l i j hi hj
 have : ((l.set i l[j]).set j l[i]).Perm l := List.set_set_perm hi hj
 exact this
theorem iP {l : List It} {i j : Nat} (hi : i < l.length) (hj : j < l.length) : (swapL l i j).Perm l := by
 have := AR l i j hi hj
 simpa [swapL, List.getD, hi, hj] using this
def Heap (l : List It) (n : Nat) : Prop := ∀ c, c < n → 0 < c → us l ((c - 1) / 2) ≤ us l c
def hQ (l : List It) (i n : Nat) : Prop := ∀ c, c < n → 0 < c → (c ≠ i → (c - 1) / 2 ≠ i → us l ((c - 1) / 2) ≤ us l c) ∧ ((c - 1) / 2 = i → 0 < i → us l ((i - 1) / 2) ≤ us l c)
def Up (l : List It) (j n : Nat) : Prop := ∀ c, c < n → 0 < c → (c ≠ j → us l ((c - 1) / 2) ≤ us l c) ∧ ((c - 1) / 2 = j → 0 < j → us l ((j - 1) / 2) ≤ us l c)
theorem AS {l : List It} {i j n : Nat} (h : hQ l i n) (hn : n ≤ l.length) (hj : j < n) (hc : (j - 1) / 2 = i) (h0 : 0 < j) (hlt : us l j < us l i)
  (hmin : ∀ c, c < n → 0 < c → (c - 1) / 2 = i → us l j ≤ us l c) : hQ (swapL l i j) j n ∧ us (swapL l i j) ((j - 1) / 2) ≤ us (swapL l i j) j := by
 have hij : i < j := by omega
 have sw := j6 (l := l) (i := i) (j := j) (by omega) (by omega)
 refine ⟨fun c hcn hc0 => ⟨fun h1 h2 => ?_, fun h1 h2 => ?_⟩, ?_⟩
 ·rw [sw, sw]
  by_cases e1 : c = i
  ·subst e1
   have := (h j hj h0).2 hc (by omega)
   rw [if_neg (by omega), if_neg (by omega), if_pos rfl]; exact this
  by_cases e2 : (c - 1) / 2 = i
  ·rw [if_pos e2, if_neg e1, if_neg h1]; exact hmin c hcn hc0 e2
  rw [if_neg e2, if_neg h2, if_neg e1, if_neg h1]; exact (h c hcn hc0).1 e1 e2
 ·rw [hc, sw, sw, if_pos rfl, if_neg (by omega), if_neg (by omega)]
  rw [← h1]; exact (h c hcn hc0).1 (by omega) (by omega)
 rw [hc, sw, sw, if_pos rfl, if_neg (by omega), if_pos rfl]; omega
theorem v7 {l : List It} {i n : Nat} (h : hQ l i n) (hmin : ∀ c, c < n → 0 < c → (c - 1) / 2 = i → us l i ≤ us l c) (hp : 0 < i → us l ((i - 1) / 2) ≤ us l i) : Heap l n := fun c hc h0 => by
 by_cases e1 : (c - 1) / 2 = i
 ·rw [e1]; exact hmin c hc h0 e1
 by_cases e2 : c = i
 ·subst e2; exact hp h0
 exact (h c hc h0).1 e2 e1
theorem xE {l : List It} {i n : Nat} (h : hQ l i n) (hmin : ∀ c, c < n → 0 < c → (c - 1) / 2 = i → us l i ≤ us l c) : Up l i n := fun c hc h0 => ⟨fun e => by
 by_cases e1 : (c - 1) / 2 = i
 ·rw [e1]; exact hmin c hc h0 e1
 exact (h c hc h0).1 e e1, (h c hc h0).2⟩
theorem AT {l : List It} {j n : Nat} (h : Up l j n) (hn : n ≤ l.length) (hj : j < n) (h0 : 0 < j) (hlt : us l j < us l ((j - 1) / 2)) : Up (swapL l ((j - 1) / 2) j) ((j - 1) / 2) n := by
 have sw := j6 (l := l) (i := (j - 1) / 2) (j := j) (by omega) (by omega)
 intro c hc hc0
 refine ⟨fun h1 => ?_, fun h1 h2 => ?_⟩
 ·rw [sw, sw]
  by_cases e1 : c = j
  ·subst e1; rw [if_pos rfl, if_neg (by omega), if_pos rfl]; omega
  by_cases e2 : (c - 1) / 2 = (j - 1) / 2
  ·rw [if_pos e2, if_neg (by omega), if_neg e1]
   have := (h c hc hc0).1 e1; rw [e2] at this; omega
  by_cases e3 : (c - 1) / 2 = j
  ·rw [if_neg e2, if_pos e3, if_neg h1, if_neg e1]; exact (h c hc hc0).2 e3 h0
  rw [if_neg e2, if_neg e3, if_neg h1, if_neg e1]; exact (h c hc hc0).1 e1
 rw [sw, sw, if_neg (by omega), if_neg (by omega)]
 have hp := (h ((j - 1) / 2) (by omega) h2).1 (by omega)
 by_cases e1 : c = j
 ·subst e1; rw [if_neg (by omega), if_pos rfl]; exact hp
 rw [if_neg (by omega), if_neg e1]
 have := (h c hc hc0).1 e1; rw [h1] at this; omega
theorem v8 {l : List It} {j n : Nat} (h : Up l j n) (hp : 0 < j → us l ((j - 1) / 2) ≤ us l j) : Heap l n := fun c hc h0 => by
 by_cases e : c = j
 ·subst e; exact hp h0
 exact (h c hc h0).1 e
theorem heap_min {l : List It} {n : Nat} (h : Heap l n) : ∀ c, c < n → us l 0 ≤ us l c := by
 intro c
 induction c using Nat.strongRecOn with
 | _ c ih =>
  intro hc
  by_cases h0 : c = 0
  ·subst h0; omega
  have := h c hc (by omega)
  have := ih ((c - 1) / 2) (by omega) (by omega)
  omega
theorem xF {l : List It} {i : Nat} {x : It} {n : Nat} (h : Heap l n) (hi : i < l.length) : hQ (l.set i x) i n := fun c hc h0 => by
 have e : ∀ y, y ≠ i → us (l.set i x) y = us l y := fun y hy => by
  unfold us; simp only [List.getD_eq_getElem?_getD]; rw [List.getElem?_set_ne (by omega)]
 refine ⟨fun h1 h2 => ?_, fun h1 h2 => ?_⟩
 ·rw [e _ h1, e _ h2]; exact h c hc h0
 rw [e _ (by omega), e _ (by omega)]
 have k1 := h c hc h0
 have k2 := h i (by omega) h2
 rw [h1] at k1; omega
theorem v9 {l l' : List It} {n : Nat} (h : ∀ i, i < n → l.getD i default = l'.getD i default) {i : Nat} (hi : i < n) : us l i = us l' i := by unfold us; rw [h i hi]
theorem AU {l l' : List It} {n : Nat} (h : ∀ i, i < n → l.getD i default = l'.getD i default) (k : Heap l n) : Heap l' n := fun c hc h0 => by
 rw [← v9 h hc, ← v9 h (i := (c - 1) / 2) (by omega)]; exact k c hc h0
theorem AV {l : List It} {n m : Nat} (h : Heap l n) (k : m ≤ n) : Heap l m := fun c hc h0 => h c (by omega) h0
structure Down (its l : List It) (i0 n : Nat) (moved : Bool) : Prop where
  perm : l.Perm its
  tail : ∀ x, n ≤ x → l.getD x default = its.getD x default
  no : moved = false → l = its ∧ ∀ c, c < n → 0 < c → (c - 1) / 2 = i0 → us its i0 ≤ us its c
  yes : moved = true → Heap l n
theorem vc {l its : List It} {i i0 n : Nat} (hp : l.Perm its) (hi : i0 ≤ i) (hH : hQ l i n) (ht : ∀ x, n ≤ x → l.getD x default = its.getD x default) (h0 : i = i0 → l = its)
  (hg : i0 < i → us l ((i - 1) / 2) ≤ us l i) (hmin : ∀ c, c < n → 0 < c → (c - 1) / 2 = i → us l i ≤ us l c) : Down its l i0 n (decide (i0 < i)) :=
 ⟨hp, ht, fun h => by
  have : i = i0 := by simp at h; omega
  subst this
  obtain rfl := h0 rfl
  exact ⟨rfl, hmin⟩, fun h => by
  have : i0 < i := by simpa using h
  exact v7 hH hmin fun _ => hg this⟩
end
section
open Go.RowKit
def aQ (b : Nat) (x : List It × List Value) : HP := chk (fun C => ∃ a c, C = [pt b (ac (.slice a x.1.length c :: x.2) 391), osl 385 6 (.slice a x.1.length c) (x.1.flatMap bH)])
section
variable {P : Program} {W0 : World} {R A : List HP} {b : Nat} {its : List It} {tl : List Value} {f : FuncId} {args : List Value} {Post : Value → List HP → Prop}
theorem tD (h : ∀ a c, bN P W0 f args (pt b (ac (.slice a its.length c :: tl) 391) :: osl 385 6 (.slice a its.length c) (its.flatMap bH) :: R) Post) : bN P W0 f args (aQ b (its, tl) :: R) Post :=
 qM fun C hC => by obtain ⟨a, c, rfl⟩ := hC; exact h a c
theorem oN {a : Option Addr} {c n : Nat} {R1 R2 B : List HP} [h1 : Tk pt b A (ac (.slice a n c :: tl) 391) R1] [h2 : Tk (osl 385 6) (.slice a n c) R1 (its.flatMap bH) R2] (hn : n = its.length) [k : Ent R2 B] : Ent A (aQ b (its, tl) :: B) := by
 subst hn
 exact (Ent.ofPerm (h1.perm.trans (h2.perm.cons _))).trans ((Ent.cons (Ent.cons k)).trans (fC (R := B) (C := [_, _]) ⟨a, c, rfl⟩))
theorem Bu (h0 : its ≠ []) (h : ∀ g c sp, its.length ≤ c → c ≤ maxLen → (its.flatMap bH ++ sp).length = c * 6 → bN P W0 f args (pt b (ac (.slice (some ⟨g, 0, none⟩) its.length c :: tl) 391) :: pt g (ac (its.flatMap bH ++ sp) 385) :: R) Post) : bN P W0 f args (aQ b (its, tl) :: R) Post :=
 tD fun a c => kU (List.Perm.swap _ _ _) (uG (fun h1 h2 => by
   have := cz eQ its
   rw [h2] at this
   exact absurd (List.eq_nil_of_length_eq_zero (by simp at this; omega)) h0)
  (fun g n cap sp h1 h2 h3 h4 h5 => by
   cases h1
   exact kU (List.Perm.swap _ _ _) (h g _ sp h2 h3 h5)))
theorem yf {N : FSz} {K : Act → World → Prop} {e : aW} [hk : Tk aQ b A (its, tl) R] (h : ∀ a c, az W0 N K e (pt b (ac (.slice a its.length c :: tl) 391) :: osl 385 6 (.slice a its.length c) (its.flatMap bH) :: R)) : az W0 N K e A :=
 fK (r := aQ) (b := b) (mt fun C hC => by obtain ⟨a, c, rfl⟩ := hC; exact h a c)
theorem yg {N : FSz} {K : Act → World → Prop} {e : aW} [hk : Tk aQ b A (its, tl) R] (h0 : its ≠ []) (h : ∀ g c sp, its.length ≤ c → c ≤ maxLen → (its.flatMap bH ++ sp).length = c * 6 → az W0 N K e (pt b (ac (.slice (some ⟨g, 0, none⟩) its.length c :: tl) 391) :: pt g (ac (its.flatMap bH ++ sp) 385) :: R)) : az W0 N K e A :=
 yf (b := b) fun a c => mZ (List.Perm.swap _ _ _) (jW (fun h1 h2 => by
   have := cz eQ its
   rw [h2] at this
   exact absurd (List.eq_nil_of_length_eq_zero (by simp at this; omega)) h0)
  (fun g n cap sp h1 h2 h3 h4 h5 => by
   cases h1
   exact mZ (List.Perm.swap _ _ _) (h g _ sp h2 h3 h5)))
theorem yh [hk : Tk aQ b A (its, tl) R] : bG (aO W0 A) b 1 tl := fun i v hi w (hO : Own W0 w A) => by
 obtain ⟨C, ⟨a, c, rfl⟩, hO'⟩ := (hO.tk (r := aQ) (b := b)).chk
 have h1 : Own W0 w (pt b (ac (.slice a its.length c :: tl) 391) :: (osl 385 6 (.slice a its.length c) (its.flatMap bH) :: R)) := hO'
 have h2 : jk (aO W0 (pt b (ac (.slice a its.length c :: tl) 391) :: (osl 385 6 (.slice a its.length c) (its.flatMap bH) :: R))) b (1 + i) v := aN (by rw [Nat.add_comm]; exact hi)
 exact h2 w h1
theorem pZ {g c n : Nat} {xs sp : List Value} {R1 R2 B : List HP} [h1 : Tk pt b A (ac (.slice (some ⟨g, 0, none⟩) n c :: tl) 391) R1] [h2 : Tk pt g R1 (ac (xs ++ sp) 385) R2] (hx : xs = its.flatMap bH) (hn : n = its.length) (hc : n ≤ c) (hm : c ≤ maxLen) (hl : (xs ++ sp).length = c * 6) [k : Ent R2 B] : Ent A (aQ b (its, tl) :: B) := by
 subst hn
 subst hx
 have e : Ent R1 (osl 385 6 (.slice (some ⟨g, 0, none⟩) its.length c) (its.flatMap bH) :: B) := eB hc hm (cz eQ its) hl
 exact (Ent.ofPerm h1.perm).trans ((Ent.cons e).trans (fC (R := B) (C := [_, _]) ⟨_, c, rfl⟩))
theorem Bv {N : FSz} {K : Act → World → Prop} {e : aW} {g c n : Nat} {xs sp : List Value} {R1 R2 : List HP} [h1 : Tk pt b A (ac (.slice (some ⟨g, 0, none⟩) n c :: tl) 391) R1] [h2 : Tk pt g R1 (ac (xs ++ sp) 385) R2] (hx : xs = its.flatMap bH) (hn : n = its.length) (hc : n ≤ c) (hm : c ≤ maxLen) (hl : (xs ++ sp).length = c * 6)
  (k : az W0 N K e (aQ b (its, tl) :: R2)) : az W0 N K e A := gD (pZ (b := b) hx hn hc hm hl) k
end
theorem vt (its : List It) (sp : List Value) (i j : Nat) (hi : i < its.length) (hj : j < 6) : (its.flatMap bH ++ sp)[i * 6 + j]? = (bH (its.getD i default))[j]? := by
 rw [ly eQ its i j sp hi hj]; simp [List.getD, hi]
theorem iz (its : List It) (sp : List Value) (i : Nat) (hi : i < its.length) : ((its.flatMap bH ++ sp).drop (i * 6)).take 6 = bH (its.getD i default) := by
 rw [pC eQ its i sp hi]; simp [List.getD, hi]
theorem kJ (its : List It) (sp : List Value) (i : Nat) (x : It) (hi : i < its.length) : setR (its.flatMap bH ++ sp) (i * 6) (bH x) = (its.set i x).flatMap bH ++ sp := sB eQ its i x sp hi
theorem TC (its : List It) (sp : List Value) (i : Nat) (hi : i < its.length) : ((its.flatMap bH ++ sp).drop (i * 6 + 2)).take 3 = [.int .i64 (its.getD i default).ep, .int .i64 (its.getD i default).ef, .int .i64 (its.getD i default).er] := by
 have := congrArg (fun l => (l.drop 2).take 3) (iz its sp i hi)
 simp only [List.drop_take, List.take_take, List.drop_drop] at this
 exact this
theorem TD (its : List It) (sp : List Value) (i : Nat) (u : Int) (hi : i < its.length) : (its.flatMap bH ++ sp).set (i * 6 + 5) (.int .i64 u) = (its.set i { its.getD i default with u := u }).flatMap bH ++ sp :=
 ni eQ its i 5 _ _ sp hi (by decide) (by simp [List.getD, hi, bH])
theorem jJ (its : List It) (sp : List Value) (i : Nat) (hi : i < its.length) : i * 6 + 6 ≤ (its.flatMap bH ++ sp).length := by
 rw [List.length_append, cz eQ]; omega
theorem q9 {its : List It} {i : Nat} (h : i < its.length) : its ≠ [] := fun e => by rw [e] at h; simp at h
theorem oQ (b : Nat) (its : List It) (tl : List Value) : sQ W0 381 [.pointer (some ⟨b, 0, none⟩)] (aQ b (its, tl) :: R) (.int .i64 (its.length : Nat)) (aQ b (its, tl) :: R) := by
 refine tD fun a c => ?_
 refine ai 16 func381 ntmps381 ?_
 refine ae ?_
 exact ⟨_, ⟨rfl, rfl⟩, oN rfl⟩
theorem vu (b : Nat) (its : List It) (tl : List Value) (i k : Nat) (hi : i < its.length) (hk : k < its.length) : sQ W0 505 [.pointer (some ⟨b, 0, none⟩), .int .i64 i, .int .i64 k] (aQ b (its, tl) :: R) (.bool (decide (us its i < us its k))) (aQ b (its, tl) :: R) := by
 refine Bu (q9 hi) fun g c sp h1 h2 h3 => ?_
 refine ai 6 func505 ntmps505 ?_
 refine aU [(b, 0, _), (g, 0, _)] 18 aT rfl (aa (aa ag)) (fun hS => ?_)
 refine ah 0 5 hS ?_
 refine av 5 rfl rfl rfl hS (bc dD bM rfl rfl rfl hi (by first | exact Nat.zero_add _ | rfl)) ?_
 refine ah 6 1 hS ?_
 refine av 7 rfl rfl rfl hS (aA aX rfl (dv (k := 1) rfl ((vt its sp i 5 hi (by decide)).trans rfl))) ?_
 refine ah 8 5 hS ?_
 refine av 13 rfl rfl rfl hS (bc dD bM rfl rfl rfl hk (by first | exact Nat.zero_add _ | rfl)) ?_
 refine ah 14 1 hS ?_
 refine av 15 rfl rfl rfl hS (aA aX rfl (dv (k := 1) rfl ((vt its sp k 5 hk (by decide)).trans rfl))) ?_
 refine ah 16 2 hS ?_
 refine aK ?_
 refine au 2 ?_
 refine ae ?_
 exact ⟨_, ⟨rfl, rfl⟩, pZ rfl rfl h1 h2 h3⟩
theorem vv (b : Nat) (its : List It) (tl : List Value) (i k : Nat) (hi : i < its.length) (hk : k < its.length) : sQ W0 508 [.pointer (some ⟨b, 0, none⟩), .int .i64 i, .int .i64 k] (aQ b (its, tl) :: R) (.tuple #[]) (aQ b (swapL its i k, tl) :: R) := by
 refine Bu (q9 hi) fun g c sp h1 h2 h3 => ?_
 refine gY func508 ntmps508 rfl rfl ?_
 refine aU [(b, 0, _)] 28 aT rfl (aa ag) (fun hS => ?_)
 refine ah 0 15 hS ?_
 refine av 15 rfl rfl rfl hS (bc dD bM rfl rfl rfl hk (by first | exact Nat.zero_add _ | rfl)) ?_
 refine ah 17 5 hS ?_
 refine av 22 rfl rfl rfl hS (bc dD bM rfl rfl rfl hi (by first | exact Nat.zero_add _ | rfl)) ?_
 refine eJ (is := [16, 23]) (by kernel_rfl) rfl ⟨?_, ?_, trivial⟩
 ·skip
  refine cV rfl rfl (dC (b0 fp bM rfl (cC (iz its sp k hk) rfl) rfl)) rfl ?_; clear hS
  rintro _ _ ⟨rfl, rfl⟩
  refine ⟨(aa ag), fun hS => ?_⟩
  refine bF 23 rfl rfl (dC (b0 fp bM rfl (cC (iz its sp i hi) rfl) rfl)) (aa ag) fun hS => ?_
  refine av 24 rfl rfl rfl hS (bc dD bM rfl rfl rfl hi (by first | exact Nat.zero_add _ | rfl)) ?_
  refine bU 25 rfl rfl (ed bM rfl rfl rfl rfl (jJ its sp i hi) (kJ its sp i (its.getD k default) hi)) (aa ag) fun hS => ?_
  refine av 26 rfl rfl rfl hS (bc dD bM rfl rfl rfl hk (by first | exact Nat.zero_add _ | rfl)) ?_
  refine bU 27 rfl rfl (ed bM rfl rfl rfl rfl (jJ (its.set i (its.getD k default)) sp k (by simpa using hk)) (kJ (its.set i (its.getD k default)) sp k (its.getD i default) (by simpa using hk))) (aa ag) fun hS => ?_
  refine aK ?_
  refine bT (.inr rfl) .nil ?_
  exact ⟨_, ⟨rfl, rfl⟩, pZ rfl (by simp [swapL]) (by simpa [swapL] using h1) h2 (by simpa [swapL, cz eQ] using h3)⟩
 skip
 refine cV rfl rfl (dC (b0 fp bM rfl (cC (iz its sp i hi) rfl) rfl)) rfl ?_; clear hS
 rintro _ _ ⟨rfl, rfl⟩
 refine ⟨(aa ag), fun hS => ?_⟩
 refine bF 16 rfl rfl (dC (b0 fp bM rfl (cC (iz its sp k hk) rfl) rfl)) (aa ag) fun hS => ?_
 refine av 24 rfl rfl rfl hS (bc dD bM rfl rfl rfl hi (by first | exact Nat.zero_add _ | rfl)) ?_
 refine bU 25 rfl rfl (ed bM rfl rfl rfl rfl (jJ its sp i hi) (kJ its sp i (its.getD k default) hi)) (aa ag) fun hS => ?_
 refine av 26 rfl rfl rfl hS (bc dD bM rfl rfl rfl hk (by first | exact Nat.zero_add _ | rfl)) ?_
 refine bU 27 rfl rfl (ed bM rfl rfl rfl rfl (jJ (its.set i (its.getD k default)) sp k (by simpa using hk)) (kJ (its.set i (its.getD k default)) sp k (its.getD i default) (by simpa using hk))) (aa ag) fun hS => ?_
 refine aK ?_
 refine bT (.inr rfl) .nil ?_
 exact ⟨_, ⟨rfl, rfl⟩, pZ rfl (by simp [swapL]) (by simpa [swapL] using h1) h2 (by simpa [swapL, cz eQ] using h3)⟩
theorem yi (b : Nat) (its : List It) (x : It) (tl : List Value) : sQ W0 506 [.pointer (some ⟨b, 0, none⟩)] (aQ b (its ++ [x], tl) :: R) (.iface 385 (.agg (bH x).toArray)) (aQ b (its, tl) :: R) := by
 refine Bu (by simp) fun g c sp h1 h2 h3 => ?_
 have hl : (its ++ [x]).length = its.length + 1 := by simp
 rw [hl] at h1 ⊢
 have hg : (its ++ [x]).getD its.length default = x := by simp [List.getD]
 have hr := iz (its ++ [x]) sp its.length (by omega)
 rw [hg] at hr
 have he : (its ++ [x]).flatMap bH ++ sp = its.flatMap bH ++ (bH x ++ sp) := by simp
 refine ai 12 func506 ntmps506 ?_
 refine ap 10 (cZ rfl rfl (by rw [aG (by simp only [maxLen] at h2; omega)]; omega : IntKind.wrap .i64 (((its.length + 1 : Nat) : Int) - 1) = ((its.length : Nat) : Int))) ?_
 refine a7 rfl (bc dD bM rfl rfl rfl (by omega) (by first | exact Nat.zero_add _ | rfl)) ?_
 refine a7 rfl (b0 fp bM rfl (cC hr rfl) rfl) ?_
 refine ax (aS lU) fun b1 => ?_
 refine aE 10 (aF bM rfl rfl rfl rfl rfl) ?_
 refine ap 2 (m0 dD bM rfl rfl rfl (by omega)) ?_
 refine eI (bA wi rfl rfl rfl (Nat.le_of_ble_eq_true rfl) SetL.eq) ?_
 rintro _ _ rfl
 refine au 4 ?_
 refine a7 rfl (kS fp bM rfl rfl) ?_
 refine a7 rfl (fY pj (fun _ h => nomatch h) rfl) ?_
 refine a7 rfl (bR rfl) (au 3 ?_)
 refine ae ?_
 rw [he]
 exact ⟨_, ⟨rfl, rfl⟩, pZ (sp := bH x ++ sp) rfl rfl (by omega) h2 (by rw [← he]; exact h3)⟩
theorem TE (b : Nat) (its : List It) (x : It) (tl : List Value) (hn : its.length < 1000) : sQ W0 507 [.pointer (some ⟨b, 0, none⟩), .iface 385 (.agg (bH x).toArray)] (aQ b (its, tl) :: R) (.tuple #[]) (aQ b (its ++ [x], tl) :: R) := by
 refine tD fun a c => ?_
 have he : its.flatMap bH ++ [bH x].flatten = (its ++ [x]).flatMap bH := by simp
 refine gY func507 ntmps507 rfl rfl ?_
 refine aU [] 12 aT rfl ag (fun hS => ?_)
 refine ah 0 4 hS ?_
 refine ah 5 1 hS ?_
 refine av 6 rfl rfl rfl hS (pE pj (fun _ h => nomatch h) rfl) ?_
 refine eJ (is := [4, 7]) (by kernel_rfl) rfl ⟨?_, ?_, trivial⟩
 ·skip
  refine cV rfl rfl (dC (aA ze rfl (aN rfl))) rfl ?_; clear hS
  rintro _ _ ⟨rfl, rfl⟩
  refine ⟨ag, fun hS => ?_⟩
  refine bS 7 (by kernel_rfl) rfl rfl (iM dD bM lU rfl (eW rfl rfl gZ) rfl (by decide) (by decide) (by decide)) rfl ?_; clear hS
  rintro _ _ ⟨b1, rfl, rfl⟩
  refine ⟨ag, fun hS => ?_⟩
  refine bS 8 (by kernel_rfl) rfl rfl (eV (sz := 6) (by_ := 48) (info := Tryz.t385) dD (by kernel_rfl) rfl rfl rfl rfl (by decide) rfl rfl eC rfl rfl (by simp only [maxLen]; omega) (by omega)) rfl ?_; clear hS
  rintro _ _ ⟨a1, c1, rfl, rfl⟩
  refine ⟨ag, fun hS => ?_⟩
  refine ah 9 2 hS ?_
  refine bU 11 rfl rfl (bA wi rfl rfl rfl (Nat.le_of_ble_eq_true rfl) SetL.eq) ag fun hS => ?_
  refine aK ?_
  refine bT (.inr rfl) .nil ?_
  rw [he]
  exact ⟨_, ⟨rfl, rfl⟩, oN (its := its ++ [x]) (by simp)⟩
 skip
 refine cV rfl rfl (iM dD bM lU rfl (eW rfl rfl gZ) rfl (by decide) (by decide) (by decide)) rfl ?_; clear hS
 rintro _ _ ⟨b1, rfl, rfl⟩
 refine ⟨ag, fun hS => ?_⟩
 refine bF 4 rfl rfl (dC (aA ze rfl (aN rfl))) ag fun hS => ?_
 refine bS 8 (by kernel_rfl) rfl rfl (eV (sz := 6) (by_ := 48) (info := Tryz.t385) dD (by kernel_rfl) rfl rfl rfl rfl (by decide) rfl rfl eC rfl rfl (by simp only [maxLen]; omega) (by omega)) rfl ?_; clear hS
 rintro _ _ ⟨a1, c1, rfl, rfl⟩
 refine ⟨ag, fun hS => ?_⟩
 refine ah 9 2 hS ?_
 refine bU 11 rfl rfl (bA wi rfl rfl rfl (Nat.le_of_ble_eq_true rfl) SetL.eq) ag fun hS => ?_
 refine aK ?_
 refine bT (.inr rfl) .nil ?_
 rw [he]
 exact ⟨_, ⟨rfl, rfl⟩, oN (its := its ++ [x]) (by simp)⟩
section
variable (w : World) (a : Addr)
theorem vw : (method (Tryz.prog.types.size + Made.depth) 386 (.pointer (some a)) "Len").run Tryz.prog w = .ok (381, .pointer (some a)) w := by kernel_rfl
theorem vx : (method (Tryz.prog.types.size + Made.depth) 386 (.pointer (some a)) "Less").run Tryz.prog w = .ok (505, .pointer (some a)) w := by kernel_rfl
theorem vy : (method (Tryz.prog.types.size + Made.depth) 386 (.pointer (some a)) "Swap").run Tryz.prog w = .ok (508, .pointer (some a)) w := by kernel_rfl
theorem TF : (method (Tryz.prog.types.size + Made.depth) 386 (.pointer (some a)) "Push").run Tryz.prog w = .ok (507, .pointer (some a)) w := by kernel_rfl
theorem yj : (method (Tryz.prog.types.size + Made.depth) 386 (.pointer (some a)) "Pop").run Tryz.prog w = .ok (506, .pointer (some a)) w := by kernel_rfl
end
def li (b : Nat) : Value := .iface 386 (.pointer (some ⟨b, 0, none⟩))
theorem B1 {j : Nat} (h : j < 1000) : IntKind.wrap .i64 (Int.tdiv ((j : Int) - 1) 2) = (((j - 1) / 2 : Nat) : Int) := by
 by_cases h0 : j = 0
 ·subst h0; decide
 obtain ⟨k, rfl⟩ : ∃ k, j = k + 1 := ⟨j - 1, by omega⟩
 have e : ((k + 1 : Nat) : Int) - 1 = (k : Int) := by omega
 rw [e, Int.tdiv_eq_ediv_of_nonneg (by omega), aG (by omega)]; simp
theorem vd {l l0 : List It} {i j n : Nat} (hi : i < n) (hj : j < n) (hn : n ≤ l.length) (h : ∀ x, n ≤ x → l.getD x default = l0.getD x default) : ∀ x, n ≤ x → (swapL l i j).getD x default = l0.getD x default := fun x hx => by
 rw [oH (by omega) (by omega), if_neg (by omega), if_neg (by omega)]; exact h x hx
theorem t9 (W0 : World) (R : List HP) (b : Nat) (its : List It) (tl : List Value) (j n : Nat) (hn : n ≤ its.length) (hN : n < 1000) (hj : j < n) (hU : Up its j n) : sP W0 137 [li b, .int .i64 j] (aQ b (its, tl) :: R) (fun v B => v = .tuple #[] ∧ ∃ its', B = aQ b (its', tl) :: R ∧ its'.Perm its ∧ Heap its' n ∧ ∀ x, n ≤ x → its'.getD x default = its.getD x default) := by
 refine gY func137 ntmps137 rfl rfl ?_
 refine jS ?_
 refine cY (fun X : List It × Nat => X.1.Perm its ∧ X.2 < n ∧ Up X.1 X.2 n ∧ ∀ x, n ≤ x → X.1.getD x default = its.getD x default) (fun X => [(0, li b), (1, .int .i64 X.2)]) (fun X => aQ b (X.1, tl) :: R) (fun X => X.2) (its, j) ?_ ?_
 ·exact ⟨List.Perm.refl _, hj, hU, fun _ _ => rfl⟩
 intro ⟨l, j⟩ ⟨hp, hj, hU, ht⟩
 have hlen := hp.length_eq
 simp only at hj hU ht hp hlen ⊢
 refine au 4 ?_
 refine a7 rfl (cZ rfl rfl (by first | exact aG (by omega) | rfl)) ?_
 refine ap 10 (qE rfl rfl (by decide) (B1 (by omega))) ?_
 refine bB rfl rfl rfl (fun g1_4 => ?_) fun g1_4 => ?_
 ·refine au 13 ?_
  refine bT (.inr rfl) .nil ?_
  exact ⟨_, ⟨rfl, l, rfl, hp, v8 hU (by intro _; first | omega | (simp at c1; omega)), ht⟩, inferInstance⟩
 refine au 6 ?_
 refine ar 5 (e8 rfl ((fun w => vx w _)) zH rfl (vu b l tl j ((j - 1) / 2) (by omega) (by omega))) ?_
 refine a8 rfl (fun c1 => ?_) fun c1 => ?_
 ·refine au 5 ?_
  refine bT (.inr rfl) .nil ?_
  exact ⟨_, ⟨rfl, l, rfl, hp, v8 hU (by intro _; first | omega | (simp at c1; omega)), ht⟩, inferInstance⟩
 replace c1 : us l j < us l ((j - 1) / 2) := by simpa using c1
 refine au 7 ?_
 refine ar 8 (e8 rfl ((fun w => vy w _)) zI rfl (vv b l tl ((j - 1) / 2) j (by omega) (by omega))) ?_
 refine bZ (swapL l ((j - 1) / 2) j, (j - 1) / 2) ?_ (hμ := ?_)
 ·exact ⟨(iP (by omega) (by omega)).trans hp, by show (j - 1) / 2 < n; omega, AT hU (by omega) hj (by omega) c1, vd (by omega) hj (by omega) ht⟩
 show (j - 1) / 2 < j; omega
theorem tc (W0 : World) (R : List HP) (b : Nat) (its : List It) (tl : List Value) (i0 n : Nat) (hn : n ≤ its.length) (hN : n < 1000) (hi : i0 ≤ n) (hH : hQ its i0 n) : sP W0 190 [li b, .int .i64 i0, .int .i64 n] (aQ b (its, tl) :: R) (fun v B => ∃ l m, v = .bool m ∧ B = aQ b (l, tl) :: R ∧ Down its l i0 n m) := by
 refine ai 13 JG ntmps190 ?_
 refine cY (fun X : List It × Nat => X.1.Perm its ∧ i0 ≤ X.2 ∧ hQ X.1 X.2 n ∧ (∀ x, n ≤ x → X.1.getD x default = its.getD x default) ∧ (X.2 = i0 → X.1 = its) ∧ (i0 < X.2 → us X.1 ((X.2 - 1) / 2) ≤ us X.1 X.2) ∧ X.2 ≤ n) (fun X => [(0, li b), (1, .int .i64 i0), (2, .int .i64 n), (7, .int .i64 X.2)]) (fun X => aQ b (X.1, tl) :: R) (fun X => n - X.2) (its, i0) ?_ ?_
 ·exact ⟨List.Perm.refl _, Nat.le_refl _, hH, fun _ _ => rfl, fun _ => rfl, fun h => absurd h (Nat.lt_irrefl _), hi⟩
 intro ⟨l, i⟩ ⟨hp, hi0, hl, ht, he, hg, hin⟩
 have hlen := hp.length_eq
 simp only at hp hi0 hl ht he hg hin hlen ⊢
 refine au 4 ?_
 refine a7 rfl (iH rfl rfl (by first | exact aG (by omega) | rfl)) ?_
 refine ap 10 (bO rfl rfl (by rw [aG (by omega)]; omega : IntKind.wrap .i64 (2 * (i : Int) + 1) = ((2 * i + 1 : Nat) : Int))) ?_
 refine bB rfl rfl rfl (fun g3_4 => ?_) fun g3_4 => ?_
 ·refine au 20 ?_
  refine ae ?_
  refine ⟨_, ⟨l, decide (i0 < i), by simp [bz], rfl, vc hp hi0 hl ht he hg ?_⟩, inferInstance⟩
  first | (intro c hc h0 h1; exfalso; omega) | (intro c hc h0 h1; have := hmin c hc h0 h1; simp at c8; omega)
 refine au 6 ?_
 refine a8 rfl (fun c3 => ?_) fun c3 => ?_
 ·omega
 refine au 8 ?_
 refine dU (fun j : Nat => (j - 1) / 2 = i ∧ 0 < j ∧ j < n ∧ ∀ c, c < n → 0 < c → (c - 1) / 2 = i → us l j ≤ us l c) (fun j => [(0, li b), (1, .int .i64 i0), (2, .int .i64 n), (7, .int .i64 i), (9, .int .i64 j)]) (fun j => aQ b (l, tl) :: R) ?_ ?_
 ·skip
  refine au 3 ?_
  refine ap 9 (bO rfl rfl (by rw [aG (by omega)]; omega : IntKind.wrap .i64 (((2 * i + 1 : Nat) : Int) + 1) = ((2 * i + 2 : Nat) : Int))) ?_
  refine cp rfl rfl rfl (fun g6_4 => ?_) fun g6_4 => ?_
  ·refine au 6 ?_
   refine ar 3 (e8 rfl ((fun w => vx w _)) zH rfl (vu b l tl (2 * i + 2) (2 * i + 1) (by omega) (by omega))) ?_
   refine a8 rfl (fun c6 => ?_) fun c6 => ?_
   ·refine au 5 ?_
    refine cj (2 * i + 2) ?_
    ·refine ⟨by omega, by omega, by omega, fun c hc h0 h1 => ?_⟩
     have : c = 2 * i + 1 ∨ c = 2 * i + 2 := by omega
     rcases this with rfl | rfl <;> omega
   refine au 2 ?_
   refine cj (2 * i + 1) ?_
   ·refine ⟨by omega, by omega, by omega, fun c hc h0 h1 => ?_⟩
    have : c = 2 * i + 1 ∨ c = 2 * i + 2 := by omega
    rcases this with rfl | rfl <;> omega
  refine au 9 ?_
  refine cj (2 * i + 1) ?_
  ·refine ⟨by omega, by omega, by omega, fun c hc h0 h1 => ?_⟩
   have : c = 2 * i + 1 ∨ c = 2 * i + 2 := by omega
   rcases this with rfl | rfl <;> omega
 intro j ⟨hj, hj0, hjn, hmin⟩
 refine au 6 ?_
 refine ar 3 (e8 rfl ((fun w => vx w _)) zH rfl (vu b l tl j i (by omega) (by omega))) ?_
 refine a8 rfl (fun c8 => ?_) fun c8 => ?_
 ·refine au 15 ?_
  refine ae ?_
  refine ⟨_, ⟨l, decide (i0 < i), by simp [bz], rfl, vc hp hi0 hl ht he hg ?_⟩, inferInstance⟩
  first | (intro c hc h0 h1; exfalso; omega) | (intro c hc h0 h1; have := hmin c hc h0 h1; simp at c8; omega)
 replace c8 : us l j < us l i := by simpa using c8
 refine au 7 ?_
 refine ar 8 (e8 rfl ((fun w => vy w _)) zI rfl (vv b l tl i j (by omega) (by omega))) ?_
 refine bZ (swapL l i j, j) ?_ (hμ := ?_)
 ·have hs := AS hl (by omega) hjn hj hj0 c8 hmin
  exact ⟨(iP (by omega) (by omega)).trans hp, by show i0 ≤ j; omega, hs.1, vd (by omega) hjn (by omega) ht, by show j = i0 → _; omega, fun _ => hs.2, by show j ≤ n; omega⟩
 show n - j < n - i; omega
end
end Go.Proofs.YtedopnjjkddhaaaGreatDoor
