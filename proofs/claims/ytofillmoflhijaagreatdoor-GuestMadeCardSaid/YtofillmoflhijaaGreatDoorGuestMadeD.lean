/-
  Part 4 of the proof of GuestMade: rules, and walks of functions. Conditions: none.
-/
import Derived.Test.YtofillmoflhijaaGreatDoorGuestMadeC
namespace Go.Proofs.YtofillmoflhijaaGreatDoor
open Go.Proofs.Tryz
set_option linter.unusedSimpArgs false
set_option linter.unusedVariables false
set_option maxRecDepth 20000
set_option linter.defProp false
set_option synthInstance.maxSize 8192
set_option synthInstance.maxHeartbeats 2000000
variable {W0 : World} {R : List HP}
section
open Go.RowKit
section
variable {rb vb pv tr : Nat} {cs : List Value}
theorem FX (b : Nat) (rl : List Nat) (pc i : Nat) (hl : rl.length = 16) (hi : i < 16) : sQ W0 140 [pV b, iQ i] (pt b (d8 rl pc) :: R) (.tuple #[wV (rl.getD i 0), iQ 0]) (pt b (d8 rl pc) :: R) := by
 have hir : kB i = true := by grind [kB]
 have hg : (rl.map wV ++ [Value.bool true, wV pc])[i * 1]? = some (wV (rl.getD i 0)) := by
  grind
 refine js 13 func140 ntmps140 ?_
 refine aA rfl (fun c1 => ?_) fun c1 => ?_
 cases c1
 refine aw ?_
 refine dK 9 (ah Cs (xS b rl pc hl i)) ?_
 refine ag (fun c4 => ?_) fun c4 => ?_
 exact absurd c4 (by rw [hir]; decide)
 refine a6 (i4 hi) ?_
 refine a6 (aG (aF hg)) ?_
 exact az aj
theorem Vm (k ck : Int) (a b d : Nat) (rl : List Nat) (h : rl.length = 16) (zs : List Value) (hz : zs.length = 16) : cz ([iQ k, iQ ck, wV a, wV b, wV d] ++ zs) 5 (rl.map wV) = [iQ k, iQ ck, wV a, wV b, wV d] ++ rl.map wV :=
  uk (rl.map wV) zs [iQ k, iQ ck, wV a, wV b, wV d] (by grind)
theorem Vn {S : World → Prop} {N : FSz} {e : aH} {o0 o1 o2 o3 o4 o5 : Operand} {k ck : Int} {a b d : Nat} {rl : List Nat} (hl : rl.length = 16) (h0 : ev e o0 = some (iQ k)) (h1 : ev e o1 = some (iQ ck)) (h2 : ev e o2 = some (wV a)) (h3 : ev e o3 = some (wV b)) (h4 : ev e o4 = some (wV d)) (h5 : ev e o5 = some (.agg (rl.map wV).toArray)) :
    aW Tryz.prog S N e (.build 208 #[(0, o0), (1, o1), (2, o2), (3, o3), (4, o4), (5, o5)]) (.agg ([Value.int .i64 k, iQ ck, wV a, wV b, wV d] ++ rl.map wV).toArray) :=
  fw (l' := [Value.int .i64 k, iQ ck, wV a, wV b, wV d] ++ rl.map wV) a12 IU (aM aO (aM aO (aM bF (aM bF (aM bF (aM mJ fq))))))
    (cQ (l' := [iQ k, iQ 0, .int .u32 0, .int .u32 0, .int .u32 0] ++ List.replicate 16 (.int .u32 0)) rfl aO h0 rfl (Qaa rfl) rfl
    (cQ (l' := [iQ k, iQ ck, .int .u32 0, .int .u32 0, .int .u32 0] ++ List.replicate 16 (.int .u32 0)) rfl aO h1 rfl (Qaa rfl) rfl
    (cQ (l' := [iQ k, iQ ck, wV a, .int .u32 0, .int .u32 0] ++ List.replicate 16 (.int .u32 0)) rfl bF h2 rfl (Qaa rfl) rfl
    (cQ (l' := [iQ k, iQ ck, wV a, wV b, .int .u32 0] ++ List.replicate 16 (.int .u32 0)) rfl bF h3 rfl (Qaa rfl) rfl
    (cQ (l' := [iQ k, iQ ck, wV a, wV b, wV d] ++ List.replicate 16 (.int .u32 0)) rfl bF h4 rfl (Qaa rfl) rfl
    (iP rfl mJ h5 (by grind) (by simp) (Vm k ck a b d rl hl _ (by simp)) fp))))))
theorem Vo (b : Nat) (es : List Evt) (k ck : Int) (x y z : Nat) (rl : List Nat) (hl : rl.length = 16) (hn : es.length < 4096) : sQ W0 202 [pV b, .agg ([Value.int .i64 k, iQ ck, wV x, wV y, wV z] ++ rl.map wV).toArray] (fi b es :: R) (iQ 0) (fi b (es ++ [⟨k, ck, x, y, z, rl⟩]) :: R) := by
 have := UY W0 R b es ⟨k, ck, x, y, z, rl⟩ hn
 rwa [UV (e := ⟨k, ck, x, y, z, rl⟩) hl] at this
end
end
section
abbrev cF := Int × Int
abbrev ib := Int × Int × Int
def iJ (k : cF) (e : ib) (u : Int) : It := ⟨k.1, k.2, e.1, e.2.1, e.2.2, u⟩
def ic (k : cF) (l : List It) : List It := l.filter (fun x => decide (x.key ≠ k))
theorem q9 {k : cF} {l : List It} {x : It} : x ∈ ic k l ↔ x ∈ l ∧ x.key ≠ k := by simp [ic]
theorem B7 {k : cF} {l : List It} (h : ∀ x ∈ l, x.key ≠ k) : ic k l = l := Qbe.2 fun x hx => by simpa using h x hx
structure Rep (its : List It) (now : Nat) (L : List It) : Prop where
  perm : its.Perm L
  heap : Heap its its.length
  sort : L.Pairwise (fun x y => x.u < y.u)
  le : ∀ x ∈ L, x.u ≤ (now : Int)
  keys : (L.map It.key).Nodup
theorem Rep.nil : Rep [] 0 [] := ⟨List.Perm.nil, fun c hc => by simp at hc, List.Pairwise.nil, fun _ h => by simp at h, List.nodup_nil⟩
theorem Rep.length {its L : List It} {now : Nat} (h : Rep its now L) : its.length = L.length := h.perm.length_eq
theorem Rep.keysI {its L : List It} {now : Nat} (h : Rep its now L) : (its.map It.key).Nodup := (h.perm.map It.key).symm.nodup h.keys
def jy (k : cF) (x : It) (L : List It) : List It := ic k L ++ [x]
theorem FY {L : List It} {k : cF} {x : It} {now : Nat} (hs : L.Pairwise (fun x y => x.u < y.u)) (hl : ∀ x ∈ L, x.u ≤ (now : Int)) (hx : x.u = (now : Int) + 1) : (jy k x L).Pairwise (fun x y => x.u < y.u) := by
 refine List.pairwise_append.2 ⟨hs.filter _, List.pairwise_singleton _ _, fun y hy z hz => ?_⟩
 obtain rfl : z = x := by grind
 have := hl y (q9.1 hy).1; omega
theorem FZ {L : List It} {k : cF} {x : It} (h : (L.map It.key).Nodup) (hx : x.key = k) : ((jy k x L).map It.key).Nodup := by
 unfold jy
 rw [QaF]
 refine Qbo.2 ⟨?_, by simp, fun a ha b hb => ?_⟩
 exact Qch (Qcw _ QbA) h
 obtain rfl : b = x.key := by grind
 obtain ⟨y, hy, rfl⟩ := Qbm.1 ha
 rw [hx]; exact (q9.1 hy).2
theorem G0 {L : List It} {k : cF} {x : It} {now : Nat} (hl : ∀ x ∈ L, x.u ≤ (now : Int)) (hx : x.u = (now : Int) + 1) : ∀ y ∈ jy k x L, y.u ≤ ((now + 1 : Nat) : Int) := fun y hy => by
 rcases Qbc.1 hy with h | h
 have := hl y (q9.1 h).1; omega
 grind
theorem Vp {its : List It} {k : cF} {i : Nat} {x : It} (hk : (its.map It.key).Nodup) (hi : i < its.length) (he : (its.getD i default).key = k) : (its.set i x).Perm (jy k x its) := by
 have hg : its.getD i default = its[i] := by grind
 rw [hg] at he
 have e : its = its.take i ++ its[i] :: its.drop (i + 1) := by simp_all
 have hs : its.set i x = its.take i ++ x :: its.drop (i + 1) := by grind
 have hw : ic k its = its.take i ++ its.drop (i + 1) := by
  have hn := hk
  rw [e, QaF, QaG] at hn
  have hnn := Qbo.1 hn
  have h2 := QbW.1 hnn.2.1
  conv => lhs; rw [e]
  unfold ic
  rw [QbH, List.filter_cons_of_neg (by simp [he])]
  have h3 := B7 (k := k) (l := its.take i) (fun y hy h => hnn.2.2 y.key (List.mem_map_of_mem hy) its[i].key (by simp) (by rw [h, he]))
  have h4 := B7 (k := k) (l := its.drop (i + 1)) (fun y hy h => h2.1 (by rw [he, ← h]; exact List.mem_map_of_mem hy))
  unfold ic at h3 h4
  rw [h3, h4]
 rw [hs, jy, hw]
 exact List.perm_middle.trans (List.perm_append_singleton x _).symm
theorem Rep.setI {its its' L : List It} {now i : Nat} {k : cF} {x : It} (h : Rep its now L) (hi : i < its.length) (he : (its.getD i default).key = k) (hx : x.key = k) (hu : x.u = (now : Int) + 1)
    (hp : its'.Perm (its.set i x)) (hh : Heap its' its'.length) : Rep its' (now + 1) (jy k x L) :=
  ⟨hp.trans ((Vp h.keysI hi he).trans ((h.perm.filter _).append_right _)), hh, FY h.sort h.le hu, G0 h.le hu, FZ h.keys hx⟩
def kZ (k : cF) (L : List It) : Option It := L.find? (fun x => decide (x.key = k))
theorem Rep.noneI {its L : List It} {now : Nat} {k : cF} (h : Rep its now L) (hn : ∀ x ∈ its, x.key ≠ k) : kZ k L = none ∧ ic k L = L :=
  ⟨QbS.2 fun x hx => by simpa using hn x (h.perm.mem_iff.2 hx), B7 fun x hx => hn x (h.perm.mem_iff.2 hx)⟩
theorem tx {L : List It} {k : cF} {y : It} (h : kZ k L = some y) : y ∈ L ∧ y.key = k := ⟨QbV h, by simpa using List.find?_some h⟩
theorem Vq {L : List It} {k : cF} {y : It} (hk : (L.map It.key).Nodup) (hy : y ∈ L) (he : y.key = k) : kZ k L = some y := by
 cases hf : kZ k L with
 | none => exact absurd he (by simpa using QbS.1 hf y hy)
 | some z =>
  obtain ⟨hz, hz'⟩ := tx hf
  have : z = y := by
   clear hf
   induction L with
   | nil => simp at hy
   | cons a L ih =>
    simp only [QaG, QbW] at hk
    rcases QaZ.1 hy with e1 | hy1
    grind
    grind
  rw [this]
theorem Rep.someI {its L : List It} {now i : Nat} {k : cF} (h : Rep its now L) (hi : i < its.length) (he : (its.getD i default).key = k) : kZ k L = some (its.getD i default) := by
 have hg : its.getD i default = its[i] := by grind
 refine Vq h.keys (h.perm.mem_iff.1 ?_) he
 rw [hg]; exact QaK hi
theorem Rep.dropI {its its' L : List It} {now : Nat} {k : cF} {y : It} (h : Rep its now L) (he : y.key = k) (hp : (its' ++ [y]).Perm its) (hh : Heap its' its'.length) : Rep its' now (ic k L) := by
 have hn : ((its' ++ [y]).map It.key).Nodup := (hp.map _).symm.nodup h.keysI
 rw [QaF] at hn
 have h1 := Qbo.1 hn
 have e : ic k (its' ++ [y]) = its' := by
  simp_all [ic, QbH, List.filter_cons_of_neg]
 refine ⟨?_, hh, h.sort.filter _, fun x hx => h.le x (q9.1 hx).1, Qch (Qcw _ QbA) h.keys⟩
 have := (hp.trans h.perm).filter (fun x => decide (x.key ≠ k))
 rw [← e]; exact this
theorem Rep.pushI {its its' L : List It} {now : Nat} {k : cF} {x : It} (h : Rep its now L) (hn : ∀ y ∈ its, y.key ≠ k) (hx : x.key = k) (hu : x.u = (now : Int) + 1) (hp : its'.Perm (its ++ [x])) (hh : Heap its' its'.length) : Rep its' (now + 1) (jy k x L) :=
  ⟨by unfold jy; rw [(h.noneI hn).2]; exact hp.trans (h.perm.append_right _), hh, FY h.sort h.le hu, G0 h.le hu, FZ h.keys hx⟩
theorem Rep.popI {its its' L : List It} {now : Nat} {y : It} (h : Rep its now L) (hp : (its' ++ [y]).Perm its) (hh : Heap its' its'.length) (hmin : ∀ z ∈ its, y.u ≤ z.u) : Rep its' now L.tail := by
 have hyL : y ∈ L := (hp.trans h.perm).mem_iff.1 (by simp)
 cases L with
 | nil => simp at hyL
 | cons z T =>
  have hs := Qbk.1 h.sort
  have hyz : y = z := by
   rcases QaZ.1 hyL with e | hy
   exact e
   have h1 := hs.1 y hy
   have h2 := hmin z (h.perm.mem_iff.2 (by simp))
   omega
  subst hyz
  have hpT : (y :: its').Perm (y :: T) := (List.perm_append_singleton y its').symm.trans (hp.trans h.perm)
  exact ⟨List.Perm.cons_inv hpT, hh, hs.2, fun x hx => h.le x (Qai _ hx), (QbW.1 (by simpa using h.keys)).2⟩
def je (room now : Nat) (k : cF) (e : ib) (L : List It) : List It :=
  if room < (jy k (iJ k e (now + 1 : Nat)) L).length then (jy k (iJ k e (now + 1 : Nat)) L).tail else jy k (iJ k e (now + 1 : Nat)) L
def rG (now : Nat) (k : cF) (L : List It) : List It := match kZ k L with | none => L | some y => jy k (iJ k y.ent (now + 1 : Nat)) L
theorem y4 (k : cF) (L : List It) : (ic k L).length ≤ L.length := QaT _ _
theorem y5 (k : cF) (x : It) (L : List It) : (jy k x L).length = (ic k L).length + 1 := by simp [jy]
theorem B8 {k : cF} {L : List It} {y : It} (h : kZ k L = some y) : (ic k L).length < L.length := by
 obtain ⟨h1, h2⟩ := tx h
 exact List.length_filter_lt_length_iff_exists.2 ⟨y, h1, by simpa using h2⟩
theorem tz {room now : Nat} {k : cF} {e : ib} {L : List It} (h : L.length ≤ room) : (je room now k e L).length ≤ room := by
 grind [y4, je, List.length_tail, y5]
theorem Vr {now : Nat} {k : cF} {L : List It} : (rG now k L).length ≤ L.length := by
 unfold rG; split
 omega
 rename_i y hy; rw [y5]; exact B8 hy
end
section
open Go.RowKit
@[reducible] def d3 (room now : Nat) : List Value := [.int .i64 room, .int .i64 now, .bool true]
theorem tA (b : Nat) (its : List It) (room now : Nat) (L : List It) (k : cF) (e : ib) (hR : Rep its now L) (hL : L.length ≤ room) (hr : room ≤ 4) (hn : now < 1000000) : sP W0 348 [pQ b, .agg (fj k).toArray, .agg (m5 e).toArray] (aJ b (its, d3 room now) :: R) (fun v B => v = iQ 0 ∧ ∃ its', B = aJ b (its', d3 room (now + 1)) :: R ∧ Rep its' (now + 1) (je room now k e L)) := by
 have hlen := hR.length
 refine ab func348 ntmps348 ?_
 refine aS fun b1 => ?_
 refine aS fun b2 => ?_
 refine ac (ah we (tp b its _ _)) ?_
 refine bB [b1, b2] 8 fun hS => ?_
 refine ae 0 2 hS ?_
 refine av 2 hS (fw Ip Cg (aM oZ (aM p7 fq)) (iP rfl oZ rfl rfl (Qaa rfl) SetRL.eq (iP rfl p7 rfl rfl (Qaa rfl) SetRL.eq fp))) ?_
 refine ae 3 1 hS ?_
 refine eG (is := [4, 6]) (by kernel_rfl) rfl ⟨?_, ?_, trivial⟩
 refine di (ah IX (FQ b its _ now hn)) ?_; clear hS
 rintro _ B_ ⟨rfl, hB_⟩
 obtain rfl := hB_.symm
 refine ⟨aK, fun hS => ?_⟩
 refine av 5 hS (fw sd p9 (aM p8 (aM aO fq)) (iP rfl p8 rfl rfl (Qaa rfl) SetRL.eq (cQ rfl aO rfl rfl (Qaa rfl) SetL.eq fp))) ?_
 refine cg 6 (dt p9) ?_; clear hS
 rintro _ _ ⟨b3, rfl, rfl⟩
 refine ⟨aK, fun hS => ?_⟩
 refine cq 7 aC fun hS => ?_
 refine aI ?_
 refine am rfl (ah Cw (xZ b its _ k (by omega))) ?_
 rintro _ _ ⟨r, rfl, rfl, hf⟩
 refine aw ?_
 refine aA rfl (fun c5 => ?_) fun c5 => ?_
 obtain ⟨i, rfl, hi, hk⟩ : ∃ i : Nat, r = (i : Int) ∧ i < its.length ∧ (its.getD i default).key = k := by
  rcases hf with ⟨h, _⟩ | h
  omega
  exact h
 refine aw ?_
 refine xV (b := b) (pZ hi) fun g c sp h1 h2 h3 => ?_
 refine bB [b, b3] 9 fun hS => ?_
 refine ae 0 7 hS ?_
 refine av 7 hS (bA hi) ?_
 refine cq 8 (gK (jR its sp i hi) (kC its sp i (iJ k e (now + 1 : Nat)) hi)) fun hS => ?_
 refine aI ?_
 refine B4 (b := b) (its := its.set i (iJ k e (now + 1 : Nat))) rfl (by simp) h1 h2 (by simpa [cj fN] using h3) ?_
 refine aw ?_
 refine am rfl (ah IY (B5 b (its.set i (iJ k e (now + 1 : Nat))) _ i (by simp; omega) (by grind) (by rw [Qao]; exact xl hR.heap hi))) ?_
 rintro _ _ ⟨rfl, its', rfl, hp, hh⟩
 refine aw ?_
 refine a8 ?_
 refine ⟨_, ⟨rfl, its', rfl, ?_⟩, IO⟩
 have hlt := B8 (hR.someI hi hk)
 rw [je, Qac (by rw [y5]; omega)]
 exact hR.setI hi hk rfl (by simp [iJ]) hp (by rw [hp.length_eq]; exact hh)
 have hno : ∀ x ∈ its, x.key ≠ k := by
  rcases hf with ⟨_, h⟩ | ⟨i, h, _⟩
  exact h
  omega
 refine aw ?_
 refine bB [b3] 7 fun hS => ?_
 refine ae 0 6 hS ?_
 refine cg 6 (ah Cp (heapPush_spec b its (iJ k e (now + 1 : Nat)) _ (by omega) hR.heap)) ?_; clear hS
 rintro _ _ ⟨rfl, its1, rfl, hp, hh⟩
 have hR1 := hR.pushI hno (x := iJ k e (now + 1 : Nat)) rfl (by simp [iJ]) hp hh
 have hlen1 := hR1.length
 have hpl : its1.length = its.length + 1 := by rw [hp.length_eq]; simp
 refine ⟨aK, fun hS => ?_⟩
 refine aI ?_
 refine fH [(b, 1, d3 room (now + 1))] 9 mixed rfl (cB xW bL) (fun hS => ?_)
 refine ae 0 3 hS ?_
 refine ae 4 3 hS ?_
 refine av 7 hS (aG (iy (k := 0) (j := 0) rfl rfl)) ?_
 refine jt 3 rfl rfl (ah qx (oM b its1 _)) (cB xW bL) fun hS => ?_
 refine ae 8 1 hS ?_
 refine aI ?_
 refine ag (fun c10 => ?_) fun c10 => ?_
 refine am rfl (ah zd (heapPop_spec b its1 _ (by omega) (pZ (i := 0) (by omega)) hh)) ?_
 rintro _ _ ⟨y, its2, rfl, rfl, hp2, hh2, hmin⟩
 have hfin : Rep its2 (now + 1) (je room now k e L) := by
  rw [je, Qaf (by omega)]; exact hR1.popI hp2 hh2 hmin
 refine aw ?_
 refine a8 ?_
 exact ⟨_, ⟨rfl, _, rfl, hfin⟩, IO⟩
 have hfin : Rep its1 (now + 1) (je room now k e L) := by
  grind [je]
 refine a8 ?_
 exact ⟨_, ⟨rfl, _, rfl, hfin⟩, IO⟩
 skip
 refine di (dt p9) ?_; clear hS
 rintro _ _ ⟨b3, rfl, rfl⟩
 refine ⟨aK, fun hS => ?_⟩
 refine bJ 4 (ah IX (FQ b its _ now hn)) fun hS => ?_
 refine av 5 hS (fw sd p9 (aM p8 (aM aO fq)) (iP rfl p8 rfl rfl (Qaa rfl) SetRL.eq (cQ rfl aO rfl rfl (Qaa rfl) SetL.eq fp))) ?_
 refine cq 7 aC fun hS => ?_
 refine aI ?_
 refine am rfl (ah Cw (xZ b its _ k (by omega))) ?_
 rintro _ _ ⟨r, rfl, rfl, hf⟩
 refine aw ?_
 refine aA rfl (fun c5 => ?_) fun c5 => ?_
 obtain ⟨i, rfl, hi, hk⟩ : ∃ i : Nat, r = (i : Int) ∧ i < its.length ∧ (its.getD i default).key = k := by
  rcases hf with ⟨h, _⟩ | h
  omega
  exact h
 refine aw ?_
 refine xV (b := b) (pZ hi) fun g c sp h1 h2 h3 => ?_
 refine bB [b, b3] 9 fun hS => ?_
 refine ae 0 7 hS ?_
 refine av 7 hS (bA hi) ?_
 refine cq 8 (gK (jR its sp i hi) (kC its sp i (iJ k e (now + 1 : Nat)) hi)) fun hS => ?_
 refine aI ?_
 refine B4 (b := b) (its := its.set i (iJ k e (now + 1 : Nat))) rfl (by simp) h1 h2 (by simpa [cj fN] using h3) ?_
 refine aw ?_
 refine am rfl (ah IY (B5 b (its.set i (iJ k e (now + 1 : Nat))) _ i (by simp; omega) (by grind) (by rw [Qao]; exact xl hR.heap hi))) ?_
 rintro _ _ ⟨rfl, its', rfl, hp, hh⟩
 refine aw ?_
 refine a8 ?_
 refine ⟨_, ⟨rfl, its', rfl, ?_⟩, IO⟩
 have hlt := B8 (hR.someI hi hk)
 rw [je, Qac (by rw [y5]; omega)]
 exact hR.setI hi hk rfl (by simp [iJ]) hp (by rw [hp.length_eq]; exact hh)
 have hno : ∀ x ∈ its, x.key ≠ k := by
  rcases hf with ⟨_, h⟩ | ⟨i, h, _⟩
  exact h
  omega
 refine aw ?_
 refine bB [b3] 7 fun hS => ?_
 refine ae 0 6 hS ?_
 refine cg 6 (ah Cp (heapPush_spec b its (iJ k e (now + 1 : Nat)) _ (by omega) hR.heap)) ?_; clear hS
 rintro _ _ ⟨rfl, its1, rfl, hp, hh⟩
 have hR1 := hR.pushI hno (x := iJ k e (now + 1 : Nat)) rfl (by simp [iJ]) hp hh
 have hlen1 := hR1.length
 have hpl : its1.length = its.length + 1 := by rw [hp.length_eq]; simp
 refine ⟨aK, fun hS => ?_⟩
 refine aI ?_
 refine fH [(b, 1, d3 room (now + 1))] 9 mixed rfl (cB xW bL) (fun hS => ?_)
 refine ae 0 3 hS ?_
 refine ae 4 3 hS ?_
 refine av 7 hS (aG (iy (k := 0) (j := 0) rfl rfl)) ?_
 refine jt 3 rfl rfl (ah qx (oM b its1 _)) (cB xW bL) fun hS => ?_
 refine ae 8 1 hS ?_
 refine aI ?_
 refine ag (fun c10 => ?_) fun c10 => ?_
 refine am rfl (ah zd (heapPop_spec b its1 _ (by omega) (pZ (i := 0) (by omega)) hh)) ?_
 rintro _ _ ⟨y, its2, rfl, rfl, hp2, hh2, hmin⟩
 have hfin : Rep its2 (now + 1) (je room now k e L) := by
  rw [je, Qaf (by omega)]; exact hR1.popI hp2 hh2 hmin
 refine aw ?_
 refine a8 ?_
 exact ⟨_, ⟨rfl, _, rfl, hfin⟩, IO⟩
 have hfin : Rep its1 (now + 1) (je room now k e L) := by
  grind [je]
 refine a8 ?_
 exact ⟨_, ⟨rfl, _, rfl, hfin⟩, IO⟩
def vB (k : cF) (L : List It) : Value := match kZ k L with
 | none => .tuple #[.agg (m5 (0, 0, 0)).toArray, .bool false]
 | some y => .tuple #[.agg (m5 y.ent).toArray, .bool true]
theorem B9 (b : Nat) (its : List It) (room now : Nat) (L : List It) (k : cF) (hR : Rep its now L) (hL : L.length ≤ room) (hr : room ≤ 4) (hn : now < 1000000) : sP W0 343 [pQ b, .agg (fj k).toArray] (aJ b (its, d3 room now) :: R) (fun v B => v = vB k L ∧ ∃ its' now', now' ≤ now + 1 ∧ B = aJ b (its', d3 room now') :: R ∧ Rep its' now' (rG now k L)) := by
 have hlen := hR.length
 refine ab func343 ntmps343 ?_
 refine aS fun b1 => ?_
 refine bu fun b2 => ?_
 refine ac (ah we (tp b its _ _)) ?_
 refine am rfl (ah Cw (xZ b its _ k (by omega))) ?_
 rintro _ _ ⟨r, rfl, rfl, hf⟩
 refine aw ?_
 refine aA rfl (fun c4 => ?_) fun c4 => ?_
 have hno : ∀ x ∈ its, x.key ≠ k := by
  rcases hf with ⟨_, h⟩ | ⟨i, h, _⟩
  exact h
  omega
 refine aw ?_
 refine ax aC ?_
 refine bi (.cons (bD vZ p7 rfl rfl) (.cons (bz rfl) .nil)) ?_
 refine ⟨_, ⟨?_, its, now, by omega, rfl, ?_⟩, IO⟩
 simp [aU, vB, (hR.noneI hno).1]
 rw [rG, (hR.noneI hno).1]; exact hR
 obtain ⟨i, rfl, hi, hk⟩ : ∃ i : Nat, r = (i : Int) ∧ i < its.length ∧ (its.getD i default).key = k := by
  rcases hf with ⟨h, _⟩ | h
  omega
  exact h
 refine aw ?_
 refine xV (b := b) (pZ hi) fun g c sp h1 h2 h3 => ?_
 refine aw ?_
 refine a6 (bA hi) ?_
 refine a6 (cJ (bU (UZ its sp i hi) rfl)) ?_
 refine bu fun b3 => ?_
 refine ax aC ?_
 refine fH [(b, 0, [.slice (some ⟨g, 0, none⟩) its.length c])] 11 mixed rfl (cB (mi rfl) bL) (fun hS => ?_)
 refine ae 0 7 hS ?_
 refine jt 7 rfl rfl (ah IX (FP b _ _ now hn)) (cB (mi rfl) bL) fun hS => ?_
 refine av 8 hS (bA hi) ?_
 refine ae 9 1 hS ?_
 refine iU 10 rfl rfl (dx (by omega) (V0 its sp i _ hi)) (cB (mi rfl) bL) fun hS => ?_
 refine aI ?_
 refine B4 (b := b) (its := its.set i { its.getD i default with u := (now + 1 : Nat) }) rfl (by simp) h1 h2 (by simpa [cj fN] using h3) ?_
 refine aw ?_
 refine am rfl (ah IY (B5 b (its.set i { its.getD i default with u := (now + 1 : Nat) }) _ i (by simp; omega) (by grind) (by rw [Qao]; exact xl hR.heap hi))) ?_
 rintro _ _ ⟨rfl, its', rfl, hp, hh⟩
 refine aw ?_
 refine ax aC ?_
 refine bi (.cons (bD vZ p7 rfl rfl) (.cons (bz rfl) .nil)) ?_
 have hsm := hR.someI hi hk
 refine ⟨_, ⟨?_, its', now + 1, by omega, rfl, ?_⟩, IO⟩
 simp [aU, vB, hsm, It.ent]
 rw [rG, hsm]; subst hk
 exact hR.setI hi rfl rfl (by simp [iJ]) hp (by rw [hp.length_eq]; exact hh)
theorem Ba (b : Nat) (its : List It) (tr : Value) (now : Nat) (L : List It) (k : cF) (hR : Rep its now L) (hL : L.length ≤ 100) (tw : Value) : sP W0 275 [pQ b, .agg (fj k).toArray] (aJ b (its, [tr, tw, .bool true]) :: R) (fun v B => v = .bool (kZ k L).isSome ∧ ∃ its', B = aJ b (its', [tr, tw, .bool true]) :: R ∧ Rep its' now (ic k L)) := by
 have hlen := hR.length
 refine ab func275 ntmps275 ?_
 refine aS fun b1 => ?_
 refine ac (ah we (tp b its _ _)) ?_
 refine am rfl (ah Cw (xZ b its _ k (by omega))) ?_
 rintro _ _ ⟨r, rfl, rfl, hf⟩
 refine aw ?_
 refine aA rfl (fun c4 => ?_) fun c4 => ?_
 have hno : ∀ x ∈ its, x.key ≠ k := by
  rcases hf with ⟨_, h⟩ | ⟨i, h, _⟩
  exact h
  omega
 refine aw ?_
 refine a8 ?_
 refine ⟨_, ⟨?_, its, rfl, ?_⟩, IO⟩
 simp [aU, (hR.noneI hno).1]
 rw [(hR.noneI hno).2]; exact hR
 obtain ⟨i, rfl, hi, hk⟩ : ∃ i : Nat, r = (i : Int) ∧ i < its.length ∧ (its.getD i default).key = k := by
  rcases hf with ⟨h, _⟩ | h
  omega
  exact h
 refine aw ?_
 refine am rfl (ah call272 (heapRemove_spec b its _ i (by omega) hi hR.heap)) ?_
 rintro _ _ ⟨its', rfl, rfl, hp, hh⟩
 refine a6 (pu sd (fun _ h => by cases h) rfl) ?_
 refine bu fun b2 => ?_
 refine ax aC ?_
 refine a6 (cJ (bU (vs := [iQ (its.getD i default).kr, iQ (its.getD i default).kp]) rfl rfl)) ?_
 refine a6 (si Tryz.eqGuardType380 rfl rfl (pj z4 Tryz.stoodInHeld380 (ir rfl cP rfl rfl (j7 dN) (ir rfl cP rfl rfl (j7 dN) pi)))) ?_
 refine a8 ?_
 have hsm := hR.someI hi hk
 refine ⟨_, ⟨?_, its', rfl, hR.dropI hk hp hh⟩, IO⟩
 rw [hsm]; subst hk
 simp [aU, It.key]
def y8 (lo : Nat) (l : List It) (n : Nat) : Prop := ∀ c, c < n → 0 < c → lo ≤ (c - 1) / 2 → us l ((c - 1) / 2) ≤ us l c
def tB (lo : Nat) (l : List It) (i n : Nat) : Prop := ∀ c, c < n → 0 < c → (lo ≤ (c - 1) / 2 → c ≠ i → (c - 1) / 2 ≠ i → us l ((c - 1) / 2) ≤ us l c) ∧ ((c - 1) / 2 = i → lo < i → us l ((i - 1) / 2) ≤ us l c)
theorem Vs {lo : Nat} {l : List It} {i j n : Nat} (h : tB lo l i n) (hlo : lo ≤ i) (hn : n ≤ l.length) (hj : j < n) (hc : (j - 1) / 2 = i) (h0 : 0 < j) (hlt : us l j < us l i)
    (hmin : ∀ c, c < n → 0 < c → (c - 1) / 2 = i → us l j ≤ us l c) : tB lo (swapL l i j) j n ∧ us (swapL l i j) ((j - 1) / 2) ≤ us (swapL l i j) j := by
 have hij : i < j := by omega
 have sw := iX (l := l) (i := i) (j := j) (by omega) (by omega)
 refine ⟨fun c hcn hc0 => ⟨fun h3 h1 h2 => ?_, fun h1 h2 => ?_⟩, ?_⟩
 rw [sw, sw]
 by_cases e1 : c = i
 subst e1
 have := (h j hj h0).2 hc (by omega)
 rw [Qac (by omega), Qac (by omega), Qaf rfl]; exact this
 by_cases e2 : (c - 1) / 2 = i
 grind
 rw [Qac e2, Qac h2, Qac e1, Qac h1]; exact (h c hcn hc0).1 h3 e1 e2
 rw [hc, sw, sw, Qaf rfl, Qac (by omega), Qac (by omega)]
 rw [← h1]; exact (h c hcn hc0).1 (by omega) (by omega) (by omega)
 grind
theorem G1 {lo : Nat} {l : List It} {i n : Nat} (h : tB lo l i n) (hmin : ∀ c, c < n → 0 < c → (c - 1) / 2 = i → us l i ≤ us l c) (hp : lo < i → us l ((i - 1) / 2) ≤ us l i) : y8 lo l n := fun c hc h0 h3 => by
 by_cases e1 : (c - 1) / 2 = i
 grind
 by_cases e2 : c = i
 grind
 exact (h c hc h0).1 h3 e2 e1
theorem Vt {lo : Nat} {l : List It} {n : Nat} (h : y8 (lo + 1) l n) : tB lo l lo n := fun c hc h0 => ⟨fun h3 _ h2 => h c hc h0 (by omega), fun _ h => absurd h (Nat.lt_irrefl _)⟩
theorem Vu (b : Nat) (its : List It) (tl : List Value) (i0 n : Nat) (hn : n ≤ its.length) (hN : n < 1000) (hi : i0 ≤ n) (hH : tB i0 its i0 n) : sP W0 273 [kY b, iQ i0, iQ n] (aJ b (its, tl) :: R) (fun v B => ∃ l m, v = .bool m ∧ B = aJ b (l, tl) :: R ∧ l.Perm its ∧ y8 i0 l n) := by
 refine ab IH ntmps273 ?_
 refine cK (fun X : List It × Nat => X.1.Perm its ∧ i0 ≤ X.2 ∧ tB i0 X.1 X.2 n ∧ (i0 < X.2 → us X.1 ((X.2 - 1) / 2) ≤ us X.1 X.2) ∧ X.2 ≤ n) (fun X => [(0, kY b), (1, iQ i0), (2, iQ n), (7, iQ X.2)]) (fun X => aJ b (X.1, tl) :: R) (fun X => n - X.2) (its, i0) ?_ ?_
 grind
 intro ⟨l, i⟩ ⟨hp, hi0, hl, hg, hin⟩
 have hlen := hp.length_eq
 simp only at hp hi0 hl hg hin hlen ⊢
 refine aw ?_
 refine a6 zL ?_
 refine a6 (dG (2 * i + 1)) ?_
 refine cA (fun g3_4 => ?_) fun g3_4 => ?_
 refine a8 ?_
 refine ⟨_, ⟨l, decide (i0 < i), by simp [aU], rfl, hp, G1 hl ?_ hg⟩, IO⟩
 first | (intro c hc h0 h1; exfalso; omega) | (intro c hc h0 h1; have := hmin c hc h0 h1; simp at c8; omega)
 refine aA rfl (fun c3 => ?_) fun c3 => ?_
 omega
 refine au 8 ?_
 refine dO (fun j : Nat => (j - 1) / 2 = i ∧ 0 < j ∧ j < n ∧ ∀ c, c < n → 0 < c → (c - 1) / 2 = i → us l j ≤ us l c) (fun j => [(0, kY b), (1, iQ i0), (2, iQ n), (7, iQ i), (9, iQ j)]) (fun j => aJ b (l, tl) :: R) ?_ ?_
 refine au 3 ?_
 refine a6 (dG (2 * i + 2)) ?_
 refine cM (fun g6_4 => ?_) fun g6_4 => ?_
 refine ac (dV rfl ((fun w => vx w _)) zh rfl (vq b l tl (2 * i + 2) (2 * i + 1) (by omega) (by omega))) ?_
 refine ag (fun c6 => ?_) fun c6 => ?_
 refine cu (2 * i + 2) ?_
 refine ⟨by omega, by omega, by omega, fun c hc h0 h1 => ?_⟩
 have : c = 2 * i + 1 ∨ c = 2 * i + 2 := by omega
 rcases this with rfl | rfl <;> omega
 refine cu (2 * i + 1) ?_
 refine ⟨by omega, by omega, by omega, fun c hc h0 h1 => ?_⟩
 have : c = 2 * i + 1 ∨ c = 2 * i + 2 := by omega
 rcases this with rfl | rfl <;> omega
 refine cu (2 * i + 1) ?_
 refine ⟨by omega, by omega, by omega, fun c hc h0 h1 => ?_⟩
 have : c = 2 * i + 1 ∨ c = 2 * i + 2 := by omega
 rcases this with rfl | rfl <;> omega
 intro j ⟨hj, hj0, hjn, hmin⟩
 refine aw ?_
 refine ac (dV rfl ((fun w => vx w _)) zh rfl (vq b l tl j i (by omega) (by omega))) ?_
 refine aA rfl (fun c8 => ?_) fun c8 => ?_
 refine au 15 ?_
 refine a8 ?_
 refine ⟨_, ⟨l, decide (i0 < i), by simp [aU], rfl, hp, G1 hl ?_ hg⟩, IO⟩
 first | (intro c hc h0 h1; exfalso; omega) | (intro c hc h0 h1; have := hmin c hc h0 h1; simp at c8; omega)
 replace c8 : us l j < us l i := by simpa using c8
 refine aw ?_
 refine ac (dV rfl ((fun w => vy w _)) zi rfl (vu b l tl i j (by omega) (by omega))) ?_
 refine bE (swapL l i j, j) ?_ (hμ := ?_)
 have hs := Vs hl hi0 (by omega) hjn hj hj0 c8 hmin
 exact ⟨(iC (by omega) (by omega)).trans hp, by show i0 ≤ j; omega, hs.1, fun _ => hs.2, by show j ≤ n; omega⟩
 show n - j < n - i; omega
theorem Vv (b : Nat) (its : List It) (tl : List Value) (hN : its.length < 1000) : sP W0 425 [kY b] (aJ b (its, tl) :: R) (fun v B => ∃ l, v = .tuple #[] ∧ B = aJ b (l, tl) :: R ∧ l.Perm its ∧ Heap l l.length) := by
 refine ab func425 ntmps425 ?_
 refine ac (dV rfl ((fun w => vw w _)) qx rfl (oM b its tl)) ?_
 refine a6 (qB rfl rfl (by decide) ((Qah (IntKind.wrap .i64) (uH its.length 2)).trans (bN (by omega)))) ?_
 refine a6 eX ?_
 refine cK (fun X : List It × Nat => X.1.Perm its ∧ X.2 ≤ its.length / 2 ∧ y8 X.2 X.1 its.length) (fun X => [(0, kY b), (2, iQ (its.length : Nat)), (3, iQ ((X.2 : Int) - 1))]) (fun X => aJ b (X.1, tl) :: R) (fun X => X.2) (its, its.length / 2) ?_ ?_
 exact ⟨QaI _, Qap _, fun c hc h0 h1 => by dsimp only at h1; omega⟩
 intro ⟨l, k⟩ ⟨hp, hk, hh⟩
 dsimp only at hp hk hh ⊢
 have hlen := hp.length_eq
 refine aw ?_
 refine ag (fun c2 => ?_) fun c2 => ?_
 obtain ⟨i, rfl⟩ : ∃ i, k = i + 1 := ⟨k - 1, by omega⟩
 have hki : (((i + 1 : Nat) : Int) - 1) = (i : Int) := by omega
 rw [hki]
 refine am rfl (ah w9 (Vu b l tl i its.length (by omega) hN (by omega) (Vt hh))) ?_
 rintro _ _ ⟨l2, m, rfl, rfl, hp2, hh2⟩
 refine aw ?_
 refine a6 eX ?_
 refine bE (l2, i) ?_
 grind
 refine bM (.inr rfl) .nil ?_
 obtain rfl : k = 0 := by omega
 exact ⟨_, ⟨l, rfl, rfl, hp, fun c hc h0 => hh c (by omega) h0 (QaU _)⟩, IO⟩
structure PF (W0 : World) (f : FuncId) (cs : List Value) (C : HP) (p : It → Bool) : Prop where
  call : ∀ args w, (callFunc f args).run Tryz.prog w = .ok (.enter f args) w
  spec : ∀ x R, bc Tryz.prog W0 f ([] ++ [.agg (aV x).toArray] ++ cs) (kH 0 C :: R) (fun v B => v = .bool (p x) ∧ B = kH 0 C :: R)
theorem y9 {α : Type} {f : α → List Value} (h : ∀ x, ec (f x) = true) : ∀ l : List α, ec (l.flatMap f) = true
 | [] => rfl
 | x :: l => by
  have h1 := h x
  have h2 := y9 h l
  simp only [ec, QaW, List.all_append, Qar] at h1 h2 ⊢
  exact ⟨h1, h2⟩
theorem Vw (x : It) : ec (aV x) = true := rfl
theorem Vx (its : List It) (a : Option Addr) (c : Nat) (hN : its.length < 1000) (hs : bT (aB W0 R) a 6 aV its) : sP W0 424 [.slice a its.length c] R (fun v B => ∃ a' c', v = .slice a' its.length c' ∧ B = osl 446 6 (.slice a' its.length c') (its.flatMap aV) :: R) := by
 refine ab func424 ntmps424 ?_
 refine a6 (uz fl rfl rfl) ?_
 refine aA rfl (fun c1 => ?_) fun c1 => ?_
 refine au 7 ?_
 refine a8 ?_
 have h0 : its = [] := by
  rcases its with _ | ⟨x, l⟩
  rfl
  obtain ⟨b, o, h, _⟩ := hs 0 x rfl
  rw [c1] at h; cases h
 subst h0
 exact ⟨_, ⟨none, 0, rfl, rfl⟩, eH⟩
 have hsrc := hs.src fN (fun _ => trivial)
 refine jj (aD (aP (aZ (am rfl (qN fl da rfl) ?_))))
 rintro _ _ ⟨b1, rfl, rfl⟩
 refine aw ?_
 refine am rfl (xt (sz := 6) (by_ := 48) (info := Tryz.t446) fl (by kernel_rfl) rfl rfl rfl rfl (by decide) rfl rfl (news := its.flatMap aV) (by
 rcases hsrc with h | ⟨bs, os, h1, h2⟩
 grind
 right; exact ⟨bs, os, h1, h2.weak⟩) (cj fN its) (y9 Vw its) (by simp only [maxLen]; omega) (by omega)) ?_
 rintro _ _ ⟨a1, c1, rfl, rfl⟩
 refine aw ?_
 refine a8 ?_
 rw [Qab, Qat]
 exact ⟨_, ⟨a1, c1, rfl, rfl⟩, IO⟩
def Vy (its : List It) (p : It → Bool) (r : Int) : Prop := (r = -1 ∧ ∀ i, i < its.length → p (its.getD i default) = false) ∨ ∃ i : Nat, r = (i : Int) ∧ i < its.length ∧ p (its.getD i default) = true ∧ ∀ j, j < i → p (its.getD j default) = false
theorem Vz (its : List It) (a : Option Addr) (c : Nat) (f : FuncId) (cs : List Value) (C : HP) (p : It → Bool) (hp : PF W0 f cs C p) (hN : its.length < 1000) : sP W0 372 [.slice a its.length c, .func (.func f) #[] cs.toArray] (osl 446 6 (.slice a its.length c) (its.flatMap aV) :: kH 0 C :: R) (fun v B => ∃ r, v = iQ r ∧ B = osl 446 6 (.slice a its.length c) (its.flatMap aV) :: kH 0 C :: R ∧ Vy its p r) := by
 refine uv (fun h1 h2 => ?_) fun g n cap sp h1 h2 h3 h4 h5 => ?_
 have h0 : its.length = 0 := by grind
 obtain rfl : its = [] := QaB h0
 cases h1
 refine ab Cv ntmps372 ?_
 refine cK (fun X : Nat => True) (fun X => [(7, iQ 0), (8, iQ X)]) (fun X => kH 0 C :: R) (fun X => X) 0 ?_ ?_
 trivial
 intro j hj
 refine aw ?_
 refine aA rfl (fun c2 => ?_) fun c2 => ?_
 omega
 refine aw ?_
 refine a8 ?_
 exact ⟨_, ⟨-1, rfl, rfl, .inl ⟨rfl, by simp⟩⟩, eH⟩
 cases h1
 refine ab Cv ntmps372 ?_
 refine cK (fun X : Nat => X ≤ its.length ∧ ∀ i, i < X → p (its.getD i default) = false) (fun X => [(0, .slice (some ⟨g, 0, none⟩) its.length c), (1, .func (.func f) #[] cs.toArray), (7, iQ (its.length : Nat)), (8, iQ X)]) (fun X => pt g (a7 (its.flatMap aV ++ sp) 446) :: kH 0 C :: R) (fun X => its.length - X) 0 ?_ ?_
 grind
 intro j ⟨hj, hno⟩
 refine aw ?_
 refine ag (fun c2 => ?_) fun c2 => ?_
 refine a6 (bA (by omega)) ?_
 refine a6 (cJ (bU (ia its sp j (by omega)) rfl)) ?_
 refine ac (qJ (us := []) (cs := cs) rfl hp.call rfl (hp.spec (its.getD j default) _)) ?_
 refine ag (fun c4 => ?_) fun c4 => ?_
 refine a8 ?_
 exact ⟨_, ⟨_, rfl, rfl, .inr ⟨j, rfl, by omega, c4, hno⟩⟩, ez h2 h3 h4 h5⟩
 refine a6 bS ?_
 refine bE (j + 1) ?_
 grind
 refine a8 ?_
 exact ⟨_, ⟨-1, rfl, rfl, .inl ⟨rfl, fun i hi => hno i (by omega)⟩⟩, ez h2 h3 h4 h5⟩
def ie (p : It → Bool) (l : List It) : List It := l.filter (fun x => !p x)
theorem G2 {p : It → Bool} {l : List It} (h : ∀ i, i < l.length → p (l.getD i default) = false) : ie p l = l := Qbe.2 fun x hx => by
 obtain ⟨i, hi, rfl⟩ := Qbl.1 hx
 have := h i hi
 simpa [List.getD, hi] using this
theorem Bb {p : It → Bool} {l : List It} {j : Nat} (h : j < l.length) : ie p (l.take (j + 1)) = ie p (l.take j) ++ (if p (l.getD j default) then [] else [l.getD j default]) := by
 grind [Qan, ie]
structure DelI (p : It → Bool) (its l : List It) (i j : Nat) : Prop where
  len : l.length = its.length
  ij : i < j
  jl : j ≤ its.length
  front : l.take i = ie p (its.take j)
  back : ∀ k, j ≤ k → l.getD k default = its.getD k default
theorem VA {p : It → Bool} {l : List It} {i : Nat} (h : i < l.length) (hp : p (l.getD i default) = true) (hno : ∀ j, j < i → p (l.getD j default) = false) : ie p (l.take (i + 1)) = l.take i := by
 grind [Bb, Qav, G2]
theorem DelI.skip {p : It → Bool} {its l : List It} {i j : Nat} (h : DelI p its l i j) (hj : j < its.length) (hp : p (l.getD j default) = true) : DelI p its l i (j + 1) := by
 refine ⟨h.len, by have := h.ij; omega, by omega, ?_, fun k hk => h.back k (by omega)⟩
 rw [h.back j (Qap _)] at hp
 rw [Bb hj, hp, Qaf rfl, Qav]; exact h.front
theorem DelI.move {p : It → Bool} {its l : List It} {i j : Nat} (h : DelI p its l i j) (hj : j < its.length) (hp : p (l.getD j default) = false) : DelI p its (l.set i (l.getD j default)) (i + 1) (j + 1) := by
 have hij := h.ij
 have hl := h.len
 have hb := h.back j (Qap _)
 rw [hb] at hp ⊢
 refine ⟨by rw [Qao]; exact hl, by omega, by omega, ?_, fun k hk => ?_⟩
 rw [Bb hj, hp, Qac (by decide), ← h.front, Qan (by rw [Qao]; omega), List.getElem_set_self, List.take_set_of_le (Qap _)]
 rw [← h.back k (by omega)]
 simp only [Qau]
 rw [QaV (by omega)]
theorem VB (its : List It) (a : Option Addr) (c : Nat) (f : FuncId) (cs : List Value) (C : HP) (p : It → Bool) (hp : PF W0 f cs C p) (hN : its.length < 1000) : sP W0 423 [.slice a its.length c, .func (.func f) #[] cs.toArray] (osl 446 6 (.slice a its.length c) (its.flatMap aV) :: kH 0 C :: R) (fun v B => ∃ a' c', v = .slice a' (ie p its).length c' ∧ B = osl 446 6 (.slice a' (ie p its).length c') ((ie p its).flatMap aV) :: kH 0 C :: R) := by
 refine ab func423 ntmps423 ?_
 refine am rfl (cH call372 (Vz its a c f cs C p hp hN)) ?_
 rintro _ B_ ⟨r, rfl, hB_, hf⟩
 obtain rfl := hB_.symm
 refine aw ?_
 refine aA rfl (fun c2 => ?_) fun c2 => ?_
 refine au 8 ?_
 refine a8 ?_
 have hno : ∀ i, i < its.length → p (its.getD i default) = false := by
  rcases hf with ⟨_, h⟩ | ⟨i, h, _⟩
  exact h
  omega
 rw [G2 hno]
 exact ⟨_, ⟨a, c, rfl, rfl⟩, IO⟩
 obtain ⟨i, rfl, hi, hpi, hno⟩ : ∃ i : Nat, r = (i : Int) ∧ i < its.length ∧ p (its.getD i default) = true ∧ ∀ j, j < i → p (its.getD j default) = false := by
  rcases hf with ⟨h, _⟩ | h
  omega
  exact h
 refine fJ (r := osl 446 6) (b := .slice a its.length c) ?_
 refine kc (fun h1 _ => by have := (Value.slice.inj h1).2.1; omega) fun g n cap sp h1 h2 h3 h4 h5 => ?_
 cases h1
 refine aw ?_
 refine a6 (dG (i + 1)) ?_
 refine cK (fun X : List It × Nat × Nat => DelI p its X.1 X.2.1 X.2.2) (fun X => [(0, .slice (some ⟨g, 0, none⟩) its.length c), (1, .func (.func f) #[] cs.toArray), (5, iQ X.2.1), (6, iQ X.2.2)]) (fun X => pt g (a7 (X.1.flatMap aV ++ sp) 446) :: kH 0 C :: R) (fun X => its.length - X.2.2) (its, i, i + 1) ?_ ?_
 exact ⟨rfl, Nat.lt_succ_self _, by show i + 1 ≤ its.length; omega, (VA hi hpi hno).symm, fun _ _ => rfl⟩
 intro ⟨l, m, j⟩ hD
 dsimp only at hD ⊢
 have hl := hD.len
 have hmj := hD.ij
 have hjl := hD.jl
 refine aw ?_
 refine aA rfl (fun c5 => ?_) fun c5 => ?_
 refine au 2 ?_
 refine dO (fun Z : List It × Nat => DelI p its Z.1 Z.2 (j + 1)) (fun Z => [(0, .slice (some ⟨g, 0, none⟩) its.length c), (1, .func (.func f) #[] cs.toArray), (5, iQ Z.2), (6, iQ j)]) (fun Z => pt g (a7 (Z.1.flatMap aV ++ sp) 446) :: kH 0 C :: R) ?_ ?_
 refine au 5 ?_
 refine a6 (bA (by omega)) ?_
 refine a6 (cJ (bU (ia l sp j (by omega)) rfl)) ?_
 refine bu fun bx => ?_
 refine eW (fG da rfl rfl rfl rfl rfl) ?_
 rintro _ _ rfl
 refine aN (aD (aP (aZ (aa rfl (aL rfl) (aa rfl (mT jD da rfl rfl) ?_)))))
 refine am rfl (qJ (us := []) (cs := cs) rfl hp.call rfl (hp.spec (l.getD j default) _)) ?_
 rintro _ B_ ⟨rfl, hB_⟩
 obtain rfl := hB_.symm
 refine aa rfl (pn rfl) (aN (aD ?_))
 refine aA rfl (fun c8 => ?_) fun c8 => ?_
 have hpj : p (l.getD j default) = false := by simpa using c8
 refine aP (aZ (aa rfl (aL rfl) (aa rfl (aL rfl) (aa rfl (mT jD da rfl rfl) ?_))))
 refine aa rfl (gn fl da rfl rfl rfl (by omega) (by first | exact Qab _ | rfl)) ?_
 refine ax (gK (jR l sp m (by omega)) (kC l sp m (l.getD j default) (by omega))) ?_
 refine a6 (dG (m + 1)) ?_
 exact cu (l.set m (l.getD j default), m + 1) (hD.move (by omega) hpj)
 have hpj : p (l.getD j default) = true := by simpa using c8
 refine aw ?_
 exact cu (l, m) (hD.skip (by omega) hpj)
 intro ⟨l2, m2⟩ hD2
 refine aw ?_
 refine a6 (dG (j + 1)) ?_
 refine bE (l2, m2, j + 1) ?_ (hμ := ?_)
 exact hD2
 show its.length - (j + 1) < its.length - j; omega
 refine aw ?_
 obtain rfl : j = its.length := by omega
 have hfr := hD.front
 rw [QaO (Qap _)] at hfr
 have hk : (ie p its).length = m := by rw [← hfr, QaP]; omega
 refine a6 (t6 fl da rfl rfl rfl (by omega) (by omega) (Qab _)) ?_
 refine eW (Ax fl p9 (by simp [Value.cells, Value.oneCell']) rfl (by omega) (by rw [Qad, cj fN]; show m * 6 + (its.length - m) * 6 ≤ _; omega)) ?_
 rintro _ B_ ⟨vs, hvs, rfl, hB_⟩
 obtain rfl := hB_.symm
 replace hvs : vs.length = (its.length - m) * 6 := hvs
 have hset : cz (l.flatMap aV ++ sp) (m * 6) vs = (ie p its).flatMap aV ++ (vs ++ sp) := by
  rw [pr _ _ _ (by rw [Qad, cj fN]; omega), zJ fN l m sp (by omega), hfr, show m * 6 + vs.length = l.length * 6 by omega, ut fN l l.length sp (Qap _)]
  simp
 rw [hset]
 refine aw ?_
 refine a6 (lO fl da rfl rfl rfl (by omega)) ?_
 refine a8 ?_
 rw [hk]
 exact ⟨_, ⟨_, _, rfl, rfl⟩, ez (by omega) h3 (by rw [cj fN, hk]) (by rw [← h5]; simp only [Qad, cj fN, hk, hvs]; omega)⟩
def i64 (r : Int) : Prop := -9223372036854775808 ≤ r ∧ r < 9223372036854775808
theorem G3 (r : Int) : ((BitVec.ofInt 64 r).toNat : Int) = r % 18446744073709551616 := by
 rw [BitVec.toNat_ofInt]; omega
theorem G4 (n : Nat) : n &&& 2 = 2 * (n / 2 % 2) := by
 apply Nat.eq_of_testBit_eq
 intro i
 rw [Nat.testBit_and, show (2 : Nat) = 2 ^ 1 from rfl, Nat.testBit_two_pow, Nat.testBit_two_pow_mul]
 by_cases h : i = 1
 grind
 grind [Qcd, Qcy, Qct, Nat.testBit_lt_two_pow]
theorem VC {r : Int} (h : i64 r) : eU .i64 r 2 = 2 * (r / 2 % 2) := by
 have hn := G3 r
 show IntKind.wrap .i64 ((BitVec.ofInt 64 r &&& BitVec.ofInt 64 2).toNat : Int) = _
 rw [BitVec.toNat_and, show (BitVec.ofInt 64 2).toNat = 2 from rfl, G4, bN (by omega)]
 push_cast
 omega
theorem VD {r : Int} (h : i64 r) : nY .i64 r 2 = r - 2 * (r / 2 % 2) := by
 have hn := G3 r
 generalize hx : BitVec.ofInt 64 r = x at hn
 have e : (x &&& ~~~ BitVec.ofInt 64 2).toNat = x.toNat - (x.toNat &&& 2) := by
  have hz : (x &&& ~~~ BitVec.ofInt 64 2) &&& (x &&& BitVec.ofInt 64 2) = 0#64 := by
   ext i hi
   simp only [BitVec.getElem_and, BitVec.getElem_not, BitVec.getElem_zero]
   cases x[i] <;> cases (BitVec.ofInt 64 2)[i] <;> rfl
  have h1 : (x &&& ~~~ BitVec.ofInt 64 2) + (x &&& BitVec.ofInt 64 2) = x := by
   rw [BitVec.add_eq_or_of_and_eq_zero _ _ hz]
   ext i hi
   simp only [BitVec.getElem_or, BitVec.getElem_and, BitVec.getElem_not]
   cases x[i] <;> cases (BitVec.ofInt 64 2)[i] <;> rfl
  have h2 := Qah BitVec.toNat h1
  rw [BitVec.toNat_add_of_and_eq_zero hz, BitVec.toNat_and x (BitVec.ofInt 64 2), show (BitVec.ofInt 64 2).toNat = 2 from rfl] at h2
  omega
 show IntKind.wrap .i64 ((BitVec.ofInt 64 r &&& ~~~ BitVec.ofInt 64 2).toNat : Int) = _
 rw [hx, e, G4]
 have hlt := x.isLt
 obtain ⟨h1, h2⟩ := h
 simp only [IntKind.wrap, IntKind.bits, IntKind.signed]
 simp
 omega
def wB (r : Int) : Bool := decide (r / 2 % 2 = 1)
theorem ya {r : Int} (h : i64 r) : (eU .i64 r 2 ≠ 0) ↔ wB r = true := by rw [VC h, wB, Qag]; omega
theorem G5 {r : Int} (h : i64 r) : nY .i64 r 2 = if wB r then r - 2 else r := by
 grind [VD, wB]
def hit (page : Int) (x : It) : Bool := decide (x.ep = page) && wB x.er
def gZ (page : Int) (x : It) : It := if hit page x then { x with er := x.er - 2 } else x
theorem G6 (page : Int) (x : It) : (gZ page x).key = x.key := by unfold gZ; split <;> rfl
theorem vC (page : Int) (x : It) : (gZ page x).u = x.u := by unfold gZ; split <;> rfl
theorem VE {page : Int} {x : It} (h : i64 x.er) : i64 (gZ page x).er := by
 unfold gZ; split
 rename_i hh
 simp only [hit, wB, Qar, Qag] at hh
 obtain ⟨h1, h2⟩ := h
 refine ⟨?_, ?_⟩
 grind
 grind
 exact h
theorem VF (its : List It) (sp : List Value) (i : Nat) (r : Int) (hi : i < its.length) : (its.flatMap aV ++ sp).set (i * 6 + 4) (iQ r) = (its.set i { its.getD i default with er := r }).flatMap aV ++ sp :=
  mW fN its i 4 _ _ sp hi (by decide) (by simp [List.getD, hi, aV])
structure NarI (page : Int) (its l : List It) (i n : Nat) : Prop where
  len : l.length = its.length
  il : i ≤ its.length
  front : l.take i = (its.take i).map (gZ page)
  back : ∀ k, i ≤ k → l.getD k default = its.getD k default
  cnt : n = ((its.take i).filter (hit page)).length
theorem NarI.step {page : Int} {its l : List It} {i n : Nat} (h : NarI page its l i n) (hi : i < its.length) : NarI page its (l.set i (gZ page (l.getD i default))) (i + 1) (n + if hit page (l.getD i default) then 1 else 0) := by
 have hl := h.len
 have hb := h.back i (Qap _)
 have hg : its.getD i default = its[i] := by grind
 refine ⟨by rw [Qao]; exact hl, by omega, ?_, fun k hk => ?_, ?_⟩
 rw [Qan (by rw [Qao]; omega), List.getElem_set_self, List.take_set_of_le (Qap _), h.front, Qan hi, QaF, hb, hg]; rfl
 rw [← h.back k (by omega)]
 simp only [Qau]
 rw [QaV (by omega)]
 rw [Qan hi, QbH, Qad, ← h.cnt, hb, hg]
 cases hh : hit page its[i] <;> simp [hh]
theorem NarI.skip {page : Int} {its l : List It} {i n : Nat} (h : NarI page its l i n) (hi : i < its.length) (hh : hit page (l.getD i default) = false) : NarI page its l (i + 1) n := by
 have := h.step hi
 rw [gZ, hh, Qac (by decide), Qac (by decide), Qbx] at this
 have hs : l.set i (l.getD i default) = l := by
  have hl : i < l.length := by rw [h.len]; exact hi
  rw [show l.getD i default = l[i] by simp [List.getD, hl], QbE]
 rwa [hs] at this
theorem NarI.hits {page : Int} {its l : List It} {i n : Nat} (h : NarI page its l i n) (hi : i < its.length) (hh : hit page (l.getD i default) = true) : NarI page its (l.set i { l.getD i default with er := (l.getD i default).er - 2 }) (i + 1) (n + 1) := by
 have := h.step hi
 rw [gZ, hh, Qaf rfl, Qaf rfl] at this
 exact this
def VG (page : Int) (L : List It) : Nat := (L.filter (hit page)).length
theorem G7 {l : List It} {f : It → It} (hf : ∀ x, (f x).u = x.u) {i : Nat} (hi : i < l.length) : us (l.map f) i = us l i := by
 grind [us_eq]
theorem Rep.nar {its L : List It} {now : Nat} (h : Rep its now L) (page : Int) : Rep (its.map (gZ page)) now (L.map (gZ page)) := by
 refine ⟨h.perm.map _, fun c hc h0 => ?_, ?_, fun x hx => ?_, ?_⟩
 rw [Qax] at hc
 rw [G7 (vC page) (by omega), G7 (vC page) hc]
 exact h.heap c hc h0
 rw [List.pairwise_map]
 exact h.sort.imp fun {a b} hab => by rw [vC, vC]; exact hab
 obtain ⟨y, hy, rfl⟩ := Qbm.1 hx
 rw [vC]; exact h.le y hy
 rw [QbY, show It.key ∘ gZ page = It.key from funext fun x => G6 page x]
 exact h.keys
theorem VH (b : Nat) (its : List It) (rm nw : Value) (page : Int) (hN : its.length < 1000) (hr : ∀ x ∈ its, i64 x.er) : sQ W0 389 [pQ b, iQ page] (aJ b (its, [rm, nw, .bool true]) :: R) (iQ (VG page its : Nat)) (aJ b (its.map (gZ page), [rm, nw, .bool true]) :: R) := by
 refine ab func389 ntmps389 ?_
 refine ac (ah we (tp b its rm nw)) ?_
 refine xU (b := b) fun a0 c0 => ?_
 refine aw ?_
 refine fQ (fun X : List It × Nat × Nat => NarI page its X.1 X.2.1 X.2.2) (fun X => [(0, pQ b), (1, iQ page), (5, iQ X.2.2), (15, iQ (its.length : Nat)), (16, iQ X.2.1)]) (fun X => aJ b (X.1, [rm, nw, .bool true]) :: R) (fun X => its.length - X.2.1) (its, 0, 0) ?_ ?_ ?_ ?_
 exact ⟨rfl, QaU _, by simp, fun _ _ => rfl, by simp⟩
 · repeat (first | exact ci | refine bQ rfl ?_)
 exact oL rfl
 intro ⟨l, i, n⟩ hD
 dsimp only at hD ⊢
 have hl := hD.len
 have hil := hD.il
 have hcn : n ≤ its.length := by
  rw [hD.cnt]
  exact QaR (QaT _ _) (by grind)
 refine aw ?_
 refine aA rfl (fun c5 => ?_) fun c5 => ?_
 have hil1 : i < l.length := by omega
 have hei : i64 (l.getD i default).er := by
  rw [hD.back i (Qap _)]
  have hi2 : i < its.length := by omega
  have := hr _ (QaK hi2)
  rwa [show its.getD i default = its[i] by simp [List.getD, hi2]]
 refine xV (b := b) (pZ hil1) fun g c sp k1 k2 k3 => ?_
 refine au 2 ?_
 refine dO (fun Z : List It × Nat => NarI page its Z.1 (i + 1) Z.2) (fun Z => [(0, pQ b), (1, iQ page), (5, iQ Z.2), (15, iQ (its.length : Nat)), (16, iQ i)]) (fun Z => aJ b (Z.1, [rm, nw, .bool true]) :: R) ?_ ?_
 refine au 15 ?_
 refine a6 (bA hil1) ?_
 refine a6 (aG (aF ((vp l sp i 2 hil1 (by decide)).trans rfl))) ?_
 refine cM (fun g8_7 => ?_) fun g8_7 => ?_
 refine a6 (aG (aF ((vp l sp i 4 hil1 (by decide)).trans rfl))) ?_
 refine a6 (fm rfl rfl rfl) ?_
 refine ag (fun c8 => ?_) fun c8 => ?_
 refine a6 (aG (aF ((vp l sp i 4 hil1 (by decide)).trans rfl))) ?_
 refine a6 (wx rfl rfl (by rw [G5 hei, Qaf ((ya hei).1 (by omega))] : nY .i64 (l.getD i default).er 2 = (l.getD i default).er - 2)) ?_
 refine ax (dx (by have := jR l sp i hil1; omega) (VF l sp i ((l.getD i default).er - 2) hil1)) ?_
 refine a6 (dG (n + 1)) ?_
 refine cu (l.set i { l.getD i default with er := (l.getD i default).er - 2 }, n + 1) ?_ (he := ?_)
 have hw := (ya hei).1 (by omega)
 exact hD.hits (by omega) (by simp only [hit, Qar, Qag]; exact ⟨by omega, hw⟩)
 exact pY (b := b) rfl (by rw [Qao]) (by omega) k2 (by rw [← k3]; simp [cj fN])
 refine cu (l, n) ?_ (he := ?_)
 refine hD.skip (by omega) ?_
 first
   | (have hne : ¬ (l.getD i default).ep = page := by omega
      rw [hit, Qaq hne]; rfl)
   | (have hw : ¬ wB (l.getD i default).er = true := fun q => absurd ((ya hei).2 q) (by omega)
      have hw' : wB (l.getD i default).er = false := by simpa using hw
      rw [hit, hw', Bool.and_false])
 exact pY (b := b) rfl rfl (by omega) k2 k3
 refine cu (l, n) ?_ (he := ?_)
 refine hD.skip (by omega) ?_
 first
   | (have hne : ¬ (l.getD i default).ep = page := by omega
      rw [hit, Qaq hne]; rfl)
   | (have hw : ¬ wB (l.getD i default).er = true := fun q => absurd ((ya hei).2 q) (by omega)
      have hw' : wB (l.getD i default).er = false := by simpa using hw
      rw [hit, hw', Bool.and_false])
 exact pY (b := b) rfl rfl (by omega) k2 k3
 intro ⟨l2, n2⟩ hD2
 refine aw ?_
 refine a6 bS ?_
 refine bE (l2, i + 1, n2) ?_ (hμ := ?_)
 exact hD2
 show its.length - (i + 1) < its.length - i; omega
 refine aw ?_
 refine a8 ?_
 obtain rfl : i = its.length := by omega
 have hfr := hD.front
 have hct := hD.cnt
 rw [QaO (by omega), QaO (Qap _)] at hfr
 rw [QaO (Qap _)] at hct
 rw [hct, hfr]
 exact aj
theorem Rep.keep {its its' L : List It} {now : Nat} {p : It → Bool} (h : Rep its now L) (hp : its'.Perm (ie p its)) (hh : Heap its' its'.length) : Rep its' now (ie p L) :=
  ⟨hp.trans (h.perm.filter _), hh, h.sort.filter _, fun x hx => h.le x (QaL.1 hx).1, Qch (Qcw _ QbA) h.keys⟩
theorem VI (p : It → Bool) (l : List It) : (ie p l).length ≤ l.length := QaT _ _
theorem VJ (b : Nat) (its : List It) (tl : List Value) (f : FuncId) (cs : List Value) (C : HP) (p : It → Bool) (hp : PF W0 f cs C p) (hN : its.length < 1000) : sP W0 397 [pQ b, .func (.func f) #[] cs.toArray] (aJ b (its, tl) :: kH 0 C :: R) (fun v B => ∃ l, v = iQ (its.length - (ie p its).length : Nat) ∧ B = aJ b (l, tl) :: kH 0 C :: R ∧ l.Perm (ie p its) ∧ Heap l l.length) := by
 have hkl := VI p its
 refine ab func397 ntmps397 ?_
 refine ac (ah qx (oM b its tl)) ?_
 refine xU (b := b) fun a c => ?_
 refine ke (E := 446) (sz := 6) (a := a) (n := its.length) (c := c) aV its fN (by decide) rfl (fun hs => ?_)
 refine aw ?_
 refine am rfl (ao call424 (Vx its a c hN hs)) ?_
 rintro _ B_ ⟨a2, c2, rfl, hB_⟩
 obtain rfl := hB_.symm
 refine aw ?_
 refine am rfl (cH call423 (VB its a2 c2 f cs C p hp hN)) ?_
 rintro _ B_ ⟨a3, c3, rfl, hB_⟩
 obtain rfl := hB_.symm
 refine aw ?_
 refine ax dy ?_
 refine fF (B := aJ b (ie p its, tl) :: kH 0 C :: R) (oL rfl) ?_
 refine aw ?_
 refine am rfl (ah call425 (Vv b (ie p its) tl (by omega))) ?_
 rintro _ B_ ⟨l, rfl, hB_, hp2, hh⟩
 obtain rfl := hB_.symm
 have hll := hp2.length_eq
 refine aw ?_
 refine ac (ah qx (oM b l tl)) ?_
 refine a6 (lQ (its.length - (ie p its).length)) ?_
 refine a8 ?_
 exact ⟨_, ⟨l, rfl, rfl, hp2, hh⟩, IO⟩
theorem VK (W0 : World) : PF W0 398 [] (bH []) (fun _ => true) := ⟨call398, fun x R => by
 refine ab func398 ntmps398 ?_
 refine aS fun b1 => ?_
 exact a8 aj
 ⟩
theorem yd (l : List It) : ie (fun _ => true) l = [] := by simp [ie]
theorem VL (b : Nat) (its : List It) (rm nw : Value) (now : Nat) (L : List It) (hR : Rep its now L) (hN : its.length < 1000) : sP W0 367 [pQ b] (aJ b (its, [rm, nw, .bool true]) :: R) (fun v B => v = iQ (L.length : Nat) ∧ ∃ its', B = aJ b (its', [rm, nw, .bool true]) :: R ∧ Rep its' now []) := by
 have hlen := hR.length
 refine ab func367 ntmps367 ?_
 refine ac (ah we (tp b its rm nw)) ?_
 refine fF (B := aJ b (its, [rm, nw, .bool true]) :: kH 0 (bH []) :: R) inferInstance ?_
 refine aw ?_
 refine am rfl (cH call397 (VJ b its _ 398 [] _ _ (VK W0) hN)) ?_
 rintro _ B_ ⟨l, rfl, hB_, hp, hh⟩
 obtain rfl := hB_.symm
 rw [yd] at hp
 rw [yd, hlen]
 refine aw ?_
 refine a8 ?_
 have hk := hR.keep (p := fun _ => true) (by grind [yd]) hh
 rw [yd] at hk
 exact ⟨_, ⟨rfl, l, rfl, hk⟩, IO⟩
structure Ln where
  k : cF
  e : ib
  rt : Int
  lf : Int
instance : Inhabited Ln := ⟨⟨(0, 0), (0, 0, 0), 0, 0⟩⟩
@[reducible] def bY (x : Ln) : List Value := [.int .i64 x.k.1, .int .i64 x.k.2, .int .i64 x.e.1, .int .i64 x.e.2.1, .int .i64 x.e.2.2, .int .i64 x.rt, .int .i64 x.lf]
theorem l5 (x : Ln) : (bY x).length = 7 := rfl
theorem G8 (x : Ln) : ec (bY x) = true := rfl
def Ln.thr (x : Ln) (p : Int) : Bool := decide (x.rt = p) || decide (x.lf = p)
theorem rH {x : Ln} {p : Int} : x.thr p = true ↔ x.rt = p ∨ x.lf = p := by simp [Ln.thr]
def eS (L : List Ln) (p : Int) : Bool := L.any fun x => x.thr p
theorem rI {L : List Ln} {p : Int} : eS L p = true ↔ ∃ x ∈ L, x.thr p = true := by simp [eS]
def fk (r : Int) : Int := if wB r then r - 2 else r
theorem yf (r : Int) : wB (fk r) = false := by
 grind [fk, wB]
def Ln.nar (x : Ln) : Ln := { x with e := (x.e.1, x.e.2.1, fk x.e.2.2) }
theorem G9 {x : Ln} (h : wB x.e.2.2 = false) : x.nar = x := by
 obtain ⟨k, ⟨e1, e2, e3⟩, r, l⟩ := x
 simp only [Ln.nar, fk] at h ⊢
 rw [h]; rfl
def jT (L : List Ln) (r l : Int) : List Int := (if r = l then [r] else [min r l, max r l]).filter fun p => !eS L p
theorem Ga {L : List Ln} {r l p : Int} : p ∈ jT L r l ↔ (p = r ∨ p = l) ∧ eS L p = false := by
 grind [jT]
def d4 (r l : Int) (x : Ln) : Ln := if x.e.1 = r ∨ x.e.1 = l then x.nar else x
def tC (L : List Ln) : List Ln := match L.getLast? with
 | none => []
 | some y => L.dropLast ++ [if eS L y.e.1 then y.nar else y]
def vD (k : cF) (e : ib) (r l : Int) (L : List Ln) : List Ln := L.filter (fun x => decide (x.k ≠ k)) ++ [⟨k, e, r, l⟩]
def vE (L : List Ln) : List Ln := if 32 < L.length then L.tail else L
def jU (k : cF) (e : ib) (r l : Int) (L : List Ln) : List Ln := tC ((vE (vD k e r l L)).map (d4 r l))
def j0 (k : cF) (L : List Ln) : Option Ln := L.find? fun x => decide (x.k = k)
theorem Gb (L : List Ln) (y : Ln) : tC (L ++ [y]) = L ++ [if eS (L ++ [y]) y.e.1 then y.nar else y] := by
 grind [tC]
theorem VM (x : Ln) (p : Int) : x.nar.thr p = x.thr p := rfl
theorem Gc (r l : Int) (x : Ln) (p : Int) : (d4 r l x).thr p = x.thr p := by unfold d4; split <;> rfl
theorem Gd (r l : Int) (x : Ln) : (d4 r l x).k = x.k := by unfold d4; split <;> rfl
theorem Ge (r l : Int) (x : Ln) : (d4 r l x).e.1 = x.e.1 := by unfold d4; split <;> rfl
theorem Gf {f : Ln → Ln} (h : ∀ x p, (f x).thr p = x.thr p) (L : List Ln) (p : Int) : eS (L.map f) p = eS L p := by
 grind [eS]
theorem Gg (A B : List Ln) (p : Int) : eS (A ++ B) p = (eS A p || eS B p) := by simp [eS]
def ig (k : cF) (L : List Ln) : List Ln := if 31 < (L.filter fun x => decide (x.k ≠ k)).length then (L.filter fun x => decide (x.k ≠ k)).tail else L.filter fun x => decide (x.k ≠ k)
theorem Gh (k : cF) (L : List Ln) : (ig k L).Sublist (L.filter fun x => decide (x.k ≠ k)) := by
 grind [ig]
theorem Bc {k : cF} {L : List Ln} {x : Ln} (h : x ∈ ig k L) : x ∈ L ∧ x.k ≠ k := by
 grind [Gh]
theorem Gi {k : cF} {L : List Ln} (h : L.length ≤ 32) : (ig k L).length ≤ 31 := by
 grind [QaT, ig]
def jf (k : cF) (e : ib) (r l : Int) (L : List Ln) : Ln :=
  if eS (ig k L) e.1 || (⟨k, e, r, l⟩ : Ln).thr e.1 then (⟨k, e, r, l⟩ : Ln).nar else ⟨k, e, r, l⟩
theorem VN (x : Ln) : x.nar.nar = x.nar := G9 (yf _)
theorem Be (k : cF) (e : ib) (r l : Int) (L : List Ln) (h : L.length ≤ 32) : jU k e r l L = (ig k L).map (d4 r l) ++ [jf k e r l L] := by
 have hc : vE (vD k e r l L) = ig k L ++ [⟨k, e, r, l⟩] := by
  grind [vE, vD, ig]
 unfold jU
 rw [hc, QaF, Qci, Gb]
 congr 1
 rw [← Qci (f := d4 r l), ← QaF, Gf (Gc r l), Gg, Ge]
 have ht : eS [(⟨k, e, r, l⟩ : Ln)] e.1 = (⟨k, e, r, l⟩ : Ln).thr e.1 := by simp [eS]
 rw [ht]
 unfold jf
 by_cases q : e.1 = r ∨ e.1 = l
 have h1 : d4 r l ⟨k, e, r, l⟩ = (⟨k, e, r, l⟩ : Ln).nar := Qaf q
 have h2 : (⟨k, e, r, l⟩ : Ln).thr e.1 = true := by
  grind [rH]
 rw [h1, h2, QcB, Qaf rfl, Qaf rfl, VN]
 grind [d4]
theorem yg (k : cF) (e : ib) (r l : Int) (L : List Ln) : (jf k e r l L).k = k := by unfold jf; split <;> rfl
theorem Bf (k : cF) (e : ib) (r l : Int) (L : List Ln) : jf k e r l L = ⟨k, e, r, l⟩ ∨ jf k e r l L = (⟨k, e, r, l⟩ : Ln).nar := by unfold jf; split <;> simp
structure TI (L : List Ln) (TL : List It) : Prop where
  keys : (L.map Ln.k).Nodup
  len : L.length ≤ 32
  nowr : ∀ x ∈ L, wB x.e.2.2 = true → eS L x.e.1 = false
  sub : ∀ y ∈ TL, ∃ x ∈ L, x.k = y.key ∧ x.e = y.ent
theorem TI.nil : TI [] [] := ⟨List.nodup_nil, QaU _, fun x hx => by simp at hx, fun y hy => by simp at hy⟩
theorem tD {k : cF} {L : List Ln} {x : Ln} (h : j0 k L = some x) : x ∈ L ∧ x.k = k := ⟨QbV h, by simpa using List.find?_some h⟩
theorem Gj {L : List Ln} (h : (L.map Ln.k).Nodup) {x y : Ln} (hx : x ∈ L) (hy : y ∈ L) (e : x.k = y.k) : x = y := by
 induction L with
 | nil => simp at hx
 | cons a L ih =>
  simp only [QaG, QbW] at h
  rcases QaZ.1 hx with rfl | hx1
  grind
  grind
theorem rJ {L : List Ln} (h : (L.map Ln.k).Nodup) {x : Ln} (hx : x ∈ L) : j0 x.k L = some x := by
 cases hf : j0 x.k L with
 | none =>
  have := QbS.1 hf x hx
  simp at this
 | some z =>
  obtain ⟨h1, h2⟩ := tD hf
  rw [Gj h h1 hx h2]
theorem TI.drop {L : List Ln} {TL TL' : List It} (h : TI L TL) (f : Ln → Bool) (hs : ∀ y ∈ TL', y ∈ TL ∧ ∀ x ∈ L, f x = true → y.key ≠ x.k) : TI (L.filter fun x => !f x) TL' := by
 refine ⟨Qch (Qcw _ QbA) h.keys, QaR (QaT _ _) h.len, fun x hx hw => ?_, fun y hy => ?_⟩
 have hx := (QaL.1 hx).1
 have := h.nowr x hx hw
 rw [← Qaz, rI] at this ⊢
 rintro ⟨z, hz, hz2⟩
 exact this ⟨z, (QaL.1 hz).1, hz2⟩
 obtain ⟨h1, h2⟩ := hs y hy
 obtain ⟨x, hx, e1, e2⟩ := h.sub y h1
 refine ⟨x, QaL.2 ⟨hx, ?_⟩, e1, e2⟩
 cases hf : f x with
 | false => rfl
 | true => exact absurd e1.symm (h2 x hx hf)
theorem Bg {k : cF} {x y : It} {L : List It} : y ∈ jy k x L ↔ (y ∈ L ∧ y.key ≠ k) ∨ y = x := by simp [jy, q9]
theorem TI.getT {L : List Ln} {TL : List It} (h : TI L TL) (now : Nat) (k : cF) : TI L (rG now k TL) := by
 refine ⟨h.keys, h.len, h.nowr, fun y hy => ?_⟩
 unfold rG at hy
 cases hf : kZ k TL with
 | none => rw [hf] at hy; exact h.sub y hy
 | some z =>
  rw [hf] at hy
  obtain ⟨h1, h2⟩ := tx hf
  rcases Bg.1 hy with ⟨q, _⟩ | rfl
  exact h.sub y q
  obtain ⟨x, hx, e1, e2⟩ := h.sub z h1
  exact ⟨x, hx, by rw [e1, h2]; rfl, by rw [e2]; rfl⟩
theorem Gk {room now : Nat} {k : cF} {e : ib} {L : List It} {y : It} (h : y ∈ je room now k e L) : (y ∈ L ∧ y.key ≠ k) ∨ y = iJ k e (now + 1 : Nat) := by
 unfold je at h
 split at h
 exact Bg.1 (List.mem_of_mem_tail h)
 exact Bg.1 h
theorem TI.putT {L : List Ln} {TL : List It} (h : TI L TL) (room now : Nat) {x : Ln} (hx : x ∈ L) : TI L (je room now x.k x.e TL) := by
 refine ⟨h.keys, h.len, h.nowr, fun y hy => ?_⟩
 rcases Gk hy with ⟨q, _⟩ | rfl
 exact h.sub y q
 exact ⟨x, hx, rfl, rfl⟩
def gj (l : List Int) (TL : List It) : List It := l.foldl (fun A p => A.map (gZ p)) TL
theorem VO (p : Int) (y : It) : (gZ p y).ent = if y.ep = p then (y.ent.1, y.ent.2.1, fk y.ent.2.2) else y.ent := by
 unfold gZ hit fk
 by_cases q : y.ep = p
 rw [Qak q, Qbr, Qaf q]
 show _ = (y.ep, y.ef, if wB y.er = true then y.er - 2 else y.er)
 cases hw : wB y.er <;> rfl
 grind
theorem VP {l : List Int} : ∀ {TL : List It} {y : It}, y ∈ gj l TL → ∃ z ∈ TL, y.key = z.key ∧ y.ent = if z.ep ∈ l then (z.ent.1, z.ent.2.1, fk z.ent.2.2) else z.ent := by
 induction l with
 | nil => intro TL y h; exact ⟨y, h, rfl, by simp⟩
 | cons p l ih =>
  intro TL y h
  obtain ⟨z, hz, h1, h2⟩ := ih (TL := TL.map (gZ p)) h
  obtain ⟨w, hw, rfl⟩ := Qbm.1 hz
  refine ⟨w, hw, by rw [h1, G6], ?_⟩
  have hep : (gZ p w).ep = w.ep := by grind [gZ]
  rw [h2, hep, VO]
  by_cases q1 : w.ep = p
  grind [QaZ.2, yf, fk]
  grind
theorem TI.fill {L : List Ln} {TL : List It} (h : TI L TL) (k : cF) (e : ib) (r l : Int) (room now : Nat) :
    TI (jU k e r l L) ((je room now k (jf k e r l L).e (gj (jT L r l) TL)).filter fun y => (j0 y.key (jU k e r l L)).isSome) := by
 have hE := Be k e r l L h.len
 have hold : ∀ x ∈ ig k L, x ∈ L ∧ x.k ≠ k := fun x hx => Bc hx
 have hTo : ∀ p, eS (jU k e r l L) p = (eS (ig k L) p || (⟨k, e, r, l⟩ : Ln).thr p) := fun p => by
  rw [hE, Gg, Gf (Gc r l)]
  congr 1
  rcases Bf k e r l L with q | q <;> rw [q] <;> simp [eS, VM]
 have hkeys : ((jU k e r l L).map Ln.k).Nodup := by
  rw [hE, QaF, QbY, show Ln.k ∘ d4 r l = Ln.k from funext fun x => Gd r l x, Qci, yg]
  refine Qbo.2 ⟨Qch (Qcw _ ((Gh k L).trans QbA)) h.keys, by simp, fun a ha b hb => ?_⟩
  obtain rfl : b = k := by grind
  obtain ⟨x, hx, rfl⟩ := Qbm.1 ha
  exact (hold x hx).2
 have hnew : jf k e r l L ∈ jU k e r l L := by rw [hE]; simp
 refine ⟨hkeys, ?_, fun x hx hw => ?_, fun y hy => ?_⟩
 rw [hE, Qad, Qax, Qcm]
 have := Gi (k := k) h.len; omega
 rw [hTo]
 rw [hE] at hx
 rcases Qbc.1 hx with hx | hx
 obtain ⟨z, hz, rfl⟩ := Qbm.1 hx
 obtain ⟨hzL, _⟩ := hold z hz
 rw [Ge]
 by_cases q : z.e.1 = r ∨ z.e.1 = l
 rw [d4, Qaf q] at hw
 rw [show z.nar.e.2.2 = fk z.e.2.2 from rfl, yf] at hw; cases hw
 rw [d4, Qac q] at hw
 have h1 := h.nowr z hzL hw
 rw [Bool.or_eq_false_iff]
 refine ⟨?_, ?_⟩
 grind [rI]
 rw [← Qaz, rH]
 rintro (e1 | e1)
 grind
 grind
 grind [jf, Ln.nar, fk, yf]
 obtain ⟨hy1, hy2⟩ := QaL.1 hy
 rcases Gk hy1 with ⟨q, hne⟩ | rfl
 obtain ⟨z, hz, k1, k2⟩ := VP q
 obtain ⟨x, hx, e1, e2⟩ := h.sub z hz
 cases hg : j0 y.key (jU k e r l L) with
 | none => rw [hg] at hy2; cases hy2
 | some x' =>
  obtain ⟨m1, m2⟩ := tD hg
  refine ⟨x', m1, m2, ?_⟩
  rw [hE] at m1
  rcases Qbc.1 m1 with m1 | m1
  obtain ⟨u, hu, rfl⟩ := Qbm.1 m1
  obtain ⟨huL, _⟩ := hold u hu
  rw [Gd] at m2
  have hux : u = x := Gj h.keys huL hx (by grind)
  subst hux
  have hzp : z.ep = u.e.1 := by rw [e2]; rfl
  rw [k2, hzp]
  by_cases q1 : u.e.1 = r ∨ u.e.1 = l
  rw [d4, Qaf q1]
  by_cases q2 : u.e.1 ∈ jT L r l
  rw [Qaf q2, ← e2]; rfl
  rw [Qac q2]
  have ht : eS L u.e.1 = true := by
   rw [← Bool.not_eq_false]; intro q3
   exact q2 (Ga.2 ⟨q1, q3⟩)
  have hw : wB u.e.2.2 = false := by
   rw [← Qaz]; intro q3
   rw [h.nowr u huL q3] at ht; cases ht
  rw [G9 hw, e2]
  rw [d4, Qac q1, Qac (fun q2 => q1 (Ga.1 q2).1), e2]
  grind [jf, yg]
 exact ⟨_, hnew, yg k e r l L, rfl⟩
def bG (b : Nat) (L : List Ln) : HP := chk (fun C => ∃ a c, C = [pt b (a7 [.slice a L.length c, .bool true] 442), osl 389 7 (.slice a L.length c) (L.flatMap bY)])
section
variable {P : Program} {W0 : World} {R A : List HP} {b : Nat} {L : List Ln} {f : FuncId} {args : List Value} {Post : Value → List HP → Prop}
theorem oN {a : Option Addr} {c n : Nat} {R1 R2 B : List HP} [h1 : Tk pt b A (a7 [.slice a n c, .bool true] 442) R1] [h2 : Tk (osl 389 7) (.slice a n c) R1 (L.flatMap bY) R2] (hn : n = L.length) [k : Ent R2 B] : Ent A (bG b L :: B) := by
 subst hn
 exact (Ent.ofPerm (h1.perm.trans (h2.perm.cons _))).trans ((Ent.cons (Ent.cons k)).trans (en (R := B) (C := [_, _]) ⟨a, c, rfl⟩))
theorem vF {N : FSz} {K : Act → World → Prop} {e : aH} [hk : Tk bG b A L R] (h : ∀ a c, ai W0 N K e (pt b (a7 [.slice a L.length c, .bool true] 442) :: osl 389 7 (.slice a L.length c) (L.flatMap bY) :: R)) : ai W0 N K e A :=
  fJ (r := bG) (b := b) (lP fun C hC => by obtain ⟨a, c, rfl⟩ := hC; exact h a c)
theorem VR {N : FSz} {K : Act → World → Prop} {e : aH} [hk : Tk bG b A L R] (h0 : L ≠ []) (h : ∀ g c sp, L.length ≤ c → c ≤ maxLen → (L.flatMap bY ++ sp).length = c * 7 → ai W0 N K e (pt b (a7 [.slice (some ⟨g, 0, none⟩) L.length c, .bool true] 442) :: pt g (a7 (L.flatMap bY ++ sp) 389) :: R)) : ai W0 N K e A :=
  vF (b := b) fun a c => mg (List.Perm.swap _ _ _) (kc (fun h1 h2 => by
      have := cj l5 L
      rw [h2] at this
      exact absurd (QaB (by grind)) h0)
    (fun g n cap sp h1 h2 h3 h4 h5 => by
      cases h1
      exact mg (List.Perm.swap _ _ _) (h g _ sp h2 h3 h5)))
theorem Gl {g c n : Nat} {xs sp : List Value} {R1 R2 B : List HP} [h1 : Tk pt b A (a7 [.slice (some ⟨g, 0, none⟩) n c, .bool true] 442) R1] [h2 : Tk pt g R1 (a7 (xs ++ sp) 389) R2] (hx : xs = L.flatMap bY) (hn : n = L.length) (hc : n ≤ c) (hm : c ≤ maxLen) (hl : (xs ++ sp).length = c * 7) [k : Ent R2 B] : Ent A (bG b L :: B) := by
 subst hn
 subst hx
 have e : Ent R1 (osl 389 7 (.slice (some ⟨g, 0, none⟩) L.length c) (L.flatMap bY) :: B) := ez hc hm (cj l5 L) hl
 exact (Ent.ofPerm h1.perm).trans ((Ent.cons e).trans (en (R := B) (C := [_, _]) ⟨_, c, rfl⟩))
theorem VS [hk : Tk bG b A L R] : iu (aB W0 A) b 1 (.bool true) := fun w (hO : Own W0 w A) => by
 obtain ⟨C, ⟨a, c, rfl⟩, hO'⟩ := (hO.tk (r := bG) (b := b)).chk
 have h2 : iu (aB W0 (pt b (a7 [.slice a L.length c, .bool true] 442) :: (osl 389 7 (.slice a L.length c) (L.flatMap bY) :: R))) b 1 (.bool true) := aF rfl
 exact h2 w hO'
end
theorem vG (b : Nat) (L : List Ln) : sQ W0 276 [pQ b] (bG b L :: R) (.bool false) (bG b L :: R) := by
 refine ab func276 ntmps276 ?_
 refine cR rfl rfl rfl (fun g1_3 => ?_) fun g1_3 => ?_
 cases g1_3
 refine aw ?_
 refine a6 (aG VS) ?_
 exact a8 aj
def rK (p : Int) : Bool := decide (0 ≤ p ∧ p < 8)
theorem Gm (p : Int) : sQ W0 405 [iQ p] R (.bool (rK p)) R := by
 refine ab func405 ntmps405 ?_
 refine cM (fun g1_3 => ?_) fun g1_3 => ?_
 refine a8 ?_
 refine aE ?_
 refine Qah Value.bool ?_
 rw [Qae, rK, Qag]
 first
   | (rw [Qag]; constructor <;> (intro q; omega))
   | (constructor
      · intro q; first | omega | (cases q)
      intro q; omega)
 refine a8 ?_
 refine aE ?_
 refine Qah Value.bool ?_
 rw [Qae, rK, Qag]
 first
   | (rw [Qag]; constructor <;> (intro q; omega))
   | (constructor
      · intro q; first | omega | (cases q)
      intro q; omega)
theorem Bh (g o : Nat) (x : Ln) (hc : aT (aB W0 R) g o (bY x)) (p : Int) : sQ W0 279 [.pointer (some ⟨g, o, none⟩), iQ p] R (.bool (x.thr p)) R := by
 refine ab func279 ntmps279 ?_
 refine a6 (aG (aT.weak hc 5 _ rfl)) ?_
 refine cA (fun g1_7 => ?_) fun g1_7 => ?_
 refine a8 ?_
 refine aE ?_
 refine Qah Value.bool ?_
 rw [Qae, rH]
 first
   | (simp; omega)
   | (simp only [Qby, true_iff]; omega)
   | simp_all
 refine a6 (aG (aT.weak hc 6 _ rfl)) ?_
 refine a8 ?_
 refine aE ?_
 refine Qah Value.bool ?_
 rw [Qae, rH]
 first
   | (simp; omega)
   | (simp only [Qby, true_iff]; omega)
   | simp_all
theorem Bi (g o : Nat) (vs : List Value) (r : Int) (hr : i64 r) (hv : vs[o + 4]? = some (iQ r)) : sQ W0 433 [.pointer (some ⟨g, o, none⟩)] (pt g (a7 vs 389) :: R) (.tuple #[]) (pt g (a7 (vs.set (o + 4) (iQ (fk r))) 389) :: R) := by
 refine ab func433 ntmps433 ?_
 refine a6 (aG (aF hv)) ?_
 refine a6 (wx rfl rfl (G5 hr : nY .i64 r 2 = fk r)) ?_
 refine ax (dx (by grind) (rfl : vs.set (o + 4) (iQ (if wB r then r - 2 else r)) = vs.set (o + 4) (iQ (fk r)))) ?_
 refine bM (.inr rfl) .nil ?_
 rw [show fk r = if wB r then r - 2 else r from rfl]
 exact aj
theorem VT (b : Nat) (L : List Ln) (hl : L.length ≤ 1000) (p : Int) : sQ W0 432 [pQ b, iQ p] (bG b L :: R) (.bool (eS L p)) (bG b L :: R) := by
 refine ab func432 ntmps432 ?_
 refine ac (ah wh (vG b L)) ?_
 refine vF (b := b) fun a c => ?_
 refine aw ?_
 refine cK (fun i : Nat => i ≤ L.length ∧ ∀ j (hj : j < L.length), j < i → L[j].thr p = false) (fun i => [(0, pQ b), (1, iQ p), (12, iQ (L.length : Nat)), (13, iQ i)]) (fun _ => pt b (a7 [.slice a L.length c, .bool true] 442) :: osl 389 7 (.slice a L.length c) (L.flatMap bY) :: R) (fun i => L.length - i) 0 ?_ ?_
 grind
 intro i ⟨hi, hI⟩
 refine aw ?_
 refine aA rfl (fun c4 => ?_) fun c4 => ?_
 refine au 11 ?_
 have hi1 : i < L.length := by omega
 refine ke (E := 389) (sz := 7) (a := a) (c := c) (n := L.length) bY L l5 (by decide) rfl (fun hs => ?_)
 obtain ⟨g, o, hga, hc⟩ := hs.at_ hi1
 obtain ⟨x, hx⟩ : ∃ x, L[i] = x := ⟨_, rfl⟩
 have hyes : x.thr p = true → eS L p = true := fun q => rI.2 ⟨x, by rw [← hx]; exact QaK hi1, q⟩
 have hno : x.thr p = false → ∀ j (hj : j < L.length), j < i + 1 → L[j].thr p = false := fun q j hj hji => by
  rcases QaD j i with q2 | q2
  grind
  grind
 rw [hx] at hc
 refine aw ?_
 refine a6 (dH kG nW rfl hga rfl rfl hi1 (by first | exact Qab _ | rfl)) ?_
 refine ac (ao IZ (Bh g (o + i * 7) x hc p)) ?_
 refine ag (fun c6 => ?_) fun c6 => ?_
 refine a8 ?_
 rw [hyes c6]
 exact ⟨_, ⟨rfl, rfl⟩, oN (b := b) rfl⟩
 refine a6 bS ?_
 refine bE (i + 1) ?_
 grind
 refine aw ?_
 refine a8 ?_
 have ht : eS L p = false := by
  rw [← Qaz, rI]
  rintro ⟨x, hx, q⟩
  obtain ⟨j, hj, rfl⟩ := Qbn hx
  rw [hI j hj (by omega)] at q; cases q
 rw [ht]
 exact ⟨_, ⟨rfl, rfl⟩, oN (b := b) rfl⟩
theorem rL {S : World → Prop} {b off : Nat} {us ws vs : List Value} (h : aT S b off vs) (e : vs = us ++ ws) : aT S b off us := fun i v hi => h i v (by grind)
structure PLn (W0 : World) (fn : FuncId) (cs : List Value) (C : HP) (p : Ln → Bool) : Prop where
  call : ∀ args w, (callFunc fn args).run Tryz.prog w = .ok (.enter fn args) w
  spec : ∀ x b R, bc Tryz.prog W0 fn ([] ++ [.pointer (some ⟨b, 0, none⟩)] ++ cs) (pt b (a7 (bY x) 389) :: kH 0 C :: R) (fun v B => v = .bool (p x) ∧ B = pt b (a7 (bY x) 389) :: kH 0 C :: R)
theorem VU (W0 : World) (bk : Nat) (k : cF) : PLn W0 407 [pQ bk] (bH [pt bk (a7 (fj k) 380)]) (fun x => decide (x.k = k)) := ⟨call407, fun x b R => by
 refine mX (uw (r1 := kH) (b1 := 0)) (nh ?_)
 simp only [Qaw, Qat]
 refine ab func407 ntmps407 ?_
 refine bB [b, bk] 8 fun hS => ?_
 refine ae 0 4 hS ?_
 refine av 4 hS (cJ (rL (us := fj x.k) (ws := [iQ x.e.1, iQ x.e.2.1, iQ x.e.2.2, iQ x.rt, iQ x.lf]) (gr (k := 0) rfl) rfl)) ?_
 refine ae 5 1 hS ?_
 refine av 6 hS (si Tryz.eqGuardType380 rfl rfl (pj z4 Tryz.stoodInHeld380 (ir rfl cP rfl rfl (j7 dN) (ir rfl cP rfl rfl (j7 dN) pi)))) ?_
 refine ae 7 1 hS ?_
 refine aI ?_
 refine a8 ?_
 refine aE ?_
 refine Qah Value.bool ?_
 rw [Qae]; simp [Prod.ext_iff]
 ⟩
theorem VV (W0 : World) (bp : Nat) (page : Int) : PLn W0 332 [pQ bp] (bH [pt bp (a7 [iQ page] 3)]) (fun x => x.thr page) := ⟨call332, fun x b R => by
 refine mX (uw (r1 := kH) (b1 := 0)) (nh ?_)
 simp only [Qaw, Qat]
 refine ab func332 ntmps332 ?_
 refine ac (ao IZ (Bh b 0 x eA page)) ?_
 exact a8 aj
 ⟩
theorem VW (W0 : World) : PLn W0 399 [] (bH []) (fun _ => true) := ⟨call399, fun x b R => by
 refine ab func399 ntmps399 ?_
 exact a8 aj
 ⟩
theorem Gn {α : Type} {p : α → Bool} {l : List α} {i : Nat} {x : α} (hi : i < l.length) (hx : l[i] = x) (h : p x = true) : (l.take (i + 1)).filter p = (l.take i).filter p ++ [x] := by
 grind [Qan]
theorem Gp {α : Type} {p : α → Bool} {l : List α} {i : Nat} {x : α} (hi : i < l.length) (hx : l[i] = x) (h : ¬ p x = true) : (l.take (i + 1)).filter p = (l.take i).filter p := by
 grind [Qan]
theorem Gq {α : Type} {p : α → Bool} {l : List α} {i : Nat} : ((l.take i).filter p).length ≤ i :=
  QaR (QaT _ _) (by grind)
@[reducible] def tE (x : Ln) : List Value := fj x.k
theorem Bj (b : Nat) (L : List Ln) (hl : L.length ≤ 1000) (fn : FuncId) (cs : List Value) (C : HP) (p : Ln → Bool) (hp : PLn W0 fn cs C p) : sP W0 277 [pQ b, .func (.func fn) #[] cs.toArray] (bG b L :: kH 0 C :: R) (fun v B => ∃ a c, v = .slice a (L.filter p).length c ∧ B = osl 380 2 (.slice a (L.filter p).length c) ((L.filter p).flatMap tE) :: bG b (L.filter fun x => !p x) :: kH 0 C :: R) := by
 obtain ⟨n, hn⟩ : ∃ n : Ln → Bool, (fun x => !p x) = n := ⟨_, rfl⟩
 have hnx : ∀ x, n x = !p x := fun x => by rw [← hn]
 rw [hn]
 refine ab func277 ntmps277 ?_
 refine vF (b := b) fun a c => ?_
 refine aw ?_
 refine fQ (fun X : Nat × (Option Addr × Nat) × Option Addr × Nat => X.1 ≤ L.length) (fun X => [(0, pQ b), (1, .func (.func fn) #[] cs.toArray), (5, .slice X.2.1.1 ((L.take X.1).filter p).length X.2.1.2), (6, .slice X.2.2.1 ((L.take X.1).filter n).length X.2.2.2), (13, iQ (L.length : Nat)), (14, iQ X.1)]) (fun X => osl 380 2 (.slice X.2.1.1 ((L.take X.1).filter p).length X.2.1.2) (((L.take X.1).filter p).flatMap tE) :: osl 389 7 (.slice X.2.2.1 ((L.take X.1).filter n).length X.2.2.2) (((L.take X.1).filter n).flatMap bY) :: pt b (a7 [.slice a L.length c, .bool true] 442) :: osl 389 7 (.slice a L.length c) (L.flatMap bY) :: kH 0 C :: R) (fun X => L.length - X.1) (0, (none, 0), none, 0) ?_ ?_ ?_ ?_
 omega
 · repeat (first | exact ci | refine bQ rfl ?_)
 show Ent _ (osl 380 2 (.slice none 0 0) [] :: osl 389 7 (.slice none 0 0) [] :: pt b (a7 [.slice a L.length c, .bool true] 442) :: osl 389 7 (.slice a L.length c) (L.flatMap bY) :: kH 0 C :: R)
 exact eH (k := eH)
 intro ⟨i, ⟨a1, c1⟩, a2, c2⟩ hi
 dsimp only at hi ⊢
 have hlp := Gq (p := p) (l := L) (i := i)
 have hln := Gq (p := n) (l := L) (i := i)
 refine aw ?_
 refine aA rfl (fun c4 => ?_) fun c4 => ?_
 refine au 2 ?_
 refine dO (fun X : (Option Addr × Nat) × Option Addr × Nat => True) (fun X => [(0, pQ b), (1, .func (.func fn) #[] cs.toArray), (5, .slice X.1.1 ((L.take (i + 1)).filter p).length X.1.2), (6, .slice X.2.1 ((L.take (i + 1)).filter n).length X.2.2), (13, iQ (L.length : Nat)), (14, iQ i)]) (fun X => osl 380 2 (.slice X.1.1 ((L.take (i + 1)).filter p).length X.1.2) (((L.take (i + 1)).filter p).flatMap tE) :: osl 389 7 (.slice X.2.1 ((L.take (i + 1)).filter n).length X.2.2) (((L.take (i + 1)).filter n).flatMap bY) :: pt b (a7 [.slice a L.length c, .bool true] 442) :: osl 389 7 (.slice a L.length c) (L.flatMap bY) :: kH 0 C :: R) ?_ ?_
 refine au 8 ?_
 have hi1 : i < L.length := by omega
 refine ke (E := 389) (sz := 7) (a := a) (c := c) (n := L.length) bY L l5 (by decide) rfl (fun hs => ?_)
 obtain ⟨g, o, hga, hc⟩ := hs.at_ hi1
 obtain ⟨x, hx⟩ : ∃ x, L[i] = x := ⟨_, rfl⟩
 rw [hx] at hc
 refine aw ?_
 refine a6 (dH kG nW rfl hga rfl rfl hi1 (by first | exact Qab _ | rfl)) ?_
 refine a6 (cJ hc.weak) ?_
 refine bu fun bx => ?_
 refine ax aC ?_
 refine ac (JV (us := []) (cs := cs) rfl hp.call rfl (hp.spec x bx _)) ?_
 refine ag (fun c7 => ?_) fun c7 => ?_
 have e1 := Gn (p := p) hi1 hx c7
 have e2 := Gp (p := n) hi1 hx (by grind)
 refine a6 (qD C0 oZ rfl TakeL.eq rfl) ?_
 refine d7 (iz Cb oZ a10 rfl (eJ rfl rfl gG) rfl (by decide) (by decide) (by decide)) fun bb => ?_
 rw [show ([fj x.k] : List (List Value)).flatten = fj x.k from Qav _]
 refine am rfl (eI (sz := 2) (by_ := 16) (info := Tryz.t380) Cb (by kernel_rfl) rfl rfl rfl rfl (by decide) rfl rfl eA rfl rfl (by simp only [maxLen]; omega) (by omega)) ?_
 rintro _ _ ⟨a3, c3, rfl, rfl⟩
 refine aw ?_
 refine eE ((a3, c3), a2, c2) ?_ ?_ ?_
 trivial
 · rw [e1, e2, Qad]
   repeat (first | exact ci | refine bQ rfl ?_)
 dsimp only
 rw [e1, e2, Qad, Qcm, Qbz, List.flatMap_singleton]
 exact IO
 have e1 := Gp (p := p) hi1 hx c7
 have e2 := Gn (p := n) hi1 hx (by grind)
 refine d7 (iz kG nW z7 rfl (eJ rfl rfl gG) rfl (by decide) (by decide) (by decide)) fun bb => ?_
 rw [show ([bY x] : List (List Value)).flatten = bY x from Qav _]
 refine am rfl (eI (sz := 7) (by_ := 56) (info := Tryz.t389) kG (by kernel_rfl) rfl rfl rfl rfl (by decide) rfl rfl eA rfl (by grind [G8]) (by simp only [maxLen]; omega) (by omega)) ?_
 rintro _ _ ⟨a3, c3, rfl, rfl⟩
 refine aw ?_
 refine eE ((a1, c1), a3, c3) ?_ ?_ ?_
 trivial
 · rw [e1, e2, Qad]
   repeat (first | exact ci | refine bQ rfl ?_)
 dsimp only
 rw [e1, e2, Qad, Qcm, Qbz, List.flatMap_singleton]
 exact IO
 intro ⟨⟨a4, c4⟩, a5, c5⟩ _
 refine aw ?_
 refine a6 bS ?_
 exact bE (i + 1, (a4, c4), a5, c5) (by omega)
 refine aw ?_
 refine ax dy ?_
 refine a8 ?_
 obtain rfl : i = L.length := by omega
 rw [QbR]
 exact ⟨_, ⟨a1, c1, rfl, rfl⟩, Ent.trans (B := osl 380 2 (.slice a1 (L.filter p).length c1) ((L.filter p).flatMap tE) :: pt b (a7 [.slice a2 (L.filter n).length c2, .bool true] 442) :: osl 389 7 (.slice a2 (L.filter n).length c2) ((L.filter n).flatMap bY) :: kH 0 C :: R) inferInstance (Ent.cons (oN (b := b) rfl))⟩
theorem VX (a : Option Addr) (n c : Nat) : sP W0 435 [.slice a n c] R (fun v B => ∃ bs, v = .func (.func 444) #[] #[pQ bs] ∧ B = pt bs (a7 [.slice a n c] 435) :: R) := by
 refine ab func435 ntmps435 ?_
 refine d7 (iw rfl rfl) fun b1 => ?_
 refine a8 ?_
 exact ⟨_, ⟨b1, rfl, rfl⟩, IO⟩
theorem VY (W0 : World) (bs L c : Nat) (a : Option Addr) (its : List It) (hN : its.length < 1000) (C : Nat → List HP) (hr : ∀ i R, i < its.length → nf Tryz.prog W0 L [.agg (aV (its.getD i default)).toArray] (C i ++ R) (fun v B => v = .bool true ∧ B = C (i + 1) ++ R)) : sQ W0 444 [.func (.yield L) #[] #[], pQ bs] (pt bs (a7 [.slice a its.length c] 435) :: osl 446 6 (.slice a its.length c) (its.flatMap aV) :: C 0) (.tuple #[]) (pt bs (a7 [.slice a its.length c] 435) :: osl 446 6 (.slice a its.length c) (its.flatMap aV) :: C its.length) := by
 refine ab func444 ntmps444 ?_
 refine cK (fun i : Nat => i ≤ its.length) (fun i => [(0, .func (.yield L) #[] #[]), (5, .slice a its.length c), (6, iQ (its.length : Nat)), (7, iQ i)]) (fun i => pt bs (a7 [.slice a its.length c] 435) :: osl 446 6 (.slice a its.length c) (its.flatMap aV) :: C i) (fun i => its.length - i) 0 ?_ ?_
 omega
 intro i hi
 refine aw ?_
 refine ag (fun c1 => ?_) fun c1 => ?_
 have hi1 : i < its.length := by omega
 refine ke (E := 446) (sz := 6) (a := a) (n := its.length) (c := c) aV its fN (by decide) rfl (fun hs => ?_)
 obtain ⟨g, o, rfl, hc⟩ := hs.at_ hi1
 have hgi : its.getD i default = its[i] := by grind
 refine aw ?_
 refine a6 (bA hi1) ?_
 refine a6 (cJ hc) ?_
 refine bu fun bx => ?_
 refine eW (fG da rfl rfl rfl rfl rfl) ?_
 rintro _ _ rfl
 refine aN (aD (aP (aZ (aa rfl (aL rfl) (aa rfl (mT jD da rfl rfl) ?_)))))
 refine zO rfl rfl rfl (zS (QaS (l₁ := [_, _, _])) (hgi ▸ hr i [_, _, _] hi1)) ?_
 rintro _ B_ ⟨rfl, hB_⟩
 obtain rfl := hB_.symm
 refine mg QaS ?_
 simp only [Qaw, Qat]
 refine aw ?_
 refine ag (fun c3 => ?_) fun c3 => ?_
 exact absurd rfl c3
 refine a6 bS ?_
 exact bE (i + 1) (by omega)
 refine bM (.inr rfl) .nil ?_
 obtain rfl : i = its.length := by omega
 exact aj
theorem VZ {W0 : World} {A : List HP} {e : aH} {n' L D bs c : Nat} {a : Option Addr} {ps : Array Tmp} {asg body : Code} {Go Stop : List HP → Prop} (its : List It) (hN : its.length < 1000) (C : Nat → List HP)
    (hp : A.Perm (pt bs (a7 [.slice a its.length c] 435) :: osl 446 6 (.slice a its.length c) (its.flatMap aV) :: C 0))
    (hgo : Go (pt bs (a7 [.slice a its.length c] 435) :: osl 446 6 (.slice a its.length c) (its.flatMap aV) :: C its.length))
    (hr : ∀ i R, i < its.length → nf Tryz.prog W0 L [.agg (aV (its.getD i default)).toArray] (cW L ⟨e, n', ps, asg, body, .ready, none, D⟩ :: pt D (.deferred (some [])) :: (C i ++ R))
      (fun v B => v = .bool true ∧ B = cW L ⟨e, n', ps, asg, body, .ready, none, D⟩ :: pt D (.deferred (some [])) :: (C (i + 1) ++ R))) :
    bc Tryz.prog W0 444 (.func (.yield L) #[] #[] :: [pQ bs]) (cW L ⟨e, n', ps, asg, body, .ready, none, D⟩ :: pt D (.deferred (some [])) :: A)
      (fun _ B => (∃ C, B = cW L ⟨e, n', ps, asg, body, .ready, none, D⟩ :: pt D (.deferred (some [])) :: C ∧ Go C) ∨ (∃ C, B = cW L ⟨e, n', ps, asg, body, .done, some .ret, D⟩ :: pt D (.deferred (some [])) :: C ∧ Stop C)) := by
 have sw : ∀ (x y p q : HP) (Z : List HP), (x :: y :: p :: q :: Z).Perm (p :: q :: x :: y :: Z) := fun x y p q Z =>
  (((List.Perm.swap _ _ _).trans ((List.Perm.swap _ _ _).cons _)).cons _).trans ((List.Perm.swap _ _ _).trans ((List.Perm.swap _ _ _).cons _))
 refine mX (((hp.cons _).cons _).trans (sw _ _ _ _ _)) (gH (VY W0 bs L c a its hN (fun i => cW L ⟨e, n', ps, asg, body, .ready, none, D⟩ :: pt D (.deferred (some [])) :: C i) (fun i R hi => hr i R hi)) ?_)
 rintro v B ⟨_, rfl⟩
 exact ⟨_, .inl ⟨_, rfl, hgo⟩, Ent.ofPerm (sw _ _ _ _ _)⟩
def rM (b : Nat) (l : List It) : HP := chk (fun C => ∃ a c, C = [pt b (a7 [.slice a l.length c] 435), osl 446 6 (.slice a l.length c) (l.flatMap aV)])
section
variable {W0 : World} {N : FSz} {K : Act → World → Prop} {e : aH} {A R R1 R2 : List HP} {b n c : Nat} {l : List It} {a : Option Addr} {ys : List Value}
theorem Gr [hk : Tk rM b A l R] (h : ∀ a c, ai W0 N K e (pt b (a7 [.slice a l.length c] 435) :: osl 446 6 (.slice a l.length c) (l.flatMap aV) :: R)) : ai W0 N K e A :=
  fJ (r := rM) (b := b) (lP fun C hC => by obtain ⟨a, c, rfl⟩ := hC; exact h a c)
theorem W2 (l : List It) [h1 : Tk pt b A (a7 [.slice a n c] 435) R1] [h2 : Tk (osl 446 6) (.slice a n c) R1 ys R] (hn : n = l.length) (hy : ys = l.flatMap aV) (k : ai W0 N K e (rM b l :: R)) : ai W0 N K e A := by
 subst hn; subst hy
 exact fF ((Ent.ofPerm (h1.perm.trans (h2.perm.cons _))).trans (en (R := R) (C := [_, _]) ⟨a, c, rfl⟩)) k
theorem W3 [h1 : Tk pt b A (a7 [.slice none 0 0] 435) R] (k : ai W0 N K e (rM b [] :: R)) : ai W0 N K e A :=
  fF ((Ent.ofPerm h1.perm).trans ((Ent.cons (eH (E := 446) (sz := 6) (B := R))).trans (en (R := R) (C := [pt b (a7 [.slice none 0 0] 435), osl 446 6 (.slice none 0 0) []]) ⟨none, 0, rfl⟩))) k
end
theorem W4 (bs c : Nat) (a : Option Addr) (its : List It) (hN : its.length < 900) : sP W0 448 [.slice none 0 0, .func (.func 444) #[] #[pQ bs]] (pt bs (a7 [.slice a its.length c] 435) :: osl 446 6 (.slice a its.length c) (its.flatMap aV) :: R) (fun v B => ∃ a' c', v = .slice a' its.length c' ∧ B = osl 446 6 (.slice a' its.length c') (its.flatMap aV) :: osl 446 6 (.slice a its.length c) (its.flatMap aV) :: R) := by
 refine ab func448 ntmps448 ?_
 refine dX (iw rfl rfl) fun b1 => ?_
 refine au 5 ?_
 refine W3 (b := b1) ?_
 refine au 5 ?_
 refine zP (fun C => C = pt bs (a7 [.slice a its.length c] 435) :: osl 446 6 (.slice a its.length c) (its.flatMap aV) :: rM b1 its :: R) (fun C => False) rfl call444 ?_ ?_ ?_
 intro L D
 refine VZ its (by omega) (fun i => rM b1 (its.take i) :: R) (by rw [List.take_zero]; exact pB (r1 := pt) (b1 := bs) (r2 := osl 446 6) (b2 := .slice a its.length c) (r3 := rM) (b3 := b1)) (by grind) ?_
 intro i R' hi
 simp only [Qaw, Qat]
 have htk : its.take (i + 1) = its.take i ++ [its.getD i default] := by simp_all
 have htl : (its.take i).length = i := by grind
 refine wN rfl rfl ?_
 refine aZ (am rfl (dt p9) ?_)
 rintro _ _ ⟨bd, rfl, rfl⟩
 refine iT 1 aC ?_
 refine wL rfl ?_
 refine au 1 ?_
 refine Gr (b := b1) fun a2 c2 => ?_
 refine aZ (aa rfl (bW I6 rfl (aF rfl)) ?_)
 refine aa rfl (mT jD da rfl rfl) ?_
 refine am rfl (iz fl da p9 rfl (eJ rfl rfl gG) rfl (by decide) (by decide) (by decide)) ?_
 rintro _ _ ⟨b3, rfl, rfl⟩
 refine am rfl (eI (sz := 6) (by_ := 48) (info := Tryz.t446) fl (by kernel_rfl) rfl rfl rfl rfl (by decide) rfl rfl eA rfl rfl (by simp only [maxLen]; omega) (by omega)) ?_
 rintro _ _ ⟨a1, c1, rfl, rfl⟩
 refine iT 2 dy ?_
 refine W2 (b := b1) (its.take (i + 1)) (by grind) (by grind) ?_
 refine wM ?_
 exact aj
 intro D C hC
 subst hC
 refine au 3 ?_
 refine Gr (b := b1) fun a2 c2 => ?_
 refine aZ (aa rfl (bW I6 rfl (aF rfl)) ?_)
 refine aa rfl (bC rfl) (aN (aD (dT (sq (.inl rfl) (.cons (bz rfl) .nil) ?_))))
 exact ⟨_, ⟨a2, c2, rfl, rfl⟩, IO⟩
 grind
theorem W5 (bs c : Nat) (a : Option Addr) (its : List It) (hN : its.length < 900) : sP W0 442 [.func (.func 444) #[] #[pQ bs]] (pt bs (a7 [.slice a its.length c] 435) :: osl 446 6 (.slice a its.length c) (its.flatMap aV) :: R) (fun v B => ∃ a' c', v = .slice a' its.length c' ∧ B = osl 446 6 (.slice a' its.length c') (its.flatMap aV) :: osl 446 6 (.slice a its.length c) (its.flatMap aV) :: R) := by
 refine ab func442 ntmps442 ?_
 refine am rfl (cH call448 (W4 bs c a its hN)) ?_
 rintro _ B_ ⟨a2, c2, rfl, hB_⟩
 obtain rfl := hB_.symm
 refine aw ?_
 refine a8 ?_
 exact ⟨_, ⟨a2, c2, rfl, rfl⟩, IO⟩
theorem Gs (x : Int) : sQ W0 445 [iQ x] R (.bool false) R := by
 refine ab func445 ntmps445 ?_
 refine a8 ?_
 refine aE ?_
 simp [aU]
def m6 (x y : Int) : Int := if x < y then -1 else if x > y then 1 else 0
theorem W6 (x y : Int) : sQ W0 437 [iQ x, iQ y] R (iQ (m6 x y)) R := by
 refine ab func437 ntmps437 ?_
 refine ac (ao call445 (Gs x)) ?_
 refine ac (ao call445 (Gs y)) ?_
 refine ag (fun c9 => ?_) fun c9 => ?_
 refine a8 ?_
 refine aE ?_
 rw [m6, Qaf c9] <;> rfl
 refine ag (fun c11 => ?_) fun c11 => ?_
 refine a8 ?_
 refine aE ?_
 rw [m6, Qac c9, Qaf (by omega)] <;> rfl
 refine a8 ?_
 refine aE ?_
 rw [m6, Qac c9, Qac (by omega)] <;> rfl
theorem Gt (x y : It) : sQ W0 436 [.agg (aV x).toArray, .agg (aV y).toArray] R (iQ (m6 x.u y.u)) R := by
 refine ab func436 ntmps436 ?_
 refine aS fun b1 => ?_
 refine dX (i3 rfl) fun b2 => ?_
 refine aa rfl (bC rfl) (aN (aD (aP (aZ ?_))))
 refine aa rfl (cG rfl sd rfl aO rfl (by first | exact Qab _ | rfl)) ?_
 refine aa rfl (bW cP rfl (aF rfl)) ?_
 refine aa rfl (cG rfl sd rfl aO rfl (by first | exact Qab _ | rfl)) ?_
 refine aa rfl (bW cP rfl (aF rfl)) ?_
 refine am rfl (fZ call437 rfl (W6 x.u y.u)) ?_
 rintro _ B_ ⟨rfl, hB_⟩
 obtain rfl := hB_.symm
 refine aa rfl (bC rfl) (aN (aD (dT ?_)))
 exact a8 aj
def yh (l : List It) (j i : Nat) : Prop := ∀ p q, p < q → q ≤ i → q ≠ j → us l p ≤ us l q
theorem yi {l : List It} {j i : Nat} (h : yh l j i) (hj : 0 < j) (hji : j ≤ i) (hi : i < l.length) (hlt : us l j < us l (j - 1)) : yh (swapL l j (j - 1)) (j - 1) i := by
 have sw := iX (l := l) (i := j) (j := j - 1) (by omega) (by omega)
 intro p q hpq hq hne
 rw [sw, sw]
 have hjj : ¬ j - 1 = j := by omega
 by_cases e1 : q = j
 subst e1
 rw [Qaf (rfl : q = q)]
 by_cases e2 : p = q - 1
 omega
 rw [Qac (by omega), Qac e2]; exact h p (q - 1) (by omega) (by omega) (by omega)
 rw [Qac e1, Qac hne]
 by_cases e2 : p = j
 rw [Qaf e2]; exact h (j - 1) q (by omega) hq e1
 rw [Qac e2]
 by_cases e3 : p = j - 1
 rw [Qaf e3]; exact h j q (by omega) hq e1
 rw [Qac e3]; exact h p q hpq hq e1
theorem Bl {l : List It} {j i : Nat} (h : yh l j i) (hd : j = 0 ∨ us l (j - 1) ≤ us l j) : ∀ p q, p < q → q ≤ i → us l p ≤ us l q := fun p q hpq hq => by
 by_cases e : q = j
 subst e
 rcases hd with h0 | h1
 omega
 by_cases e2 : p = q - 1
 grind
 have := h p (q - 1) (by omega) (by omega) (by omega); omega
 exact h p q hpq hq e
theorem W7 (g c : Nat) (its : List It) (sp : List Value) (hN : its.length < 900) (h0 : 0 < its.length) : sP W0 452 [.slice (some ⟨g, 0, none⟩) its.length c, .int .i64 0, .int .i64 (its.length : Nat), .func (.func 436) #[] #[]] (pt g (a7 (its.flatMap aV ++ sp) 446) :: R) (fun v B => ∃ l : List It, v = .tuple #[] ∧ B = pt g (a7 (l.flatMap aV ++ sp) 446) :: R ∧ l.Perm its ∧ ∀ p q, p < q → q < its.length → us l p ≤ us l q) := by
 refine js 3 func452 ntmps452 ?_
 refine gJ 4 (dr rfl rfl (bN (by omega))) ?_
 refine cK (fun X : List It × Nat => X.1.Perm its ∧ 0 < X.2 ∧ X.2 ≤ its.length ∧ ∀ p q, p < q → q < X.2 → us X.1 p ≤ us X.1 q) (fun X => [(0, .slice (some ⟨g, 0, none⟩) its.length c), (1, .int .i64 0), (2, .int .i64 (its.length : Nat)), (3, .func (.func 436) #[] #[]), (8, .int .i64 X.2)]) (fun X => pt g (a7 (X.1.flatMap aV ++ sp) 446) :: R) (fun X => its.length - X.2) (its, 1) ?_ ?_
 grind
 intro ⟨l, i⟩ ⟨hp, hi0, hi, hS⟩
 dsimp only at hp hi0 hi hS ⊢
 refine au 8 ?_
 refine aA rfl (fun c1 => ?_) fun c1 => ?_
 refine au 11 ?_
 refine cK (fun X : List It × Nat => X.1.Perm its ∧ X.2 ≤ i ∧ yh X.1 X.2 i) (fun X => [(0, .slice (some ⟨g, 0, none⟩) its.length c), (1, .int .i64 0), (2, .int .i64 (its.length : Nat)), (3, .func (.func 436) #[] #[]), (8, .int .i64 i), (9, .int .i64 X.2)]) (fun X => pt g (a7 (X.1.flatMap aV ++ sp) 446) :: R) (fun X => X.2) (l, i) ?_ ?_
 exact ⟨hp, Qap _, fun p q h1 h2 h3 => hS p q h1 (by omega)⟩
 intro ⟨l2, j⟩ ⟨hp2, hj, hS2⟩
 dsimp only at hp2 hj hS2 ⊢
 have hl2 := hp2.length_eq
 refine au 2 ?_
 refine fH [(g, 0, _)] 17 mixed rfl (bZ bL) (fun hS => ?_)
 refine ae 0 4 hS ?_
 refine iS (t := 21) rfl ?_ ?_
 intro c4g
 have hj0 : 0 < j := by omega
 have hjl : j < l2.length := by omega
 have hjm : (j : Int) - 1 = ((j - 1 : Nat) : Int) := by omega
 refine ae 4 3 hS ?_
 refine aQ 7 rfl rfl rfl hS (gn fl da rfl rfl rfl (by omega) (by first | exact Qab _ | rfl)) ?_
 refine ae 9 2 hS ?_
 refine aQ 11 rfl rfl rfl hS (iq rfl rfl (by rw [bN (by omega)]; omega : IntKind.wrap .i64 ((j : Int) - 1) = ((j - 1 : Nat) : Int))) ?_
 refine aQ 12 rfl rfl rfl hS (gn fl da rfl rfl rfl (by omega) (by first | exact Qab _ | rfl)) ?_
 refine eG (is := [8, 13]) (by kernel_rfl) rfl ⟨?_, ?_, trivial⟩
 skip
 refine kJ rfl rfl (db (eV jD da rfl (bU (ia l2 sp j hjl) rfl) rfl)) rfl ?_; clear hS
 rintro _ _ ⟨rfl, rfl⟩
 refine ⟨(bZ bL), fun hS => ?_⟩
 refine jt 13 rfl rfl (db (eV jD da rfl (bU (ia l2 sp (j - 1) (by omega)) rfl) rfl)) (bZ bL) fun hS => ?_
 refine jt 14 rfl rfl (gx rfl call436 rfl (Gt (l2.getD j default) (l2.getD (j - 1) default))) (bZ bL) fun hS => ?_
 refine ae 15 2 hS ?_
 refine fy ?_
 refine aD ?_
 refine aA rfl (fun c4 => ?_) fun c4 => ?_
 refine au 4 ?_
 refine fH [] 18 mixed rfl bL (fun hS => ?_)
 refine ae 0 4 hS ?_
 refine aQ 4 rfl rfl rfl hS (iq rfl rfl (by rw [bN (by omega)]; omega : IntKind.wrap .i64 ((j : Int) - 1) = ((j - 1 : Nat) : Int))) ?_
 refine ae 5 2 hS ?_
 refine aQ 7 rfl rfl rfl hS (iq rfl rfl (by rw [bN (by omega)]; omega : IntKind.wrap .i64 ((j : Int) - 1) = ((j - 1 : Nat) : Int))) ?_
 refine aQ 8 rfl rfl rfl hS (gn fl da rfl rfl rfl (by omega) (by first | exact Qab _ | rfl)) ?_
 refine ae 10 2 hS ?_
 refine aQ 12 rfl rfl rfl hS (gn fl da rfl rfl rfl (by omega) (by first | exact Qab _ | rfl)) ?_
 refine eG (is := [9, 13]) (by kernel_rfl) rfl ⟨?_, ?_, trivial⟩
 skip
 refine kJ rfl rfl (db (eV jD da rfl (bU (ia l2 sp (j - 1) (by omega)) rfl) rfl)) rfl ?_; clear hS
 rintro _ _ ⟨rfl, rfl⟩
 refine ⟨bL, fun hS => ?_⟩
 refine jt 13 rfl rfl (db (eV jD da rfl (bU (ia l2 sp j hjl) rfl) rfl)) bL fun hS => ?_
 refine aQ 14 rfl rfl rfl hS (gn fl da rfl rfl rfl (by omega) (by first | exact Qab _ | rfl)) ?_
 refine iU 15 rfl rfl (mV da rfl rfl rfl rfl (jR l2 sp j hjl) (kC l2 sp j (l2.getD (j - 1) default) hjl)) bL fun hS => ?_
 refine aQ 16 rfl rfl rfl hS (gn fl da rfl rfl rfl (by omega) (by first | exact Qab _ | rfl)) ?_
 refine iU 17 rfl rfl (mV da rfl rfl rfl rfl (jR (l2.set j (l2.getD (j - 1) default)) sp (j - 1) (by rw [Qao]; omega)) (kC (l2.set j (l2.getD (j - 1) default)) sp (j - 1) (l2.getD j default) (by rw [Qao]; omega))) bL fun hS => ?_
 refine fy ?_
 refine au 4 ?_
 refine gJ 3 (iq rfl rfl (by rw [bN (by omega)]; omega : IntKind.wrap .i64 ((j : Int) - 1) = ((j - 1 : Nat) : Int))) ?_
 refine bE (swapL l2 j (j - 1), j - 1) ?_ (hμ := ?_) (he := ?_)
 have hlt : us l2 j < us l2 (j - 1) := by
  unfold us
  unfold m6 at c4
  split at c4
  assumption
  split at c4 <;> omega
 exact ⟨(iC hjl (by omega)).trans hp2, by show j - 1 ≤ i; omega, yi hS2 hj0 hj (by omega) hlt⟩
 show j - 1 < j; omega
 show Ent _ (pt g (a7 ((swapL l2 j (j - 1)).flatMap aV ++ sp) 446) :: R)
 unfold swapL
 exact IO
 skip
 refine kJ rfl rfl (db (eV jD da rfl (bU (ia l2 sp j hjl) rfl) rfl)) rfl ?_; clear hS
 rintro _ _ ⟨rfl, rfl⟩
 refine ⟨bL, fun hS => ?_⟩
 refine jt 9 rfl rfl (db (eV jD da rfl (bU (ia l2 sp (j - 1) (by omega)) rfl) rfl)) bL fun hS => ?_
 refine aQ 14 rfl rfl rfl hS (gn fl da rfl rfl rfl (by omega) (by first | exact Qab _ | rfl)) ?_
 refine iU 15 rfl rfl (mV da rfl rfl rfl rfl (jR l2 sp j hjl) (kC l2 sp j (l2.getD (j - 1) default) hjl)) bL fun hS => ?_
 refine aQ 16 rfl rfl rfl hS (gn fl da rfl rfl rfl (by omega) (by first | exact Qab _ | rfl)) ?_
 refine iU 17 rfl rfl (mV da rfl rfl rfl rfl (jR (l2.set j (l2.getD (j - 1) default)) sp (j - 1) (by rw [Qao]; omega)) (kC (l2.set j (l2.getD (j - 1) default)) sp (j - 1) (l2.getD j default) (by rw [Qao]; omega))) bL fun hS => ?_
 refine fy ?_
 refine au 4 ?_
 refine gJ 3 (iq rfl rfl (by rw [bN (by omega)]; omega : IntKind.wrap .i64 ((j : Int) - 1) = ((j - 1 : Nat) : Int))) ?_
 refine bE (swapL l2 j (j - 1), j - 1) ?_ (hμ := ?_) (he := ?_)
 have hlt : us l2 j < us l2 (j - 1) := by
  unfold us
  unfold m6 at c4
  split at c4
  assumption
  split at c4 <;> omega
 exact ⟨(iC hjl (by omega)).trans hp2, by show j - 1 ≤ i; omega, yi hS2 hj0 hj (by omega) hlt⟩
 show j - 1 < j; omega
 show Ent _ (pt g (a7 ((swapL l2 j (j - 1)).flatMap aV ++ sp) 446) :: R)
 unfold swapL
 exact IO
 refine au 6 ?_
 have hS3 : ∀ p q, p < q → q ≤ i → us l2 p ≤ us l2 q := Bl hS2 (by
   first
     | (left; omega)
     | (right
        unfold us
        unfold m6 at c4
        split at c4
        · omega
        omega))
 refine au 2 ?_
 refine gJ 3 (dr rfl rfl (by rw [bN (by omega)]; omega : IntKind.wrap .i64 ((i : Int) + 1) = ((i + 1 : Nat) : Int))) ?_
 refine bE (l2, i + 1) ?_ (hμ := ?_)
 exact ⟨hp2, Nat.succ_pos _, by show i + 1 ≤ its.length; omega, fun p q h1 h2 => hS3 p q h1 (by dsimp only at h2; omega)⟩
 show its.length - (i + 1) < its.length - i; omega
 skip
 refine kJ rfl rfl (db (eV jD da rfl (bU (ia l2 sp (j - 1) (by omega)) rfl) rfl)) rfl ?_; clear hS
 rintro _ _ ⟨rfl, rfl⟩
 refine ⟨(bZ bL), fun hS => ?_⟩
 refine jt 8 rfl rfl (db (eV jD da rfl (bU (ia l2 sp j hjl) rfl) rfl)) (bZ bL) fun hS => ?_
 refine jt 14 rfl rfl (gx rfl call436 rfl (Gt (l2.getD j default) (l2.getD (j - 1) default))) (bZ bL) fun hS => ?_
 refine ae 15 2 hS ?_
 refine fy ?_
 refine aD ?_
 refine aA rfl (fun c4 => ?_) fun c4 => ?_
 refine au 4 ?_
 refine fH [] 18 mixed rfl bL (fun hS => ?_)
 refine ae 0 4 hS ?_
 refine aQ 4 rfl rfl rfl hS (iq rfl rfl (by rw [bN (by omega)]; omega : IntKind.wrap .i64 ((j : Int) - 1) = ((j - 1 : Nat) : Int))) ?_
 refine ae 5 2 hS ?_
 refine aQ 7 rfl rfl rfl hS (iq rfl rfl (by rw [bN (by omega)]; omega : IntKind.wrap .i64 ((j : Int) - 1) = ((j - 1 : Nat) : Int))) ?_
 refine aQ 8 rfl rfl rfl hS (gn fl da rfl rfl rfl (by omega) (by first | exact Qab _ | rfl)) ?_
 refine ae 10 2 hS ?_
 refine aQ 12 rfl rfl rfl hS (gn fl da rfl rfl rfl (by omega) (by first | exact Qab _ | rfl)) ?_
 refine eG (is := [9, 13]) (by kernel_rfl) rfl ⟨?_, ?_, trivial⟩
 skip
 refine kJ rfl rfl (db (eV jD da rfl (bU (ia l2 sp (j - 1) (by omega)) rfl) rfl)) rfl ?_; clear hS
 rintro _ _ ⟨rfl, rfl⟩
 refine ⟨bL, fun hS => ?_⟩
 refine jt 13 rfl rfl (db (eV jD da rfl (bU (ia l2 sp j hjl) rfl) rfl)) bL fun hS => ?_
 refine aQ 14 rfl rfl rfl hS (gn fl da rfl rfl rfl (by omega) (by first | exact Qab _ | rfl)) ?_
 refine iU 15 rfl rfl (mV da rfl rfl rfl rfl (jR l2 sp j hjl) (kC l2 sp j (l2.getD (j - 1) default) hjl)) bL fun hS => ?_
 refine aQ 16 rfl rfl rfl hS (gn fl da rfl rfl rfl (by omega) (by first | exact Qab _ | rfl)) ?_
 refine iU 17 rfl rfl (mV da rfl rfl rfl rfl (jR (l2.set j (l2.getD (j - 1) default)) sp (j - 1) (by rw [Qao]; omega)) (kC (l2.set j (l2.getD (j - 1) default)) sp (j - 1) (l2.getD j default) (by rw [Qao]; omega))) bL fun hS => ?_
 refine fy ?_
 refine au 4 ?_
 refine gJ 3 (iq rfl rfl (by rw [bN (by omega)]; omega : IntKind.wrap .i64 ((j : Int) - 1) = ((j - 1 : Nat) : Int))) ?_
 refine bE (swapL l2 j (j - 1), j - 1) ?_ (hμ := ?_) (he := ?_)
 have hlt : us l2 j < us l2 (j - 1) := by
  unfold us
  unfold m6 at c4
  split at c4
  assumption
  split at c4 <;> omega
 exact ⟨(iC hjl (by omega)).trans hp2, by show j - 1 ≤ i; omega, yi hS2 hj0 hj (by omega) hlt⟩
 show j - 1 < j; omega
 show Ent _ (pt g (a7 ((swapL l2 j (j - 1)).flatMap aV ++ sp) 446) :: R)
 unfold swapL
 exact IO
 skip
 refine kJ rfl rfl (db (eV jD da rfl (bU (ia l2 sp j hjl) rfl) rfl)) rfl ?_; clear hS
 rintro _ _ ⟨rfl, rfl⟩
 refine ⟨bL, fun hS => ?_⟩
 refine jt 9 rfl rfl (db (eV jD da rfl (bU (ia l2 sp (j - 1) (by omega)) rfl) rfl)) bL fun hS => ?_
 refine aQ 14 rfl rfl rfl hS (gn fl da rfl rfl rfl (by omega) (by first | exact Qab _ | rfl)) ?_
 refine iU 15 rfl rfl (mV da rfl rfl rfl rfl (jR l2 sp j hjl) (kC l2 sp j (l2.getD (j - 1) default) hjl)) bL fun hS => ?_
 refine aQ 16 rfl rfl rfl hS (gn fl da rfl rfl rfl (by omega) (by first | exact Qab _ | rfl)) ?_
 refine iU 17 rfl rfl (mV da rfl rfl rfl rfl (jR (l2.set j (l2.getD (j - 1) default)) sp (j - 1) (by rw [Qao]; omega)) (kC (l2.set j (l2.getD (j - 1) default)) sp (j - 1) (l2.getD j default) (by rw [Qao]; omega))) bL fun hS => ?_
 refine fy ?_
 refine au 4 ?_
 refine gJ 3 (iq rfl rfl (by rw [bN (by omega)]; omega : IntKind.wrap .i64 ((j : Int) - 1) = ((j - 1 : Nat) : Int))) ?_
 refine bE (swapL l2 j (j - 1), j - 1) ?_ (hμ := ?_) (he := ?_)
 have hlt : us l2 j < us l2 (j - 1) := by
  unfold us
  unfold m6 at c4
  split at c4
  assumption
  split at c4 <;> omega
 exact ⟨(iC hjl (by omega)).trans hp2, by show j - 1 ≤ i; omega, yi hS2 hj0 hj (by omega) hlt⟩
 show j - 1 < j; omega
 show Ent _ (pt g (a7 ((swapL l2 j (j - 1)).flatMap aV ++ sp) 446) :: R)
 unfold swapL
 exact IO
 refine au 6 ?_
 have hS3 : ∀ p q, p < q → q ≤ i → us l2 p ≤ us l2 q := Bl hS2 (by
   first
     | (left; omega)
     | (right
        unfold us
        unfold m6 at c4
        split at c4
        · omega
        omega))
 refine au 2 ?_
 refine gJ 3 (dr rfl rfl (by rw [bN (by omega)]; omega : IntKind.wrap .i64 ((i : Int) + 1) = ((i + 1 : Nat) : Int))) ?_
 refine bE (l2, i + 1) ?_ (hμ := ?_)
 exact ⟨hp2, Nat.succ_pos _, by show i + 1 ≤ its.length; omega, fun p q h1 h2 => hS3 p q h1 (by dsimp only at h2; omega)⟩
 show its.length - (i + 1) < its.length - i; omega
 intro c4g
 refine ae 4 13 hS ?_
 refine fy ?_
 refine au 8 ?_
 have hS3 : ∀ p q, p < q → q ≤ i → us l2 p ≤ us l2 q := Bl hS2 (by
   first
     | (left; omega)
     | (right
        unfold us
        unfold m6 at c4
        split at c4
        · omega
        omega))
 refine au 2 ?_
 refine gJ 3 (dr rfl rfl (by rw [bN (by omega)]; omega : IntKind.wrap .i64 ((i : Int) + 1) = ((i + 1 : Nat) : Int))) ?_
 refine bE (l2, i + 1) ?_ (hμ := ?_)
 exact ⟨hp2, Nat.succ_pos _, by show i + 1 ≤ its.length; omega, fun p q h1 h2 => hS3 p q h1 (by dsimp only at h2; omega)⟩
 show its.length - (i + 1) < its.length - i; omega
 refine au 4 ?_
 refine bM (.inr rfl) .nil ?_
 obtain rfl : i = its.length := by omega
 exact ⟨_, ⟨l, rfl, rfl, hp, hS⟩, IO⟩
theorem W8 (x : Nat) (hx : x < 60000) : sP W0 461 [.int .u64 x] R (fun v B => ∃ r : Nat, v = iQ r ∧ B = R) := by
 refine ab func461 ntmps461 ?_
 refine aA rfl (fun c1 => ?_) fun c1 => ?_
 omega
 refine aw ?_
 refine aA rfl (fun c4 => ?_) fun c4 => ?_
 omega
 refine au 2 ?_
 refine dO (fun z : Nat × Nat => z.1 < 256 ∧ z.2 ≤ 8) (fun z => [(0, .int .u64 z.1), (2, iQ z.2)]) (fun _ => R) ?_ ?_
 refine au 6 ?_
 refine ag (fun c7 => ?_) fun c7 => ?_
 refine a6 (jo rfl rfl (by decide) (lm (s := 8) (by decide))) ?_
 refine a6 bS ?_
 exact cu (x / 2 ^ 8, 8) (by omega)
 exact cu (x, 0) (by omega)
 intro ⟨y, n⟩ ⟨hy, hn⟩
 dsimp only at hy hn ⊢
 refine aw ?_
 refine aa rfl (cT (D6 (by omega))) ?_
 refine Sp (j := y) rfl J0 rfl rfl rfl (by show y < 256; exact hy) fun m hm => ?_
 refine a6 (cT (bN (by omega))) ?_
 refine a6 (dG (n + m)) ?_
 refine a8 ?_
 exact ⟨_, ⟨n + m, rfl, rfl⟩, IO⟩
theorem Bm (x : Nat) (hx : x < 60000) : sP W0 450 [.int .u64 x] R (fun v B => ∃ r : Nat, v = iQ r ∧ B = R) := by
 refine js 6 func450 ntmps450 ?_
 refine Sm ?_
 refine aw ?_
 refine am rfl (ao call461 (W8 x hx)) ?_
 rintro _ B_ ⟨r, rfl, hB_⟩
 obtain rfl := hB_.symm
 refine aw ?_
 refine a8 ?_
 exact ⟨_, ⟨r, rfl, rfl⟩, IO⟩
theorem W9 (g c : Nat) (its : List It) (sp : List Value) (k : Int) (hN : its.length ≤ 12) (h0 : 0 < its.length) : sP W0 449 [.slice (some ⟨g, 0, none⟩) its.length c, iQ 0, iQ (its.length : Nat), iQ k, .func (.func 436) #[] #[]] (pt g (a7 (its.flatMap aV ++ sp) 446) :: R) (fun v B => ∃ l : List It, v = .tuple #[] ∧ B = pt g (a7 (l.flatMap aV ++ sp) 446) :: R ∧ l.Perm its ∧ ∀ p q, p < q → q < its.length → us l p ≤ us l q) := by
 refine ab func449 ntmps449 ?_
 refine cK (fun _ : Unit => True) (fun _ => [(0, .slice (some ⟨g, 0, none⟩) its.length c), (1, iQ 0), (2, iQ (its.length : Nat)), (3, iQ k), (4, .func (.func 436) #[] #[])]) (fun _ => pt g (a7 (its.flatMap aV ++ sp) 446) :: R) (fun _ => 0) () ?_ ?_
 trivial
 intro u hu
 refine aw ?_
 refine a6 (lQ its.length) ?_
 refine aA rfl (fun c3 => ?_) fun c3 => ?_
 refine au 6 ?_
 refine am rfl (ah call452 (W7 g c its sp (by omega) h0)) ?_
 rintro _ B_ ⟨l, rfl, hB_, hp, hS⟩
 obtain rfl := hB_.symm
 refine aw ?_
 refine bM (.inl rfl) .nil ?_
 exact ⟨_, ⟨l, rfl, rfl, hp, hS⟩, IO⟩
 omega
theorem Gv (a : Option Addr) (c : Nat) (k : Int) : sQ W0 449 [.slice a 0 c, iQ 0, iQ 0, iQ k, .func (.func 436) #[] #[]] R (.tuple #[]) R := by
 have hi : bc Tryz.prog W0 452 [.slice a 0 c, iQ 0, iQ 0, .func (.func 436) #[] #[]] R (fun v B => v = .tuple #[] ∧ B = R) := by
  refine ab func452 ntmps452 ?_
  refine a6 bS ?_
  refine cK (fun _ : Unit => True) (fun _ => [(2, iQ 0), (8, iQ 1)]) (fun _ => R) (fun _ => 0) () ?_ ?_
  trivial
  intro u hu
  refine aw ?_
  refine aA rfl (fun c1 => ?_) fun c1 => ?_
  omega
  refine aw ?_
  refine bM (.inr rfl) .nil ?_
  exact aj
 refine ab func449 ntmps449 ?_
 refine cK (fun _ : Unit => True) (fun _ => [(0, .slice a 0 c), (1, iQ 0), (2, iQ 0), (3, iQ k), (4, .func (.func 436) #[] #[])]) (fun _ => R) (fun _ => 0) () ?_ ?_
 trivial
 intro u hu
 refine aw ?_
 refine a6 eX ?_
 refine aA rfl (fun c3 => ?_) fun c3 => ?_
 refine au 6 ?_
 refine ac (ao call452 (hi)) ?_
 refine bM (.inl rfl) .nil ?_
 exact aj
 omega
theorem Wa (a : Option Addr) (c : Nat) (its : List It) (hN : its.length ≤ 12) : sP W0 443 [.slice a its.length c, .func (.func 436) #[] #[]] (osl 446 6 (.slice a its.length c) (its.flatMap aV) :: R) (fun v B => ∃ l : List It, v = .tuple #[] ∧ B = osl 446 6 (.slice a its.length c) (l.flatMap aV) :: R ∧ l.Perm its ∧ ∀ p q, p < q → q < its.length → us l p ≤ us l q) := by
 refine uv (fun h1 h2 => ?_) fun g n cap sp h1 h2 h3 h4 h5 => ?_
 have h0 : its.length = 0 := by grind
 obtain rfl : its = [] := QaB h0
 cases h1
 refine ab J1 ntmps443 ?_
 refine a6 (cT (show IntKind.wrap .u64 ((0 : Nat) : Int) = ((0 : Nat) : Int) from rfl)) ?_
 refine am rfl (ao J2 (Bm 0 (by decide))) ?_
 rintro _ B_ ⟨r, rfl, hB_⟩
 obtain rfl := hB_.symm
 refine aw ?_
 refine ac (ao J3 (Gv none 0 r)) ?_
 refine bM (.inr rfl) .nil ?_
 exact ⟨_, ⟨[], rfl, rfl, QaI _, fun p q _ hq => by simp at hq⟩, eH⟩
 cases h1
 by_cases hz : its.length = 0
 obtain rfl : its = [] := QaB hz
 refine ab J1 ntmps443 ?_
 refine a6 (cT (show IntKind.wrap .u64 ((0 : Nat) : Int) = ((0 : Nat) : Int) from rfl)) ?_
 refine am rfl (ao J2 (Bm 0 (by decide))) ?_
 rintro _ B_ ⟨r, rfl, hB_⟩
 obtain rfl := hB_.symm
 refine aw ?_
 refine ac (ao J3 (Gv _ c r)) ?_
 refine bM (.inr rfl) .nil ?_
 exact ⟨_, ⟨[], rfl, rfl, QaI _, fun p q _ hq => by simp at hq⟩, ez h2 h3 h4 h5⟩
 skip
 refine ab J1 ntmps443 ?_
 refine a6 (cT (show IntKind.wrap .u64 ((its.length : Nat) : Int) = ((its.length : Nat) : Int) from by simp only [IntKind.wrap, IntKind.bits, IntKind.signed]; simp; omega)) ?_
 refine am rfl (ao J2 (Bm its.length (by omega))) ?_
 rintro _ B_ ⟨r, rfl, hB_⟩
 obtain rfl := hB_.symm
 refine aw ?_
 refine am rfl (ah J3 (W9 g c its sp r hN (by omega))) ?_
 rintro _ B_ ⟨l, rfl, hB_, hp, hS⟩
 obtain rfl := hB_.symm
 have hll := hp.length_eq
 refine aw ?_
 refine bM (.inr rfl) .nil ?_
 exact ⟨_, ⟨l, rfl, rfl, hp, hS⟩, ez h2 h3 (by grind) (by grind)⟩
theorem Wb (bs c : Nat) (a : Option Addr) (its : List It) (hN : its.length ≤ 12) : sP W0 434 [.func (.func 444) #[] #[pQ bs], .func (.func 436) #[] #[]] (pt bs (a7 [.slice a its.length c] 435) :: osl 446 6 (.slice a its.length c) (its.flatMap aV) :: R) (fun v B => ∃ (l : List It) (a' : Option Addr) (c' : Nat), v = .slice a' l.length c' ∧ B = osl 446 6 (.slice a' l.length c') (l.flatMap aV) :: osl 446 6 (.slice a its.length c) (its.flatMap aV) :: R ∧ l.Perm its ∧ ∀ p q, p < q → q < its.length → us l p ≤ us l q) := by
 refine ab func434 ntmps434 ?_
 refine am rfl (cH call442 (W5 bs c a its (by omega))) ?_
 rintro _ B_ ⟨a2, c2, rfl, hB_⟩
 obtain rfl := hB_.symm
 refine aw ?_
 refine am rfl (ah call443 (Wa a2 c2 its hN)) ?_
 rintro _ B_ ⟨l, rfl, hB_, hp, hS⟩
 obtain rfl := hB_.symm
 have hll := hp.length_eq
 refine aw ?_
 refine a8 ?_
 rw [← hll] at hS ⊢
 exact ⟨_, ⟨l, a2, c2, rfl, rfl, hp, hS⟩, IO⟩
theorem Gw : ∀ {l L : List It}, l.Perm L → (∀ p q, p < q → q < l.length → us l p ≤ us l q) → L.Pairwise (fun x y => x.u < y.u) → l = L
 | [], L, hp, _, _ => hp.nil_eq
 | x :: l, [], hp, _, _ => by have := hp.length_eq; simp at this
 | x :: l, y :: L, hp, hs, hw => by
  have h1 : ∀ z ∈ l, x.u ≤ z.u := fun z hz => by
   obtain ⟨i, hi, rfl⟩ := Qbl.1 hz
   have := hs 0 (i + 1) (by omega) (by simp; omega)
   simpa [us, hi] using this
  obtain ⟨hw1, hw2⟩ := Qbk.1 hw
  have hx : x ∈ y :: L := hp.subset (Qay ..)
  have hy : y ∈ x :: l := hp.symm.subset (Qay ..)
  have e : x = y := by
   grind
  subst e
  rw [Gw (hp.cons_inv) (fun p q hpq hq => by
   have := hs (p + 1) (q + 1) (by omega) (by simp; omega)
   simpa [us] using this) hw2]
def rN (x : It) : List Value := [.int .i64 x.kr, .int .i64 x.kp, .int .i64 x.ep, .int .i64 x.ef, .int .i64 x.er]
theorem Wc (x : It) : (rN x).length = 5 := rfl
theorem Wd (b : Nat) (its : List It) (rm nw : Value) (now : Nat) (L : List It) (hR : Rep its now L) (hN : L.length ≤ 12) : sP W0 410 [pQ b] (aJ b (its, [rm, nw, .bool true]) :: R) (fun v B => ∃ a c, v = .slice a L.length c ∧ B = osl 387 5 (.slice a L.length c) (L.flatMap rN) :: aJ b (its, [rm, nw, .bool true]) :: R) := by
 have hlen := hR.length
 refine ab func410 ntmps410 ?_
 refine dK 2 (ah we (tp b its rm nw)) ?_
 refine aA rfl (fun c1 => ?_) fun c1 => ?_
 exact absurd c1 (by decide)
 refine aw ?_
 refine xU (b := b) fun a0 c0 => ?_
 refine aw ?_
 refine am rfl (ao call435 (VX a0 its.length c0)) ?_
 rintro _ B_ ⟨bs, rfl, hB_⟩
 obtain rfl := hB_.symm
 refine am rfl (cH call434 (Wb bs c0 a0 its (by omega))) ?_
 rintro _ B_ ⟨l, a1, c1, rfl, hB_, hp, hS⟩
 obtain rfl := hB_.symm
 have hll := hp.length_eq
 obtain rfl : l = L := Gw (hp.trans hR.perm) (fun p q h1 h2 => hS p q h1 (by omega)) hR.sort
 refine fF (B := aJ b (its, [rm, nw, .bool true]) :: osl 446 6 (.slice a1 l.length c1) (l.flatMap aV) :: R) (oL rfl) ?_
 refine aw ?_
 refine fQ (fun X : Nat × Option Addr × Nat => X.1 ≤ l.length) (fun X => [(4, .slice X.2.1 X.1 X.2.2), (16, .slice a1 l.length c1), (17, iQ (l.length : Nat)), (18, iQ X.1)]) (fun X => osl 387 5 (.slice X.2.1 X.1 X.2.2) ((l.take X.1).flatMap rN) :: aJ b (its, [rm, nw, .bool true]) :: osl 446 6 (.slice a1 l.length c1) (l.flatMap aV) :: R) (fun X => l.length - X.1) (0, none, 0) ?_ ?_ ?_ ?_
 omega
 · repeat (first | exact ci | refine bQ rfl ?_)
 exact eH
 intro ⟨i, a2, c2⟩ hi
 dsimp only at hi ⊢
 refine aw ?_
 refine ag (fun c6 => ?_) fun c6 => ?_
 have hi1 : i < l.length := by omega
 refine ke (E := 446) (sz := 6) (a := a1) (n := l.length) (c := c1) aV l fN (by decide) rfl (fun hs => ?_)
 obtain ⟨g, o, rfl, hc⟩ := hs.at_ hi1
 have htk : l.take (i + 1) = l.take i ++ [l[i]] := Qan hi1
 refine aw ?_
 refine a6 (bA hi1) ?_
 refine a6 (cJ hc) ?_
 refine bu fun bx => ?_
 refine ax aC ?_
 refine j9 (b := bx) (o' := a7 [iQ l[i].kr, iQ l[i].kp, iQ l[i].ep, iQ l[i].ef, iQ l[i].er, iQ l[i].u] 446) rfl ?_
 refine aw ?_
 refine a6 (qD isAgg387 p8 rfl TakeL.eq rfl) ?_
 refine d7 (iz Cd p8 Cg rfl (eJ rfl rfl gG) rfl (by decide) (by decide) (by decide)) fun b2 => ?_
 refine am rfl (eI (sz := 5) (by_ := 40) (info := Tryz.t387) Cd (by kernel_rfl) rfl rfl rfl rfl (by decide) rfl rfl eA rfl rfl (by simp only [maxLen]; omega) (by omega)) ?_
 rintro _ _ ⟨a3, c3, rfl, rfl⟩
 refine aw ?_
 refine a6 bS ?_
 refine bE (i + 1, a3, c3) ?_ (he := ?_)
 omega
 dsimp only
 rw [htk, Qbz]
 show Ent _ (osl 387 5 (.slice a3 (i + 1) c3) ((l.take i).flatMap rN ++ [[iQ l[i].kr, iQ l[i].kp, iQ l[i].ep, iQ l[i].ef, iQ l[i].er]].flatten) :: _)
 exact IO
 refine a8 ?_
 obtain rfl : i = l.length := by omega
 rw [QaO (Qap _)]
 exact ⟨_, ⟨a2, c2, rfl, rfl⟩, IO⟩
theorem We (b : Nat) (L : List Ln) (hl : L.length ≤ 1000) (page : Int) : sP W0 274 [pQ b, iQ page] (bG b L :: R) (fun v B => ∃ a c, v = .slice a (L.filter fun x => x.thr page).length c ∧ B = osl 380 2 (.slice a (L.filter fun x => x.thr page).length c) ((L.filter fun x => x.thr page).flatMap tE) :: bG b (L.filter fun x => !x.thr page) :: R) := by
 refine ab func274 ntmps274 ?_
 refine d7 (iw rfl rfl) fun bp => ?_
 refine ac (ah wh (vG b L)) ?_
 refine am rfl (pw (B := bG b L :: kH 0 (bH [pt bp (a7 [iQ page] 3)]) :: R) inferInstance (ao J4 (Bj b L hl 332 [pQ bp] _ _ (VV W0 bp page)))) ?_
 rintro _ B_ ⟨a, c, rfl, hB_⟩
 obtain rfl := hB_.symm
 refine aw ?_
 refine a8 ?_
 exact ⟨_, ⟨a, c, rfl, rfl⟩, IO⟩
theorem Wg (b : Nat) (L : List Ln) (hl : L.length ≤ 1000) : sQ W0 368 [pQ b] (bG b L :: R) (iQ (L.length : Nat)) (bG b [] :: R) := by
 have e1 : L.filter (fun _ => true) = L := Qbe.2 fun _ _ => rfl
 have e2 : L.filter (fun x => !(fun _ => true) x) = [] := by simp
 refine ab func368 ntmps368 ?_
 refine ac (ah wh (vG b L)) ?_
 refine am rfl (pw (B := bG b L :: kH 0 (bH []) :: R) inferInstance (ao J4 (Bj b L hl 399 [] _ _ (VW W0)))) ?_
 rintro _ B_ ⟨a, c, rfl, hB_⟩
 obtain rfl := hB_.symm
 rw [e1, e2]
 refine aw ?_
 exact a8 aj
def vH (k : cF) (L : List Ln) : Value := match j0 k L with
 | none => .tuple #[.agg (m5 (0, 0, 0)).toArray, .bool false]
 | some x => .tuple #[.agg (m5 x.e).toArray, .bool true]
theorem Wh {k : cF} {L : List Ln} (h : ∀ j (hj : j < L.length), L[j].k ≠ k) : j0 k L = none := QbS.2 fun x hx => by
 obtain ⟨j, hj, rfl⟩ := Qbn hx
 simpa using h j hj
theorem Wi {k : cF} {L : List Ln} {i : Nat} (hi : i < L.length) (h : L[i].k = k) (hj : ∀ j (hj : j < L.length), j < i → L[j].k ≠ k) : j0 k L = some L[i] := by
 rw [j0, List.find?_eq_some_iff_getElem]
 exact ⟨by simpa using h, i, hi, rfl, fun j h2 => by simpa using hj j (by omega) h2⟩
theorem qd (b : Nat) (L : List Ln) (hl : L.length ≤ 1000) (k : cF) : sQ W0 347 [pQ b, .agg (fj k).toArray] (bG b L :: R) (vH k L) (bG b L :: R) := by
 refine ab func347 ntmps347 ?_
 refine aS fun b3 => ?_
 refine bu fun b4 => ?_
 refine ac (ah wh (vG b L)) ?_
 refine vF (b := b) fun a c => ?_
 refine aw ?_
 refine cK (fun i : Nat => i ≤ L.length ∧ ∀ j (hj : j < L.length), j < i → L[j].k ≠ k) (fun i => [(3, pQ b3), (4, pQ b4), (14, .slice a L.length c), (15, iQ (L.length : Nat)), (16, iQ i)]) (fun _ => pt b (a7 [.slice a L.length c, .bool true] 442) :: osl 389 7 (.slice a L.length c) (L.flatMap bY) :: pt b3 (a7 (fj k) 380) :: pt b4 (a7 (m5 (0, 0, 0)) 385) :: R) (fun i => L.length - i) 0 ?_ ?_
 grind
 intro i ⟨hi, hI⟩
 refine aw ?_
 refine aA rfl (fun c4 => ?_) fun c4 => ?_
 refine au 5 ?_
 have hi1 : i < L.length := by omega
 refine ke (E := 389) (sz := 7) (a := a) (c := c) (n := L.length) bY L l5 (by decide) rfl (fun hs => ?_)
 obtain ⟨g, o, hga, hc⟩ := hs.at_ hi1
 have hat := fun q => Wi (k := k) hi1 q hI
 have hno : L[i].k ≠ k → ∀ j (hj : j < L.length), j < i + 1 → L[j].k ≠ k := fun q j hj hji => by
  rcases QaD j i with q2 | q2
  grind
  grind
 obtain ⟨x, hx⟩ : ∃ x, L[i] = x := ⟨_, rfl⟩
 rw [hx] at hc hat hno
 refine aw ?_
 refine a6 (dH kG nW rfl hga rfl rfl hi1 (by first | exact Qab _ | rfl)) ?_
 refine a6 (cJ hc.weak) ?_
 refine bu fun bx => ?_
 refine ax aC ?_
 refine a6 (qD C0 oZ rfl TakeL.eq rfl) ?_
 refine a6 (si Tryz.eqGuardType380 rfl rfl (pj z4 Tryz.stoodInHeld380 (ir rfl cP rfl rfl (j7 dN) (ir rfl cP rfl rfl (j7 dN) pi)))) ?_
 refine ag (fun c6 => ?_) fun c6 => ?_
 have hk : x.k = k := by grind
 refine a6 (qD vZ p7 rfl TakeL.eq rfl) ?_
 refine ax aC ?_
 refine bi (.cons (bD vZ p7 rfl rfl) (.cons (bz rfl) .nil)) ?_
 rw [vH, hat hk]
 exact ⟨_, ⟨rfl, rfl⟩, Ent.trans (B := pt b (a7 [.slice a L.length c, .bool true] 442) :: osl 389 7 (.slice a L.length c) (L.flatMap bY) :: R) inferInstance (oN (b := b) rfl)⟩
 have hk : x.k ≠ k := by grind
 refine a6 bS ?_
 refine bE (i + 1) ?_
 grind
 refine aw ?_
 refine ax aC ?_
 refine bi (.cons (bD vZ p7 rfl rfl) (.cons (bz rfl) .nil)) ?_
 rw [vH, Wh fun j hj => hI j hj (by omega)]
 exact ⟨_, ⟨rfl, rfl⟩, Ent.trans (B := pt b (a7 [.slice a L.length c, .bool true] 442) :: osl 389 7 (.slice a L.length c) (L.flatMap bY) :: R) inferInstance (oN (b := b) rfl)⟩
@[reducible] def iI (x : Int) : List Value := [.int .i64 x]
theorem nJ (x : Int) : (iI x).length = 1 := rfl
theorem Gx (l : List Int) (sp : List Value) (i : Nat) (h : i < l.length) : (l.flatMap iI ++ sp)[i * 1]? = some (iQ (l.getD i 0)) := by
 have := lj nJ l i 0 sp h (by decide)
 rw [Qbx] at this
 rw [this]; simp [List.getD, h]
theorem Wj (l : List Int) (sp : List Value) (i : Nat) (x : Int) (h : i < l.length) : (l.flatMap iI ++ sp).set (i * 1) (iQ x) = (l.set i x).flatMap iI ++ sp :=
  mW nJ l i 0 _ _ sp h (by decide) (by simp)
structure PFI (W0 : World) (fn : FuncId) (us cs : List Value) (C : HP) (p : Int → Bool) : Prop where
  call : ∀ args w, (callFunc fn args).run Tryz.prog w = .ok (.enter fn args) w
  spec : ∀ x R, bc Tryz.prog W0 fn (us ++ [.int .i64 x] ++ cs) (kH 0 C :: R) (fun v B => v = .bool (p x) ∧ B = kH 0 C :: R)
def Wk (l : List Int) (p : Int → Bool) (r : Int) : Prop := (r = -1 ∧ ∀ i, i < l.length → p (l.getD i 0) = false) ∨ ∃ i : Nat, r = (i : Int) ∧ i < l.length ∧ p (l.getD i 0) = true ∧ ∀ j, j < i → p (l.getD j 0) = false
theorem Wl (l : List Int) (g c : Nat) (sp : List Value) (f : FuncId) (us cs : List Value) (C : HP) (p : Int → Bool) (hp : PFI W0 f us cs C p) (hN : l.length < 1000) : sP W0 441 [.slice (some ⟨g, 0, none⟩) l.length c, .func (.func f) us.toArray cs.toArray] (pt g (a7 (l.flatMap iI ++ sp) 3) :: kH 0 C :: R) (fun v B => ∃ r, v = iQ r ∧ B = pt g (a7 (l.flatMap iI ++ sp) 3) :: kH 0 C :: R ∧ Wk l p r) := by
 refine ab func441 ntmps441 ?_
 refine cK (fun X : Nat => X ≤ l.length ∧ ∀ i, i < X → p (l.getD i 0) = false) (fun X => [(0, .slice (some ⟨g, 0, none⟩) l.length c), (1, .func (.func f) us.toArray cs.toArray), (7, iQ (l.length : Nat)), (8, iQ X)]) (fun X => pt g (a7 (l.flatMap iI ++ sp) 3) :: kH 0 C :: R) (fun X => l.length - X) 0 ?_ ?_
 grind
 intro j ⟨hj, hno⟩
 refine aw ?_
 refine ag (fun c2 => ?_) fun c2 => ?_
 refine a6 (bA (by omega)) ?_
 refine a6 (aG (aF (Gx l sp j (by omega)))) ?_
 refine ac (qJ (us := us) (cs := cs) rfl hp.call rfl (hp.spec (l.getD j 0) _)) ?_
 refine ag (fun c4 => ?_) fun c4 => ?_
 refine a8 ?_
 exact ⟨_, ⟨_, rfl, rfl, .inr ⟨j, rfl, by omega, c4, hno⟩⟩, IO⟩
 refine a6 bS ?_
 refine bE (j + 1) ?_
 grind
 refine a8 ?_
 exact ⟨_, ⟨-1, rfl, rfl, .inl ⟨rfl, fun i hi => hno i (by omega)⟩⟩, IO⟩
def lD (p : Int → Bool) (l : List Int) : List Int := l.filter (fun x => !p x)
theorem Gy {p : Int → Bool} {l : List Int} (h : ∀ i, i < l.length → p (l.getD i 0) = false) : lD p l = l := Qbe.2 fun x hx => by
 obtain ⟨i, hi, rfl⟩ := Qbl.1 hx
 have := h i hi
 simpa [List.getD, hi] using this
theorem Bn {p : Int → Bool} {l : List Int} {j : Nat} (h : j < l.length) : lD p (l.take (j + 1)) = lD p (l.take j) ++ (if p (l.getD j 0) then [] else [l.getD j 0]) := by
 grind [Qan, lD]
structure DelN (p : Int → Bool) (its l : List Int) (i j : Nat) : Prop where
  len : l.length = its.length
  ij : i < j
  jl : j ≤ its.length
  front : l.take i = lD p (its.take j)
  back : ∀ k, j ≤ k → l.getD k 0 = its.getD k 0
theorem Wm {p : Int → Bool} {l : List Int} {i : Nat} (h : i < l.length) (hp : p (l.getD i 0) = true) (hno : ∀ j, j < i → p (l.getD j 0) = false) : lD p (l.take (i + 1)) = l.take i := by
 grind [Bn, Qav, Gy]
theorem DelN.skip {p : Int → Bool} {its l : List Int} {i j : Nat} (h : DelN p its l i j) (hj : j < its.length) (hp : p (l.getD j 0) = true) : DelN p its l i (j + 1) := by
 refine ⟨h.len, by have := h.ij; omega, by omega, ?_, fun k hk => h.back k (by omega)⟩
 rw [h.back j (Qap _)] at hp
 rw [Bn hj, hp, Qaf rfl, Qav]; exact h.front
theorem DelN.move {p : Int → Bool} {its l : List Int} {i j : Nat} (h : DelN p its l i j) (hj : j < its.length) (hp : p (l.getD j 0) = false) : DelN p its (l.set i (l.getD j 0)) (i + 1) (j + 1) := by
 have hij := h.ij
 have hl := h.len
 have hb := h.back j (Qap _)
 rw [hb] at hp ⊢
 refine ⟨by rw [Qao]; exact hl, by omega, by omega, ?_, fun k hk => ?_⟩
 rw [Bn hj, hp, Qac (by decide), ← h.front, Qan (by rw [Qao]; omega), List.getElem_set_self, List.take_set_of_le (Qap _)]
 rw [← h.back k (by omega)]
 simp only [Qau]
 rw [QaV (by omega)]
theorem Wn (its : List Int) (g c : Nat) (sp : List Value) (f : FuncId) (us cs : List Value) (C : HP) (p : Int → Bool) (hp : PFI W0 f us cs C p) (hN : its.length < 1000) (h2 : its.length ≤ c) (h3 : c ≤ maxLen) (h5 : (its.flatMap iI ++ sp).length = c * 1) : sP W0 430 [.slice (some ⟨g, 0, none⟩) its.length c, .func (.func f) us.toArray cs.toArray] (pt g (a7 (its.flatMap iI ++ sp) 3) :: kH 0 C :: R) (fun v B => ∃ a' c', v = .slice a' (lD p its).length c' ∧ B = osl 3 1 (.slice a' (lD p its).length c') ((lD p its).flatMap iI) :: kH 0 C :: R) := by
 refine ab func430 ntmps430 ?_
 refine am rfl (cH call441 (Wl its g c sp f us cs C p hp hN)) ?_
 rintro _ B_ ⟨r, rfl, hB_, hf⟩
 obtain rfl := hB_.symm
 refine aw ?_
 refine aA rfl (fun c2 => ?_) fun c2 => ?_
 refine au 8 ?_
 refine a8 ?_
 have hno : ∀ i, i < its.length → p (its.getD i 0) = false := by
  rcases hf with ⟨_, h⟩ | ⟨i, h, _⟩
  exact h
  omega
 rw [Gy hno]
 exact ⟨_, ⟨_, c, rfl, rfl⟩, ez h2 h3 (cj nJ its) h5⟩
 obtain ⟨i, rfl, hi, hpi, hno⟩ : ∃ i : Nat, r = (i : Int) ∧ i < its.length ∧ p (its.getD i 0) = true ∧ ∀ j, j < i → p (its.getD j 0) = false := by
  rcases hf with ⟨h, _⟩ | h
  omega
  exact h
 refine aw ?_
 refine a6 (dG (i + 1)) ?_
 refine cK (fun X : List Int × Nat × Nat => DelN p its X.1 X.2.1 X.2.2) (fun X => [(0, .slice (some ⟨g, 0, none⟩) its.length c), (1, .func (.func f) us.toArray cs.toArray), (5, iQ X.2.1), (6, iQ X.2.2)]) (fun X => pt g (a7 (X.1.flatMap iI ++ sp) 3) :: kH 0 C :: R) (fun X => its.length - X.2.2) (its, i, i + 1) ?_ ?_
 exact ⟨rfl, Nat.lt_succ_self _, by show i + 1 ≤ its.length; omega, (Wm hi hpi hno).symm, fun _ _ => rfl⟩
 intro ⟨l, m, j⟩ hD
 dsimp only at hD ⊢
 have hl := hD.len
 have hmj := hD.ij
 have hjl := hD.jl
 refine aw ?_
 refine aA rfl (fun c5 => ?_) fun c5 => ?_
 refine au 2 ?_
 refine dO (fun Z : List Int × Nat => DelN p its Z.1 Z.2 (j + 1)) (fun Z => [(0, .slice (some ⟨g, 0, none⟩) its.length c), (1, .func (.func f) us.toArray cs.toArray), (5, iQ Z.2), (6, iQ j)]) (fun Z => pt g (a7 (Z.1.flatMap iI ++ sp) 3) :: kH 0 C :: R) ?_ ?_
 refine au 5 ?_
 refine a6 (bA (by omega)) ?_
 refine a6 (aG (aF (Gx l sp j (by omega)))) ?_
 refine ac (qJ (us := us) (cs := cs) rfl hp.call rfl (hp.spec (l.getD j 0) _)) ?_
 refine ag (fun c8 => ?_) fun c8 => ?_
 have hpj : p (l.getD j 0) = false := by simpa using c8
 refine a6 (bA (by omega)) ?_
 refine ax (dx (by rw [Qad, cj nJ]; omega) (Wj l sp m (l.getD j 0) (by omega))) ?_
 refine a6 (dG (m + 1)) ?_
 exact cu (l.set m (l.getD j 0), m + 1) (hD.move (by omega) hpj)
 have hpj : p (l.getD j 0) = true := by simpa using c8
 exact cu (l, m) (hD.skip (by omega) hpj)
 intro ⟨l2, m2⟩ hD2
 refine aw ?_
 refine a6 (dG (j + 1)) ?_
 refine bE (l2, m2, j + 1) ?_ (hμ := ?_)
 exact hD2
 show its.length - (j + 1) < its.length - j; omega
 refine aw ?_
 obtain rfl : j = its.length := by omega
 have hfr := hD.front
 rw [QaO (Qap _)] at hfr
 have hk : (lD p its).length = m := by rw [← hfr, QaP]; omega
 refine a6 (t6 fe aO rfl rfl rfl (by omega) (by omega) (Qab _)) ?_
 refine eW (Ax fe me (by simp [Value.cells, Value.oneCell']) rfl (by omega) (by rw [Qad, cj nJ]; show m * 1 + (its.length - m) * 1 ≤ _; omega)) ?_
 rintro _ B_ ⟨vs, hvs, rfl, hB_⟩
 obtain rfl := hB_.symm
 replace hvs : vs.length = (its.length - m) * 1 := hvs
 have hset : cz (l.flatMap iI ++ sp) (m * 1) vs = (lD p its).flatMap iI ++ (vs ++ sp) := by
  rw [pr _ _ _ (by rw [Qad, cj nJ]; omega), zJ nJ l m sp (by omega), hfr, show m * 1 + vs.length = l.length * 1 by omega, ut nJ l l.length sp (Qap _)]
  simp
 rw [hset]
 refine aw ?_
 refine a6 (lO fe aO rfl rfl rfl (by omega)) ?_
 refine a8 ?_
 rw [hk]
 exact ⟨_, ⟨_, _, rfl, rfl⟩, ez (by omega) h3 (by rw [cj nJ, hk]) (by rw [← h5]; simp only [Qad, cj nJ, hk, hvs]; omega)⟩
theorem Wo (g : Nat) (x y : Int) : sP W0 431 [.slice (some ⟨g, 0, none⟩) 2 2] (pt g (a7 [iQ x, iQ y] 3) :: R) (fun v B => ∃ (l : List Int) (sp : List Value), v = .slice (some ⟨g, 0, none⟩) l.length 2 ∧ l = (if x = y then [x] else [x, y]) ∧ (l.flatMap iI ++ sp).length = 2 ∧ B = pt g (a7 (l.flatMap iI ++ sp) 3) :: R) := by
 refine js 13 func431 ntmps431 ?_
 refine i5 ?_
 refine cK (fun k : Nat => k = 1 ∨ (k = 2 ∧ x ≠ y)) (fun k => [(0, .slice (some ⟨g, 0, none⟩) 2 2), (3, iQ k)]) (fun k => pt g (a7 [iQ x, iQ y] 3) :: R) (fun k => 2 - k) 1 ?_ ?_
 omega
 intro k hk
 refine aw ?_
 refine ag (fun c4 => ?_) fun c4 => ?_
 obtain rfl : k = 1 := by
  omega
 refine bB [g] 10 fun hS => ?_
 refine ae 0 2 hS ?_
 refine av 2 hS (gn fe aO rfl rfl (j := 1) rfl (by decide) (by first | exact Qab _ | rfl)) ?_
 refine ae 3 3 hS ?_
 refine av 6 hS eX ?_
 refine av 7 hS (gn fe aO rfl rfl (j := 0) rfl (by decide) (by first | exact Qab _ | rfl)) ?_
 refine ae 8 2 hS ?_
 refine aI ?_
 refine ag (fun c6 => ?_) fun c6 => ?_
 refine a6 (t6 fe aO rfl rfl (i := 1) rfl (by decide) (by decide) (Qab _)) ?_
 refine cK (fun j : Nat => j = 1) (fun j => [(0, .slice (some ⟨g, 0, none⟩) 2 2), (3, iQ 1), (4, .slice (some ⟨g, 1, none⟩) 1 1), (5, iQ j)]) (fun j => pt g (a7 [iQ x, iQ y] 3) :: R) (fun j => 2 - j) 1 ?_ ?_
 rfl
 intro j hj
 refine aw ?_
 refine aA rfl (fun c9 => ?_) fun c9 => ?_
 omega
 refine aw ?_
 refine a6 (t6 fe aO rfl rfl (i := 1) rfl (by decide) (by decide) (Qab _)) ?_
 refine eW (Ax fe me (by simp [Value.cells, Value.oneCell']) rfl (by decide) (Qaa rfl)) ?_
 rintro _ B_ ⟨vs, hvs, rfl, hB_⟩
 obtain rfl := hB_.symm
 obtain ⟨v, rfl⟩ : ∃ v, vs = [v] := by
  rcases vs with _ | ⟨v, _ | ⟨w, vs⟩⟩
  exact absurd hvs (by decide)
  grind
  exact absurd hvs (by simp [Value.cells])
 refine aw ?_
 refine a6 (lO fe aO rfl rfl (h := 1) rfl (by decide)) ?_
 refine a8 ?_
 have hxy : x = y := by omega
 exact ⟨_, ⟨[x], [v], rfl, by rw [Qaf hxy], rfl, rfl⟩, (inferInstance : Ent (pt g (a7 [iQ x, v] 3) :: R) (pt g (a7 [iQ x, v] 3) :: R))⟩
 refine a6 (dr rfl rfl (by rw [bN (by omega)]; rfl : IntKind.wrap .i64 (1 + 1) = ((2 : Nat) : Int))) ?_
 exact bE 2 (.inr ⟨rfl, by omega⟩)
 refine a8 ?_
 have hxy : x ≠ y := by
  rcases hk with h | h
  omega
  exact h.2
 exact ⟨_, ⟨[x, y], [], rfl, by rw [Qac hxy], rfl, rfl⟩, (inferInstance : Ent (pt g (a7 [iQ x, iQ y] 3) :: R) (pt g (a7 [iQ x, iQ y] 3) :: R))⟩
theorem Wp (W0 : World) (b : Nat) (L : List Ln) (hl : L.length ≤ 1000) : PFI W0 432 [pQ b] [] (bH [bG b L]) (eS L) := ⟨call432, fun x R => by
 refine nh ?_
 simp only [Qaw, Qat]
 refine gH (VT b L hl x) fun v B hB => ?_
 obtain ⟨rfl, rfl⟩ := hB
 exact ⟨_, ⟨rfl, rfl⟩, inferInstance⟩⟩
theorem Wq (b : Nat) (L : List Ln) (hl : L.length ≤ 1000) (r l : Int) : sP W0 406 [pQ b, iQ r, iQ l] (bG b L :: R) (fun v B => ∃ a c, v = .slice a (jT L r l).length c ∧ B = osl 3 1 (.slice a (jT L r l).length c) ((jT L r l).flatMap iI) :: bG b L :: R) := by
 refine ab func406 ntmps406 ?_
 refine a6 (pA rfl rfl (r := min r l) (by omega)) ?_
 refine a6 (rq rfl rfl (r := max r l) (by omega)) ?_
 refine d7 (jG fe aO me rfl rfl rfl rfl rfl (by decide) (by decide)) fun g => ?_
 refine am rfl (ah call431 (Wo g (min r l) (max r l))) ?_
 rintro _ B_ ⟨xs, sp, rfl, hxs, hlen, hB_⟩
 obtain rfl := hB_.symm
 have hfr : lD (eS L) xs = jT L r l := by
  grind [jT, lD]
 have h2 : xs.length ≤ 2 := by grind
 refine aw ?_
 refine am rfl (pw (B := pt g (a7 (xs.flatMap iI ++ sp) 3) :: kH 0 (bH [bG b L]) :: R) inferInstance (ao call430 (Wn xs g 2 sp 432 [pQ b] [] _ _ (Wp W0 b L hl) (by omega) h2 (by simp only [maxLen]; omega) hlen))) ?_
 rintro _ B_ ⟨a, c, rfl, hB_⟩
 obtain rfl := hB_.symm
 rw [hfr]
 refine wP ?_
 simp only [Qaw, Qat]
 refine aw ?_
 refine a8 ?_
 exact ⟨_, ⟨a, c, rfl, rfl⟩, IO⟩
theorem Wr (L : List Ln) (sp : List Value) (i : Nat) (hi : i < L.length) : ((L.flatMap bY ++ sp).drop (i * 7)).take 7 = bY L[i] := pq l5 L i sp hi
theorem GA (L : List Ln) (sp : List Value) (i j : Nat) (hi : i < L.length) (hj : j < 7) : (L.flatMap bY ++ sp)[i * 7 + j]? = (bY L[i])[j]? := lj l5 L i j sp hi hj
theorem GB (L : List Ln) (sp : List Value) (i : Nat) (hi : i < L.length) : (L.flatMap bY ++ sp).set (i * 7 + 4) (iQ (fk L[i].e.2.2)) = (L.set i L[i].nar).flatMap bY ++ sp :=
  mW l5 L i 4 _ _ sp hi (by decide) rfl
theorem Ws {W0 : World} {A R : List HP} {g : Nat} {L : List Ln} {sp : List Value} [h : Tk pt g A (a7 (L.flatMap bY ++ sp) 389) R] : bT (aB W0 A) (some ⟨g, 0, none⟩) 7 bY L := fun i x hx => by
 obtain ⟨hi, rfl⟩ := List.getElem?_eq_some_iff.1 hx
 refine ⟨g, 0, rfl, ?_⟩
 rw [Qab]
 exact bU (Wr L sp i hi) rfl
theorem Wt (b : Nat) (v0 : Value) : sQ W0 276 [pQ b] (pt b (a7 [v0, .bool true] 442) :: R) (.bool false) (pt b (a7 [v0, .bool true] 442) :: R) := by
 refine ab func276 ntmps276 ?_
 refine cR rfl rfl rfl (fun g1_3 => ?_) fun g1_3 => ?_
 cases g1_3
 refine aw ?_
 exact a8 aj
theorem Wu (b : Nat) (L : List Ln) (hl : L.length ≤ 1000) (a : Option Addr) (n c : Nat) (hn : L.length = n) (hs : bT (aB W0 (pt b (a7 [.slice a n c, .bool true] 442) :: R)) a 7 bY L) (p : Int) : sQ W0 432 [pQ b, iQ p] (pt b (a7 [.slice a n c, .bool true] 442) :: R) (.bool (eS L p)) (pt b (a7 [.slice a n c, .bool true] 442) :: R) := by
 subst hn
 refine ab func432 ntmps432 ?_
 refine ac (ah wh (Wt b _)) ?_
 refine cK (fun i : Nat => i ≤ L.length ∧ ∀ j (hj : j < L.length), j < i → L[j].thr p = false) (fun i => [(0, pQ b), (1, iQ p), (12, iQ (L.length : Nat)), (13, iQ i)]) (fun _ => pt b (a7 [.slice a L.length c, .bool true] 442) :: R) (fun i => L.length - i) 0 ?_ ?_
 grind
 intro i ⟨hi, hI⟩
 refine aw ?_
 refine aA rfl (fun c4 => ?_) fun c4 => ?_
 refine au 11 ?_
 have hi1 : i < L.length := by omega
 obtain ⟨g, o, hga, hc⟩ := hs.at_ hi1
 obtain ⟨x, hx⟩ : ∃ x, L[i] = x := ⟨_, rfl⟩
 have hyes : x.thr p = true → eS L p = true := fun q => rI.2 ⟨x, by rw [← hx]; exact QaK hi1, q⟩
 have hno : x.thr p = false → ∀ j (hj : j < L.length), j < i + 1 → L[j].thr p = false := fun q j hj hji => by
  rcases QaD j i with q2 | q2
  grind
  grind
 rw [hx] at hc
 refine aw ?_
 refine a6 (dH kG nW rfl hga rfl rfl hi1 (by first | exact Qab _ | rfl)) ?_
 refine ac (ao IZ (Bh g (o + i * 7) x hc p)) ?_
 refine ag (fun c6 => ?_) fun c6 => ?_
 refine a8 ?_
 rw [hyes c6]
 exact aj
 refine a6 bS ?_
 refine bE (i + 1) ?_
 grind
 refine aw ?_
 refine a8 ?_
 have ht : eS L p = false := by
  rw [← Qaz, rI]
  rintro ⟨x, hx, q⟩
  obtain ⟨j, hj, rfl⟩ := Qbn hx
  rw [hI j hj (by omega)] at q; cases q
 rw [ht]
 exact aj
def iK (r l : Int) (L : List Ln) (i : Nat) : List Ln := (L.take i).map (d4 r l) ++ L.drop i
theorem GC (r l : Int) (L : List Ln) (i : Nat) (hi : i ≤ L.length) : (iK r l L i).length = L.length := by simp [iK]; omega
theorem Wv {r l : Int} {L : List Ln} {i : Nat} (hi : i < L.length) : (iK r l L i)[i]'(by grind [GC]) = L[i] := by
 grind [iK]
theorem Ww {r l : Int} {L : List Ln} {i : Nat} (hi : i < L.length) : iK r l L (i + 1) = (iK r l L i).set i (d4 r l L[i]) := by
 have h1 : ((L.take i).map (d4 r l)).length = i := by simp; omega
 unfold iK
 rw [Qan hi, QaF, Qci, QaX hi (l := L), Qbp _ _ (by omega), h1, Nat.sub_self, List.set_cons_zero]
 simp
theorem GD (b : Nat) (L : List Ln) (z : Ln) (hl : (L ++ [z]).length ≤ 1000) (hr : ∀ x ∈ L ++ [z], i64 x.e.2.2) (r l : Int) : sQ W0 409 [pQ b, iQ r, iQ l] (bG b (L ++ [z]) :: R) (.tuple #[]) (bG b (tC ((L ++ [z]).map (d4 r l))) :: R) := by
 have hres : tC ((L ++ [z]).map (d4 r l)) = L.map (d4 r l) ++ [if eS ((L ++ [z]).map (d4 r l)) (d4 r l z).e.1 then (d4 r l z).nar else d4 r l z] := by
  rw [QaF, Qci, Gb]
 have hfull : iK r l (L ++ [z]) (L ++ [z]).length = (L ++ [z]).map (d4 r l) := by unfold iK; rw [QbR, List.drop_length, Qav]
 obtain ⟨M, hM⟩ : ∃ M, L ++ [z] = M := ⟨_, rfl⟩
 have hMl : M.length = L.length + 1 := by rw [← hM]; simp
 rw [hM] at hres hfull hl hr ⊢
 have hr2 : i64 (d4 r l z).e.2.2 := by
  have := hr z (by rw [← hM]; simp)
  unfold d4; split
  show i64 (fk z.e.2.2)
  obtain ⟨h1, h2⟩ := this
  unfold fk; split
  rename_i hw
  have := Qas hw
  exact ⟨by omega, by omega⟩
  exact ⟨h1, h2⟩
  exact this
 refine ab func409 ntmps409 ?_
 refine VR (b := b) (by intro q; rw [q] at hMl; simp at hMl) fun g c sp k1 k2 k3 => ?_
 refine aw ?_
 refine fQ (fun i : Nat => i ≤ M.length) (fun i => [(0, pQ b), (1, iQ r), (2, iQ l), (13, iQ (M.length : Nat)), (14, iQ i)]) (fun i => pt b (a7 [.slice (some ⟨g, 0, none⟩) M.length c, .bool true] 442) :: pt g (a7 ((iK r l M i).flatMap bY ++ sp) 389) :: R) (fun i => M.length - i) 0 ?_ ?_ ?_ ?_
 exact QaU _
 · repeat (first | exact ci | refine bQ rfl ?_)
 rw [show iK r l M 0 = M by simp [iK]]
 exact IO
 intro i hi
 refine aw ?_
 refine aA rfl (fun c1 => ?_) fun c1 => ?_
 refine au 2 ?_
 refine dO (fun _ : Unit => True) (fun _ => [(0, pQ b), (1, iQ r), (2, iQ l), (13, iQ (M.length : Nat)), (14, iQ i)]) (fun _ => pt b (a7 [.slice (some ⟨g, 0, none⟩) M.length c, .bool true] 442) :: pt g (a7 ((iK r l M (i + 1)).flatMap bY ++ sp) 389) :: R) ?_ ?_
 refine au 8 ?_
 have hi1 : i < M.length := by omega
 have hpl := GC r l M i hi
 have hat : (iK r l M i)[i]'(by rw [hpl]; exact hi1) = M[i] := Wv hi1
 have hsu := Ww (r := r) (l := l) hi1
 have hri := hr _ (QaK hi1)
 have hge := fun j hj => GA (iK r l M i) sp i j (by rw [hpl]; exact hi1) hj
 have hse := GB (iK r l M i) sp i (by rw [hpl]; exact hi1)
 rw [hat] at hge hse
 obtain ⟨x, hx⟩ : ∃ x, M[i] = x := ⟨_, rfl⟩
 rw [hx] at hsu hri hge hse
 refine aw ?_
 refine a6 (bA hi1) ?_
 refine a6 (aG (aF ((hge 2 (by decide)).trans rfl))) ?_
 refine cA (fun g4_4 => ?_) fun g4_4 => ?_
 refine a6 (bA hi1) ?_
 refine ac (ah J5 (Bi g (i * 7) ((iK r l M i).flatMap bY ++ sp) x.e.2.2 hri ((hge 4 (by decide)).trans rfl))) ?_
 rw [hse]
 refine cu () ?_ (he := ?_)
 trivial
 rw [hsu, show d4 r l x = x.nar from Qaf (by omega)]
 exact IO
 refine ag (fun c4 => ?_) fun c4 => ?_
 refine a6 (bA hi1) ?_
 refine ac (ah J5 (Bi g (i * 7) ((iK r l M i).flatMap bY ++ sp) x.e.2.2 hri ((hge 4 (by decide)).trans rfl))) ?_
 rw [hse]
 refine cu () ?_ (he := ?_)
 trivial
 rw [hsu, show d4 r l x = x.nar from Qaf (by omega)]
 exact IO
 refine cu () ?_ (he := ?_)
 trivial
 rw [hsu, show d4 r l x = x from Qac (by omega), show (iK r l M i).set i x = iK r l M i by rw [← hx, ← hat, QbE]]
 exact IO
 intro _ _
 refine aw ?_
 refine a6 bS ?_
 exact bE (i + 1) (by omega)
 refine aw ?_
 obtain rfl : i = M.length := by omega
 rw [hfull]
 have hml : (M.map (d4 r l)).length = M.length := Qax _
 have hln : L.length < (M.map (d4 r l)).length := by omega
 have hat : (M.map (d4 r l))[L.length] = d4 r l z := by simp [← hM]
 have hge := fun j hj => GA (M.map (d4 r l)) sp L.length j hln hj
 have hse := GB (M.map (d4 r l)) sp L.length hln
 have hst : (M.map (d4 r l)).set L.length (d4 r l z).nar = L.map (d4 r l) ++ [(d4 r l z).nar] := by
  rw [← hM, QaF, Qbp _ _ (by simp)]; simp
 have hst2 : M.map (d4 r l) = L.map (d4 r l) ++ [d4 r l z] := by rw [← hM, QaF]; rfl
 rw [hat] at hge hse
 refine bB [b] 12 fun hS => ?_
 refine ae 0 9 hS ?_
 refine av 9 hS (lQ L.length) ?_
 refine av 10 hS (bA (by omega)) ?_
 refine ae 11 1 hS ?_
 refine aI ?_
 refine a6 (aG (aF ((hge 2 (by decide)).trans rfl))) ?_
 refine ac (ah call432 (Wu b (M.map (d4 r l)) (by omega) (some ⟨g, 0, none⟩) M.length c hml (Ws (g := g) (sp := sp)) (d4 r l z).e.1)) ?_
 refine ag (fun c8 => ?_) fun c8 => ?_
 refine ac (ah J5 (Bi g (L.length * 7) ((M.map (d4 r l)).flatMap bY ++ sp) (d4 r l z).e.2.2 hr2 ((hge 4 (by decide)).trans rfl))) ?_
 rw [hse, hst]
 refine bM (.inr rfl) .nil ?_
 rw [hres, Qaf c8]
 exact ⟨_, ⟨rfl, rfl⟩, Gl (b := b) rfl (by simp; omega) (by omega) k2 (by rw [← k3]; simp only [Qad, cj l5, Qax, Qcm]; omega)⟩
 refine bM (.inr rfl) .nil ?_
 rw [hres, Qac c8, ← hst2]
 exact ⟨_, ⟨rfl, rfl⟩, Gl (b := b) rfl hml.symm (by omega) k2 (by rw [← k3]; simp only [Qad, cj l5, Qax])⟩
theorem GE (l : List Ln) (a : Option Addr) (n c : Nat) (hl : l.length = n) (hN : n ≤ 1000) (hs : bT (aB W0 R) a 7 bY l) : sP W0 408 [.slice a n c] R (fun v B => ∃ a' c', v = .slice a' n c' ∧ B = osl 389 7 (.slice a' n c') (l.flatMap bY) :: R) := by
 subst hl
 refine ab func408 ntmps408 ?_
 refine a6 (uz kG rfl rfl) ?_
 refine aA rfl (fun c1 => ?_) fun c1 => ?_
 refine au 7 ?_
 refine a8 ?_
 have h0 : l = [] := by
  rcases l with _ | ⟨x, l⟩
  rfl
  obtain ⟨b, o, h, _⟩ := hs 0 x rfl
  rw [c1] at h; cases h
 subst h0
 exact ⟨_, ⟨none, 0, rfl, rfl⟩, eH⟩
 have hsrc := hs.src l5 (fun _ => trivial)
 refine jj (aD (aP (aZ (am rfl (qN kG nW rfl) ?_))))
 rintro _ _ ⟨be, rfl, rfl⟩
 refine aw ?_
 refine am rfl (xt (sz := 7) (by_ := 56) (info := Tryz.t389) kG (by kernel_rfl) rfl rfl rfl rfl (by decide) rfl rfl (news := l.flatMap bY) (by
 rcases hsrc with h | ⟨bs, os, h1, h2⟩
 grind
 right; exact ⟨bs, os, h1, h2.weak⟩) (cj l5 l) (y9 G8 l) (by simp only [maxLen]; omega) (by omega)) ?_
 rintro _ _ ⟨a1, c1, rfl, rfl⟩
 refine aw ?_
 refine a8 ?_
 rw [Qab, Qat]
 exact ⟨_, ⟨a1, c1, rfl, rfl⟩, IO⟩
theorem Wx (k : cF) (e : ib) (r l : Int) (L : List Ln) : vE (vD k e r l L) = ig k L ++ [⟨k, e, r, l⟩] := by
 grind [vE, vD, ig]
theorem GF {α : Type} {S : World → Prop} {a : Option Addr} {g o sz : Nat} {f : α → List Value} {xs : List α} (h : bT S a sz f xs) (ha : a = some ⟨g, o, none⟩) : bT S (some ⟨g, o + sz, none⟩) sz f xs.tail := fun i x hx => by
 obtain ⟨b, off, e, hc⟩ := h (i + 1) x (by grind)
 rw [ha] at e; cases e
 exact ⟨g, o + sz, rfl, by rw [show o + sz + i * sz = o + (i + 1) * sz by rw [QbN]; omega]; exact hc⟩
theorem Wy (b : Nat) (L : List Ln) (hl : L.length ≤ 32) (hr : ∀ x ∈ L, i64 x.e.2.2) (k : cF) (e : ib) (he : i64 e.2.2) (r l : Int) (h1 : rK r = true) (h2 : rK l = true) : sP W0 388 [pQ b, .agg (fj k).toArray, .agg (m5 e).toArray, iQ r, iQ l] (bG b L :: R) (fun v B => ∃ a c, v = .tuple #[.slice a (jT L r l).length c, iQ 0] ∧ B = osl 3 1 (.slice a (jT L r l).length c) ((jT L r l).flatMap iI) :: bG b (jU k e r l L) :: R) := by
 have hflt : L.filter (fun x => !(decide (x.k = k))) = L.filter fun x => decide (x.k ≠ k) := by
  grind
 obtain ⟨M, hM⟩ : ∃ M, (L.filter fun x => decide (x.k ≠ k)) = M := ⟨_, rfl⟩
 have hMl : M.length ≤ 32 := by grind
 have hO : ig k L = if 31 < M.length then M.tail else M := by rw [ig, hM]
 have hOl := Gi (k := k) hl
 have hOm : ∀ x ∈ ig k L ++ [(⟨k, e, r, l⟩ : Ln)], i64 x.e.2.2 := fun x hx => by
  rcases Qbc.1 hx with q | q
  grind [Bc]
  grind
 have hF : jU k e r l L = tC ((ig k L ++ [(⟨k, e, r, l⟩ : Ln)]).map (d4 r l)) := by rw [jU, Wx]
 obtain ⟨fr, hfr⟩ : ∃ f, jT L r l = f := ⟨_, rfl⟩
 rw [hfr, hF]
 refine ab func388 ntmps388 ?_
 refine aS fun b6 => ?_
 refine aS fun b7 => ?_
 refine ac (ah wh (vG b L)) ?_
 refine ac (ao call405 (Gm r)) ?_
 rw [h1]
 refine ag (fun c3 => ?_) fun c3 => ?_
 exact absurd rfl c3
 refine ac (ao call405 (Gm l)) ?_
 rw [h2]
 refine aA rfl (fun c4 => ?_) fun c4 => ?_
 exact absurd rfl c4
 refine jj (lL (aD (aP (aZ (aa rfl (aL rfl) (aa rfl (aL rfl) (aa rfl (aL rfl) ?_)))))))
 refine am rfl (ah call406 (Wq b L (by omega) r l)) ?_
 rintro _ B_ ⟨af, cf, rfl, hB_⟩
 obtain rfl := hB_.symm
 rw [hfr]
 refine aa rfl (bC rfl) (aN (aD (aP (aZ (aa rfl (aL rfl) (aa rfl (uu rfl rfl) ?_))))))
 refine am rfl (pw (B := bG b L :: kH 0 (bH [pt b6 (a7 (fj k) 380)]) :: osl 3 1 (.slice af fr.length cf) (fr.flatMap iI) :: pt b7 (a7 (m5 e) 385) :: R) inferInstance (ao J4 (Bj b L (by omega) 407 [pQ b6] _ _ (VU W0 b6 k)))) ?_
 rintro _ B_ ⟨ak, ck, rfl, hB_⟩
 obtain rfl := hB_.symm
 rw [hflt, hM]
 refine wP ?_
 simp only [Qaw, Qat]
 refine vF (b := b) fun a c => ?_
 refine aN (aD (aP ?_))
 refine bB [b6, b7] 16 fun hS => ?_
 refine ae 0 4 hS ?_
 refine ae 5 2 hS ?_
 refine av 7 hS (fw Ip Cg (aM oZ (aM p7 fq)) (iP rfl oZ rfl rfl (Qaa rfl) SetRL.eq (iP rfl p7 rfl rfl (Qaa rfl) SetRL.eq fp))) ?_
 refine ae 8 2 hS ?_
 refine av 10 hS (fw a1O z7 (aM p8 (aM aO (aM aO fq))) (iP rfl p8 rfl rfl (Qaa rfl) SetRL.eq (cQ rfl aO rfl rfl (Qaa rfl) SetL.eq (cQ rfl aO rfl rfl (Qaa rfl) SetL.eq fp)))) ?_
 refine eG (is := [4, 11]) (by kernel_rfl) rfl ⟨?_, ?_, trivial⟩
 refine di (db (aG (aF rfl))) ?_; clear hS
 rintro _ _ ⟨rfl, rfl⟩
 refine ⟨aK, fun hS => ?_⟩
 refine li 11 (by kernel_rfl) rfl rfl (iz kG nW z7 rfl (eJ rfl rfl gG) rfl (by decide) (by decide) (by decide)) rfl ?_; clear hS
 rintro _ _ ⟨bb, rfl, rfl⟩
 rw [show ([bY (⟨k, e, r, l⟩ : Ln)] : List (List Value)).flatten = bY (⟨k, e, r, l⟩ : Ln) from Qav _]
 refine ⟨aK, fun hS => ?_⟩
 refine cg 12 (eI (sz := 7) (by_ := 56) (info := Tryz.t389) kG (by kernel_rfl) rfl rfl rfl rfl (by decide) rfl rfl eA rfl rfl (by simp only [maxLen]; omega) (by omega)) ?_; clear hS
 rintro _ _ ⟨a3, c3, rfl, rfl⟩
 refine ⟨aK, fun hS => ?_⟩
 refine ae 13 2 hS ?_
 refine cq 15 dy fun hS => ?_
 refine fy ?_
 refine au 1 ?_
 refine dO (fun _ : Unit => True) (fun _ => [(0, pQ b), (3, iQ r), (4, iQ l), (12, .slice af fr.length cf)]) (fun _ => bG b (ig k L ++ [(⟨k, e, r, l⟩ : Ln)]) :: osl 3 1 (.slice af fr.length cf) (fr.flatMap iI) :: R) ?_ ?_
 refine au 10 ?_
 refine ag (fun c9 => ?_) fun c9 => ?_
 have hfm : (M.flatMap bY ++ bY (⟨k, e, r, l⟩ : Ln)) = (M ++ [(⟨k, e, r, l⟩ : Ln)]).flatMap bY := by grind
 refine pC (E := 389) (sz := 7) (a := a3) (c := c3) (n := M.length + 1) (ys := M.flatMap bY ++ bY (⟨k, e, r, l⟩ : Ln)) (fun hf => ?_)
 obtain ⟨g, rfl⟩ := sT hf (by simp [bY])
 refine xb (E := 389) (sz := 7) (a := some ⟨g, 0, none⟩) (c := c3) (n := M.length + 1) (fun hcap => ?_)
 refine ke (E := 389) (sz := 7) (a := some ⟨g, 0, none⟩) (c := c3) (n := M.length + 1) bY (M ++ [(⟨k, e, r, l⟩ : Ln)]) l5 (by decide) hfm (fun hs => ?_)
 refine aw ?_
 refine a6 (t6 (o' := 0 + 7) kG nW rfl rfl (i := 1) rfl (by omega) (by omega) rfl) ?_
 refine am rfl (ao call408 (GE ((M ++ [(⟨k, e, r, l⟩ : Ln)]).tail) (some ⟨g, 0 + 7, none⟩) (M.length + 1 - 1) (c3 - 1) (by simp) (by omega) (GF hs rfl))) ?_
 rintro _ B_ ⟨a4, c4, rfl, hB_⟩
 obtain rfl := hB_.symm
 refine aa rfl (jp rfl) ?_
 refine aa rfl (cG rfl a1R rfl Ie rfl (by first | exact Qab _ | rfl)) ?_
 refine eW (ka Ie rfl rfl rfl (Qaa rfl) SetL.eq) ?_
 rintro _ _ rfl
 refine aN (aD ?_)
 refine cu () ?_ (he := ?_)
 trivial
 have hne : M ≠ [] := by grind
 have htl : (M ++ [(⟨k, e, r, l⟩ : Ln)]).tail = M.tail ++ [(⟨k, e, r, l⟩ : Ln)] := List.tail_append_of_ne_nil hne
 rw [hO, Qaf (by omega), ← htl]
 exact Ent.trans (B := pt b (a7 [.slice a4 (M.length + 1 - 1) c4, .bool true] 442) :: osl 389 7 (.slice a4 (M.length + 1 - 1) c4) ((M ++ [(⟨k, e, r, l⟩ : Ln)]).tail.flatMap bY) :: osl 3 1 (.slice af fr.length cf) (fr.flatMap iI) :: R) inferInstance (oN (b := b) (by simp))
 refine cu () ?_ (he := ?_)
 trivial
 rw [hO, Qac (by omega)]
 have hfm : (M.flatMap bY ++ bY (⟨k, e, r, l⟩ : Ln)) = (M ++ [(⟨k, e, r, l⟩ : Ln)]).flatMap bY := by grind
 rw [hfm]
 exact Ent.trans (B := pt b (a7 [.slice a3 (M.length + 1) c3, .bool true] 442) :: osl 389 7 (.slice a3 (M.length + 1) c3) ((M ++ [(⟨k, e, r, l⟩ : Ln)]).flatMap bY) :: osl 3 1 (.slice af fr.length cf) (fr.flatMap iI) :: R) inferInstance (oN (b := b) (by simp))
 intro _ _
 refine aP (aZ (aa rfl (aL rfl) (aa rfl (aL rfl) (aa rfl (aL rfl) ?_))))
 refine am rfl (lh call409 rfl (GD b (ig k L) (⟨k, e, r, l⟩ : Ln) (by simp; omega) hOm r l)) ?_
 rintro _ B_ ⟨rfl, hB_⟩
 obtain rfl := hB_.symm
 refine aN (aD (aP (aZ (aa rfl (aL rfl) (aa rfl (bC rfl) (aa rfl (bC rfl) (aN (aD (dT (az ?_))))))))))
 exact ⟨_, ⟨af, cf, rfl, rfl⟩, IO⟩
 skip
 refine kJ rfl rfl (iz kG nW z7 rfl (eJ rfl rfl gG) rfl (by decide) (by decide) (by decide)) rfl ?_; clear hS
 rintro _ _ ⟨bb, rfl, rfl⟩
 rw [show ([bY (⟨k, e, r, l⟩ : Ln)] : List (List Value)).flatten = bY (⟨k, e, r, l⟩ : Ln) from Qav _]
 refine ⟨aK, fun hS => ?_⟩
 refine bJ 4 (db (aG (aF rfl))) fun hS => ?_
 refine cg 12 (eI (sz := 7) (by_ := 56) (info := Tryz.t389) kG (by kernel_rfl) rfl rfl rfl rfl (by decide) rfl rfl eA rfl rfl (by simp only [maxLen]; omega) (by omega)) ?_; clear hS
 rintro _ _ ⟨a3, c3, rfl, rfl⟩
 refine ⟨aK, fun hS => ?_⟩
 refine ae 13 2 hS ?_
 refine cq 15 dy fun hS => ?_
 refine fy ?_
 refine au 1 ?_
 refine dO (fun _ : Unit => True) (fun _ => [(0, pQ b), (3, iQ r), (4, iQ l), (12, .slice af fr.length cf)]) (fun _ => bG b (ig k L ++ [(⟨k, e, r, l⟩ : Ln)]) :: osl 3 1 (.slice af fr.length cf) (fr.flatMap iI) :: R) ?_ ?_
 refine au 10 ?_
 refine ag (fun c9 => ?_) fun c9 => ?_
 have hfm : (M.flatMap bY ++ bY (⟨k, e, r, l⟩ : Ln)) = (M ++ [(⟨k, e, r, l⟩ : Ln)]).flatMap bY := by grind
 refine pC (E := 389) (sz := 7) (a := a3) (c := c3) (n := M.length + 1) (ys := M.flatMap bY ++ bY (⟨k, e, r, l⟩ : Ln)) (fun hf => ?_)
 obtain ⟨g, rfl⟩ := sT hf (by simp [bY])
 refine xb (E := 389) (sz := 7) (a := some ⟨g, 0, none⟩) (c := c3) (n := M.length + 1) (fun hcap => ?_)
 refine ke (E := 389) (sz := 7) (a := some ⟨g, 0, none⟩) (c := c3) (n := M.length + 1) bY (M ++ [(⟨k, e, r, l⟩ : Ln)]) l5 (by decide) hfm (fun hs => ?_)
 refine aw ?_
 refine a6 (t6 (o' := 0 + 7) kG nW rfl rfl (i := 1) rfl (by omega) (by omega) rfl) ?_
 refine am rfl (ao call408 (GE ((M ++ [(⟨k, e, r, l⟩ : Ln)]).tail) (some ⟨g, 0 + 7, none⟩) (M.length + 1 - 1) (c3 - 1) (by simp) (by omega) (GF hs rfl))) ?_
 rintro _ B_ ⟨a4, c4, rfl, hB_⟩
 obtain rfl := hB_.symm
 refine aw ?_
 refine ax dy ?_
 refine cu () ?_ (he := ?_)
 trivial
 have hne : M ≠ [] := by grind
 have htl : (M ++ [(⟨k, e, r, l⟩ : Ln)]).tail = M.tail ++ [(⟨k, e, r, l⟩ : Ln)] := List.tail_append_of_ne_nil hne
 rw [hO, Qaf (by omega), ← htl]
 exact Ent.trans (B := pt b (a7 [.slice a4 (M.length + 1 - 1) c4, .bool true] 442) :: osl 389 7 (.slice a4 (M.length + 1 - 1) c4) ((M ++ [(⟨k, e, r, l⟩ : Ln)]).tail.flatMap bY) :: osl 3 1 (.slice af fr.length cf) (fr.flatMap iI) :: R) inferInstance (oN (b := b) (by simp))
 refine cu () ?_ (he := ?_)
 trivial
 rw [hO, Qac (by omega)]
 have hfm : (M.flatMap bY ++ bY (⟨k, e, r, l⟩ : Ln)) = (M ++ [(⟨k, e, r, l⟩ : Ln)]).flatMap bY := by grind
 rw [hfm]
 exact Ent.trans (B := pt b (a7 [.slice a3 (M.length + 1) c3, .bool true] 442) :: osl 389 7 (.slice a3 (M.length + 1) c3) ((M ++ [(⟨k, e, r, l⟩ : Ln)]).flatMap bY) :: osl 3 1 (.slice af fr.length cf) (fr.flatMap iI) :: R) inferInstance (oN (b := b) (by simp))
 intro _ _
 refine aw ?_
 refine ac (ah call409 (GD b (ig k L) (⟨k, e, r, l⟩ : Ln) (by simp; omega) hOm r l)) ?_
 refine az ?_
 exact ⟨_, ⟨af, cf, rfl, rfl⟩, IO⟩
def Wz (pg : List Pl) (n : Int) : List Pl := if aX pg n then pg.set n.toNat (0, 0) else pg
theorem yj {fr : List ap} {pg : List Pl} {va : Nat} {a : Int} : iW fr pg va a = true ↔ eK fr.length pg a (va / 1024) = true ∧ qU (eC fr pg a (va / 1024)) = 0 := by simp [iW]
structure WkOkM (fr : List ap) (pg : List Pl) (root : Int) (va : Nat) : Prop where
  lim : va < 16384
  rb : iW fr pg va root = true
  lt : eK fr.length pg (eZ fr pg va root) (va / 64) = true
  eq : bO fr pg root va = ⟨od (eC fr pg (eZ fr pg va root) (va / 64)), oe (eC fr pg (eZ fr pg va root) (va / 64)), oi (eC fr pg (eZ fr pg va root) (va / 64)), 0, root, eZ fr pg va root⟩
  lf : oj (eC fr pg (eZ fr pg va root) (va / 64)) = 0
theorem yk {fr : List ap} {pg : List Pl} {root : Int} {va : Nat} (h : (bO fr pg root va).fault = 0) : WkOkM fr pg root va := by
 unfold bO at h
 by_cases h1 : va < 16384
 rw [Qaf h1] at h
 by_cases h2 : iW fr pg va root = true
 rw [Qaf h2] at h
 have hb := yj.1 h2
 simp only [eL, ou] at h
 by_cases h3 : eK fr.length pg (eZ fr pg va root) (va / 64) = true
 rw [Qaf h3] at h
 refine ⟨h1, h2, h3, ?_, h⟩
 rw [bO, Qaf h1, Qaf h2]
 simp only [eL, ou]
 rw [Qaf h3, km, Qaf hb.1]
 simp only [ot]
 rw [show oj (eC fr pg (eZ fr pg va root) (va / 64)) = 0 from h]
 grind
 rw [Qac h2] at h
 simp only [eL, km] at h
 by_cases h3 : eK fr.length pg root (va / 1024) = true
 rw [Qaf h3] at h
 exact absurd (yj.2 ⟨h3, h⟩) h2
 grind
 grind [eL]
def yl (fr : List ap) (pg : List Pl) (fr' : List ap) (pg' : List Pl) (t : Int) : Prop := ∀ i, eK fr'.length pg' t i = eK fr.length pg t i ∧ eC fr' pg' t i = eC fr pg t i
theorem WA {fr fr' : List ap} {pg pg' : List Pl} {root : Int} {va : Nat} (h : WkOkM fr pg root va) (h1 : yl fr pg fr' pg' root) (h2 : yl fr pg fr' pg' (eZ fr pg va root)) : bO fr' pg' root va = bO fr pg root va := by
 have ea : eZ fr' pg' va root = eZ fr pg va root := by unfold eZ; rw [(h1 _).1, (h1 _).2]
 have eb : iW fr' pg' va root = iW fr pg va root := by unfold iW; rw [(h1 _).1, (h1 _).2]
 have es : ∀ s, km fr' pg' va root s = km fr pg va root s := fun s => by unfold km; rw [(h1 _).1, (h1 _).2]
 rw [bO, bO, Qaf h.lim, Qaf h.lim, eb, h.rb, Qaf rfl, Qaf rfl]
 simp only [eL]
 rw [ea, es]
 unfold ou
 rw [(h2 _).1, (h2 _).2]
theorem GG {t i j : Nat} (h : j < 4) : (64 * t + 4 * (i % 16) + j) / 64 = t := by omega
theorem Bo {fr : List ap} {pg : List Pl} {t : Int} {i : Nat} (h : eK fr.length pg t i = true) : aX pg t = true := by
 obtain ⟨h1, h2⟩ := re.1 h
 obtain ⟨k, rfl⟩ : ∃ k : Nat, t = (k : Int) := ⟨t.toNat, by omega⟩
 have := (wZ.1 h2).2 0 (by decide)
 rw [show mo (fK (k : Int) i + 0) = (k : Int) by rw [show fK (k : Int) i = 64 * k + 4 * (i % 16) from rfl, mo, GG (by decide)]] at this
 exact (RF.1 this).1
theorem WB {fr fr' : List ap} {pg pg' : List Pl} {t : Int} (hl : fr'.length = fr.length) (ht : aX pg' t = aX pg t) (hg : cy pg' t = cy pg t) (hd : aX pg t = true → ∀ o : Nat, o < 64 → kN fr' (cy pg t).1 o 1 = kN fr (cy pg t).1 o 1) : yl fr pg fr' pg' t := by
 intro i
 by_cases h0 : 0 ≤ t ∧ t < 8
 · obtain ⟨k, rfl⟩ : ∃ k : Nat, t = (k : Int) := ⟨t.toNat, by omega⟩
   have hpa : fK (k : Int) i = 64 * k + 4 * (i % 16) := rfl
   have hpg : ∀ j, j < 4 → mo (fK (k : Int) i + j) = (k : Int) := fun j hj => by
    rw [hpa, mo, GG hj]
   have hown : kj fr'.length pg' (fK (k : Int) i) 4 = kj fr.length pg (fK (k : Int) i) 4 := by
    have e : ∀ j, j < 4 → lR fr'.length pg' (mo (fK (k : Int) i + j)) = lR fr.length pg (mo (fK (k : Int) i + j)) := fun j hj => by
     rw [hpg j hj, lR, lR, ht, hg, hl]
    unfold kj
    congr 1
    apply QaJ.2
    unfold mp
    constructor
    grind
    grind
   have hb : eK fr'.length pg' (k : Int) i = eK fr.length pg (k : Int) i := by grind [eK]
   refine ⟨hb, ?_⟩
   unfold eC
   rw [hb]
   by_cases hbt : eK fr.length pg (k : Int) i = true
   case neg => rw [Qac hbt, Qac hbt]
   have hr : kl fr' pg' (fK (k : Int) i) 4 = kl fr pg (fK (k : Int) i) 4 := by
    unfold kl
    apply List.map_congr_left
    intro j hj
    have hj := Qbs.1 hj
    unfold om ol
    rw [hpg j hj, hg]
    exact hd (Bo hbt) _ (Qcy _ (by decide))
   rw [hr]
 have h1 : ∀ n p, eK n p t i = false := fun n p => by unfold eK; rw [Qaq h0, Bool.false_and]
 refine ⟨by rw [h1, h1], ?_⟩
 unfold eC; rw [h1, h1, Qac (by decide), Qac (by decide)]
theorem WC {fr : List ap} {f f' off w o k : Int} {x : Nat} (h : f' ≠ f) : kN (eY fr f off w x) f' o k = kN fr f' o k := by
 unfold eY
 split
 rename_i hs
 simp only [ju, Qar] at hs
 obtain ⟨i, rfl, hi⟩ := pE hs.1
 unfold kN
 rw [Qao]
 split
 grind [pE]
 rfl
 rfl
structure LOk (fr : List ap) (pg : List Pl) (d : Nat) (x : Ln) : Prop where
  own : (0 ≤ x.rt ∧ x.rt < 8) ∧ (0 ≤ x.lf ∧ x.lf < 8)
  at_ : aX pg x.e.1 = true ∧ (cy pg x.e.1).1 = x.e.2.1
  al : ∀ k, ml k = true → dY x.e.2.2 (iV k) = true → gy pg x.e.1 k = 0
  r : 0 ≤ x.e.2.2 ∧ x.e.2.2 < 16
  wk : Nat.testBit d x.rt.toNat = false → Nat.testBit d x.lf.toNat = false → ∀ va, va < 16384 → ((va / 64 : Nat) : Int) = x.k.2 → WkOkM fr pg x.k.1 va ∧ x.k.1 = x.rt ∧ eZ fr pg va x.k.1 = x.lf ∧ (bO fr pg x.k.1 va).on = true ∧ (bO fr pg x.k.1 va).p = x.e.1 ∧ ∀ c, c = 1 ∨ c = 2 ∨ c = 4 ∨ c = 8 → dY x.e.2.2 c = true → dY (bO fr pg x.k.1 va).r c = true
theorem WE {pg pg' : List Pl} {n : Int} (ht : aX pg n = true) (ht' : aX pg' n = true) (hg : cy pg' n = cy pg n) (k : Int) : gy pg' n k = gy pg n k := by
 grind [cy, gy]
theorem LOk.move {fr fr' : List ap} {pg pg' : List Pl} {d d' : Nat} {x : Ln} (h : LOk fr pg d x) (ht : aX pg' x.e.1 = true) (hg : cy pg' x.e.1 = cy pg x.e.1)
    (hs : ∀ t, t = x.rt ∨ t = x.lf → Nat.testBit d' t.toNat = false → Nat.testBit d t.toNat = false ∧ (aX pg t = true → yl fr pg fr' pg' t)) : LOk fr' pg' d' x := by
 refine ⟨h.own, ⟨ht, by rw [hg]; exact h.at_.2⟩, fun k hk hb => ?_, h.r, fun h1 h2 va hva hk => ?_⟩
 rw [WE h.at_.1 ht hg]; exact h.al k hk hb
 obtain ⟨a1, b1⟩ := hs x.rt (.inl rfl) h1
 obtain ⟨a2, b2⟩ := hs x.lf (.inr rfl) h2
 obtain ⟨q1, q2, q3, q4, q5, q6⟩ := h.wk a1 a2 va hva hk
 have e := WA q1 (by rw [q2]; exact b1 (by rw [← q2]; exact Bo (yj.1 q1.rb).1)) (by rw [q3]; exact b2 (by rw [← q3]; exact Bo q1.lt))
 have ef : (bO fr' pg' x.k.1 va).fault = 0 := by rw [e, q1.eq]
 refine ⟨yk ef, q2, ?_, by rw [e]; exact q4, by rw [e]; exact q5, fun c hc hb => by rw [e]; exact q6 c hc hb⟩
 have e2 := (yk ef).eq
 rw [e, q1.eq] at e2
 have := Qah WS.leaf e2
 rw [← q3]; exact this.symm
theorem LOk.clean {fr : List ap} {pg : List Pl} {d : Nat} {x : Ln} (h : LOk fr pg d x) (hc : ∀ n ∈ gz d 12, x.thr ((n : Nat) : Int) = false) : LOk fr pg 0 x := by
 refine ⟨h.own, h.at_, h.al, h.r, fun _ _ => h.wk ?_ ?_⟩
 rw [← Qaz]; intro q
 have := hc x.rt.toNat (by rw [gz, QaL, Qbs]; exact ⟨by have := h.own; omega, q⟩)
 rw [← Qaz, rH] at this
 exact this (.inl (by have := h.own; omega))
 rw [← Qaz]; intro q
 have := hc x.lf.toNat (by rw [gz, QaL, Qbs]; exact ⟨by have := h.own; omega, q⟩)
 rw [← Qaz, rH] at this
 exact this (.inr (by have := h.own; omega))
theorem LOk.nar {fr : List ap} {pg : List Pl} {d : Nat} {x : Ln} (h : LOk fr pg d x) : LOk fr pg d x.nar := by
 have hb : ∀ c, c = 1 ∨ c = 2 ∨ c = 4 ∨ c = 8 → dY x.nar.e.2.2 c = true → dY x.e.2.2 c = true := fun c hc hq => by
  obtain ⟨n, hn⟩ : ∃ n : Nat, x.e.2.2 = (n : Int) := ⟨x.e.2.2.toNat, by have := h.r; omega⟩
  have hlt : n < 16 := by have := h.r; omega
  have e1 : x.nar.e.2.2 = fk x.e.2.2 := rfl
  rw [e1, hn] at hq
  rw [hn]
  have key : ∀ n : Nat, n < 16 → ∀ c : Int, c = 1 ∨ c = 2 ∨ c = 4 ∨ c = 8 → dY (fk (n : Int)) c = true → dY (n : Int) c = true := by
   intro n hn c hc
   have : n = 0 ∨ n = 1 ∨ n = 2 ∨ n = 3 ∨ n = 4 ∨ n = 5 ∨ n = 6 ∨ n = 7 ∨ n = 8 ∨ n = 9 ∨ n = 10 ∨ n = 11 ∨ n = 12 ∨ n = 13 ∨ n = 14 ∨ n = 15 := by omega
   rcases this with rfl | rfl | rfl | rfl | rfl | rfl | rfl | rfl | rfl | rfl | rfl | rfl | rfl | rfl | rfl | rfl <;> rcases hc with rfl | rfl | rfl | rfl <;> decide
  exact key n hlt c hc hq
 refine ⟨h.own, h.at_, fun k hk hq => h.al k hk (hb _ ?_ hq), ?_, fun h1 h2 va hva hk => ?_⟩
 unfold iV
 have := Qas hk
 rcases this with rfl | rfl | rfl
 omega
 omega
 omega
 show 0 ≤ fk x.e.2.2 ∧ fk x.e.2.2 < 16
 have := h.r
 unfold fk; split
 rename_i hw
 have := Qas hw
 omega
 exact h.r
 obtain ⟨q1, q2, q3, q4, q5, q6⟩ := h.wk h1 h2 va hva hk
 exact ⟨q1, q2, q3, q4, q5, fun c hc hq => q6 c hc (hb c hc hq)⟩
structure PlOk (n : Nat) (pg : List Pl) : Prop where
  rng : ∀ t, aX pg t = true → (cy pg t).1 < (n : Int)
  inj : ∀ s t, aX pg s = true → aX pg t = true → (cy pg s).1 = (cy pg t).1 → s = t
structure MOk (fr : List ap) (pg : List Pl) (d : Nat) (L : List Ln) (TL : List It) : Prop where
  F : cC fr
  dl : d < 4096
  P : Pgs pg
  pl : PlOk fr.length pg
  ti : TI L TL
  ln : ∀ x ∈ L, LOk fr pg d x
theorem MOk.save {fr : List ap} {pg : List Pl} {d d' : Nat} {L : List Ln} {TL : List It} (h : MOk fr pg d L TL) {p : Int} (hp : aX pg p = true) (off w : Int) (x : Nat) (hd' : d' < 4096)
    (hk : ∀ t : Nat, Nat.testBit d' t = false → Nat.testBit d t = false) (hno : ∀ y ∈ L, ∀ t, t = y.rt ∨ t = y.lf → Nat.testBit d' t.toNat = false → t ≠ p) : MOk (eY fr (cy pg p).1 off w x) pg d' L TL := by
 refine ⟨A3 h.F, hd', h.P, by rw [wT]; exact h.pl, h.ti, fun y hy => ?_⟩
 have hl := h.ln y hy
 by_cases hc : Nat.testBit d' y.rt.toNat = false ∧ Nat.testBit d' y.lf.toNat = false
 refine hl.move hl.at_.1 rfl fun t ht hb => ⟨hk _ hb, fun _ => ?_⟩
 refine WB wT rfl rfl fun q o ho => ?_
 apply WC
 intro e
 exact hno y hy t ht hb (h.pl.inj _ _ q hp e)
 refine ⟨hl.own, hl.at_, hl.al, hl.r, fun h1 h2 => absurd ⟨h1, h2⟩ hc⟩
abbrev cN (pv bt bs : Nat) : Obj := a7 [.pointer (some ⟨pv, 0, none⟩), .pointer (some ⟨bt, 0, none⟩), .pointer (some ⟨bs, 0, none⟩)] 325
theorem ym (bm pv bt bs : Nat) : sQ W0 198 [pQ bm] (pt bm (cN pv bt bs) :: R) (.bool false) (pt bm (cN pv bt bs) :: R) := by
 refine ab func198 ntmps198 ?_
 refine cR rfl rfl rfl (fun g1_3 => ?_) fun g1_3 => ?_
 cases g1_3
 refine aw ?_
 exact a8 aj
def mu (ks : List cF) (T : List It) : List It := ks.foldl (fun T k => ic k T) T
theorem WG {ks : List cF} : ∀ {T : List It} {y : It}, y ∈ mu ks T → y ∈ T ∧ y.key ∉ ks := by
 induction ks with
 | nil => intro T y h; exact ⟨h, by simp⟩
 | cons k ks ih =>
  intro T y h
  obtain ⟨h1, h2⟩ := ih (T := ic k T) h
  obtain ⟨h3, h4⟩ := q9.1 h1
  refine ⟨h3, fun q => ?_⟩
  rcases QaZ.1 q with q | q
  exact h4 q
  exact h2 q
theorem GH {ks : List cF} : ∀ {T : List It}, (mu ks T).length ≤ T.length := by
 induction ks with
 | nil => intro T; exact Qap _
 | cons k ks ih => intro T; exact QaR (ih (T := ic k T)) (y4 k T)
theorem WH (ks : List cF) (k : cF) (T : List It) : mu (ks ++ [k]) T = ic k (mu ks T) := by simp [mu, List.foldl_append]
theorem WI (bm pv bt bs : Nat) (its : List It) (tr tw : Value) (now : Nat) (T : List It) (hR : Rep its now T) (hT : T.length ≤ 100) (a : Option Addr) (c : Nat) (ks : List cF) (hk : ks.length ≤ 1000) : sP W0 200 [pQ bm, .slice a ks.length c] (pt bm (cN pv bt bs) :: aJ bt (its, [tr, tw, .bool true]) :: osl 380 2 (.slice a ks.length c) (ks.flatMap fj) :: R) (fun v B => v = .tuple #[] ∧ ∃ its', B = pt bm (cN pv bt bs) :: aJ bt (its', [tr, tw, .bool true]) :: osl 380 2 (.slice a ks.length c) (ks.flatMap fj) :: R ∧ Rep its' now (mu ks T)) := by
 refine ab func200 ntmps200 ?_
 refine cK (fun X : Nat × List It => X.1 ≤ ks.length ∧ Rep X.2 now (mu (ks.take X.1) T)) (fun X => [(0, pQ bm), (6, .slice a ks.length c), (7, iQ (ks.length : Nat)), (8, iQ X.1)]) (fun X => pt bm (cN pv bt bs) :: aJ bt (X.2, [tr, tw, .bool true]) :: osl 380 2 (.slice a ks.length c) (ks.flatMap fj) :: R) (fun X => ks.length - X.1) (0, its) ?_ ?_
 exact ⟨QaU _, hR⟩
 intro ⟨i, its1⟩ ⟨hi, hI⟩
 dsimp only at hi hI ⊢
 refine aw ?_
 refine ag (fun c1 => ?_) fun c1 => ?_
 have hi1 : i < ks.length := by omega
 refine ke (E := 380) (sz := 2) (a := a) (c := c) (n := ks.length) fj ks (fun _ => rfl) (by decide) rfl (fun hs => ?_)
 obtain ⟨g, o, hga, hc⟩ := hs.at_ hi1
 obtain ⟨k, hk1⟩ : ∃ k, ks[i] = k := ⟨_, rfl⟩
 have htk : ks.take (i + 1) = ks.take i ++ [k] := by rw [Qan hi1, hk1]
 have hdl := GH (ks := ks.take i) (T := T)
 rw [hk1] at hc
 refine aw ?_
 refine a6 (dH Cb oZ rfl hga rfl rfl hi1 (by first | exact Qab _ | rfl)) ?_
 refine a6 (cJ hc.weak) ?_
 refine bu fun bk => ?_
 refine ax aC ?_
 refine bB [bm, bk] 6 fun hS => ?_
 refine ae 0 5 hS ?_
 refine cg 5 (ah J6 (Ba bt its1 tr now (mu (ks.take i) T) k hI (by omega) tw)) ?_; clear hS
 rintro _ B_ ⟨rfl, its2, hB_, hR2⟩
 subst hB_
 refine ⟨aK, fun hS => ?_⟩
 refine aI ?_
 refine a6 bS ?_
 refine bE (i + 1, its2) ?_
 grind [WH]
 refine bM (.inr rfl) .nil ?_
 obtain rfl : i = ks.length := by omega
 rw [QbR] at hI
 exact ⟨_, ⟨rfl, its1, rfl, hI⟩, IO⟩
@[reducible] def WJ (bm : Nat) (on : Bool) (root : Int) (user : Bool) (va : Nat) (kind : Int) : List Value := [.pointer (some ⟨bm, 0, none⟩), .bool on, .int .i64 root, .bool user, .int .u32 va, .int .i64 kind]
abbrev gC (bm : Nat) (on : Bool) (root : Int) (user : Bool) (va : Nat) (kind : Int) : Obj := a7 (WJ bm on root user va kind) 420
def d6 (root : Int) (va : Nat) : cF := (root, ((va / 64 : Nat) : Int))
theorem lE (ba bm : Nat) (on : Bool) (root : Int) (user : Bool) (va : Nat) (hva : va < 4294967296) (kind : Int) : sQ W0 344 [pQ ba] (pt ba (gC bm on root user va kind) :: R) (.agg (fj (d6 root va)).toArray) (pt ba (gC bm on root user va kind) :: R) := by
 refine ab func344 ntmps344 ?_
 refine bu fun b2 => ?_
 refine bB [ba] 13 fun hS => ?_
 refine ae 0 9 hS ?_
 refine av 9 hS (qB rfl rfl (by decide) ((Qah (IntKind.wrap .u32) (uH va 64)).trans (dP (by omega)))) ?_
 refine av 10 hS (cT (bN (by omega))) ?_
 refine ae 11 1 hS ?_
 refine cq 12 aC fun hS => ?_
 refine aI ?_
 exact bi (.cons (bD C0 oZ rfl rfl) .nil) aj
def jV (e : ib) (kind : Int) (user : Bool) : Bool := ml kind && (dY e.2.2 (iV kind) && (!user || dY e.2.2 8)) && true
theorem tF (ba bm : Nat) (on : Bool) (root : Int) (user : Bool) (va : Nat) (kind : Int) (e : ib) : sQ W0 345 [pQ ba, .agg (m5 e).toArray] (pt ba (gC bm on root user va kind) :: R) (.bool (jV e kind user)) (pt ba (gC bm on root user va kind) :: R) := by
 refine ab func345 ntmps345 ?_
 refine aS fun b3 => ?_
 refine bB [b3, ba] 16 fun hS => ?_
 refine ae 0 14 hS ?_
 refine bJ 14 (ao call342 (DL true e.2.2 e.1 kind user)) fun hS => ?_
 refine ae 15 1 hS ?_
 refine aI ?_
 exact a8 aj
@[reducible] def yn (p f : Int) (o : Nat) (fast : Bool) : List Value := [.int .i64 p, .int .i64 f, .int .i64 (o : Nat), .bool fast]
theorem tG (ba bm : Nat) (on : Bool) (root : Int) (user : Bool) (va : Nat) (hva : va < 4294967296) (kind : Int) (e : ib) (fast : Bool) : sQ W0 346 [pQ ba, .agg (m5 e).toArray, .bool fast] (pt ba (gC bm on root user va kind) :: R) (.agg (yn e.1 e.2.1 (va % 64) fast).toArray) (pt ba (gC bm on root user va kind) :: R) := by
 refine ab func346 ntmps346 ?_
 refine aS fun b4 => ?_
 refine bu fun b6 => ?_
 refine bB [b4, ba] 13 fun hS => ?_
 refine ae 0 8 hS ?_
 refine av 8 hS (fm rfl rfl (Ey hva)) ?_
 refine av 9 hS (cT (bN (by omega))) ?_
 refine ae 10 2 hS ?_
 refine cq 12 aC fun hS => ?_
 refine aI ?_
 exact bi (.cons (bD ek dI rfl rfl) .nil) aj
theorem WK (l : List Ln) : l.flatMap tE = (l.map Ln.k).flatMap fj := by rw [List.flatMap_map]
theorem MOk.drop {fr : List ap} {pg : List Pl} {d : Nat} {L : List Ln} {T : List It} (h : MOk fr pg d L T) (p : Ln → Bool) : MOk fr pg d (L.filter fun x => !p x) (mu ((L.filter p).map Ln.k) T) :=
  ⟨h.F, h.dl, h.P, h.pl, h.ti.drop p fun y hy => by
 obtain ⟨h1, h2⟩ := WG hy
 exact ⟨h1, fun x hx hf e => h2 (Qbm.2 ⟨x, QaL.2 ⟨hx, hf⟩, e.symm⟩)⟩, fun x hx => h.ln x (QaL.1 hx).1⟩
theorem MOk.clean {fr : List ap} {pg : List Pl} {d : Nat} {L : List Ln} {T : List It} (h : MOk fr pg d L T) (hc : ∀ x ∈ L, ∀ n ∈ gz d 12, x.thr ((n : Nat) : Int) = false) : MOk fr pg 0 L T :=
  ⟨h.F, by decide, h.P, h.pl, h.ti, fun x hx => (h.ln x hx).clean (hc x hx)⟩
theorem WL (l : List Nat) : sR l = l.flatMap fun n => [uS n] := by
 induction l with
 | nil => rfl
 | cons n l ih => rw [QaW, ← ih]; rfl
theorem WM (bm pv bt bs ps pm d : Nat) (its : List It) (tr tw : Value) (now room : Nat) (T : List It) (L : List Ln) (hR : Rep its now T) (hT : T.length ≤ room) (hr : room ≤ 4) (hd : d < 4096) (I : List Ln → List It → Prop) (hIl : ∀ L T, I L T → L.length ≤ 1000) (hId : ∀ L T p, I L T → I (L.filter fun x => !p x) (mu ((L.filter p).map Ln.k) T)) (h : I L T) : sP W0 199 [pQ bm] (pt bm (cN pv bt bs) :: aJ bt (its, [tr, tw, .bool true]) :: bG bs L :: pt pv (cp ps pm d) :: R) (fun v B => v = .tuple #[] ∧ ∃ its' T' L', B = pt bm (cN pv bt bs) :: aJ bt (its', [tr, tw, .bool true]) :: bG bs L' :: pt pv (cp ps pm 0) :: R ∧ Rep its' now T' ∧ T'.length ≤ room ∧ I L' T' ∧ (∀ x ∈ L', ∀ n ∈ gz d 12, x.thr ((n : Nat) : Int) = false) ∧ (∀ x ∈ L', x ∈ L) ∧ (gz d 12 = [] → L' = L)) := by
 obtain ⟨ds, hds⟩ : ∃ l, gz d 12 = l := ⟨_, rfl⟩
 have hdl : ds.length ≤ 12 := by grind [Eo]
 refine ab func199 ntmps199 ?_
 refine am rfl (ah call135 (RE pv ps pm d hd)) ?_
 rintro _ B_ ⟨ad, cd, rfl, hB_⟩
 subst hB_
 rw [hds]
 refine aw ?_
 refine cK (fun X : Nat × List It × List It × List Ln => X.1 ≤ ds.length ∧ Rep X.2.1 now X.2.2.1 ∧ X.2.2.1.length ≤ room ∧ I X.2.2.2 X.2.2.1 ∧ (∀ x ∈ X.2.2.2, ∀ n ∈ ds.take X.1, x.thr ((n : Nat) : Int) = false) ∧ (∀ x ∈ X.2.2.2, x ∈ L) ∧ (X.1 = 0 → X.2.2.2 = L)) (fun X => [(0, pQ bm), (8, .slice ad ds.length cd), (9, iQ (ds.length : Nat)), (10, iQ X.1)]) (fun X => pt bm (cN pv bt bs) :: aJ bt (X.2.1, [tr, tw, .bool true]) :: bG bs X.2.2.2 :: pt pv (cp ps pm 0) :: osl 3 1 (.slice ad ds.length cd) (sR ds) :: R) (fun X => ds.length - X.1) (0, its, T, L) ?_ ?_
 grind
 intro ⟨i, its1, T1, L1⟩ ⟨hi, hR1, hT1, h1, hc1, hs1, hz1⟩
 dsimp only at hi hR1 hT1 h1 hc1 hs1 hz1 ⊢
 refine aw ?_
 refine ag (fun c1 => ?_) fun c1 => ?_
 have hi1 : i < ds.length := by omega
 refine ke (E := 3) (sz := 1) (a := ad) (c := cd) (n := ds.length) (fun n => [uS n]) ds (fun _ => rfl) (by decide) (WL ds) (fun hs => ?_)
 obtain ⟨g, o, hga, hc⟩ := hs.at_ hi1
 obtain ⟨q, hq⟩ : ∃ q, ds[i] = q := ⟨_, rfl⟩
 have htk : ds.take (i + 1) = ds.take i ++ [q] := by rw [Qan hi1, hq]
 have hll := hIl L1 T1 h1
 obtain ⟨ks, hks⟩ : ∃ ks, (L1.filter fun x => x.thr (q : Int)).map Ln.k = ks := ⟨_, rfl⟩
 have hkl : (L1.filter fun x => x.thr (q : Int)).length = ks.length := by grind
 have hkn : ks.length ≤ 1000 := by grind
 have hdr := hId L1 T1 (fun x => x.thr (q : Int)) h1
 rw [hks] at hdr
 rw [hq] at hc
 refine aw ?_
 refine a6 (dH fe aO rfl hga rfl rfl hi1 (by first | exact Qab _ | rfl)) ?_
 refine a6 (aG (aT.weak hc 0 _ rfl)) ?_
 refine am rfl (ah call274 (We bs L1 (by omega) (q : Int))) ?_
 rintro _ B_ ⟨aw, cw, rfl, hB_⟩
 subst hB_
 rw [WK, hks, hkl]
 refine am rfl (dQ call200 (WI bm pv bt bs its1 tr tw now T1 hR1 (by omega) aw cw ks hkn)) ?_
 rintro _ B_ ⟨rfl, its2, hB_, hR2⟩
 subst hB_
 refine au 4 ?_
 refine a6 bS ?_
 refine bE (i + 1, its2, mu ks T1, L1.filter fun x => !x.thr (q : Int)) ?_
 grind [QaR, GH]
 refine bM (.inr rfl) .nil ?_
 obtain rfl : i = ds.length := by omega
 rw [QbR] at hc1
 exact ⟨_, ⟨rfl, its1, T1, L1, rfl, hR1, hT1, h1, hc1, hs1, fun q => hz1 (by rw [q]; rfl)⟩, IO⟩
theorem GI (bm pv bt bs ps pm d : Nat) (its : List It) (tr tw : Value) (now room : Nat) (T : List It) (L : List Ln) (fr : List ap) (pg : List Pl) (hR : Rep its now T) (hT : T.length ≤ room) (hr : room ≤ 4) (h : MOk fr pg d L T) : sP W0 199 [pQ bm] (pt bm (cN pv bt bs) :: aJ bt (its, [tr, tw, .bool true]) :: bG bs L :: pt pv (cp ps pm d) :: R) (fun v B => v = .tuple #[] ∧ ∃ its' T' L', B = pt bm (cN pv bt bs) :: aJ bt (its', [tr, tw, .bool true]) :: bG bs L' :: pt pv (cp ps pm 0) :: R ∧ Rep its' now T' ∧ T'.length ≤ room ∧ MOk fr pg 0 L' T' ∧ (∀ x ∈ L', x ∈ L) ∧ (gz d 12 = [] → L' = L)) :=
  gH (WM bm pv bt bs ps pm d its tr tw now room T L hR hT hr h.dl (MOk fr pg d) (fun L T h => QaR h.ti.len (by decide)) (fun L T p h => h.drop p) h) fun v B hB => by
 obtain ⟨rfl, its1, T1, L1, rfl, h1, h2, h3, h4, h5⟩ := hB
 exact ⟨_, ⟨rfl, its1, T1, L1, rfl, h1, h2, h3.clean h4, h5⟩, ent_refl⟩
def jW : Option Ln → ib
 | none => (0, 0, 0)
 | some x => x.e
theorem qe (k : cF) (L : List Ln) : vH k L = .tuple #[.agg (m5 (jW (j0 k L))).toArray, .bool (j0 k L).isSome] := by
 unfold vH
 cases j0 k L <;> rfl
theorem TI.sub' {L : List Ln} {T T' : List It} (h : TI L T) (hs : ∀ y ∈ T', y ∈ T) : TI L T' := ⟨h.keys, h.len, h.nowr, fun y hy => h.sub y (hs y hy)⟩
theorem Bp (bm pv bt bs : Nat) (its : List It) (tr tw : Value) (now room : Nat) (T : List It) (L : List Ln) (hR : Rep its now T) (hT : T.length ≤ room) (hr : room ≤ 4) (hl : L.length ≤ 32) : sP W0 390 [pQ bm] (pt bm (cN pv bt bs) :: aJ bt (its, [tr, tw, .bool true]) :: bG bs L :: R) (fun v B => v = .tuple #[] ∧ ∃ its' T', B = pt bm (cN pv bt bs) :: aJ bt (its', [tr, tw, .bool true]) :: bG bs L :: R ∧ Rep its' now T' ∧ T'.length ≤ room ∧ ∀ y ∈ T', y ∈ T ∧ (j0 y.key L).isSome = true) := by
 refine ab func390 ntmps390 ?_
 refine am rfl (ah call410 (Wd bt its tr tw now T hR (by omega))) ?_
 rintro _ B_ ⟨ad, cd, rfl, hB_⟩
 subst hB_
 refine aw ?_
 refine cK (fun X : Nat × List It × List It => X.1 ≤ T.length ∧ Rep X.2.1 now X.2.2 ∧ X.2.2.length ≤ room ∧ ∀ y ∈ X.2.2, y ∈ T ∧ (y ∈ T.take X.1 → (j0 y.key L).isSome = true)) (fun X => [(0, pQ bm), (10, .slice ad T.length cd), (11, iQ (T.length : Nat)), (12, iQ X.1)]) (fun X => pt bm (cN pv bt bs) :: aJ bt (X.2.1, [tr, tw, .bool true]) :: bG bs L :: osl 387 5 (.slice ad T.length cd) (T.flatMap rN) :: R) (fun X => T.length - X.1) (0, its, T) ?_ ?_
 grind
 intro ⟨i, its1, T1⟩ ⟨hi, hR1, hT1, hI⟩
 dsimp only at hi hR1 hT1 hI ⊢
 refine aw ?_
 refine aA rfl (fun c1 => ?_) fun c1 => ?_
 refine au 2 ?_
 refine dO (fun X : List It × List It => Rep X.1 now X.2 ∧ X.2.length ≤ room ∧ ∀ y ∈ X.2, y ∈ T ∧ (y ∈ T.take (i + 1) → (j0 y.key L).isSome = true)) (fun X => [(0, pQ bm), (10, .slice ad T.length cd), (11, iQ (T.length : Nat)), (12, iQ i)]) (fun X => pt bm (cN pv bt bs) :: aJ bt (X.1, [tr, tw, .bool true]) :: bG bs L :: osl 387 5 (.slice ad T.length cd) (T.flatMap rN) :: R) ?_ ?_
 refine au 2 ?_
 have hi1 : i < T.length := by omega
 refine ke (E := 387) (sz := 5) (a := ad) (c := cd) (n := T.length) rN T Wc (by decide) rfl (fun hs => ?_)
 obtain ⟨g, o, hga, hc⟩ := hs.at_ hi1
 obtain ⟨x, hx⟩ : ∃ x, T[i] = x := ⟨_, rfl⟩
 have htk : T.take (i + 1) = T.take i ++ [x] := by rw [Qan hi1, hx]
 rw [hx] at hc
 obtain ⟨gt, hgt⟩ : ∃ o, j0 x.key L = o := ⟨_, rfl⟩
 refine aw ?_
 refine a6 (dH Cd p8 rfl hga rfl rfl hi1 (by first | exact Qab _ | rfl)) ?_
 refine a6 (cJ hc.weak) ?_
 refine bu fun bk => ?_
 refine ax aC ?_
 refine bB [bm, bk] 13 fun hS => ?_
 refine ae 0 5 hS ?_
 refine av 5 hS (cJ (rL (us := fj x.key) (ws := [iQ x.ep, iQ x.ef, iQ x.er]) (gr (k := 1) rfl) rfl)) ?_
 refine eG (is := [6, 10]) (by kernel_rfl) rfl ⟨?_, ?_, trivial⟩
 refine di (ah se (qd bs L (by omega) x.key)) ?_; clear hS
 rintro _ B_ ⟨rfl, hB_⟩
 subst hB_
 rw [qe, hgt]
 refine ⟨aK, fun hS => ?_⟩
 refine ae 7 3 hS ?_
 refine cg 10 (dt lJ) ?_; clear hS
 rintro _ _ ⟨b2, rfl, rfl⟩
 refine ⟨aK, fun hS => ?_⟩
 refine cq 11 aC fun hS => ?_
 refine ae 12 1 hS ?_
 refine aI ?_
 refine ag (fun c4 => ?_) fun c4 => ?_
 refine bB [bm, bk] 7 fun hS => ?_
 refine ae 0 5 hS ?_
 refine av 5 hS (cJ (rL (us := fj x.key) (ws := [iQ x.ep, iQ x.ef, iQ x.er]) (gr (k := 1) rfl) rfl)) ?_
 refine cg 6 (ah J6 (Ba bt its1 tr now T1 x.key hR1 (by omega) tw)) ?_; clear hS
 rintro _ B_ ⟨rfl, its2, hB_, hR2⟩
 subst hB_
 refine ⟨aK, fun hS => ?_⟩
 refine aI ?_
 refine cu (its2, ic x.key T1) ?_
 refine ⟨hR2, QaR (y4 _ _) hT1, fun y hy => ?_⟩
 obtain ⟨h1, h2⟩ := q9.1 hy
 refine ⟨(hI y h1).1, fun q => ?_⟩
 rw [htk] at q
 rcases Qbc.1 q with z | z
 grind
 grind
 refine cu (its1, T1) ?_
 grind
 skip
 refine di (dt lJ) ?_; clear hS
 rintro _ _ ⟨b2, rfl, rfl⟩
 refine ⟨aK, fun hS => ?_⟩
 refine cg 6 (ah se (qd bs L (by omega) x.key)) ?_; clear hS
 rintro _ B_ ⟨rfl, hB_⟩
 subst hB_
 rw [qe, hgt]
 refine ⟨aK, fun hS => ?_⟩
 refine ae 7 3 hS ?_
 refine cq 11 aC fun hS => ?_
 refine ae 12 1 hS ?_
 refine aI ?_
 refine ag (fun c4 => ?_) fun c4 => ?_
 refine bB [bm, bk] 7 fun hS => ?_
 refine ae 0 5 hS ?_
 refine av 5 hS (cJ (rL (us := fj x.key) (ws := [iQ x.ep, iQ x.ef, iQ x.er]) (gr (k := 1) rfl) rfl)) ?_
 refine cg 6 (ah J6 (Ba bt its1 tr now T1 x.key hR1 (by omega) tw)) ?_; clear hS
 rintro _ B_ ⟨rfl, its2, hB_, hR2⟩
 subst hB_
 refine ⟨aK, fun hS => ?_⟩
 refine aI ?_
 refine cu (its2, ic x.key T1) ?_
 refine ⟨hR2, QaR (y4 _ _) hT1, fun y hy => ?_⟩
 obtain ⟨h1, h2⟩ := q9.1 hy
 refine ⟨(hI y h1).1, fun q => ?_⟩
 rw [htk] at q
 rcases Qbc.1 q with z | z
 grind
 grind
 refine cu (its1, T1) ?_
 grind
 intro ⟨its2, T2⟩ ⟨hR2, hT2, hI2⟩
 refine aw ?_
 refine a6 bS ?_
 refine bE (i + 1, its2, T2) ?_
 grind
 refine aw ?_
 refine bM (.inr rfl) .nil ?_
 obtain rfl : i = T.length := by omega
 rw [QbR] at hI
 exact ⟨_, ⟨rfl, its1, T1, rfl, hR1, hT1, fun y hy => ⟨(hI y hy).1, (hI y hy).2 (hI y hy).1⟩⟩, IO⟩
def nK : Option It → ib
 | none => (0, 0, 0)
 | some y => y.ent
theorem Bq (k : cF) (T : List It) : vB k T = .tuple #[.agg (m5 (nK (kZ k T))).toArray, .bool (kZ k T).isSome] := by
 unfold vB
 cases kZ k T <;> rfl
def oP : Option Ln → Int
 | none => 0
 | some x => x.e.1
def oF : Option Ln → Int
 | none => 0
 | some x => x.e.2.1
def oO (o : Option Ln) (va : Nat) : Nat := match o with
 | none => 0
 | some _ => va % 64
@[reducible] def Br (o : Option Ln) (va : Nat) : List Value := [.int .i64 (oP o), .int .i64 (oF o), .int .i64 (oO o va : Nat), .bool o.isSome]
def Bs (L : List Ln) (k : cF) (kind : Int) (user : Bool) (o : Option Ln) : Prop := ∀ x, o = some x → x ∈ L ∧ x.k = k ∧ jV x.e kind user = true
theorem WN (ba bm pv bt bs : Nat) (on : Bool) (root : Int) (user : Bool) (va : Nat) (hva : va < 4294967296) (kind : Int) (its : List It) (room now : Nat) (T : List It) (L : List Ln) (hR : Rep its now T) (hT : T.length ≤ room) (hr : room ≤ 4) (hn : now < 1000000) (hi : TI L T) : sP W0 306 [pQ ba] (pt ba (gC bm on root user va kind) :: pt bm (cN pv bt bs) :: aJ bt (its, d3 room now) :: bG bs L :: R) (fun v B => ∃ o its' T' now', v = .tuple #[.agg (Br o va).toArray, .bool o.isSome] ∧ Bs L (d6 root va) kind user o ∧ Rep its' now' T' ∧ T'.length ≤ room ∧ TI L T' ∧ now' ≤ now + 1 ∧ B = pt ba (gC bm on root user va kind) :: pt bm (cN pv bt bs) :: aJ bt (its', d3 room now') :: bG bs L :: R) := by
 obtain ⟨y, hy⟩ : ∃ y, kZ (d6 root va) T = y := ⟨_, rfl⟩
 have hgl := Vr (now := now) (k := d6 root va) (L := T)
 have htg := hi.getT now (d6 root va)
 refine ab func306 ntmps306 ?_
 refine bu fun b2 => ?_
 refine bB [ba, bm] 16 fun hS => ?_
 refine ae 0 8 hS ?_
 refine eG (is := [8, 13]) (by kernel_rfl) rfl ⟨?_, ?_, trivial⟩
 refine di (ah mf (lE ba bm on root user va hva kind)) ?_; clear hS
 rintro _ B_ ⟨rfl, hB_⟩
 obtain rfl := hB_.symm
 refine ⟨aK, fun hS => ?_⟩
 refine eG (is := [9, 13]) (by kernel_rfl) rfl ⟨?_, ?_, trivial⟩
 refine di (ah J7 (B9 bt its room now T (d6 root va) hR hT hr hn)) ?_; clear hS
 rintro _ B_ ⟨rfl, its2, now2, hn2, hB_, hR2⟩
 subst hB_
 rw [Bq, hy]
 refine ⟨aK, fun hS => ?_⟩
 refine ae 10 3 hS ?_
 refine cg 13 (dt lJ) ?_; clear hS
 rintro _ _ ⟨b4, rfl, rfl⟩
 refine ⟨aK, fun hS => ?_⟩
 refine cq 14 aC fun hS => ?_
 refine ae 15 1 hS ?_
 refine aI ?_
 refine cA (fun g2_3 => ?_) fun g2_3 => ?_
 refine ax aC ?_
 refine bi (.cons (bD ek dI rfl rfl) (.cons (bz rfl) .nil)) ?_
 exact ⟨_, ⟨none, its2, _, now2, rfl, fun x q => (by cases q), hR2, QaR hgl hT, htg, hn2, rfl⟩, IO⟩
 refine ac (ah wi (tF ba bm on root user va kind (nK y))) ?_
 refine ag (fun c2 => ?_) fun c2 => ?_
 refine ax aC ?_
 refine bi (.cons (bD ek dI rfl rfl) (.cons (bz rfl) .nil)) ?_
 exact ⟨_, ⟨none, its2, _, now2, rfl, fun x q => (by cases q), hR2, QaR hgl hT, htg, hn2, rfl⟩, IO⟩
 refine ac (ah wj (tG ba bm on root user va hva kind (nK y) true)) ?_
 refine ax aC ?_
 refine bi (.cons (bD ek dI rfl rfl) (.cons (bz rfl) .nil)) ?_
 obtain ⟨z, rfl⟩ : ∃ z, y = some z := by cases y <;> simp_all
 have hm : jV z.ent kind user = true := by simp_all [nK]
 obtain ⟨q1, q2⟩ := tx hy
 obtain ⟨x, hx, e1, e2⟩ := hi.sub z q1
 refine ⟨_, ⟨some x, its2, _, now2, ?_, fun x' q => ?_, hR2, QaR hgl hT, htg, hn2, rfl⟩, IO⟩
 show _ = Value.tuple #[.agg (yn x.e.1 x.e.2.1 (va % 64) true).toArray, .bool true]
 rw [e2]; rfl
 grind
 skip
 refine di (dt lJ) ?_; clear hS
 rintro _ _ ⟨b4, rfl, rfl⟩
 refine ⟨aK, fun hS => ?_⟩
 refine cg 9 (ah J7 (B9 bt its room now T (d6 root va) hR hT hr hn)) ?_; clear hS
 rintro _ B_ ⟨rfl, its2, now2, hn2, hB_, hR2⟩
 subst hB_
 rw [Bq, hy]
 refine ⟨aK, fun hS => ?_⟩
 refine ae 10 3 hS ?_
 refine cq 14 aC fun hS => ?_
 refine ae 15 1 hS ?_
 refine aI ?_
 refine cA (fun g2_3 => ?_) fun g2_3 => ?_
 refine ax aC ?_
 refine bi (.cons (bD ek dI rfl rfl) (.cons (bz rfl) .nil)) ?_
 exact ⟨_, ⟨none, its2, _, now2, rfl, fun x q => (by cases q), hR2, QaR hgl hT, htg, hn2, rfl⟩, IO⟩
 refine ac (ah wi (tF ba bm on root user va kind (nK y))) ?_
 refine ag (fun c2 => ?_) fun c2 => ?_
 refine ax aC ?_
 refine bi (.cons (bD ek dI rfl rfl) (.cons (bz rfl) .nil)) ?_
 exact ⟨_, ⟨none, its2, _, now2, rfl, fun x q => (by cases q), hR2, QaR hgl hT, htg, hn2, rfl⟩, IO⟩
 refine ac (ah wj (tG ba bm on root user va hva kind (nK y) true)) ?_
 refine ax aC ?_
 refine bi (.cons (bD ek dI rfl rfl) (.cons (bz rfl) .nil)) ?_
 obtain ⟨z, rfl⟩ : ∃ z, y = some z := by cases y <;> simp_all
 have hm : jV z.ent kind user = true := by simp_all [nK]
 obtain ⟨q1, q2⟩ := tx hy
 obtain ⟨x, hx, e1, e2⟩ := hi.sub z q1
 refine ⟨_, ⟨some x, its2, _, now2, ?_, fun x' q => ?_, hR2, QaR hgl hT, htg, hn2, rfl⟩, IO⟩
 show _ = Value.tuple #[.agg (yn x.e.1 x.e.2.1 (va % 64) true).toArray, .bool true]
 rw [e2]; rfl
 grind
 skip
 refine di (dt lJ) ?_; clear hS
 rintro _ _ ⟨b4, rfl, rfl⟩
 refine ⟨aK, fun hS => ?_⟩
 refine bJ 8 (ah mf (lE ba bm on root user va hva kind)) fun hS => ?_
 refine cg 9 (ah J7 (B9 bt its room now T (d6 root va) hR hT hr hn)) ?_; clear hS
 rintro _ B_ ⟨rfl, its2, now2, hn2, hB_, hR2⟩
 subst hB_
 rw [Bq, hy]
 refine ⟨aK, fun hS => ?_⟩
 refine ae 10 3 hS ?_
 refine cq 14 aC fun hS => ?_
 refine ae 15 1 hS ?_
 refine aI ?_
 refine cA (fun g2_3 => ?_) fun g2_3 => ?_
 refine ax aC ?_
 refine bi (.cons (bD ek dI rfl rfl) (.cons (bz rfl) .nil)) ?_
 exact ⟨_, ⟨none, its2, _, now2, rfl, fun x q => (by cases q), hR2, QaR hgl hT, htg, hn2, rfl⟩, IO⟩
 refine ac (ah wi (tF ba bm on root user va kind (nK y))) ?_
 refine ag (fun c2 => ?_) fun c2 => ?_
 refine ax aC ?_
 refine bi (.cons (bD ek dI rfl rfl) (.cons (bz rfl) .nil)) ?_
 exact ⟨_, ⟨none, its2, _, now2, rfl, fun x q => (by cases q), hR2, QaR hgl hT, htg, hn2, rfl⟩, IO⟩
 refine ac (ah wj (tG ba bm on root user va hva kind (nK y) true)) ?_
 refine ax aC ?_
 refine bi (.cons (bD ek dI rfl rfl) (.cons (bz rfl) .nil)) ?_
 obtain ⟨z, rfl⟩ : ∃ z, y = some z := by cases y <;> simp_all
 have hm : jV z.ent kind user = true := by simp_all [nK]
 obtain ⟨q1, q2⟩ := tx hy
 obtain ⟨x, hx, e1, e2⟩ := hi.sub z q1
 refine ⟨_, ⟨some x, its2, _, now2, ?_, fun x' q => ?_, hR2, QaR hgl hT, htg, hn2, rfl⟩, IO⟩
 show _ = Value.tuple #[.agg (yn x.e.1 x.e.2.1 (va % 64) true).toArray, .bool true]
 rw [e2]; rfl
 grind
theorem WO (ba bm pv bt bs : Nat) (on : Bool) (root : Int) (user : Bool) (va : Nat) (hva : va < 4294967296) (kind : Int) (its : List It) (room now : Nat) (T : List It) (L : List Ln) (hR : Rep its now T) (hT : T.length ≤ room) (hr : room ≤ 4) (hn : now < 1000000) (hi : TI L T) : sP W0 307 [pQ ba] (pt ba (gC bm on root user va kind) :: pt bm (cN pv bt bs) :: aJ bt (its, d3 room now) :: bG bs L :: R) (fun v B => ∃ o its' T' now', v = .tuple #[.agg (Br o va).toArray, .bool o.isSome] ∧ Bs L (d6 root va) kind user o ∧ (o = none → ∀ x ∈ L, x.k = d6 root va → jV x.e kind user = false) ∧ Rep its' now' T' ∧ T'.length ≤ room ∧ TI L T' ∧ now' ≤ now + 1 ∧ B = pt ba (gC bm on root user va kind) :: pt bm (cN pv bt bs) :: aJ bt (its', d3 room now') :: bG bs L :: R) := by
 obtain ⟨y, hy⟩ : ∃ y, j0 (d6 root va) L = y := ⟨_, rfl⟩
 have hll := hi.len
 refine ab func307 ntmps307 ?_
 refine bu fun b2 => ?_
 refine bB [ba, bm] 16 fun hS => ?_
 refine ae 0 8 hS ?_
 refine eG (is := [8, 13]) (by kernel_rfl) rfl ⟨?_, ?_, trivial⟩
 refine di (ah mf (lE ba bm on root user va hva kind)) ?_; clear hS
 rintro _ B_ ⟨rfl, hB_⟩
 obtain rfl := hB_.symm
 refine ⟨aK, fun hS => ?_⟩
 refine eG (is := [9, 13]) (by kernel_rfl) rfl ⟨?_, ?_, trivial⟩
 refine di (ah se (qd bs L (by omega) (d6 root va))) ?_; clear hS
 rintro _ B_ ⟨rfl, hB_⟩
 subst hB_
 rw [qe, hy]
 refine ⟨aK, fun hS => ?_⟩
 refine ae 10 3 hS ?_
 refine cg 13 (dt lJ) ?_; clear hS
 rintro _ _ ⟨b4, rfl, rfl⟩
 refine ⟨aK, fun hS => ?_⟩
 refine cq 14 aC fun hS => ?_
 refine ae 15 1 hS ?_
 refine aI ?_
 refine cA (fun g2_3 => ?_) fun g2_3 => ?_
 refine ax aC ?_
 refine bi (.cons (bD ek dI rfl rfl) (.cons (bz rfl) .nil)) ?_
 exact ⟨_, ⟨none, its, T, now, rfl, fun x q => (by cases q), fun _ x hx hk => (by
   have hg := rJ hi.keys hx
   rw [hk, hy] at hg
   subst hg
   simp_all [jW]), hR, hT, hi, by omega, rfl⟩, IO⟩
 refine ac (ah wi (tF ba bm on root user va kind (jW y))) ?_
 refine ag (fun c2 => ?_) fun c2 => ?_
 refine ax aC ?_
 refine bi (.cons (bD ek dI rfl rfl) (.cons (bz rfl) .nil)) ?_
 exact ⟨_, ⟨none, its, T, now, rfl, fun x q => (by cases q), fun _ x hx hk => (by
   have hg := rJ hi.keys hx
   rw [hk, hy] at hg
   subst hg
   simp_all [jW]), hR, hT, hi, by omega, rfl⟩, IO⟩
 obtain ⟨x, rfl⟩ : ∃ x, y = some x := by cases y <;> simp_all
 have hm : jV x.e kind user = true := by simp_all [jW]
 obtain ⟨q1, q2⟩ := tD hy
 have hpt := hi.putT room now q1
 have hpl := tz (now := now) (k := x.k) (e := x.e) hT
 rw [q2] at hpt hpl
 rw [show jW (some x) = x.e from rfl]
 refine bB [ba, bm, b4] 11 fun hS => ?_
 refine ae 0 8 hS ?_
 refine ae 9 1 hS ?_
 refine bJ 8 (ah mf (lE ba bm on root user va hva kind)) fun hS => ?_
 refine cg 10 (ah wm (tA bt its room now T (d6 root va) x.e hR hT hr hn)) ?_; clear hS
 rintro _ B_ ⟨rfl, its2, hB_, hR2⟩
 subst hB_
 refine ⟨aK, fun hS => ?_⟩
 refine aI ?_
 refine ac (ah wj (tG ba bm on root user va hva kind x.e true)) ?_
 refine ax aC ?_
 refine bi (.cons (bD ek dI rfl rfl) (.cons (bz rfl) .nil)) ?_
 refine ⟨_, ⟨some x, its2, _, now + 1, rfl, fun x' q => ?_, fun q => (by cases q), hR2, hpl, hpt, by omega, rfl⟩, IO⟩
 cases q
 exact ⟨q1, q2, hm⟩
 skip
 refine di (dt lJ) ?_; clear hS
 rintro _ _ ⟨b4, rfl, rfl⟩
 refine ⟨aK, fun hS => ?_⟩
 refine cg 9 (ah se (qd bs L (by omega) (d6 root va))) ?_; clear hS
 rintro _ B_ ⟨rfl, hB_⟩
 subst hB_
 rw [qe, hy]
 refine ⟨aK, fun hS => ?_⟩
 refine ae 10 3 hS ?_
 refine cq 14 aC fun hS => ?_
 refine ae 15 1 hS ?_
 refine aI ?_
 refine cA (fun g2_3 => ?_) fun g2_3 => ?_
 refine ax aC ?_
 refine bi (.cons (bD ek dI rfl rfl) (.cons (bz rfl) .nil)) ?_
 exact ⟨_, ⟨none, its, T, now, rfl, fun x q => (by cases q), fun _ x hx hk => (by
   have hg := rJ hi.keys hx
   rw [hk, hy] at hg
   subst hg
   simp_all [jW]), hR, hT, hi, by omega, rfl⟩, IO⟩
 refine ac (ah wi (tF ba bm on root user va kind (jW y))) ?_
 refine ag (fun c2 => ?_) fun c2 => ?_
 refine ax aC ?_
 refine bi (.cons (bD ek dI rfl rfl) (.cons (bz rfl) .nil)) ?_
 exact ⟨_, ⟨none, its, T, now, rfl, fun x q => (by cases q), fun _ x hx hk => (by
   have hg := rJ hi.keys hx
   rw [hk, hy] at hg
   subst hg
   simp_all [jW]), hR, hT, hi, by omega, rfl⟩, IO⟩
 obtain ⟨x, rfl⟩ : ∃ x, y = some x := by cases y <;> simp_all
 have hm : jV x.e kind user = true := by simp_all [jW]
 obtain ⟨q1, q2⟩ := tD hy
 have hpt := hi.putT room now q1
 have hpl := tz (now := now) (k := x.k) (e := x.e) hT
 rw [q2] at hpt hpl
 rw [show jW (some x) = x.e from rfl]
 refine bB [ba, bm, b4] 11 fun hS => ?_
 refine ae 0 8 hS ?_
 refine ae 9 1 hS ?_
 refine bJ 8 (ah mf (lE ba bm on root user va hva kind)) fun hS => ?_
 refine cg 10 (ah wm (tA bt its room now T (d6 root va) x.e hR hT hr hn)) ?_; clear hS
 rintro _ B_ ⟨rfl, its2, hB_, hR2⟩
 subst hB_
 refine ⟨aK, fun hS => ?_⟩
 refine aI ?_
 refine ac (ah wj (tG ba bm on root user va hva kind x.e true)) ?_
 refine ax aC ?_
 refine bi (.cons (bD ek dI rfl rfl) (.cons (bz rfl) .nil)) ?_
 refine ⟨_, ⟨some x, its2, _, now + 1, rfl, fun x' q => ?_, fun q => (by cases q), hR2, hpl, hpt, by omega, rfl⟩, IO⟩
 cases q
 exact ⟨q1, q2, hm⟩
 skip
 refine di (dt lJ) ?_; clear hS
 rintro _ _ ⟨b4, rfl, rfl⟩
 refine ⟨aK, fun hS => ?_⟩
 refine bJ 8 (ah mf (lE ba bm on root user va hva kind)) fun hS => ?_
 refine cg 9 (ah se (qd bs L (by omega) (d6 root va))) ?_; clear hS
 rintro _ B_ ⟨rfl, hB_⟩
 subst hB_
 rw [qe, hy]
 refine ⟨aK, fun hS => ?_⟩
 refine ae 10 3 hS ?_
 refine cq 14 aC fun hS => ?_
 refine ae 15 1 hS ?_
 refine aI ?_
 refine cA (fun g2_3 => ?_) fun g2_3 => ?_
 refine ax aC ?_
 refine bi (.cons (bD ek dI rfl rfl) (.cons (bz rfl) .nil)) ?_
 exact ⟨_, ⟨none, its, T, now, rfl, fun x q => (by cases q), fun _ x hx hk => (by
   have hg := rJ hi.keys hx
   rw [hk, hy] at hg
   subst hg
   simp_all [jW]), hR, hT, hi, by omega, rfl⟩, IO⟩
 refine ac (ah wi (tF ba bm on root user va kind (jW y))) ?_
 refine ag (fun c2 => ?_) fun c2 => ?_
 refine ax aC ?_
 refine bi (.cons (bD ek dI rfl rfl) (.cons (bz rfl) .nil)) ?_
 exact ⟨_, ⟨none, its, T, now, rfl, fun x q => (by cases q), fun _ x hx hk => (by
   have hg := rJ hi.keys hx
   rw [hk, hy] at hg
   subst hg
   simp_all [jW]), hR, hT, hi, by omega, rfl⟩, IO⟩
 obtain ⟨x, rfl⟩ : ∃ x, y = some x := by cases y <;> simp_all
 have hm : jV x.e kind user = true := by simp_all [jW]
 obtain ⟨q1, q2⟩ := tD hy
 have hpt := hi.putT room now q1
 have hpl := tz (now := now) (k := x.k) (e := x.e) hT
 rw [q2] at hpt hpl
 rw [show jW (some x) = x.e from rfl]
 refine bB [ba, bm, b4] 11 fun hS => ?_
 refine ae 0 8 hS ?_
 refine ae 9 1 hS ?_
 refine bJ 8 (ah mf (lE ba bm on root user va hva kind)) fun hS => ?_
 refine cg 10 (ah wm (tA bt its room now T (d6 root va) x.e hR hT hr hn)) ?_; clear hS
 rintro _ B_ ⟨rfl, its2, hB_, hR2⟩
 subst hB_
 refine ⟨aK, fun hS => ?_⟩
 refine aI ?_
 refine ac (ah wj (tG ba bm on root user va hva kind x.e true)) ?_
 refine ax aC ?_
 refine bi (.cons (bD ek dI rfl rfl) (.cons (bz rfl) .nil)) ?_
 refine ⟨_, ⟨some x, its2, _, now + 1, rfl, fun x' q => ?_, fun q => (by cases q), hR2, hpl, hpt, by omega, rfl⟩, IO⟩
 cases q
 exact ⟨q1, q2, hm⟩
section
variable {P : Program} {S : World → Prop} {N : FSz} {e : aH} {t : TypeId} {x y : Operand}
theorem GJ {E len sz j : Nat} {k : IntKind} {i : Int} {cs : Array Value} {us : List Value} (hu : P.underlying t = some (.array len E)) (ha : ∀ w, (isAgg E).run P w = .ok true w) (hs : ∀ w, (sizeOf E).run P w = .ok sz w) (hx : ev e x = some (.agg cs)) (hy : ev e y = some (.int k i))
    (hi : i = (j : Int)) (hj : j < len) (hv : cs.extract (j * sz) (j * sz + sz) = us.toArray) : aW P S N e (.index t x y) (.agg us.toArray) := fun a w _ _ _ _ _ hF _ => by
 subst hi
 have h1 : (0 : Int) ≤ (j : Int) ∧ (j : Int) < (len : Int) := by omega
 simp only [execOp, Instr.index, Sem.run_bind, hF.eval hx, hF.eval hy, asIntOf, Sem.run_pure, Result.andThen_ok, dU hu, Qaf h1, Qam, hs, part, ha, hv, QbI]
end
def fX : List Value := [.int .i64 0, .int .i64 4, .int .i64 1, .int .i64 1, .int .i64 2, .int .i64 2]
def nL (i : Nat) : Int × Int := if i = 0 then (0, 4) else if i = 1 then (1, 1) else (2, 2)
def fC (pg : List Pl) (r p : Int) : Nat → Int
 | 0 => eU .i64 r 8
 | i + 1 => if eU .i64 r (nL i).2 ≠ 0 ∧ gy pg p (nL i).1 = 0 then jn .i64 (fC pg r p i) (nL i).2 else fC pg r p i
theorem GK (hK : ∀ A, aT (aB W0 A) 1 0 fX) (bm pv bt bs ps pm d : Nat) (on : Bool) (r p : Int) (pg : List Pl) (hP : Pgs pg) : sQ W0 387 [pQ bm, .agg #[.bool on, iQ r, iQ p]] (pt bm (cN pv bt bs) :: pt pv (cp ps pm d) :: pt pm (bI pg) :: R) (iQ (fC pg r p 3)) (pt bm (cN pv bt bs) :: pt pv (cp ps pm d) :: pt pm (bI pg) :: R) := by
 refine ab func387 ntmps387 ?_
 refine aS fun b3 => ?_
 refine a6 (fm rfl rfl rfl) ?_
 refine a6 (cJ (hK _)) ?_
 refine cK (fun i : Nat => i ≤ 3) (fun i => [(0, pQ bm), (3, pQ b3), (5, iQ (fC pg r p i)), (11, .agg fX.toArray), (12, iQ i)]) (fun i => pt b3 (a7 [.bool on, iQ r, iQ p] 400) :: pt bm (cN pv bt bs) :: pt pv (cp ps pm d) :: pt pm (bI pg) :: R) (fun i => 3 - i) 0 ?_ ?_
 omega
 intro i hi
 refine aw ?_
 refine aA rfl (fun c3 => ?_) fun c3 => ?_
 refine au 2 ?_
 refine dO (fun _ : Unit => True) (fun _ => [(0, pQ bm), (3, pQ b3), (5, iQ (fC pg r p (i + 1))), (11, .agg fX.toArray), (12, iQ i)]) (fun _ => pt b3 (a7 [.bool on, iQ r, iQ p] 400) :: pt bm (cN pv bt bs) :: pt pv (cp ps pm d) :: pt pm (bI pg) :: R) ?_ ?_
 refine au 2 ?_
 have hi3 : i < 3 := by omega
 have hkv : fX.toArray.extract (i * 2) (i * 2 + 2) = ([iQ (nL i).1, iQ (nL i).2] : List Value).toArray := by
  have : i = 0 ∨ i = 1 ∨ i = 2 := by omega
  rcases this with rfl | rfl | rfl <;> rfl
 have hst : fC pg r p (i + 1) = if eU .i64 r (nL i).2 ≠ 0 ∧ gy pg p (nL i).1 = 0 then jn .i64 (fC pg r p i) (nL i).2 else fC pg r p i := rfl
 obtain ⟨⟨k, c⟩, hkc⟩ : ∃ q, nL i = q := ⟨_, rfl⟩
 rw [hkc] at hkv hst
 dsimp only at hkv hst
 refine aw ?_
 refine a6 (GJ a13 isAgg493 sizeOf493 rfl rfl rfl hi3 hkv) ?_
 refine bu fun b7 => ?_
 refine ax aC ?_
 refine bB [b3, b7, bm] 19 fun hS => ?_
 refine ae 0 4 hS ?_
 refine av 4 hS (fm rfl rfl rfl) ?_
 refine ae 5 2 hS ?_
 refine iS (t := 21) rfl ?_ ?_
 intro g5_7
 refine ae 7 4 hS ?_
 refine ae 12 4 hS ?_
 refine bJ 11 (ah IV (A7 pv ps pm d)) fun hS => ?_
 refine bJ 16 (ah call206 (E6 pm pg hP p k)) fun hS => ?_
 refine ae 17 2 hS ?_
 refine aI ?_
 refine ag (fun c5 => ?_) fun c5 => ?_
 refine a6 (nZ rfl rfl rfl) ?_
 refine eE () ?_ ?_ ?_
 trivial
 · rw [hst, Qaf (by omega)]
   repeat (first | exact ci | refine bQ rfl ?_)
 exact IO
 refine eE () ?_ ?_ ?_
 trivial
 · rw [hst, Qac (by omega)]
   repeat (first | exact ci | refine bQ rfl ?_)
 exact IO
 intro g5_7
 refine ae 7 12 hS ?_
 refine aI ?_
 refine eE () ?_ ?_ ?_
 trivial
 · rw [hst, Qac (by omega)]
   repeat (first | exact ci | refine bQ rfl ?_)
 exact IO
 intro _ _
 refine aw ?_
 refine a6 bS ?_
 exact bE (i + 1) (by omega)
 refine aw ?_
 refine a8 ?_
 obtain rfl : i = 3 := by omega
 exact aj
section
variable {P : Program} {S : World → Prop} {N : FSz} {e : aH} {t : TypeId} {l : List Value} {v : Value}
theorem GL {E n k : Nat} {ps : Array (Nat × Operand)} {rs : List (List Value)} (hu : P.underlying t = some (.array n E)) (hs : ∀ w, (sizeOf E).run P w = .ok k w) (hz : ∀ w, (zeroValue t).run P w = .ok (.agg l.toArray) w)
    (hel : qI k e 0 ps.toList rs) (hl : l.length = rs.length * k) : aW P S N e (.build t ps) (.agg rs.flatten.toArray) := fun a w _ _ _ _ _ hF _ => by
 have hfl := zK (k := k) (fun x v h => hF.eval h) ps.toList rs [] l 0 (by simp) hel hl
 simp only [Qat] at hfl
 have hb : Instr.build t (ps.map fun (i, x) => (i, a.eval x)) = (do
     let zero := (← zeroValue t).cells
     match ← underlying t with
     | .struct fields =>
       let places ← fields.mapM pp
       let some cells := Instr.fill (places[·]?) zero (ps.map fun (i, x) => (i, a.eval x)).toList | stuck "build: no such field, or a part of the wrong size"
       pure (.agg cells)
     | .array _ elem =>
       let size ← sizeOf elem
       let some cells := Instr.fill (fun i => some (i * size, size)) zero (ps.map fun (i, x) => (i, a.eval x)).toList | stuck "build: a part of the wrong size"
       pure (.agg cells)
     | _ => stuck "build: struct or array type expected") := rfl
 simp only [execOp, hb, Sem.run_bind, hz, dU hu, hs, Result.andThen_ok, Value.cells, Sem.run_pure, QbQ]
 rw [hfl]; rfl
end
theorem yo (n : Nat) : (((n : Nat) : Int) != 0) = (n != 0) := by
 grind
theorem GM (b : Nat) (rl : List Nat) (pc x : Nat) (i : Int) (hl : rl.length = 16) : sQ W0 141 [pQ b, iQ i, wV x] (pt b (d8 rl pc) :: R) (iQ (if kB i then 0 else 1)) (pt b (d8 (if kB i then nr rl i.toNat x else rl) pc) :: R) := by
 by_cases hi : kB i = true
 have hi2 : 0 ≤ i ∧ i < 16 := Qas hi
 obtain ⟨n, rfl⟩ : ∃ n : Nat, i = (n : Int) := ⟨i.toNat, by omega⟩
 rw [Qaf hi, Qaf hi, Qam]
 by_cases h0 : n = 0
 subst h0
 rw [nr, Qaf rfl]
 have hput : ∀ R, bc Tryz.prog W0 204 [pQ b, iQ ((0 : Nat) : Int), wV x] (pt b (d8 rl pc) :: R) (fun v B => v = .tuple #[] ∧ B = pt b (d8 rl pc) :: R) := fun R => by
  refine ab func204 ntmps204 ?_
  refine ag (fun c0 => ?_) fun c0 => ?_
  exact absurd rfl c0
  refine bM (.inr rfl) .nil ?_
  exact aj
 refine js 12 IR ntmps141 ?_
 refine aA rfl (fun c1 => ?_) fun c1 => ?_
 cases c1
 refine aw ?_
 refine dK 10 (ah Cs (xS b rl pc hl ((0 : Nat) : Int))) ?_
 refine ag (fun c4 => ?_) fun c4 => ?_
 refine ac (ah call204 (hput _)) ?_
 refine a8 ?_
 rw [hi]
 exact aj
 exact absurd (by rw [hi]; rfl) c4
 grind [nr, UP]
 rw [Qac hi, Qac hi]
 refine js 12 IR ntmps141 ?_
 refine aA rfl (fun c1 => ?_) fun c1 => ?_
 cases c1
 refine aw ?_
 refine dK 10 (ah Cs (xS b rl pc hl i)) ?_
 refine ag (fun c4 => ?_) fun c4 => ?_
 exact absurd c4 (by rw [Qac hi]; decide)
 refine a8 ?_
 rw [Qac hi]
 exact aj
abbrev dh (cs : List Nat) (id : Nat) : Obj := a7 (cs.map wV ++ [.int .i64 id, .bool true]) 219
section
variable {cs : List Nat} {id : Nat}
theorem vI (h : CsOk cs) : (cs.map wV ++ [Value.int .i64 id, .bool true]).length = 9 := by simp [h.len]
theorem rO (h : CsOk cs) {n : Nat} (hn : n < 7) : (cs.map wV ++ [Value.int .i64 id, .bool true])[n * 1]? = some (wV (dD cs n)) := by
 have : n < cs.length := by rw [h.len]; exact hn
 rw [QaA, QaH (by grind)]
 simp [dD, List.getD, this]
theorem WP (h : CsOk cs) : (cs.map wV ++ [Value.int .i64 id, .bool true])[8]? = some (.bool true) := by
 rw [Qbi (by rw [Qax, h.len]; decide), Qax, h.len]; rfl
theorem WQ (h : CsOk cs) : (cs.map wV ++ [Value.int .i64 id, .bool true])[7]? = some (iQ id) := by
 rw [Qbi (by rw [Qax, h.len]; decide), Qax, h.len]; rfl
theorem vJ (h : cs.length = 7) {n v : Nat} (hn : n < 7) : (cs.map wV ++ [Value.int .i64 id, .bool true]).set (n * 1) (wV v) = (cs.set n v).map wV ++ [iQ id, .bool true] := by
 simp_all
theorem WR (h : CsOk cs) : ((cs.map wV ++ [Value.int .i64 id, .bool true]).drop 0).take 7 = cs.map wV := by
 rw [List.drop_zero, List.take_left' (by rw [Qax, h.len])]
theorem tH (b : Nat) (h : CsOk cs) : sQ W0 118 [pV b] (pt b (dh cs id) :: R) (.bool false) (pt b (dh cs id) :: R) := by
 refine ab func118 ntmps118 ?_
 refine cR rfl rfl rfl (fun g1_3 => ?_) fun g1_3 => ?_
 cases g1_3
 refine aw ?_
 refine a6 (aG (aF (WP h))) ?_
 exact a8 aj
theorem yp (b : Nat) (h : CsOk cs) (k : Nat) (hk : k < 4294967296) : sQ W0 119 [pV b, wV k] (pt b (dh cs id) :: R) (.bool (pJ cs k)) (pt b (dh cs id) :: R) := by
 refine ab func119 ntmps119 ?_
 refine a6 (iR kF bF rfl rfl (i := 5) rfl (by decide) (by first | exact Qab _ | rfl)) ?_
 refine a6 (aG (aF (rO h (n := 5) (by decide)))) ?_
 refine a6 (fm rfl rfl (ll (h.at_ 5) hk)) ?_
 refine a8 ?_
 exact ⟨_, ⟨Qah Value.bool (yo _), rfl⟩, IO⟩
theorem GN (b : Nat) (h : CsOk cs) : sQ W0 351 [pV b] (pt b (dh cs id) :: R) (iQ (if eg cs then 0 else 4)) (pt b (dh cs id) :: R) := by
 refine ab func351 ntmps351 ?_
 refine ac (ah wn (tH b h)) ?_
 refine ac (ah Cx (yp b h 4 (by decide))) ?_
 refine ag (fun c3 => ?_) fun c3 => ?_
 refine a8 ?_
 rw [eg, Qac (by simpa using c3)]
 exact aj
 refine a8 ?_
 rw [eg, Qaf (by simpa using c3)]
 exact aj
theorem GO (b : Nat) (h : CsOk cs) (hid : id < 4) (n : Nat) (hn : n < 9) (clock : Int) (hc : 0 ≤ clock) : sQ W0 313 [pV b, iQ n, iQ clock] (pt b (dh cs id) :: R) (.tuple #[wV (if eg cs then pL cs id clock.toNat n else 0), iQ (if eg cs then 0 else 4)]) (pt b (dh cs id) :: R) := by
 obtain ⟨q, rfl⟩ : ∃ q : Nat, clock = (q : Int) := ⟨clock.toNat, by omega⟩
 rw [Qam]
 refine ab func313 ntmps313 ?_
 refine ac (ah call351 (GN b h)) ?_
 refine ag (fun c2 => ?_) fun c2 => ?_
 refine az ?_
 have hk : eg cs = false := by
  grind
 rw [hk]
 exact aj
 have hk : eg cs = true := by
  grind
 rw [hk]
 refine aA rfl (fun c4 => ?_) fun c4 => ?_
 omega
 refine aw ?_
 refine aA rfl (fun c5 => ?_) fun c5 => ?_
 omega
 refine aw ?_
 refine ag (fun c7 => ?_) fun c7 => ?_
 refine a6 (cT (g8 (q : Int))) ?_
 refine az ?_
 obtain rfl : n = 7 := by omega
 exact aj
 refine ag (fun c9 => ?_) fun c9 => ?_
 refine a6 (aG (aF (WQ h))) ?_
 refine a6 (cT (dP (by omega))) ?_
 refine az ?_
 obtain rfl : n = 8 := by omega
 exact aj
 refine a6 (i4 (by omega)) ?_
 refine a6 (aG (aF (rO h (n := n) (by omega)))) ?_
 refine az ?_
 rw [Qaf rfl, pL, Qac (by omega), Qac (by omega)]
 exact aj
theorem WT (b : Nat) (h : CsOk cs) (n v : Nat) (hn : n < 9) (hv : v < 4294967296) (hk : eg cs = true) : sP W0 396 [pV b, iQ n, wV v] (pt b (dh cs id) :: R) (fun r B => r = iQ (if n ≤ 6 then 0 else 1) ∧ B = pt b (dh (if n ≤ 6 then cs.set n (kR n v) else cs) id) :: R) := by
 refine ab func396 ntmps396 ?_
 refine ac (ah call351 (GN b h)) ?_
 rw [hk, Qaf rfl]
 refine aA rfl (fun c2 => ?_) fun c2 => ?_
 exact absurd rfl c2
 refine au 2 ?_
 refine dO (fun _ : Unit => n ≤ 6) (fun _ => [(0, pV b), (1, iQ n), (2, wV (kR n v))]) (fun _ => pt b (dh cs id) :: R) ?_ ?_
 refine au 12 ?_
 refine ag (fun c6 => ?_) fun c6 => ?_
 refine a6 (fm rfl rfl (ll hv (by decide))) ?_
 refine eE () ?_ ?_ ?_
 omega
 · rw [kR, Qaf (by omega)]
   repeat (first | exact ci | refine bQ rfl ?_)
 exact IO
 refine ag (fun c8 => ?_) fun c8 => ?_
 refine a6 (fm rfl rfl (ll hv (by decide))) ?_
 refine eE () ?_ ?_ ?_
 omega
 · rw [kR, Qac (by omega), Qaf (by omega)]
   repeat (first | exact ci | refine bQ rfl ?_)
 exact IO
 refine ag (fun c10 => ?_) fun c10 => ?_
 refine eE () ?_ ?_ ?_
 omega
 · rw [kR, Qac (by omega), Qac (by omega)]
   repeat (first | exact ci | refine bQ rfl ?_)
 exact IO
 refine ag (fun c11 => ?_) fun c11 => ?_
 refine eE () ?_ ?_ ?_
 omega
 · rw [kR, Qac (by omega), Qac (by omega)]
   repeat (first | exact ci | refine bQ rfl ?_)
 exact IO
 refine ag (fun c12 => ?_) fun c12 => ?_
 refine eE () ?_ ?_ ?_
 omega
 · rw [kR, Qac (by omega), Qac (by omega)]
   repeat (first | exact ci | refine bQ rfl ?_)
 exact IO
 refine ag (fun c13 => ?_) fun c13 => ?_
 refine eE () ?_ ?_ ?_
 omega
 · rw [kR, Qac (by omega), Qac (by omega)]
   repeat (first | exact ci | refine bQ rfl ?_)
 exact IO
 refine ag (fun c14 => ?_) fun c14 => ?_
 refine eE () ?_ ?_ ?_
 omega
 · rw [kR, Qac (by omega), Qac (by omega)]
   repeat (first | exact ci | refine bQ rfl ?_)
 exact IO
 refine a8 ?_
 rw [Qac (by omega), Qac (by omega)]
 exact aj
 intro _ hn6
 rw [Qaf hn6, Qaf hn6]
 refine aw ?_
 refine a6 (i4 (by omega)) ?_
 refine ax (dx (by rw [vI h]; omega) (vJ h.len (by omega))) ?_
 exact a8 aj
theorem GP (b : Nat) (h : CsOk cs) : sQ W0 109 [pV b] (pt b (dh cs id) :: R) (.agg (cs.map wV).toArray) (pt b (dh cs id) :: R) := by
 refine ab func109 ntmps109 ?_
 refine bu fun b1 => ?_
 refine ac (ah wn (tH b h)) ?_
 refine a6 (eV zg nU rfl (bU (b := b) (WR h) (by rw [Qax, h.len])) (by rw [Qax, h.len])) ?_
 refine ax (fG nU rfl rfl (by rw [Qax, h.len]) (xQ cs) rfl) ?_
 exact bi (.cons (bD zg nU rfl (by rw [Qax, h.len])) .nil) aj
@[reducible] def rP (cs : List Nat) : List Value := [.bool (jK cs), .int .i64 (jL cs), .bool (!eg cs)]
theorem tI (b : Nat) (h : CsOk cs) : sQ W0 49 [pV b] (pt b (dh cs id) :: R) (.agg (rP cs).toArray) (pt b (dh cs id) :: R) := by
 have h0 := h.at_ 0
 have hd : dD cs 0 / 256 < 4294967296 := by omega
 obtain ⟨rr, hrr⟩ : ∃ r, dD cs 0 / 256 &&& 31 = r := ⟨_, rfl⟩
 have ha : rr < 4294967296 := by grind [QaM, Qbu]
 refine ab func49 ntmps49 ?_
 refine bu fun b1 => ?_
 refine ac (ah wn (tH b h)) ?_
 refine a6 (iR kF bF rfl rfl (i := 0) rfl (by decide) (by first | exact Qab _ | rfl)) ?_
 refine a6 (aG (aF (rO h (n := 0) (by decide)))) ?_
 refine a6 (fm rfl rfl (ll h0 (by decide) (b := 1))) ?_
 refine a6 (jo rfl rfl (by decide) (lm (k := .u32) (s := 8) (by decide))) ?_
 refine a6 (fm rfl rfl (show _ = ((rr : Nat) : Int) by rw [← hrr]; exact ll hd (by decide) (b := 31))) ?_
 refine a6 (cT (bN (by omega))) ?_
 refine ac (ah Cx (yp b h 4 (by decide))) ?_
 refine ax aC ?_
 refine bi (.cons (bD yS tW rfl rfl) .nil) ?_
 refine aE ?_
 rw [rP, jK, jL, hrr, eg, ← yo]
 rfl
theorem GQ (b : Nat) (h : CsOk cs) : sQ W0 231 [pV b] (pt b (dh cs id) :: R) (.bool (dD cs 1 != 0)) (pt b (dh cs id) :: R) := by
 refine ab func231 ntmps231 ?_
 refine ac (ah wn (tH b h)) ?_
 refine cM (fun g1_4 => ?_) fun g1_4 => ?_
 refine a6 (iR kF bF rfl rfl (i := 1) rfl (by decide) (by first | exact Qab _ | rfl)) ?_
 refine aa rfl (bW l8 rfl (aF (rO h (n := 1) (by decide)))) ?_
 refine dw rfl rfl (aa rfl (lN rfl rfl) (aa rfl (qA rfl rfl) (aa rfl (bC rfl) (aN (aD (dT (bM (.inl rfl) (.cons (bz rfl) .nil) ?_)))))))
 exact ⟨_, ⟨Qah Value.bool (yo _), rfl⟩, IO⟩
 exact absurd (by decide) g1_4
theorem WU (b : Nat) (h : CsOk cs) : sQ W0 160 [pV b] (pt b (dh cs id) :: R) (.bool (ri cs)) (pt b (dh cs id) :: R) := by
 obtain ⟨z, hz⟩ : ∃ z, (dD cs 1 != 0) = z := ⟨_, rfl⟩
 refine ab func160 ntmps160 ?_
 refine ac (ah call231 (GQ b h)) ?_
 rw [hz]
 refine cM (fun g1_3 => ?_) fun g1_3 => ?_
 rw [show ri cs = pJ cs 1 by rw [ri, hz, g1_3, Qbr]]
 refine ac (ah Cx (yp b h 1 (by decide))) ?_
 exact a8 aj
 rw [show ri cs = false by rw [ri, hz, show z = false by simpa using g1_3, Bool.false_and]]
 exact a8 aj
def Bt (f0 t0 f1 t1 : Nat) : List Value := [wV f0, wV t0, wV f1, wV t1]
theorem WV (b b3 b6 s f t : Nat) (h : CsOk cs) (hf : f < 4294967296) (hs : s < 4294967296) (ht : t < 4294967296) : sQ W0 304 [wV f, wV t, pV b3, pV b6] (pt b3 (a7 [pV b] 135) :: pt b6 (a7 [wV s] 46) :: pt b (dh cs id) :: R) (.tuple #[]) (pt b3 (a7 [pV b] 135) :: pt b6 (a7 [wV (np cs s f t)] 46) :: pt b (dh cs id) :: R) := by
 refine ab func304 ntmps304 ?_
 refine ac (ah Cx (yp b h f hf)) ?_
 refine ag (fun c0 => ?_) fun c0 => ?_
 rw [np, Qaf c0]
 refine a6 (show aW _ _ _ _ _ (wV (s ||| t)) from nZ rfl rfl (uG hs ht)) ?_
 refine ax dy ?_
 refine bM (.inr rfl) .nil ?_
 exact aj
 rw [np, Qac c0]
 refine bM (.inr rfl) .nil ?_
 exact aj
def tJ (cs : List Nat) (s f0 t0 f1 t1 : Nat) : Nat → Nat
 | 0 => s
 | 1 => np cs s f0 t0
 | _ => nq cs s f0 t0 f1 t1
theorem GR (W0 : World) (R : List HP) (b s f0 t0 f1 t1 : Nat) (h : CsOk cs) (hs : s < 4294967296) (h0 : f0 < 4294967296) (h1 : t0 < 4294967296) (h2 : f1 < 4294967296) (h3 : t1 < 4294967296) : sQ W0 233 [pV b, wV s, .agg (Bt f0 t0 f1 t1).toArray] (pt b (dh cs id) :: R) (.tuple #[]) (pt b (dh (cs.set 5 (nq cs s f0 t0 f1 t1)) id) :: R) := by
 have hlt : ∀ k, tJ cs s f0 t0 f1 t1 k < 4294967296 := fun k => by
  match k with
  | 0 => exact hs
  | 1 => exact Ai hs h1
  | k + 2 => exact Aj hs h1 h3
 refine ab func233 ntmps233 ?_
 refine d7 (iw rfl rfl) fun b3 => ?_
 refine aS fun b5 => ?_
 refine d7 (o8 a14 rfl) fun b6 => ?_
 refine eW (ka bF rfl rfl rfl (Qaa rfl) SetL.eq) ?_
 rintro _ _ rfl
 refine aN (aD (aP (aZ (aa rfl (uu rfl rfl) ?_))))
 refine aa rfl (bC rfl) (aN (aD (aP (aP (aZ (aa rfl (mT isAgg350 sizeOf350 rfl rfl) ?_))))))
 refine aa rfl (aL rfl) (aN (aD (l9 ?_)))
 refine fQ (fun k : Nat => k ≤ 2) (fun k => [(3, pV b3), (6, pV b6), (7, .func (.func 304) #[] #[pV b3, pV b6]), (12, .agg (Bt f0 t0 f1 t1).toArray), (13, .int .i64 k)]) (fun k => pt b3 (a7 [pV b] 135) :: pt b6 (a7 [wV (tJ cs s f0 t0 f1 t1 k)] 46) :: pt b (dh cs id) :: R) (fun k => 2 - k) 0 ?_ ?_ ?_ ?_
 omega
 · repeat (first | exact ci | refine bQ rfl ?_)
 exact (show Ent _ (pt b3 (a7 [pV b] 135) :: pt b6 (a7 [wV s] 46) :: pt b (dh cs id) :: R) from inferInstance)
 intro k hk
 refine aw ?_
 refine ag (fun c4 => ?_) fun c4 => ?_
 have hk2 : k < 2 := by omega
 obtain ⟨x, y, hx, hy, hxy, hstep⟩ : ∃ x y, x < 4294967296 ∧ y < 4294967296 ∧ ((Bt f0 t0 f1 t1).toArray.extract (k * 2) (k * 2 + 2) = [wV x, wV y].toArray) ∧ np cs (tJ cs s f0 t0 f1 t1 k) x y = tJ cs s f0 t0 f1 t1 (k + 1) := by
  match k, hk2 with
  | 0, _ => exact ⟨f0, t0, h0, h1, rfl, rfl⟩
  | 1, _ => exact ⟨f1, t1, h2, h3, rfl, rfl⟩
 refine a6 (GJ J8 isAgg349 C3 rfl rfl rfl hk2 hxy) ?_
 refine bu fun b9 => ?_
 refine ax aC ?_
 refine a6 (iR wo bF rfl rfl (i := 0) rfl (by decide) (by first | exact Qab _ | rfl)) ?_
 refine a6 (iR wo bF rfl rfl (i := 1) rfl (by decide) (by first | exact Qab _ | rfl)) ?_
 refine ac (ix pB (gx (us := []) (cs := [pV b3, pV b6]) rfl call304 rfl (WV b b3 b6 (tJ cs s f0 t0 f1 t1 k) x y h hx (hlt k) hy))) ?_
 rw [hstep]
 refine a6 bS ?_
 exact bE (k + 1) (by omega)
 obtain rfl : k = 2 := by omega
 refine bB [b3, b6] 6 fun hS => ?_
 refine ae 0 4 hS ?_
 refine av 4 hS (iR kF bF rfl rfl (i := 5) rfl (by decide) (by first | exact Qab _ | rfl)) ?_
 refine cq 5 (dx (by grind [vI]) (vJ (n := 5) h.len (by decide))) fun hS => ?_
 refine aI ?_
 refine bM (.inr rfl) .nil ?_
 exact ⟨_, ⟨rfl, rfl⟩, (show Ent _ (pt b (dh (cs.set 5 (tJ cs s f0 t0 f1 t1 2)) id) :: R) from inferInstance)⟩
theorem GT (b pc cause tval : Nat) (h : CsOk cs) (h1 : pc < 4294967296) (h2 : cause < 4294967296) (h3 : tval < 4294967296) : sQ W0 162 [pV b, wV pc, wV cause, wV tval] (pt b (dh cs id) :: R) (.tuple #[wV (dD cs 1), iQ 0]) (pt b (dh (rj cs pc cause tval) id) :: R) := by
 have ht := h.trap h1 h2 h3
 have he := h.enter h1 h2 h3
 have e1 : dD (rj cs pc cause tval) 1 = dD cs 1 := by grind [rj, oA, dD]
 refine ab func162 ntmps162 ?_
 refine ac (ah wn (tH b h)) ?_
 refine bB [] 18 fun hS => ?_
 refine ae 0 8 hS ?_
 refine av 8 hS (iR kF bF rfl rfl (i := 2) rfl (by decide) (by first | exact Qab _ | rfl)) ?_
 refine ae 10 2 hS ?_
 refine ae 14 2 hS ?_
 refine cq 9 (dx (by grind [vI]) (vJ (n := 2) h.len (by decide))) fun hS => ?_
 refine av 12 hS (iR kF bF rfl rfl (i := 3) rfl (by decide) (by first | exact Qab _ | rfl)) ?_
 refine cq 13 (dx (by rw [vI (h.set 2 pc h1)]; decide) (vJ (n := 3) (h.set 2 pc h1).len (by decide))) fun hS => ?_
 refine av 16 hS (iR kF bF rfl rfl (i := 4) rfl (by decide) (by first | exact Qab _ | rfl)) ?_
 refine cq 17 (dx (by rw [vI ((h.set 2 pc h1).set 3 cause h2)]; decide) (vJ (n := 4) ((h.set 2 pc h1).set 3 cause h2).len (by decide))) fun hS => ?_
 refine aI ?_
 refine a6 (xa wo bF z6 rfl rfl rfl rfl) ?_
 refine a6 (xa wo bF z6 rfl rfl rfl rfl) ?_
 refine a6 (GL (rs := [[wV 1, wV 2], [wV 4, wV 8]]) J8 C3 a15 (eJ rfl rfl (eJ rfl rfl gG)) rfl) ?_
 refine ac (ah call233 (GR (cs := oA cs pc cause tval) W0 _ b 4 1 2 4 8 ht (by decide) (by decide) (by decide) (by decide) (by decide))) ?_
 rw [S4, show (oA cs pc cause tval).set 5 (nq cs 4 1 2 4 8) = rj cs pc cause tval from rfl]
 refine a6 (iR kF bF rfl rfl (i := 1) rfl (by decide) (by first | exact Qab _ | rfl)) ?_
 refine a6 (aG (aF (rO he (n := 1) (by decide)))) ?_
 refine az ?_
 rw [e1]
 exact aj
theorem WW (b : Nat) (h : CsOk cs) : sQ W0 395 [pV b] (pt b (dh cs id) :: R) (.tuple #[wV (dD cs 2), iQ 0]) (pt b (dh (pK cs) id) :: R) := by
 have hl := h.leave
 have e1 : dD (pK cs) 2 = dD cs 2 := by grind [pK, dD]
 have hs : dD cs 5 &&& 10 < 4294967296 := QaM Qbu (h.at_ 5)
 refine ab func395 ntmps395 ?_
 refine ac (ah wn (tH b h)) ?_
 refine a6 (iR kF bF rfl rfl (i := 5) rfl (by decide) (by first | exact Qab _ | rfl)) ?_
 refine a6 (aG (aF (rO h (n := 5) (by decide)))) ?_
 refine a6 (fm rfl rfl (ll (h.at_ 5) (by decide) (b := 10))) ?_
 refine a6 (xa wo bF z6 rfl rfl rfl rfl) ?_
 refine a6 (xa wo bF z6 rfl rfl rfl rfl) ?_
 refine a6 (GL (rs := [[wV 2, wV 1], [wV 8, wV 4]]) J8 C3 a15 (eJ rfl rfl (eJ rfl rfl gG)) rfl) ?_
 refine ac (ah call233 (GR W0 _ b (dD cs 5 &&& 10) 2 1 8 4 h hs (by decide) (by decide) (by decide) (by decide))) ?_
 rw [show cs.set 5 (nq cs (dD cs 5 &&& 10) 2 1 8 4) = pK cs from rfl]
 refine a6 (iR kF bF rfl rfl (i := 2) rfl (by decide) (by first | exact Qab _ | rfl)) ?_
 refine a6 (aG (aF (rO hl (n := 2) (by decide)))) ?_
 refine az ?_
 rw [e1]
 exact aj
end
theorem Bu (a : Nat) : IntKind.wrap .i32 (a : Int) = mq a := rfl
section
variable (W0 : World) (R : List HP) (a b : Nat)
theorem WX : sQ W0 417 [.agg #[wV a, wV b]] R (wV (u32 ((a : Int) + b))) R := by
 refine ab func417 ntmps417 ?_
 refine aS fun b1 => ?_
 refine a6 (dr rfl rfl (g8 _)) ?_
 exact a8 aj
theorem WY : sQ W0 418 [.agg #[wV a, wV b]] R (wV (u32 ((a : Int) - b))) R := by
 refine ab func418 ntmps418 ?_
 refine aS fun b1 => ?_
 refine a6 (iq rfl rfl (g8 _)) ?_
 exact a8 aj
theorem WZ (ha : a < 4294967296) (hb : b < 4294967296) : sQ W0 411 [.agg #[wV a, wV b]] R (wV (a &&& b)) R := by
 refine ab func411 ntmps411 ?_
 refine aS fun b1 => ?_
 refine a6 (fm rfl rfl (ll ha hb)) ?_
 exact a8 aj
theorem X0 (ha : a < 4294967296) (hb : b < 4294967296) : sQ W0 412 [.agg #[wV a, wV b]] R (wV (a ||| b)) R := by
 refine ab func412 ntmps412 ?_
 refine aS fun b1 => ?_
 refine a6 (nZ rfl rfl (uG ha hb)) ?_
 exact a8 aj
theorem X9 : qC .u32 (a : Int) (b : Int) = ((u32 (qC .u32 (a : Int) (b : Int)) : Nat) : Int) := by
 grind [qC, g8, dC, Ah]
theorem Xa : sQ W0 413 [.agg #[wV a, wV b]] R (wV (u32 (qC .u32 (a : Int) (b : Int)))) R := by
 refine ab func413 ntmps413 ?_
 refine aS fun b1 => ?_
 refine a6 (JA rfl rfl (X9 a b)) ?_
 exact a8 aj
theorem GU (x n : Int) : iO .u32 x n = ((u32 (iO .u32 x n) : Nat) : Int) := by
 grind [iO, g8, Ah, dC]
theorem Xb : sQ W0 414 [.agg #[wV a, wV b]] R (wV (u32 (iO .u32 (a : Int) ((b % 32 : Nat) : Int)))) R := by
 refine ab func414 ntmps414 ?_
 refine aS fun b1 => ?_
 refine a6 (k7 rfl rfl (by decide) (oc b 32)) ?_
 refine a6 (mQ rfl rfl (by omega) (GU _ _)) ?_
 exact a8 aj
theorem Xc : sQ W0 415 [.agg #[wV a, wV b]] R (wV (a / 2 ^ (b % 32))) R := by
 have h32 : b % 32 ≤ (IntKind.bits .u32) := by
  have := Qcy b (show 0 < 32 by decide)
  show b % 32 ≤ 32
  omega
 refine ab func415 ntmps415 ?_
 refine aS fun b1 => ?_
 refine a6 (k7 rfl rfl (by decide) (oc b 32)) ?_
 refine a6 (jo rfl rfl (by omega) (lm (k := .u32) (s := b % 32) h32)) ?_
 exact a8 aj
theorem Xd : sQ W0 416 [.agg #[wV a, wV b]] R (wV (u32 (kI .i32 (mq a) ((b % 32 : Nat) : Int)))) R := by
 refine ab func416 ntmps416 ?_
 refine aS fun b1 => ?_
 refine a6 (cT (Bu a)) ?_
 refine a6 (k7 rfl rfl (by decide) (oc b 32)) ?_
 refine a6 (jo rfl rfl (by omega) rfl) ?_
 refine a6 (cT (g8 _)) ?_
 exact a8 aj
theorem Xe : sQ W0 419 [.agg #[wV a, wV b]] R (wV (u32 ((a : Int) * b))) R := by
 refine ab func419 ntmps419 ?_
 refine aS fun b1 => ?_
 refine a6 (ug rfl rfl (g8 _)) ?_
 exact a8 aj
theorem GV (x : Bool) : sQ W0 422 [.bool x] R (wV (oz x)) R := by
 refine ab func422 ntmps422 ?_
 refine ag (fun c1 => ?_) fun c1 => ?_
 rw [show oz x = 1 by rw [c1]; rfl]
 exact a8 aj
 rw [show oz x = 0 by rw [show x = false by simpa using c1]; rfl]
 exact a8 aj
theorem GW : sQ W0 393 [.agg #[wV a, wV b]] R (wV (oz (decide (mq a < mq b)))) R := by
 refine ab func393 ntmps393 ?_
 refine aS fun b1 => ?_
 refine a6 (cT (Bu a)) ?_
 refine a6 (cT (Bu b)) ?_
 refine ac (ao call422 (GV W0 _ (decide (mq a < mq b)))) ?_
 exact a8 aj
theorem GX : (decide ((a : Int) < (b : Int))) = decide (a < b) := by
 grind
theorem GY : sQ W0 394 [.agg #[wV a, wV b]] R (wV (oz (decide (a < b)))) R := by
 rw [← GX]
 refine ab func394 ntmps394 ?_
 refine dX (i3 rfl) fun b1 => ?_
 refine aa rfl (bC rfl) (aN (aD (aP (aZ ?_))))
 refine aa rfl (cG rfl qv rfl bF rfl (by first | exact Qab _ | rfl)) ?_
 refine aa rfl (bW l8 rfl (aF rfl)) ?_
 refine aa rfl (cG rfl qv rfl bF rfl (by first | exact Qab _ | rfl)) ?_
 refine aa rfl (bW l8 rfl (aF rfl)) ?_
 refine aa rfl (mR rfl rfl) (am rfl (fZ call422 rfl (GV W0 _ (decide ((a : Int) < (b : Int))))) ?_)
 rintro _ B_ ⟨rfl, hB_⟩
 obtain rfl := hB_.symm
 refine aa rfl (bC rfl) (aN (aD (dT ?_)))
 exact a8 aj
theorem Xf (ha : a < 4294967296) : sQ W0 420 [.agg #[wV a, wV b]] R (wV (if b = 0 then 4294967295 else a / b)) R := by
 have hq : a / b < 4294967296 := QaM (Qck _ _) ha
 refine ab func420 ntmps420 ?_
 refine dX (i3 rfl) fun b1 => ?_
 refine aa rfl (bC rfl) (aN (aD (aP (aP (aZ ?_)))))
 refine aa rfl (cG rfl qv rfl bF rfl (by first | exact Qab _ | rfl)) ?_
 refine aa rfl (bW l8 rfl (aF rfl)) ?_
 refine aa rfl (mh rfl rfl) (aN (aD ?_))
 refine aA rfl (fun c1 => ?_) fun c1 => ?_
 refine au 7 ?_
 refine a8 ?_
 rw [Qaf (by omega)]
 exact aj
 refine aw ?_
 have hb0 : b ≠ 0 := by omega
 rw [Qac hb0]
 refine a6 (qB rfl rfl (by omega) (by rw [uH]; exact dP ⟨Int.natCast_nonneg _, Int.ofNat_lt.2 hq⟩ : IntKind.wrap .u32 (Int.tdiv (a : Int) (b : Int)) = ((a / b : Nat) : Int))) ?_
 exact a8 aj
theorem Xg (ha : a < 4294967296) : sQ W0 421 [.agg #[wV a, wV b]] R (wV (if b = 0 then a else a % b)) R := by
 refine ab func421 ntmps421 ?_
 refine dX (i3 rfl) fun b1 => ?_
 refine aa rfl (bC rfl) (aN (aD (aP (aP (aZ ?_)))))
 refine aa rfl (cG rfl qv rfl bF rfl (by first | exact Qab _ | rfl)) ?_
 refine aa rfl (bW l8 rfl (aF rfl)) ?_
 refine aa rfl (mh rfl rfl) (aN (aD ?_))
 refine aA rfl (fun c1 => ?_) fun c1 => ?_
 refine au 9 ?_
 refine a8 ?_
 rw [Qaf (by omega)]
 exact aj
 refine aw ?_
 have hb0 : b ≠ 0 := by omega
 rw [Qac hb0]
 refine a6 (k7 rfl rfl (by omega) (oc a b)) ?_
 exact a8 aj
def Bv (f : FuncId) (op : Nat) : Prop := (∀ args w, (callFunc f args).run Tryz.prog w = .ok (.enter f args) w) ∧ ∀ R, bc Tryz.prog W0 f ([] ++ [.agg #[wV a, wV b]] ++ []) R (fun v B => v = wV (lv op a b) ∧ B = R)
theorem lF {f : FuncId} {op n : Nat} (hc : ∀ args w, (callFunc f args).run Tryz.prog w = .ok (.enter f args) w) (e : lv op a b = n) (h : ∀ R, bc Tryz.prog W0 f [.agg #[wV a, wV b]] R (fun v B => v = wV n ∧ B = R)) : Bv W0 a b f op := ⟨hc, by rw [e]; exact h⟩
theorem Xh (op : Nat) (h : 3 ≤ op ∧ op ≤ 8) (ha : a < 4294967296) (hb : b < 4294967296) : sP W0 391 [iQ op] R (fun v B => ∃ f, v = .func (.func f) #[] #[] ∧ B = R ∧ Bv W0 a b f op) := by
 refine ab func391 ntmps391 ?_
 refine ag (fun c2 => ?_) fun c2 => ?_
 refine a8 ?_
 obtain rfl : op = 3 := by omega
 exact ⟨_, ⟨_, rfl, rfl, lF W0 a b call411 rfl fun R => WZ W0 R a b ha hb⟩, IO⟩
 refine ag (fun c4 => ?_) fun c4 => ?_
 refine a8 ?_
 obtain rfl : op = 4 := by omega
 exact ⟨_, ⟨_, rfl, rfl, lF W0 a b call412 rfl fun R => X0 W0 R a b ha hb⟩, IO⟩
 refine ag (fun c6 => ?_) fun c6 => ?_
 refine a8 ?_
 obtain rfl : op = 5 := by omega
 exact ⟨_, ⟨_, rfl, rfl, lF W0 a b call413 rfl fun R => Xa W0 R a b⟩, IO⟩
 refine ag (fun c8 => ?_) fun c8 => ?_
 refine a8 ?_
 obtain rfl : op = 6 := by omega
 exact ⟨_, ⟨_, rfl, rfl, lF W0 a b call414 rfl fun R => Xb W0 R a b⟩, IO⟩
 refine ag (fun c10 => ?_) fun c10 => ?_
 refine a8 ?_
 obtain rfl : op = 7 := by omega
 exact ⟨_, ⟨_, rfl, rfl, lF W0 a b call415 rfl fun R => Xc W0 R a b⟩, IO⟩
 refine a8 ?_
 obtain rfl : op = 8 := by omega
 exact ⟨_, ⟨_, rfl, rfl, lF W0 a b call416 rfl fun R => Xd W0 R a b⟩, IO⟩
theorem GZ (op : Nat) (h : 1 ≤ op ∧ op ≤ 13 ∧ (op < 3 ∨ 8 < op)) (ha : a < 4294967296) : sP W0 392 [iQ op] R (fun v B => ∃ f, v = .func (.func f) #[] #[] ∧ B = R ∧ Bv W0 a b f op) := by
 refine ab func392 ntmps392 ?_
 refine ag (fun c2 => ?_) fun c2 => ?_
 refine a8 ?_
 obtain rfl : op = 1 := by omega
 exact ⟨_, ⟨_, rfl, rfl, lF W0 a b call417 rfl fun R => WX W0 R a b⟩, IO⟩
 refine ag (fun c4 => ?_) fun c4 => ?_
 refine a8 ?_
 obtain rfl : op = 2 := by omega
 exact ⟨_, ⟨_, rfl, rfl, lF W0 a b call418 rfl fun R => WY W0 R a b⟩, IO⟩
 refine ag (fun c6 => ?_) fun c6 => ?_
 refine a8 ?_
 obtain rfl : op = 9 := by omega
 exact ⟨_, ⟨_, rfl, rfl, lF W0 a b call393 rfl fun R => GW W0 R a b⟩, IO⟩
 refine ag (fun c8 => ?_) fun c8 => ?_
 refine a8 ?_
 obtain rfl : op = 10 := by omega
 exact ⟨_, ⟨_, rfl, rfl, lF W0 a b call394 rfl fun R => GY W0 R a b⟩, IO⟩
 refine ag (fun c10 => ?_) fun c10 => ?_
 refine a8 ?_
 obtain rfl : op = 11 := by omega
 exact ⟨_, ⟨_, rfl, rfl, lF W0 a b call419 rfl fun R => Xe W0 R a b⟩, IO⟩
 refine ag (fun c12 => ?_) fun c12 => ?_
 refine a8 ?_
 obtain rfl : op = 12 := by omega
 exact ⟨_, ⟨_, rfl, rfl, lF W0 a b call420 rfl fun R => Xf W0 R a b ha⟩, IO⟩
 refine a8 ?_
 obtain rfl : op = 13 := by omega
 exact ⟨_, ⟨_, rfl, rfl, lF W0 a b call421 rfl fun R => Xg W0 R a b ha⟩, IO⟩
theorem H0 (op : Nat) (h : 1 ≤ op ∧ op ≤ 13) (ha : a < 4294967296) (hb : b < 4294967296) : sQ W0 352 [iQ op, wV a, wV b] R (.tuple #[wV (lv op a b), iQ 0]) R := by
 refine ab func352 ntmps352 ?_
 refine aA rfl (fun c1 => ?_) fun c1 => ?_
 omega
 refine aw ?_
 refine aA rfl (fun c2 => ?_) fun c2 => ?_
 omega
 refine aw ?_
 refine cM (fun g4_3 => ?_) fun g4_3 => ?_
 refine ag (fun c4 => ?_) fun c4 => ?_
 refine am rfl (ao call391 (Xh W0 _ a b op (by omega) ha hb)) ?_
 rintro _ B_ ⟨f, rfl, hB_, hf⟩
 obtain rfl := hB_.symm
 refine aa rfl (aL rfl) (aa rfl (aL rfl) (aa rfl (fw qv zj (aM bF (aM bF fq)) (cQ rfl bF rfl rfl (Qaa rfl) SetL.eq (cQ rfl bF rfl rfl (Qaa rfl) SetL.eq fp))) ?_))
 refine am rfl (gx (us := []) (cs := []) rfl hf.1 rfl (hf.2 _)) ?_
 rintro _ B_ ⟨rfl, hB_⟩
 obtain rfl := hB_.symm
 refine aa rfl (bC rfl) (aa rfl (bC rfl) (aN (aD (dT (mP (lc ?_))))))
 exact az aj
 refine am rfl (ao call392 (GZ W0 _ a b op (by omega) ha)) ?_
 rintro _ B_ ⟨f, rfl, hB_, hf⟩
 obtain rfl := hB_.symm
 refine aa rfl (aL rfl) (aa rfl (aL rfl) (aa rfl (fw qv zj (aM bF (aM bF fq)) (cQ rfl bF rfl rfl (Qaa rfl) SetL.eq (cQ rfl bF rfl rfl (Qaa rfl) SetL.eq fp))) ?_))
 refine am rfl (gx (us := []) (cs := []) rfl hf.1 rfl (hf.2 _)) ?_
 rintro _ B_ ⟨rfl, hB_⟩
 obtain rfl := hB_.symm
 refine aa rfl (bC rfl) (aa rfl (bC rfl) (aN (aD (dT ?_))))
 exact az aj
 refine am rfl (ao call392 (GZ W0 _ a b op (by omega) ha)) ?_
 rintro _ B_ ⟨f, rfl, hB_, hf⟩
 obtain rfl := hB_.symm
 refine aa rfl (aL rfl) (aa rfl (aL rfl) (aa rfl (fw qv zj (aM bF (aM bF fq)) (cQ rfl bF rfl rfl (Qaa rfl) SetL.eq (cQ rfl bF rfl rfl (Qaa rfl) SetL.eq fp))) ?_))
 refine am rfl (gx (us := []) (cs := []) rfl hf.1 rfl (hf.2 _)) ?_
 rintro _ B_ ⟨rfl, hB_⟩
 obtain rfl := hB_.symm
 refine aa rfl (bC rfl) (aa rfl (bC rfl) (aN (aD (dT ?_))))
 exact az aj
theorem H1 (p : Bool) : (((oz p : Nat) : Int) == 1) = p := by cases p <;> rfl
theorem H2 : (((a : Nat) : Int) == ((b : Nat) : Int)) = decide (a = b) := by
 grind
theorem Xi : (((a : Nat) : Int) != ((b : Nat) : Int)) = decide (a ≠ b) := by
 grind
theorem Xj (op : Nat) (h : 28 ≤ op ∧ op ≤ 31) : sQ W0 359 [iQ op, wV a, wV b] R (.tuple #[.bool (uW op a b), iQ 0]) R := by
 refine lk func359 ntmps359 rfl rfl ?_
 refine aP (aZ (aa rfl (bC rfl) (aa rfl (bC rfl) (aN (aD (aP (aZ (aa rfl (aL rfl) (aa rfl (aL rfl) (aa rfl (fw qv zj (aM bF (aM bF fq)) (cQ rfl bF rfl rfl (Qaa rfl) SetL.eq (cQ rfl bF rfl rfl (Qaa rfl) SetL.eq fp))) ?_))))))))))
 refine am rfl (dt zj) ?_
 rintro _ _ ⟨b8, rfl, rfl⟩
 refine ax aC ?_
 refine aA rfl (fun c3 => ?_) fun c3 => ?_
 refine aP ?_
 refine aZ (aa rfl (aL rfl) (aa rfl (aL rfl) (aa rfl (mh rfl rfl) (aa rfl (bC rfl) (aa rfl (bC rfl) (aN (aD (dT (mP (lc (bM (.inl rfl) (.cons (bz rfl) (.cons (bz rfl) .nil)) ?_)))))))))))
 obtain rfl : op = 28 := by omega
 exact ⟨_, ⟨by rw [H2]; rfl, rfl⟩, IO⟩
 refine aw ?_
 refine aA rfl (fun c5 => ?_) fun c5 => ?_
 refine aP ?_
 refine aZ (aa rfl (aL rfl) (aa rfl (aL rfl) (aa rfl (lN rfl rfl) (aa rfl (bC rfl) (aa rfl (bC rfl) (aN (aD (dT (mP (lc (bM (.inl rfl) (.cons (bz rfl) (.cons (bz rfl) .nil)) ?_)))))))))))
 obtain rfl : op = 29 := by omega
 exact ⟨_, ⟨by rw [Xi]; rfl, rfl⟩, IO⟩
 refine aw ?_
 refine ag (fun c7 => ?_) fun c7 => ?_
 refine am rfl (fZ call393 rfl (GW W0 _ a b)) ?_
 rintro _ B_ ⟨rfl, hB_⟩
 obtain rfl := hB_.symm
 refine aa rfl (mh rfl rfl) (aa rfl (bC rfl) (aa rfl (bC rfl) (aN (aD (dT (mP (lc (bM (.inl rfl) (.cons (bz rfl) (.cons (bz rfl) .nil)) ?_))))))))
 obtain rfl : op = 30 := by omega
 exact ⟨_, ⟨by rw [H1]; rfl, rfl⟩, IO⟩
 refine aA rfl (fun c9 => ?_) fun c9 => ?_
 refine au 3 ?_
 refine am rfl (fZ call394 rfl (GY W0 _ a b)) ?_
 rintro _ B_ ⟨rfl, hB_⟩
 obtain rfl := hB_.symm
 refine aa rfl (mh rfl rfl) (aa rfl (bC rfl) (aa rfl (bC rfl) (aN (aD (dT (mP (lc (bM (.inl rfl) (.cons (bz rfl) (.cons (bz rfl) .nil)) ?_))))))))
 obtain rfl : op = 31 := by omega
 exact ⟨_, ⟨by rw [H1]; rfl, rfl⟩, IO⟩
 omega
theorem Xk (op : Nat) (h : 14 ≤ op ∧ op ≤ 21) : sQ W0 356 [iQ op] R (.tuple #[iQ (i6 op), .bool true]) R := by
 refine ab func356 ntmps356 ?_
 refine ag (fun c2 => ?_) fun c2 => ?_
 refine az ?_
 obtain rfl : op = 14 := by omega
 exact aj
 refine ag (fun c4 => ?_) fun c4 => ?_
 refine az ?_
 obtain rfl : op = 21 := by omega
 exact aj
 refine ag (fun c6 => ?_) fun c6 => ?_
 refine a6 eX ?_
 refine a6 (dr rfl rfl (by rw [bN (by omega), i6, Qac (by omega), Qac (by omega)]; omega : IntKind.wrap .i64 (((op : Int) - 15) + 3) = ((i6 op : Nat) : Int))) ?_
 exact az aj
 refine ag (fun c7 => ?_) fun c7 => ?_
 refine a6 eX ?_
 refine a6 (dr rfl rfl (by rw [bN (by omega), i6, Qac (by omega), Qac (by omega)]; omega : IntKind.wrap .i64 (((op : Int) - 15) + 3) = ((i6 op : Nat) : Int))) ?_
 exact az aj
 refine ag (fun c8 => ?_) fun c8 => ?_
 refine a6 eX ?_
 refine a6 (dr rfl rfl (by rw [bN (by omega), i6, Qac (by omega), Qac (by omega)]; omega : IntKind.wrap .i64 (((op : Int) - 15) + 3) = ((i6 op : Nat) : Int))) ?_
 exact az aj
 refine ag (fun c9 => ?_) fun c9 => ?_
 refine a6 eX ?_
 refine a6 (dr rfl rfl (by rw [bN (by omega), i6, Qac (by omega), Qac (by omega)]; omega : IntKind.wrap .i64 (((op : Int) - 15) + 3) = ((i6 op : Nat) : Int))) ?_
 exact az aj
 refine ag (fun c10 => ?_) fun c10 => ?_
 refine a6 eX ?_
 refine a6 (dr rfl rfl (by rw [bN (by omega), i6, Qac (by omega), Qac (by omega)]; omega : IntKind.wrap .i64 (((op : Int) - 15) + 3) = ((i6 op : Nat) : Int))) ?_
 exact az aj
 refine aA rfl (fun c11 => ?_) fun c11 => ?_
 refine au 3 ?_
 refine a6 eX ?_
 refine a6 (dr rfl rfl (by rw [bN (by omega), i6, Qac (by omega), Qac (by omega)]; omega : IntKind.wrap .i64 (((op : Int) - 15) + 3) = ((i6 op : Nat) : Int))) ?_
 exact az aj
 omega
theorem Xl (im : Int) : sQ W0 357 [iQ im] R (wV (uX im)) R := by
 refine ab func357 ntmps357 ?_
 refine a6 (cT (g8 im)) ?_
 refine a6 (mQ rfl rfl (by decide) (GU _ _)) ?_
 exact a8 aj
end
@[reducible] def rQ (i : Ins) : List Value := [.int .i64 i.op, .int .i64 i.d, .int .i64 i.a, .int .i64 i.b, .int .i64 i.im]
def iL : List Value := uV.map fun n => .int .i64 ((n : Nat) : Int)
section
variable {W0 : World}
theorem H3 {R : List HP} (hH : ∀ A, aT (aB W0 A) 0 0 iL) {op : Nat} (h : op < 42) : iu (aB W0 R) 0 (op * 1) (iQ ((lT op : Nat) : Int)) := by
 have h2 : op < uV.length := h
 have := hH R op (iQ ((lT op : Nat) : Int)) (by
   unfold iL
   rw [Qcp, Qbd h2]
   simp [lT, List.getD, h2])
 rw [Qab] at this
 rw [QaA]
 exact this
theorem Xm {W0 : World} {R : List HP} (op : Nat) : sQ W0 310 [iQ op] R (.bool (ow op)) R := by
 refine ab func310 ntmps310 ?_
 refine cM (fun g1_3 => ?_) fun g1_3 => ?_
 rw [show ow op = decide ((op : Int) ≤ 41) by unfold ow; apply QaJ.2; omega]
 exact a8 aj
 rw [show ow op = false by unfold ow; apply Qaq; omega]
 exact a8 aj
theorem Bw {W0 : World} {R : List HP} (may : Bool) (n : Nat) : sQ W0 311 [.bool may, iQ n] R (.bool (oy may n)) R := by
 cases may with
 | false =>
  refine ab func311 ntmps311 ?_
  refine aA rfl ?_ ?_
  intro c1
  refine aw ?_
  refine a8 ?_
  exact ⟨_, ⟨Qah Value.bool (H2 n 0), rfl⟩, IO⟩
  intro c1
  exact absurd (by decide) c1
 | true =>
  refine js 12 func311 ntmps311 ?_
  refine i5 ?_
  refine j8 rfl rfl rfl (fun g3_3 => ?_) fun g3_3 => ?_
  refine au 8 ?_
  refine a8 ?_
  exact ⟨_, ⟨Qah Value.bool (GX n 16), rfl⟩, IO⟩
  omega
theorem Xn : ∀ n, n < 16 → eU .i64 ((n : Nat) : Int) 8 = ((n / 8 % 2 * 8 : Nat) : Int) := by decide +kernel
theorem Xo : ∀ n, n < 16 → eU .i64 ((n : Nat) : Int) 1 = ((n % 2 : Nat) : Int) := by decide +kernel
theorem Xp : ∀ n, n < 16 → eU .i64 ((n : Nat) : Int) 2 = ((n / 2 % 2 * 2 : Nat) : Int) := by decide +kernel
theorem Xq : ∀ n, n < 16 → eU .i64 ((n : Nat) : Int) 4 = ((n / 4 % 2 * 4 : Nat) : Int) := by decide +kernel
theorem Xr (n : Nat) : (((n / 2 % 2 * 2 : Nat) : Int) != 0) = (n / 2 % 2 != 0) := by
 grind
theorem Xs (n : Nat) : (((n / 4 % 2 * 4 : Nat) : Int) != 0) = (n / 4 % 2 != 0) := by
 grind
theorem H4 : ∀ op, op < 42 → lT op < 16 := by decide +kernel
theorem Xt {W0 : World} {R : List HP} (hH : ∀ A, aT (aB W0 A) 0 0 iL) (op : Nat) (h : op < 42) (n : Int) : sQ W0 312 [iQ op, iQ n] R (.bool (eN op n)) R := by
 have hl := H4 op h
 have ha := H3 (R := R) hH h
 refine ab func312 ntmps312 ?_
 refine ag (fun c2 => ?_) fun c2 => ?_
 refine cM (fun g5_3 => ?_) fun g5_3 => ?_
 rw [show eN op n = decide (n ≤ 31) by rw [eN, Qaf (by omega)]; apply QaJ.2; omega]
 exact a8 aj
 rw [show eN op n = false by rw [eN, Qaf (by omega)]; apply Qaq; omega]
 exact a8 aj
 refine ag (fun c3 => ?_) fun c3 => ?_
 refine cM (fun g5_3 => ?_) fun g5_3 => ?_
 rw [show eN op n = decide (n ≤ 31) by rw [eN, Qaf (by omega)]; apply QaJ.2; omega]
 exact a8 aj
 rw [show eN op n = false by rw [eN, Qaf (by omega)]; apply Qaq; omega]
 exact a8 aj
 refine ag (fun c4 => ?_) fun c4 => ?_
 refine cM (fun g5_3 => ?_) fun g5_3 => ?_
 rw [show eN op n = decide (n ≤ 31) by rw [eN, Qaf (by omega)]; apply QaJ.2; omega]
 exact a8 aj
 rw [show eN op n = false by rw [eN, Qaf (by omega)]; apply Qaq; omega]
 exact a8 aj
 refine ag (fun c6 => ?_) fun c6 => ?_
 refine cM (fun g8_3 => ?_) fun g8_3 => ?_
 rw [show eN op n = decide (n < 9) by rw [eN, Qac (by omega), Qaf (by omega)]; apply QaJ.2; omega]
 exact a8 aj
 rw [show eN op n = false by rw [eN, Qac (by omega), Qaf (by omega)]; apply Qaq; omega]
 exact a8 aj
 refine ag (fun c7 => ?_) fun c7 => ?_
 refine cM (fun g8_3 => ?_) fun g8_3 => ?_
 rw [show eN op n = decide (n < 9) by rw [eN, Qac (by omega), Qaf (by omega)]; apply QaJ.2; omega]
 exact a8 aj
 rw [show eN op n = false by rw [eN, Qac (by omega), Qaf (by omega)]; apply Qaq; omega]
 exact a8 aj
 refine a6 (i4 h) ?_
 refine a6 (aG ha) ?_
 refine a6 (fm rfl rfl (Xn _ hl)) ?_
 refine ag (fun c9 => ?_) fun c9 => ?_
 refine a8 ?_
 rw [eN, Qac (by omega), Qac (by omega), Qaf (by omega)]
 exact ⟨_, ⟨Qah Value.bool (by grind), rfl⟩, IO⟩
 refine cM (fun g11_3 => ?_) fun g11_3 => ?_
 rw [show eN op n = decide (n ≤ 8191) by rw [eN, Qac (by omega), Qac (by omega), Qac (by omega)]; apply QaJ.2; omega]
 exact a8 aj
 rw [show eN op n = false by rw [eN, Qac (by omega), Qac (by omega), Qac (by omega)]; apply Qaq; omega]
 exact a8 aj
theorem yq {W0 : World} {R : List HP} (hH : ∀ A, aT (aB W0 A) 0 0 iL) (i : Ins) : sQ W0 238 [.agg (rQ i).toArray] R (.bool (jx i)) R := by
 obtain ⟨x, hx⟩ : ∃ x, lT i.op = x := ⟨_, rfl⟩
 obtain ⟨p1, e1⟩ : ∃ p, (lT i.op % 2 != 0) = p := ⟨_, rfl⟩
 obtain ⟨p2, e2⟩ : ∃ p, (lT i.op / 2 % 2 != 0) = p := ⟨_, rfl⟩
 obtain ⟨p3, e3⟩ : ∃ p, (lT i.op / 4 % 2 != 0) = p := ⟨_, rfl⟩
 obtain ⟨q1, f1⟩ : ∃ p, oy p1 i.d = p := ⟨_, rfl⟩
 obtain ⟨q2, f2⟩ : ∃ p, oy p2 i.a = p := ⟨_, rfl⟩
 obtain ⟨q3, f3⟩ : ∃ p, oy p3 i.b = p := ⟨_, rfl⟩
 have hall : jx i = (ow i.op && q1 && q2 && q3 && eN i.op i.im) := by
  grind [jx]
 rw [hall]
 refine ab func238 ntmps238 ?_
 refine aS fun b1 => ?_
 refine ac (ao call310 (Xm i.op)) ?_
 refine ag (fun c1 => ?_) fun c1 => ?_
 refine a8 ?_
 rw [show ow i.op = false by simpa using c1]
 exact aj
 have hr : ow i.op = true := by grind
 have ho := Qas hr
 have h42 : i.op < 42 := by omega
 have hl := H4 i.op h42
 rw [hr, Qbr]
 refine a6 (i4 h42) ?_
 refine a6 (aG (H3 hH h42)) ?_
 refine a6 (fm rfl rfl (Xo _ hl)) ?_
 refine ac (ao J9 (Bw _ i.d)) ?_
 rw [yo, e1, f1]
 refine ag (fun c4 => ?_) fun c4 => ?_
 refine a8 ?_
 rw [show q1 = false by simpa using c4]
 exact aj
 refine a6 (fm rfl rfl (Xp _ hl)) ?_
 refine ac (ao J9 (Bw _ i.a)) ?_
 rw [Xr, e2, f2]
 refine ag (fun c5 => ?_) fun c5 => ?_
 refine a8 ?_
 rw [show q1 = true by simpa using c4, show q2 = false by simpa using c5]
 exact aj
 refine a6 (fm rfl rfl (Xq _ hl)) ?_
 refine ac (ao J9 (Bw _ i.b)) ?_
 rw [Xs, e3, f3]
 refine ag (fun c6 => ?_) fun c6 => ?_
 refine a8 ?_
 rw [show q1 = true by simpa using c4, show q2 = true by simpa using c5, show q3 = false by simpa using c6]
 exact aj
 refine ac (ao call312 (Xt hH i.op h42 i.im)) ?_
 refine a8 ?_
 rw [show q1 = true by simpa using c4, show q2 = true by simpa using c5, show q3 = true by simpa using c6]
 exact aj
theorem yr {W0 : World} {R : List HP} (w k n : Nat) (hw : w < 4294967296) (hk : k ≤ 32) (hn : n < 32) : sQ W0 237 [wV w, iQ k, iQ n] R (iQ ((w / 2 ^ k % 2 ^ n : Nat) : Int)) R := by
 have hp : 2 ^ n < 4294967296 := Nat.pow_lt_pow_right (by decide) (show n < 32 from hn) (a := 2)
 have hp0 : 0 < 2 ^ n := Nat.two_pow_pos n
 have hd : w / 2 ^ k < 4294967296 := QaM (Qck _ _) hw
 have hm : w / 2 ^ k % 2 ^ n < 2 ^ n := Qcy _ hp0
 have hsh : iO .u32 1 ((n : Nat) : Int) = ((2 ^ n : Nat) : Int) := by
  unfold iO
  rw [Qam, Qbt (show n ≤ IntKind.bits .u32 by show n ≤ 32; omega), Int.one_mul]
  rw [show ((2 : Int) ^ n) = ((2 ^ n : Nat) : Int) by push_cast; rfl]
  exact dP (by omega)
 refine ab func237 ntmps237 ?_
 refine bB [] 9 fun hS => ?_
 refine ae 0 2 hS ?_
 refine av 2 hS (jo rfl rfl (by omega) (lm (k := .u32) hk)) ?_
 refine ae 3 1 hS ?_
 refine av 4 hS (mQ rfl rfl (by omega) hsh) ?_
 refine av 5 hS (iq rfl rfl (by rw [show ((2 ^ n : Nat) : Int) - 1 = ((2 ^ n - 1 : Nat) : Int) by omega]; exact dP (by omega) : IntKind.wrap .u32 (((2 ^ n : Nat) : Int) - 1) = ((2 ^ n - 1 : Nat) : Int))) ?_
 refine av 6 hS (fm rfl rfl (by rw [ll hd (by omega), qS])) ?_
 refine av 7 hS (cT (bN (by omega))) ?_
 refine ae 8 1 hS ?_
 refine aI ?_
 exact a8 aj
theorem Xu {w : Nat} (hw : w < 4294967296) : kI .i32 (IntKind.wrap .i32 (w : Int)) 18 = rh w := by
 have e : IntKind.wrap .i32 (w : Int) = if w < 2147483648 then (w : Int) else (w : Int) - 4294967296 := by
  simp only [IntKind.wrap, IntKind.bits, IntKind.signed]
  simp
  omega
 rw [e]
 unfold kI rh
 rw [show min (18 : Int).toNat (IntKind.bits .i32) = 18 by decide]
 rw [Int.fdiv_eq_ediv_of_nonneg _ (by decide)]
 split
 omega
 omega
abbrev Xv : Ins := ⟨0, 0, 0, 0, 0⟩
theorem Xw {W0 : World} {R : List HP} (hH : ∀ A, aT (aB W0 A) 0 0 iL) (w : Nat) (hw : w < 4294967296) : sQ W0 166 [wV w] R (.tuple #[.agg (rQ (if jx (fV w) then fV w else Xv)).toArray, .bool (jx (fV w))]) R := by
 have e0 : w / 2 ^ 0 % 2 ^ 6 = (fV w).op := by simp [fV]
 have e1 : w / 2 ^ 6 % 2 ^ 4 = (fV w).d := rfl
 have e2 : w / 2 ^ 10 % 2 ^ 4 = (fV w).a := rfl
 have e3 : w / 2 ^ 14 % 2 ^ 4 = (fV w).b := rfl
 have e4 : rh w = (fV w).im := rfl
 have hi := S0 hw
 obtain ⟨i, hI⟩ : ∃ i, fV w = i := ⟨_, rfl⟩
 rw [hI] at e0 e1 e2 e3 e4 ⊢
 obtain ⟨z, hz⟩ : ∃ z, jx i = z := ⟨_, rfl⟩
 refine ab func166 ntmps166 ?_
 refine bu fun b2 => ?_
 refine ac (ao Cy (yr w 0 6 hw (by decide) (by decide))) ?_
 rw [e0]
 refine ac (ao Cy (yr w 6 4 hw (by decide) (by decide))) ?_
 rw [e1]
 refine ac (ao Cy (yr w 10 4 hw (by decide) (by decide))) ?_
 rw [e2]
 refine ac (ao Cy (yr w 14 4 hw (by decide) (by decide))) ?_
 rw [e3]
 refine a6 (cT rfl) ?_
 refine a6 (jo rfl rfl (by decide) ((Xu hw).trans e4)) ?_
 refine a6 (cT (bN (by omega))) ?_
 refine bu fun b4 => ?_
 refine ax aC ?_
 refine ac (ao Cz (yq hH i)) ?_
 rw [hz]
 refine ag (fun c2 => ?_) fun c2 => ?_
 refine ax aC ?_
 refine bi (.cons (bD I3 nV rfl rfl) (.cons (bz rfl) .nil)) ?_
 rw [show z = false by simpa using c2]
 exact aj
 refine ax aC ?_
 refine bi (.cons (bD I3 nV rfl rfl) (.cons (bz rfl) .nil)) ?_
 rw [show z = true by simpa using c2]
 exact aj
theorem H5 {W0 : World} {R : List HP} (op : Nat) : sQ W0 240 [iQ op] R (.bool (jM op)) R := by
 refine ab func240 ntmps240 ?_
 refine ag (fun c2 => ?_) fun c2 => ?_
 refine a8 ?_
 rw [show jM op = true from Qak (by omega)]
 exact aj
 refine ag (fun c3 => ?_) fun c3 => ?_
 refine a8 ?_
 rw [show jM op = true from Qak (by omega)]
 exact aj
 refine ag (fun c4 => ?_) fun c4 => ?_
 refine a8 ?_
 rw [show jM op = true from Qak (by omega)]
 exact aj
 refine ag (fun c5 => ?_) fun c5 => ?_
 refine a8 ?_
 rw [show jM op = true from Qak (by omega)]
 exact aj
 refine ag (fun c6 => ?_) fun c6 => ?_
 refine a8 ?_
 rw [show jM op = true from Qak (by omega)]
 exact aj
 refine ag (fun c7 => ?_) fun c7 => ?_
 refine a8 ?_
 rw [show jM op = true from Qak (by omega)]
 exact aj
 refine a8 ?_
 rw [show jM op = false from Qaq (by omega)]
 exact aj
theorem Xx (x y : Int) : jn .u32 x y = ((u32 (jn .u32 x y) : Nat) : Int) := by
 grind [jn, g8, Ah, dC]
theorem Xy {W0 : World} {R : List HP} (hH : ∀ A, aT (aB W0 A) 0 0 iL) (i : Ins) (hi : jx i = true) : sQ W0 314 [.agg (rQ i).toArray] R (.tuple #[wV (oB i), iQ 0]) R := by
 obtain ⟨h1, h2, h3, h4, h5⟩ := xh hi
 refine ab func314 ntmps314 ?_
 refine aS fun b1 => ?_
 refine ac (ao Cz (yq hH i)) ?_
 refine aA rfl (fun c1 => ?_) fun c1 => ?_
 rw [hi] at c1; exact absurd c1 (by decide)
 refine aw ?_
 refine a6 (cT (dP (by omega))) ?_
 refine a6 (cT (dP (by omega))) ?_
 refine a6 (mQ rfl rfl (by decide) rfl) ?_
 refine a6 (nZ rfl rfl rfl) ?_
 refine a6 (cT (dP (by omega))) ?_
 refine a6 (mQ rfl rfl (by decide) rfl) ?_
 refine a6 (nZ rfl rfl rfl) ?_
 refine a6 (cT (dP (by omega))) ?_
 refine a6 (mQ rfl rfl (by decide) rfl) ?_
 refine a6 (nZ rfl rfl rfl) ?_
 refine a6 (cT (g8 i.im)) ?_
 refine a6 (mQ rfl rfl (by decide) rfl) ?_
 refine a6 (nZ rfl rfl (Xx _ _)) ?_
 exact az aj
end
end
end Go.Proofs.YtofillmoflhijaaGreatDoor
