/-
  Part 3 of the proof of GuestSteps: rules, and walks of functions. Conditions: none.
-/
import Derived.Test.YtofillmoflhijaaGreatDoorGuestStepsB
namespace Go.Proofs.YtofillmoflhijaaGreatDoor
open Go.Proofs.Tryz
set_option linter.unusedSimpArgs false
set_option linter.unusedVariables false
set_option maxRecDepth 20000
set_option linter.defProp false
set_option synthInstance.maxSize 8192
set_option synthInstance.maxHeartbeats 2000000
variable {W0 : World} {R : List HP}
section
open Go.RowKit
theorem Yc ps fr (f : Nat) (hf : f < fr.length) : sQ W0 171 [pQ ps, iQ f] (bB ps fr :: R) (iQ 0) (bB ps (fr.set f cR) :: R) := by
 have b : ez fr.length f = true := by grind [ez]
 refine am func171 ntmps171 ?_;refine ah (ao wT (ut ps fr f)) ?_;refine ai (fun a => ?_) fun a => ?_;exact absurd a (by simp [b]);refine uo (ps := ps) fun g => ?_;refine aw ?_;refine aa (xy zt nX zeroValue217 rfl) ?_;refine aa (bI hf) ?_;refine av (iK (by rw [Ie]; omega) (Ic (y := cR) hf rfl)) ?_;refine ae ?_;exact ⟨_, ⟨rfl, rfl⟩, pM rfl (by simp)⟩
theorem w3 pb ps po (d : 0 < po.length) : sQ W0 80 [pQ pb] (cW pb (ps, po) :: R) (.bool false) (cW pb (ps, po) :: R) := by
 refine J5 fun a c h i f g => ?_;refine am func80 ntmps80 ?_;refine dj rfl rfl rfl (fun b => ?_) fun b => ?_;cases b;refine aw ?_;refine ae ?_;exact ⟨_, ⟨by simp [aO, show po ≠ [] from fun e => by subst e; simp at d], rfl⟩, w0 rfl f g rfl rfl⟩
theorem Ed pb ps po f : sQ W0 81 [pQ pb, iQ f] (cW pb (ps, po) :: R) (.bool (ez po.length f)) (cW pb (ps, po) :: R) := by
 refine J5 fun a c g h d e => ?_;refine am func81 ntmps81 ?_;refine ci (fun b => ?_) fun b => ?_;refine ae ?_;refine ⟨_, ⟨?_, rfl⟩, w0 rfl d e rfl rfl⟩;refine Qak Value.bool ?_;rw [Qag, ez, Qaj]
 first
   | (rw [Qaj]; constructor <;> (intro q; omega))
   | (constructor
      · intro q; first | omega | (cases q)
      intro q; omega)
 refine ae ?_;refine ⟨_, ⟨?_, rfl⟩, w0 rfl d e rfl rfl⟩;refine Qak Value.bool ?_;rw [Qag, ez, Qaj]
 first
   | (rw [Qaj]; constructor <;> (intro q; omega))
   | (constructor
      · intro q; first | omega | (cases q)
      intro q; omega)
def pR (w : Int) : Bool := decide (0 ≤ w ∧ w < 16)
theorem AD w : sQ W0 82 [iQ w] R (.bool (pR w)) R := by
 refine am func82 ntmps82 ?_;refine ci (fun a => ?_) fun a => ?_;refine ae ?_;refine aI ?_;refine Qak Value.bool ?_;rw [Qag, pR, Qaj]
 first
   | (rw [Qaj]; constructor <;> (intro q; omega))
   | (constructor
      · intro q; first | omega | (cases q)
      intro q; omega)
 refine ae ?_;refine aI ?_;refine Qak Value.bool ?_;rw [Qag, pR, Qaj]
 first
   | (rw [Qaj]; constructor <;> (intro q; omega))
   | (constructor
      · intro q; first | omega | (cases q)
      intro q; omega)
theorem Yd : ∀ n, (List.replicate n ((-1), false)).flatMap fG = (List.replicate n [Value.int .i64 (-1), .bool false]).flatten
 | 0 => rfl
 | n + 1 => by rw [List.replicate_succ, QaX, Yd n, List.replicate_succ, List.flatten_cons]
theorem Ye n : (List.replicate n ((-1), false)).flatMap fG ++ [[Value.int .i64 (-1), .bool false]].flatten = (List.replicate (n + 1) ((-1), false)).flatMap fG := by
 grind [QbI]
theorem J8 {R} : ∀ n, Ent R (kH 2 (cu (((List.replicate n ek).zip (List.replicate n [])).map eG)) :: R)
 | 0 => qi (A := [])
 | n + 1 => by
  have a := J8 (R := R) n;refine a.trans ?_;refine (qg (A := ((List.replicate n ek).zip (List.replicate n ([] : List Nat))).map eG) (R := R)).trans ?_;refine (fQ (E := 3) (sz := 1) (B := ((List.replicate n ek).zip (List.replicate n ([] : List Nat))).map eG ++ R)).trans ?_;exact qi (A := eG (ek, []) :: ((List.replicate n ek).zip (List.replicate n ([] : List Nat))).map eG) (R := R)
theorem Yf ps fr (l : 0 < fr.length) (d : fr.length ≤ 32) : sP W0 19 [pQ ps] (bB ps fr :: R) (fun v B => ∃ b, v = .tuple #[pQ b, iQ 0] ∧ B = cW b (ps, List.replicate fr.length (-1, false)) :: bB ps fr :: R) := by
 refine am func19 ntmps19 ?_;refine ah (ao wU (uq ps fr)) ?_;refine aD rfl (fun e => ?_) fun e => ?_;omega;refine aw ?_;refine bA fun b => ?_;refine ah (ao wU (uq ps fr)) ?_;refine gU (fun X : Nat × Option Addr × Nat => X.1 ≤ fr.length) (fun X => [(4, pQ b), (12, iQ (fr.length : Nat)), (13, iQ X.1)]) (fun X => pt b (ag (gr ps (.slice X.2.1 X.1 X.2.2) (List.replicate 16 ek)) 176) :: osl 178 2 (.slice X.2.1 X.1 X.2.2) ((List.replicate X.1 ((-1 : Int), false)).flatMap fG) :: bB ps fr :: R) (fun X => fr.length - X.1) (0, none, 0) ?_ ?_ ?_ ?_;omega
 · repeat (first | exact bC | refine bq rfl ?_)
 exact (Ent.ofPerm (List.Perm.swap _ _ _)).trans (Ent.cons (fQ (E := 178) (sz := 2)));intro ⟨i, f, g⟩ hi;dsimp only at hi ⊢;refine aw ?_;refine ai (fun h => ?_) fun h => ?_;refine dK (j0 zl Ca a7U rfl (fR rfl rfl iG) rfl (by decide) (by decide) (by decide)) fun m => ?_;refine aG rfl (eW (sz := 2) (by_ := 16) (info := Tryz.t178) zl (by kernel_rfl) rfl rfl rfl rfl (by decide) rfl rfl eK rfl rfl (by simp only [maxLen]; omega) (by omega)) ?_;rintro _ _ ⟨j, k, rfl, rfl⟩;refine aw ?_;refine av eg ?_;refine aa co ?_;refine bM (i + 1, j, k) ?_ (he := ?_);omega;dsimp only;rw [← Ye];exact IO;refine aA ?_;obtain rfl : i = fr.length := by omega
 refine ⟨_, ⟨b, rfl, rfl⟩, ?_⟩;exact (Ent.cons (Ent.cons (J8 (R := bB ps fr :: R) 16))).trans (w0 (a := f) (c := g) rfl (by simp) (LsOk.new _) (by simp) rfl)
theorem J9 pb ps po fr (f w : Nat) t (hf : f < po.length) (hff : f < fr.length) (hw : w < 16) (hP : PoOk po) (ha : dp po f = ((w : Int), t)) a c vs Ls (hv : vs.length = 16) (hL : LsOk (po.set f (-1, false)) Ls) : sQ W0 83 [pQ pb, iQ f] (pt pb (ag (gr ps (.slice a po.length c) vs) 176) :: osl 178 2 (.slice a po.length c) (po.flatMap fG) :: kH 2 (cu ((vs.zip Ls).map eG)) :: bB ps fr :: R) (iQ 0) (cW pb (ps, po.set f (w, false)) :: bB ps (fr.set f cR) :: R) := by
 have h := hL.row w hw
 have q : PoOk (po.set f (-1, false)) := ⟨by rw [Qam]; exact hP.len, fun g D => by
  rw [Qam] at D;rw [jV hf];split;grind
  exact hP.who g D⟩
 have G := hL.rlen q hw;have i := XG (po := po.set f (-1, false)) (f := f) (w := w) (by grind) (by grind [jV]);rw [List.set_set] at i;have m : ∀ u, u < 16 → u ≠ w → cm (po.set f ((w : Int), false)) u = cm (po.set f (-1, false)) u := fun u O H => by
  have := E4 (po := po.set f (-1, false)) (f := f) (x := ((w : Int), false)) (w := u) (by grind) (by grind [jV]) (by grind);rw [List.set_set] at this;exact this
 have p : (po.set f ((dp po f).1, false)) = po.set f ((w : Int), false) := by rw [ha]
 refine jq 6 func83 ntmps83 ?_;refine gk (r := osl 178 2) (b := .slice a po.length c) (kt (fun F s => by have := Qak List.length s; rw [qK] at this; simp at this; omega) fun g n I l F s J P Q => ?_);cases F;refine aw ?_;refine aa (bI hf) ?_;refine jb 3 (du (by omega) (J6 po l f false hf)) ?_;rw [p];refine dr (B := pt g (ag ((po.set f ((w : Int), false)).flatMap fG ++ l) 178) :: jf w pb (Ls.getD w [], gr ps (.slice (some ⟨g, 0, none⟩) po.length c) vs) :: kH 3 (cu (((vs.zip Ls).map eG).eraseIdx w)) :: bB ps fr :: R) ?_ ?_;refine Ent.cons ?_;exact Ay hw hv hL.len;have v : ((po.set f ((w : Int), false)).flatMap fG ++ l)[f * 2 + 0]? = some (iQ ((w : Nat) : Int)) := by
  rw [Ec _ _ _ _ (by grind) (by decide), jV hf, Qad rfl]; rfl
 have y : ((po.set f ((w : Int), false)).flatMap fG ++ l).length = c * 2 := by
  grind [Qae, qK]
 refine eV [(pb, 1, [.slice (some ⟨g, 0, none⟩) po.length c]), (g, 0, _)] 16 mixed rfl (bU (E7 (T := 176) (E := 3) (sz := 1) (f := kY) (o := 2 + w * 1) (by omega) rfl) (bL bE)) (fun d => ?_);refine aj 0 4 d ?_;refine az 4 d (aF (jB (k := 0) (j := 0) rfl rfl)) ?_;refine aj 5 1 d ?_;refine az 6 d (bI hf) ?_;refine aj 7 1 d ?_;refine az 8 d (aF (cp (k := 1) rfl v)) ?_;refine aj 9 2 d ?_;refine az 11 d (eL hw) ?_;refine aj 12 3 d ?_;refine bX 15 (ao Cu (Ya pb w (Ls.getD w []) f (gr ps (.slice (some ⟨g, 0, none⟩) po.length c) vs) (by omega) h.2)) ?_; clear d;rintro _ _ ⟨rfl, S, rfl, K, L⟩;refine ⟨(bU (E7 (T := 176) (E := 3) (sz := 1) (f := kY) (o := 2 + w * 1) (by omega) rfl) (bL bE)), fun d => ?_⟩;refine gC ?_;refine au 2 ?_;refine dr (B := cW pb (ps, po.set f ((w : Int), false)) :: bB ps fr :: R) ?_ ?_;have e := fC (E := 178) (sz := 2) (g := g) (n := po.length) (cap := c) (xs := (po.set f ((w : Int), false)).flatMap fG) (sp := l) (A := pt g (ag ((po.set f ((w : Int), false)).flatMap fG ++ l) 178) :: kH 3 (cu (((vs.zip Ls).map eG).eraseIdx w)) :: bB ps fr :: R) (B := kH 3 (cu (((vs.zip Ls).map eG).eraseIdx w)) :: bB ps fr :: R) s J (by grind) y;refine (Ent.cons e).trans ?_;exact Az hw hv rfl (by simp) hL.len (hL.set hw (K.trans ((h.1.append_right [f]).trans i)) L m);refine vZ (pb := pb) fun U V M N z C => ?_;refine aw ?_;refine ah (ao call171 (Yc ps fr f hff)) ?_;refine ae ?_;exact ⟨_, ⟨rfl, rfl⟩, w0 rfl z C (by simp) rfl⟩
theorem Yg pb ps po fr (f w : Nat) (hf : f < po.length) (hff : f < fr.length) (hw : w < 16) (hP : PoOk po) (ha : dp po f = (-1, false)) : sQ W0 22 [.pointer (some ⟨pb, 0, none⟩), .int .i64 f, .int .i64 w] (cW pb (ps, po) :: bB ps fr :: R) (.int .i64 0) (cW pb (ps, po.set f (w, false)) :: bB ps (fr.set f cR) :: R) := by
 have hi : ez po.length f = true := by grind [ez]
 have hw' : pR w = true := by grind [pR]
 have h0 : po.set f (-1, false) = po := by
  grind [dp, List.getD, QbS]
 refine jq 10 func22 ntmps22 ?_;refine ew 3 (iZ zv rfl (w3 pb ps po (by omega))) ?_;refine aD rfl (fun c1 => ?_) fun c1 => ?_;exact absurd c1 (by decide);refine au 5 ?_;refine ew 4 (iZ NQ rfl (Ed pb ps po f)) ?_;refine aD rfl (fun c3 => ?_) fun c3 => ?_;exact absurd c3 (by simp [hi]);refine au 2 ?_;refine ew 4 (iR Gy rfl (AD w)) ?_;refine aD rfl (fun c4 => ?_) fun c4 => ?_;exact absurd c4 (by simp [hw']);refine aQ ?_;refine vZ (pb := pb) fun a c vs Ls hv hL => ?_;refine gk (r := osl 178 2) (b := .slice a po.length c) (kt (fun h1 h2 => by have := Qak List.length h2; rw [qK] at this; simp at this; omega) fun g n cap sp h1 h2 h3 h4 h5 => ?_);cases h1;refine au 6 ?_;refine ac rfl (iF zl Ca rfl rfl rfl hf (by first | exact Qac _ | rfl)) ?_;refine ac rfl (D6 Gb aR) ?_;refine iS 4 (cg db rfl (aJ ((Ec po sp f 0 hf (by decide)).trans (by rw [ha]; rfl)))) ?_;refine aD rfl (fun c6 => ?_) fun c6 => ?_;exact absurd c6 (by decide);refine au 11 ?_;refine ac rfl (iF zl Ca rfl rfl rfl hf (by first | exact Qac _ | rfl)) ?_;refine ac rfl (D6 Gb aR) ?_;refine jb 3 (lL aR rfl rfl rfl (by omega) (Y0 po sp f (w : Int) hf)) ?_;rw [ha];refine dr (B := pt pb (ag (gr ps (.slice (some ⟨g, 0, none⟩) (po.set f ((w : Int), false)).length c) vs) 176) :: osl 178 2 (.slice (some ⟨g, 0, none⟩) (po.set f ((w : Int), false)).length c) ((po.set f ((w : Int), false)).flatMap fG) :: kH 2 (cu ((vs.zip Ls).map eG)) :: bB ps fr :: R) ?_ ?_;rw [Qam];have e := fC (E := 178) (sz := 2) (g := g) (n := po.length) (cap := c) (xs := (po.set f ((w : Int), false)).flatMap fG) (sp := sp) (A := pt g (ag ((po.set f ((w : Int), false)).flatMap fG ++ sp) 178) :: kH 2 (cu ((vs.zip Ls).map eG)) :: bB ps fr :: R) (B := kH 2 (cu ((vs.zip Ls).map eG)) :: bB ps fr :: R) h2 h3 (by grind [qK]) (by grind [Qae, qK]);exact (inferInstance : Ent _ (pt pb (ag (gr ps (.slice (some ⟨g, 0, none⟩) po.length c) vs) 176) :: pt g (ag ((po.set f ((w : Int), false)).flatMap fG ++ sp) 178) :: kH 2 (cu ((vs.zip Ls).map eG)) :: bB ps fr :: R)).trans (Ent.cons e);refine au 3 ?_;refine ew 4 (mG call83 rfl (J9 pb ps (po.set f ((w : Int), false)) fr f w false (by grind) hff hw (hP.set hf (by simp) (by simp; omega)) (by grind [jV]) (some ⟨g, 0, none⟩) c vs Ls hv (by simp_all))) ?_;refine ae ?_;rw [List.set_set];exact ⟨_, ⟨rfl, rfl⟩, IO⟩
theorem Yh pb ps po (w : Nat) (l : 0 < po.length) (e : w < 16) : sQ W0 259 [pQ pb, iQ w] (cW pb (ps, po) :: R) (iQ ((cm po w).length)) (cW pb (ps, po) :: R) := by
 have h : pR w = true := by grind [pR]
 refine am func259 ntmps259 ?_;refine ew 1 (ao zv (w3 pb ps po l)) ?_;refine dj rfl rfl rfl (fun b => ?_) fun b => ?_;exact absurd b (by decide);refine aw ?_;refine ah (aC Gy (AD w)) ?_;refine aD rfl (fun j => ?_) fun j => ?_;exact absurd j (by simp [h]);refine au 3 ?_;refine vZ (pb := pb) fun a c i d k f => ?_;have g := f.row w e;refine dr (B := jf w pb (d.getD w [], gr ps (.slice a po.length c) i) :: kH 3 (cu (((i.zip d).map eG).eraseIdx w)) :: osl 178 2 (.slice a po.length c) (po.flatMap fG) :: R) ?_ ?_;exact (Ent.cons (Ent.ofPerm (List.Perm.swap _ _ _))).trans (Ay e k f.len);refine aw ?_;refine aa (eL e) ?_;refine ah (ao Gx (AC pb w (d.getD w []) (gr ps (.slice a po.length c) i))) ?_;refine ae ?_;rw [g.1.length_eq];have m : d.set w (d.getD w []) = d := by
  rw [show d.getD w [] = d[w]'(by rw [f.len]; exact e) by simp [List.getD, f.len, e]]; exact QbS _
 refine ⟨_, ⟨rfl, rfl⟩, ?_⟩;exact (Ent.cons (Ent.ofPerm (List.Perm.swap _ _ _))).trans (Az e k rfl rfl f.len (by grind))
theorem Ja pb ps po w f l (hw : w < 16) (hP : PoOk po) (he : cm po w = f :: l) : sQ W0 125 [pQ pb, iQ w] (cW pb (ps, po) :: R) (.tuple #[iQ f, iQ 0]) (cW pb (ps, po.set f (w, true)) :: R) := by
 have hw' : pR w = true := by grind [pR]
 have hf := kX.1 (show f ∈ cm po w by rw [he]; simp);refine am func125 ntmps125 ?_;refine ah (ao zv (w3 pb ps po (by omega))) ?_;refine ah (aC Gy (AD w)) ?_;refine aD rfl (fun c3 => ?_) fun c3 => ?_;exact absurd c3 (by simp [hw']);refine au 1 ?_;refine vZ (pb := pb) fun a c vs Ls hv hL => ?_;have hrow := hL.row w hw;have hrl := hL.rlen hP hw;refine dr (B := jf w pb (Ls.getD w [], gr ps (.slice a po.length c) vs) :: kH 3 (cu (((vs.zip Ls).map eG).eraseIdx w)) :: osl 178 2 (.slice a po.length c) (po.flatMap fG) :: R) ?_ ?_;exact (Ent.cons (Ent.ofPerm (List.Perm.swap _ _ _))).trans (Ay hw hv hL.len);refine aw ?_;refine aa (eL hw) ?_;refine ah (ao Gx (AC pb w (Ls.getD w []) (gr ps (.slice a po.length c) vs))) ?_;refine ai (fun c5 => ?_) fun c5 => ?_;exact absurd c5 (by simp_all);refine aa (eL hw) ?_;refine aG rfl (ao Cv (Yb pb w (Ls.getD w []) (gr ps (.slice a po.length c) vs) (by omega) (fun e => by rw [e] at hrow; have := hrow.1.length_eq; rw [he] at this; simp at this) hrow.2)) ?_;rintro _ _ ⟨x, l', rfl, rfl, hp, hh, hm⟩;have hpp := hp.trans hrow.1;have hmm : ∀ y ∈ cm po w, x ≤ y := fun y hy => by have := hm y (hrow.1.mem_iff.2 hy); omega
 have hx := E5 hpp hmm;have hr := XH hpp hmm;rw [he] at hx;obtain ⟨rfl, _⟩ := List.cons.inj hx;have hk : LsOk (po.set f ((w : Int), true)) (Ls.set w l') := hL.set hw hr hh fun u hu hne => E4 hf.1 (by grind) (by grind);refine iS 4 (sK jL (fun _ h => by cases h) rfl) ?_;refine gk (r := osl 178 2) (b := .slice a po.length c) (kt (fun h1 h2 => by have := Qak List.length h2; rw [qK] at this; simp at this; omega) fun g n cap sp h1 h2 h3 h4 h5 => ?_);cases h1;refine aw ?_;refine aa (aF (xY (T := 176) (E := 3) (sz := 1) (f := kY) (o := 2 + w * 1) (by omega) rfl)) ?_;refine aa (bI hf.1) ?_;refine av (du (by omega) (J6 po sp f true hf.1)) ?_;refine aA ?_;rw [hf.2];refine ⟨_, ⟨rfl, rfl⟩, ?_⟩;have e := fC (E := 178) (sz := 2) (g := g) (n := po.length) (cap := c) (xs := (po.set f ((w : Int), true)).flatMap fG) (sp := sp) (A := pt g (ag ((po.set f ((w : Int), true)).flatMap fG ++ sp) 178) :: kH 3 (cu (((vs.zip Ls).map eG).eraseIdx w)) :: R) (B := kH 3 (cu (((vs.zip Ls).map eG).eraseIdx w)) :: R) h2 h3 (by grind [qK]) (by grind [Qae, qK]);exact (inferInstance : Ent _ (jf w pb (l', gr ps (.slice (some ⟨g, 0, none⟩) po.length c) vs) :: pt g (ag ((po.set f ((w : Int), true)).flatMap fG ++ sp) 178) :: kH 3 (cu (((vs.zip Ls).map eG).eraseIdx w)) :: R)).trans ((Ent.cons e).trans (Az hw hv rfl (by simp) hL.len hk))
def wV (w : Nat) : Value := .int .u32 (w : Int)
theorem Ee : ∀ a, a.flatMap (fun x => [bV x]) = bO a
 | [] => rfl
 | b :: l => by rw [QaX, Ee l]; rfl
structure Dsc where
  addr : Nat
  len : Nat
  flags : Nat
  next : Nat
structure Rg3 where
  desc : Nat
  avail : Nat
  used : Nat
  n : Int
def ix (x : Int × Int × Int) : List Value := [.int .i64 x.1, .int .i64 x.2.1, .int .i64 x.2.2]
structure WF (W0 : World) (fn : FuncId) (cs : List Value) (n : Nat) (C : Nat → HP) (w : Nat → Bool) : Prop where
  call : ∀ args u, (callFunc fn args).run Tryz.prog u = .ok (.enter fn args) u
  spec : ∀ i, i < n → ∀ R, bH Tryz.prog W0 fn ([] ++ [.int .i64 (i : Int)] ++ cs) (kH 0 (C i) :: R) (fun v B => v = .bool (w i) ∧ B = kH 0 (C (i + 1)) :: R)
def mV (w : Nat → Bool) (n : Nat) : Bool := (List.range n).any w
theorem w4 {w n i} (a : i < n) (h : w i = true) : mV w n = true := Qbo.2 ⟨i, QbB.2 a, h⟩
theorem y5 {w n} (h : ∀ i, i < n → w i = false) : mV w n = false := by
 rw [← Qat]; intro q;obtain ⟨i, b, a⟩ := Qbo.1 q;rw [h i (QbB.1 b)] at a; cases a
def qL (w : Nat → Bool) (n : Nat) : Option Nat := (List.range n).find? w
theorem Yi w n : (qL w n).isSome = mV w n := by
 rw [Qag, qL, List.find?_isSome, mV, Qbo]
theorem Jb {w n i} (a : i < n) (h : w i = true) (b : ∀ j, j < i → w j = false) : qL w n = some i := by
 rw [qL, List.find?_eq_some_iff_getElem];exact ⟨h, i, by simpa using a, by simp, fun j c => by simp [b j c]⟩
theorem Jc {w n} (h : ∀ i, i < n → w i = false) : qL w n = none := by
 grind [qL]
theorem Yj fn cs n C w (b : WF W0 fn cs n C w) (f : n ≤ 1000) : sQ W0 97 [iQ n, .func (.func fn) #[] cs.toArray] (kH 0 (C 0) :: R) (.tuple #[iQ (((qL w n).getD 0 : Nat) : Int), .bool (qL w n).isSome]) R := by
 refine am func97 ntmps97 ?_;refine d7 (fun i : Nat => i ≤ n ∧ ∀ j, j < i → w j = false) (fun i => [(1, .func (.func fn) #[] cs.toArray), (7, iQ (n : Int)), (8, iQ (i : Int))]) (fun i => kH 0 (C i) :: R) (fun i => n - i) 0 ?_ ?_;grind;intro i ⟨g, c⟩;refine aw ?_;refine ai (fun e => ?_) fun e => ?_;have a : i < n := by omega
 refine ah (uf (us := []) (cs := cs) rfl b.call rfl (b.spec i a _)) ?_;refine ai (fun d => ?_) fun d => ?_;refine aA ?_;rw [Jb a d c];exact ap;refine aa co ?_;refine bM (i + 1) ?_;grind;refine aA ?_;obtain rfl : i = n := by omega
 rw [Jc c];exact ap
theorem Jd fn cs n C w (a : WF W0 fn cs n C w) (b : n ≤ 1000) : sP W0 97 [iQ n, .func (.func fn) #[] cs.toArray] (kH 0 (C 0) :: R) (fun v B => ∃ r, v = .tuple #[iQ r, .bool (mV w n)] ∧ B = R) :=
  iH (Yj fn cs n C w a b) fun v B c => by
 obtain ⟨rfl, rfl⟩ := c;rw [Yi];exact ⟨_, ⟨_, rfl, rfl⟩, ent_refl⟩
def gZ (l cats : Int) : Bool := decide (0 ≤ cats ∧ cats ≤ 8) && mT l && decide (jP .i64 l cats = 0)
theorem Ef l cats : sQ W0 99 [iQ l, iQ cats] R (.bool (gZ l cats)) R := by
 refine am func99 ntmps99 ?_;refine ai (fun b => ?_) fun b => ?_;refine ae ?_;have a : gZ l cats = false := by
  rw [← Qat, gZ]; intro q;simp only [Qar, Qaj] at q
  first
    | omega
    | (have := q.1.2; simp_all)
 rw [a]; exact ap;refine ai (fun c => ?_) fun c => ?_;refine ae ?_;have a : gZ l cats = false := by
  rw [← Qat, gZ]; intro q;simp only [Qar, Qaj] at q
  first
    | omega
    | (have := q.1.2; simp_all)
 rw [a]; exact ap;refine ah (aC NP (Ea l)) ?_;refine ai (fun d => ?_) fun d => ?_;refine ae ?_;have a : gZ l cats = false := by
  simp_all [Qat, gZ, Qar]
 rw [a]; exact ap;refine aa (j8 rfl rfl (by omega) rfl) ?_;refine ae ?_;refine aI ?_;refine Qak Value.bool ?_;rw [Qag, gZ];simp only [Qar, Qaj];constructor;grind;grind
structure Cfg where
  cats : Int
  ga : Option Addr
  gc : Nat
  gl : List (Int × Int × Int)
  ra : Option Addr
  rc : Nat
  rl : List (Int × Int × Int)
  pa : Option Addr
  pc : Nat
  pl : List (Int × Int)
  na : Option Addr
  nc : Nat
  nl : List (Int × Int)
  sa : Option Addr
  sc : Nat
  sl : List (Int × Int)
  gate : Int
  quota : Int
@[reducible] def dI (c : Cfg) : List Value := [.int .i64 c.cats, .slice c.ga c.gl.length c.gc, .slice c.ra c.rl.length c.rc, .slice c.pa c.pl.length c.pc, .slice c.na c.nl.length c.nc, .slice c.sa c.sl.length c.sc, .int .i64 c.gate, .int .i64 c.quota]
def pS (cats : Int) (g : Int × Int × Int) : Bool := !(gZ g.1 cats && decide (1 ≤ g.2.1 ∧ g.2.1 ≤ 8 ∧ 0 ≤ g.2.2 ∧ g.2.2 ≤ 8 - g.2.1))
theorem y6 {cats g} : pS cats g = false ↔ gZ g.1 cats = true ∧ 1 ≤ g.2.1 ∧ g.2.1 ≤ 8 ∧ 0 ≤ g.2.2 ∧ g.2.2 ≤ 8 - g.2.1 := by
 grind [pS]
theorem tc {cats g} (h : ¬ (gZ g.1 cats = true ∧ 1 ≤ g.2.1 ∧ g.2.1 ≤ 8 ∧ 0 ≤ g.2.2 ∧ g.2.2 ≤ 8 - g.2.1)) : pS cats g = true := by
 grind [y6]
theorem Yk W0 b1 c (hs : ∀ A, cF (aT W0 A) c.ga 3 ix c.gl) :
    WF W0 98 [pQ b1] c.gl.length (fun _ => cu [pt b1 (ag (dI c) 28)]) (fun i => pS c.cats (c.gl.getD i (0, 0, 0))) := ⟨call98, fun i hi R => by
 refine pI ?_;simp only [Qay, Qax];obtain ⟨cats, ga, gc, gl, ra, rc, rl, pa, pc, pl, na, nc, nl, sa, sc, sl, gate, quota⟩ := c;dsimp only at hs hi ⊢;obtain ⟨g, o, rfl, hc⟩ := (hs (pt b1 (ag (dI ⟨cats, ga, gc, gl, ra, rc, rl, pa, pc, pl, na, nc, nl, sa, sc, sl, gate, quota⟩) 28) :: R)).at_ hi;obtain ⟨x, hx⟩ : ∃ x, gl[i] = x := ⟨_, rfl⟩
 rw [show gl.getD i (0, 0, 0) = x by simp [List.getD, hi, hx]];rw [hx] at hc;refine am func98 ntmps98 ?_;refine aa (bI hi) ?_;refine aa (dt hc.weak) ?_;refine bi fun bx => ?_;refine eU (fM kQ rfl rfl rfl rfl rfl) ?_;rintro _ _ rfl;refine aP (aH (aQ (nq (aQ (aY ?_)))));refine ac rfl (cD rfl mt rfl aR rfl (by first | exact Qac _ | rfl)) ?_;refine ac rfl (cg db rfl (aJ rfl)) ?_;refine ac rfl (cD rfl Cf rfl aR rfl (by first | exact Qac _ | rfl)) ?_;refine ac rfl (cg db rfl (aJ rfl)) ?_;refine aG rfl (iR NR rfl (Ef x.1 cats)) ?_;rintro _ B_ ⟨rfl, hB_⟩;obtain rfl := hB_.symm;refine ac rfl (qk rfl) (ac rfl (bj rfl) (aP (aH ?_)));refine aD rfl ?_ ?_;intro c2;refine aw ?_;refine ae ?_;rw [tc (fun q => by simp_all)];exact ap;intro c2;refine aQ (aQ (aY ?_));refine ac rfl (cD rfl mt rfl aR rfl (by first | exact Qac _ | rfl)) ?_;refine ac rfl (cg db rfl (aJ rfl)) ?_;refine ac rfl (nt rfl rfl) (ac rfl (bj rfl) (aP (aH ?_)));refine aD rfl ?_ ?_;intro c4;refine aw ?_;refine ae ?_;rw [tc (fun q => by omega)];exact ap;intro c4;refine aY ?_;refine ac rfl (cD rfl mt rfl aR rfl (by first | exact Qac _ | rfl)) ?_;refine ac rfl (cg db rfl (aJ rfl)) ?_;refine ac rfl (tZ rfl rfl) (ac rfl (bj rfl) (aP (aH ?_)));refine aD rfl ?_ ?_;intro c5;refine aw ?_;refine ae ?_;rw [tc (fun q => by omega)];exact ap;intro c5;refine ii (oL (aH (aQ (aY ?_))));refine ac rfl (cD rfl mt rfl aR rfl (by first | exact Qac _ | rfl)) ?_;refine ac rfl (cg db rfl (aJ rfl)) ?_;refine ac rfl (nt rfl rfl) (ac rfl (aM rfl) ?_);refine dj rfl rfl rfl ?_ ?_;intro g7_4;refine aw ?_;refine ae ?_
 first
   | (rw [tc (fun q => by omega)]; exact ⟨_, ⟨rfl, rfl⟩, inferInstance⟩)
   | (refine ⟨_, ⟨?_, rfl⟩, IO⟩
      refine Qak Value.bool ?_;rw [Qag, Qaj];constructor
      · grind [tc]
      intro q;apply Decidable.byContradiction;intro q2
      rw [y6.2 ⟨by simp_all, by omega, by omega, by omega, by omega⟩] at q; cases q)
 intro g7_4;refine ac rfl (cD rfl mt rfl aR rfl (by first | exact Qac _ | rfl)) ?_;refine cz rfl rfl (ac rfl (cg db rfl (aJ rfl)) ?_);refine cz rfl rfl ?_;refine ac rfl (cD rfl mt rfl aR rfl (by first | exact Qac _ | rfl)) ?_;refine cz rfl rfl (ac rfl (cg db rfl (aJ rfl)) ?_);refine cz rfl rfl ?_;refine ac rfl (jo rfl rfl (bS (by omega))) ?_;refine cz rfl rfl (ac rfl (tZ rfl rfl) (ac rfl (fp rfl rfl) (ac rfl (bj rfl) (aP (aH (dv (ae ?_)))))))
 first
   | (rw [tc (fun q => by omega)]; exact ⟨_, ⟨rfl, rfl⟩, inferInstance⟩)
   | (refine ⟨_, ⟨?_, rfl⟩, IO⟩
      refine Qak Value.bool ?_;rw [Qag, Qaj];constructor
      · grind [tc]
      · intro q
        apply Decidable.byContradiction;intro q2
        rw [y6.2 ⟨by simp_all, by omega, by omega, by omega, by omega⟩] at q; cases q)
 ⟩
theorem AE fn cs n b o w (a : WF W0 fn cs n (fun _ => cu [pt b o]) w) (c : n ≤ 1000) : sP W0 97 [iQ n, .func (.func fn) #[] cs.toArray] (pt b o :: R) (fun v B => ∃ r, v = .tuple #[iQ r, .bool (mV w n)] ∧ B = R) :=
  ul (B := kH 0 (cu [pt b o]) :: R) (qi (A := [pt b o])) (Jd fn cs n (fun _ => cu [pt b o]) w a c)
def kJ (c : Cfg) : Bool := decide (c.gl.length < 1 ∨ 4 < c.gl.length) || mV (fun i => pS c.cats (c.gl.getD i (0, 0, 0))) c.gl.length
theorem Yl c (g : ∀ A, cF (aT W0 A) c.ga 3 ix c.gl) : sP W0 28 [.agg (dI c).toArray] R (fun v B => ∃ r, v = .tuple #[iQ r, .bool (kJ c)] ∧ B = R) := by
 obtain ⟨w, f⟩ : ∃ w, (fun i => pS c.cats (c.gl.getD i (0, 0, 0))) = w := ⟨_, rfl⟩
 have b : kJ c = (decide (c.gl.length < 1 ∨ 4 < c.gl.length) || mV w c.gl.length) := by rw [kJ, f]
 refine am func28 ntmps28 ?_;refine bA fun d => ?_;refine cv (fun a => ?_) fun a => ?_;refine aA ?_;rw [b, Qah (by omega), Qbu];exact ⟨_, ⟨0, rfl, rfl⟩, IO⟩;refine ai (fun h => ?_) fun h => ?_;refine aA ?_;rw [b, Qah (by omega), Qbu];exact ⟨_, ⟨0, rfl, rfl⟩, IO⟩;refine aG rfl (ao Cw (AE 98 [pQ d] c.gl.length d _ w (f ▸ Yk W0 d c g) (by omega))) ?_;rintro _ j ⟨r, rfl, e⟩;obtain rfl := e.symm;refine aw ?_;refine aA ?_;rw [b, Qal (by omega), Qbq];exact ⟨_, ⟨r, rfl, rfl⟩, IO⟩
def iy (c : Cfg) (i : Int) : Bool := decide (0 ≤ i ∧ i < c.gl.length)
theorem uG c i : sQ W0 104 [.agg (dI c).toArray, iQ i] R (.bool (iy c i)) R := by
 refine am func104 ntmps104 ?_;refine bA fun b => ?_;refine ci (fun a => ?_) fun a => ?_;refine ae ?_;refine aI ?_;refine Qak Value.bool ?_;rw [Qag, iy, Qaj]
 first
   | (rw [Qaj]; constructor
      · intro q; omega
      · intro q; omega)
   | (constructor
      · intro q; first | omega | (cases q)
      intro q; omega)
 refine ae ?_;refine aI ?_;refine Qak Value.bool ?_;rw [Qag, iy, Qaj]
 first
   | (rw [Qaj]; constructor
      · intro q; omega
      · intro q; omega)
   | (constructor
      · intro q; first | omega | (cases q)
      intro q; omega)
@[reducible] def iL (x : Int × Int) : List Value := [.int .i64 x.1, .int .i64 x.2]
def p7 (c : Cfg) (s : Int × Int) : Bool := !(iy c s.1 && decide (1 ≤ s.2 ∧ s.2 ≤ 32))
theorem Ym W0 b1 c (e : ∀ A, cF (aT W0 A) c.sa 2 iL c.sl) :
    WF W0 108 [pQ b1] c.sl.length (fun _ => cu [pt b1 (ag (dI c) 28)]) (fun i => p7 c (c.sl.getD i (0, 0))) := ⟨call108, fun i d R => by
 refine pI ?_;simp only [Qay, Qax];obtain ⟨g, o, hga, hc⟩ := (e (pt b1 (ag (dI c) 28) :: R)).at_ d;obtain ⟨x, hx⟩ : ∃ x, c.sl[i] = x := ⟨_, rfl⟩
 rw [show c.sl.getD i (0, 0) = x by simp [List.getD, d, hx]];rw [hx] at hc;obtain ⟨w, hw⟩ : ∃ w, iy c x.1 = w := ⟨_, rfl⟩
 have f : p7 c x = !(w && decide (1 ≤ x.2 ∧ x.2 ≤ 32)) := by rw [p7, hw]
 rw [f];obtain ⟨cats, ga, gc, gl, ra, rc, rl, pa, pc, pl, na, nc, nl, sa, sc, sl, gate, quota⟩ := c;dsimp only at e d hga hc hw ⊢;subst hga;refine am func108 ntmps108 ?_;refine aa (bI d) ?_;refine aa (dt hc.weak) ?_;refine bi fun h => ?_;refine av aB ?_;refine ah (aC wW (uG ⟨cats, ga, gc, gl, ra, rc, rl, pa, pc, pl, na, nc, nl, some ⟨g, o, none⟩, sc, sl, gate, quota⟩ x.1)) ?_;rw [hw];refine dj rfl rfl rfl ?_ ?_;intro b;refine aw ?_;refine ae ?_;refine aI ?_;refine Qak Value.bool ?_;rw [Qag];cases w <;> simp_all <;> omega;intro b;refine aw ?_;refine dj rfl rfl rfl ?_ ?_;intro a;refine aw ?_;refine ae ?_;refine aI ?_;refine Qak Value.bool ?_;rw [Qag];cases w <;> simp_all <;> omega;intro a;refine aw ?_;refine ae ?_;refine aI ?_;refine Qak Value.bool ?_;rw [Qag];cases w <;> simp_all <;> omega
 ⟩
def oq (c : Cfg) : Bool := decide (c.sl.length < 1 ∨ 8 < c.sl.length) || mV (fun i => p7 c (c.sl.getD i (0, 0))) c.sl.length
theorem Yn c (g : ∀ A, cF (aT W0 A) c.sa 2 iL c.sl) : sP W0 32 [.agg (dI c).toArray] R (fun v B => ∃ r, v = .tuple #[iQ r, .bool (oq c)] ∧ B = R) := by
 obtain ⟨w, f⟩ : ∃ w, (fun i => p7 c (c.sl.getD i (0, 0))) = w := ⟨_, rfl⟩
 have b : oq c = (decide (c.sl.length < 1 ∨ 8 < c.sl.length) || mV w c.sl.length) := by rw [oq, f]
 refine am func32 ntmps32 ?_;refine bA fun d => ?_;refine cv (fun a => ?_) fun a => ?_;refine aA ?_;rw [b, Qah (by omega), Qbu];exact ⟨_, ⟨0, rfl, rfl⟩, IO⟩;refine ai (fun h => ?_) fun h => ?_;refine aA ?_;rw [b, Qah (by omega), Qbu];exact ⟨_, ⟨0, rfl, rfl⟩, IO⟩;refine aG rfl (ao Cw (AE 108 [pQ d] c.sl.length d _ w (f ▸ Ym W0 d c g) (by omega))) ?_;rintro _ j ⟨r, rfl, e⟩;obtain rfl := e.symm;refine aw ?_;refine aA ?_;rw [b, Qal (by omega), Qbq];exact ⟨_, ⟨r, rfl, rfl⟩, IO⟩
def mW (c : Cfg) : Bool := if c.gate = -1 then decide (c.quota ≠ 0) else !(iy c c.gate && decide (0 ≤ c.quota ∧ c.quota ≤ 64))
theorem Yo c : sQ W0 33 [.agg (dI c).toArray] R (.bool (mW c)) R := by
 obtain ⟨w, a⟩ : ∃ w, iy c c.gate = w := ⟨_, rfl⟩
 have b : mW c = if c.gate = -1 then decide (c.quota ≠ 0) else !(w && decide (0 ≤ c.quota ∧ c.quota ≤ 64)) := by rw [mW, a]
 rw [b];refine am func33 ntmps33 ?_;refine bA fun h => ?_;refine ai (fun d => ?_) fun d => ?_;refine ae ?_;refine aI ?_;refine Qak Value.bool ?_;rw [Qag];cases w <;> simp_all <;> omega;refine ah (aC wW (uG c c.gate)) ?_;rw [a];refine ai (fun e => ?_) fun e => ?_;refine ae ?_;refine aI ?_;refine Qak Value.bool ?_;rw [Qag];cases w <;> simp_all <;> omega;refine ai (fun f => ?_) fun f => ?_;refine ae ?_;refine aI ?_;refine Qak Value.bool ?_;rw [Qag];cases w <;> simp_all <;> omega;refine ai (fun g => ?_) fun g => ?_;refine ae ?_;refine aI ?_;refine Qak Value.bool ?_;rw [Qag];cases w <;> simp_all <;> omega;refine ae ?_;refine aI ?_;refine Qak Value.bool ?_;rw [Qag];cases w <;> simp_all <;> omega
def kK (c : Cfg) (i : Int) : Int := (c.gl.getD i.toNat (0, 0, 0)).1
def nJ (c : Cfg) (x : Int × Int) : Bool := !(iy c x.1 && iy c x.2 && decide (x.1 ≠ x.2) && oZ (kK c x.1) (kK c x.2))
theorem Yp W0 b1 c (y : ∀ A, cF (aT W0 A) c.na 2 iL c.nl) (f : ∀ A, cF (aT W0 A) c.ga 3 ix c.gl) :
    WF W0 106 [pQ b1] c.nl.length (fun _ => cu [pt b1 (ag (dI c) 28)]) (fun i => nJ c (c.nl.getD i (0, 0))) := ⟨call106, fun i e R => by
 refine pI ?_;simp only [Qay, Qax];obtain ⟨g, o, hga, hc⟩ := (y (pt b1 (ag (dI c) 28) :: R)).at_ e;obtain ⟨x, hx⟩ : ∃ x, c.nl[i] = x := ⟨_, rfl⟩
 rw [show c.nl.getD i (0, 0) = x by simp [List.getD, e, hx]];rw [hx] at hc;obtain ⟨p, q⟩ := x;obtain ⟨w1, hw1⟩ : ∃ w, iy c p = w := ⟨_, rfl⟩
 obtain ⟨w2, hw2⟩ : ∃ w, iy c q = w := ⟨_, rfl⟩
 have s : nJ c (p, q) = !(w1 && w2 && decide (p ≠ q) && oZ (kK c p) (kK c q)) := by grind [nJ]
 by_cases z : w1 = true ∧ w2 = true;obtain ⟨rfl, rfl⟩ := z;have C : 0 ≤ p ∧ p < c.gl.length := Qas hw1;have D : 0 ≤ q ∧ q < c.gl.length := Qas hw2;obtain ⟨j, rfl⟩ : ∃ j : Nat, p = (j : Int) := ⟨p.toNat, by omega⟩
 obtain ⟨k, rfl⟩ : ∃ k : Nat, q = (k : Int) := ⟨q.toNat, by omega⟩
 have h : j < c.gl.length := by omega
 have l : k < c.gl.length := by omega
 obtain ⟨u, hu⟩ : ∃ u, c.gl[j] = u := ⟨_, rfl⟩
 obtain ⟨v, hv⟩ : ∃ v, c.gl[k] = v := ⟨_, rfl⟩
 have m : kK c (j : Int) = u.1 := by grind [kK]
 have n : kK c (k : Int) = v.1 := by grind [kK]
 rw [m, n] at s;rw [s];obtain ⟨gg, og, hgg, hcj⟩ := (f (pt b1 (ag (dI c) 28) :: R)).at_ h;obtain ⟨gh, oh, hgh, hck⟩ := (f (pt b1 (ag (dI c) 28) :: R)).at_ l;rw [hu] at hcj;rw [hv] at hck;obtain ⟨cats, ga, gc, gl, ra, rc, rl, pa, pc, pl, na, nc, nl, sa, sc, sl, gate, quota⟩ := c;dsimp only at e hga hc hw1 hw2 h l hgg hgh hcj hck ⊢;subst hga;subst hgg;obtain ⟨rfl, rfl⟩ : gg = gh ∧ og = oh := by grind
 refine am func106 ntmps106 ?_;refine aa (bI e) ?_;refine aa (dt hc.weak) ?_;refine bi fun t => ?_;refine av aB ?_;refine ah (aC wW (uG ⟨cats, some ⟨gg, og, none⟩, gc, gl, ra, rc, rl, pa, pc, pl, some ⟨g, o, none⟩, nc, nl, sa, sc, sl, gate, quota⟩ (j : Int))) ?_;rw [hw1];refine cv (fun b => ?_) fun b => ?_;exact absurd rfl b;refine ah (aC wW (uG ⟨cats, some ⟨gg, og, none⟩, gc, gl, ra, rc, rl, pa, pc, pl, some ⟨g, o, none⟩, nc, nl, sa, sc, sl, gate, quota⟩ (k : Int))) ?_;rw [hw2];refine cv (fun a => ?_) fun a => ?_;exact absurd rfl a;refine ai (fun B => ?_) fun B => ?_;refine ae ?_;refine aI ?_;refine Qak Value.bool ?_;rw [Qag];simp_all;refine eV [(b1, 0, _), (t, 0, _), (gg, og + j * 3, ix u), (gg, og + k * 3, ix v)] 17 mixed rfl (bL (bL (bU hcj.weak (bU hck.weak bE)))) (fun d => ?_);refine aj 0 4 d ?_;refine az 4 d (bI h) ?_;refine aj 5 1 d ?_;refine az 6 d (aF (jB (k := 2) (j := 0) rfl rfl)) ?_;refine aj 7 4 d ?_;refine az 11 d (bI l) ?_;refine aj 12 1 d ?_;refine az 13 d (aF (jB (k := 3) (j := 0) rfl rfl)) ?_;refine gB 14 rfl rfl (aC call107 (XP u.1 v.1)) (bL (bL (bU hcj.weak (bU hck.weak bE)))) fun d => ?_;refine aj 15 2 d ?_;refine aK ?_;refine ae ?_;refine aI ?_;refine Qak Value.bool ?_;rw [Qag];simp_all;have r : nJ c (p, q) = true := by
  grind
 rw [r];obtain ⟨cats, ga, gc, gl, ra, rc, rl, pa, pc, pl, na, nc, nl, sa, sc, sl, gate, quota⟩ := c;dsimp only at e hga hc hw1 hw2 ⊢;subst hga;refine am func106 ntmps106 ?_;refine aa (bI e) ?_;refine aa (dt hc.weak) ?_;refine bi fun t => ?_;refine av aB ?_;refine ah (aC wW (uG ⟨cats, ga, gc, gl, ra, rc, rl, pa, pc, pl, some ⟨g, o, none⟩, nc, nl, sa, sc, sl, gate, quota⟩ p)) ?_;rw [hw1];refine dj rfl rfl rfl ?_ ?_;intro b;refine aw ?_;exact ae ap;intro b;refine aw ?_;refine ah (aC wW (uG ⟨cats, ga, gc, gl, ra, rc, rl, pa, pc, pl, some ⟨g, o, none⟩, nc, nl, sa, sc, sl, gate, quota⟩ q)) ?_;rw [hw2];refine dj rfl rfl rfl ?_ ?_;intro a;refine aw ?_;exact ae ap;intro a;exfalso; cases w1 <;> cases w2 <;> simp_all
 ⟩
def jG (c : Cfg) : Bool := decide (4 < c.nl.length) || mV (fun i => nJ c (c.nl.getD i (0, 0))) c.nl.length
theorem Yq c (g : ∀ A, cF (aT W0 A) c.na 2 iL c.nl) (a : ∀ A, cF (aT W0 A) c.ga 3 ix c.gl) : sP W0 31 [.agg (dI c).toArray] R (fun v B => ∃ r, v = .tuple #[iQ r, .bool (jG c)] ∧ B = R) := by
 obtain ⟨w, e⟩ : ∃ w, (fun i => nJ c (c.nl.getD i (0, 0))) = w := ⟨_, rfl⟩
 have f : jG c = (decide (4 < c.nl.length) || mV w c.nl.length) := by rw [jG, e]
 refine am func31 ntmps31 ?_;refine bA fun b => ?_;refine ai (fun h => ?_) fun h => ?_;refine aA ?_;rw [f, Qah (by omega), Qbu];exact ⟨_, ⟨0, rfl, rfl⟩, IO⟩;refine aG rfl (ao Cw (AE 106 [pQ b] c.nl.length b _ w (e ▸ Yp W0 b c g a) (by omega))) ?_;rintro _ j ⟨r, rfl, d⟩;obtain rfl := d.symm;refine aw ?_;refine aA ?_;rw [f, Qal (by omega), Qbq];exact ⟨_, ⟨r, rfl, rfl⟩, IO⟩
def gG (c : Cfg) : Nat → Int
 | 0 => (c.nl.length : Int)
 | i + 1 => gG c i + ((c.gl.getD i (0, 0, 0)).2.1 + (c.gl.getD i (0, 0, 0)).2.2)
theorem Eg {c} (a : ∀ g ∈ c.gl, 1 ≤ g.2.1 ∧ g.2.1 ≤ 8 ∧ 0 ≤ g.2.2 ∧ g.2.2 ≤ 8 - g.2.1) (b : c.nl.length ≤ 4) : ∀ i, i ≤ c.gl.length → 0 ≤ gG c i ∧ gG c i ≤ 4 + 8 * i
 | 0, _ => by rw [gG]; omega
 | i + 1, d => by
  obtain ⟨e, f⟩ := Eg a b i (by omega);have := a _ (QaF (show i < c.gl.length by omega));rw [gG, show c.gl.getD i (0, 0, 0) = c.gl[i]'(by omega) by simp [List.getD, show i < c.gl.length by omega]];omega
theorem Yr c (l : ∀ A, cF (aT W0 A) c.ga 3 ix c.gl) (h : ∀ g ∈ c.gl, 1 ≤ g.2.1 ∧ g.2.1 ≤ 8 ∧ 0 ≤ g.2.2 ∧ g.2.2 ≤ 8 - g.2.1) (m : c.nl.length ≤ 4) (r : c.gl.length ≤ 4) : sQ W0 34 [.agg (dI c).toArray] R (iQ (gG c c.gl.length)) R := by
 have b := Eg h m;refine am func34 ntmps34 ?_;refine bA fun s => ?_;refine d7 (fun i : Nat => i ≤ c.gl.length) (fun i => [(3, iQ (gG c i)), (10, .slice c.ga c.gl.length c.gc), (11, iQ (c.gl.length : Nat)), (12, iQ (i : Nat))]) (fun _ => R) (fun i => c.gl.length - i) 0 ?_ ?_;omega;intro i n;refine aw ?_;refine ai (fun p => ?_) fun p => ?_;have a : i < c.gl.length := by omega
 obtain ⟨g, o, d, j⟩ := (l R).at_ a;obtain ⟨x, k⟩ : ∃ x, c.gl[i] = x := ⟨_, rfl⟩
 rw [k] at j;have e := h _ (QaF a);rw [k] at e;have f : gG c (i + 1) = gG c i + (x.2.1 + x.2.2) := by grind [gG]
 have q := b i n;rw [d];refine aa (bI a) ?_;refine aa (dt j.weak) ?_;refine bi fun t => ?_;refine eU (fM kQ rfl rfl rfl rfl rfl) ?_;rintro _ _ rfl;refine aP (aH (aY (ac rfl (aM rfl) ?_)));refine ac rfl (cD rfl mt rfl aR rfl (by first | exact Qac _ | rfl)) ?_;refine ac rfl (cg db rfl (aJ rfl)) ?_;refine ac rfl (cD rfl mt rfl aR rfl (by first | exact Qac _ | rfl)) ?_;refine ac rfl (cg db rfl (aJ rfl)) ?_;refine ac rfl (cY rfl rfl (bS (by omega))) ?_;refine aa (cY rfl rfl (by rw [bS (by omega)]; exact f.symm : IntKind.wrap .i64 (gG c i + (x.2.1 + x.2.2)) = gG c (i + 1))) ?_;refine aa co ?_;exact bM (i + 1) (by omega);refine ae ?_;obtain rfl : i = c.gl.length := by omega
 exact ap
section
variable {rd : Option Nat} {P : Program} {S : World → Prop} {W0 : World} {N : FSz} {Q : Exit → Act → World → Prop} {e : b0} {A B R R1 R2 : List HP} {ops : Array Oper} {rest : List Oper}
variable {op : Op} {ty t t' : TypeId} {pos : String} {af : Array Edge} {v u : Value} {d b off : Nat} {x y z : Operand} {l l' vs : List Value}
theorem AF {z n} : (Builtin.zeroCells z n).toList.length = n * z.size := by simp [Builtin.zeroCells]
theorem Ys {E sz n k c by_ : Nat} {info zz an olds kk kq kn} (K : P.underlying t = some (.slice E)) (r : P.underlying t' = some (.int kn))
    (L : P.info? E = some info) (M : info.zero = some zz) (s : info.size = sz) (z : info.bytes = by_) (b : zz.cells.size = sz) (d : 0 < sz)
    (O : ev e x = some (.slice an n c)) (Q : ev e y = some (.int kq kk)) (hk : kk = k) (f : (an = none ∧ olds = []) ∨ ∃ o p, an = some ⟨o, p, none⟩ ∧ bF (aT W0 A) o p olds) (h : olds.length = n * sz)
    (R : 0 < k) (S : c < n + k) (i : n + k ≤ maxLen) (l : (n + k) * by_ ≤ 140737488355328) :
    df P W0 N e A (.call { callee := .builtin .append, args := #[x, y], argTypes := #[t, t'] }) (fun v B => ∃ T U H, v = .slice T (n + k) U ∧ H.length = k * sz ∧ B = osl E sz v (olds ++ H) :: A) := vy fun a w V W X af g I J => by
 subst hk;subst s;subst z;have q : n + k ≤ 9223372036854775807 := by simp only [maxLen] at i; omega
 have C : (Builtin.firstCells info.size n (.slice an n c)).run P w.drew = .ok olds.toArray w.drew := by
  rcases f with ⟨rfl, rfl⟩ | ⟨o, p, rfl, Y⟩;simp [Builtin.firstCells]
  exact run_firstCells_some (P := P) w.drew info.size n ⟨o, p, none⟩ n c olds h (fun j u Z => by
   have := Y j u Z w J
   simpa [jA] using this)
 have D : k * info.bytes ≤ 281474976710656 := by
  grind
 have hr := Go.Lib.run_append_grow_zeros (P := P) w t t' W E info zz kq kn K r L M an n c olds C k R d S (by omega) D (growslice_fits (by omega) l);have F := grownCap_ge w (n + k) c E;have G := grownCap_le_maxLen w (n + k) c E i;have m := (Own.drew J (w.drawn + 1)).new (ag ((olds ++ (Builtin.zeroCells zz.cells k).toList) ++ (Builtin.zeroCells zz.cells (grownCap w (n + k) c E - (n + k))).toList) E);have ea : ((olds ++ (Builtin.zeroCells zz.cells k).toList) ++ (Builtin.zeroCells zz.cells (grownCap w (n + k) c E - (n + k))).toList).toArray = olds.toArray ++ Builtin.zeroCells zz.cells k ++ Builtin.zeroCells zz.cells (grownCap w (n + k) c E - (n + k)) := by grind
 refine ⟨_, { ({ w with drawn := w.drawn + 1 } : World) with heap := w.heap.push (ag ((olds ++ (Builtin.zeroCells zz.cells k).toList) ++ (Builtin.zeroCells zz.cells (grownCap w (n + k) c E - (n + k))).toList) E) }, _, .inl ?_, ⟨some ⟨w.heap.size, 0, none⟩, grownCap w (n + k) c E, (Builtin.zeroCells zz.cells k).toList, rfl, by rw [AF, b], rfl⟩, ?_⟩;simp only [execOp, resolve, invoke, builtin, Sem.run_bind, Sem.run_pure, Result.andThen_ok, Qcz, QaL, Qcf, I.eval O, I.eval Q, hr];simp only [World.drew, World.alloc, ag, ea];refine m.ent ?_
 exact @fC _ A A E info.size w.heap.size (n + k) (grownCap w (n + k) c E) (olds ++ (Builtin.zeroCells zz.cells k).toList) _ _ F G (by grind [Qae, AF]) (by
   rw [Qae, Qae, h, AF, AF, b, ← Nat.add_mul, ← Nat.add_mul]; congr 1; omega) _
theorem Yt {f xs ats} (b : gj e xs.toList = some vs) (c : ∀ w, S w → (callFunc f vs.toArray).run P w = .ok (.value v) w) : bR P S N e (.call { callee := .value (.func f), args := xs, argTypes := ats }) v := fun a w d l h m g i j => by
 rw [execOp_call_go];have k : (#[] ++ xs.map a.eval ++ #[] : Array Value) = vs.toArray := by
  have := i.evals b;rw [← this]; apply Qda; simp
 rw [k, c w j]
theorem Yu {n c a} (b : P.underlying t = some (.slice d)) (f : ev e x = some (.slice a n c)) : bR P S N e (.call { callee := .builtin .cap, args := #[x], argTypes := #[t] }) (iQ c) := fun g w _ _ _ _ _ h _ => by
 simp [execOp, resolve, invoke, builtin, h.eval f, Builtin.cap_, fq b, goInt]
theorem AG {p q s r} (h : q.length = r.length) : dk (p ++ q ++ s) p.length r = p ++ r ++ s := by
 grind [sJ]
theorem Je {g o l1 l2} (h : bF S g o (l1 ++ l2)) : bF S g o l1 := fun i v a => h i v (by
  rw [QaB (by
    rcases QaD i l1.length with q | q
    · exact q
    rw [Qbl q] at a; cases a)]
  exact a)
theorem Yv {g o l1 l2} (h : bF S g o (l1 ++ l2)) : bF S g (o + l1.length) l2 := fun i v a => by
 rw [QbV];exact h (l1.length + i) v (by grind)
theorem Jf {l1 l2 l3 o} [h : Tk pt b A (ag l ty) R] (a : l = l1 ++ l2 ++ l3) (c : l1.length = o) : bF (aT W0 A) b o l2 := by
 subst c;have d : bF (aT W0 A) b 0 (l1 ++ l2) := Je (l2 := l3) (by rw [← a]; exact eK (ty := ty) (R := R) (h := h));have := Yv d
 rwa [Qac] at this
theorem Yw {E sz : Nat} {c tR ba ga na ca nb cb oa ob : Nat} {la lb ta tb} (h : P.underlying c = some (.slice E)) (i : ∀ w, (sizeOf E).run P w = .ok sz w) [t : Tk pt ba A (ag la ta) R1] [j : Tk pt ga R1 (ag lb tb) R2] (k : oa ≤ la.length) (l : 0 < lb.length) {w} (m : Own W0 w A) :
    (Extern.SlicesOverlaps.overlaps #[c, c] #[tR] #[.slice (some ⟨ba, oa, none⟩) na ca, .slice (some ⟨ga, ob, none⟩) nb cb]).run P w = .ok (.bool false) w := by
 have a := m.tk (r := pt) (b := ba);have d := a.has.2;have e := (a.drop).tk (r := pt) (b := ga);have n := e.has.2;have f : ba ≠ ga := by
  intro q; subst q;have g : Own W0 w (pt ba (ag la ta) :: pt ba (ag lb tb) :: R2) := a.perm (j.perm.cons _);obtain ⟨u, ⟨v, x, rfl, o, y, z, rfl, p, _⟩, s, _⟩ := g.owns;cases o; cases p;simp at s
 refine Go.Lib.run_overlaps_apart w c tR E h sz i ⟨ba, oa, none⟩ ⟨ga, ob, none⟩ na ca nb cb f ta tb la.length lb.length ?_ ?_ (by omega) ?_ ?_;simp [World.shape?, d];simp [World.shape?, n];simp [World.frozen?, d];simp [World.frozen?, d]
end
class NOut (Q : Exit → Act → World → Prop) : Prop where
  no : ∀ a w, ¬ Q .outgrown a w
instance a9y {n : Act → World → Prop} {Q : Exit → Act → World → Prop} [h : NOut Q] : NOut (Exit.then n Q) := ⟨fun a w k => h.no a w k⟩
instance a9z {id : Nat} {Q : Exit → Act → World → Prop} [h : NOut Q] : NOut (Exit.inBlock id Q) := ⟨fun a w k => h.no a w k⟩
instance a9A {P : Program} {W0 : World} {L : Nat} {Post : Value → List HP → Prop} : NOut (vF P W0 L Post) := ⟨fun a w k => k⟩
instance a9B {P : Program} {W0 : World} {L : Nat} {Post : Value → List HP → Prop} : POk (vF P W0 L Post) := ⟨fun c a d v w k => k.elim⟩
section
variable {rd : Option Nat} {P : Program} {W0 : World} {N : FSz} {Q : Exit → Act → World → Prop} {e : b0} {A : List HP} {ops : Array Oper} {S : World → Prop}
theorem AH (e : tX rd ops.toList = true) (g : NOut Q) : ∀ (fuel : Nat) (b : Array Bool) (a : Act) (w : World), wpAnyH P .any ops Q S fuel b a w → wpAnyIn (FW rd) 0 P .any ops Q fuel b a w
 | 0, _, _, _, h => h
 | fuel + 1, b, a, w, h => ⟨h.1, fun i n => by
  have d := h.2 i n;unfold wpOp at d;unfold wpOpIn
  cases j : ops[i]? with
  | none =>
   rw [j] at d;exact AH e g fuel _ a w d.2
  | some o =>
   rw [j] at d;simp only at d ⊢;split at d
   rename_i c
   rw [Qad c];rcases d with d | ⟨_, k, m, h3⟩;have f : o.semAt (FW rd).round a.eval = execOp a.eval o := by
    cases rd with
    | none => rfl
    | some l =>
     refine Oper.semAt_eq _ _ _ (GZ ?_);simp only [tX, Option.isNone_some, Qbq, QbT] at e
     exact e _ (by
       obtain ⟨hlt, rfl⟩ := Array.getElem?_eq_some_iff.1 j
       simp)
   refine ⟨fun _ _ => trivial, ?_⟩;rw [f];exact GY (fun k m p => AH e g fuel _ k m p.2) d;exact absurd h3 (g.no k m)
   rename_i c
   rw [Qab c]
   exact ⟨fun _ _ => trivial, AH e g fuel _ _ w d.2⟩⟩
theorem Yx {id : Nat} (cs : List (Nat × Nat × List Value)) (n : Nat) (b : P.follows .mixedOrders = true) (c : Nat.beq ops.size n = true) [d : NOut Q] (f : ∀ w, Own W0 w A → SC cs w) (k : (∀ w, Own W0 w A → SC cs w) → ax W0 N (DR P ops Q cs n (Array.replicate n false)) e A) (g : tX rd ops.toList = true := by rfl) : ax W0 N ((Code.region id ops true).wpR rd P Q) e A := by
 intro a w h i;have : ops.size = n := Nat.eq_of_beq_eq_true c;subst this;exact wpIn_region_any b (AH g d _ _ _ _ (k f a _ h (i.drew _)))
end
abbrev Rn := Int × Int × Int
def cG (x : Rn) : List Value := [.int .i64 x.1, .int .i64 x.2.1, .int .i64 x.2.2]
theorem qM x : (cG x).length = 3 := rfl
theorem Eh x : fy (cG x) = true := by simp [cG, fy, Value.oneCell']
theorem Ei (l : List Rn) : fy (l.flatMap cG) = true := by
 induction l with
 | nil => rfl
 | cons x l a =>
  rw [QaX, fy, List.all_append, Qar];exact ⟨Eh x, a⟩
@[reducible] def mb (a : Option Addr) (k c : Nat) (n : Int) : Obj := ag [.slice a k c, .int .i64 n, .bool true] 308
def qN (b : Nat) (x : List Rn × Int) : HP := chk (fun C => ∃ a c, C = [pt b (mb a x.1.length c x.2), osl 312 3 (.slice a x.1.length c) (x.1.flatMap cG)])
section
variable {W0 : World} {N : FSz} {K : Act → World → Prop} {e : b0} {A B R R1 R2 : List HP} {b n c : Nat} {x : List Rn × Int}
theorem Yy [hk : Tk qN b A x R] (h : ∀ a c, ax W0 N K e (pt b (mb a x.1.length c x.2) :: osl 312 3 (.slice a x.1.length c) (x.1.flatMap cG) :: R)) : ax W0 N K e A :=
  gk (r := qN) (b := b) (nu fun C d => by obtain ⟨a, c, rfl⟩ := d; exact h a c)
theorem rV {rs k m nn a ys} [c : Tk pt b A (mb a k m nn) R1] [d : Tk (osl 312 3) (.slice a k m) R1 ys R2] (hk : k = rs.length) (e : ys = rs.flatMap cG) [q : Ent R2 B] : Ent A (qN b (rs, nn) :: B) := by
 subst hk; subst e;exact (Ent.ofPerm (c.perm.trans (d.perm.cons _))).trans ((g5 (R := R2) (C := [_, _]) ⟨a, m, rfl⟩).trans (Ent.cons q))
theorem Jg {α : Type} {E sz g c i : Nat} {f} {xs : List α} {x ys} [h : Tk (osl E sz) (.slice (some ⟨g, 0, none⟩) n c) A ys R] (e : ys = xs.flatMap f) (j : ∀ x, (f x).length = sz) (k : 0 < sz) (l : xs[i]? = some x) : bF (aT W0 A) g (i * sz) (f x) := by
 obtain ⟨b, m, o, d⟩ := Dh (S := aT W0 A) (a := some ⟨g, 0, none⟩) (.inr ⟨g, rfl⟩) (vH (E := E) (sz := sz) (n := n) (c := c) (ys := ys)) j e k i x l;cases o;rw [Qac] at d; exact d
end
theorem Yz W0 j bt L (rs : List Rn) n a c (u : rs.length ≤ 1000) (C : Nat → List HP) (I : Nat → Prop) (w : I 0) (d : List HP → Prop) (p : ∀ i R, i < rs.length → I i → qx Tryz.prog W0 L [iQ i, .agg (cG (rs.getD i (0, 0, 0))).toArray] (C i ++ R) (fun v B => ∃ b e, v = .bool b ∧ B = e ++ R ∧ ((b = true ∧ I (i + 1) ∧ e = C (i + 1)) ∨ (b = false ∧ d e)))) : sP W0 330 [.func (.yield L) #[] #[], pQ j] (pt j (ag [pQ bt] 197) :: pt bt (mb a rs.length c n) :: osl 312 3 (.slice a rs.length c) (rs.flatMap cG) :: C 0) (fun v B => v = .tuple #[] ∧ ∃ e, B = pt bt (mb a rs.length c n) :: osl 312 3 (.slice a rs.length c) (rs.flatMap cG) :: e ∧ ((I rs.length ∧ e = C rs.length) ∨ d e)) := by
 refine am func330 ntmps330 ?_;refine d7 (fun i : Nat => i ≤ rs.length ∧ I i) (fun i => [(0, .func (.yield L) #[] #[]), (8, .slice a rs.length c), (9, iQ (rs.length : Nat)), (10, iQ (i : Nat))]) (fun i => pt bt (mb a rs.length c n) :: osl 312 3 (.slice a rs.length c) (rs.flatMap cG) :: C i) (fun i => rs.length - i) 0 ?_ ?_;grind;intro i ⟨x, o⟩;refine aw ?_;refine ai (fun q => ?_) fun q => ?_;have h : i < rs.length := by omega
 have k : rs[i]? = some (rs.getD i (0, 0, 0)) := by grind
 refine rG (E := 312) (sz := 3) (a := a) (c := c) (n := rs.length) (ys := rs.flatMap cG) (fun r => ?_);obtain ⟨g, rfl⟩ := uz r (by rw [← Qcy, cQ qM]; omega);refine aw ?_;refine aa (bI h) ?_;refine aa (dt (Jg (f := cG) (E := 312) (sz := 3) (n := rs.length) (c := c) rfl qM (by decide) k)) ?_;refine bi fun j => ?_;refine eU (fM kf rfl rfl rfl rfl rfl) ?_;rintro _ _ rfl;refine aP (aH (aQ (aY (ac rfl (aM rfl) (ac rfl (aM rfl) (ac rfl (ql N4 kf rfl rfl) ?_))))));refine D9 rfl rfl rfl (Dd (QaY (l₁ := [_, _, _])) (p i [_, _, _] h o)) ?_;rintro _ y ⟨b, e, rfl, l, z⟩;obtain rfl := l.symm;refine pF QaY ?_;simp only [Qay, Qax];refine aw ?_;refine ai (fun s => ?_) fun s => ?_;have m : d e := by
  grind
 refine bK (.inl rfl) .nil ?_;exact ⟨_, ⟨rfl, _, rfl, .inr m⟩, IO⟩;have m : I (i + 1) ∧ e = C (i + 1) := by
  grind
 obtain ⟨t, rfl⟩ := m;refine aa co ?_;refine bM (i + 1) ?_;grind;refine bK (.inr rfl) .nil ?_;obtain rfl : i = rs.length := by omega
 exact ⟨_, ⟨rfl, _, rfl, .inl ⟨o, rfl⟩⟩, IO⟩
theorem YA bt : sP W0 268 [pQ bt] R (fun v B => ∃ a, v = .func (.func 330) #[] #[pQ a] ∧ B = pt a (ag [pQ bt] 197) :: R) := by
 refine am func268 ntmps268 ?_;refine dK (jQ rfl rfl) fun a => ?_;refine ae ?_;exact ⟨_, ⟨a, rfl, rfl⟩, IO⟩
theorem YB {W0 A e n' L D b1 bt c n a ps' asg body} pe {t d : List HP → Prop} (rs : List Rn) (x : rs.length ≤ 1000) (g : Nat → List HP) (I : Nat → Prop) (k : List HP → Prop)
    (y : A.Perm (pt b1 (ag [pQ bt] 197) :: pt bt (mb a rs.length c n) :: osl 312 3 (.slice a rs.length c) (rs.flatMap cG) :: g 0)) (z : I 0)
    (l : I rs.length → t (pt bt (mb a rs.length c n) :: osl 312 3 (.slice a rs.length c) (rs.flatMap cG) :: g rs.length))
    (m : ∀ b, k b → d (pt bt (mb a rs.length c n) :: osl 312 3 (.slice a rs.length c) (rs.flatMap cG) :: b))
    (o : ∀ i p, i < rs.length → I i → qx Tryz.prog W0 L [iQ i, .agg (cG (rs.getD i (0, 0, 0))).toArray] (dT L ⟨e, n', ps', asg, body, .ready, none, D⟩ :: pt D (.deferred (some [])) :: (g i ++ p))
      (fun v B => (v = .bool true ∧ I (i + 1) ∧ B = dT L ⟨e, n', ps', asg, body, .ready, none, D⟩ :: pt D (.deferred (some [])) :: (g (i + 1) ++ p)) ∨
        (v = .bool false ∧ ∃ b, k b ∧ B = dT L ⟨e, n', ps', asg, body, .done, some pe, D⟩ :: pt D (.deferred (some [])) :: (b ++ p)))) :
    bH Tryz.prog W0 330 (.func (.yield L) #[] #[] :: [pQ b1]) (dT L ⟨e, n', ps', asg, body, .ready, none, D⟩ :: pt D (.deferred (some [])) :: A)
      (fun _ B => (∃ C, B = dT L ⟨e, n', ps', asg, body, .ready, none, D⟩ :: pt D (.deferred (some [])) :: C ∧ t C) ∨ (∃ C, B = dT L ⟨e, n', ps', asg, body, .done, some pe, D⟩ :: pt D (.deferred (some [])) :: C ∧ d C)) := by
 have h : (dT L ⟨e, n', ps', asg, body, .ready, none, D⟩ :: pt D (.deferred (some [])) :: A).Perm (pt b1 (ag [pQ bt] 197) :: pt bt (mb a rs.length c n) :: osl 312 3 (.slice a rs.length c) (rs.flatMap cG) :: (dT L ⟨e, n', ps', asg, body, .ready, none, D⟩ :: pt D (.deferred (some [])) :: g 0)) :=
   ((y.cons _).cons _).trans (List.perm_append_comm_assoc [_, _] [_, _, _] (g 0))
 refine nv h (iH (Yz W0 b1 bt L rs n a c x (fun i => dT L ⟨e, n', ps', asg, body, .ready, none, D⟩ :: pt D (.deferred (some [])) :: g i) I z
   (fun B => ∃ b, k b ∧ B = dT L ⟨e, n', ps', asg, body, .done, some pe, D⟩ :: pt D (.deferred (some [])) :: b) fun i R q r w E => ?_) ?_)
 obtain ⟨f, j, s, F, G, H⟩ := o i R q r w E;refine ⟨f, j, s, F, G, RoundIn.mono H ?_⟩;rintro _ N ⟨v, B, rfl, J, K⟩;rcases J with ⟨rfl, M, rfl⟩ | ⟨rfl, b, u, rfl⟩;grind;grind;rintro v B ⟨_, O, rfl, ⟨r, rfl⟩ | ⟨b, u, rfl⟩⟩;exact ⟨_, .inl ⟨_, rfl, l r⟩, Ent.ofPerm (List.perm_append_comm_assoc [_, _] [_, _] (g rs.length))⟩;exact ⟨_, .inr ⟨_, rfl, m b u⟩, Ent.ofPerm (List.perm_append_comm_assoc [_, _] [_, _] b)⟩
theorem YC x (h : -1000 ≤ x.1 + x.2.1 ∧ x.1 + x.2.1 ≤ 1000) : sQ W0 269 [.agg (cG x).toArray] R (iQ (x.1 + x.2.1)) R := by
 refine am func269 ntmps269 ?_;refine fi (kh rfl) fun a => ?_;refine ac rfl (bj rfl) (aP (aH (aQ (aY ?_))));refine ac rfl (cD rfl Ge rfl aR rfl (by first | exact Qac _ | rfl)) ?_;refine ac rfl (cg db rfl (aJ rfl)) ?_;refine ac rfl (cD rfl Ge rfl aR rfl (by first | exact Qac _ | rfl)) ?_;refine ac rfl (cg db rfl (aJ rfl)) ?_;refine ac rfl (cY rfl rfl (bS (by omega))) ?_;refine ac rfl (bj rfl) (aP (aH (dv ?_)));exact ae ap
def kZ : List Rn → Int → Nat
 | [], _ => 0
 | x :: l, f => if x.1 + x.2.1 ≤ f then kZ l f + 1 else 0
def ot (rs : List Rn) (f n : Int) : Bool := match rs[kZ rs f]? with
 | some x => decide (x.1 < f + n)
 | none => false
theorem Ej : ∀ (rs : List Rn) (f : Int) (i : Nat), i ≤ rs.length → (∀ j (c : j < rs.length), j < i → rs[j].1 + rs[j].2.1 ≤ f) → (∀ h : i < rs.length, ¬ rs[i].1 + rs[i].2.1 ≤ f) → kZ rs f = i
 | [], f, i, h, _, _ => by simp at h; rw [kZ, h]
 | x :: l, f, 0, _, _, a => by
  have := a (by simp);rw [kZ, Qab (by grind)]
 | x :: l, f, i + 1, h, b, a => by
  have e := b 0 (by simp) (by omega)
  rw [kZ, Qad (by grind), Ej l f i (by simpa using h) (fun j c d => by
   have := b (j + 1) (by omega) (by omega)
   simpa using this) (fun g => by
   have := a (by grind)
   simpa using this)]
theorem Ek : ∀ (rs : List Rn) (f : Int), kZ rs f ≤ rs.length
 | [], f => Qao _
 | x :: l, f => by
  have := Ek l f;rw [kZ]; split;grind;omega
def qP (rs : List Rn) : Prop := ∀ x ∈ rs, 0 ≤ x.1 ∧ 1 ≤ x.2.1 ∧ x.1 + x.2.1 ≤ 64 ∧ 0 ≤ x.2.2 ∧ x.2.2 < 64
theorem qP.get {rs} (h : qP rs) {i} (a : i < rs.length) : 0 ≤ (rs.getD i (0, 0, 0)).1 ∧ 1 ≤ (rs.getD i (0, 0, 0)).2.1 ∧ (rs.getD i (0, 0, 0)).1 + (rs.getD i (0, 0, 0)).2.1 ≤ 64 ∧ 0 ≤ (rs.getD i (0, 0, 0)).2.2 ∧ (rs.getD i (0, 0, 0)).2.2 < 64 := by
 rw [show rs.getD i (0, 0, 0) = rs[i] by simp [List.getD, a]]; exact h _ (QaF a)
theorem YD b k c a n : sQ W0 186 [pQ b] (pt b (mb a k c n) :: R) (.bool false) (pt b (mb a k c n) :: R) := by
 refine am func186 ntmps186 ?_;refine dj rfl rfl rfl (fun d => ?_) fun d => ?_;cases d;refine aw ?_;exact ae ap
theorem YE n (h : 0 ≤ n ∧ n ≤ 64) : sP W0 100 [iQ n] R (fun v B => ∃ b, v = .tuple #[pQ b, iQ 0] ∧ B = qN b ([], n) :: R) := by
 refine am func100 ntmps100 ?_;refine dj rfl rfl rfl (fun a => ?_) fun a => ?_;omega;refine aw ?_;refine aD rfl (fun c => ?_) fun c => ?_;omega;refine aw ?_;refine bA fun d => ?_;refine aA ?_;refine ⟨_, ⟨d, rfl, rfl⟩, ?_⟩;exact (Ent.cons (fQ (E := 312) (sz := 3) (B := R))).trans (rV (rs := []) rfl rfl)
theorem YF bt c rs n a (t : qP rs) (J : rs.length ≤ 1000) f k (P : 0 ≤ f ∧ f ≤ 64 ∧ 1 ≤ k ∧ k ≤ 64) : sQ W0 187 [pQ bt, iQ f, iQ k] (pt bt (mb a rs.length c n) :: osl 312 3 (.slice a rs.length c) (rs.flatMap cG) :: R) (.tuple #[iQ (kZ rs f), .bool (ot rs f k)]) (pt bt (mb a rs.length c n) :: osl 312 3 (.slice a rs.length c) (rs.flatMap cG) :: R) := by
 refine am func187 ntmps187 ?_;refine dK (jQ rfl rfl) fun m => ?_;refine fi (jQ rfl rfl) fun r => ?_;refine au 4 ?_;refine DK (aw ?_);refine dK (rB np rfl) fun g => ?_;refine dK (rB NM rfl) fun l => ?_;refine av eg ?_;refine eU (lL gO rfl rfl rfl (Qaa rfl) SetL.eq) ?_;rintro _ _ rfl;refine aP (aH (aQ (CS (aH (aQ (aQ (aY (ac rfl (aM rfl) (aG rfl (aC call268 (YA bt)) ?_)))))))));rintro _ Q ⟨K, rfl, u⟩;obtain rfl := u.symm;refine aP (aH (nq ?_));refine Xk 0 (fun C => (∀ j, j < rs.length → (rs.getD j (0, 0, 0)).1 + (rs.getD j (0, 0, 0)).2.1 ≤ f) ∧ C = pt bt (mb a rs.length c n) :: osl 312 3 (.slice a rs.length c) (rs.flatMap cG) :: pt l (ag [.bool false] 4) :: pt g (ag [iQ (rs.length : Nat)] 3) :: pt r (ag [iQ k] 3) :: pt m (ag [iQ f] 3) :: R) (fun C => ∃ i, i < rs.length ∧ (∀ j, j < i → (rs.getD j (0, 0, 0)).1 + (rs.getD j (0, 0, 0)).2.1 ≤ f) ∧ (¬ (rs.getD i (0, 0, 0)).1 + (rs.getD i (0, 0, 0)).2.1 ≤ f) ∧ C = pt bt (mb a rs.length c n) :: osl 312 3 (.slice a rs.length c) (rs.flatMap cG) :: pt l (ag [.bool (decide ((rs.getD i (0, 0, 0)).1 < f + k))] 4) :: pt g (ag [iQ (i : Nat)] 3) :: pt r (ag [iQ k] 3) :: pt m (ag [iQ f] 3) :: R) rfl call330 ?_ ?_ ?_;intro L D;refine YB (.exit 0) rs J (fun _ => pt l (ag [.bool false] 4) :: pt g (ag [iQ (rs.length : Nat)] 3) :: pt r (ag [iQ k] 3) :: pt m (ag [iQ f] 3) :: R) (fun i => ∀ j, j < i → (rs.getD j (0, 0, 0)).1 + (rs.getD j (0, 0, 0)).2.1 ≤ f) (fun B => ∃ i, i < rs.length ∧ (∀ j, j < i → (rs.getD j (0, 0, 0)).1 + (rs.getD j (0, 0, 0)).2.1 ≤ f) ∧ (¬ (rs.getD i (0, 0, 0)).1 + (rs.getD i (0, 0, 0)).2.1 ≤ f) ∧ B = pt l (ag [.bool (decide ((rs.getD i (0, 0, 0)).1 < f + k))] 4) :: pt g (ag [iQ (i : Nat)] 3) :: pt r (ag [iQ k] 3) :: pt m (ag [iQ f] 3) :: R) ((sV (r1 := pt) (b1 := K) (r2 := pt) (b2 := bt) (r3 := osl 312 3) (b3 := .slice a rs.length c)).trans (QaO _)) (fun j e => absurd e (Qcc j)) (fun h => ⟨h, rfl⟩) (fun S h => by obtain ⟨i, v, w, M, rfl⟩ := h; exact ⟨i, v, w, M, rfl⟩) ?_;intro i T s y;have N := t.get s;obtain ⟨x, d⟩ : ∃ x, rs.getD i (0, 0, 0) = x := ⟨_, rfl⟩
 rw [d] at N ⊢;simp only [Qay, Qax];refine zZ rfl rfl ?_;refine aQ (aY (ac rfl (bj rfl) (aP (aH (aY (aG rfl (dQ NB) ?_))))));rintro _ _ ⟨O, rfl, rfl⟩;refine eU (fM kf rfl rfl rfl rfl rfl) ?_;rintro _ _ rfl;refine aP (zX rfl ?_);refine nq (aQ (nq (aQ ?_)));refine Yx [(O, 0, _), (m, 0, _)] 5 mixed rfl (bL (bL bE)) (fun b => ?_);refine bu 0 rfl rfl rfl b (gK N4 kf rfl (by first | exact j9 (k := 0) rfl | exact j9 (k := 1) rfl) rfl) ?_;refine bu 2 rfl rfl rfl b (cg db rfl (by first | exact cp (k := 0) rfl rfl | exact cp (k := 1) rfl rfl)) ?_;refine bG 1 (aC call269 (YC x (by omega))) fun b => ?_;refine bu 3 rfl rfl rfl b (H6 rfl rfl) ?_;refine bu 4 rfl rfl rfl b (bj rfl) ?_;refine aK ?_;refine aD rfl (fun z => ?_) fun z => ?_;refine au 4 ?_;refine zY ?_;have A : ∀ j, j < i + 1 → (rs.getD j (0, 0, 0)).1 + (rs.getD j (0, 0, 0)).2.1 ≤ f := fun j e => by
  rcases QaD j i with q | q;exact y j q;grind
 exact ⟨_, .inl ⟨rfl, A, rfl⟩, IO⟩;refine aQ (aY ?_);refine ac rfl (cD rfl Ge rfl aR rfl (by first | exact Qac _ | rfl)) ?_;refine ac rfl (cg db rfl (aJ rfl)) ?_;refine ac rfl (cg db rfl (aJ rfl)) ?_;refine ac rfl (cg db rfl (aJ rfl)) ?_;refine ac rfl (cY rfl rfl (bS (by omega))) ?_;refine ac rfl (nt rfl rfl) (ac rfl (bj rfl) (aP (aH ?_)));refine aD rfl (fun o => ?_) fun o => ?_;refine aY ?_;refine eU (lL gO rfl rfl rfl (Qaa rfl) SetL.eq) ?_;rintro _ _ rfl;refine aP (oL (aH (aQ (aY (ac rfl (aM rfl) (eU (lL aR rfl rfl rfl (Qaa rfl) SetL.eq) ?_))))));rintro _ _ rfl;refine aP (aH (CR (CU rfl (IJ ?_))));refine ⟨_, .inr ⟨rfl, _, ⟨i, s, y, by rw [d]; exact z, rfl⟩, rfl⟩, ?_⟩;simp only [Qay];rw [d]
 first
   | (rw [Qah o]; exact inferInstance)
   | (rw [Qal o]; exact inferInstance)
 refine ii (oL (aH (aQ (aY (ac rfl (aM rfl) (eU (lL aR rfl rfl rfl (Qaa rfl) SetL.eq) ?_))))));rintro _ _ rfl;refine aP (aH (CR (CU rfl (IJ ?_))));refine ⟨_, .inr ⟨rfl, _, ⟨i, s, y, by rw [d]; exact z, rfl⟩, rfl⟩, ?_⟩;simp only [Qay];rw [d]
 first
   | (rw [Qah o]; exact inferInstance)
   | (rw [Qal o]; exact inferInstance)
 intro D C E;obtain ⟨p, rfl⟩ := E;have F : kZ rs f = rs.length := Ej rs f rs.length (Qao _) (fun j e _ => by have := p j e; rwa [show rs.getD j (0, 0, 0) = rs[j] by simp [List.getD, e]] at this) (fun h => absurd h (Nat.lt_irrefl _));have G : ot rs f k = false := by grind [ot]
 refine oL (aH (aQ ?_));refine bc [g, l] 4 fun b => ?_;refine bu 0 rfl rfl rfl b (cg db rfl (by first | exact cp (k := 0) rfl rfl | exact cp (k := 1) rfl rfl)) ?_;refine bu 1 rfl rfl rfl b (cg nj rfl (by first | exact cp (k := 0) rfl rfl | exact cp (k := 1) rfl rfl)) ?_;refine bu 2 rfl rfl rfl b (bj rfl) ?_;refine bu 3 rfl rfl rfl b (bj rfl) ?_;refine gC ?_;refine aH (dv (rN (vB (.inl rfl) (.cons (aN rfl) (.cons (aN rfl) .nil)) ?_)));rw [F, G];exact ap;intro D C E;obtain ⟨i, s, v, w, rfl⟩ := E;have H : rs.getD i (0, 0, 0) = rs[i] := by grind
 have F : kZ rs f = i := Ej rs f i (by omega) (fun j e I => by have := v j I; rwa [show rs.getD j (0, 0, 0) = rs[j] by simp [List.getD, e]] at this) (fun h => by rw [← H]; exact w);have G : ot rs f k = decide ((rs.getD i (0, 0, 0)).1 < f + k) := by grind [ot]
 refine H1 (aH (aQ ?_));refine bc [g, l] 4 fun b => ?_;refine bu 0 rfl rfl rfl b (cg db rfl (by first | exact cp (k := 0) rfl rfl | exact cp (k := 1) rfl rfl)) ?_;refine bu 1 rfl rfl rfl b (cg nj rfl (by first | exact cp (k := 0) rfl rfl | exact cp (k := 1) rfl rfl)) ?_;refine bu 2 rfl rfl rfl b (bj rfl) ?_;refine bu 3 rfl rfl rfl b (bj rfl) ?_;refine gC ?_;refine au 2 ?_;refine rN (vB (.inl rfl) (.cons (aN rfl) (.cons (aN rfl) .nil)) ?_);rw [F, G];exact ap
theorem YG l a n c (j : l.length = n) (t : n ≤ 1000) (f : cF (aT W0 R) a 3 cG l) : sP W0 189 [.slice a n c] R (fun v B => ∃ g i, v = .slice g n i ∧ B = osl 312 3 (.slice g n i) (l.flatMap cG) :: R) := by
 subst j;refine am func189 ntmps189 ?_;refine aa (xv jM rfl rfl) ?_;refine aD rfl (fun e => ?_) fun e => ?_;refine au 7 ?_;refine ae ?_;have k : l = [] := by
  rcases l with _ | ⟨x, l⟩;rfl;obtain ⟨b, o, h, _⟩ := f 0 x rfl;rw [e] at h; cases h
 subst k;exact ⟨_, ⟨none, 0, rfl, rfl⟩, fQ⟩;have d := f.src (fun _ => rfl) (fun _ => trivial);refine ii (aH (aQ (aY (aG rfl (ui jM kf rfl) ?_))));rintro _ _ ⟨u, rfl, rfl⟩;refine aw ?_
 refine aG rfl (Av (sz := 3) (by_ := 24) (info := Tryz.t312) jM (by kernel_rfl) rfl rfl rfl rfl (by decide) rfl rfl (news := l.flatMap cG) (by
 rcases d with h | ⟨m, p, q, r⟩;grind
 right; exact ⟨m, p, q, r.weak⟩) (by rw [cQ qM]) (Ei l) (by simp only [maxLen]; omega) (by omega)) ?_
 rintro _ _ ⟨s, e, rfl, rfl⟩;refine aw ?_;refine ae ?_;rw [Qac, Qax];exact ⟨_, ⟨s, e, rfl, rfl⟩, IO⟩
def lv (rs : List Rn) (i : Nat) (x : Rn) : List Rn := rs.take i ++ x :: rs.drop i
theorem El rs i x : (lv rs i x).flatMap cG = (rs.take i).flatMap cG ++ cG x ++ (rs.drop i).flatMap cG := by
 grind [lv]
theorem AI {rs i} x (a : i ≤ rs.length) : (lv rs i x).length = rs.length + 1 := by
 grind [lv]
theorem AJ (rs : List Rn) i : rs.flatMap cG = (rs.take i).flatMap cG ++ (rs.drop i).flatMap cG := by rw [← QbN, QbQ]
theorem YH rs a c bv x i (K : i ≤ rs.length) (hl : rs.length ≤ 1000) : sP W0 188 [.slice a rs.length c, iQ (i : Nat), .slice (some ⟨bv, 0, none⟩) 1 1] (osl 312 3 (.slice a rs.length c) (rs.flatMap cG) :: pt bv (ag (cG x) 312) :: R) (fun v B => ∃ U V, v = .slice U (rs.length + 1) V ∧ B = osl 312 3 (.slice U (rs.length + 1) V) ((lv rs i x).flatMap cG) :: R) := by
 have d : ((rs.take i).flatMap cG).length = i * 3 := by rw [cQ qM, QaT, Qbm K]
 have C : ((rs.drop i).flatMap cG).length = (rs.length - i) * 3 := by rw [cQ qM, QcV]
 have l : (rs.flatMap cG).length = rs.length * 3 := cQ qM rs;refine am func188 ntmps188 ?_;refine xK (E := 312) (sz := 3) (a := a) (c := c) (n := rs.length) (fun W => ?_);refine aw ?_;refine iS 16 (rU jM kf rfl (i := i) rfl rfl K rfl) ?_;refine jR ?_;refine aD rfl (fun c6 => ?_) fun c6 => ?_;refine aQ ?_;refine aY (ac rfl (aM rfl) (ac rfl (aM rfl) ?_));refine aG rfl (eW (sz := 3) (by_ := 24) (info := Tryz.t312) jM (by kernel_rfl) rfl rfl rfl rfl (by decide) rfl rfl eK rfl rfl (by simp only [maxLen]; omega) (by omega)) ?_;rintro _ _ ⟨a1, c1, rfl, rfl⟩;refine aw ?_;refine ae ?_;obtain rfl : i = rs.length := by omega
 refine ⟨_, ⟨a1, c1, rfl, rfl⟩, ?_⟩;rw [El, QaW (Qao _), List.drop_length, List.flatMap_nil, Qaw];exact IO;have x0 : i < rs.length := by omega
 refine gk (r := osl 312 3) (b := .slice a rs.length c) (kt (fun L X => by rw [X] at l; simp at l; omega) fun g n' x1 o L X h3 h4 N => ?_);cases L;refine aw ?_;refine aa (ee (rs.length + 1)) ?_;refine aa (Yu jM rfl) ?_;refine ai (fun c8 => ?_) fun c8 => ?_;refine aa (oM jM kf rfl rfl rfl (by omega)) ?_;refine aa (ee (rs.length + 1)) ?_;refine aa (o8 (rs.length + 1 - i)) ?_;refine aG rfl (Ys (sz := 3) (by_ := 24) (info := Tryz.t312) (k := rs.length + 1 - i) (olds := (rs.take i).flatMap cG) jM jL (by kernel_rfl) rfl rfl rfl rfl (by decide) rfl rfl rfl (.inr ⟨g, 0, rfl, Je (l2 := (rs.drop i).flatMap cG ++ o) (by rw [← QaI, ← AJ]; exact eK (b := g))⟩) d (by omega) (by omega) (by simp only [maxLen]; omega) (by omega)) ?_;rintro _ _ ⟨a9, Y, M, rfl, t, rfl⟩;rw [show i + (rs.length + 1 - i) = rs.length + 1 by omega]
 refine gk (r := osl 312 3) (b := .slice a9 (rs.length + 1) Y) (kt (fun j z => by
  have := Qak List.length z
  rw [Qae, d, t] at this; simp at this; omega) fun O n9 Z u j z q3 q4 q5 => ?_)
 cases j;refine aw ?_;refine aa (rU jM kf rfl (i := i) (a' := some ⟨O, i * 3, none⟩) rfl rfl (by omega) (by rw [lu, Qab (by omega)]; simp [jA])) ?_;refine ah (uk jM kf rfl rfl (m := 1) (vs := cG x) (Qbm (by omega)) (eK (b := bv)) rfl (Eh x) (by rw [Qae, Qae, d, t]; omega) rfl) ?_;refine bc [] 9 fun h => ?_;refine aj 0 3 h ?_;refine az 3 h (ee (i + 1)) ?_;refine az 4 h (rU jM kf rfl (i := i + 1) (a' := some ⟨O, (i + 1) * 3, none⟩) rfl rfl (by omega) (by rw [lu, Qab (by omega)]; simp [jA])) ?_;refine aj 5 2 h ?_;refine az 7 h (rU jM kf rfl (i := i) (a' := some ⟨g, i * 3, none⟩) rfl rfl (by omega) (by rw [lu, Qab (by omega)]; simp [jA])) ?_;refine bG 8 (uk jM kf rfl rfl (m := rs.length - i) (vs := (rs.drop i).flatMap cG) (Qbm (by omega)) (Jf (b := g) (l1 := (rs.take i).flatMap cG) (l3 := o) (by rw [← AJ]) d) C (Ei _) (by rw [xf, Qae, Qae, d, t]; omega) rfl) fun h => ?_;refine aK ?_;refine ae ?_;obtain ⟨F, G, rfl, H⟩ : ∃ F G, M = F ++ G ∧ F.length = 3 := ⟨M.take 3, M.drop 3, (QbQ 3 M).symm, by rw [QaT]; omega⟩
 have I : G.length = (rs.length - i) * 3 := by rw [Qae] at t; omega
 have Q : dk (dk ((rs.take i).flatMap cG ++ (F ++ G) ++ u) (i * 3) (cG x)) ((i + 1) * 3) ((rs.drop i).flatMap cG) = (lv rs i x).flatMap cG ++ u := by
  rw [El, ← d, show (rs.take i).flatMap cG ++ (F ++ G) ++ u = (rs.take i).flatMap cG ++ F ++ (G ++ u) by simp, AG (by rw [H]; rfl)];have e : (i + 1) * 3 = ((rs.take i).flatMap cG ++ cG x).length := by rw [Qae, d, qM, Qce]
  rw [e, ← QaI, AG (by rw [I, C])]
 rw [Q];have f : ((lv rs i x).flatMap cG).length = (rs.length + 1) * 3 := by rw [cQ qM, AI x K]
 refine ⟨_, ⟨some ⟨O, 0, none⟩, Y, rfl, rfl⟩, ?_⟩;exact fC z q3 f (by rw [Qae, f]; rw [Qae, Qae, d, Qae, H, I] at q5; omega);refine aa (ee (rs.length + 1)) ?_;refine aa (oM jM kf rfl rfl rfl (by omega)) ?_;refine aa (ee (i + 1)) ?_;refine aa (rU jM kf rfl (i := i + 1) (a' := some ⟨g, (i + 1) * 3, none⟩) rfl rfl (by omega) (by rw [lu, Qab (by omega)]; simp [jA])) ?_;refine aa (Yt (v := .bool false) rfl (fun w hO => by have L := Yw (P := Tryz.prog) (tR := 4) (oa := 0) (na := 1) (ca := 1) (ob := (i + 1) * 3) (nb := rs.length + 1 - (i + 1)) (cb := c - (i + 1)) (ba := bv) (ga := g) (la := cG x) (lb := rs.flatMap cG ++ o) jM kf (QaK _) (by rw [N]; omega) hO; rw [run_callFunc_extern func270 (by kernel_rfl) (by kernel_rfl) (by kernel_rfl) (e := Extern.SlicesOverlaps.overlaps #[306, 306] #[4]) (by kernel_rfl), L]; rfl)) ?_;refine aD rfl (fun D => ?_) fun D => ?_;refine au 1 ?_;refine bc [] 9 fun h => ?_;refine aj 0 3 h ?_;refine az 3 h (ee (i + 1)) ?_;refine az 4 h (rU jM kf rfl (i := i + 1) (a' := some ⟨g, (i + 1) * 3, none⟩) rfl rfl (by omega) (by rw [lu, Qab (by omega)]; simp [jA])) ?_;refine aj 5 2 h ?_;refine az 7 h (rU jM kf rfl (i := i) (a' := some ⟨g, i * 3, none⟩) rfl rfl (by omega) (by rw [lu, Qab (by omega)]; simp [jA])) ?_;refine bG 8 (uk jM kf rfl rfl (m := rs.length - i) (vs := (rs.drop i).flatMap cG) ((Nat.min_eq_right (by omega)).trans (by omega)) (Jf (b := g) (l1 := (rs.take i).flatMap cG) (l3 := o) (by rw [← AJ]) d) C (Ei _) (by omega) rfl) fun h => ?_;refine aK ?_;refine aa (rU jM kf rfl (i := i) (a' := some ⟨g, i * 3, none⟩) rfl rfl (by omega) (by rw [lu, Qab (by omega)]; simp [jA])) ?_;refine ah (uk jM kf rfl rfl (m := 1) (vs := cG x) (Qbm (by omega)) (eK (b := bv)) rfl (Eh x) (by rw [xf]; omega) rfl) ?_;refine ae ?_;have x2 : 3 ≤ o.length := by rw [Qae, l] at N; omega
 obtain ⟨A, y, rfl, S⟩ : ∃ A y, o = A ++ y ∧ A.length = 3 := ⟨o.take 3, o.drop 3, (QbQ 3 o).symm, by rw [QaT]; omega⟩
 obtain ⟨j, z, hq, J⟩ : ∃ j z, (rs.drop i).flatMap cG ++ A = j ++ z ∧ j.length = 3 := ⟨((rs.drop i).flatMap cG ++ A).take 3, ((rs.drop i).flatMap cG ++ A).drop 3, (QbQ 3 _).symm, by rw [QaT, Qae]; omega⟩
 have T : z.length = ((rs.drop i).flatMap cG).length := by
  have := Qak List.length hq;rw [Qae, Qae] at this; omega
 have Q : dk (dk (rs.flatMap cG ++ (A ++ y)) ((i + 1) * 3) ((rs.drop i).flatMap cG)) (i * 3) (cG x) = (lv rs i x).flatMap cG ++ y := by
  have h0 : rs.flatMap cG ++ (A ++ y) = (rs.take i).flatMap cG ++ j ++ z ++ y := by
   conv => lhs; rw [AJ rs i]
   rw [QaI, ← QaI ((rs.drop i).flatMap cG), hq];simp only [QaI]
  have e : (i + 1) * 3 = ((rs.take i).flatMap cG ++ j).length := by rw [Qae, d, J, Qce]
  have h6 : (rs.take i).flatMap cG ++ j ++ (rs.drop i).flatMap cG ++ y = (rs.take i).flatMap cG ++ j ++ ((rs.drop i).flatMap cG ++ y) := by simp only [QaI]
  have h7 := AG (p := (rs.take i).flatMap cG) (q := j) (s := (rs.drop i).flatMap cG ++ y) (r := cG x) (by rw [J]; rfl);rw [d] at h7;rw [h0, e, AG T, h6, h7, El];simp only [QaI]
 rw [Q];have f : ((lv rs i x).flatMap cG).length = (rs.length + 1) * 3 := by rw [cQ qM, AI x K]
 refine ⟨_, ⟨some ⟨g, 0, none⟩, c, rfl, rfl⟩, ?_⟩;exact fC (by omega) h3 f (by rw [Qae, f]; rw [Qae, Qae, l, S] at N; omega)
 first | exact absurd rfl D | exact absurd (by decide) D
def iV (rs : List Rn) (n f k w : Int) : Int := if f < 0 ∨ k < 1 ∨ n < f ∨ n - f < k ∨ w < 0 ∨ 64 ≤ w then 1 else if ot rs f k then 5 else 0
def kL (rs : List Rn) (n f k w : Int) : List Rn := if iV rs n f k w = 0 then lv rs (kZ rs f) (f, k, w) else rs
theorem Jh {rs n f k w} (h : qP rs) (c : n ≤ 64) : qP (kL rs n f k w) := by
 unfold kL; split
 rename_i a
 have d : ¬ (f < 0 ∨ k < 1 ∨ n < f ∨ n - f < k ∨ w < 0 ∨ 64 ≤ w) := fun q => by rw [iV, Qad q] at a; exact absurd a (by decide)
 intro x b;rw [lv] at b;rcases QaZ.1 b with q | q;exact h x (QbG q);rcases QaQ.1 q with rfl | q;grind;exact h x (List.mem_of_mem_drop q);exact h
theorem YI {rs n f k w} : (kL rs n f k w).length ≤ rs.length + 1 := by
 grind [kL, AI, Ek]
theorem YJ b rs n (y : 0 ≤ n ∧ n ≤ 64) (h : qP rs) (z : rs.length ≤ 900) f k w : sQ W0 102 [pQ b, iQ f, iQ k, iQ w] (qN b (rs, n) :: R) (iQ (iV rs n f k w)) (qN b (kL rs n f k w, n) :: R) := by
 refine am func102 ntmps102 ?_;refine Yy (b := b) fun a c => ?_;dsimp only;refine aw ?_;refine ah (ao call186 (YD b rs.length c a n)) ?_;refine ai (fun j => ?_) fun j => ?_;refine ae ?_;have d : iV rs n f k w = 1 := by grind [iV]
 rw [kL, d, Qab (by decide)];exact ⟨_, ⟨rfl, rfl⟩, rV rfl rfl⟩;refine ai (fun l => ?_) fun l => ?_;refine ae ?_;have d : iV rs n f k w = 1 := by grind [iV]
 rw [kL, d, Qab (by decide)];exact ⟨_, ⟨rfl, rfl⟩, rV rfl rfl⟩;refine ai (fun m => ?_) fun m => ?_;refine ae ?_;have d : iV rs n f k w = 1 := by grind [iV]
 rw [kL, d, Qab (by decide)];exact ⟨_, ⟨rfl, rfl⟩, rV rfl rfl⟩;refine aa gW ?_;refine ai (fun o => ?_) fun o => ?_;refine ae ?_;have d : iV rs n f k w = 1 := by grind [iV]
 rw [kL, d, Qab (by decide)];exact ⟨_, ⟨rfl, rfl⟩, rV rfl rfl⟩;refine ai (fun p => ?_) fun p => ?_;refine ae ?_;have d : iV rs n f k w = 1 := by grind [iV]
 rw [kL, d, Qab (by decide)];exact ⟨_, ⟨rfl, rfl⟩, rV rfl rfl⟩;refine ai (fun q => ?_) fun q => ?_;refine ae ?_;have d : iV rs n f k w = 1 := by grind [iV]
 rw [kL, d, Qab (by decide)];exact ⟨_, ⟨rfl, rfl⟩, rV rfl rfl⟩;refine ah (cA call187 (YF b c rs n a h (by omega) f k (by omega))) ?_;refine ai (fun i => ?_) fun i => ?_;refine ae ?_;have d : iV rs n f k w = 5 := by grind [iV]
 rw [kL, d, Qab (by decide)];exact ⟨_, ⟨rfl, rfl⟩, rV rfl rfl⟩;have d : iV rs n f k w = 0 := by grind [iV]
 have g := Ek rs f;refine mH (E := 312) (sz := 3) (a := a) (n := rs.length) (c := c) cG rs qM (by decide) rfl (fun r => ?_);refine aw ?_;refine aG rfl (aC call189 (YG rs a rs.length c rfl (by omega) r)) ?_;rintro _ s ⟨t, u, rfl, e⟩;obtain rfl := e.symm;refine aw ?_;refine dK (j0 jM kf NB rfl (fR rfl rfl iG) rfl (by decide) (by decide) (by decide)) fun v => ?_;refine aG rfl (cA call188 (YH rs t u v (f, k, w) (kZ rs f) g (by omega))) ?_;rintro _ s ⟨A, x, rfl, e⟩;obtain rfl := e.symm;refine aw ?_;refine av eg ?_;refine ae ?_;rw [kL, d, Qad rfl];exact ⟨_, ⟨rfl, rfl⟩, rV (AI _ g).symm rfl⟩
def jg : List Rn → Int → Option Int
 | [], _ => none
 | x :: l, i => if x.1 ≤ i ∧ i < x.1 + x.2.1 then some x.2.2 else jg l i
theorem YK {rs} (h : qP rs) : ∀ {x w : Int}, jg rs x = some w → 0 ≤ w ∧ w < 64 := by
 intro x w a
 induction rs with
 | nil => cases a
 | cons y l b =>
  rw [jg] at a;split at a;cases a;have := h y (by simp);exact ⟨this.2.2.2.1, this.2.2.2.2⟩;exact b (fun z c => h z (by simp [c])) a
def uH (rs : List Rn) : Prop := rs.Pairwise fun x y => x.1 + x.2.1 ≤ y.1
theorem Ji x l f k : ot (x :: l) f k = if x.1 + x.2.1 ≤ f then ot l f k else decide (x.1 < f + k) := by
 grind [ot, kZ]
theorem Jj x y l f : lv (x :: l) (kZ (x :: l) f) y = if x.1 + x.2.1 ≤ f then x :: lv l (kZ l f) y else y :: x :: l := by
 grind [lv, kZ]
theorem YL {l i} (h : jg l i ≠ none) : ∃ y ∈ l, y.1 ≤ i ∧ i < y.1 + y.2.1 := by
 induction l with
 | nil => exact absurd rfl h
 | cons x l a =>
  rw [jg] at h;by_cases q : x.1 ≤ i ∧ i < x.1 + x.2.1;grind;grind
theorem Jk : ∀ {rs : List Rn} {f k : Int}, uH rs → (∀ x ∈ rs, 1 ≤ x.2.1) → 1 ≤ k → (ot rs f k = true ↔ ∃ i, f ≤ i ∧ i < f + k ∧ jg rs i ≠ none)
 | [], f, k, _, _, _ => by
  constructor;grind [ot];rintro ⟨i, _, _, h⟩; exact absurd rfl h
 | x :: l, f, k, e, d, g => by
  obtain ⟨o, j⟩ := Qbi.1 e;have p := d x (by simp);rw [Ji];by_cases q : x.1 + x.2.1 ≤ f;rw [Qad q, Jk j (fun y m => d y (by simp [m])) g];constructor;rintro ⟨i, a, b, c⟩; exact ⟨i, a, b, by rw [jg, Qab (by omega)]; exact c⟩;grind [jg];rw [Qab q, Qaj];constructor;intro h;by_cases n : f ≤ x.1;exact ⟨x.1, n, h, by rw [jg, Qad (by omega)]; simp⟩;exact ⟨f, QbY _, by omega, by rw [jg, Qad (by omega)]; simp⟩;grind [jg, YL]
theorem Jl : ∀ {rs : List Rn} {f k w : Int} (i : Int), jg (lv rs (kZ rs f) (f, k, w)) i = if f ≤ i ∧ i < f + k then some w else jg rs i
 | [], f, k, w, i => by
  show jg [(f, k, w)] i = _;rw [jg, jg]; rfl
 | x :: l, f, k, w, i => by
  rw [Jj];by_cases q : x.1 + x.2.1 ≤ f;rw [Qad q, jg, Jl i, jg];by_cases a : x.1 ≤ i ∧ i < x.1 + x.2.1;grind;grind;grind [jg]
theorem YM {x y l i} (h : x ∈ lv l i y) : x = y ∨ x ∈ l := by
 grind [lv]
theorem Jm : ∀ {rs : List Rn} {f k w : Int}, uH rs → (∀ x ∈ rs, 1 ≤ x.2.1) → ot rs f k = false → uH (lv rs (kZ rs f) (f, k, w))
 | [], f, k, w, _, _, _ => List.pairwise_singleton _ _
 | x :: l, f, k, w, c, d, b => by
  obtain ⟨e, g⟩ := Qbi.1 c;have h := d x (by simp);rw [Ji] at b;rw [Jj];by_cases q : x.1 + x.2.1 ≤ f;rw [Qad q] at b ⊢;refine Qbi.2 ⟨fun y a => ?_, Jm g (fun y a => d y (by simp [a])) b⟩;rcases YM a with rfl | a;exact q;exact e y a;rw [Qab q] at b ⊢;have b := of_decide_eq_false b;refine Qbi.2 ⟨fun y a => ?_, c⟩;rcases QaQ.1 a with rfl | a;grind;grind
theorem Jn {rs n f k w} (h : uH rs) (a : ∀ x ∈ rs, 1 ≤ x.2.1) : uH (kL rs n f k w) := by
 grind [kL, iV, Jm]
structure RT (rs : List Rn) (L : List Int) : Prop where
  at_ : ∀ i : Nat, i < L.length → L.getD i (-1) = (jg rs i).getD (-1)
  s : uH rs
  ok : qP rs
def jh (L : List Int) (f k w : Int) : Int := if f < 0 ∨ k < 1 ∨ (L.length : Int) < f ∨ L.length - f < k ∨ w < 0 ∨ 64 ≤ w then 1 else if (List.range k.toNat).any (fun i => decide (0 ≤ L.getD (f.toNat + i) (-1))) then 5 else 0
def mX (L : List Int) (f k w : Int) : List Int := if jh L f k w = 0 then (List.range L.length).map fun (i : Nat) => if f ≤ i ∧ (i : Int) < f + k then w else L.getD i (-1) else L
theorem Jo {L f k w} : (mX L f k w).length = L.length := by unfold mX; split <;> simp
theorem Jp {rs} (h : qP rs) {i} : 0 ≤ (jg rs i).getD (-1) ↔ jg rs i ≠ none := by
 cases e : jg rs i with
 | none => simp
 | some w => have := YK h e; simp; omega
theorem YN {rs L} (h : RT rs L) {f k : Int} (g : 0 ≤ f ∧ 1 ≤ k ∧ f + k ≤ L.length) : (List.range k.toNat).any (fun i => decide (0 ≤ L.getD (f.toNat + i) (-1))) = ot rs f k := by
 rw [Qag, Jk h.s (fun x j => (h.ok x j).2.1) g.2.1, Qbo];constructor;rintro ⟨i, e, d⟩;have e := QbB.1 e;have d := Qas d;rw [h.at_ _ (by omega)] at d;exact ⟨((f.toNat + i : Nat) : Int), by omega, by omega, (Jp h.ok).1 d⟩;rintro ⟨i, a, b, c⟩;refine ⟨(i - f).toNat, QbB.2 (by omega), Qah ?_⟩;rw [h.at_ _ (by omega), show ((f.toNat + (i - f).toNat : Nat) : Int) = i by omega];exact (Jp h.ok).2 c
theorem Jq {rs L} (h : RT rs L) {n : Int} (a : n = L.length) f k w : jh L f k w = iV rs n f k w := by
 grind [jh, iV, YN]
theorem YO {rs L} (h : RT rs L) {n : Int} (d : n = L.length) (b : n ≤ 64) f k w : RT (kL rs n f k w) (mX L f k w) := by
 refine ⟨fun i a => ?_, Jn h.s (fun x e => (h.ok x e).2.1), Jh h.ok b⟩;rw [Jo] at a;unfold mX kL;rw [Jq h d];by_cases q : iV rs n f k w = 0;rw [Qad q, Qad q, Jl];simp only [List.getD, QcN, List.getElem?_range a, Option.map_some, Option.getD_some];by_cases c : f ≤ (i : Int) ∧ (i : Int) < f + k;grind;rw [Qab c, Qab c]; exact h.at_ i a;rw [Qab q, Qab q]; exact h.at_ i a
theorem YP n : RT [] (List.replicate n (-1)) := ⟨fun i a => by simp at a; simp [List.getD, a, jg], List.Pairwise.nil, fun x b => by simp at b⟩
section
variable {P : Program} {W0 : World} {N : FSz} {e : b0} {A R : List HP} {t : TypeId} {v : Value} {x y : Operand} {l' ys : List Value}
theorem YQ {E sz n c g j : Nat} [h : Tk (osl E sz) (.slice (some ⟨g, 0, none⟩) n c) A ys R] (p : ∀ w, (sizeOf t).run P w = .ok 1 w) (q : ev e x = some (.pointer (some ⟨g, j, none⟩))) (s : ev e y = some v)
    (u : v.oneCell' = true) (U : j < ys.length) (V : ys.set j v = l') : df P W0 N e A (.store t x y) (fun _ B => B = osl E sz (.slice (some ⟨g, 0, none⟩) n c) l' :: R) := by
 intro a w d z f C D K Q F G k;rcases (G.tk (r := osl E sz) (b := .slice (some ⟨g, 0, none⟩) n c)).osl with ⟨i, _, _⟩ | ⟨W, X, H, m, i, I, J, Y, Z, L⟩;cases i;cases i;refine lL (b := g) (l := ys ++ m) p q s u (by grind) rfl a w d z f C D K Q F L fun M O B S o => ?_;subst S;refine k M O _ rfl (o.ent ?_);have T : (ys ++ m).set j v = l' ++ m := by grind
 rw [T];exact fC I J (by grind) (by grind)
theorem eR {S} {E n c j sz o' b off : Nat} {k i a'} (a : P.underlying t = some (.slice E)) (d : ∀ w, (sizeOf E).run P w = .ok sz w) (f : ev e x = some (.slice a' n c)) (g : a' = some ⟨b, off, none⟩) (h : ev e y = some (.int k i))
    (l : i = j) (m : j < n) (o : off + j * sz = o') : bR P S N e (.indexAddr t x y) (.pointer (some ⟨b, o', none⟩)) := by
 grind [iF]
instance (priority := high) ent_nil {A : List HP} : Ent A [] := ⟨fun l _ => ⟨[], l, rfl, QaO _⟩⟩
end
abbrev ia (c : Cfg) : Obj := ag (dI c) 28
def qQ (c : Cfg) (i : Nat) : Rn := c.rl.getD i (0, 0, 0)
def jH (c : Cfg) : Nat → List Rn
 | 0 => []
 | i + 1 => if gZ (qQ c i).1 c.cats = true then kL (jH c i) 32 (qQ c i).2.1 (qQ c i).2.2 i else jH c i
theorem Jr c : ∀ i, qP (jH c i) ∧ (jH c i).length ≤ i ∧ uH (jH c i)
 | 0 => ⟨fun x a => by simp [jH] at a, Qao _, List.Pairwise.nil⟩
 | i + 1 => by
  obtain ⟨b, e, d⟩ := Jr c i;rw [jH]; split;exact ⟨Jh b (by decide), QaN YI (by omega), Jn d fun x a => (b x a).2.1⟩;grind
def rW (c : Cfg) (i : Nat) : Bool := !(gZ (qQ c i).1 c.cats && decide (iV (jH c i) 32 (qQ c i).2.1 (qQ c i).2.2 i = 0))
theorem YR W0 b1 b4 bt c (hl : c.rl.length ≤ 8) (hs : ∀ A, cF (aT W0 A) c.ra 3 ix c.rl) :
    WF W0 101 [pQ b1, pQ b4] c.rl.length (fun i => cu [pt b1 (ia c), pt b4 (ag [pQ bt] 197), qN bt (jH c i, 32)]) (rW c) := ⟨call101, fun i d R => by
 refine pI ?_;simp only [Qay, Qax];obtain ⟨g, o, hra, hc⟩ := (hs (pt b1 (ia c) :: R)).at_ d;obtain ⟨x, hx⟩ : ∃ x, c.rl[i] = x := ⟨_, rfl⟩
 have e : qQ c i = x := by grind [qQ]
 rw [hx] at hc;obtain ⟨h1, h2, h3⟩ := Jr c i;have f : jH c (i + 1) = if gZ x.1 c.cats = true then kL (jH c i) 32 x.2.1 x.2.2 i else jH c i := by rw [jH, e]
 have h : rW c i = !(gZ x.1 c.cats && decide (iV (jH c i) 32 x.2.1 x.2.2 i = 0)) := by rw [rW, e]
 rw [f, h];generalize jH c i = T at h1 h2 h3 ⊢;refine am func101 ntmps101 ?_;refine aa (eR Nq Cb rfl hra rfl rfl d (by first | exact Qac _ | rfl)) ?_;refine aa (dt hc.weak) ?_;refine bi fun k => ?_;refine eU (fM Cb rfl rfl rfl rfl rfl) ?_;rintro _ _ rfl;refine aP (aH (aQ (aY ?_)));refine ac rfl (cD rfl zw rfl aR rfl (by first | exact Qac _ | rfl)) ?_;refine ac rfl (cg db rfl (aJ rfl)) ?_;refine ac rfl (cD rfl Cf rfl aR rfl (by first | exact Qac _ | rfl)) ?_;refine ac rfl (cg db rfl (aJ rfl)) ?_;refine aG rfl (iR NR rfl (Ef x.1 c.cats)) ?_;rintro _ j ⟨rfl, hB_⟩;obtain rfl := hB_.symm;refine ac rfl (qk rfl) (ac rfl (aM rfl) ?_);refine dj rfl rfl rfl ?_ ?_;intro a;have b : gZ x.1 c.cats = false := by grind
 rw [b];refine aw ?_;refine ae ?_;refine ⟨_, ⟨?_, rfl⟩, ?_⟩;refine Qak Value.bool ?_
 first
   | rfl
   | (rw [Qbe, bne, Qag]; simp)
 first
   | (rw [Qad rfl]; exact inferInstance)
   | (rw [Qab (by decide)]; exact inferInstance)
 intro a;have b : gZ x.1 c.cats = true := by grind
 rw [b];refine ac rfl (cg isAgg197 rfl (aJ rfl)) ?_;refine cz rfl rfl ?_;refine ac rfl (cD rfl zw rfl aR rfl (by first | exact Qac _ | rfl)) ?_;refine cz rfl rfl (ac rfl (cg db rfl (aJ rfl)) ?_);refine cz rfl rfl ?_;refine ac rfl (cD rfl zw rfl aR rfl (by first | exact Qac _ | rfl)) ?_;refine cz rfl rfl (ac rfl (cg db rfl (aJ rfl)) ?_);refine cz rfl rfl (ac rfl (aM rfl) (cz rfl rfl ?_));refine aG rfl (iZ call102 rfl (YJ bt T 32 (by decide) h1 (by omega) x.2.1 x.2.2 i)) ?_;rintro _ j ⟨rfl, hB_⟩;obtain rfl := hB_.symm;refine cz rfl rfl (ac rfl (mB rfl rfl) (ac rfl (fp rfl rfl) (ac rfl (bj rfl) (aP (aH (dv (ae ?_)))))));refine ⟨_, ⟨?_, rfl⟩, ?_⟩;refine Qak Value.bool ?_
 first
   | rfl
   | (rw [Qbe, bne, Qag]; simp)
 first
   | (rw [Qad rfl]; exact inferInstance)
   | (rw [Qab (by decide)]; exact inferInstance)
 ⟩
def p8 (c : Cfg) : Bool := decide (8 < c.rl.length) || mV (rW c) c.rl.length
theorem YS c (f : ∀ A, cF (aT W0 A) c.ra 3 ix c.rl) : sP W0 29 [.agg (dI c).toArray] R (fun v B => ∃ r, v = .tuple #[iQ r, .bool (p8 c)] ∧ B = R) := by
 refine am func29 ntmps29 ?_;refine bA fun d => ?_;refine ai (fun g => ?_) fun g => ?_;refine aA ?_;rw [p8, Qah (by omega), Qbu];exact ⟨_, ⟨0, rfl, rfl⟩, IO⟩;refine aG rfl (aC call100 (YE 32 (by decide))) ?_;rintro _ h ⟨a, rfl, b⟩;obtain rfl := b.symm;refine aw ?_;refine dK (rB zeroValue197 rfl) fun e => ?_;refine av eg ?_;refine dr (B := kH 0 (cu [pt d (ia c), pt e (ag [pQ a] 197), qN a ([], 32)]) :: R) inferInstance ?_;refine A0 ?_;simp only [Qay, Qax];refine aw ?_;refine aG rfl (rD (B := kH 0 (cu [pt d (ia c), pt e (ag [pQ a] 197), qN a ([], 32)]) :: R) inferInstance (aC Cw (Jd 101 [pQ d, pQ e] c.rl.length (fun i => cu [pt d (ia c), pt e (ag [pQ a] 197), qN a (jH c i, 32)]) (rW c) (YR W0 d e a c (by omega) f) (by omega)))) ?_;rintro _ h ⟨r, rfl, b⟩;obtain rfl := b.symm;refine aw ?_;refine aA ?_;rw [p8, Qal (by omega), Qbq];exact ⟨_, ⟨r, rfl, rfl⟩, IO⟩
def nK (c : Cfg) (g : Int) (k : Nat) : Bool := (c.pl.take k).any fun q => decide (q.2 = g)
theorem YT c g (k : Nat) (hk : k < c.pl.length) (s : c.pl.length ≤ 8) (f : c.pl.length ≤ c.pc) (m : ∀ A, cF (aT W0 A) c.pa 2 iL c.pl) : sQ W0 105 [.agg (dI c).toArray, iQ g, iQ k] R (.bool (nK c g k)) R := by
 refine am func105 ntmps105 ?_;refine bA fun t => ?_;refine aa (oM wQ wO rfl rfl (h := k) rfl (by omega)) ?_;refine d7 (fun i : Nat => i ≤ k ∧ ∀ j, j < i → (c.pl.getD j (0, 0)).2 ≠ g) (fun i => [(1, iQ g), (12, .slice c.pa k c.pc), (13, iQ k), (14, iQ i)]) (fun _ => R) (fun i => k - i) 0 ?_ ?_;grind;intro i ⟨u, v⟩;refine aw ?_;refine ai (fun n => ?_) fun n => ?_;have a : i < c.pl.length := by omega
 have b : i < k := by omega
 obtain ⟨w, o, d, l⟩ := (m R).at_ a;obtain ⟨x, p⟩ : ∃ x, c.pl[i] = x := ⟨_, rfl⟩
 have q : c.pl.getD i (0, 0) = x := by grind
 rw [p] at l;refine aa (eR wQ wO rfl d rfl rfl b (by first | exact Qac _ | rfl)) ?_;refine aa (dt l.weak) ?_;refine bi fun y => ?_;refine av aB ?_;refine ai (fun r => ?_) fun r => ?_;refine ae ?_;have e : nK c g k = true := by
  grind [nK, Qbo, Qcp.2]
 rw [e];exact ap;refine aa co ?_;refine bM (i + 1) ?_;grind;refine ae ?_;have e : nK c g k = false := by
  grind [nK, Qcw, Qcp.1]
 rw [e];exact ap
def qR (c : Cfg) (i : Nat) : Bool := !gZ (c.pl.getD i (0, 0)).1 c.cats || (decide ((c.pl.getD i (0, 0)).2 ≠ -1) && (!iy c (c.pl.getD i (0, 0)).2 || decide ((c.pl.getD i (0, 0)).1 ≠ kK c (c.pl.getD i (0, 0)).2) || nK c (c.pl.getD i (0, 0)).2 i))
theorem YU W0 b1 c (D : c.pl.length ≤ 8) (f : c.pl.length ≤ c.pc) (C : ∀ A, cF (aT W0 A) c.pa 2 iL c.pl) (l : ∀ A, cF (aT W0 A) c.ga 3 ix c.gl) :
    WF W0 103 [pQ b1] c.pl.length (fun _ => cu [pt b1 (ia c)]) (qR c) := ⟨call103, fun i r R => by
 refine pI ?_;simp only [Qay, Qax];obtain ⟨g, o, hpa, hc⟩ := (C (pt b1 (ia c) :: R)).at_ r;obtain ⟨⟨p, q⟩, hx⟩ : ∃ x, c.pl[i] = x := ⟨_, rfl⟩
 have s : c.pl.getD i (0, 0) = (p, q) := by grind
 have E : qR c i = (!gZ p c.cats || (decide (q ≠ -1) && (!iy c q || decide (p ≠ kK c q) || nK c q i))) := by rw [qR, s]
 rw [hx] at hc;rw [E];have m : ∃ (d e j : Nat) (y : List Value), (∀ A, bF (aT W0 A) d (e + j * 3) y) ∧ (iy c q = true → c.ga = some ⟨d, e, none⟩ ∧ q = (j : Int) ∧ j < c.gl.length ∧ ∃ u : Int × Int × Int, y = ix u ∧ kK c q = u.1) := by
  cases F : iy c q with
  | false => exact ⟨0, 0, 0, [], fun A k v G => by simp at G, fun h => by cases h⟩
  | true =>
   have M : 0 ≤ q ∧ q < c.gl.length := Qas F;obtain ⟨j, rfl⟩ : ∃ j : Nat, q = (j : Int) := ⟨q.toNat, by omega⟩
   have n : j < c.gl.length := by omega
   obtain ⟨d, e, hga, _⟩ := (l []).at_ n;refine ⟨d, e, j, ix c.gl[j], fun A => ?_, fun _ => ⟨hga, rfl, n, c.gl[j], rfl, ?_⟩⟩;obtain ⟨g2, o2, h2, hc2⟩ := (l A).at_ n;rw [hga] at h2; cases h2; exact hc2;grind [kK]
 obtain ⟨d, e, j, y, hcv, hrw⟩ := m;obtain ⟨w, hw⟩ : ∃ w, iy c q = w := ⟨_, rfl⟩
 rw [hw] at hrw ⊢;refine am func103 ntmps103 ?_;refine aa (eR wQ wO rfl hpa rfl rfl r (by first | exact Qac _ | rfl)) ?_;refine aa (dt hc.weak) ?_;refine bi fun H => ?_;refine av aB ?_;refine ah (aC NR (Ef p c.cats)) ?_;refine aD rfl ?_ ?_;intro I;refine aw ?_;refine ae ?_;have z : gZ p c.cats = false := by grind
 rw [z];exact ap;intro I;have z : gZ p c.cats = true := by grind
 rw [z];refine aw ?_;refine aD rfl ?_ ?_;intro J;refine aw ?_;refine ae ?_;rw [Qal (by omega)];exact ap;intro J;refine aw ?_;refine ah (aC wW (uG c q)) ?_;rw [hw];refine aD rfl ?_ ?_;intro K;refine aw ?_;refine ae ?_;have B : w = false := by grind
 rw [B, Qah (by omega)];exact ap;intro K;obtain rfl : w = true := by grind
 obtain ⟨hga, hqj, n, u, rfl, hlu⟩ := hrw rfl;rw [hlu, Qah (by omega)];have L : ¬ q = -1 := by omega
 refine aw ?_;refine eV [(b1, 0, dI c), (H, 0, iL (p, q)), (d, e + j * 3, ix u)] 18 mixed rfl (bL (bL (bU (hcv _) bE))) (fun a => ?_);refine aj 0 6 a ?_;refine az 6 a (eR mu kQ rfl hga rfl hqj n (by first | exact Qac _ | rfl)) ?_;refine aj 7 1 a ?_;refine az 8 a (aF (jB (k := 2) (j := 0) rfl rfl)) ?_;refine aj 9 2 a ?_;refine ja (t := 37) rfl ?_ ?_;intro b;refine aj 11 7 a ?_;refine aK ?_;refine ae ?_;refine aI ?_;refine Qak Value.bool ?_;rw [Qag];simp_all;intro b;refine aj 11 4 a ?_;refine gB 15 rfl rfl (aC call105 (YT c q i r D f C)) (bL (bL (bU (hcv _) bE))) fun a => ?_;refine aj 16 2 a ?_;refine aK ?_;refine ae ?_;refine aI ?_;refine Qak Value.bool ?_;rw [Qag];simp_all
 ⟩
def p9 (c : Cfg) : Bool := decide (8 < c.pl.length) || mV (qR c) c.pl.length
theorem YV c (a : c.pl.length ≤ c.pc) (f : ∀ A, cF (aT W0 A) c.pa 2 iL c.pl) (b : ∀ A, cF (aT W0 A) c.ga 3 ix c.gl) : sP W0 30 [.agg (dI c).toArray] R (fun v B => ∃ r, v = .tuple #[iQ r, .bool (p9 c)] ∧ B = R) := by
 refine am func30 ntmps30 ?_;refine bA fun d => ?_;refine ai (fun g => ?_) fun g => ?_;refine aA ?_;rw [p9, Qah (by omega), Qbu];exact ⟨_, ⟨0, rfl, rfl⟩, IO⟩;refine aG rfl (ao Cw (AE 103 [pQ d] c.pl.length d _ (qR c) (YU W0 d c (by omega) a f b) (by omega))) ?_;rintro _ h ⟨r, rfl, e⟩;obtain rfl := e.symm;refine aw ?_;refine aA ?_;rw [p9, Qal (by omega), Qbq];exact ⟨_, ⟨r, rfl, rfl⟩, IO⟩
structure CfOk (W0 : World) (c : Cfg) : Prop where
  g : ∀ A, cF (aT W0 A) c.ga 3 ix c.gl
  r : ∀ A, cF (aT W0 A) c.ra 3 ix c.rl
  p : ∀ A, cF (aT W0 A) c.pa 2 iL c.pl
  n : ∀ A, cF (aT W0 A) c.na 2 iL c.nl
  s : ∀ A, cF (aT W0 A) c.sa 2 iL c.sl
  pc : c.pl.length ≤ c.pc
def YW (W0 : World) (c : Cfg) (C : HP) (l : List (Value × Int × Bool)) : Prop := ∀ x ∈ l, ∃ fn cs, x.1 = .func (.func fn) #[] cs.toArray ∧ (∀ args w, (callFunc fn args).run Tryz.prog w = .ok (.enter fn args) w) ∧
  ∀ R, bH Tryz.prog W0 fn ([] ++ [.agg (dI c).toArray] ++ cs) (kH 0 C :: R) (fun v B => ∃ r, v = .tuple #[.int .i64 r, .bool x.2.2] ∧ B = kH 0 C :: R)
def ou : List (Value × Int × Bool) → Int
 | [] => 0
 | x :: t => if x.2.2 then x.2.1 else ou t
theorem Js : ∀ (l : List (Value × Int × Bool)) (i : Nat) (b : i < l.length), (∀ j (c : j < l.length), j < i → l[j].2.2 = false) → l[i].2.2 = true → ou l = l[i].2.1
 | x :: t, 0, _, _, h => by rw [ou, Qad (by simpa using h)]; rfl
 | x :: t, i + 1, b, a, e => by
  have f := a 0 (by simp) (by omega)
  rw [ou, Qab (by grind), Js t i (by grind) (fun j c d => by
   have := a (j + 1) (by omega) (by omega)
   simpa using this) (by grind)]
  simp
theorem Jt : ∀ (l : List (Value × Int × Bool)), (∀ j (a : j < l.length), l[j].2.2 = false) → ou l = 0
 | [], _ => rfl
 | x :: t, h => by
  have b := h 0 (by simp)
  rw [ou, Qab (by grind), Jt t (fun j a => by
   have := h (j + 1) (by grind)
   simpa using this)]
def w5 (x : Value × Int × Bool) : List Value := [x.1, .int .i64 x.2.1]
def iM (c : Cfg) (bg : Nat) : List (Value × Int × Bool) := [(.func (.func 28) #[] #[], 13, kJ c), (.func (.func 29) #[] #[], 14, p8 c), (.func (.func 30) #[] #[], 15, p9 c), (.func (.func 31) #[] #[], 16, jG c), (.func (.func 32) #[] #[], 17, oq c), (.func (.func 27) #[] #[.pointer (some ⟨bg, 0, none⟩)], 18, mW c)]
theorem YX W0 R bg x c : sQ W0 27 [.agg (dI c).toArray, pQ bg] (pt bg (ag [.bool x] 4) :: R) (.tuple #[iQ 0, .bool x]) (pt bg (ag [.bool x] 4) :: R) := by
 refine am func27 ntmps27 ?_;refine bA fun b => ?_;refine bc [bg] 3 fun a => ?_;refine aj 0 3 a ?_;refine aK ?_;exact aA ap
theorem YY x : sP W0 26 [.bool x] R (fun v B => ∃ a, v = .func (.func 27) #[] #[pQ a] ∧ B = pt a (ag [.bool x] 4) :: R) := by
 refine am func26 ntmps26 ?_;refine dK (jQ rfl rfl) fun a => ?_;refine ae ?_;exact ⟨_, ⟨a, rfl, rfl⟩, IO⟩
theorem YZ W0 c (h : CfOk W0 c) bg : YW W0 c (cu [pt bg (ag [.bool (mW c)] 4)]) (iM c bg) := by
 intro x a;simp only [iM, QaQ, Qcj, or_false] at a;rcases a with rfl | rfl | rfl | rfl | rfl | rfl;exact ⟨_, [], rfl, call28, fun R => Yl c h.g⟩;exact ⟨_, [], rfl, call29, fun R => YS c h.r⟩;exact ⟨_, [], rfl, call30, fun R => YV c h.pc h.p h.g⟩;exact ⟨_, [], rfl, call31, fun R => Yq c h.n h.g⟩;exact ⟨_, [], rfl, call32, fun R => Yn c h.s⟩
 exact ⟨_, [pQ bg], rfl, call27, fun R => pI (iH (YX W0 R bg (mW c) c) fun v B b => by
  obtain ⟨rfl, rfl⟩ := b
  exact ⟨_, ⟨0, rfl, rfl⟩, inferInstance⟩)⟩
def ov (c : Cfg) : Int := if c.cats < 0 ∨ 8 < c.cats then 12 else if kJ c then 13 else if p8 c then 14 else if p9 c then 15 else if jG c then 16 else if oq c then 17 else if mW c then 18 else if 32 < gG c c.gl.length then 19 else 0
theorem Z0 c bg (h : ¬ (c.cats < 0 ∨ 8 < c.cats)) : ov c = if ou (iM c bg) = 0 ∧ 32 < gG c c.gl.length then 19 else ou (iM c bg) := by
 grind [ov, iM, ou]
theorem Ju {w n i} (h : mV w n = false) (a : i < n) : w i = false := by
 grind [w4]
theorem w6 {c} (h : kJ c = false) : 1 ≤ c.gl.length ∧ c.gl.length ≤ 4 ∧ ∀ g ∈ c.gl, gZ g.1 c.cats = true ∧ 1 ≤ g.2.1 ∧ g.2.1 ≤ 8 ∧ 0 ≤ g.2.2 ∧ g.2.2 ≤ 8 - g.2.1 := by
 simp only [kJ, QcS, QcB] at h;obtain ⟨e, b⟩ := h;refine ⟨by omega, by omega, fun g d => ?_⟩;obtain ⟨i, a, rfl⟩ := QbM d;have := Ju b a;rw [show c.gl.getD i (0, 0, 0) = c.gl[i] by simp [List.getD, a]] at this;exact y6.1 this
theorem Jv c (h : CfOk W0 c) : sP W0 7 [.agg (dI c).toArray] R (fun v B => ∃ x, v = .tuple #[iQ (ov c), iQ x] ∧ B = R) := by
 refine am func7 ntmps7 ?_;refine fi (kh rfl) fun u => ?_;refine au 4 ?_;refine DK (aw ?_);refine dj rfl rfl rfl (fun z => ?_) fun z => ?_;refine au 14 ?_;refine rN (aA ?_);have w : ov c = 12 := by grind [ov]
 rw [w];exact ⟨_, ⟨0, rfl, rfl⟩, IO⟩;refine aw ?_;refine aD rfl (fun O => ?_) fun O => ?_;refine au 8 ?_;refine rN (aA ?_);have w : ov c = 12 := by grind [ov]
 rw [w];exact ⟨_, ⟨0, rfl, rfl⟩, IO⟩;refine au 9 ?_;refine CS (au 1 ?_);refine dw (fun e : Int × Int => e.1 = ou (iM c 0) ∧ ¬ (c.cats < 0 ∨ 8 < c.cats)) (fun e => [(1, pQ u), (5, iQ e.2), (6, iQ e.1)]) (fun _ => pt u (ia c) :: R) ?_ ?_;refine au 9 ?_;refine ah (aC call33 (Yo c)) ?_;refine aG rfl (jp rfl call26 rfl (YY (mW c))) ?_;rintro _ P ⟨d, rfl, n⟩;obtain rfl := n.symm;refine aw ?_;refine dK (j0 a7Q Nm NE rfl (fR rfl rfl (fR rfl rfl (fR rfl rfl (fR rfl rfl (fR rfl rfl (fR rfl rfl iG)))))) rfl (by decide) (by decide) (by decide)) fun o => ?_;refine gD (b := o) (o' := ag ((iM c d).flatMap w5) 79) rfl ?_;refine aw ?_;refine d7 (fun i : Nat => i ≤ 6 ∧ ∀ j (H : j < (iM c d).length), j < i → ((iM c d)[j]).2.2 = false) (fun i => [(1, pQ u), (5, iQ 0), (6, iQ 0), (29, .slice (some ⟨o, 0, none⟩) 6 6), (30, iQ 6), (31, iQ i)]) (fun _ => pt o (ag ((iM c d).flatMap w5) 79) :: pt u (ia c) :: kH 0 (cu [pt d (ag [.bool (mW c)] 4)]) :: R) (fun i => 6 - i) 0 ?_ ?_;grind;intro i ⟨hi, L⟩;refine aw ?_;refine aD rfl (fun Q => ?_) fun Q => ?_;refine au 5 ?_;have I : i < 6 := by omega
 have M : (iM c d).length = 6 := rfl;have p : i < (iM c d).length := by omega
 have C := YZ W0 c h d (iM c d)[i] (QaF p);have r := Js (iM c d) i p L;have D : (iM c d)[i].2.2 = false → ∀ j (H : j < (iM c d).length), j < i + 1 → ((iM c d)[j]).2.2 = false := fun q j H S => by
  rcases QaD j i with T | T;grind;grind
 have l : bF (aT W0 (pt o (ag ((iM c d).flatMap w5) 79) :: pt u (ia c) :: kH 0 (cu [pt d (ag [.bool (mW c)] 4)]) :: R)) o (i * 2) (w5 (iM c d)[i]) := by
  obtain ⟨b, U, V, W⟩ := sX (W0 := W0) (A := pt o (ag ((iM c d).flatMap w5) 79) :: pt u (ia c) :: kH 0 (cu [pt d (ag [.bool (mW c)] 4)]) :: R) (f := w5) (sz := 2) (xs := iM c d) (b := o) (fun _ => rfl) rfl i (iM c d)[i] (by simp [p]);cases V
  rwa [Qac] at W
 generalize hy : (iM c d)[i] = y at C r D l;obtain ⟨yv, X, yb⟩ := y;obtain ⟨fn, Y, rfl, s, E⟩ := C;dsimp only at r D E;refine aY (ac rfl (bI I) ?_);refine ac rfl (dt l) ?_;refine fi (dQ NE) fun Z => ?_;refine eU (fM Nm rfl rfl rfl rfl rfl) ?_;rintro _ _ rfl;refine aP (aH (aQ (aY ?_)));refine ac rfl (cD rfl Ny rfl sizeOf76 rfl (by first | exact Qac _ | rfl)) ?_;refine ac rfl (cg isAgg76 rfl (aJ rfl)) ?_;refine ac rfl (ql G3 vg rfl rfl) ?_;refine aG rfl (uf (us := []) (cs := Y) rfl s rfl (E _)) ?_;rintro _ P ⟨r_, rfl, n⟩;obtain rfl := n.symm;refine ac rfl (aM rfl) (ac rfl (lK rfl rfl) (ac rfl (lK rfl rfl) (ac rfl (bj rfl) (ac rfl (bj rfl) (aP (aH (aQ (aY (ac rfl (aM rfl) (aP (aH ?_)))))))))));refine aD rfl (fun N => ?_) fun N => ?_;refine aQ ?_;refine bc [Z] 5 fun F => ?_;refine bu 0 rfl rfl rfl F (aM rfl) ?_;refine bu 1 rfl rfl rfl F (cD rfl Ny rfl sizeOf33 rfl (by first | exact Qac _ | rfl)) ?_;refine bu 2 rfl rfl rfl F (cg isAgg33 rfl (cp (k := 0) rfl rfl)) ?_;refine bu 3 rfl rfl rfl F (bj rfl) ?_;refine bu 4 rfl rfl rfl F (bj rfl) ?_;refine aK ?_;exact bY (X, r_) (⟨(r N).symm, by omega⟩);refine aw ?_;refine aa co ?_;refine bM (i + 1) ?_;grind;refine aw ?_;refine bY ((0 : Int), (0 : Int)) ?_;obtain rfl : i = 6 := by omega
 exact ⟨(Jt _ fun j H => L j H (by grind [iM])).symm, by omega⟩;intro ⟨e, x⟩ ⟨w, G⟩;dsimp only at w ⊢;have m := Z0 c 0 G;rw [← w] at m;refine aw ?_;refine i6 rfl rfl rfl (fun t => ?_) fun t => ?_;have a : ou (iM c 0) = 0 := by omega
 have J : kJ c = false := by
  rw [← Qat]; intro q; simp only [iM, ou, q, QbJ] at a; exact absurd a (by decide)
 have x0 : jG c = false := by
  rw [← Qat]; intro q; simp only [iM, ou, q, QbJ] at a; split at a <;> (try split at a) <;> (try split at a) <;> exact absurd a (by decide)
 obtain ⟨k1, k2, k3⟩ := w6 J;have k4 : c.nl.length ≤ 4 := by
  grind [jG]
 refine aw ?_;refine ah (aC call34 (Yr c h.g (fun g hg => (k3 g hg).2) k4 k2)) ?_;refine aD rfl (fun K => ?_) fun K => ?_;refine au 8 ?_;refine rN (aA ?_);rw [m, Qad (by omega)];exact ⟨_, ⟨0, rfl, rfl⟩, IO⟩;refine au 11 ?_;refine rN (aA ?_);rw [m, Qab (by omega)];exact ⟨_, ⟨_, rfl, rfl⟩, IO⟩;refine au 17 ?_;refine rN (aA ?_);rw [m, Qab (by omega)];exact ⟨_, ⟨_, rfl, rfl⟩, IO⟩
def rt (c : Cfg) : Bool := decide (ov c = 0)
theorem Z1 c (h : CfOk W0 c) : sQ W0 260 [.agg (dI c).toArray] R (.bool (rt c)) R := by
 refine am func260 ntmps260 ?_;refine bA fun d => ?_;refine aG rfl (aC call7 (Jv c h)) ?_;rintro _ e ⟨b, rfl, a⟩;obtain rfl := a.symm;refine aw ?_;refine ae ?_;refine aI ?_;refine Qak Value.bool ?_;rw [Qag, rt]; simp
theorem Jw {c} (h : rt c = true) : 0 ≤ c.cats ∧ c.cats ≤ 8 ∧ kJ c = false ∧ p8 c = false ∧ p9 c = false ∧ jG c = false ∧ oq c = false ∧ mW c = false ∧ gG c c.gl.length ≤ 32 := by
 have h := Qas h;unfold ov at h;split at h;omega
 rename_i i
 repeat' split at h
 all_goals first | exact absurd h (by decide) | skip
 rename_i a b d e f g j
 exact ⟨by omega, by omega, by simpa using a, by simpa using b, by simpa using d, by simpa using e, by simpa using f, by simpa using g, by omega⟩
theorem Jx : ∀ a, a.flatMap (fun x => [bV x]) = bO a
 | [] => rfl
 | b :: l => by rw [QaX, Jx l]; rfl
theorem Jy : ∀ a, (a.map fun b : Nat => (b : Int)).map (Value.int .u8) = bO a
 | [] => rfl
 | b :: l => by rw [QaL, QaL, Jy l]; rfl
def AK (l : List Nat) : ByteArray := (l.map fun b : Nat => (b : Int)).foldl (fun r n => r.push (UInt8.ofNat n.toNat)) ByteArray.empty
section
variable {P : Program} {S : World → Prop} {W0 : World} {N : FSz} {e : b0} {A R : List HP} {t t' : TypeId} {x : Operand} {bs : List Nat} {a : Option Addr} {c n : Nat}
theorem Z2 {E} (k : P.underlying t = some (.slice E)) (he : P.underlying E = some (.int .u8)) (m : P.underlying t' = some .string) (n : ev e x = some (.slice a bs.length c)) (h : cF S a 1 (fun x => [bV x]) bs) :
    bR P S N e (.convert t t' x) (.string (AK bs)) := fun o w _ _ _ _ _ p q => by
 have r : (Conv.bytesToString (.slice a bs.length c)).run P w = .ok (.string (AK bs)) w := by
  cases a with
  | none =>
   have : bs = [] := by
    cases bs with
    | nil => rfl
    | cons b l => obtain ⟨_, _, s, _⟩ := h 0 b rfl; cases s
   subst this;simp [Conv.bytesToString, AK]
  | some f =>
   have u : (loadCells f bs.length).run P w = .ok ((bs.map fun b : Nat => (b : Int)).map (Value.int .u8)).toArray w := by
    by_cases g : bs = [];subst g; simp [loadCells, loadCellsFrom];obtain ⟨b, y, d, j⟩ := h.all g (fun _ => rfl);cases d;rw [Jx] at j;have := xi (P := P) (w := w) (vs := bO bs) (fun i v z => j i v z w q) bs.length 0 #[] (by simp [fD]);simp only [loadCells, this, List.drop_zero, Array.empty_append, Jy]
   exact run_bytesToString w f bs.length c _ u
 simp only [execOp, p.eval n, Sem.run_bind, run_convert_bytes_string w t t' E a bs.length c k he m, r, Result.andThen_ok, Sem.run_pure]
theorem Jz {E} (b : P.underlying t = some (.slice E)) (he : P.underlying E = some (.int .u8)) (d : P.underlying t' = some .string) (f : ev e x = some (.slice a n c)) (g : bs.length = n) (h : cF S a 1 (fun x => [bV x]) bs) :
    bR P S N e (.convert t t' x) (.string (AK bs)) := by grind [Z2]
end
structure Sec where
  at_ : Int
  d : ByteArray
instance : Inhabited Sec := ⟨⟨0, ByteArray.empty⟩⟩
structure Inp where
  at_ : Int
  g : Int
  k : Int
  code : Int
  d : ByteArray
instance : Inhabited Inp := ⟨⟨0, 0, 0, 0, ByteArray.empty⟩⟩
theorem Own.step {W0 w w' A C} (h : Own W0 w A) (k : Own w w' C) : Own W0 w' (C ++ A) := by
 obtain ⟨a, j, m, c⟩ := h.owns;obtain ⟨f, l, n, g⟩ := k.owns;have d : ∀ p ∈ a, p.1 < w.heap.size := fun p e => by
  have := (c p e).2;rcases QaD p.1 w.heap.size with q | q;exact q;grind
 refine ⟨k.os.trans h.os, k.tape.trans h.tape, k.output.trans h.output, QaN h.size k.size, fun b i => (k.base b (QcD i h.size)).trans (h.base b i), f ++ a, jz.append.2 ⟨f, a, rfl, l, j⟩, ?_, fun p e => ?_⟩;grind;rcases QaZ.1 e with q | q;exact ⟨QaN h.size (g p q).1, (g p q).2⟩;exact ⟨(c p q).1, (k.base p.1 (d p q)).trans (c p q).2⟩
theorem y7 {W0 W A b off vs} (a : Own W0 W A) (h : bF (aT W0 A) b off vs) : ∀ B, bF (aT W B) b off vs := fun B i v c => xh (h i v c W a)
theorem w7 {α W0 W A a sz f} {xs : List α} (d : Own W0 W A) (h : cF (aT W0 A) a sz f xs) : ∀ B, cF (aT W B) a sz f xs := fun B i x e => by
 obtain ⟨b, c, rfl, g⟩ := h i x e;exact ⟨b, c, rfl, y7 d g B⟩
section
variable {rd : Option Nat} {P : Program} {S : World → Prop} {W0 : World} {N : FSz} {e : b0} {A B R : List HP}
variable {op : Op} {ty t K E : TypeId} {v z : Value} {b : Nat} {x y u : Operand} {f : Int → Option Value} {k : Int}
end
section
variable {P : Program} {S : World → Prop} {W0 : World} {N : FSz} {e : b0} {A R : List HP} {t t' ty : TypeId} {b off : Nat} {x y : Operand} {l l' : List Value}
theorem JA {E k k'} (a : ∀ w, (isAgg E).run P w = .ok false w) (he : P.underlying E = some (.int k')) D w :
    ∀ (m s : Nat) (ms ns : List Int), ms.length = s + m → ns.length = s + m →
      (Op.eqItems (D + 1) E 1 (ms.map (Value.int k)).toArray (ns.map (Value.int k)).toArray (List.range' s m)).run P w = .ok (ms.drop s == ns.drop s) w
 | 0, s, ms, ns, d, e => by
  rw [show ms.drop s = [] from List.drop_eq_nil_of_le (by omega), show ns.drop s = [] from List.drop_eq_nil_of_le (by omega)];simp [Op.eqItems]
 | m + 1, s, ms, ns, d, e => by
  have f : (ms.map (Value.int k))[s]? = some (.int k ms[s]) := by grind
  have g : (ns.map (Value.int k))[s]? = some (.int k ns[s]) := by grind
  have i : ms.drop s = ms[s] :: ms.drop (s + 1) := Qbf (by omega);have j : ns.drop s = ns[s] :: ns.drop (s + 1) := Qbf (by omega);have l := JA (k := k) a he D w m (s + 1) ms ns (by omega) (by omega);rw [List.range'_succ, i, j];simp only [Op.eqItems, QaA, Sem.run_bind, vw a f w, vw a g w, Result.andThen_ok, run_equalIn_int w D E k k' _ _ he];by_cases h : ms[s] = ns[s];have b : ((ns[s] :: ms.drop (s + 1)) == (ns[s] :: ns.drop (s + 1))) = (ms.drop (s + 1) == ns.drop (s + 1)) := by
   rw [Qag, Qba, Qba];exact ⟨fun q => (List.cons.inj q).2, fun q => by rw [q]⟩
  rw [h, b];simp only [Qbx, Bool.not_true, Qaq, QcO];exact l;have n : (ms[s] == ns[s]) = false := by simpa using h
  rw [n];have c : ((ms[s] :: ms.drop (s + 1)) == (ns[s] :: ns.drop (s + 1))) = false := by
   grind
  rw [c];simp
theorem y8 {E n z : Nat} {k k' i} {ms ns : List Int} {us vs} (a : P.underlying t = some (.array n E)) (b : P.info? E = some i) (c : P.cellsOf E = 1) (he : P.underlying E = some (.int k')) (e : ∀ w, (isAgg E).run P w = .ok false w)
    (f : us = ms.map (Value.int k)) (g : vs = ns.map (Value.int k)) (l1 : ms.length = n) (l2 : ns.length = n) : nZ P (z + 2) t (.agg us.toArray) (.agg vs.toArray) (ms == ns) := fun d w => by
 subst f; subst g;rw [show d + (z + 2) = (d + z + 1) + 1 by omega, run_equalIn_array w (d + z + 1) _ _ a b, c, List.range_eq_range', JA e he (d + z) w n 0 ms ns (by omega) (by omega)];simp
theorem Z3 {E n sz i h o' : Nat} {k k' j1 j2} (j : P.underlying t = some (.array n E)) (l : ∀ w, (sizeOf E).run P w = .ok sz w) (m : ev e x = some (.pointer (some ⟨b, off, none⟩))) {lo hi} (o : ev e lo = some (.int k j1)) (p : ev e hi = some (.int k' j2)) (q : j1 = i) (r : j2 = h) (c : i ≤ h) (d : h ≤ n) (s : i < n) (u : off + i * sz = o') :
    bR P S N e (.slice t x (some lo) (some hi) none) (.slice (some ⟨b, o', none⟩) (h - i) (n - i)) := fun a w _ _ _ _ _ f _ => by
 subst q; subst r; subst u;have g : ¬ n = i := by omega
 simp [execOp, Instr.sliceAt, f.eval m, f.eval o, f.eval p, fq j, Instr.sureAddr, Instr.sliceBounds, rF d, rF c, l, g, jA]
theorem Z4 {E n m c : Nat} {a} (b : P.underlying t = some (.array n E)) (d : ev e x = some (.slice a m c)) (f : ¬ m < n) : bR P S N e (.sliceToArrayPointer t x) (.pointer a) := fun g w _ _ _ _ _ h _ => by
 simp [execOp, h.eval d, Instr.arrayAt, fq b, f]
theorem Z5 {S b off n j l vs} (h : bF S b off l) (c : (l.drop j).take n = vs) : bF S b (off + j) vs := fun i v a => by
 subst c;rw [List.getElem?_take] at a;split at a;rw [Qcl] at a;rw [QbV];exact h (j + i) v a;cases a
end
section
variable {W0 : World} {N : FSz} {K : Act → World → Prop} {e : b0} {A R R1 R2 : List HP} {b n c : Nat} {l : List Dsc} {a : Option Addr} {ys : List Value}
end
structure QS where
  r : Rg3
  on : Bool
  br : Int
  last : Nat
  put : Nat
@[reducible] def dJ : QS := ⟨⟨0, 0, 0, 0⟩, false, 0, 0, 0⟩
abbrev qO (m : Bool) (s : QS) : Obj := ag [.int .u32 s.r.desc, .int .u32 s.r.avail, .int .u32 s.r.used, .int .i64 s.r.n, .bool s.on, .int .i64 s.br, .int .i64 s.last, .int .i64 s.put, .bool m] 368
theorem Z6 : sP W0 182 [] R (fun v B => ∃ b, v = pQ b ∧ B = pt b (qO true dJ) :: R) := by
 refine am func182 ntmps182 ?_;refine bA fun a => ?_;refine ae ?_;exact ⟨_, ⟨_, rfl, rfl⟩, IO⟩
section
variable {P : Program} {S : World → Prop} {W0 : World} {N : FSz} {e : b0} {A R : List HP} {t t' : TypeId} {x : Operand} {v : Value} {b : Nat} {vs : List Value}
end
structure Dk where
  rs : List Rn
  lb : List Int
  ss : List (List Nat)
section
variable {W0 : World} {N : FSz} {K : Act → World → Prop} {e : b0} {A B R R1 R2 R3 R4 : List HP} {d : Nat} {x : Dk}
end
section
variable {P : Program} {S : World → Prop} {W0 : World} {N : FSz} {e : b0} {A R : List HP} {ty t t' : TypeId} {x y : Operand} {b off : Nat} {l l' vs : List Value}
theorem Z7 {E sz u L z M m : Nat} {ay} (C : P.underlying t = some (.slice E)) (D : ∀ w, (sizeOf E).run P w = .ok sz w) (F : ev e x = some (.slice (some ⟨b, off, none⟩) u L)) (G : ev e y = some (.slice ay z M))
    [h : Tk pt b A (ag l ty) R] (H : Nat.min z u = m) (d : m = 0 ∨ ∃ f i, ay = some ⟨f, i, none⟩ ∧ bF (aT W0 A) f i vs) (O : vs.length = m * sz) (S : fy vs = true) (T : off + m * sz ≤ l.length) (I : dk l off vs = l') :
    df P W0 N e A (.call { callee := .builtin .copy, args := #[x, y], argTypes := #[t, t'] }) (fun v B => v = iQ m ∧ B = pt b (ag l' ty) :: R) := by
 rcases d with rfl | ⟨f, i, rfl, U⟩;have V : vs = [] := QaE (by omega);subst V;have j : l = l' := I;subst j;intro a w n o p W g K Q J X k;have q := X.tk (r := pt) (b := b);have c : (execOp a.eval { dst := n, op := .call { callee := .builtin .copy, args := #[x, y], argTypes := #[t, t'] }, type := o, pos := p, after := W, guard := g }).run P w = .ok (.value (iQ 0)) w := by
  have s : (sizeOf E).run P w = .ok sz w := D w;cases ay <;>
  simp only [execOp, resolve, invoke, builtin, Sem.run_bind, Sem.run_pure, Result.andThen_ok, Qcz, QaL, Qcf, J.eval F, J.eval G, Builtin.copy_, Builtin.lenOf, Builtin.firstCells, fq C, H, Qcn, QbR, QbE, List.getElem?_cons_succ, s, loadCells, loadCellsFrom, Nat.zero_mul, storeCells, goInt] <;> rfl
 unfold Oper.wp;rw [c];exact k _ w _ ⟨rfl, rfl⟩ q;exact uk C D F G H U O S T I
end
theorem Z8 (l : List Nat) : (l.flatMap fun x => [wV x]) = l.map wV := by
 induction l with
 | nil => rfl
 | cons x l a => rw [QaX, a]; rfl
@[reducible] def j6 (x : Nat) : List Value := [wV x]
theorem Em x : (j6 x).length = 1 := rfl
theorem En (l : List Nat) : l.flatMap j6 = l.map wV := XL wV l
def bz (ws : List Nat) (p : Nat) : List Nat := ws.take (16 * p)
theorem w8 ws p : (bz ws p).length = min (16 * p) ws.length := by rw [bz, QaT]
theorem Eo (a b : Nat) : (if b < (a : Int) then (b : Int) else a) = (min a b : Nat) := by
 omega
theorem JB {p : Nat} (h : p ≤ 8) : (if 8 < (p : Int) then 8 else (p : Int)) = p := by rw [Qab (by omega)]
theorem Z9 (a : Nat) : (if a > (0 : Int) then (a : Int) else 0) = a := by
 omega
theorem JC a (c p : Nat) ws (i : cF (aT W0 R) a 1 j6 ws) (j : p ≤ 8) (q : ws.length < 9223372036854775808) : sP W0 87 [.slice a ws.length c, iQ p] R (fun v B => ∃ g, v = .slice (some ⟨g, 0, none⟩) (bz ws p).length (bz ws p).length ∧ B = pt g (ag ((bz ws p).map wV) 46) :: R) := by
 have r := w8 ws p;have d := (i.take (16 * p)).src Em (fun _ => trivial);rw [En] at d;refine am func87 ntmps87 ?_;refine aa (sT rfl rfl (JB j)) ?_;refine aa (vX rfl rfl (Z9 p)) ?_;refine iS 3 (lh (16 * p)) ?_;refine dw (fun m : Nat => m = (bz ws p).length) (fun m => [(0, .slice a ws.length c), (5, iQ m)]) (fun _ => R) ?_ ?_;refine au 8 ?_;refine ai (fun k => ?_) fun k => ?_;exact bY ws.length (by omega);exact bY (16 * p) (by omega);intro m e;refine aw ?_;refine dK (uj (sz := 1) (by_ := 4) (info := Tryz.t46) tP (by kernel_rfl) rfl rfl rfl rfl (by decide) rfl rfl rfl rfl (by omega) (by decide)) fun g => ?_
 refine aG rfl (Z7 tP aU rfl rfl (m := m) (vs := (bz ws p).map wV) (Nat.min_eq_right (by omega)) (by
       rcases d with h | ⟨b, o, l, n⟩
       · left; rw [e, bz, h]; rfl
       right; exact ⟨b, o, l, n.weak⟩) (by rw [Qav, e]; omega) (by simp [fy, wV, Value.oneCell']) (by rw [QbA]; omega) (by have := xg ((bz ws p).map wV) (List.replicate (m * 1) (.int .u32 0)) [] (by rw [Qav, QbA, e]; omega); simpa using this)) ?_
 rintro _ s ⟨rfl, f⟩;obtain rfl := f.symm;refine aw ?_;refine ae ?_;subst e;exact ⟨_, ⟨g, rfl, rfl⟩, IO⟩
def mc (n i : Nat) : Nat := min n (i * 16)
theorem JD ws i : (et ws i).length = min ws.length (mc ws.length i + 16) - mc ws.length i := by
 rw [et, QaT, QcV, mc]; omega
theorem Za a (c n i : Nat) ws (hn : ws.length = n) (hc : n ≤ c) (hi : i < 8) (h63 : n ≤ 1000) : sQ W0 174 [.slice a n c, iQ i] R (.slice (lu a c (mc n i) 1) (et ws i).length (c - mc n i)) R := by
 have b := JD ws i;rw [hn] at b;have d : mc n i = min n (i * 16) := rfl;refine am func174 ntmps174 ?_;refine aa (lh (i * 16)) ?_;refine aa (sT rfl rfl (Eo n (i * 16))) ?_;refine aa (ee (mc n i + 16)) ?_;refine aa (sT rfl rfl (Eo n (mc n i + 16))) ?_;refine aa (XR tP aU rfl rfl rfl rfl rfl (by omega) (by omega)) ?_;refine ae ?_;rw [b];exact ap
theorem Zb {S a c i ws} (h : cF S a 1 j6 ws) (b : ws.length ≤ c) : cF S (lu a c (mc ws.length i) 1) 1 j6 (et ws i) := by
 have d : mc ws.length i + (et ws i).length ≤ ws.length := by
  grind [JD, mc]
 have := h.sub d b;have e : (ws.drop (mc ws.length i)).take (et ws i).length = et ws i := by
  have f : mc ws.length i = min ws.length (i * 16) := rfl;rcases QaD ws.length (i * 16) with q | q;grind [et, List.drop_of_length_le];grind [mc, et]
 rwa [e] at this
theorem Zc pb ps po (b : 0 < po.length) : sQ W0 22 [pQ pb, iQ (-1), iQ 0] (cW pb (ps, po) :: R) (iQ 1) (cW pb (ps, po) :: R) := by
 have c : ez po.length (-1) = false := by simp [ez]
 refine am func22 ntmps22 ?_;refine ah (ao zv (w3 pb ps po b)) ?_;refine ah (ao NQ (Ed pb ps po (-1))) ?_;refine ai (fun a => ?_) fun a => ?_;exact ae ap;exact absurd (by simp [c]) a
theorem Zd b pg (h : Pgs pg) : sQ W0 129 [pQ b, iQ (-1)] (pt b (bN pg) :: R) (iQ 1) (pt b (bN pg) :: R) := by
 refine am NH ntmps129 ?_;refine ah (ao Co (xB b pg h)) ?_;refine ah (aC Cn (xC (-1))) ?_;refine ai (fun a => ?_) fun a => ?_;exact ae ap;exact absurd a (by decide)
theorem Ze pb ps pm x (h : ImOk x) (c : 0 < x.fr.length) : sQ W0 257 [pQ pb, pQ ps, pQ pm] (cW pb (ps, x.po) :: bB ps x.fr :: pt pm (bN x.pg) :: R) (.bool true) (cW pb (ps, x.po) :: bB ps x.fr :: pt pm (bN x.pg) :: R) := by
 have d := h.len;refine am func257 ntmps257 ?_;refine ah (ao call22 (Zc pb ps x.po (by omega))) ?_;refine ci (fun a => ?_) fun a => ?_;refine ah (ao wU (uq ps x.fr)) ?_;refine i6 rfl rfl rfl (fun b => ?_) fun b => ?_;refine au 2 ?_;refine ah (ao Gr (Zd pm x.pg h.pg)) ?_;exact ae ap;omega;exact absurd (by decide) a
theorem Zf pm pg (h : Pgs pg) n (d : n ≤ 8) (b : qI pg 0 n) : sQ W0 258 [pQ pm, iQ n] (pt pm (bN pg) :: R) (.bool true) (pt pm (bN pg) :: R) := by
 refine am func258 ntmps258 ?_;refine d7 (fun i : Nat => i ≤ n) (fun i => [(0, pQ pm), (8, iQ n), (9, iQ i)]) (fun _ => pt pm (bN pg) :: R) (fun i => n - i) 0 ?_ ?_;omega;intro i e;refine aw ?_;refine ai (fun c => ?_) fun c => ?_;refine ah (ao vl (sZ pm pg h i)) ?_;refine bi fun f => ?_;refine av aB ?_;refine ai (fun a => ?_) fun a => ?_;exact absurd a (by rw [b i (QaK _) (by omega)]; decide);refine aa co ?_;exact bM (i + 1) (by omega);exact ae ap
theorem Zg pb ps pm who n x (h : ImOk x) (b : 0 < x.fr.length) (c : who < 16) (l : 1 ≤ n) (d : n ≤ 8) (e : qI x.pg 0 n) (m : n ≤ (cm x.po who).length) : sQ W0 172 [pQ pb, pQ ps, pQ pm, iQ who, iQ n] (cW pb (ps, x.po) :: bB ps x.fr :: pt pm (bN x.pg) :: R) (iQ 0) (cW pb (ps, x.po) :: bB ps x.fr :: pt pm (bN x.pg) :: R) := by
 have f := h.len;refine am func172 ntmps172 ?_;refine ew 4 (cK call257 (Ze pb ps pm x h b)) ?_;refine jR ?_;refine aD rfl (fun g => ?_) fun g => ?_;omega;refine aw ?_;refine aD rfl (fun i => ?_) fun i => ?_;omega;refine aw ?_;refine aD rfl (fun j => ?_) fun j => ?_;omega;refine aw ?_;refine aD rfl (fun k => ?_) fun k => ?_;omega;refine aw ?_;refine ew 4 (ao call258 (Zf pm x.pg h.pg n d e)) ?_;refine jR ?_;refine ew 5 (ao call259 (Yh pb ps x.po who (by omega) c)) ?_;refine aD rfl (fun a => ?_) fun a => ?_;omega;refine aw ?_;exact ae ap
theorem JE {pg} {i f : Nat} (a : i < 8) (b : f < 32) (c : aW pg i = false) : gm pg i (f, 3) = 0 := by
 grind [gm, jr, lp]
theorem Zh b6 b9 b14 b7 b8 g pb ps pm a i f l x (h : ImOk x) ws (u : a < 16) (s : i < 8) (he : cm x.po a = f :: l) (v : aW x.pg (i : Nat) = false) (w : ∀ y ∈ ws, y < 4294967296) (D : ws.length ≤ 128) : sQ W0 173 ([] ++ [iQ i] ++ [pQ b6, pQ b9, pQ b14, pQ b7, pQ b8]) (pt b6 (ag [pQ pb] 61) :: pt b9 (ag [iQ a] 3) :: pt b14 (ag [.slice (some ⟨g, 0, none⟩) ws.length ws.length] 29) :: pt b7 (ag [pQ ps] 55) :: pt b8 (ag [pQ pm] 118) :: pt g (ag (ws.map wV) 46) :: cW pb (ps, x.po) :: bB ps x.fr :: pt pm (bN x.pg) :: R) (iQ 0) (pt b6 (ag [pQ pb] 61) :: pt b9 (ag [iQ a] 3) :: pt b14 (ag [.slice (some ⟨g, 0, none⟩) ws.length ws.length] 29) :: pt b7 (ag [pQ ps] 55) :: pt b8 (ag [pQ pm] 118) :: pt g (ag (ws.map wV) 46) :: cW pb (ps, (kG a ws x i).po) :: bB ps (kG a ws x i).fr :: pt pm (bN (kG a ws x i).pg) :: R) := by
 have E := kX.1 (show f ∈ cm x.po a by rw [he]; simp);have z := h.po.len;have n : kG a ws x i = ⟨j5 f (et ws i) 0 x.fr, x.po.set f ((a : Int), true), eA x.pg i ((f : Int), 3)⟩ := by rw [kG, he]
 rw [n];have d : ∀ y ∈ et ws i, y < 4294967296 := fun y m => w y (List.mem_of_mem_drop (QbG m));have o : (et ws i).length ≤ 16 := by grind [et]
 simp only [Qax, Qay];refine am func173 ntmps173 ?_;refine ew 14 (ao call125 (Ja pb ps x.po a f l u h.po he)) ?_;refine jR ?_;refine ew 5 (aC call174 (Za (some ⟨g, 0, none⟩) ws.length ws.length i ws rfl (Qao _) s (by omega))) ?_;refine gU (fun k : Nat => k ≤ (et ws i).length) (fun k => [(0, iQ i), (4, pQ b7), (5, pQ b8), (8, iQ f), (23, .slice (lu (some ⟨g, 0, none⟩) ws.length (mc ws.length i) 1) (et ws i).length (ws.length - mc ws.length i)), (24, iQ (et ws i).length), (25, iQ k)]) (fun k => pt b6 (ag [pQ pb] 61) :: pt b9 (ag [iQ a] 3) :: pt b14 (ag [.slice (some ⟨g, 0, none⟩) ws.length ws.length] 29) :: pt b7 (ag [pQ ps] 55) :: pt b8 (ag [pQ pm] 118) :: pt g (ag (ws.map wV) 46) :: cW pb (ps, x.po.set f ((a : Int), true)) :: bB ps (j5 f ((et ws i).take k) 0 x.fr) :: pt pm (bN x.pg) :: R) (fun k => (et ws i).length - k) 0 ?_ ?_ ?_ ?_;omega
 · repeat (first | exact bC | refine bq rfl ?_)
 rw [show j5 f ((et ws i).take 0) 0 x.fr = x.fr from rfl];exact IO;intro k F;refine aw ?_;refine ai (fun A => ?_) fun A => ?_;have c : k < (et ws i).length := by omega
 have p : cF (aT W0 (pt b6 (ag [pQ pb] 61) :: pt b9 (ag [iQ a] 3) :: pt b14 (ag [.slice (some ⟨g, 0, none⟩) ws.length ws.length] 29) :: pt b7 (ag [pQ ps] 55) :: pt b8 (ag [pQ pm] 118) :: pt g (ag (ws.map wV) 46) :: cW pb (ps, x.po.set f ((a : Int), true)) :: bB ps (j5 f ((et ws i).take k) 0 x.fr) :: pt pm (bN x.pg) :: R)) (some ⟨g, 0, none⟩) 1 j6 ws := sX (b := g) Em (En ws).symm;obtain ⟨G, H, q, t⟩ := (Zb (i := i) p (Qao _)).at_ c;obtain ⟨y, m⟩ : ∃ y, (et ws i)[k] = y := ⟨_, rfl⟩
 rw [m] at t;have e := d _ (QaF c);rw [m] at e;have r : (et ws i).take (k + 1) = (et ws i).take k ++ [y] := by grind [Qap]
 obtain ⟨B, C⟩ := uD (f := f) (l := (et ws i).take k) (k := 0) h.fr;have j := E6 f y ((et ws i).take k) 0 x.fr;rw [← r, QaT, Qbm (by omega), Qac] at j;refine aa (eR tP aU rfl q rfl rfl c (by first | exact Qac _ | rfl)) ?_;refine aa (aF (t 0 _ rfl)) ?_;refine aa (lh (4 * k)) ?_;refine ah (ao NI (Dq ps (j5 f ((et ws i).take k) 0 x.fr) f (4 * k : Nat) 4 y e B)) ?_;refine aa co ?_;refine bM (k + 1) ?_ (he := ?_);omega;rw [j];exact IO;obtain rfl : k = (et ws i).length := by omega
 rw [QaW (Qao _)];refine ah (ao NS (Dt pm x.pg h.pg i ((f : Int), 3))) ?_;refine ae ?_;rw [JE s (by omega) v];exact ap
theorem JF pb ps pm who n x (h : ImOk x) (B : 0 < x.fr.length) a c ws (q : who < 16) (C : 1 ≤ n) (u : n ≤ 8) (v : qI x.pg 0 8) (D : n ≤ (cm x.po who).length) (E : ∀ A, Ent A R → cF (aT W0 A) a 1 j6 ws) (F : ∀ y ∈ ws, y < 4294967296) (G : ws.length < 9223372036854775808) : sQ W0 88 [pQ pb, pQ ps, pQ pm, iQ who, iQ n, .slice a ws.length c] (cW pb (ps, x.po) :: bB ps x.fr :: pt pm (bN x.pg) :: R) (iQ 0) (cW pb (ps, (dq who (bz ws n) n x).po) :: bB ps (dq who (bz ws n) n x).fr :: pt pm (bN (dq who (bz ws n) n x).pg) :: R) := by
 have w := w8 ws n;have r : ∀ y ∈ bz ws n, y < 4294967296 := fun y H => F y (QbG H);have d : ∀ i, ImOk (dq who (bz ws n) i x) := fun i => uE q h;have I : ∀ i, (dq who (bz ws n) i x).fr.length = x.fr.length := fun i => by
  induction i with
  | zero => rfl
  | succ i z =>
   rw [dq, kG];split;rw [(uD (d i).fr).2]; exact z;exact z
 refine am func88 ntmps88 ?_;refine dK (jQ rfl rfl) fun k => ?_;refine dK (jQ rfl rfl) fun m => ?_;refine dK (jQ rfl rfl) fun o => ?_;refine dK (jQ rfl rfl) fun p => ?_;refine ew 9 (cK call172 (Zg pb ps pm who n x h B q C u (fun i J N => v i J (by omega)) D)) ?_;refine jR ?_;refine aG rfl (aC call87 (JC a c n ws (E _ inferInstance) u G)) ?_;rintro _ O ⟨g, rfl, s⟩;obtain rfl := s.symm;refine dK (rB zeroValue29 rfl) fun b => ?_;refine av eg ?_;refine gU (fun i : Nat => i ≤ n) (fun i => [(15, .func (.func 173) #[] #[pQ k, pQ p, pQ b, pQ m, pQ o]), (31, iQ n), (32, iQ i)]) (fun i => pt k (ag [pQ pb] 61) :: pt p (ag [iQ who] 3) :: pt b (ag [.slice (some ⟨g, 0, none⟩) (bz ws n).length (bz ws n).length] 29) :: pt m (ag [pQ ps] 55) :: pt o (ag [pQ pm] 118) :: pt g (ag ((bz ws n).map wV) 46) :: cW pb (ps, (dq who (bz ws n) i x).po) :: bB ps (dq who (bz ws n) i x).fr :: pt pm (bN (dq who (bz ws n) i x).pg) :: R) (fun i => n - i) 0 ?_ ?_ ?_ ?_;omega
 · repeat (first | exact bC | refine bq rfl ?_)
 rw [show dq who (bz ws n) 0 x = x from rfl];exact IO;intro i P;refine aw ?_;refine ai (fun K => ?_) fun K => ?_;have L : i < n := by omega
 have j := Aq (who := who) (words := bz ws n) (x := x) i;have t := (Ar (who := who) (words := bz ws n) v h.pg.len i (by omega)).1;obtain ⟨f, l, M⟩ : ∃ f l, cm (dq who (bz ws n) i x).po who = f :: l := by
  cases e : cm (dq who (bz ws n) i x).po who with
  | nil => rw [e] at j; simp at j; omega
  | cons f l => exact ⟨f, l, rfl⟩
 refine ew 9 (jp (us := []) (cs := [pQ k, pQ p, pQ b, pQ m, pQ o]) rfl call173 rfl (Zh k p b m o g pb ps pm who i f l (dq who (bz ws n) i x) (d i) (bz ws n) q (by omega) M (t i (Qao _) (by omega)) r (by omega))) ?_;refine jR ?_;refine iS 3 co ?_;exact bM (i + 1) (by omega);refine ae ?_;obtain rfl : i = n := by omega
 exact ap
@[reducible] def ju (x : Int × Bool) : List Value := [.int .i64 x.1]
@[reducible] def jW (x : Int × Bool) : List Value := [.bool x.2]
def dE (pb : Nat) (x : Nat × Po) : HP := chk (fun C => ∃ a c a2 c2, C = [pt pb (ag [.pointer (some ⟨x.1, 0, none⟩), .slice a x.2.length c, .slice a2 x.2.length c2] 181), osl 3 1 (.slice a x.2.length c) (x.2.flatMap ju), osl 4 1 (.slice a2 x.2.length c2) (x.2.flatMap jW)])
section
variable {P : Program} {W0 : World} {N : FSz} {K : Act → World → Prop} {e : b0} {A B R R1 R2 R3 : List HP} {pb ps n : Nat} {po : Po} {f : FuncId} {args : List Value} {Post : Value → List HP → Prop}
theorem AL (po : Po) : (po.flatMap ju).length = po.length := by rw [cQ (k := 1) (fun _ => rfl)]; omega
theorem w9 (po : Po) : (po.flatMap jW).length = po.length := by rw [cQ (k := 1) (fun _ => rfl)]; omega
theorem JG [hk : Tk dE pb A (ps, po) R] (h : ∀ a c d f, ax W0 N K e (pt pb (ag [pQ ps, .slice a po.length c, .slice d po.length f] 181) :: osl 3 1 (.slice a po.length c) (po.flatMap ju) :: osl 4 1 (.slice d po.length f) (po.flatMap jW) :: R)) : ax W0 N K e A :=
  gk (r := dE) (b := pb) (nu fun C g => by obtain ⟨a, c, d, f, rfl⟩ := g; exact h a c d f)
theorem JH {a a2 c c2 n2 xs ys} [d : Tk pt pb A (ag [pQ ps, .slice a n c, .slice a2 n2 c2] 181) R1] [e : Tk (osl 3 1) (.slice a n c) R1 xs R2] [f : Tk (osl 4 1) (.slice a2 n2 c2) R2 ys R3]
    (g : n = po.length) (b : n2 = po.length) (h : xs = po.flatMap ju) (i : ys = po.flatMap jW) [k : Ent R3 B] : Ent A (dE pb (ps, po) :: B) := by
 subst g; subst b; subst h; subst i;exact (Ent.ofPerm (d.perm.trans ((e.perm.trans (f.perm.cons _)).cons _))).trans ((Ent.cons (Ent.cons (Ent.cons k))).trans (g5 (R := B) (C := [_, _, _]) ⟨a, c, a2, c2, rfl⟩))
theorem y9 [hk : Tk dE pb A (ps, po) R] (x : 0 < po.length) (h : ∀ g c j f k d, po.length ≤ c → c ≤ maxLen → (po.flatMap ju ++ k).length = c * 1 → po.length ≤ f → f ≤ maxLen → (po.flatMap jW ++ d).length = f * 1 →
    ax W0 N K e (pt pb (ag [pQ ps, .slice (some ⟨g, 0, none⟩) po.length c, .slice (some ⟨j, 0, none⟩) po.length f] 181) :: pt g (ag (po.flatMap ju ++ k) 3) :: pt j (ag (po.flatMap jW ++ d) 4) :: R)) : ax W0 N K e A := by
 refine JG (pb := pb) fun a c o f => ?_;refine gk (r := osl 3 1) (b := .slice a po.length c) ?_;refine kt (fun l i => by have := Qak List.length i; rw [AL, Qbs] at this; omega) fun g n p k l i q y s => ?_;cases l;refine gk (r := osl 4 1) (b := .slice o po.length f) ?_;refine kt (fun l i => by have := Qak List.length i; rw [w9, Qbs] at this; omega) fun j z m d t u v B w => ?_;cases t;exact dr inferInstance (h g c j f k d i q s u v w)
theorem mY {g g2 c c2 n2 xs ys sp sp2} [b : Tk pt pb A (ag [pQ ps, .slice (some ⟨g, 0, none⟩) n c, .slice (some ⟨g2, 0, none⟩) n2 c2] 181) R1] [o : Tk pt g R1 (ag (xs ++ sp) 3) R2] [p : Tk pt g2 R2 (ag (ys ++ sp2) 4) R3]
    (d : n = po.length) (a : n2 = po.length) (e : xs = po.flatMap ju) (f : ys = po.flatMap jW) (h : n ≤ c) (i : c ≤ maxLen) (j : (xs ++ sp).length = c * 1) (b1 : n2 ≤ c2) (b2 : c2 ≤ maxLen) (b3 : (ys ++ sp2).length = c2 * 1) [k : Ent R3 B] : Ent A (dE pb (ps, po) :: B) := by
 have l : Ent R2 (osl 4 1 (.slice (some ⟨g2, 0, none⟩) n2 c2) ys :: B) := fC b1 b2 (by grind [w9]) b3;have m : Ent R1 (osl 3 1 (.slice (some ⟨g, 0, none⟩) n c) xs :: osl 4 1 (.slice (some ⟨g2, 0, none⟩) n2 c2) ys :: B) := fC (k := l) h i (by grind [AL]) j;refine (Ent.ofPerm b.perm).trans ((Ent.cons m).trans ?_);exact JH d a e f
end
theorem ya {po sp i} (a : i < po.length) : (po.flatMap ju ++ sp)[i * 1]? = some (iQ (dp po i).1) := by
 have := mF (f := ju) (k := 1) (fun _ => rfl) po i 0 sp a (by decide);rw [QbK] at this;rw [this]; simp [ju, dp, List.getD, a]
theorem yd {po} {sp : List Value} {i} (a : i < po.length) : (po.flatMap jW ++ sp)[i * 1]? = some (.bool (dp po i).2) := by
 have := mF (f := jW) (k := 1) (fun _ => rfl) po i 0 sp a (by decide);rw [QbK] at this;rw [this]; simp [jW, dp, List.getD, a]
theorem JI {po : Po} {sp i v t} (a : i < po.length) : (po.flatMap ju ++ sp).set (i * 1) (iQ v) = (po.set i (v, t)).flatMap ju ++ sp := by
 have := qp (f := ju) (k := 1) (fun _ => rfl) po i 0 (iQ v) (v, t) sp a (by decide) (by simp [ju])
 rwa [QbK] at this
theorem Ep {po : Po} {sp i v t} (a : i < po.length) : (po.flatMap jW ++ sp).set (i * 1) (.bool t) = (po.set i (v, t)).flatMap jW ++ sp := by
 have := qp (f := jW) (k := 1) (fun _ => rfl) po i 0 (.bool t) (v, t) sp a (by decide) (by simp [jW])
 rwa [QbK] at this
theorem JJ {po : Po} {i t} (a : i < po.length) : (po.set i ((dp po i).1, t)).flatMap ju = po.flatMap ju := by
 have h := JI (po := po) (sp := []) (i := i) (v := (dp po i).1) (t := t) a;rw [Qaw, Qaw, QaA] at h;rw [← h];refine Aw ?_;have := ya (po := po) (sp := []) a
 rwa [Qaw, QaA] at this
theorem Zi {po : Po} {i v} (a : i < po.length) : (po.set i (v, (dp po i).2)).flatMap jW = po.flatMap jW := by
 have h := Ep (po := po) (sp := []) (i := i) (v := v) (t := (dp po i).2) a;rw [Qaw, Qaw, QaA] at h;rw [← h];refine Aw ?_;have := yd (po := po) (sp := []) a
 rwa [Qaw, QaA] at this
theorem JK qs fr (f : Nat) (hf : f < fr.length) : sQ W0 85 [pQ qs, iQ f] (cH qs fr :: R) (iQ 0) (cH qs (fr.set f cR) :: R) := by
 have i : ez fr.length f = true := by grind [ez]
 refine am func85 ntmps85 ?_;refine ah (ao qd (oQ qs fr f)) ?_;refine aD rfl (fun e => ?_) fun e => ?_;exact absurd e (by simp [i]);refine au 3 ?_;refine xF (qs := qs) hf fun a c j p k l => ?_;refine t6 (E := 130) (sz := 1) (v := .slice a fr.length c) (fun d h => by have := (Value.slice.inj d).2.1; omega) fun g n q r d h m s t => ?_;cases d;refine bc [qs] 8 fun b => ?_;refine aj 0 5 b ?_;refine bX 5 (uj (sz := 1) (by_ := 1) (info := Tryz.t5) lc (by kernel_rfl) rfl rfl rfl rfl (by decide) rfl rfl rfl rfl (by decide) (by decide)) ?_; clear b;rintro _ _ ⟨o, rfl, rfl⟩;refine ⟨aV, fun b => ?_⟩;refine az 6 b (bI hf) ?_;refine cj 7 (du (by omega) (by rw [QaA, QbX _ _ (by omega)])) fun b => ?_;refine aK ?_;refine ae ?_;exact ⟨_, ⟨rfl, rfl⟩, Ab (vs := j) (vi := .slice (some ⟨o, 0, none⟩) 64 64) (y := cR) (sp2 := []) rfl rfl rfl k rfl hf h m (by grind) (by decide) (by decide) rfl rfl⟩
theorem Zj n : (List.replicate n ((-1), false)).flatMap ju ++ [[Value.int .i64 (-1)]].flatten = (List.replicate (n + 1) ((-1), false)).flatMap ju := by
 grind [QbI]
theorem Zk n : (List.replicate n ((-1), false)).flatMap jW ++ [[Value.bool false]].flatten = (List.replicate (n + 1) ((-1), false)).flatMap jW := by
 grind [QbI]
section
variable {A B R R2 : List HP} {qs n c : Nat} {a : Option Addr} {fr : List aE} {vs : List Value}
theorem JL {x} (b : vs.length = fr.length) : Ent (pt qs (ag [.slice a fr.length c] 129) :: osl 130 1 (.slice a fr.length c) vs :: ((vs.zip fr).map eY ++ (x :: R))) (cH qs fr :: x :: R) := t2 (vs := vs) b rfl
theorem Zl {x} (b : vs.length = fr.length) : Ent (pt qs (ag [.slice a fr.length c] 129) :: osl 130 1 (.slice a fr.length c) vs :: ((vs.zip fr).map eY ++ (x :: R))) (x :: cH qs fr :: R) := (JL b).trans (Ent.ofPerm (List.Perm.swap _ _ _))
end
theorem Zm {B pb ps} : Ent (pt pb (ag [pQ ps, ek, ek] 181) :: B) (dE pb (ps, []) :: B) :=
  (Ent.cons (fQ (E := 3) (sz := 1) (k := fQ (E := 4) (sz := 1) (A := B) (B := B)))).trans (g5 (R := B) (C := [_, _, _]) ⟨none, 0, none, 0, rfl⟩)
theorem Zn qs fr (k : 0 < fr.length) (g : fr.length ≤ 32) : sP W0 20 [pQ qs] (cH qs fr :: R) (fun v B => ∃ b, v = .tuple #[pQ b, iQ 0] ∧ B = dE b (qs, List.replicate fr.length (-1, false)) :: cH qs fr :: R) := by
 refine am func20 ntmps20 ?_;refine uw (qs := qs) fun a c f e => ?_;refine aw ?_;refine dj rfl rfl rfl (fun d => ?_) fun d => ?_;cases d;refine aw ?_;refine aD rfl (fun h => ?_) fun h => ?_;omega;refine aw ?_;refine bA fun b => ?_;refine gU (fun X : Nat => X ≤ fr.length) (fun X => [(0, pQ qs), (4, pQ b), (5, iQ X)]) (fun X => dE b (qs, List.replicate X (-1, false)) :: cH qs fr :: R) (fun X => fr.length - X) 0 ?_ ?_ ?_ ?_;omega
 · repeat (first | exact bC | refine bq rfl ?_)
 exact (Ent.cons (t2 (vs := f) e rfl)).trans Zm;intro i l;refine aw ?_;refine uw (qs := qs) fun a c f e => ?_;refine aw ?_;refine ai (fun j => ?_) fun j => ?_;refine dr (B := cH qs fr :: dE b (qs, List.replicate i (-1, false)) :: R) (JL e) ?_;refine JG (pb := b) fun a c m n => ?_;refine aw ?_;refine dK (kl fZ aR np rfl rfl rfl rfl rfl (by decide) (by decide)) fun o => ?_;refine aG rfl (eW (sz := 1) (by_ := 8) (info := Tryz.t3) fZ (by kernel_rfl) rfl rfl rfl rfl (by decide) rfl rfl eK rfl rfl (by simp only [maxLen, QbA]; omega) (by grind)) ?_;rintro _ _ ⟨p, q, rfl, rfl⟩;refine aw ?_;refine av eg ?_;refine dK (kl Np gO NM rfl rfl rfl rfl rfl (by decide) (by decide)) fun r => ?_;refine aG rfl (eW (sz := 1) (by_ := 1) (info := Tryz.t4) Np (by kernel_rfl) rfl rfl rfl rfl (by decide) rfl rfl eK rfl rfl (by simp only [maxLen, QbA]; omega) (by grind)) ?_;rintro _ _ ⟨s, t, rfl, rfl⟩;refine aw ?_;refine av eg ?_;refine aa co ?_;refine bM (i + 1) ?_ (he := ?_);omega;grind [JH, Zj, Zk];refine aA ?_;obtain rfl : i = fr.length := by omega
 exact ⟨_, ⟨b, rfl, rfl⟩, Zl e⟩
theorem Zo {po : Po} {sp i} (a : i < po.length) : i * 1 + 1 ≤ (po.flatMap ju ++ sp).length := by rw [Qae, AL]; omega
theorem JM {po : Po} {sp i} (a : i < po.length) : i * 1 + 1 ≤ (po.flatMap jW ++ sp).length := by rw [Qae, w9]; omega
theorem Zp pb qs po fr (f w : Nat) (hf : f < po.length) (hff : f < fr.length) (hw : w < 16) (ha : dp po f = (-1, false)) : sQ W0 23 [pQ pb, iQ f, iQ w] (dE pb (qs, po) :: cH qs fr :: R) (iQ 0) (dE pb (qs, po.set f (w, false)) :: cH qs (fr.set f cR) :: R) := by
 have h : ez fr.length f = true := by grind [ez]
 have d : (po.set f ((w : Int), false)).flatMap jW = po.flatMap jW := by
  grind [Zi]
 refine am func23 ntmps23 ?_;refine y9 (pb := pb) (by omega) fun g c p q r i j k s l m n => ?_;refine aw ?_;refine ah (ao qd (oQ qs fr f)) ?_;refine cv (fun a => ?_) fun a => ?_;exact absurd a (by simp [h]);refine dj rfl rfl rfl (fun b => ?_) fun b => ?_;omega;refine aw ?_;refine aD rfl (fun o => ?_) fun o => ?_;omega;refine aw ?_;refine aa (bI hf) ?_;refine aa (aF (aJ (ya hf))) ?_;refine ai (fun e => ?_) fun e => ?_;exact absurd e (by rw [ha]; decide);refine aa (bI hf) ?_;refine av (du (Zo hf) (JI (t := false) hf)) ?_;refine ah (ao call85 (JK qs fr f hff)) ?_;refine ae ?_;exact ⟨_, ⟨rfl, rfl⟩, mY (by simp) (by simp) rfl d.symm j k (by grind [Qae, AL]) l m n⟩
def pd (po : Po) (w : Int) (k : Nat) : Nat := ((List.range k).filter fun f => decide (dp po f = (w, false))).length
theorem JN po (w : Nat) : pd po w po.length = (cm po w).length := by
 grind [pd, cm]
theorem Zq po w k : pd po w (k + 1) = pd po w k + if dp po k = (w, false) then 1 else 0 := by
 grind [pd, List.range_succ]
theorem Zr po w k : pd po w k ≤ k := by
 have := QaM (fun f => decide (dp po f = (w, false))) (List.range k)
 rwa [QcM] at this
theorem Zs pb qs po (w : Nat) (h0 : 0 < po.length) (h32 : po.length ≤ 32) : sQ W0 265 [pQ pb, iQ w] (dE pb (qs, po) :: R) (iQ ((cm po w).length)) (dE pb (qs, po) :: R) := by
 refine am func265 ntmps265 ?_;refine d7 (fun i : Nat => i ≤ po.length) (fun i => [(0, pQ pb), (1, iQ w), (5, iQ (pd po w i : Nat)), (6, iQ i)]) (fun _ => dE pb (qs, po) :: R) (fun i => po.length - i) 0 ?_ ?_;omega;intro i hi;refine y9 (pb := pb) (by omega) fun g c g2 c2 sp sp2 h1 h2 h3 k1 k2 k3 => ?_;have hle := Zr po w i;refine aw ?_;refine ci (fun g3_8 => ?_) fun g3_8 => ?_;refine aD rfl (fun c3 => ?_) fun c3 => ?_;refine au 2 ?_;refine dw (fun n : Nat => n = pd po w (i + 1) ∧ i < po.length) (fun n => [(0, pQ pb), (1, iQ w), (5, iQ n), (6, iQ i)]) (fun _ => dE pb (qs, po) :: R) ?_ ?_;refine au 2 ?_;have hi1 : i < po.length := by omega
 have hs := Zq po w i;refine aw ?_;refine aa (bI hi1) ?_;refine aa (aF (aJ (ya hi1))) ?_;refine ci (fun g5_10 => ?_) fun g5_10 => ?_;refine ci (fun g5_14 => ?_) fun g5_14 => ?_;refine aa (bI hi1) ?_;refine aa (aF (aJ (yd hi1))) ?_;refine ai (fun c5 => ?_) fun c5 => ?_;refine aa co ?_;refine bY (pd po w i + 1) ?_ (he := ?_);grind;grind [mY];refine bY (pd po w i) ?_ (he := ?_);grind;grind [mY];refine bY (pd po w i) ?_ (he := ?_);refine ⟨?_, hi1⟩;rw [hs, Qab (by intro q; have q1 := Qak Prod.fst q; have q2 := Qak Prod.snd q; simp_all)]; rfl;grind [mY];refine bY (pd po w i) ?_ (he := ?_);grind;grind [mY];intro n ⟨hn, hi1⟩;subst hn;refine aw ?_;refine aa co ?_;exact bM (i + 1) (by omega);refine aw ?_;refine ae ?_;obtain rfl : i = po.length := by omega
 rw [JN];exact ⟨_, ⟨rfl, rfl⟩, mY rfl rfl rfl rfl h1 h2 h3 k1 k2 k3⟩;refine ae ?_;obtain rfl : i = po.length := by omega
 rw [JN];exact ⟨_, ⟨rfl, rfl⟩, mY rfl rfl rfl rfl h1 h2 h3 k1 k2 k3⟩
theorem JO pb qs po w f l (G : w < 16) (t : po.length ≤ 32) (he : cm po w = f :: l) : sQ W0 128 [pQ pb, iQ w] (dE pb (qs, po) :: R) (.tuple #[iQ f, iQ 0]) (dE pb (qs, po.set f (w, true)) :: R) := by
 have o := kX.1 (show f ∈ cm po w by rw [he]; simp);have p : ∀ j, j < f → dp po j ≠ ((w : Int), false) := fun j H q => by
  have r := kX.2 ⟨by have := o.1; omega, q⟩;have s := Ap po w;rw [he] at r s;rw [Qbi] at s;rcases QaQ.1 r with k | k;omega;grind
 have h : (po.set f ((w : Int), true)).flatMap ju = po.flatMap ju := by
  grind [JJ]
 refine am func128 ntmps128 ?_;refine dj rfl rfl rfl (fun d => ?_) fun d => ?_;omega;refine aw ?_;refine aD rfl (fun u => ?_) fun u => ?_;omega;refine aw ?_;refine d7 (fun i : Nat => i ≤ f) (fun i => [(0, pQ pb), (1, iQ w), (6, iQ i)]) (fun _ => dE pb (qs, po) :: R) (fun i => po.length - i) 0 ?_ ?_;omega;intro i I;have x := o.1;refine y9 (pb := pb) (by omega) fun g c J K L y z A B C D M => ?_;refine aw ?_;refine ci (fun e => ?_) fun e => ?_;refine ai (fun E => ?_) fun E => ?_;have a : i < po.length := by omega
 refine aa (bI a) ?_;refine aa (aF (aJ (ya a))) ?_;refine ci (fun b => ?_) fun b => ?_;refine aa (bI a) ?_;refine aa (aF (aJ (yd a))) ?_;refine ai (fun F => ?_) fun F => ?_;have m : i = f := by
  grind
 subst m;refine aa (bI a) ?_;refine av (du (JM a) (Ep (v := (w : Int)) a)) ?_;refine aA ?_;exact ⟨_, ⟨rfl, rfl⟩, mY (by simp) (by simp) h.symm rfl z A B C D (by grind [Qae, w9])⟩;have n : i ≠ f := by
  grind
 refine aa co ?_;refine bM (i + 1) ?_ (he := ?_);omega;grind [mY];have n : i ≠ f := by
  grind
 refine aa co ?_;refine bM (i + 1) ?_ (he := ?_);omega;grind [mY];refine aA ?_;exfalso; omega;refine aA ?_;exfalso; omega
theorem Zt a (c p : Nat) ws (f : 1 ≤ p) (b : p ≤ 8) (g : ws.length < 9223372036854775808) (i : ws.length ≤ c) : sQ W0 266 [.slice a ws.length c, iQ p] R (.slice a (bz ws p).length c) R := by
 have d := w8 ws p;refine am func266 ntmps266 ?_;refine aD rfl (fun e => ?_) fun e => ?_;omega;refine aw ?_;refine aa (sT rfl rfl (JB b)) ?_;refine aa (lh (16 * p)) ?_;refine aa (sT rfl rfl (Eo (16 * p) ws.length)) ?_;refine aa (oM tP aU rfl rfl (h := min (16 * p) ws.length) rfl (by omega)) ?_;refine ae ?_;rw [d];exact ap
theorem Zu {ws i k} (hk : k < 16) : (et ws i)[k]? = ws[16 * i + k]? := by
 grind [et]
theorem Zv {f : Nat} {ws : List Nat} {i k : Nat} (hk : k < 16) (fr : List aE) : j5 f ((et ws i).take (k + 1)) 0 fr = match ws[16 * i + k]? with | some y => g6 (j5 f ((et ws i).take k) 0 fr) f (4 * k : Nat) 4 y | none => j5 f ((et ws i).take k) 0 fr := by
 have a := Zu (ws := ws) (i := i) hk
 cases e : ws[16 * i + k]? with
 | none =>
  rw [e] at a;have := List.getElem?_eq_none_iff.1 a;rw [QaW (by omega), QaW this]
 | some y =>
  rw [e] at a;obtain ⟨b, c⟩ := List.getElem?_eq_some_iff.1 a;rw [Qap b, c, E6, QaT, Qbm (by omega), Qac]
theorem Zw pb qs pm b n x (h : ImOk x) (h0 : 0 < x.fr.length) a c ws (N : b < 16) (S : 1 ≤ n) (T : n ≤ 8) (O : qI x.pg 0 8) (hl : n ≤ (cm x.po b).length) (U : ∀ A, Ent A R → cF (aT W0 A) a 1 j6 ws) (V : ∀ y ∈ ws, y < 4294967296) (W : ws.length < 9223372036854775808) (X : ws.length ≤ c) : sQ W0 183 [pQ pb, pQ qs, pQ pm, iQ b, iQ n, .slice a ws.length c] (dE pb (qs, x.po) :: cH qs x.fr :: pt pm (dN x.pg) :: R) (iQ 0) (dE pb (qs, (dq b (bz ws n) n x).po) :: cH qs (dq b (bz ws n) n x).fr :: pt pm (dN (dq b (bz ws n) n x).pg) :: R) := by
 have P := w8 ws n;have Y := h.len;have E : ∀ y ∈ bz ws n, y < 4294967296 := fun y C => V y (QbG C);have s : ∀ i, ImOk (dq b (bz ws n) i x) := fun i => uE N h;have F : ∀ A, Ent A R → cF (aT W0 A) a 1 j6 (bz ws n) := fun A Z => (U A Z).take _;have p : ∀ i, (dq b (bz ws n) i x).po.length ≤ 32 := fun i => (s i).po.len;refine am func183 ntmps183 ?_;refine dj rfl rfl rfl (fun t => ?_) fun t => ?_;omega;refine aw ?_;refine dj rfl rfl rfl (fun u => ?_) fun u => ?_;omega;refine aw ?_;refine dj rfl rfl rfl (fun q => ?_) fun q => ?_;omega;refine aw ?_;refine aD rfl (fun c1 => ?_) fun c1 => ?_;omega;refine aw ?_;refine d7 (fun i : Nat => i ≤ n) (fun i => [(0, pQ pb), (1, pQ qs), (2, pQ pm), (3, iQ b), (4, iQ n), (5, .slice a ws.length c), (13, iQ i)]) (fun i => dE pb (qs, x.po) :: cH qs x.fr :: pt pm (dN x.pg) :: R) (fun i => n - i) 0 ?_ ?_;omega;intro i hi;refine aw ?_;refine ai (fun c4 => ?_) fun c4 => ?_;refine ah (ao sB (qC pm x.pg h.pg i)) ?_;refine bi fun bx => ?_;refine av aB ?_;refine ai (fun Q => ?_) fun Q => ?_;exact absurd Q (by rw [O i (QaK _) (by omega)]; decide);refine aa co ?_;exact bM (i + 1) (by omega);refine ah (ao call265 (Zs pb qs x.po b (by omega) (p 0))) ?_;refine aD rfl (fun c9 => ?_) fun c9 => ?_;omega;refine aw ?_;refine ah (aC call266 (Zt a c n ws S T W X)) ?_;refine d7 (fun i : Nat => i ≤ n) (fun i => [(0, pQ pb), (1, pQ qs), (2, pQ pm), (3, iQ b), (4, iQ n), (16, .slice a (bz ws n).length c), (17, iQ i)]) (fun i => dE pb (qs, (dq b (bz ws n) i x).po) :: cH qs (dq b (bz ws n) i x).fr :: pt pm (dN (dq b (bz ws n) i x).pg) :: R) (fun i => n - i) 0 ?_ ?_;omega;intro i hi;refine aw ?_;refine ai (fun G => ?_) fun G => ?_;have x0 : i < n := by omega
 have v := Aq (who := b) (words := bz ws n) (x := x) i;have H := (Ar (who := b) (words := bz ws n) O h.pg.len i (by omega)).1;obtain ⟨f, l, D⟩ : ∃ f l, cm (dq b (bz ws n) i x).po b = f :: l := by
  cases e : cm (dq b (bz ws n) i x).po b with
  | nil => rw [e] at v; simp at v; omega
  | cons f l => exact ⟨f, l, rfl⟩
 obtain ⟨y, C⟩ : ∃ y, dq b (bz ws n) i x = y := ⟨_, rfl⟩
 have d := s i;have r : dq b (bz ws n) (i + 1) x = kG b (bz ws n) y i := by rw [dq, C]
 have g := p i;have I := H i (Qao _) (by omega);rw [C] at D d g I ⊢;rw [kG, D] at r;dsimp only at r;have x1 := kX.1 (show f ∈ cm y.po b by rw [D]; simp);refine ah (ao call128 (JO pb qs y.po b f l N g D)) ?_;refine ah (ao GA (Ad pm y.pg d.pg i ((f : Int), 3))) ?_;refine gU (fun k : Nat => k ≤ 16) (fun k => [(0, pQ pb), (1, pQ qs), (2, pQ pm), (3, iQ b), (4, iQ n), (16, .slice a (bz ws n).length c), (17, iQ i), (18, iQ f), (20, iQ k)]) (fun k => dE pb (qs, y.po.set f ((b : Int), true)) :: cH qs (j5 f ((et (bz ws n) i).take k) 0 y.fr) :: pt pm (dN (eA y.pg i ((f : Int), 3))) :: R) (fun k => 16 - k) 0 ?_ ?_ ?_ ?_;omega
 · repeat (first | exact bC | refine bq rfl ?_)
 rw [show j5 f ((et (bz ws n) i).take 0) 0 y.fr = y.fr from rfl];exact IO;intro k hk;refine aw ?_;refine aD rfl (fun J => ?_) fun J => ?_;refine au 2 ?_;refine dw (fun _ : Unit => k < 16) (fun _ => [(0, pQ pb), (1, pQ qs), (2, pQ pm), (3, iQ b), (4, iQ n), (16, .slice a (bz ws n).length c), (17, iQ i), (18, iQ f), (20, iQ k)]) (fun _ => dE pb (qs, y.po.set f ((b : Int), true)) :: cH qs (j5 f ((et (bz ws n) i).take (k + 1)) 0 y.fr) :: pt pm (dN (eA y.pg i ((f : Int), 3))) :: R) ?_ ?_;refine au 2 ?_;have j : k < 16 := by omega
 have m := Zv (f := f) (ws := bz ws n) (i := i) j y.fr;refine aw ?_;refine aa (lh (16 * i)) ?_;refine aa (ee (16 * i + k)) ?_;refine ai (fun K => ?_) fun K => ?_;have o : 16 * i + k < (bz ws n).length := by omega
 obtain ⟨gb, go, L, w⟩ := (F (dE pb (qs, y.po.set f ((b : Int), true)) :: cH qs (j5 f ((et (bz ws n) i).take k) 0 y.fr) :: pt pm (dN (eA y.pg i ((f : Int), 3))) :: R) inferInstance).at_ o;obtain ⟨z, M⟩ : ∃ z, (bz ws n)[16 * i + k] = z := ⟨_, rfl⟩
 rw [M] at w;have B := E _ (QaF o);rw [M] at B;obtain ⟨hF, x2⟩ := uD (f := f) (l := (et (bz ws n) i).take k) (k := 0) d.fr;rw [QaR o, M] at m;dsimp only at m;refine aa (lh (4 * k)) ?_;refine aa (lh (16 * i)) ?_;refine aa (ee (16 * i + k)) ?_;refine aa (eR tP aU rfl L rfl rfl o (by first | exact Qac _ | rfl)) ?_;refine aa (aF (w 0 _ rfl)) ?_;refine ah (ao Cq (xG qs (j5 f ((et (bz ws n) i).take k) 0 y.fr) f (4 * k : Nat) 4 z B hF)) ?_;refine bY () ?_ (he := ?_);exact j;rw [m];exact IO;refine bY () ?_ (he := ?_);exact j;rw [m, Qbl (by omega)];exact IO;intro _ j;refine aw ?_;refine aa co ?_;exact bM (k + 1) (by omega);refine aw ?_;refine aa co ?_;refine bM (i + 1) ?_ (he := ?_);omega;obtain rfl : k = 16 := by omega
 rw [r, show (et (bz ws n) i).take 16 = et (bz ws n) i from QaW (by rw [et, QaT]; omega)];exact IO;refine ae ?_;obtain rfl : i = n := by omega
 exact ap
def uI (b : Nat) (L : List Int) : HP := chk (fun C => ∃ a c, C = [pt b (ag [.slice a L.length c] 471), osl 3 1 (.slice a L.length c) (L.flatMap li)])
section
variable {W0 : World} {N : FSz} {K : Act → World → Prop} {e : b0} {A B R R1 R2 : List HP} {b n c : Nat} {L : List Int}
theorem Zx [hk : Tk uI b A L R] (h : ∀ a c, ax W0 N K e (pt b (ag [.slice a L.length c] 471) :: osl 3 1 (.slice a L.length c) (L.flatMap li) :: R)) : ax W0 N K e A :=
  gk (r := uI) (b := b) (nu fun C d => by obtain ⟨a, c, rfl⟩ := d; exact h a c)
theorem rX {a ys} [d : Tk pt b A (ag [.slice a n c] 471) R1] [e : Tk (osl 3 1) (.slice a n c) R1 ys R2] (hk : n = L.length) (f : ys = L.flatMap li) [q : Ent R2 B] : Ent A (uI b L :: B) := by
 subst hk; subst f;exact (Ent.ofPerm (d.perm.trans (e.perm.cons _))).trans ((g5 (R := R2) (C := [_, _]) ⟨a, c, rfl⟩).trans (Ent.cons q))
end
theorem JP x : (li x).length = 1 := rfl
theorem AM (L : List Int) : (L.flatMap li).length = L.length := by rw [cQ JP]; omega
theorem Zy (L : List Int) j w : (L.flatMap li).set j (iQ w) = (L.set j w).flatMap li := by
 induction L generalizing j with
 | nil => rfl
 | cons x L a =>
  cases j with
  | zero => rfl
  | succ j => simp only [QaX, li, Qay, Qax, Qck] at a ⊢; rw [a]
theorem Zz (L : List Int) : fy (L.flatMap li) = true := by
 induction L with
 | nil => rfl
 | cons x l a => rw [QaX, fy, List.all_append, Qar]; exact ⟨rfl, a⟩
theorem ZA (n : Nat) (h : n ≤ 64) : sP W0 327 [iQ n] R (fun v B => ∃ b, v = .tuple #[pQ b, iQ 0] ∧ B = uI b (List.replicate n (-1)) :: R) := by
 refine am func327 ntmps327 ?_;refine dj rfl rfl rfl (fun d => ?_) fun d => ?_;omega;refine aw ?_;refine aD rfl (fun g => ?_) fun g => ?_;omega;refine aw ?_;refine bA fun e => ?_;refine gU (fun X : Nat × Option Addr × Nat => X.1 ≤ n) (fun X => [(0, iQ n), (4, pQ e), (5, iQ X.1)]) (fun X => pt e (ag [.slice X.2.1 X.1 X.2.2] 471) :: osl 3 1 (.slice X.2.1 X.1 X.2.2) ((List.replicate X.1 (-1)).flatMap li) :: R) (fun X => n - X.1) (0, none, 0) ?_ ?_ ?_ ?_;omega
 · repeat (first | exact bC | refine bq rfl ?_)
 exact Ent.cons fQ;intro ⟨i, a, c⟩ hi;dsimp only at hi ⊢;refine aw ?_;refine ai (fun j => ?_) fun j => ?_;refine dK (kl fZ aR np rfl rfl rfl rfl rfl (by decide) (by decide)) fun m => ?_;refine aG rfl (eW (sz := 1) (by_ := 8) (info := Tryz.t3) fZ (by kernel_rfl) rfl rfl rfl rfl (by decide) rfl rfl eK rfl rfl (by simp only [maxLen]; omega) (by omega)) ?_;rintro _ _ ⟨k, l, rfl, rfl⟩;have f : (List.replicate i (-1)).flatMap li ++ [Value.int .i64 (-1)] = (List.replicate (i + 1) (-1 : Int)).flatMap li := by
  rw [QbI, QbN]; rfl
 rw [f];refine aw ?_;refine av eg ?_;refine aa co ?_;exact bM (i + 1, k, l) (by omega);refine aA ?_;obtain rfl : i = n := by omega
 exact ⟨_, ⟨e, rfl, rfl⟩, rX (by simp) rfl⟩
def pf (L : List Int) (f k : Nat) (w : Int) : List Int := (List.range L.length).map fun j => if f ≤ j ∧ j < f + k then w else L.getD j (-1)
theorem Er {L f k w} : (pf L f k w).length = L.length := by simp [pf]
theorem ZB {L f w} : pf L f 0 w = L := by
 grind [QaS, Er, pf]
theorem ZC {L f k w} (h : f + k < L.length) : (pf L f k w).set (f + k) w = pf L f (k + 1) w := by
 apply QaS;simp [pf];grind [pf]
theorem ZD {L} {f k : Nat} {w} (h : jh L f k w = 0) : mX L f k w = pf L f k w := by
 grind [mX, pf]
theorem ZE {L} {f k i : Nat} {w} (a : ¬ ((f : Int) < 0 ∨ (k : Int) < 1 ∨ (L.length : Int) < f ∨ (L.length : Int) - f < k ∨ w < 0 ∨ 64 ≤ w)) (b : i < k) (h : 0 ≤ L.getD (f + i) (-1)) : jh L f k w = 5 := by
 rw [jh, Qab a, Qad];rw [Qbo];exact ⟨i, QbB.2 (by omega), Qah (by grind)⟩
theorem ZF {L} {f k : Nat} {w} (b : ¬ ((f : Int) < 0 ∨ (k : Int) < 1 ∨ (L.length : Int) < f ∨ (L.length : Int) - f < k ∨ w < 0 ∨ 64 ≤ w)) (h : ∀ j, j < k → ¬ 0 ≤ L.getD (f + j) (-1)) : jh L f k w = 0 := by
 rw [jh, Qab b, Qab];intro q;obtain ⟨i, c, a⟩ := Qbo.1 q;have a := Qas a;rw [Qaf] at a;exact h i (by grind) a
theorem ZG b L (J : L.length ≤ 64) f k w : sQ W0 328 [pQ b, iQ f, iQ k, iQ w] (uI b L :: R) (iQ (jh L f k w)) (uI b (mX L f k w) :: R) := by
 refine am func328 ntmps328 ?_;refine Zx (b := b) fun a c => ?_;refine aw ?_;refine cv (fun m => ?_) fun m => ?_;refine ae ?_;have d : jh L f k w = 1 := by grind [jh]
 rw [mX, d, Qab (by decide)];exact ⟨_, ⟨rfl, rfl⟩, rX rfl rfl⟩;refine cv (fun o => ?_) fun o => ?_;refine ae ?_;have d : jh L f k w = 1 := by grind [jh]
 rw [mX, d, Qab (by decide)];exact ⟨_, ⟨rfl, rfl⟩, rX rfl rfl⟩;refine cv (fun e => ?_) fun e => ?_;refine ae ?_;have d : jh L f k w = 1 := by grind [jh]
 rw [mX, d, Qab (by decide)];exact ⟨_, ⟨rfl, rfl⟩, rX rfl rfl⟩;refine aa gW ?_;refine cv (fun h => ?_) fun h => ?_;refine ae ?_;have d : jh L f k w = 1 := by grind [jh]
 rw [mX, d, Qab (by decide)];exact ⟨_, ⟨rfl, rfl⟩, rX rfl rfl⟩;refine cv (fun l => ?_) fun l => ?_;refine ae ?_;have d : jh L f k w = 1 := by grind [jh]
 rw [mX, d, Qab (by decide)];exact ⟨_, ⟨rfl, rfl⟩, rX rfl rfl⟩;refine ai (fun A => ?_) fun A => ?_;refine ae ?_;have d : jh L f k w = 1 := by grind [jh]
 rw [mX, d, Qab (by decide)];exact ⟨_, ⟨rfl, rfl⟩, rX rfl rfl⟩;have x : ¬ (f < 0 ∨ k < 1 ∨ (L.length : Int) < f ∨ (L.length : Int) - f < k ∨ w < 0 ∨ 64 ≤ w) := by omega
 obtain ⟨f, rfl⟩ : ∃ B : Nat, f = (B : Int) := ⟨f.toNat, by omega⟩
 obtain ⟨k, rfl⟩ : ∃ C : Nat, k = (C : Int) := ⟨k.toNat, by omega⟩
 have D : f + k ≤ L.length := by omega
 refine rG (E := 3) (sz := 1) (a := a) (c := c) (n := L.length) (ys := L.flatMap li) (fun F => ?_);obtain ⟨g, rfl⟩ := uz F (by grind [AM]);refine aw ?_;refine d7 (fun i : Nat => i ≤ k ∧ ∀ j, j < i → ¬ 0 ≤ L.getD (f + j) (-1)) (fun i => [(0, pQ b), (1, iQ f), (2, iQ k), (3, iQ w), (9, iQ i)]) (fun i => pt b (ag [.slice (some ⟨g, 0, none⟩) L.length c] 471) :: osl 3 1 (.slice (some ⟨g, 0, none⟩) L.length c) (L.flatMap li) :: R) (fun i => k - i) 0 ?_ ?_;grind;intro i ⟨K, y⟩;refine aw ?_;refine ai (fun G => ?_) fun G => ?_;have r : f + i < L.length := by omega
 have s : L[f + i]? = some (L.getD (f + i) (-1)) := by grind
 refine ac rfl (ee (f + i)) ?_;refine ac rfl (bI r) ?_;refine ac rfl (cg db rfl (Jg (f := li) (E := 3) (sz := 1) (n := L.length) (c := c) rfl JP (by decide) s 0 _ rfl)) ?_;refine ac rfl (sG rfl rfl) (aP (aH ?_));refine aD rfl (fun t => ?_) fun t => ?_;refine aQ ?_;refine aY (ac rfl (bj rfl) (aP (aH (dv (my (gQ (gQ (my (gQ (ae ?_))))))))));have d : jh L f k w = 5 := ZE x (by omega) t;rw [mX, d, Qab (by decide)];exact ⟨_, ⟨rfl, rfl⟩, rX rfl rfl⟩;refine ii (oL (aH (aY (ac rfl (aM rfl) ?_))));refine ac rfl (cY rfl rfl (by first | exact bS (by omega) | rfl)) ?_;refine ac rfl (bj rfl) (aP (aH (bM (i + 1) ?_)));refine ⟨by omega, fun j H => ?_⟩;rcases QaD j i with q | q;exact y j q;rw [show j = i by omega]; exact t;obtain rfl : i = k := by omega
 have d : jh L f i w = 0 := ZF x y;refine aG rfl (ui fZ aR rfl) ?_;rintro _ _ ⟨M, rfl, rfl⟩;refine aw ?_;refine aG rfl (eW (sz := 1) (by_ := 8) (info := Tryz.t3) fZ (by kernel_rfl) rfl rfl rfl rfl (by decide) rfl rfl (vH (E := 3) (sz := 1) (a := some ⟨g, 0, none⟩) (c := c) (n := L.length)) (by rw [AM, QaA]) (Zz L) (by simp only [maxLen]; omega) (by omega)) ?_;rintro _ _ ⟨I, p, rfl, rfl⟩;rw [Qax, Qac];refine rG (E := 3) (sz := 1) (a := I) (c := p) (n := L.length) (ys := L.flatMap li) (fun u => ?_);obtain ⟨z, rfl⟩ := uz u (by grind [AM]);refine aw ?_;refine gU (fun j : Nat => j ≤ i) (fun j => [(0, pQ b), (1, iQ f), (2, iQ i), (3, iQ w), (10, .slice (some ⟨z, 0, none⟩) L.length p), (11, iQ j)]) (fun j => pt b (ag [.slice (some ⟨g, 0, none⟩) L.length c] 471) :: osl 3 1 (.slice (some ⟨z, 0, none⟩) L.length p) ((pf L f j w).flatMap li) :: R) (fun j => i - j) 0 ?_ ?_ ?_ ?_;exact QaK _
 · repeat (first | exact bC | refine bq rfl ?_)
 rw [ZB]; exact inferInstance;intro j H;refine aw ?_;refine ai (fun v => ?_) fun v => ?_;refine aa (ee (f + j)) ?_;refine aa (bI (by omega)) ?_;refine av (YQ (E := 3) (sz := 1) (n := L.length) (c := p) (l' := (pf L f (j + 1) w).flatMap li) aR rfl rfl rfl (by rw [AM, Er]; omega) (by rw [QaA, Zy, ZC (by omega)])) ?_;refine aa co ?_;exact bM (j + 1) (by omega);refine av eg ?_;refine ae ?_;obtain rfl : j = i := by omega
 rw [d, ZD d];exact ⟨_, ⟨rfl, rfl⟩, rX Er.symm rfl⟩
theorem ZH {c : Nat} (h : c ≤ 8) : iE .i64 1 c = (2 ^ c : Nat) := by
 have : c = 0 ∨ c = 1 ∨ c = 2 ∨ c = 3 ∨ c = 4 ∨ c = 5 ∨ c = 6 ∨ c = 7 ∨ c = 8 := by omega
 rcases this with rfl | rfl | rfl | rfl | rfl | rfl | rfl | rfl | rfl <;> rfl
theorem ZI {l cats} : gZ l cats = true ↔ 0 ≤ cats ∧ cats ≤ 8 ∧ 0 ≤ l ∧ l < (2 ^ cats.toNat : Nat) := by
 simp only [gZ, Qar, Qaj, rT];constructor;rintro ⟨⟨⟨b, d⟩, e, g⟩, f⟩;refine ⟨b, d, e, ?_⟩;obtain ⟨c, rfl⟩ : ∃ c : Nat, cats = (c : Int) := ⟨cats.toNat, by omega⟩
 obtain ⟨x, rfl⟩ : ∃ x : Nat, l = (x : Int) := ⟨l.toNat, by omega⟩
 rw [jS (k := .i64) (a := x) (s := c) (by show c ≤ 64; omega)] at f;have h : x / 2 ^ c = 0 := by omega
 have := (Nat.div_eq_zero_iff_lt (Qcr c)).1 h;rw [Qaf]; omega;rintro ⟨b, d, e, g⟩;obtain ⟨c, rfl⟩ : ∃ c : Nat, cats = (c : Int) := ⟨cats.toNat, by omega⟩
 obtain ⟨x, rfl⟩ : ∃ x : Nat, l = (x : Int) := ⟨l.toNat, by omega⟩
 rw [Qaf] at g;have f : x < 2 ^ c := by omega
 have h : 2 ^ c ≤ 2 ^ 8 := Qcu (by decide) (by omega);refine ⟨⟨⟨b, d⟩, e, by omega⟩, ?_⟩;rw [jS (k := .i64) (a := x) (s := c) (by show c ≤ 64; omega), Nat.div_eq_of_lt f]; rfl
theorem Es l cats : sQ W0 326 [iQ l, iQ cats] R (.bool (gZ l cats)) R := by
 have b := ZI (l := l) (cats := cats);refine am func326 ntmps326 ?_;refine ci (fun c => ?_) fun c => ?_;refine ci (fun d => ?_) fun d => ?_;refine ci (fun a => ?_) fun a => ?_;obtain ⟨k, rfl⟩ : ∃ k : Nat, cats = (k : Int) := ⟨cats.toNat, by omega⟩
 have e := Qcr k;rw [Qaf] at b;refine aa (lg rfl rfl (by omega) (ZH (by omega))) ?_;refine ae ?_;refine aI ?_;refine Qak Value.bool ?_;rw [Qag, b]
 first
   | (rw [Qaj]; constructor
      · intro q; omega
      · intro q; omega)
   | (constructor
      · intro q; first | omega | (cases q)
      intro q; omega)
 refine ae ?_;refine aI ?_;refine Qak Value.bool ?_;rw [Qag, b]
 first
   | (rw [Qaj]; constructor
      · intro q; omega
      · intro q; omega)
   | (constructor
      · intro q; first | omega | (cases q)
      intro q; omega)
 refine ae ?_;refine aI ?_;refine Qak Value.bool ?_;rw [Qag, b]
 first
   | (rw [Qaj]; constructor
      · intro q; omega
      · intro q; omega)
   | (constructor
      · intro q; first | omega | (cases q)
      intro q; omega)
 refine ae ?_;refine aI ?_;refine Qak Value.bool ?_;rw [Qag, b]
 first
   | (rw [Qaj]; constructor
      · intro q; omega
      · intro q; omega)
   | (constructor
      · intro q; first | omega | (cases q)
      intro q; omega)
theorem yf c i : sQ W0 256 [.agg (dI c).toArray, iQ i] R (.bool (iy c i)) R := by
 refine am func256 ntmps256 ?_;refine bA fun b => ?_;refine ci (fun a => ?_) fun a => ?_;refine ae ?_;refine aI ?_;refine Qak Value.bool ?_;rw [Qag, iy, Qaj]
 first
   | (rw [Qaj]; constructor
      · intro q; omega
      · intro q; omega)
   | (constructor
      · intro q; first | omega | (cases q)
      intro q; omega)
 refine ae ?_;refine aI ?_;refine Qak Value.bool ?_;rw [Qag, iy, Qaj]
 first
   | (rw [Qaj]; constructor
      · intro q; omega
      · intro q; omega)
   | (constructor
      · intro q; first | omega | (cases q)
      intro q; omega)
theorem yg {w : Nat → Bool} {i} (h : ∀ j, j < i → w j = false) (a : w i = false) : ∀ j, j < i + 1 → w j = false := fun j b => by
 rcases QaD j i with q | q;exact h j q;grind
theorem ZJ c (h : CfOk W0 c) : sP W0 251 [.agg (dI c).toArray] R (fun v B => ∃ r, v = .tuple #[.bool (kJ c), iQ r] ∧ B = R) := by
 refine am func251 ntmps251 ?_;refine bA fun y => ?_;refine cv (fun l => ?_) fun l => ?_;refine aA ?_;rw [kJ, Qah (by omega), Qbu];exact ⟨_, ⟨0, rfl, rfl⟩, IO⟩;refine ai (fun D => ?_) fun D => ?_;refine aA ?_;rw [kJ, Qah (by omega), Qbu];exact ⟨_, ⟨0, rfl, rfl⟩, IO⟩;refine d7 (fun i : Nat => i ≤ c.gl.length ∧ (∀ j, j < i → pS c.cats (c.gl.getD j (0, 0, 0)) = false)) (fun i => [(1, pQ y), (4, iQ i)]) (fun _ => pt y (ia c) :: R) (fun i => c.gl.length - i) 0 ?_ ?_;grind;intro i ⟨H, z⟩;refine aw ?_;refine ai (fun E => ?_) fun E => ?_;have d : i < c.gl.length := by omega
 obtain ⟨g, o, n, A⟩ := (h.g []).at_ d;obtain ⟨x, F⟩ : ∃ x, c.gl[i] = x := ⟨_, rfl⟩
 have p : c.gl.getD i (0, 0, 0) = x := by grind
 rw [F] at A;have a : pS c.cats x = true → kJ c = true := fun q => by
  rw [kJ, w4 (w := fun i => pS c.cats (c.gl.getD i (0, 0, 0))) d (by grind), QcZ]
 have s := fun q => yg (w := fun i => pS c.cats (c.gl.getD i (0, 0, 0))) z (show pS c.cats (c.gl.getD i (0, 0, 0)) = false by rw [p]; exact q);obtain ⟨v, C⟩ : ∃ v, gZ x.1 c.cats = v := ⟨_, rfl⟩
 have t := y6 (cats := c.cats) (g := x);have b := tc (cats := c.cats) (g := x);rw [C] at t b;refine aa (eR mu kQ rfl n rfl rfl d (by first | exact Qac _ | rfl)) ?_;refine aa (dt A.weak) ?_;refine bi fun I => ?_;refine eU (fM kQ rfl rfl rfl rfl rfl) ?_;rintro _ _ rfl;refine aP (aH (aQ (aY ?_)));refine ac rfl (cD rfl mt rfl aR rfl (by first | exact Qac _ | rfl)) ?_;refine ac rfl (cg db rfl (aJ rfl)) ?_;refine ac rfl (cD rfl Cf rfl aR rfl (by first | exact Qac _ | rfl)) ?_;refine ac rfl (cg db rfl (aJ rfl)) ?_;refine aG rfl (iR NT rfl (Es x.1 c.cats)) ?_;rintro _ J ⟨rfl, u⟩;obtain rfl := u.symm;rw [C];refine aw ?_;refine dj rfl rfl rfl (fun m => ?_) fun m => ?_;refine au 37 ?_;refine aA ?_;rw [a (b (by grind))];exact ⟨_, ⟨_, rfl, rfl⟩, IO⟩;refine ac rfl (cD rfl mt rfl aR rfl (by first | exact Qac _ | rfl)) ?_;refine cz rfl rfl (ac rfl (cg db rfl (aJ rfl)) ?_);refine cz rfl rfl (ac rfl (nt rfl rfl) (ac rfl (fp rfl rfl) (ac rfl (aM rfl) ?_)));refine dj rfl rfl rfl (fun e => ?_) fun e => ?_;refine au 32 ?_;refine aA ?_;rw [a (b (by grind))];exact ⟨_, ⟨_, rfl, rfl⟩, IO⟩;refine ac rfl (cD rfl mt rfl aR rfl (by first | exact Qac _ | rfl)) ?_;refine cz rfl rfl (ac rfl (cg db rfl (aJ rfl)) ?_);refine cz rfl rfl (ac rfl (tZ rfl rfl) (ac rfl (fp rfl rfl) (ac rfl (aM rfl) ?_)));refine dj rfl rfl rfl (fun f => ?_) fun f => ?_;refine au 27 ?_;refine aA ?_;rw [a (b (by grind))];exact ⟨_, ⟨_, rfl, rfl⟩, IO⟩;refine ac rfl (cD rfl mt rfl aR rfl (by first | exact Qac _ | rfl)) ?_;refine cz rfl rfl (ac rfl (cg db rfl (aJ rfl)) ?_);refine cz rfl rfl (ac rfl (nt rfl rfl) (ac rfl (fp rfl rfl) (ac rfl (aM rfl) ?_)));refine dj rfl rfl rfl (fun k => ?_) fun k => ?_;refine au 22 ?_;refine aA ?_;rw [a (b (by grind))];exact ⟨_, ⟨_, rfl, rfl⟩, IO⟩;refine ac rfl (cD rfl mt rfl aR rfl (by first | exact Qac _ | rfl)) ?_;refine cz rfl rfl (ac rfl (cg db rfl (aJ rfl)) ?_);refine cz rfl rfl ?_;refine ac rfl (cD rfl mt rfl aR rfl (by first | exact Qac _ | rfl)) ?_;refine cz rfl rfl (ac rfl (cg db rfl (aJ rfl)) ?_);refine cz rfl rfl ?_;refine ac rfl (jo rfl rfl (bS (by omega))) ?_;refine cz rfl rfl (ac rfl (tZ rfl rfl) (ac rfl (fp rfl rfl) (aP (aH ?_))));refine ai (fun G => ?_) fun G => ?_;refine aA ?_;rw [a (b (by grind))];exact ⟨_, ⟨_, rfl, rfl⟩, IO⟩;refine aa co ?_;refine bM (i + 1) ?_;grind;refine aA ?_;obtain rfl : i = c.gl.length := by omega
 rw [kJ, Qal (by omega), Qbq, y5 z];exact ⟨_, ⟨0, rfl, rfl⟩, IO⟩
theorem ZK c (h : CfOk W0 c) : sP W0 252 [.agg (dI c).toArray] R (fun v B => ∃ r, v = .tuple #[.bool (p8 c), iQ r] ∧ B = R) := by
 refine am func252 ntmps252 ?_;refine bA fun w => ?_;refine ai (fun D => ?_) fun D => ?_;refine aA ?_;rw [p8, Qah (by omega), Qbu];exact ⟨_, ⟨0, rfl, rfl⟩, IO⟩;refine aG rfl (aC call327 (ZA 32 (by decide))) ?_;rintro _ y ⟨p, rfl, a⟩;obtain rfl := a.symm;refine aw ?_;refine d7 (fun X : Nat × List Int => X.1 ≤ c.rl.length ∧ (∀ j, j < X.1 → rW c j = false) ∧ X.2.length = 32 ∧ RT (jH c X.1) X.2) (fun X => [(1, pQ w), (4, pQ p), (6, iQ X.1)]) (fun X => uI p X.2 :: pt w (ia c) :: R) (fun X => c.rl.length - X.1) (0, List.replicate 32 (-1)) ?_ ?_;exact ⟨QaK _, fun j E => absurd E (Qcc _), rfl, YP 32⟩;intro ⟨i, L⟩ ⟨F, s, l, d⟩;dsimp only at F s l d ⊢;refine aw ?_;refine ai (fun G => ?_) fun G => ?_;have e : i < c.rl.length := by omega
 obtain ⟨g, o, t, z⟩ := (h.r []).at_ e;obtain ⟨x, H⟩ : ∃ x, c.rl[i] = x := ⟨_, rfl⟩
 have A : qQ c i = x := by grind [qQ]
 rw [H] at z;have u : jH c (i + 1) = if gZ x.1 c.cats = true then kL (jH c i) 32 x.2.1 x.2.2 i else jH c i := by rw [jH, A]
 have m : rW c i = !(gZ x.1 c.cats && decide (iV (jH c i) 32 x.2.1 x.2.2 i = 0)) := by rw [rW, A]
 have I := Jq d (n := 32) (by rw [l]; rfl) x.2.1 x.2.2 i;have J := YO d (n := 32) (by rw [l]; rfl) (by decide) x.2.1 x.2.2 i;rw [← I] at m;have b : rW c i = true → p8 c = true := fun q => by rw [p8, w4 e q, QcZ]
 obtain ⟨v, C⟩ : ∃ v, gZ x.1 c.cats = v := ⟨_, rfl⟩
 rw [C] at u m;refine aa (eR Nq Cb rfl t rfl rfl e (by first | exact Qac _ | rfl)) ?_;refine aa (dt z.weak) ?_;refine bi fun N => ?_;refine eU (fM Cb rfl rfl rfl rfl rfl) ?_;rintro _ _ rfl;refine aP (aH (aQ (aY ?_)));refine ac rfl (cD rfl zw rfl aR rfl (by first | exact Qac _ | rfl)) ?_;refine ac rfl (cg db rfl (aJ rfl)) ?_;refine ac rfl (cD rfl Cf rfl aR rfl (by first | exact Qac _ | rfl)) ?_;refine ac rfl (cg db rfl (aJ rfl)) ?_;refine aG rfl (iR NT rfl (Es x.1 c.cats)) ?_;rintro _ y ⟨rfl, a⟩;obtain rfl := a.symm;rw [C];refine aw ?_;refine dj rfl rfl rfl (fun f => ?_) fun f => ?_;refine au 24 ?_;refine aA ?_;rw [b (by grind)];exact ⟨_, ⟨_, rfl, rfl⟩, IO⟩;refine ac rfl (aM rfl) (cz rfl rfl ?_);refine ac rfl (cD rfl zw rfl aR rfl (by first | exact Qac _ | rfl)) ?_;refine cz rfl rfl (ac rfl (cg db rfl (aJ rfl)) ?_);refine cz rfl rfl ?_;refine ac rfl (cD rfl zw rfl aR rfl (by first | exact Qac _ | rfl)) ?_;refine cz rfl rfl (ac rfl (cg db rfl (aJ rfl)) ?_);refine cz rfl rfl (ac rfl (aM rfl) (cz rfl rfl ?_));refine aG rfl (iZ call328 rfl (ZG p L (by omega) x.2.1 x.2.2 i)) ?_;rintro _ y ⟨rfl, a⟩;obtain rfl := a.symm;refine cz rfl rfl (ac rfl (mB rfl rfl) (ac rfl (fp rfl rfl) (aP (aH ?_))));refine ai (fun K => ?_) fun K => ?_;refine aA ?_;rw [b (by grind)];exact ⟨_, ⟨_, rfl, rfl⟩, IO⟩;have k : v = true := by grind
 have M : jh L x.2.1 x.2.2 i = 0 := by omega
 rw [k, Qad rfl] at u;rw [k, M] at m;refine aa co ?_;exact bM (i + 1, mX L x.2.1 x.2.2 i) (⟨by omega, yg s m, Jo.trans l, by rw [u]; exact J⟩);refine aA ?_;obtain rfl : i = c.rl.length := by omega
 rw [p8, Qal (by omega), Qbq, y5 s];exact ⟨_, ⟨0, rfl, rfl⟩, IO⟩
theorem ZL c (h : CfOk W0 c) : sP W0 255 [.agg (dI c).toArray] R (fun v B => ∃ r, v = .tuple #[.bool (oq c), iQ r] ∧ B = R) := by
 refine am func255 ntmps255 ?_;refine bA fun p => ?_;refine cv (fun e => ?_) fun e => ?_;refine aA ?_;rw [oq, Qah (by omega), Qbu];exact ⟨_, ⟨0, rfl, rfl⟩, IO⟩;refine ai (fun z => ?_) fun z => ?_;refine aA ?_;rw [oq, Qah (by omega), Qbu];exact ⟨_, ⟨0, rfl, rfl⟩, IO⟩;refine d7 (fun i : Nat => i ≤ c.sl.length ∧ (∀ j, j < i → p7 c (c.sl.getD j (0, 0)) = false)) (fun i => [(1, pQ p), (4, iQ i)]) (fun _ => pt p (ia c) :: R) (fun i => c.sl.length - i) 0 ?_ ?_;grind;intro i ⟨F, t⟩;refine aw ?_;refine ai (fun A => ?_) fun A => ?_;have b : i < c.sl.length := by omega
 obtain ⟨g, o, k, u⟩ := (h.s []).at_ b;obtain ⟨x, C⟩ : ∃ x, c.sl[i] = x := ⟨_, rfl⟩
 have l : c.sl.getD i (0, 0) = x := by grind
 rw [C] at u;have a : p7 c x = true → oq c = true := fun q => by
  rw [oq, w4 (w := fun i => p7 c (c.sl.getD i (0, 0))) b (by grind), QcZ]
 have m := fun q => yg (w := fun i => p7 c (c.sl.getD i (0, 0))) t (show p7 c (c.sl.getD i (0, 0)) = false by rw [l]; exact q);obtain ⟨v, y⟩ : ∃ v, iy c x.1 = v := ⟨_, rfl⟩
 have D : p7 c x = !(v && decide (1 ≤ x.2 ∧ x.2 ≤ 32)) := by rw [p7, y]
 refine aa (eR Ns Nf rfl k rfl rfl b (by first | exact Qac _ | rfl)) ?_;refine aa (dt u.weak) ?_;refine bi fun G => ?_;refine av aB ?_;refine ah (aC Cx (yf c x.1)) ?_;rw [y];refine cv (fun f => ?_) fun f => ?_;refine aA ?_;rw [a (by grind)];exact ⟨_, ⟨_, rfl, rfl⟩, IO⟩;refine cv (fun d => ?_) fun d => ?_;refine aA ?_;rw [a (by grind)];exact ⟨_, ⟨_, rfl, rfl⟩, IO⟩;refine ai (fun E => ?_) fun E => ?_;refine aA ?_;rw [a (by grind)];exact ⟨_, ⟨_, rfl, rfl⟩, IO⟩;have n : v = true := by grind
 rw [n, Qah (by omega)] at D;refine aa co ?_;refine bM (i + 1) ?_;grind;refine aA ?_;obtain rfl : i = c.sl.length := by omega
 rw [oq, Qal (by omega), Qbq, y5 t];exact ⟨_, ⟨0, rfl, rfl⟩, IO⟩
theorem wa c (q : ∀ A, cF (aT W0 A) c.ga 3 ix c.gl) (m : ∀ g ∈ c.gl, 1 ≤ g.2.1 ∧ g.2.1 ≤ 8 ∧ 0 ≤ g.2.2 ∧ g.2.2 ≤ 8 - g.2.1) (r : c.nl.length ≤ 4) (v : c.gl.length ≤ 4) : sQ W0 78 [.agg (dI c).toArray] R (iQ (gG c c.gl.length)) R := by
 have e := Eg m r;refine am func78 ntmps78 ?_;refine bA fun f => ?_;refine d7 (fun i : Nat => i ≤ c.gl.length) (fun i => [(1, pQ f), (3, iQ (gG c i)), (4, iQ (i : Nat))]) (fun _ => pt f (ia c) :: R) (fun i => c.gl.length - i) 0 ?_ ?_;omega;intro i s;refine aw ?_;refine ai (fun t => ?_) fun t => ?_;have b : i < c.gl.length := by omega
 obtain ⟨g, o, d, n⟩ := (q []).at_ b;obtain ⟨x, p⟩ : ∃ x, c.gl[i] = x := ⟨_, rfl⟩
 rw [p] at n;have h := m _ (QaF b);rw [p] at h;have l : gG c (i + 1) = gG c i + (x.2.1 + x.2.2) := by grind [gG]
 have u := e i s;refine eV [(f, 0, dI c), (g, o + i * 3, ix x)] 16 mixed rfl (bL (bU n.weak bE)) (fun a => ?_);refine aj 0 4 a ?_;refine az 4 a (eR mu kQ rfl d rfl rfl b (by first | exact Qac _ | rfl)) ?_;refine aj 5 1 a ?_;refine az 6 a (aF (jB (k := 1) (j := 1) rfl rfl)) ?_;refine az 7 a co ?_;refine aj 8 3 a ?_;refine az 11 a (eR mu kQ rfl d rfl rfl b (by first | exact Qac _ | rfl)) ?_;refine aj 12 1 a ?_;refine az 13 a (aF (jB (k := 1) (j := 2) rfl rfl)) ?_;refine az 14 a (cY rfl rfl (by rw [bS (by omega), l]; omega : IntKind.wrap .i64 (gG c i + x.2.1 + x.2.2) = gG c (i + 1))) ?_;refine aj 15 1 a ?_;refine aK ?_;refine aa co ?_;exact bM (i + 1) (by omega);refine ae ?_;obtain rfl : i = c.gl.length := by omega
 exact ap
theorem Et {W0 c} (h : CfOk W0 c) q : ∃ (b d j : Nat) (vs : List Value), (∀ A, bF (aT W0 A) b (d + j * 3) vs) ∧ (iy c q = true → c.ga = some ⟨b, d, none⟩ ∧ q = j ∧ j < c.gl.length ∧ ∃ u, vs = ix u ∧ kK c q = u.1) := by
 cases l : iy c q with
 | false => exact ⟨0, 0, 0, [], fun A k v m => by simp at m, fun h => by cases h⟩
 | true =>
  have n : 0 ≤ q ∧ q < c.gl.length := Qas l;obtain ⟨j, rfl⟩ : ∃ j : Nat, q = (j : Int) := ⟨q.toNat, by omega⟩
  have e : j < c.gl.length := by omega
  obtain ⟨b, d, a, _⟩ := (h.g []).at_ e;refine ⟨b, d, j, ix c.gl[j], fun A => ?_, fun _ => ⟨a, rfl, e, c.gl[j], rfl, ?_⟩⟩;obtain ⟨o, p, i, f⟩ := (h.g A).at_ e;rw [a] at i; cases i; exact f;grind [kK]
theorem ZM {c q} (h : iy c q = true) : 0 ≤ q ∧ q < c.gl.length := Qas h
theorem ZN {c q} (h : iy c q = false) : ¬ (0 ≤ q ∧ q < c.gl.length) := of_decide_eq_false h
theorem ZO c (h : CfOk W0 c) : sP W0 254 [.agg (dI c).toArray] R (fun v B => ∃ r, v = .tuple #[.bool (jG c), iQ r] ∧ B = R) := by
 refine am func254 ntmps254 ?_;refine bA fun E => ?_;refine ai (fun X => ?_) fun X => ?_;refine aA ?_;rw [jG, Qah (by omega), Qbu];exact ⟨_, ⟨0, rfl, rfl⟩, IO⟩;refine d7 (fun i : Nat => i ≤ c.nl.length ∧ (∀ j, j < i → nJ c (c.nl.getD j (0, 0)) = false)) (fun i => [(1, pQ E), (4, iQ i)]) (fun _ => pt E (ia c) :: R) (fun i => c.nl.length - i) 0 ?_ ?_;grind;intro i ⟨hi, T⟩;refine aw ?_;refine ai (fun Y => ?_) fun Y => ?_;have f : i < c.nl.length := by omega
 obtain ⟨g, o, F, U⟩ := (h.n []).at_ f;obtain ⟨⟨p, q⟩, Z⟩ : ∃ x, c.nl[i] = x := ⟨_, rfl⟩
 have G : c.nl.getD i (0, 0) = (p, q) := by grind
 rw [Z] at U;have b : nJ c (p, q) = true → jG c = true := fun z => by
  rw [jG, w4 (w := fun i => nJ c (c.nl.getD i (0, 0))) f (by grind), QcZ]
 have H := fun z => yg (w := fun i => nJ c (c.nl.getD i (0, 0))) T (show nJ c (c.nl.getD i (0, 0)) = false by rw [G]; exact z);obtain ⟨g1, o1, j1, I, d, u⟩ := Et h p;obtain ⟨g2, o2, j2, J, e, y⟩ := Et h q;obtain ⟨V, A⟩ : ∃ w, iy c p = w := ⟨_, rfl⟩
 obtain ⟨W, C⟩ : ∃ w, iy c q = w := ⟨_, rfl⟩
 have hW : nJ c (p, q) = !(V && W && decide (p ≠ q) && oZ (kK c p) (kK c q)) := by grind [nJ]
 rw [A] at u;rw [C] at y;refine aa (eR zn zh rfl F rfl rfl f (by first | exact Qac _ | rfl)) ?_;refine aa (dt U.weak) ?_;refine bi fun bx => ?_;refine av aB ?_;refine eV [(E, 0, dI c), (bx, 0, iL (p, q)), (g1, o1 + j1 * 3, I), (g2, o2 + j2 * 3, J)] 37 mixed rfl (bL (bL (bU (d _) (bU (e _) bE)))) (fun a => ?_);refine aj 0 3 a ?_;refine bX 3 (aC Cx (yf c p)) ?_; clear a;rintro _ B_ ⟨rfl, l⟩;obtain rfl := l.symm;rw [A];refine ⟨(bL (bL (bU (d _) (bU (e _) bE)))), fun a => ?_⟩;refine aj 4 2 a ?_;refine ja (t := 27) rfl ?_ ?_;intro D;refine aj 6 31 a ?_;refine aK ?_;refine aA ?_;rw [b (by grind)];exact ⟨_, ⟨_, rfl, rfl⟩, IO⟩;intro D;refine aj 6 3 a ?_;refine bX 9 (aC Cx (yf c q)) ?_; clear a;rintro _ B_ ⟨rfl, l⟩;obtain rfl := l.symm;rw [C];refine ⟨(bL (bL (bU (d _) (bU (e _) bE)))), fun a => ?_⟩;refine aj 10 3 a ?_;refine ja (t := 34) rfl ?_ ?_;intro m;refine aj 13 24 a ?_;refine aK ?_;refine aA ?_;rw [b (by grind)];exact ⟨_, ⟨_, rfl, rfl⟩, IO⟩;intro m;refine aj 13 7 a ?_;refine ja (t := 41) rfl ?_ ?_;intro s;refine aj 20 17 a ?_;refine aK ?_;refine aA ?_;rw [b (by grind)];exact ⟨_, ⟨_, rfl, rfl⟩, IO⟩;intro s;obtain rfl : V = true := by grind
 obtain rfl : W = true := by grind
 obtain ⟨K, L, M, u1, rfl, N⟩ := u rfl;obtain ⟨O, P, Q, u2, rfl, S⟩ := y rfl;rw [N, S] at hW;refine aj 20 4 a ?_;refine az 24 a (eR mu kQ rfl K rfl L M (by first | exact Qac _ | rfl)) ?_;refine aj 25 1 a ?_;refine az 26 a (aF (jB (k := 2) (j := 0) rfl rfl)) ?_;refine aj 27 4 a ?_;refine az 31 a (eR mu kQ rfl O rfl P Q (by first | exact Qac _ | rfl)) ?_;refine aj 32 1 a ?_;refine az 33 a (aF (jB (k := 3) (j := 0) rfl rfl)) ?_;refine gB 34 rfl rfl (aC call329 (XQ u1.1 u2.1)) (bL (bL (bU (d _) (bU (e _) bE)))) fun a => ?_;refine aj 35 2 a ?_;refine aK ?_;refine ai (fun c7 => ?_) fun c7 => ?_;refine aA ?_;rw [b (by grind)];exact ⟨_, ⟨_, rfl, rfl⟩, IO⟩;refine aa co ?_;refine bM (i + 1) ?_;grind;refine aA ?_;obtain rfl : i = c.nl.length := by omega
 rw [jG, Qal (by omega), Qbq, y5 T];exact ⟨_, ⟨0, rfl, rfl⟩, IO⟩
theorem JQ {c g k j} (a : j < k) h (e : (c.pl[j]).2 = g) : nK c g k = true := by
 grind [nK, Qbo, Qcp.2]
theorem JR {c g k} (a : ∀ j, j < k → (c.pl.getD j (0, 0)).2 ≠ g) : nK c g k = false := by
 rw [nK, Qcw];intro x b;obtain ⟨j, d, rfl⟩ := Qcp.1 b;have := a j (by omega);rw [show c.pl.getD j (0, 0) = c.pl[j]'(by omega) by simp [List.getD, show j < c.pl.length by omega]] at this;simpa using this
theorem ZP c (h : CfOk W0 c) : sP W0 253 [.agg (dI c).toArray] R (fun v B => ∃ r, v = .tuple #[.bool (p9 c), iQ r] ∧ B = R) := by
 refine am func253 ntmps253 ?_;refine bA fun l => ?_;refine ai (fun c1 => ?_) fun c1 => ?_;refine aA ?_;rw [p9, Qah (by omega), Qbu];exact ⟨_, ⟨0, rfl, rfl⟩, IO⟩;refine d7 (fun i : Nat => i ≤ c.pl.length ∧ (∀ j, j < i → qR c j = false)) (fun i => [(1, pQ l), (4, iQ i)]) (fun _ => pt l (ia c) :: R) (fun i => c.pl.length - i) 0 ?_ ?_;grind;intro i ⟨hi, hI⟩;refine aw ?_;refine ai (fun c4 => ?_) fun c4 => ?_;have J : i < c.pl.length := by omega
 obtain ⟨g, o, x0, hc⟩ := (h.p []).at_ J;obtain ⟨⟨p, q⟩, hx⟩ : ∃ x, c.pl[i] = x := ⟨_, rfl⟩
 have x3 : c.pl.getD i (0, 0) = (p, q) := by grind
 rw [hx] at hc;have b : qR c i = true → p9 c = true := fun z => by
  rw [p9, w4 J z, QcZ]
 have K := fun z => yg (w := qR c) hI z;obtain ⟨g1, o1, j1, V, I, L⟩ := Et h q;obtain ⟨s, F⟩ : ∃ w, iy c q = w := ⟨_, rfl⟩
 obtain ⟨W, x1⟩ : ∃ w, gZ p c.cats = w := ⟨_, rfl⟩
 have hW : qR c i = (!W || (decide (q ≠ -1) && (!s || decide (p ≠ kK c q) || nK c q i))) := by grind [qR]
 rw [F] at L;have G : s = true → 0 ≤ q := fun z => (ZM (F.trans z)).1;have x4 : s = false → ¬ (0 ≤ q ∧ q < c.gl.length) := fun z => ZN (F.trans z);refine aa (eR wQ wO rfl x0 rfl rfl J (by first | exact Qac _ | rfl)) ?_;refine aa (dt hc.weak) ?_;refine bi fun n => ?_;refine av aB ?_;refine ah (aC NT (Es p c.cats)) ?_;rw [x1];refine cv (fun X => ?_) fun X => ?_;refine aA ?_;rw [b (by grind)];exact ⟨_, ⟨_, rfl, rfl⟩, IO⟩;refine i6 rfl rfl rfl (fun M => ?_) fun M => ?_;refine au 6 ?_;refine ah (aC Cx (yf c q)) ?_;rw [F];refine aD rfl (fun c7 => ?_) fun c7 => ?_;refine au 14 ?_;refine aA ?_;rw [b (by grind)];exact ⟨_, ⟨_, rfl, rfl⟩, IO⟩;refine au 2 ?_;refine dw (fun _ : Unit => W = true ∧ (q = -1 ∨ (s = true ∧ p = kK c q))) (fun _ => [(1, pQ l), (4, iQ i), (5, pQ n)]) (fun _ => pt n (ag (iL (p, q)) 204) :: pt l (ia c) :: R) ?_ ?_;refine au 1 ?_;have d : W = true := by simp_all
 have u : q = -1 ∨ s = true := by
  grind
 refine eV [(l, 0, dI c), (n, 0, iL (p, q)), (g1, o1 + j1 * 3, V)] 15 mixed rfl (bL (bL (bU (I _) bE))) (fun a => ?_);refine aj 0 4 a ?_;refine ja (t := 45) rfl ?_ ?_;intro y;obtain rfl : s = true := by
  grind
 obtain ⟨N, O, P, u1, rfl, H⟩ := L rfl;refine aj 4 6 a ?_;refine az 10 a (eR mu kQ rfl N rfl O P (by first | exact Qac _ | rfl)) ?_;refine aj 11 1 a ?_;refine az 12 a (aF (jB (k := 2) (j := 0) rfl rfl)) ?_;refine aj 13 2 a ?_;refine aK ?_;refine ai (fun c9 => ?_) fun c9 => ?_;refine aA ?_;rw [b (by grind)];exact ⟨_, ⟨_, rfl, rfl⟩, IO⟩;refine bY () ?_;grind;intro y;refine aj 4 11 a ?_;refine aK ?_;refine bY () ?_;refine ⟨d, ?_⟩
 first
   | (left; rcases u with z | z
      · exact z
      · exact absurd (G z) (by omega))
   | exact .inr ⟨rfl, by rw [H]; omega⟩
 intro _ ⟨d, A⟩;rw [d, show (!true) = false from rfl, Qbq] at hW;refine aw ?_;refine d7 (fun k : Nat => k ≤ i ∧ ∀ j, j < k → 0 ≤ q → (c.pl.getD j (0, 0)).2 ≠ q) (fun k => [(1, pQ l), (4, iQ i), (5, pQ n), (6, iQ k)]) (fun _ => pt n (ag (iL (p, q)) 204) :: pt l (ia c) :: R) (fun k => i - k) 0 ?_ ?_;grind;intro k ⟨hk, Y⟩;refine aw ?_;refine ai (fun Q => ?_) fun Q => ?_;have e : k < c.pl.length := by omega
 obtain ⟨g2, o2, C, D⟩ := (h.p []).at_ e;obtain ⟨⟨Z, S⟩, T⟩ : ∃ x, c.pl[k] = x := ⟨_, rfl⟩
 have m : c.pl.getD k (0, 0) = (Z, S) := by grind
 have x2 : S = q → nK c q i = true := fun z => JQ (j := k) (by omega) e (by grind);rw [T] at D;refine eV [(l, 0, dI c), (n, 0, iL (p, q)), (g2, o2 + k * 2, iL (Z, S))] 14 mixed rfl (bL (bL (bU D.weak bE))) (fun a => ?_);refine aj 0 4 a ?_;refine ja (t := 66) rfl ?_ ?_;intro f;refine aj 4 3 a ?_;refine az 7 a (eR wQ wO rfl C rfl rfl e (by first | exact Qac _ | rfl)) ?_;refine aj 8 1 a ?_;refine az 9 a (aF (jB (k := 2) (j := 1) rfl rfl)) ?_;refine aj 10 4 a ?_;refine aK ?_;refine ai (fun U => ?_) fun U => ?_;refine aA ?_;have hz : s = true := by
  grind
 rw [b (by grind)];exact ⟨_, ⟨_, rfl, rfl⟩, IO⟩;refine aa co ?_;refine bM (k + 1) ?_;grind;intro f;refine aj 4 10 a ?_;refine aK ?_;refine aa co ?_;refine bM (k + 1) ?_;refine ⟨by omega, fun j hj E => ?_⟩;rcases QaD j k with z | z;exact Y j z E;rw [show j = k by omega, m];dsimp only;omega;refine aa co ?_;refine bM (i + 1) ?_;grind [JR];refine au 12 ?_;refine dw (fun _ : Unit => W = true ∧ (q = -1 ∨ (s = true ∧ p = kK c q))) (fun _ => [(1, pQ l), (4, iQ i), (5, pQ n)]) (fun _ => pt n (ag (iL (p, q)) 204) :: pt l (ia c) :: R) ?_ ?_;refine au 1 ?_;have d : W = true := by simp_all
 have u : q = -1 ∨ s = true := by
  by_cases z : q = -1;exact .inl z;right; simp_all
 refine eV [(l, 0, dI c), (n, 0, iL (p, q)), (g1, o1 + j1 * 3, V)] 15 mixed rfl (bL (bL (bU (I _) bE))) (fun a => ?_);refine aj 0 4 a ?_;refine ja (t := 45) rfl ?_ ?_;intro y;obtain rfl : s = true := by
  rcases u with z | z;exact absurd z (by omega);exact z
 obtain ⟨N, O, P, u1, rfl, H⟩ := L rfl;refine aj 4 6 a ?_;refine az 10 a (eR mu kQ rfl N rfl O P (by first | exact Qac _ | rfl)) ?_;refine aj 11 1 a ?_;refine az 12 a (aF (jB (k := 2) (j := 0) rfl rfl)) ?_;refine aj 13 2 a ?_;refine aK ?_;refine ai (fun c9 => ?_) fun c9 => ?_;refine aA ?_;rw [b (by grind)];exact ⟨_, ⟨_, rfl, rfl⟩, IO⟩;refine bY () ?_;refine ⟨d, ?_⟩
 first
   | (left; rcases u with z | z
      · exact z
      · exact absurd (G z) (by omega))
   | exact .inr ⟨rfl, by rw [H]; omega⟩
 intro y;refine aj 4 11 a ?_;refine aK ?_;refine bY () ?_;refine ⟨d, ?_⟩
 first
   | (left; rcases u with z | z
      · exact z
      · exact absurd (G z) (by omega))
   | exact .inr ⟨rfl, by rw [H]; omega⟩
 intro _ ⟨d, A⟩;rw [d, show (!true) = false from rfl, Qbq] at hW;refine aw ?_;refine d7 (fun k : Nat => k ≤ i ∧ ∀ j, j < k → 0 ≤ q → (c.pl.getD j (0, 0)).2 ≠ q) (fun k => [(1, pQ l), (4, iQ i), (5, pQ n), (6, iQ k)]) (fun _ => pt n (ag (iL (p, q)) 204) :: pt l (ia c) :: R) (fun k => i - k) 0 ?_ ?_;grind;intro k ⟨hk, Y⟩;refine aw ?_;refine ai (fun Q => ?_) fun Q => ?_;have e : k < c.pl.length := by omega
 obtain ⟨g2, o2, C, D⟩ := (h.p []).at_ e;obtain ⟨⟨Z, S⟩, T⟩ : ∃ x, c.pl[k] = x := ⟨_, rfl⟩
 have m : c.pl.getD k (0, 0) = (Z, S) := by grind
 have x2 : S = q → nK c q i = true := fun z => JQ (j := k) (by omega) e (by grind);rw [T] at D;refine eV [(l, 0, dI c), (n, 0, iL (p, q)), (g2, o2 + k * 2, iL (Z, S))] 14 mixed rfl (bL (bL (bU D.weak bE))) (fun a => ?_);refine aj 0 4 a ?_;refine ja (t := 66) rfl ?_ ?_;intro f;refine aj 4 3 a ?_;refine az 7 a (eR wQ wO rfl C rfl rfl e (by first | exact Qac _ | rfl)) ?_;refine aj 8 1 a ?_;refine az 9 a (aF (jB (k := 2) (j := 1) rfl rfl)) ?_;refine aj 10 4 a ?_;refine aK ?_;refine ai (fun U => ?_) fun U => ?_;refine aA ?_;have hz : s = true := by
  rcases A with z | z;omega;exact z.1
 rw [b (by grind)];exact ⟨_, ⟨_, rfl, rfl⟩, IO⟩;refine aa co ?_;refine bM (k + 1) ?_;refine ⟨by omega, fun j hj E => ?_⟩;rcases QaD j k with z | z;exact Y j z E;rw [show j = k by omega, m];dsimp only;omega;intro f;refine aj 4 10 a ?_;refine aK ?_;refine aa co ?_;refine bM (k + 1) ?_;refine ⟨by omega, fun j hj E => ?_⟩;rcases QaD j k with z | z;exact Y j z E;rw [show j = k by omega, m];dsimp only;omega;refine aa co ?_;refine bM (i + 1) ?_;refine ⟨by omega, K ?_⟩;rw [hW];rcases A with z | ⟨z1, z2⟩;rw [z]; rfl;rw [z1, JR (fun j hj => Y j (by omega) (G z1)), Qal (by omega : ¬ p ≠ kK c q)];simp;refine aA ?_;obtain rfl : i = c.pl.length := by omega
 rw [p9, Qal (by omega), Qbq, y5 hI];exact ⟨_, ⟨0, rfl, rfl⟩, IO⟩
theorem AN {c} (h : jG c = false) : c.nl.length ≤ 4 := by
 grind [jG]
theorem ZQ c (h : CfOk W0 c) : sP W0 169 [.agg (dI c).toArray] R (fun v B => ∃ A, v = .tuple #[iQ (ov c), iQ A] ∧ B = R) := by
 obtain ⟨N, t⟩ : ∃ w, iy c c.gate = w := ⟨_, rfl⟩
 have y : mW c = if c.gate = -1 then decide (c.quota ≠ 0) else !(N && decide (0 ≤ c.quota ∧ c.quota ≤ 64)) := by rw [mW, t]
 obtain ⟨O, C⟩ : ∃ x, ov c = x := ⟨_, rfl⟩
 obtain ⟨P, D⟩ : ∃ x, kJ c = x := ⟨_, rfl⟩
 obtain ⟨Q, E⟩ : ∃ x, p8 c = x := ⟨_, rfl⟩
 obtain ⟨S, F⟩ : ∃ x, p9 c = x := ⟨_, rfl⟩
 obtain ⟨T, G⟩ : ∃ x, jG c = x := ⟨_, rfl⟩
 obtain ⟨U, H⟩ : ∃ x, oq c = x := ⟨_, rfl⟩
 obtain ⟨m, I⟩ : ∃ x, mW c = x := ⟨_, rfl⟩
 have a : O = if c.cats < 0 ∨ 8 < c.cats then 12 else if P then 13 else if Q then 14 else if S then 15 else if T then 16 else if U then 17 else if m then 18 else if 32 < gG c c.gl.length then 19 else 0 := by grind [ov]
 rw [I] at y;rw [C];refine am func169 ntmps169 ?_;refine bA fun b1 => ?_;refine cv (fun u => ?_) fun u => ?_;refine aA ?_;rw [a, Qad (by omega)];exact ⟨_, ⟨0, rfl, rfl⟩, IO⟩;refine ai (fun V => ?_) fun V => ?_;refine aA ?_;rw [a, Qad (by omega)];exact ⟨_, ⟨0, rfl, rfl⟩, IO⟩;rw [Qab (by omega)] at a;refine aG rfl (aC call251 (ZJ c h)) ?_;rintro _ z ⟨W, rfl, d⟩;obtain rfl := d.symm;rw [D];refine aw ?_;refine ai (fun X => ?_) fun X => ?_;refine aA ?_;rw [a, Qad (by omega)];exact ⟨_, ⟨W, rfl, rfl⟩, IO⟩;rw [Qab (by omega)] at a;refine aG rfl (aC call252 (ZK c h)) ?_;rintro _ z ⟨Y, rfl, d⟩;obtain rfl := d.symm;rw [E];refine aw ?_;refine ai (fun Z => ?_) fun Z => ?_;refine aA ?_;rw [a, Qad (by omega)];exact ⟨_, ⟨Y, rfl, rfl⟩, IO⟩;rw [Qab (by omega)] at a;refine aG rfl (aC call253 (ZP c h)) ?_;rintro _ z ⟨r3, rfl, d⟩;obtain rfl := d.symm;rw [F];refine aw ?_;refine ai (fun J => ?_) fun J => ?_;refine aA ?_;rw [a, Qad (by omega)];exact ⟨_, ⟨r3, rfl, rfl⟩, IO⟩;rw [Qab (by omega)] at a;refine aG rfl (aC call254 (ZO c h)) ?_;rintro _ z ⟨r4, rfl, d⟩;obtain rfl := d.symm;rw [G];refine aw ?_;refine ai (fun K => ?_) fun K => ?_;refine aA ?_;rw [a, Qad (by omega)];exact ⟨_, ⟨r4, rfl, rfl⟩, IO⟩;rw [Qab (by omega)] at a;refine aG rfl (aC call255 (ZL c h)) ?_;rintro _ z ⟨r5, rfl, d⟩;obtain rfl := d.symm;rw [H];refine aw ?_;refine ai (fun L => ?_) fun L => ?_;refine aA ?_;rw [a, Qad (by omega)];exact ⟨_, ⟨r5, rfl, rfl⟩, IO⟩;rw [Qab (by omega)] at a;refine ci (fun o => ?_) fun o => ?_;refine ah (aC Cx (yf c c.gate)) ?_;rw [t];refine cv (fun n => ?_) fun n => ?_;refine aA ?_;have b : m = true := by
  grind
 rw [a, b];exact ⟨_, ⟨0, rfl, rfl⟩, IO⟩;refine cv (fun e => ?_) fun e => ?_;refine aA ?_;have b : m = true := by
  grind
 rw [a, b];exact ⟨_, ⟨0, rfl, rfl⟩, IO⟩;refine cv (fun f => ?_) fun f => ?_;refine aA ?_;have b : m = true := by
  grind
 rw [a, b];exact ⟨_, ⟨0, rfl, rfl⟩, IO⟩;refine ci (fun i => ?_) fun i => ?_;refine aD rfl (fun p => ?_) fun p => ?_;refine au 8 ?_;refine aA ?_;have b : m = true := by
  rw [y]; split;exact Qah (by first | omega | simp_all)
  first
    | (rw [Qal (by omega), QcT]; rfl)
    | simp_all
 rw [a, b];exact ⟨_, ⟨0, rfl, rfl⟩, IO⟩;refine au 4 ?_;have b : m = false := by
  rw [y]; split;exact Qal (by first | omega | simp_all);rw [Qah (by omega)]; simp_all
 rw [b] at a;have j : kJ c = false := by grind
 have k : jG c = false := by grind
 obtain ⟨M, q, r⟩ := w6 j;refine aw ?_;refine ah (aC zx (wa c h.g (fun g s => (r g s).2) (AN k) q)) ?_;refine ai (fun l => ?_) fun l => ?_;refine aA ?_;rw [a, Qab (by decide), Qad (by omega)];exact ⟨_, ⟨0, rfl, rfl⟩, IO⟩;refine aA ?_;rw [a, Qab (by decide), Qab (by omega)];exact ⟨_, ⟨0, rfl, rfl⟩, IO⟩;have b : m = false := by
  grind
 rw [b] at a;have j : kJ c = false := by grind
 have k : jG c = false := by grind
 obtain ⟨M, q, r⟩ := w6 j;refine ah (aC zx (wa c h.g (fun g s => (r g s).2) (AN k) q)) ?_;refine ai (fun l => ?_) fun l => ?_;refine aA ?_;rw [a, Qab (by decide), Qad (by omega)];exact ⟨_, ⟨0, rfl, rfl⟩, IO⟩;refine aA ?_;rw [a, Qab (by decide), Qab (by omega)];exact ⟨_, ⟨0, rfl, rfl⟩, IO⟩;refine cv (fun e => ?_) fun e => ?_;refine aA ?_;have b : m = true := by
  grind
 rw [a, b];exact ⟨_, ⟨0, rfl, rfl⟩, IO⟩;refine cv (fun f => ?_) fun f => ?_;refine aA ?_;have b : m = true := by
  grind
 rw [a, b];exact ⟨_, ⟨0, rfl, rfl⟩, IO⟩;refine i6 rfl rfl rfl (fun i => ?_) fun i => ?_;refine au 10 ?_;refine ai (fun p => ?_) fun p => ?_;refine aA ?_;have b : m = true := by
  grind
 rw [a, b];exact ⟨_, ⟨0, rfl, rfl⟩, IO⟩;have b : m = false := by
  grind
 rw [b] at a;have j : kJ c = false := by grind
 have k : jG c = false := by grind
 obtain ⟨M, q, r⟩ := w6 j;refine ah (aC zx (wa c h.g (fun g s => (r g s).2) (AN k) q)) ?_;refine ai (fun l => ?_) fun l => ?_;refine aA ?_;rw [a, Qab (by decide), Qad (by omega)];exact ⟨_, ⟨0, rfl, rfl⟩, IO⟩;refine aA ?_;rw [a, Qab (by decide), Qab (by omega)];exact ⟨_, ⟨0, rfl, rfl⟩, IO⟩;refine au 12 ?_;have b : m = false := by
  rw [y]; split;exact Qal (by first | omega | simp_all);rw [Qah (by omega)]; simp_all
 rw [b] at a;have j : kJ c = false := by grind
 have k : jG c = false := by grind
 obtain ⟨M, q, r⟩ := w6 j;refine aw ?_;refine ah (aC zx (wa c h.g (fun g s => (r g s).2) (AN k) q)) ?_;refine ai (fun l => ?_) fun l => ?_;refine aA ?_;rw [a, Qab (by decide), Qad (by omega)];exact ⟨_, ⟨0, rfl, rfl⟩, IO⟩;refine aA ?_;rw [a, Qab (by decide), Qab (by omega)];exact ⟨_, ⟨0, rfl, rfl⟩, IO⟩
theorem AO c (h : CfOk W0 c) : sQ W0 77 [.agg (dI c).toArray] R (.bool (rt c)) R := by
 refine am func77 ntmps77 ?_;refine bA fun d => ?_;refine aG rfl (aC call169 (ZQ c h)) ?_;rintro _ e ⟨b, rfl, a⟩;obtain rfl := a.symm;refine aw ?_;refine ae ?_;refine aI ?_;refine Qak Value.bool ?_;rw [Qag, rt]; simp
end
section
def dh (c : Cfg) (i : Nat) : Int × Int × Int := c.gl.getD i (0, 0, 0)
def eC (c : Cfg) : Nat → Int
 | 0 => 0
 | i + 1 => eC c i + ((dh c i).2.1 + (dh c i).2.2)
theorem uJ c : ∀ i, gG c i = eC c i + c.nl.length
 | 0 => by rw [gG, eC, Int.zero_add]
 | i + 1 => by rw [gG, eC, uJ c i, dh]; omega
def lw (c : Cfg) (f : Int) : Option Nat := qL (fun i => decide (f < eC c (i + 1))) c.gl.length
def cM (c : Cfg) : Nat := (gG c c.gl.length).toNat
def ZR (b f : Int) : Option Nat → Int × Int
 | some i => (1, (i : Int))
 | none => (2, f - b)
def td (c : Cfg) (f : Int) : Int × Int := if rt c = true ∧ 0 ≤ f ∧ f < gG c c.gl.length then ZR (eC c c.gl.length) f (lw c f) else (0, 0)
structure CfR (c : Cfg) : Prop where
  g1 : 1 ≤ c.gl.length
  g4 : c.gl.length ≤ 4
  gs : ∀ i, i < c.gl.length → 1 ≤ (dh c i).2.1 ∧ (dh c i).2.1 ≤ 8 ∧ 0 ≤ (dh c i).2.2 ∧ (dh c i).2.2 ≤ 8 - (dh c i).2.1
  nn : c.nl.length ≤ 4
  nd : 1 ≤ gG c c.gl.length ∧ gG c c.gl.length ≤ 32
theorem te {c} (h : ∀ i, i < c.gl.length → 1 ≤ (dh c i).2.1 ∧ (dh c i).2.1 ≤ 8 ∧ 0 ≤ (dh c i).2.2 ∧ (dh c i).2.2 ≤ 8 - (dh c i).2.1) : ∀ i, i ≤ c.gl.length → i ≤ eC c i ∧ eC c i ≤ 8 * i
 | 0, _ => by simp [eC]
 | i + 1, a => by
  have := te h i (by omega);have := h i (by omega);rw [eC]; omega
theorem ZS {c} (h : CfR c) {i} (a : i < c.gl.length) : eC c i < eC c (i + 1) := by
 have := h.gs i a;rw [eC]; omega
theorem Eu {c} (h : CfR c) {i j} (a : i ≤ j) (d : j ≤ c.gl.length) : eC c i ≤ eC c j := by
 induction j with
 | zero => obtain rfl : i = 0 := by omega
           exact QbY _
 | succ j b =>
  rcases QaD i (j + 1) with k | k;have := b (by omega) (by omega);have := ZS h (i := j) (by omega);omega;grind
theorem lx {c} (h : rt c = true) : CfR c := by
 obtain ⟨_, _, d, _, _, l, _, _, e⟩ := Jw h;obtain ⟨f, g, j⟩ := w6 d;have k : c.nl.length ≤ 4 := by
  grind [jG]
 have a : ∀ i, i < c.gl.length → 1 ≤ (dh c i).2.1 ∧ (dh c i).2.1 ≤ 8 ∧ 0 ≤ (dh c i).2.2 ∧ (dh c i).2.2 ≤ 8 - (dh c i).2.1 := fun i b => by
  have := (j _ (QaF b)).2
  rwa [show dh c i = c.gl[i] by simp [dh, List.getD, b]]
 have := te a c.gl.length (Qao _);exact ⟨f, g, a, k, by rw [uJ]; omega, e⟩
theorem AP {c} (h : CfR c) {f i} : (lw c f = some i ↔ i < c.gl.length ∧ f < eC c (i + 1) ∧ (0 < i → eC c i ≤ f)) := by
 rw [lw, qL, List.find?_eq_some_iff_getElem];simp only [Qaj];constructor;rintro ⟨a, k, d, rfl, b⟩;rw [QcF] at a ⊢;simp only [QcM] at d;refine ⟨d, a, fun g => ?_⟩;have := b (k - 1) (by omega);simp only [QcF, Bool.not_eq_true', QcB] at this;rw [show k - 1 + 1 = k by omega] at this;omega;rintro ⟨a, b, e⟩;refine ⟨b, i, by simpa using a, by simp, fun j l => ?_⟩;simp only [QcF, Bool.not_eq_true', QcB];have := Eu h (i := j + 1) (j := i) (by omega) (by omega);have := e (by omega);omega
def uK : Option Nat → Int × Bool
 | some i => ((i : Int), false)
 | none => (-1, false)
def eH (c : Cfg) (k : Nat) : Po := (List.range (cM c)).map fun g => if g < k then uK (lw c g) else (-1, false)
theorem pT c k : (eH c k).length = cM c := by simp [eH]
theorem wc {c k f} (a : f < cM c) : dp (eH c k) f = if f < k then uK (lw c f) else (-1, false) := by
 grind [dp, eH]
theorem JS c : eH c 0 = List.replicate (cM c) (-1, false) := by
 apply QaS;simp [eH];grind [eH]
theorem ZT {c k i} (hk : k < cM c) (h : lw c k = some i) : eH c (k + 1) = (eH c k).set k (i, false) := by
 apply QaS;simp [eH];intro j a b;rw [List.getElem_set];simp only [eH, List.getElem_map, QcF];by_cases e : k = j;grind [uK];grind
theorem ZU {c} {k : Nat} (h : lw c k = none) : eH c (k + 1) = eH c k := by
 apply QaS;simp [eH];grind [eH, QcF, uK]
theorem AQ {c} (h : CfR c) k : PoOk (eH c k) := ⟨by rw [pT, cM]; have := h.nd; omega, fun f a => by
 rw [pT] at a;rw [wc a];split
 cases e : lw c f with
 | none => simp [uK]
 | some i =>
  have := ((AP h).1 e).1;have := h.g4;simp only [uK]; omega
 simp⟩
theorem JU : ∀ {l m : List Nat}, l.Nodup → (∀ x ∈ l, x ∈ m) → l.length ≤ m.length
 | [], _, _, _ => QaK _
 | x :: l, m, a, h => by
  rw [Qbw] at a;have c := h x (by simp);have := JU (l := l) (m := m.erase x) a.2 fun y d => by
   have b : y ≠ x := fun e => a.1 (by grind);rw [List.mem_erase_of_ne b];exact h y (QbF _ d)
  rw [List.length_erase_of_mem c] at this;have := List.length_pos_of_mem c;rw [QaJ]; omega
theorem Ev {c} (h : CfR c) {i} (e : i < c.gl.length) : (dh c i).2.1 + (dh c i).2.2 ≤ ((cm (eH c (cM c)) i).length) := by
 obtain ⟨a, g⟩ : ∃ a : Nat, eC c i = (a : Int) := ⟨(eC c i).toNat, by have := te h.gs i (by omega); omega⟩
 have o := h.gs i e;obtain ⟨n, f⟩ : ∃ n : Nat, (dh c i).2.1 + (dh c i).2.2 = (n : Int) := ⟨((dh c i).2.1 + (dh c i).2.2).toNat, by omega⟩
 have p : eC c (i + 1) = (a : Int) + n := by rw [eC, g, f]
 have q := Eu h (i := i + 1) (j := c.gl.length) (by omega) (Qao _);have k := uJ c c.gl.length;have d : ∀ x ∈ List.range' a n, x ∈ cm (eH c (cM c)) i := fun x l => by
  rw [List.mem_range'_1] at l;have b : x < cM c := by rw [cM]; omega
  rw [kX, pT, wc b, Qad b, (AP h (i := i)).2 ⟨e, by omega, fun _ => by omega⟩];exact ⟨b, rfl⟩
 have m : (List.range' a n).Nodup := List.nodup_range' ..;have := JU m d;rw [List.length_range'] at this;rw [f]; omega
end
section
open Go.RowKit
structure CfK (W0 : World) (c : Cfg) : Prop where
  ok : CfOk W0 c
  gc : c.gl.length ≤ c.gc
theorem JV {c} (h : CfR c) : (∀ g ∈ c.gl, 1 ≤ g.2.1 ∧ g.2.1 ≤ 8 ∧ 0 ≤ g.2.2 ∧ g.2.2 ≤ 8 - g.2.1) := fun g b => by
 obtain ⟨i, a, rfl⟩ := QbM b;have := h.gs i a
 rwa [show dh c i = c.gl[i] by simp [dh, List.getD, a]] at this
def we (c : Cfg) : Nat := if rt c then cM c else 0
theorem ZV c (h : CfK W0 c) (b : CfR c) n (t : n ≤ c.gl.length) : sQ W0 261 [.agg (dI c).toArray, iQ n] R (iQ (eC c n)) R := by
 have m := h.gc;have p := b.g4;refine am func261 ntmps261 ?_;refine bA fun u => ?_;refine aa (oM mu kQ rfl rfl (h := n) rfl (by omega)) ?_;refine d7 (fun i : Nat => i ≤ n) (fun i => [(5, iQ (eC c i)), (11, .slice c.ga n c.gc), (12, iQ n), (13, iQ i)]) (fun _ => R) (fun i => n - i) 0 ?_ ?_;omega;intro i v;refine aw ?_;refine ai (fun q => ?_) fun q => ?_;have a : i < c.gl.length := by omega
 have d : i < n := by omega
 obtain ⟨g, o, e, k⟩ := (h.ok.g R).at_ a;obtain ⟨x, r⟩ : ∃ x, c.gl[i] = x := ⟨_, rfl⟩
 rw [r] at k;have l : dh c i = x := by grind [dh]
 have f := b.gs i a;rw [l] at f;have j : eC c (i + 1) = eC c i + (x.2.1 + x.2.2) := by rw [eC, l]
 have s := te b.gs i (by omega);refine aa (eR mu kQ rfl e rfl rfl d (by first | exact Qac _ | rfl)) ?_;refine aa (dt k.weak) ?_;refine bi fun w => ?_;refine eU (fM kQ rfl rfl rfl rfl rfl) ?_;rintro _ _ rfl;refine aP (aH (aY (ac rfl (aM rfl) ?_)));refine ac rfl (cD rfl mt rfl aR rfl (by first | exact Qac _ | rfl)) ?_;refine ac rfl (cg db rfl (aJ rfl)) ?_;refine ac rfl (cD rfl mt rfl aR rfl (by first | exact Qac _ | rfl)) ?_;refine ac rfl (cg db rfl (aJ rfl)) ?_;refine ac rfl (cY rfl rfl (bS (by omega))) ?_;refine aa (cY rfl rfl (by rw [bS (by omega)]; exact j.symm : IntKind.wrap .i64 (eC c i + (x.2.1 + x.2.2)) = eC c (i + 1))) ?_;refine aa co ?_;exact bM (i + 1) (by omega);refine ae ?_;obtain rfl : i = n := by omega
 exact ap
theorem ZW {c f i} (a : i < c.gl.length) (h : f < eC c (i + 1)) (b : ∀ j, j < i → ¬ f < eC c (j + 1)) : lw c f = some i :=
  Jb a (Qah h) fun j d => Qal (b j d)
theorem ZX {c f} (a : ∀ j, j < c.gl.length → ¬ f < eC c (j + 1)) : lw c f = none := Jc fun j b => Qal (a j b)
@[reducible] def Ew (x : Int × Int) : List Value := [.int .i64 x.1, .int .i64 x.2]
def md (c : Cfg) (i : Int) : Int := if rt c = true ∧ 0 ≤ i ∧ i < c.nl.length then eC c c.gl.length + i else -1
theorem ZY c (h : CfK W0 c) i : sQ W0 176 [.agg (dI c).toArray, iQ i] R (iQ (md c i)) R := by
 obtain ⟨w, f⟩ : ∃ w, rt c = w := ⟨_, rfl⟩
 have j : md c i = if w = true ∧ 0 ≤ i ∧ i < c.nl.length then eC c c.gl.length + i else -1 := by rw [md, f]
 rw [j];refine am func176 ntmps176 ?_;refine bA fun o => ?_;refine ah (aC call260 (Z1 c h.ok)) ?_;rw [f];refine cv (fun a => ?_) fun a => ?_;refine ae ?_;rw [Qab (by grind)];exact ap;refine cv (fun b => ?_) fun b => ?_;refine ae ?_;rw [Qab (by grind)];exact ap;refine ai (fun k => ?_) fun k => ?_;refine ae ?_;rw [Qab (by grind)];exact ap;have d : w = true := by simp_all
 have e := lx (f.trans d);have l := e.g4;have m := e.nn;have g : i < c.nl.length := by omega
 rw [Qad ⟨d, by omega, g⟩];have n := te e.gs c.gl.length (Qao _);refine ah (aC call261 (ZV c h e c.gl.length (Qao _))) ?_;refine aa co ?_;exact ae ap
theorem ZZ c (h : CfOk W0 c) : sQ W0 16 [.agg (dI c).toArray] R (iQ (we c)) R := by
 refine am func16 ntmps16 ?_;refine bA fun f => ?_;refine ah (aC GB (AO c h)) ?_;refine ai (fun d => ?_) fun d => ?_;refine ae ?_;have a : rt c = false := by grind
 rw [we, a];exact ap;have a : rt c = true := by grind
 have b := lx a;refine ah (aC zx (wa c h.g (JV b) b.nn b.g4)) ?_;refine ae ?_;have e : ((we c : Nat) : Int) = gG c c.gl.length := by
  have := b.nd;rw [we, Qad a, cM]; omega
 rw [e];exact ap
theorem a0a c (h : CfK W0 c) (f : Nat) (m : rt c = true) (z : f < gG c c.gl.length) : sQ W0 21 [.agg (dI c).toArray, iQ f] R (.agg (Ew (td c f)).toArray) R := by
 have e := lx m;have A := e.g4;have B := e.nd;have C := uJ c c.gl.length;rw [td, Qad ⟨m, by omega, z⟩];refine am func21 ntmps21 ?_;refine bA fun n => ?_;refine bi fun u => ?_;refine ah (aC GB (AO c h.ok)) ?_;rw [m];refine cv (fun d => ?_) fun d => ?_;exact absurd d (by decide);refine aD rfl (fun v => ?_) fun v => ?_
 first | exact absurd v (by decide) | (exfalso; omega)
 refine aw ?_;refine d7 (fun i : Nat => i ≤ c.gl.length ∧ ∀ j, j < i → ¬ (f : Int) < eC c (j + 1)) (fun i => [(1, iQ f), (2, pQ n), (4, pQ u), (5, iQ (eC c i)), (6, iQ i)]) (fun _ => pt n (ia c) :: pt u (ag [iQ 0, iQ 0] 68) :: R) (fun i => c.gl.length - i) 0 ?_ ?_;grind;intro i ⟨I, p⟩;refine aw ?_;refine ai (fun D => ?_) fun D => ?_;have a : i < c.gl.length := by omega
 obtain ⟨g, o, l, w⟩ := (h.ok.g []).at_ a;obtain ⟨x, E⟩ : ∃ x, c.gl[i] = x := ⟨_, rfl⟩
 rw [E] at w;have y : dh c i = x := by grind [dh]
 have r := e.gs i a;rw [y] at r;have F : eC c (i + 1) = eC c i + (x.2.1 + x.2.2) := by rw [eC, y]
 have G := te e.gs i (by omega);refine eV [(n, 0, dI c), (g, o + i * 3, ix x)] 16 mixed rfl (bL (bU w.weak bE)) (fun b => ?_);refine aj 0 4 b ?_;refine az 4 b (eR mu kQ rfl l rfl rfl a (by first | exact Qac _ | rfl)) ?_;refine aj 5 1 b ?_;refine az 6 b (aF (jB (k := 1) (j := 1) rfl rfl)) ?_;refine az 7 b co ?_;refine aj 8 3 b ?_;refine az 11 b (eR mu kQ rfl l rfl rfl a (by first | exact Qac _ | rfl)) ?_;refine aj 12 1 b ?_;refine az 13 b (aF (jB (k := 1) (j := 2) rfl rfl)) ?_;refine az 14 b (HA (eC c (i + 1))) ?_;refine aj 15 1 b ?_;refine aK ?_;refine ai (fun s => ?_) fun s => ?_;refine av aB ?_;refine aS (.cons (aX isAgg68 Nl rfl rfl) .nil) ?_;rw [ZW a s p];exact ap;refine aa co ?_;refine bM (i + 1) ?_;refine ⟨by omega, fun j J => ?_⟩;rcases QaD j i with q | q;exact p j q;rw [show j = i by omega]; exact s;obtain rfl : i = c.gl.length := by omega
 rw [ZX p];have H := te e.gs c.gl.length (Qao _);refine aa gW ?_;refine aD rfl (fun t => ?_) fun t => ?_;refine au 4 ?_;refine aa gW ?_;refine av aB ?_;exact aS (.cons (aX isAgg68 Nl rfl rfl) .nil) ap;omega
theorem a0b c (h : CfOk W0 c) (f : rt c = true) (i : Int) (k : 0 ≤ i) (l : i < c.nl.length) : sQ W0 95 [.agg (dI c).toArray, iQ i] R (iQ (md c i)) R := by
 have e := lx f;have m := e.nd;have n := e.nn;have o := uJ c c.gl.length;rw [md, Qad ⟨f, k, l⟩];refine am func95 ntmps95 ?_;refine bA fun p => ?_;refine ah (aC GB (AO c h)) ?_;rw [f];refine cv (fun a => ?_) fun a => ?_;exact absurd a (by decide);refine dj rfl rfl rfl (fun b => ?_) fun b => ?_
 first | exact absurd b (by decide) | (exfalso; omega)
 refine aw ?_;refine aD rfl (fun j => ?_) fun j => ?_
 first | exact absurd j (by decide) | (exfalso; omega)
 refine aw ?_;refine bc [p] 9 fun d => ?_;refine aj 0 1 d ?_;refine aj 2 3 d ?_;refine aj 6 1 d ?_;refine bG 1 (aC zx (wa c h.g (JV e) e.nn e.g4)) fun d => ?_;refine az 5 d gW ?_;refine az 7 d (HA (eC c c.gl.length + i)) ?_;refine aj 8 1 d ?_;refine aK ?_;exact ae ap
abbrev dR (rl : List Nat) (pc : Nat) : Obj := ag (rl.map wV ++ [.bool true, wV pc]) 290
theorem a9C {a : List Nat} {pc} (h : a.length = 16) : (a.map wV ++ [Value.bool true, wV pc]).length = 18 := by simp [h]
theorem a0c {a : List Nat} {pc} (h : a.length = 16) : ((a.map wV ++ [Value.bool true, wV pc]).drop 0).take 16 = a.map wV := by
 grind
theorem JW {a : List Nat} {pc} (h : a.length = 16) : (a.map wV ++ [Value.bool true, wV pc])[16]? = some (.bool true) := by
 grind
theorem a0d {a : List Nat} {pc} (h : a.length = 16) : (a.map wV ++ [Value.bool true, wV pc])[17]? = some (wV pc) := by
 grind
theorem a0e {a : List Nat} {pc q} (h : a.length = 16) : (a.map wV ++ [Value.bool true, wV pc]).set 17 (wV q) = a.map wV ++ [.bool true, wV q] := by
 simp_all
theorem a0f {a : List Nat} {pc i x} (h : a.length = 16) (b : i < 16) : (a.map wV ++ [Value.bool true, wV pc]).set (i * 1) (wV x) = (a.set i x).map wV ++ [.bool true, wV pc] := by
 simp_all
theorem AR (a : List Nat) : fy (a.map wV) = true := by simp [fy, wV, Value.oneCell']
section
variable {P : Program} {S : World → Prop} {N : FSz} {e : b0} {t : TypeId} {l : List Value} {v : Value}
theorem a0g {E n i : Nat} {y} (h : P.underlying t = some (.array n E)) (j : ∀ w, (sizeOf E).run P w = .ok 1 w) (k : ∀ w, (zeroValue t).run P w = .ok (.agg l.toArray) w)
    (m : ev e y = some v) (o : v.oneCell' = true) (u : i < l.length) : bR P S N e (.build t #[(i, y)]) (.agg (l.set i v).toArray) := fun a w _ _ _ _ _ p _ => by
 have q : Instr.build t ((#[(i, y)] : Array (Nat × Operand)).map fun (i, x) => (i, a.eval x)) = (do
     let zero := (← zeroValue t).cells
     match ← underlying t with
     | .struct c =>
       let d ← c.mapM sI
       let some b := Instr.fill (d[·]?) zero ((#[(i, y)] : Array (Nat × Operand)).map fun (i, x) => (i, a.eval x)).toList | stuck "build: no such field, or a part of the wrong size"
       pure (.agg b)
     | .array _ g =>
       let f ← sizeOf g
       let some b := Instr.fill (fun i => some (i * f, f)) zero ((#[(i, y)] : Array (Nat × Operand)).map fun (i, x) => (i, a.eval x)).toList | stuck "build: a part of the wrong size"
       pure (.agg b)
     | _ => stuck "build: struct or array type expected") := rfl
 have r : ¬ (i + 1 > l.length) := by omega
 have s : Instr.fill (fun i => some (i * 1, 1)) l.toArray [(i, a.eval y)] = some (l.set i v).toArray := by
  simp only [Instr.fill, p.eval m, u9 o, QaA];simp [r]
 simp only [execOp, q, Sem.run_bind, k, fq h, j, Result.andThen_ok, Value.cells, Sem.run_pure, Qci, QaL, Qcf];rw [s]; rfl
end
theorem a0h : sP W0 179 [] R (fun v B => ∃ b, v = pQ b ∧ B = pt b (dR (List.replicate 16 0) 0) :: R) := by
 refine am func179 ntmps179 ?_;refine aa (fB a7H zeroValue290 (aL Nh (aL aU fA)) (kj rfl Nh rfl rfl (Qaa rfl) rfl fz)) ?_;refine bA fun a => ?_;refine ae ?_;exact ⟨_, ⟨_, rfl, rfl⟩, ent_refl⟩
theorem JX b rl pc (c : rl.length = 16) : sQ W0 75 [pQ b] (pt b (dR rl pc) :: R) (.agg (rl.map wV).toArray) (pt b (dR rl pc) :: R) := by
 refine am func75 ntmps75 ?_;refine fi (dQ NC) fun d => ?_;refine aw ?_;refine aD rfl (fun a => ?_) fun a => ?_;cases a;refine aw ?_;refine ac rfl (gK vm nY rfl (cJ (b := b) (a0c c) (by grind)) (by grind)) ?_;refine av (fM nY rfl rfl (by grind) (AR rl) rfl) ?_;exact aS (.cons (aX vm nY rfl (by grind)) .nil) ap
theorem qS b rl pc (c : rl.length = 16) : sQ W0 76 [pQ b] (pt b (dR rl pc) :: R) (wV pc) (pt b (dR rl pc) :: R) := by
 refine jq 12 func76 ntmps76 ?_;refine aD rfl (fun a => ?_) fun a => ?_;cases a;refine aw ?_;refine iS 4 (aF (aJ (a0d c))) ?_;exact ae ap
theorem yh b rl pc q (c : rl.length = 16) : sQ W0 142 [pQ b, wV q] (pt b (dR rl pc) :: R) (iQ 0) (pt b (dR rl q) :: R) := by
 refine am func142 ntmps142 ?_;refine dj rfl rfl rfl (fun a => ?_) fun a => ?_;cases a;refine aw ?_;refine iS 5 (aF (aJ (JW c))) ?_;refine jR ?_;refine jb 8 (du (by grind) (a0e c)) ?_;exact ae ap
def hJ (i : Int) : Bool := decide (0 ≤ i ∧ i < 16)
theorem AS b rl pc (a : rl.length = 16) i : sQ W0 203 [pQ b, iQ i] (pt b (dR rl pc) :: R) (iQ (if hJ i then 0 else 1)) (pt b (dR rl pc) :: R) := by
 refine am func203 ntmps203 ?_;refine iS 4 (aF (aJ (JW a))) ?_;refine jR ?_;refine aD rfl (fun c => ?_) fun c => ?_;refine ii ?_;refine aH (xl rfl (aQ (aY (ac rfl (bj rfl) (aP (aH (dv (my (gQ (ae ?_))))))))));rw [Qab (by grind [hJ])];exact ap;refine aw ?_;refine ai (fun d => ?_) fun d => ?_;refine ae ?_;rw [Qab (by grind [hJ])];exact ap;refine ae ?_;rw [Qad (by grind [hJ])];exact ap
theorem a0i b rl (pc i x : Nat) (d : rl.length = 16) (a : i < 16) (e : i ≠ 0) : sQ W0 204 [pQ b, iQ i, wV x] (pt b (dR rl pc) :: R) (.tuple #[]) (pt b (dR (rl.set i x) pc) :: R) := by
 refine am func204 ntmps204 ?_;refine aD rfl (fun c => ?_) fun c => ?_;refine au 6 ?_;refine aa (eL a) ?_;refine av (du (by grind) (a0f d a)) ?_;refine bK (.inr rfl) .nil ?_;exact ap;simp at c; omega
theorem Ey W0 R b rl (pc i x : Nat) (c : rl.length = 16) (f : i < 16) (g : i ≠ 0) : sQ W0 141 [pQ b, iQ i, wV x] (pt b (dR rl pc) :: R) (iQ 0) (pt b (dR (rl.set i x) pc) :: R) := by
 have a : hJ i = true := by grind [hJ]
 refine jq 12 NU ntmps141 ?_;refine aD rfl (fun d => ?_) fun d => ?_;cases d;refine aw ?_;refine ew 10 (ao GC (AS b rl pc c i)) ?_;refine ai (fun e => ?_) fun e => ?_;refine ah (ao call204 (a0i b rl pc i x c f g)) ?_;refine ae ?_;rw [a];exact ap;exact absurd (by rw [a]; rfl) e
abbrev JY (id : Nat) : Obj := ag ([wV 0, wV 0, wV 0, wV 0, wV 0, wV 4, wV 0] ++ [.int .i64 id, .bool true]) 219
theorem a0j : sQ W0 262 [] R (.agg #[wV 0, wV 0, wV 0, wV 0, wV 0, wV 4, wV 0]) R := by
 refine am func262 ntmps262 ?_;refine bi fun a => ?_;refine aa (a0g iP aU Gj rfl rfl (by decide)) ?_;refine av aB ?_;exact aS (.cons (aX Cy rq rfl rfl) .nil) ap
theorem a0k (i : Nat) (d : i < 4) : sP W0 177 [iQ i] R (fun v B => ∃ b, v = .tuple #[pQ b, iQ 0] ∧ B = pt b (JY i) :: R) := by
 refine am func177 ntmps177 ?_;refine dj rfl rfl rfl (fun a => ?_) fun a => ?_;omega;refine aw ?_;refine aD rfl (fun c => ?_) fun c => ?_;omega;refine aw ?_;refine ah (aC call262 (a0j)) ?_;refine aa (fB a7E zeroValue219 (aL rq (aL aR (aL gO fA))) (kj rfl rq rfl rfl (Qaa rfl) SetRL.eq (bW rfl aR rfl rfl (Qaa rfl) SetL.eq (bW rfl gO rfl rfl (Qaa rfl) SetL.eq fz)))) ?_;refine bA fun e => ?_;refine aA ?_;exact ⟨_, ⟨_, rfl, rfl⟩, ent_refl⟩
abbrev tf : Obj := ag ([.bool false, .bool false, .int .i64 0, .int .i64 0, .bool false, .bool false, .int .i64 0, .int .i64 0, .bool false, .bool false, .int .i64 0, .int .i64 0, .bool false, .bool false, .int .i64 0, .int .i64 0, .bool false, .bool false, .int .i64 0, .int .i64 0, .bool false, .bool false, .int .i64 0, .int .i64 0, .bool false, .bool false, .int .i64 0, .int .i64 0, .bool false, .bool false, .int .i64 0, .int .i64 0, .slice none 0 0, .int .i64 0, .bool false].set 34 (.bool true)) 229
theorem a0l : sP W0 180 [] R (fun v B => ∃ b, v = pQ b ∧ B = pt b tf :: R) := by
 refine am func180 ntmps180 ?_;refine bA fun a => ?_;refine ae ?_;exact ⟨_, ⟨_, rfl, rfl⟩, ent_refl⟩
abbrev tj : Obj := ag [ek, .bool false, .bool false, .bool false, .bool false, .int .i64 0, .bool true] 256
theorem a0m : sP W0 181 [] R (fun v B => ∃ b, v = pQ b ∧ B = pt b tj :: R) := by
 refine am func181 ntmps181 ?_;refine bA fun a => ?_;refine ae ?_;exact ⟨_, ⟨_, rfl, rfl⟩, ent_refl⟩
abbrev mZ : Obj := ag [ek, .bool true] 211
theorem a0n : sP W0 92 [] R (fun v B => ∃ b, v = pQ b ∧ B = pt b mZ :: R) := by
 refine am func92 ntmps92 ?_;refine bA fun a => ?_;refine ae ?_;exact ⟨_, ⟨_, rfl, rfl⟩, ent_refl⟩
structure Evt where
  k : Int
  clock : Int
  code : Nat
  val : Nat
  pc : Nat
  rl : List Nat
@[reducible] def eS (e : Evt) : List Value := [.int .i64 e.k, .int .i64 e.clock, wV e.code, wV e.val, wV e.pc] ++ (List.range 16).map fun i => wV (e.rl.getD i 0)
theorem tp e : (eS e).length = 21 := by simp [eS]
theorem JZ {e} (h : e.rl.length = 16) : eS e = [iQ e.k, iQ e.clock, wV e.code, wV e.val, wV e.pc] ++ e.rl.map wV := by
 unfold eS; congr 1;apply QaS;simp [h];grind
theorem a0o e : fy (eS e) = true := by simp [fy, eS, wV, Value.oneCell']
def gx (b : Nat) (es : List Evt) : HP := chk (fun C => ∃ a c, C = [pt b (ag [.slice a es.length c, .bool true] 302), osl 208 21 (.slice a es.length c) (es.flatMap eS)])
section
variable {P : Program} {W0 : World} {N : FSz} {K : Act → World → Prop} {e : b0} {A B R R1 R2 : List HP} {b n : Nat} {es : List Evt} {f : FuncId} {args : List Value} {Post : Value → List HP → Prop}
theorem AT [hk : Tk gx b A es R] (h : ∀ a c, ax W0 N K e (pt b (ag [.slice a es.length c, .bool true] 302) :: osl 208 21 (.slice a es.length c) (es.flatMap eS) :: R)) : ax W0 N K e A :=
  gk (r := gx) (b := b) (nu fun C d => by obtain ⟨a, c, rfl⟩ := d; exact h a c)
theorem yi {a c xs} [d : Tk pt b A (ag [.slice a n c, .bool true] 302) R1] [e : Tk (osl 208 21) (.slice a n c) R1 xs R2] (f : n = es.length) (g : xs = es.flatMap eS) [k : Ent R2 B] : Ent A (gx b es :: B) := by
 subst f; subst g;exact (Ent.ofPerm (d.perm.trans (e.perm.cons _))).trans ((Ent.cons (Ent.cons k)).trans (g5 (R := B) (C := [_, _]) ⟨a, c, rfl⟩))
end
theorem a0p : sP W0 93 [] R (fun v B => ∃ b, v = pQ b ∧ B = gx b [] :: R) := by
 refine am func93 ntmps93 ?_;refine bA fun a => ?_;refine ae ?_;exact ⟨_, ⟨_, rfl, rfl⟩, (Ent.cons (fQ (E := 208) (sz := 21) (A := R) (B := R))).trans (g5 (R := R) (C := [_, _]) ⟨none, 0, rfl⟩)⟩
theorem Ez b es : sQ W0 190 [pQ b] (gx b es :: R) (.bool false) (gx b es :: R) := by
 refine am func190 ntmps190 ?_;refine AT (b := b) fun a c => ?_;refine aw ?_;refine dj rfl rfl rfl (fun d => ?_) fun d => ?_;cases d;refine aw ?_;refine ae ?_;exact ⟨_, ⟨rfl, rfl⟩, yi rfl rfl⟩
theorem a0q W0 R b es x (m : es.length < 4096) : sQ W0 202 [pQ b, .agg (eS x).toArray] (gx b es :: R) (iQ 0) (gx b (es ++ [x]) :: R) := by
 have g : es.flatMap eS ++ [eS x].flatten = (es ++ [x]).flatMap eS := by simp
 refine am func202 ntmps202 ?_;refine fi (kh rfl) fun i => ?_;refine ac rfl (bj rfl) (aP (aH (aQ (nq (aQ (aY (ac rfl (aM rfl) (aG rfl (iZ NV rfl (Ez b es)) ?_))))))));rintro _ n ⟨rfl, e⟩;obtain rfl := e.symm;refine ac rfl (bj rfl) (aP (aH ?_));refine aD rfl (fun h => ?_) fun h => ?_;exact absurd h (by decide);refine aQ ?_;refine AT (b := b) fun a c => ?_;refine aY (ac rfl (aM rfl) (ac rfl (ik rfl) ?_));refine ac rfl (cD rfl a7I rfl Ce rfl (by first | exact Qac _ | rfl)) ?_;refine ac rfl (cg G5 rfl (aJ rfl)) ?_;refine ac rfl (xe lE rfl) (ac rfl (sG rfl rfl) (ac rfl (bj rfl) (aP (aH ?_))));refine aD rfl (fun f => ?_) fun f => ?_;omega;refine ii (oL (aH (aQ ?_)));refine bc [i] 11 fun d => ?_;refine aj 0 4 d ?_;refine az 5 d (gK NW qe rfl (j9 (k := 0) rfl) (tp x)) ?_;refine fP (is := [4, 6]) (by kernel_rfl) rfl ⟨?_, ?_, trivial⟩;refine dL (dP (aF (aJ rfl))) ?_; clear d;rintro _ _ ⟨rfl, rfl⟩;refine ⟨aV, fun d => ?_⟩;refine lN 6 (by kernel_rfl) rfl rfl (j0 lE qe zy rfl (fR rfl rfl iG) rfl (by decide) (by decide) (by decide)) rfl ?_; clear d;rintro _ _ ⟨j, rfl, rfl⟩;refine ⟨aV, fun d => ?_⟩;refine bX 7 (eW (sz := 21) (by_ := 96) (info := Tryz.t208) lE (by kernel_rfl) rfl rfl rfl rfl (by decide) rfl rfl eK rfl rfl (by simp only [maxLen]; omega) (by omega)) ?_; clear d;rintro _ _ ⟨l, f, rfl, rfl⟩;refine ⟨aV, fun d => ?_⟩;refine aj 8 2 d ?_;refine cj 10 eg fun d => ?_;refine gC ?_;refine aH (aQ (aY (ac rfl (bj rfl) (aP (aH (dv (ae ?_)))))));exact ⟨_, ⟨rfl, rfl⟩, yi (es := es ++ [x]) (by simp) g⟩;skip;refine mD rfl rfl (j0 lE qe zy rfl (fR rfl rfl iG) rfl (by decide) (by decide) (by decide)) rfl ?_; clear d;rintro _ _ ⟨j, rfl, rfl⟩;refine ⟨aV, fun d => ?_⟩;refine bG 4 (dP (aF (aJ rfl))) fun d => ?_;refine bX 7 (eW (sz := 21) (by_ := 96) (info := Tryz.t208) lE (by kernel_rfl) rfl rfl rfl rfl (by decide) rfl rfl eK rfl rfl (by simp only [maxLen]; omega) (by omega)) ?_; clear d;rintro _ _ ⟨l, f, rfl, rfl⟩;refine ⟨aV, fun d => ?_⟩;refine aj 8 2 d ?_;refine cj 10 eg fun d => ?_;refine aK ?_;refine ae ?_;exact ⟨_, ⟨rfl, rfl⟩, yi (es := es ++ [x]) (by simp) g⟩
end
section
structure It where
  kr : Int
  kp : Int
  ep : Int
  ef : Int
  er : Int
  u : Int
deriving DecidableEq
instance : Inhabited It := ⟨⟨0, 0, 0, 0, 0, 0⟩⟩
def It.key (x : It) : Int × Int := (x.kr, x.kp)
def It.ent (x : It) : Int × Int × Int := (x.ep, x.ef, x.er)
def bT (x : It) : List Value := [.int .i64 x.kr, .int .i64 x.kp, .int .i64 x.ep, .int .i64 x.ef, .int .i64 x.er, .int .i64 x.u]
theorem iW x : (bT x).length = 6 := rfl
def us (l : List It) (i : Nat) : Int := (l.getD i default).u
theorem us_eq {l i} h : us l i = l[i].u := by simp [us, List.getD, h]
def swapL (l : List It) (i j : Nat) : List It := (l.set i (l.getD j default)).set j (l.getD i default)
theorem xR l i j : (swapL l i j).length = l.length := by simp [swapL]
theorem rS {l i j} (a : i < l.length) (b : j < l.length) x : (swapL l i j).getD x default = if x = i then l.getD j default else if x = j then l.getD i default else l.getD x default := by
 grind [swapL]
theorem kW {l i j} (a : i < l.length) (b : j < l.length) x : us (swapL l i j) x = if x = i then us l j else if x = j then us l i else us l x := by
 grind [us, rS]
theorem DZ {α : Type} : ∀ (l : List α) (i j : Nat) (a : i < l.length) (b : j < l.length), ((l.set i l[j]).set j l[i]).Perm l := by
 grind [List.set_set_perm]
theorem kF {l i j} (a : i < l.length) (b : j < l.length) : (swapL l i j).Perm l := by
 grind [DZ, swapL]
def Heap (l : List It) (n : Nat) : Prop := ∀ c, c < n → 0 < c → us l ((c - 1) / 2) ≤ us l c
def jF (l : List It) (i n : Nat) : Prop := ∀ c, c < n → 0 < c → (c ≠ i → (c - 1) / 2 ≠ i → us l ((c - 1) / 2) ≤ us l c) ∧ ((c - 1) / 2 = i → 0 < i → us l ((i - 1) / 2) ≤ us l c)
def Up (l : List It) (j n : Nat) : Prop := ∀ c, c < n → 0 < c → (c ≠ j → us l ((c - 1) / 2) ≤ us l c) ∧ ((c - 1) / 2 = j → 0 < j → us l ((j - 1) / 2) ≤ us l c)
theorem E0 {l i j n} (h : jF l i n) (t : n ≤ l.length) (p : j < n) (g : (j - 1) / 2 = i) (q : 0 < j) (r : us l j < us l i)
    (k : ∀ c, c < n → 0 < c → (c - 1) / 2 = i → us l j ≤ us l c) : jF (swapL l i j) j n ∧ us (swapL l i j) ((j - 1) / 2) ≤ us (swapL l i j) j := by
 have s : i < j := by omega
 have d := kW (l := l) (i := i) (j := j) (by omega) (by omega);refine ⟨fun c a b => ⟨fun e m => ?_, fun e m => ?_⟩, ?_⟩;rw [d, d];by_cases f : c = i;subst f;have := (h j p q).2 g (by omega);rw [Qab (by omega), Qab (by omega), Qad rfl]; exact this;by_cases o : (c - 1) / 2 = i;grind;rw [Qab o, Qab m, Qab f, Qab e]; exact (h c a b).1 f o;rw [g, d, d, Qad rfl, Qab (by omega), Qab (by omega)];rw [← e]; exact (h c a b).1 (by omega) (by omega);grind
theorem xS {l i n} (h : jF l i n) (a : ∀ c, c < n → 0 < c → (c - 1) / 2 = i → us l i ≤ us l c) (g : 0 < i → us l ((i - 1) / 2) ≤ us l i) : Heap l n := fun c b d => by
 by_cases e : (c - 1) / 2 = i;grind;by_cases f : c = i;grind;exact (h c b d).1 f e
theorem An {l i n} (h : jF l i n) (a : ∀ c, c < n → 0 < c → (c - 1) / 2 = i → us l i ≤ us l c) : Up l i n := fun c b d => ⟨fun e => by
 by_cases f : (c - 1) / 2 = i;grind
 exact (h c b d).1 e f, (h c b d).2⟩
theorem E1 {l j n} (h : Up l j n) (q : n ≤ l.length) (r : j < n) (m : 0 < j) (o : us l j < us l ((j - 1) / 2)) : Up (swapL l ((j - 1) / 2) j) ((j - 1) / 2) n := by
 have d := kW (l := l) (i := (j - 1) / 2) (j := j) (by omega) (by omega);intro c e a;refine ⟨fun f => ?_, fun f p => ?_⟩;rw [d, d];by_cases b : c = j;omega;by_cases g : (c - 1) / 2 = (j - 1) / 2;rw [Qad g, Qab (by omega), Qab b];have := (h c e a).1 b; rw [g] at this; omega;by_cases k : (c - 1) / 2 = j;rw [Qab g, Qad k, Qab f, Qab b]; exact (h c e a).2 k m;rw [Qab g, Qab k, Qab f, Qab b]; exact (h c e a).1 b;rw [d, d, Qab (by omega), Qab (by omega)];have s := (h ((j - 1) / 2) (by omega) p).1 (by omega);by_cases b : c = j;omega;rw [Qab (by omega), Qab b];have := (h c e a).1 b; rw [f] at this; omega
theorem xT {l j n} (h : Up l j n) (d : 0 < j → us l ((j - 1) / 2) ≤ us l j) : Heap l n := fun c a b => by
 by_cases e : c = j;grind;exact (h c a b).1 e
theorem heap_min {l n} (h : Heap l n) : ∀ c, c < n → us l 0 ≤ us l c := by
 intro c
 induction c using Nat.strongRecOn with
 | _ c a =>
  intro b;by_cases d : c = 0;grind;have := h c b (by omega);have := a ((c - 1) / 2) (by omega) (by omega);omega
theorem Ao {l i x n} (h : Heap l n) (j : i < l.length) : jF (l.set i x) i n := fun c d f => by
 have e : ∀ y, y ≠ i → us (l.set i x) y = us l y := fun y k => by
  unfold us; simp only [Qau]; rw [QaP (by omega)]
 refine ⟨fun a b => ?_, fun a b => ?_⟩;rw [e _ a, e _ b]; exact h c d f;rw [e _ (by omega), e _ (by omega)];have g := h c d f;have m := h i (by omega) b;rw [a] at g; omega
theorem xU {l l' n} (h : ∀ i, i < n → l.getD i default = l'.getD i default) {i} (a : i < n) : us l i = us l' i := by unfold us; rw [h i a]
theorem E2 {l l' n} (h : ∀ i, i < n → l.getD i default = l'.getD i default) (k : Heap l n) : Heap l' n := fun c a b => by
 rw [← xU h a, ← xU h (i := (c - 1) / 2) (by omega)]; exact k c a b
theorem E3 {l n m} (h : Heap l n) (k : m ≤ n) : Heap l m := fun c b a => h c (by omega) a
structure Down (its l : List It) (i0 n : Nat) (moved : Bool) : Prop where
  perm : l.Perm its
  tail : ∀ x, n ≤ x → l.getD x default = its.getD x default
  no : moved = false → l = its ∧ ∀ c, c < n → 0 < c → (c - 1) / 2 = i0 → us its i0 ≤ us its c
  yes : moved = true → Heap l n
theorem xV {l its i i0 n} (b : l.Perm its) (j : i0 ≤ i) (d : jF l i n) (e : ∀ x, n ≤ x → l.getD x default = its.getD x default) (f : i = i0 → l = its)
    (g : i0 < i → us l ((i - 1) / 2) ≤ us l i) (a : ∀ c, c < n → 0 < c → (c - 1) / 2 = i → us l i ≤ us l c) : Down its l i0 n (decide (i0 < i)) :=
  ⟨b, e, fun h => by
 have : i = i0 := by grind
 subst this;obtain rfl := f rfl;exact ⟨rfl, a⟩, fun h => by
 have : i0 < i := by simpa using h
 exact xS d a fun _ => g this⟩
end
end Go.Proofs.YtofillmoflhijaaGreatDoor
