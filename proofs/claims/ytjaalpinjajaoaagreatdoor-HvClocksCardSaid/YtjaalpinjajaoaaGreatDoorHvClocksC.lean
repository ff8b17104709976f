/-
  Part 3 of the proof of HvClocks: rules, and walks of functions. Conditions: none.
-/
import Derived.Test.YtjaalpinjajaoaaGreatDoorHvClocksB
namespace Go.Proofs.YtjaalpinjajaoaaGreatDoor
open Go.Proofs.Tryz
set_option linter.unusedSimpArgs false
set_option linter.unusedVariables false
set_option maxRecDepth 20000
set_option linter.defProp false
set_option synthInstance.maxSize 8192
set_option synthInstance.maxHeartbeats 2000000
variable{W0:World}{R:List HP}
variable {arr:Array Value}{c:Cfg}{N:FSz}{f head:Int}{ss:List (List Nat)}{A:List HP}{b bs rl:List Nat}{pg:List Pl}{rs:List Rn}{ys:List Value}{fr:List az}{d i j k len n pa pc w:Nat}{mk:Nat×Nat}{a aL:Option Addr}{m:Option Nat}{r:Rg3}{W0:World}{e:bK}
section
open Go.RowKit
theorem a9h(ps:Nat)(fr:List az)(f:Nat)(hf:f<fr.length):sQ W0 258 [pQ ps,iQ f] (aH ps fr::R) (iQ 0) (aH ps (fr.set f gy)::R):=by
 have hi:jm fr.length f=true:=by grind[jm]
 refine am func258 ntmps258 ?_;refine ao (ar FY (BK ps fr f)) ?_;apply ap<;>intro c2;exact absurd c2 abg;refine BJ (ps:=ps) λg=>?_;refine aw (ac (Kf Jq ku zeroValue416 Z) ?_);refine ac (cu hf) ?_;refine aJ (kh (by rw[QP];omega) (QO (y:=gy) hf Z)) ?_;exact ag ⟨_,⟨Z,Z⟩,vc Z n4⟩
theorem BX(f g:Nat)(d:Po)(h:0<d.length):sQ W0 161 [pQ f] (cz f (g,d)::R) (.bool false) (cz f (g,d)::R):=by refine Rh λa c k l i j=>?_;refine am func161 ntmps161 ?_;apply d7 Z Z Z<;>intro b;cases b;exact aw (ag ⟨_,⟨by simp[bY,show d≠[]from λe=>by subst e;simp at h],Z⟩,BU Z i j Z Z⟩)
theorem La(d g:Nat)(e:Po)(f:Int):sQ W0 162 [pQ d,iQ f] (cz d (g,e)::R) (.bool (jm e.length f)) (cz d (g,e)::R):=by
 refine Rh λa c j k h i=>?_;refine am func162 ntmps162 ?_;apply e9<;>intro b;refine ag ⟨_,⟨?_,rfl⟩,BU rfl h i rfl rfl⟩;refine Qak Value.bool ?_;rw[Qah,jm,Qag]
 first
   |(rw[Qag];constructor<;>(intro q;omega))
   | (constructor
      · intro q;first|omega|(cases q)
      intro q;omega)
 refine ag ⟨_,⟨?_,rfl⟩,BU rfl h i rfl rfl⟩;refine Qak Value.bool ?_;rw[Qah,jm,Qag]
 first
   |(rw[Qag];constructor<;>(intro q;omega))
   | (constructor
      · intro q;first|omega|(cases q)
      intro q;omega)
def tW(w:Int):Bool:=decide (0≤w/\w<16)
theorem Ha(w:Int):sQ W0 163 [iQ w] R (.bool (tW w)) R:=by
 refine am func163 ntmps163 ?_;apply e9<;>intro a;refine ag (aP (Qak Value.bool ?_));rw[Qah,tW,Qag]
 first
   |(rw[Qag];constructor<;>(intro q;omega))
   | (constructor
      · intro q;first|omega|(cases q)
      intro q;omega)
 refine ag (aP (Qak Value.bool ?_));rw[Qah,tW,Qag]
 first
   |(rw[Qag];constructor<;>(intro q;omega))
   | (constructor
      · intro q;first|omega|(cases q)
      intro q;omega)
theorem a9i:∀n,(List.replicate n ((-1),false)).flatMap gE=(List.replicate n [Value.int .i64 (-1),.bool false]).flatten
 |0=>Z
 |n+1=>by rw[List.replicate_succ,QaT,a9i n,List.replicate_succ,List.flatten_cons]
theorem a9j n:(List.replicate n ((-1),false)).flatMap gE++[[Value.int .i64 (-1),.bool false]].flatten=(List.replicate (n+1) ((-1),false)).flatMap gE:=by grind[List.replicate_succ']
theorem Rp{R}:∀n,Ent R (kH 2 (bB (((List.replicate n iA).zip (List.replicate n [])).map fB))::R)
 |0=>ke (A:=[])
 |n+1=>by
  have a:=Rp (R:=R) n;refine a.trans ?_;refine(kd (A:=((List.replicate n iA).zip (List.replicate n ([]:List Nat))).map fB) (R:=R)).trans ?_;refine(eW (E:=3) (sz:=1) (B:=((List.replicate n iA).zip (List.replicate n ([]:List Nat))).map fB++R)).trans ?_;exact ke (A:=fB (iA,[])::((List.replicate n iA).zip (List.replicate n ([]:List Nat))).map fB) (R:=R)
theorem a9k(d:Nat)(b:List az)(n:0<b.length)(f:b.length≤32):sP W0 96 [pQ d] (aH d b::R) (λv B=>∃e,v=.tuple #[pQ e,iQ 0]/\B=cz e (d,List.replicate b.length (-1,false))::aH d b::R):=by
 refine am func96 ntmps96 ?_;refine ao (ar B7 (xL d b)) ?_;apply aB Z<;>intro g;omega;refine aw ?_;refine bR λe=>?_;refine ao (ar B7 (xL d b)) ?_;refine fI (λX:Nat×Option Addr×Nat=>X.1≤b.length) (λX=>[(4,pQ e),(12,iQ (b.length:Nat)),(13,iQ X.1)]) (λX=>pt e (ae (ik d (.slice X.2.1 X.1 X.2.2) (List.replicate 16 iA)) 284)::osl 286 2 (.slice X.2.1 X.1 X.2.2) ((List.replicate X.1 ((-1:Int),false)).flatMap gE)::aH d b::R) (λX=>b.length-X.1) (0,none,0) ?_ ?_ ?_ ?_;omega
 · exact ai
 exact(Ent.ofPerm (List.Perm.swap _ _ _)).trans (Ent.cons (eW (E:=286) (sz:=2)));intro ⟨i,h,j⟩ hi;dsimp only at hi ⊢;refine aw (ap (λk=>?_) λk=>?_);refine dh (ji FO J8 c2r Z (fK Z Z iH) Z cl cl cl) λo=>?_;refine aF Z (fR (sz:=2) (by_:=16) (info:=Tryz.t286) FO ld Z Z Z Z cl Z Z eQ Z Z n5 aq) ?_;rintro _ _ ⟨l,m,rfl,rfl⟩;refine aw (aJ dr (ac cK (d8 (i+1,l,m) ?_ (he:=?_))));omega;dsimp only;rw[<-a9j];exact IO;refine aZ ?_;obtain rfl:i=b.length:=aq;refine⟨_,⟨e,Z,Z⟩,?_⟩;exact(Ent.cons (Ent.cons (Rp (R:=aH d b::R) 16))).trans (BU (a:=h) (c:=j) Z n4 (LsOk.new _) n4 Z)
theorem Rq(l h:Nat)(d:Po)(m:List az)(f w:Nat)(t:Bool)(D:f<d.length)(I:f<m.length)(y:w<16)(P:PoOk d)(V:dw d f=((w:Int),t))(a:Option Addr)(c:Nat)(p:List Value)(v:List (List Nat))(Q:p.length=16)(F:LsOk (d.set f (-1,false)) v):sQ W0 164 [pQ l,iQ f] (pt l (ae (ik h (.slice a d.length c) p) 284)::osl 286 2 (.slice a d.length c) (d.flatMap gE)::kH 2 (bB ((p.zip v).map fB))::aH h m::R) (iQ 0) (cz l (h,d.set f ((w:Int),false))::aH h (m.set f gy)::R):=by
 have q:=F.row w y
 have J:PoOk (d.set f (-1,false)):=⟨by rw[Qal];exact P.len,λg S=>by
  rw[Qal]at S;rw[kT D];split;grind
  exact P.who g S⟩
 have W:=F.rlen J y;have s:=a8K (po:=d.set f (-1,false)) (f:=f) (w:=w) mv (by grind[kT]);rw[Qdb]at s;have G:∀u,u<16->u≠w->cG (d.set f ((w:Int),false)) u=cG (d.set f (-1,false)) u:=λu hu X=>by
  have:=KO (po:=d.set f (-1,false)) (f:=f) (x:=((w:Int),false)) (w:=u) mv (by grind[kT]) mv;rw[Qdb]at this;exact this
 have H:(d.set f ((dw d f).1,false))=d.set f ((w:Int),false):=by rw[V]
 refine jj 6 func164 ntmps164 ?_;refine ix (r:=osl 286 2) (b:=.slice a d.length c) (qf (λU K=>by have:=Qak List.length K;rw[vh]at this;simp at this;omega) λg n Y C U K Z h4 h5=>?_);cases U;refine aw (ac (cu D) ?_);refine fw 3 (fg aq (Ri d C f false D)) ?_;rw[H];refine gK (B:=pt g (ae ((d.set f ((w:Int),false)).flatMap gE++C) 286)::kB w l (v.getD w [],ik h (.slice (some ⟨g,0,none⟩) d.length c) p)::kH 3 (bB (((p.zip v).map fB).eraseIdx w))::aH h m::R) ?_ ?_;refine Ent.cons ?_;exact H2 y Q F.len;have L:((d.set f ((w:Int),false)).flatMap gE++C)[f*2+0]?=some (iQ ((w:Nat):Int)):=by
  rw[KW _ _ _ _ mv cl,kT D,Qad ρ];rfl
 have M:((d.set f ((w:Int),false)).flatMap gE++C).length=c*2:=by
  grind[Qaf,vh]
 refine dY [(l,1,[.slice (some ⟨g,0,none⟩) d.length c]),(g,0,_)] 16 mixed ρ (dA (KR (T:=284) (E:=3) (sz:=1) (f:=mF) (o:=2+w*1) aq ρ) (bj bI)) (λi=>?_);refine aj 0 4 i ?_;refine aE 4 i (aY (n0 (k:=0) (j:=0) ρ ρ)) ?_;refine aj 5 1 i ?_;refine aE 6 i (cu D) ?_;refine aj 7 1 i ?_;refine aE 8 i (aY (d6 (k:=1) ρ L)) ?_;refine aj 9 2 i ?_;refine aE 11 i (iy y) ?_;refine aj 12 3 i ?_;refine co 15 (ar Ju (a83 l w (v.getD w []) f (ik h (.slice (some ⟨g,0,none⟩) d.length c) p) aq q.2)) ?_;clear i;rintro _ _ ⟨rfl,l',rfl,hp,hh⟩;refine⟨(dA (KR (T:=284) (E:=3) (sz:=1) (f:=mF) (o:=2+w*1) aq ρ) (bj bI)),λi=>?_⟩;refine eY (au 2 (gK (B:=cz l (h,d.set f ((w:Int),false))::aH h m::R) ?_ ?_));have e:=jG (E:=286) (sz:=2) (g:=g) (n:=d.length) (cap:=c) (xs:=(d.set f ((w:Int),false)).flatMap gE) (sp:=C) (A:=pt g (ae ((d.set f ((w:Int),false)).flatMap gE++C) 286)::kH 3 (bB (((p.zip v).map fB).eraseIdx w))::aH h m::R) (B:=kH 3 (bB (((p.zip v).map fB).eraseIdx w))::aH h m::R) K Z mv M;refine(Ent.cons e).trans ?_;exact H3 y Q ρ n4 F.len (F.set y (hp.trans ((q.1.append_right [f]).trans s)) hh G);refine BS (pb:=l) λa2 c2 x0 x1 N O=>?_;refine aw (ao (ar call258 (a9h h m f I)) ?_);exact ag ⟨_,⟨ρ,ρ⟩,BU ρ N O n4 ρ⟩
theorem a9l(pb ps:Nat)(po:Po)(fr:List az)(f w:Nat)(hf:f<po.length)(hff:f<fr.length)(hw:w<16)(hP:PoOk po)(ha:dw po f=(-1,false)):sQ W0 99 [.pointer (some ⟨pb,0,none⟩),.int .i64 f,.int .i64 w] (cz pb (ps,po)::aH ps fr::R) (.int .i64 0) (cz pb (ps,po.set f ((w:Int),false))::aH ps (fr.set f gy)::R):=by
 have hi:jm po.length f=true:=by grind[jm]
 have hw':tW w=true:=by grind[tW]
 have h0:po.set f (-1,false)=po:=by
  grind[dw,List.getD,Qcs]
 refine jj 10 func99 ntmps99 ?_;refine cW 3 (eg G0 Z (BX pb ps po aq)) ?_;apply aB Z<;>intro c1;exact absurd c1 cl;refine au 5 (cW 4 (eg Y6 Z (La pb ps po f)) ?_);apply aB Z<;>intro c3;exact absurd c3 abg;refine au 2 (cW 4 (gx Oy Z (Ha w)) ?_);apply aB Z<;>intro c4;exact absurd c4 (by simp[hw']);refine aG (BS (pb:=pb) λa c vs Ls hv hL=>?_);refine ix (r:=osl 286 2) (b:=.slice a po.length c) (qf (λh1 h2=>by have:=Qak List.length h2;rw[vh]at this;simp at this;omega) λg n cap sp h1 h2 h3 h4 h5=>?_);cases h1;refine au 6 (aa Z (kP FO J8 Z Z Z hf dg) ?_);refine aa Z (Kb O5 bu) ?_;refine jU 4 (bO cM Z (aO ((KW po sp f 0 hf cl).trans (by rw[ha];rfl)))) ?_;apply aB Z<;>intro c6;exact absurd c6 cl;refine au 11 (aa Z (kP FO J8 Z Z Z hf dg) ?_);refine aa Z (Kb O5 bu) ?_;refine fw 3 (iG bu Z Z Z aq (a8T po sp f (w:Int) hf)) ?_;rw[ha];refine gK (B:=pt pb (ae (ik ps (.slice (some ⟨g,0,none⟩) (po.set f ((w:Int),false)).length c) vs) 284)::osl 286 2 (.slice (some ⟨g,0,none⟩) (po.set f ((w:Int),false)).length c) ((po.set f ((w:Int),false)).flatMap gE)::kH 2 (bB ((vs.zip Ls).map fB))::aH ps fr::R) ?_ ?_;rw[Qal];have e:=jG (E:=286) (sz:=2) (g:=g) (n:=po.length) (cap:=c) (xs:=(po.set f ((w:Int),false)).flatMap gE) (sp:=sp) (A:=pt g (ae ((po.set f ((w:Int),false)).flatMap gE++sp) 286)::kH 2 (bB ((vs.zip Ls).map fB))::aH ps fr::R) (B:=kH 2 (bB ((vs.zip Ls).map fB))::aH ps fr::R) h2 h3 (by grind[vh]) (by grind[Qaf,vh]);exact(inferInstance:Ent _ (pt pb (ae (ik ps (.slice (some ⟨g,0,none⟩) po.length c) vs) 284)::pt g (ae ((po.set f ((w:Int),false)).flatMap gE++sp) 286)::kH 2 (bB ((vs.zip Ls).map fB))::aH ps fr::R)).trans (Ent.cons e);refine au 3 (cW 4 (gU call164 Z (Rq pb ps (po.set f ((w:Int),false)) fr f w false mv hff hw (hP.set hf n4 aac) (by grind[kT]) (some ⟨g,0,none⟩) c vs Ls hv ro)) ?_);refine ag ?_;rw[Qdb];exact gj
theorem a9m(f h:Nat)(b:Po)(w:Nat)(o:0<b.length)(g:w<16):sQ W0 263 [pQ f,iQ w] (cz f (h,b)::R) (iQ ((cG b w).length:Nat)) (cz f (h,b)::R):=by
 have k:tW w=true:=by grind[tW]
 refine am func263 ntmps263 ?_;refine cW 1 (ar G0 (BX f h b o)) ?_;apply d7 Z Z Z<;>intro d;exact absurd d cl;refine aw (ao (aK Oy (Ha w)) ?_);apply aB Z<;>intro m;exact absurd m (by simp[k]);refine au 3 (BS (pb:=f) λa c l e n i=>?_);have j:=i.row w g;refine gK (B:=kB w f (e.getD w [],ik h (.slice a b.length c) l)::kH 3 (bB (((l.zip e).map fB).eraseIdx w))::osl 286 2 (.slice a b.length c) (b.flatMap gE)::R) ?_ ?_;exact(Ent.cons (Ent.ofPerm (List.Perm.swap _ _ _))).trans (H2 g n i.len);refine aw (ac (iy g) ?_);refine ao (ar Ov (H6 f w (e.getD w []) (ik h (.slice a b.length c) l))) ?_;refine ag ?_;rw[j.1.length_eq];have p:e.set w (e.getD w [])=e:=by
  rw[show e.getD w []=e[w]'(by rw[i.len];exact g) by simp[List.getD,i.len,g]];exact Qcs _
 refine⟨_,⟨Z,Z⟩,?_⟩;exact(Ent.cons (Ent.ofPerm (List.Perm.swap _ _ _))).trans (H3 g n Z Z i.len mv)
theorem Rr(pb ps:Nat)(po:Po)(w f:Nat)(l:List Nat)(hw:w<16)(hP:PoOk po)(he:cG po w=f::l):sQ W0 170 [pQ pb,iQ w] (cz pb (ps,po)::R) (.tuple #[iQ f,iQ 0]) (cz pb (ps,po.set f ((w:Int),true))::R):=by
 have hw':tW w=true:=by grind[tW]
 have hf:=nR.1 (show f∈cG po w by rw[he];simp);refine am func170 ntmps170 ?_;refine ao (ar G0 (BX pb ps po aq)) ?_;refine ao (aK Oy (Ha w)) ?_;apply aB Z<;>intro c3;exact absurd c3 (by simp[hw']);refine au 1 (BS (pb:=pb) λa c vs Ls hv hL=>?_);have hrow:=hL.row w hw;have hrl:=hL.rlen hP hw;refine gK (B:=kB w pb (Ls.getD w [],ik ps (.slice a po.length c) vs)::kH 3 (bB (((vs.zip Ls).map fB).eraseIdx w))::osl 286 2 (.slice a po.length c) (po.flatMap gE)::R) ?_ ?_;exact(Ent.cons (Ent.ofPerm (List.Perm.swap _ _ _))).trans (H2 hw hv hL.len);refine aw (ac (iy hw) ?_);refine ao (ar Ov (H6 pb w (Ls.getD w []) (ik ps (.slice a po.length c) vs))) ?_;apply ap<;>intro c5;exact absurd c5 ro;refine ac (iy hw) ?_;refine aF Z (ar Jv (a84 pb w (Ls.getD w []) (ik ps (.slice a po.length c) vs) aq (λe=>by rw[e]at hrow;have:=hrow.1.length_eq;rw[he]at this;simp at this) hrow.2)) ?_;rintro _ _ ⟨x,l',rfl,rfl,hp,hh,hm⟩;have hpp:=hp.trans hrow.1;have hmm:∀y∈cG po w,x≤y:=λy hy=>by have:=hm y (hrow.1.mem_iff.2 hy);omega
 have hx:=KP hpp hmm;have hr:=a8L hpp hmm;rw[he]at hx;obtain⟨rfl,_⟩:=List.cons.inj hx;have hk:LsOk (po.set f ((w:Int),true)) (Ls.set w l'):=hL.set hw hr hh λu hu hne=>KO hf.1 mv mv;refine jU 4 (uN ez (λ_ h=>n8) Z) ?_;refine ix (r:=osl 286 2) (b:=.slice a po.length c) (qf (λh1 h2=>by have:=Qak List.length h2;rw[vh]at this;simp at this;omega) λg n cap sp h1 h2 h3 h4 h5=>?_);cases h1;refine aw (ac (aY (E9 (T:=284) (E:=3) (sz:=1) (f:=mF) (o:=2+w*1) aq Z)) ?_);refine ac (cu hf.1) ?_;refine aJ (fg aq (Ri po sp f true hf.1)) ?_;refine aZ ?_;rw[hf.2];refine⟨_,⟨Z,Z⟩,?_⟩;have e:=jG (E:=286) (sz:=2) (g:=g) (n:=po.length) (cap:=c) (xs:=(po.set f ((w:Int),true)).flatMap gE) (sp:=sp) (A:=pt g (ae ((po.set f ((w:Int),true)).flatMap gE++sp) 286)::kH 3 (bB (((vs.zip Ls).map fB).eraseIdx w))::R) (B:=kH 3 (bB (((vs.zip Ls).map fB).eraseIdx w))::R) h2 h3 (by grind[vh]) (by grind[Qaf,vh]);exact(inferInstance:Ent _ (kB w pb (l',ik ps (.slice (some ⟨g,0,none⟩) po.length c) vs)::pt g (ae ((po.set f ((w:Int),true)).flatMap gE++sp) 286)::kH 3 (bB (((vs.zip Ls).map fB).eraseIdx w))::R)).trans ((Ent.cons e).trans (H3 hw hv Z n4 hL.len hk))
abbrev ma:=Int×Value×Nat
variable {L:List ma}
def BY(p:ma):MapEntry:={ key:=.int .i64 p.1,val:=p.2.1,born:=p.2.2 }
def lp(L:List ma):Array MapEntry:=(L.map BY).toArray
def kD:List ma->Int->Option Value
 |[],_=>none
 |p::l,k=>if p.1=k then some p.2.1 else kD l k
def mG:List ma->Int->Nat->Option (Nat×Value)
 |[],_,_=>none
 |p::l,k,i=>if p.1=k then some (i,p.2.1)else mG l k (i+1)
theorem Rs k:∀(L:List ma) (i:Nat),Instr.findNow (.int .i64) (.int .i64 k) (L.map BY) i=some (mG L k i)
 |[],i=>Z
 |p::l,i=>by
  rw[QaE,Instr.findNow,mG];simp only[BY,Instr.sameNow,QbT];by_cases h:p.1=k;subst h;simp;have a:(k==p.1)=false:=by simpa using λq=>h q.symm
  rw[a,Qab h];exact Rs k l (i+1)
theorem Hc:∀{L:List ma} {k:Int} {i:Nat},mG L k i=none->kD L k=none/\k∉L.map (·.1)
 |[],k,i,_=>⟨Z,n4⟩
 |p::l,k,i,h=>by
  rw[mG]at h;by_cases q:p.1=k;grind;rw[Qab q]at h;obtain⟨a,b⟩:=Hc h;refine⟨by rw[kD,Qab q];exact a,?_⟩;rw[QaE,QaX];rintro(r|r);omega;exact b r
theorem BZ:∀{L:List ma} {k:Int} {i j:Nat} {v:Value},mG L k i=some (j,v)->kD L k=some v/\∃m,j=i+m/\m<L.length/\(L[m]?).map (·.1)=some k
 |[],k,i,j,v,h=>n8
 |p::l,k,i,j,v,h=>by
  rw[mG]at h;by_cases q:p.1=k;rw[Qad q]at h;cases h;exact⟨by rw[kD,Qad q],0,Z,n4,by simp[q]⟩;rw[Qab q]at h;obtain⟨a,m,d,b,c⟩:=BZ h;exact⟨by rw[kD,Qab q];exact a,m+1,aq,by simpa using b,by simpa using c⟩
def zP(L:List ma)(j:Nat)(k:Int)(v:Value):List ma:=L.modify j λe=>(k,v,e.2.2)
theorem Rt:∀{L:List ma} {k:Int} {i m:Nat} {w v:Value},mG L k i=some (i+m,w)->(zP L m k v).map (·.1)=L.map (·.1)/\∀a,kD (zP L m k v) a=if a=k then some v else kD L a
 |[],k,i,m,w,v,h=>n8
 |p::l,k,i,m,w,v,h=>by
  rw[mG]at h;by_cases q:p.1=k;grind[zP,kD];rw[Qab q]at h;obtain⟨_,b,c,_,_⟩:=BZ h;obtain rfl:m=b+1:=aq;have d:mG l k (i+1)=some (i+1+b,w):=by rw[h,c]
  obtain⟨e,f⟩:=Rt (v:=v) d;refine⟨?_,λa=>?_⟩;grind[zP];grind[kD,zP]
theorem a9n{k v c}:∀(h:k∉L.map (·.1)) (a:Int),kD (L++[(k,v,c)]) a=if a=k then some v else kD L a:=by
 intro h a
 induction L with
 |nil=>
  show(if k=a then some v else none)=_;by_cases r:a=k;grind;rw[Qab (λs=>r s.symm),Qab r];rfl
 |cons p l b=>
  rw[QaE,QaX,not_or]at h;rw[Qau,kD,kD,b h.2];by_cases r:a=k;grind;simp[r]
theorem a9o{k}(h:k∉L.map (·.1)):kD L k=none:=by
 induction L with
 |nil=>rfl
 |cons p l a=>
  rw[QaE,QaX,not_or]at h;rw[kD,Qab (λs=>h.1 s.symm),a h.2]
theorem Ru:∀{L:List ma} {k:Int} {i m:Nat} {w:Value},(L.map (·.1)).Nodup->mG L k i=some (i+m,w)->((L.eraseIdx m).map (·.1)).Nodup/\∀a,kD (L.eraseIdx m) a=if a=k then none else kD L a
 |[],k,i,m,w,_,h=>n8
 |p::l,k,i,m,w,b,h=>by
  rw[QaE,QbO]at b;rw[mG]at h;by_cases q:p.1=k;rw[Qad q]at h;have c:m=0:=by
   grind
  subst c;refine⟨b.2,λa=>?_⟩;show kD l a=_;rw[kD];by_cases r:a=k;grind[a9o];grind;rw[Qab q]at h;obtain⟨_,d,f,_,_⟩:=BZ h;obtain rfl:m=d+1:=aq;have g:mG l k (i+1)=some (i+1+d,w):=by rw[h,f]
  obtain⟨j,o⟩:=Ru b.2 g;refine⟨?_,λa=>?_⟩;show(p.1::(l.eraseIdx d).map (·.1)).Nodup;rw[QbO];refine⟨λc=>b.1 ?_,j⟩;obtain⟨x,n,e⟩:=QaZ.1 c;exact QaZ.2 ⟨x,List.mem_of_mem_eraseIdx n,e⟩;grind[kD]
theorem a9p L j k v:(lp L).modify j (λe=>{ e with key:=iQ k,val:=v })=lp (zP L j k v):=by
 apply QcB;rw[Array.toList_modify,lp,lp,zP,List.toList_toArray,List.toList_toArray];apply List.ext_getElem?;intro i;simp only[List.getElem?_modify,QbL]
 cases L[i]? with
 |none=>simp
 |some e=>by_cases h:j=i<;>simp[h,BY]
theorem a9q L k v c:(lp L).push { key:=iQ k,val:=v,born:=c }=lp (L++[(k,v,c)]):=by apply QcB;simp[lp,BY]
theorem a9r L j(h:j<L.length):(lp L).eraseIdxIfInBounds j=lp (L.eraseIdx j):=by grind[QcB,lp]
def mH(b:Nat)(f:Int->Option Value):HP:=chk (λC=>∃(L:List ma) (clock:Nat),(L.map (·.1)).Nodup/\(∀k,kD L k=f k)/\C=[pt b (.map (lp L) clock)])
def Hd(f:Int->Option Value)(k:Int)(o:Option Value):Int->Option Value:=λk'=>if k'=k then o else f k'
section
variable{P:Program}{S:World->Prop}{W0:World}{N:FSz}{e:bK}{A B R:List HP}
variable{t K E:TypeId}{v z:Value}{b:Nat}{x y u:Operand}{f:Int->Option Value}{k:Int}
theorem Own.mapL{w}(h:Own W0 w (mH b f::R)):∃(L:List ma) (a:Nat),(L.map (·.1)).Nodup/\(∀k,kD L k=f k)/\Own W0 w (pt b (.map (lp L) a)::R):=by obtain⟨C,⟨L,c,d,e,rfl⟩,g⟩:=h.chk;exact⟨L,c,d,e,g⟩
theorem Eg{c:Nat}(a:(L.map (·.1)).Nodup)(d:∀k,kD L k=f k):Ent (pt b (.map (lp L) c)::R) (mH b f::R):=fT (R:=R) (C:=[_]) ⟨L,c,a,d,Z⟩
theorem run_checkKey{w em}(a:P.underlying K=some (.int .i64)):(Instr.checkKey em 10000 K (.int .i64 k)).run P w=.ok () w:=by exact MapKept.run_checkKey a (by trivial) em 9999
theorem Eh{w}(a:P.underlying K=some (.int .i64))L:(Instr.findKey K (.int .i64 k) (lp L).toList).run P w=.ok (mG L k 0) w:=by simp only[Instr.findKey,Sem.run_bind,eV a,Result.andThen_ok,lp,List.toList_toArray,Rs,Sem.run_pure]
theorem a9s(a:P.underlying t=some (.map K E)):qU P (d+1) t (.map m) (.map none) m.isNone:=λw=>by
 cases m<;>simp[Op.equalIn,eV a]
theorem a9t{a:TypeId}(b:P.underlying t=some (.map K E))(c:ev e x=some (.map m))(d:ev e y=some (.map none)):cr P S N e (.binOp .eql t x y a) (.bool m.isNone):=
  kf c d (λw x y=>by simp[eqGuard]) (Dj Z (a9s b))
theorem a9u[h:Tk mH b A f R](o:P.underlying t=some (.map K E))(l:P.underlying K=some (.int .i64))(q:∀w,(zeroValue E).run P w=.ok z w)(s:ev e x=some (.map (some b)))(u:ev e y=some (.int .i64 k)):
    cr P (aQ W0 A) N e (.lookup t x y false) ((f k).getD z):=λa w _ _ _ _ _ m B=>by
 obtain⟨L,c,F,C,i⟩:=Own.mapL (Own.tk (r:=mH) (b:=b) B);have D:=i.has.2;have g:=C k;have d:(Instr.lookup t (.map (some b)) (iQ k) false).run P w=.ok ((f k).getD z) w:=by
  simp only[Instr.lookup,Sem.run_bind,Sem.run_pure,eV o,Result.andThen_ok,MapKept.run_getObj_map D,run_checkKey l,Eh l]
  cases n:mG L k 0 with
  |none=>
   rw[(Hc n).1]at g;rw[<-g];simp[q]
  |some p=>
   obtain⟨j,v⟩:=p;rw[(BZ n).1]at g;rw[<-g];simp
 simp only[execOp,m.eval s,m.eval u,Sem.run_bind,d,Result.andThen_ok,Sem.run_pure]
theorem a9v[h:Tk mH b A f R](a:P.underlying t=some (.map K E))(c:P.underlying K=some (.int .i64))(d:∀w,(zeroValue E).run P w=.ok z w)(g:ev e x=some (.map (some b)))(i:ev e y=some (.int .i64 k))(j:(f k).getD z=v):
    cr P (aQ W0 A) N e (.lookup t x y false) v:=j▸a9u a c d g i
theorem a9w:dq P W0 N e A (.makeMap t none) (λv B=>∃b,v=.map (some b)/\B=mH b (λ_=>none)::A):=uL λa w _ _ _ _ _ f c=>by
 refine⟨_,w.alloc (.map #[] 0),_,.inl ?_,⟨w.heap.size,Z,Z⟩,?_⟩;simp[execOp,Instr.makeMap,newObj,Sem.run];have d:=c.new (.map (lp []) 0);exact d.ent (Eg (L:=[]) n4 (λ_=>Z))
theorem a9x[h:Tk mH b A f R](D:P.underlying t=some (.map K E))(s:P.underlying K=some (.int .i64))(F:ev e x=some (.map (some b)))(G:ev e y=some (.int .i64 k))(H:ev e u=some v):
    dq P W0 N e A (.mapUpdate t x y u) (λ_ B=>B=mH b (Hd f k (some v))::R):=uL λa w _ _ _ _ _ g O=>by
 obtain⟨L,c,Q,I,d⟩:=Own.mapL (Own.tk (r:=mH) (b:=b) O);have i:=d.has.2;have l:b<w.heap.size:=by
  grind
 cases C:mG L k 0 with
 |none=>
  obtain⟨S,J⟩:=Hc C;refine⟨_,w.putObj b (.map ((lp L).push { key:=iQ k,val:=v,born:=c }) (c+1)),_,.inr ⟨?_,Z⟩,Z,?_⟩;simp only[execOp,g.eval F,g.eval G,g.eval H,Instr.mapUpdate,Sem.run_bind,Sem.run_pure,eV D,Result.andThen_ok,MapKept.run_getObj_map i,MapKept.run_setObj_map _ i,run_checkKey s,Eh s,C];simp[World.putObj,l];rw[a9q];refine(d.turn _).ent (Eg ?_ λT=>?_);grind;rw[a9n J,I];rfl
 |some p=>
  obtain⟨j,U⟩:=p;obtain⟨S,m,J,Y,n⟩:=BZ C;obtain rfl:j=m:=aq;have V:mG L k 0=some (0+j,U):=mv;obtain⟨W,X⟩:=Rt (v:=v) V;have o:(((lp L)[j]?).map (·.key)).getD (iQ k)=iQ k:=by
   rw[lp,Qbk,QbL]
   cases M:L[j]? with
   |none=>rw[M]at n;cases n
   |some q=>rw[M]at n;simp at n;simp[BY,n]
  refine⟨_,w.putObj b (.map ((lp L).modify j λe=>{ e with key:=iQ k,val:=v }) c),_,.inr ⟨?_,Z⟩,Z,?_⟩;simp only[execOp,g.eval F,g.eval G,g.eval H,Instr.mapUpdate,Sem.run_bind,Sem.run_pure,eV D,Result.andThen_ok,MapKept.run_getObj_map i,MapKept.run_setObj_map _ i,run_checkKey s,Eh s,C,o,Instr.keyThatStays];simp[World.putObj,l,Instr.sameBits,MapKept.run_setObj_map _ i];rw[a9p];exact(d.turn _).ent (Eg (by rw[W];exact Q) λT=>by rw[X,I];rfl)
theorem a9y[h:Tk mH b A f R]{t'}(u:P.underlying t=some (.map K E))(l:P.underlying K=some (.int .i64))(C:ev e x=some (.map (some b)))(D:ev e y=some (.int .i64 k)):
    dq P W0 N e A (.call { callee:=.builtin .delete,args:= #[x,y],argTypes:= #[t,t'] }) (λv B=>v=.tuple #[]/\B=mH b (Hd f k none)::R):=uL λa w _ _ _ _ _ n H=>by
 obtain⟨L,c,F,G,d⟩:=Own.mapL (Own.tk (r:=mH) (b:=b) H);have o:=d.has.2;have g:b<w.heap.size:=by
  grind
 cases s:mG L k 0 with
 |none=>
  obtain⟨I,J⟩:=Hc s;refine⟨_,w.putObj b (.map (lp L) c),_,.inl ?_,⟨Z,Z⟩,?_⟩;simp only[execOp,resolve,invoke,builtin,QbR,QaE,QbE,n.eval C,n.eval D,Builtin.delete_,Qbk,Qbl,QbS,Sem.run_bind,Sem.run_pure,eV u,Result.andThen_ok,MapKept.run_getObj_map o,MapKept.run_setObj_map _ o,run_checkKey l,Eh l,s];simp[World.putObj,g];refine(d.turn _).ent (Eg F λi=>?_);rw[G];show f i=if i=k then none else f i;by_cases q:i=k;grind;rw[Qab q]
 |some p=>
  obtain⟨j,M⟩:=p;obtain⟨I,m,J,O,U⟩:=BZ s;obtain rfl:j=m:=aq;have Q:mG L k 0=some (0+j,M):=mv;obtain⟨S,T⟩:=Ru F Q;refine⟨_,w.putObj b (.map ((lp L).eraseIdxIfInBounds j) c),_,.inl ?_,⟨Z,Z⟩,?_⟩;simp only[execOp,resolve,invoke,builtin,QbR,QaE,QbE,n.eval C,n.eval D,Builtin.delete_,Qbk,Qbl,QbS,Sem.run_bind,Sem.run_pure,eV u,Result.andThen_ok,MapKept.run_getObj_map o,MapKept.run_setObj_map _ o,run_checkKey l,Eh l,s];simp[World.putObj,g];rw[a9r _ _ O];exact(d.turn _).ent (Eg S λi=>by rw[T,G];rfl)
end
section
variable{P:Program}{S:World->Prop}{W0:World}{N:FSz}{e:bK}{A R:List HP}{t t' ty:TypeId}{b off:Nat}{x y:Operand}{l l':List Value}
theorem Rv{E k k'}(c:∀w,(isAgg E).run P w=.ok false w)(f:P.underlying E=some (.int k'))D w:
    ∀(m s:Nat) (b a:List Int),b.length=s+m->a.length=s+m->
      (Op.eqItems (D+1) E 1 (b.map (Value.int k)).toArray (a.map (Value.int k)).toArray (List.range' s m)).run P w=.ok (b.drop s==a.drop s) w
 |0,s,b,a,g,i=>by
  rw[show b.drop s=[]from List.drop_eq_nil_of_le aq,show a.drop s=[]from List.drop_eq_nil_of_le aq];simp[Op.eqItems]
 |m+1,s,b,a,g,i=>by
  have j:(b.map (Value.int k))[s]?=some (.int k b[s]):=mv;have l:(a.map (Value.int k))[s]?=some (.int k a[s]):=mv;have n:b.drop s=b[s]::b.drop (s+1):=Qbt aq;have o:a.drop s=a[s]::a.drop (s+1):=Qbt aq;have p:=Rv (k:=k) c f D w m (s+1) b a aq aq;rw[List.range'_succ,n,o];simp only[Op.eqItems,QaP,Sem.run_bind,Bh c j w,Bh c l w,Result.andThen_ok,run_equalIn_int w D E k k' _ _ f];by_cases h:b[s]=a[s];have d:((a[s]::b.drop (s+1))==(a[s]::a.drop (s+1)))=(b.drop (s+1)==a.drop (s+1)):=by
   rw[Qah,Qbv,Qbv];exact⟨λq=>(List.cons.inj q).2,λq=>by rw[q]⟩
  rw[h,d];simp only[beq_self_eq_true,Bool.not_true,QaA,QcV];exact p;have r:(b[s]==a[s])=false:=aaa;rw[r];have e:((b[s]::b.drop (s+1))==(a[s]::a.drop (s+1)))=false:=by
   grind
  rw[e];simp
theorem Rw{E z:Nat}{k c:IntKind}{i:TypeInfo}{ms ns:List Int}{a b:List Value}(e:P.underlying t=some (.array n E))(f:P.info? E=some i)(g:P.cellsOf E=1)(h:P.underlying E=some (.int c))(j:∀w,(isAgg E).run P w=.ok false w)
    (l:a=ms.map (Value.int k))(m:b=ns.map (Value.int k))(o:ms.length=n)(p:ns.length=n):qU P (z+2) t (.agg a.toArray) (.agg b.toArray) (ms==ns):=λd w=>by
 subst l;subst m;rw[show d+(z+2)=(d+z+1)+1 by omega,run_equalIn_array w (d+z+1) _ _ e f,g,List.range_eq_range',Rv j h (d+z) w n 0 ms ns (by omega) (by omega)];simp
theorem a9z{E n j i h o':Nat}{k k' j1 j2}(l:P.underlying t=some (.array n E))(m:∀w,(sizeOf E).run P w=.ok j w)(o:ev e x=some (.pointer (some ⟨b,off,none⟩))){lo hi}(p:ev e lo=some (.int k j1))(q:ev e hi=some (.int k' j2))(r:j1=i)(s:j2=h)(c:i≤h)(d:h≤n)(u:i<n)(v:off+i*j=o'):
    cr P S N e (.slice t x (some lo) (some hi) none) (.slice (some ⟨b,o',none⟩) (h-i) (n-i)):=λa w _ _ _ _ _ f _=>by
 subst r;subst s;subst v;have g:¬n=i:=aq;simp[execOp,Instr.sliceAt,f.eval o,f.eval p,f.eval q,eV l,Instr.sureAddr,Instr.sliceBounds,vV d,vV c,m,g,l7]
theorem a9A{E m c:Nat}(b:P.underlying t=some (.array n E))(d:ev e x=some (.slice a m c))(f:¬m<n):cr P S N e (.sliceToArrayPointer t x) (.pointer a):=λg w _ _ _ _ _ h _=>by
 simp[execOp,h.eval d,Instr.arrayAt,eV b,f]
theorem a9B{S:World->Prop}{b a:Nat}{l d:List Value}(h:bF S b a l)(e:(l.drop j).take n=d):bF S b (a+j) d:=λi v c=>by
 subst e;rw[List.getElem?_take]at c;split at c;rw[QbP]at c;rw[Qcm];exact h (j+i) v c;cases c
theorem a9C{E C D J m:Nat}{s}(F:P.underlying t=some (.slice E))(G:∀w,(sizeOf E).run P w=.ok C w)(L:ev e x=some (.slice (some ⟨b,off,none⟩) D J))(M:ev e y=some (.string s))
    [h:Tk pt b A (ae l ty) R](O:Nat.min s.size D=m)(X:off+m≤l.length)(S:ee l off ((s.data.toList.take m).map λb=>Value.int .u8 b.toNat)=l'):
    dq P W0 N e A (.call { callee:=.builtin .copy,args:= #[x,y],argTypes:= #[t,t'] }) (λv B=>v=iQ m/\B=pt b (ae l' ty)::R):=by
 intro a w i j n T g K Q H U k;have o:=U.tk (r:=pt) (b:=b);have V:m≤s.data.toList.length:=by
  have:m≤s.size:=mv;exact this
 have c:((s.extract 0 m).data.map λb=>Value.int .u8 b.toNat).toList=(s.data.toList.take m).map λb=>Value.int .u8 b.toNat:=by
  simp_all
 obtain⟨I,p,d⟩:=Dn (P:=P) (off:=off) ((s.data.toList.take m).map λb=>Value.int .u8 b.toNat) 0 o mv (λv W=>by
  obtain⟨q,_,rfl⟩:=QaZ.1 W;rfl)
 rw[QbW,S]at d;have f:(execOp a.eval { dst:=i,op:=.call { callee:=.builtin .copy,args:= #[x,y],argTypes:= #[t,t'] },type:=j,pos:=n,after:=T,guard:=g }).run P w=.ok (.value (iQ m)) I:=by
  simp only[execOp,resolve,invoke,builtin,Sem.run_bind,Sem.run_pure,Result.andThen_ok,QbR,QaE,QbE,H.eval L,H.eval M,Builtin.copy_,Builtin.lenOf,Builtin.firstCells,eV F,G];have u:(sizeOf E).run P w=.ok C w:=G w;simp only[O,Qbu,Qbk,Qbl,QbS,Sem.run_bind,Sem.run_pure,Result.andThen_ok,eV F,u,c,p,goInt]
 unfold Oper.wp;rw[f];exact k _ I _ ⟨Z,Z⟩ d
end
abbrev cg(ps pm d:Nat):Obj:=ae [.pointer (some ⟨ps,0,none⟩),.pointer (some ⟨pm,0,none⟩),.int .u32 (d:Nat)] 305
theorem Ei(b c e d:Nat):sQ W0 288 [pQ b] (pt b (cg c e d)::R) (.bool false) (pt b (cg c e d)::R):=by refine am func288 ntmps288 ?_;apply d7 Z Z Z<;>intro a;cases a;exact aw (ag ax)
def kE(pa:Nat)(w:Int):Bool:=decide ((w=1\/w=2\/w=4)/\(pa:Int)%w=0)
theorem a9D(d:Nat)(e:d<4294967296)(w:Int):sQ W0 391 [.int .u32 d,iQ w] R (.bool (kE d w)) R:=by
 refine am func391 ntmps391 ?_;refine ap (λa=>?_) λa=>?_;refine ac (cv (eh aq)) ?_;refine ac (kg Z Z aq (Qbd aq)) ?_;refine ag (aP (Qak Value.bool ?_));rw[Qah];simp only[kE,Qas,Qbv]
 first
   |(subst a;simp)
   |(subst b;simp)
   |(subst c;simp)
 refine ap (λb=>?_) λb=>?_;refine ac (cv (eh aq)) ?_;refine ac (kg Z Z aq (Qbd aq)) ?_;refine ag (aP (Qak Value.bool ?_));rw[Qah];simp only[kE,Qas,Qbv]
 first
   |(subst a;simp)
   |(subst b;simp)
   |(subst c;simp)
 refine ap (λc=>?_) λc=>?_;refine ac (cv (eh aq)) ?_;refine ac (kg Z Z aq (Qbd aq)) ?_;refine ag (aP (Qak Value.bool ?_));rw[Qah];simp only[kE,Qas,Qbv]
 first
   |(subst a;simp)
   |(subst b;simp)
   |(subst c;simp)
 refine ag (aP (Qak Value.bool ?_));rw[Qah];simp only[kE,Qas,QaA,QbB];omega
def io(n:Nat)(pg:List Pl)(pa:Nat)(w kind:Int):Int:=
  if kE pa w then(if pa<768 then(if kS pg ((pa/64:Nat):Int) kind=0 then(if (cB pg ((pa/64:Nat):Int)).1<n then 0 else 7)else kS pg ((pa/64:Nat):Int) kind)else 2)else 1
def tX(n:Nat)(pg:List Pl)(pa:Nat)(w kind:Int):List Value:=
  if io n pg pa w kind=0 then[.int .i64 (pa/64:Nat),.int .i64 (cB pg ((pa/64:Nat):Int)).1,.int .i64 (pa %64:Nat),.bool false]else[.int .i64 0,.int .i64 0,.int .i64 0,.bool false]
theorem He(j i g d:Nat)(e:List az)(c:List Pl)(h:Pgs c)(b:Nat)(k:b<4294967296)(w a:Int):sQ W0 344 [pQ j,.int .u32 b,iQ w,iQ a] (pt j (cg i g d)::aH i e::pt g (bM c)::R) (.tuple #[.agg (tX e.length c b w a).toArray,iQ (io e.length c b w a)]) (pt j (cg i g d)::aH i e::pt g (bM c)::R):=by
 refine am func344 ntmps344 ?_;refine bU λs=>?_;refine ao (ar Jw (Ei j i g d)) ?_;refine ao (aK call391 (a9D b k w)) ?_;apply ap<;>intro o;refine aJ aR (bJ (.cons (bX lW kc Z Z) (.cons (bA Z) .nil)) ?_);refine aP ?_;have n:kE b w=false:=mv;have f:io e.length c b w a=1:=by simp[io,n]
 simp[bY,tX,f];have n:kE b w=true:=mv;apply ap<;>intro p;refine aJ aR (bJ (.cons (bX lW kc Z Z) (.cons (bA Z) .nil)) ?_);refine aP ?_;have f:io e.length c b w a=2:=by grind[io]
 simp[bY,tX,f];refine ac (qT Z Z cl ((Qak (IntKind.wrap .u32) (uW b 64)).trans (eh aq))) ?_;refine ac (cv (bS aq)) ?_;refine ao (ar call392 (QX g c h ((b/64:Nat):Int) a)) ?_;apply ap<;>intro q;refine aJ aR (bJ (.cons (bX lW kc Z Z) (.cons (bA Z) .nil)) ?_);refine aP ?_;have f:io e.length c b w a=kS c ((b/64:Nat):Int) a:=by grind[io]
 rw[tX,Qab aq,f];rfl;have t:kS c ((b/64:Nat):Int) a=0:=aq;refine ao (ar D6 (zM g c h ((b/64:Nat):Int))) ?_;refine bU λr=>?_;refine aJ aR (bH [r,j] 8 λl=>?_);refine aj 0 6 l ?_;refine bQ 6 (ar B7 (xL i e)) λl=>?_;refine aj 7 1 l ?_;refine aS (ap (λm=>?_) λm=>?_);refine aJ aR (bJ (.cons (bX lW kc Z Z) (.cons (bA Z) .nil)) ?_);refine aP ?_;have f:io e.length c b w a=7:=by grind[io]
 simp[bY,tX,f];refine ac (kg Z Z cl (oC b 64)) ?_;refine ac (cv (bS aq)) ?_;refine aJ aR (bJ (.cons (bX lW kc Z Z) (.cons (bA Z) .nil)) ?_);refine aP ?_;have f:io e.length c b w a=0:=by grind[io]
 simp[bY,tX,f]
theorem Lb{w a:Int}(h:io n pg pa w a=0):pa<768/\(cB pg ((pa/64:Nat):Int)).1<n/\tX n pg pa w a=[iQ (pa/64:Nat),iQ (cB pg ((pa/64:Nat):Int)).1,iQ (pa %64:Nat),.bool false]:=by grind[tX,io]
def Ej(fr:List az)(pg:List Pl)(pa:Nat)(w:Int)(x:Nat):List az:=if io fr.length pg pa w 2=0 then jn fr (cB pg ((pa/64:Nat):Int)).1 ((pa %64:Nat):Int) w x else fr
def Ek(fr:List az)(pg:List Pl)(pa:Nat)(w:Int)(d:Nat):Nat:=if io fr.length pg pa w 2=0 then d|||2^(pa/64)else d
theorem Rx{n:Nat}(h:n<12):mZ .u32 1 n=(2^n:Nat):=by have:∀n:Nat,n<12->mZ .u32 1 (n:Int)=((2^n:Nat):Int):=cl;exact this n h
theorem Hf{n}(h:n<12):2^n<4096:=by have:∀n:Nat,n<12->2^n<4096:=cl;exact this n h
theorem a9E(i g j d:Nat)(b:List az)(c:List Pl)(h:Pgs c)(o:bD b)(r:d<4096)(e:Nat)(k:e<4294967296)(w:Int)(x:Nat)(p:x<4294967296):sQ W0 373 [pQ i,.int .u32 e,iQ w,.int .u32 x] (pt i (cg g j d)::aH g b::pt j (bM c)::R) (iQ (io b.length c e w 2)) (pt i (cg g j (Ek b c e w d))::aH g (Ej b c e w x)::pt j (bM c)::R):=by by_cases f:io b.length c e w 2=0;obtain⟨s,t,q⟩:=Lb f;have u:=Hf (n:=e/64) aq;rw[Ek,Qad f,Ej,Qad f];refine am func373 ntmps373 ?_;refine ao (dF Oz (He i g j d b c h e k w 2)) ?_;rw[q,f];refine bU λm=>?_;refine aJ aR (ap (λl=>?_) λl=>?_);exact absurd Z l;refine bH [i,m] 11 λa=>?_;refine aj 0 10 a ?_;refine bQ 10 (ar G1 (DW W0 _ g b _ _ w x p o)) λa=>?_;refine aS (bH [m] 11 λa=>?_);refine aj 0 3 a ?_;refine aj 4 2 a ?_;refine aE 6 a (uJ Z Z aq (Rx aq)) ?_;refine bQ 3 (dJ (aY (aO Z))) λa=>?_;refine aE 7 a (uI Z Z (Bv aq aq)) ?_;refine aj 8 2 a ?_;refine cp 10 dr λa=>?_;exact aS (ag ax);rw[Ek,Qab f,Ej,Qab f];refine am func373 ntmps373 ?_;refine ao (dF Oz (He i g j d b c h e k w 2)) ?_;rw[tX,Qab f];refine bU λm=>?_;refine aJ aR (ap (λl=>?_) λl=>?_);exact ki;exact absurd f l
theorem a9F(a c:Nat)(e:List az)(f:List Pl)(h:Pgs f)(i:0<e.length):sP W0 107 [pQ a,pQ c] (aH a e::pt c (bM f)::R) (λv B=>∃b,v=.tuple #[pQ b,iQ 0]/\B=pt b (cg a c 0)::aH a e::pt c (bM f)::R):=by refine am func107 ntmps107 ?_;refine ao (ar B7 (xL a e)) ?_;apply d7 Z Z Z<;>intro d;omega;refine aw (cW 5 (ar OA (a8C c f h)) ?_);refine et (dT (l8 Z) λg=>?_);exact aw (aZ ⟨_,⟨g,Z,Z⟩,IO⟩)
theorem xR(a c b d:Nat):sQ W0 252 [pQ a] (pt a (cg c b d)::R) (pQ b) (pt a (cg c b d)::R):=by refine am func252 ntmps252 ?_;refine ao (ar Jw (Ei a c b d)) ?_;exact ki
theorem Lc(a b c d:Nat):sQ W0 210 [pQ a] (pt a (cg b c d)::R) (pQ b) (pt a (cg b c d)::R):=by refine am func210 ntmps210 ?_;refine ao (ar Jw (Ei a b c d)) ?_;exact ki
def rB(len:Nat)(pg:List Pl)(n:Int):Bool:=bG pg n&&decide (n<8)&&decide ((cB pg n).1<len)
theorem Ry(i c e d:Nat)(j:List az)(b:List Pl)(h:Pgs b)(n:Int):sQ W0 317 [pQ i,iQ n] (pt i (cg c e d)::aH c j::pt e (bM b)::R) (.tuple #[iQ (cB b n).1,.bool (rB j.length b n)]) (pt i (cg c e d)::aH c j::pt e (bM b)::R):=by
 refine am func317 ntmps317 ?_;refine ao (ar D6 (zM e b h n)) ?_;refine bU λk=>?_;refine aJ aR (bH [i,k] 19 λa=>?_);refine aj 0 4 a ?_;refine vQ (t:=20) Z ?_ ?_
 · intro f
   refine aj 4 4 a ?_;refine vQ (t:=24) Z ?_ ?_
   · intro g
     refine aj 8 6 a ?_;refine bQ 14 (ar B7 (xL c j)) λa=>?_;refine aj 15 4 a ?_;refine aS (aZ (aP ?_));simp_all[bY,rB];try omega
   intro g;refine aj 8 11 a ?_;refine aS (aZ (aP ?_));simp_all[bY,rB];try omega
 intro f;refine aj 4 15 a ?_;refine aS (aZ (aP ?_));simp_all[bY,rB];try omega
def kF(pa n at_:Nat):Nat:=min (n-at_) (64-(pa+at_)%64)
theorem Rz{at_:Nat}(h:at_<n):0<kF pa n at_/\at_+kF pa n at_≤n:=by unfold kF;omega
def Ld(pa n at_:Nat):List Value:=[.int .i64 ((pa+at_)/64:Nat),.int .i64 ((pa+at_)%64:Nat),.int .i64 (at_:Nat),.int .i64 (kF pa n at_:Nat)]
theorem a9G W0 bn bp pa n L(hpa:pa≤100000)(hn:n≤100000)(C:Nat->List HP)(I:Nat->Prop)(h0:I 0)(Stop:List HP->Prop)(hr:∀at_ R,at_<n->I at_->sr Tryz.prog W0 L [.agg (Ld pa n at_).toArray] (C at_++R) (λv B=>∃b B',v=.bool b/\B=B'++R/\((b=true/\I (at_+kF pa n at_)/\B'=C (at_+kF pa n at_))\/(b=false/\Stop B')))):sP W0 381 [.func (.yield L) #[] #[],pQ bn,pQ bp] (pt bn (ae [iQ n] 3)::pt bp (ae [iQ pa] 3)::C 0) (λv B=>v=.tuple #[]/\((I n/\B=C n)\/Stop B)):=by
 refine am func381 ntmps381 ?_;refine eC (λi:Nat=>i≤n/\I i) (λi=>[(0,.func (.yield L) #[] #[]),(1,pQ bn),(2,pQ bp),(4,iQ i)]) (λi=>pt bn (ae [iQ n] 3)::pt bp (ae [iQ pa] 3)::C i) (λi=>n-i) 0 ?_ ?_;grind;intro i ⟨l,f⟩;refine aw (ap (λk=>?_) λk=>?_);have g:=Rz (pa:=pa) (n:=n) (at_:=i) aq;refine ac (eX (pa+i)) ?_;refine ac (qT Z Z cl ((Qak (IntKind.wrap .i64) (uW (pa+i) 64)).trans (bS aq))) ?_;refine ac (eX (pa+i)) ?_;refine ac (kg Z Z cl (oC (pa+i) 64)) ?_;refine bU λm=>?_;refine aJ aR (ac (mt (n-i)) ?_);refine ac (mt (64-(pa+i)%64)) ?_;refine ac (uT Z Z (by unfold kF;split<;>omega:(if ((64-(pa+i)%64:Nat):Int)<((n-i:Nat):Int)then((64-(pa+i)%64:Nat):Int)else((n-i:Nat):Int))=((kF pa n i:Nat):Int))) ?_;refine fw 7 dr ?_;refine Gs Z Z Z (Gw (QaQ (l₁:=[_,_,_])) (hr i [_,_,_] aq f)) ?_;rintro _ o ⟨b,B',rfl,a,j⟩;subst a;refine uF QaQ ?_;simp only[Qau,Qar];refine aw (aB Z (λc=>?_) λc=>?_);have d:Stop B':=by
  rcases j with h|h;exact absurd c (by rw[h.1];decide);exact h.2
 refine aw (bP (.inl Z) .nil ?_);exact⟨_,⟨Z,.inr d⟩,IO⟩;have d:I (i+kF pa n i)/\B'=C (i+kF pa n i):=by
  rcases j with h|h;exact h.2;exact absurd (by rw[h.1];decide) c
 obtain⟨e,rfl⟩:=d;refine aw (ac (eX (i+kF pa n i)) ?_);exact d8 (i+kF pa n i) (⟨aq,e⟩);refine bP (.inr Z) .nil ?_;have:i=n:=aq;subst this;exact⟨_,⟨Z,.inl ⟨f,Z⟩⟩,IO⟩
theorem RA(a n:Nat):sP W0 316 [iQ a,iQ n] R (λv B=>∃b c,v=.func (.func 381) #[] #[pQ b,pQ c]/\B=pt b (ae [iQ n] 3)::pt c (ae [iQ a] 3)::R):=by refine am func316 ntmps316 ?_;refine dh (fQ Z Z) λd=>?_;refine dh (fQ Z Z) λe=>?_;exact ag ⟨_,⟨e,d,Z,Z⟩,IO⟩
theorem RB{g L D o p:Nat}{h:Array Tmp}{b a:Code}{x d:List HP->Prop}(j n:Nat)(C:Nat->List HP)(I:Nat->Prop)(q:j≤100000)(E:n≤100000)
    (F:A.Perm (pt o (ae [iQ n] 3)::pt p (ae [iQ j] 3)::C 0))(G:I 0)(r:I n->x (C n))
    (H:∀c R,c<n->I c->sr Tryz.prog W0 L [.agg (Ld j n c).toArray] (dO L ⟨e,g,h,b,a,.ready,none,D⟩::pt D (.deferred (some []))::(C c++R))
      (λv B=>(v=.bool true/\I (c+kF j n c)/\B=dO L ⟨e,g,h,b,a,.ready,none,D⟩::pt D (.deferred (some []))::(C (c+kF j n c)++R))\/
        (v=.bool false/\∃k,d k/\B=dO L ⟨e,g,h,b,a,.done,some .ret,D⟩::pt D (.deferred (some []))::(k++R)))):
    bE Tryz.prog W0 381 (.func (.yield L) #[] #[]::[pQ o,pQ p]) (dO L ⟨e,g,h,b,a,.ready,none,D⟩::pt D (.deferred (some []))::A)
      (λ_ B=>(∃C,B=dO L ⟨e,g,h,b,a,.ready,none,D⟩::pt D (.deferred (some []))::C/\x C)\/(∃C,B=dO L ⟨e,g,h,b,a,.done,some .ret,D⟩::pt D (.deferred (some []))::C/\d C)):=by
 have l:(dO L ⟨e,g,h,b,a,.ready,none,D⟩::pt D (.deferred (some []))::A).Perm (pt o (ae [iQ n] 3)::pt p (ae [iQ j] 3)::(dO L ⟨e,g,h,b,a,.ready,none,D⟩::pt D (.deferred (some []))::C 0)):=by
  refine((F.cons _).cons _).trans ?_;exact(((List.Perm.swap _ _ _).trans ((List.Perm.swap _ _ _).cons _)).cons _).trans ((List.Perm.swap _ _ _).trans ((List.Perm.swap _ _ _).cons _)) |>.trans (QaS _)
 refine eR l (cF (a9G W0 o p j n L q E (λi=>dO L ⟨e,g,h,b,a,.ready,none,D⟩::pt D (.deferred (some []))::C i) I G
   (λB=>∃k,d k/\B=dO L ⟨e,g,h,b,a,.done,some .ret,D⟩::pt D (.deferred (some []))::k) λc R s t w J=>?_) ?_)
 obtain⟨f,m,u,K,M,N⟩:=H c R s t w J;refine⟨f,m,u,K,M,RoundIn.mono N ?_⟩;rintro _ S ⟨v,B,rfl,O,P⟩;rcases O with ⟨rfl,Q,rfl⟩|⟨rfl,k,y,rfl⟩;grind;grind;rintro v B ⟨_,⟨t,rfl⟩|⟨k,y,rfl⟩⟩;exact⟨_,.inl ⟨_,Z,r t⟩,ent_refl⟩;exact⟨_,.inr ⟨_,Z,y⟩,ent_refl⟩
def tY(a:Nat):Int:=((a/64:Nat):Int)
def tZ(len:Nat)(pg:List Pl)(pa n:Nat):Prop:=∀i,i<n->rB len pg (tY (pa+i))=true
instance {len:Nat}{pg:List Pl}{pa n:Nat}:Decidable (tZ len pg pa n):=by unfold tZ;exact Nat.decidableBallLT n _
def d9(len:Nat)(pg:List Pl)(pa:Nat)(n:Int):Bool:=decide (0≤n/\pa≤512/\n≤512-(pa:Int))&&decide (tZ len pg pa n.toNat)
theorem xS{n:Int}:d9 len pg pa n=true↔(0≤n/\pa≤512/\n≤512-(pa:Int))/\tZ len pg pa n.toNat:=by simp[d9]
theorem xT:d9 len pg pa n=true↔pa+n≤512/\tZ len pg pa n:=by grind[xS]
theorem a9H{a:Nat}(c:a≤i)(b:i<a+kF pa n a):(pa+i)/64=(pa+a)/64:=by unfold kF at b;omega
theorem RD{a:Nat}(b:k<kF pa n a):(pa+(a+k))/64=(pa+a)/64/\(pa+(a+k))%64=(pa+a)%64+k:=by unfold kF at b;omega
theorem xU(j f g d:Nat)(c:List az)(a:List Pl)(h:Pgs a)(b:Nat)(x:b<4294967296)(n:Int):sQ W0 235 [pQ j,.int .u32 b,iQ n] (pt j (cg f g d)::aH f c::pt g (bM a)::R) (.bool (d9 c.length a b n)) (pt j (cg f g d)::aH f c::pt g (bM a)::R):=by
 refine am func235 ntmps235 ?_;refine dh (fQ Z Z) λs=>?_;refine dh (pw XU Z) λt=>?_;refine cW 1 (ar Jw (Ei j f g d)) ?_;apply d7 Z Z Z<;>intro m;exact absurd m cl;refine aw ?_;apply fC<;>intro r;refine aJ dr (bJ (.cons (qV pU Z (aO Z)) .nil) ?_);refine aP (Qak Value.bool (Qcz ?_));rw[<-QaI,xS];omega;apply fC<;>intro o;refine aJ dr (bJ (.cons (qV pU Z (aO Z)) .nil) ?_);refine aP (Qak Value.bool (Qcz ?_));rw[<-QaI,xS];omega;refine ac (cv ph) ?_;refine ac jt (ap (λy=>?_) λy=>?_);refine aJ dr (bJ (.cons (qV pU Z (aO Z)) .nil) ?_);refine aP (Qak Value.bool (Qcz ?_));rw[<-QaI,xS];omega;obtain⟨k,rfl⟩:∃k:Nat,n=(k:Int):=⟨n.toNat,aq⟩
 have A:b+k≤512:=aq;refine ac (cv ph) ?_;refine aF Z (aK call316 (RA b k)) ?_;rintro _ B ⟨J,K,rfl,p⟩;subst p;refine au 3 (Gv (λC=>tZ c.length a b k/\C=pt j (cg f g d)::pt t (ae [.bool false] 4)::pt s (ae [pQ j] 94)::aH f c::pt g (bM a)::R) (λC=>¬tZ c.length a b k/\C=pt j (cg f g d)::pt t (ae [.bool false] 4)::pt s (ae [pQ j] 94)::aH f c::pt g (bM a)::R) Z call381 ?_ ?_ ?_);intro L D;refine RB b k (λ_=>pt j (cg f g d)::pt t (ae [.bool false] 4)::pt s (ae [pQ j] 94)::aH f c::pt g (bM a)::R) (λi=>tZ c.length a b i) aq aq tF (λi E=>aq) (λF=>⟨F,Z⟩) ?_;intro e M G H;simp only[Qau,Qar];refine Br Z Z ?_;refine aM (aF Z (cP XR) ?_);rintro _ _ ⟨N,rfl,rfl⟩;refine fw 1 aR ?_;refine Bp Z (jR (aG (aM (aa Z (bO J5 Z (aO Z)) ?_))));refine aa Z (bT Z FR Z bu Z dg) ?_;refine aa Z (bO cM Z (aO Z)) ?_;refine aF Z (xt call317 Z (Ry j f g d c a h (((b+e)/64:Nat):Int))) ?_;rintro _ B ⟨rfl,p⟩;subst p;refine aa Z (aV Z) (aa Z (jT Z Z) (aa Z (jT Z Z) (aa Z (aU Z) (aa Z (aU Z) (aI (aA (aG (aM (aa Z (aV Z) (aa Z (vN Z) (aI (aA ?_))))))))))));apply aB Z<;>intro u;refine aG (aM (eM (iG l6 Z Z Z (Qaa Z) SetL.eq) ?_));rintro _ _ rfl;refine aI (aA (dX (pr (PH ?_))));have I:¬tZ c.length a b k:=λq=>u (q e G);refine⟨_,.inr ⟨Z,_,⟨I,Z⟩,Z⟩,?_⟩;simp only[Qau];exact IO;refine au 2 (zn ?_);have O:rB c.length a (tY (b+e))=true:=QaH.1 u;have v:tZ c.length a b (e+kF b k e):=λi E=>by
  rcases Qaz i e with q|q;exact H i q;grind[tY,a9H]
 exact⟨_,.inl ⟨Z,v,Z⟩,IO⟩;intro D C w;obtain⟨l,rfl⟩:=w;refine aw (fw 3 dr ?_);refine sj (.inl Z) (.cons (qV pU Z (aO Z)) .nil) ?_;refine aP (Qak Value.bool (Qcz ?_));rw[xT];exact⟨A,l⟩;intro D C w;obtain⟨l,rfl⟩:=w;refine au 2 (sj (.inl Z) (.cons (qV pU Z (aO Z)) .nil) ?_);refine aP (Qak Value.bool (Qcz ?_));rw[<-QaI,xT];exact λq=>l q.2
def sJ(pg:List Pl)(a:Nat):Int:=(cB pg (tY a)).1
theorem RE W0 R pv ps pm pg(h:Pgs pg)pa n(hpa:pa+n≤512)(dd:Nat->Nat)(ff:Nat->List az)(DH:Nat->HP)gf us
    (hcall:∀args w,(callFunc gf args).run Tryz.prog w=.ok (.enter gf args) w)
    (hdo:∀i,i<n->∀R',Ent R' R->bE Tryz.prog W0 gf (iQ (sJ pg (pa+i))::iQ ((pa+i)%64:Nat)::iQ i::us) (pt pv (cg ps pm (dd i))::aH ps (ff i)::pt pm (bM pg)::kH 0 (DH i)::R')
      (λv B=>v=.tuple #[]/\B=pt pv (cg ps pm (dd (i+1)))::aH ps (ff (i+1))::pt pm (bM pg)::kH 0 (DH (i+1))::R')):
    bE Tryz.prog W0 312 [pQ pv,.int .u32 pa,iQ n,.func (.func gf) #[] us.toArray] (pt pv (cg ps pm (dd 0))::aH ps (ff 0)::pt pm (bM pg)::kH 0 (DH 0)::R)
      (λv B=>v=.tuple #[]/\B=pt pv (cg ps pm (dd n))::aH ps (ff n)::pt pm (bM pg)::kH 0 (DH n)::R):=by
 refine am func312 ntmps312 ?_;refine dh (fQ Z Z) λb1=>?_;refine dh (fQ Z Z) λb2=>?_;refine ac (cv ph) ?_;refine aF Z (aK call316 (RA pa n)) ?_;rintro _ B_ ⟨bn,bp,rfl,hB_⟩;subst hB_;refine au 3 (Gv (λC=>C=pt b2 (ae [.func (.func gf) #[] us.toArray] 459)::pt b1 (ae [pQ pv] 94)::pt pv (cg ps pm (dd n))::aH ps (ff n)::pt pm (bM pg)::kH 0 (DH n)::R) (λC=>False) Z call381 ?_ ?_ ?_);intro L D;refine RB pa n (λi=>pt b2 (ae [.func (.func gf) #[] us.toArray] 459)::pt b1 (ae [pQ pv] 94)::pt pv (cg ps pm (dd i))::aH ps (ff i)::pt pm (bM pg)::kH 0 (DH i)::R) (λi=>True) aq aq tF trivial (λhI=>Z) ?_;intro at_ R' h1 h2;simp only[Qau,Qar];refine Br Z Z ?_;refine aM (aF Z (cP XR) ?_);rintro _ _ ⟨b3,rfl,rfl⟩;refine fw 1 aR ?_;refine Bp Z (jR (aG (aM (aa Z (bO J5 Z (aO Z)) ?_))));refine aa Z (bT Z FR Z bu Z dg) ?_;refine aa Z (bO cM Z (aO Z)) ?_;refine aF Z (xt call317 Z (Ry pv ps pm (dd at_) (ff at_) pg h (((pa+at_)/64:Nat):Int))) ?_;rintro _ B_ ⟨rfl,hB_⟩;subst hB_;have hpos:=Rz (pa:=pa) (n:=n) (at_:=at_) h1;refine aa Z (aV Z) (aa Z (jT Z Z) (aa Z (jT Z Z) (aa Z (aU Z) (aa Z (aU Z) (aI (aA (aG ?_)))))));refine ix (r:=dO) (b:=L) (a6X λHL hHL=>?_);refine aM (aa Z (bT Z FR Z bu Z dg) ?_);refine aa Z (bO cM Z (aO Z)) ?_;refine aa Z (aV Z) (aI (aA (jR ?_)));refine fI (λi:Nat=>i≤kF pa n at_) (λi=>[(4,.pointer (some ⟨b1,0,none⟩)),(7,.pointer (some ⟨b2,0,none⟩)),(8,.pointer (some ⟨b3,0,none⟩)),(9,.int .i64 (sJ pg (pa+at_))),(25,.int .i64 (kF pa n at_:Nat)),(26,.int .i64 i)]) (λi=>kH 1 HL::pt D (.deferred (some []))::pt b3 (ae (Ld pa n at_) 465)::pt b2 (ae [.func (.func gf) #[] us.toArray] 459)::pt b1 (ae [.pointer (some ⟨pv,0,none⟩)] 94)::pt pv (cg ps pm (dd (at_+i)))::aH ps (ff (at_+i))::pt pm (bM pg)::kH 0 (DH (at_+i))::(R++R')) (λi=>kF pa n at_-i) 0 ?_ ?_ ?_ ?_;omega
 · exact ai
 simp only[QbW];exact inferInstance;intro i hi;refine aG (aM (aa Z (tB Z Z) (aI (aA (aG ?_)))));apply aB Z<;>intro c5;refine fH (aA (aG (jR (aG (aM (aa Z (aV Z) (aa Z (aU Z) (aI (aA ?_)))))))));have hlt:i<kF pa n at_:=aq;have hd:=hdo (at_+i) aq;rw[show sJ pg (pa+(at_+i))=sJ pg (pa+at_) by rw[sJ,tY,(RD hlt).1];rfl,(RD hlt).2]at hd;refine aM (aa Z (bO isAgg459 Z (aO Z)) ?_);refine aa Z (aV Z) ?_;refine aa Z (bT Z FR Z bu Z dg) ?_;refine aa Z (bO cM Z (aO Z)) ?_;refine aa Z (aV Z) ?_;refine aa Z (dI Z Z (n7:IntKind.wrap .i64 ((((pa+at_)%64:Nat):Int)+(i:Int))=(((pa+at_)%64+i:Nat):Int))) ?_;refine aa Z (bT Z FR Z bu Z dg) ?_;refine aa Z (bO cM Z (aO Z)) ?_;refine aa Z (aV Z) (ac (eX (at_+i)) ?_);refine aF Z (a6V Z hcall Z (hd _ inferInstance)) ?_;rintro _ B_ ⟨rfl,hB_⟩;subst hB_;refine aI (lY (aA (aM ?_)));refine aa Z (dI Z Z ph) ?_;refine aa Z (aV Z) (aI (aA ?_));refine d8 (i+1) ?_ (he:=?_);omega;simp only[<-Qcm];exact inferInstance;refine au 5 ?_;have e1:i=kF pa n at_:=aq;subst e1;subst hHL;exact a6Y (zn ⟨_,.inl ⟨Z,trivial,Z⟩,IO⟩);intro D C hC;obtain rfl:=hC;refine au 1 (sj (.inr Z) .nil ?_);exact ax;intro D C hC;exact hC.elim
def wm(fr:List az)(pg:List Pl)(a:Nat):Nat:=gW fr (sJ pg a) ((a %64:Nat):Int) 1
def jw(fr:List az)(pg:List Pl)(pa n:Nat):List Nat:=(List.range n).map λi=>wm fr pg (pa+i)
def jX(fr:List az)(pg:List Pl)(pa:Nat)(n:Int):List Nat:=if d9 fr.length pg pa n then jw fr pg pa n.toNat else[]
theorem a9I{fr}(a:bD fr)f off:gW fr f off 1<256:=by
 unfold gW;split
 rename_i b
 obtain⟨i,rfl,c⟩:=wc b;unfold qo;split;have d:=(a.get c).2;have:=xC ((d.drop off.toNat).take (1:Int).toNat);refine Qcp this ?_;have:((List.drop off.toNat (fr.getD (i:Int).toNat [])).take (1:Int).toNat).length≤1:=aac;exact QcN cl this;decide;decide
theorem RF(b:bD fr)pg a:wm fr pg a<256:=a9I b _ _
theorem wn fr pg pa n:(jw fr pg pa n).length=n:=by simp[jw]
theorem zQ(a:bD fr)pg pa n:By (jw fr pg pa n):=λb c=>by
 obtain⟨i,_,rfl⟩:=QaZ.1 c;exact RF a _ _
theorem a9J(c:bD fr)pg pa n:By (jX fr pg pa n):=by unfold jX;split;grind[zQ];exact λb a=>by simp at a
def qy(f:Nat->Nat)(n i:Nat):List Nat:=(List.range n).map λj=>if j<i then f j else 0
theorem a9K f n i:(qy f n i).length=n:=by simp[qy]
theorem a9L f n:bW (qy f n 0)=List.replicate n (bV 0):=by apply QaV<;>simp[qy,bW]
theorem a9M f n:qy f n n=(List.range n).map f:=by simp_all[QaV,qy]
theorem a9N{f:Nat->Nat}(a:i<n):(bW (qy f n i)).set i (bV (f i))=bW (qy f n (i+1)):=by apply QaV;simp[qy,bW];grind[qy,bW]
theorem a9O{f:Nat->Nat}(a:i<n):(bW (qy f n i)).set (i*1) (bV (f i))=bW (qy f n (i+1)):=by rw[QaP];exact a9N a
abbrev Le(pv b1 b2 g n i:Nat)(f:Nat->Nat):HP:=bB [pt b1 (ae [.pointer (some ⟨pv,0,none⟩)] 94),pt b2 (ae [.slice (some ⟨g,0,none⟩) n n] 293),pt g (ae (bW (qy f n i)) 5)]
theorem a9P W0 R pv ps pm d b1 b2 g n i fr pg(a:bD fr)pa(b:i<n)(e:n≤512):sQ W0 313 [iQ (sJ pg (pa+i)),iQ ((pa+i)%64:Nat),iQ i,pQ b1,pQ b2] (pt pv (cg ps pm d)::aH ps fr::pt pm (bM pg)::kH 0 (Le pv b1 b2 g n i (λj=>wm fr pg (pa+j)))::R) (.tuple #[]) (pt pv (cg ps pm d)::aH ps fr::pt pm (bM pg)::kH 0 (Le pv b1 b2 g n (i+1) (λj=>wm fr pg (pa+j)))::R):=by have c:=RF a pg (pa+i);refine eR (uO (r1:=kH) (b1:=0)) (qW ?_);simp only[Qau,Qar];refine am func313 ntmps313 ?_;refine ao (ar OB (GX W0 _ ps fr _ _ 1 a)) ?_;refine ac (cv (JY (by grind[gW,sJ,wm]))) ?_;refine ac (cu b) ?_;refine aJ (fg (by rw[iJ,a9K];omega) (a9O (f:=λj=>wm fr pg (pa+j)) b)) ?_;refine bP (.inr Z) .nil ?_;exact ax
theorem El(g l m d:Nat)(b:List az)(e:List Pl)(h:Pgs e)(x:bD b)(f:Nat)(o:f<4294967296)(n:Int):sP W0 233 [pQ g,.int .u32 f,iQ n] (pt g (cg l m d)::aH l b::pt m (bM e)::R) (λv B=>∃a c,v=.tuple #[.slice a (jX b e f n).length c,.bool (d9 b.length e f n)]/\B=osl 5 1 (.slice a (jX b e f n).length c) (bW (jX b e f n))::pt g (cg l m d)::aH l b::pt m (bM e)::R):=by
 by_cases r:d9 b.length e f n=true;obtain⟨k,rfl⟩:∃k:Nat,n=(k:Int):=⟨n.toNat,by have:=(xS.1 r).1;omega⟩
 obtain⟨y,_⟩:=xT.1 r;have t:jX b e f (k:Int)=jw b e f k:=by grind[jX]
 rw[t,wn,r];refine am func233 ntmps233 ?_;refine dh (fQ Z Z) λs=>?_;refine ao (dF xn (xU g l m d b e h f o k)) ?_;apply ap<;>intro p;exact absurd r p;refine dh (Bt (sz:=1) (by_:=1) (info:=Tryz.t5) jf ld Z Z Z Z cl Z Z Z Z aq cl) λu=>?_;refine dh (pw zeroValue293 Z) λw=>?_;refine aJ dr ?_;rw[show List.replicate (k*1) (Value.int .u8 0)=bW (qy (λj=>wm b e (f+j)) k 0) by rw[a9L,QaP];rfl];refine ao (qe inferInstance (aK call312 (RE W0 R g l m e h f k y (λ_=>d) (λ_=>b) (λi=>Le g s w u k i (λj=>wm b e (f+j))) 313 [pQ s,pQ w] call313 (λi A C D=>a9P W0 C g l m d s w u k i b e x f A aq)))) ?_;refine Gx ?_;simp only[Qau,Qar];refine aw (aZ ?_);rw[a9M];exact⟨_,⟨some ⟨u,0,none⟩,k,Z,Z⟩,Ke n5 (by simp_all[QaP,iJ,wn])⟩;have t:jX b e f n=[]:=by grind[jX]
 have q:d9 b.length e f n=false:=mv;rw[t,q];refine am func233 ntmps233 ?_;refine dh (fQ Z Z) λs=>?_;refine ao (dF xn (xU g l m d b e h f o n)) ?_;apply ap<;>intro p;exact aZ ⟨_,⟨none,0,Z,Z⟩,eW⟩;exact absurd (by rw[q];decide) p
def zR(fr:List az)(pg:List Pl)(pa:Nat)(bs:List Nat):Nat->List az
 |0=>fr
 |k+1=>jn (zR fr pg pa bs k) (sJ pg (pa+k)) (((pa+k)%64:Nat):Int) 1 (bs.getD k 0)
def C0(d pa:Nat):Nat->Nat
 |0=>d
 |k+1=>C0 d pa k|||2^((pa+k)/64)
theorem Hg(h:bD fr):∀k,bD (zR fr pg pa bs k)/\(zR fr pg pa bs k).length=fr.length
 |0=>⟨h,Z⟩
 |k+1=>⟨vd (Hg h k).1,tP.trans (Hg h k).2⟩
theorem Lf{d pa}(h:d<4096):∀k,pa+k≤512->C0 d pa k<4096
 |0,_=>h
 |k+1,a=>Qcv (n:=12) (Lf h k aq) (Hf aq)
def kU(fr:List az)(pg:List Pl)(pa:Nat)(bs:List Nat):List az:=if d9 fr.length pg pa bs.length then zR fr pg pa bs bs.length else fr
def oJ(fr:List az)(pg:List Pl)(pa:Nat)(d n:Nat):Nat:=if d9 fr.length pg pa n then C0 d pa n else d
theorem Em(h:bD fr):bD (kU fr pg pa bs)/\(kU fr pg pa bs).length=fr.length:=by grind[kU,Hg]
theorem zS(h:d<4096):oJ fr pg pa d n<4096:=by
 unfold oJ;split
 rename_i a;exact Lf h _ (xT.1 a).1
 exact h
abbrev Lg(pv pa b1 b2 b3:Nat)(a:Option Addr)(n c:Nat):HP:=bB [pt b1 (ae [.pointer (some ⟨pv,0,none⟩)] 94),pt b2 (ae [.int .u32 pa] 62),pt b3 (ae [.slice a n c] 293)]
theorem a9Q W0 R pv ps pm d b1 b2 b3 c i a fr pg(hF:bD fr)pa bs(hb:By bs)(hs:bZ (aQ W0 R) a 1 (λx=>[bV x]) bs)(hi:i<bs.length)(hn:pa+bs.length≤512)(hd:d<4096):sQ W0 318 [iQ (sJ pg (pa+i)),iQ ((pa+i)%64:Nat),iQ i,pQ b1,pQ b3,pQ b2] (pt pv (cg ps pm d)::aH ps fr::pt pm (bM pg)::kH 0 (Lg pv pa b1 b2 b3 a bs.length c)::R) (.tuple #[]) (pt pv (cg ps pm (d|||2^((pa+i)/64)))::aH ps (jn fr (sJ pg (pa+i)) ((pa+i)%64:Nat) 1 (bs.getD i 0))::pt pm (bM pg)::kH 0 (Lg pv pa b1 b2 b3 a bs.length c)::R):=by obtain⟨f,g,rfl,e⟩:=hs.at_ hi;have j:bs[i]<256:=hb.get hi;have h:bs.getD i 0=bs[i]:=aa6;have l:=Hf (n:=(pa+i)/64) aq;rw[h];refine eR (uO (r1:=kH) (b1:=0)) (qW ?_);simp only[Qau,Qar];refine am func318 ntmps318 ?_;refine dY [(b1,0,_),(pv,0,_),(b3,0,_),(f,g+i*1,[bV bs[i]])] 12 mixed Z (bj (bj (bj (dA e.weak bI)))) (λb=>?_);refine aj 0 8 b ?_;refine aE 8 b (cu hi) ?_;refine aE 9 b (aY (K0 (k:=3) Z)) ?_;refine aE 10 b (cv (eh aq)) ?_;refine iX 11 Z Z (ar G1 (DW W0 _ ps fr _ _ 1 bs[i] aq hF)) (bj (bj (bj (dA e.weak bI)))) λb=>?_;refine aS (bH [b1,b2] 14 λb=>?_);refine aj 0 3 b ?_;refine aj 4 1 b ?_;refine aE 5 b (cv (bS aq)) ?_;refine aj 6 1 b ?_;refine aE 7 b (eX (pa+i)) ?_;refine aE 8 b (qT Z Z cl ((Qak (IntKind.wrap .i64) (uW (pa+i) 64)).trans (bS aq))) ?_;refine aE 9 b (uJ Z Z aq (Rx aq)) ?_;refine bQ 3 (dJ (aY (aO Z))) λb=>?_;refine aE 10 b (uI Z Z (Bv aq aq)) ?_;refine aj 11 2 b ?_;refine cp 13 dr λb=>?_;refine aS (bP (.inr Z) .nil ?_);exact ax
theorem RG(j k l d c:Nat)(a:Option Addr)(g:List az)(f:List Pl)(h:Pgs f)(v:bD g)(w:d<4096)(e:Nat)(n:e<4294967296)(b:List Nat)(y:By b)(A:bZ (aQ W0 R) a 1 (λx=>[bV x]) b)(t:b.length<9223372036854775808):sQ W0 237 [pQ j,.int .u32 e,.slice a b.length c] (pt j (cg k l d)::aH k g::pt l (bM f)::R) (.bool (d9 g.length f e b.length)) (pt j (cg k l (oJ g f e d b.length))::aH k (kU g f e b)::pt l (bM f)::R):=by
 by_cases m:d9 g.length f e b.length=true;obtain⟨u,_⟩:=xT.1 m;rw[oJ,Qad m,kU,Qad m,m];refine am func237 ntmps237 ?_;refine dh (fQ Z Z) λq=>?_;refine dh (fQ Z Z) λr=>?_;refine dh (fQ Z Z) λs=>?_;refine ao (dF xn (xU j k l d g f h e n b.length)) ?_;apply ap<;>intro o;exact absurd m o;refine ao (qe (by simp only[C0,zR];exact inferInstance) (aK call312 (RE W0 R j k l f h e b.length u (C0 d e) (zR g f e b) (λ_=>Lg j e q r s a b.length c) 318 [pQ q,pQ s,pQ r] call318 (λi B C D=>a9Q W0 C j k l _ q r s c i a _ f (Hg v i).1 e b y A.weak B u (Lf w i aq))))) ?_;exact ki;have p:d9 g.length f e b.length=false:=by simpa using m
 rw[oJ,Qab m,kU,Qab m,p];refine am func237 ntmps237 ?_;refine dh (fQ Z Z) λq=>?_;refine dh (fQ Z Z) λr=>?_;refine dh (fQ Z Z) λs=>?_;refine ao (dF xn (xU j k l d g f h e n b.length)) ?_;apply ap<;>intro o;exact ki;exact absurd (by rw[p];decide) o
def kV(d n:Nat):List Nat:=(List.range n).filter λi=>Nat.testBit d i
def En(n:Nat):Value:=.int .i64 (n:Int)
def C1(l:List Nat):List Value:=l.map En
theorem RH d n:kV d (n+1)=kV d n++(if Nat.testBit d n then[n]else[]):=by grind[kV,QcI]
theorem RI d n:(kV d n).length≤n:=by grind[QaW,Nat.testBit,List.range,kV]
theorem RJ(e h j d:Nat)(p:d<4096):sP W0 253 [pQ e] (pt e (cg h j d)::R) (λv B=>∃a c,v=.slice a (kV d 12).length c/\B=osl 3 1 (.slice a (kV d 12).length c) (C1 (kV d 12))::pt e (cg h j 0)::R):=by
 refine am func253 ntmps253 ?_;refine cW 2 (ar Jw (Ei e h j d)) ?_;apply aB Z<;>intro f;exact absurd f cl;refine aw (fI (λx:Nat×Option Addr×Nat=>x.1≤12) (λx=>[(0,pQ e),(3,.slice x.2.1 (kV d x.1).length x.2.2),(7,iQ x.1)]) (λx=>osl 3 1 (.slice x.2.1 (kV d x.1).length x.2.2) (C1 (kV d x.1))::pt e (cg h j d)::R) (λx=>12-x.1) (0,none,0) ?_ ?_ ?_ ?_);simp
 · exact ai
 exact eW;intro ⟨i,a,c⟩ hi;dsimp only at hi ⊢;have q:=RI d i;refine aw (ap (λl=>?_) λl=>?_);refine ac (pu Z Z aq (uV (by simp[IntKind.bits];omega))) ?_;refine ac (iT Z Z (pz (b:=1) (Qbf (Qct _ _) aq) aq)) ?_;apply ap<;>intro m;have n:Nat.testBit d i=true:=by
  grind
 have g:kV d (i+1)=kV d i++[i]:=by grind[RH]
 refine dh (lG jE bu pq Z Z Z Z Z cl cl) λr=>?_;refine aF Z (fR (sz:=1) (by_:=8) (info:=Tryz.t3) jE ld Z Z Z Z cl Z Z eQ Z Z n5 aq) ?_;rintro _ _ ⟨k,f,rfl,rfl⟩;refine aw (ac cK (nE (i+1,k,f) ?_ ?_ ?_ ?_));omega;omega
 · simp only[g,Qaf,QaK,Qca];repeat (first|exact cQ|refine cA rfl ?_)
 simp only[g,C1,QaN,QaE,QbE,En,Qaf,QaK,Qca];exact inferInstance;have n:¬Nat.testBit d i=true:=by
  grind
 have g:kV d (i+1)=kV d i:=by grind[RH]
 obtain⟨k,rfl⟩:∃x,x=a:=⟨a,Z⟩
 obtain⟨f,rfl⟩:∃x,x=c:=⟨c,Z⟩
 refine ac cK (nE (i+1,k,f) ?_ ?_ ?_ ?_);omega;omega
 · simp only[g,Qaf,QaK,Qca];repeat (first|exact cQ|refine cA rfl ?_)
 simp only[g,C1,QaN,QaE,QbE,En,Qaf,QaK,Qca];exact inferInstance;refine aJ dr (ag ?_);have o:i=12:=aq;subst o;exact ab4
def sK(d:Dsc):Bool:=decide (d.flags/2%2=1)
def qz(d:Dsc):Bool:=decide (d.flags %2=1)
theorem C2(d:Dsc)(a:d.ok):sQ W0 281 [.agg (fq d).toArray] R (.bool (sK d)) R:=by refine am func281 ntmps281 ?_;refine bR λb=>?_;refine ac (iT Z Z (a75 a.flags)) ?_;refine ag (aP (Qak Value.bool ?_));rw[Qah,Qcr,sK,Qag];omega
theorem a9R(d:Dsc)(a:d.ok):sQ W0 438 [.agg (fq d).toArray] R (.bool (qz d)) R:=by refine am func438 ntmps438 ?_;refine bR λb=>?_;refine ac (iT Z Z (QB a.flags)) ?_;refine ag (aP (Qak Value.bool ?_));rw[Qah,Qcr,qz,Qag];omega
abbrev vk(pv:Nat)(r:Rg3)(wr:Bool):Obj:=ae [.pointer (some ⟨pv,0,none⟩),.int .u32 r.desc,.int .u32 r.avail,.int .u32 r.used,.int .i64 r.n,.bool wr] 529
abbrev vw(pv ps pm d:Nat)(fr:List az)(pg:List Pl)(R:List HP):List HP:=pt pv (cg ps pm d)::aH ps fr::pt pm (bM pg)::R
def oK(r:Rg3)(at_:Nat):Nat:=(r.desc+16*at_)%4294967296
theorem a9S r at_:oK r at_<4294967296:=Qbq _ cl
def sM(fr:List az)(pg:List Pl)(r:Rg3)(at_:Nat):Dsc:=if d9 fr.length pg (oK r at_) 16 then GQ (jw fr pg (oK r at_) 16)else zD
theorem RL:zD.ok:=⟨cl,cl,cl,cl⟩
theorem RN(a:bD fr)pg r at_:(sM fr pg r at_).ok:=by grind[sM,a71,zQ,RL]
theorem a9T(bw pv ps pm d:Nat)(fr:List az)(pg:List Pl)(h:Pgs pg)(hF:bD fr)(r:Rg3)(hr:r.ok)(wr:Bool)(at_:Nat)(hat:at_<100):sQ W0 471 [pQ bw,iQ at_] (pt bw (vk pv r wr)::vw pv ps pm d fr pg R) (.tuple #[.agg (fq (sM fr pg r at_)).toArray,.bool (d9 fr.length pg (oK r at_) 16)]) (pt bw (vk pv r wr)::vw pv ps pm d fr pg R):=by
 have hd:=hr.desc;refine am func471 ntmps471 ?_;refine bU λb1=>?_;refine bH [bw] 19 λhS=>?_;refine aj 0 10 hS ?_;refine aE 10 hS (cv (eh aq)) ?_;refine aE 11 hS (mu (16*at_)) ?_;refine aE 12 hS (dI Z Z (PX (r.desc+16*at_))) ?_;refine co 13 (dF G2 (El pv ps pm d fr pg h hF (oK r at_) (a9S r at_) 16)) ?_;clear hS;rintro _ B_ ⟨a,c,rfl,hB_⟩;subst hB_;refine⟨aW,λhS=>?_⟩;refine aj 14 5 hS ?_;refine aS (ap (λc2=>?_) λc2=>?_);have ho:d9 fr.length pg (oK r at_) 16=false:=aam;refine aJ aR (bJ (.cons (bX pW jD Z Z) (.cons (bA Z) .nil)) ?_);refine aP ?_;simp[bY,sM,ho,zD];have ho:d9 fr.length pg (oK r at_) 16=true:=QaH.1 c2;have hrd:jX fr pg (oK r at_) 16=jw fr pg (oK r at_) 16:=by rw[jX,Qad ho];rfl
 have hln:(jw fr pg (oK r at_) 16).length=16:=wn _ _ _ _;rw[hrd];refine jV (E:=5) (sz:=1) (a:=a) (c:=c) (n:=(jw fr pg (oK r at_) 16).length) (λx=>[bV x]) (jw fr pg (oK r at_) 16) (λ_=>Z) cl (tL _).symm (λhs1=>?_);refine qZ (E:=5) (sz:=1) (a:=a) (c:=c) (n:=(jw fr pg (oK r at_) 16).length) (λhcap=>?_);refine aw (ao (aK call485 (a73 a c _ hs1 (zQ hF _ _ _) hcap.1 (by rw[hln];decide))) ?_);rw[Qad hln,Qad hln];refine bU λb2=>?_;refine aJ aR (aJ aR (bJ (.cons (bX pW jD Z Z) (.cons (bA Z) .nil)) ?_));refine aP ?_;simp[bY,sM,ho]
def lk(fr:List az)(pg:List Pl)(r:Rg3)(at_:Int)(n:Nat)(wr:Bool):Dsc×Int:=
  if at_<0\/r.n≤at_ then(zD,1)else if r.n≤(n:Int)then(zD,2)else
  if d9 fr.length pg (oK r at_.toNat) 16=false then(zD,5)else
  if w4 (sM fr pg r at_.toNat) r.n.toNat≠0 then(zD,w4 (sM fr pg r at_.toNat) r.n.toNat)else
  if d9 fr.length pg (sM fr pg r at_.toNat).addr (sM fr pg r at_.toNat).len=false then(zD,5)else
  if wr=true/\sK (sM fr pg r at_.toNat)=false then(zD,6)else(sM fr pg r at_.toNat,0)
theorem RO(a:bD fr)pg r at_ n wr:(lk fr pg r at_ n wr).1.ok:=by grind[lk,RL,RN]
theorem RP{a:Int}{b:Bool}(h:(lk fr pg r a n b).2=0):(n:Int)<r.n:=by grind[lk]
theorem a9U(bw pv ps pm d:Nat)(fr:List az)(pg:List Pl)(h:Pgs pg)(hF:bD fr)(r:Rg3)(hr:r.ok)(hn8:r.n≤8)(wr:Bool)(at_:Int)(n:Nat):sQ W0 437 [.pointer (some ⟨bw,0,none⟩),.int .i64 at_,.int .i64 n] (pt bw (vk pv r wr)::vw pv ps pm d fr pg R) (.tuple #[.agg (fq (lk fr pg r at_ n wr).1).toArray,.int .i64 (lk fr pg r at_ n wr).2]) (pt bw (vk pv r (if (lk fr pg r at_ n wr).2=0 then sK (lk fr pg r at_ n wr).1 else wr))::vw pv ps pm d fr pg R):=by
 refine jj 2 func437 ntmps437 ?_;refine dT (cP tz) λb1=>?_;refine au 13 (aB Z (λc1=>?_) λc1=>?_);refine au 5 (aa Z (eH AZ tz (aT aX (aT aX (aT aX (aT aX eG)))) eE) ?_);refine fw 6 (eN jD Z Z Z Z Z) ?_;refine bJ (.cons (bX pW jD Z Z) (.cons (bA Z) .nil)) ?_;have hl:lk fr pg r at_ n wr=(zD,1):=by unfold lk;rw[Qad aq]
 rw[hl,Qab cl];exact gj;refine au 11 (aB Z (λc2=>?_) λc2=>?_);refine au 2 (aa Z (eH AZ tz (aT aX (aT aX (aT aX (aT aX eG)))) eE) ?_);refine fw 6 (eN jD Z Z Z Z Z) ?_;refine bJ (.cons (bX pW jD Z Z) (.cons (bA Z) .nil)) ?_;have hl:lk fr pg r at_ n wr=(zD,1):=by unfold lk;rw[Qad aq]
 rw[hl,Qab cl];exact gj;refine au 12 (aB Z (λc4=>?_) λc4=>?_);refine au 2 (aa Z (eH AZ tz (aT aX (aT aX (aT aX (aT aX eG)))) eE) ?_);refine fw 6 (eN jD Z Z Z Z Z) ?_;refine bJ (.cons (bX pW jD Z Z) (.cons (bA Z) .nil)) ?_;have hl:lk fr pg r at_ n wr=(zD,2):=by unfold lk;rw[Qab aq,Qad aq]
 rw[hl,Qab cl];exact gj;refine au 4 ?_;obtain⟨k,rfl⟩:∃k:Nat,at_=(k:Int):=⟨at_.toNat,aq⟩
 obtain⟨dd,hdd⟩:∃x,sM fr pg r k=x:=⟨_,Z⟩
 have hok:=RN hF pg r k;rw[hdd]at hok;obtain⟨rn,hrn⟩:∃x:Nat,r.n=(x:Int):=⟨r.n.toNat,aq⟩
 refine au 3 (eS (gU call471 Z (a9T bw pv ps pm d fr pg h hF r hr wr k aq)) ?_);rw[hdd];refine au 3 (dT (cP tz) λbd=>?_);refine fw 10 (eN jD Z Z Z Z Z) ?_;apply aB Z<;>intro c7;have ho:d9 fr.length pg (oK r k) 16=false:=by simpa using c7
 refine au 2 (aa Z (eH AZ tz (aT aX (aT aX (aT aX (aT aX eG)))) eE) ?_);refine fw 5 (eN jD Z Z Z Z Z) ?_;refine bJ (.cons (bX pW jD Z Z) (.cons (bA Z) .nil)) ?_;have hl:lk fr pg r k n wr=(zD,5):=by unfold lk;rw[Qab aq,Qab aq,Qae,Qad ho]
 rw[hl,Qab cl];exact gj;have ho:¬d9 fr.length pg (oK r k) 16=false:=by simpa using c7
 refine au 4 ?_;rw[show vk pv r wr=ae [.pointer (some ⟨pv,0,none⟩),.int .u32 r.desc,.int .u32 r.avail,.int .u32 r.used,.int .i64 rn,.bool wr] 529 by rw[<-hrn]];refine dY [(bd,0,_),(bw,0,_)] 8 mixed Z (bj (bj bI)) (λhS=>?_);refine cI 0 Z Z Z hS (jg pW jD Z rg Z) ?_;refine aj 1 5 hS ?_;refine iX 6 Z Z (gx call472 Z (a76 dd hok rn aq)) (bj (bj bI)) λhS=>?_;refine aj 7 1 hS ?_;refine eY (au 2 ?_);rw[<-hrn];refine au 5 (aB Z (λc10=>?_) λc10=>?_);refine au 2 (aa Z (eH AZ tz (aT aX (aT aX (aT aX (aT aX eG)))) eE) ?_);refine aa Z (aV Z) (fw 5 (eN jD Z Z Z Z Z) ?_);refine bJ (.cons (bX pW jD Z Z) (.cons (bA Z) .nil)) ?_;have hl:lk fr pg r k n wr=(zD,w4 dd rn):=by unfold lk;rw[Qab (by omega),Qab (by omega),Qae,Qab ho,hdd,show r.n.toNat=rn by omega,Qad c10]
 rw[hl,Qab c10];exact gj;refine au 5 (dY [(bw,0,_),(bd,0,_)] 12 mixed Z (bj (bj bI)) (λhS=>?_));refine aj 0 8 hS ?_;refine cI 8 Z Z Z hS (uK uC ez Z (bS (by have:=hok.len;omega))) ?_;refine iX 9 Z Z (xt xn Z (xU pv ps pm d fr pg h dd.addr hok.addr dd.len)) (bj (bj bI)) λhS=>?_;refine aj 10 2 hS ?_;refine eY (aA (aB Z (λc12=>?_) λc12=>?_));have ho2:d9 fr.length pg dd.addr dd.len=false:=by simpa using c12
 refine au 2 (aa Z (eH AZ tz (aT aX (aT aX (aT aX (aT aX eG)))) eE) ?_);refine fw 6 (eN jD Z Z Z Z Z) ?_;refine bJ (.cons (bX pW jD Z Z) (.cons (bA Z) .nil)) ?_;have hl:lk fr pg r k n wr=(zD,5):=by unfold lk;rw[Qab (by omega),Qab (by omega),Qae,Qab ho,hdd,show r.n.toNat=rn by omega,Qab c10,Qad ho2]
 rw[hl,Qab cl];exact gj;have ho2:¬d9 fr.length pg dd.addr dd.len=false:=by simpa using c12
 refine au 7 (so Z Z Z (λg14_5=>?_) λg14_5=>?_);refine au 2 (cW 6 (gx G3 Z (C2 dd hok)) ?_);apply aB Z<;>intro c14;refine au 2 (aa Z (eH AZ tz (aT aX (aT aX (aT aX (aT aX eG)))) eE) ?_);refine fw 6 (eN jD Z Z Z Z Z) ?_;refine bJ (.cons (bX pW jD Z Z) (.cons (bA Z) .nil)) ?_;have hl:lk fr pg r k n wr=(zD,6):=by unfold lk;rw[Qab (by omega),Qab (by omega),Qae,Qab ho,hdd,show r.n.toNat=rn by omega,Qab c10,Qab ho2,Qad ⟨g14_5,by simpa using c14⟩]
 rw[hl,Qab cl];exact gj;refine au 7 (cW 2 (gx G3 Z (C2 dd hok)) ?_);refine fw 5 (iG l6 Z Z Z (Qaa Z) SetL.eq) ?_;refine fw 4 (eN jD Z Z Z Z Z) ?_;refine bJ (.cons (bX pW jD Z Z) (.cons (bA Z) .nil)) ?_;have hl:lk fr pg r k n wr=(dd,0):=aal;rw[hl,Qad Z];exact gj;refine au 14 (cW 2 (gx G3 Z (C2 dd hok)) ?_);refine fw 5 (iG l6 Z Z Z (Qaa Z) SetL.eq) ?_;refine fw 4 (eN jD Z Z Z Z Z) ?_;refine bJ (.cons (bX pW jD Z Z) (.cons (bA Z) .nil)) ?_;have hl:lk fr pg r k n wr=(dd,0):=aal;rw[hl,Qad Z];exact gj
abbrev RQ:=Int×Bool×List Dsc
def RR(fr:List az)(pg:List Pl)(r:Rg3)(n:Nat)(x:RQ):Dsc×Int:=lk fr pg r x.1 n x.2.1
def iL(fr:List az)(pg:List Pl)(r:Rg3)(head:Int):Nat->RQ
 |0=>(head,false,[])
 |n+1=>let d:=(RR fr pg r n (iL fr pg r head n)).1;((d.next:Int),sK d,(iL fr pg r head n).2.2++[d])
abbrev fW(fr:List az)(pg:List Pl)(r:Rg3)(head:Int)(n:Nat):Dsc×Int:=RR fr pg r n (iL fr pg r head n)
def nh(fr:List az)(pg:List Pl)(r:Rg3)(head:Int)(n:Nat):Prop:=∀m,m<n->(fW fr pg r head m).2=0/\qz (fW fr pg r head m).1=true
theorem nh.succ(h:nh fr pg r head n)(a:(fW fr pg r head n).2=0)(b:qz (fW fr pg r head n).1=true):nh fr pg r head (n+1):=λm c=>by
 rcases Qaz m n with q|q;exact h m q;grind
theorem nh.le{fr pg r head n}(h:nh fr pg r head n)(a:0≤r.n/\r.n≤8):n≤8:=by rcases QcC n with q|q;omega;have:=RP (h (n-1) aq).1;omega
theorem Lh fr pg r head:∀n,(iL fr pg r head n).2.2.length=n
 |0=>Z
 |n+1=>by rw[iL];simp[Lh fr pg r head n]
def rC(fr:List az)(pg:List Pl)(r:Rg3)(head:Int):Nat->Nat->List Dsc×Int
 |0,_=>([],2)
 |f+1,n=>if (fW fr pg r head n).2≠0 then([],(fW fr pg r head n).2)else if qz (fW fr pg r head n).1 then rC fr pg r head f (n+1)else((iL fr pg r head (n+1)).2.2,0)
def oL(fr:List az)(pg:List Pl)(r:Rg3)(head:Int):List Dsc×Int:=if w5 r then rC fr pg r head 9 0 else([],5)
theorem Lj{fr pg r head}:∀n k,nh fr pg r head n->n≤k->rC fr pg r head k 0=rC fr pg r head (k-n) n
 |0,k,_,_=>Z
 |n+1,k,h,c=>by
  rw[Lj n k (λm d=>h m aq) aq];obtain⟨e,a⟩:=h n aq;obtain⟨j,b⟩:∃j,k-n=j+1:=⟨k-n-1,aq⟩
  rw[b,rC,Qab (by omega),Qad a,show k-(n+1)=j by omega]
theorem a9V{fr pg r head n}(h:nh fr pg r head n)(c:n≤8)(a:(fW fr pg r head n).2≠0):rC fr pg r head 9 0=([],(fW fr pg r head n).2):=by
 rw[Lj n 9 h aq];obtain⟨j,b⟩:∃j,9-n=j+1:=⟨9-n-1,aq⟩
 rw[b,rC,Qad a]
theorem a9W{fr pg r head n}(h:nh fr pg r head n)(b:n≤8)(c:(fW fr pg r head n).2=0)(d:qz (fW fr pg r head n).1=false):rC fr pg r head 9 0=((iL fr pg r head (n+1)).2.2,0):=by
 rw[Lj n 9 h aq];obtain⟨j,a⟩:∃j,9-n=j+1:=⟨9-n-1,aq⟩
 rw[a,rC,Qab aq,Qab mv]
theorem a9X W0 L bh bwb bw pv ps pm d fr pg(h:Pgs pg)(hF:bD fr)r(hr:r.ok)(hn8:0≤r.n/\r.n≤8)head(Cc:Nat->List HP)(Stop:Nat->List HP->Prop)(hrd:∀n R',nh fr pg r head n->n≤8->sr Tryz.prog W0 L [.agg (fq (fW fr pg r head n).1).toArray,.int .i64 (fW fr pg r head n).2] (Cc n++R') (λv B=>∃b B',v=.bool b/\B=B'++R'/\((b=true/\(fW fr pg r head n).2=0/\B'=Cc (n+1))\/(b=false/\Stop n B')))):sP W0 436 [.func (.yield L) #[] #[],.pointer (some ⟨bh,0,none⟩),.pointer (some ⟨bwb,0,none⟩)] (pt bh (ae [.int .i64 head] 3)::pt bwb (ae [.pointer (some ⟨bw,0,none⟩)] 527)::pt bw (vk pv r false)::vw pv ps pm d fr pg (Cc 0)) (λv B=>v=.tuple #[]/\((∃n,nh fr pg r head n/\(fW fr pg r head n).2=0/\qz (fW fr pg r head n).1=false/\B=vw pv ps pm d fr pg (Cc (n+1)))\/(∃n B',nh fr pg r head n/\Stop n B'/\B=vw pv ps pm d fr pg B'))):=by
 refine jj 12 func436 ntmps436 ?_;refine fI (λn:Nat=>nh fr pg r head n) (λn=>[(0,.func (.yield L) #[] #[]),(2,.pointer (some ⟨bwb,0,none⟩)),(4,.int .i64 (iL fr pg r head n).1),(5,.int .i64 n)]) (λn=>pt bwb (ae [.pointer (some ⟨bw,0,none⟩)] 527)::pt bw (vk pv r (iL fr pg r head n).2.1)::vw pv ps pm d fr pg (Cc n)) (λn=>9-n) 0 ?_ ?_ ?_ ?_;exact λm hm=>aq
 · exact eb
 simp only[iL];exact inferInstance;intro n hal;have hn:=hal.le hn8;have hdok:=RO hF pg r (iL fr pg r head n).1 n (iL fr pg r head n).2.1;refine au 7 (cW 3 (gU call437 Z (a9U bw pv ps pm d fr pg h hF r hr hn8.2 (iL fr pg r head n).2.1 (iL fr pg r head n).1 n)) ?_);refine dT (cP tz) λb1=>?_;refine fw 9 (eN jD Z Z Z Z Z) ?_;refine Gs Z Z Z (Gw (QaQ (l₁:=[_,_,_,_,_,_])) (hrd n [_,_,_,_,_,_] hal hn)) ?_;rintro _ B_ ⟨b,B',rfl,hB_,hb⟩;subst hB_;refine uF QaQ ?_;simp only[Qau,Qar];refine au 2 (d7 Z Z Z (λg4_6=>?_) λg4_6=>?_);have hs:Stop n B':=by
  rcases hb with q|q;exact absurd q.1 g4_6;exact q.2
 refine au 16 (bP (.inl Z) .nil ?_)
 first
   |exact⟨_,⟨rfl,.inr ⟨n,B',hal,hs,rfl⟩⟩,IO⟩
   |exact⟨_,⟨rfl,.inl ⟨n,hal,hc,by simpa using c4,rfl⟩⟩,IO⟩
 have hs:(fW fr pg r head n).2=0/\B'=Cc (n+1):=by
  rcases hb with q|q;exact q.2;exact absurd (by rw[q.1];decide) g4_6
 obtain⟨hc,rfl⟩:=hs;refine au 5 (d7 Z Z Z (λg4_10=>?_) λg4_10=>?_);exact absurd hc g4_10;refine au 2 (cW 5 (gx call438 Z (a9R (fW fr pg r head n).1 hdok)) ?_);apply aB Z<;>intro c4;refine au 6 (bP (.inl Z) .nil ?_)
 first
   |exact⟨_,⟨rfl,.inr ⟨n,B',hal,hs,rfl⟩⟩,IO⟩
   |exact⟨_,⟨rfl,.inl ⟨n,hal,hc,by simpa using c4,rfl⟩⟩,IO⟩
 refine au 2 ?_;have hgo:qz (fW fr pg r head n).1=true:=sm;have hsucc:=hal.succ hc hgo;have hlt:=RP hc;refine au 3 (jU 6 (uK uC ez Z (bS (by have:=hdok.next;omega))) ?_);refine jU 3 (Px Z Z) ?_;refine d8 (n+1) ?_ (he:=?_);exact hsucc;have e2:(lk fr pg r (iL fr pg r head n).1 n (iL fr pg r head n).2.1).2=0:=hc;rw[Qad e2];show Ent _ (pt bwb (ae [.pointer (some ⟨bw,0,none⟩)] 527)::pt bw (vk pv r (sK (lk fr pg r (iL fr pg r head n).1 n (iL fr pg r head n).2.1).1))::vw pv ps pm d fr pg (Cc (n+1)));exact IO
theorem a9Y(c:Nat)(a:Int):sP W0 389 [pQ c,iQ a] R (λv B=>∃d b,v=.func (.func 436) #[] #[pQ d,pQ b]/\B=pt d (ae [iQ a] 3)::pt b (ae [pQ c] 527)::R):=by refine am func389 ntmps389 ?_;refine dh (fQ Z Z) λe=>?_;refine dh (fQ Z Z) λf=>?_;exact ag ⟨_,⟨f,e,Z,Z⟩,IO⟩
theorem a9Z{n' L D bh bwb bw pv ps pm:Nat}{ps':Array Tmp}{asg body:Code}{Go Stop:List HP->Prop}(fr:List az)(pg:List Pl)(h:Pgs pg)(hF:bD fr)(r:Rg3)(hr:r.ok)(hn8:0≤r.n/\r.n≤8)(head:Int)(Ct:Nat->List HP)(St:Nat->List HP->Prop)
    (hp:Ent A (pt bh (ae [iQ head] 3)::pt bwb (ae [pQ bw] 527)::pt bw (vk pv r false)::vw pv ps pm d fr pg (Ct 0)))
    (hgo:∀n,nh fr pg r head n->(fW fr pg r head n).2=0->qz (fW fr pg r head n).1=false->Go (vw pv ps pm d fr pg (Ct (n+1))))
    (hst:∀n B',nh fr pg r head n->St n B'->Stop (vw pv ps pm d fr pg B'))
    (hrd:∀n R',nh fr pg r head n->n≤8->sr Tryz.prog W0 L [.agg (fq (fW fr pg r head n).1).toArray,iQ (fW fr pg r head n).2] (dO L ⟨e,n',ps',asg,body,.ready,none,D⟩::pt D (.deferred (some []))::(Ct n++R'))
      (λv B=>(v=.bool true/\(fW fr pg r head n).2=0/\B=dO L ⟨e,n',ps',asg,body,.ready,none,D⟩::pt D (.deferred (some []))::(Ct (n+1)++R'))\/
        (v=.bool false/\∃B',St n B'/\B=dO L ⟨e,n',ps',asg,body,.done,some (.exit 0),D⟩::pt D (.deferred (some []))::(B'++R')))):
    bE Tryz.prog W0 436 (.func (.yield L) #[] #[]::[pQ bh,pQ bwb]) (dO L ⟨e,n',ps',asg,body,.ready,none,D⟩::pt D (.deferred (some []))::A)
      (λ_ B=>(∃C,B=dO L ⟨e,n',ps',asg,body,.ready,none,D⟩::pt D (.deferred (some []))::C/\Go C)\/(∃C,B=dO L ⟨e,n',ps',asg,body,.done,some (.exit 0),D⟩::pt D (.deferred (some []))::C/\Stop C)):=by refine ig ((Ent.cons (Ent.cons hp)).trans (inferInstance:Ent _ (pt bh (ae [iQ head] 3)::pt bwb (ae [pQ bw] 527)::pt bw (vk pv r false)::vw pv ps pm d fr pg (dO L ⟨e,n',ps',asg,body,.ready,none,D⟩::pt D (.deferred (some []))::Ct 0)))) ?_;refine cF (a9X W0 L bh bwb bw pv ps pm d fr pg h hF r hr hn8 head (λn=>dO L ⟨e,n',ps',asg,body,.ready,none,D⟩::pt D (.deferred (some []))::Ct n) (λn B=>∃B',St n B'/\B=dO L ⟨e,n',ps',asg,body,.done,some (.exit 0),D⟩::pt D (.deferred (some []))::B') λn R' hal hn w hO=>?_) ?_;obtain⟨f,tmps,as_,bd,hy,hR⟩:=hrd n R' hal hn w hO;refine⟨f,tmps,as_,bd,hy,RoundIn.mono hR ?_⟩;rintro _ w' ⟨v,B,rfl,hB,hO'⟩;rcases hB with ⟨rfl,hc,rfl⟩|⟨rfl,B',hS,rfl⟩;exact⟨_,_,Z,⟨true,_,Z,Z,.inl ⟨Z,hc,Z⟩⟩,hO'⟩;exact⟨_,_,Z,⟨false,dO L ⟨e,n',ps',asg,body,.done,some (.exit 0),D⟩::pt D (.deferred (some []))::B',Z,Z,.inr ⟨Z,B',hS,Z⟩⟩,hO'⟩;rintro v B ⟨_,⟨n,h1,h2,h3,rfl⟩|⟨n,_,h1,⟨B',hS,rfl⟩,rfl⟩⟩;exact⟨_,.inl ⟨_,Z,hgo n h1 h2 h3⟩,IO⟩;exact⟨_,.inr ⟨_,Z,hst n B' h1 hS⟩,IO⟩
def xV(b:Nat)(l:List Dsc):HP:=chk (λC=>∃a c,C=[pt b (ae [.slice a l.length c] 330),osl 436 4 (.slice a l.length c) (l.flatMap fq)])
section
variable{W0:World}{N:FSz}{K:Act->World->Prop}{e:bK}{A R R1:List HP}{b n c:Nat}{l:List Dsc}{a:Option Addr}{ys:List Value}
theorem Lk[hk:Tk xV b A l R](h:∀a c,aC W0 N K e (pt b (ae [.slice a l.length c] 330)::osl 436 4 (.slice a l.length c) (l.flatMap fq)::R)):aC W0 N K e A:=
  ix (r:=xV) (b:=b) (oz λC hC=>qr)
theorem a90 l[d:Tk pt b A (ae [.slice a n c] 330) R1][f:Tk (osl 436 4) (.slice a n c) R1 ys R](g:n=l.length)(h:ys=l.flatMap fq)(k:aC W0 N K e (xV b l::R)):aC W0 N K e A:=by subst g;subst h;exact gK ((Ent.ofPerm (d.perm.trans (f.perm.cons _))).trans (fT (R:=R) (C:=[_,_]) ⟨a,c,Z⟩)) k
theorem a91[a:Tk pt b A (ae [.slice none 0 0] 330) R](k:aC W0 N K e (xV b []::R)):aC W0 N K e A:=
  gK ((Ent.ofPerm a.perm).trans ((Ent.cons (eW (E:=436) (sz:=4) (B:=R))).trans (fT (R:=R) (C:=[pt b (ae [.slice none 0 0] 330),osl 436 4 (.slice none 0 0) []]) ⟨none,0,Z⟩))) k
end
theorem a92(s w x d:Nat)(f:List az)(g:List Pl)(h:Pgs g)(M:bD f)(r:Rg3)(N:r.ok)(e:Int):sP W0 339 [pQ s,.agg (xH r).toArray,iQ e] (vw s w x d f g R) (λv B=>∃a c,v=.tuple #[.slice a (oL f g r e).1.length c,iQ (oL f g r e).2]/\B=osl 436 4 (.slice a (oL f g r e).1.length c) ((oL f g r e).1.flatMap fq)::vw s w x d f g R):=by
 refine am func339 ntmps339 ?_;refine dT (l8 ρ) λS=>?_;refine au 4 (Dz (aw ?_));refine ao (aK call388 (QD r)) ?_;apply aB ρ<;>intro A;refine au 8 (pB (aZ ?_));have t:oL f g r e=([],5):=by rw[oL,Qab A]
 rw[t];exact acj;have y:w5 r=true:=QaH.1 A;have o:0≤r.n/\r.n≤8:=by simp only[w5,xG,Qam,Qag]at y;omega
 have t:oL f g r e=rC f g r e 9 0:=by rw[oL,Qad y]
 refine aw (ac (eH c2d zeroValue529 (aT D1 (aT AW (aT l6 eG))) (cJ ρ D1 ρ ρ (Qaa ρ) SetL.eq (iU ρ AW ρ ρ (Qaa ρ) SetRL.eq eE))) ?_);refine bR λJ=>?_;refine dh (pw zeroValue330 ρ) λm=>?_;refine dh (pw pq ρ) λu=>?_;refine fw 3 dr ?_;refine De (aw ?_);refine aF ρ (aK call389 (a9Y J e)) ?_;rintro _ T ⟨U,O,rfl,F⟩;subst F;refine a91 (b:=m) ?_;refine au 3 (PW 0 (λC=>∃n,nh f g r e n/\(fW f g r e n).2=0/\qz (fW f g r e n).1=false/\C=vw s w x d f g (xV m (iL f g r e (n+1)).2.2::pt u (ae [iQ 0] 3)::R)) (λC=>∃n,nh f g r e n/\(fW f g r e n).2≠0/\C=vw s w x d f g (xV m (iL f g r e n).2.2::pt u (ae [iQ (fW f g r e n).2] 3)::R)) ρ call436 ?_ ?_ ?_);intro L D;refine a9Z (bw:=J) (pv:=s) (ps:=w) (pm:=x) (d:=d) f g h M r N o e (λn=>xV m (iL f g r e n).2.2::pt u (ae [iQ 0] 3)::R) (λn B=>(fW f g r e n).2≠0/\B=xV m (iL f g r e n).2.2::pt u (ae [iQ (fW f g r e n).2] 3)::R) (by simp only[iL];exact inferInstance) (λn G E P=>⟨n,G,E,P,ρ⟩) (λn B G E=>⟨n,G,E.1,by rw[E.2]⟩) ?_;intro n V l W;simp only[Qau,Qar];refine Br ρ ρ ?_;refine aG (aM (aF ρ (cP tz) ?_));rintro _ _ ⟨X,rfl,rfl⟩;refine eM (eN jD ρ ρ ρ ρ ρ) ?_;rintro _ _ rfl;refine aI (aA (aM (aa ρ (aU ρ) (aI (Bp ρ ?_)))));refine jR (aG (aG (aM (aa ρ (aV ρ) (aa ρ (nI ρ ρ) (aI (aA ?_)))))));apply aB ρ<;>intro H;refine aG (aM (aa ρ (aV ρ) (eM (iG bu ρ ρ ρ (Qaa ρ) SetL.eq) ?_)));rintro _ _ rfl;refine aI (aA (Dd (Df (Dg ρ (Ki ?_)))));exact⟨_,.inr ⟨ρ,_,⟨H,ρ⟩,ρ⟩,by simp only[Qau];exact inferInstance⟩;refine fH (aA ?_);have p:(fW f g r e n).2=0:=QaH.1 H;have K:=Lh f g r e n;refine Lk (b:=m) λa c=>?_;refine aM (aa ρ (bO NO ρ (aO ρ)) ?_);refine aa ρ (q9 pW jD ρ ρ) ?_;refine aF ρ (ji Ji jD tz ρ (fK ρ ρ iH) ρ cl cl cl) ?_;rintro _ _ ⟨Y,rfl,rfl⟩;refine aF ρ (fR (sz:=4) (by_:=16) (info:=Tryz.t436) Ji ld ρ ρ ρ ρ cl ρ ρ eQ ρ ρ n5 aq) ?_;rintro _ _ ⟨Z,A,rfl,rfl⟩;refine eM (iG sizeOf330 ρ ρ ρ (Qaa ρ) SetL.eq) ?_;rintro _ _ rfl;refine aI (lY ?_);refine a90 (b:=m) (iL f g r e (n+1)).2.2 (by rw[iL];simp) (by rw[iL];simp) ?_;exact zn ⟨_,.inl ⟨ρ,p,ρ⟩,IO⟩;intro D C I;obtain⟨n,l,p,Q,rfl⟩:=I;have i:=a9W l (l.le o) p Q;refine lY (aA (aG (aG (aM (aa ρ (bO cM ρ (aO ρ)) ?_)))));refine aa ρ (nI ρ ρ) (aI (aA ?_));apply aB ρ<;>intro j;refine aG (bH [u] 3 λq=>?_);refine cI 0 ρ ρ ρ q (bO cM ρ (d6 (k:=0) ρ ρ)) ?_;refine cI 1 ρ ρ ρ q (aU ρ) ?_;refine cI 2 ρ ρ ρ q (aU ρ) ?_;refine eY (aA (dX (jS (pB (sj (.inl ρ) (.cons (bA ρ) (.cons (bA ρ) .nil)) ?_)))))
 first
   |exact absurd rfl j
   |(rw[t,i];exact⟨_,⟨none,0,rfl,rfl⟩,eW⟩)
 refine fH (aA (aG ?_));refine Lk (b:=m) λa c=>?_;refine aM (aa ρ (bO NO ρ (aO ρ)) ?_);refine aa ρ (aU ρ) (aa ρ (aU ρ) (aI (aA (dX (pB (sj (.inl ρ) (.cons (bA ρ) (.cons (bA ρ) .nil)) ?_))))))
 first
   |exact absurd (QaH.1 j) p
   |(rw[t,i];exact⟨_,⟨a,c,rfl,rfl⟩,inferInstance⟩)
 intro D C I;obtain⟨n,l,p,rfl⟩:=I;have i:=a9V l (l.le o) p;refine Gc (aA (aG (aG (aM (aa ρ (bO cM ρ (aO ρ)) ?_)))));refine aa ρ (nI ρ ρ) (aI (aA ?_));apply aB ρ<;>intro j;refine aG (bH [u] 3 λq=>?_);refine cI 0 ρ ρ ρ q (bO cM ρ (d6 (k:=0) ρ ρ)) ?_;refine cI 1 ρ ρ ρ q (aU ρ) ?_;refine cI 2 ρ ρ ρ q (aU ρ) ?_;refine eY (au 3 (pB (sj (.inl ρ) (.cons (bA ρ) (.cons (bA ρ) .nil)) ?_)))
 first
   |exact absurd rfl j
   |(rw[t,i];exact⟨_,⟨none,0,rfl,rfl⟩,eW⟩)
 refine au 3 (Lk (b:=m) λa c=>?_);refine aM (aa ρ (bO NO ρ (aO ρ)) ?_);refine aa ρ (aU ρ) (aa ρ (aU ρ) (aI (aA (dX (pB (sj (.inl ρ) (.cons (bA ρ) (.cons (bA ρ) .nil)) ?_))))))
 first
   |exact absurd (QaH.1 j) p
   |(rw[t,i];exact⟨_,⟨a,c,rfl,rfl⟩,inferInstance⟩)
theorem a93{n:Int}:rB len pg n=true↔bG pg n=true/\n<8/\(cB pg n).1<len:=by grind[rB]
def g8(l:List Dsc)(w:Bool):Nat:=(l.map λd=>if sK d=w then d.len else 0).sum
theorem a94 l d w:g8 (l++[d]) w=g8 l w+(if sK d=w then d.len else 0):=by simp[g8]
theorem a95{l:List Dsc}(h:i<l.length)(w:Bool):g8 (l.take (i+1)) w=g8 (l.take i) w+(if sK l[i]=w then l[i].len else 0):=by rw[Qap h,a94]
theorem Ll{l}(a:∀d∈l,d.ok)w:g8 l w≤l.length*4294967296:=by
 induction l with
 |nil=>simp[g8]
 |cons d l b=>
  have f:=(a d n4).len;have c:=b (λx e=>a x (by simp[e]));simp only[g8,QaE,List.sum_cons,QaK]at c ⊢;split<;>omega
theorem a96(a:Option Addr)(c:Nat)(l:List Dsc)(w:Bool)(hl:∀d∈l,d.ok)(hn:l.length≤1000)(hs:bZ (aQ W0 R) a 4 fq l):sQ W0 428 [.slice a l.length c,.bool w] R (iQ (g8 l w:Nat)) R:=by
 refine am func428 ntmps428 ?_;refine eC (λi:Nat=>i≤l.length) (λi=>[(1,.bool w),(5,iQ (g8 (l.take i) w:Nat)),(8,.slice a l.length c),(9,iQ l.length),(10,iQ i)]) (λi=>R) (λi=>l.length-i) 0 ?_ ?_;exact Qay _;intro i q;refine aw (ap (λj=>?_) λj=>?_);have b:i<l.length:=aq;obtain⟨g,o,rfl,k⟩:=hs.at_ b;have f:=hl _ (QaC b);have e:=a95 b w;have m:=Ll (λd f=>hl d (Qbs f):∀d∈l.take i,d.ok) w;have n:(l.take i).length=i:=aaz;have p:=f.len;refine ac (cu b) ?_;refine ac (cV k.weak) ?_;refine bU λr=>?_;refine aJ aR (ao (aK G3 (C2 l[i] f)) ?_);apply ap<;>intro h;rw[Qad h]at e;refine ac (cv (bS aq)) ?_;refine ac (eX (g8 (l.take i) w+l[i].len)) ?_;refine ac cK (nE (i+1) ?_ ?_ ?_ ?_);omega;omega
 · rw[e];repeat (first|exact cQ|refine cA rfl ?_)
 exact IO;rw[Qab h,QbW]at e;refine ac cK (nE (i+1) ?_ ?_ ?_ ?_);omega;omega
 · rw[e];repeat (first|exact cQ|refine cA rfl ?_)
 exact IO;refine ag (aP ?_);obtain rfl:i=l.length:=aq;rw[QaJ (Qai _)]<;>rfl
theorem RS(a:Option Addr)(c:Nat)(l:List Dsc)(w:Bool)(hl:∀d∈l,d.ok)(hn:l.length≤1000):sQ W0 428 [.slice a l.length c,.bool w] (osl 436 4 (.slice a l.length c) (l.flatMap fq)::R) (iQ (g8 l w:Nat)) (osl 436 4 (.slice a l.length c) (l.flatMap fq)::R):=
  a6Z (h:=YP) fq l (λ_=>Z) cl Z (λb=>a96 a c l w hl hn b)
theorem RU(b:bD fr)pg r head:∀n,∀d∈(iL fr pg r head n).2.2,d.ok
 |0,d,a=>by simp[iL]at a
 |n+1,d,a=>by
  rw[iL]at a;rcases Qba.1 a with h|h;exact RU b pg r head n d h;obtain rfl:=Qbw.1 h;exact RO b _ _ _ _ _
theorem RV{fr pg r head}:∀f n,(∃c,rC fr pg r head f n=([],c)/\c≠0)\/∃m,m<n+f/\rC fr pg r head f n=((iL fr pg r head (m+1)).2.2,0)/\(fW fr pg r head m).2=0/\qz (fW fr pg r head m).1=false/\∀k,n≤k->k<m->(fW fr pg r head k).2=0/\qz (fW fr pg r head k).1=true
 |0,n=>.inl ⟨2,Z,cl⟩
 |f+1,n=>by
  rw[rC];by_cases a:(fW fr pg r head n).2≠0;grind;rw[Qab a];by_cases b:qz (fW fr pg r head n).1=true;rw[Qad b];rcases RV f (n+1)with h|⟨m,d,e,g,i,j⟩;exact .inl h;grind;grind
theorem a97 fr pg r head:(∃c,oL fr pg r head=([],c)/\c≠0)\/∃m,m<9/\oL fr pg r head=((iL fr pg r head (m+1)).2.2,0)/\nh fr pg r head m/\(fW fr pg r head m).2=0/\qz (fW fr pg r head m).1=false:=by unfold oL;split;rcases RV (fr:=fr) (pg:=pg) (r:=r) (head:=head) 9 0 with h|⟨m,g,a,b,d,e⟩;exact .inl h;exact .inr ⟨m,aq,a,λk f=>e k (Qay _) f,b,d⟩;grind
theorem a98(a:bD fr)pg r head:(∀d∈(oL fr pg r head).1,d.ok)/\(oL fr pg r head).1.length≤9:=by rcases a97 fr pg r head with ⟨c,h,_⟩|⟨m,b,h,_⟩;grind;grind[RU,Lh]
def sN(n:Nat)(pg:List Pl)(pa:Nat)(w kind:Int):Int:=if io n pg pa w kind=0 then((pa/64:Nat):Int)else 0
def rD(n:Nat)(pg:List Pl)(pa:Nat)(w kind:Int):Int:=if io n pg pa w kind=0 then(cB pg ((pa/64:Nat):Int)).1 else 0
def rE(n:Nat)(pg:List Pl)(pa:Nat)(w kind:Int):Int:=if io n pg pa w kind=0 then((pa %64:Nat):Int)else 0
theorem RX{w a:Int}:tX n pg pa w a=[iQ (sN n pg pa w a),iQ (rD n pg pa w a),iQ (rE n pg pa w a),.bool false]:=by grind[tX,sN,rD,rE]
theorem RY(l g i d c n:Nat)(a:Option Addr)(e:List az)(b:List Pl)(h:Pgs b)(o:bD e)(p:d<4096)(f:Nat)(m:f<4294967296)(j:List Nat)(q:j.length=n)(r:By j)(s:bZ (aQ W0 R) a 1 (λx=>[bV x]) j)(k:n<9223372036854775808):
    bE Tryz.prog W0 237 [.pointer (some ⟨l,0,none⟩),.int .u32 f,.slice a n c] (pt l (cg g i d)::aH g e::pt i (bM b)::R)
      (λv B=>v=.bool (d9 e.length b f n)/\B=pt l (cg g i (oJ e b f d n))::aH g (kU e b f j)::pt i (bM b)::R):=by subst q;exact RG l g i d c a e b h o p f m j r s k
def pH(w:Nat):Int:=if w %2=0 then 4 else if w=w %32+256*(w/256%32)then 0 else 5
def C3(w:Nat):Bool:=decide (pH w=0)
def gR(w:Nat):Nat:=if pH w=0 then w/2%16 else 0
def gP(w:Nat):Nat:=if pH w=0 then w/256%32 else 0
def gV(w:Nat):Value:=.agg #[.bool (C3 w),.int .i64 (gR w),.int .i64 (gP w)]
theorem a99(h:w<4294967296):iF .u32 w 1=(w %2:Nat):=by grind[pz,xB]
theorem RZ{w:Nat}(h:w<4294967296):iF .u32 w 15=(w %16:Nat):=by have:=pz (b:=15) h aq;rw[show w&&&15=w %16 from xB (n:=4)]at this;exact this
theorem b0a{w:Nat}(h:w<4294967296):iF .u32 w 31=(w %32:Nat):=by have:=pz (b:=31) h aq;rw[show w&&&31=w %32 from xB (n:=5)]at this;exact this
theorem b0b(h:w<4294967296):uH .u32 w 7967=(w-(w %32+256*(w/256%32)):Nat):=by grind[PM,a61]
theorem b0c{w:Nat}:pY .u32 w 1=(w/2:Nat):=uV (s:=1) cl
theorem b0d{w:Nat}:pY .u32 w 8=(w/256:Nat):=uV (s:=8) cl
theorem S0(w:Nat)(b:w<4294967296):sQ W0 473 [.int .u32 w] R (.tuple #[gV w,iQ (pH w)]) R:=by
 refine am func473 ntmps473 ?_;refine bU λe=>?_;refine ac (iT Z Z (a99 b)) ?_;apply ap<;>intro c;refine aJ aR (bJ (.cons (bX AT AX Z Z) (.cons (bA Z) .nil)) ?_);refine aP ?_;have a:pH w=4:=by grind[pH]
 simp[bY,gV,C3,gR,gP,a];refine ac (Di Z Z (b0b b)) ?_;apply ap<;>intro d;refine aJ aR (bJ (.cons (bX AT AX Z Z) (.cons (bA Z) .nil)) ?_);refine aP ?_;have a:pH w=5:=by grind[pH]
 simp[bY,gV,C3,gR,gP,a];refine ac (pu Z Z cl b0c) ?_;refine ac (iT Z Z (RZ aq)) ?_;refine ac (cv ph) ?_;refine ac (pu Z Z cl b0d) ?_;refine ac (iT Z Z (b0a aq)) ?_;refine ac (cv ph) ?_;refine aJ aR (bJ (.cons (bX AT AX Z Z) (.cons (bA Z) .nil)) ?_);refine aP ?_;have a:pH w=0:=by grind[pH]
 simp[bY,gV,C3,gR,gP,a]
def Eo(w:Nat):Int:=if pH w=0/\gR w=0 then gP w else 0
def zT(w:Nat):Int:=if pH w=0 then(if gR w=0 then 0 else 5)else pH w
theorem b0e(w:Nat)(a:w<4294967296):sQ W0 441 [.int .u32 w] R (.tuple #[iQ (Eo w),iQ (zT w)]) R:=by refine am func441 ntmps441 ?_;refine ao (aK call473 (S0 w a)) ?_;refine bU λd=>?_;refine aJ aR (ap (λb=>?_) λb=>?_);refine aZ (aP ?_);simp_all[bY,Eo,zT];apply ap<;>intro c;refine aZ (aP ?_);simp_all[bY,Eo,zT];refine aZ (aP ?_);simp_all[bY,Eo,zT]
theorem S4 w:gR w<16:=by unfold gR;split<;>omega
theorem b0f{r:Nat}(h:r<16):iF .i64 r 7=(r %8:Nat):=by have:∀r:Nat,r<16->iF .i64 r 7=((r %8:Nat):Int):=cl;exact this r h
def vl(w:Nat):Bool:=decide (pH w=0/\gR w %8=0)
def wq(w:Nat):Bool:=if vl w then false else C3 w
def wt(w:Nat):Nat:=if vl w then 0 else gR w
def wu(w:Nat):Nat:=if vl w then 0 else gP w
def Ep(w:Nat):Value:=.agg #[.bool (wq w),.int .i64 (wt w),.int .i64 (wu w)]
def ww(w:Nat):Int:=if vl w then 5 else pH w
theorem b0g(w:Nat)(c:w<4294967296):sQ W0 442 [.int .u32 w] R (.tuple #[Ep w,iQ (ww w)]) R:=by
 refine am func442 ntmps442 ?_;refine bU λe=>?_;refine ao (aK call473 (S0 w c)) ?_;refine bU λf=>?_;refine aJ aR ?_;apply e9<;>intro a;refine ac (iT Z Z (b0f (S4 w))) ?_;apply ap<;>intro d;refine aJ aR (bJ (.cons (bX AT AX Z Z) (.cons (bA Z) .nil)) ?_);refine aP ?_;have b:vl w=true:=by grind[vl]
 simp[bY,Ep,wq,wt,wu,ww,b];refine aJ aR (bJ (.cons (bX AT AX Z Z) (.cons (bA Z) .nil)) ?_);refine aP ?_;have b:vl w=false:=by grind[vl]
 simp[bY,Ep,wq,wt,wu,ww,b];refine aJ aR (bJ (.cons (bX AT AX Z Z) (.cons (bA Z) .nil)) ?_);refine aP ?_;have b:vl w=false:=by grind[vl]
 simp[bY,Ep,wq,wt,wu,ww,b]
def mI(k:Int):Int:=if k=0 then 4 else if k=1 then 1 else if k=2 then 2 else 0
def u6(k:Int):Bool:=decide (k=0\/k=1\/k=2)
theorem b0h(k:Int):sQ W0 399 [iQ k] R (.tuple #[iQ (mI k),.bool (u6 k)]) R:=by refine am func399 ntmps399 ?_;apply ap<;>intro a;refine aZ (aP ?_);simp_all[bY,mI,u6];apply ap<;>intro b;refine aZ (aP ?_);simp_all[bY,mI,u6];apply ap<;>intro c;refine aZ (aP ?_);simp_all[bY,mI,u6];refine aZ (aP ?_);simp_all[bY,mI,u6]
def C4(on:Bool)(r:Int)(ns:List Int):Bool:=(ns.all λc=>iF .i64 r c==c)&&on
theorem S5(on:Bool)(r p:Int)(ns:List Int)(b:Nat)(hn:ns.length<1000):sQ W0 400 [.agg #[.bool on,iQ r,iQ p],.slice (some ⟨b,0,none⟩) ns.length ns.length] (pt b (ae (ns.map (Value.int .i64)) 3)::R) (.bool (C4 on r ns)) (pt b (ae (ns.map (Value.int .i64)) 3)::R):=by
 refine am func400 ntmps400 ?_;refine bR λb1=>?_;refine eC (λk=>k≤ns.length/\(ns.take k).all (λc=>iF .i64 r c==c)=true) (λk=>[(2,pQ b1),(4,.bool false),(7,.slice (some ⟨b,0,none⟩) ns.length ns.length),(8,iQ ns.length),(9,iQ (k:Nat))]) (λ_=>pt b1 (ae [.bool on,iQ r,iQ p] 491)::pt b (ae (ns.map (Value.int .i64)) 3)::R) (λk=>ns.length-k) 0 ?_ ?_;simp;intro k ⟨hk,hall⟩;refine aw (ap (λc2=>?_) λc2=>?_);have hlt:k<ns.length:=aq;refine ac (cu hlt) ?_;refine ac (aY (aO (v:=iQ (ns[k]'hlt)) (by simp[hlt]))) ?_;refine ac (iT Z Z Z) ?_;apply ap<;>intro c4;refine ag (aP ?_);simp only[bY,C4,Value.bool.injEq];have:(ns.all λc=>iF .i64 r c==c)=false:=by
  grind
 simp[this];refine ac cK (d8 (k+1) ?_);grind[Qap];have hke:k=ns.length:=aq;refine ag (aP ?_);subst hke;simp only[QbF]at hall;simp[bY,C4,hall]
def i9(r:Int)(c:Int):Bool:=iF .i64 r c==c
theorem S6(b:Bool)(r p k:Int)(a:Bool):sQ W0 346 [.agg #[.bool b,iQ r,iQ p],iQ k,.bool a] R (.bool (u6 k&&(i9 r (mI k)&&(!a||i9 r 8))&&b)) R:=by refine am func346 ntmps346 ?_;refine bR λe=>?_;refine ao (aK call399 (b0h k)) ?_;apply ap<;>intro c;refine ag (aP ?_);simp_all[bY,C4,i9,Bool.and_assoc];apply ap<;>intro d;refine dh (lG jE bu pq Z Z Z Z Z cl cl) λf=>?_;refine ao (ar call400 (S5 b r p [mI k,8] _ n4)) ?_;refine ag (aP ?_);simp_all[bY,C4,i9,Bool.and_assoc];refine dh (lG jE bu pq Z Z Z Z Z cl cl) λg=>?_;refine ao (ar call400 (S5 b r p [mI k] _ n4)) ?_;refine ag (aP ?_);simp_all[bY,C4,i9,Bool.and_assoc]
abbrev df(pv ps pm d:Nat)(fr:List az)(pg:List Pl)(R:List HP):List HP:=pt pv (cg ps pm d)::aH ps fr::pt pm (bM pg)::R
def jY(page:Int)(i:Nat):Nat:=64*page.toNat+4*(i %16)
def j4(len:Nat)(pg:List Pl)(page:Int)(i:Nat):Bool:=decide (0≤page/\page<8)&&d9 len pg (jY page i) 4
theorem zU{a:Int}:j4 len pg a i=true↔(0≤a/\a<8)/\d9 len pg (jY a i) 4=true:=by grind[j4]
def iM(fr:List az)(pg:List Pl)(page:Int)(i:Nat):Nat:=if j4 fr.length pg page i then lZ (jw fr pg (jY page i) 4)else 0
theorem S7(a:bD fr)pg page i:iM fr pg page i<4294967296:=by unfold iM;split;grind[xC,zQ,jY,wn];decide
theorem S8{l}(h:l.length=4):qo l 0 4=lZ l/\sD l 0 4=0:=by have a:i7 l.length 0 4=true:=kQ.2 aq;constructor;grind[qo];grind[sD]
theorem Hh(pv ps pm d:Nat)(fr:List az)(pg:List Pl)(h:Pgs pg)(hF:bD fr)(page:Int)(i:Nat)(hi:i<4294967296):sQ W0 440 [pQ pv,iQ page,.int .u32 i] (df pv ps pm d fr pg R) (.tuple #[.int .u32 (iM fr pg page i:Nat),.bool (j4 fr.length pg page i)]) (df pv ps pm d fr pg R):=by
 refine am func440 ntmps440 ?_;apply fC<;>intro f;refine aZ (aP ?_);have e:j4 fr.length pg page i=false:=by grind[zU]
 simp[bY,iM,e];apply ap<;>intro u;refine aZ (aP ?_);have e:j4 fr.length pg page i=false:=by grind[zU]
 simp[bY,iM,e];obtain⟨p,rfl⟩:∃p:Nat,page=(p:Int):=⟨page.toNat,aq⟩
 have l:jY (p:Int) i=64*p+4*(i %16):=Z;refine ac (mu (64*p)) ?_;refine ac (cv (eh aq)) ?_;refine ac (iT Z Z (RZ hi)) ?_;refine ac (mu (4*(i %16))) ?_;refine ac (dI Z Z (by rw[eh aq,l];omega:IntKind.wrap .u32 (((64*p:Nat):Int)+((4*(i %16):Nat):Int))=((jY (p:Int) i:Nat):Int))) ?_;refine aF Z (dF G2 (El pv ps pm d fr pg h hF (jY (p:Int) i) aq 4)) ?_;rintro _ x ⟨a,c,rfl,m⟩;subst m;refine aw (ap (λo=>?_) λo=>?_);have k:¬d9 fr.length pg (jY (p:Int) i) 4=true:=o;refine aZ (aP ?_);have e:j4 fr.length pg p i=false:=by rw[<-QaI,zU];rintro⟨_,q⟩;exact k q
 simp[bY,iM,e];have k:d9 fr.length pg (jY (p:Int) i) 4=true:=QaH.1 o;have e:j4 fr.length pg p i=true:=zU.2 ⟨aq,k⟩;have r:jX fr pg (jY (p:Int) i) 4=jw fr pg (jY (p:Int) i) 4:=by rw[jX,Qad k];rfl
 have j:(jw fr pg (jY (p:Int) i) 4).length=4:=wn _ _ _ _;obtain⟨s,t⟩:=S8 j;rw[r];refine oB (E:=5) (sz:=1) (a:=a) (c:=c) (n:=(jw fr pg (jY (p:Int) i) 4).length) (λv=>?_);obtain⟨g,rfl⟩:=BA v (by intro w;have:=Qak List.length w;rw[iJ,j]at this;simp at this);refine qZ (E:=5) (sz:=1) (a:=some ⟨g,0,none⟩) (c:=c) (n:=(jw fr pg (jY (p:Int) i) 4).length) (λb=>?_);refine aw (ao (aK Ou (GP W0 _ g 0 c (jw fr pg (jY (p:Int) i) 4) 0 4 (mw (E:=5) (sz:=1) (a:=some ⟨g,0,none⟩) (c:=c) (n:=(jw fr pg (jY (p:Int) i) 4).length)) (zQ hF _ _ _) b.1 (Ku b.2))) ?_);rw[s,t];refine aZ (aP ?_);simp[bY,iM,e]
structure QS where
  r : Rg3
  on : Bool
  br : Int
  last : Nat
  put : Nat
variable {s:QS}
@[reducible] def dS:QS:=⟨⟨0,0,0,0⟩,false,0,0,0⟩
@[reducible] def qsV(s:QS):List Value:=[.int .u32 s.r.desc,.int .u32 s.r.avail,.int .u32 s.r.used,.int .i64 s.r.n,.bool s.on,.int .i64 s.br,.int .i64 s.last,.int .i64 s.put]
abbrev qO(m:Bool)(s:QS):Obj:=ae [.int .u32 s.r.desc,.int .u32 s.r.avail,.int .u32 s.r.used,.int .i64 s.r.n,.bool s.on,.int .i64 s.br,.int .i64 s.last,.int .i64 s.put,.bool m] 426
def nV(p:Nat)(n:Int):Int:=if xG n then(if p=0 then 16*n else if p=1 then 4+4*n else if p=2 then 4+8*n else 0)else 0
theorem S9{n}:xG n=true↔n=2\/n=4\/n=8:=by unfold xG;exact⟨Qaw,Qav⟩
theorem b0j(p:Nat)(n:Int):sQ W0 431 [iQ p,iQ n] R (iQ (nV p n)) R:=by
 refine am func431 ntmps431 ?_;refine ao (aK call435 (QC n)) ?_;apply ap<;>intro b;refine ag (aP ?_);have a:¬xG n=true:=b;refine Qak (Value.int .i64) (Qcz ?_);rw[nV,Qab a];have a:xG n=true:=QaH.1 b;have f:=S9.1 a;apply ap<;>intro c
 · refine ac zm (ag (aP (Qak (Value.int .i64) (Qcz ?_))))
   rw[nV,Qad a]
   (repeat' split)<;>first|rfl|omega
 apply ap<;>intro d
 · refine ac zm (ac cK (ag (aP (Qak (Value.int .i64) (Qcz ?_)))))
   rw[nV,Qad a]
   (repeat' split)<;>first|rfl|omega
 apply ap<;>intro e
 · refine ac zm (ac cK (ag (aP (Qak (Value.int .i64) (Qcz ?_)))))
   rw[nV,Qad a]
   (repeat' split)<;>first|rfl|omega
 refine ag (aP (Qak (Value.int .i64) (Qcz ?_)));rw[nV,Qad a]
 (repeat' split)<;>first|rfl|omega
theorem xW(b:Nat)(m:Bool)(s:QS):sQ W0 337 [pQ b] (pt b (qO m s)::R) (.bool (!m)) (pt b (qO m s)::R):=by refine am func337 ntmps337 ?_;apply d7 Z Z Z<;>intro a;cases a;exact aw (ag ax)
theorem b0k:sP W0 182 [] R (λv B=>∃b,v=pQ b/\B=pt b (qO true dS)::R):=by refine am func182 ntmps182 ?_;refine bR λa=>?_;exact ag ⟨_,⟨_,Z,Z⟩,IO⟩
theorem C5(b:Nat)(m:Bool)(s:QS)(w:Int):sQ W0 340 [pQ b,iQ w] (pt b (qO m s)::R) (iQ w) (pt b (qO m { s with br:=w })::R):=by refine am func340 ntmps340 ?_;exact aJ dr (ag ax)
theorem Hi(b:Nat)(m:Bool)(s:QS):sQ W0 341 [pQ b] (pt b (qO m s)::R) (.bool (s.on&&decide (s.br=0))) (pt b (qO m s)::R):=by refine am func341 ntmps341 ?_;apply e9<;>intro a;refine ag (aP ?_);simp_all[bY]<;>rfl;refine ag (aP ?_);simp_all[bY]<;>rfl
theorem Sa(n:Nat)(a:n<65536):sQ W0 343 [iQ n] R (iQ ((n+1)%65536:Nat)) R:=by refine am func343 ntmps343 ?_;refine ac (eX (n+1)) ?_;refine ac (kg Z Z cl (oC (n+1) 65536)) ?_;exact ki
def zV(last w:Nat):Nat:=(w %65536+65536-last)%65536
theorem b0l(b:Nat)(m:Bool)(s:QS)(a:s.last<65536)(w:Nat)(c:w<4294967296):sQ W0 434 [pQ b,.int .u32 w] (pt b (qO m s)::R) (iQ (zV s.last w:Nat)) (pt b (qO m s)::R):=by refine am func434 ntmps434 ?_;refine ac (kg Z Z cl (oC w 65536)) ?_;refine ac (cv (bS aq)) ?_;refine ac jt (ac (eX (w %65536+65536-s.last)) ?_);refine ac (kg Z Z cl (oC (w %65536+65536-s.last) 65536)) ?_;exact ki
theorem Sb(b:Nat)(s:QS):sQ W0 278 [pQ b] (pt b (qO true s)::R) (.agg (qsV s).toArray) (pt b (qO true s)::R):=by refine am func278 ntmps278 ?_;refine bU λa=>?_;refine cW 2 (ar B8 (xW b true s)) ?_;refine et (aa Z (vO isAgg424 Xp Z TakeL.eq Z) ?_);exact aJ aR (bJ (.cons (bX isAgg424 Xp Z Z) .nil) ax)
def u7(len:Nat)(pg:List Pl)(r:Rg3):Bool:=(d9 len pg r.desc (nV 0 r.n)&&d9 len pg r.avail (nV 1 r.n)&&d9 len pg r.used (nV 2 r.n))&&w5 r
theorem b0m(a:Option Addr)(c w:Nat)(e:bZ (aQ W0 R) a 1 (λx=>[wV x]) [w])(g:w<4294967296):sP W0 390 [.slice a 1 c] R (λv B=>∃b d,v=.slice b 4 d/\B=osl 5 1 (.slice b 4 d) (bW (nK [w]))::R):=
  a70 a c [w] e (λx f=>by simp at f;omega) n4
theorem Lm(g i j d:Nat)(e:List az)(b:List Pl)(h:Pgs b)(p:bD e)(q:d<4096)(f:Nat)(k:f<4294967296)(w:Nat)(r:w<4294967296):sQ W0 342 [pQ g,.int .u32 f,.int .u32 w] (df g i j d e b R) (.bool (d9 e.length b f 4)) (df g i j (oJ e b f d 4) (kU e b f (nK [w])) b R):=by refine am func342 ntmps342 ?_;refine dh (lG uD aX Oq Z Z Z Z Z cl cl) λs=>?_;refine aF Z (aK call390 (b0m (some ⟨s,0,none⟩) _ w (uU (λ_=>Z) Z) r)) ?_;rintro _ u ⟨l,m,rfl,o⟩;subst o;refine oB (E:=5) (sz:=1) (a:=l) (c:=m) (n:=4) (λt=>?_);refine ao (dF OC (RY g i j d m 4 l e b h p q f k (nK [w]) (by rw[DG];rfl) (a7Y _) (tI t (mw (E:=5) (sz:=1) (a:=l) (c:=m) (n:=4)) (λ_=>Z) (tL _).symm cl) cl)) ?_;exact ki
def oM(fr:List az)(pg:List Pl)(pa:Nat):Nat:=if d9 fr.length pg pa 4 then lZ (jw fr pg pa 4)else 0
theorem Sc(a:bD fr)pg pa:oM fr pg pa<4294967296:=by grind[oM,xC,zQ,wn]
theorem Sd(pv ps pm d:Nat)(fr:List az)(pg:List Pl)(h:Pgs pg)(hF:bD fr)(pa:Nat)(hpa:pa<4294967296):sQ W0 433 [pQ pv,.int .u32 pa] (df pv ps pm d fr pg R) (.tuple #[.int .u32 (oM fr pg pa:Nat),.bool (d9 fr.length pg pa 4)]) (df pv ps pm d fr pg R):=by
 refine am func433 ntmps433 ?_;refine aF Z (dF G2 (El pv ps pm d fr pg h hF pa hpa 4)) ?_;rintro _ B_ ⟨a,c,rfl,hB_⟩;subst hB_;refine aw (ap (λc2=>?_) λc2=>?_);refine aZ (aP ?_);have ho:d9 fr.length pg pa 4=false:=aam;simp[bY,oM,ho];have ho:d9 fr.length pg pa 4=true:=QaH.1 c2;have hrd:jX fr pg pa 4=jw fr pg pa 4:=by rw[jX,Qad ho];rfl
 have hln:(jw fr pg pa 4).length=4:=wn _ _ _ _;obtain⟨hg1,hg2⟩:=S8 hln;rw[hrd];refine oB (E:=5) (sz:=1) (a:=a) (c:=c) (n:=(jw fr pg pa 4).length) (λhf=>?_);obtain⟨g,rfl⟩:=BA hf (by intro h0;have:=Qak List.length h0;rw[iJ,hln]at this;simp at this);refine qZ (E:=5) (sz:=1) (a:=some ⟨g,0,none⟩) (c:=c) (n:=(jw fr pg pa 4).length) (λhcap=>?_);refine aw (ao (aK Ou (GP W0 _ g 0 c (jw fr pg pa 4) 0 4 (mw (E:=5) (sz:=1) (a:=some ⟨g,0,none⟩) (c:=c) (n:=(jw fr pg pa 4).length)) (zQ hF _ _ _) hcap.1 (Ku hcap.2))) ?_);rw[hg1,hg2];refine aZ (aP ?_);simp[bY,oM,ho]
theorem Se(bv bb pv ps pm d:Nat)(bad:Int)(fr:List az)(pg:List Pl)(h:Pgs pg)(hF:bD fr)(pa:Nat)(hpa:pa<4294967296):sQ W0 432 [.int .u32 pa,pQ bv,pQ bb] (pt bv (ae [pQ pv] 94)::pt bb (ae [iQ bad] 3)::df pv ps pm d fr pg R) (.int .u32 (oM fr pg pa:Nat)) (pt bv (ae [pQ pv] 94)::pt bb (ae [iQ (if d9 fr.length pg pa 4 then bad else 5)] 3)::df pv ps pm d fr pg R):=by by_cases b:d9 fr.length pg pa 4=true;rw[Qad b];refine am func432 ntmps432 ?_;refine ao (dF call433 (Sd pv ps pm d fr pg h hF pa hpa)) ?_;apply ap<;>intro a;exact absurd b a;exact ag ax;rw[Qab b];refine am func432 ntmps432 ?_;refine ao (dF call433 (Sd pv ps pm d fr pg h hF pa hpa)) ?_;apply ap<;>intro a;exact aJ dr (ag ax);exact absurd (QaH.1 a) b
theorem Lo{P:Program}{R d g h i:List HP}{j us cs:List Value}{k l m n o p q r s t:Type}{u:k->p->HP}{v:k}{x:p}{y:l->q->HP}{B:l}{C:q}{D:m->r->HP}{E:m}{F:r}{G:n->s->HP}{H:n}{I:s}{J:o->t->HP}{K:o}{L:t}
    {f:FuncId}{M:Array Operand}{c:Array TypeId}{a:Value->List HP->Prop}{O:Operand}(Q:ev e O=some (.func (.func f) us.toArray cs.toArray))(S:∀b w,(callFunc f b).run P w=.ok (.enter f b) w)(T:gJ e M.toList=some j)
    (U:bE P W0 f (us++j++cs) (u v x::y B C::D E F::G H I::J K L::R) a)[V:Tk u v A x d][W:Tk y B d C g][X:Tk D E g F h][Y:Tk G H h I i][Z:Tk J K i L R]:dq P W0 N e A (.call { callee:=.value O,args:=M,argTypes:=c }) a:=
  kO tH (iV Q S T U)
def u9(sa last n:Nat):Nat:=sa+4+4*(last %n)
def oN(fr:List az)(pg:List Pl)(sa last n:Nat):Nat×Bool×Int:=
  if d9 fr.length pg sa 4 then
    (if n<zV last (oM fr pg sa)then(0,false,7)else if zV last (oM fr pg sa)=0 then(0,false,0)else
      if d9 fr.length pg (u9 sa last n) 4 then(if n≤oM fr pg (u9 sa last n)then(0,false,1)else(oM fr pg (u9 sa last n),true,0))else(0,false,5))
  else(0,false,5)
theorem b0n(b pv ps pm d:Nat)(fr:List az)(pg:List Pl)(h:Pgs pg)(hF:bD fr)(sd sa su n last put:Nat)(on:Bool)(br:Int)(hn:n=2\/n=4\/n=8)(ha:sa≤1000)(hl:last<65536):sQ W0 387 [.pointer (some ⟨b,0,none⟩),.pointer (some ⟨pv,0,none⟩)] (pt b (qO true ⟨⟨sd,sa,su,n⟩,on,br,last,put⟩)::df pv ps pm d fr pg R) (.tuple #[.int .i64 ((oN fr pg sa last n).1:Nat),.bool (oN fr pg sa last n).2.1,.int .i64 (oN fr pg sa last n).2.2]) (pt b (qO true ⟨⟨sd,sa,su,n⟩,on,br,last,put⟩)::df pv ps pm d fr pg R):=by
 have hm:=Qbq last (show 0<n by omega);have hA:u9 sa last n=sa+4+4*(last %n):=Z;have hw1:=Sc hF pg sa;have hw2:=Sc hF pg (u9 sa last n);refine jj 2 func387 ntmps387 ?_;refine dT (fQ Z Z) λb1=>?_;refine au 7 (dT (pw pq Z) λb2=>?_);refine fw 4 (iG bu Z Z Z (Qaa Z) SetL.eq) ?_;refine jU 13 (Bn Z Z) ?_;refine eS (Lo Z call432 Z (Se b1 b2 pv ps pm d 0 fr pg h hF sa aq)) ?_;refine cW 12 (eg call434 Z (b0l b true ⟨⟨sd,sa,su,n⟩,on,br,last,put⟩ hl _ hw1)) ?_;apply aB Z<;>intro c4;have ho:¬d9 fr.length pg sa 4=true:=λq=>c4 (by rw[Qad q]);refine aG (dY [(b2,0,_)] 4 mixed Z (bj bI) (λhS=>?_));refine aj 0 4 hS ?_;refine eY (au 4 (bJ (.cons (bA Z) (.cons (bA Z) (.cons (bA Z) .nil))) ?_));refine aP ?_;rw[oN,Qab ho,Qab ho];rfl;have ho:d9 fr.length pg sa 4=true:=QbG λq=>c4 (by rw[Qab q];decide);rw[Qad ho];refine au 13 (aB Z (λc6=>?_) λc6=>?_);dsimp only at c6;have k6:n<zV last (oM fr pg sa):=aq;refine au 10 (bJ (.cons (bA Z) (.cons (bA Z) (.cons (bA Z) .nil))) ?_);refine aP ?_;simp only[oN,Qad ho,Qad k6];rfl;dsimp only at c6;have k6:¬n<zV last (oM fr pg sa):=aq;refine au 7 (aB Z (λc8=>?_) λc8=>?_);dsimp only at c8;have k8:zV last (oM fr pg sa)=0:=aq;refine au 10 (bJ (.cons (bA Z) (.cons (bA Z) (.cons (bA Z) .nil))) ?_);refine aP ?_;simp only[oN,Qad ho,Qab k6,Qad k8];rfl;dsimp only at c8;have k8:¬zV last (oM fr pg sa)=0:=aq;refine au 4 (dY [(b,0,_)] 25 mixed Z (bj bI) (λhS=>?_));refine aj 0 7 hS ?_;refine cI 7 Z Z Z hS (dI Z Z (by rw[eh aq];omega:IntKind.wrap .u32 ((sa:Int)+4)=((sa+4:Nat):Int))) ?_;refine aj 8 11 hS ?_;refine cI 19 Z Z Z hS (kg Z Z (show((n:Nat):Int)≠0 by omega) (oC last n)) ?_;refine cI 20 Z Z Z hS (uK ez uC Z (eh aq)) ?_;refine cI 21 Z Z Z hS (Bf Z Z (by rw[eh aq];omega:IntKind.wrap .u32 (4*((last %n:Nat):Int))=((4*(last %n):Nat):Int))) ?_;refine cI 22 Z Z Z hS (dI Z Z (by rw[eh aq,hA];omega:IntKind.wrap .u32 (((sa+4:Nat):Int)+((4*(last %n):Nat):Int))=((u9 sa last n:Nat):Int))) ?_;refine iX 23 Z Z (Lo Z call432 Z (Se b1 b2 pv ps pm d 0 fr pg h hF (u9 sa last n) aq)) (bj bI) λhS=>?_;refine aj 24 1 hS ?_;refine eY (au 10 (aB Z (λc11=>?_) λc11=>?_));have ho2:¬d9 fr.length pg (u9 sa last n) 4=true:=λq=>c11 (by rw[Qad q]);refine aG (dY [(b2,0,_)] 4 mixed Z (bj bI) (λhS=>?_));refine aj 0 4 hS ?_;refine eY (au 4 (bJ (.cons (bA Z) (.cons (bA Z) (.cons (bA Z) .nil))) ?_));refine aP ?_;simp only[oN,Qad ho,Qab k6,Qab k8,Qab ho2];rfl;have ho2:d9 fr.length pg (u9 sa last n) 4=true:=QbG λq=>c11 (by rw[Qab q];decide);refine au 9 (jU 4 (uK ez uC Z (show IntKind.wrap .u32 (n:Int)=(n:Int)from eh aq)) ?_);apply aB Z<;>intro c13;have k13:n≤oM fr pg (u9 sa last n):=aq;refine au 10 (bJ (.cons (bA Z) (.cons (bA Z) (.cons (bA Z) .nil))) ?_)
 refine aP ?_;simp only[oN,Qad ho,Qab k6,Qab k8,Qad ho2,Qad k13];rfl;have k13:¬n≤oM fr pg (u9 sa last n):=aq;refine au 6 (jU 6 (uK uC ez Z (bS aq)) ?_);refine bJ (.cons (bA Z) (.cons (bA Z) (.cons (bA Z) .nil))) ?_;refine aP ?_;simp only[oN,Qad ho,Qab k6,Qab k8,Qad ho2,Qab k13];rfl
def sR(fr:List az)(pg:List Pl)(s:QS):Nat×Bool×Int:=
  if s.on&&decide (s.br=0)then(if (oN fr pg s.r.avail s.last s.r.n.toNat).2.2≠0 then(0,false,(oN fr pg s.r.avail s.last s.r.n.toNat).2.2)else oN fr pg s.r.avail s.last s.r.n.toNat)else(0,false,s.br)
def ua(fr:List az)(pg:List Pl)(s:QS):QS:=
  if s.on&&decide (s.br=0)then(if (oN fr pg s.r.avail s.last s.r.n.toNat).2.2≠0 then { s with br:=(oN fr pg s.r.avail s.last s.r.n.toNat).2.2 }else if (oN fr pg s.r.avail s.last s.r.n.toNat).2.1 then { s with last:=(s.last+1)%65536 }else s)else s
structure QOk (s : QS) : Prop where
  n : s.on = true → s.r.n = 2 ∨ s.r.n = 4 ∨ s.r.n = 8
  av : s.on = true → s.r.avail ≤ 1000
  us : s.on = true → s.r.used ≤ 1000
  last : s.last < 65536
  put : s.put < 65536
theorem b0o(b t w x d:Nat)(f:List az)(g:List Pl)(h:Pgs g)(G:bD f)(s:QS)(y:QOk s):sQ W0 338 [pQ b,pQ t] (pt b (qO true s)::df t w x d f g R) (.tuple #[iQ ((sR f g s).1:Nat),.bool (sR f g s).2.1,iQ (sR f g s).2.2]) (pt b (qO true (ua f g s))::df t w x d f g R):=by
 obtain⟨⟨m,k,o,u⟩,e,i,a,c⟩:=s;by_cases v:(e&&decide (i=0))=true;have j:e=true/\i=0:=by simpa using v
 have p:e=true:=j.1;have D:=y.n p;obtain⟨n,rfl⟩:∃n:Nat,u=(n:Int):=⟨u.toNat,by dsimp only at D;omega⟩
 have H:n=2\/n=4\/n=8:=by dsimp only at D;omega
 have I:k≤1000:=y.av p;have E:a<65536:=y.last;obtain⟨r,F⟩:∃r,oN f g k a n=r:=⟨_,Z⟩
 simp only[sR,ua,Qad v,Qae,F];refine am func338 ntmps338 ?_;refine cW 3 (ar B8 (xW b true ⟨⟨m,k,o,n⟩,e,i,a,c⟩)) ?_;refine et (cW 4 (ar OD (Hi b true ⟨⟨m,k,o,n⟩,e,i,a,c⟩)) ?_);apply aB Z<;>intro q;exact absurd j q;refine fH (lY (aA (aG (aM (aa Z (aV Z) (aa Z (aV Z) (aF Z (gU call387 Z (b0n b t w x d f g h G m k o n a c e i H I E)) ?_)))))));rintro _ K ⟨rfl,A⟩;subst A;rw[F];refine aw (ap (λl=>?_) λl=>?_);rw[Qad l,Qad l];refine ao (sq Z G4 Z (C5 b true ⟨⟨m,k,o,n⟩,e,i,a,c⟩ r.2.2)) ?_;exact bJ (.cons (bA Z) (.cons (bA Z) (.cons (bA Z) .nil))) ax;rw[Qab l,Qab l];apply ap<;>intro B;rw[Qad B];refine ao (aK call343 (Sa a E)) ?_;refine aJ dr (bJ (.cons (bA Z) (.cons (bA Z) (.cons (bA Z) .nil))) ?_);refine aP ?_;have C:r.2.2=0:=QaH.1 l;rw[C];rfl;rw[Qab B];refine bJ (.cons (bA Z) (.cons (bA Z) (.cons (bA Z) .nil))) ?_;refine aP ?_;have C:r.2.2=0:=QaH.1 l;rw[C];rfl;have j:¬(e=true/\i=0):=by simpa using v
 simp only[sR,ua,Qab v];refine am func338 ntmps338 ?_;refine cW 3 (ar B8 (xW b true ⟨⟨m,k,o,u⟩,e,i,a,c⟩)) ?_;refine et (cW 4 (ar OD (Hi b true ⟨⟨m,k,o,u⟩,e,i,a,c⟩)) ?_);apply ap<;>intro q;refine bH [b] 8 λJ=>?_;refine aj 0 8 J ?_;exact aS (bJ (.cons (bA Z) (.cons (bA Z) (.cons (bA Z) .nil))) ax);exact absurd (QaH.1 q) j
theorem b0p(a:i<3)(h:¬d9 len pg (sF r i) (nV i r.n)=true):u7 len pg r=false:=by grind[d9,sF,nV,u7]
theorem b0q{len pg r}(h:∀j,j<3->d9 len pg (sF r j) (nV j r.n)=true):u7 len pg r=w5 r:=by rw[u7,show d9 len pg r.desc (nV 0 r.n)=true from h 0 cl,show d9 len pg r.avail (nV 1 r.n)=true from h 1 cl,show d9 len pg r.used (nV 2 r.n)=true from h 2 cl];rfl
theorem b0r{r}(a:r.ok){i}(c:i<3):sF r i<4294967296:=by have b:i=0\/i=1\/i=2:=aq;rcases b with rfl|rfl|rfl;exact a.desc;exact a.avail;exact a.used
theorem Sf(b e f d:Nat)(c:List az)(a:List Pl)(h:Pgs a)(r:Rg3)(o:r.ok):sQ W0 384 [pQ b,.agg (xH r).toArray] (df b e f d c a R) (.bool (u7 c.length a r)) (df b e f d c a R):=by
 refine am func384 ntmps384 ?_;refine bR λk=>?_;refine ac (zu Ot aX c2x Z Z Z Z) ?_;refine eC (λi:Nat=>i≤3/\∀j,j<i->d9 c.length a (sF r j) (nV j r.n)=true) (λi=>[(0,pQ b),(3,pQ k),(13,.agg ((List.range 3).map λj=>wV (sF r j)).toArray),(14,iQ i)]) (λi=>pt k (ae (xH r) 422)::df b e f d c a R) (λi=>3-i) 0 ?_ ?_;exact⟨Qay _,λj t=>aq⟩;intro i ⟨u,l⟩;refine aw (ap (λp=>?_) λp=>?_);refine ac (Kh Ot aX jP Z Z Z aq (PY aq)) ?_;refine ao (aK call431 (b0j i r.n)) ?_;refine ao (dF xn (xU b e f d c a h (sF r i) (b0r o aq) (nV i r.n))) ?_;apply ap<;>intro g;refine ag (aP ?_);rw[b0p aq g]<;>rfl;have s:=QaH.1 g;refine ac cK (d8 (i+1) ?_)
 exact⟨aq,λm v=>by
  rcases Qaz m i with q|q;exact l m q
  rw[show m=i by omega];exact s⟩
 obtain rfl:i=3:=aq;refine ao (aK call388 (QD r)) ?_;refine ag (aP ?_);rw[b0q l]<;>rfl
theorem b0s(b c f g d:Nat)(e:List az)(a:List Pl)(h:Pgs a)(s:QS)(r:Rg3)(j:r.ok)(k:u7 e.length a r=true):sQ W0 322 [pQ b,pQ c,.agg (xH r).toArray] (pt b (qO true s)::df c f g d e a R) (iQ 0) (pt b (qO true ⟨r,true,0,0,0⟩)::df c f g d e a R):=by refine am func322 ntmps322 ?_;refine bR λl=>?_;refine cW 3 (ar B8 (xW b true s)) ?_;refine et (cW 4 (dF call384 (Sf c f g d e a h r j)) ?_);apply ap<;>intro i;exact absurd k i;refine ac (eH Ob c2t (aT AW (aT l6 (aT bu (aT bu (aT bu eG))))) (iU Z AW Z Z (Qaa Z) SetRL.eq (cJ Z l6 Z Z (Qaa Z) SetL.eq eE))) ?_;refine aJ (kh (Qaa Z) SetRL.eq) ?_;exact ag ax
def ed(x:Int):Nat:=(x %4294967296).toNat
theorem Lp x:ed x<4294967296:=by unfold ed;omega
theorem Lq x:IntKind.wrap .u32 x=(ed x):=by simp only[IntKind.wrap,IntKind.bits,IntKind.signed,ed];simp;omega
structure DnR where
  c : Int
  s : QS
  fr : List az
  d : Nat
def oQ(s:QS):Nat:=s.r.used+4+8*(s.put %s.r.n.toNat)
abbrev xX(fr:List az)(pg:List Pl)(s:QS)(h:Nat):List az:=kU fr pg (oQ s) (nK [h])
abbrev C6(fr:List az)(pg:List Pl)(d:Nat)(s:QS):Nat:=oJ fr pg (oQ s) d 4
abbrev xY(fr:List az)(pg:List Pl)(s:QS)(h n:Nat):List az:=kU (xX fr pg s h) pg (oQ s+4) (nK [n])
abbrev C7(fr:List az)(pg:List Pl)(d:Nat)(s:QS)(h:Nat):Nat:=oJ (xX fr pg s h) pg (oQ s+4) (C6 fr pg d s) 4
abbrev C8(fr:List az)(pg:List Pl)(s:QS)(h n:Nat):List az:=kU (xY fr pg s h n) pg s.r.used (nK [(s.put+1)%65536])
abbrev Er(fr:List az)(pg:List Pl)(d:Nat)(s:QS)(h n:Nat):Nat:=oJ (xY fr pg s h n) pg s.r.used (C7 fr pg d s h) 4
def fD(fr:List az)(pg:List Pl)(d:Nat)(s:QS)(h n:Nat):DnR:=
  if s.on&&decide (s.br=0)then
    (if d9 fr.length pg (oQ s) 4 then
      (if d9 fr.length pg (oQ s+4) 4 then
        (if d9 fr.length pg s.r.used 4 then⟨0,{ s with put:=(s.put+1)%65536 },C8 fr pg s h n,Er fr pg d s h n⟩
          else⟨5,{ s with put:=(s.put+1)%65536,br:=5 },C8 fr pg s h n,Er fr pg d s h n⟩)
        else⟨5,{ s with br:=5 },xY fr pg s h n,C7 fr pg d s h⟩)
      else⟨5,{ s with br:=5 },xX fr pg s h,C6 fr pg d s⟩)
    else⟨s.br,s,fr,d⟩
theorem Lt(a:bD fr)pg s h:bD (xX fr pg s h)/\(xX fr pg s h).length=fr.length:=Em a
theorem Lu(a:bD fr)pg s h n:bD (xY fr pg s h n)/\(xY fr pg s h n).length=fr.length:=by grind[Lt,Em]
theorem b0t(a:bD fr)pg s h n:bD (C8 fr pg s h n)/\(C8 fr pg s h n).length=fr.length:=by grind[Lu,Em]
theorem Sg{h:Nat}(a:d<4096):C6 fr pg d s<4096/\C7 fr pg d s h<4096/\Er fr pg d s h n<4096:=
  ⟨zS a,zS (zS a),zS (zS (zS a))⟩
theorem Si{fr pg d s h n}(c:bD fr)(e:d<4096)(a:QOk s):
    bD (fD fr pg d s h n).fr/\(fD fr pg d s h n).fr.length=fr.length/\(fD fr pg d s h n).d<4096/\QOk (fD fr pg d s h n).s:=by
 obtain⟨f,g,i⟩:=Sg (fr:=fr) (pg:=pg) (s:=s) (h:=h) (n:=n) e;obtain⟨j,k⟩:=Lt c pg s h;obtain⟨l,m⟩:=Lu c pg s h n;obtain⟨o,p⟩:=b0t c pg s h n;have q:∀b,QOk { s with br:=b }:=λb=>⟨a.n,a.av,a.us,a.last,a.put⟩
 have r:∀b,QOk { s with put:=(s.put+1)%65536,br:=b }:=λb=>⟨a.n,a.av,a.us,a.last,Qbq _ cl⟩
 unfold fD;split;grind;grind
theorem b0u fr pg(d f g e n a b h i:Nat):
    (¬d9 fr.length pg (oQ ⟨⟨f,g,e,n⟩,true,0,a,b⟩) 4=true->fD fr pg d ⟨⟨f,g,e,n⟩,true,0,a,b⟩ h i=⟨5,⟨⟨f,g,e,n⟩,true,5,a,b⟩,xX fr pg ⟨⟨f,g,e,n⟩,true,0,a,b⟩ h,C6 fr pg d ⟨⟨f,g,e,n⟩,true,0,a,b⟩⟩)/\
    (d9 fr.length pg (oQ ⟨⟨f,g,e,n⟩,true,0,a,b⟩) 4=true->¬d9 fr.length pg (oQ ⟨⟨f,g,e,n⟩,true,0,a,b⟩+4) 4=true->fD fr pg d ⟨⟨f,g,e,n⟩,true,0,a,b⟩ h i=⟨5,⟨⟨f,g,e,n⟩,true,5,a,b⟩,xY fr pg ⟨⟨f,g,e,n⟩,true,0,a,b⟩ h i,C7 fr pg d ⟨⟨f,g,e,n⟩,true,0,a,b⟩ h⟩)/\
    (d9 fr.length pg (oQ ⟨⟨f,g,e,n⟩,true,0,a,b⟩) 4=true->d9 fr.length pg (oQ ⟨⟨f,g,e,n⟩,true,0,a,b⟩+4) 4=true->∀c,c=(if d9 fr.length pg e 4=true then 0 else 5)->fD fr pg d ⟨⟨f,g,e,n⟩,true,0,a,b⟩ h i=⟨c,⟨⟨f,g,e,n⟩,true,c,a,(b+1)%65536⟩,C8 fr pg ⟨⟨f,g,e,n⟩,true,0,a,b⟩ h i,Er fr pg d ⟨⟨f,g,e,n⟩,true,0,a,b⟩ h i⟩):=by grind[fD]
theorem Sj(b r u v d:Nat)(k:List az)(j:List Pl)(h:Pgs j)(E:bD k)(H:d<4096)(s:QS)(F:QOk s)(x y:Int):sQ W0 280 [pQ b,pQ r,iQ x,iQ y] (pt b (qO true s)::df r u v d k j R) (iQ (fD k j d s (ed x) (ed y)).c) (pt b (qO true (fD k j d s (ed x) (ed y)).s)::df r u v (fD k j d s (ed x) (ed y)).d (fD k j d s (ed x) (ed y)).fr j R):=by
 obtain⟨⟨g,i,f,t⟩,p,o,a,e⟩:=s;by_cases G:(p&&decide (o=0))=true;have q:p=true/\o=0:=by simpa using G
 obtain⟨rfl,rfl⟩:=q;have I:=F.n ρ;obtain⟨n,rfl⟩:∃n:Nat,t=(n:Int):=⟨t.toNat,by dsimp only at I;omega⟩
 have Z:n=2\/n=4\/n=8:=by dsimp only at I;omega
 have ha:f≤1000:=F.us ρ;have L:e<65536:=F.put;have hm:=Qbq e (show 0<n by omega);have M:=Lp x;have N:=Lp y;have O:oQ ⟨⟨g,i,f,n⟩,true,0,a,e⟩=f+4+8*(e %n):=ρ;obtain⟨w,A,B⟩:=b0u k j d g i f n a e (ed x) (ed y);obtain⟨P,Q,d3⟩:=Sg (fr:=k) (pg:=j) (s:=⟨⟨g,i,f,n⟩,true,0,a,e⟩) (h:=ed x) (n:=ed y) H;obtain⟨S,T⟩:=Lt E j ⟨⟨g,i,f,n⟩,true,0,a,e⟩ (ed x);obtain⟨U,V⟩:=Lu E j ⟨⟨g,i,f,n⟩,true,0,a,e⟩ (ed x) (ed y);refine iW func280 ntmps280 ρ ρ ?_;refine aG (aM (aa ρ (aU ρ) (aI (aA (aG (jR (aG (aM (aa ρ (aV ρ) (aF ρ (eg B8 ρ (xW b true ⟨⟨g,i,f,n⟩,true,0,a,e⟩)) ?_))))))))));rintro _ J ⟨rfl,m⟩;subst m;refine aa ρ (aU ρ) (aI (aA ?_));apply aB ρ<;>intro K;exact absurd K cl;refine aG (aM (aa ρ (aV ρ) (aF ρ (eg OD ρ (Hi b true ⟨⟨g,i,f,n⟩,true,0,a,e⟩)) ?_)));rintro _ J ⟨rfl,m⟩;subst m;refine aa ρ (vN ρ) (aa ρ (aU ρ) (aI (aA ?_)));apply aB ρ<;>intro C;exact absurd ⟨ρ,ρ⟩ C;refine fH (lY (aA (aG ?_)));refine bH [b] 23 λl=>?_;refine aj 0 6 l ?_;refine cI 6 ρ ρ ρ l (dI ρ ρ (by rw[eh aq];omega:IntKind.wrap .u32 ((f:Int)+4)=((f+4:Nat):Int))) ?_;refine aj 7 11 l ?_;refine aE 18 l (kg ρ ρ (show((n:Nat):Int)≠0 by omega) (oC e n)) ?_;refine aE 19 l (cv (eh aq)) ?_;refine aE 20 l (mu (8*(e %n))) ?_;refine aE 21 l (dI ρ ρ (by rw[eh aq,O];omega:IntKind.wrap .u32 (((f+4:Nat):Int)+((8*(e %n):Nat):Int))=((oQ ⟨⟨g,i,f,n⟩,true,0,a,e⟩:Nat):Int))) ?_;refine aj 22 1 l ?_;refine aS (ac (cv (Lq x)) ?_);refine ao (dF Y7 (Lm r u v d k j h E H (oQ ⟨⟨g,i,f,n⟩,true,0,a,e⟩) aq (ed x) M)) ?_;apply fC<;>intro D;refine ao (ar G4 (C5 b true ⟨⟨g,i,f,n⟩,true,0,a,e⟩ 5)) ?_;refine ag ?_
 first
   |(rw[w (by simp_all)];exact⟨_,⟨rfl,rfl⟩,inferInstance⟩)
   |(rw[A (by simp_all) (by simp_all)];exact⟨_,⟨rfl,rfl⟩,inferInstance⟩)
 refine ac (eX (oQ ⟨⟨g,i,f,n⟩,true,0,a,e⟩+4)) ?_;refine ac (cv (Lq y)) ?_;refine ao (dF Y7 (Lm r u v (C6 k j d ⟨⟨g,i,f,n⟩,true,0,a,e⟩) (xX k j ⟨⟨g,i,f,n⟩,true,0,a,e⟩ (ed x)) j h S P (oQ ⟨⟨g,i,f,n⟩,true,0,a,e⟩+4) aq (ed y) N)) ?_;rw[T];apply ap<;>intro W;refine ao (ar G4 (C5 b true ⟨⟨g,i,f,n⟩,true,0,a,e⟩ 5)) ?_;refine ag ?_
 first
   |(rw[w (by simp_all)];exact⟨_,⟨rfl,rfl⟩,inferInstance⟩)
   |(rw[A (by simp_all) (by simp_all)];exact⟨_,⟨rfl,rfl⟩,inferInstance⟩)
 refine ao (aK call343 (Sa e L)) ?_;refine aJ dr (bH [b] 15 λl=>?_);refine aj 0 12 l ?_;refine aE 12 l (cv (eh aq)) ?_;refine co 13 (dF Y7 (Lm r u v (C7 k j d ⟨⟨g,i,f,n⟩,true,0,a,e⟩ (ed x)) (xY k j ⟨⟨g,i,f,n⟩,true,0,a,e⟩ (ed x) (ed y)) j h U Q f aq ((e+1)%65536) aq)) ?_;clear l;rintro _ J ⟨rfl,m⟩;subst m;rw[V];refine⟨aW,λl=>?_⟩;refine aj 14 1 l ?_;refine aS (ap (λX=>?_) λX=>?_);refine ao (ar G4 (C5 b true ⟨⟨g,i,f,n⟩,true,0,a,(e+1)%65536⟩ 5)) ?_;refine ag ?_;rw[B ro ro 5 ro];exact ax;refine ag ?_;rw[B ro ro 0 ro];exact ax;have q:¬(p=true/\o=0):=by simpa using G
 have Y:fD k j d ⟨⟨g,i,f,t⟩,p,o,a,e⟩ (ed x) (ed y)=⟨o,⟨⟨g,i,f,t⟩,p,o,a,e⟩,k,d⟩:=by rw[fD,Qab G]
 rw[Y];refine am func280 ntmps280 ?_;refine cW 3 (ar B8 (xW b true ⟨⟨g,i,f,t⟩,p,o,a,e⟩)) ?_;refine et (cW 4 (ar OD (Hi b true ⟨⟨g,i,f,t⟩,p,o,a,e⟩)) ?_);apply ap<;>intro C;exact ag ax;exact absurd (QaH.1 C) q
def zW(s:QS)(w:Int):Bool:=decide (1≤w/\w≤7)&&s.on
def sT(s:QS)(w:Int):QS:=if zW s w then(if s.br=0 then { s with br:=w }else s)else s
theorem b0v(a:QOk s)w:QOk (sT s w):=by unfold sT;split;split;exact⟨a.n,a.av,a.us,a.last,a.put⟩;exact a;exact a
theorem b0w{w}:zW s w=true↔(1≤w/\w≤7)/\s.on=true:=by simp[zW]
theorem b0x(b:Nat)(s:QS)(w:Int):sQ W0 425 [pQ b,iQ w] (pt b (qO true s)::R) (iQ (if zW s w then 0 else 1)) (pt b (qO true (sT s w))::R):=by
 obtain⟨⟨f,g,h,i⟩,e,j,a,c⟩:=s;have n:=b0w (s:=⟨⟨f,g,h,i⟩,e,j,a,c⟩) (w:=w);dsimp only at n;have d:¬((1≤w/\w≤7)/\e=true)->zW ⟨⟨f,g,h,i⟩,e,j,a,c⟩ w=false:=λq=>by
  rw[<-QaI,n];exact q
 have k:=λq=>show sT ⟨⟨f,g,h,i⟩,e,j,a,c⟩ w=_ by rw[sT,d q,Qab cl]
 refine am func425 ntmps425 ?_;refine cW 3 (ar B8 (xW b true ⟨⟨f,g,h,i⟩,e,j,a,c⟩)) ?_;refine et (aB Z (λp=>?_) λp=>?_);refine fH (aA (JZ Z (aG (aM (aa Z (aU Z) (aI (aA (dX (pr (jS (ag ?_)))))))))))
 first
   |(rw[k (by omega),d (by omega)];exact⟨_,⟨rfl,rfl⟩,inferInstance⟩)
   |(rw[k (by simp_all),d (by simp_all)];exact⟨_,⟨rfl,rfl⟩,inferInstance⟩)
 refine aw (ap (λr=>?_) λr=>?_);refine ag ?_
 first
   |(rw[k (by omega),d (by omega)];exact⟨_,⟨rfl,rfl⟩,inferInstance⟩)
   |(rw[k (by simp_all),d (by simp_all)];exact⟨_,⟨rfl,rfl⟩,inferInstance⟩)
 apply ap<;>intro t;refine ag ?_
 first
   |(rw[k (by omega),d (by omega)];exact⟨_,⟨rfl,rfl⟩,inferInstance⟩)
   |(rw[k (by simp_all),d (by simp_all)];exact⟨_,⟨rfl,rfl⟩,inferInstance⟩)
 apply ap<;>intro l;refine ao (ar G4 (C5 b true ⟨⟨f,g,h,i⟩,e,j,a,c⟩ w)) ?_;refine ag ?_;have m:zW ⟨⟨f,g,h,i⟩,e,j,a,c⟩ w=true:=n.2 ⟨aq,ro⟩;have o:sT ⟨⟨f,g,h,i⟩,e,j,a,c⟩ w=if j=0 then⟨⟨f,g,h,i⟩,e,w,a,c⟩else⟨⟨f,g,h,i⟩,e,j,a,c⟩:=by rw[sT,Qad m]
 rw[o,m]
 first
   |(rw[Qad l];exact⟨_,⟨rfl,rfl⟩,inferInstance⟩)
   |(rw[Qab l];exact⟨_,⟨rfl,rfl⟩,inferInstance⟩)
 refine ag ?_;have m:zW ⟨⟨f,g,h,i⟩,e,j,a,c⟩ w=true:=n.2 ⟨aq,ro⟩;have o:sT ⟨⟨f,g,h,i⟩,e,j,a,c⟩ w=if j=0 then⟨⟨f,g,h,i⟩,e,w,a,c⟩else⟨⟨f,g,h,i⟩,e,j,a,c⟩:=by rw[sT,Qad m]
 rw[o,m]
 first
   |(rw[Qad l];exact⟨_,⟨rfl,rfl⟩,inferInstance⟩)
   |(rw[Qab l];exact⟨_,⟨rfl,rfl⟩,inferInstance⟩)
def zX(fr:List az)(pg:List Pl)(s:QS):List Dsc×Int:=oL fr pg s.r (sR fr pg s).1
def fh(fr:List az)(pg:List Pl)(s:QS):Nat×List Dsc×Bool×Int:=
  if (sR fr pg s).2.1 then(if (zX fr pg s).2≠0 then(0,[],false,(zX fr pg s).2)else((sR fr pg s).1,(zX fr pg s).1,true,0))else(0,[],false,(sR fr pg s).2.2)
def kW(fr:List az)(pg:List Pl)(s:QS):QS:=
  if (sR fr pg s).2.1 then(if (zX fr pg s).2≠0 then { ua fr pg s with br:=(zX fr pg s).2 }else ua fr pg s)else ua fr pg s
theorem Sk fr pg s:(ua fr pg s).r=s.r:=by grind[ua]
theorem b0y{fr pg s}(a:QOk s):QOk (ua fr pg s):=by unfold ua;split;split;exact⟨a.n,a.av,a.us,a.last,a.put⟩;split;exact⟨a.n,a.av,a.us,Qbq _ cl,a.put⟩;exact a;exact a
theorem zY(a:QOk s):QOk (kW fr pg s):=by have h:=b0y (fr:=fr) (pg:=pg) a;unfold kW;split;split;exact⟨h.n,h.av,h.us,h.last,h.put⟩;exact h;exact h
theorem Sl(b i l m d:Nat)(e:List az)(f:List Pl)(h:Pgs f)(t:bD e)(s:QS)(w:QOk s)(A:s.r.ok):sP W0 279 [.pointer (some ⟨b,0,none⟩),.pointer (some ⟨i,0,none⟩)] (pt b (qO true s)::df i l m d e f R) (λv B=>∃a c,v=.tuple #[.int .i64 ((fh e f s).1:Nat),.slice a (fh e f s).2.1.length c,.bool (fh e f s).2.2.1,.int .i64 (fh e f s).2.2.2]/\B=osl 436 4 (.slice a (fh e f s).2.1.length c) ((fh e f s).2.1.flatMap fq)::pt b (qO true (kW e f s))::df i l m d e f R):=by
 obtain⟨x,o⟩:∃x,sR e f s=x:=⟨_,Z⟩
 obtain⟨y,u⟩:∃y,oL e f s.r x.1=y:=⟨_,Z⟩
 have C:zX e f s=y:=by rw[zX,o,u]
 have g:=Sk e f s;obtain⟨z,p⟩:∃z,ua e f s=z:=⟨_,Z⟩
 rw[p]at g;simp only[fh,kW,o,C,p];refine jj 12 func279 ntmps279 ?_;refine eS (gU call338 Z (b0o b i l m d e f h t s w)) ?_;rw[o,p];refine au 16 (aB Z (λn=>?_) λn=>?_);refine au 11 (bJ (.cons (bA Z) (.cons (bA Z) (.cons (bA Z) (.cons (bA Z) .nil)))) ?_);rw[Qab n,Qab n];exact acj;have j:x.2.1=true:=QaH.1 n;rw[Qad j,Qad j];refine au 9 (aa Z (vO NP AW Z TakeL.eq Z) ?_);refine aa Z (aV Z) ?_;refine aF Z (xt call339 Z (a92 i l m d e f h t z.r (by rw[g];exact A) x.1)) ?_;rintro _ D ⟨a,c,rfl,q⟩;subst q;rw[show oL e f z.r x.1=y by rw[g,u]];refine au 14 (aB Z (λk=>?_) λk=>?_);rw[Qad k,Qad k];refine au 4 (cW 8 (eg G4 Z (C5 b true z y.2)) ?_);refine bJ (.cons (bA Z) (.cons (bA Z) (.cons (bA Z) (.cons (bA Z) .nil)))) ?_;exact acj;rw[Qab k,Qab k];refine au 13 (bJ (.cons (bA Z) (.cons (bA Z) (.cons (bA Z) (.cons (bA Z) .nil)))) ?_);exact⟨_,⟨a,c,Z,Z⟩,IO⟩
theorem b0z{X}(h:0<X.length):bW X≠[]:=λa=>by
 have:=Qak List.length a;rw[iJ,Qca]at this;omega
theorem Sm{n:Int}:(jX fr pg pa n).length≤512:=by
 unfold jX;split
 rename_i h;rw[wn];have:=(xS.1 h).1;omega
 simp
def ub(most:Int)(n:Nat):Nat:=(most-(n:Int)).toNat
def iN(fr:List az)(pg:List Pl)(l:List Dsc)(most:Int):Nat->List Nat
 |0=>[]
 |k+1=>let d:=l.getD k zD;if sK d then iN fr pg l most k else iN fr pg l most k++(jX fr pg d.addr d.len).take (ub most (iN fr pg l most k).length)
theorem C9(a:bD fr)pg l most:∀k,By (iN fr pg l most k)
 |0=>λb c=>by simp[iN]at c
 |k+1=>by
  rw[iN];split;simp_all[C9];exact(C9 a pg l most k).append ((a9J a _ _ _).take _)
theorem Ca fr pg l most:∀k,(iN fr pg l most k).length≤512*k/\((iN fr pg l most k).length=0\/((iN fr pg l most k).length)≤most)
 |0=>⟨by simp[iN],.inl Z⟩
 |k+1=>by
  obtain⟨a,b⟩:=Ca fr pg l most k;have c:=Sm (fr:=fr) (pg:=pg) (pa:=(l.getD k zD).addr) (n:=(l.getD k zD).len);rw[iN];split;omega;grind[ub]
theorem b0A l k:bW (l.take k)=(bW l).take k:=by simp[bW,List.map_take]
theorem Sn(pv ps pm d c:Nat)(a:Option Addr)(fr:List az)(pg:List Pl)(h:Pgs pg)(hF:bD fr)(l:List Dsc)(hs:bZ (aQ W0 R) a 4 fq l)(hl:∀x∈l,x.ok)(hn:l.length≤1000)(most:Int)(hm: -9223372036854775808≤most/\most<9223372036854775808):sP W0 429 [pQ pv,.slice a l.length c,iQ most] (vw pv ps pm d fr pg R) (λv B=>∃a' c',v=.slice a' (iN fr pg l most l.length).length c'/\B=osl 5 1 (.slice a' (iN fr pg l most l.length).length c') (bW (iN fr pg l most l.length))::vw pv ps pm d fr pg R):=by
 refine am func429 ntmps429 ?_;refine fI (λX:Nat×Option Addr×Nat=>X.1≤l.length) (λX=>[(0,pQ pv),(2,iQ most),(7,.slice X.2.1 (iN fr pg l most X.1).length X.2.2),(13,.slice a l.length c),(14,iQ l.length),(15,iQ X.1)]) (λX=>osl 5 1 (.slice X.2.1 (iN fr pg l most X.1).length X.2.2) (bW (iN fr pg l most X.1))::vw pv ps pm d fr pg R) (λX=>l.length-X.1) (0,none,0) ?_ ?_ ?_ ?_;simp
 · exact eb
 exact eW;intro ⟨i,a0,c0⟩ hi;dsimp only at hi ⊢;obtain⟨hg1,hg2⟩:=Ca fr pg l most i;refine aw (ap (λc3=>?_) λc3=>?_);have hi1:i<l.length:=aq;obtain⟨g,o,rfl,hc⟩:=hs.at_ hi1;have hd:=hl _ (QaC hi1);have hgd:l.getD i zD=l[i]:=by simp[List.getD,hi1]
 have ha:=hd.addr;have hle:=hd.len;refine ac (cu hi1) ?_;refine ac (cV hc.weak) ?_;refine bU λb1=>?_;refine aJ aR (ao (aK G3 (C2 l[i] hd)) ?_);apply ap<;>intro c5;have hst:iN fr pg l most (i+1)=iN fr pg l most i:=by rw[iN];simp only[hgd];rw[Qad c5]
 obtain⟨a1,rfl⟩:∃x,x=a0:=⟨a0,rfl⟩
 obtain⟨c1,rfl⟩:∃x,x=c0:=⟨c0,rfl⟩
 refine ac cK (nE (i+1,a1,c1) ?_ ?_ ?_ ?_);omega;omega
 · dsimp only
   rw[hst]
   try rw[Qaf,QaB,Nat.min_comm]
   exact eb
 dsimp only;rw[hst]
 first
   |exact inferInstance
   |(rw[Qaf,QaB,Nat.min_comm,Dy];exact inferInstance)
 have hst:iN fr pg l most (i+1)=iN fr pg l most i++(jX fr pg l[i].addr l[i].len).take (ub most (iN fr pg l most i).length):=by rw[iN];simp only[hgd];rw[Qab c5]
 have hr5:=Sm (fr:=fr) (pg:=pg) (pa:=l[i].addr) (n:=l[i].len);have hrm:ub most (iN fr pg l most i).length=(most-((iN fr pg l most i).length:Int)).toNat:=rfl;refine ac (cv (bS aq)) ?_;refine aF rfl (dF G2 (El pv ps pm d fr pg h hF l[i].addr ha l[i].len)) ?_;rintro _ B_ ⟨a2,c2,rfl,hB_⟩;subst hB_;generalize hX:jX fr pg l[i].addr l[i].len=X at hst hr5;generalize hG:iN fr pg l most i=G at hst hg1 hg2 hrm;refine oB (E:=5) (sz:=1) (a:=a2) (c:=c2) (n:=X.length) (λhf2=>?_);refine qZ (E:=5) (sz:=1) (a:=a2) (c:=c2) (n:=X.length) (λhcap=>?_);refine aw (ac jt (ac (xD rfl rfl (by rw[hrm];split<;>omega:(if most-(G.length:Int)>0 then most-(G.length:Int)else 0)=((ub most G.length:Nat):Int))) ?_));refine ac (uT rfl rfl (abo:(if ((ub most G.length:Nat):Int)<(X.length:Int)then((ub most G.length:Nat):Int)else(X.length:Int))=((min X.length (ub most G.length):Nat):Int))) ?_;refine ac (qd jf ku rfl rfl rfl aq) ?_;refine aF rfl (zv (sz:=1) (by_:=1) (info:=Tryz.t5) jf ld rfl rfl rfl rfl cl rfl rfl (news:=bW (X.take (ub most G.length))) (by rcases hf2 with ⟨q1,q2⟩|⟨g2,rfl⟩;(left;have hX:X=[]:=(by cases X with |nil=>rfl|cons _ _=>simp[bW]at q2);subst hX;simp);(right;refine⟨g2,0,rfl,λj u hj=>?_⟩;rw[b0A]at hj;have hjk:j<ub most G.length:=(by rcases Qaz j (ub most G.length)with q|q;(exact q);(rw[QaU aaz]at hj;cases hj));rw[QbM hjk]at hj;exact mw (E:=5) (sz:=1) (a:=some ⟨g2,0,none⟩) (n:=X.length) (c:=c2) j u hj)) (by rw[iJ,QaB];omega) (zq _) n5 aq) ?_;rintro _ _ ⟨a1,c1,rfl,rfl⟩;refine aw (ac cK (nE (i+1,a1,c1) ?_ ?_ ?_ ?_));omega;omega
 · dsimp only
   rw[hst]
   try rw[Qaf,QaB,Nat.min_comm]
   exact eb
 dsimp only;rw[hst]
 first
   |exact inferInstance
   |(rw[Qaf,QaB,Nat.min_comm,Dy];exact inferInstance)
 refine ag ?_;have e1:i=l.length:=aq;subst e1;exact⟨_,⟨a0,c0,rfl,rfl⟩,IO⟩
abbrev Cb:=Nat×Nat×List az×Nat
def qA(pg:List Pl)(bs:List Nat)(x:Dsc)(s:Cb):Cb:=
  if sK x=true/\d9 s.2.2.1.length pg x.addr x.len=true then
    (s.1-min s.1 x.len,s.2.1+min (x.len-min s.1 x.len) (bs.length-s.2.1),kU s.2.2.1 pg (x.addr+min s.1 x.len) ((bs.drop s.2.1).take (min (x.len-min s.1 x.len) (bs.length-s.2.1))),oJ s.2.2.1 pg (x.addr+min s.1 x.len) s.2.2.2 (min (x.len-min s.1 x.len) (bs.length-s.2.1)))
  else s
def eZ(fr:List az)(pg:List Pl)(d:Nat)(l:List Dsc)(from_:Int)(bs:List Nat):Nat->Cb
 |0=>(from_.toNat,0,fr,d)
 |i+1=>qA pg bs (l.getD i zD) (eZ fr pg d l from_ bs i)
structure ScOk (fr : List az) (from_ : Int) (bs : List Nat) (s : Cb) : Prop where
  frs : bD s.2.2.1
  len : s.2.2.1.length = fr.length
  d : s.2.2.2 < 4096
  dn : s.2.1 ≤ bs.length
  sk : s.1 ≤ from_.toNat
theorem zZ{fr pg d l from_ bs}(a:bD fr)(b:d<4096):∀i,ScOk fr from_ bs (eZ fr pg d l from_ bs i)
 |0=>⟨a,Z,b,Qay _,Qai _⟩
 |i+1=>by
  have h:=zZ (pg:=pg) (l:=l) (from_:=from_) (bs:=bs) a b i;rw[eZ,qA];split;have c:=h.dn;have e:=h.sk;exact⟨(Em h.frs).1,(Em h.frs).2.trans h.len,zS h.d,aaw,aaw⟩;exact h
theorem Lv(pv ps pm d c cb:Nat)(a ab:Option Addr)(fr:List az)(pg:List Pl)(h:Pgs pg)(hF:bD fr)(hd:d<4096)(l:List Dsc)(hs:bZ (aQ W0 R) a 4 fq l)(hl:∀x∈l,x.ok)(hn:l.length≤1000)(from_:Int)(hf: -9223372036854775808≤from_/\from_<9223372036854775808)(bs:List Nat)(hb:By bs)(hsb:bZ (aQ W0 R) ab 1 (λx=>[bV x]) bs)(hbl:bs.length<9223372036854775808)(hcb:bs.length≤cb):sQ W0 196 [pQ pv,.slice a l.length c,iQ from_,.slice ab bs.length cb] (vw pv ps pm d fr pg R) (iQ ((eZ fr pg d l from_ bs l.length).2.1:Nat)) (vw pv ps pm (eZ fr pg d l from_ bs l.length).2.2.2 (eZ fr pg d l from_ bs l.length).2.2.1 pg R):=by
 refine am func196 ntmps196 ?_;refine ac (xD Z Z (abo:(if from_>0 then from_ else 0)=((from_.toNat:Nat):Int))) ?_;refine fI (λi:Nat=>i≤l.length) (λi=>[(0,pQ pv),(3,.slice ab bs.length cb),(9,iQ ((eZ fr pg d l from_ bs i).1:Nat)),(10,iQ ((eZ fr pg d l from_ bs i).2.1:Nat)),(18,.slice a l.length c),(19,iQ l.length),(20,iQ i)]) (λi=>vw pv ps pm (eZ fr pg d l from_ bs i).2.2.2 (eZ fr pg d l from_ bs i).2.2.1 pg R) (λi=>l.length-i) 0 ?_ ?_ ?_ ?_;exact Qay _
 · exact eb
 simp only[eZ];exact inferInstance;intro i hi;have hok:=zZ (pg:=pg) (l:=l) (from_:=from_) (bs:=bs) hF hd i;have hS:eZ fr pg d l from_ bs (i+1)=qA pg bs (l.getD i zD) (eZ fr pg d l from_ bs i):=Z;have hend:∀hle:i=l.length,eZ fr pg d l from_ bs l.length=eZ fr pg d l from_ bs i:=λq=>by rw[q]
 generalize eZ fr pg d l from_ bs i=s at hok hS hend ⊢;obtain⟨sk,dn,fi,di⟩:=s;obtain⟨hFi,hli,hdi,hdn,hsk⟩:=hok;dsimp only at hFi hli hdi hdn hsk ⊢;refine aw (ap (λc3=>?_) λc3=>?_);have hi1:i<l.length:=aq;obtain⟨g,o,rfl,hc⟩:=hs.at_ hi1;have hx:=hl _ (QaC hi1);have hgd:l.getD i zD=l[i]:=by simp[List.getD,hi1]
 rw[hgd]at hS;generalize l[i]=x at hc hx hS;have ha:=hx.addr;have hle:=hx.len;refine ac (cu hi1) ?_;refine ac (cV hc.weak) ?_;refine bU λb1=>?_;refine aJ aR (ao (aK G3 (C2 x hx)) ?_);apply fC<;>intro g5_4;have hst:eZ fr pg d l from_ bs (i+1)=(sk,dn,fi,di):=by rw[hS,qA,Qab (λq=>g5_4 q.1)]
 refine ac cK (nE (i+1) ?_ ?_ ?_ ?_);omega;omega
 · rw[hst];repeat (first|exact cQ|refine cA rfl ?_)
 rw[hst];exact inferInstance;refine ac (cv (bS aq)) ?_;refine ao (dF xn (xU pv ps pm di fi pg h x.addr ha x.len)) ?_;apply ap<;>intro c5;have hst:eZ fr pg d l from_ bs (i+1)=(sk,dn,fi,di):=by rw[hS,qA,Qab (λq=>c5 q.2)]
 refine ac cK (nE (i+1) ?_ ?_ ?_ ?_);omega;omega
 · rw[hst];repeat (first|exact cQ|refine cA rfl ?_)
 rw[hst];exact inferInstance;have hw:sK x=true:=by simpa using g5_4
 have ho:d9 fi.length pg x.addr x.len=true:=aat;have hst:eZ fr pg d l from_ bs (i+1)=(sk-min sk x.len,dn+min (x.len-min sk x.len) (bs.length-dn),kU fi pg (x.addr+min sk x.len) ((bs.drop dn).take (min (x.len-min sk x.len) (bs.length-dn))),oJ fi pg (x.addr+min sk x.len) di (min (x.len-min sk x.len) (bs.length-dn))):=by rw[hS,qA,Qad ⟨hw,ho⟩]
 have h512:=(xT.1 ho).1;obtain⟨ah,hah⟩:∃y,min sk x.len=y:=⟨_,Z⟩
 rw[hah]at hst;obtain⟨kk,hkk⟩:∃y,min (x.len-ah) (bs.length-dn)=y:=⟨_,Z⟩
 rw[hkk]at hst;refine ac (cv (bS aq)) ?_;refine ac (uT Z Z (abo:(if (x.len:Int)<(sk:Int)then(x.len:Int)else(sk:Int))=((ah:Nat):Int))) ?_;refine ac (mt (sk-ah)) ?_;refine ac (mt (x.len-ah)) ?_;refine ac (mt (bs.length-dn)) ?_;refine ac (uT Z Z (abo:(if ((bs.length-dn:Nat):Int)<((x.len-ah:Nat):Int)then((bs.length-dn:Nat):Int)else((x.len-ah:Nat):Int))=((kk:Nat):Int))) ?_;refine bH [b1] 13 λhS=>?_;refine aj 0 4 hS ?_;refine aE 4 hS (cv (eh aq)) ?_;refine aE 5 hS (eX (x.addr+ah)) ?_;refine aj 6 4 hS ?_;refine aE 10 hS (eX (dn+kk)) ?_;refine aE 11 hS (Kj jf ku Z Z Z Z Z aq aq) ?_;refine co 12 (dF OC (RY pv ps pm di _ (dn+kk-dn) _ fi pg h hFi hdi (x.addr+ah) aq ((bs.drop dn).take kk) (by rw[QaB,QaL];omega) ((hb.drop _).take _) (bZ.sub hsb.weak aq hcb) aq)) ?_;clear hS;rintro _ B_ ⟨rfl,hB_⟩;subst hB_;rw[show dn+kk-dn=kk by omega];refine⟨aW,λhS=>?_⟩;refine aS (ac (eX (dn+kk)) ?_);refine ac cK (nE (i+1) ?_ ?_ ?_ ?_);omega;omega
 · rw[hst];repeat (first|exact cQ|refine cA rfl ?_)
 rw[hst];exact inferInstance;refine ag ?_;have e1:=hend aq;rw[e1];exact ax
section
variable{P:Program}{W0:World}{N:FSz}{e:bK}{A R:List HP}{t t':TypeId}{x:Operand}{v:Value}{b:Nat}{vs:List Value}
theorem b0B{c:TypeId}{a:Nat}[h:Tk pt b A (.cells arr c mk) R](d:arr[a]?=some v):lF (aQ W0 A) b a v:=λw (e:Own W0 w A)=>by
 have:=(e.tk (r:=pt) (b:=b)).has.2;simp[World.cell?,this,d]
theorem Lw{a:TypeId}[h:Tk pt b A (.cells arr a mk) R](c:∀(i:Nat) (v:Value),vs[i]?=some v->arr[i]?=some v):bF (aQ W0 A) b 0 vs:=λi v d=>by
 rw[Qac];exact b0B (c i v d)
def bL(s:ByteArray):List Nat:=s.data.toList.map UInt8.toNat
theorem Es s:(bL s).length=s.size:=by rw[bL,QaD,QcT];rfl
theorem Lx s:By (bL s):=λx a=>by
 obtain⟨u,_,rfl⟩:=QaZ.1 a;exact u.toNat_lt
theorem Et l:(m8 l).size=l.length:=by rw[<-Es,bL,a78,QaD,QaD]
theorem Ly{E s}(k:P.underlying t=some .string)(l:P.underlying t'=some (.slice E))(m:P.underlying E=some (.int .u8))(n:ev e x=some (.string s)):
    dq P W0 N e A (.convert t t' x) (λv B=>∃b c,∃d,∃p,v=.slice (some ⟨b,0,none⟩) s.size c/\s.size≤c/\(∀(i:Nat) (v:Value),(bW (bL s))[i]?=some v->d[i]?=some v)/\B=pt b (.cells d E p)::A):=uL λa w _ _ _ _ _ r u=>by
 have y:=run_bytes_of_string (P:=P) w t t' E s k l m;obtain⟨h,f⟩:∃o,Obj.cells (bytesRow s (grownCap w s.size 0 E)) E ((bytesRow s (grownCap w s.size 0 E)).size,(bytesRow s (grownCap w s.size 0 E)).size+1)=o:=⟨_,Z⟩
 refine⟨_,w.drew.alloc h,pt w.heap.size h::A,.inl (by rw[<-f];simp only[execOp,r.eval n,Sem.run_bind,y,Result.andThen_ok,Sem.run_pure]),⟨w.heap.size,_,_,_,Z,grownCap_ge w s.size 0 E,λi v g=>?_,by rw[<-f]⟩,?_⟩;have j:i<s.data.size:=by
  rcases Qaz i s.data.size with q|q;exact q;rw[QaU (by rw[iJ,Es];exact q)]at g;cases g
 rw[bW,bL,QcE,QbL,Array.getElem?_toList,Qbu j]at g;simp only[Option.map_some,QbV]at g;rw[bytesRow,Array.getElem?_append_left mv,Array.getElem?_map,Qbu j, <-g];rfl;exact(Own.drew u (w.drawn+1)).new _
end
theorem b0C(a:Option Addr)(c:Nat)(l:List Nat)(at_ w:Int)(hs:bZ (aQ W0 R) a 1 (λx=>[bV x]) l)(hb:By l)(hn:l.length≤c)(h63:c<9223372036854775808):sQ W0 289 [.slice a l.length c,iQ at_,iQ w] R (.tuple #[.int .u32 (qo l at_ w:Nat),iQ (sD l at_ w)]) R:=by
 by_cases d:l=[];subst d;have e:i7 0 at_ w=false:=by
  grind[kQ]
 have b:i7 ([]:List Nat).length at_ w=false:=e;rw[qo,sD,b];refine am XW ntmps289 ?_;refine ao (aK Jp (Qs a 0 c at_ w e aq)) ?_;apply ap<;>intro f;exact aZ ax;exact absurd f n4;obtain⟨g,o,rfl,h⟩:=hs.all d (λ_=>Z);exact GP W0 R g o c l at_ w (by grind[tL]) hb hn h63
theorem Eu{S:World->Prop}{b a:Nat}(h:bF S b a (bW bs)):bZ S (some ⟨b,a,none⟩) 1 (λx=>[bV x]) bs:=λi x e=>⟨b,a,Z,λj v f=>by
 have c:j=0:=by
  grind
 subst c;have d:(bW bs)[i]?=some v:=by
  grind[bW]
 rw[QaP,QbW]
 exact h i v d⟩
theorem Sp{S a bs c i}(h:bZ S a 1 (λx=>[bV x]) bs)(b:bs.length≤c)(d:i≤bs.length):bZ S (jk a c i 1) 1 (λx=>[bV x]) (bs.drop i):=by
 have:=h.sub (c:=c) (i:=i) (k:=bs.length-i) aq b
 rwa[QaJ mv]at this
theorem Sq{P S N e x}{l f:List Value}{T fs nm}{i b c n:Nat}{em tg pk bo}(g:ev e x=some (.agg l.toArray))(h:P.underlying T=some (.struct fs))(p:fs.toList[i]?=some ⟨nm,b,c,em,tg,pk,bo⟩)
    (j:∀w,(isAgg b).run P w=.ok true w)(k:∀w,(sizeOf b).run P w=.ok n w)(m:(l.drop c).take n=f):cr P S N e (.field T x i) (.agg f.toArray):=λa w _ _ _ _ _ o _=>by
 have d:fs[i]?=some ⟨nm,b,c,em,tg,pk,bo⟩:=mv;simp only[execOp,Instr.field,o.eval g,Sem.run_bind,eV h,d,Result.andThen_ok,asAgg,Sem.run_pure];rw[JU j k m];rfl
def xZ(fr:List az)(pg:List Pl)(l:List Dsc):List Nat:=iN fr pg l 36 l.length
def uc(fr:List az)(pg:List Pl)(l:List Dsc):Bool:=decide (4≤g8 l false/\g8 l false≤36/\4≤(xZ fr pg l).length)
def vm(fr:List az)(pg:List Pl)(l:List Dsc):Nat:=if uc fr pg l then lZ ((xZ fr pg l).take 4)else 0
def sW(fr:List az)(pg:List Pl)(l:List Dsc):ByteArray:=if uc fr pg l then m8 ((xZ fr pg l).drop 4)else ByteArray.empty
theorem Sr fr pg l:(sW fr pg l).size≤32:=by unfold sW;split;grind[Et,QaL,Ca,xZ];simp_all
theorem b0D(b:bD fr)pg l:vm fr pg l<4294967296:=by
 unfold vm;split;have:=xC ((C9 b pg l 36 l.length).take 4)
 rename_i h
 have a:4≤(xZ fr pg l).length:=(Qaw h).2.2;unfold xZ at a ⊢;rw[QaB,Qbo a]at this;exact this;omega
theorem b0E(pv ps pm d c:Nat)(a:Option Addr)(fr:List az)(pg:List Pl)(h:Pgs pg)(hF:bD fr)(l:List Dsc)(hl:∀x∈l,x.ok)(hn:l.length≤1000):sQ W0 379 [pQ pv,.slice a l.length c] (osl 436 4 (.slice a l.length c) (l.flatMap fq)::df pv ps pm d fr pg R) (.tuple #[iQ (vm fr pg l:Nat),sV (sW fr pg l),.bool (uc fr pg l)]) (osl 436 4 (.slice a l.length c) (l.flatMap fq)::df pv ps pm d fr pg R):=by
 obtain⟨G,j⟩:∃G,xZ fr pg l=G:=⟨_,Z⟩
 have p:By G:=by rw[<-j];exact C9 hF pg l 36 l.length
 have M:G.length≤36:=by
  have:=(Ca fr pg l 36 l.length).2;rw[<-j,xZ];omega
 have K:uc fr pg l=decide (4≤g8 l false/\g8 l false≤36/\4≤G.length):=by rw[uc,j]
 have e:¬(4≤g8 l false/\g8 l false≤36/\4≤G.length)->vm fr pg l=0/\sW fr pg l=ByteArray.empty/\uc fr pg l=false:=λq=>by
  have N:uc fr pg l=false:=by rw[K,Qat q]
  rw[vm,sW,N];exact⟨Z,Z,Z⟩
 refine am func379 ntmps379 ?_;refine ao (ar call428 (RS a c l false hl hn)) ?_;apply fC<;>intro r;refine bJ (.cons (bA Z) (.cons (bA Z) (.cons (bA Z) .nil))) ?_;obtain⟨s,t,u⟩:=e aq;rw[s,t,u];exact ax;apply ap<;>intro O;refine bJ (.cons (bA Z) (.cons (bA Z) (.cons (bA Z) .nil))) ?_;obtain⟨s,t,u⟩:=e aq;rw[s,t,u];exact ax;refine oB (E:=436) (sz:=4) (a:=a) (c:=c) (n:=l.length) (ys:=l.flatMap fq) (λC=>?_);refine aw (aF Z (dF call429 (Sn pv ps pm d c a fr pg h hF l (tI C (mw (E:=436) (sz:=4) (a:=a) (n:=l.length) (c:=c)) (λ_=>Z) Z cl) hl hn 36 cl)) ?_);rintro _ Q ⟨D,F,rfl,H⟩;subst H;rw[show iN fr pg l 36 l.length=G from j];refine aw (jV (E:=5) (sz:=1) (a:=D) (n:=G.length) (c:=F) (λx=>[bV x]) G (λ_=>Z) cl (tL G).symm (λL=>?_));refine qZ (E:=5) (sz:=1) (a:=D) (c:=F) (n:=G.length) (λb=>?_);refine aw (ao (aK Ou (b0C D F G 0 4 L p b.1 (by have:=b.2;simp only[maxLen]at this;omega))) ?_);apply aB Z<;>intro v;refine au 9 (bJ (.cons (bA Z) (.cons (bA Z) (.cons (bA Z) .nil))) ?_)
 obtain⟨s,t,u⟩:=e (λq=>by
  have y:i7 G.length 0 4=true:=kQ.2 ⟨aq,aq,aq,aq⟩
  rw[sD,y]at v;simp at v)
 rw[s,t,u];exact ax;have y:4≤G.length:=by
  by_cases q:i7 G.length 0 4=true;have:=kQ.1 q;omega;exfalso;rw[sD,Qab q]at v;simp at v
 have A:4≤g8 l false/\g8 l false≤36:=⟨aq,aq⟩
 have f:uc fr pg l=true:=by rw[K,Qag];exact⟨A.1,A.2,y⟩
 have I:vm fr pg l=qo G 0 4:=by
  rw[vm,f,Qad Z,j,qo,Qad (kQ.2 ⟨aq,aq,aq,aq⟩)];rfl
 have J:sW fr pg l=m8 (G.drop 4):=by rw[sW,f,Qad Z,j]
 rw[f,I,J];have P:=Ks (at_:=0) (w:=4) p;obtain⟨g,o,rfl,B⟩:=L.all (by intro q;rw[q]at y;simp at y) (λ_=>Z);rw[tL]at B;refine aw (dY [(g,o,bW G)] 8 mixed Z (dA B bI) (λm=>?_));refine aj 0 1 m ?_;refine aE 1 m (cv (bS aq)) ?_;refine aj 2 1 m ?_;refine aE 3 m (qm jf ku Z (i:=4) Z Z aq Z) ?_;refine aE 4 m (QG jf AS mr Z (by rw[QaL]) (Sp (Eu (i6 (k:=0) Z)) b.1 aq)) ?_;refine aj 5 3 m ?_;exact aS (bJ (.cons (bA Z) (.cons (bA Z) (.cons (bA Z) .nil))) ax)
def nW:List Nat:=List.replicate 16 0
structure Dk where
  rs : List Rn
  lb : List Int
  ss : List (List Nat)
variable {x:Dk}
def lq(ss:List (List Nat))(i:Nat):List Nat:=ss.getD i nW
def rF(ss:List (List Nat)):Int->Option Value:=λk=>if 0≤k/\k<32 then(if lq ss k.toNat=nW then none else some (.agg (bW (lq ss k.toNat)).toArray))else none
structure DkOk (x : Dk) : Prop where
  tb : v4 x.rs
  rl : x.rs.length ≤ 8
  ll : x.lb.length ≤ 8
  wh : ∀ i w, qn x.rs i = some w → 0 ≤ w ∧ w < x.lb.length
  sl : x.ss.length = 32
  sb : ∀ b ∈ x.ss, b.length = 16 ∧ By b
theorem Ss:nW.length=16/\By nW:=⟨cl,λx a=>by
 have:=Qcx a;omega⟩
theorem DkOk.sec(h:DkOk x)i:(lq x.ss i).length=16/\By (lq x.ss i):=by unfold lq;rcases Qaz i x.ss.length with q|q;rw[show x.ss.getD i nW=x.ss[i] by simp[List.getD,q]];exact h.sb _ (QaC q);grind[nW,List.getD,Ss]
@[reducible] def wy(bt bm:Nat)(aL:Option Addr)(n cL:Nat):Obj:=ae [.pointer (some ⟨bt,0,none⟩),.slice aL n cL,.map (some bm)] 289
def dQ(d:Nat)(x:Dk):HP:=chk (λC=>∃bt bm aL cL,C=[pt d (wy bt bm aL x.lb.length cL),my bt (x.rs,32),osl 3 1 (.slice aL x.lb.length cL) (x.lb.flatMap tJ),mH bm (rF x.ss)])
section
variable{W0:World}{N:FSz}{K:Act->World->Prop}{e:bK}{A B R R1 R2 R3 R4:List HP}{d:Nat}{x:Dk}
theorem Hj[j:Tk dQ d A x R](h:∀a c f g,aC W0 N K e (pt d (wy a c f x.lb.length g)::my a (x.rs,32)::osl 3 1 (.slice f x.lb.length g) (x.lb.flatMap tJ)::mH c (rF x.ss)::R)):aC W0 N K e A:=
  ix (r:=dQ) (b:=d) (oz λC i=>by obtain⟨a,c,f,g,rfl⟩:=i;exact h a c f g)
theorem Ev{a b c:Nat}{f:Int->Option Value}[g:Tk pt d A (wy a b aL n c) R1][h:Tk my a R1 (rs,32) R2][i:Tk (osl 3 1) (.slice aL n c) R2 ys R3][j:Tk mH b R3 f R4]
    (l:rs=x.rs)(m:ys=x.lb.flatMap tJ)(o:f=rF x.ss)(p:n=x.lb.length)[k:Ent R4 B]:Ent A (dQ d x::B):=by subst l;subst m;subst o;subst p;have e:A.Perm ([pt d (wy a b aL x.lb.length c),my a (x.rs,32),osl 3 1 (.slice aL x.lb.length c) (x.lb.flatMap tJ),mH b (rF x.ss)]++R4):=g.perm.trans ((h.perm.trans ((i.perm.trans (j.perm.cons _)).cons _)).cons _);exact(Ent.ofPerm e).trans ((fT (R:=R4) ⟨a,b,aL,c,Z⟩).trans (Ent.cons k))
end
theorem b0F(d b c n e:Nat)(f:Option Addr):sQ W0 259 [pQ d] (pt d (wy b c f n e)::R) (.bool false) (pt d (wy b c f n e)::R):=by refine am func259 ntmps259 ?_;apply d7 Z Z Z<;>intro a;cases a;refine aw (ac (a9t OE Z Z) ?_);exact ag ax
def rG(x:Dk)(at_:Int):Option Int:=(sB x.rs 32 at_).map λr=>x.lb.getD r.toNat 0
theorem Lz W0 R d x(h:DkOk x)at_:
    bE Tryz.prog W0 165 [.pointer (some ⟨d,0,none⟩),.int .i64 at_] (dQ d x::R) (λv B=>v=.tuple #[.int .i64 ((rG x at_).getD 0),.int .i64 (if (rG x at_).isSome then 0 else 3)]/\B=dQ d x::R):=by
 obtain⟨o,e⟩:∃o,sB x.rs 32 at_=o:=⟨_,rfl⟩
 have f:rG x at_=o.map λr=>x.lb.getD r.toNat 0:=by rw[rG,e]
 have u:=h.rl;refine vP func165 ntmps165 rfl rfl ?_;refine aG (aM (aa rfl (aU rfl) (aa rfl (aU rfl) (aI (aA (aG (aG ?_)))))));refine Hj (d:=d) λp w q s=>?_;refine aM (aa rfl (aV rfl) (aF rfl (eg call259 rfl (b0F d p w x.lb.length s q)) ?_));rintro _ y ⟨rfl,b⟩;subst b;refine aI (aA ?_);refine aB rfl ?_ ?_;intro t;exact absurd t cl;intro t;refine fH (aA (aG (aM (aa rfl (aV rfl) (aa rfl (fJ rfl) ?_)))));refine aa rfl (bT rfl O6 rfl NV rfl dg) ?_;refine aa rfl (bO Xb rfl (aO rfl)) ?_;refine aa rfl (aV rfl) ?_;refine aF rfl (eg call260 rfl (a7E p x.rs 32 h.tb aq at_)) ?_;rintro _ y ⟨rfl,b⟩;subst b;rw[e];refine aa rfl (aV rfl) (aa rfl (jT rfl rfl) (aa rfl (jT rfl rfl) (aa rfl (aU rfl) (aa rfl (aU rfl) (aI (aA (aG (aG (aM (aa rfl (aV rfl) (aa rfl (vN rfl) (aI (aA ?_)))))))))))));refine aB rfl ?_ ?_;intro i;refine aG (aM (aa rfl (aU rfl) (aa rfl (aU rfl) (aI (aA (dX (jS (bP (.inl rfl) (.cons (bA rfl) (.cons (bA rfl) .nil)) ?_))))))));have A:o=none:=by
  cases o with
  |none=>rfl
  |some r=>exact absurd rfl i
 subst A;rw[f];exact⟨_,⟨rfl,rfl⟩,Ev rfl rfl rfl rfl⟩;intro i;obtain⟨r,rfl⟩:∃r,o=some r:=by
  cases o with
  |none=>exact absurd cl i
  |some r=>exact⟨r,rfl⟩
 have j:qn x.rs at_=some r:=by
  unfold sB at e;split at e;cases e;exact e
 obtain⟨C,D⟩:=h.wh at_ r j;obtain⟨k,rfl⟩:∃k:Nat,r=(k:Int):=⟨r.toNat,aq⟩
 have l:k<x.lb.length:=aq;refine jV (E:=3) (sz:=1) (a:=q) (n:=x.lb.length) (c:=s) tJ x.lb (λ_=>rfl) cl rfl (λF=>?_);obtain⟨g,o,rfl,G⟩:=F.at_ l;have m:x.lb.getD ((k:Nat):Int).toNat 0=x.lb[k]:=by rw[Qae];simp[List.getD,l]
 refine fH (aA (aG (aM (aa rfl (aV rfl) (aa rfl (fJ rfl) ?_)))));refine aa rfl (bT rfl O6 rfl Xk rfl dg) ?_;refine aa rfl (bO isAgg235 rfl (aO rfl)) ?_;refine aa rfl (aV rfl) ?_;refine aa rfl (kP jE bu rfl rfl rfl l dg) ?_;refine aa rfl (bO cM rfl (bF.weak G 0 _ rfl)) ?_;refine aa rfl (aU rfl) (aa rfl (aU rfl) (aI (aA (dX (bP (.inl rfl) (.cons (bA rfl) (.cons (bA rfl) .nil)) ?_)))));rw[f];simp only[Option.map_some,Option.getD_some,Option.isSome_some,QbT,m];exact⟨_,⟨rfl,rfl⟩,Ev rfl rfl rfl rfl⟩
def A0(x:Dk)(k:Nat)(b:List Nat):Dk:={ x with ss:=x.ss.set k b }
theorem Su(h:DkOk x)(a:b.length=16/\By b):DkOk (A0 x k b):=
  ⟨h.tb,h.rl,h.ll,h.wh,by simp[A0,h.sl],λc d=>by
 rcases Qbm d with q|q;exact h.sb c q
 rw[q];exact a⟩
theorem Sv(a:ss.length=32)(c:k<32):rF (ss.set k b)=Hd (rF ss) (k:Int) (if b=nW then none else some (.agg (bW b).toArray)):=by grind[Hd,rF,lq]
theorem b0G{K:Act->World->Prop}{R:List HP}{E sz:Nat}{vi:Value}[h:Tk (osl E sz) vi A ys R](i:ys≠[])(k:∀g n c,vi=.slice (some ⟨g,0,none⟩) n c->ys.length=n*sz->aC W0 N K e A):aC W0 N K e A:=λa w j f=>by
 rcases(f.tk (r:=osl E sz) (b:=vi)).osl with ⟨_,p,_⟩|⟨g,l,d,q,m,_,_,o,_,_⟩;grind;exact k g l d m o a w j f
theorem Sw{B a c e g:List HP}{h i j:Nat}{f:Int->Option Value}[q:Tk pt d A (wy h i aL n j) a][r:Tk my h a (rs,32) c][s:Tk (osl 3 1) (.slice aL n j) c ys e][t:Tk mH i e f g]
    (l:rs=x.rs)(m:ys=x.lb.flatMap tJ)(o:f=rF (x.ss.set k b))(p:n=x.lb.length)[Ent g B]:Ent A (dQ d (A0 x k b)::B):=Ev (x:=A0 x k b) l m o p
theorem b0H{S a bs}(f:bZ S a 1 (λx=>[bV x]) bs)(h:0<bs.length):∃b c,a=some ⟨b,c,none⟩/\bF S b c (bW bs):=by
 obtain⟨b,c,rfl,_⟩:=f 0 bs[0] aaq;refine⟨b,c,Z,λi v g=>?_⟩;have d:i<bs.length:=by
  have:=(QbH.1 g).1
  rwa[iJ]at this
 have k:bV bs[i]=v:=by
  have:=(QbH.1 g).2;rw[<-this];simp[bW]
 obtain⟨m,j,e,l⟩:=f i bs[i] (by simp[d]);cases e;have:=l 0 v (by rw[<-k];rfl)
 rwa[QaP,QbW]at this
theorem b0I b:bW b=(b.map Int.ofNat).map (Value.int .u8):=by simp[bW,bV]
theorem Sx{a:List Nat}:(a.map Int.ofNat==b.map Int.ofNat)=decide (a=b):=by rw[Qah,Qbv,Qag];exact⟨λh=>(List.map_inj_right (λx y h=>Int.ofNat.inj h)).1 h,λh=>by rw[h]⟩
theorem Sy(d:Nat)(x:Dk)(hx:DkOk x)(k:Nat)(hk:k<32)(bb off c:Nat)(bs:List Nat)(hb:bs.length=16/\By bs)(hc:bF (aQ W0 R) bb off (bW bs)):sQ W0 166 [pQ d,iQ k,.slice (some ⟨bb,off,none⟩) 16 c] (dQ d x::R) (.tuple #[]) (dQ d (A0 x k bs)::R):=by
 refine am func166 ntmps166 ?_;refine bU λbs_=>?_;refine ac (Bs OF ku Z) ?_;refine ao (xx jf ku Z Z (m:=16) (vs:=bW bs) Z hc.weak (by rw[iJ,hb.1]) (zq _) cl (by have:=Bi (bW bs) (List.replicate 16 (.int .u8 0)) [] (by rw[iJ,hb.1];rfl);simpa using this)) ?_;refine ac (q9 isAgg410 Y8 Z (by rw[iJ];exact hb.1)) ?_;refine ac (Kf OF ku XQ Z) ?_;refine ac (zb Tryz.eqGuardType410 Z Z (Rw (i:=Tryz.t5) (ms:=bs.map Int.ofNat) (ns:=nW.map Int.ofNat) OF ld ld AS isAgg5 (b0I bs) Z (by rw[QaD];exact hb.1) Z)) ?_;apply ap<;>intro c2;have hz:bs=nW:=by rw[Sx]at c2;exact Qaw c2
 refine Hj (d:=d) λbt bm aL cL=>?_;refine aw (eM (a9y OE ez Z Z) ?_);rintro _ B_ ⟨rfl,hB_⟩;subst hB_;refine aw (bP (.inl Z) .nil ?_);exact⟨_,⟨Z,Z⟩,Sw (x:=x) (k:=k) (b:=bs) Z Z (by rw[Sv hx.sl hk,Qad hz]) Z⟩;have hz:¬bs=nW:=by rw[Sx]at c2;exact of_decide_eq_false aam
 refine Hj (d:=d) λbt bm aL cL=>?_;refine bH [d,bs_] 7 λhS=>?_;refine aj 0 5 hS ?_;refine aE 5 hS (jg isAgg410 Y8 Z rg (by rw[iJ];exact hb.1)) ?_;refine cp 6 (a9x OE ez Z Z Z) λhS=>?_;refine aS (bP (.inr Z) .nil ?_);exact⟨_,⟨Z,Z⟩,Sw (x:=x) (k:=k) (b:=bs) Z Z (by rw[Sv hx.sl hk,Qab hz]) Z⟩
theorem b0J(a:k<32){z}(b:z=.agg (bW nW).toArray):(rF ss k).getD z=.agg (bW (lq ss k)).toArray:=by grind[rF]
theorem b0K(d:Nat)(x:Dk)(c:DkOk x)(k:Nat)(e:k<32):sP W0 491 [pQ d,iQ k] (dQ d x::R) (λv B=>∃b,v=.slice (some ⟨b,0,none⟩) 16 16/\B=osl 5 1 (.slice (some ⟨b,0,none⟩) 16 16) (bW (lq x.ss k))::dQ d x::R):=by have a:=c.sec k;refine am func491 ntmps491 ?_;refine Hj (d:=d) λj g l n=>?_;refine aw (ac (a9v (b:=g) (f:=rF x.ss) (k:=(k:Int)) OE ez XQ Z Z (b0J e Z)) ?_);refine bU λh=>?_;refine aJ (eN Y8 Z Z (by rw[iJ];exact a.1) (zq _) Z) ?_;refine dh (Bt (sz:=1) (by_:=1) (info:=Tryz.t5) jf ld Z Z Z Z cl Z Z Z Z cl cl) λi=>?_;refine ac (Bs OF ku Z) ?_;refine ao (xx jf ku Z Z (m:=16) (vs:=bW (lq x.ss k)) Z (eQ (b:=h)) (by rw[iJ,a.1]) (zq _) cl (by have:=Bi (bW (lq x.ss k)) (List.replicate (16*1) (.int .u8 0)) [] (by rw[iJ,a.1];rfl);simpa using this)) ?_;exact ag ⟨_,⟨i,Z,Z⟩,Ke (k:=Ev Z Z Z Z) n5 (by rw[iJ,a.1])⟩
theorem Hl{x at_ l}(h:rG x at_=some l):∃k:Nat,at_=k/\k<32:=by unfold rG sB at h;split at h;cases h;exact⟨at_.toNat,aq,aq⟩
def mb(x:Dk)(who at_:Int):Int:=match rG x at_ with |none=>3|some l=>if qY l who then 0 else 8
theorem b0L(d:Nat)(x:Dk)(hx:DkOk x)(who at_:Int):sP W0 483 [pQ d,iQ who,iQ at_] (dQ d x::R) (λv B=>∃a n c,v=.tuple #[.slice a n c,iQ (mb x who at_)]/\n=(if mb x who at_=0 then lq x.ss at_.toNat else[]).length/\B=osl 5 1 (.slice a n c) (bW (if mb x who at_=0 then lq x.ss at_.toNat else[]))::dQ d x::R):=by
 obtain⟨o,ho⟩:∃o,rG x at_=o:=⟨_,rfl⟩
 refine am func483 ntmps483 ?_;refine ao (ar Y9 (Lz W0 _ d x hx at_)) ?_;rw[ho];apply ap<;>intro c2;refine aZ ?_;have hn:o=none:=by
  cases o with
  |none=>rfl
  |some l=>exact absurd c2 n4
 have he:mb x who at_=3:=by rw[mb,ho,hn]
 rw[he];subst hn;exact⟨_,⟨none,0,0,rfl,rfl,rfl⟩,eW⟩;refine ao (aK Oo (GE (o.getD 0) who)) ?_;apply ap<;>intro c4;refine aZ ?_;obtain⟨l,rfl⟩:∃l,o=some l:=by
  cases o with
  |none=>exact absurd n4 c2
  |some l=>exact⟨l,rfl⟩
 have he:mb x who at_=8:=by rw[mb,ho];exact Qab sm
 rw[he];exact⟨_,⟨none,0,0,rfl,rfl,rfl⟩,eW⟩;obtain⟨l,rfl⟩:∃l,o=some l:=by
  cases o with
  |none=>exact absurd n4 c2
  |some l=>exact⟨l,rfl⟩
 obtain⟨k,rfl,hk⟩:=Hl ho;have he:mb x who k=0:=by rw[mb,ho];exact Qad sm
 refine aF rfl (ar call491 (b0K d x hx k hk)) ?_;rintro _ B_ ⟨bo,rfl,hB_⟩;subst hB_;refine aw (aZ ?_);rw[he,Qad rfl,Qae];exact⟨_,⟨some ⟨bo,0,none⟩,16,16,rfl,(hx.sec k).1.symm,rfl⟩,IO⟩
def pI(x:Dk)(who at_:Int)(n:Nat):Int:=match rG x at_ with |none=>3|some l=>if qY who l then(if n=16 then 0 else 1)else 8
def sX(x:Dk)(who at_:Int)(b:List Nat):Dk:=if pI x who at_ b.length=0 then A0 x at_.toNat b else x
theorem b0M(h:DkOk x)(a c:Int)(d:By b):DkOk (sX x a c b):=by grind[sX,Su,pI]
theorem b0N(d:Nat)(x:Dk)(hx:DkOk x)(who at_:Int)(a:Option Addr)(c:Nat)(bs:List Nat)(hb:By bs)(hn:bs.length<9223372036854775808)(hs:bZ (aQ W0 R) a 1 (λx=>[bV x]) bs):sQ W0 484 [pQ d,iQ who,iQ at_,.slice a bs.length c] (dQ d x::R) (iQ (pI x who at_ bs.length)) (dQ d (sX x who at_ bs)::R):=by
 obtain⟨o,ho⟩:∃o,rG x at_=o:=⟨_,rfl⟩
 refine am func484 ntmps484 ?_;refine ao (ar Y9 (Lz W0 _ d x hx at_)) ?_;rw[ho];apply ap<;>intro c2;refine ag ?_;have hn:o=none:=by
  cases o with
  |none=>rfl
  |some l=>exact absurd c2 n4
 subst hn;have he:pI x who at_ bs.length=3:=by rw[pI,ho]
 rw[sX,he,Qab (show ¬(3:Int)=0 by decide)];exact ax;refine ao (aK Oo (GE who (o.getD 0))) ?_;apply ap<;>intro c4;refine ag ?_;obtain⟨l,rfl⟩:∃l,o=some l:=by
  cases o with
  |none=>exact absurd n4 c2
  |some l=>exact⟨l,rfl⟩
 have he:pI x who at_ bs.length=8:=by rw[pI,ho];exact Qab sm
 rw[sX,he,Qab (show ¬(8:Int)=0 by decide)];exact ax;obtain⟨l,rfl⟩:∃l,o=some l:=by
  cases o with
  |none=>exact absurd n4 c2
  |some l=>exact⟨l,rfl⟩
 apply ap<;>intro c6;refine ag ?_;have h16:¬bs.length=16:=aq;have he:pI x who at_ bs.length=1:=by rw[pI,ho];exact(Qad sm).trans (Qab h16)
 rw[sX,he,Qab (show ¬(1:Int)=0 by decide)];exact ax;have h16:bs.length=16:=aq;obtain⟨k,rfl,hk⟩:=Hl ho;have he:pI x who k bs.length=0:=by rw[pI,ho];exact(Qad sm).trans (Qad h16)
 obtain⟨bb,off,rfl,hc⟩:=b0H hs aq;refine ao (ar call166 (h16▸Sy d x hx k hk bb off c bs ⟨h16,hb⟩ hc.weak)) ?_;refine ag ?_;rw[sX,he,Qad rfl,Qae];exact ax
def wz(s:ByteArray)(n:Nat):List Nat:=((s.data.toList.take n).map λb=>b.toNat)++List.replicate (n-s.size) 0
theorem Sz s n:(wz s n).length=n/\By (wz s n):=by have e:s.data.toList.length=s.size:=ro;refine⟨by rw[wz,Qaf,QaD,QaB,Qbz,e];omega,λx a=>?_⟩;rw[wz]at a;rcases Qba.1 a with q|q;obtain⟨b,_,rfl⟩:=QaZ.1 q;exact b.toNat_lt;grind
theorem b0O(s:ByteArray)(n:Nat)(d:1≤n/\n≤16384):sP W0 167 [.string s,iQ n] R (λv B=>∃b,v=.slice (some ⟨b,0,none⟩) n n/\B=pt b (ae (bW (wz s n)) 5)::R):=by
 have e:s.data.toList.length=s.size:=by rw[QcT];rfl
 refine am func167 ntmps167 ?_;refine ac (uT Z Z (r:=(n:Int)) (by rw[Qab aq])) ?_;refine ac (xD Z Z (r:=(n:Int)) (by rw[Qad aq])) ?_;refine dh (Bt (sz:=1) (by_:=1) (info:=Tryz.t5) jf ld Z Z Z Z cl Z Z (n:=n) Z Z aq cl) λc=>?_
 refine aF Z (a9C (b:=c) (m:=min s.size n) jf ku Z Z Z (by rw[Qbz];have:=Nat.min_le_right s.size n;omega) (l':=bW (wz s n)) (by
 rw[vS _ _ _ (by rw[QaD,QaB,Qbz];have:=Nat.min_le_right s.size n;omega),wz,Dy,List.take_zero,Qar,List.drop_replicate,QaD,QaB,e,Qac];congr 1;rw[bW,QcE];have:s.data.toList.take (min s.size n)=s.data.toList.take n:=by
  rcases Nat.le_total s.size n with q|q;rw[Qbo q,QaJ aq,QaJ aq];rw[Nat.min_eq_right q]
 rw[this];rfl;rw[bW,List.map_replicate];congr 1;rcases Nat.le_total s.size n with q|q;rw[Qbo q];omega
 rw[Nat.min_eq_right q];omega)) ?_
 rintro _ f ⟨rfl,a⟩;subst a;exact aw (ag ⟨_,⟨c,Z,Z⟩,IO⟩)
def A4(x:Dk)(at_:Int)(s:ByteArray):Dk:=if (rG x at_).isSome then A0 x at_.toNat (wz s 16)else x
theorem b0P(h:DkOk x)at_ s:DkOk (A4 x at_ s):=by grind[A4,Su,Sz]
theorem b0Q W0 R d x(f:DkOk x)at_ s:
    bE Tryz.prog W0 101 [.pointer (some ⟨d,0,none⟩),.int .i64 at_,.string s] (dQ d x::R) (λv B=>v=.int .i64 (if (rG x at_).isSome then 0 else 3)/\B=dQ d (A4 x at_ s)::R):=by
 obtain⟨o,c⟩:∃o,rG x at_=o:=⟨_,rfl⟩
 refine vP func101 ntmps101 rfl rfl ?_;refine aG (aM (aa rfl (aU rfl) (aI (aA (aG (aG (aM (aa rfl (aV rfl) (aa rfl (aV rfl) (aF rfl (eg Y9 rfl (Lz W0 _ d x f at_)) ?_))))))))));rintro _ g ⟨rfl,a⟩;subst a;rw[c];refine aa rfl (aV rfl) (aa rfl (jT rfl rfl) (aa rfl (jT rfl rfl) (aa rfl (aU rfl) (aa rfl (aU rfl) (aI (aA (aG (aM (aa rfl (aV rfl) (aa rfl (nI rfl rfl) (aI (aA ?_))))))))))));refine aB rfl ?_ ?_;intro e;refine aG (aM (aa rfl (aV rfl) (aa rfl (aU rfl) (aI (aA (dX (jS (bP (.inl rfl) (.cons (bA rfl) .nil) ?_))))))));have i:o=none:=by
  cases o with
  |none=>rfl
  |some l=>exact absurd e n4
 subst i;rw[A4,c];simp only[Option.isSome_none,QaA,QcV];exact⟨_,⟨rfl,rfl⟩,IO⟩;intro e;refine fH (aA (aG ?_));obtain⟨l,rfl⟩:∃l,o=some l:=by
  cases o with
  |none=>exact absurd n4 e
  |some l=>exact⟨l,rfl⟩
 obtain⟨k,rfl,j⟩:=Hl c;refine aM (aa rfl (aV rfl) (aa rfl (aV rfl) (aa rfl (aV rfl) ?_)));refine aF rfl (gx call167 rfl (b0O s 16 aq)) ?_;rintro _ g ⟨h,rfl,a⟩;subst a;refine aF rfl (eg call166 rfl (Sy d x f k j h 0 16 (wz s 16) (Sz s 16) (eQ (b:=h)))) ?_;rintro _ g ⟨rfl,a⟩;subst a;refine aI (aA (aG (aM (aa rfl (aU rfl) (aI (aA (dX (bP (.inl rfl) (.cons (bA rfl) .nil) ?_))))))));rw[A4,c];simp only[Option.isSome_some,QbT,Qae];exact⟨_,⟨rfl,rfl⟩,IO⟩
section
variable{P:Program}{S:World->Prop}{W0:World}{N:FSz}{e:bK}{A R:List HP}{ty t t':TypeId}{x y:Operand}{b off:Nat}{l l' vs:List Value}
theorem b0R{E f C O D S m:Nat}{ay}(F:P.underlying t=some (.slice E))(G:∀w,(sizeOf E).run P w=.ok f w)(H:ev e x=some (.slice (some ⟨b,off,none⟩) C O))(I:ev e y=some (.slice ay D S))
    [h:Tk pt b A (ae l ty) R](J:Nat.min D C=m)(d:m=0\/∃i j,ay=some ⟨i,j,none⟩/\bF (aQ W0 A) i j vs)(T:vs.length=m*f)(U:gO vs=true)(V:off+m*f≤l.length)(L:ee l off vs=l'):
    dq P W0 N e A (.call { callee:=.builtin .copy,args:= #[x,y],argTypes:= #[t,t'] }) (λv B=>v=iQ m/\B=pt b (ae l' ty)::R):=by
 rcases d with rfl|⟨i,j,rfl,W⟩;have X:vs=[]:=QaF aq;subst X;have n:l=l':=L;subst n;intro a w o p q Y g K Q M Z k;have s:=Z.tk (r:=pt) (b:=b);have c:(execOp a.eval { dst:=o,op:=.call { callee:=.builtin .copy,args:= #[x,y],argTypes:= #[t,t'] },type:=p,pos:=q,after:=Y,guard:=g }).run P w=.ok (.value (iQ 0)) w:=by
  have u:(sizeOf E).run P w=.ok f w:=G w;cases ay<;>
  simp only[execOp,resolve,invoke,builtin,Sem.run_bind,Sem.run_pure,Result.andThen_ok,QbR,QaE,QbE,M.eval H,M.eval I,Builtin.copy_,Builtin.lenOf,Builtin.firstCells,eV F,J,Qbu,Qbk,Qbl,QbS,u,loadCells,loadCellsFrom,Nat.zero_mul,storeCells,goInt]<;>rfl
 unfold Oper.wp;rw[c];exact k _ w _ ⟨ρ,ρ⟩ s;exact xx F G H I J W T U V L
end
theorem SA(l:List Nat):(l.flatMap λx=>[wV x])=l.map wV:=by
 induction l with
 |nil=>rfl
 |cons x l a=>rw[QaT,a];rfl
@[reducible] def pJ(x:Nat):List Value:=[wV x]
theorem LA x:(pJ x).length=1:=Z
theorem LB(l:List Nat):l.flatMap pJ=l.map wV:=Ea wV l
def dm(ws:List Nat)(p:Nat):List Nat:=ws.take (16*p)
theorem Hm ws p:(dm ws p).length=min (16*p) ws.length:=by rw[dm,QaB]
theorem SB(a b:Nat):(if b<(a:Int)then(b:Int)else a)=(min a b):=by omega
theorem b0S{p:Nat}(h:p≤8):(if 8<(p:Int)then 8 else(p:Int))=p:=by rw[Qab aq]
theorem b0T(a:Nat):(if a>(0:Int)then(a:Int)else 0)=a:=by omega
theorem SD(a:Option Addr)(c p:Nat)(d:List Nat)(j:bZ (aQ W0 R) a 1 pJ d)(k:p≤8)(r:d.length<9223372036854775808):sP W0 104 [.slice a d.length c,iQ p] R (λv B=>∃g,v=.slice (some ⟨g,0,none⟩) (dm d p).length (dm d p).length/\B=pt g (ae ((dm d p).map wV) 62)::R):=by
 have s:=Hm d p;have e:=(j.take (16*p)).src LA (λ_=>trivial);rw[LB]at e;refine am func104 ntmps104 ?_;refine ac (uT Z Z (b0S k)) ?_;refine ac (xD Z Z (b0T p)) ?_;refine jU 3 (mu (16*p)) ?_;refine fA (λm:Nat=>m=(dm d p).length) (λm=>[(0,.slice a d.length c),(5,iQ m)]) (λ_=>R) ?_ ?_;refine au 8 (ap (λl=>?_) λl=>?_);exact cZ d.length aq;exact cZ (16*p) aq;intro m f;refine aw (dh (Bt (sz:=1) (by_:=4) (info:=Tryz.t62) uD ld Z Z Z Z cl Z Z Z Z aq cl) λg=>?_)
 refine aF Z (b0R uD aX Z Z (m:=m) (vs:=(dm d p).map wV) (Nat.min_eq_right aq) (by
       rcases e with h|⟨b,o,n,q⟩
       · left;rw[f,dm,h];rfl
       right;exact⟨b,o,n,q.weak⟩) (by rw[QaD,f];omega) (by simp[gO,wV,Value.oneCell']) (by rw[Qbz];omega) (by have:=Bi ((dm d p).map wV) (List.replicate (m*1) (.int .u32 0)) [] (by rw[QaD,Qbz,f];omega);simpa using this)) ?_
 rintro _ t ⟨rfl,i⟩;subst i;refine aw (ag ?_);subst f;exact⟨_,⟨g,Z,Z⟩,IO⟩
def oR(n i:Nat):Nat:=min n (i*16)
theorem SE ws i:(iz ws i).length=min ws.length (oR ws.length i+16)-oR ws.length i:=by rw[iz,QaB,QaL,oR];omega
theorem b0U(a:Option Addr)(c n i:Nat)(b:List Nat)(e:b.length=n)(g:n≤c)(h:i<8)(f:n≤1000):sQ W0 171 [.slice a n c,iQ i] R (.slice (jk a c (oR n i) 1) (iz b i).length (c-oR n i)) R:=by have d:=SE b i;rw[e]at d;have j:oR n i=min n (i*16):=Z;refine am func171 ntmps171 ?_;refine ac (mu (i*16)) ?_;refine ac (uT Z Z (SB n (i*16))) ?_;refine ac (eX (oR n i+16)) ?_;refine ac (uT Z Z (SB n (oR n i+16))) ?_;refine ac (Kj uD aX Z Z Z Z Z aq aq) ?_;refine ag ?_;rw[d];exact ax
theorem b0V{S:World->Prop}{c:Nat}{b:List Nat}(h:bZ S a 1 pJ b)(d:b.length≤c):bZ S (jk a c (oR b.length i) 1) 1 pJ (iz b i):=by
 have f:oR b.length i+(iz b i).length≤b.length:=by
  grind[SE,oR]
 have:=h.sub f d;have e:(b.drop (oR b.length i)).take (iz b i).length=iz b i:=by
  have g:oR b.length i=min b.length (i*16):=Z;rcases Qaz b.length (i*16)with q|q;grind[iz,List.drop_of_length_le];grind[oR,iz]
 rwa[e]at this
theorem b0W(pb ps:Nat)(po:Po)(h0:0<po.length):sQ W0 99 [pQ pb,iQ (-1),iQ 0] (cz pb (ps,po)::R) (iQ 1) (cz pb (ps,po)::R):=by
 have hi:jm po.length (-1)=false:=by simp[jm]
 refine am func99 ntmps99 ?_;refine ao (ar G0 (BX pb ps po h0)) ?_;refine ao (ar Y6 (La pb ps po (-1))) ?_;apply ap<;>intro c3;exact ag ax;exact absurd abg c3
theorem b0X(b:Nat)(a:List Pl)(h:Pgs a):sQ W0 176 [pQ b,iQ (-1)] (pt b (bM a)::R) (iQ 1) (pt b (bM a)::R):=by refine am XZ ntmps176 ?_;refine ao (ar Js (DZ b a h)) ?_;refine ao (aK Jr (E0 (-1))) ?_;apply ap<;>intro c;exact ag ax;exact absurd c cl
theorem b0Y(d b e:Nat)(x:Im)(h:ImOk x)(f:0<x.fr.length):sQ W0 261 [pQ d,pQ b,pQ e] (cz d (b,x.po)::aH b x.fr::pt e (bM x.pg)::R) (.bool true) (cz d (b,x.po)::aH b x.fr::pt e (bM x.pg)::R):=by have g:=h.len;refine am func261 ntmps261 ?_;refine ao (ar call99 (b0W d b x.po aq)) ?_;apply e9<;>intro a;refine ao (ar B7 (xL b x.fr)) ?_;apply so Z Z Z<;>intro c;refine au 2 (ao (ar OA (b0X e x.pg h.pg)) ?_);exact ag ax;omega;exact absurd cl a
theorem b0Z(a:Nat)(b:List Pl)(h:Pgs b)(n:Nat)(f:n≤8)(d:we b 0 n):sQ W0 262 [pQ a,iQ n] (pt a (bM b)::R) (.bool true) (pt a (bM b)::R):=by refine am func262 ntmps262 ?_;refine eC (λi:Nat=>i≤n) (λi=>[(0,pQ a),(8,iQ n),(9,iQ i)]) (λ_=>pt a (bM b)::R) (λi=>n-i) 0 ?_ ?_;omega;intro i g;refine aw (ap (λe=>?_) λe=>?_);refine ao (ar D6 (zM a b h i)) ?_;refine bU λj=>?_;refine aJ aR (ap (λc=>?_) λc=>?_);exact absurd c (by rw[d i (Qay _) aq];decide);exact ac cK (d8 (i+1) aq);exact ag ax
theorem b00(c b d a n:Nat)(x:Im)(h:ImOk x)(f:0<x.fr.length)(g:a<16)(q:1≤n)(i:n≤8)(j:we x.pg 0 n)(r:n≤(cG x.po a).length):sQ W0 168 [pQ c,pQ b,pQ d,iQ a,iQ n] (cz c (b,x.po)::aH b x.fr::pt d (bM x.pg)::R) (iQ 0) (cz c (b,x.po)::aH b x.fr::pt d (bM x.pg)::R):=by have k:=h.len;refine am func168 ntmps168 ?_;refine cW 4 (dF call261 (b0Y c b d x h f)) ?_;refine et (aB Z (λl=>?_) λl=>?_);omega;refine aw (aB Z (λm=>?_) λm=>?_);omega;refine aw (aB Z (λo=>?_) λo=>?_);omega;refine aw (aB Z (λp=>?_) λp=>?_);omega;refine aw (cW 4 (ar call262 (b0Z d x.pg h.pg n i j)) ?_);refine et (cW 5 (ar call263 (a9m c b x.po a aq g)) ?_);apply aB Z<;>intro e;omega;exact aw (ag ax)
theorem SF{f:Nat}(a:i<8)(b:f<32)(c:bG pg i=false):kx pg i (f,3)=0:=by grind[kx,oH,nO]
theorem b01(q r e o p g j d m c i f:Nat)(l:List Nat)(x:Im)(h:ImOk x)(a:List Nat)(H:c<16)(F:i<8)(w:cG x.po c=f::l)(I:bG x.pg (i:Nat)=false)(J:∀y∈a,y<4294967296)(O:a.length≤128):sQ W0 169 ([]++[iQ i]++[pQ q,pQ r,pQ e,pQ o,pQ p]) (pt q (ae [pQ j] 93)::pt r (ae [iQ c] 3)::pt e (ae [.slice (some ⟨g,0,none⟩) a.length a.length] 63)::pt o (ae [pQ d] 129)::pt p (ae [pQ m] 213)::pt g (ae (a.map wV) 62)::cz j (d,x.po)::aH d x.fr::pt m (bM x.pg)::R) (iQ 0) (pt q (ae [pQ j] 93)::pt r (ae [iQ c] 3)::pt e (ae [.slice (some ⟨g,0,none⟩) a.length a.length] 63)::pt o (ae [pQ d] 129)::pt p (ae [pQ m] 213)::pt g (ae (a.map wV) 62)::cz j (d,(lK c a x i).po)::aH d (lK c a x i).fr::pt m (bM (lK c a x i).pg)::R):=by
 have P:=nR.1 (show f∈cG x.po c by rw[w];simp);have K:=h.po.len;have A:lK c a x i=⟨nS f (iz a i) 0 x.fr,x.po.set f ((c:Int),true),gX x.pg i ((f:Int),3)⟩:=by rw[lK,w]
 rw[A];have s:∀y∈iz a i,y<4294967296:=λy v=>J y (QbC (Qbs v));have B:(iz a i).length≤16:=by grind[iz]
 simp only[Qar,Qau];refine am func169 ntmps169 ?_;refine cW 14 (ar call170 (Rr j d x.po c f l H h.po w)) ?_;refine et (cW 5 (aK call171 (b0U (some ⟨g,0,none⟩) a.length a.length i a Z (Qai _) F aq)) ?_);refine fI (λk:Nat=>k≤(iz a i).length) (λk=>[(0,iQ i),(4,pQ o),(5,pQ p),(8,iQ f),(23,.slice (jk (some ⟨g,0,none⟩) a.length (oR a.length i) 1) (iz a i).length (a.length-oR a.length i)),(24,iQ (iz a i).length),(25,iQ k)]) (λk=>pt q (ae [pQ j] 93)::pt r (ae [iQ c] 3)::pt e (ae [.slice (some ⟨g,0,none⟩) a.length a.length] 63)::pt o (ae [pQ d] 129)::pt p (ae [pQ m] 213)::pt g (ae (a.map wV) 62)::cz j (d,x.po.set f ((c:Int),true))::aH d (nS f ((iz a i).take k) 0 x.fr)::pt m (bM x.pg)::R) (λk=>(iz a i).length-k) 0 ?_ ?_ ?_ ?_;omega
 · exact eb
 rw[show nS f ((iz a i).take 0) 0 x.fr=x.fr from Z];exact IO;intro k Q;refine aw (ap (λL=>?_) λL=>?_);have n:k<(iz a i).length:=aq;have C:bZ (aQ W0 (pt q (ae [pQ j] 93)::pt r (ae [iQ c] 3)::pt e (ae [.slice (some ⟨g,0,none⟩) a.length a.length] 63)::pt o (ae [pQ d] 129)::pt p (ae [pQ m] 213)::pt g (ae (a.map wV) 62)::cz j (d,x.po.set f ((c:Int),true))::aH d (nS f ((iz a i).take k) 0 x.fr)::pt m (bM x.pg)::R)) (some ⟨g,0,none⟩) 1 pJ a:=uU (b:=g) LA (LB a).symm;obtain⟨S,T,D,G⟩:=(b0V (i:=i) C (Qai _)).at_ n;obtain⟨y,v⟩:∃y,(iz a i)[k]=y:=⟨_,Z⟩
 rw[v]at G;have t:=s _ (QaC n);rw[v]at t;have E:(iz a i).take (k+1)=(iz a i).take k++[y]:=by grind[Qap]
 obtain⟨M,N⟩:=zN (f:=f) (l:=(iz a i).take k) (k:=0) h.fr;have u:=QZ f y ((iz a i).take k) 0 x.fr;rw[<-E,QaB,Qbo aq,Qac]at u;refine ac (g7 uD aX Z D Z Z n dg) ?_;refine ac (aY (G 0 _ Z)) ?_;refine ac (mu (4*k)) ?_;refine ao (ar G1 (DW W0 _ d (nS f ((iz a i).take k) 0 x.fr) f (4*k:Nat) 4 y t M)) ?_;refine ac cK (d8 (k+1) ?_ (he:=?_));omega;rw[u];exact IO;obtain rfl:k=(iz a i).length:=aq;rw[QaJ (Qai _)];refine ao (ar Ya (KF m x.pg h.pg i ((f:Int),3))) ?_;refine ag ?_;rw[SF F aq I];exact ax
theorem SG(m j o b n:Nat)(x:Im)(h:ImOk x)(H:0<x.fr.length)(a:Option Addr)(c:Nat)(d:List Nat)(v:b<16)(I:1≤n)(D:n≤8)(E:we x.pg 0 8)(J:n≤(cG x.po b).length)(K:∀A,Ent A R->bZ (aQ W0 A) a 1 pJ d)(L:∀y∈d,y<4294967296)(M:d.length<9223372036854775808):sQ W0 105 [pQ m,pQ j,pQ o,iQ b,iQ n,.slice a d.length c] (cz m (j,x.po)::aH j x.fr::pt o (bM x.pg)::R) (iQ 0) (cz m (j,(dV b (dm d n) n x).po)::aH j (dV b (dm d n) n x).fr::pt o (bM (dV b (dm d n) n x).pg)::R):=by
 have F:=Hm d n;have w:∀y∈dm d n,y<4294967296:=λy N=>L y (Qbs N);have p:∀i,ImOk (dV b (dm d n) i x):=λi=>BM v h;have O:∀i,(dV b (dm d n) i x).fr.length=x.fr.length:=λi=>by
  induction i with
  |zero=>rfl
  |succ i G=>
   rw[dV,lK];split;rw[(zN (p i).fr).2];exact G;exact G
 refine am func105 ntmps105 ?_;refine dh (fQ rfl rfl) λr=>?_;refine dh (fQ rfl rfl) λs=>?_;refine dh (fQ rfl rfl) λt=>?_;refine dh (fQ rfl rfl) λu=>?_;refine cW 9 (dF call168 (b00 m j o b n x h H v I D (λi P U=>E i P aq) J)) ?_;refine et (aF rfl (aK call104 (SD a c n d (K _ inferInstance) D M)) ?_);rintro _ V ⟨g,rfl,B⟩;subst B;refine dh (pw c2y rfl) λk=>?_;refine aJ dr (fI (λi:Nat=>i≤n) (λi=>[(15,.func (.func 169) #[] #[pQ r,pQ u,pQ k,pQ s,pQ t]),(31,iQ n),(32,iQ i)]) (λi=>pt r (ae [pQ m] 93)::pt u (ae [iQ b] 3)::pt k (ae [.slice (some ⟨g,0,none⟩) (dm d n).length (dm d n).length] 63)::pt s (ae [pQ j] 129)::pt t (ae [pQ o] 213)::pt g (ae ((dm d n).map wV) 62)::cz m (j,(dV b (dm d n) i x).po)::aH j (dV b (dm d n) i x).fr::pt o (bM (dV b (dm d n) i x).pg)::R) (λi=>n-i) 0 ?_ ?_ ?_ ?_);omega
 · exact eb
 rw[show dV b (dm d n) 0 x=x from rfl];exact IO;intro i W;refine aw (ap (λQ=>?_) λQ=>?_);have S:i<n:=aq;have q:=GZ (who:=b) (words:=dm d n) (x:=x) i;have C:=(KQ (who:=b) (words:=dm d n) E h.pg.len i aq).1;obtain⟨f,l,T⟩:∃f l,cG (dV b (dm d n) i x).po b=f::l:=by
  cases e:cG (dV b (dm d n) i x).po b with
  |nil=>rw[e]at q;simp at q;omega
  |cons f l=>exact⟨f,l,rfl⟩
 refine cW 9 (iV (us:=[]) (cs:=[pQ r,pQ u,pQ k,pQ s,pQ t]) rfl call169 rfl (b01 r u k s t g m j o b i f l (dV b (dm d n) i x) (p i) (dm d n) v aq T (C i (Qai _) aq) w aq)) ?_;refine et (jU 3 cK ?_);exact d8 (i+1) aq;refine ag ?_;obtain rfl:i=n:=aq;exact ax
end
variable {x:Dk}{L:List ma}{s:QS}
section
def cC(c:Cfg)(i:Nat):Int×Int×Int:=c.gl.getD i (0,0,0)
def eT(c:Cfg):Nat->Int
 |0=>0
 |i+1=>eT c i+((cC c i).2.1+(cC c i).2.2)
theorem y3 c:∀i,kv c i=eT c i+c.nl.length
 |0=>by rw[kv,eT,Int.zero_add]
 |i+1=>by rw[kv,eT,y3 c i,cC];omega
def lL(c:Cfg)(f:Int):Option Nat:=r9 (λi=>decide (f<eT c (i+1))) c.gl.length
def dG(c:Cfg):Nat:=(kv c c.gl.length).toNat
def LC(b f:Int):Option Nat->Int×Int
 |some i=>(1,(i:Int))
 |none=>(2,f-b)
def vn(c:Cfg)(f:Int):Int×Int:=if rt c=true/\0≤f/\f<kv c c.gl.length then LC (eT c c.gl.length) f (lL c f)else(0,0)
structure CfR (c : Cfg) : Prop where
  g1 : 1 ≤ c.gl.length
  g4 : c.gl.length ≤ 4
  gs : ∀ i, i < c.gl.length → 1 ≤ (cC c i).2.1 ∧ (cC c i).2.1 ≤ 8 ∧ 0 ≤ (cC c i).2.2 ∧ (cC c i).2.2 ≤ 8 - (cC c i).2.1
  nn : c.nl.length ≤ 4
  nd : 1 ≤ kv c c.gl.length ∧ kv c c.gl.length ≤ 32
theorem wA{c}(h:∀i,i<c.gl.length->1≤(cC c i).2.1/\(cC c i).2.1≤8/\0≤(cC c i).2.2/\(cC c i).2.2≤8-(cC c i).2.1):∀i,i≤c.gl.length->i≤eT c i/\eT c i≤8*i
 |0,_=>by simp[eT]
 |i+1,a=>by
  have:=wA h i aq;have:=h i aq;rw[eT];omega
theorem b02(h:CfR c)(a:i<c.gl.length):eT c i<eT c (i+1):=by have:=h.gs i a;rw[eT];omega
theorem Hn{c}(h:CfR c){i j}(a:i≤j)(d:j≤c.gl.length):eT c i≤eT c j:=by
 induction j with
 | zero => obtain rfl : i = 0 := by omega
           exact Qan _
 |succ j b=>
  rcases Qaz i (j+1)with k|k;have:=b aq aq;have:=b02 h (i:=j) aq;omega;grind
theorem eI(h:rt c=true):CfR c:=by
 obtain⟨_,_,d,_,_,l,_,_,e⟩:=vZ h;obtain⟨f,g,j⟩:=Qp d;have k:c.nl.length≤4:=by
  grind[uY]
 have a:∀i,i<c.gl.length->1≤(cC c i).2.1/\(cC c i).2.1≤8/\0≤(cC c i).2.2/\(cC c i).2.2≤8-(cC c i).2.1:=λi b=>by
  have:=(j _ (QaC b)).2
  rwa[show cC c i=c.gl[i] by simp[cC,List.getD,b]]
 have:=wA a c.gl.length (Qai _);exact⟨f,g,a,k,by rw[y3];omega,e⟩
theorem Ew{c}(h:CfR c){f i}:(lL c f=some i↔i<c.gl.length/\f<eT c (i+1)/\(0<i->eT c i≤f)):=by rw[lL,r9,Qce];simp only[Qag];constructor;rintro⟨a,k,d,rfl,b⟩;rw[QcF]at a ⊢;simp only[List.length_range]at d;refine⟨d,a,λg=>?_⟩;have:=b (k-1) aq;simp only[QcF,Bool.not_eq_true',Qbc]at this;rw[show k-1+1=k by omega]at this;omega;rintro⟨a,b,e⟩;refine⟨b,i,by simpa using a,n4,λj l=>?_⟩;simp only[QcF,Bool.not_eq_true',Qbc];have:=Hn h (i:=j+1) (j:=i) aq aq;have:=e aq;omega
def A5:Option Nat->Int×Bool
 |some i=>((i:Int),false)
 |none=>(-1,false)
def iB(c:Cfg)(k:Nat):Po:=(List.range (dG c)).map λg=>if g<k then A5 (lL c g)else(-1,false)
theorem wC c k:(iB c k).length=dG c:=by simp[iB]
theorem Cd{f}(a:f<dG c):dw (iB c k) f=if f<k then A5 (lL c f)else(-1,false):=by grind[dw,iB]
theorem b03 c:iB c 0=List.replicate (dG c) (-1,false):=by apply QaV;simp[iB];grind[iB]
theorem b04(a:k<dG c)(h:lL c k=some i):iB c (k+1)=(iB c k).set k ((i:Int),false):=by apply QaV;simp[iB];intro j b d;rw[QcQ];simp only[iB,Qcg,QcF];by_cases e:k=j;grind[A5];grind
theorem b05(h:lL c k=none):iB c (k+1)=iB c k:=by apply QaV;simp[iB];grind[iB,Qcg,QcF,A5]
theorem LD(h:CfR c)k:PoOk (iB c k):=⟨by rw[wC,dG];have:=h.nd;omega,λf a=>by
 rw[wC]at a;rw[Cd a];split
 cases e:lL c f with
 |none=>simp[A5]
 |some i=>
  have:=((Ew h).1 e).1;have:=h.g4;simp only[A5];omega
 simp⟩
theorem SH:∀{l m:List Nat},l.Nodup->(∀x∈l,x∈m)->l.length≤m.length
 |[],_,_,_=>Qay _
 |x::l,m,a,h=>by
  rw[QbO]at a;have c:=h x n4;have:=SH (l:=l) (m:=m.erase x) a.2 λy d=>by
   have b:y≠x:=λe=>a.1 mv;rw[List.mem_erase_of_ne b];exact h y (Qaj _ d)
  rw[List.length_erase_of_mem c]at this;have:=List.length_pos_of_mem c;rw[QaK];omega
theorem LE{c}(h:CfR c){i}(e:i<c.gl.length):(cC c i).2.1+(cC c i).2.2≤((cG (iB c (dG c)) i).length):=by
 obtain⟨a,g⟩:∃a:Nat,eT c i=(a:Int):=⟨(eT c i).toNat,by have:=wA h.gs i aq;omega⟩
 have o:=h.gs i e;obtain⟨n,f⟩:∃n:Nat,(cC c i).2.1+(cC c i).2.2=(n:Int):=⟨((cC c i).2.1+(cC c i).2.2).toNat,aq⟩
 have p:eT c (i+1)=(a:Int)+n:=by rw[eT,g,f]
 have q:=Hn h (i:=i+1) (j:=c.gl.length) aq (Qai _);have k:=y3 c c.gl.length;have d:∀x∈List.range' a n,x∈cG (iB c (dG c)) i:=λx l=>by
  rw[List.mem_range'_1]at l;have b:x<dG c:=by rw[dG];omega
  rw[nR,wC,Cd b,Qad b,(Ew h (i:=i)).2 ⟨e,aq,λ_=>aq⟩];exact⟨b,Z⟩
 have m:(List.range' a n).Nodup:=List.nodup_range' ..;have:=SH m d;rw[List.length_range']at this;rw[f];omega
end
section
open Go.RowKit
structure CfK (W0 : World) (c : Cfg) : Prop where
  ok : CfOk W0 c
  gc : c.gl.length ≤ c.gc
theorem SI(h:CfR c):(∀g∈c.gl,1≤g.2.1/\g.2.1≤8/\0≤g.2.2/\g.2.2≤8-g.2.1):=λg b=>by
 obtain⟨i,a,rfl⟩:=Qby b;have:=h.gs i a
 rwa[show cC c i=c.gl[i] by simp[cC,List.getD,a]]at this
def y4(c:Cfg):Nat:=if rt c then dG c else 0
theorem b06 c:y4 c≤32:=by
 unfold y4;split
 rename_i h;have:=(eI h).nd;rw[dG];omega
 omega
theorem b07(c:Cfg)(h:CfOk W0 c):sQ W0 52 [.agg (dU c).toArray] R (iQ (y4 c:Nat)) R:=by
 refine am func52 ntmps52 ?_;refine bR λb1=>?_;refine ao (aK OG (GO c h)) ?_;apply ap<;>intro c1;refine ag ?_;have hr:rt c=false:=abe;rw[y4,hr];exact ax;have hr:rt c=true:=abe;have hR:=eI hr;refine ao (aK XV (Kk c h.g (SI hR) hR.nn hR.g4)) ?_;refine ag ?_;have hn:((y4 c:Nat):Int)=kv c c.gl.length:=by
  have:=hR.nd;rw[y4,Qad hr,dG];omega
 rw[hn];exact ax
theorem LF(c:Cfg)(h:CfK W0 c)(b:CfR c)(n:Nat)(t:n≤c.gl.length):sQ W0 160 [.agg (dU c).toArray,iQ n] R (iQ (eT c n)) R:=by
 have m:=h.gc;have p:=b.g4;refine am func160 ntmps160 ?_;refine bR λu=>?_;refine ac (qd xk uz Z Z (h:=n) Z aq) ?_;refine eC (λi:Nat=>i≤n) (λi=>[(5,iQ (eT c i)),(11,.slice c.ga n c.gc),(12,iQ n),(13,iQ i)]) (λ_=>R) (λi=>n-i) 0 ?_ ?_;omega;intro i v;refine aw (ap (λq=>?_) λq=>?_);have a:i<c.gl.length:=aq;have d:i<n:=aq;obtain⟨g,o,e,k⟩:=(h.ok.g R).at_ a;obtain⟨x,r⟩:∃x,c.gl[i]=x:=⟨_,Z⟩
 rw[r]at k;have l:cC c i=x:=by grind[cC]
 have f:=b.gs i a;rw[l]at f;have j:eT c (i+1)=eT c i+(x.2.1+x.2.2):=by rw[eT,l]
 have s:=wA b.gs i aq;refine ac (g7 xk uz Z e Z Z d dg) ?_;refine ac (cV k.weak) ?_;refine bU λw=>?_;refine eM (eN uz Z Z Z Z Z) ?_;rintro _ _ rfl;refine aI (aA (aM (aa Z (aV Z) ?_)));refine aa Z (bT Z uA Z bu Z dg) ?_;refine aa Z (bO cM Z (aO Z)) ?_;refine aa Z (bT Z uA Z bu Z dg) ?_;refine aa Z (bO cM Z (aO Z)) ?_;refine aa Z (dI Z Z (bS aq)) ?_;refine ac (dI Z Z (by rw[bS aq];exact j.symm:IntKind.wrap .i64 (eT c i+(x.2.1+x.2.2))=eT c (i+1))) ?_;exact ac cK (d8 (i+1) aq);refine ag ?_;obtain rfl:i=n:=aq;exact ax
theorem b08(a:i<c.gl.length)(h:f<eT c (i+1))(b:∀j,j<i->¬f<eT c (j+1)):lL c f=some i:=
  Q0 a (Qav h) λj d=>Qat (b j d)
theorem b09(a:∀j,j<c.gl.length->¬f<eT c (j+1)):lL c f=none:=Q1 λj b=>Qat (a j b)
@[reducible] def SJ(x:Int×Int):List Value:=[.int .i64 x.1,.int .i64 x.2]
theorem b1a(c:Cfg)(h:CfK W0 c)(f:Nat):sQ W0 98 [.agg (dU c).toArray,iQ f] R (.agg (SJ (vn c f)).toArray) R:=by
 obtain⟨w,l⟩:∃w,rt c=w:=⟨_,Z⟩
 have u:vn c f=if w=true/\0≤(f:Int)/\(f:Int)<kv c c.gl.length then LC (eT c c.gl.length) f (lL c f)else(0,0):=by rw[vn,l]
 rw[u];refine am func98 ntmps98 ?_;refine bR λr=>?_;refine bU λs=>?_;refine ao (aK OG (GO c h.ok)) ?_;rw[l];apply fC<;>intro d
 · refine aJ aR (bJ (.cons (bX Jx FH Z Z) .nil) ?_)
   rw[Qab aaf];exact ax
 apply fC<;>intro e
 · refine aJ aR (bJ (.cons (bX Jx FH Z Z) .nil) ?_)
   rw[Qab aaf];exact ax
 have b:w=true:=ro;have a:=eI (l.trans b);have m:=a.g4;have n:=a.nd;refine ao (aK XV (Kk c h.ok.g (SI a) a.nn a.g4)) ?_;apply ap<;>intro v
 · refine aJ aR (bJ (.cons (bX Jx FH Z Z) .nil) ?_)
   rw[Qab aaf];exact ax
 have b:w=true:=ro;have a:=eI (l.trans b);have m:=a.g4;have n:=a.nd;rw[Qad ⟨b,aq,by first|omega|(simp_all;omega)⟩];refine eC (λi:Nat=>i≤c.gl.length/\∀j,j<i->¬(f:Int)<eT c (j+1)) (λi=>[(1,iQ f),(2,pQ r),(4,pQ s),(22,iQ (c.gl.length:Nat)),(23,iQ i)]) (λ_=>pt r (kj c)::pt s (ae [iQ 0,iQ 0] 200)::R) (λi=>c.gl.length-i) 0 ?_ ?_;exact⟨Qay _,λj t=>absurd t (QbD _)⟩;intro i ⟨B,o⟩;refine aw (ap (λx=>?_) λx=>?_);have k:i<c.gl.length:=aq;refine ac (eX (i+1)) ?_;refine ao (aK Yb (LF c h a (i+1) k)) ?_;apply ap<;>intro p;refine aJ aR (bJ (.cons (bX Jx FH Z Z) .nil) ?_);rw[b08 k p o];exact ax;refine ac cK (d8 (i+1) ?_);refine⟨aq,λj t=>?_⟩;rcases Qaz j i with q|q;exact o j q;rw[show j=i by omega];exact p;obtain rfl:i=c.gl.length:=aq;rw[b09 o];have y:=wA a.gs c.gl.length (Qai _);have A:=y3 c c.gl.length;refine ao (aK Yb (LF c h a c.gl.length (Qai _))) ?_;exact ac jt (aJ aR (bJ (.cons (bX Jx FH Z Z) .nil) ax))
def jK(c:Cfg)(i:Int):Int:=if rt c=true/\0≤i/\i<c.nl.length then eT c c.gl.length+i else-1
theorem SK(c:Cfg)(h:CfK W0 c)(i:Int):sQ W0 175 [.agg (dU c).toArray,iQ i] R (iQ (jK c i)) R:=by
 obtain⟨w,f⟩:∃w,rt c=w:=⟨_,Z⟩
 have j:jK c i=if w=true/\0≤i/\i<c.nl.length then eT c c.gl.length+i else-1:=by rw[jK,f]
 rw[j];refine am func175 ntmps175 ?_;refine bR λo=>?_;refine ao (aK OG (GO c h.ok)) ?_;rw[f];apply fC<;>intro a;refine ag ?_;rw[Qab mv];exact ax;apply fC<;>intro b;refine ag ?_;rw[Qab mv];exact ax;apply ap<;>intro k;refine ag ?_;rw[Qab mv];exact ax;have d:w=true:=ro;have e:=eI (f.trans d);have l:=e.g4;have m:=e.nn;have g:i<c.nl.length:=aq;rw[Qad ⟨d,aq,g⟩];have n:=wA e.gs c.gl.length (Qai _);refine ao (aK Yb (LF c h e c.gl.length (Qai _))) ?_;exact ac cK (ag ax)
abbrev eJ(rl:List Nat)(pc:Nat):Obj:=ae (rl.map wV++[.bool true,wV pc]) 353
theorem b1b(h:rl.length=16):((rl.map wV++[Value.bool true,wV pc]).drop 0).take 16=rl.map wV:=by grind
theorem SL(h:rl.length=16):(rl.map wV++[Value.bool true,wV pc])[16]?=some (.bool true):=by grind
theorem b1c(h:rl.length=16):(rl.map wV++[Value.bool true,wV pc])[17]?=some (wV pc):=by grind
theorem b1d{q}(h:rl.length=16):(rl.map wV++[Value.bool true,wV pc]).set 17 (wV q)=rl.map wV++[.bool true,wV q]:=by simp_all
theorem b1e{x:Nat}(h:rl.length=16)(a:i<16):(rl.map wV++[Value.bool true,wV pc]).set (i*1) (wV x)=(rl.set i x).map wV++[.bool true,wV pc]:=by simp_all
theorem LG(a:List Nat):gO (a.map wV)=true:=by simp[gO,wV,Value.oneCell']
section
variable{P:Program}{S:World->Prop}{N:FSz}{e:bK}{t:TypeId}{l:List Value}{v:Value}
theorem b1f{E n i:Nat}{y}(h:P.underlying t=some (.array n E))(j:∀w,(sizeOf E).run P w=.ok 1 w)(k:∀w,(zeroValue t).run P w=.ok (.agg l.toArray) w)
    (m:ev e y=some v)(o:v.oneCell'=true)(u:i<l.length):cr P S N e (.build t #[(i,y)]) (.agg (l.set i v).toArray):=λa w _ _ _ _ _ p _=>by
 have q:Instr.build t ((#[(i,y)]:Array (Nat×Operand)).map λ(i,x)=>(i,a.eval x))=(do
     let zero:=(<-zeroValue t).cells
     match <-underlying t with
     | .struct c=>
       let d <-c.mapM xq
       let some b:=Instr.fill (d[·]?) zero ((#[(i,y)]:Array (Nat×Operand)).map λ(i,x)=>(i,a.eval x)).toList|stuck "build: no such field, or a part of the wrong size"
       pure (.agg b)
     | .array _ g=>
       let f <-sizeOf g
       let some b:=Instr.fill (λi=>some (i*f,f)) zero ((#[(i,y)]:Array (Nat×Operand)).map λ(i,x)=>(i,a.eval x)).toList|stuck "build: a part of the wrong size"
       pure (.agg b)
     |_=>stuck "build: struct or array type expected"):=Z
 have r:¬(i+1>l.length):=aq;have s:Instr.fill (λi=>some (i*1,1)) l.toArray [(i,a.eval y)]=some (l.set i v).toArray:=by
  simp only[Instr.fill,p.eval m,zd o,QaP];simp[r]
 simp only[execOp,q,Sem.run_bind,k,eV h,j,Result.andThen_ok,Value.cells,Sem.run_pure,Qco,QaE,QbE];rw[s];rfl
end
theorem b1g:sP W0 179 [] R (λv B=>∃b,v=pQ b/\B=pt b (eJ (List.replicate 16 0) 0)::R):=by refine am func179 ntmps179 ?_;refine ac (eH c1Z zeroValue353 (aT Xo (aT aX eG)) (iU Z Xo Z Z (Qaa Z) Z eE)) ?_;refine bR λa=>?_;exact ag ⟨_,⟨_,Z,Z⟩,ent_refl⟩
theorem SN(b:Nat)(a:List Nat)(c:Nat)(e:a.length=16):sQ W0 206 [pQ b] (pt b (eJ a c)::R) (.agg (a.map wV).toArray) (pt b (eJ a c)::R):=by refine am func206 ntmps206 ?_;refine dT (cP XO) λf=>?_;refine aw (aB Z (λd=>?_) λd=>?_);cases d;refine aw (aa Z (jg Yc yN Z (cT (b:=b) (b1b e) mv) mv) ?_);refine aJ (eN yN Z Z mv (LG a) Z) ?_;exact bJ (.cons (bX Yc yN Z mv) .nil) ax
theorem wD(b:Nat)(a:List Nat)(c:Nat)(e:a.length=16):sQ W0 130 [pQ b] (pt b (eJ a c)::R) (wV c) (pt b (eJ a c)::R):=by refine jj 12 func130 ntmps130 ?_;apply aB Z<;>intro d;cases d;refine aw (jU 4 (aY (aO (b1c e))) ?_);exact ag ax
theorem Ey(b:Nat)(c:List Nat)(e q:Nat)(d:c.length=16):sQ W0 132 [pQ b,wV q] (pt b (eJ c e)::R) (iQ 0) (pt b (eJ c q)::R):=by refine am func132 ntmps132 ?_;apply d7 Z Z Z<;>intro a;cases a;refine aw (jU 5 (aY (aO (SL d))) ?_);refine et (fw 8 (fg mv (b1d d)) ?_);exact ag ax
def pK(i:Int):Bool:=decide (0≤i/\i<16)
theorem Ho(b:Nat)(a:List Nat)(c:Nat)(d:a.length=16)(i:Int):sQ W0 249 [pQ b,iQ i] (pt b (eJ a c)::R) (iQ (if pK i then 0 else 1)) (pt b (eJ a c)::R):=by refine am func249 ntmps249 ?_;refine jU 4 (aY (aO (SL d))) ?_;refine et (aB Z (λe=>?_) λe=>?_);refine fH (aA (JZ Z (aG (aM (aa Z (aU Z) (aI (aA (dX (pr (jS (ag ?_)))))))))));rw[Qab (by grind[pK])];exact ax;refine aw (ap (λf=>?_) λf=>?_);refine ag ?_;rw[Qab (by grind[pK])];exact ax;refine ag ?_;rw[Qad (by grind[pK])];exact ax
theorem b1h(b:Nat)(a:List Nat)(c i x:Nat)(f:a.length=16)(d:i<16)(g:i≠0):sQ W0 250 [pQ b,iQ i,wV x] (pt b (eJ a c)::R) (.tuple #[]) (pt b (eJ (a.set i x) c)::R):=by refine am func250 ntmps250 ?_;apply aB Z<;>intro e;refine au 6 (ac (iy d) ?_);refine aJ (fg mv (b1e f d)) ?_;refine bP (.inr Z) .nil ?_;exact ax;simp at e;omega
theorem LH W0 R b rl(c i x:Nat)(d:rl.length=16)(g:i<16)(h:i≠0):sQ W0 149 [pQ b,iQ i,wV x] (pt b (eJ rl c)::R) (iQ 0) (pt b (eJ (rl.set i x) c)::R):=by
 have a:pK i=true:=by grind[pK]
 refine jj 12 Yd ntmps149 ?_;apply aB Z<;>intro e;cases e;refine aw (cW 10 (ar OH (Ho b rl c d i)) ?_);apply ap<;>intro f;refine ao (ar call250 (b1h b rl c i x d g h)) ?_;refine ag ?_;rw[a];exact ax;exact absurd (by rw[a];rfl) f
abbrev SO(id:Nat):Obj:=ae ([wV 0,wV 0,wV 0,wV 0,wV 0,wV 4,wV 0]++[.int .i64 id,.bool true]) 356
theorem b1i:sQ W0 271 [] R (.agg #[wV 0,wV 0,wV 0,wV 0,wV 0,wV 4,wV 0]) R:=by refine am func271 ntmps271 ?_;refine bU λa=>?_;refine ac (b1f se aX XP Z Z cl) ?_;exact aJ aR (bJ (.cons (bX Ye CY Z Z) .nil) ax)
theorem b1j(i:Nat)(d:i<4):sP W0 177 [iQ i] R (λv B=>∃b,v=.tuple #[pQ b,iQ 0]/\B=pt b (SO i)::R):=by refine am func177 ntmps177 ?_;apply d7 Z Z Z<;>intro a;omega;refine aw (aB Z (λc=>?_) λc=>?_);omega;refine aw (ao (aK call271 (b1i)) ?_);refine ac (eH c16 zeroValue356 (aT CY (aT bu (aT l6 eG))) (iU Z CY Z Z (Qaa Z) SetRL.eq (cJ Z bu Z Z (Qaa Z) SetL.eq (cJ Z l6 Z Z (Qaa Z) SetL.eq eE)))) ?_;refine bR λe=>?_;exact aZ ⟨_,⟨_,Z,Z⟩,ent_refl⟩
abbrev A6:Obj:=ae ([.bool false,.bool false,.int .i64 0,.int .i64 0,.bool false,.bool false,.int .i64 0,.int .i64 0,.bool false,.bool false,.int .i64 0,.int .i64 0,.bool false,.bool false,.int .i64 0,.int .i64 0,.bool false,.bool false,.int .i64 0,.int .i64 0,.bool false,.bool false,.int .i64 0,.int .i64 0,.bool false,.bool false,.int .i64 0,.int .i64 0,.bool false,.bool false,.int .i64 0,.int .i64 0,.slice none 0 0,.int .i64 0,.bool false].set 34 (.bool true)) 324
theorem b1k:sP W0 180 [] R (λv B=>∃b,v=pQ b/\B=pt b A6::R):=by refine am func180 ntmps180 ?_;refine bR λa=>?_;exact ag ⟨_,⟨_,Z,Z⟩,ent_refl⟩
abbrev A7:Obj:=ae [iA,.bool false,.bool false,.bool false,.bool false,.int .i64 0,.bool true] 340
theorem b1l:sP W0 181 [] R (λv B=>∃b,v=pQ b/\B=pt b A7::R):=by refine am func181 ntmps181 ?_;refine bR λa=>?_;exact ag ⟨_,⟨_,Z,Z⟩,ent_refl⟩
abbrev wE:Obj:=ae [iA,.bool true] 314
theorem b1m:sP W0 109 [] R (λv B=>∃b,v=pQ b/\B=pt b wE::R):=by refine am func109 ntmps109 ?_;refine bR λa=>?_;exact ag ⟨_,⟨_,Z,Z⟩,ent_refl⟩
structure Evt where
  k : Int
  clock : Int
  code : Nat
  val : Nat
  pc : Nat
  rl : List Nat
@[reducible] def ud(e:Evt):List Value:=[.int .i64 e.k,.int .i64 e.clock,wV e.code,wV e.val,wV e.pc]++(List.range 16).map λi=>wV (e.rl.getD i 0)
theorem b1n e:(ud e).length=21:=by simp[ud]
theorem b1o{e}(h:e.rl.length=16):ud e=[iQ e.k,iQ e.clock,wV e.code,wV e.val,wV e.pc]++e.rl.map wV:=by unfold ud;congr 1;apply QaV;simp[h];grind
def ie(b:Nat)(es:List Evt):HP:=chk (λC=>∃a c,C=[pt b (ae [.slice a es.length c,.bool true] 277),osl 275 21 (.slice a es.length c) (es.flatMap ud)])
section
variable{W0:World}{N:FSz}{K:Act->World->Prop}{e:bK}{A B R R1 R2:List HP}{b n:Nat}{es:List Evt}{f:FuncId}
theorem LJ[hk:Tk ie b A es R](h:∀a c,aC W0 N K e (pt b (ae [.slice a es.length c,.bool true] 277)::osl 275 21 (.slice a es.length c) (es.flatMap ud)::R)):aC W0 N K e A:=
  ix (r:=ie) (b:=b) (oz λC hC=>qr)
theorem Hq{c:Nat}{d:List Value}[e:Tk pt b A (ae [.slice a n c,.bool true] 277) R1][f:Tk (osl 275 21) (.slice a n c) R1 d R2](g:n=es.length)(h:d=es.flatMap ud)[k:Ent R2 B]:Ent A (ie b es::B):=by subst g;subst h;exact(Ent.ofPerm (e.perm.trans (f.perm.cons _))).trans ((Ent.cons (Ent.cons k)).trans (fT (R:=B) (C:=[_,_]) ⟨a,c,Z⟩))
end
theorem b1p:sP W0 110 [] R (λv B=>∃b,v=pQ b/\B=ie b []::R):=by refine am func110 ntmps110 ?_;refine bR λa=>?_;exact ag ⟨_,⟨_,Z,Z⟩,(Ent.cons (eW (E:=275) (sz:=21) (A:=R) (B:=R))).trans (fT (R:=R) (C:=[_,_]) ⟨none,0,Z⟩)⟩
theorem SP(b:Nat)(e:List Evt):sQ W0 157 [pQ b] (ie b e::R) (.bool false) (ie b e::R):=by refine am func157 ntmps157 ?_;refine LJ (b:=b) λa c=>?_;refine aw (d7 Z Z Z (λd=>?_) λd=>?_);cases d;exact aw (ag ⟨_,⟨Z,Z⟩,Hq Z Z⟩)
theorem b1q W0 R b es x(m:es.length<4096):sQ W0 205 [pQ b,.agg (ud x).toArray] (ie b es::R) (iQ 0) (ie b (es++[x])::R):=by have g:es.flatMap ud++[ud x].flatten=(es++[x]).flatMap ud:=n4;refine am func205 ntmps205 ?_;refine dT (l8 Z) λi=>?_;refine aa Z (aU Z) (aI (aA (aG (jR (aG (aM (aa Z (aV Z) (aF Z (eg call157 Z (SP b es)) ?_))))))));rintro _ n ⟨rfl,e⟩;subst e;refine aa Z (aU Z) (aI (aA ?_));apply aB Z<;>intro h;exact absurd h cl;refine aG (LJ (b:=b) λa c=>?_);refine aM (aa Z (aV Z) (aa Z (fJ Z) ?_));refine aa Z (bT Z c1S Z sizeOf56 Z dg) ?_;refine aa Z (bO isAgg56 Z (aO Z)) ?_;refine aa Z (Dl FT Z) (aa Z (z8 Z Z) (aa Z (aU Z) (aI (aA ?_))));apply aB Z<;>intro f;omega;refine fH (lY (aA (aG ?_)));refine bH [i] 11 λd=>?_;refine aj 0 4 d ?_;refine aE 5 d (jg isAgg275 Yf Z (i6 (k:=0) Z) (b1n x)) ?_;refine fp (is:=[4,6]) ld Z ⟨?_,?_,trivial⟩;refine dB (dJ (aY (aO Z))) ?_;clear d;rintro _ _ ⟨rfl,rfl⟩;refine⟨aW,λd=>?_⟩;refine iw 6 ld Z Z (ji FT Yf Yg Z (fK Z Z iH) Z cl cl cl) Z ?_;clear d;rintro _ _ ⟨j,rfl,rfl⟩;refine⟨aW,λd=>?_⟩;refine co 7 (fR (sz:=21) (by_:=96) (info:=Tryz.t275) FT ld Z Z Z Z cl Z Z eQ Z Z n5 aq) ?_;clear d;rintro _ _ ⟨l,f,rfl,rfl⟩;refine⟨aW,λd=>?_⟩;refine aj 8 2 d ?_;refine cp 10 dr λd=>?_;refine eY (aA (aG (aM (aa Z (aU Z) (aI (aA (dX (ag ?_))))))));exact⟨_,⟨Z,Z⟩,Hq (es:=es++[x]) n4 g⟩;skip;refine lH Z Z (ji FT Yf Yg Z (fK Z Z iH) Z cl cl cl) Z ?_;clear d;rintro _ _ ⟨j,rfl,rfl⟩;refine⟨aW,λd=>?_⟩;refine bQ 4 (dJ (aY (aO Z))) λd=>?_;refine co 7 (fR (sz:=21) (by_:=96) (info:=Tryz.t275) FT ld Z Z Z Z cl Z Z eQ Z Z n5 aq) ?_;clear d;rintro _ _ ⟨l,f,rfl,rfl⟩;refine⟨aW,λd=>?_⟩;refine aj 8 2 d ?_;refine cp 10 dr λd=>?_;exact aS (ag ⟨_,⟨Z,Z⟩,Hq (es:=es++[x]) n4 g⟩)
abbrev Ez(cats who quota:Int):Obj:=ae [iA,.int .i64 0,.int .i64 0,.int .i64 0,.int .i64 cats,.int .i64 who,.int .i64 quota,.bool true] 190
theorem b1r(c d a:Int)(k:0≤c/\c≤8)(l: -1≤d/\d<4)(m:0≤a/\a≤64):sP W0 56 [iQ c,iQ d,iQ a] R (λv B=>∃b,v=.tuple #[pQ b,iQ 0]/\B=pt b (Ez c d a)::R):=by refine am func56 ntmps56 ?_;apply aB Z<;>intro e;omega;refine aw (aB Z (λf=>?_) λf=>?_);omega;refine aw (aB Z (λg=>?_) λg=>?_);omega;refine aw (aB Z (λh=>?_) λh=>?_);omega;refine aw (aB Z (λi=>?_) λi=>?_);omega;refine aw (aB Z (λj=>?_) λj=>?_);omega;refine aw ?_;refine bR λn=>?_;exact aZ ⟨_,⟨_,Z,Z⟩,ent_refl⟩
end
section
structure It where
  kr : Int
  kp : Int
  ep : Int
  ef : Int
  er : Int
  u : Int
variable {l:List It}
deriving DecidableEq
instance:Inhabited It:=⟨⟨0,0,0,0,0,0⟩⟩
def It.key(x:It):Int×Int:=(x.kr,x.kp)
def It.ent(x:It):Int×Int×Int:=(x.ep,x.ef,x.er)
def cq(x:It):List Value:=[.int .i64 x.kr,.int .i64 x.kp,.int .i64 x.ep,.int .i64 x.ef,.int .i64 x.er,.int .i64 x.u]
theorem km x:(cq x).length=6:=Z
def us(l:List It)(i:Nat):Int:=(l.getD i default).u
theorem us_eq h:us l i=l[i].u:=by simp[us,List.getD,h]
def swapL(l:List It)(i j:Nat):List It:=(l.set i (l.getD j default)).set j (l.getD i default)
theorem E2 l i j:(swapL l i j).length=l.length:=by simp[swapL]
theorem wd(a:i<l.length)(b:j<l.length)x:(swapL l i j).getD x default=if x=i then l.getD j default else if x=j then l.getD i default else l.getD x default:=by grind[swapL]
theorem mD(a:i<l.length)(b:j<l.length)x:us (swapL l i j) x=if x=i then us l j else if x=j then us l i else us l x:=by grind[us,wd]
theorem KG{α:Type}:∀(l:List α) (i j:Nat) (a:i<l.length) (b:j<l.length),((l.set i l[j]).set j l[i]).Perm l:=by grind[List.set_set_perm]
theorem nQ(a:i<l.length)(b:j<l.length):(swapL l i j).Perm l:=by grind[KG,swapL]
def Heap(l:List It)(n:Nat):Prop:=∀c,c<n->0<c->us l ((c-1)/2)≤us l c
def lm(l:List It)(i n:Nat):Prop:=∀c,c<n->0<c->(c≠i->(c-1)/2≠i->us l ((c-1)/2)≤us l c)/\((c-1)/2=i->0<i->us l ((i-1)/2)≤us l c)
def Up(l:List It)(j n:Nat):Prop:=∀c,c<n->0<c->(c≠j->us l ((c-1)/2)≤us l c)/\((c-1)/2=j->0<j->us l ((j-1)/2)≤us l c)
theorem KH{l i j n}(h:lm l i n)(t:n≤l.length)(p:j<n)(g:(j-1)/2=i)(q:0<j)(r:us l j<us l i)
    (k:∀c,c<n->0<c->(c-1)/2=i->us l j≤us l c):lm (swapL l i j) j n/\us (swapL l i j) ((j-1)/2)≤us (swapL l i j) j:=by have s:i<j:=aq;have d:=mD (l:=l) (i:=i) (j:=j) aq aq;refine⟨λc a b=>⟨λe m=>?_,λe m=>?_⟩,?_⟩;rw[d,d];by_cases f:c=i;subst f;have:=(h j p q).2 g aq;rw[Qab aq,Qab aq,Qad Z];exact this;by_cases o:(c-1)/2=i;grind;rw[Qab o,Qab m,Qab f,Qab e];exact(h c a b).1 f o;rw[g,d,d,Qad Z,Qab aq,Qab aq];rw[<-e];exact(h c a b).1 aq aq;grind
theorem E4(h:lm l i n)(a:∀c,c<n->0<c->(c-1)/2=i->us l i≤us l c)(g:0<i->us l ((i-1)/2)≤us l i):Heap l n:=λc b d=>by
 by_cases e:(c-1)/2=i;grind;by_cases f:c=i;grind;exact(h c b d).1 f e
theorem GY(h:lm l i n)(a:∀c,c<n->0<c->(c-1)/2=i->us l i≤us l c):Up l i n:=λc b d=>⟨λe=>by
 by_cases f:(c-1)/2=i;grind
 exact(h c b d).1 e f,(h c b d).2⟩
theorem KI{l j n}(h:Up l j n)(q:n≤l.length)(r:j<n)(m:0<j)(o:us l j<us l ((j-1)/2)):Up (swapL l ((j-1)/2) j) ((j-1)/2) n:=by have d:=mD (l:=l) (i:=(j-1)/2) (j:=j) aq aq;intro c e a;refine⟨λf=>?_,λf p=>?_⟩;rw[d,d];by_cases b:c=j;omega;by_cases g:(c-1)/2=(j-1)/2;rw[Qad g,Qab aq,Qab b];have:=(h c e a).1 b;rw[g]at this;omega;by_cases k:(c-1)/2=j;rw[Qab g,Qad k,Qab f,Qab b];exact(h c e a).2 k m;rw[Qab g,Qab k,Qab f,Qab b];exact(h c e a).1 b;rw[d,d,Qab aq,Qab aq];have s:=(h ((j-1)/2) aq p).1 aq;by_cases b:c=j;omega;rw[Qab aq,Qab b];have:=(h c e a).1 b;rw[f]at this;omega
theorem E5(h:Up l j n)(d:0<j->us l ((j-1)/2)≤us l j):Heap l n:=λc a b=>by
 by_cases e:c=j;grind;exact(h c a b).1 e
theorem heap_min{l n}(h:Heap l n):∀c,c<n->us l 0≤us l c:=by
 intro c
 induction c using Nat.strongRecOn with
 |_ c a=>
  intro b;by_cases d:c=0;grind;have:=h c b aq;have:=a ((c-1)/2) aq aq;omega
theorem KJ{l i x n}(h:Heap l n)(j:i<l.length):lm (l.set i x) i n:=λc d f=>by
 have e:∀y,y≠i->us (l.set i x) y=us l y:=λy k=>by
  unfold us;simp only[Qao];rw[Qbb aq]
 refine⟨λa b=>?_,λa b=>?_⟩;rw[e _ a,e _ b];exact h c d f;rw[e _ aq,e _ aq];have g:=h c d f;have m:=h i aq b;rw[a]at g;omega
theorem E6{a:List It}(h:∀i,i<n->l.getD i default=a.getD i default)(b:i<n):us l i=us a i:=by unfold us;rw[h i b]
theorem KL{l l' n}(h:∀i,i<n->l.getD i default=l'.getD i default)(k:Heap l n):Heap l' n:=λc a b=>by
 rw[<-E6 h a, <-E6 h (i:=(c-1)/2) aq];exact k c a b
theorem KM{l n m}(h:Heap l n)(k:m≤n):Heap l m:=λc b a=>h c aq a
structure Down (its l : List It) (i0 n : Nat) (moved : Bool) : Prop where
  perm : l.Perm its
  tail : ∀ x, n ≤ x → l.getD x default = its.getD x default
  no : moved = false → l = its ∧ ∀ c, c < n → 0 < c → (c - 1) / 2 = i0 → us its i0 ≤ us its c
  yes : moved = true → Heap l n
theorem E7{l its i i0 n}(b:l.Perm its)(j:i0≤i)(d:lm l i n)(e:∀x,n≤x->l.getD x default=its.getD x default)(f:i=i0->l=its)
    (g:i0<i->us l ((i-1)/2)≤us l i)(a:∀c,c<n->0<c->(c-1)/2=i->us l i≤us l c):Down its l i0 n (decide (i0<i)):=
  ⟨b,e,λh=>by
 have:i=i0:=mv;subst this;obtain rfl:=f Z;exact⟨Z,a⟩,λh=>by
 have:i0<i:=aaa
 exact E4 d a λ_=>g this⟩
end
variable {l:List It}
end Go.Proofs.YtjaalpinjajaoaaGreatDoor
