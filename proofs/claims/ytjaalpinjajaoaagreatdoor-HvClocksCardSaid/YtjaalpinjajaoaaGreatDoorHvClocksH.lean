/-
  Part 8 of the proof of HvClocks: rules, and walks of functions. Conditions: none.
-/
import Derived.Test.YtjaalpinjajaoaaGreatDoorHvClocksG
namespace Go.Proofs.YtjaalpinjajaoaaGreatDoor
open Go.Proofs.Tryz
set_option linter.unusedSimpArgs false
set_option linter.unusedVariables false
set_option maxRecDepth 20000
set_option linter.defProp false
set_option synthInstance.maxSize 8192
set_option synthInstance.maxHeartbeats 2000000
variable{W0:World}{R:List HP}
variable {c:Cfg}{r:List (String×DataW Unit)}{R:List HP}{l:List It6}{p ps:List MemPlace}{gbs ws:List Nat}{cs:List Value}{L:Ls}{M:Mw}{fuel g i k n wg:Nat}{a:Option Addr}{s:Scr}{W:World}
section
open Go.RowKit
abbrev Fx(x:It6)(k:Nat):It6:={ x with p:=k %1000,hp:=Qbq _ (by decide) }
theorem b9S{l:List It6}{k}hk:rZ (l.take (k+1))=rZ (l.take k)++[Fx l[k] k]:=by have e:l.take (k+1)=l.take k++[l[k]]:=Qap hk;unfold rZ;rw[e,List.zipIdx_append,QaN,QaB,Qbo aq,Qac];rfl
theorem Nx hk i:ou (l.take (k+1)) i=if l[k].g=i/\uw l[k].k=true then ou (l.take k) i++[Fx l[k] k]else ou (l.take k) i:=by
 unfold ou;rw[b9S hk,QbQ];split
 rename_i h
 rw[List.filter_cons_of_pos (by show(l[k].g==(i:Int)&&uw l[k].k)=true;rw[h.2,Bool.and_true,Qbv];exact h.1)];rfl
 rename_i h
 rw[QcA (by show ¬(l[k].g==(i:Int)&&uw l[k].k)=true;rw[Qam,Qbv];exact h),List.filter_nil,Qaq]
def kZ(n:Nat)(l:List It6):List (List It6):=[0,1,2,3].map λi=>if i<n then ou l i else[]
theorem Fy:(kZ n l).length=4:=Z
theorem AP{n l i}(a:i<4):(kZ n l).getD i []=if i<n then ou l i else[]:=by have:i=0\/i=1\/i=2\/i=3:=aq;exact s0
theorem WB{I J:List (List It6)}(a:I.length=4)(b:J.length=4)(h:∀i,i<4->I.getD i []=J.getD i []):I=J:=by refine QaV (a.trans b.symm) λi c d=>?_;have:=h i aq;simpa[List.getD,c,d]using this
theorem b9T(b:k<l.length)(h:n≤4)(c:g<n)(d:l[k].g=(g:Int))(f:uw l[k].k=true):kZ n (l.take (k+1))=(kZ n (l.take k)).set g (ou (l.take k) g++[Fx l[k] k]):=by refine WB Z (by rw[Qal];rfl) λi a=>?_;by_cases e:i=g;subst e;rw[ML (by rw[Fy];exact a),AP a,Qad c,Nx b,Qad ⟨d,f⟩];rw[Ar e,AP a,AP a];split;rw[Nx b,Qab (by rintro⟨q,_⟩;omega)];rfl
theorem Ny{n:Nat}{l:List It6}{k}(b:k<l.length)(d:n≤4)(h:¬(0≤l[k].g/\l[k].g<n/\uw l[k].k=true)):kZ n (l.take (k+1))=kZ n (l.take k):=by
 refine WB Z Z λi a=>?_;rw[AP a,AP a];split
 rename_i q
 rw[Nx b,Qab (by rintro⟨e,c⟩;exact h ⟨aq,aq,c⟩)];rfl
theorem Nz:kZ n []=[[],[],[],[]]:=by
 have e:∀i,(if i<n then ou [] i else[])=([]:List It6):=λi=>by split<;>rfl
 show[if 0<n then ou [] 0 else[],if 1<n then ou [] 1 else[],if 2<n then ou [] 2 else[],if 3<n then ou [] 3 else[]]=_;rw[e,e,e,e]
theorem WC{n l}(h:l.length≤256)(hs:∀x∈l,x.s.size<9223372036854775808)i:nu ((kZ n l).getD i [])/\((kZ n l).getD i []).length≤256/\∀x∈(kZ n l).getD i [],(0≤x.k/\x.k≤2)/\x.s.size<9223372036854775808:=by
 have hE:nu ([]:List It6)/\([]:List It6).length≤256/\∀x∈([]:List It6),(0≤x.k/\x.k≤2)/\x.s.size<9223372036854775808:=⟨⟨QcY,λx hx=>aa2⟩,Qay _,λx hx=>aa2⟩
 rcases Qaz i 4 with q|q;rw[AP q];split;exact b9D h hs i;exact hE;rw[show(kZ n l).getD i []=[] by rw[Qao,QaU (by rw[Fy];exact q)];rfl];exact hE
def IV(x:Inp):It6:=⟨x.at_,x.g,x.k,x.code,x.d,0,by decide⟩
abbrev mq(s:Scr):List It6:=s.nl.map IV
def pT(s:Scr)(i:Nat):Img:=s.il.getD i ⟨none,0,[]⟩
def s8(s:Scr)(i:Nat):List Nat:=(pT s i).l
abbrev NA(s:Scr)(i:Nat):List Nat:=dm (s8 s i) 8
abbrev lV(c:Cfg)(s:Scr):Mw:=⟨c,(List.range c.gl.length).map (NA s)⟩
theorem WE(a:i<c.gl.length):(lV c s).w i=NA s i:=by simp[Mw.w,List.getD,a]
theorem b9U{ws n}(h:n≤8):dm (dm ws 8) n=dm ws n:=by unfold dm;rw[List.take_take,Qbo aq]
theorem b9V{c i}(a:rt c=true)(b:i<c.gl.length){ws fr po}:jy c i (dm ws 8) fr po=jy c i ws fr po:=by
 have:=(eI a).gs i b;have e:laid c i (dm ws 8) fr po=laid c i ws fr po:=by
  unfold laid;rw[b9U aq]
 unfold jy;rw[e]
def qM(x:Dk)(l:List Sec):Dk:=l.foldl (λx s=>A4 x s.at_ s.d) x
theorem NB:∀(l:List Sec) {x:Dk},DkOk x->DkOk (qM x l)
 |[],_,h=>h
 |s::l,_,h=>NB l (b0P h s.at_ s.d)
theorem b9W{x:Dk}{l:List Sec}(a:k<l.length):qM x (l.take (k+1))=A4 (qM x (l.take k)) l[k].at_ l[k].d:=by unfold qM;rw[Qap a,Qcw];rfl
end
section
open Go.RowKit
set_option synthInstance.maxSize 1000
set_option synthInstance.maxHeartbeats 400000
def qN(b:Nat)(l:List (Int×Int)):HP:=chk (λC=>∃a c,C=[pt b (qK a l.length c l l.length),osl 114 2 (.slice a l.length c) (l.flatMap fZ)])
section
variable{W0:World}{N:FSz}{K:Act->World->Prop}{e:bK}{A B R R1 R2:List HP}{b n:Nat}{l:List (Int×Int)}
theorem b9X[hk:Tk qN b A l R](h:∀a c,aC W0 N K e (pt b (qK a l.length c l l.length)::osl 114 2 (.slice a l.length c) (l.flatMap fZ)::R)):aC W0 N K e A:=
  ix (r:=qN) (b:=b) (oz λC hC=>qr)
theorem WG{c:Nat}{d:List Value}[e:Tk pt b A (qK a n c l n) R1][f:Tk (osl 114 2) (.slice a n c) R1 d R2](g:n=l.length)(h:d=l.flatMap fZ)[k:Ent R2 B]:Ent A (qN b l::B):=by subst g;subst h;exact z1
end
@[reducible] def tj(t:Tn):List Value:=[.int .i64 t.g,.int .i64 t.s,.int .i64 t.o,.int .i64 t.f]
theorem NC{a n c l i}(b:l.length≤8)(h:i<l.length):(AE a n c l l.length)[1+i*1]?=some (iQ (fN l (i+1))):=by have:i=0\/i=1\/i=2\/i=3\/i=4\/i=5\/i=6\/i=7:=aq;rcases this with rfl|rfl|rfl|rfl|rfl|rfl|rfl|rfl<;>simp[AE,Ng,QcI,h]
section
variable(W0:World)(R:List HP)(tb c:Nat)(a:Option Addr)(l:List (Int×Int))(h1:1≤l.length)(h8:l.length≤8)(hl:∀i,i<l.length->lU (l.getD i (0,0))=true)
include h1
theorem WH:sQ W0 64 [pV tb] (pt tb (qK a l.length c l l.length)::R) (.bool false) (pt tb (qK a l.length c l l.length)::R):=by refine am func64 ntmps64 ?_;apply d7 Z Z Z<;>intro b;cases b;refine aw (ag ?_);exact aP (Qak Value.bool (Qat aq))
include h8 hl
theorem b9Y:bE Tryz.prog W0 65 [pV tb] (pt tb (qK a l.length c l l.length)::R) (λv B=>v=.int .i64 (fk l)/\B=pt tb (qK a l.length c l l.length)::R):=by obtain⟨p1,p2,p3⟩:=CL h1 hl;refine vP func65 ntmps65 Z Z ?_;refine aG (aM (aa Z (aU Z) (aI (aA (aG (aG (aM (aa Z (aV Z) (aF Z (eg call64 Z (WH W0 _ tb c a l h1)) ?_)))))))));rintro _ B_ ⟨rfl,hB_⟩;subst hB_;refine aI (aA ?_);refine aB Z ?_ ?_;intro c1;exact absurd c1 cl;intro c1;refine fH (aA (aG ?_));refine dY [(tb,0,_)] 12 mixed Z (bj bI) (λhS=>?_);refine dZ 0 Z Z ld ld ld Z hS (aV Z) ?_;refine dZ 1 Z Z ld ld ld Z hS (aV Z) ?_;refine dZ 2 Z Z ld ld ld Z hS (fJ Z) ?_;refine dZ 3 Z Z ld ld ld Z hS (bT Z Xy Z sizeOf26 Z dg) ?_;refine dZ 4 Z Z ld ld ld Z hS (bO isAgg26 Z (d6 (k:=0) Z Z)) ?_;refine dZ 5 Z Z ld ld ld Z hS (Dl yR Z) ?_;refine dZ 6 Z Z ld ld ld Z hS (mY Z Z (n7:IntKind.wrap .i64 ((l.length:Int)-1)=((l.length-1:Nat):Int))) ?_;refine dZ 7 Z Z ld ld ld Z hS (fJ Z) ?_;refine dZ 8 Z Z ld ld ld Z hS (bT Z Xy Z sizeOf145 Z dg) ?_;refine dZ 9 Z Z (by kernel_rfl) (by kernel_rfl) (by kernel_rfl) Z hS (dW c1N bu Z Z Z (show l.length-1<8 by omega) (by first|exact Qac _|rfl)) ?_;refine dZ 10 Z Z (by kernel_rfl) (by kernel_rfl) (by kernel_rfl) Z hS (bO cM Z (d6 (k:=0) Z (NC h8 (show l.length-1<l.length by omega)))) ?_;refine dZ 11 Z Z ld ld ld Z hS (aU Z) ?_;refine zh ld ?_;clear hS;refine aA (dX (bP (.inl Z) (.cons (bA Z) .nil) ?_));refine⟨_,⟨?_,Z⟩,IO⟩;rw[show l.length-1+1=l.length by omega,p2];rfl
theorem b9Z k(d:k<fk l):sQ W0 66 [pV tb,iQ k] (pt tb (qK a l.length c l l.length)::R) (iQ (gY l k)) (pt tb (qK a l.length c l l.length)::R):=by
 obtain⟨g,h,j,e⟩:=IH h1 hl d;refine am func66 ntmps66 ?_;refine eC (λi:Nat=>i≤gY l (k:Int)) (λi=>[(0,pV tb),(1,iQ k),(5,iQ i)]) (λ_=>pt tb (qK a l.length c l l.length)::R) (λi=>gY l (k:Int)-i) 0 ?_ ?_;exact Qay _;intro i m;refine aw (ac (iy (show i<8 by omega)) ?_);refine ac (aY (aO (NC h8 aq))) ?_;apply ap<;>intro f;refine ac cK (d8 (i+1) ?_ (hμ:=?_));have b:i≠gY l (k:Int):=by
  rintro rfl;omega
 omega;have b:i≠gY l (k:Int):=by
  rintro rfl;omega
 omega;refine ag ?_;obtain rfl:i=gY l (k:Int):=by
  rcases Qaz i (gY l (k:Int))with q|q;exact absurd aq (e i q);omega
 exact ax
theorem WI(n:Nat)(hn:n<1000000000):sQ W0 24 [pV tb,iQ n] (qN tb l::R) (.tuple #[.agg (tj (ka l n)).toArray,iQ 0]) (qN tb l::R):=by
 obtain⟨p1,p2,p3⟩:=CL h1 hl;obtain⟨i1,i2,i3,i4⟩:=IH h1 hl (Qbq n p1);have hl0:=hl _ i1;simp only[lU,Qas]at hl0;have hmod:=Qbq n p1;have hdiv:=Qct n (fk l);have hdv0:0≤((n/fk l:Nat):Int):=Int.natCast_nonneg _;refine am func24 ntmps24 ?_;refine bU λb1=>?_;refine b9X (b:=tb) λa c=>?_;refine aw (ao (ar call64 (WH W0 _ tb c a l h1)) ?_);apply aB Z<;>intro c3;omega;refine aw (ao (ar call65 (b9Y W0 _ tb c a l h1 h8 hl)) ?_);refine ac (kg Z Z (by omega) (show Int.tmod ((n:Nat):Int) ((fk l:Nat):Int)=((n %fk l:Nat):Int) by rw[Qbd (by omega)];omega)) ?_;refine ao (ar call66 (b9Z W0 _ tb c a l h1 h8 hl (n %fk l) hmod)) ?_;obtain⟨i,hi⟩:∃i,gY l ((n %fk l:Nat):Int)=i:=⟨_,Z⟩
 obtain⟨x,hx⟩:∃x,l[gY l ((n %fk l:Nat):Int)]=x:=⟨_,Z⟩
 have hxA:AF l (gY l ((n %fk l:Nat):Int))=x:=by rw[AF,Qao,QbN i1,Option.getD_some,hx]
 refine jV (E:=114) (sz:=2) (a:=a) (n:=l.length) (c:=c) fZ l (λ_=>Z) (by decide) Z (λhs=>?_);obtain⟨ga,o,hga,hc⟩:=hs.at_ i1;rw[hx]at hc;have hsum:=IF hl _ (Nat.le_of_lt i1);have hst:fN l (gY l ((n %fk l:Nat):Int)+1)=fN l (gY l ((n %fk l:Nat):Int))+x.2:=by rw[fN, <-hxA]
 rw[show l.getD (gY l ((n %fk l:Nat):Int)) (0,0)=x from hxA]at hl0;refine aw (ac (g7 yR J6 Z hga Z Z i1 (by first|exact Qac _|rfl)) ?_);refine ac (cV hc) ?_;refine bU λbs=>?_;refine aJ aR (bH [tb,bs] 20 λhS=>?_);refine aj 0 8 hS ?_;refine aE 8 hS (iy (show gY l ((n %fk l:Nat):Int)<8 by omega)) ?_;refine aE 9 hS (aY (d6 (k:=0) Z (NC h8 i1))) ?_;refine aj 10 2 hS ?_;refine aE 12 hS (mY Z Z (show IntKind.wrap .i64 (fN l (gY l ((n %fk l:Nat):Int)+1)-x.2)=fN l (gY l ((n %fk l:Nat):Int)) by rw[bS (by omega)];omega)) ?_;refine aE 13 hS jt ?_;refine aj 14 2 hS ?_;refine aE 16 hS (qT Z Z (by omega) (show IntKind.wrap .i64 (Int.tdiv ((n:Nat):Int) ((fk l:Nat):Int))=((n/fk l:Nat):Int) by rw[Int.tdiv_eq_ediv_of_nonneg (by omega),bS (by omega)];omega)) ?_;refine aj 17 1 hS ?_;refine cp 18 aR λhS=>?_;refine aj 19 1 hS ?_;refine aS (bJ (.cons (bX NQ xg Z Z) (.cons (bA Z) .nil)) ?_);have hT:ka l n=⟨x.1,gY l ((n %fk l:Nat):Int),((n %fk l:Nat):Int)-fN l (gY l ((n %fk l:Nat):Int)),n/fk l⟩:=by rw[ka,hxA]
 rw[hT];exact⟨_,⟨Z,Z⟩,WG Z Z⟩
end
end
section
open Go.RowKit
set_option synthInstance.maxSize 4000
structure Hx where
  D : Mx
  hv : Nat
  tb : Nat
  ib : Nat
@[reducible] def AQ(X:Hx)(n:Nat):List Value:=dU X.D.M.c++[pV X.D.ho,.slice X.D.a X.D.gbs.length X.D.cap,pV X.tb,pV X.ib,.int .i64 n]
abbrev eD(X:Hx)(n:Nat):Obj:=ae (AQ X n) 77
abbrev Hx.H(X:Hx)(S:Ms)(R:List HP):List HP:=pt X.hv (eD X S.n)::dH X.D.ho (X.D,S)::gC X.ib (X.D.M.c.gl.length,S.inp)::qN X.tb X.D.M.c.sl::R
section
variable{W0:World}{N:FSz}{K:Act->World->Prop}{e:bK}{D:Mx}{S:Ms}{A B R:List HP}{i b n:Nat}{l:List (Int×Int)}
theorem b90[a:Tk dH D.ho A (D,S) R](h:aC W0 N K e (D.H S R)):aC W0 N K e A:=ix (r:=dH) (b:=D.ho) (gK Fs h)
theorem Fz[i:Tk dH D.ho A (D,S) R](h:bZ (aQ W0 A) D.a 1 (λb=>[pV b]) D.gbs->aC W0 N K e A):aC W0 N K e A:=λd w j f=>by
 have g:Ent A (D.H S R):=(Ent.ofPerm i.perm).trans Fs;have l:bZ (aQ W0 (D.H S R)) D.a 1 (λb=>[pV b]) D.gbs:=Gy (E:=49) (n:=D.gbs.length) (c:=D.cap) (ys:=D.gbs.map pV) (λ_=>Z) cl (Ea pV D.gbs).symm (f.ent g);exact h (bZ.weak (k:=g) l) d w j f
theorem ND{ga o}(h:D.a=some ⟨ga,o,none⟩)(d:i<D.gbs.length):bF (aQ W0 [D.go]) ga (o+i*1) [pV (D.gb i)]:=λj v k w f=>by
 have l:bZ (aQ W0 [D.go]) D.a 1 (λb=>[pV b]) D.gbs:=Gy (E:=49) (n:=D.gbs.length) (c:=D.cap) (ys:=D.gbs.map pV) (λ_=>Z) cl (Ea pV D.gbs).symm f;obtain⟨b,m,e,g⟩:=l.at_ d;rw[h]at e;cases e;rw[show D.gbs[i]=D.gb i by simp[Mx.gb,List.getD,d]]at g;exact g j v k w f
theorem WJ{ga o}(b:D.a=some ⟨ga,o,none⟩)(c:i<D.gbs.length)S:bF (aQ W0 [dH D.ho (D,S)]) ga (o+i*1) [pV (D.gb i)]:=by have e:Ent [dH D.ho (D,S)] [D.go]:=Ent.trans (B:=D.H S []) Fs inferInstance;exact bF.weak (k:=e) (ND b c)
theorem NE[f:Tk dH D.ho A (D,S) R](c:i<D.gbs.length)(h:∀z a,Zq (D.q S i) z a->aC W0 N K e (D.O S i z a R)):aC W0 N K e A:=by refine ix (r:=dH) (b:=D.ho) ?_;refine gK (B:=iP (D.gb i) (D.q S i)::pt D.ho D.hO::D.go::D.sh S (kH 2 (bB (D.gs S (D.ot i)))::R)) ?_ ?_;refine Fs.trans ?_;refine Ent.trans (B:=kH 2 (bB (D.gs S D.al))::pt D.ho D.hO::D.go::D.sh S R) inferInstance ?_;exact(Ns IL (IM.2 c)).trans inferInstance;refine b86 (gb:=D.gb i) (q:=D.q S i) λz a d=>?_;exact gK (B:=D.O S i z a R) inferInstance (h z a d)
abbrev Mx.Q(D:Mx)(S:Ms)(i:Nat)(y:Gp)(z:Gz)(wg:Nat)(R:List HP):List HP:=pt D.ho D.hO::D.go::kM (D.gb i) ⟨D.M.c,i,D.ps,D.pb,D.M.w i,y,S.fr⟩ z wg (D.sh S (kH 2 (bB (D.gs S (D.ot i)))::R))
theorem NF(g:i<S.gs.length)(h:i<D.gbs.length){y:Gp}{z:Gz}(b:Zq (D.q S i) z wg):Ent (D.Q S i y z wg R) (dH D.ho (D,S.sg i y)::R):=by
 have d:Zq (D.q (S.sg i y) i) z wg:=⟨b.c,b.i,b.ps,b.pb,b.w⟩
 have e:(S.sg i y).at_ i=y:=by
  show(S.gs.set i y).getD i default=_;rw[mV g,Qad Z]
 have j:D.q (S.sg i y) i=⟨D.M.c,i,D.ps,D.pb,D.M.w i,y,S.fr⟩:=by
  show(⟨D.M.c,i,D.ps,D.pb,D.M.w i,(S.sg i y).at_ i,S.fr⟩:Gq)=_;rw[e]
 have k:D.gs (S.sg i y) (D.ot i)=D.gs S (D.ot i):=QbY λa l=>by
  have f:=(IN.1 l).2;show iP (D.gb a) ⟨D.M.c,a,D.ps,D.pb,D.M.w a,(S.gs.set i y).getD a default,S.fr⟩=iP (D.gb a) ⟨D.M.c,a,D.ps,D.pb,D.M.w a,S.gs.getD a default,S.fr⟩;rw[mV g,Qab f]
 refine Ent.trans (B:=D.O (S.sg i y) i z wg R) ?_ (IP h d);show Ent _ (pt D.ho D.hO::D.go::kM (D.gb i) (D.q (S.sg i y) i) z wg (D.sh (S.sg i y) (kH 2 (bB (D.gs (S.sg i y) (D.ot i)))::R)));rw[j,k];exact ent_refl
end
end
section
open Go.RowKit
set_option synthInstance.maxSize 4000
abbrev IW(M:Mw)(ps pb k j:Nat):Gq:=⟨M.c,j,ps,pb,M.w j,(dE M k).1.getD j default,(dE M k).2.1⟩
abbrev tp(M:Mw)(ps pb:Nat)(gbs:List Nat)(k:Nat):List HP:=(List.range k).map λj=>iP (gbs.getD j 0) (IW M ps pb k j)
theorem b91{f g}{l:List Nat}{R}(h:∀j∈l,∀m,f j m->g j m):Ent (kH 2 (bB (l.map f))::R) (kH 2 (bB (l.map g))::R):=
  ⟨λm ⟨a,b,c,d,e⟩=>⟨m,[],⟨a,b,c,No h a d,e⟩,n4⟩⟩
theorem b92{M ps pb gbs k}(r:rt M.c=true)(s:k<M.c.gl.length)(d:gbs.length=k){gb z wg R}(b:z.c=M.c/\z.i=k/\z.ps=ps/\z.pb=pb/\z.wv=.slice (some ⟨wg,0,none⟩) (M.w k).length (M.w k).length):
    Ent (gA gb z g0 (jy M.c k (M.w k) (dE M k).2.1 (dE M k).2.2) (pt z.bx wE::pt wg (ae ((M.w k).map wV) 62)::kH 2 (bB (tp M ps pb gbs k))::R)) (kH 2 (bB (tp M ps pb (gbs++[gb]) (k+1)))::R):=by
 have h:=Fv (M:=M) r k aq;obtain⟨t,u,e⟩:=Nv r s (ws:=M.w k) (h.ot k (Qai _) s);obtain⟨S,n⟩:∃S,dE M k=S:=⟨_,Z⟩
 have o:dE M (k+1)=(S.1++[(⟨g0,(jy M.c k (M.w k) S.2.1 S.2.2).pg,[]⟩:Gp)],(jy M.c k (M.w k) S.2.1 S.2.2).fr,(jy M.c k (M.w k) S.2.1 S.2.2).po):=by rw[dE,n]
 rw[n]at h t u e ⊢;obtain⟨x,v⟩:∃x,jy M.c k (M.w k) S.2.1 S.2.2=x:=⟨_,Z⟩
 rw[v]at t u e o ⊢;have y:(S.1++[(⟨g0,x.pg,[]⟩:Gp)]).getD k default=⟨g0,x.pg,[]⟩:=by
  rw[Qao,Qbj (by rw[h.len];exact Qai _),h.len,Nat.sub_self];rfl
 have A:∀j,j<k->(S.1++[(⟨g0,x.pg,[]⟩:Gp)]).getD j default=S.1.getD j default:=λj q=>by
  rw[Qao,QaO (by rw[h.len];exact q), <-Qao]
 have C:(gbs++[gb]).getD k 0=gb:=by
  rw[Qao,Qbj (by rw[d];exact Qai _),d,Nat.sub_self];rfl
 have D:∀j,j<k->(gbs++[gb]).getD j 0=gbs.getD j 0:=λj q=>by
  rw[Qao,QaO (by rw[d];exact q), <-Qao]
 have E:IW M ps pb (k+1) k=⟨M.c,k,ps,pb,M.w k,⟨g0,x.pg,[]⟩,x.fr⟩:=by
  show(⟨M.c,k,ps,pb,M.w k,(dE M (k+1)).1.getD k default,(dE M (k+1)).2.1⟩:Gq)=_;rw[o];dsimp only;rw[y]
 have F:∀j,j<k->IW M ps pb (k+1) j=⟨M.c,j,ps,pb,M.w j,S.1.getD j default,x.fr⟩:=λj q=>by
  show(⟨M.c,j,ps,pb,M.w j,(dE M (k+1)).1.getD j default,(dE M (k+1)).2.1⟩:Gq)=_;rw[o];dsimp only;rw[A j q]
 have G:tp M ps pb (gbs++[gb]) (k+1)=((List.range k).map λj=>iP (gbs.getD j 0) ⟨M.c,j,ps,pb,M.w j,S.1.getD j default,x.fr⟩)++[iP gb ⟨M.c,k,ps,pb,M.w k,⟨g0,x.pg,[]⟩,x.fr⟩]:=by
  unfold tp;rw[QcI,QaN,QaE,QbE,C,E];congr 1;refine QbY λj p=>?_;have a:=QbX.1 p;rw[D j a,F j a]
 have H:tp M ps pb gbs k=(List.range k).map λj=>iP (gbs.getD j 0) ⟨M.c,j,ps,pb,M.w j,S.1.getD j default,S.2.1⟩:=by
  unfold tp IW;rw[n]
 rw[G,H];have I:=b91 (R:=R) (l:=List.range k) (f:=λj=>iP (gbs.getD j 0) ⟨M.c,j,ps,pb,M.w j,S.1.getD j default,S.2.1⟩) (g:=λj=>iP (gbs.getD j 0) ⟨M.c,j,ps,pb,M.w j,S.1.getD j default,x.fr⟩) λj p m J=>by
  have a:=QbX.1 p;exact Nq (q:=⟨M.c,j,ps,pb,M.w j,S.1.getD j default,S.2.1⟩) (h.gm j a).1 (e j aq) m J
 refine Ent.trans (B:=kM gb ⟨M.c,k,ps,pb,M.w k,⟨g0,x.pg,[]⟩,x.fr⟩ z wg (kH 2 (bB ((List.range k).map λj=>iP (gbs.getD j 0) ⟨M.c,j,ps,pb,M.w j,S.1.getD j default,S.2.1⟩))::R)) ?_ ?_;refine Ent.trans (B:=pt z.bx wE::gA gb z g0 x (pt wg (ae ((M.w k).map wV) 62)::kH 2 (bB ((List.range k).map λj=>iP (gbs.getD j 0) ⟨M.c,j,ps,pb,M.w j,S.1.getD j default,S.2.1⟩))::R)) inferInstance ?_;exact b6U.trans inferInstance;refine(Np (q:=⟨M.c,k,ps,pb,M.w k,⟨g0,x.pg,[]⟩,x.fr⟩) ⟨b.1,b.2.1,b.2.2.1,b.2.2.2.1,b.2.2.2.2⟩).trans ?_;refine(Ent.cons I).trans ?_;refine(Ent.cons kd).trans ?_;refine Ent.trans (Ent.ofPerm ?_) ke;rw[QaM];exact(QaQ (l₁:=[_]) (l₂:=(List.range k).map λj=>iP (gbs.getD j 0) ⟨M.c,j,ps,pb,M.w j,S.1.getD j default,x.fr⟩)).append_right R |>.trans (by rw[QaM])
theorem b93{M}(b:rt M.c=true){k}(a:k<M.c.gl.length):bD (dE M k).2.1/\PoOk (dE M k).2.2/\(dE M k).2.2.length=(dE M k).2.1.length/\0<(dE M k).2.1.length/\(cC M.c k).2.1≤((cG (dE M k).2.2 k).length)/\GMem k (jy M.c k (M.w k) (dE M k).2.1 (dE M k).2.2):=by have d:=eI b;have f:=d.nd;have i:=d.gs k a;have h:=Fv (M:=M) b k aq;have o:=h.ot k (Qai _) a;obtain⟨j,_,_⟩:=Nv b a (ws:=M.w k) o;have g:GMem k ⟨(dE M k).2.1,gd,(dE M k).2.2⟩:=GMem.oth (Wt b a) o;have e:(dE M k).2.1.length=dG M.c:=o.fl.trans n4;refine⟨g.fr,g.po,g.len,by rw[e,dG];omega,?_,j⟩;have:=LE d a;rw[Ww o];show _≤((cG (iB M.c (dG M.c)) k).length:Int);omega
theorem b94{g d f h i j:Nat}{b:Nat}{x:Dk}{inp:List (List It6)}(k:gbs.length=M.c.gl.length):
    Ent (pt g (cY M.c d f h i j)::osl 49 1 (.slice a gbs.length b) (gbs.map pV)::aH d (dE M M.c.gl.length).2.1::cz f (d,(dE M M.c.gl.length).2.2)::dQ h x::dC i (pG M.c.pl)::pt j (Ez M.c.cats M.c.gate M.c.quota)::kH 2 (bB (tp M d f gbs M.c.gl.length))::R)
      (dH g (⟨M,g,d,f,h,i,j,a,b,gbs⟩,te M x inp)::R):=by
 refine Ent.trans (B:=(⟨M,g,d,f,h,i,j,a,b,gbs⟩:Mx).H (te M x inp) R) ?_ (Nr (D:=⟨M,g,d,f,h,i,j,a,b,gbs⟩));refine Ent.cons (Ent.cons (Ent.cons (Ent.cons (Ent.cons (Ent.cons ?_)))));have e:(⟨M,g,d,f,h,i,j,a,b,gbs⟩:Mx).gs (te M x inp) (⟨M,g,d,f,h,i,j,a,b,gbs⟩:Mx).al=tp M d f gbs M.c.gl.length:=by
  show(List.range gbs.length).map _=_;rw[k];rfl
 rw[e];exact b6X
theorem WK{d:World}{D:Mx}(h:CfK d c)(j:ScrOk d s)(f:D.M=lV c s)(k:D.gbs.length=c.gl.length):MxI d D:=by
 refine⟨by rw[f];exact h,by rw[f];exact k,λi=>?_⟩;rw[f];rcases Qaz i c.gl.length with q|q;rw[WE q];refine⟨λy g=>?_,by rw[Hm];omega⟩;have a:y∈s8 s i:=Qbs g;unfold s8 pT at a;rcases Qaz i s.il.length with b|b;have e:s.il.getD i ⟨none,0,[]⟩=s.il[i]:=by simp[List.getD,b]
 rw[e]at a;exact j.wb _ (QaC b) y a;rw[Qao,QaU b]at a;cases a;have e:(lV c s).w i=[]:=by
  show((List.range c.gl.length).map (NA s)).getD i []=[];rw[Qao,QaU (by simpa using q)];rfl
 rw[e];exact⟨(λy g=>by cases g),Qay _⟩
end
section
open Go.RowKit
set_option synthInstance.maxSize 4000
abbrev NG(i n:Nat)(wl:List Nat)(L:Ls):Ls:=(L.put (jN i n wl L.mm)).wg (oe L.g)
section
variable{W0:World}{D:Mx}{S:Ms}{R:List HP}{i:Nat}(hW:MxI W0 D)(hM:MK D.M S)(hi:i<D.gbs.length)
include hW hM hi
theorem b95:bE Tryz.prog W0 151 [pV (D.gb i)] (dH D.ho (D,S)::R) (λv B=>v=.int .i64 0/\B=dH D.ho (D,S.sl i (NG i (D.M.n i) (D.M.w i) (S.ls i)))::R):=by
 have d:=yM hW hi;have q:=hM.li i d;have G:=hM.gb i d;have s:=CO hM.r d;obtain⟨_,H⟩:=LI.anew (wl:=D.M.w i) hM.r d s q;obtain⟨I,Y,J⟩:=Nc hM.r d s q;have K:(S.at_ i).g.clock<1000000000:=by have:=G.k;omega
 refine Ft hi λz e f=>?_;have h:=f.c;have j:=f.i.symm;have l:=f.ps;have o:=f.pb;have p:=f.w;obtain⟨x,N,O,Q,u,Z,C,pb,E,F,wv,zi,zc⟩:=z;dsimp only at h j l o p;subst h j l o p;refine eR tH (cF (Vr W0 _ (D.gb i) ⟨x,N,O,Q,u,D.ps,C,D.pb,E,F,.slice (some ⟨e,0,none⟩) (D.M.w i).length (D.M.w i).length,i,D.M.c⟩ (S.at_ i).g hW.ok hM.r d K (S.ls i).mm q.m J (D.M.n i) s I (some ⟨e,0,none⟩) (D.M.w i).length (D.M.w i) ρ (λA T=>bZ.weak (k:=T) (uU (b:=e) (λ_=>ρ) (SA (D.M.w i)).symm)) (hW.w i).1 (hW.w i).2) λv B t=>?_);obtain⟨y,U,V,W,rfl,rfl⟩:=t;have a:=IQ (R:=R) hM hW.len hi (L:=NG i (D.M.n i) (D.M.w i) (S.ls i)) H (z:=⟨y,U,V,W,u,D.ps,C,D.pb,E,F,.slice (some ⟨e,0,none⟩) (D.M.w i).length (D.M.w i).length,i,D.M.c⟩) (wg:=e) ⟨ρ,ρ,ρ,ρ,ρ⟩;refine⟨_,⟨ρ,ρ⟩,Ent.trans ?_ a⟩;obtain⟨m,X⟩:∃m,jN i (D.M.n i) (D.M.w i) (S.ls i).mm=m:=⟨_,ρ⟩
 show Ent _ (D.P S i (((S.ls i).put (jN i (D.M.n i) (D.M.w i) (S.ls i).mm)).wg (oe (S.at_ i).g)) _ e R);rw[X];exact IO
end
theorem WL{a:Ls}:(S.sl i L).sl i a=S.sl i a:=by simp only[Ms.sl,Qdb]
theorem NH(a:i<S.gs.length):(S.sl i L).ls i=L:=by
 have e:(S.sl i L).at_ i=⟨L.g,L.pg,L.bx⟩:=by
  show(S.gs.set i ⟨L.g,L.pg,L.bx⟩).getD i default=_;rw[mV a,Qad Z]
 show(⟨((S.sl i L).at_ i).g,((S.sl i L).at_ i).pg,((S.sl i L).at_ i).bx,L.fr,L.po,L.dk,L.pt,L.gt⟩:Ls)=L;rw[e]
theorem WM{S:Ms}{i}(a:i<S.gs.length):S.sl i (S.ls i)=S:=by
 have e:S.gs.set i (S.gs.getD i default)=S.gs:=by
  refine QaV n4 λj b c=>?_;rw[QcQ];split
  rename_i q;subst q;simp[List.getD,a]
  rfl
 show({ S with gs:=S.gs.set i (S.gs.getD i default) }:Ms)=S;rw[e]
theorem b96{wl:List Nat}(a:k<l.length):kL c i n wl (l.take (k+1)) L=vC c i n wl l[k] (kL c i n wl (l.take k) L):=by unfold kL;rw[Qap a,Qcw];rfl
theorem MJ.bra{M S k b l t}(h:MJ M S k b l t){i}(a:i<M.c.gl.length)xs:MJ M (S.sl i (kL M.c i (M.n i) (M.w i) xs (S.ls i))) k b (l+xs.length) t:=by have d:=IJ (wl:=M.w i) h.r a (CO h.r a) xs (h.li i a) (h.gb i a) ⟨h.nn.2.1,h.nn.2.2.1,h.nn.2.2.2⟩;exact h.sl a d.li d.b d.o (Qan _) (Qan _) aq (Qan _) (by rw[d.g];exact h.gl) (by rw[d.g];exact h.gf)
theorem NI{c x}(a:x.s.size≤16):∀k,lx c x k≤16*k
 |0=>Qai _
 |k+1=>by
  have:=NI (c:=c) a k;rw[lx];split<;>omega
theorem IX{c}(b:c.gl.length≤4):∀(a:List Rls) (k:Nat),(∀r∈a,r.s.size≤16)->a.foldl (λk x=>k+lx c x c.gl.length) k≤k+64*a.length
 |[],k,_=>n4
 |r::a,k,h=>by
  have e:=NI (c:=c) (h r n4) c.gl.length;have f:=IX b a (k+lx c r c.gl.length) λy d=>h y (Qaj _ d);rw[List.foldl_cons,QaK];omega
end
section
open Go.RowKit
set_option synthInstance.maxSize 1000
set_option synthInstance.maxHeartbeats 400000
theorem IY x:(lv x).length=3:=Z
theorem b97(l:List Rls):gO (l.flatMap lv)=true:=by
 induction l with
 |nil=>rfl
 |cons x l a=>
  rw[QaT,gO,List.all_append,Qam];exact⟨rfl,a⟩
theorem b98 l a n c(j:l.length=n)(s:n≤100000)(f:bZ (aQ W0 R) a 3 lv l):sP W0 93 [.slice a n c] R (λv B=>∃g i,v=.slice g n i/\B=osl 155 3 (.slice g n i) (l.flatMap lv)::R):=by
 subst j;refine am func93 ntmps93 ?_;refine ac (zo uB Z Z) ?_;apply aB Z<;>intro e;refine au 7 (ag ?_);have k:l=[]:=by
  rcases l with _|⟨x,l⟩;rfl;obtain⟨b,o,h,_⟩:=f 0 x Z;rw[e]at h;cases h
 subst k;exact g3;have d:=f.src IY (λ_=>trivial);refine fH (aA (aG (aM (aF Z (zp uB CX Z) ?_))));rintro _ _ ⟨t,rfl,rfl⟩;refine aw ?_
 refine aF Z (zv (sz:=3) (by_:=32) (info:=Tryz.t155) uB ld Z Z Z Z cl Z Z (news:=l.flatMap lv) (by
 rcases d with h|⟨m,p,q,r⟩;left;rw[h];rfl
 right;exact⟨m,p,q,r.weak⟩) (dy IY l) (b97 l) n5 aq) ?_
 rintro _ _ ⟨u,e,rfl,rfl⟩;refine aw (ag ?_);rw[Qac,Qar];exact⟨_,⟨_,_,Z,Z⟩,IO⟩
theorem b99 b x(s:0≤x.fm/\x.fm≤x.l.length)(t:x.l.length<100000)(u:0≤x.fn/\x.fn<1000000000):sP W0 111 [pV b] (jO b x::R) (λv B=>∃a c,v=.slice a (mo x).length c/\B=osl 155 3 (.slice a (mo x).length c) ((mo x).flatMap lv)::jO b (xd x)::R):=by
 obtain⟨k,h⟩:∃k:Nat,x.fm=(k:Int):=⟨x.fm.toNat,aq⟩
 have p:k≤x.l.length:=aq;have q:mo x=x.l.drop k:=by rw[mo,h,Qae]
 have e:(x.l.drop k).length=x.l.length-k:=QaL;rw[q];refine am func111 ntmps111 ?_;refine Iu (b:=b) λa c=>?_;rw[wU,h];refine jV (E:=155) (sz:=3) (a:=a) (n:=x.l.length) (c:=c) lv x.l IY cl Z (λr=>?_);refine qZ (E:=155) (sz:=3) (a:=a) (c:=c) (n:=x.l.length) (λj=>?_);refine bH [b] 11 λf=>?_;refine aj 0 8 f ?_;refine aE 8 f (qm uB CX Z (i:=k) Z Z aq Z) ?_;refine co 9 (aK call93 (b98 (x.l.drop k) _ (x.l.length-k) (c-k) e aq (by have d:=r.sub (c:=c) (i:=k) (k:=x.l.length-k) aq aq;rw[show(x.l.drop k).take (x.l.length-k)=x.l.drop k from QaJ aq]at d;exact d))) ?_;clear f;rintro _ w ⟨m,o,rfl,g⟩;subst g;refine⟨aW,λf=>?_⟩;refine aj 10 1 f ?_;refine aS (aJ dr (ac cK (aJ dr (aJ dr (ag ?_)))));rw[e];refine⟨_,⟨m,o,Z,Z⟩,?_⟩;refine Ent.trans (B:=osl 155 3 (.slice m (x.l.length-k) o) ((x.l.drop k).flatMap lv)::pt b (ae (wU (xd x) a x.l.length c) 190)::osl 155 3 (.slice a x.l.length c) (x.l.flatMap lv)::R) inferInstance ?_;exact Ent.cons (CE (x:=xd x) Z Z)
theorem c0a b x(e:0≤x.fm/\x.fm≤x.l.length)(f:x.l.length<100000)(g:0≤x.fn/\x.fn<1000000000):sP W0 67 [pV b] (jO b x::R) (λv B=>∃a c,v=.slice a (mo x).length c/\B=osl 155 3 (.slice a (mo x).length c) ((mo x).flatMap lv)::jO b (xd x)::R):=by refine am func67 ntmps67 ?_;refine Iu (b:=b) λa c=>?_;refine aw (ao (ar call92 (Vu W0 _ b _ c a x)) ?_);refine gK (B:=jO b x::R) (CE Z Z) ?_;refine aw (aF Z (ar call111 (b99 b x e f g)) ?_);rintro _ j ⟨h,i,rfl,d⟩;subst d;exact aw (ag ⟨_,⟨h,i,Z,Z⟩,IO⟩)
theorem c0b b l(hl:l.length≤4)s:sQ W0 113 [pV b,sV s] (oi b l::R) (iQ 0) (oi b (vD l s)::R):=by
 have hls:(l++[s]).length=l.length+1:=n4;have hse:iZ l++[sV s]=iZ (l++[s]):=by rw[iZ,iZ,QaN];rfl
 refine am func113 ntmps113 ?_;refine MS (b:=b) λa c=>?_;refine aw (ao (ar YF (MU b _ c a)) ?_);refine dh (lG tu tt zeroValue9 Z Z Z Z Z cl cl) λb1=>?_;refine aF Z (fR (sz:=1) (by_:=16) (info:=Tryz.t9) tu ld Z Z Z Z cl Z Z eQ Z Z n5 aq) ?_;rintro _ _ ⟨a3,c3,rfl,rfl⟩;refine aw (aJ dr (ac jt (ap (λc5=>?_) λc5=>?_)));rw[hse];refine jV (E:=9) (sz:=1) (a:=a3) (n:=l.length+1) (c:=c3) (λs=>[sV s]) (l++[s]) (λ_=>Z) cl (Ed _) (λhs=>?_);refine qZ (E:=9) (sz:=1) (a:=a3) (c:=c3) (n:=l.length+1) (λhcap=>?_);have hl4:l.length=4:=aq;have e5:((l.length+1:Nat):Int)-4=((1:Nat):Int):=aq;have hbx:vD l s=(l++[s]).drop 1:=by rw[vD,Qad aq,hls,hl4]
 rw[e5];refine aw (ac (qm tu tt Z (i:=1) Z Z aq Z) ?_);refine aF Z (aK Y4 (KX ((l++[s]).drop 1) _ (l.length+1-1) (c3-1) (by rw[QaL,hls]) aq (by have hsub:=hs.sub (c:=c3) (i:=1) (k:=l.length) (by rw[hls];omega) aq;rw[show((l++[s]).drop 1).take l.length=(l++[s]).drop 1 from QaJ (by rw[QaL,hls];omega)]at hsub;exact hsub))) ?_;rintro _ B_ ⟨a2,cc,rfl,hB_⟩;subst hB_;exact aw (aJ dr (ag ⟨_,⟨Z,Z⟩,aba⟩));exact ag ⟨_,⟨Z,Z⟩,aba⟩
end
section
open Go.RowKit
set_option synthInstance.maxSize 4000
theorem c0c hb c ps pb db qb gb:sQ W0 46 [pV hb] (pt hb (cY c ps pb db qb gb)::R) (pV gb) (pt hb (cY c ps pb db qb gb)::R):=by refine am func46 ntmps46 ?_;refine ao (ar D7 (Aa hb c ps pb db qb gb)) ?_;exact ki
theorem c0d hb c ps pb db qb gb:sQ W0 188 [pV hb] (pt hb (cY c ps pb db qb gb)::R) (pV qb) (pt hb (cY c ps pb db qb gb)::R):=by refine am func188 ntmps188 ?_;refine ao (ar D7 (Aa hb c ps pb db qb gb)) ?_;exact ki
theorem WN x y:Fp x y=⟨{ y.g with ls:=jb y.g.ls y.g.ln 5,ln:=gz y.g.ls y.g.ln 5 },y.pg,vD y.bx x.s⟩:=Z
abbrev Ms.wgs(S:Ms)(gs:List Gp):Ms:={ S with gs:=gs }
variable {S:Ms}
section
variable(W0:World)(R:List HP)(X:Hx)(hW:MxI W0 X.D)(S:Ms)(N:Nat)
include hW
theorem c0e{k0 b l t}(G:MJ X.D.M S k0 b l t)(hl:l<4000000000000000)x(U:x.s.size≤16):sQ W0 68 [pV X.hv,.agg (lv x).toArray] (pt X.hv (eD X N)::dH X.D.ho (X.D,S)::R) (iQ (lx X.D.M.c x X.D.M.c.gl.length)) (pt X.hv (eD X N)::dH X.D.ho (X.D,S.wgs (rW X.D.M.c x S.gs))::R):=by
 obtain⟨D,p,V,W⟩:=X;obtain⟨c,H⟩:∃c,D.M.c=c:=⟨_,rfl⟩
 have q:=hW.len;have w:=hW.ok;have I:=(eI G.r).g4;dsimp only at hW G q w I ⊢;have J:∀k,lx D.M.c x k≤16*k:=NI U;refine am func68 ntmps68 ?_;refine bR λA=>?_;refine fI (λk:Nat=>k≤D.M.c.gl.length) (λk=>[(0,pV p),(3,pV A),(5,iQ (lx D.M.c x k:Nat)),(11,.slice D.a D.gbs.length D.cap),(12,iQ (D.gbs.length:Nat)),(13,iQ k)]) (λk=>pt A (ae (lv x) 155)::pt p (eD ⟨D,p,V,W⟩ N)::dH D.ho (D,S.wgs (gZ D.M.c x k S.gs))::R) (λk=>D.M.c.gl.length-k) 0 ?_ ?_ ?_ ?_;exact Qay _
 · exact ai
 show Ent _ (pt A (ae (lv x) 155)::pt p (eD ⟨D,p,V,W⟩ N)::dH D.ho (D,S)::R);exact IO;intro k hk;refine aw (ap (λc3=>?_) λc3=>?_);have d:k<D.gbs.length:=aq;have f:k<D.M.c.gl.length:=aq;have x0:=J k;refine Fz (D:=D) (S:=S.wgs (gZ D.M.c x k S.gs)) λhs=>?_;obtain⟨ga,o,K,H⟩:=hs.at_ d;have L:D.gbs[k]=D.gb k:=by simp[Mx.gb,List.getD,d]
 rw[L]at H;obtain⟨h1,O⟩:=Nn (M:=D.M) (k:=k0) (b:=b) (t:=t) U k aq G;have hB:=O.gb k f;have P:((S.wgs (gZ D.M.c x k S.gs)).at_ k).g.ln<4000000000000000000:=Int.lt_of_le_of_lt hB.l aq;have B:=(O.li k f).bx;have C:k<(gZ D.M.c x k S.gs).length:=by have:=O.len;have e:(gZ D.M.c x k S.gs).length=D.M.c.gl.length:=this;omega
 obtain⟨gg,og,Q,E⟩:=(w.ok.g []).at_ f;obtain⟨u,Y⟩:∃u,D.M.c.gl[k]=u:=⟨_,rfl⟩
 have Z:cC D.M.c k=u:=by simp[cC,List.getD,f,Y]
 rw[Y]at E;have m:gZ D.M.c x (k+1) S.gs=if u.1=x.l then(gZ D.M.c x k S.gs).set k (Fp x ((gZ D.M.c x k S.gs).getD k default))else gZ D.M.c x k S.gs:=by rw[gZ,Z]
 have n:lx D.M.c x (k+1)=if u.1=x.l then lx D.M.c x k+x.s.size else lx D.M.c x k:=by rw[lx,Z]
 refine aw (ac (g7 vI qP rfl K rfl rfl d dg) ?_);refine ac (aY (bF.weak H 0 _ rfl)) ?_;refine dY [(p,0,_),(A,0,_),(gg,og+k*3,jW u)] 12 mixed rfl (bj (bj (dA E.weak bI))) (λh=>?_);refine aj 0 6 h ?_;refine aE 6 h (g7 xk uz rfl Q rfl rfl f dg) ?_;refine aj 7 1 h ?_;refine aE 8 h (aY (n0 (k:=2) (j:=0) rfl rfl)) ?_;refine aj 9 3 h ?_;refine aS (ap (λc5=>?_) λc5=>?_);rw[Qab c5]at m n;refine ac cK (nE (k+1) ?_ ?_ ?_ ?_);omega;omega
 · rw [n]
   exact ai
 rw[m]
 first
 | (have F := NF (R := R) (S := S.wgs (gZ D.M.c x k S.gs)) C d (y := Fp x ((gZ D.M.c x k S.gs).getD k default)) hz
    rw[WN]at F;refine Ent.trans ?_ (Ent.cons (Ent.cons F))
    exact inferInstance)
 |exact inferInstance
 have T:u.1=x.l:=aat;rw[Qad T]at m n;refine NE (D:=D) (i:=k) d λz wg hz=>?_;refine bH [A] 5 λh=>?_;refine aj 0 1 h ?_;refine aj 2 2 h ?_;refine bQ 1 (ar YH (MO W0 _ (D.gb k) z ((S.wgs (gZ D.M.c x k S.gs)).at_ k).g)) λh=>?_;refine bQ 4 (ar call113 (c0b z.bx ((S.wgs (gZ D.M.c x k S.gs)).at_ k).bx B.1 x.s)) λh=>?_;refine aS (ao (ar uE (t7 W0 _ (D.gb k) z ((S.wgs (gZ D.M.c x k S.gs)).at_ k).g)) ?_);refine ao (ar vM (ui z.x.v ((S.wgs (gZ D.M.c x k S.gs)).at_ k).g.ls ((S.wgs (gZ D.M.c x k S.gs)).at_ k).g.ln 5 P)) ?_;rw[Qad cl,Qad cl,Qad cl,show(5:Int).toNat=5 from rfl];refine ac (pZ mr rfl) ?_;refine ac (dI rfl rfl (n7:_=((lx D.M.c x k+x.s.size:Nat):Int))) ?_;refine ac cK (nE (k+1) ?_ ?_ ?_ ?_);omega;omega
 · rw [n]
   exact ai
 rw[m]
 first
 | (have F := NF (R := R) (S := S.wgs (gZ D.M.c x k S.gs)) C d (y := Fp x ((gZ D.M.c x k S.gs).getD k default)) hz
    rw[WN]at F;refine Ent.trans ?_ (Ent.cons (Ent.cons F))
    exact inferInstance)
 |exact inferInstance
 refine ag ?_;obtain rfl:k=D.M.c.gl.length:=aq;exact ax
theorem WO{l}(q:MJ X.D.M S 600 9600 l 600)(hl:l<4000000000)(C:0≤S.gt.fn/\S.gt.fn<1000000000):sQ W0 26 [pV X.hv] (pt X.hv (eD X N)::dH X.D.ho (X.D,S)::R) (iQ (AJ X.D.M.c S)) (pt X.hv (eD X N)::dH X.D.ho (X.D,AI X.D.M.c S)::R):=by
 have F:=(eI q.r).g4;have O:=hW.len;have V:=(eI q.r).g1;have p:∀r∈mo S.gt,r.s.size≤16:=λr v=>(q.li 0 aq).gt.sz r (QbC v);have W:=q.gl;obtain⟨u,w⟩:∃u,mo S.gt=u:=⟨_,ρ⟩
 have Y:u.length≤600:=by
  have:(mo S.gt).length≤S.gt.l.length:=abq;rw[w]at this;omega
 rw[w]at p;have Z:∀k,MJ X.D.M ({ S with gs:=(u.take k).foldl (λe x=>rW X.D.M.c x e) S.gs }:Ms) 600 9600 (l+600) 600:=λk=>by
  have P:=Wc (M:=X.D.M) (k:=600) (b:=9600) (t:=600) (u.take k) (λr v=>p r (Qbs v)) q;have h:(u.take k).length≤600:=aaz;exact P.le (Qan _) (Qan _) aq (Qan _)
 have Q:∀k,(u.take k).foldl (λk x=>k+lx X.D.M.c x X.D.M.c.gl.length) 0≤64*600:=λk=>by
  have P:=IX (c:=X.D.M.c) F (u.take k) 0 λr v=>p r (Qbs v);have h:(u.take k).length≤600:=aaz;omega
 rw[AJ,AI,w];refine am func26 ntmps26 ?_;refine b90 (D:=X.D) (S:=S) ?_;refine aw (ao (ar call46 (c0c X.D.ho X.D.M.c X.D.ps X.D.pb X.D.db X.D.qb X.D.tb)) ?_);refine aF ρ (ar call67 (c0a X.D.tb S.gt q.gf aq C)) ?_;rintro _ B_ ⟨a,c,rfl,G⟩;subst G;rw[w];refine aw (fI (λk:Nat=>k≤u.length) (λk=>[(0,pV X.hv),(3,iQ ((u.take k).foldl (λk x=>k+lx X.D.M.c x X.D.M.c.gl.length) 0:Nat)),(11,.slice a u.length c),(12,iQ (u.length:Nat)),(13,iQ k)]) (λk=>osl 155 3 (.slice a u.length c) (u.flatMap lv)::pt X.hv (eD X N)::dH X.D.ho (X.D,{ S with gs:=(u.take k).foldl (λe x=>rW X.D.M.c x e) S.gs,gt:=xd S.gt })::R) (λk=>u.length-k) 0 ?_ ?_ ?_ ?_);exact Qay _
 · exact ai
 refine Ent.trans (B:=osl 155 3 (.slice a u.length c) (u.flatMap lv)::pt X.hv (eD X N)::X.D.H { S with gt:=xd S.gt } R) inferInstance ?_;exact Ent.cons (Ent.cons Nr);intro k hk;refine aw (ap (λc3=>?_) λc3=>?_);have j:k<u.length:=aq;obtain⟨x,y⟩:∃x,u[k]=x:=⟨_,ρ⟩
 have I:x.s.size≤16:=p x (by rw[<-y];exact QaC j);have e1:(u.take (k+1)).foldl (λe x=>rW X.D.M.c x e) S.gs=rW X.D.M.c x ((u.take k).foldl (λe x=>rW X.D.M.c x e) S.gs):=by
  rw[Qap j,Qcw,y];rfl
 have T:(u.take (k+1)).foldl (λk x=>k+lx X.D.M.c x X.D.M.c.gl.length) 0=(u.take k).foldl (λk x=>k+lx X.D.M.c x X.D.M.c.gl.length) 0+lx X.D.M.c x X.D.M.c.gl.length:=by
  rw[Qap j,Qcw,y];rfl
 have x0:=Q k;have J:=Q (k+1);rw[T]at J;have d:=Z k;have K:MJ X.D.M ({ S with gs:=(u.take k).foldl (λe x=>rW X.D.M.c x e) S.gs,gt:=xd S.gt }:Ms) 600 9600 (l+600) 600:=by
  have hq:=(EH q.r).2.2.1;refine⟨d.r,d.len,λi hi=>?_,d.gb,d.nn,d.gl,⟨by show(0:Int)≤(S.gt.l.length:Nat);omega,Qan _⟩,d.il,d.iq⟩;have h:=d.li i hi;have A:=h.gt;exact⟨h.m,h.pl,h.pp,h.f,h.g,h.dk,h.pt,⟨A.who,A.cats,A.quota,⟨Qan _,by show(0:Int)≤X.D.M.c.quota;exact hq⟩,A.sz⟩,h.bx⟩
 refine jV (E:=155) (sz:=3) (a:=a) (n:=u.length) (c:=c) lv u IY cl ρ (λhs=>?_);obtain⟨ga,o,L,U⟩:=hs.at_ j;rw[y]at U;refine aw (ac (g7 uB CX ρ L ρ ρ j dg) ?_);refine ac (cV U) ?_;refine bU λbx=>?_;refine aJ aR (ao (dj call68 (c0e W0 _ X hW { S with gs:=(u.take k).foldl (λe x=>rW X.D.M.c x e) S.gs,gt:=xd S.gt } N K aq x I)) ?_);refine ac (dI ρ ρ (n7:_=(((u.take k).foldl (λk x=>k+lx X.D.M.c x X.D.M.c.gl.length) 0+lx X.D.M.c x X.D.M.c.gl.length:Nat):Int))) ?_;refine ac cK (nE (k+1) ?_ ?_ ?_ ?_);omega;omega
 · rw[T]
   exact ai
 rw[e1];exact IO;refine ag ?_;obtain rfl:k=u.length:=aq;rw[QbF];exact ax
end
end
variable {S:Ms}
section
open Go.RowKit
set_option synthInstance.maxSize 1000
set_option synthInstance.maxHeartbeats 400000
theorem c0f k:sQ W0 49 [iQ k] R (.bool (uw k)) R:=by refine am func49 ntmps49 ?_;apply e9<;>intro a;refine ag ⟨_,⟨Qak Value.bool ?_,Z⟩,IO⟩;rw[uw,Qah];simp only[Qas,QaA,QbB];omega;refine ag ⟨_,⟨Qak Value.bool ?_,Z⟩,IO⟩;rw[uw,Qah];simp only[Qas,QaA,QbB];omega
section
variable(W0:World)(R:List HP)(b n:Nat)(I:List (List It6))(hn:n≤4)
include hn
omit hn in
theorem c0g(g:Int)(j:¬(0≤g/\g<n)):sQ W0 48 [pV b,iQ g] (gC b (n,I)::R) (.pointer none) (gC b (n,I)::R):=by refine uP λC h=>?_;obtain⟨d,e,f,rfl⟩:=h;simp only[Qau,Qar];refine am func48 ntmps48 ?_;apply d7 Z Z Z<;>intro a;cases a;refine aw ?_;apply fC<;>intro c;exact ag ⟨_,⟨Z,Z⟩,fT (R:=R) (C:=[_,_]) ⟨d,e,f,Z⟩⟩;apply aB Z<;>intro i;exact au 7 (ag ⟨_,⟨Z,Z⟩,fT (R:=R) (C:=[_,_]) ⟨d,e,f,Z⟩⟩);omega
theorem WP g(j:g<n):sQ W0 48 [pV b,iQ g] (gC b (n,I)::R) (uv g b) (gC b (n,I)::R):=by refine uP λC d=>?_;obtain⟨e,f,h,rfl⟩:=d;simp only[Qau,Qar];refine am func48 ntmps48 ?_;apply d7 Z Z Z<;>intro a;cases a;refine aw (d7 Z Z Z (λc=>?_) λc=>?_);omega;refine aw (aB Z (λi=>?_) λi=>?_);omega;refine aw (ac (iy (show g<4 by omega)) ?_);refine ag ?_;rw[show g*1=g by omega];exact⟨_,⟨Z,Z⟩,fT (R:=R) (C:=[_,_]) ⟨e,f,h,Z⟩⟩
def CR(b n:Nat)(g:Int):Option Addr:=if 0≤g/\g<n then some ⟨b,g.toNat,none⟩else none
theorem c0h g:sQ W0 48 [pV b,iQ g] (gC b (n,I)::R) (.pointer (CR b n g)) (gC b (n,I)::R):=by
 unfold CR;by_cases h:0≤g/\g<n;rw[Qad h];obtain⟨k,rfl⟩:∃k:Nat,g=k:=⟨g.toNat,aq⟩
 exact WP W0 R b n I hn k aq;rw[Qab h];exact c0g W0 R b n I g h
end
theorem c0i o b m c a(d:List Value)(e:o<d.length):sQ W0 116 [uv o b] (pt b (ae (d.set o (.slice a m c)) 120)::R) (iQ m) (pt b (ae (d.set o (.slice a m c)) 120)::R):=by refine am func116 ntmps116 ?_;refine ac (aY (aO (eA e))) ?_;exact ki
theorem c0j (n : Nat) (h1 : 1 ≤ n) (C : n ≤ 4) s (V : ScrOk W0 s) (hl : s.nl.length ≤ 256) : sP W0 19 [iQ n, .slice s.na s.nl.length s.nc] R (fun v B => ∃ f, v = .tuple #[pV f, iQ 0] ∧ B = gC f (n, kZ n (mq s)) :: R) := by
 have K : (mq s).length = s.nl.length := n4;refine am func19 ntmps19 ?_;apply aB rfl<;>intro W;omega;refine aw (aB rfl (fun X => ?_) fun X => ?_);omega;refine aw (aB rfl (fun Y => ?_) fun Y => ?_);omega;refine aw ?_;refine bR fun f => ?_;refine fI (fun k : Nat => k ≤ s.nl.length) (fun k => [(6, pV f), (22, .slice s.na s.nl.length s.nc), (23, iQ (s.nl.length : Nat)), (24, iQ k)]) (fun k => gC f (n, kZ n ((mq s).take k)) :: R) (fun k => s.nl.length - k) 0 ?_ ?_ ?_ ?_;exact Qay _
 · exact eb
 show Ent (pt f (W7 n) :: R) (gC f (n, kZ n []) :: R);rw [Nz];exact b9y;intro k hk;refine aw (ap (fun Z => ?_) fun Z => ?_);have u : k < s.nl.length := aq;have r : k < (mq s).length := by rw [K]; exact u
 obtain ⟨g, o, L, S⟩ := (V.n []).at_ u;obtain ⟨x, T⟩ : ∃ x, s.nl[k] = x := ⟨_, rfl⟩
 have j : (mq s)[k] = IV x := by rw [Qcg, T]
 rw [T] at S;refine ac (g7 FP FF rfl L rfl rfl u dg) ?_;refine ac (cV S.weak) ?_;refine bU fun bx => ?_;refine aJ aR (ao (ar call48 (c0h W0 _ f n _ C x.g)) ?_);apply e9<;>intro h;obtain ⟨q1, q2⟩ : 0 ≤ x.g ∧ x.g < n := by
  refine QbG fun e => h ?_;rw [CR, Qab e]
 refine ao (aK call49 (c0f x.k)) ?_;apply ap<;>intro m;have M : uw x.k = true := by simpa using m
 obtain ⟨a, D⟩ : ∃ a : Nat, x.g = a := ⟨x.g.toNat, aq⟩
 have E : CR f n x.g = some ⟨f, a, none⟩ := by rw [CR, Qad ⟨q1, q2⟩, D, Qae]
 rw [E];have c := b9T r C (show a < n by omega) (by rw [j]; exact D) (by rw [j]; exact M);rw [j] at c;have F : Fx (IV x) k = ⟨x.at_, x.g, x.k, x.code, x.d, k, aq⟩ := by
  have : k % 1000 = k := Nat.mod_eq_of_lt aq;simp only [Fx, IV, this]
 rw [F] at c;have hZ : (kZ n ((mq s).take k)).getD a [] = ou ((mq s).take k) a := by rw [AP aq, Qad aq]
 have U : (ou ((mq s).take k) a).length ≤ 256 := by
  have h9 := QaW (fun y : It6 => y.g == (a : Int) && uw y.k) (rZ ((mq s).take k));have h8 : (rZ ((mq s).take k)).length = ((mq s).take k).length := by simp [rZ]
  rw [QaB] at h8;show (List.filter _ _).length ≤ 256;omega
 refine Ws (b := f) (n := n) (i := a) aq fun t N J => ?_;obtain ⟨p, O⟩ := J a aq;rw [hZ] at p;have x0 := p.length_eq;refine aw (ac (eH O3 B4 (aT FF (aT bu eG)) (iU rfl FF rfl rfl (Qaa rfl) SetRL.eq (cJ rfl bu rfl rfl (Qaa rfl) SetL.eq eE))) ?_);refine aF rfl (ar Ju (b9t a f (lz t a).l ⟨x.at_, x.g, x.k, x.code, x.d, k, aq⟩ (jC n t) aq O)) ?_;rintro _ B_ ⟨rfl, q, P, w, A⟩;subst P;refine aw (ac cK (d8 (k + 1) ?_ (he := ?_)));omega
 first
 | (rw [c]
    exact Ent.trans (B := iE a f (q, jC n t) :: mp t a :: R) inferInstance (CQ N J Fy aq (w.trans (p.append_right _)) A))
 | (rw [Ny r C (by
      rw [j];rintro ⟨G, H, I⟩
      first
      | exact Q ⟨G, H⟩
      | exact m (Qaw I))]
    exact inferInstance)
 refine ac cK (d8 (k + 1) ?_ (he := ?_));omega
 first
 | (rw [c]
    exact Ent.trans (B := iE a f (q, jC n t) :: mp t a :: R) inferInstance (CQ N J Fy aq (w.trans (p.append_right _)) A))
 | (rw [Ny r C (by
      rw [j];rintro ⟨G, H, I⟩
      first
      | exact Q ⟨G, H⟩
      | exact m (Qaw I))]
    exact inferInstance)
 have Q : ¬ (0 ≤ x.g ∧ x.g < n) := fun e => h (by rw [CR, Qad e]; simp);refine ac cK (d8 (k + 1) ?_ (he := ?_));omega
 first
 | (rw [c]
    exact Ent.trans (B := iE a f (q, jC n t) :: mp t a :: R) inferInstance (CQ N J Fy aq (w.trans (p.append_right _)) A))
 | (rw [Ny r C (by
      rw [j];rintro ⟨G, H, I⟩
      first
      | exact Q ⟨G, H⟩
      | exact m (Qaw I))]
    exact inferInstance)
 refine aZ ?_;obtain rfl : k = s.nl.length := aq;rw [show (mq s).take s.nl.length = mq s from QaJ aq];exact ⟨_, ⟨f, rfl, rfl⟩, IO⟩
theorem c0k b n I(hn:n≤4)(S:I.length=4)(g:Nat)(hg:g<n)(hu:nu (I.getD g []))(hl:(I.getD g []).length≤256)t:sP W0 69 [pV b,iQ g,iQ t] (gC b (n,I)::R) (λv B=>∃a c,v=.slice a (iD t 4 (I.getD g [])).1.length c/\B=osl 122 5 (.slice a (iD t 4 (I.getD g [])).1.length c) ((iD t 4 (I.getD g [])).1.flatMap ly)::gC b (n,I.set g (iD t 4 (I.getD g [])).2)::R):=by
 obtain⟨Q,hQ⟩:∃Q,I.getD g []=Q:=⟨_,rfl⟩
 rw[hQ]at hu hl ⊢;obtain⟨D,U⟩:∃D,iD t 4 Q=D:=⟨_,rfl⟩
 rw[U];refine am func69 ntmps69 ?_;refine ao (ar call48 (WP W0 _ b n I hn g hg)) ?_;apply aB rfl<;>intro V
 first|cases V|exact absurd V (by simp)
 refine aw (Ws (b:=b) (i:=g) aq λd W P=>?_);obtain⟨H,Y⟩:=P g aq;rw[hQ]at H;refine aw (fI (λX:List It6×List It6×List It6×Option Addr×Nat=>X.1.length≤4/\nu X.2.1/\X.2.2.1.Perm X.2.1/\Hp.Heap X.2.2.1 X.2.2.1.length/\X.2.1.length≤256/\X.1++(iD t (4-X.1.length) X.2.1).1=D.1/\(iD t (4-X.1.length) X.2.1).2=D.2) (λX=>[(2,iQ t),(7,uv g b),(8,.slice X.2.2.2.1 X.1.length X.2.2.2.2)]) (λX=>iE g b (X.2.2.1,jC n d)::osl 122 5 (.slice X.2.2.2.1 X.1.length X.2.2.2.2) (X.1.flatMap ly)::mp d g::R) (λX=>4-X.1.length) ([],Q,(lz d g).l,none,0) ?_ ?_ ?_ ?_);exact⟨Qay _,hu,H,Y,hl,by rw[<-U];rfl,by rw[<-U];rfl⟩
 · exact ai
 show Ent _ (iE g b ((lz d g).l,jC n d)::osl 122 5 (.slice none 0 0) []::mp d g::R);exact Ent.trans (B:=osl 122 5 (.slice none 0 0) []::iE g b ((lz d g).l,jC n d)::mp d g::R) eW inferInstance;intro ⟨o,m,l,a,c⟩ ⟨ho,C,q,r,Z,j,k⟩;dsimp only at ho C q r Z j k ⊢;have xb:=q.length_eq;refine aw (xN (T:=120) (E:=128) (sz:=6) (f:=jB) (o:=g) (b:=b) λra rc s=>?_);refine jV (E:=128) (sz:=6) (a:=ra) (n:=l.length) (c:=rc) jB l pi cl rfl (λhs=>?_);refine aw ?_;apply e9<;>intro J;refine ao (ar call116 (c0i g b l.length rc ra (jC n d) s)) ?_;apply e9<;>intro K;have w:0<l.length:=aq;obtain⟨ga,og,x0,hc⟩:=hs.at_ w;have u:=b9h C q r w;have x1:l.getD 0 default=l[0]:=by simp[List.getD,w]
 rw[x1]at u;obtain⟨y0,x2⟩:∃y,l[0]=y:=⟨_,rfl⟩
 rw[x2]at hc u;refine ac (aY (aO (eA s))) ?_;refine ac (g7 D2 J7 rfl x0 rfl (i:=0) rfl aq dg) ?_;refine ac (aY (bF.weak hc 0 _ rfl)) ?_;apply ap<;>intro c5;refine gK (B:=iE g b (l,jC n d)::osl 122 5 (.slice a o.length c) (o.flatMap ly)::mp d g::R) (kz rfl rfl s rfl) ?_;refine aw (aF rfl (ar Jv (b9u g b l (jC n d) aq (λe=>by rw[e]at w;exact absurd w cl) r)) ?_);rintro _ B_ ⟨x,A,rfl,x3,x4,x5,x6⟩;subst x3;have L:l.Perm (x::A):=x4.symm.trans (QaQ (l₁:=A) (l₂:=[x]));obtain⟨M,x7⟩:=b9g C q L λz hz=>x6 z (L.mem_iff.2 (Qaj _ hz));have x8:y0=x:=Qbn (u.symm.trans M);have x9:x.a≤t:=by rw[<-x8];omega
 have N:=b9i (n:=t) (f:=4-(o.length+1)) M x9;rw[show 4-(o.length+1)+1=4-o.length by omega]at N;rw[N]at j k;have xa:=Nh C λz=>z.p != x.p;have xc:(m.filter λz=>z.p != x.p).length≤m.length:=QaW _ _;refine ac (uN O3 (λ_ h=>n8) rfl) ?_;refine bU λbz=>?_;refine aJ aR (ac (cV (tK (l1:=ly x) (l2:=[iQ (x.p:Nat)]) (eQ (b:=bz)))) ?_);refine dh (ji FP FF c2p rfl (fK rfl rfl iH) rfl cl cl cl) λb2=>?_;refine aF rfl (fR (sz:=5) (by_:=48) (info:=Tryz.t122) FP ld rfl rfl rfl rfl cl rfl rfl eQ rfl rfl n5 aq) ?_;rintro _ _ ⟨a3,c3,rfl,rfl⟩;refine aw (nE (o++[x],m.filter (λz=>z.p != x.p),A,a3,c3) ?_ ?_ ?_ ?_);dsimp only;rw[Qaf,QaR];exact⟨aq,xa,x7,x5,aq,by rw[<-j,QaM];rfl,k⟩;show 4-(o++[x]).length<4-o.length;rw[Qaf,QaR];omega
 · rw [show (o ++ [x]).length = o.length + 1 by simp]
   exact ai
 dsimp only;rw[show(o++[x]).length=o.length+1 by simp,show(o++[x]).flatMap ly=o.flatMap ly++[ly x].flatten by simp];exact IO;refine ag ?_;have F:(iD t (4-o.length) m).1=[]/\(iD t (4-o.length) m).2=m:=by
  first
  | (have O : 4 - o.length = 0 := by omega
     rw[O];exact⟨rfl,rfl⟩)
  | (have G : m = [] := QaF (by omega)
     rw[Nt G,G];exact⟨rfl,rfl⟩)
  |(rw[Nu u (by omega)];exact⟨rfl,rfl⟩)
 rw[F.1,Qaq]at j;rw[F.2]at k;rw[<-j, <-k];refine⟨_,⟨a,c,rfl,rfl⟩,?_⟩;refine Ent.trans (B:=iE g b (l,jC n d)::osl 122 5 (.slice a o.length c) (o.flatMap ly)::mp d g::R) (kz rfl rfl s rfl) ?_;refine Ent.trans (B:=osl 122 5 (.slice a o.length c) (o.flatMap ly)::iE g b (l,jC n d)::mp d g::R) inferInstance ?_;exact Ent.cons (CQ W P S aq q r);refine ag ?_;have F:(iD t (4-o.length) m).1=[]/\(iD t (4-o.length) m).2=m:=by
  first
  | (have O : 4 - o.length = 0 := by omega
     rw[O];exact⟨rfl,rfl⟩)
  | (have G : m = [] := QaF (by omega)
     rw[Nt G,G];exact⟨rfl,rfl⟩)
  |(rw[Nu u (by omega)];exact⟨rfl,rfl⟩)
 rw[F.1,Qaq]at j;rw[F.2]at k;rw[<-j, <-k];refine⟨_,⟨a,c,rfl,rfl⟩,?_⟩;refine Ent.trans (B:=iE g b (l,jC n d)::osl 122 5 (.slice a o.length c) (o.flatMap ly)::mp d g::R) (kz rfl rfl s rfl) ?_;refine Ent.trans (B:=osl 122 5 (.slice a o.length c) (o.flatMap ly)::iE g b (l,jC n d)::mp d g::R) inferInstance ?_;exact Ent.cons (CQ W P S aq q r);refine ag ?_;have F:(iD t (4-o.length) m).1=[]/\(iD t (4-o.length) m).2=m:=by
  first
  | (have O : 4 - o.length = 0 := by omega
     rw[O];exact⟨rfl,rfl⟩)
  | (have G : m = [] := QaF (by omega)
     rw[Nt G,G];exact⟨rfl,rfl⟩)
  |(rw[Nu u (by omega)];exact⟨rfl,rfl⟩)
 rw[F.1,Qaq]at j;rw[F.2]at k;rw[<-j, <-k];refine⟨_,⟨a,c,rfl,rfl⟩,?_⟩;refine Ent.trans (B:=iE g b (l,jC n d)::osl 122 5 (.slice a o.length c) (o.flatMap ly)::mp d g::R) (kz rfl rfl s rfl) ?_;refine Ent.trans (B:=osl 122 5 (.slice a o.length c) (o.flatMap ly)::iE g b (l,jC n d)::mp d g::R) inferInstance ?_;exact Ent.cons (CQ W P S aq q r)
end
section
open Go.RowKit
set_option synthInstance.maxSize 4000
theorem NJ{D:Mx}(d:i<S.gs.length)(e:i<D.gbs.length){g:Gu}{a:List Prt}{z:Gz}(b:Zq (D.q S i) z wg):
    Ent (pt D.ho D.hO::D.go::kM (D.gb i) ⟨D.M.c,i,D.ps,D.pb,D.M.w i,⟨g,(S.at_ i).pg,(S.at_ i).bx⟩,S.fr⟩ z wg (aH D.ps S.fr::cz D.pb (D.ps,S.po)::dQ D.db S.dk::dC D.qb a::jO D.tb S.gt::kH 2 (bB (D.gs S (D.ot i)))::R))
      (dH D.ho (D,S.sl i { S.ls i with g:=g,pt:=a })::R):=
  NF (D:=D) (S:={ S with pt:=a }) (R:=R) d e (y:=⟨g,(S.at_ i).pg,(S.at_ i).bx⟩) ⟨b.c,b.i,b.ps,b.pb,b.w⟩
section
variable(W0:World)(R:List HP)(X:Hx)(hW:MxI W0 X.D)(S:Ms)(hM:MK X.D.M S)(N:Nat)(i:Nat)(hi:i<X.D.gbs.length)(x:It6)
include hW hM hi
omit hM hi in
theorem c0l(f:x.s.size<9223372036854775808)(e:du X.D.M.c i=none):sQ W0 118 [pV X.hv,iQ i,.agg (ly x).toArray] (pt X.hv (eD X N)::dH X.D.ho (X.D,S)::R) (.tuple #[]) (pt X.hv (eD X N)::dH X.D.ho (X.D,S)::R):=by refine am func118 ntmps118 ?_;refine bR λg=>?_;refine ac (cV (tK (l1:=dU X.D.M.c) (l2:=[pV X.D.ho,.slice X.D.a X.D.gbs.length X.D.cap,pV X.tb,pV X.ib,iQ N]) (eQ (b:=X.hv)))) ?_;refine eS (aK Da (Az X.D.M.c hW.ok.ok i)) ?_;rw[e,show dP none= -1 from Z];refine aw (ap (λd=>?_) λd=>?_);refine bP (.inl Z) .nil ?_;exact ax;exact absurd Z d
theorem c0m(hx:x.s.size<9223372036854775808)(hp:du X.D.M.c i≠none):sQ W0 118 [pV X.hv,iQ i,.agg (ly x).toArray] (pt X.hv (eD X N)::dH X.D.ho (X.D,S)::R) (.tuple #[]) (pt X.hv (eD X N)::dH X.D.ho (X.D,S.sl i (if qw S.pt (dP (du X.D.M.c i)) x.s=0 then { S.ls i with pt:=qx S.pt (dP (du X.D.M.c i)) x.s,g:=iO (S.at_ i).g 6 }else { S.ls i with pt:=qx S.pt (dP (du X.D.M.c i)) x.s }))::R):=by
 have hg:=yM hW hi;have hil:i<S.gs.length:=by rw[hM.len];exact hg
 have hB:=hM.gb i hg;have hps:=(hM.li i hg).pt.1;obtain⟨j,hj⟩:=Option.ne_none_iff_exists'.1 hp;obtain⟨port,hpt⟩:∃p,dP (du X.D.M.c i)=p:=⟨_,Z⟩
 have hp1:port≠ -1:=by rw[<-hpt,hj];show((j:Nat):Int)≠ -1;omega
 rw[hpt];refine am func118 ntmps118 ?_;refine bR λbx=>?_;refine ac (cV (tK (l1:=dU X.D.M.c) (l2:=[pV X.D.ho,.slice X.D.a X.D.gbs.length X.D.cap,pV X.tb,pV X.ib,iQ N]) (eQ (b:=X.hv)))) ?_;refine ao (aK Da (Az X.D.M.c hW.ok.ok i)) ?_;rw[hpt];apply aB Z<;>intro c2;omega;refine aw (NE (D:=X.D) hi λz wg hz=>?_);refine jV (E:=49) (sz:=1) (a:=X.D.a) (n:=X.D.gbs.length) (c:=X.D.cap) (λb=>[pV b]) X.D.gbs (λ_=>Z) cl (Ea pV X.D.gbs).symm (λhs=>?_);obtain⟨ga,o,hga,_⟩:=hs.at_ hi;have hc:=ND (W0:=W0) hga hi;refine dY [(X.hv,0,_),(bx,0,_)] 10 mixed Z (bj (bj bI)) (λhS=>?_);refine aj 0 4 hS ?_;refine aj 5 3 hS ?_;refine bQ 4 (ar call188 (c0d X.D.ho X.D.M.c X.D.ps X.D.pb X.D.db X.D.qb X.D.tb)) λhS=>?_;refine bQ 8 (ar call189 (a9a X.D.qb S.pt hps port x.s hx)) λhS=>?_;refine aj 9 1 hS ?_;refine aS (ap (λc3=>?_) λc3=>?_);have hae:qw S.pt port x.s=0:=aa4;rw[Qad hae];refine ac (g7 vI qP Z hga Z Z hi dg) ?_;refine ac (aY (bF.weak hc 0 _ Z)) ?_;refine ao (ar uE (t7 W0 _ (X.D.gb i) z (S.at_ i).g)) ?_;refine ao (ar vM (ui z.x.v (S.at_ i).g.ls (S.at_ i).g.ln 6 (by have:=hB.l;omega))) ?_;refine bP (.inr Z) .nil ?_;refine⟨_,⟨Z,Z⟩,?_⟩;refine Ent.trans (B:=pt X.hv (eD X N)::pt X.D.ho X.D.hO::X.D.go::kM (X.D.gb i) ⟨X.D.M.c,i,X.D.ps,X.D.pb,X.D.M.w i,⟨iO (S.at_ i).g 6,(S.at_ i).pg,(S.at_ i).bx⟩,S.fr⟩ z wg (aH X.D.ps S.fr::cz X.D.pb (X.D.ps,S.po)::dQ X.D.db S.dk::dC X.D.qb (qx S.pt port x.s)::jO X.D.tb S.gt::kH 2 (bB (X.D.gs S (X.D.ot i)))::R)) inferInstance ?_;exact Ent.cons (NJ hil hi hz);have hae:qw S.pt port x.s≠0:=aa4;rw[Qab hae];refine bP (.inr Z) .nil ?_;refine⟨_,⟨Z,Z⟩,?_⟩;refine Ent.trans (B:=pt X.hv (eD X N)::pt X.D.ho X.D.hO::X.D.go::kM (X.D.gb i) ⟨X.D.M.c,i,X.D.ps,X.D.pb,X.D.M.w i,⟨(S.at_ i).g,(S.at_ i).pg,(S.at_ i).bx⟩,S.fr⟩ z wg (aH X.D.ps S.fr::cz X.D.pb (X.D.ps,S.po)::dQ X.D.db S.dk::dC X.D.qb (qx S.pt port x.s)::jO X.D.tb S.gt::kH 2 (bB (X.D.gs S (X.D.ot i)))::R)) inferInstance ?_;exact Ent.cons (NJ hil hi hz)
theorem c0n:sQ W0 119 [pV X.hv,iQ i,.agg (ly x).toArray] (pt X.hv (eD X N)::dH X.D.ho (X.D,S)::R) (.tuple #[]) (pt X.hv (eD X N)::dH X.D.ho (X.D,S.sl i ((S.ls i).wg (iO (S.at_ i).g x.c)))::R):=by
 have m:=yM hW hi;have f:i<S.gs.length:=by rw[hM.len];exact m
 have p:=hM.gb i m;refine am func119 ntmps119 ?_;refine bR λq=>?_;refine NE (D:=X.D) hi λz r s=>?_;refine jV (E:=49) (sz:=1) (a:=X.D.a) (n:=X.D.gbs.length) (c:=X.D.cap) (λb=>[pV b]) X.D.gbs (λ_=>Z) cl (Ea pV X.D.gbs).symm (λt=>?_);obtain⟨u,o,e,_⟩:=t.at_ hi;have h:=ND (W0:=W0) e hi;refine dY [(X.hv,0,_),(q,0,_),(u,o+i*1,[pV (X.D.gb i)])] 11 mixed Z (bj (bj (dA h.weak bI))) (λd=>?_);refine aj 0 5 d ?_;refine aE 5 d (g7 vI qP Z e Z Z hi dg) ?_;refine aE 6 d (aY (n0 (k:=2) (j:=0) Z Z)) ?_;refine aj 8 2 d ?_;refine iX 7 Z Z (ar uE (t7 W0 _ (X.D.gb i) z (S.at_ i).g)) (bj (bj (dA h.weak bI))) λd=>?_;refine iX 10 Z Z (ar vM (ui z.x.v (S.at_ i).g.ls (S.at_ i).g.ln x.c (by have:=p.l;omega))) (bj (bj (dA h.weak bI))) λd=>?_;refine aS (bP (.inr Z) .nil ?_);refine⟨_,⟨Z,Z⟩,?_⟩;refine Ent.trans (B:=pt X.hv (eD X N)::pt X.D.ho X.D.hO::X.D.go::kM (X.D.gb i) ⟨X.D.M.c,i,X.D.ps,X.D.pb,X.D.M.w i,⟨iO (S.at_ i).g x.c,(S.at_ i).pg,(S.at_ i).bx⟩,S.fr⟩ z r (aH X.D.ps S.fr::cz X.D.pb (X.D.ps,S.po)::dQ X.D.db S.dk::dC X.D.qb S.pt::jO X.D.tb S.gt::kH 2 (bB (X.D.gs S (X.D.ot i)))::R)) inferInstance ?_;exact Ent.cons (NJ f hi s)
theorem c0o:sQ W0 120 [pV X.hv,iQ i,.agg (ly x).toArray] (pt X.hv (eD X N)::dH X.D.ho (X.D,S)::R) (.tuple #[]) (pt X.hv (eD X N)::dH X.D.ho (X.D,S.sl i (NG i (X.D.M.n i) (X.D.M.w i) (S.ls i)))::R):=by refine am func120 ntmps120 ?_;refine bR λe=>?_;refine Fz (D:=X.D) (S:=S) λd=>?_;obtain⟨f,o,a,c⟩:=d.at_ hi;have b:X.D.gbs[i]=X.D.gb i:=abp;rw[b]at c;refine aw (ac (g7 vI qP Z a Z Z hi dg) ?_);refine ac (aY (bF.weak c 0 _ Z)) ?_;refine ao (ar call151 (b95 hW hM hi)) ?_;refine bP (.inr Z) .nil ?_;exact ax
end
def xf(k:Int):FuncId:=if k=0 then 118 else if k=1 then 119 else 120
theorem c0p k args w:(callFunc (xf k) args).run Tryz.prog w=.ok (.enter (xf k) args) w:=by unfold xf;split;exact call118 args w;split;exact call119 args w;exact call120 args w
theorem c0q W0 R X(a:MxI W0 X.D)S(b:MK X.D.M S)N(i:Nat)(d:i<X.D.gbs.length)x(m:0≤x.k/\x.k≤2)(j:x.s.size<9223372036854775808):
    bE Tryz.prog W0 (xf x.k) [pV X.hv,iQ i,.agg (ly x).toArray] (pt X.hv (eD X N)::dH X.D.ho (X.D,S)::R) (λv B=>v=.tuple #[]/\B=pt X.hv (eD X N)::dH X.D.ho (X.D,S.sl i (vC X.D.M.c i (X.D.M.n i) (X.D.M.w i) x (S.ls i)))::R):=by
 have l:=yM a d;have h:i<S.gs.length:=by rw[b.len];exact l
 unfold xf vC;by_cases e:x.k=0;rw[Qad e,Qad e];by_cases f:du X.D.M.c i=none;rw[Qad f,WM h];exact c0l W0 R X a S N i x j f;rw[Qab f];exact c0m W0 R X a S b N i d x j f;rw[Qab e,Qab e];by_cases g:x.k=1;rw[Qad g,Qad g];exact c0n W0 R X a S b N i d x;rw[Qab g,Qab g];exact c0o W0 R X a S b N i d x
theorem c0r k:sQ W0 70 [iQ k] R (.func (.func (xf k)) #[] #[]) R:=by
 refine am func70 ntmps70 ?_;apply ap<;>intro a
 · refine ag (aP ?_)
   unfold xf;exact s7
 apply ap<;>intro b
 · refine ag (aP ?_)
   unfold xf;exact s7
 refine ag (aP ?_);unfold xf;exact s7
end
section
open Go.RowKit
set_option synthInstance.maxSize 4000
theorem WQ(h:LI c i L):yJ c i L≤360:=by have a:(fM false L.fr L.pg (dP (du c i)) L.g.qc L.pt).c≤8/\(fM false L.fr L.pg (dP (du c i)) L.g.qc L.pt).n≤72/\(fM false L.fr L.pg (dP (du c i)) L.g.qc L.pt).b≤288:=yF h.m.fr L.pg false (dP (du c i)) h.g.qc h.pt;unfold yJ;split;exact Qay _;show(fM false L.fr L.pg (dP (du c i)) L.g.qc L.pt).n+(fM false L.fr L.pg (dP (du c i)) L.g.qc L.pt).b≤360;omega
theorem WR{k b l t:Int}(h:MJ M S k b l t)(a:i<M.c.gl.length):AH M i S≤364:=by obtain⟨d,g,j⟩:=h.iq i;obtain⟨m,o,e,p⟩:=II (n:=(S.n:Nat)) 4 d;have f:=IJ (wl:=M.w i) h.r a (CO h.r a) (nv i S).1 (h.li i a) (h.gb i a) ⟨h.nn.2.1,h.nn.2.2.1,h.nn.2.2.2⟩;have q:=WQ f.li;unfold AH;have:(nv i S).1.length≤4:=e;omega
section
variable(W0:World)(R:List HP)(X:Hx)(hW:MxI W0 X.D)(S:Ms)
include hW
theorem WT{l0}(hM:MJ X.D.M S 600 9600 l0 600)(hl:l0≤599000)i(hi:i<X.D.gbs.length):sQ W0 28 [pV X.hv,iQ i] (pt X.hv (eD X S.n)::dH X.D.ho (X.D,S)::gC X.ib (X.D.M.c.gl.length,S.inp)::R) (iQ (AH X.D.M i S)) (pt X.hv (eD X S.n)::dH X.D.ho (X.D,AG X.D.M i S)::gC X.ib (X.D.M.c.gl.length,(AG X.D.M i S).inp)::R):=by
 have hlen:=hW.len;have hg:i<X.D.M.c.gl.length:=by rw[<-hlen];exact hi
 have hil:i<S.gs.length:=by rw[hM.len];exact hg
 have hg4:=(eI hM.r).g4;obtain⟨q1,q2,q3⟩:=hM.iq i;obtain⟨d1,d2,d3,d4⟩:=II (n:=(S.n:Nat)) 4 q1;obtain⟨u,hu⟩:∃u,nv i S=u:=⟨_,Z⟩
 have hu':iD (S.n:Nat) 4 (S.inp.getD i [])=u:=hu;rw[hu']at d1 d2 d3 d4;have hbg:AG X.D.M i S={ S.sl i (pd X.D.M.c i (kL X.D.M.c i (X.D.M.n i) (X.D.M.w i) u.1 (S.ls i)))with inp:=S.inp.set i u.2 }:=by rw[AG,hu]
 have hbk:AH X.D.M i S=u.1.length+yJ X.D.M.c i (kL X.D.M.c i (X.D.M.n i) (X.D.M.w i) u.1 (S.ls i)):=by rw[AH,hu]
 have hMt:∀k,MK X.D.M (S.sl i (kL X.D.M.c i (X.D.M.n i) (X.D.M.w i) (u.1.take k) (S.ls i))):=λk=>by
  have h2:(u.1.take k).length≤4:=aaz;exact(hM.bra hg (u.1.take k)).le aq aq aq aq
 rw[hbg,hbk];refine am func28 ntmps28 ?_;refine dY [(X.hv,0,_)] 11 mixed Z (bj bI) (λhS=>?_);refine aj 0 9 hS ?_;refine co 9 (ar call69 (c0k X.ib X.D.M.c.gl.length S.inp hg4 hM.il i hg q1 q2 (S.n:Nat))) ?_;clear hS;rintro _ B_ ⟨a,c,rfl,hB_⟩;subst hB_;rw[hu'];refine⟨aW,λhS=>?_⟩;refine aj 10 1 hS ?_;refine aS (fI (λk:Nat=>k≤u.1.length) (λk=>[(0,pV X.hv),(1,iQ i),(5,.slice a u.1.length c),(19,.slice a u.1.length c),(20,iQ (u.1.length:Nat)),(21,iQ k)]) (λk=>osl 122 5 (.slice a u.1.length c) (u.1.flatMap ly)::pt X.hv (eD X S.n)::dH X.D.ho (X.D,S.sl i (kL X.D.M.c i (X.D.M.n i) (X.D.M.w i) (u.1.take k) (S.ls i)))::gC X.ib (X.D.M.c.gl.length,S.inp.set i u.2)::R) (λk=>u.1.length-k) 0 ?_ ?_ ?_ ?_);exact Qay _
 · exact ai
 show Ent _ (osl 122 5 (.slice a u.1.length c) (u.1.flatMap ly)::pt X.hv (eD X S.n)::dH X.D.ho (X.D,S.sl i (S.ls i))::gC X.ib (X.D.M.c.gl.length,S.inp.set i u.2)::R);rw[WM hil];exact IO;intro k hk;refine aw (ap (λc3=>?_) λc3=>?_);have hk1:k<u.1.length:=aq;obtain⟨x,hx⟩:∃x,u.1[k]=x:=⟨_,Z⟩
 have hxm:x∈S.inp.getD i []:=d4 x (by rw[<-hx];exact QaC hk1);have hT:=b96 (c:=X.D.M.c) (i:=i) (n:=X.D.M.n i) (wl:=X.D.M.w i) (L:=S.ls i) hk1;rw[hx]at hT;refine jV (E:=122) (sz:=5) (a:=a) (n:=u.1.length) (c:=c) ly u.1 (λ_=>Z) cl Z (λhs=>?_);obtain⟨ga,o,hga,hc⟩:=hs.at_ hk1;rw[hx]at hc;refine aw (ac (g7 FP FF Z hga Z Z hk1 dg) ?_);refine ac (cV hc) ?_;refine bU λbx=>?_;refine aJ aR (ao (aK call70 (c0r x.k)) ?_);have hxi:=q3 x hxm;have hMk:=hMt k;refine ao (qe (B:=pt X.hv (eD X S.n)::dH X.D.ho (X.D,S.sl i (kL X.D.M.c i (X.D.M.n i) (X.D.M.w i) (u.1.take k) (S.ls i)))::osl 122 5 (.slice a u.1.length c) (u.1.flatMap ly)::gC X.ib (X.D.M.c.gl.length,S.inp.set i u.2)::R) inferInstance (iV (us:=[]) (cs:=[]) Z (c0p x.k) Z (c0q W0 _ X hW (S.sl i (kL X.D.M.c i (X.D.M.n i) (X.D.M.w i) (u.1.take k) (S.ls i))) hMk S.n i hi x hxi.1 hxi.2))) ?_;rw[WL,NH hil, <-hT];exact ac cK (d8 (k+1) aq);obtain rfl:k=u.1.length:=aq;have hMk:=hMt u.1.length;rw[QbF]at hMk ⊢;have hLk:=hMk.li i hg;rw[NH hil]at hLk;have hrx:=WQ hLk;refine Fz (D:=X.D) (S:=S.sl i (kL X.D.M.c i (X.D.M.n i) (X.D.M.w i) u.1 (S.ls i))) λhs=>?_;obtain⟨ga,o,hga,_⟩:=hs.at_ hi;have hc:=WJ (W0:=W0) hga hi;refine dY [(X.hv,0,_),(ga,o+i*1,[pV (X.D.gb i)])] 17 mixed Z (bj (dA aan bI)) (λhS=>?_);refine aj 0 11 hS ?_;refine aE 11 hS (g7 vI qP Z hga Z Z hi dg) ?_;refine aE 12 hS (aY (n0 (k:=1) (j:=0) Z Z)) ?_;refine aj 13 1 hS ?_;refine co 14 (ar call71 (b9d hW hMk hi)) ?_;clear hS;rintro _ B_ ⟨rfl,hB_⟩;subst hB_;rw[WL,NH hil];refine⟨(bj (dA aan bI)),λhS=>?_⟩;refine aE 15 hS (dI Z Z (n7:_=((u.1.length+yJ X.D.M.c i (kL X.D.M.c i (X.D.M.n i) (X.D.M.w i) u.1 (S.ls i)):Nat):Int))) ?_;refine aj 16 1 hS ?_;refine aS (ag ⟨_,⟨Z,Z⟩,?_⟩);show Ent _ (pt X.hv (eD X S.n)::dH X.D.ho (X.D,S.sl i (pd X.D.M.c i (kL X.D.M.c i (X.D.M.n i) (X.D.M.w i) u.1 (S.ls i))))::gC X.ib (X.D.M.c.gl.length,S.inp.set i u.2)::R);exact IO
end
end
section
open Go.RowKit
abbrev fG(M:Mw)(S:Ms):Tn:=ka M.c.sl S.n
def pj(M:Mw)(S:Ms):Nat->Ms
 |0=>S
 |1=>jA M S
 |2=>oo M S
 |3=>pf M S
 |_=>oq M S
def mW(M:Mw)(S:Ms):Nat->Int
 |0=>1
 |1=>1+(yK M (fG M S) S:Nat)
 |2=>1+(yK M (fG M S) S:Nat)+(yL M (fG M S) (jA M S):Nat)
 |3=>1+(yK M (fG M S) S:Nat)+(yL M (fG M S) (jA M S):Nat)
 |_=>AM M S
def FA(M:Mw)(S:Ms):Nat->Int
 |0=>0
 |1=>0
 |2=>0
 |_=>rX M S
@[reducible] def s9(t:Tn)(x w:Int):List Value:=[.int .i64 t.g,.int .i64 t.s,.int .i64 t.o,.int .i64 t.f,.int .i64 x,.int .i64 w]
structure StOk (M : Mw) (S : Ms) (g : Nat) : Prop where
  e : (fG M S).g = (g : Int)
  hg : g < M.c.gl.length
  o : 0 ≤ (fG M S).o
  h0 : MJ M S 500 9000 500000 500
  h1 : MJ M (jA M S) 500 9000 500500 500
  h2 : MJ M (oo M S) 500 9000 500505 500
  h3 : MJ M (pf M S) 501 9006 500506 500
  h4 : MJ M (oq M S) 501 9006 500507 501
theorem StOk.of{M S}(h:MJ M S 500 9000 500000 500):∃g,StOk M S g:=by
 obtain⟨g,e,a,_,f⟩:=IK h.r S.n;have b:MJ M (jA M S) 500 9000 500500 500:=by
  unfold jA CM;split;exact h.dl;exact h.le (Qan _) (Qan _) aq (Qan _)
 have d:MJ M (oo M S) 500 9000 500505 500:=by
  unfold oo AK;split;rw[e,Qae];exact b.bg a;exact b.le (Qan _) (Qan _) aq (Qan _)
 have c:MJ M (pf M S) 501 9006 500506 500:=by
  unfold pf CN;rw[e,Qae];exact d.st a
 have i:MJ M (oq M S) 501 9006 500507 501:=by
  unfold oq AL;split;rw[e,Qae];exact c.do_ aq a;exact c.le (Qan _) (Qan _) aq aq
 exact⟨g,e,a,f,h,b,d,c,i⟩
theorem StOk.k1{M S g}(a:StOk M S g):mW M S 1≤40000/\0≤mW M S 1:=by
 have b:=(eI a.h0.r).g4;have d:=(eI a.h0.r).g1;have e:=a.h0.gl;have h:(mo S.gt).length≤S.gt.l.length:=abq;have i:=IX (c:=M.c) b (mo S.gt) 0 λr f=>(a.h0.li 0 aq).gt.sz r (QbC f);have j:yK M (fG M S) S≤64*500:=by
  unfold yK AJ;split<;>omega
 show 1+((yK M (fG M S) S:Nat):Int)≤40000/\0≤1+((yK M (fG M S) S:Nat):Int);omega
theorem MJ.mk'{k b l t:Int}(h:MJ M S k b l t)(a:k≤600)(c:b≤9600)(d:l≤600000)(e:t≤600):MK M S:=h.le a c d e
end
section
open Go.RowKit
set_option synthInstance.maxSize 4000
abbrev pn(X:Hx)(S:Ms)(k:Nat)(bt bh bd:Nat)(R:List HP):List HP:=pt bt (ae (tj (fG X.D.M S)) 43)::pt bh (ae [pV X.hv] 37)::pt bd (ae (s9 (fG X.D.M S) (FA X.D.M S k) (mW X.D.M S k)) 45)::pt X.hv (eD X S.n)::dH X.D.ho (X.D,pj X.D.M S k)::gC X.ib (X.D.M.c.gl.length,(pj X.D.M S k).inp)::R
theorem c0s{c i L}(w:rt c=true)(h:LI c i L):0≤(jz c i L).k/\(jz c i L).k≤5000:=by
 have a:∀{p:Prop} [Decidable p] {x y:Lr},(0≤x.k/\x.k≤5000)->(0≤y.k/\y.k≤5000)->(0≤(if p then x else y).k/\(if p then x else y).k≤5000):=λ{p} _ {x y} u v=>by
  by_cases q:p;rw[Qad q];exact u;rw[Qab q];exact v
 have z:(0:Int)≤0/\(0:Int)≤5000:=cl;have d:=N5 h.m.fr L.pg (cC c i).1 h.g.qa h.dk;have f:=yF h.m.fr L.pg true (dP (du c i)) h.g.qb h.pt;have j:=yF h.m.fr L.pg false (dP (du c i)) h.g.qc h.pt;unfold jz;refine a ?_ (a ?_ (a ?_ (a ?_ (a ?_ ?_))));unfold wZ;refine a z (a ?_ (a z (a ?_ ?_)));show(0:Int)≤(((ml L.fr L.pg (cC c i).1 L.g.qa L.dk).n+(ml L.fr L.pg (cC c i).1 L.g.qa L.dk).b:Nat):Int)/\(((ml L.fr L.pg (cC c i).1 L.g.qa L.dk).n+(ml L.fr L.pg (cC c i).1 L.g.qa L.dk).b:Nat):Int)≤5000;change (ml L.fr L.pg (cC c i).1 L.g.qa L.dk).c≤8/\_ at d;have o:(ml L.fr L.pg (cC c i).1 L.g.qa L.dk).n≤72:=d.2.1;have t:(ml L.fr L.pg (cC c i).1 L.g.qa L.dk).b≤4096:=d.2.2;omega;show(0:Int)≤(((fM true L.fr L.pg (dP (du c i)) L.g.qb L.pt).n+(fM true L.fr L.pg (dP (du c i)) L.g.qb L.pt).b:Nat):Int)/\(((fM true L.fr L.pg (dP (du c i)) L.g.qb L.pt).n+(fM true L.fr L.pg (dP (du c i)) L.g.qb L.pt).b:Nat):Int)≤5000;have o:(fM true L.fr L.pg (dP (du c i)) L.g.qb L.pt).n≤72:=f.2.1;have t:(fM true L.fr L.pg (dP (du c i)) L.g.qb L.pt).b≤288:=f.2.2;omega;show(0:Int)≤(((fM false L.fr L.pg (dP (du c i)) L.g.qc L.pt).n+(fM false L.fr L.pg (dP (du c i)) L.g.qc L.pt).b:Nat):Int)/\(((fM false L.fr L.pg (dP (du c i)) L.g.qc L.pt).n+(fM false L.fr L.pg (dP (du c i)) L.g.qc L.pt).b:Nat):Int)≤5000;have o:(fM false L.fr L.pg (dP (du c i)) L.g.qc L.pt).n≤72:=j.2.1;have t:(fM false L.fr L.pg (dP (du c i)) L.g.qc L.pt).b≤288:=j.2.2;omega;unfold p9;exact a z z;unfold x9;exact a z (a z (a z z));unfold xa;refine a z ?_;show(0:Int)≤(if mi L.gt i (L.r 2) (lw L).length=0 then((lw L).length:Int)else 0)/\(if mi L.gt i (L.r 2) (lw L).length=0 then((lw L).length:Int)else 0)≤5000;split
 rename_i q
 have:(lw L).length≤16:=by
  unfold mi at q
  (repeat' split at q)<;>first|omega|(exact absurd q cl)
 omega;exact z;unfold xb;refine a z ?_
 cases e:L.bx with
 |nil=>exact z
 |cons s l=>
  have:=h.bx.2 s aa3;show(0:Int)≤(s.size:Nat)/\((s.size:Nat):Int)≤5000;omega
 unfold yH;refine a z (a z (a z (a z (a z (a ?_ (a z (a z (a z (a z z)))))))));unfold vA;exact a z z
section
variable(W0:World)(R:List HP)(X:Hx)(hW:MxI W0 X.D)(S:Ms)(g:Nat)(hS:StOk X.D.M S g)(bt bh bd:Nat)
include hW hS
theorem c0t(hfn:0≤S.gt.fn/\S.gt.fn<1000000000):sQ W0 25 ([]++[]++[pV bt,pV bh,pV bd]) (pn X S 0 bt bh bd R) (.tuple #[]) (pn X S 1 bt bh bd R):=by
 simp only[Qaq,Qar];obtain⟨T,hT⟩:∃T,fG X.D.M S=T:=⟨_,Z⟩
 have hTo:=hS.o;have hdk:AJ X.D.M.c S≤64*600:=by
  have hg4:=(eI hS.h0.r).g4;have hg1:=(eI hS.h0.r).g1;have hgl:=hS.h0.gl;have h3:(mo S.gt).length≤S.gt.l.length:=abq;have h2:=IX (c:=X.D.M.c) hg4 (mo S.gt) 0 λr hr=>(hS.h0.li 0 aq).gt.sz r (QbC hr);unfold AJ;omega
 have hA1:pj X.D.M S 1=if T.s=0/\T.o=0/\0<S.n then AI X.D.M.c S else S:=by rw[<-hT];rfl
 have hK1:mW X.D.M S 1=1+((if T.s=0/\T.o=0/\0<S.n then AJ X.D.M.c S else 0:Nat):Int):=by rw[<-hT];rfl
 have hM0:=hS.h0.le (k':=600) (b':=9600) (l':=500000) (t':=600) cl cl cl cl;refine ig (B:=pt bt (ae (tj T) 43)::pt bh (ae [pV X.hv] 37)::pt bd (ae (s9 T 0 1) 45)::pt X.hv (eD X S.n)::dH X.D.ho (X.D,S)::gC X.ib (X.D.M.c.gl.length,S.inp)::R) (by rw[<-hT];exact ent_refl) ?_;show bE _ W0 _ _ _ (λv B=>v=.tuple #[]/\B=pt bt (ae (tj (fG X.D.M S)) 43)::pt bh (ae [pV X.hv] 37)::pt bd (ae (s9 (fG X.D.M S) 0 (mW X.D.M S 1)) 45)::pt X.hv (eD X S.n)::dH X.D.ho (X.D,pj X.D.M S 1)::gC X.ib (X.D.M.c.gl.length,(pj X.D.M S 1).inp)::R);rw[hA1,hK1,hT];refine am func25 ntmps25 ?_;refine e9 (λg0_4=>?_) λg0_4=>?_;refine e9 (λg0_9=>?_) λg0_9=>?_;refine ap (λc0=>?_) λc0=>?_;refine bH [bh] 7 λhS=>?_;refine aj 0 1 hS ?_;refine aj 2 1 hS ?_;refine fp (is:=[1,3]) ld Z ⟨?_,?_,trivial⟩;refine dB (dJ (aY (aO Z))) ?_;clear hS;rintro _ _ ⟨rfl,rfl⟩;refine⟨aW,λhS=>?_⟩;refine bQ 3 (dj call26 (WO W0 _ X hW S S.n hM0 cl hfn)) λhS=>?_;refine aE 4 hS cK ?_;refine aj 5 1 hS ?_;refine cp 6 dr λhS=>?_;refine aS (bP (.inr Z) .nil ?_);rw[Qad ⟨aq,aq,aq⟩,Qad ⟨aq,aq,aq⟩,show(AI X.D.M.c S).inp=S.inp from Z];exact ax;skip;refine dB (dj call26 (WO W0 _ X hW S S.n hM0 cl hfn)) ?_;clear hS;rintro _ B_ ⟨rfl,hB_⟩;obtain rfl:=hB_.symm;refine⟨aW,λhS=>?_⟩;refine bQ 1 (dJ (aY (aO Z))) λhS=>?_;refine aE 4 hS cK ?_;refine aj 5 1 hS ?_;refine cp 6 dr λhS=>?_;refine aS (bP (.inr Z) .nil ?_);rw[Qad ⟨aq,aq,aq⟩,Qad ⟨aq,aq,aq⟩,show(AI X.D.M.c S).inp=S.inp from Z];exact ax;refine bP (.inr Z) .nil ?_;rw[Qab aab,Qab aab,show(1:Int)+((0:Nat):Int)=1 from Z];exact ax;refine bP (.inr Z) .nil ?_;rw[Qab aab,Qab aab,show(1:Int)+((0:Nat):Int)=1 from Z];exact ax;refine bP (.inr Z) .nil ?_;rw[Qab aab,Qab aab,show(1:Int)+((0:Nat):Int)=1 from Z];exact ax
theorem c0u:sQ W0 27 ([]++[]++[pV bt,pV bd,pV bh]) (pn X S 1 bt bh bd R) (.tuple #[]) (pn X S 2 bt bh bd R):=by
 simp only[Qaq,Qar];obtain⟨T,hT⟩:∃T,fG X.D.M S=T:=⟨_,Z⟩
 obtain⟨A1,hA1⟩:∃A,jA X.D.M S=A:=⟨_,Z⟩
 obtain⟨K1,hK1⟩:∃A,mW X.D.M S 1=A:=⟨_,Z⟩
 have hTg:T.g=(g:Int):=by rw[<-hT];exact hS.e
 have hTo:0≤T.o:=by rw[<-hT];exact hS.o
 have hn1:A1.n=S.n:=by rw[<-hA1];unfold jA CM;split<;>rfl
 have h1:=hS.h1;rw[hA1]at h1;have hgb:g<X.D.gbs.length:=by rw[hW.len];exact hS.hg
 have hA2:pj X.D.M S 2=if T.o=0 then AG X.D.M g A1 else A1:=by
  show AK X.D.M (fG X.D.M S) (jA X.D.M S)=_;rw[hT,hA1,AK,hTg,Qae]
 have hK2:mW X.D.M S 2=K1+((if T.o=0 then AH X.D.M g A1 else 0:Nat):Int):=by
  show mW X.D.M S 1+((yL X.D.M (fG X.D.M S) (jA X.D.M S):Nat):Int)=_;rw[hK1,hT,hA1,yL,hTg,Qae]
 have hb1:K1≤40000/\0≤K1:=by rw[<-hK1];exact hS.k1
 have hb2:=WR h1 hS.hg;have hM1:=h1.le (k':=600) (b':=9600) (l':=500500) (t':=600) cl cl cl cl;refine ig (B:=pt bt (ae (tj T) 43)::pt bh (ae [pV X.hv] 37)::pt bd (ae (s9 T 0 K1) 45)::pt X.hv (eD X A1.n)::dH X.D.ho (X.D,A1)::gC X.ib (X.D.M.c.gl.length,A1.inp)::R) (by rw[<-hT, <-hK1,hn1, <-hA1];exact ent_refl) ?_;show bE _ W0 _ _ _ (λv B=>v=.tuple #[]/\B=pt bt (ae (tj (fG X.D.M S)) 43)::pt bh (ae [pV X.hv] 37)::pt bd (ae (s9 (fG X.D.M S) 0 (mW X.D.M S 2)) 45)::pt X.hv (eD X S.n)::dH X.D.ho (X.D,pj X.D.M S 2)::gC X.ib (X.D.M.c.gl.length,(pj X.D.M S 2).inp)::R);rw[hA2,hK2,hT, <-hn1];obtain⟨tg,ts,to_,tf⟩:=T;dsimp only at hTg hTo;subst hTg;refine am func27 ntmps27 ?_;apply ap<;>intro c0;refine bH [bt,bh] 9 λhS=>?_;refine aj 0 1 hS ?_;refine aj 2 3 hS ?_;refine fp (is:=[1,5]) ld Z ⟨?_,?_,trivial⟩;refine dB (dJ (aY (aO Z))) ?_;clear hS;rintro _ _ ⟨rfl,rfl⟩;refine⟨aW,λhS=>?_⟩;refine bQ 5 (dF call28 (WT W0 _ X hW A1 hM1 cl g hgb)) λhS=>?_;refine aE 6 hS cK ?_;refine aj 7 1 hS ?_;refine cp 8 dr λhS=>?_;refine aS (bP (.inr Z) .nil ?_);rw[Qad aq,Qad aq];exact ax;skip;refine dB (dF call28 (WT W0 _ X hW A1 hM1 cl g hgb)) ?_;clear hS;rintro _ B_ ⟨rfl,hB_⟩;subst hB_;refine⟨aW,λhS=>?_⟩;refine bQ 1 (dJ (aY (aO Z))) λhS=>?_;refine aE 6 hS cK ?_;refine aj 7 1 hS ?_;refine cp 8 dr λhS=>?_;refine aS (bP (.inr Z) .nil ?_);rw[Qad aq,Qad aq];exact ax;refine bP (.inr Z) .nil ?_;rw[Qab (by omega),Qab (by omega),show K1+((0:Nat):Int)=K1 by omega];exact ax
theorem c0v(hK:∀A,bF (aQ W0 A) 1 0 ja)(hH:∀A,bF (aQ W0 A) 0 0 ko):sQ W0 29 ([]++[]++[pV bh,pV bt,pV bd]) (pn X S 2 bt bh bd R) (.tuple #[]) (pn X S 3 bt bh bd R):=by
 simp only[Qaq,Qar];obtain⟨T,hT⟩:∃T,fG X.D.M S=T:=⟨_,Z⟩
 obtain⟨A2,hA2⟩:∃A,oo X.D.M S=A:=⟨_,Z⟩
 obtain⟨K2,hK2⟩:∃A,mW X.D.M S 2=A:=⟨_,Z⟩
 have hTg:T.g=(g:Int):=by rw[<-hT];exact hS.e
 have h2:=hS.h2;rw[hA2]at h2;have hgb:g<X.D.gbs.length:=by rw[hW.len];exact hS.hg
 have hA3:pj X.D.M S 3=A2.sl g (tc g (A2.ls g)):=by
  show CN (fG X.D.M S) (oo X.D.M S)=_;rw[hT,hA2,CN,hTg,Qae]
 have hE3:FA X.D.M S 3=Ni g (A2.ls g):=by
  show Nj (fG X.D.M S) (oo X.D.M S)=_;rw[hT,hA2,Nj,hTg,Qae]
 have hM2:MK X.D.M A2:=h2.mk' cl cl cl cl;refine ig (B:=pt bt (ae (tj T) 43)::pt bh (ae [pV X.hv] 37)::pt bd (ae (s9 T 0 K2) 45)::pt X.hv (eD X S.n)::dH X.D.ho (X.D,A2)::gC X.ib (X.D.M.c.gl.length,A2.inp)::R) (by rw[<-hT, <-hK2, <-hA2];exact ent_refl) ?_;show bE _ W0 _ _ _ (λv B=>v=.tuple #[]/\B=pt bt (ae (tj (fG X.D.M S)) 43)::pt bh (ae [pV X.hv] 37)::pt bd (ae (s9 (fG X.D.M S) (FA X.D.M S 3) (mW X.D.M S 2)) 45)::pt X.hv (eD X S.n)::dH X.D.ho (X.D,pj X.D.M S 3)::gC X.ib (X.D.M.c.gl.length,(pj X.D.M S 3).inp)::R);rw[hA3,hE3,hK2,hT];obtain⟨tg,ts,to_,tf⟩:=T;dsimp only at hTg;subst hTg;refine am func29 ntmps29 ?_;refine Fz (D:=X.D) (S:=A2) λhs=>?_;obtain⟨ga,o,hga,_⟩:=hs.at_ hgb;have hc:=WJ (W0:=W0) hga hgb;refine dY [(bh,0,_),(X.hv,0,_),(bt,0,_),(ga,o+g*1,[pV (X.D.gb g)])] 11 mixed Z (bj (bj (bj (dA aar bI)))) (λhS=>?_);refine aj 0 6 hS ?_;refine aE 6 hS (g7 vI qP Z hga Z Z hgb dg) ?_;refine aE 7 hS (aY (n0 (k:=3) (j:=0) Z Z)) ?_;refine iX 8 Z Z (ar call30 (b9b hW hM2 hgb hK hH)) (bj (bj (bj (dA aar bI)))) λhS=>?_;refine aj 9 1 hS ?_;refine lI 10 Z Z dr (bj (bj (bj (dA aar bI)))) λhS=>?_;refine aS (bP (.inr Z) .nil ?_);exact ax
theorem c0w:sQ W0 31 ([]++[]++[pV bd,pV bh,pV bt]) (pn X S 3 bt bh bd R) (.tuple #[]) (pn X S 4 bt bh bd R):=by
 simp only[Qaq,Qar];obtain⟨T,hT⟩:∃T,fG X.D.M S=T:=⟨_,Z⟩
 obtain⟨A3,hA3⟩:∃A,pf X.D.M S=A:=⟨_,Z⟩
 obtain⟨K3,hK3⟩:∃A,mW X.D.M S 3=A:=⟨_,Z⟩
 obtain⟨E3,hE3⟩:∃A,rX X.D.M S=A:=⟨_,Z⟩
 have hTg:T.g=(g:Int):=by rw[<-hT];exact hS.e
 have h3:=hS.h3;rw[hA3]at h3;have hgb:g<X.D.gbs.length:=by rw[hW.len];exact hS.hg
 have hA4:pj X.D.M S 4=if E3=3 then qL X.D.M g A3 else A3:=by
  show AL X.D.M (fG X.D.M S) (rX X.D.M S) (pf X.D.M S)=_;rw[hT,hA3,hE3,AL,hTg,Qae]
 have hK4:mW X.D.M S 4=K3+if E3=3 then(jz X.D.M.c g (A3.ls g)).k else 0:=by
  show mW X.D.M S 3+Nk X.D.M (fG X.D.M S) (rX X.D.M S) (pf X.D.M S)=_;rw[hK3,hT,hA3,hE3,Nk,hTg,Qae]
 have hM3:MK X.D.M A3:=h3.mk' cl cl cl cl;have hck:=c0s hM3.r (hM3.li g hS.hg);have hk3:K3≤41000/\0≤K3:=by
  have q1:=hS.k1;have q2:=WR hS.h1 hS.hg;have q3:mW X.D.M S 3=mW X.D.M S 1+((yL X.D.M (fG X.D.M S) (jA X.D.M S):Nat):Int):=Z;have q4:yL X.D.M (fG X.D.M S) (jA X.D.M S)≤364:=by
   rw[hT,yL,hTg,Qae];split;exact q2;exact Qay _
  rw[<-hK3,q3];omega
 refine ig (B:=pt bt (ae (tj T) 43)::pt bh (ae [pV X.hv] 37)::pt bd (ae (s9 T E3 K3) 45)::pt X.hv (eD X S.n)::dH X.D.ho (X.D,A3)::gC X.ib (X.D.M.c.gl.length,A3.inp)::R) (by rw[<-hT, <-hK3, <-hE3, <-hA3];exact ent_refl) ?_;show bE _ W0 _ _ _ (λv B=>v=.tuple #[]/\B=pt bt (ae (tj (fG X.D.M S)) 43)::pt bh (ae [pV X.hv] 37)::pt bd (ae (s9 (fG X.D.M S) (rX X.D.M S) (mW X.D.M S 4)) 45)::pt X.hv (eD X S.n)::dH X.D.ho (X.D,pj X.D.M S 4)::gC X.ib (X.D.M.c.gl.length,(pj X.D.M S 4).inp)::R);rw[hA4,hK4,hE3,hT];obtain⟨tg,ts,to_,tf⟩:=T;dsimp only at hTg;subst hTg;have hin:(qL X.D.M g A3).inp=A3.inp:=by unfold qL;split<;>rfl
 refine am func31 ntmps31 ?_;apply ap<;>intro c0;refine dY [(bh,0,_),(X.hv,0,_),(bt,0,_)] 16 mixed Z (bj (bj (bj bI))) (λhS=>?_);refine aj 0 10 hS ?_;refine bQ 10 (ar call32 (b9e hW hM3 hgb)) λhS=>?_;refine aj 11 5 hS ?_;refine aS (ac cK (aJ dr (bP (.inr Z) .nil ?_)));rw[Qad aq,Qad aq,hin];exact ax;refine bP (.inr Z) .nil ?_;rw[Qab aq,Qab aq,Int.add_zero];exact ax
end
def IZ:Nat->FuncId
 |0=>25
 |1=>27
 |2=>29
 |_=>31
def J0(bt bh bd:Nat):Nat->List Value
 |0=>[pV bt,pV bh,pV bd]
 |1=>[pV bt,pV bd,pV bh]
 |2=>[pV bh,pV bt,pV bd]
 |_=>[pV bd,pV bh,pV bt]
abbrev iR(bt bh bd k:Nat):Value:=.func (.func (IZ k)) #[] (J0 bt bh bd k).toArray
theorem WU k args w:(callFunc (IZ k) args).run Tryz.prog w=.ok (.enter (IZ k) args) w:=by
 match k with
 |0=>exact call25 args w
 |1=>exact call27 args w
 |2=>exact call29 args w
 |k+3=>exact call31 args w
theorem c0x W0 R X(a:MxI W0 X.D)S g(b:StOk X.D.M S g)bt bh bd(c:0≤S.gt.fn/\S.gt.fn<1000000000)(d:∀A,bF (aQ W0 A) 1 0 ja)(e:∀A,bF (aQ W0 A) 0 0 ko)k(f:k<4):
    bE Tryz.prog W0 (IZ k) ([]++[]++J0 bt bh bd k) (pn X S k bt bh bd R) (λv B=>v=.tuple #[]/\B=pn X S (k+1) bt bh bd R):=by
 match k,f with
 |0,_=>exact c0t W0 R X a S g b bt bh bd c
 |1,_=>exact c0u W0 R X a S g b bt bh bd
 |2,_=>exact c0v W0 R X a S g b bt bh bd d e
 |3,_=>exact c0w W0 R X a S g b bt bh bd
theorem WV(a b c:Nat)(d:k<4):[iR a b c 0,iR a b c 1,iR a b c 2,iR a b c 3][k]?=some (iR a b c k):=by
 match k,d with
 |0,_=>rfl
 |1,_=>rfl
 |2,_=>rfl
 |3,_=>rfl
theorem FB X n:sQ W0 23 [pV X.hv] (pt X.hv (eD X n)::R) (.bool false) (pt X.hv (eD X n)::R):=by refine am func23 ntmps23 ?_;apply d7 Z Z Z<;>intro a;cases a;exact aw (ag ax)
theorem c0y(X:Hx)(hW:MxI W0 X.D)S(hM:MJ X.D.M S 500 9000 500000 500)(hn:S.n<1000000)(hfn:0≤S.gt.fn/\S.gt.fn<1000000000)(hK:∀A,bF (aQ W0 A) 1 0 ja)(hH:∀A,bF (aQ W0 A) 0 0 ko):sQ W0 9 [pV X.hv] (X.H S R) (.tuple #[.agg (s9 (fG X.D.M S) (rX X.D.M S) (AM X.D.M S)).toArray,iQ 0]) (X.H (uu X.D.M S) R):=by
 obtain⟨g,hS⟩:=StOk.of hM;obtain⟨s1,s2,s3⟩:=IG hM.r;obtain⟨T,hT⟩:∃T,fG X.D.M S=T:=⟨_,Z⟩
 have hF:=λR bt bh bd k hk=>c0x W0 R X hW S g hS bt bh bd hfn hK hH k hk;refine am func9 ntmps9 ?_;refine dh (fQ Z Z) λbh=>?_;refine bU λbr=>?_;refine ao (ar JK (FB X S.n)) ?_;refine dY [(bh,0,_),(X.hv,0,_)] 15 mixed Z (bj (bj bI)) (λhS=>?_);refine aj 0 8 hS ?_;refine fp (is:=[8,12]) ld Z ⟨?_,?_,trivial⟩;refine dB (ar call24 (WI W0 _ X.tb X.D.M.c.sl s1 s2 s3 S.n aq)) ?_;clear hS;rintro _ B_ ⟨rfl,hB_⟩;obtain rfl:=hB_.symm;refine⟨aW,λhS=>?_⟩;refine aj 9 3 hS ?_;refine co 12 (cP Oi) ?_;clear hS;rintro _ _ ⟨bt,rfl,rfl⟩;refine⟨aW,λhS=>?_⟩;refine cp 13 aR λhS=>?_;refine aj 14 1 hS ?_;refine eY (au 8 (et (aa Z (eH Jk Jn (aT xg (aT bu (aT bu eG))) (iU Z xg Z Z (Qaa Z) SetRL.eq (cJ Z bu Z Z (Qaa Z) SetL.eq eE))) ?_)));refine bU λbd=>?_;refine aJ aR ?_;refine dh (lG XM Xg zeroValue1 Z Z Z Z Z cl cl) λbp=>?_;refine fI (λk:Nat=>k≤4) (λk=>[(1,pV bh),(2,pV br),(6,pV bd),(36,.slice (some ⟨bp,0,none⟩) 4 4),(37,iQ 4),(38,iQ k)]) (λk=>pt br (ae [iQ 0,iQ 0,iQ 0,iQ 0,iQ 0,iQ 0] 45)::pt bp (ae [iR bt bh bd 0,iR bt bh bd 1,iR bt bh bd 2,iR bt bh bd 3] 1)::pn X S k bt bh bd (qN X.tb X.D.M.c.sl::R)) (λk=>4-k) 0 ?_ ?_ ?_ ?_;exact Qay _
 · repeat (first|exact cQ|refine cA rfl ?_)
 show Ent _ (pt br (ae [iQ 0,iQ 0,iQ 0,iQ 0,iQ 0,iQ 0] 45)::pt bp (ae [.func (.func 25) #[] #[pV bt,pV bh,pV bd],.func (.func 27) #[] #[pV bt,pV bd,pV bh],.func (.func 29) #[] #[pV bh,pV bt,pV bd],.func (.func 31) #[] #[pV bd,pV bh,pV bt]] 1)::pt bt (ae (tj (ka X.D.M.c.sl S.n)) 43)::pt bh (ae [pV X.hv] 37)::pt bd (ae (s9 (ka X.D.M.c.sl S.n) 0 1) 45)::pt X.hv (eD X S.n)::dH X.D.ho (X.D,S)::gC X.ib (X.D.M.c.gl.length,S.inp)::qN X.tb X.D.M.c.sl::R);exact IO;intro k hk;refine aw (ap (λc9=>?_) λc9=>?_);have hk4:k<4:=aq;refine ac (cu hk4) ?_;refine ac (aY (aO (show[iR bt bh bd 0,iR bt bh bd 1,iR bt bh bd 2,iR bt bh bd 3][k*1]?=some (iR bt bh bd k) by rw[QaP];exact WV bt bh bd hk4))) ?_;refine ao (qe (B:=pn X S k bt bh bd (pt br (ae [iQ 0,iQ 0,iQ 0,iQ 0,iQ 0,iQ 0] 45)::pt bp (ae [iR bt bh bd 0,iR bt bh bd 1,iR bt bh bd 2,iR bt bh bd 3] 1)::qN X.tb X.D.M.c.sl::R)) inferInstance (iV (us:=[]) (cs:=J0 bt bh bd k) Z (WU k) Z (hF _ bt bh bd k hk4))) ?_;exact ac cK (d8 (k+1) aq);obtain rfl:k=4:=aq;unfold pn;rw[show pj X.D.M S 4=oq X.D.M S from Z,show FA X.D.M S 4=rX X.D.M S from Z,show mW X.D.M S 4=AM X.D.M S from Z];refine ac (dI Z Z (n7:_=((S.n+1:Nat):Int))) ?_;refine aJ (fg (show 12<(AQ X S.n).length by show 12<13;omega) (show(AQ X S.n).set 12 (iQ ((S.n+1:Nat):Int))=AQ X (S.n+1)from Z)) ?_;refine aJ aR (bJ (.cons (bX NR FK Z Z) (.cons (bA Z) .nil)) ?_);refine⟨_,⟨Z,Z⟩,?_⟩;show Ent _ (pt X.hv (eD X (S.n+1))::dH X.D.ho (X.D,oq X.D.M S)::gC X.ib (X.D.M.c.gl.length,(oq X.D.M S).inp)::qN X.tb X.D.M.c.sl::R);exact IO;skip;refine dB (cP Oi) ?_;clear hS;rintro _ _ ⟨bt,rfl,rfl⟩;refine⟨aW,λhS=>?_⟩;refine bQ 8 (ar call24 (WI W0 _ X.tb X.D.M.c.sl s1 s2 s3 S.n aq)) λhS=>?_;refine aj 9 3 hS ?_;refine cp 13 aR λhS=>?_;refine aj 14 1 hS ?_;refine eY (au 8 (et (aa Z (eH Jk Jn (aT xg (aT bu (aT bu eG))) (iU Z xg Z Z (Qaa Z) SetRL.eq (cJ Z bu Z Z (Qaa Z) SetL.eq eE))) ?_)));refine bU λbd=>?_;refine aJ aR ?_;refine dh (lG XM Xg zeroValue1 Z Z Z Z Z cl cl) λbp=>?_;refine fI (λk:Nat=>k≤4) (λk=>[(1,pV bh),(2,pV br),(6,pV bd),(36,.slice (some ⟨bp,0,none⟩) 4 4),(37,iQ 4),(38,iQ k)]) (λk=>pt br (ae [iQ 0,iQ 0,iQ 0,iQ 0,iQ 0,iQ 0] 45)::pt bp (ae [iR bt bh bd 0,iR bt bh bd 1,iR bt bh bd 2,iR bt bh bd 3] 1)::pn X S k bt bh bd (qN X.tb X.D.M.c.sl::R)) (λk=>4-k) 0 ?_ ?_ ?_ ?_;exact Qay _
 · repeat (first|exact cQ|refine cA rfl ?_)
 show Ent _ (pt br (ae [iQ 0,iQ 0,iQ 0,iQ 0,iQ 0,iQ 0] 45)::pt bp (ae [.func (.func 25) #[] #[pV bt,pV bh,pV bd],.func (.func 27) #[] #[pV bt,pV bd,pV bh],.func (.func 29) #[] #[pV bh,pV bt,pV bd],.func (.func 31) #[] #[pV bd,pV bh,pV bt]] 1)::pt bt (ae (tj (ka X.D.M.c.sl S.n)) 43)::pt bh (ae [pV X.hv] 37)::pt bd (ae (s9 (ka X.D.M.c.sl S.n) 0 1) 45)::pt X.hv (eD X S.n)::dH X.D.ho (X.D,S)::gC X.ib (X.D.M.c.gl.length,S.inp)::qN X.tb X.D.M.c.sl::R);exact IO;intro k hk;refine aw (ap (λc9=>?_) λc9=>?_);have hk4:k<4:=aq;refine ac (cu hk4) ?_;refine ac (aY (aO (show[iR bt bh bd 0,iR bt bh bd 1,iR bt bh bd 2,iR bt bh bd 3][k*1]?=some (iR bt bh bd k) by rw[QaP];exact WV bt bh bd hk4))) ?_;refine ao (qe (B:=pn X S k bt bh bd (pt br (ae [iQ 0,iQ 0,iQ 0,iQ 0,iQ 0,iQ 0] 45)::pt bp (ae [iR bt bh bd 0,iR bt bh bd 1,iR bt bh bd 2,iR bt bh bd 3] 1)::qN X.tb X.D.M.c.sl::R)) inferInstance (iV (us:=[]) (cs:=J0 bt bh bd k) Z (WU k) Z (hF _ bt bh bd k hk4))) ?_;exact ac cK (d8 (k+1) aq);obtain rfl:k=4:=aq;unfold pn;rw[show pj X.D.M S 4=oq X.D.M S from Z,show FA X.D.M S 4=rX X.D.M S from Z,show mW X.D.M S 4=AM X.D.M S from Z];refine ac (dI Z Z (n7:_=((S.n+1:Nat):Int))) ?_;refine aJ (fg (show 12<(AQ X S.n).length by show 12<13;omega) (show(AQ X S.n).set 12 (iQ ((S.n+1:Nat):Int))=AQ X (S.n+1)from Z)) ?_;refine aJ aR (bJ (.cons (bX NR FK Z Z) (.cons (bA Z) .nil)) ?_);refine⟨_,⟨Z,Z⟩,?_⟩;show Ent _ (pt X.hv (eD X (S.n+1))::dH X.D.ho (X.D,oq X.D.M S)::gC X.ib (X.D.M.c.gl.length,(oq X.D.M S).inp)::qN X.tb X.D.M.c.sl::R);exact IO
end
section
open Go.RowKit
set_option synthInstance.maxSize 4000
section
variable(W0:World)(R:List HP)(X:Hx)(S:Ms)(n:Nat)
theorem c0z:sQ W0 10 [pV X.hv] (pt X.hv (eD X n)::R) (iQ X.D.gbs.length) (pt X.hv (eD X n)::R):=by refine am func10 ntmps10 ?_;refine ao (ar JK (FB X n)) ?_;exact ki
theorem c0A:sQ W0 15 [pV X.hv] (pt X.hv (eD X n)::R) (iQ n) (pt X.hv (eD X n)::R):=by refine am func15 ntmps15 ?_;refine ao (ar JK (FB X n)) ?_;exact ki
theorem c0B i(hi:i<X.D.gbs.length):sQ W0 11 [pV X.hv,iQ i] (pt X.hv (eD X n)::dH X.D.ho (X.D,S)::R) (pV (X.D.gb i)) (pt X.hv (eD X n)::dH X.D.ho (X.D,S)::R):=by refine am func11 ntmps11 ?_;refine cW 1 (ar JK (FB X n)) ?_;apply d7 Z Z Z<;>intro a;exact absurd a cl;refine aw (d7 Z Z Z (λb=>?_) λb=>?_);omega;refine aw (aB Z (λf=>?_) λf=>?_);omega;refine aw (Fz (D:=X.D) (S:=S) λg=>?_);obtain⟨h,o,c,e⟩:=g.at_ hi;have d:X.D.gbs[i]=X.D.gb i:=abp;rw[d]at e;refine aw (ac (g7 vI qP Z c Z Z hi dg) ?_);refine ac (aY (bF.weak e 0 _ Z)) ?_;exact ki
theorem c0C i(a:i<X.D.gbs.length):sQ W0 12 [pV (X.D.gb i)] (dH X.D.ho (X.D,S)::R) (iQ (S.at_ i).g.clock) (dH X.D.ho (X.D,S)::R):=by refine Ft a λz d b=>?_;refine eR uO (cF (Vn W0 _ (X.D.gb i) z (S.at_ i).g) λv B c=>?_);obtain⟨rfl,rfl⟩:=c;exact⟨_,⟨Z,Z⟩,Ent.trans inferInstance (IP a b)⟩
end
end
section
open Go.RowKit
set_option synthInstance.maxSize 4000
theorem c0D{M x0 S}(h:MA M x0 S)(a:S.n≤400):MJ M S 500 9000 500000 500/\S.n<1000000/\(0≤S.gt.fn/\S.gt.fn<1000000000):=by have d:S.n*S.n≤400*400:=Nat.mul_le_mul a a;have b:=h.gn.f;have e:=Qct (S.n-1) (fk M.c.sl);refine⟨h.mj.le aq aq aq aq,aq,?_,?_⟩;rw[b];exact Int.natCast_nonneg _;rw[b];omega
abbrev CS(M:Mw)(S:Ms):List Value:=s9 (fG M S) (rX M S) (AM M S)
abbrev J1(M:Mw)(S:Ms)(j:Nat):List Value:=CS M (hJ M j S)
abbrev CU(M:Mw)(S:Ms)(k:Nat):List Value:=(List.range k).flatMap (J1 M S)
theorem c0E M S k:CU M S (k+1)=CU M S k++J1 M S k:=by unfold CU;rw[QcI,Qbg];simp
section
variable(W0:World)(R:List HP)(X:Hx)(hW:MxI W0 X.D)(S:Ms){x0:Dk}(hA:MA X.D.M x0 S)(hK:∀A,bF (aQ W0 A) 1 0 ja)(hH:∀A,bF (aQ W0 A) 0 0 ko)
include hW hA hK hH
theorem WW(a:S.n≤400):sQ W0 9 [pV X.hv] (X.H S R) (.tuple #[.agg (CS X.D.M S).toArray,iQ 0]) (X.H (uu X.D.M S) R):=by obtain⟨b,c,d⟩:=c0D hA a;exact c0y X hW S b c d hK hH
theorem c0F m(o:S.n+m≤400):sP W0 14 [pV X.hv,iQ m] (X.H S R) (λv B=>∃a c,v=.slice a m c/\B=osl 45 6 (.slice a m c) (CU X.D.M S m)::X.H (hJ X.D.M m S) R):=by
 have g:∀k,(hJ X.D.M k S).n=S.n+k:=λk=>IU k;refine am func14 ntmps14 ?_;refine ao (ar JK (FB X S.n)) ?_;refine ac (uT Z Z (r:=(m:Int)) abo) ?_;refine ac (xD Z Z (r:=(m:Int)) abo) ?_;refine fI (λY:Nat×Option Addr×Nat=>Y.1≤m) (λY=>[(0,pV X.hv),(5,.slice Y.2.1 Y.1 Y.2.2),(12,iQ m),(13,iQ Y.1)]) (λY=>osl 45 6 (.slice Y.2.1 Y.1 Y.2.2) (CU X.D.M S Y.1)::X.H (hJ X.D.M Y.1 S) R) (λY=>m-Y.1) (0,none,0) ?_ ?_ ?_ ?_;exact Qay _
 · exact ai
 show Ent _ (osl 45 6 (.slice none 0 0) []::X.H S R);exact Ent.trans (eW (E:=45) (sz:=6) (k:=ent_refl)) inferInstance;intro ⟨k,a,c⟩ hk;dsimp only at hk ⊢;refine aw (aB Z (λh=>?_) λh=>?_);refine au 5 ?_;have i:k<m:=aq;have b:=hA.steps k aq;have j:=g k;have l:=c0E X.D.M S k;refine aM (aa Z (aV Z) ?_);refine aF Z (gU call9 Z (WW W0 _ X hW (hJ X.D.M k S) b hK hH aq)) ?_;rintro _ p ⟨rfl,d⟩;subst d;refine aa Z (aV Z) (aa Z (jT Z Z) (aa Z (jT Z Z) ?_));refine bU λq=>?_;refine aJ aR ?_;refine dh (ji Oe FK Jn Z (fK Z Z iH) Z cl cl cl) λs=>?_;refine aF Z (fR (sz:=6) (by_:=48) (info:=Tryz.t45) Oe ld Z Z Z Z cl Z Z eQ Z Z n5 aq) ?_;rintro _ _ ⟨e,f,rfl,rfl⟩;refine aw (ac cK (d8 (k+1,e,f) ?_ (hμ:=?_) (he:=?_)));show k+1≤m;omega;show m-(k+1)<m-k;omega;dsimp only;rw[l];show Ent _ (osl 45 6 (.slice e (k+1) f) (CU X.D.M S k++[CS X.D.M (hJ X.D.M k S)].flatten)::X.H (uu X.D.M (hJ X.D.M k S)) R);exact IO;refine aw (ag ?_);obtain rfl:k=m:=aq;exact ab4
end
end
section
open Go.RowKit
theorem c0G s(h:ScrOk W0 s)(i:Nat):sQ W0 63 [.agg (nM s).toArray,iQ i] R (.slice (pT s i).a (s8 s i).length (pT s i).c) R:=by
 refine am func63 ntmps63 ?_;refine bR λk=>?_;apply ap<;>intro f;have b:i<s.il.length:=by omega
 obtain⟨g,o,d,j⟩:=(h.i []).at_ b;have e:pT s i=s.il[i]:=by simp[pT,List.getD,b]
 rw[s8,e];refine ac (g7 O7 Jb Z d Z Z b (by first|exact Qac _|rfl)) ?_;refine ac (aY (bF.weak j 0 _ Z)) ?_;exact ki;refine ag ?_;have e:pT s i=⟨none,0,[]⟩:=by rw[pT,List.getD,QaU (by omega)];rfl
 rw[s8,e];exact ax
theorem c0H{d:World}(h:ScrOk d s)(i:Nat):(∀A,bZ (aQ d A) (pT s i).a 1 pJ (s8 s i))/\(∀w∈s8 s i,w<4294967296)/\(s8 s i).length<9223372036854775808:=by
 unfold s8;rcases Qaz i s.il.length with q|q;have b:pT s i=s.il[i]:=by simp[pT,List.getD,q]
 rw[b];have c:=QaC q;exact⟨h.w _ c,h.wb _ c,(h.wl _ c).2⟩;have b:pT s i=⟨none,0,[]⟩:=by rw[pT,List.getD,QaU q];rfl
 rw[b];exact⟨λA=>xA,(λw e=>by cases e),by decide⟩
theorem WX c:sQ W0 5 [.agg (dU c).toArray] R (.bool (BG c)) R:=by
 refine am func5 ntmps5 ?_;refine bR λf=>?_;apply e9<;>intro e;apply e9<;>intro a;apply e9<;>intro b;apply e9<;>intro d;refine ag (aP (Qak Value.bool ?_));rw[Qah,BG,Qag]
 first
   | (rw [Qag]; constructor
      · intro q;omega
      · intro q;omega)
   | (constructor
      · intro q;first|omega|(cases q)
      intro q;omega)
 refine ag (aP (Qak Value.bool ?_));rw[Qah,BG,Qag]
 first
   | (rw [Qag]; constructor
      · intro q;omega
      · intro q;omega)
   | (constructor
      · intro q;first|omega|(cases q)
      intro q;omega)
 refine ag (aP (Qak Value.bool ?_));rw[Qah,BG,Qag]
 first
   | (rw [Qag]; constructor
      · intro q;omega
      · intro q;omega)
   | (constructor
      · intro q;first|omega|(cases q)
      intro q;omega)
 refine ag (aP (Qak Value.bool ?_));rw[Qah,BG,Qag]
 first
   | (rw [Qag]; constructor
      · intro q;omega
      · intro q;omega)
   | (constructor
      · intro q;first|omega|(cases q)
      intro q;omega)
 refine ag (aP (Qak Value.bool ?_));rw[Qah,BG,Qag]
 first
   | (rw [Qag]; constructor
      · intro q;omega
      · intro q;omega)
   | (constructor
      · intro q;first|omega|(cases q)
      intro q;omega)
theorem WY s:sQ W0 6 [.agg (nM s).toArray] R (.bool (DK s)) R:=by
 refine am func6 ntmps6 ?_;refine bR λc=>?_;apply e9<;>intro b;apply e9<;>intro a;refine ag (aP (Qak Value.bool ?_));rw[Qah,DK,Qag]
 first
   | (rw [Qag]; constructor
      · intro q;omega
      · intro q;omega)
   | (constructor
      · intro q;first|omega|(cases q)
      intro q;omega)
 refine ag (aP (Qak Value.bool ?_));rw[Qah,DK,Qag]
 first
   | (rw [Qag]; constructor
      · intro q;omega
      · intro q;omega)
   | (constructor
      · intro q;first|omega|(cases q)
      intro q;omega)
 refine ag (aP (Qak Value.bool ?_));rw[Qah,DK,Qag]
 first
   | (rw [Qag]; constructor
      · intro q;omega
      · intro q;omega)
   | (constructor
      · intro q;first|omega|(cases q)
      intro q;omega)
theorem c0I c(h:CfK W0 c)(n:rt c=true)l a cap(t:∀A,bZ (aQ W0 A) a 2 DJ l)(E:l.length<9223372036854775808):sP W0 54 [.agg (dU c).toArray,.slice a l.length cap] R (λv B=>∃b x,v=.tuple #[pV b,iQ 0]/\B=dQ b (qM x l)::R/\md c.rl=some x):=by
 obtain⟨x,f⟩:=b2j n;have u:=(Qq (vZ n).2.2.2.1).1;have i:=LZ f;refine am func54 ntmps54 ?_;refine bR λF=>?_;refine aF Z (aK call100 (b2h c.ra c.rc c.rl (h.ok.r _) aq)) ?_;rintro _ G ⟨p,Y,rfl,j,_,w⟩;subst j;obtain⟨b,rfl,rfl⟩:=w x f;rw[f,show(if (some x).isSome=true then(0:Int)else 14)=0 from Z];simp only[Qau,Qar];refine au 14 (et (fI (λk:Nat=>k≤l.length) (λk=>[(1,.slice a l.length cap),(6,pV b),(19,.slice a l.length cap),(20,iQ (l.length:Nat)),(21,iQ k)]) (λk=>dQ b (qM x (l.take k))::R) (λk=>l.length-k) 0 ?_ ?_ ?_ ?_));exact Qay _
 · exact ai
 show Ent _ (dQ b x::R);exact IO;intro k H;refine aw (ap (λC=>?_) λC=>?_);have e:k<l.length:=aq;obtain⟨g,o,m,q⟩:=(t []).at_ e;obtain⟨y,D⟩:∃y,l[k]=y:=⟨_,Z⟩
 have s:=b9W (x:=x) e;rw[D]at q s;refine ac (g7 XE sizeOf205 Z m Z Z e dg) ?_;refine ac (cV q.weak) ?_;refine bU λI=>?_;refine aJ aR (ao (ar call101 (b0Q W0 _ b (qM x (l.take k)) (NB _ i) y.at_ y.d)) ?_);rw[<-s];exact ac cK (d8 (k+1) aq);refine aZ ?_;obtain rfl:k=l.length:=aq;rw[QbF];exact⟨_,⟨b,x,Z,Z,by first|exact f|rfl⟩,IO⟩
theorem c0J c(h:CfK W0 c)(g:rt c=true)l a cap(u:∀A,bZ (aQ W0 A) a 2 DJ l)(w:l.length<9223372036854775808):sP W0 20 [.agg (dU c).toArray,.slice a l.length cap] R (λv B=>∃i e j k m n x,v=.tuple #[pV i,iQ 0]/\B=pt i (cY c e j k m n)::aH e (AO c)::cz j (e,xe c)::dQ k (qM x l)::dC m (pG c.pl)::pt n (Ez c.cats c.gate c.quota)::R/\md c.rl=some x):=by
 have q:mB c=0:=Qaw g;have r:y4 c=dG c:=by rw[y4,Qad g]
 have t:=b06 c;obtain⟨y,C⟩:=Tg (Tj g);obtain⟨D,E,F⟩:=EH g;refine am func20 ntmps20 ?_;refine bR λG=>?_;refine aF Z (aK FX (BE c h.ok)) ?_;rintro _ o ⟨H,rfl,d⟩;subst d;rw[q];refine au 13 (et (aa Z (eH Jd zeroValue133 (aT tq (aT sizeOf129 (aT O0 (aT sizeOf130 (aT Xi (aT sizeOf108 eG)))))) (iU Z tq Z Z (Qaa Z) SetRL.eq eE)) ?_));refine bR λi=>?_;refine ao (aK call52 (b07 c h.ok)) ?_;rw[r];refine aF Z (aK call51 (a8y (dG c) aq)) ?_;rintro _ o ⟨e,rfl,d⟩;subst d;refine aw (fw 9 dr ?_);refine et (bH [G] 14 λf=>?_);refine aj 0 5 f ?_;refine bQ 5 (dJ (aY (aO Z))) λf=>?_;refine co 6 (ar call53 (b2m c h g e)) ?_;clear f;rintro _ o ⟨j,rfl,d⟩;subst d;refine⟨aW,λf=>?_⟩;refine aj 7 5 f ?_;refine cp 12 dr λf=>?_;refine aj 13 1 f ?_;refine eY (au 7 (et (aF Z (aK call54 (c0I c h g l a cap u w)) ?_)));rintro _ o ⟨k,x,rfl,d,s⟩;subst d;refine aw (fw 9 dr ?_);refine et (aF Z (aK call55 (a9g c.pl c.pa c.pl.length c.pc Z y (h.ok.p _) C)) ?_);rintro _ o ⟨m,rfl,d⟩;subst d;refine aw (fw 9 dr ?_);refine et (aF Z (aK call56 (b1r c.cats c.gate c.quota D E F)) ?_);rintro _ o ⟨n,rfl,d⟩;subst d;refine aw (fw 9 dr ?_);refine et (py (b:=i) (o':=cY c e j k m n) Z ?_);exact aZ ⟨_,⟨i,e,j,k,m,n,x,Z,Z,s⟩,IO⟩
theorem c0K c(h:CfK W0 c)(t:rt c=true)s(G:ScrOk W0 s)ps pb db qb gb ho:sP W0 22 [.agg (dU c).toArray,pV ho,.agg (nM s).toArray] (aH ps (AO c)::cz pb (ps,xe c)::pt ho (cY c ps pb db qb gb)::R) (λv B=>∃b a f,v=.tuple #[.slice a b.length f,iQ 0]/\B=osl 49 1 (.slice a b.length f) (b.map pV)::aH ps (dE (lV c s) c.gl.length).2.1::cz pb (ps,(dE (lV c s) c.gl.length).2.2)::kH 2 (bB (tp (lV c s) ps pb b c.gl.length))::pt ho (cY c ps pb db qb gb)::R/\b.length=c.gl.length):=by
 have K:=(eI t).g4;obtain⟨M,u⟩:∃M,lV c s=M:=⟨_,ρ⟩
 have d:M.c=c:=by rw[<-u]
 have p:rt M.c=true:=by rw[d];exact t
 have n:∀i,i<c.gl.length->M.w i=dm (s8 s i) 8:=λi L=>by rw[<-u];exact WE L
 rw[u];refine am func22 ntmps22 ?_;refine bR λm=>?_;refine bR λo=>?_;refine fI (λX:List Nat×Option Addr×Nat=>X.1.length≤c.gl.length) (λX=>[(1,pV ho),(3,pV m),(5,pV o),(8,.slice X.2.1 X.1.length X.2.2),(14,iQ (c.gl.length:Nat)),(15,iQ X.1.length)]) (λX=>pt m (kj c)::pt o (ae (nM s) 33)::osl 49 1 (.slice X.2.1 X.1.length X.2.2) (X.1.map pV)::aH ps (dE M X.1.length).2.1::cz pb (ps,(dE M X.1.length).2.2)::kH 2 (bB (tp M ps pb X.1 X.1.length))::pt ho (cY c ps pb db qb gb)::R) (λX=>c.gl.length-X.1.length) ([],none,0) ?_ ?_ ?_ ?_;exact Qay _
 · exact eb
 show Ent _ (pt m (kj c)::pt o (ae (nM s) 33)::osl 49 1 (.slice none 0 0) []::aH ps (AO M.c)::cz pb (ps,xe M.c)::kH 2 (bB [])::pt ho (cY c ps pb db qb gb)::R);rw[d];refine Ent.trans (B:=kH 2 (bB [])::pt m (kj c)::pt o (ae (nM s) 33)::osl 49 1 (.slice none 0 0) []::aH ps (AO c)::cz pb (ps,xe c)::pt ho (cY c ps pb db qb gb)::R) ?_ inferInstance;refine Ent.trans ?_ (ke (A:=[]));rw[Qar];exact Ent.trans (eW (E:=49) (sz:=1) (k:=ent_refl)) inferInstance;intro ⟨b,a,f⟩ hk;dsimp only at hk ⊢;obtain⟨k,j⟩:∃k,b.length=k:=⟨_,ρ⟩
 rw[j]at hk ⊢;refine aw (ap (λx=>?_) λx=>?_);have e:k<c.gl.length:=aq;obtain⟨N,O,P,Q,H,S⟩:=b93 p (show k<M.c.gl.length by rw[d];exact e);obtain⟨T,U,V⟩:=c0H G k;have q:jy c k (s8 s k) (dE M k).2.1 (dE M k).2.2=jy M.c k (M.w k) (dE M k).2.1 (dE M k).2.2:=by rw[n k e,b9V (by rw[d];exact t) (by rw[d];exact e),d]
 have y:k<M.c.gl.length:=by rw[d];exact e
 have C:(dE M (k+1)).2.1=(jy M.c k (M.w k) (dE M k).2.1 (dE M k).2.2).fr:=ρ;have D:(dE M (k+1)).2.2=(jy M.c k (M.w k) (dE M k).2.1 (dE M k).2.2).po:=ρ;refine bH [m,o] 15 λl=>?_;refine aj 0 3 l ?_;refine aj 4 1 l ?_;refine aj 6 2 l ?_;refine bQ 3 (ar call61 (b2n ho c ps pb db qb gb)) λl=>?_;refine bQ 5 (ar call62 (b2o ho c ps pb db qb gb)) λl=>?_;refine bQ 8 (aK call63 (c0G s G k)) λl=>?_;refine co 9 (dj call60 (b6H W0 _ c h t k e ps pb (dE M k).2.1 (dE M k).2.2 N O P Q (by rw[d]at H;exact H) (pT s k).a (pT s k).c (s8 s k) T U V (by rw[q];exact S))) ?_;clear l;rintro _ B_ ⟨g,z,I,rfl,W,Y,Z,z4,J,F⟩;subst F;rw[q, <-n k e];rw[<-n k e]at J;have r:=b92 (R:=pt m (kj c)::pt o (ae (nM s) 33)::osl 49 1 (.slice a k f) (b.map pV)::aH ps (dE M (k+1)).2.1::cz pb (ps,(dE M (k+1)).2.2)::pt ho (cY c ps pb db qb gb)::R) (M:=M) (ps:=ps) (pb:=pb) p y j (gb:=g) (z:=z) (wg:=I) ⟨by rw[d];exact W,Y,Z,z4,J⟩;refine⟨aW,λl=>?_⟩;refine aj 10 5 l ?_;refine aS (gK (B:=gA g z g0 (jy M.c k (M.w k) (dE M k).2.1 (dE M k).2.2) (pt z.bx wE::pt I (ae ((M.w k).map wV) 62)::kH 2 (bB (tp M ps pb b k))::pt m (kj c)::pt o (ae (nM s) 33)::osl 49 1 (.slice a k f) (b.map pV)::aH ps (dE M (k+1)).2.1::cz pb (ps,(dE M (k+1)).2.2)::pt ho (cY c ps pb db qb gb)::R)) (by rw[C,D];exact inferInstance) ?_);refine gK r (au 5 ?_);refine et ?_;refine dT (lG vI qP zeroValue49 ρ ρ ρ ρ ρ cl cl) λm=>?_;refine aF ρ (fR (sz:=1) (by_:=8) (info:=Tryz.t49) vI ld ρ ρ ρ ρ cl ρ ρ eQ ρ ρ n5 aq) ?_;rintro _ _ ⟨a3,x,rfl,rfl⟩;refine aw (ac cK (nE (b++[g],a3,x) ?_ ?_ ?_ ?_));show(b++[g]).length≤_;rw[Qaf,QaR];omega;show c.gl.length-(b++[g]).length<c.gl.length-b.length;rw[Qaf,QaR];omega
 · dsimp only
   rw[show(b++[g]).length=k+1 by rw[Qaf,QaR,j]];exact eb
 dsimp only;rw[show(b++[g]).length=k+1 by rw[Qaf,QaR,j],QaN,show List.map pV [g]=[pV g]from ρ];exact IO;refine aZ ?_;obtain rfl:k=c.gl.length:=aq;rw[<-j];exact⟨_,⟨b,a,f,ρ,ρ,ρ⟩,IO⟩
theorem c0L(n:Nat)(f:1≤n)(g:n≤4)a m c(h:256<m):sQ W0 19 [iQ n,.slice a m c] R (.tuple #[.pointer none,iQ 10]) R:=by refine am func19 ntmps19 ?_;apply aB Z<;>intro b;omega;refine aw (aB Z (λd=>?_) λd=>?_);omega;refine aw (aB Z (λe=>?_) λe=>?_);exact au 9 (aZ ax);omega
theorem c0M W0 R c(h:CfK W0 c)(hr:rt c=false)s:
    bE Tryz.prog W0 8 [.agg (dU c).toArray,.agg (nM s).toArray] R (λv B=>v=.tuple #[.pointer none,iQ (mB c)]/\B=R/\mB c≠0):=by
 have hck:mB c≠0:=λq=>by
  have:rt c=true:=Qav q;rw[hr]at this;cases this
 obtain⟨e,he⟩:∃e,mB c=e:=⟨_,Z⟩
 rw[he]at hck ⊢;refine am YN ntmps8 ?_;refine bR λb2=>?_;refine bR λb3=>?_;refine aF Z (aK FX (BE c h.ok)) ?_;rintro _ B_ ⟨at_,rfl,hB_⟩;subst hB_;rw[he];refine aw (ap (λc2=>?_) λc2=>?_);exact aZ ⟨_,⟨Z,Z,hck⟩,IO⟩;exact absurd aam hck
theorem c0N c(h:CfK W0 c)(a:rt c=true)s(f:256<s.nl.length):sQ W0 8 [.agg (dU c).toArray,.agg (nM s).toArray] R (.tuple #[.pointer none,iQ 10]) R:=by have b:mB c=0:=Qaw a;have g:=(eI a).g1;have i:=(eI a).g4;refine am YN ntmps8 ?_;refine bR λk=>?_;refine bR λl=>?_;refine aF Z (aK FX (BE c h.ok)) ?_;rintro _ m ⟨j,rfl,d⟩;subst d;rw[b];refine au 13 (et (cW 14 (aK call19 (c0L c.gl.length aq aq s.na s.nl.length s.nc f)) ?_));apply ap<;>intro e;exact aZ ax;exact absurd cl e
theorem WZ c(h:CfK W0 c)(o:rt c=true)s(y:ScrOk W0 s)(F:s.nl.length≤256)(A:s.sl.length<9223372036854775808):sP W0 8 [.agg (dU c).toArray,.agg (nM s).toArray] R (λv B=>∃(X:Hx) (x:Dk),v=.tuple #[pV X.hv,iQ 0]/\B=X.H (te (lV c s) (qM x s.sl) (kZ c.gl.length (mq s))) R/\X.D.M=lV c s/\X.D.gbs.length=c.gl.length/\md c.rl=some x):=by have C:mB c=0:=Qaw o;have G:=(eI o).g1;have I:=(eI o).g4;obtain⟨J,K,L⟩:=IG o;refine am YN ntmps8 ?_;refine bR λO=>?_;refine bR λP=>?_;refine aF Z (aK FX (BE c h.ok)) ?_;rintro _ t ⟨N,rfl,d⟩;subst d;rw[C];refine au 13 (et (aF Z (aK call19 (c0j c.gl.length aq aq s y F)) ?_));rintro _ t ⟨p,rfl,d⟩;subst d;refine au 14 (et (aF Z (aK call20 (c0J c h o s.sl s.sa s.sc y.sx A)) ?_));rintro _ t ⟨j,g,i,k,l,m,x,rfl,d,E⟩;subst d;refine au 14 (et (aF Z (aK call21 (b8U c.sl c.sa c.sc h.ok.s J K L)) ?_));rintro _ t ⟨q,u,w,rfl,d⟩;subst d;refine au 14 (et (aF Z (dF call22 (c0K c h o s y g i k l m j)) ?_));rintro _ t ⟨e,a,f,rfl,d,r⟩;subst d;refine au 14 (et (aa Z (eH c2j zeroValue77 (aT tq (aT AY (aT Jc (aT Xs (aT Xr (aT bu eG)))))) (iU Z tq Z Z (Qaa Z) SetRL.eq (cJ Z AY Z Z (Qaa Z) SetL.eq (cJ Z Jc Z Z (Qaa Z) SetL.eq (cJ Z Xs Z Z (Qaa Z) SetL.eq (cJ Z Xr Z Z (Qaa Z) SetL.eq eE)))))) ?_));refine bR λn=>?_;refine py (b:=n) (o':=eD ⟨⟨lV c s,j,g,i,k,l,m,a,f,e⟩,n,q,p⟩ 0) Z ?_;refine aZ ⟨_,⟨⟨⟨lV c s,j,g,i,k,l,m,a,f,e⟩,n,q,p⟩,x,Z,Z,Z,r,E⟩,?_⟩;refine Ent.trans (B:=pt j (cY c g i k l m)::osl 49 1 (.slice a e.length f) (e.map pV)::aH g (dE (lV c s) c.gl.length).2.1::cz i (g,(dE (lV c s) c.gl.length).2.2)::dQ k (qM x s.sl)::dC l (pG c.pl)::pt m (Ez c.cats c.gate c.quota)::kH 2 (bB (tp (lV c s) g i e c.gl.length))::pt n (eD ⟨⟨lV c s,j,g,i,k,l,m,a,f,e⟩,n,q,p⟩ 0)::gC p (c.gl.length,kZ c.gl.length (mq s))::pt q (qK u c.sl.length w c.sl c.sl.length)::osl 114 2 (.slice u c.sl.length w) (c.sl.flatMap fZ)::R) inferInstance ?_;refine(b94 (M:=lV c s) (inp:=kZ c.gl.length (mq s)) r).trans ?_;refine Ent.trans (B:=pt n (eD ⟨⟨lV c s,j,g,i,k,l,m,a,f,e⟩,n,q,p⟩ 0)::dH j (⟨lV c s,j,g,i,k,l,m,a,f,e⟩,te (lV c s) (qM x s.sl) (kZ c.gl.length (mq s)))::gC p (c.gl.length,kZ c.gl.length (mq s))::pt q (qK u c.sl.length w c.sl c.sl.length)::osl 114 2 (.slice u c.sl.length w) (c.sl.flatMap fZ)::R) inferInstance ?_;exact Ent.cons (Ent.cons (Ent.cons (WG Z Z)))
abbrev AR(b1 b2:Nat):Cfg:=⟨0,some ⟨b1,0,none⟩,2,[(0,2,0),(0,2,0)],none,0,[],none,0,[],none,0,[],some ⟨b2,0,none⟩,2,[(0,2),(1,3)], -1,0⟩
abbrev ux(b1 b2:Nat):Mw:=⟨AR b1 b2,[[],[40]]⟩
abbrev vE(b1 b2:Nat)(x:Dk):Ms:=te (ux b1 b2) x [[],[],[],[]]
theorem c0O b1 b2:rt (AR b1 b2)=true:=ld
theorem x38 b1 b2 x:rX (ux b1 b2) (hJ (ux b1 b2) 2 (vE b1 b2 x))=4:=ld
theorem w38 b1 b2 x:AM (ux b1 b2) (hJ (ux b1 b2) 2 (vE b1 b2 x))=1:=ld
end
section
open Go.RowKit
set_option synthInstance.maxSize 4000
abbrev h38(b1 b2:Nat)(R:List HP):List HP:=pt b2 (ae [.int .i64 0,.int .i64 2,.int .i64 1,.int .i64 3] 114)::pt b1 (ae [.int .i64 0,.int .i64 2,.int .i64 0,.int .i64 0,.int .i64 2,.int .i64 0] 112)::R
theorem c0S:sP W0 18 [] R (λv B=>∃a c,v=.agg (dU (AR a c)).toArray/\B=h38 a c R):=by refine am func18 ntmps18 ?_;refine bU λd=>?_;refine dh (ji xk uz c2n Z (fK Z Z (fK Z Z iH)) Z cl cl cl) λa=>?_;refine dh (ji yR J6 c2o Z (fK Z Z (fK Z Z iH)) Z cl cl cl) λc=>?_;refine aJ aR (py (b:=a) (o':=ae [iQ 0,iQ 2,iQ 0,iQ 0,iQ 2,iQ 0] 112) Z ?_);refine py (b:=c) (o':=ae [iQ 0,iQ 2,iQ 1,iQ 3] 114) Z ?_;refine bJ (.cons (bX J3 tq Z Z) .nil) ?_;exact⟨_,⟨a,c,Z,Z⟩,IO⟩
abbrev FC(bi bw:Nat):Scr:=⟨some ⟨bi,0,none⟩,2,[⟨none,0,[]⟩,⟨some ⟨bw,0,none⟩,1,[40]⟩],none,0,[],none,0,[]⟩
theorem d38 b1 b2 x:CS (ux b1 b2) (hJ (ux b1 b2) 2 (vE b1 b2 x))=[iQ 1,iQ 1,iQ 0,iQ 0,iQ 4,iQ 1]:=by unfold CS;rw[x38,w38];have e:fG (ux b1 b2) (hJ (ux b1 b2) 2 (vE b1 b2 x))=⟨1,1,0,0⟩:=ld;rw[e];rfl
theorem CV(hK:∀A,bF (aQ W0 A) 1 0 ja)(hH:∀A,bF (aQ W0 A) 0 0 ko):sQ W0 7 [] R (.bool true) R:=by
 refine jj 7 func7 ntmps7 ?_;refine aF Z (gx call18 Z (c0S)) ?_;rintro _ B_ ⟨b1,b2,rfl,hB_⟩;subst hB_;refine dT (lG uD aX Oq Z Z Z Z Z cl cl) λbw=>?_;refine dT (lG O7 Jb c2y Z Z Z Z Z cl cl) λbi=>?_;refine py (b:=bw) (o':=ae ([40].flatMap pJ) 62) Z ?_;refine py (b:=bi) (o':=ae ([(⟨none,0,[]⟩:Img),⟨some ⟨bw,0,none⟩,1,[40]⟩].flatMap DI) 63) Z ?_;refine b7S (λv _=>v=.bool true) (λv B hv=>⟨R,⟨hv,Z⟩,b72 (A:=[_,_,_,_])⟩) λW hW=>?_;have hrt:=c0O b1 b2;have hG:∀A,bZ (aQ W A) (some ⟨b1,0,none⟩) 3 jW [(0,2,0),(0,2,0)]:=GR hW (uU (b:=b1) (λ_=>Z) Z);have hS:∀A,bZ (aQ W A) (some ⟨b2,0,none⟩) 2 fZ [(0,2),(1,3)]:=GR hW (uU (b:=b2) (λ_=>Z) Z);have hw:∀A,bZ (aQ W A) (some ⟨bw,0,none⟩) 1 pJ [40]:=GR hW (uU (b:=bw) (λ_=>Z) Z);have hi:∀A,bZ (aQ W A) (some ⟨bi,0,none⟩) 1 DI [⟨none,0,[]⟩,⟨some ⟨bw,0,none⟩,1,[40]⟩]:=GR hW (uU (b:=bi) (λ_=>Z) Z);have hok:CfK W (AR b1 b2):=⟨⟨hG,λA=>xA,λA=>xA,λA=>xA,hS,Qai _⟩,Qai _⟩
 have hsc:ScrOk W (FC bi bw):=⟨hi,λx hx=>by
  simp only[QaX,List.not_mem_nil,or_false]at hx;rcases hx with rfl|rfl;exact λA=>xA;exact hw,λx hx=>by
  simp only[QaX,List.not_mem_nil,or_false]at hx;rcases hx with rfl|rfl;exact⟨Qai _,by show 0<9223372036854775808;decide⟩;exact⟨Qai _,by show 1<9223372036854775808;decide⟩,λx hx=>by
  simp only[QaX,List.not_mem_nil,or_false]at hx;rcases hx with rfl|rfl;intro w hw;cases hw;intro w hw
  simp at hw;omega,λA=>xA,(λx hx=>aa2),λA=>xA,(λx hx=>aa2)⟩
 have hK1:=Kw hW (hK _);have hH1:=Kw hW (hH _);clear hW;refine aa Z (eH O8 zeroValue33 (aT Xm (aT sizeOf30 (aT sizeOf31 eG))) (cJ Z Xm Z Z (Qaa Z) SetL.eq eE)) ?_;refine aF Z (gx YO Z (WZ (AR b1 b2) hok hrt (FC bi bw) hsc (Qay _) (by show 0<9223372036854775808;decide))) ?_;rintro _ B_ ⟨X,x,rfl,hB_,hXM,hXl,hdx⟩;subst hB_;have hX2:X.D.M=ux b1 b2:=hXM;have hWX:MxI W X.D:=WK hok hsc hXM hXl;have hA0:MA X.D.M x (vE b1 b2 x):=by
  rw[hX2];exact MA.new hrt (LZ hdx) Z λi=>by
   have h9:=WC (n:=2) (l:=[]) (Qay _) (λx hx=>aa2) i;rw[Nz]at h9;exact h9
 have hms:te (lV (AR b1 b2) (FC bi bw)) (qM x (FC bi bw).sl) (kZ (AR b1 b2).gl.length (mq (FC bi bw)))=vE b1 b2 x:=by
  show te (ux b1 b2) x (kZ 2 [])=_;rw[Nz]
 rw[hms];refine au 13 (d7 Z Z Z (λg2_3=>?_) λg2_3=>?_)
 first|cases g2_3|exact absurd g2_3 (by simp)
 refine au 6 (aB Z (λc2=>?_) λc2=>?_);exact absurd c2 cl;refine au 5 (aF Z (gU call14 Z (c0F W _ X hWX (vE b1 b2 x) hA0 hK1 hH1 5 (by show 0+5≤400;decide))) ?_);rintro _ B_ ⟨a,c,rfl,hB_⟩;subst hB_;have hd:=d38 b1 b2 x;rw[<-hX2]at hd;refine au 4 (jV (E:=45) (sz:=6) (a:=a) (n:=5) (c:=c) (J1 X.D.M (vE b1 b2 x)) (List.range 5) (λ_=>Z) cl Z (λhs=>?_));obtain⟨ga,o,hga,hc⟩:=hs.at_ (i:=2) cl;rw[show(List.range 5)[2]' cl=2 from Z]at hc;rw[show J1 X.D.M (vE b1 b2 x) 2=_ from hd]at hc;refine au 5 (so Z Z Z (λg5_4=>?_) λg5_4=>?_);refine au 2 (aa Z (g7 Oe FK Z hga Z (i:=2) Z cl dg) ?_);refine iu Z Z (aa Z (jg NR FK Z hc Z) ?_);refine iu Z Z (aa Z (eH XI Oi (aT bu (aT bu (aT bu (aT bu eG)))) (cJ Z bu Z Z (Qaa Z) SetL.eq (cJ Z bu Z Z (Qaa Z) SetL.eq eE))) ?_);refine iu Z Z (aa Z (eH Jk Jn (aT xg (aT bu (aT bu eG))) (iU Z xg Z Z (Qaa Z) SetRL.eq (cJ Z bu Z Z (Qaa Z) SetL.eq (cJ Z bu Z Z (Qaa Z) SetL.eq eE)))) ?_);refine iu Z Z (jU 2 (zb Tryz.eqGuardType45 Z Z (za Jk Tryz.stoodInHeld45 (P9 Z (JU NQ xg TakeL.eq) (JU NQ xg TakeL.eq) (za XI Tryz.stoodInHeld43 (oy Z cM Z Z (ov ez) (oy Z cM Z Z (ov ez) (oy Z cM Z Z (ov ez) (oy Z cM Z Z (ov ez) z9))))) (oy Z cM Z Z (ov ez) (oy Z cM Z Z (ov ez) z9))))) ?_);apply so Z Z Z<;>intro g5_12;refine au 2 (cW 7 (eg call15 Z (c0A W _ X (hJ X.D.M 5 (vE b1 b2 x)).n)) ?_);exact ag ⟨[],Z,IO⟩;exact absurd cl g5_12;exact absurd cl g5_4
abbrev ckL(l:List (Int×Int))(k:Nat):List Int:=[lB l 0 k,lB l 1 k,lB l 2 k,lB l 3 k]
abbrev CW(l:List (Int×Int))(k:Nat):List Value:=(ckL l k).map (.int .i64)
theorem X0 l k{g:Nat}(a:g<4):(CW l k)[g*1]?=some (iQ (lB l g k)):=by have:g=0\/g=1\/g=2\/g=3:=aq;rcases this with rfl|rfl|rfl|rfl<;>rfl
theorem X9 l i:∀k,0≤lB l i k/\lB l i k≤k
 |0=>⟨Qan _,Qan _⟩
 |k+1=>by
  have:=X9 l i k;rw[lB];split<;>omega
theorem c0V l k{g:Nat}(f:g<4)(e:(ka l k).g=g):(CW l k).set (g*1) (iQ (lB l g k+1))=CW l (k+1):=by
 have h:∀i:Nat,lB l (i:Int) (k+1)=if g=i then lB l (i:Int) k+1 else lB l (i:Int) k:=λi=>by
  rw[lB,e];by_cases q:g=i;subst q;rw[Qad Z,Qad Z];rw[Qab q,Qab aq]
 have a:=h 0;have b:=h 1;have c:=h 2;have d:=h 3;have:g=0\/g=1\/g=2\/g=3:=aq;rcases this with rfl|rfl|rfl|rfl<;>(show _=[Value.int .i64 (lB l ((0:Nat):Int) (k+1)),iQ (lB l ((1:Nat):Int) (k+1)),iQ (lB l ((2:Nat):Int) (k+1)),iQ (lB l ((3:Nat):Int) (k+1))];rw[a,b,c,d];rfl)
theorem Xa W0(d:∀A,bF (aQ W0 A) 1 0 ja)(f:∀A,bF (aQ W0 A) 0 0 ko)c(h:CfK W0 c)s e(i:e≠0)(j:∀R,bE Tryz.prog W0 8 [.agg (dU c).toArray,.agg (nM s).toArray] R (λv B=>v=.tuple #[.pointer none,iQ e]/\B=R))(n:Nat)(l:n<256):
    bE Tryz.prog W0 3 [.agg (dU c).toArray,.agg (nM s).toArray,.int .u8 n] [] (λv B=>v=.bool true):=by refine am P0 ntmps3 ?_;refine bR λm=>?_;refine bR λo=>?_;refine ao (aK call5 (WX c)) ?_;apply fC<;>intro b;refine ao (aK Ga (CV d f)) ?_;exact ag ⟨[],Z,IO⟩;refine ao (aK call6 (WY s)) ?_;apply ap<;>intro k;refine ao (aK Ga (CV d f)) ?_;exact ag ⟨[],Z,IO⟩;refine cW 14 (aK YO (j _)) ?_;apply ap<;>intro g;apply so Z Z Z<;>intro a;refine ao (aK Ga (CV d f)) ?_;exact ag ⟨[],Z,IO⟩;exact absurd i (by simpa using a);exact absurd Z g
theorem c0W W0(J:∀A,bF (aQ W0 A) 1 0 ja)(K:∀A,bF (aQ W0 A) 0 0 ko)c(h:CfK W0 c)(L:rt c=true)s(N:ScrOk W0 s)(hl:s.nl.length≤256)(n:Nat)(hn:n<256):sP W0 3 [.agg (dU c).toArray,.agg (nM s).toArray,.int .u8 n] [] (λv B=>v=.bool true):=by
 have x3:=(eI L).g4;refine am P0 ntmps3 ?_;refine bR λbc=>?_;refine bR λbs=>?_;refine ao (aK call5 (WX c)) ?_;apply fC<;>intro t;refine ao (aK Ga (CV J K)) ?_;exact ag ⟨[],ρ,IO⟩;refine ao (aK call6 (WY s)) ?_;apply ap<;>intro c1;refine ao (aK Ga (CV J K)) ?_;exact ag ⟨[],ρ,IO⟩;have O:DK s=true:=ro;have P:s.sl.length<9223372036854775808:=by
  have:=Qaw O;omega
 refine aF ρ (aK YO (WZ c h L s N hl P)) ?_;rintro _ B_ ⟨X,x,rfl,e,j,Q,R⟩;subst e;have u:MxI W0 X.D:=WK h N j Q;obtain⟨S,a⟩:∃S,te (lV c s) (qM x s.sl) (kZ c.gl.length (mq s))=S:=⟨_,ρ⟩
 rw[a];have hA:MA X.D.M (qM x s.sl) S:=by
  rw[j, <-a];refine MA.new L (NB _ (LZ R)) ρ λi=>WC (by simpa using hl) (λy hy=>?_) i;obtain⟨z,hz,rfl⟩:=QaZ.1 hy;exact N.nb z hz
 have T:S.n=0:=by rw[<-a];rfl
 have U:X.D.M.c=c:=by rw[j]
 have w:=u.len;have V:∀k,(hJ X.D.M k S).n=k:=λk=>by rw[IU,T];omega
 refine aw (aB ρ (λW=>?_) λW=>?_)
 first|cases W|exact absurd W (by simp)
 refine aw ?_;refine bU λq=>?_;refine fI (λk:Nat=>k≤n %100) (λk=>[(2,.int .u8 n),(7,pV X.hv),(9,pV q),(10,iQ k)]) (λk=>pt q (ae (CW X.D.M.c.sl k) 41)::X.H (hJ X.D.M k S) []) (λk=>n %100-k) 0 ?_ ?_ ?_ ?_;exact Qay _
 · exact eb
 show Ent _ (pt q (ae [iQ 0,iQ 0,iQ 0,iQ 0] 41)::X.H S []);exact IO;intro k hk;refine aw (ac (kg ρ ρ cl (show Int.tmod ((n:Nat):Int) 100=((n %100:Nat):Int) by rw[Qbd aq];omega)) ?_);refine ac (cv ph) ?_;apply aB ρ<;>intro c8;refine au 5 ?_;have x4:k<n %100:=aq;have C:=hA.steps k aq;have Y:=hA.steps (k+1) aq;obtain⟨g,E,Z,_,_⟩:=IK C.mj.r k;have d:g<4:=by rw[U]at Z;omega
 have hT:(fG X.D.M (hJ X.D.M k S)).g=(g:Int):=by
  show(ka X.D.M.c.sl (hJ X.D.M k S).n).g=_;rw[V];exact E
 have x5:=X9 X.D.M.c.sl (g:Int) k;refine aM (aa ρ (aV ρ) ?_);refine aF ρ (gU call9 ρ (WW W0 _ X u (hJ X.D.M k S) C J K (by rw[V];omega))) ?_;rintro _ B_ ⟨rfl,e⟩;subst e;have x0:CS X.D.M (hJ X.D.M k S)=[iQ (g:Int),iQ ((fG X.D.M (hJ X.D.M k S)).s:Nat),iQ (fG X.D.M (hJ X.D.M k S)).o,iQ ((fG X.D.M (hJ X.D.M k S)).f:Nat),iQ (rX X.D.M (hJ X.D.M k S)),iQ (AM X.D.M (hJ X.D.M k S))]:=by
  show[Value.int .i64 (fG X.D.M (hJ X.D.M k S)).g,_,_,_,_,_]=_;rw[hT]
 rw[x0];rw[show uu X.D.M (hJ X.D.M k S)=hJ X.D.M (k+1) S from ρ];refine aw ?_;refine bU λbd=>?_;refine aJ aR ?_;apply fC<;>intro b;exact absurd ρ b;apply d7 ρ ρ ρ<;>intro l;omega;refine aw (aB ρ (λx1=>?_) λx1=>?_);omega;refine aw (ac (iy d) ?_);refine ac (aY (aO (X0 X.D.M.c.sl k d))) ?_;refine ac cK (ac (iy d) ?_);refine aJ (fg (show g*1<(CW X.D.M.c.sl k).length by show g*1<4;omega) (c0V X.D.M.c.sl k d E)) ?_;refine eC (λi:Nat=>i≤4) (λi=>[(2,.int .u8 n),(7,pV X.hv),(9,pV q),(10,iQ k),(13,iQ i)]) (λ_=>pt q (ae (CW X.D.M.c.sl (k+1)) 41)::X.H (hJ X.D.M (k+1) S) []) (λi=>4-i) 0 ?_ ?_;exact Qay _;intro i hi;refine aw (ao (ar call10 (c0z W0 _ X (hJ X.D.M (k+1) S).n)) ?_);apply e9<;>intro m;apply ap<;>intro x2;have F:i<4:=aq;have p:i<X.D.gbs.length:=aq;have G:=Y.ck i (by rw[<-w];exact p);rw[V]at G;refine bH [q] 8 λa=>?_;refine aj 0 2 a ?_;refine aj 4 1 a ?_;refine aE 5 a (iy F) ?_;refine aE 6 a (aY (d6 (k:=0) ρ (X0 X.D.M.c.sl (k+1) F))) ?_;refine bQ 2 (dj call11 (c0B W0 _ X (hJ X.D.M (k+1) S) (hJ X.D.M (k+1) S).n i p)) λa=>?_;refine bQ 3 (ar call12 (c0C W0 _ X (hJ X.D.M (k+1) S) i p)) λa=>?_;refine aj 7 1 a ?_;refine aS (ap (λI=>?_) λI=>?_);exact absurd G I;exact ac cK (d8 (i+1) aq);exact ac cK (d8 (k+1) aq);exact ac cK (d8 (k+1) aq);refine aw (ao (aK Ga (CV J K)) ?_);exact ag ⟨[],ρ,IO⟩
theorem c0X W0(b:∀A,bF (aQ W0 A) 1 0 ja)(d:∀A,bF (aQ W0 A) 0 0 ko)c(h:CfK W0 c)s(g:ScrOk W0 s)(n:Nat)(e:n<256):sP W0 3 [.agg (dU c).toArray,.agg (nM s).toArray,.int .u8 n] [] (λv B=>v=.bool true):=by
 cases a:rt c with
 |false=>
  have i:mB c≠0:=λq=>by
   have:rt c=true:=Qav q;rw[a]at this;cases this
  exact Xa W0 b d c h s (mB c) i (λR=>cF (c0M W0 R c h a s) λv B f=>⟨_,⟨f.1,f.2.1⟩,ent_refl⟩) n e
 |true=>
  rcases Qaz 256 s.nl.length with q|q;exact Xa W0 b d c h s 10 cl (λR=>c0N c h a s q) n e;exact c0W W0 b d c h a s g q n e
end
section
open Go.RowKit
section
variable{P:Program}{w:World}{enc:TypeId×Value->Unit}{base:Nat}{sp:Nat->Bool}{held:Bool}
theorem NK{t:TypeId}{a b:Int}{f0 f1:Field}(hs:P.underlying t=some (.struct #[f0,f1]))(h0:P.underlying f0.type=some (.int .i64))(h1:P.underlying f1.type=some (.int .i64))(o0:f0.offset=0)(o1:f1.offset=1)(c0:P.cellsOf f0.type=1)(c1:P.cellsOf f1.type=1)(ct:P.cellsOf t=2)
    (h:DataW.trod enc P w base sp held fuel t cs=some (.agg [.lit (.int .i64 a),.lit (.int .i64 b)],p)):cs=[.int .i64 a,.int .i64 b]:=by
 cases fuel with
 |zero=>simp[DataW.trod]at h
 |succ fuel=>
  simp only[DataW.trod,hs]at h;split at h
  rename_i i
  rw[ct]at i;obtain⟨l,e,m⟩:=Option.map_eq_some_iff.1 h;obtain⟨q,j,n⟩:=QcP e 0 f0 Z;obtain⟨r,k,o⟩:=QcP e 1 f1 Z;obtain⟨s,f,rfl,_⟩:=DataW.trod_int h0 n;obtain⟨x,g,rfl,_⟩:=DataW.trod_int h1 o;rw[o0,c0]at f;rw[o1,c1]at g
  match cs,i with
  |[u,v],_=>
   simp at f g;have c:=Qak Prod.fst m;have d:=Go.Lib.mapM_length e
   match l,d with
   |[y,A],_=>
    simp at j k;subst j;subst k;simp at c;rw[f,g,c.1,c.2]
  cases h
theorem c0Y{t e:TypeId}{f0 f1:Field}(ht:P.underlying t=some (.array 3 e))(hs:P.underlying e=some (.struct #[f0,f1]))(h0:P.underlying f0.type=some (.int .i64))(h1:P.underlying f1.type=some (.int .i64))(o0:f0.offset=0)(o1:f1.offset=1)(c0:P.cellsOf f0.type=1)(c1:P.cellsOf f1.type=1)(ce:P.cellsOf e=2)(ct:P.cellsOf t=6)
    (h:DataW.trod enc P w base sp held fuel t cs=some (.agg [.agg [.lit (.int .i64 0),.lit (.int .i64 4)],.agg [.lit (.int .i64 1),.lit (.int .i64 1)],.agg [.lit (.int .i64 2),.lit (.int .i64 2)]],p)):cs=ja:=by
 cases fuel with
 |zero=>simp[DataW.trod]at h
 |succ fuel=>
  simp only[DataW.trod,ht]at h;split at h
  rename_i i
  rw[ct]at i;obtain⟨m,c,n⟩:=Option.map_eq_some_iff.1 h;obtain⟨⟨s,u⟩,j,o⟩:=QcP c 0 0 Z;obtain⟨⟨v,x⟩,k,q⟩:=QcP c 1 1 Z;obtain⟨⟨y,A⟩,l,r⟩:=QcP c 2 2 Z;have a:=Qak Prod.fst n;have b:=Go.Lib.mapM_length c
  match m,b with
  |[B,C,D],_=>
   simp at j k l;subst j;subst k;subst l;simp at a;obtain⟨rfl,rfl,rfl⟩:=a;have d:=NK hs h0 h1 o0 o1 c0 c1 ce o;have f:=NK hs h0 h1 o0 o1 c0 c1 ce q;have g:=NK hs h0 h1 o0 o1 c0 c1 ce r;rw[ce]at d f g
   match cs,i with
   |[E,F,G,H,I,J],_=>
    simp at d f g;rw[d.1,d.2,f.1,f.2,g.1,g.2];rfl
  cases h
end
theorem c0Z{W ps}(h:DataW.LaidVars Tryz.prog W [("hermitage/mmu.kinds",(.agg [.agg [.lit (.int .i64 0),.lit (.int .i64 4)],.agg [.lit (.int .i64 1),.lit (.int .i64 1)],.agg [.lit (.int .i64 2),.lit (.int .i64 2)]]))] ps):∀A,bF (aQ W A) 1 0 ja:=by obtain⟨m,n,g,e,p,q,b,c,a,j,_,_⟩:=h;have f:Tryz.prog.globalNamed "hermitage/mmu.kinds" =some 1:=ld;obtain rfl:=Qbn (f.symm.trans b);have d:(Tryz.prog.globals[1]?).map (·.type)=some 585:=ld;obtain rfl:=Qbn (d.symm.trans c);have k:g.toList=ja:=c0Y c2z c2h ez ez Z Z ld ld ld ld j;intro A i v l;refine Gf ?_;have:=World.var?_cell f a i;rw[Qac,this, <-Array.getElem?_toList,k];exact l
section
variable{P:Program}{w:World}{enc:TypeId×Value->Unit}{base:Nat}{sp:Nat->Bool}{held:Bool}
theorem c00{fuel n t e cs}{ls:List Nat}{p}(ht:P.underlying t=some (.array n e))(he:P.underlying e=some (.int .i64))(ce:P.cellsOf e=1)(ct:P.cellsOf t=n)
    (h:DataW.trod enc P w base sp held fuel t cs=some (.agg (ls.map λz=>.lit (.int .i64 (z:Nat))),p)):cs=ls.map λz=>.int .i64 z:=by
 cases fuel with
 |zero=>simp[DataW.trod]at h
 |succ fuel=>
  simp only[DataW.trod,ht]at h;split at h
  rename_i hl
  rw[ct]at hl;obtain⟨xs,hm,hx⟩:=Option.map_eq_some_iff.1 h;have hxs:xs.map (·.1)=ls.map λz=>(.lit (.int .i64 ((z:Nat):Int)):DataW Unit):=by
   grind
  have hlen:=Go.Lib.mapM_length hm;rw[List.length_range]at hlen;have hll:ls.length=n:=by
   have:=Qak List.length hxs;simp at this;omega
  apply QaV aac;intro i h1 h2;have hi:i<n:=aq;obtain⟨⟨d,q⟩,e0,g0⟩:=QcP hm i i abg;obtain⟨m,q0,q1,_⟩:=DataW.trod_int he g0;have h3:(xs.map (·.1))[i]?=some d:=mv;rw[hxs,QbL,QbN (show i<ls.length by omega)]at h3;have h4:d=.lit (.int .i64 m):=Qak Prod.fst q1;rw[h4]at h3;simp at h3;rw[ce,QaP,Qbt h1]at q0;rw[(List.cons.inj q0).1,Qcg,h3];cases h
end
theorem c01{W ps r}(h:DataW.LaidVars Tryz.prog W (("hermitage/isa.has",(.agg (DL.map λz=>.lit (.int .i64 (z:Nat)))))::r) ps):(∀A,bF (aQ W A) 0 0 ko)/\∃q,DataW.LaidVars Tryz.prog W r q:=by obtain⟨n,o,g,e,p,q,b,c,a,j,k,_⟩:=h;refine⟨?_,q,k⟩;have f:Tryz.prog.globalNamed "hermitage/isa.has" =some 0:=ld;obtain rfl:=Qbn (f.symm.trans b);have d:(Tryz.prog.globals[0]?).map (·.type)=some 448:=ld;obtain rfl:=Qbn (d.symm.trans c);have l:g.toList=ko:=c00 c2b ez ld ld j;intro A i v m;refine Gf ?_;have:=World.var?_cell f a i;rw[Qac,this, <-Array.getElem?_toList,l];exact m
theorem c02(h:laidMet Tryz.prog [("hermitage/isa.has",(.agg (DL.map λz=>.lit (.int .i64 (z:Nat))))),("hermitage/mmu.kinds",(.agg [.agg [.lit (.int .i64 0),.lit (.int .i64 4)],.agg [.lit (.int .i64 1),.lit (.int .i64 1)],.agg [.lit (.int .i64 2),.lit (.int .i64 2)]]))] W):
    (∀A,bF (aQ W A) 0 0 ko)/\∀A,bF (aQ W A) 1 0 ja:=by obtain⟨c,h,_⟩:=h;obtain⟨a,q,b⟩:=c01 h;exact⟨a,c0Z b⟩
end
end Go.Proofs.YtjaalpinjajaoaaGreatDoor
