/-
  Part 2 of the proof of HvClocks: rules, and walks of functions. Conditions: none.
-/
import Derived.Test.YtjaalpinjajaoaaGreatDoorHvClocksA
namespace Go.Proofs.YtjaalpinjajaoaaGreatDoor
open Go.Proofs.Tryz
set_option linter.unusedSimpArgs false
set_option linter.unusedVariables false
set_option maxRecDepth 20000
set_option linter.defProp false
set_option synthInstance.maxSize 8192
set_option synthInstance.maxHeartbeats 2000000
variable{W0:World}{R:List HP}
variable {s:ByteArray}{x:Int×Bool}{k:IntKind}{Ls:List (List Nat)}{A:List HP}{its l words ws:List Nat}{sp vs xs ys:List Value}{E c cause f fuel g i j n o off pc sz tval w who:Nat}{lo:Operand}{a a':Option Addr}{sv v vi:Value}{W0:World}
section
open Go.RowKit
def sy(c:Cfg)(i:Int):Int:=(c.gl.getD i.toNat (0,0,0)).1
def zE(c:Cfg)(x:Int×Int):Bool:= !(m0 c x.1&&m0 c x.2&&decide (x.1≠x.2)&&qY (sy c x.1) (sy c x.2))
theorem a7n W0 b1 c(y:∀A,bZ (aQ W0 A) c.na 2 fZ c.nl)(f:∀A,bZ (aQ W0 A) c.ga 3 jW c.gl):
    WF W0 88 [pQ b1] c.nl.length (λ_=>bB [pt b1 (ae (dU c) 28)]) (λi=>zE c (c.nl.getD i (0,0))):=⟨call88,λi e R=>by
 refine qW ?_;simp only[Qau,Qar];obtain⟨g,o,hga,hc⟩:=(y (pt b1 (ae (dU c) 28)::R)).at_ e;obtain⟨x,hx⟩:∃x,c.nl[i]=x:=⟨_,Z⟩
 rw[show c.nl.getD i (0,0)=x by simp[List.getD,e,hx]];rw[hx]at hc;obtain⟨p,q⟩:=x;obtain⟨w1,hw1⟩:∃w,m0 c p=w:=⟨_,Z⟩
 obtain⟨w2,hw2⟩:∃w,m0 c q=w:=⟨_,Z⟩
 have s:zE c (p,q)= !(w1&&w2&&decide (p≠q)&&qY (sy c p) (sy c q)):=by grind[zE]
 by_cases B:w1=true/\w2=true;obtain⟨rfl,rfl⟩:=B;have D:0≤p/\p<c.gl.length:=Qaw hw1;have E:0≤q/\q<c.gl.length:=Qaw hw2;obtain⟨j,rfl⟩:∃j:Nat,p=(j:Int):=⟨p.toNat,aq⟩
 obtain⟨k,rfl⟩:∃k:Nat,q=(k:Int):=⟨q.toNat,aq⟩
 have h:j<c.gl.length:=aq;have l:k<c.gl.length:=aq;obtain⟨u,hu⟩:∃u,c.gl[j]=u:=⟨_,Z⟩
 obtain⟨v,hv⟩:∃v,c.gl[k]=v:=⟨_,Z⟩
 have m:sy c (j:Int)=u.1:=by grind[sy]
 have n:sy c (k:Int)=v.1:=by grind[sy]
 rw[m,n]at s;rw[s];obtain⟨gg,og,hgg,hcj⟩:=(f (pt b1 (ae (dU c) 28)::R)).at_ h;obtain⟨gh,oh,hgh,hck⟩:=(f (pt b1 (ae (dU c) 28)::R)).at_ l;rw[hu]at hcj;rw[hv]at hck;obtain⟨cats,ga,gc,gl,ra,rc,rl,pa,pc,pl,na,nc,nl,sa,sc,sl,gate,quota⟩:=c;dsimp only at e hga hc hw1 hw2 h l hgg hgh hcj hck ⊢;subst hga;subst hgg;obtain⟨rfl,rfl⟩:gg=gh/\og=oh:=by grind
 refine am func88 ntmps88 ?_;refine ac (cu e) ?_;refine ac (cV hc.weak) ?_;refine bU λt=>?_;refine aJ aR (ao (aK D5 (zA ⟨cats,some ⟨gg,og,none⟩,gc,gl,ra,rc,rl,pa,pc,pl,some ⟨g,o,none⟩,nc,nl,sa,sc,sl,gate,quota⟩ (j:Int))) ?_);rw[hw1];apply fC<;>intro b;exact absurd Z b;refine ao (aK D5 (zA ⟨cats,some ⟨gg,og,none⟩,gc,gl,ra,rc,rl,pa,pc,pl,some ⟨g,o,none⟩,nc,nl,sa,sc,sl,gate,quota⟩ (k:Int))) ?_;rw[hw2];apply fC<;>intro a;exact absurd Z a;apply ap<;>intro C;refine ag (aP (Qak Value.bool ?_));rw[Qah];simp_all;refine dY [(b1,0,_),(t,0,_),(gg,og+j*3,jW u),(gg,og+k*3,jW v)] 17 mixed Z (bj (bj (dA hcj.weak (dA hck.weak bI)))) (λd=>?_);refine aj 0 4 d ?_;refine aE 4 d (cu h) ?_;refine aj 5 1 d ?_;refine aE 6 d (aY (n0 (k:=2) (j:=0) Z Z)) ?_;refine aj 7 4 d ?_;refine aE 11 d (cu l) ?_;refine aj 12 1 d ?_;refine aE 13 d (aY (n0 (k:=3) (j:=0) Z Z)) ?_;refine iX 14 Z Z (aK Oo (GE u.1 v.1)) (bj (bj (dA hcj.weak (dA hck.weak bI)))) λd=>?_;refine aj 15 2 d ?_;refine aS (ag (aP (Qak Value.bool ?_)));rw[Qah];simp_all;have r:zE c (p,q)=true:=by
  grind
 rw[r];obtain⟨cats,ga,gc,gl,ra,rc,rl,pa,pc,pl,na,nc,nl,sa,sc,sl,gate,quota⟩:=c;dsimp only at e hga hc hw1 hw2 ⊢;subst hga;refine am func88 ntmps88 ?_;refine ac (cu e) ?_;refine ac (cV hc.weak) ?_;refine bU λt=>?_;refine aJ aR (ao (aK D5 (zA ⟨cats,ga,gc,gl,ra,rc,rl,pa,pc,pl,some ⟨g,o,none⟩,nc,nl,sa,sc,sl,gate,quota⟩ p)) ?_);rw[hw1];refine d7 Z Z Z ?_ ?_;intro b;exact aw (ag ax);intro b;refine aw (ao (aK D5 (zA ⟨cats,ga,gc,gl,ra,rc,rl,pa,pc,pl,some ⟨g,o,none⟩,nc,nl,sa,sc,sl,gate,quota⟩ q)) ?_);rw[hw2];refine d7 Z Z Z ?_ ?_;intro a;exact aw (ag ax);intro a;exfalso;cases w1<;>cases w2<;>simp_all
 ⟩
def uY(c:Cfg):Bool:=decide (4<c.nl.length)||ql (λi=>zE c (c.nl.getD i (0,0))) c.nl.length
theorem a7o(c:Cfg)(g:∀A,bZ (aQ W0 A) c.na 2 fZ c.nl)(a:∀A,bZ (aQ W0 A) c.ga 3 jW c.gl):sP W0 39 [.agg (dU c).toArray] R (λv B=>∃r,v=.tuple #[iQ r,.bool (uY c)]/\B=R):=by
 obtain⟨w,e⟩:∃w,(λi=>zE c (c.nl.getD i (0,0)))=w:=⟨_,Z⟩
 have f:uY c=(decide (4<c.nl.length)||ql w c.nl.length):=by rw[uY,e]
 refine am func39 ntmps39 ?_;refine bR λb=>?_;apply ap<;>intro h;refine aZ ?_;rw[f,Qav (by omega),QcD];exact g9;refine aF Z (ar FV (GH 88 [pQ b] c.nl.length b _ w (e▸a7n W0 b c g a) (by omega))) ?_;rintro _ j ⟨r,rfl,d⟩;subst d;refine aw (aZ ?_);rw[f,Qat (by omega),Qcl];exact⟨_,⟨r,Z,Z⟩,IO⟩
def kv(c:Cfg):Nat->Int
 |0=>(c.nl.length:Int)
 |i+1=>kv c i+((c.gl.getD i (0,0,0)).2.1+(c.gl.getD i (0,0,0)).2.2)
theorem Q4{c}(a:∀g∈c.gl,1≤g.2.1/\g.2.1≤8/\0≤g.2.2/\g.2.2≤8-g.2.1)(b:c.nl.length≤4):∀i,i≤c.gl.length->0≤kv c i/\kv c i≤4+8*i
 |0,_=>by rw[kv];omega
 |i+1,d=>by
  obtain⟨e,f⟩:=Q4 a b i aq;have:=a _ (QaC (show i<c.gl.length by omega));rw[kv,show c.gl.getD i (0,0,0)=c.gl[i]'(by omega) by simp[List.getD,show i<c.gl.length by omega]];omega
theorem Kk(c:Cfg)(l:∀A,bZ (aQ W0 A) c.ga 3 jW c.gl)(h:∀g∈c.gl,1≤g.2.1/\g.2.1≤8/\0≤g.2.2/\g.2.2≤8-g.2.1)(m:c.nl.length≤4)(r:c.gl.length≤4):sQ W0 42 [.agg (dU c).toArray] R (iQ (kv c c.gl.length)) R:=by
 have b:=Q4 h m;refine am func42 ntmps42 ?_;refine bR λs=>?_;refine eC (λi:Nat=>i≤c.gl.length) (λi=>[(3,iQ (kv c i)),(10,.slice c.ga c.gl.length c.gc),(11,iQ (c.gl.length:Nat)),(12,iQ (i:Nat))]) (λ_=>R) (λi=>c.gl.length-i) 0 ?_ ?_;omega;intro i n;refine aw (ap (λp=>?_) λp=>?_);have a:i<c.gl.length:=aq;obtain⟨g,o,d,j⟩:=(l R).at_ a;obtain⟨x,k⟩:∃x,c.gl[i]=x:=⟨_,Z⟩
 rw[k]at j;have e:=h _ (QaC a);rw[k]at e;have f:kv c (i+1)=kv c i+(x.2.1+x.2.2):=by grind[kv]
 have q:=b i n;rw[d];refine ac (cu a) ?_;refine ac (cV j.weak) ?_;refine bU λt=>?_;refine eM (eN uz Z Z Z Z Z) ?_;rintro _ _ rfl;refine aI (aA (aM (aa Z (aV Z) ?_)));refine aa Z (bT Z uA Z bu Z dg) ?_;refine aa Z (bO cM Z (aO Z)) ?_;refine aa Z (bT Z uA Z bu Z dg) ?_;refine aa Z (bO cM Z (aO Z)) ?_;refine aa Z (dI Z Z (bS aq)) ?_;refine ac (dI Z Z (by rw[bS aq];exact f.symm:IntKind.wrap .i64 (kv c i+(x.2.1+x.2.2))=kv c (i+1))) ?_;exact y1;refine ag ?_;obtain rfl:i=c.gl.length:=aq;exact ax
section
variable{P:Program}{S:World->Prop}{W0:World}{N:FSz}{Q:Exit->Act->World->Prop}{e:bK}{A B R R1 R2:List HP}
variable{ty t t':TypeId}{af:Array Edge}{v u:Value}{d b:Nat}{x y z:Operand}{l vs:List Value}
theorem GI{z:Array Value}:(Builtin.zeroCells z n).toList.length=n*z.size:=by simp[Builtin.zeroCells]
theorem a7p{E sz n k c by_:Nat}{info zz an olds kk kq kn}(L:P.underlying t=some (.slice E))(r:P.underlying t'=some (.int kn))
    (M:P.info? E=some info)(O:info.zero=some zz)(s:info.size=sz)(C:info.bytes=by_)(b:zz.cells.size=sz)(d:0<sz)
    (Q:ev e x=some (.slice an n c))(R:ev e y=some (.int kq kk))(S:kk=k)(f:(an=none/\olds=[])\/∃o p,an=some ⟨o,p,none⟩/\bF (aQ W0 A) o p olds)(h:olds.length=n*sz)
    (T:0<k)(U:c<n+k)(i:n+k≤maxLen)(l:(n+k)*by_≤140737488355328):
    dq P W0 N e A (.call { callee:=.builtin .append,args:= #[x,y],argTypes:= #[t,t'] }) (λv B=>∃V W I,v=.slice V (n+k) W/\I.length=k*sz/\B=osl E sz v (olds++I)::A):=uL λa w X Y Z af g J K=>by
 subst S;subst s;subst C;have q:n+k≤9223372036854775807:=by simp only[maxLen]at i;omega
 have D:(Builtin.firstCells info.size n (.slice an n c)).run P w.drew=.ok olds.toArray w.drew:=by
  rcases f with ⟨rfl,rfl⟩|⟨o,p,rfl,hc⟩;simp[Builtin.firstCells]
  exact run_firstCells_some (P:=P) w.drew info.size n ⟨o,p,none⟩ n c olds h (λj u hj=>by
   have:=hc j u hj w K
   simpa[l7]using this)
 have F:k*info.bytes≤281474976710656:=by
  grind
 have hr:=Go.Lib.run_append_grow_zeros (P:=P) w t t' Y E info zz kq kn L r M O an n c olds D k T d U aq F (growslice_fits aq l);have G:=grownCap_ge w (n+k) c E;have H:=grownCap_le_maxLen w (n+k) c E i;have m:=(Own.drew K (w.drawn+1)).new (ae ((olds++(Builtin.zeroCells zz.cells k).toList)++(Builtin.zeroCells zz.cells (grownCap w (n+k) c E-(n+k))).toList) E);have ea:((olds++(Builtin.zeroCells zz.cells k).toList)++(Builtin.zeroCells zz.cells (grownCap w (n+k) c E-(n+k))).toList).toArray=olds.toArray++Builtin.zeroCells zz.cells k++Builtin.zeroCells zz.cells (grownCap w (n+k) c E-(n+k)):=mv;refine⟨_,{ ({ w with drawn:=w.drawn+1 }:World)with heap:=w.heap.push (ae ((olds++(Builtin.zeroCells zz.cells k).toList)++(Builtin.zeroCells zz.cells (grownCap w (n+k) c E-(n+k))).toList) E) },_,.inl ?_,⟨some ⟨w.heap.size,0,none⟩,grownCap w (n+k) c E,(Builtin.zeroCells zz.cells k).toList,ρ,by rw[GI,b],ρ⟩,?_⟩;simp only[execOp,resolve,invoke,builtin,Sem.run_bind,Sem.run_pure,Result.andThen_ok,QbR,QaE,QbE,J.eval Q,J.eval R,hr];simp only[World.drew,World.alloc,ae,ea];refine m.ent ?_
 exact @jG _ A A E info.size w.heap.size (n+k) (grownCap w (n+k) c E) (olds++(Builtin.zeroCells zz.cells k).toList) _ _ G H (by grind[Qaf,GI]) (by
   rw[Qaf,Qaf,h,GI,GI,b, <-Qdc, <-Qdc];congr 1;omega) _
theorem a7q{f xs ats}(b:gJ e xs.toList=some vs)(c:∀w,S w->(callFunc f vs.toArray).run P w=.ok (.value v) w):cr P S N e (.call { callee:=.value (.func f),args:=xs,argTypes:=ats }) v:=λa w d l h m g i j=>by
 rw[execOp_call_go];have k:(#[]++xs.map a.eval++ #[]:Array Value)=vs.toArray:=by
  have:=i.evals b;rw[<-this];apply QcB;simp
 rw[k,c w j]
theorem a7r(b:P.underlying t=some (.slice d))(f:ev e x=some (.slice a n c)):cr P S N e (.call { callee:=.builtin .cap,args:= #[x],argTypes:= #[t] }) (iQ (c:Nat)):=λg w _ _ _ _ _ h _=>by
 simp[execOp,resolve,invoke,builtin,h.eval f,Builtin.cap_,eV b,goInt]
theorem GJ{p q s r}(h:q.length=r.length):ee (p++q++s) p.length r=p++r++s:=by grind[vS]
theorem tK{l1 l2:List Value}(h:bF S g o (l1++l2)):bF S g o l1:=λi v a=>h i v (by
  rw[QaO (by
    rcases Qaz i l1.length with q|q
    · exact q
    rw[QaU q]at a;cases a)]
  exact a)
theorem a7s{g o l1 l2}(h:bF S g o (l1++l2)):bF S g (o+l1.length) l2:=λi v a=>by
 rw[Qcm];exact h (l1.length+i) v mv
theorem Q5{l1 a l3:List Value}[h:Tk pt b A (ae l ty) R](c:l=l1++a++l3)(d:l1.length=o):bF (aQ W0 A) b o a:=by
 subst d;have e:bF (aQ W0 A) b 0 (l1++a):=tK (l2:=l3) (by rw[<-c];exact eQ (ty:=ty) (R:=R) (h:=h));have:=a7s e
 rwa[Qac]at this
theorem a7t{E h:Nat}{c tR ba ga na ca nb cb oa ob:Nat}{la lb ta tb}(i:P.underlying c=some (.slice E))(j:∀w,(sizeOf E).run P w=.ok h w)[u:Tk pt ba A (ae la ta) R1][k:Tk pt ga R1 (ae lb tb) R2](l:oa≤la.length)(m:0<lb.length){w}(n:Own W0 w A):
    (Extern.SlicesOverlaps.overlaps #[c,c] #[tR] #[.slice (some ⟨ba,oa,none⟩) na ca,.slice (some ⟨ga,ob,none⟩) nb cb]).run P w=.ok (.bool false) w:=by
 have a:=n.tk (r:=pt) (b:=ba);have d:=a.has.2;have e:=(a.drop).tk (r:=pt) (b:=ga);have o:=e.has.2;have f:ba≠ga:=by
  intro q;subst q;have g:Own W0 w (pt ba (ae la ta)::pt ba (ae lb tb)::R2):=a.perm (k.perm.cons _);obtain⟨v,⟨x,y,rfl,p,B,C,rfl,s,_⟩,t,_⟩:=g.owns;cases p;cases s;simp at t
 refine Go.Lib.run_overlaps_apart w c tR E i h j ⟨ba,oa,none⟩ ⟨ga,ob,none⟩ na ca nb cb f ta tb la.length lb.length ?_ ?_ aq ?_ ?_;simp[World.shape?,d];simp[World.shape?,o];simp[World.frozen?,d];simp[World.frozen?,d]
end
section
variable{P:Program}{S:World->Prop}{W0:World}{N:FSz}{e:bK}{A R:List HP}{t ty:TypeId}{b off:Nat}{x:Operand}{l:List Value}
theorem DC{E n c g o':Nat}{k}{i:Nat}{j1}(j:P.underlying t=some (.slice E))(l:∀w,(sizeOf E).run P w=.ok g w)(m:ev e x=some (.slice (some ⟨b,off,none⟩) n c))
    {lo}(o:ev e lo=some (.int k j1))(p:j1=i)(d:i≤n)(q:i<c)(r:off+i*g=o'):
    cr P S N e (.slice t x (some lo) none none) (.slice (some ⟨b,o',none⟩) (n-i) (c-i)):=λa w _ _ _ _ _ h _=>by
 subst p;subst r;have f:¬c=i:=aq;simp[execOp,Instr.sliceAt,Instr.slice,h.eval m,h.eval o,eV j,Instr.sliceBounds,vV d,l,f,l7]
theorem qm{d:Int}(g:P.underlying t=some (.slice E))(h:∀w,(sizeOf E).run P w=.ok sz w)(j:ev e x=some (.slice a n c))
    (l:ev e lo=some (.int k d))(m:d=(i:Int))(b:i≤n)(o:jk a c i sz=a'):
    cr P S N e (.slice t x (some lo) none none) (.slice a' (n-i) (c-i)):=λp w _ _ _ _ _ f _=>by
 subst m;subst o;simp[execOp,Instr.sliceAt,Instr.slice,f.eval j,f.eval l,eV g,Instr.sliceBounds,vV b,h,jk]
theorem Q6 z n:(Builtin.zeroCells z n).toList.length=n*z.size:=by simp[Builtin.zeroCells]
theorem a7u z n(c:z.all Value.oneCell'=true):∀v∈(Builtin.zeroCells z n).toList,v.oneCell'=true:=λv b=>by
 simp only[Builtin.zeroCells,Qco,QaZ,Array.toList_range,QbX]at b;obtain⟨i,e,rfl⟩:=b;have d:0<z.size:=by
  grind
 have a:i %z.size<z.size:=Qbq _ d;rw[getElem!_pos z (i %z.size) a];exact(Array.all_eq_true.1 c) _ a
theorem Kl{E n c:Nat}{z}(y:P.underlying t=some (.slice E))(C:∀w,(zeroValue E).run P w=.ok z w)(D:z.cells.all Value.oneCell'=true)(F:ev e x=some (.slice (some ⟨b,off,none⟩) n c))(J:0<n)
    [h:Tk pt b A (ae l ty) R](L:off+n*z.cells.size≤l.length):
    dq P W0 N e A (.call { callee:=.builtin .clear,args:= #[x],argTypes:= #[t] }) (λv B=>∃s,s.length=n*z.cells.size/\v=.tuple #[]/\B=pt b (ae (ee l off s) ty)::R):=by
 intro a w i j o G g K Q H I k;have p:=I.tk (r:=pt) (b:=b);obtain⟨u,q,d⟩:=Dn (P:=P) (off:=off) (Builtin.zeroCells z.cells n).toList 0 p (by rw[Q6];omega) (a7u _ _ D);rw[QbW]at d;have f:(execOp a.eval { dst:=i,op:=.call { callee:=.builtin .clear,args:= #[x],argTypes:= #[t] },type:=j,pos:=o,after:=G,guard:=g }).run P w=.ok (.value (.tuple #[])) u:=by
  obtain⟨m,rfl⟩:∃m,n=m+1:=⟨n-1,aq⟩
  simp only[execOp,resolve,invoke,builtin,Sem.run_bind,Sem.run_pure,Result.andThen_ok,QbR,QaE,QbE,H.eval F,Builtin.clear_,Qbu,Qbk,Qbl,eV y,C,q]
 unfold Oper.wp;rw[f];exact k _ u _ ⟨_,Q6 _ _,Z,Z⟩ d
section
variable{rd:Option Nat}{Q:Exit->Act->World->Prop}{ops:Array Oper}{rest:List Oper}{pos:String}{af:Array Edge}{d:Nat}{y:Operand}
theorem a7v{xc yc}(k:aC W0 N (yc.wpR rd P Q) e A):aC W0 N ((Code.cond (.const (.bool false)) xc yc).wpR rd P Q) e A:=
  λa w b c=>wpIn_cond_false (b.eval (x:=.const (.bool false)) Z) (k a w b c)
theorem a7w{k i}{j:Nat}{s}(c:P.underlying t=some .string)(d:ev e x=some (.string s))(f:ev e y=some (.int k i))(g:i=j)hj:
    cr P S N e (.index t x y) (.int .u8 (s[j]'hj).toNat):=λa w _ _ _ _ _ b _=>by
 subst g;have h:(0:Int)≤(j:Int):=aq;simp only[execOp,Instr.index,Sem.run_bind,b.eval d,b.eval f,asIntOf,Sem.run_pure,Result.andThen_ok,eV c,Qad h,Qae,getElem?_pos s j hj]
theorem a7x{i:Int}(a:Nat.blt d N.n=true)(b:P.underlying t=some .string)(c:ev e x=some (.string s))(f:ev e y=some (.int k i))(g:i=(j:Int))(h:j<s.size)
    (l:∀m:Nat,m<256->aC W0 N (cH rd P ops Q rest) ((d,.int .u8 m)::e) A):
    aC W0 N (cH rd P ops Q ({ dst:=some d,op:=.index t x y,type:=ty,pos:=pos,after:=af,guard:=none }::rest)) e A:=
  aa a (a7w b c f g h) (l _ (UInt8.toNat_lt _))
end
end
section
variable{P:Program}{W0:World}{N:FSz}{e:bK}{A R R1 R2 R3 R4 R5 R6 R7:List HP}{vs us cs:List Value}
variable{K1 K2 K3 K4 K5 K6 K7 K8 X1 X2 X3 X4 X5 X6 X7 X8:Type}{r1:K1->X1->HP}{b1:K1}{x1:X1}{r2:K2->X2->HP}{b2:K2}{x2:X2}{r3:K3->X3->HP}{b3:K3}{x3:X3}{r4:K4->X4->HP}{b4:K4}{x4:X4}{r5:K5->X5->HP}{b5:K5}{x5:X5}{r6:K6->X6->HP}{b6:K6}{x6:X6}{r7:K7->X7->HP}{b7:K7}{x7:X7}{r8:K8->X8->HP}{b8:K8}{x8:X8}
theorem GK[a:Tk r1 b1 A x1 R1][b:Tk r2 b2 R1 x2 R2][c:Tk r3 b3 R2 x3 R3][d:Tk r4 b4 R3 x4 R4][e:Tk r5 b5 R4 x5 R5][f:Tk r6 b6 R5 x6 R6][g:Tk r7 b7 R6 x7 R]:A.Perm (r1 b1 x1::r2 b2 x2::r3 b3 x3::r4 b4 x4::r5 b5 x5::r6 b6 x6::r7 b7 x7::R):=a.perm.trans (xz.cons _)
theorem DD[a:Tk r1 b1 A x1 R1][b:Tk r2 b2 R1 x2 R2][c:Tk r3 b3 R2 x3 R3][d:Tk r4 b4 R3 x4 R4][e:Tk r5 b5 R4 x5 R5][f:Tk r6 b6 R5 x6 R6][g:Tk r7 b7 R6 x7 R7][h:Tk r8 b8 R7 x8 R]:A.Perm (r1 b1 x1::r2 b2 x2::r3 b3 x3::r4 b4 x4::r5 b5 x5::r6 b6 x6::r7 b7 x7::r8 b8 x8::R):=a.perm.trans (GK.cons _)
variable{f:FuncId}{xs:Array Operand}{ats:Array TypeId}{Post:Value->List HP->Prop}
theorem Q7(b:∀a w,(callFunc f a).run P w=.ok (.enter f a) w)(c:gJ e xs.toList=some vs)
    (d:bE P W0 f vs (r1 b1 x1::r2 b2 x2::r3 b3 x3::r4 b4 x4::r5 b5 x5::r6 b6 x6::r7 b7 x7::R) Post)[g:Tk r1 b1 A x1 R1][h:Tk r2 b2 R1 x2 R2][i:Tk r3 b3 R2 x3 R3][j:Tk r4 b4 R3 x4 R4][k:Tk r5 b5 R4 x5 R5][l:Tk r6 b6 R5 x6 R6][m:Tk r7 b7 R6 x7 R]:dq P W0 N e A (.call { callee:=.value (.func f),args:=xs,argTypes:=ats }) Post:=
  kO GK (gx b c d)
theorem Q8(b:∀a w,(callFunc f a).run P w=.ok (.enter f a) w)(c:gJ e xs.toList=some vs)
    (d:bE P W0 f vs (r1 b1 x1::r2 b2 x2::r3 b3 x3::r4 b4 x4::r5 b5 x5::r6 b6 x6::r7 b7 x7::r8 b8 x8::R) Post)[g:Tk r1 b1 A x1 R1][h:Tk r2 b2 R1 x2 R2][i:Tk r3 b3 R2 x3 R3][j:Tk r4 b4 R3 x4 R4][k:Tk r5 b5 R4 x5 R5][l:Tk r6 b6 R5 x6 R6][m:Tk r7 b7 R6 x7 R7][n:Tk r8 b8 R7 x8 R]:dq P W0 N e A (.call { callee:=.value (.func f),args:=xs,argTypes:=ats }) Post:=
  kO DD (gx b c d)
theorem a7y{fx}(b:ev e fx=some (.func (.func f) us.toArray cs.toArray))(c:∀a w,(callFunc f a).run P w=.ok (.enter f a) w)(d:gJ e xs.toList=some vs)
    (g:bE P W0 f (us++vs++cs) (r1 b1 x1::r2 b2 x2::r3 b3 x3::r4 b4 x4::r5 b5 x5::r6 b6 x6::r7 b7 x7::R) Post)[h:Tk r1 b1 A x1 R1][i:Tk r2 b2 R1 x2 R2][j:Tk r3 b3 R2 x3 R3][k:Tk r4 b4 R3 x4 R4][l:Tk r5 b5 R4 x5 R5][m:Tk r6 b6 R5 x6 R6][n:Tk r7 b7 R6 x7 R]:dq P W0 N e A (.call { callee:=.value fx,args:=xs,argTypes:=ats }) Post:=
  kO GK (iV b c d g)
end
class NOut (Q : Exit → Act → World → Prop) : Prop where
  no : ∀ a w, ¬ Q .outgrown a w
instance c37{n:Act->World->Prop}{Q:Exit->Act->World->Prop}[h:NOut Q]:NOut (Exit.then n Q):=⟨λa w k=>h.no a w k⟩
instance c38{id:Nat}{Q:Exit->Act->World->Prop}[h:NOut Q]:NOut (Exit.inBlock id Q):=⟨λa w k=>h.no a w k⟩
instance c39{P:Program}{W0:World}{L:Nat}{Post:Value->List HP->Prop}:NOut (Bq P W0 L Post):=⟨λa w k=>k⟩
instance c4a{P:Program}{W0:World}{L:Nat}{Post:Value->List HP->Prop}:POk (Bq P W0 L Post):=⟨λc a d v w k=>k.elim⟩
section
variable{rd:Option Nat}{P:Program}{W0:World}{N:FSz}{Q:Exit->Act->World->Prop}{e:bK}{A:List HP}{ops:Array Oper}{S:World->Prop}
theorem GL(f:yZ rd ops.toList=true)(j:NOut Q):∀(b:Nat) (c:Array Bool) (a:Act) (w:World),wpAnyH P .any ops Q S b c a w->wpAnyIn (FW rd) 0 P .any ops Q b c a w
 |0,_,_,_,h=>h
 |b+1,c,a,w,h=>⟨h.1,λi p=>by
  have e:=h.2 i p;unfold wpOp at e;unfold wpOpIn
  cases k:ops[i]? with
  |none=>
   rw[k]at e;exact GL f j b _ a w e.2
  |some o=>
   rw[k]at e;simp only at e ⊢;split at e
   rename_i d
   rw[Qad d];rcases e with e|⟨_,m,n,h3⟩;have g:o.semAt (FW rd).round a.eval=execOp a.eval o:=by
    cases rd with
    |none=>rfl
    |some l=>
     refine Oper.semAt_eq _ _ _ (P2 ?_);simp only[yZ,Option.isNone_some,Qcl,Qbx]at f
     exact f _ (by
       obtain⟨hlt,rfl⟩:=Array.getElem?_eq_some_iff.1 k
       simp)
   refine⟨λ_ _=>trivial,?_⟩;rw[g];exact P1 (λm n q=>GL f j b _ m n q.2) e;exact absurd h3 (j.no m n)
   rename_i d
   rw[Qab d]
   exact⟨λ_ _=>trivial,GL f j b _ _ w e.2⟩⟩
theorem Q9{c:Nat}(b:List (Nat×Nat×List Value))(n:Nat)(d:P.follows .mixedOrders=true)(f:Nat.beq ops.size n=true)[g:NOut Q](h:∀w,Own W0 w A->SC b w)(k:(∀w,Own W0 w A->SC b w)->aC W0 N (DR P ops Q b n (Array.replicate n false)) e A)(i:yZ rd ops.toList=true:=by rfl):aC W0 N ((Code.region c ops true).wpR rd P Q) e A:=by intro a w j l;have:ops.size=n:=Nat.eq_of_beq_eq_true f;subst this;exact wpIn_region_any d (GL i g _ _ _ _ (k h a _ j (l.drew _)))
end
abbrev Rn:=Int×Int×Int
variable {rs:List Rn}
def d5(x:Rn):List Value:=[.int .i64 x.1,.int .i64 x.2.1,.int .i64 x.2.2]
theorem uZ x:(d5 x).length=3:=Z
theorem Km x:gO (d5 x)=true:=by simp[d5,gO,Value.oneCell']
theorem Kn(l:List Rn):gO (l.flatMap d5)=true:=by
 induction l with
 |nil=>rfl
 |cons x l a=>
  rw[QaT,gO,List.all_append,Qam];exact⟨Km x,a⟩
@[reducible] def n1(a:Option Addr)(k c:Nat)(n:Int):Obj:=ae [.slice a k c,.int .i64 n,.bool true] 267
def my(b:Nat)(x:List Rn×Int):HP:=chk (λC=>∃a c,C=[pt b (n1 a x.1.length c x.2),osl 271 3 (.slice a x.1.length c) (x.1.flatMap d5)])
section
variable{W0:World}{N:FSz}{K:Act->World->Prop}{e:bK}{A B R R1 R2:List HP}{b n c:Nat}{x:List Rn×Int}
theorem Qa[hk:Tk my b A x R](h:∀a c,aC W0 N K e (pt b (n1 a x.1.length c x.2)::osl 271 3 (.slice a x.1.length c) (x.1.flatMap d5)::R)):aC W0 N K e A:=
  ix (r:=my) (b:=b) (oz λC hC=>qr)
theorem rf{k m:Nat}{c:Int}[d:Tk pt b A (n1 a k m c) R1][e:Tk (osl 271 3) (.slice a k m) R1 ys R2](f:k=rs.length)(g:ys=rs.flatMap d5)[q:Ent R2 B]:Ent A (my b (rs,c)::B):=by subst f;subst g;exact(Ent.ofPerm (d.perm.trans (e.perm.cons _))).trans ((fT (R:=R2) (C:=[_,_]) ⟨a,m,Z⟩).trans (Ent.cons q))
theorem a7z{α:Type}{c:Nat}{f:α->List Value}{d:List α}{x:α}[h:Tk (osl E sz) (.slice (some ⟨g,0,none⟩) n c) A ys R](j:ys=d.flatMap f)(k:∀x,(f x).length=sz)(l:0<sz)(m:d[i]?=some x):bF (aQ W0 A) g (i*sz) (f x):=by obtain⟨b,o,p,e⟩:=tI (S:=aQ W0 A) (a:=some ⟨g,0,none⟩) (.inr ⟨g,Z⟩) (mw (E:=E) (sz:=sz) (n:=n) (c:=c) (ys:=ys)) k j l i x m;cases p;rw[Qac]at e;exact e
end
theorem a7A W0 k bt L(d:List Rn)n a c(w:d.length≤1000)(C:Nat->List HP)(I:Nat->Prop)(x:I 0)(e:List HP->Prop)(q:∀i R,i<d.length->I i->sr Tryz.prog W0 L [iQ i,.agg (d5 (d.getD i (0,0,0))).toArray] (C i++R) (λv B=>∃b h,v=.bool b/\B=h++R/\((b=true/\I (i+1)/\h=C (i+1))\/(b=false/\e h)))):sP W0 329 [.func (.yield L) #[] #[],pQ k] (pt k (ae [pQ bt] 174)::pt bt (n1 a d.length c n)::osl 271 3 (.slice a d.length c) (d.flatMap d5)::C 0) (λv B=>v=.tuple #[]/\∃h,B=pt bt (n1 a d.length c n)::osl 271 3 (.slice a d.length c) (d.flatMap d5)::h/\((I d.length/\h=C d.length)\/e h)):=by
 refine am func329 ntmps329 ?_;refine eC (λi:Nat=>i≤d.length/\I i) (λi=>[(0,.func (.yield L) #[] #[]),(8,.slice a d.length c),(9,iQ (d.length:Nat)),(10,iQ (i:Nat))]) (λi=>pt bt (n1 a d.length c n)::osl 271 3 (.slice a d.length c) (d.flatMap d5)::C i) (λi=>d.length-i) 0 ?_ ?_;grind;intro i ⟨y,p⟩;refine aw (ap (λr=>?_) λr=>?_);have j:i<d.length:=aq;have l:d[i]?=some (d.getD i (0,0,0)):=mv;refine oB (E:=271) (sz:=3) (a:=a) (c:=c) (n:=d.length) (ys:=d.flatMap d5) (λs=>?_);obtain⟨g,rfl⟩:=BA s (by rw[<-Qcy,dy uZ];omega);refine aw (ac (cu j) ?_);refine ac (cV (a7z (f:=d5) (E:=271) (sz:=3) (n:=d.length) (c:=c) Z uZ cl l)) ?_;refine bU λk=>?_;refine eM (eN l5 Z Z Z Z Z) ?_;rintro _ _ rfl;refine aI (aA (aG (aM (aa Z (aV Z) (aa Z (aV Z) (aa Z (q9 NN l5 Z Z) ?_))))));refine Gs Z Z Z (Gw (QaQ (l₁:=[_,_,_])) (q i [_,_,_] j p)) ?_;rintro _ A ⟨b,h,rfl,m,D⟩;subst m;refine uF QaQ ?_;simp only[Qau,Qar];refine aw (ap (λt=>?_) λt=>?_);have o:e h:=by
  grind
 refine bP (.inl Z) .nil ?_;exact⟨_,⟨Z,_,Z,.inr o⟩,IO⟩;have o:I (i+1)/\h=C (i+1):=by
  grind
 obtain⟨u,rfl⟩:=o;refine ac cK (d8 (i+1) ?_);grind;refine bP (.inr Z) .nil ?_;obtain rfl:i=d.length:=aq;exact⟨_,⟨Z,_,Z,.inl ⟨p,Z⟩⟩,IO⟩
theorem Qb(b:Nat):sP W0 254 [pQ b] R (λv B=>∃a,v=.func (.func 329) #[] #[pQ a]/\B=pt a (ae [pQ b] 174)::R):=by refine am func254 ntmps254 ?_;refine dh (fQ Z Z) λa=>?_;exact ag ⟨_,⟨a,Z,Z⟩,IO⟩
theorem Qc{e:bK}{k L D b1 o:Nat}{n:Int}{d:Array Tmp}{g b:Code}(r:Code){H l:List HP->Prop}(h:List Rn)(K:h.length≤1000)(m:Nat->List HP)(I:Nat->Prop)(s:List HP->Prop)
    (M:A.Perm (pt b1 (ae [pQ o] 174)::pt o (n1 a h.length c n)::osl 271 3 (.slice a h.length c) (h.flatMap d5)::m 0))(N:I 0)
    (t:I h.length->H (pt o (n1 a h.length c n)::osl 271 3 (.slice a h.length c) (h.flatMap d5)::m h.length))
    (u:∀j,s j->l (pt o (n1 a h.length c n)::osl 271 3 (.slice a h.length c) (h.flatMap d5)::j))
    (x:∀i y,i<h.length->I i->sr Tryz.prog W0 L [iQ (i:Nat),.agg (d5 (h.getD i (0,0,0))).toArray] (dO L ⟨e,k,d,g,b,.ready,none,D⟩::pt D (.deferred (some []))::(m i++y))
      (λv B=>(v=.bool true/\I (i+1)/\B=dO L ⟨e,k,d,g,b,.ready,none,D⟩::pt D (.deferred (some []))::(m (i+1)++y))\/
        (v=.bool false/\∃j,s j/\B=dO L ⟨e,k,d,g,b,.done,some r,D⟩::pt D (.deferred (some []))::(j++y)))):
    bE Tryz.prog W0 329 (.func (.yield L) #[] #[]::[pQ b1]) (dO L ⟨e,k,d,g,b,.ready,none,D⟩::pt D (.deferred (some []))::A)
      (λ_ B=>(∃C,B=dO L ⟨e,k,d,g,b,.ready,none,D⟩::pt D (.deferred (some []))::C/\H C)\/(∃C,B=dO L ⟨e,k,d,g,b,.done,some r,D⟩::pt D (.deferred (some []))::C/\l C)):=by
 have p:(dO L ⟨e,k,d,g,b,.ready,none,D⟩::pt D (.deferred (some []))::A).Perm (pt b1 (ae [pQ o] 174)::pt o (n1 a h.length c n)::osl 271 3 (.slice a h.length c) (h.flatMap d5)::(dO L ⟨e,k,d,g,b,.ready,none,D⟩::pt D (.deferred (some []))::m 0)):=
   ((M.cons _).cons _).trans (List.perm_append_comm_assoc [_,_] [_,_,_] (m 0))
 refine eR p (cF (a7A W0 b1 o L h n a c K (λi=>dO L ⟨e,k,d,g,b,.ready,none,D⟩::pt D (.deferred (some []))::m i) I N
   (λB=>∃j,s j/\B=dO L ⟨e,k,d,g,b,.done,some r,D⟩::pt D (.deferred (some []))::j) λi R E F w O=>?_) ?_)
 obtain⟨f,q,G,P,Q,S⟩:=x i R E F w O;refine⟨f,q,G,P,Q,RoundIn.mono S ?_⟩;rintro _ W ⟨v,B,rfl,T,U⟩;rcases T with ⟨rfl,V,rfl⟩|⟨rfl,j,J,rfl⟩;grind;grind;rintro v B ⟨_,X,rfl,⟨F,rfl⟩|⟨j,J,rfl⟩⟩;exact⟨_,.inl ⟨_,Z,t F⟩,Ent.ofPerm (List.perm_append_comm_assoc [_,_] [_,_] (m h.length))⟩;exact⟨_,.inr ⟨_,Z,u j J⟩,Ent.ofPerm (List.perm_append_comm_assoc [_,_] [_,_] j)⟩
theorem Qd(x:Rn)(h: -1000≤x.1+x.2.1/\x.1+x.2.1≤1000):sQ W0 255 [.agg (d5 x).toArray] R (iQ (x.1+x.2.1)) R:=by refine am func255 ntmps255 ?_;refine dT (l8 Z) λa=>?_;refine aa Z (aU Z) (aI (aA (aG (aM ?_))));refine aa Z (bT Z FN Z bu Z dg) ?_;refine aa Z (bO cM Z (aO Z)) ?_;refine aa Z (bT Z FN Z bu Z dg) ?_;refine aa Z (bO cM Z (aO Z)) ?_;refine aa Z (dI Z Z (bS aq)) ?_;refine aa Z (aU Z) (aI (aA (dX ?_)));exact ki
def nf:List Rn->Int->Nat
 |[],_=>0
 |x::l,f=>if x.1+x.2.1≤f then nf l f+1 else 0
def v3(rs:List Rn)(f n:Int):Bool:=match rs[nf rs f]? with
 |some x=>decide (x.1<f+n)
 |none=>false
theorem Ko:∀(a:List Rn) (f:Int) (i:Nat),i≤a.length->(∀j (d:j<a.length),j<i->a[j].1+a[j].2.1≤f)->(∀h:i<a.length,¬a[i].1+a[i].2.1≤f)->nf a f=i
 |[],f,i,h,_,_=>by simp at h;rw[nf,h]
 |x::l,f,0,_,_,b=>by
  have:=b n4;rw[nf,Qab mv]
 |x::l,f,i+1,h,c,b=>by
  have g:=c 0 n4 aq
  rw[nf,Qad mv,Ko l f i aaa (λj d e=>by
   have:=c (j+1) aq aq
   simpa using this) (λk=>by
   have:=b mv
   simpa using this)]
theorem Kp:∀(a:List Rn) (f:Int),nf a f≤a.length
 |[],f=>Qai _
 |x::l,f=>by
  have:=Kp l f;rw[nf];split;grind;omega
def v4(rs:List Rn):Prop:=∀x∈rs,0≤x.1/\1≤x.2.1/\x.1+x.2.1≤64/\0≤x.2.2/\x.2.2<64
theorem v4.get(h:v4 rs)(a:i<rs.length):0≤(rs.getD i (0,0,0)).1/\1≤(rs.getD i (0,0,0)).2.1/\(rs.getD i (0,0,0)).1+(rs.getD i (0,0,0)).2.1≤64/\0≤(rs.getD i (0,0,0)).2.2/\(rs.getD i (0,0,0)).2.2<64:=by rw[show rs.getD i (0,0,0)=rs[i] by simp[List.getD,a]];exact h _ (QaC a)
theorem Qe(b k c:Nat)(a:Option Addr)(n:Int):sQ W0 153 [pQ b] (pt b (n1 a k c n)::R) (.bool false) (pt b (n1 a k c n)::R):=by refine am func153 ntmps153 ?_;apply d7 Z Z Z<;>intro d;cases d;exact aw (ag ax)
theorem Qf(n:Int)(h:0≤n/\n≤64):sP W0 82 [iQ n] R (λv B=>∃b,v=.tuple #[pQ b,iQ 0]/\B=my b ([],n)::R):=by refine am func82 ntmps82 ?_;apply d7 Z Z Z<;>intro a;omega;refine aw (aB Z (λc=>?_) λc=>?_);omega;refine aw ?_;refine bR λd=>?_;refine aZ ⟨_,⟨d,Z,Z⟩,?_⟩;exact(Ent.cons (eW (E:=271) (sz:=3) (B:=R))).trans (rf (rs:=[]) Z Z)
theorem a7B(bt c:Nat)(rs:List Rn)(n:Int)(a:Option Addr)(hok:v4 rs)(hl:rs.length≤1000)(f k:Int)(hf:0≤f/\f≤64/\1≤k/\k≤64):sQ W0 154 [pQ bt,iQ f,iQ k] (pt bt (n1 a rs.length c n)::osl 271 3 (.slice a rs.length c) (rs.flatMap d5)::R) (.tuple #[iQ (nf rs f:Nat),.bool (v3 rs f k)]) (pt bt (n1 a rs.length c n)::osl 271 3 (.slice a rs.length c) (rs.flatMap d5)::R):=by
 refine am func154 ntmps154 ?_;refine dh (fQ Z Z) λm=>?_;refine dT (fQ Z Z) λr=>?_;refine au 4 (Dz (aw ?_));refine dh (pw pq Z) λg=>?_;refine dh (pw XU Z) λl=>?_;refine aJ dr (eM (iG l6 Z Z Z (Qaa Z) SetL.eq) ?_);rintro _ _ rfl;refine aI (aA (aG (De (aA (aG (aG (aM (aa Z (aV Z) (aF Z (aK call254 (Qb bt)) ?_)))))))));rintro _ O ⟨J,rfl,t⟩;subst t;refine aI (aA (jR ?_));refine PW 0 (λC=>(∀j,j<rs.length->(rs.getD j (0,0,0)).1+(rs.getD j (0,0,0)).2.1≤f)/\C=pt bt (n1 a rs.length c n)::osl 271 3 (.slice a rs.length c) (rs.flatMap d5)::pt l (ae [.bool false] 4)::pt g (ae [iQ (rs.length:Nat)] 3)::pt r (ae [iQ k] 3)::pt m (ae [iQ f] 3)::R) (λC=>∃i,i<rs.length/\(∀j,j<i->(rs.getD j (0,0,0)).1+(rs.getD j (0,0,0)).2.1≤f)/\(¬(rs.getD i (0,0,0)).1+(rs.getD i (0,0,0)).2.1≤f)/\C=pt bt (n1 a rs.length c n)::osl 271 3 (.slice a rs.length c) (rs.flatMap d5)::pt l (ae [.bool (decide ((rs.getD i (0,0,0)).1<f+k))] 4)::pt g (ae [iQ (i:Nat)] 3)::pt r (ae [iQ k] 3)::pt m (ae [iQ f] 3)::R) Z call329 ?_ ?_ ?_;intro L D;refine Qc (.exit 0) rs hl (λ_=>pt l (ae [.bool false] 4)::pt g (ae [iQ (rs.length:Nat)] 3)::pt r (ae [iQ k] 3)::pt m (ae [iQ f] 3)::R) (λi=>∀j,j<i->(rs.getD j (0,0,0)).1+(rs.getD j (0,0,0)).2.1≤f) (λB=>∃i,i<rs.length/\(∀j,j<i->(rs.getD j (0,0,0)).1+(rs.getD j (0,0,0)).2.1≤f)/\(¬(rs.getD i (0,0,0)).1+(rs.getD i (0,0,0)).2.1≤f)/\B=pt l (ae [.bool (decide ((rs.getD i (0,0,0)).1<f+k))] 4)::pt g (ae [iQ (i:Nat)] 3)::pt r (ae [iQ k] 3)::pt m (ae [iQ f] 3)::R) ((qi (r1:=pt) (b1:=J) (r2:=pt) (b2:=bt) (r3:=osl 271 3) (b3:=.slice a rs.length c)).trans (QaS _)) (λj e=>absurd e (QbD j)) (λh=>⟨h,Z⟩) (λP h=>by obtain⟨i,u,v,K,rfl⟩:=h;exact⟨i,u,v,K,Z⟩) ?_;intro i Q s w;have M:=hok.get s;obtain⟨x,d⟩:∃x,rs.getD i (0,0,0)=x:=⟨_,Z⟩
 rw[d]at M ⊢;simp only[Qau,Qar];refine Br Z Z ?_;refine aG (aM (aa Z (aU Z) (aI (aA (aM (aF Z (cP Og) ?_))))));rintro _ _ ⟨N,rfl,rfl⟩;refine eM (eN l5 Z Z Z Z Z) ?_;rintro _ _ rfl;refine aI (Bp Z ?_);refine jR (aG (jR (aG ?_)));refine Q9 [(N,0,_),(m,0,_)] 5 mixed Z (bj (bj bI)) (λb=>?_);refine cI 0 Z Z Z b (jg NN l5 Z rg Z) ?_;refine cI 2 Z Z Z b (bO cM Z n6) ?_;refine bQ 1 (aK call255 (Qd x aq)) λb=>?_;refine cI 3 Z Z Z b (JR Z Z) ?_;refine cI 4 Z Z Z b (aU Z) ?_;refine aS (aB Z (λy=>?_) λy=>?_);refine au 4 (zn ?_);have A:∀j,j<i+1->(rs.getD j (0,0,0)).1+(rs.getD j (0,0,0)).2.1≤f:=λj e=>by
  rcases Qaz j i with q|q;exact w j q;grind
 exact⟨_,.inl ⟨Z,A,Z⟩,IO⟩;refine aG (aM ?_);refine aa Z (bT Z FN Z bu Z dg) ?_;refine aa Z (bO cM Z (aO Z)) ?_;refine aa Z (bO cM Z (aO Z)) ?_;refine aa Z (bO cM Z (aO Z)) ?_;refine aa Z (dI Z Z (bS aq)) ?_;refine aa Z (tB Z Z) (aa Z (aU Z) (aI (aA ?_)));apply aB Z<;>intro o;refine aM (eM (iG l6 Z Z Z (Qaa Z) SetL.eq) ?_);rintro _ _ rfl;refine aI (lY (aA (aG (aM (aa Z (aV Z) (eM (iG bu Z Z Z (Qaa Z) SetL.eq) ?_))))));rintro _ _ rfl;refine aI (aA (Dd (Dg Z (Ki ?_))));refine⟨_,.inr ⟨Z,_,⟨i,s,w,by rw[d];exact y,Z⟩,Z⟩,?_⟩;simp only[Qau];rw[d]
 first
   |(rw[Qav o];exact inferInstance)
   |(rw[Qat o];exact inferInstance)
 refine fH (lY (aA (aG (aM (aa Z (aV Z) (eM (iG bu Z Z Z (Qaa Z) SetL.eq) ?_))))));rintro _ _ rfl;refine aI (aA (Dd (Dg Z (Ki ?_))));refine⟨_,.inr ⟨Z,_,⟨i,s,w,by rw[d];exact y,Z⟩,Z⟩,?_⟩;simp only[Qau];rw[d]
 first
   |(rw[Qav o];exact inferInstance)
   |(rw[Qat o];exact inferInstance)
 intro D C E;obtain⟨p,rfl⟩:=E;have F:nf rs f=rs.length:=Ko rs f rs.length (Qai _) (λj e _=>by have:=p j e;rwa[show rs.getD j (0,0,0)=rs[j] by simp[List.getD,e]]at this) (λh=>absurd h (Nat.lt_irrefl _));have G:v3 rs f k=false:=by grind[v3]
 refine lY (aA (aG ?_));refine bH [g,l] 4 λb=>?_;refine cI 0 Z Z Z b (bO cM Z n6) ?_;refine cI 1 Z Z Z b (bO pU Z n6) ?_;refine cI 2 Z Z Z b (aU Z) ?_;refine cI 3 Z Z Z b (aU Z) ?_;refine eY (aA (dX (pB (sj (.inl Z) (.cons (bA Z) (.cons (bA Z) .nil)) ?_))));rw[F,G];exact ax;intro D C E;obtain⟨i,s,u,v,rfl⟩:=E;have H:rs.getD i (0,0,0)=rs[i]:=mv;have F:nf rs f=i:=Ko rs f i aq (λj e I=>by have:=u j I;rwa[show rs.getD j (0,0,0)=rs[j] by simp[List.getD,e]]at this) (λh=>by rw[<-H];exact v);have G:v3 rs f k=decide ((rs.getD i (0,0,0)).1<f+k):=by grind[v3]
 refine Gc (aA (aG ?_));refine bH [g,l] 4 λb=>?_;refine cI 0 Z Z Z b (bO cM Z n6) ?_;refine cI 1 Z Z Z b (bO pU Z n6) ?_;refine cI 2 Z Z Z b (aU Z) ?_;refine cI 3 Z Z Z b (aU Z) ?_;refine eY (au 2 (pB (sj (.inl Z) (.cons (bA Z) (.cons (bA Z) .nil)) ?_)));rw[F,G];exact ax
theorem a7C(l:List Rn)(a:Option Addr)(n c:Nat)(j:l.length=n)(t:n≤1000)(f:bZ (aQ W0 R) a 3 d5 l):sP W0 156 [.slice a n c] R (λv B=>∃g i,v=.slice g n i/\B=osl 271 3 (.slice g n i) (l.flatMap d5)::R):=by
 subst j;refine am func156 ntmps156 ?_;refine ac (zo lD Z Z) ?_;apply aB Z<;>intro e;refine au 7 (ag ?_);have k:l=[]:=by
  rcases l with _|⟨x,l⟩;rfl;obtain⟨b,o,h,_⟩:=f 0 x Z;rw[e]at h;cases h
 subst k;exact g3;have d:=f.src (λ_=>Z) (λ_=>trivial);refine fH (aA (aG (aM (aF Z (zp lD l5 Z) ?_))));rintro _ _ ⟨u,rfl,rfl⟩;refine aw ?_
 refine aF Z (zv (sz:=3) (by_:=24) (info:=Tryz.t271) lD ld Z Z Z Z cl Z Z (news:=l.flatMap d5) (by
 rcases d with h|⟨m,p,q,r⟩;grind
 right;exact⟨m,p,q,r.weak⟩) (by rw[dy uZ]) (Kn l) n5 aq) ?_
 rintro _ _ ⟨s,e,rfl,rfl⟩;refine aw (ag ?_);rw[Qac,Qar];exact⟨_,⟨s,e,Z,Z⟩,IO⟩
def ng(rs:List Rn)(i:Nat)(x:Rn):List Rn:=rs.take i++x::rs.drop i
theorem Kq rs i x:(ng rs i x).flatMap d5=(rs.take i).flatMap d5++d5 x++(rs.drop i).flatMap d5:=by grind[ng]
theorem GM x(a:i≤rs.length):(ng rs i x).length=rs.length+1:=by grind[ng]
theorem GN(a:List Rn)i:a.flatMap d5=(a.take i).flatMap d5++(a.drop i).flatMap d5:=by rw[<-Qbg,Qcd]
theorem a7D(d:List Rn)(a:Option Addr)(c J:Nat)(x:Rn)(i:Nat)(N:i≤d.length)(hl:d.length≤1000):sP W0 155 [.slice a d.length c,iQ (i:Nat),.slice (some ⟨J,0,none⟩) 1 1] (osl 271 3 (.slice a d.length c) (d.flatMap d5)::pt J (ae (d5 x) 271)::R) (λv B=>∃X Y,v=.slice X (d.length+1) Y/\B=osl 271 3 (.slice X (d.length+1) Y) ((ng d i x).flatMap d5)::R):=by
 have f:((d.take i).flatMap d5).length=i*3:=by rw[dy uZ,QaB,Qbo N]
 have F:((d.drop i).flatMap d5).length=(d.length-i)*3:=by rw[dy uZ,QaL]
 have o:(d.flatMap d5).length=d.length*3:=dy uZ d;refine am func155 ntmps155 ?_;refine qZ (E:=271) (sz:=3) (a:=a) (c:=c) (n:=d.length) (λZ=>?_);refine aw (jU 16 (qm lD l5 ρ (i:=i) ρ ρ N ρ) ?_);refine et (aB ρ (λc6=>?_) λc6=>?_);refine aG (aM (aa ρ (aV ρ) (aa ρ (aV ρ) ?_)));refine aF ρ (fR (sz:=3) (by_:=24) (info:=Tryz.t271) lD ld ρ ρ ρ ρ cl ρ ρ eQ ρ ρ n5 aq) ?_;rintro _ _ ⟨a1,c1,rfl,rfl⟩;refine aw (ag ?_);obtain rfl:i=d.length:=aq;refine⟨_,⟨a1,c1,ρ,ρ⟩,?_⟩;rw[Kq,QaJ (Qai _),List.drop_length,List.flatMap_nil,Qaq];exact IO;have x1:i<d.length:=aq;refine ix (r:=osl 271 3) (b:=.slice a d.length c) (qf (λO h2=>by rw[h2]at o;simp at o;omega) λg n' x2 t O h2 h3 h4 S=>?_);cases O;refine aw (ac (eX (d.length+1)) ?_);refine ac (a7r lD ρ) ?_;apply ap<;>intro c8;refine ac (qd lD l5 ρ ρ ρ aq) ?_;refine ac (eX (d.length+1)) ?_;refine ac (mt (d.length+1-i)) ?_;refine aF ρ (a7p (sz:=3) (by_:=24) (info:=Tryz.t271) (k:=d.length+1-i) (olds:=(d.take i).flatMap d5) lD ez ld ρ ρ ρ ρ cl ρ ρ ρ (.inr ⟨g,0,ρ,tK (l2:=(d.drop i).flatMap d5++t) (by rw[<-QaM, <-GN];exact eQ (b:=g))⟩) f aq aq n5 aq) ?_;rintro _ _ ⟨a9,k9,Q,rfl,u,rfl⟩;rw[show i+(d.length+1-i)=d.length+1 by omega]
 refine ix (r:=osl 271 3) (b:=.slice a9 (d.length+1) k9) (qf (λl C=>by
  have:=Qak List.length C
  rw[Qaf,f,u]at this;simp at this;omega) λT n9 x0 y l C q3 q4 q5=>?_)
 cases l;refine aw (ac (qm lD l5 ρ (i:=i) (a':=some ⟨T,i*3,none⟩) ρ ρ aq aah) ?_);refine ao (xx lD l5 ρ ρ (m:=1) (vs:=d5 x) (Qbo aq) (eQ (b:=J)) ρ (Km x) (by rw[Qaf,Qaf,f,u];omega) ρ) ?_;refine bH [] 9 λj=>?_;refine aj 0 3 j ?_;refine aE 3 j (eX (i+1)) ?_;refine aE 4 j (qm lD l5 ρ (i:=i+1) (a':=some ⟨T,(i+1)*3,none⟩) ρ ρ aq aah) ?_;refine aj 5 2 j ?_;refine aE 7 j (qm lD l5 ρ (i:=i) (a':=some ⟨g,i*3,none⟩) ρ ρ aq aah) ?_;refine bQ 8 (xx lD l5 ρ ρ (m:=d.length-i) (vs:=(d.drop i).flatMap d5) (Qbo aq) (Q5 (b:=g) (l1:=(d.take i).flatMap d5) (l3:=t) (by rw[<-GN]) f) F (Kn _) (by rw[Ge,Qaf,Qaf,f,u];omega) ρ) λj=>?_;refine aS (ag ?_);obtain⟨H,I,rfl,K⟩:∃H I,Q=H++I/\H.length=3:=⟨Q.take 3,Q.drop 3,(Qcd 3 Q).symm,aaz⟩
 have L:I.length=(d.length-i)*3:=by rw[Qaf]at u;omega
 have U:ee (ee ((d.take i).flatMap d5++(H++I)++y) (i*3) (d5 x)) ((i+1)*3) ((d.drop i).flatMap d5)=(ng d i x).flatMap d5++y:=by
  rw[Kq, <-f,show(d.take i).flatMap d5++(H++I)++y=(d.take i).flatMap d5++H++(I++y) by simp,GJ (by rw[K];rfl)];have e:(i+1)*3=((d.take i).flatMap d5++d5 x).length:=by rw[Qaf,f,uZ,Qck]
  rw[e, <-QaM,GJ (by rw[L,F])]
 rw[U];have h:((ng d i x).flatMap d5).length=(d.length+1)*3:=by rw[dy uZ,GM x N]
 refine⟨_,⟨some ⟨T,0,none⟩,k9,ρ,ρ⟩,?_⟩;exact jG C q3 h (by rw[Qaf,h];rw[Qaf,Qaf,f,Qaf,K,L]at q5;omega);refine ac (eX (d.length+1)) ?_;refine ac (qd lD l5 ρ ρ ρ aq) ?_;refine ac (eX (i+1)) ?_;refine ac (qm lD l5 ρ (i:=i+1) (a':=some ⟨g,(i+1)*3,none⟩) ρ ρ aq aah) ?_;refine ac (a7q (v:=.bool false) ρ (λw hO=>by have O:=a7t (P:=Tryz.prog) (tR:=4) (oa:=0) (na:=1) (ca:=1) (ob:=(i+1)*3) (nb:=d.length+1-(i+1)) (cb:=c-(i+1)) (ba:=J) (ga:=g) (la:=d5 x) (lb:=d.flatMap d5++t) lD l5 (Qay _) (by rw[S];omega) hO;rw[run_callFunc_extern func256 ld ld ld (e:=Extern.SlicesOverlaps.overlaps #[265,265] #[4]) ld,O];rfl)) ?_;apply aB ρ<;>intro G;refine au 1 (bH [] 9 λj=>?_);refine aj 0 3 j ?_;refine aE 3 j (eX (i+1)) ?_;refine aE 4 j (qm lD l5 ρ (i:=i+1) (a':=some ⟨g,(i+1)*3,none⟩) ρ ρ aq aah) ?_;refine aj 5 2 j ?_;refine aE 7 j (qm lD l5 ρ (i:=i) (a':=some ⟨g,i*3,none⟩) ρ ρ aq aah) ?_;refine bQ 8 (xx lD l5 ρ ρ (m:=d.length-i) (vs:=(d.drop i).flatMap d5) ((Nat.min_eq_right aq).trans aq) (Q5 (b:=g) (l1:=(d.take i).flatMap d5) (l3:=t) (by rw[<-GN]) f) F (Kn _) aq ρ) λj=>?_;refine aS (ac (qm lD l5 ρ (i:=i) (a':=some ⟨g,i*3,none⟩) ρ ρ aq aah) ?_);refine ao (xx lD l5 ρ ρ (m:=1) (vs:=d5 x) (Qbo aq) (eQ (b:=J)) ρ (Km x) (by rw[Ge];omega) ρ) ?_;refine ag ?_;have x3:3≤t.length:=by rw[Qaf,o]at S;omega
 obtain⟨D,A,rfl,V⟩:∃D A,t=D++A/\D.length=3:=⟨t.take 3,t.drop 3,(Qcd 3 t).symm,aaz⟩
 obtain⟨l,C,hq,M⟩:∃l C,(d.drop i).flatMap d5++D=l++C/\l.length=3:=⟨((d.drop i).flatMap d5++D).take 3,((d.drop i).flatMap d5++D).drop 3,(Qcd 3 _).symm,by rw[QaB,Qaf];omega⟩
 have W:C.length=((d.drop i).flatMap d5).length:=by
  have:=Qak List.length hq;rw[Qaf,Qaf]at this;omega
 have U:ee (ee (d.flatMap d5++(D++A)) ((i+1)*3) ((d.drop i).flatMap d5)) (i*3) (d5 x)=(ng d i x).flatMap d5++A:=by
  have h0:d.flatMap d5++(D++A)=(d.take i).flatMap d5++l++C++A:=by
   conv=>lhs;rw[GN d i]
   rw[QaM, <-QaM ((d.drop i).flatMap d5),hq];simp only[QaM]
  have e:(i+1)*3=((d.take i).flatMap d5++l).length:=by rw[Qaf,f,M,Qck]
  have h6:(d.take i).flatMap d5++l++(d.drop i).flatMap d5++A=(d.take i).flatMap d5++l++((d.drop i).flatMap d5++A):=by simp only[QaM]
  have h7:=GJ (p:=(d.take i).flatMap d5) (q:=l) (s:=(d.drop i).flatMap d5++A) (r:=d5 x) (by rw[M];rfl);rw[f]at h7;rw[h0,e,GJ W,h6,h7,Kq];simp only[QaM]
 rw[U];have h:((ng d i x).flatMap d5).length=(d.length+1)*3:=by rw[dy uZ,GM x N]
 refine⟨_,⟨some ⟨g,0,none⟩,c,ρ,ρ⟩,?_⟩;exact jG aq h3 h (by rw[Qaf,h];rw[Qaf,Qaf,o,V]at S;omega)
 first|exact absurd rfl G|exact absurd (by decide) G
def ju(rs:List Rn)(n f k w:Int):Int:=if f<0\/k<1\/n<f\/n-f<k\/w<0\/64≤w then 1 else if v3 rs f k then 5 else 0
def kw(rs:List Rn)(n f k w:Int):List Rn:=if ju rs n f k w=0 then ng rs (nf rs f) (f,k,w)else rs
theorem Qg{rs n f k w}(h:v4 rs)(c:n≤64):v4 (kw rs n f k w):=by
 unfold kw;split
 rename_i a
 have d:¬(f<0\/k<1\/n<f\/n-f<k\/w<0\/64≤w):=λq=>by rw[ju,Qad q]at a;exact absurd a cl
 intro x b;rw[ng]at b;rcases Qba.1 b with q|q;exact h x (Qbs q);rcases QaX.1 q with rfl|q;grind;exact h x (QbC q);exact h
theorem Qh{n f k w}:(kw rs n f k w).length≤rs.length+1:=by grind[kw,GM,Kp]
theorem Qi(b:Nat)(d:List Rn)(n:Int)(A:0≤n/\n≤64)(i:v4 d)(B:d.length≤900)(f k w:Int):sQ W0 84 [pQ b,iQ f,iQ k,iQ w] (my b (d,n)::R) (iQ (ju d n f k w)) (my b (kw d n f k w,n)::R):=by
 refine am func84 ntmps84 ?_;refine Qa (b:=b) λa c=>?_;dsimp only;refine aw (ao (ar call153 (Qe b d.length c a n)) ?_);apply ap<;>intro l;refine ag ?_;have e:ju d n f k w=1:=by grind[ju]
 rw[kw,e,Qab (by decide)];exact gv;apply ap<;>intro m;refine ag ?_;have e:ju d n f k w=1:=by grind[ju]
 rw[kw,e,Qab (by decide)];exact gv;apply ap<;>intro o;refine ag ?_;have e:ju d n f k w=1:=by grind[ju]
 rw[kw,e,Qab (by decide)];exact gv;refine ac jt (ap (λp=>?_) λp=>?_);refine ag ?_;have e:ju d n f k w=1:=by grind[ju]
 rw[kw,e,Qab (by decide)];exact gv;apply ap<;>intro q;refine ag ?_;have e:ju d n f k w=1:=by grind[ju]
 rw[kw,e,Qab (by decide)];exact gv;apply ap<;>intro r;refine ag ?_;have e:ju d n f k w=1:=by grind[ju]
 rw[kw,e,Qab (by decide)];exact gv;refine ao (dj call154 (a7B b c d n a i (by omega) f k (by omega))) ?_;apply ap<;>intro j;refine ag ?_;have e:ju d n f k w=5:=by grind[ju]
 rw[kw,e,Qab (by decide)];exact gv;have e:ju d n f k w=0:=by grind[ju]
 have h:=Kp d f;refine jV (E:=271) (sz:=3) (a:=a) (n:=d.length) (c:=c) d5 d uZ (by decide) Z (λs=>?_);refine aw (aF Z (aK call156 (a7C d a d.length c Z (by omega) s)) ?_);rintro _ t ⟨u,v,rfl,g⟩;subst g;refine aw ?_;refine dh (ji lD l5 Og Z (fK Z Z iH) Z (by decide) (by decide) (by decide)) λx=>?_;refine aF Z (dj call155 (a7D d u v x (f,k,w) (nf d f) h (by omega))) ?_;rintro _ t ⟨C,y,rfl,g⟩;subst g;refine aw (aJ dr (ag ?_));rw[kw,e,Qad Z];exact⟨_,⟨Z,Z⟩,rf (GM _ h).symm Z⟩
def qn:List Rn->Int->Option Int
 |[],_=>none
 |x::l,i=>if x.1≤i/\i<x.1+x.2.1 then some x.2.2 else qn l i
def sB(rs:List Rn)(n i:Int):Option Int:=if i<0\/n≤i then none else qn rs i
theorem Qj:∀(a:List Rn) (x:Int) (i:Nat) (c:i<a.length),(∀j (d:j<a.length),j<i->¬(a[j].1≤x/\x<a[j].1+a[j].2.1))->(a[i].1≤x/\x<a[i].1+a[i].2.1)->qn a x=some a[i].2.2
 |y::l,x,0,_,_,h=>by rw[qn,Qad aaa];rfl
 |y::l,x,i+1,c,b,f=>by
  have g:=b 0 n4 aq
  rw[qn,Qab mv,Qj l x i mv (λj d e=>by
   have:=b (j+1) aq aq
   simpa using this) mv]
  simp
theorem Qk:∀(a:List Rn) (x:Int),(∀j (b:j<a.length),¬(a[j].1≤x/\x<a[j].1+a[j].2.1))->qn a x=none
 |[],_,_=>Z
 |y::l,x,h=>by
  have c:=h 0 n4
  rw[qn,Qab mv,Qk l x (λj b=>by
   have:=h (j+1) mv
   simpa using this)]
theorem a7E(b:Nat)(d:List Rn)(n:Int)(E:v4 d)(N:d.length≤1000)(i:Int):sQ W0 260 [pQ b,iQ i] (my b (d,n)::R) (.tuple #[iQ ((sB d n i).getD 0),.bool (sB d n i).isSome]) (my b (d,n)::R):=by
 refine am func260 ntmps260 ?_;refine dh (fQ Z Z) λo=>?_;refine dh (pw pq Z) λy=>?_;refine dh (pw XU Z) λA=>?_;refine Qa (b:=b) λa c=>?_;dsimp only;refine bH [o,b] 14 λe=>?_;refine aj 0 1 e ?_;refine bQ 1 (ar call153 (Qe b d.length c a n)) λe=>?_;refine aj 2 1 e ?_;refine vQ (t:=10) Z ?_ ?_;intro g;exact absurd g cl;intro g;refine aj 3 4 e ?_;refine vQ (t:=14) Z ?_ ?_;intro r;refine aj 7 7 e ?_;refine aS (aJ dr (aJ dr (bJ (.cons (qV cM Z (aO Z)) (.cons (qV pU Z (aO Z)) .nil)) ?_)));have p:sB d n i=none:=by rw[sB,Qad aq]
 rw[p];exact⟨_,⟨Z,Z⟩,rf Z Z⟩;intro r;refine aj 7 7 e ?_;refine aS (aB Z (λO=>?_) λO=>?_);refine au 2 (Pz dr (eM (iG l6 Z Z Z (Qaa Z) SetL.eq) ?_));rintro _ _ rfl;refine aI (aA (dX (jS (bJ (.cons (qV cM Z (aO Z)) (.cons (qV pU Z (aO Z)) .nil)) ?_))));have p:sB d n i=none:=by rw[sB,Qad aq]
 rw[p];exact⟨_,⟨Z,Z⟩,rf Z Z⟩;refine fH (aA (aG (aG ?_)));have p:sB d n i=qn d i:=by rw[sB,Qab aq]
 refine aM (aa Z (aV Z) (aF Z (aK call254 (Qb b)) ?_));rintro _ V ⟨P,rfl,F⟩;subst F;refine aI (aA (jR ?_));refine Gv (λC=>(∀j,j<d.length->¬((d.getD j (0,0,0)).1≤i/\i<(d.getD j (0,0,0)).1+(d.getD j (0,0,0)).2.1))/\C=pt b (n1 a d.length c n)::osl 271 3 (.slice a d.length c) (d.flatMap d5)::pt A (ae [.bool false] 4)::pt y (ae [iQ 0] 3)::pt o (ae [iQ i] 3)::R) (λC=>∃k,k<d.length/\(∀j,j<k->¬((d.getD j (0,0,0)).1≤i/\i<(d.getD j (0,0,0)).1+(d.getD j (0,0,0)).2.1))/\((d.getD k (0,0,0)).1≤i/\i<(d.getD k (0,0,0)).1+(d.getD k (0,0,0)).2.1)/\C=pt b (n1 a d.length c n)::osl 271 3 (.slice a d.length c) (d.flatMap d5)::pt A (ae [.bool true] 4)::pt y (ae [iQ (d.getD k (0,0,0)).2.2] 3)::pt o (ae [iQ i] 3)::R) Z call329 ?_ ?_ ?_;intro L D;refine Qc .ret d N (λ_=>pt A (ae [.bool false] 4)::pt y (ae [iQ 0] 3)::pt o (ae [iQ i] 3)::R) (λk=>∀j,j<k->¬((d.getD j (0,0,0)).1≤i/\i<(d.getD j (0,0,0)).1+(d.getD j (0,0,0)).2.1)) (λB=>∃k,k<d.length/\(∀j,j<k->¬((d.getD j (0,0,0)).1≤i/\i<(d.getD j (0,0,0)).1+(d.getD j (0,0,0)).2.1))/\((d.getD k (0,0,0)).1≤i/\i<(d.getD k (0,0,0)).1+(d.getD k (0,0,0)).2.1)/\B=pt A (ae [.bool true] 4)::pt y (ae [iQ (d.getD k (0,0,0)).2.2] 3)::pt o (ae [iQ i] 3)::R) ((qi (r1:=pt) (b1:=P) (r2:=pt) (b2:=b) (r3:=osl 271 3) (b3:=.slice a d.length c)).trans (QaS _)) (λj l=>absurd l (QbD j)) (λh=>⟨h,Z⟩) (λW h=>by obtain⟨k,G,H,Q,rfl⟩:=h;exact⟨k,G,H,Q,Z⟩) ?_;intro k X s I;have S:=E.get s;obtain⟨x,f⟩:∃x,d.getD k (0,0,0)=x:=⟨_,Z⟩
 rw[f]at S ⊢;simp only[Qau,Qar];refine Br Z Z ?_;refine aM (aF Z (cP Og) ?_);rintro _ _ ⟨T,rfl,rfl⟩;refine eM (eN l5 Z Z Z Z Z) ?_;rintro _ _ rfl;refine aI (Bp Z ?_);refine jR (aG ?_);refine Q9 [(T,0,_),(o,0,_)] 10 mixed Z (bj (bj bI)) (λe=>?_);refine cI 0 Z Z Z e (bT Z FN Z bu Z dg) ?_;refine cI 1 Z Z Z e (bO cM Z n6) ?_;refine cI 2 Z Z Z e (bO cM Z n6) ?_;refine cI 3 Z Z Z e (JR Z Z) ?_;refine cI 4 Z Z Z e (aV Z) ?_;refine vQ (t:=30) Z ?_ ?_;intro u;refine cI 5 Z Z Z e (bO cM Z n6) ?_;refine cI 6 Z Z Z e (jg NN l5 Z rg Z) ?_;refine bQ 7 (aK call255 (Qd x aq)) λe=>?_;refine cI 8 Z Z Z e (tB Z Z) ?_;refine cI 9 Z Z Z e (z6 Z Z) ?_;refine eY (aA (aB Z (λU=>?_) λU=>?_));refine aG (aM (aa Z (bT Z FN Z bu Z dg) ?_));refine aa Z (bO cM Z (aO Z)) ?_;refine eM (iG bu Z Z Z (Qaa Z) SetL.eq) ?_;rintro _ _ rfl;refine eM (iG l6 Z Z Z (Qaa Z) SetL.eq) ?_;rintro _ _ rfl;refine aI (aA (dX (pr (PH ?_))));refine⟨_,.inr ⟨Z,_,⟨k,s,I,by rw[f];omega,Z⟩,Z⟩,?_⟩;simp only[Qau];rw[f];exact IO;refine fH (lY (zn ?_));have m:∀j,j<k+1->¬((d.getD j (0,0,0)).1≤i/\i<(d.getD j (0,0,0)).1+(d.getD j (0,0,0)).2.1):=λj l=>by
  rcases Qaz j k with q|q;exact I j q;obtain rfl:j=k:=aq;rw[f];omega
 exact⟨_,.inl ⟨Z,m,Z⟩,IO⟩;intro u;refine Gr 5 Z Z Z e ?_;refine Gr 6 Z Z Z e ?_;refine Gr 7 Z Z Z e ?_;refine Gr 8 Z Z Z e ?_;refine cI 9 Z Z Z e (uG Z Z) ?_;refine eY (au 4 (zn ?_));have m:∀j,j<k+1->¬((d.getD j (0,0,0)).1≤i/\i<(d.getD j (0,0,0)).1+(d.getD j (0,0,0)).2.1):=λj l=>by
  rcases Qaz j k with q|q;exact I j q;obtain rfl:j=k:=aq;rw[f];omega
 exact⟨_,.inl ⟨Z,m,Z⟩,IO⟩;intro D C J;obtain⟨v,rfl⟩:=J;have K:qn d i=none:=Qk d i (λj l=>by have:=v j l;rwa[show d.getD j (0,0,0)=d[j] by simp[List.getD,l]]at this);refine aw (aJ dr (fw 3 dr ?_));refine sj (.inl Z) (.cons (qV cM Z (aO Z)) (.cons (qV pU Z (aO Z)) .nil)) ?_;rw[p,K];exact⟨_,⟨Z,Z⟩,rf Z Z⟩;intro D C J;obtain⟨k,s,G,H,rfl⟩:=J;have w:d.getD k (0,0,0)=d[k]:=by simp[List.getD,s]
 have K:qn d i=some (d.getD k (0,0,0)).2.2:=by
  rw[w];exact Qj d i k s (λj l M=>by have:=G j M;rwa[show d.getD j (0,0,0)=d[j] by simp[List.getD,l]]at this) (by rw[<-w];exact H)
 refine au 2 (sj (.inl Z) (.cons (qV cM Z (aO Z)) (.cons (qV pU Z (aO Z)) .nil)) ?_);rw[p,K];exact⟨_,⟨Z,Z⟩,rf Z Z⟩
def DF(rs:List Rn):Prop:=rs.Pairwise λx y=>x.1+x.2.1≤y.1
theorem a7F x l f k:v3 (x::l) f k=if x.1+x.2.1≤f then v3 l f k else decide (x.1<f+k):=by grind[v3,nf]
theorem a7G x y l f:ng (x::l) (nf (x::l) f) y=if x.1+x.2.1≤f then x::ng l (nf l f) y else y::x::l:=by grind[ng,nf]
theorem a7H{x y:Rn}{l:List Rn}(h:x∈ng l i y):x=y\/x∈l:=by grind[ng]
theorem Ql:∀{c:List Rn} {f k w:Int},DF c->(∀x∈c,1≤x.2.1)->v3 c f k=false->DF (ng c (nf c f) (f,k,w))
 |[],f,k,w,_,_,_=>List.pairwise_singleton _ _
 |x::l,f,k,w,d,e,b=>by
  obtain⟨g,h⟩:=Qcf.1 d;have i:=e x n4;rw[a7F]at b;rw[a7G];by_cases q:x.1+x.2.1≤f;rw[Qad q]at b ⊢;refine Qcf.2 ⟨λy a=>?_,Ql h (λy a=>e y (by simp[a])) b⟩;rcases a7H a with rfl|a;exact q;exact g y a;rw[Qab q]at b ⊢;have b:=of_decide_eq_false b;refine Qcf.2 ⟨λy a=>?_,d⟩;rcases QaX.1 a with rfl|a;grind;grind
theorem a7I{n f k w}(h:DF rs)(a:∀x∈rs,1≤x.2.1):DF (kw rs n f k w):=by grind[kw,ju,Ql]
section
variable{P:Program}{N:FSz}{e:bK}{A:List HP}{t:TypeId}{x y:Operand}
theorem g7{S:World->Prop}{a b:Nat}{i:Int}(d:P.underlying t=some (.slice E))(f:∀w,(sizeOf E).run P w=.ok sz w)(g:ev e x=some (.slice a' n c))(h:a'=some ⟨b,off,none⟩)(l:ev e y=some (.int k i))
    (m:i=(j:Int))(o:j<n)(p:off+j*sz=a):cr P S N e (.indexAddr t x y) (.pointer (some ⟨b,a,none⟩)):=by grind[kP]
instance (priority := high) ent_nil {A : List HP} : Ent A [] := ⟨fun l _ => ⟨[], l, rfl, QaS _⟩⟩
end
abbrev kj(c:Cfg):Obj:=ae (dU c) 28
def pC(c:Cfg)(i:Nat):Rn:=c.rl.getD i (0,0,0)
def mz(c:Cfg):Nat->List Rn
 |0=>[]
 |i+1=>if jH (pC c i).1 c.cats=true then kw (mz c i) 32 (pC c i).2.1 (pC c i).2.2 i else mz c i
theorem Qm c:∀i,v4 (mz c i)/\(mz c i).length≤i/\DF (mz c i)
 |0=>⟨λx a=>by simp[mz]at a,Qai _,List.Pairwise.nil⟩
 |i+1=>by
  obtain⟨b,e,d⟩:=Qm c i;rw[mz];split;exact⟨Qg b cl,Qbe Qh aq,a7I d λx a=>(b x a).2.1⟩;grind
def zF(c:Cfg)(i:Nat):Bool:= !(jH (pC c i).1 c.cats&&decide (ju (mz c i) 32 (pC c i).2.1 (pC c i).2.2 i=0))
theorem a7J W0 b1 b4 bt c(hl:c.rl.length≤8)(hs:∀A,bZ (aQ W0 A) c.ra 3 jW c.rl):
    WF W0 83 [pQ b1,pQ b4] c.rl.length (λi=>bB [pt b1 (kj c),pt b4 (ae [pQ bt] 174),my bt (mz c i,32)]) (zF c):=⟨call83,λi d R=>by
 refine qW ?_;simp only[Qau,Qar];obtain⟨g,o,hra,hc⟩:=(hs (pt b1 (kj c)::R)).at_ d;obtain⟨x,hx⟩:∃x,c.rl[i]=x:=⟨_,Z⟩
 have e:pC c i=x:=by grind[pC]
 rw[hx]at hc;obtain⟨h1,h2,h3⟩:=Qm c i;have f:mz c (i+1)=if jH x.1 c.cats=true then kw (mz c i) 32 x.2.1 x.2.2 i else mz c i:=by rw[mz,e]
 have h:zF c i= !(jH x.1 c.cats&&decide (ju (mz c i) 32 x.2.1 x.2.2 i=0)):=by rw[zF,e]
 rw[f,h];generalize mz c i=T at h1 h2 h3 ⊢;refine am func83 ntmps83 ?_;refine ac (g7 XB NW Z hra Z Z d dg) ?_;refine ac (cV hc.weak) ?_;refine bU λk=>?_;refine eM (eN NW Z Z Z Z Z) ?_;rintro _ _ rfl;refine aI (aA (aG (aM ?_)));refine aa Z (bT Z B6 Z bu Z dg) ?_;refine aa Z (bO cM Z (aO Z)) ?_;refine aa Z (bT Z Jh Z bu Z dg) ?_;refine aa Z (bO cM Z (aO Z)) ?_;refine aF Z (gx On Z (GF x.1 c.cats)) ?_;rintro _ j ⟨rfl,hB_⟩;subst hB_;refine aa Z (vN Z) (aa Z (aV Z) ?_);refine d7 Z Z Z ?_ ?_;intro a;have b:jH x.1 c.cats=false:=mv;rw[b];refine aw (ag ?_);refine⟨_,⟨?_,Z⟩,?_⟩;refine Qak Value.bool ?_
 first
   |rfl
   |(rw[QbU,bne,Qah];simp)
 first
   |(rw[Qad rfl];exact inferInstance)
   |(rw[Qab (by decide)];exact inferInstance)
 intro a;have b:jH x.1 c.cats=true:=mv;rw[b];refine aa Z (bO Xb Z (aO Z)) ?_;refine iu Z Z ?_;refine aa Z (bT Z B6 Z bu Z dg) ?_;refine iu Z Z (aa Z (bO cM Z (aO Z)) ?_);refine iu Z Z ?_;refine aa Z (bT Z B6 Z bu Z dg) ?_;refine iu Z Z (aa Z (bO cM Z (aO Z)) ?_);refine iu Z Z (aa Z (aV Z) (iu Z Z ?_));refine aF Z (eg call84 Z (Qi bt T 32 cl h1 aq x.2.1 x.2.2 i)) ?_;rintro _ j ⟨rfl,hB_⟩;subst hB_;refine iu Z Z (aa Z (nI Z Z) (aa Z (uG Z Z) (aa Z (aU Z) (aI (aA (dX (ag ?_)))))));refine⟨_,⟨?_,Z⟩,?_⟩;refine Qak Value.bool ?_
 first
   |rfl
   |(rw[QbU,bne,Qah];simp)
 first
   |(rw[Qad rfl];exact inferInstance)
   |(rw[Qab (by decide)];exact inferInstance)
 ⟩
def v5(c:Cfg):Bool:=decide (8<c.rl.length)||ql (zF c) c.rl.length
theorem a7K(c:Cfg)(f:∀A,bZ (aQ W0 A) c.ra 3 jW c.rl):sP W0 37 [.agg (dU c).toArray] R (λv B=>∃r,v=.tuple #[iQ r,.bool (v5 c)]/\B=R):=by refine am func37 ntmps37 ?_;refine bR λd=>?_;apply ap<;>intro g;refine aZ ?_;rw[v5,Qav aq,QcD];exact⟨_,⟨0,Z,Z⟩,IO⟩;refine aF Z (aK call82 (Qf 32 cl)) ?_;rintro _ h ⟨a,rfl,b⟩;subst b;refine aw (dh (pw zeroValue174 Z) λe=>?_);refine aJ dr (gK (B:=kH 0 (bB [pt d (kj c),pt e (ae [pQ a] 174),my a ([],32)])::R) inferInstance ?_);refine Gx ?_;simp only[Qau,Qar];refine aw (aF Z (qe (B:=kH 0 (bB [pt d (kj c),pt e (ae [pQ a] 174),my a ([],32)])::R) inferInstance (aK FV (Q3 83 [pQ d,pQ e] c.rl.length (λi=>bB [pt d (kj c),pt e (ae [pQ a] 174),my a (mz c i,32)]) (zF c) (a7J W0 d e a c aq f) aq))) ?_);rintro _ h ⟨r,rfl,b⟩;subst b;refine aw (aZ ?_);rw[v5,Qat aq,Qcl];exact⟨_,⟨r,Z,Z⟩,IO⟩
def zG(c:Cfg)(g:Int)(k:Nat):Bool:=(c.pl.take k).any λq=>decide (q.2=g)
theorem a7L(c:Cfg)(g:Int)(k:Nat)(s:k<c.pl.length)(t:c.pl.length≤8)(f:c.pl.length≤c.pc)(m:∀A,bZ (aQ W0 A) c.pa 2 fZ c.pl):sQ W0 87 [.agg (dU c).toArray,iQ g,iQ k] R (.bool (zG c g k)) R:=by
 refine am func87 ntmps87 ?_;refine bR λu=>?_;refine ac (qd FM AV Z Z (h:=k) Z aq) ?_;refine eC (λi:Nat=>i≤k/\∀j,j<i->(c.pl.getD j (0,0)).2≠g) (λi=>[(1,iQ g),(12,.slice c.pa k c.pc),(13,iQ k),(14,iQ i)]) (λ_=>R) (λi=>k-i) 0 ?_ ?_;grind;intro i ⟨v,w⟩;refine aw (ap (λn=>?_) λn=>?_);have a:i<c.pl.length:=aq;have b:i<k:=aq;obtain⟨y,o,d,l⟩:=(m R).at_ a;obtain⟨x,p⟩:∃x,c.pl[i]=x:=⟨_,Z⟩
 have q:c.pl.getD i (0,0)=x:=mv;rw[p]at l;refine ac (g7 FM AV Z d Z Z b dg) ?_;refine ac (cV l.weak) ?_;refine bU λB=>?_;refine aJ aR (ap (λr=>?_) λr=>?_);refine ag ?_;have e:zG c g k=true:=by
  grind[zG,List.any_eq_true,List.mem_take_iff_getElem.2]
 rw[e];exact ax;refine ac cK (d8 (i+1) ?_);grind;refine ag ?_;have e:zG c g k=false:=by
  grind[zG,List.any_eq_false,List.mem_take_iff_getElem.1]
 rw[e];exact ax
def BC(c:Cfg)(i:Nat):Bool:= !jH (c.pl.getD i (0,0)).1 c.cats||(decide ((c.pl.getD i (0,0)).2≠ -1)&&(!m0 c (c.pl.getD i (0,0)).2||decide ((c.pl.getD i (0,0)).1≠sy c (c.pl.getD i (0,0)).2)||zG c (c.pl.getD i (0,0)).2 i))
theorem a7M W0 b1 c(E:c.pl.length≤8)(f:c.pl.length≤c.pc)(D:∀A,bZ (aQ W0 A) c.pa 2 fZ c.pl)(l:∀A,bZ (aQ W0 A) c.ga 3 jW c.gl):
    WF W0 85 [pQ b1] c.pl.length (λ_=>bB [pt b1 (kj c)]) (BC c):=⟨call85,λi r R=>by
 refine qW ?_;simp only[Qau,Qar];obtain⟨g,o,hpa,hc⟩:=(D (pt b1 (kj c)::R)).at_ r;obtain⟨⟨p,q⟩,hx⟩:∃x,c.pl[i]=x:=⟨_,Z⟩
 have s:c.pl.getD i (0,0)=(p,q):=mv;have F:BC c i=(!jH p c.cats||(decide (q≠ -1)&&(!m0 c q||decide (p≠sy c q)||zG c q i))):=by rw[BC,s]
 rw[hx]at hc;rw[F];have m:∃(d e j:Nat) (y:List Value),(∀A,bF (aQ W0 A) d (e+j*3) y)/\(m0 c q=true->c.ga=some ⟨d,e,none⟩/\q=(j:Int)/\j<c.gl.length/\∃u:Int×Int×Int,y=jW u/\sy c q=u.1):=by
  cases G:m0 c q with
  |false=>exact⟨0,0,0,[],λA k v H=>by simp at H,λh=>n8⟩
  |true=>
   have N:0≤q/\q<c.gl.length:=Qaw G;obtain⟨j,rfl⟩:∃j:Nat,q=(j:Int):=⟨q.toNat,aq⟩
   have n:j<c.gl.length:=aq;obtain⟨d,e,hga,_⟩:=(l []).at_ n;refine⟨d,e,j,jW c.gl[j],λA=>?_,λ_=>⟨hga,Z,n,c.gl[j],Z,?_⟩⟩;obtain⟨g2,o2,h2,hc2⟩:=(l A).at_ n;rw[hga]at h2;cases h2;exact hc2;grind[sy]
 obtain⟨d,e,j,y,hcv,hrw⟩:=m;obtain⟨w,hw⟩:∃w,m0 c q=w:=⟨_,Z⟩
 rw[hw]at hrw ⊢;refine am func85 ntmps85 ?_;refine ac (g7 FM AV Z hpa Z Z r dg) ?_;refine ac (cV hc.weak) ?_;refine bU λI=>?_;refine aJ aR (ao (aK On (GF p c.cats)) ?_);refine aB Z ?_ ?_;intro J;refine aw (ag ?_);have B:jH p c.cats=false:=mv;rw[B];exact ax;intro J;have B:jH p c.cats=true:=mv;rw[B];refine aw (aB Z ?_ ?_);intro K;refine aw (ag ?_);rw[Qat aq];exact ax;intro K;refine aw (ao (aK D5 (zA c q)) ?_);rw[hw];refine aB Z ?_ ?_;intro L;refine aw (ag ?_);have C:w=false:=mv;rw[C,Qav aq];exact ax;intro L;obtain rfl:w=true:=mv;obtain⟨hga,hqj,n,u,rfl,hlu⟩:=hrw Z;rw[hlu,Qav aq];have M:¬q= -1:=aq;refine aw (dY [(b1,0,dU c),(I,0,fZ (p,q)),(d,e+j*3,jW u)] 18 mixed Z (bj (bj (dA (hcv _) bI))) (λa=>?_));refine aj 0 6 a ?_;refine aE 6 a (g7 xk uz Z hga Z hqj n dg) ?_;refine aj 7 1 a ?_;refine aE 8 a (aY (n0 (k:=2) (j:=0) Z Z)) ?_;refine aj 9 2 a ?_;refine vQ (t:=37) Z ?_ ?_;intro b;refine aj 11 7 a ?_;refine aS (ag (aP (Qak Value.bool ?_)));rw[Qah];simp_all;intro b;refine aj 11 4 a ?_;refine iX 15 Z Z (aK call87 (a7L c q i r E f D)) (bj (bj (dA (hcv _) bI))) λa=>?_;refine aj 16 2 a ?_;refine aS (ag (aP (Qak Value.bool ?_)));rw[Qah];simp_all
 ⟩
def xF(c:Cfg):Bool:=decide (8<c.pl.length)||ql (BC c) c.pl.length
theorem a7N(c:Cfg)(a:c.pl.length≤c.pc)(f:∀A,bZ (aQ W0 A) c.pa 2 fZ c.pl)(b:∀A,bZ (aQ W0 A) c.ga 3 jW c.gl):sP W0 38 [.agg (dU c).toArray] R (λv B=>∃r,v=.tuple #[iQ r,.bool (xF c)]/\B=R):=by refine am func38 ntmps38 ?_;refine bR λd=>?_;apply ap<;>intro g;refine aZ ?_;rw[xF,Qav aq,QcD];exact g9;refine aF Z (ar FV (GH 85 [pQ d] c.pl.length d _ (BC c) (a7M W0 d c aq a f b) aq)) ?_;rintro _ h ⟨r,rfl,e⟩;subst e;refine aw (aZ ?_);rw[xF,Qat aq,Qcl];exact⟨_,⟨r,Z,Z⟩,IO⟩
structure CfOk (W0 : World) (c : Cfg) : Prop where
  g : ∀ A, bZ (aQ W0 A) c.ga 3 jW c.gl
  r : ∀ A, bZ (aQ W0 A) c.ra 3 jW c.rl
  p : ∀ A, bZ (aQ W0 A) c.pa 2 fZ c.pl
  n : ∀ A, bZ (aQ W0 A) c.na 2 fZ c.nl
  s : ∀ A, bZ (aQ W0 A) c.sa 2 fZ c.sl
  pc : c.pl.length ≤ c.pc
def LKs(W0:World)(c:Cfg)(C:HP)(l:List (Value×Int×Bool)):Prop:=∀x∈l,∃fn cs,x.1=.func (.func fn) #[] cs.toArray/\(∀args w,(callFunc fn args).run Tryz.prog w=.ok (.enter fn args) w)/\
  ∀R,bE Tryz.prog W0 fn ([]++[.agg (dU c).toArray]++cs) (kH 0 C::R) (λv B=>∃r,v=.tuple #[.int .i64 r,.bool x.2.2]/\B=kH 0 C::R)
def rh:List (Value×Int×Bool)->Int
 |[]=>0
 |x::t=>if x.2.2 then x.2.1 else rh t
theorem Qn:∀(l:List (Value×Int×Bool)) (i:Nat) (b:i<l.length),(∀j (c:j<l.length),j<i->l[j].2.2=false)->l[i].2.2=true->rh l=l[i].2.1
 |x::t,0,_,_,h=>by rw[rh,Qad aaa];rfl
 |x::t,i+1,b,a,e=>by
  have f:=a 0 n4 aq
  rw[rh,Qab mv,Qn t i mv (λj c d=>by
   have:=a (j+1) aq aq
   simpa using this) mv]
  simp
theorem Qo:∀(l:List (Value×Int×Bool)),(∀j (a:j<l.length),l[j].2.2=false)->rh l=0
 |[],_=>Z
 |x::t,h=>by
  have b:=h 0 n4
  rw[rh,Qab mv,Qo t (λj a=>by
   have:=h (j+1) mv
   simpa using this)]
def BD(x:Value×Int×Bool):List Value:=[x.1,.int .i64 x.2.1]
def jI(c:Cfg)(bg:Nat):List (Value×Int×Bool):=[(.func (.func 36) #[] #[],13,vY c),(.func (.func 37) #[] #[],14,v5 c),(.func (.func 38) #[] #[],15,xF c),(.func (.func 39) #[] #[],16,uY c),(.func (.func 40) #[] #[],17,xE c),(.func (.func 35) #[] #[.pointer (some ⟨bg,0,none⟩)],18,re c)]
theorem a7P W0 R bg x c:sQ W0 35 [.agg (dU c).toArray,pQ bg] (pt bg (ae [.bool x] 4)::R) (.tuple #[iQ 0,.bool x]) (pt bg (ae [.bool x] 4)::R):=by refine am func35 ntmps35 ?_;refine bR λb=>?_;refine bH [bg] 3 λa=>?_;refine aj 0 3 a ?_;exact aS (aZ ax)
theorem a7Q(x:Bool):sP W0 34 [.bool x] R (λv B=>∃a,v=.func (.func 35) #[] #[pQ a]/\B=pt a (ae [.bool x] 4)::R):=by refine am func34 ntmps34 ?_;refine dh (fQ Z Z) λa=>?_;exact ag ⟨_,⟨a,Z,Z⟩,IO⟩
theorem a7R W0 c(h:CfOk W0 c)bg:LKs W0 c (bB [pt bg (ae [.bool (re c)] 4)]) (jI c bg):=by
 intro x a;simp only[jI,QaX,List.not_mem_nil,or_false]at a;rcases a with rfl|rfl|rfl|rfl|rfl|rfl;exact⟨_,[],Z,call36,λR=>a7j c h.g⟩;exact⟨_,[],Z,call37,λR=>a7K c h.r⟩;exact⟨_,[],Z,call38,λR=>a7N c h.pc h.p h.g⟩;exact⟨_,[],Z,call39,λR=>a7o c h.n h.g⟩;exact⟨_,[],Z,call40,λR=>a7l c h.s⟩
 exact⟨_,[pQ bg],Z,call35,λR=>qW (cF (a7P W0 R bg (re c) c) λv B b=>by
  obtain⟨rfl,rfl⟩:=b
  exact⟨_,⟨0,Z,Z⟩,inferInstance⟩)⟩
def mB(c:Cfg):Int:=if c.cats<0\/8<c.cats then 12 else if vY c then 13 else if v5 c then 14 else if xF c then 15 else if uY c then 16 else if xE c then 17 else if re c then 18 else if 32<kv c c.gl.length then 19 else 0
theorem a7S c bg(h:¬(c.cats<0\/8<c.cats)):mB c=if rh (jI c bg)=0/\32<kv c c.gl.length then 19 else rh (jI c bg):=by grind[mB,jI,rh]
theorem zH{w:Nat->Bool}(h:ql w n=false)(a:i<n):w i=false:=by grind[a7g]
theorem Qp{c}(h:vY c=false):1≤c.gl.length/\c.gl.length≤4/\∀g∈c.gl,jH g.1 c.cats=true/\1≤g.2.1/\g.2.1≤8/\0≤g.2.2/\g.2.2≤8-g.2.1:=by simp only[vY,Qbh,Qbc]at h;obtain⟨e,b⟩:=h;refine⟨aq,aq,λg d=>?_⟩;obtain⟨i,a,rfl⟩:=Qby d;have:=zH b a;rw[show c.gl.getD i (0,0,0)=c.gl[i] by simp[List.getD,a]]at this;exact GG.1 this
theorem Qq{c}(h:v5 c=false):c.rl.length≤8/\∀r∈c.rl,jH r.1 c.cats=true/\0≤r.2.1/\1≤r.2.2/\r.2.1+r.2.2≤32:=by simp only[v5,Qbh,Qbc]at h;obtain⟨g,d⟩:=h;refine⟨aq,λr e=>?_⟩;obtain⟨i,a,rfl⟩:=Qby e;have:=zH d a;rw[zF,show pC c i=c.rl[i] by simp[pC,List.getD,a],Qcq,Qam,Qag]at this;obtain⟨f,b⟩:=this;refine⟨f,?_⟩;unfold ju at b;split at b;omega;omega
theorem BE(c:Cfg)(h:CfOk W0 c):sP W0 13 [.agg (dU c).toArray] R (λv B=>∃x,v=.tuple #[iQ (mB c),iQ x]/\B=R):=by
 refine am func13 ntmps13 ?_;refine dT (l8 ρ) λu=>?_;refine au 4 (Dz (aw ?_));apply d7 ρ ρ ρ<;>intro C;refine au 14 (pB (aZ ?_));have w:mB c=12:=by grind[mB]
 rw[w];exact g9;refine aw (aB ρ (λP=>?_) λP=>?_);refine au 8 (pB (aZ ?_));have w:mB c=12:=by grind[mB]
 rw[w];exact g9;refine au 9 (De (au 1 ?_));refine fA (λe:Int×Int=>e.1=rh (jI c 0)/\¬(c.cats<0\/8<c.cats)) (λe=>[(1,pQ u),(5,iQ e.2),(6,iQ e.1)]) (λ_=>pt u (kj c)::R) ?_ ?_;refine au 9 (ao (aK call41 (a7m c)) ?_);refine aF ρ (iV ρ call34 ρ (a7Q (re c))) ?_;rintro _ Q ⟨d,rfl,n⟩;subst n;refine aw ?_;refine dh (ji c1K Xh XN ρ (fK ρ ρ (fK ρ ρ (fK ρ ρ (fK ρ ρ (fK ρ ρ (fK ρ ρ iH)))))) ρ cl cl cl) λo=>?_;refine py (b:=o) (o':=ae ((jI c d).flatMap BD) 102) ρ ?_;refine aw (eC (λi:Nat=>i≤6/\∀j (I:j<(jI c d).length),j<i->((jI c d)[j]).2.2=false) (λi=>[(1,pQ u),(5,iQ 0),(6,iQ 0),(29,.slice (some ⟨o,0,none⟩) 6 6),(30,iQ 6),(31,iQ i)]) (λ_=>pt o (ae ((jI c d).flatMap BD) 102)::pt u (kj c)::kH 0 (bB [pt d (ae [.bool (re c)] 4)])::R) (λi=>6-i) 0 ?_ ?_);grind;intro i ⟨hi,M⟩;refine aw (aB ρ (λS=>?_) λS=>?_);refine au 5 ?_;have J:i<6:=aq;have N:(jI c d).length=6:=ρ;have p:i<(jI c d).length:=aq;have D:=a7R W0 c h d (jI c d)[i] (QaC p);have r:=Qn (jI c d) i p M;have E:(jI c d)[i].2.2=false->∀j (I:j<(jI c d).length),j<i+1->((jI c d)[j]).2.2=false:=λq j I T=>by
  rcases Qaz j i with U|U;grind;grind
 have l:bF (aQ W0 (pt o (ae ((jI c d).flatMap BD) 102)::pt u (kj c)::kH 0 (bB [pt d (ae [.bool (re c)] 4)])::R)) o (i*2) (BD (jI c d)[i]):=by
  obtain⟨b,V,W,X⟩:=uU (W0:=W0) (A:=pt o (ae ((jI c d).flatMap BD) 102)::pt u (kj c)::kH 0 (bB [pt d (ae [.bool (re c)] 4)])::R) (f:=BD) (sz:=2) (xs:=jI c d) (b:=o) (λ_=>ρ) ρ i (jI c d)[i] (by simp[p]);cases W
  rwa[Qac]at X
 generalize hy:(jI c d)[i]=y at D r E l;obtain⟨yv,Y,yb⟩:=y;obtain⟨fn,Z,rfl,s,F⟩:=D;dsimp only at r E F;refine aM (aa ρ (cu J) ?_);refine aa ρ (cV l) ?_;refine dT (cP XN) λbx=>?_;refine eM (eN Xh ρ ρ ρ ρ ρ) ?_;rintro _ _ rfl;refine aI (aA (aG (aM ?_)));refine aa ρ (bT ρ Xx ρ sizeOf99 ρ dg) ?_;refine aa ρ (bO isAgg99 ρ (aO ρ)) ?_;refine aa ρ (q9 J3 tq ρ ρ) ?_;refine aF ρ (sq (us:=[]) (cs:=Z) ρ s ρ (F _)) ?_;rintro _ Q ⟨r_,rfl,n⟩;subst n;refine aa ρ (aV ρ) (aa ρ (jT ρ ρ) (aa ρ (jT ρ ρ) (aa ρ (aU ρ) (aa ρ (aU ρ) (aI (aA (aG (aM (aa ρ (aV ρ) (aI (aA ?_)))))))))));apply aB ρ<;>intro O;refine aG (bH [bx] 5 λG=>?_);refine cI 0 ρ ρ ρ G (aV ρ) ?_;refine cI 1 ρ ρ ρ G (bT ρ Xx ρ sizeOf38 ρ dg) ?_;refine cI 2 ρ ρ ρ G (bO isAgg38 ρ (d6 (k:=0) ρ ρ)) ?_;refine cI 3 ρ ρ ρ G (aU ρ) ?_;refine cI 4 ρ ρ ρ G (aU ρ) ?_;exact aS (cZ (Y,r_) (⟨(r O).symm,aq⟩));refine aw (ac cK (d8 (i+1) ?_));grind;refine aw (cZ ((0:Int),(0:Int)) ?_);obtain rfl:i=6:=aq;exact⟨(Qo _ λj I=>M j I (by grind[jI])).symm,aq⟩;intro ⟨e,x⟩ ⟨w,H⟩;dsimp only at w ⊢;have m:=a7S c 0 H;rw[<-w]at m;refine aw (so ρ ρ ρ (λt=>?_) λt=>?_);have a:rh (jI c 0)=0:=aq;have K:vY c=false:=by
  rw[<-QaI];intro q;simp only[jI,rh,q,QbT]at a;exact absurd a cl
 have x0:uY c=false:=by
  rw[<-QaI];intro q;simp only[jI,rh,q,QbT]at a;split at a<;>(try split at a)<;>(try split at a)<;>exact absurd a cl
 obtain⟨k1,k2,k3⟩:=Qp K;have k4:c.nl.length≤4:=by
  grind[uY]
 refine aw (ao (aK XV (Kk c h.g (λg hg=>(k3 g hg).2) k4 k2)) ?_);apply aB ρ<;>intro L;refine au 8 (pB (aZ ?_));rw[m,Qad aq];exact g9;refine au 11 (pB (aZ ?_));rw[m,Qab aq];exact⟨_,⟨_,ρ,ρ⟩,IO⟩;refine au 17 (pB (aZ ?_));rw[m,Qab aq];exact⟨_,⟨_,ρ,ρ⟩,IO⟩
def rt(c:Cfg):Bool:=decide (mB c=0)
theorem GO(c:Cfg)(h:CfOk W0 c):sQ W0 95 [.agg (dU c).toArray] R (.bool (rt c)) R:=by refine am func95 ntmps95 ?_;refine bR λd=>?_;refine aF Z (aK FX (BE c h)) ?_;rintro _ e ⟨b,rfl,a⟩;subst a;refine aw (ag (aP (Qak Value.bool ?_)));rw[Qah,rt];simp
theorem vZ{c}(h:rt c=true):0≤c.cats/\c.cats≤8/\vY c=false/\v5 c=false/\xF c=false/\uY c=false/\xE c=false/\re c=false/\kv c c.gl.length≤32:=by
 have h:=Qaw h;unfold mB at h;split at h;omega
 rename_i i
 repeat' split at h
 all_goals first|exact absurd h cl|skip
 rename_i a b d e f g j
 exact⟨aq,aq,by simpa using a,by simpa using b,by simpa using d,by simpa using e,by simpa using f,by simpa using g,aq⟩
def dP:Option Nat->Int
 |some i=>(i:Int)
 |none=> -1
def m7(g off n:Nat)(at_ w:Int):Value:=if i7 n at_ w then .tuple #[.slice (some ⟨g,off+at_.toNat,none⟩) w.toNat w.toNat,.bool true]else .tuple #[.slice none 0 0,.bool false]
theorem Kr(g off n c:Nat)(at_ w:Int)(hn:n≤c)(h63:c<9223372036854775808):sQ W0 332 [.slice (some ⟨g,off,none⟩) n c,iQ at_,iQ w] R (m7 g off n at_ w) R:=by
 refine am func332 ntmps332 ?_;apply e9<;>intro g1_3;apply e9<;>intro g1_7;apply ap<;>intro c1;refine aZ (aP ?_);have hi:i7 n at_ w=false:=by
  grind[kQ]
 simp[bY,m7,hi];apply ap<;>intro c3;refine aZ (aP ?_);have hi:i7 n at_ w=false:=by
  grind[kQ]
 simp[bY,m7,hi];apply ap<;>intro c4;refine aZ (aP ?_);have hi:i7 n at_ w=false:=by
  grind[kQ]
 simp[bY,m7,hi];refine ac jt (ap (λc5=>?_) λc5=>?_);refine aZ (aP ?_);have hi:i7 n at_ w=false:=by
  grind[kQ]
 simp[bY,m7,hi];have hi:i7 n at_ w=true:=kQ.2 ⟨aq,aq,aq,aq⟩;obtain⟨i,k,rfl,rfl,hk,hik⟩:=zt hi;refine ac (dI Z Z (aaj:IntKind.wrap .i64 ((i:Int)+(k:Int))=((i+k:Nat):Int))) ?_;refine ac (dI Z Z (aaj:IntKind.wrap .i64 ((i:Int)+(k:Int))=((i+k:Nat):Int))) ?_;refine ac (Dv jf ku Z Z Z Z Z Z Z aq aq aq aq dg) ?_;refine aZ (aP ?_);simp[bY,m7,hi];apply ap<;>intro c3;refine aZ (aP ?_);have hi:i7 n at_ w=false:=by
  grind[kQ]
 simp[bY,m7,hi];apply ap<;>intro c4;refine aZ (aP ?_);have hi:i7 n at_ w=false:=by
  grind[kQ]
 simp[bY,m7,hi];refine ac jt (ap (λc5=>?_) λc5=>?_);refine aZ (aP ?_);have hi:i7 n at_ w=false:=by
  grind[kQ]
 simp[bY,m7,hi];have hi:i7 n at_ w=true:=kQ.2 ⟨aq,aq,aq,aq⟩;obtain⟨i,k,rfl,rfl,hk,hik⟩:=zt hi;refine ac (dI Z Z (aaj:IntKind.wrap .i64 ((i:Int)+(k:Int))=((i+k:Nat):Int))) ?_;refine ac (dI Z Z (aaj:IntKind.wrap .i64 ((i:Int)+(k:Int))=((i+k:Nat):Int))) ?_;refine ac (Dv jf ku Z Z Z Z Z Z Z aq aq aq aq dg) ?_;refine aZ (aP ?_);simp[bY,m7,hi];apply ap<;>intro c3;refine aZ (aP ?_);have hi:i7 n at_ w=false:=by
  rw[<-QaI,kQ];omega
 simp[bY,m7,hi];apply ap<;>intro c4;refine aZ (aP ?_);have hi:i7 n at_ w=false:=by
  grind[kQ]
 simp[bY,m7,hi];refine ac jt (ap (λc5=>?_) λc5=>?_);refine aZ (aP ?_);have hi:i7 n at_ w=false:=by
  grind[kQ]
 simp[bY,m7,hi];have hi:i7 n at_ w=true:=kQ.2 ⟨aq,aq,aq,aq⟩;obtain⟨i,k,rfl,rfl,hk,hik⟩:=zt hi;refine ac (dI Z Z (aaj:IntKind.wrap .i64 ((i:Int)+(k:Int))=((i+k:Nat):Int))) ?_;refine ac (dI Z Z (aaj:IntKind.wrap .i64 ((i:Int)+(k:Int))=((i+k:Nat):Int))) ?_;refine ac (Dv jf ku Z Z Z Z Z Z Z aq aq aq aq dg) ?_;refine aZ (aP ?_);simp[bY,m7,hi]
theorem Qs(a:Option Addr)(n c:Nat)(b w:Int)(j:i7 n b w=false)(l:n<9223372036854775808):sQ W0 332 [.slice a n c,iQ b,iQ w] R (.tuple #[.slice none 0 0,.bool false]) R:=by
 have m:¬((w=1\/w=2\/w=4)/\0≤b/\b≤n/\w≤n-b):=λh=>by rw[kQ.2 h]at j;cases j
 refine am func332 ntmps332 ?_;apply e9<;>intro d;apply e9<;>intro e;apply ap<;>intro k;exact aZ ax;apply ap<;>intro f;exact aZ ax;apply ap<;>intro g;exact aZ ax;refine ac jt (aB Z (λi=>?_) λi=>?_);exact au 9 (aZ ax);exfalso;omega;apply ap<;>intro f;exact aZ ax;apply ap<;>intro g;exact aZ ax;refine ac jt (aB Z (λi=>?_) λi=>?_);exact au 9 (aZ ax);exfalso;omega;apply ap<;>intro f;exact aZ ax;apply ap<;>intro g;exact aZ ax;refine ac jt (aB Z (λi=>?_) λi=>?_);exact au 9 (aZ ax);exfalso;omega
theorem Qt W0 R g off c l(f:bF (aQ W0 R) g off (bW l))(j:l.length≤4)(e:By l):sQ W0 356 [.slice (some ⟨g,off,none⟩) l.length c] R (.int .u32 (lZ l)) R:=by refine am func356 ntmps356 ?_;refine eC (λi:Nat=>i≤l.length) (λi=>[(0,.slice (some ⟨g,off,none⟩) l.length c),(3,.int .u32 (lZ (l.take i):Nat)),(6,iQ (l.length:Nat)),(7,iQ i)]) (λ_=>R) (λi=>l.length-i) 0 ?_ ?_;omega;intro i k;refine aw (ap (λh=>?_) λh=>?_);have a:i<l.length:=aq;have b:=e.get a;have d:=xC (e.take i);rw[QaB,Qbo aq]at d;refine ac (cu a) ?_;refine ac (aY (by have:=f i (bV l[i]) (a62 l i a);rwa[QaP])) ?_;refine ac (cv (eh aq)) ?_;refine ac (mu (8*i)) ?_;refine ac (uJ Z Z aq (a64 b aq)) ?_;refine ac (uI Z Z ((a65 d b aq).trans (Qak _ (a63 a).symm))) ?_;exact y1;refine ag (aP ?_);have:i=l.length:=aq;subst this;simp[bY]
theorem bF.part{S:World->Prop}{b:Nat}(h:bF S b off (bW l))(i k:Nat)(c:i+k≤l.length):bF S b (off+i) (bW ((l.drop i).take k)):=λj v a=>by
 have d:j<k:=by
  rcases Qaz j k with q|q;exact q;rw[QaU (by rw[iJ,QaB];omega)]at a;cases a
 have:=h (i+j) v (by
   rw[bW,QbL,QbM d,QbP]at a
   rw[bW,QbL];exact a)
 rwa[<-Qcm]at this
def qo(l:List Nat)(at_ w:Int):Nat:=if i7 l.length at_ w then lZ ((l.drop at_.toNat).take w.toNat)else 0
def sD(l:List Nat)(at_ w:Int):Int:=if i7 l.length at_ w then 0 else 1
theorem Ks{l at_ w}(a:By l):qo l at_ w<4294967296:=by
 unfold qo;split
 rename_i h
 obtain⟨i,k,rfl,rfl,b,c⟩:=zt h;have:=xC ((a.drop i).take k);simp only[QaB,QaL,Qae]at this ⊢;have e:min k (l.length-i)=k:=aq;rw[e]at this;rcases b with rfl|rfl|rfl<;>omega;omega
theorem GP W0 R g off c l at_ w(m:bF (aQ W0 R) g off (bW l))(n:By l)(h:l.length≤c)(a:c<9223372036854775808):sQ W0 289 [.slice (some ⟨g,off,none⟩) l.length c,iQ at_,iQ w] R (.tuple #[.int .u32 (qo l at_ w),iQ (sD l at_ w)]) R:=by
 by_cases j:i7 l.length at_ w=true;obtain⟨i,k,rfl,rfl,o,e⟩:=zt j;have f:m7 g off l.length i k=.tuple #[.slice (some ⟨g,off+i,none⟩) ((l.drop i).take k).length k,.bool true]:=by
  grind[m7]
 refine am XW ntmps289 ?_;refine eS (aK Jp (Kr g off l.length c i k h a)) ?_;rw[f];refine aw (aB Z (λb=>?_) λb=>?_);exact absurd b n4;refine aw (ao (aK call356 (Qt W0 _ g (off+i) k ((l.drop i).take k) (m.part i k e) mv ((n.drop i).take k))) ?_);refine aZ (aP ?_);simp[bY,qo,sD,j];have d:i7 l.length at_ w=false:=mv;have f:m7 g off l.length at_ w=.tuple #[.slice none 0 0,.bool false]:=by simp[m7,d]
 refine am XW ntmps289 ?_;refine eS (aK Jp (Kr g off l.length c at_ w h a)) ?_;rw[f];refine aw (aB Z (λb=>?_) λb=>?_);refine au 8 (aZ (aP ?_));simp[bY,qo,sD,d];exact absurd b n4
theorem Qu(g a n c b:Nat)(L:List Value)(w:Nat)(e:w<4294967296)(f:n≤4)(h:a+n≤L.length):sQ W0 333 [.slice (some ⟨g,a,none⟩) n c,.int .u32 w] (pt g (ae L b)::R) (.tuple #[]) (pt g (ae (ee L a (bW (pA n w))) b)::R):=by
 refine am func333 ntmps333 ?_;refine fI (λi:Nat=>i≤n) (λi=>[(0,.slice (some ⟨g,a,none⟩) n c),(1,.int .u32 w),(6,iQ n),(7,iQ i)]) (λi=>pt g (ae (ee L a (bW (pA i w))) b)::R) (λi=>n-i) 0 ?_ ?_ ?_ ?_;omega
 · exact ai
 rw[show ee L a (bW (pA 0 w))=L from Z];exact inferInstance;intro i j;refine aw (ap (λd=>?_) λd=>?_);refine ac (mu (8*i)) ?_;refine ac (pu Z Z aq Z) ?_;refine ac (cv (a67 aq)) ?_;refine ac (cu aq) ?_;refine aJ (fg (by rw[Ge];omega) (by rw[a66,Dy,show bW [w/256^i %256]=[bV (w/256^i %256)]from Z,PQ,iJ,Bw,QaP];rfl:(ee L a (bW (pA i w))).set (a+i*1) _=ee L a (bW (pA (i+1) w)))) ?_;exact y1;refine bP (.inr Z) .nil ?_;have:i=n:=aq;subst this;exact ax
theorem Qv(g off c:Nat)(l:List Nat)(hc:bF (aQ W0 R) g off (bW l))(hn:l.length≤1000000):sP W0 331 [.slice (some ⟨g,off,none⟩) l.length c] R (λv B=>∃a' c',v=.slice a' l.length c'/\B=osl 5 1 (.slice a' l.length c') (bW l)::R):=by refine am func331 ntmps331 ?_;refine ac (zo jf Z Z) ?_;apply aB Z<;>intro c1;cases c1;refine fH (aA (aG (aM (aF Z (zp jf ku Z) ?_))));rintro _ _ ⟨b1,rfl,rfl⟩;refine aw (aF Z (fR (sz:=1) (by_:=1) (info:=Tryz.t5) jf ld Z Z Z Z cl Z Z hc.weak ((iJ l).trans (QaP _).symm) (zq l) n5 aq) ?_);rintro _ _ ⟨a1,c1,rfl,rfl⟩;exact aw (ag ⟨_,⟨a1,c1,abh,Z⟩,by simpa using(ent_refl:Ent _ _)⟩)
theorem Ku(h:c≤maxLen):c<9223372036854775808:=by simp only[maxLen]at h;omega
theorem a7T{k:Nat}(h:i+k≤l.length):ee (bW l++sp) i (bW (pA k w))=bW (qX l i k w)++sp:=by grind[PS,iJ,Bw,PR]
def Qw(a:Option Addr)(n c:Nat):Value:=.tuple #[.slice a n c,.int .i64 0]
def Qx:Value:=.tuple #[.slice none 0 0,.int .i64 1]
theorem a7U W0 R g off c l(i k w:Nat)(p:w<4294967296)(q:bF (aQ W0 R) g off (bW l))(j:i7 l.length i k=true)(r:l.length≤1000000):sP W0 266 [.slice (some ⟨g,off,none⟩) l.length c,iQ i,iQ k,.int .u32 w] R (λv B=>∃d a,v=Qw d l.length a/\B=osl 5 1 (.slice d l.length a) (bW (qX l i k w))::R):=by
 have x:=kQ.1 j;refine am func266 ntmps266 ?_;refine aF Z (aK call331 (Qv g off c l q r)) ?_;rintro _ y ⟨d,a,rfl,e⟩;subst e;refine au 4 (qf (λh _=>by have:=(Value.slice.inj h).2.1;omega) λb A s t u m n C D=>?_);cases u;have f:m7 b 0 l.length i k=.tuple #[.slice (some ⟨b,i,none⟩) k k,.bool true]:=by simp[m7,j]
 refine aw (eS (aK Jp (Kr b 0 l.length a i k m (Ku n))) ?_);rw[f];refine aw (aB Z (λo=>?_) λo=>?_);exact absurd o n4;refine aw (ao (ar call333 (Qu b i k k 5 (bW l++t) w p aq aq)) ?_);rw[a7T aq];refine aZ ?_;exact⟨_,⟨_,a,Z,Z⟩,jG m n (by grind[iJ,GC]) (by grind[Qaf,iJ,GC])⟩
theorem a7V W0 R g off c l at_ k(w:Nat)(h:bF (aQ W0 R) g off (bW l))(i:i7 l.length at_ k=false)(j:l.length≤1000000):sQ W0 266 [.slice (some ⟨g,off,none⟩) l.length c,iQ at_,iQ k,.int .u32 w] R Qx R:=by
 refine am func266 ntmps266 ?_;refine aF Z (aK call331 (Qv g off c l h j)) ?_;rintro _ n ⟨b,d,rfl,a⟩;subst a;refine aw ?_;obtain⟨e,m⟩:∃e,e=osl 5 1 (.slice b l.length d) (bW l)::R:=⟨_,Z⟩
 refine ao (aK Jp (Qs b l.length d at_ k i aq)) ?_;apply ap<;>intro f;exact aZ ax;exact absurd f n4
def wV(w:Nat):Value:=.int .u32 (w:Int)
def jv(l:List Nat)(i:Nat):Nat:=lZ ((l.drop (4*i)).take 4)
theorem BF{l}(h:By l)i:jv l i<4294967296:=by have a:=xC ((h.drop (4*i)).take 4);have b:((l.drop (4*i)).take 4).length≤4:=aac;exact Qcp a (Qbe (QcN cl b) cl)
def w0(l:List Nat)(n:Nat):List Value:=(List.range n).map λi=>wV (jv l i)
theorem a7W l n:w0 l (n+1)=w0 l n++[wV (jv l n)]:=by simp[w0,QcI]
theorem a7X(g off c n:Nat)(l:List Nat)(hn:l.length=n)(hc:bF (aQ W0 R) g off (bW l))(hl:n≤4)(hb:By l):
    bE Tryz.prog W0 356 [.slice (some ⟨g,off,none⟩) n c] R (λv B=>v=.int .u32 (lZ l:Nat)/\B=R):=by grind[Qt]
theorem tL:∀a,a.flatMap (λx=>[bV x])=bW a
 |[]=>Z
 |b::l=>by rw[QaT,tL l];rfl
theorem Qy(a:Option Addr)(c:Nat)(l:List Nat)(m:bZ (aQ W0 R) a 1 (λx=>[bV x]) l)(n:By l)(d:l.length≤c)(t:l.length≤1000000):sP W0 466 [.slice a l.length c] R (λv B=>∃e f,v=.slice e (l.length/4) f/\B=osl 62 1 (.slice e (l.length/4) f) (w0 l (l.length/4))::R):=by
 refine am func466 ntmps466 ?_;refine ac (qT Z Z cl ((Qak (IntKind.wrap .i64) (uW l.length 4)).trans (bS aq))) ?_;refine fI (λx:Nat×Option Addr×Nat=>x.1≤l.length/4) (λx=>[(0,.slice a l.length c),(3,.slice x.2.1 x.1 x.2.2),(7,iQ (l.length/4:Nat)),(8,iQ x.1)]) (λx=>osl 62 1 (.slice x.2.1 x.1 x.2.2) (w0 l x.1)::R) (λx=>l.length/4-x.1) (0,none,0) ?_ ?_ ?_ ?_;simp
 · exact ai
 exact eW;intro ⟨i,o,p⟩ hi;dsimp only at hi ⊢;refine aw (ap (λq=>?_) λq=>?_);obtain⟨g,b,rfl,h⟩:=m.all (by intro r;subst r;simp at *;omega) (λ_=>Z);rw[tL]at h;refine ac (mu (4*i)) ?_;refine ac (mu (4*i)) ?_;refine ac (eX (4*i+4)) ?_;refine ac (mu (4*i)) ?_;refine ac (eX (4*i+4)) ?_;refine ac (Dv jf ku Z Z Z Z Z Z Z aq aq aq aq dg) ?_;refine ao (aK call356 (a7X g (b+4*i*1) _ _ ((l.drop (4*i)).take 4) aac (by rw[QaP];exact bF.part h.weak (4*i) 4 aq) aq ((n.drop _).take _))) ?_;refine dh (lG uD aX Oq Z Z Z Z Z cl cl) λu=>?_;refine aF Z (fR (sz:=1) (by_:=4) (info:=Tryz.t62) uD ld Z Z Z Z cl Z Z eQ Z Z n5 aq) ?_;rintro _ _ ⟨j,k,rfl,rfl⟩;refine aw (ac cK (d8 (i+1,j,k) ?_ (he:=?_)));omega;rw[a7W];show Ent _ (osl 62 1 (.slice j (i+1) k) (w0 l i++[.int .u32 ((lZ ((l.drop (4*i)).take 4):Nat):Int)])::R);exact IO;refine ag ?_;have s:i=l.length/4:=aq;subst s;exact⟨_,⟨o,p,Z,Z⟩,IO⟩
def nK(ws:List Nat):List Nat:=ws.flatMap (pA 4)
theorem DG:∀a,(nK a).length=4*a.length
 |[]=>Z
 |w::a=>by rw[nK,QaT,Qaf,Bw];have:=DG a;rw[nK]at this;rw[this,QaK];omega
theorem a7Y ws:By (nK ws):=λb a=>by
 obtain⟨w,_,c⟩:=List.mem_flatMap.1 a;exact PP 4 w b c
def tM(ws:List Nat)(i:Nat):List Nat:=nK (ws.take i)++List.replicate (4*(ws.length-i)) 0
theorem Qz(h:i≤ws.length):(tM ws i).length=4*ws.length:=by grind[tM,Qaf,DG]
theorem a7Z{ws i}h:qX (tM ws i) (4*i) 4 ws[i]=tM ws (i+1):=by
 have a:(nK (ws.take i)).length=4*i:=by grind[DG]
 rw[qX,tM,List.take_append_of_le_length aq,QaJ aq];rw[List.drop_append,List.drop_of_length_le aq,Qar,List.drop_replicate,a];rw[tM,Qap h,nK,nK,Qbg];simp only[QaT,List.flatMap_nil,Qaq];congr 2;omega
theorem a70(a:Option Addr)(c:Nat)(b:List Nat)(l:bZ (aQ W0 R) a 1 (λx=>[wV x]) b)(m:∀w∈b,w<4294967296)(r:b.length≤10000):sP W0 390 [.slice a b.length c] R (λv B=>∃h j,v=.slice h (4*b.length) j/\B=osl 5 1 (.slice h (4*b.length) j) (bW (nK b))::R):=by refine am func390 ntmps390 ?_;refine ac (mu (4*b.length)) ?_;refine dh (Bt (sz:=1) (by_:=1) (info:=Tryz.t5) jf ld Z Z Z Z cl Z Z Z Z aq cl) λe=>?_;rw[show List.replicate (4*b.length*1) (Value.int .u8 0)=bW (tM b 0) by simp[tM,bW,nK,bV]];refine eC (λi:Nat=>i≤b.length) (λi=>[(3,.slice (some ⟨e,0,none⟩) (4*b.length) (4*b.length)),(10,.slice a b.length c),(11,iQ b.length),(12,iQ i)]) (λi=>pt e (ae (bW (tM b i)) 5)::R) (λi=>b.length-i) 0 ?_ ?_;exact Qay _;intro i k;refine aw (ap (λn=>?_) λn=>?_);have d:i<b.length:=aq;obtain⟨g,o,rfl,p⟩:=l.at_ d;have f:=m _ (QaC d);refine ac (cu d) ?_;refine ac (aY (bF.weak p 0 _ Z)) ?_;refine ac (mu (4*i)) ?_;refine ac (mu (4*i)) ?_;refine ac (eX (4*i+4)) ?_;refine ac (mu (4*i)) ?_;refine ac (eX (4*i+4)) ?_;refine ac (Dv jf ku Z Z Z Z Z Z Z aq aq aq aq dg) ?_;refine ao (ar call333 (Qu e (4*i*1) _ _ _ _ b[i] f aq (by rw[iJ,Qz k];omega))) ?_;rw[show 4*i+4-4*i=4 by omega,QaP,PR (by rw[Qz k];omega),a7Z d];exact y1;refine ag ?_;have q:i=b.length:=aq;subst q;rw[show tM b b.length=nK b by simp[tM]];exact⟨_,⟨_,_,Z,Z⟩,Ke n5 (by rw[iJ,DG,QaP])⟩
structure Dsc where
  addr : Nat
  len : Nat
  flags : Nat
  next : Nat
@[reducible] def fq(d:Dsc):List Value:=[.int .u32 d.addr,.int .u32 d.len,.int .u32 d.flags,.int .u32 d.next]
structure Dsc.ok (d : Dsc) : Prop where
  addr : d.addr < 4294967296
  len : d.len < 4294967296
  flags : d.flags < 4294967296
  next : d.next < 4294967296
def GQ(l:List Nat):Dsc:=⟨jv l 0,jv l 1,jv l 2,jv l 3⟩
theorem a71(h:By l):(GQ l).ok:=⟨BF h _,BF h _,BF h _,BF h _⟩
def zD:Dsc:=⟨0,0,0,0⟩
def QA(b i:Nat):Value:=.pointer (some ⟨b,i,none⟩)
theorem a72(b:Nat):sQ W0 492 [pQ b] R (.agg ((List.range 4).map (QA b)).toArray) R:=by refine iW func492 ntmps492 Z Z ?_;refine aG (aM ?_);refine dT (cP XS) λc=>?_;refine aI (aA (aG ?_));refine bH [] 14 λa=>?_;refine aj 0 12 a ?_;refine cI 12 Z Z Z a (zu c2i sizeOf616 XS Z Z Z Z) ?_;refine cp 13 aR λa=>?_;exact aS (bJ (.cons (bX isAgg617 sizeOf617 Z Z) .nil) ax)
theorem a73(a:Option Addr)(c:Nat)(l:List Nat)(p:bZ (aQ W0 R) a 1 (λx=>[bV x]) l)(q:By l)(e:l.length≤c)(r:l.length≤1000000):sQ W0 485 [.slice a l.length c] R (.tuple #[.agg (fq (if l.length=16 then GQ l else zD)).toArray,iQ (if l.length=16 then 0 else 6)]) R:=by refine am func485 ntmps485 ?_;refine bU λk=>?_;apply ap<;>intro s;refine aJ aR (bJ (.cons (bX pW jD Z Z) (.cons (bA Z) .nil)) ?_);refine aP ?_;have d:¬l.length=16:=aq;simp[bY,d,zD];have d:l.length=16:=aq;refine bU λf=>?_;refine ao (aK call492 (a72 f)) ?_;refine bU λo=>?_;refine aJ aR (aF Z (aK call466 (Qy a c l (bZ.weak p) q e r)) ?_);rintro _ w ⟨t,h,rfl,m⟩;subst m;rw[show l.length/4=4 by rw[d]];refine oB (E:=62) (sz:=1) (a:=t) (c:=h) (n:=4) (λu=>?_);obtain⟨g,rfl⟩:=BA u (by simp[w0]);refine py (b:=f) (o':=ae (uX (λj=>wV (jv l j)) (wV 0) 4 0) 436) Z ?_;refine py (b:=k) (o':=ae (fq zD) 436) Z ?_;refine aw (eC (λi:Nat=>i≤4) (λi=>[(2,pQ k),(4,pQ f),(5,pQ o),(14,.slice (some ⟨g,0,none⟩) 4 h),(15,iQ 4),(16,iQ i)]) (λi=>pt f (ae (uX (λj=>wV (jv l j)) (wV 0) 4 i) 436)::osl 62 1 (.slice (some ⟨g,0,none⟩) 4 h) (w0 l 4)::pt o (ae ((List.range 4).map (QA f)) 617)::pt k (ae (fq zD) 436)::R) (λi=>4-i) 0 ?_ ?_);exact Qay _;intro i y;refine aw (aB Z (λv=>?_) λv=>?_);refine au 7 (aa Z (cu aq) ?_);refine aa Z (bO jP Z (a7f (E:=62) (sz:=1) (n:=4) (c:=h) (PZ aq))) ?_;refine aa Z (aU Z) (aa Z (aU Z) (aI (aA (aM (aa Z (aV Z) ?_)))));refine aa Z (iy aq) ?_;refine aa Z (bO isAgg616 Z (aO (PZ aq))) ?_;refine aa Z (aV Z) (aa Z (fJ Z) ?_);refine eM (iG aX Z Z Z (by rw[a7c];omega) (a7e aq)) ?_;rintro _ _ rfl;refine aI (lY (aA (aM ?_)));refine aa Z (dI Z Z ph) ?_;refine aa Z (aV Z) (aI (aA ?_));exact d8 (i+1) aq;refine au 6 ?_;obtain rfl:i=4:=aq;rw[a7d,show(List.range 4).map (λj=>wV (jv l j))=fq (GQ l)from Z];refine aw (fw 4 aR ?_);refine bJ (.cons (bX pW jD Z Z) (.cons (bA Z) .nil)) ?_;refine aP ?_;simp[bY,d]
def w4(d:Dsc)(n:Nat):Int:=if 4≤d.flags then 3 else if 64<d.len then 4 else if d.flags %2=1/\n≤d.next then 1 else 0
theorem a74{f:Nat}(h:f<4294967296):uH .u32 f 3=(f-f %4:Nat):=by have:=PM (a:=f) (b:=3) h cl;rw[show f&&&3=f %4 from xB (a:=f) (n:=2)]at this;exact this
theorem QB(h:f<4294967296):iF .u32 f 1=(f %2:Nat):=by grind[pz,xB]
theorem a75{f:Nat}(h:f<4294967296):iF .u32 f 2=(f/2%2*2:Nat):=by
 have:=pz (a:=f) (b:=2) h cl;refine Eq.trans this ?_;have e:f&&&2=f/2%2*2:=by
  apply Nat.eq_of_testBit_eq;intro i;rw[Nat.testBit_and];have c:∀i,Nat.testBit 2 i=decide (i=1):=λi=>by
   rw[show(2:Nat)=2^1 from Z,Nat.testBit_two_pow];simp[eq_comm]
  rw[c];by_cases d:i=1;grind;rw[Nat.mul_comm, <-Nat.pow_one 2,Nat.testBit_two_pow_mul];simp only[d,decide_false,QcO];rcases QcC i with rfl|g;simp;grind[Qcp,Qbq,QcN,Nat.testBit_lt_two_pow]
 rw[e]
theorem a76(d:Dsc)(b:d.ok)(n:Nat)(h:n<9223372036854775808):sQ W0 472 [.agg (fq d).toArray,iQ n] R (iQ (w4 d n)) R:=by have c:=b.flags;have i:=b.next;refine am func472 ntmps472 ?_;refine bR λj=>?_;refine ac (Di Z Z (a74 c)) ?_;apply ap<;>intro e;refine ag (aP ?_);simp only[bY,w4];rw[Qad aq];apply ap<;>intro f;refine ag (aP ?_);simp only[bY,w4];rw[Qab aq,Qad aq];refine ac (iT Z Z (QB c)) ?_;apply e9<;>intro a;refine ac (cv (bS aq)) ?_;apply ap<;>intro g;refine ag (aP ?_);simp only[bY,w4];rw[Qab aq,Qab aq,Qad aq];refine ag (aP ?_);simp only[bY,w4];rw[Qab aq,Qab aq,Qab aq];refine ag (aP ?_);simp only[bY,w4];rw[Qab aq,Qab aq,Qab aq]
def xG(n:Int):Bool:=decide (n=2\/n=4\/n=8)
theorem QC(n:Int):sQ W0 435 [iQ n] R (.bool (xG n)) R:=by refine am func435 ntmps435 ?_;apply ap<;>intro a;refine ag (aP (Qak Value.bool (Qcz (Qav ?_))));omega;apply ap<;>intro b;refine ag (aP (Qak Value.bool (Qcz (Qav ?_))));omega;apply ap<;>intro c;refine ag (aP (Qak Value.bool (Qcz (Qav ?_))));omega;refine ag (aP (Qak Value.bool (Qcz (Qat ?_))));omega
structure Rg3 where
  desc : Nat
  avail : Nat
  used : Nat
  n : Int
@[reducible] def xH(r:Rg3):List Value:=[.int .u32 r.desc,.int .u32 r.avail,.int .u32 r.used,.int .i64 r.n]
structure Rg3.ok (r : Rg3) : Prop where
  desc : r.desc < 4294967296
  avail : r.avail < 4294967296
  used : r.used < 4294967296
def w5(r:Rg3):Bool:=decide (r.desc %4=0/\r.avail %4=0/\r.used %4=0)&&xG r.n
def sF(r:Rg3)(i:Nat):Nat:=[r.desc,r.avail,r.used].getD i 0
theorem QD(r:Rg3):sQ W0 388 [.agg (xH r).toArray] R (.bool (w5 r)) R:=by
 refine am func388 ntmps388 ?_;refine bR λb=>?_;refine ac (zu Ot aX c2x Z Z Z Z) ?_;refine eC (λi:Nat=>i≤3/\∀j,j<i->sF r j %4=0) (λi=>[(1,pQ b),(11,.agg ((List.range 3).map λj=>wV (sF r j)).toArray),(12,iQ i)]) (λi=>pt b (ae (xH r) 422)::R) (λi=>3-i) 0 ?_ ?_;exact⟨Qay _,λj g=>aq⟩;intro i ⟨l,a⟩;refine aw (ap (λh=>?_) λh=>?_);refine ac (Kh Ot aX jP Z Z Z aq (PY aq)) ?_;refine ac (kg Z Z cl (oC (sF r i) 4)) ?_;apply ap<;>intro c;refine ag (aP (Qak Value.bool (Qcz ?_)));rw[w5,Qat,Qda];have k:i=0\/i=1\/i=2:=aq;rcases k with rfl|rfl|rfl<;>simp[sF]at c<;>omega;refine ac cK (d8 (i+1) ?_)
 exact⟨aq,λj g=>by
  rcases Qaz j i with q|q;exact a j q
  rw[show j=i by omega];omega⟩
 refine ao (aK call435 (QC r.n)) ?_;refine ag (aP ?_);obtain rfl:i=3:=aq;have d:=a 0 aq;have e:=a 1 aq;have f:=a 2 aq;simp[sF]at d e f;simp[bY,w5,d,e,f]
theorem QE:∀a,a.flatMap (λx=>[bV x])=bW a
 |[]=>Z
 |b::l=>by rw[QaT,QE l];rfl
theorem QF:∀a,(a.map λb:Nat=>(b:Int)).map (Value.int .u8)=bW a
 |[]=>Z
 |b::l=>by rw[QaE,QaE,QF l];rfl
def m8(l:List Nat):ByteArray:=(l.map λb:Nat=>(b:Int)).foldl (λr n=>r.push (UInt8.ofNat n.toNat)) ByteArray.empty
theorem a77(s:ByteArray)b:(s.push b).data.toList=s.data.toList++[b]:=by simp[ByteArray.push]
theorem a78 l:(m8 l).data.toList=l.map UInt8.ofNat:=by
 suffices h:∀(l:List Nat) (s:ByteArray),((l.map λb:Nat=>(b:Int)).foldl (λr n=>r.push (UInt8.ofNat n.toNat)) s).data.toList=s.data.toList++l.map UInt8.ofNat by
  simpa[m8]using h l ByteArray.empty
 intro l
 induction l with
 |nil=>intro s;simp
 |cons b l a=>intro s;rw[QaE,List.foldl_cons,a,a77];simp
section
variable{P:Program}{S:World->Prop}{N:FSz}{e:bK}{A:List HP}{t t':TypeId}{x:Operand}{bs:List Nat}{a:Option Addr}{c n:Nat}
theorem a79{E}(k:P.underlying t=some (.slice E))(m:P.underlying E=some (.int .u8))(n:P.underlying t'=some .string)(o:ev e x=some (.slice a bs.length c))(h:bZ S a 1 (λx=>[bV x]) bs):
    cr P S N e (.convert t t' x) (.string (m8 bs)):=λp w _ _ _ _ _ q r=>by
 have s:(Conv.bytesToString (.slice a bs.length c)).run P w=.ok (.string (m8 bs)) w:=by
  cases a with
  |none=>
   have:bs=[]:=by
    cases bs with
    |nil=>rfl
    |cons b l=>obtain⟨_,_,u,_⟩:=h 0 b rfl;cases u
   subst this;simp[Conv.bytesToString,m8]
  |some f=>
   have y:(loadCells f bs.length).run P w=.ok ((bs.map λb:Nat=>(b:Int)).map (Value.int .u8)).toArray w:=by
    by_cases g:bs=[];subst g;simp[loadCells,loadCellsFrom];obtain⟨b,A,d,j⟩:=h.all g (λ_=>rfl);cases d;rw[QE]at j;have:=Dm (P:=P) (w:=w) (vs:=bW bs) (λi v B=>j i v B w r) bs.length 0 #[] (by simp[iJ]);simp only[loadCells,this,List.drop_zero,Array.empty_append,QF]
   exact run_bytesToString w f bs.length c _ y
 simp only[execOp,q.eval o,Sem.run_bind,run_convert_bytes_string w t t' E a bs.length c k m n,s,Result.andThen_ok,Sem.run_pure]
theorem QG{E}(b:P.underlying t=some (.slice E))(d:P.underlying E=some (.int .u8))(f:P.underlying t'=some .string)(g:ev e x=some (.slice a n c))(i:bs.length=n)(h:bZ S a 1 (λx=>[bV x]) bs):
    cr P S N e (.convert t t' x) (.string (m8 bs)):=by grind[a79]
end
structure Img where
  a : Option Addr
  c : Nat
  l : List Nat
@[reducible] def DI(x:Img):List Value:=[.slice x.a x.l.length x.c]
structure Sec where
  at_ : Int
  d : ByteArray
instance:Inhabited Sec:=⟨⟨0,ByteArray.empty⟩⟩
@[reducible] def DJ(x:Sec):List Value:=[.int .i64 x.at_,.string x.d]
structure Inp where
  at_ : Int
  g : Int
  k : Int
  code : Int
  d : ByteArray
instance:Inhabited Inp:=⟨⟨0,0,0,0,ByteArray.empty⟩⟩
@[reducible] def Kv(x:Inp):List Value:=[.int .i64 x.at_,.int .i64 x.g,.int .i64 x.k,.int .i64 x.code,.string x.d]
structure Scr where
  ia : Option Addr
  ic : Nat
  il : List Img
  sa : Option Addr
  sc : Nat
  sl : List Sec
  na : Option Addr
  nc : Nat
  nl : List Inp
@[reducible] def nM(s:Scr):List Value:=[.slice s.ia s.il.length s.ic,.slice s.sa s.sl.length s.sc,.slice s.na s.nl.length s.nc]
structure ScrOk (W0 : World) (s : Scr) : Prop where
  i : ∀ A, bZ (aQ W0 A) s.ia 1 DI s.il
  w : ∀ x ∈ s.il, ∀ A, bZ (aQ W0 A) x.a 1 (fun x => [wV x]) x.l
  wl : ∀ x ∈ s.il, x.l.length ≤ x.c ∧ x.l.length < 9223372036854775808
  wb : ∀ x ∈ s.il, ∀ w ∈ x.l, w < 4294967296
  sx : ∀ A, bZ (aQ W0 A) s.sa 2 DJ s.sl
  sb : ∀ x ∈ s.sl, (-9223372036854775808 ≤ x.at_ ∧ x.at_ < 9223372036854775808) ∧ x.d.size < 9223372036854775808
  n : ∀ A, bZ (aQ W0 A) s.na 5 Kv s.nl
  nb : ∀ x ∈ s.nl, x.d.size < 9223372036854775808
def DK(s:Scr):Bool:=decide (s.il.length≤20/\s.sl.length≤60/\s.nl.length≤300)
def BG(c:Cfg):Bool:=decide (c.gl.length≤20/\c.rl.length≤40/\c.pl.length≤40/\c.nl.length≤40/\c.sl.length≤40)
theorem Own.step{w f:World}{C:List HP}(h:Own W0 w A)(k:Own w f C):Own W0 f (C++A):=by
 obtain⟨a,l,n,c⟩:=h.owns;obtain⟨g,m,o,i⟩:=k.owns;have d:∀p∈a,p.1<w.heap.size:=λp e=>by
  have:=(c p e).2;rcases Qaz p.1 w.heap.size with q|q;exact q;grind
 refine⟨k.os.trans h.os,k.tape.trans h.tape,k.output.trans h.output,Qbe h.size k.size,λb j=>(k.base b (Qcp j h.size)).trans (h.base b j),g++a,gi.append.2 ⟨g,a,Z,m,l⟩,?_,λp e=>?_⟩;grind;rcases Qba.1 e with q|q;exact⟨Qbe h.size (i p q).1,(i p q).2⟩;exact⟨(c p q).1,(k.base p.1 (d p q)).trans (c p q).2⟩
theorem Kw{W:World}{b:Nat}(a:Own W0 W A)(h:bF (aQ W0 A) b off vs):∀B,bF (aQ W B) b off vs:=λB i v c=>Gf (h i v c W a)
theorem GR{α:Type}{W:World}{f:α->List Value}{d:List α}(e:Own W0 W A)(h:bZ (aQ W0 A) a sz f d):∀B,bZ (aQ W B) a sz f d:=λB i x g=>by
 obtain⟨b,c,rfl,j⟩:=h i x g;exact⟨b,c,Z,Kw e j B⟩
end
variable {rs:List Rn}
section
open Go.ChangeShapes Go.WideShapes Go.ChangeAt Go.RowKit
variable{W:World}{v:Value}
theorem GT{l:List Value}(h:l.length=2):∃a b,l=[a,b]:=by
 match l,h with
 |[a,b],_=>exact⟨a,b,Z⟩
theorem Kx{l:List Value}(h:l.length=3):∃a b c,l=[a,b,c]:=by
 match l,h with
 |[a,b,c],_=>exact⟨a,b,c,Z⟩
theorem a8a{l:List Value}(h:l.length=5):∃a b c d e,l=[a,b,c,d,e]:=by
 match l,h with
 |[a,b,c,d,e],_=>exact⟨a,b,c,d,e,Z⟩
theorem a8b{l:List Value}(h:l.length=8):∃a b c d e f g i,l=[a,b,c,d,e,f,g,i]:=by
 match l,h with
 |[a,b,c,d,e,f,g,i],_=>exact⟨a,b,c,d,e,f,g,i,Z⟩
theorem a8c{fuel l}(h:jh Tryz.prog W fuel 112 l):∃x,l=jW x/\True:=by obtain⟨m,q,d⟩:=vR uA h;obtain⟨a,b,c,rfl⟩:=Kx (m.trans ld);have e:=d _ (Qax ..);have f:=d _ (Qaj _ (Qax ..));have g:=d _ (Qaj _ (Qaj _ (Qax ..)));rw[show Tryz.prog.cellsOf 3=1 by kernel_rfl]at e f g;obtain⟨n,i,_⟩:=lh ez e;obtain⟨o,j,_⟩:=lh ez f;obtain⟨p,k,_⟩:=lh ez g;simp at i j k;exact⟨(n,o,p),by rw[i,j,k];rfl,trivial⟩
theorem a8d{fuel l}(h:jh Tryz.prog W fuel 178 l):∃x,l=jW x/\True:=by obtain⟨m,q,d⟩:=vR B6 h;obtain⟨a,b,c,rfl⟩:=Kx (m.trans ld);have e:=d _ (Qax ..);have f:=d _ (Qaj _ (Qax ..));have g:=d _ (Qaj _ (Qaj _ (Qax ..)));rw[show Tryz.prog.cellsOf 3=1 by kernel_rfl]at e f g;obtain⟨n,i,_⟩:=lh ez e;obtain⟨o,j,_⟩:=lh ez f;obtain⟨p,k,_⟩:=lh ez g;simp at i j k;exact⟨(n,o,p),by rw[i,j,k];rfl,trivial⟩
theorem a8e{fuel l}(h:jh Tryz.prog W fuel 181 l):∃x,l=fZ x/\True:=by obtain⟨i,m,c⟩:=vR XA h;obtain⟨a,b,rfl⟩:=GT (i.trans ld);have d:=c _ (Qax ..);have e:=c _ (Qaj _ (Qax ..));rw[show Tryz.prog.cellsOf 3=1 by kernel_rfl]at d e;obtain⟨j,f,_⟩:=lh ez d;obtain⟨k,g,_⟩:=lh ez e;simp at f g;exact⟨(j,k),by rw[f,g],trivial⟩
theorem a8f{fuel l}(h:jh Tryz.prog W fuel 185 l):∃x,l=fZ x/\True:=by obtain⟨i,m,c⟩:=vR c1O h;obtain⟨a,b,rfl⟩:=GT (i.trans ld);have d:=c _ (Qax ..);have e:=c _ (Qaj _ (Qax ..));rw[show Tryz.prog.cellsOf 3=1 by kernel_rfl]at d e;obtain⟨j,f,_⟩:=lh ez d;obtain⟨k,g,_⟩:=lh ez e;simp at f g;exact⟨(j,k),by rw[f,g],trivial⟩
theorem a8g{fuel l}(h:jh Tryz.prog W fuel 114 l):∃x,l=fZ x/\True:=by obtain⟨i,m,c⟩:=vR c1L h;obtain⟨a,b,rfl⟩:=GT (i.trans ld);have d:=c _ (Qax ..);have e:=c _ (Qaj _ (Qax ..));rw[show Tryz.prog.cellsOf 3=1 by kernel_rfl]at d e;obtain⟨j,f,_⟩:=lh ez d;obtain⟨k,g,_⟩:=lh ez e;simp at f g;exact⟨(j,k),by rw[f,g],trivial⟩
theorem a8h(h:Ty Tryz.prog W 28 v):∃c,v=.agg (dU c).toArray/\CfOk W c/\c.gl.length≤c.gc:=by obtain⟨l,rfl,a,y⟩:=Pk Jh h;obtain⟨B,f',b⟩:=vR Jh y;obtain⟨x0,x1,x2,x3,x4,x5,x6,x7,rfl⟩:=a8b (B.trans (by kernel_rfl));have d:=b _ (Qax ..);have e:=b _ (Qaj _ (Qax ..));have g:=b _ (Qaj _ (Qaj _ (Qax ..)));have i:=b _ (Qaj _ (Qaj _ (Qaj _ (Qax ..))));have j:=b _ (Qaj _ (Qaj _ (Qaj _ (Qaj _ (Qax ..)))));have k:=b _ (Qaj _ (Qaj _ (Qaj _ (Qaj _ (Qaj _ (Qax ..))))));have m:=b _ (Qaj _ (Qaj _ (Qaj _ (Qaj _ (Qaj _ (Qaj _ (Qax ..)))))));have n:=b _ (Qaj _ (Qaj _ (Qaj _ (Qaj _ (Qaj _ (Qaj _ (Qaj _ (Qax ..))))))));rw[show Tryz.prog.cellsOf 3=1 by kernel_rfl]at d;rw[show Tryz.prog.cellsOf 22=1 by kernel_rfl]at e;rw[show Tryz.prog.cellsOf 23=1 by kernel_rfl]at g;rw[show Tryz.prog.cellsOf 24=1 by kernel_rfl]at i;rw[show Tryz.prog.cellsOf 25=1 by kernel_rfl]at j;rw[show Tryz.prog.cellsOf 26=1 by kernel_rfl]at k;rw[show Tryz.prog.cellsOf 3=1 by kernel_rfl]at m;rw[show Tryz.prog.cellsOf 3=1 by kernel_rfl]at n;obtain⟨C,o,_⟩:=lh ez d;obtain⟨D,E,F,p,G,q1,H,s1⟩:=vW (α:=Int×Int×Int) (f:=jW) (Q:=λ_=>True) 3 xk (by kernel_rfl) (by decide) (λa r h=>a8c h) e;obtain⟨I,J,K,q,p2,q2,L,s2⟩:=vW (α:=Int×Int×Int) (f:=jW) (Q:=λ_=>True) 3 XB (by kernel_rfl) (by decide) (λa r h=>a8d h) g;obtain⟨M,N,O,s,P,q3,R,s3⟩:=vW (α:=Int×Int) (f:=fZ) (Q:=λ_=>True) 2 FM (by kernel_rfl) (by decide) (λa r h=>a8e h) i;obtain⟨S,T,U,t,p4,q4,V,s4⟩:=vW (α:=Int×Int) (f:=fZ) (Q:=λ_=>True) 2 O4 (by kernel_rfl) (by decide) (λa r h=>a8f h) j;obtain⟨X,Y,Z,u,p5,q5,r5,s5⟩:=vW (α:=Int×Int) (f:=fZ) (Q:=λ_=>True) 2 yR (by kernel_rfl) (by decide) (λa r h=>a8g h) k;obtain⟨y6,w,_⟩:=lh ez m;obtain⟨y7,x,_⟩:=lh ez n;simp at o p q s t u w x;exact⟨⟨C,D,E,F,I,J,K,M,N,O,S,T,U,X,Y,Z,y6,y7⟩,by rw[o,p,q,s,t,u,w,x],⟨λA=>vX H,λA=>vX L,λA=>vX R,λA=>vX V,λA=>vX r5,P⟩,G⟩
theorem a8i{l:List Value}(h:jh Tryz.prog W fuel 62 l):∃x:Nat,l=[wV x]/\x<4294967296:=by obtain⟨n,rfl,a⟩:=lh uC h;obtain⟨w,rfl,b⟩:=Z8 a;exact⟨w,Z,b⟩
theorem a8j{b l}(h:jh Tryz.prog W b 63 l):∃x,l=DI x/\(Gl W x.a 1 (λx=>[wV x]) x.l/\x.l.length≤x.c/\x.c≤maxLen/\∀w∈x.l,w<4294967296):=by obtain⟨a,c,d,e,p,q,r,s⟩:=vW (f:=λx=>[wV x]) (Q:=λx=>x<4294967296) 1 uD ld cl (λb r h=>a8i h) h;exact⟨⟨a,c,d⟩,e,r,p,q,s⟩
theorem QH{l:List Value}(h:jh Tryz.prog W fuel 9 l):∃s:ByteArray,l=[.string s]/\s.size<9223372036854775808:=by obtain⟨s,rfl,a⟩:=Z4 mr h;exact⟨s,Z,by simp only[maxLen]at a;omega⟩
theorem a8k{fuel l}(h:jh Tryz.prog W fuel 205 l):∃x,l=DJ x/\((-9223372036854775808≤x.at_/\x.at_<9223372036854775808)/\x.d.size<9223372036854775808):=by obtain⟨j,p,c⟩:=vR c1Q h;obtain⟨a,b,rfl⟩:=GT (j.trans ld);have e:=c _ (Qax ..);have f:=c _ (Qaj _ (Qax ..));rw[show Tryz.prog.cellsOf 3=1 by kernel_rfl]at e;rw[show Tryz.prog.cellsOf 9=1 by kernel_rfl]at f;obtain⟨k,g,m⟩:=lh ez e;obtain⟨n,i,o⟩:=QH f;simp at g i;exact⟨⟨k,n⟩,by rw[g,i],a69 m,o⟩
theorem a8l{fuel l}(h:jh Tryz.prog W fuel 122 l):∃x,l=Kv x/\x.d.size<9223372036854775808:=by obtain⟨s,B,f⟩:=vR c1M h;obtain⟨a,b,c,d,e,rfl⟩:=a8a (s.trans ld);have g:=f _ (Qax ..);have i:=f _ (Qaj _ (Qax ..));have j:=f _ (Qaj _ (Qaj _ (Qax ..)));have k:=f _ (Qaj _ (Qaj _ (Qaj _ (Qax ..))));have m:=f _ (Qaj _ (Qaj _ (Qaj _ (Qaj _ (Qax ..)))));rw[show Tryz.prog.cellsOf 3=1 by kernel_rfl]at g i j k;rw[show Tryz.prog.cellsOf 9=1 by kernel_rfl]at m;obtain⟨t,n,_⟩:=lh ez g;obtain⟨u,o,_⟩:=lh ez i;obtain⟨v,p,_⟩:=lh ez j;obtain⟨w,q,_⟩:=lh ez k;obtain⟨y,r,A⟩:=QH m;simp at n o p q r;exact⟨⟨t,u,v,w,y⟩,by rw[n,o,p,q,r],A⟩
theorem a8m(h:Ty Tryz.prog W 33 v):∃s,v=.agg (nM s).toArray/\ScrOk W s/\s.sl.length<9223372036854775808:=by obtain⟨l,rfl,b,t⟩:=Pk O8 h;obtain⟨u,R,g⟩:=vR O8 t;obtain⟨S,T,U,rfl⟩:=Kx (u.trans ld);have j:=g _ (Qax ..);have k:=g _ (Qaj _ (Qax ..));have m:=g _ (Qaj _ (Qaj _ (Qax ..)));rw[show Tryz.prog.cellsOf 29=1 by kernel_rfl]at j;rw[show Tryz.prog.cellsOf 30=1 by kernel_rfl]at k;rw[show Tryz.prog.cellsOf 31=1 by kernel_rfl]at m;obtain⟨y,B,C,n,V,X,D,i⟩:=vW (f:=DI) (Q:=λx=>Gl W x.a 1 (λx=>[wV x]) x.l/\x.l.length≤x.c/\x.c≤maxLen/\∀w∈x.l,w<4294967296) 1 O7 ld cl (λb r h=>a8j h) j;obtain⟨E,F,o,p,Y,G,H,I⟩:=vW (f:=DJ) (Q:=λx=>(-9223372036854775808≤x.at_/\x.at_<9223372036854775808)/\x.d.size<9223372036854775808) 2 XE ld cl (λb r h=>a8k h) k;obtain⟨J,K,L,q,Z,q2,M,N⟩:=vW (f:=Kv) (Q:=λx=>x.d.size<9223372036854775808) 5 FP ld cl (λb r h=>a8l h) m;simp at n p q;refine⟨⟨y,B,C,E,F,o,J,K,L⟩,by rw[n,p,q],⟨λA=>vX D,λx e A=>vX (i x e).1,λx e=>?_,λx e=>(i x e).2.2.2,λA=>vX H,I,λA=>vX M,N⟩,by show o.length<_;simp only[maxLen]at G;omega⟩;obtain⟨k1,O,P,k4⟩:=i x e;simp only[maxLen]at P;exact⟨O,aq⟩
theorem a8n(h:Ty Tryz.prog W 33 v):∃s,v=.agg (nM s).toArray/\ScrOk W s:=
  let⟨s,a,b,_⟩:=a8m h;⟨s,a,b⟩
end
section
structure Ins where
  op : Nat
  d : Nat
  a : Nat
  b : Nat
  im : Int
deriving DecidableEq
def zI(w:Nat):Int:=if w/262144<8192 then((w/262144:Nat):Int)else((w/262144:Nat):Int)-16384
def kl(w:Nat):Ins:=⟨w %64,w/64%16,w/1024%16,w/16384%16,zI w⟩
def DL:List Nat:=[0,7,7,7,7,7,7,7,7,7,7,7,7,7,11,11,11,11,11,11,11,11,9,11,11,11,14,14,14,14,14,14,9,11,0,0,0,9,10,0,0,0]
def sG(op:Nat):Nat:=DL.getD op 0
def w6(op:Nat):Bool:=decide (1≤op/\op≤41)
def w7(may:Bool)(n:Nat):Bool:=if may then decide (n<16)else decide (n=0)
def iY(op:Nat)(n:Int):Bool:=
  if op=18\/op=19\/op=20 then decide (0≤n/\n≤31)
  else if op=37\/op=38 then decide (0≤n/\n<9)
  else if sG op/8%2=0 then decide (n=0)
  else decide (-8192≤n/\n≤8191)
def nN(i:Ins):Bool:=w6 i.op&&w7 (sG i.op %2 != 0) i.d&&w7 (sG i.op/2%2 != 0) i.a&&w7 (sG i.op/4%2 != 0) i.b&&iY i.op i.im
theorem QI w:(kl w).op<64/\(kl w).d<16/\(kl w).a<16/\(kl w).b<16:=by grind[kl]
theorem a8o(h:w<4294967296): -8192≤zI w/\zI w≤8191:=by grind[zI]
theorem GU{i}(h:nN i=true):(1≤i.op/\i.op≤41)/\i.d<16/\i.a<16/\i.b<16/\iY i.op i.im=true:=by
 simp only[nN,Qam]at h;obtain⟨⟨⟨⟨e,f⟩,g⟩,j⟩,h5⟩:=h;have c:∀m n,w7 m n=true->n<16:=λm n q=>by
  unfold w7 at q;split at q;grind;grind
 exact⟨Qaw e,c _ _ f,c _ _ g,c _ _ j,h5⟩
def u32(n:Int):Nat:=(n %4294967296).toNat
theorem fy x:u32 x<4294967296:=by unfold u32;omega
theorem iK x:IntKind.wrap .u32 x=(u32 x):=by simp only[IntKind.wrap,IntKind.bits,IntKind.signed,u32];simp;omega
theorem Ky(h:n<4294967296):u32 n=n:=by unfold u32;omega
def tN(a:Nat):Int:=IntKind.wrap .i32 (a:Int)
def w8(p:Bool):Nat:=if p then 1 else 0
theorem QJ p:w8 p<4294967296:=by cases p<;>decide
def ri(op a b:Nat):Nat:=
  if op=1 then u32 ((a:Int)+b)
  else if op=2 then u32 ((a:Int)-b)
  else if op=3 then a&&&b
  else if op=4 then a|||b
  else if op=5 then u32 (z7 .u32 (a:Int) (b:Int))
  else if op=6 then u32 (mZ .u32 (a:Int) ((b %32:Nat):Int))
  else if op=7 then a/2^(b %32)
  else if op=8 then u32 (pY .i32 (tN a) ((b %32:Nat):Int))
  else if op=9 then w8 (decide (tN a<tN b))
  else if op=10 then w8 (decide (a<b))
  else if op=11 then u32 ((a:Int)*b)
  else if op=12 then(if b=0 then 4294967295 else a/b)
  else if b=0 then a else a %b
theorem qp{p}[Decidable p]{a b M:Nat}(c:p->a<M)(d:¬p->b<M):(if p then a else b)<M:=by grind
theorem GV{op a b}(c:a<4294967296)(d:b<4294967296):ri op a b<4294967296:=by unfold ri;refine qp (λ_=>fy _) λ_=>qp (λ_=>fy _) λ_=>qp (λ_=>Qbf Qcb c) λ_=>qp (λ_=>Qcv (n:=32) c d) λ_=>qp (λ_=>fy _) λ_=>qp (λ_=>fy _) λ_=>qp (λ_=>Qbf (Qct _ _) c) λ_=>qp (λ_=>fy _) λ_=>qp (λ_=>QJ _) λ_=>qp (λ_=>QJ _) λ_=>qp (λ_=>fy _) λ_=>?_;refine qp (λ_=>qp (λ_=>cl) λ_=>Qbf (Qct _ _) c) λ_=>qp (λ_=>c) λ_=>Qbf (Nat.mod_le _ _) c
def lJ(op:Nat):Nat:=if op=14 then 1 else if op=21 then 9 else op-12
def DN(op a b:Nat):Bool:=
  if op=28 then decide (a=b)else if op=29 then decide (a≠b)else if op=30 then decide (tN a<tN b)else decide (a<b)
def DO(im:Int):Nat:=u32 (mZ .u32 ((u32 im:Nat):Int) 18)
def fV(l:List Nat)(i:Nat):Nat:=l.getD i 0
def xI(l:List Nat)(b:Nat):Bool:=fV l 5&&&b != 0
def ii(l:List Nat):Bool:=xI l 4
def zJ(l:List Nat):Bool:=fV l 1 != 0&&xI l 1
def v6(l:List Nat)(s fb tb:Nat):Nat:=if xI l fb then s|||tb else s
def v7(l:List Nat)(s f0 t0 f1 t1:Nat):Nat:=v6 l (v6 l s f0 t0) f1 t1
def w9(l:List Nat)(pc cause tval:Nat):List Nat:=((l.set 2 pc).set 3 cause).set 4 tval
def zK(l:List Nat)(pc cause tval:Nat):List Nat:=(w9 l pc cause tval).set 5 (v7 l 4 1 2 4 8)
def xJ(l:List Nat):List Nat:=l.set 5 (v7 l (fV l 5&&&10) 2 1 8 4)
def xK(l:List Nat)(id clock n:Nat):Nat:=if n=7 then u32 clock else if n=8 then id else fV l n
def qq(n v:Nat):Nat:=if n=0 then v&&&7937 else if n=5 then v&&&15 else v
def oD(l:List Nat):Bool:=fV l 0&&&1 != 0
def oE(l:List Nat):Nat:=fV l 0/256&&&31
structure CsOk (l : List Nat) : Prop where
  len : l.length = 7
  lt : ∀ x ∈ l, x < 4294967296
theorem CsOk.at_(h:CsOk l)i:fV l i<4294967296:=by
 unfold fV;rw[Qao]
 cases a:l[i]? with
 |none=>decide
 |some v=>exact h.lt v (Qcu a)
theorem CsOk.set(h:CsOk l)i v(a:v<4294967296):CsOk (l.set i v):=⟨by rw[Qal,h.len],λx b=>by
 rcases Qbm b with q|q;exact h.lt x q
 rw[q];exact a⟩
theorem Kz{s fb tb}(a:s<4294967296)(b:tb<4294967296):v6 l s fb tb<4294967296:=by unfold v6;split;exact Qcv (n:=32) a b;exact a
theorem KA{s f0 t0 f1 t1}(a:s<4294967296)(b:t0<4294967296)(c:t1<4294967296):v7 l s f0 t0 f1 t1<4294967296:=Kz (Kz a b) c
theorem CsOk.trap(h:CsOk l)(a:pc<4294967296)(b:cause<4294967296)(c:tval<4294967296):CsOk (w9 l pc cause tval):=((h.set 2 _ a).set 3 _ b).set 4 _ c
theorem CsOk.enter{l}(h:CsOk l){pc cause tval}(a:pc<4294967296)(b:cause<4294967296)(c:tval<4294967296):CsOk (zK l pc cause tval):=(h.trap a b c).set 5 _ (KA cl cl cl)
theorem CsOk.leave{l}(h:CsOk l):CsOk (xJ l):=h.set 5 _ (KA (Qbf Qcb (h.at_ 5)) cl cl)
theorem a8p{v}(h:v<4294967296):qq n v<4294967296:=by grind[qq,Qbf,Qcb]
theorem QK{b a:Nat}(h:CsOk l)(c:b<4):xK l b a n<4294967296:=by unfold xK;split;exact fy _;split;omega;exact h.at_ n
theorem a8q:fV (w9 l pc cause tval) 5=fV l 5:=by grind[w9,fV]
theorem a8r{b:Nat}:xI (w9 l pc cause tval) b=xI l b:=by unfold xI;rw[a8q]
theorem a8s{s a b c d:Nat}:v7 (w9 l pc cause tval) s a b c d=v7 l s a b c d:=by grind[v7,v6,a8r]
structure Eff where
  k : Nat
  pc : Nat
  addr : Nat
  width : Nat
  signed : Bool
  d : Nat
  val : Nat
  cause : Nat
  tval : Nat
deriving DecidableEq
structure Cpu where
  rl : List Nat
  pc : Nat
  cs : List Nat
structure RlOk (l : List Nat) : Prop where
  len : l.length = 16
  lt : ∀ x ∈ l, x < 4294967296
def cn(rl:List Nat)(i:Nat):Nat:=rl.getD i 0
def sH(rl:List Nat)(i v:Nat):List Nat:=if i=0 then rl else rl.set i v
theorem RlOk.at_(h:RlOk l)i:cn l i<4294967296:=by
 unfold cn;rw[Qao]
 cases a:l[i]? with
 |none=>decide
 |some v=>exact h.lt v (Qcu a)
theorem RlOk.set(h:RlOk l)i v(a:v<4294967296):RlOk (sH l i v):=by
 unfold sH;split;exact h
 exact⟨by rw[Qal,h.len],λx b=>by
  rcases Qbm b with q|q;exact h.lt x q
  rw[q];exact a⟩
structure CpOk (x : Cpu) : Prop where
  r : RlOk x.rl
  pc : x.pc < 4294967296
  cs : CsOk x.cs
def wa(i:Ins):Nat:=u32 (nH .u32 (nH .u32 (nH .u32 (nH .u32 ((i.op:Nat):Int) (mZ .u32 ((i.d:Nat):Int) 6)) (mZ .u32 ((i.a:Nat):Int) 10)) (mZ .u32 ((i.b:Nat):Int) 14)) (mZ .u32 ((u32 i.im:Nat):Int) 18))
def BH:Eff:=⟨0,0,0,0,false,0,0,0,0⟩
def ec(pc:Nat):Nat:=u32 ((pc:Int)+4)
def farN(pc:Nat)(im:Int):Nat:=u32 ((pc:Int)+((u32 (4*((u32 im:Nat):Int)):Nat):Int))
def v8(a:Nat)(im:Int):Nat:=u32 ((a:Int)+((u32 im:Nat):Int))
abbrev pD(c t:Nat):Eff:=⟨3,0,0,0,false,0,0,c,t⟩
abbrev pE(x:Cpu)(pc:Nat):Eff×Cpu:=(⟨0,pc,0,0,false,0,0,0,0⟩,{ x with pc:=pc })
abbrev m9(i:Ins)(x:Cpu)(v pc:Nat):Eff×Cpu:=pE { x with rl:=sH x.rl i.d v } pc
def rj(op:Nat):Nat:=if op=23\/op=26 then 4 else 1
def BI(i:Ins)(x:Cpu):Eff:=
  if v8 (cn x.rl i.a) i.im %rj i.op≠0 then pD 2 (v8 (cn x.rl i.a) i.im)
  else if i.op=26\/i.op=27 then⟨2,ec x.pc,v8 (cn x.rl i.a) i.im,rj i.op,false,0,cn x.rl i.b,0,0⟩
  else⟨1,ec x.pc,v8 (cn x.rl i.a) i.im,rj i.op,decide (i.op=24),i.d,0,0,0⟩
def oG(op:Nat):Bool:=decide (op=35\/op=36\/op=37\/op=38\/op=39\/op=40)
def zL(op:Nat):Nat:=if op=35 then 4 else if op=40 then 5 else 6
def v9(id clock:Nat)(i:Ins)(x:Cpu):Eff×Cpu:=
  if i.op=34 then(pD 6 0,x)
  else if i.op=41 then(pD 8 x.pc,x)
  else if i.op=36 then pE { x with cs:=xJ x.cs } (fV x.cs 2)
  else if i.op=37 then m9 i x (xK x.cs id clock i.im.toNat) (ec x.pc)
  else if i.op=38 then(if i.im.toNat≤6 then pE { x with cs:=x.cs.set i.im.toNat (qq i.im.toNat (cn x.rl i.a)) } (ec x.pc)else(pD 1 (wa i),x))
  else(⟨zL i.op,ec x.pc,0,0,false,0,0,0,0⟩,x)
def tO(id clock:Nat)(i:Ins)(x:Cpu):Eff×Cpu:=
  if i.op≤13 then m9 i x (ri i.op (cn x.rl i.a) (cn x.rl i.b)) (ec x.pc)
  else if i.op≤21 then m9 i x (ri (lJ i.op) (cn x.rl i.a) (u32 i.im)) (ec x.pc)
  else if i.op=22 then m9 i x (DO i.im) (ec x.pc)
  else if i.op≤27 then(BI i x,x)
  else if i.op≤31 then pE x (if DN i.op (cn x.rl i.a) (cn x.rl i.b)then farN x.pc i.im else ec x.pc)
  else if i.op≤33 then m9 i x (ec x.pc) (if i.op=33 then v8 (cn x.rl i.a) i.im else farN x.pc i.im)
  else v9 id clock i x
def sI(id clock:Nat)(i:Ins)(x:Cpu):Eff×Cpu:=if oG i.op&& !ii x.cs then(pD 7 (wa i),x)else tO id clock i x
structure EfOk (e : Eff) : Prop where
  pc : e.pc < 4294967296
  addr : e.addr < 4294967296
  val : e.val < 4294967296
  cause : e.cause < 100
  tval : e.tval < 4294967296
  d : e.d < 16
  w : e.width ≤ 4
theorem DT{k a d v t:Nat}{s:Bool}(b:pc<4294967296)(e:a<4294967296)(f:v<4294967296)(g:c<100)(h:t<4294967296)(i:d<16)(j:w≤4):EfOk ⟨k,pc,a,w,s,d,v,c,t⟩:=⟨b,e,f,g,h,i,j⟩
theorem DU{c t}(a:c<100)(b:t<4294967296):EfOk (pD c t):=DT cl cl cl a b cl cl
theorem GW{x pc}(h:CpOk x)(a:pc<4294967296):EfOk (pE x pc).1/\CpOk (pE x pc).2:=⟨DT a cl cl cl cl cl cl,⟨h.r,a,h.cs⟩⟩
theorem DV{i:Ins}{x:Cpu}{v:Nat}(h:CpOk x)(a:v<4294967296)(b:pc<4294967296):EfOk (m9 i x v pc).1/\CpOk (m9 i x v pc).2:=GW ⟨h.r.set i.d v a,h.pc,h.cs⟩ b
theorem KB op:rj op≤4:=by unfold rj;split<;>decide
theorem a8t{i x}(h:CpOk x)(a:i.d<16):EfOk (BI i x):=by
 unfold BI
 split; · exact DU cl (fy _)
 split; · exact DT (fy _) (fy _) (h.r.at_ _) cl cl cl (KB _)
 exact DT (fy _) (fy _) cl cl cl a (KB _)
theorem QM{id clock i x}(h:CpOk x)(b:i.d<16)(a:id<4):EfOk (sI id clock i x).1/\CpOk (sI id clock i x).2:=by
 unfold sI
 split; · exact⟨DU cl (fy _),h⟩
 unfold tO
 split; · exact DV h (GV (h.r.at_ _) (h.r.at_ _)) (fy _)
 split; · exact DV h (GV (h.r.at_ _) (fy _)) (fy _)
 split; · exact DV h (fy _) (fy _)
 split; · exact⟨a8t h b,h⟩
 split
 refine GW h ?_
 split<;>exact fy _
 split
 refine DV h (fy _) ?_
 split<;>exact fy _
 unfold v9
 split; · exact⟨DU cl cl,h⟩
 split; · exact⟨DU cl h.pc,h⟩
 split; · exact GW ⟨h.r,h.pc,h.cs.leave⟩ (h.cs.at_ 2)
 split; · exact DV h (QK h.cs a) (fy _)
 split
 split
 exact GW ⟨h.r,h.pc,h.cs.set _ _ (a8p (h.r.at_ _))⟩ (fy _)
 exact⟨DU cl (fy _),h⟩
 exact⟨DT (fy _) cl cl cl cl cl cl,h⟩
end
section
open Go.RowKit
abbrev az:=List Nat
variable {fr:List az}
def qt(x:az):List Value:=(List.range 64).map (λi=>bV (x.getD i 0))
theorem KC x:(qt x).length=64:=by simp[qt]
theorem QN{x}(h:x.length=64):qt x=bW x:=by apply QaV;simp[qt,bW,h];grind[bW,qt]
def bD(fr:List az):Prop:=∀x∈fr,x.length=64/\By x
theorem bD.get{fr}(h:bD fr){f}(a:f<fr.length):(fr.getD f []).length=64/\By (fr.getD f []):=by have:fr.getD f []=fr[f]:=mv;rw[this];exact h _ (QaC a)
theorem bD.set(h:bD fr){y:az}(a:y.length=64/\By y):bD (fr.set f y):=λx b=>by
 rcases Qbm b with c|rfl;exact h x c;exact a
theorem KD(h:bD fr)(a:f<fr.length):((fr.flatMap qt).drop (f*64)).take 64=bW (fr.getD f []):=by have:=uM KC fr f [] a;rw[Qaq]at this;rw[this,QN (h _ (QaC a)).1];simp[List.getD,a]
theorem QO{y:az}(a:f<fr.length)(b:y.length=64):ee (fr.flatMap qt) (f*64) (bW y)=(fr.set f y).flatMap qt:=by have:=zj KC fr f y [] a;rw[Qaq,Qaq,QN b]at this;exact this
theorem QP(a:List az):(a.flatMap qt).length=a.length*64:=dy KC a
def gy:az:=List.replicate 64 0
theorem QQ:gy.length=64/\By gy:=⟨by simp[gy],λb a=>by have:=Qcx a;omega⟩
theorem bD.new n:bD (List.replicate n gy):=λx a=>by rw[Qcx a];exact QQ
theorem QR:∀n,(List.replicate n gy).flatMap qt=List.replicate (n*64) (bV 0)
 |0=>Z
 |n+1=>by
  rw[List.replicate_succ,QaT,QR n,Qck,Nat.add_comm, <-List.replicate_append_replicate];congr 1
def aH(ps:Nat)(fr:List az):HP:=chk (λC=>∃g,C=[pt ps (ae [.slice (some ⟨g,0,none⟩) fr.length fr.length,.bool true] 197),pt g (ae (fr.flatMap qt) 416)])
section
variable{P:Program}{W0:World}{N:FSz}{K:Act->World->Prop}{e:bK}{A B R R1 R2:List HP}{ps g n:Nat}{fr:List az}{f:FuncId}{args:List Value}{Post:Value->List HP->Prop}{l:List Value}
theorem a8u(h:∀g,bE P W0 f args (pt ps (ae [.slice (some ⟨g,0,none⟩) fr.length fr.length,.bool true] 197)::pt g (ae (fr.flatMap qt) 416)::R) Post):bE P W0 f args (aH ps fr::R) Post:=
  uP λC a=>by obtain⟨g,rfl⟩:=a;exact h g
theorem vc[a:Tk pt ps A (ae [.slice (some ⟨g,0,none⟩) n n,.bool true] 197) R1][b:Tk pt g R1 (ae l 416) R2](c:l=fr.flatMap qt)(d:n=fr.length)[k:Ent R2 B]:Ent A (aH ps fr::B):=by subst c;subst d;exact(Ent.ofPerm (a.perm.trans (b.perm.cons _))).trans ((Ent.cons (Ent.cons k)).trans (fT (R:=B) (C:=[_,_]) ⟨g,Z⟩))
theorem BJ[c:Tk aH ps A fr R](h:∀g,aC W0 N K e (pt ps (ae [.slice (some ⟨g,0,none⟩) fr.length fr.length,.bool true] 197)::pt g (ae (fr.flatMap qt) 416)::R)):aC W0 N K e A:=
  ix (r:=aH) (b:=ps) (oz λC a=>by obtain⟨g,rfl⟩:=a;exact h g)
end
theorem a8v{at_ w:Int}(hl:l.length=n)(hc:bF (aQ W0 R) g off (bW l))(hb:By l)(hn:n≤c)(h63:c<9223372036854775808):sQ W0 289 [.slice (some ⟨g,off,none⟩) n c,iQ at_,iQ w] R (.tuple #[.int .u32 (qo l at_ w:Nat),iQ (sD l at_ w)]) R:=by grind[GP]
theorem a8w{k:Nat}(d:l.length=n)(e:w<4294967296)(f:bF (aQ W0 R) g off (bW l))(h:i7 n i k=true)(j:n≤1000000):sP W0 266 [.slice (some ⟨g,off,none⟩) n c,iQ i,iQ k,.int .u32 w] R (λv B=>∃a b,v=Qw a n b/\B=osl 5 1 (.slice a n b) (bW (qX l i k w))::R):=by grind[a7U]
theorem a8x{a k:Int}(b:l.length=n)(d:bF (aQ W0 R) g off (bW l))(e:i7 n a k=false)(f:n≤1000000):sQ W0 266 [.slice (some ⟨g,off,none⟩) n c,iQ a,iQ k,.int .u32 w] R Qx R:=by grind[a7V]
theorem a8y(n:Nat)(h:n≤32):sP W0 51 [iQ n] R (λv B=>∃b,v=.tuple #[pQ b,iQ 0]/\B=aH b (List.replicate n gy)::R):=by refine am func51 ntmps51 ?_;apply d7 Z Z Z<;>intro a;omega;refine aw (aB Z (λc=>?_) λc=>?_);omega;refine aw (dh (Bt (sz:=64) (by_:=64) (info:=Tryz.t416) c1P ld Z Z Z Z cl Z Z Z Z aq cl) λe=>?_);refine bR λd=>?_;exact aZ ⟨_,⟨d,Z,Z⟩,vc (QR n).symm n4⟩
theorem QT(b:Nat)(c:List az):sQ W0 159 [pQ b] (aH b c::R) (.bool false) (aH b c::R):=by refine a8u λg=>?_;refine am func159 ntmps159 ?_;apply d7 Z Z Z<;>intro a;cases a;exact aw (ag ⟨_,⟨abh,Z⟩,vc Z Z⟩)
theorem xL(a:Nat)(b:List az):sQ W0 97 [pQ a] (aH a b::R) (iQ (b.length:Nat)) (aH a b::R):=by refine am func97 ntmps97 ?_;refine ao (ar call159 (QT a b)) ?_;refine BJ (ps:=a) λg=>?_;exact aw (ag ⟨_,⟨Z,Z⟩,vc Z Z⟩)
def jm(n:Nat)(f:Int):Bool:=decide (0≤f/\f<n)
theorem BK(ps:Nat)(fr:List az)(f:Int):sQ W0 265 [pQ ps,iQ f] (aH ps fr::R) (iQ (if jm fr.length f then 0 else 1)) (aH ps fr::R):=by
 refine am func265 ntmps265 ?_;refine ao (ar call159 (QT ps fr)) ?_;apply ap<;>intro c3;refine ag ?_;have hf:jm fr.length f=false:=by grind[jm]
 first
   |exact⟨_,⟨by simp[bY,hf],rfl⟩,vc rfl rfl⟩
   |exact⟨_,⟨by simp[bY,hf],rfl⟩,IO⟩
 refine BJ (ps:=ps) λg=>?_;refine aw (ap (λc4=>?_) λc4=>?_);refine ag ?_;have hf:jm fr.length f=false:=by grind[jm]
 first
   |exact⟨_,⟨by simp[bY,hf],rfl⟩,vc rfl rfl⟩
   |exact⟨_,⟨by simp[bY,hf],rfl⟩,IO⟩
 refine ag ?_;have hf:jm fr.length f=true:=by grind[jm]
 exact⟨_,⟨by simp[bY,hf],Z⟩,vc Z Z⟩
def gW(fr:List az)(f off w:Int):Nat:=if jm fr.length f then qo (fr.getD f.toNat []) off w else 0
def BL(fr:List az)(f off w:Int):Int:=if jm fr.length f then sD (fr.getD f.toNat []) off w else 1
theorem wc{n f}(h:jm n f=true):∃i:Nat,f=i/\i<n:=by simp only[jm,Qas]at h;exact⟨f.toNat,aq,aq⟩
theorem GX W0 R ps fr f off w(hF:bD fr):sQ W0 211 [pQ ps,iQ f,iQ off,iQ w] (aH ps fr::R) (.tuple #[.int .u32 (gW fr f off w),iQ (BL fr f off w)]) (aH ps fr::R):=by by_cases c:jm fr.length f=true;obtain⟨i,rfl,d⟩:=wc c;obtain⟨e,h⟩:=hF.get d;refine am func211 ntmps211 ?_;refine ao (ar FY (BK ps fr i)) ?_;apply ap<;>intro a;exact absurd a (by simp[c]);refine BJ (ps:=ps) λg=>?_;refine aw (ac (cu d) ?_);refine ac (Bs Jq ku Z) ?_;refine ao (aK Ou (a8v e (cT (KD hF d) (by rw[iJ,e])) h cl cl)) ?_;refine aZ ?_;exact⟨_,⟨by simp[bY,gW,BL,c],Z⟩,vc Z Z⟩;have b:jm fr.length f=false:=mv;refine am func211 ntmps211 ?_;refine ao (ar FY (BK ps fr f)) ?_;apply ap<;>intro a;refine aZ ?_;exact⟨_,⟨by simp[bY,gW,BL,b],Z⟩,IO⟩;exact absurd a (by simp[b])
def rk(fr:List az)(f off w:Int):Bool:=jm fr.length f&&i7 64 off w
def jn(fr:List az)(f off w:Int)(v:Nat):List az:=if rk fr f off w then fr.set f.toNat (qX (fr.getD f.toNat []) off.toNat w.toNat v)else fr
theorem vd{fr f off w v}(h:bD fr):bD (jn fr f off w v):=by
 unfold jn;split
 rename_i a
 simp only[rk,Qam]at a;obtain⟨i,rfl,b⟩:=wc a.1;obtain⟨o,k,rfl,rfl,g,c⟩:=zt a.2;obtain⟨d,e⟩:=h.get b;exact h.set ⟨by rw[GC mv];exact d,a68 e⟩;exact h
theorem tP{f off w v}:(jn fr f off w v).length=fr.length:=by unfold jn;split<;>simp
theorem DW W0 R ps fr f off w(x:Nat)(u:x<4294967296)(r:bD fr):sQ W0 172 [pQ ps,iQ f,iQ off,iQ w,.int .u32 x] (aH ps fr::R) (iQ (if rk fr f off w then 0 else 1)) (aH ps (jn fr f off w x)::R):=by
 by_cases s:jm fr.length f=true;obtain⟨i,rfl,d⟩:=wc s;obtain⟨q,C⟩:=r.get d;by_cases l:i7 64 off w=true;obtain⟨o,k,rfl,rfl,D,v⟩:=zt l;have a:rk fr i o k=true:=by grind[rk]
 have t:(qX (fr.getD i []) o k x).length=64:=by grind[GC]
 refine am XX ntmps172 ?_;refine ao (ar FY (BK ps fr i)) ?_;apply ap<;>intro b;exact absurd b (by simp[s]);refine BJ (ps:=ps) λg=>?_;refine aw (ac (cu d) ?_);refine ac (Bs Jq ku Z) ?_;refine aF Z (aK call266 (a8w q u (cT (KD r d) (by rw[iJ,q])) l cl)) ?_;rintro _ y ⟨E,F,rfl,e⟩;subst e;refine aa Z (aV Z) (aa Z (jT Z Z) (aa Z (jT Z Z) (aa Z (aU Z) (aa Z (aU Z) (aI (aA (aG (aG (aM (aa Z (aV Z) (aa Z (nI Z Z) (aI (aA ?_)))))))))))));apply aB Z<;>intro p;exact absurd p n4;refine au 3 (qf (λh _=>by have:=(Value.slice.inj h).2.1;omega) λG H A I B J K L M=>?_);cases B;refine aw (ac (cu d) ?_);refine ac (Bs Jq ku Z) ?_;refine ao (xx jf ku Z Z (m:=64) (vs:=bW (qX (fr.getD i []) o k x)) Z (cT (n:=64) mv aq) aq (zq _) (by rw[QP];omega) (QO d t)) ?_;refine ag ?_;exact⟨_,⟨by simp[bY,a],Z⟩,vc (by simp[jn,a]) (by simp[jn,a])⟩;have c:i7 64 off w=false:=mv;have a:rk fr i off w=false:=by simp[rk,c]
 refine am XX ntmps172 ?_;refine ao (ar FY (BK ps fr i)) ?_;apply ap<;>intro b;exact absurd b (by simp[s]);refine BJ (ps:=ps) λg=>?_;refine aw (ac (cu d) ?_);refine ac (Bs Jq ku Z) ?_;refine aF Z (gx call266 Z (a8x q (cT (KD r d) (by rw[iJ,q])) c cl)) ?_;rintro _ y ⟨rfl,e⟩;subst e;refine aa Z (aV Z) (aa Z (jT Z Z) (aa Z (jT Z Z) (aa Z (aU Z) (aa Z (aU Z) (aI (aA (aG (aG (aM (aa Z (aV Z) (aa Z (nI Z Z) (aI (aA ?_)))))))))))));apply aB Z<;>intro p;exact au 8 (ag ⟨_,⟨by simp[bY,a],Z⟩,vc (by simp[jn,a]) (by simp[jn,a])⟩);exact absurd p n4;have j:jm fr.length f=false:=mv;have a:rk fr f off w=false:=by simp[rk,j]
 refine am XX ntmps172 ?_;refine ao (ar FY (BK ps fr f)) ?_;apply ap<;>intro b;refine ag ?_;rw[show jn fr f off w x=fr by simp[jn,a]];exact⟨_,⟨by simp[bY,j,a],Z⟩,IO⟩;exact absurd b (by simp[j])
abbrev Pl:=Int×Int
variable {pg:List Pl}
@[reducible] def rp(p:Pl):List Value:=[.int .i64 p.1,.int .i64 p.2]
theorem DY p:(rp p).length=2:=Z
def lj(pg:List Pl)(n:Nat):Pl:=pg.getD n (0,0)
def nO(p:Pl):Bool:=decide (0≤p.1/\p.1<32/\1≤p.2/\p.2≤3)
structure Pgs (pg : List Pl) : Prop where
  len : pg.length = 12
  ok : ∀ n, n < 12 → lj pg n ≠ (0, 0) → nO (lj pg n) = true
def oH(n:Int):Bool:=decide (0≤n/\n<12)
theorem nP{n}(h:oH n=true):∃i:Nat,n=i/\i<12:=by simp only[oH,Qas]at h;exact⟨n.toNat,aq,aq⟩
abbrev bM(pg:List Pl):Obj:=ae (pg.flatMap rp++[.bool true]) 299
theorem QU(a:n<pg.length):((pg.flatMap rp++sp).drop (n*2)).take 2=rp (lj pg n):=by simp_all[uM,DY,lj]
theorem QV{p}(a:n<pg.length):ee (pg.flatMap rp++sp) (n*2) (rp p)=(pg.set n p).flatMap rp++sp:=zj DY pg n p sp a
theorem QW(a:List Pl)sp:(a.flatMap rp++sp).length=a.length*2+sp.length:=by rw[Qaf,dy DY]
theorem a8z(h:pg.length=12):(pg.flatMap rp++[.bool true])[24]?=some (Value.bool true):=by rw[Qbj (by rw[dy DY];omega),dy DY,h];rfl
theorem a8A:sP W0 103 [] R (λv B=>∃b,v=pQ b/\B=pt b (bM (List.replicate 12 (0,0)))::R):=by refine am func103 ntmps103 ?_;refine bR λa=>?_;exact ag ⟨_,⟨a,Z,Z⟩,ent_refl⟩
theorem DZ(b:Nat)(c:List Pl)(h:Pgs c):sQ W0 267 [pQ b] (pt b (bM c)::R) (.bool false) (pt b (bM c)::R):=by refine am func267 ntmps267 ?_;apply d7 Z Z Z<;>intro a;cases a;refine aw (ac (aY (aO (a8z h.len))) ?_);exact ag ax
theorem E0(n:Int):sQ W0 268 [iQ n] R (.bool (oH n)) R:=by refine am func268 ntmps268 ?_;apply e9<;>intro a;refine ag (aP (Qak Value.bool ?_));rw[Qah];simp only[oH,Qas,QaA,QbB];omega;refine ag (aP (Qak Value.bool ?_));rw[Qah];simp only[oH,Qas,QaA,QbB];omega
theorem a8B(p:Pl):sQ W0 269 [.agg (rp p).toArray] R (.bool (nO p)) R:=by refine am func269 ntmps269 ?_;refine bR λd=>?_;apply e9<;>intro b;apply e9<;>intro c;apply e9<;>intro a;refine ag (aP (Qak Value.bool ?_));rw[Qah];simp only[nO,Qas,QaA,QbB];omega;refine ag (aP (Qak Value.bool ?_));rw[Qah];simp only[nO,Qas,QaA,QbB];omega;refine ag (aP (Qak Value.bool ?_));rw[Qah];simp only[nO,Qas,QaA,QbB];omega;refine ag (aP (Qak Value.bool ?_));rw[Qah];simp only[nO,Qas,QaA,QbB];omega
def bG(pg:List Pl)(n:Int):Bool:=oH n&&decide (lj pg n.toNat≠(0,0))
theorem KE(b:Nat)(c:List Pl)(h:Pgs c)(n:Int):sQ W0 270 [pQ b,iQ n] (pt b (bM c)::R) (.bool (bG c n)) (pt b (bM c)::R):=by
 refine am func270 ntmps270 ?_;refine ao (aK Jr (E0 n)) ?_;apply e9<;>intro a;obtain⟨i,rfl,d⟩:=nP a;have e:=h.len;refine ac (iy aq) ?_;refine ac (cV (cT (QU aq) Z)) ?_;refine ac (Z0 Tryz.eqGuardType296 Z Z (za c1T Tryz.stoodInHeld296 (oy Z cM Z Z (ov ez) (oy Z cM Z Z (ov ez) z9)))) ?_;refine ag (aP (Qak Value.bool ?_))
 first
   |(rw[Qah];simp[bG,a,Prod.ext_iff])
   |simp[bG,a]
 refine ag (aP (Qak Value.bool ?_))
 first
   |(rw[Qah];simp[bG,a,Prod.ext_iff])
   |simp[bG,a]
def cB(pg:List Pl)(n:Int):Pl:=if bG pg n then lj pg n.toNat else(0,0)
theorem zM(b:Nat)(a:List Pl)(h:Pgs a)(n:Int):sQ W0 327 [pQ b,iQ n] (pt b (bM a)::R) (.tuple #[.agg (rp (cB a n)).toArray,.bool (bG a n)]) (pt b (bM a)::R):=by
 refine am func327 ntmps327 ?_;refine bU λg=>?_;refine cW 1 (ar Js (DZ b a h)) ?_;apply d7 Z Z Z<;>intro c;exact absurd c cl;refine aw (ao (ar XY (KE b a h n)) ?_);apply ap<;>intro e;refine aJ aR (bJ (.cons (bX Xd NX Z Z) (.cons (bA Z) .nil)) ?_);refine aP ?_;have d:bG a n=false:=mv;simp[bY,cB,d];have d:bG a n=true:=mv;have f:oH n=true:=by grind[bG]
 obtain⟨i,rfl,j⟩:=nP f;have k:=h.len;refine ac (iy aq) ?_;refine ac (cV (cT (QU aq) Z)) ?_;refine aJ aR (bJ (.cons (bX Xd NX Z Z) (.cons (bA Z) .nil)) ?_);refine aP ?_;simp[bY,cB,d]
def kx(pg:List Pl)(n:Int)(p:Pl):Int:=if oH n/\nO p then(if bG pg n then 5 else 0)else 1
def gX(pg:List Pl)(n:Int)(p:Pl):List Pl:=if kx pg n p=0 then pg.set n.toNat p else pg
theorem E1{n p}(h:Pgs pg):Pgs (gX pg n p):=by
 unfold gX;split
 rename_i d
 have b:nO p=true:=by
  grind[kx]
 refine⟨by simp[h.len],λm c a=>?_⟩;unfold lj at a ⊢;by_cases e:n.toNat=m;grind;simp only[Qao,Qbb e]at a ⊢;have:=h.ok m c;unfold lj at this;simp only[Qao]at this;exact this a;exact h
theorem KF(b:Nat)(a:List Pl)(h:Pgs a)(n:Int)(p:Pl):sQ W0 173 [pQ b,iQ n,.agg (rp p).toArray] (pt b (bM a)::R) (iQ (kx a n p)) (pt b (bM (gX a n p))::R):=by
 have m:=h.len;refine am func173 ntmps173 ?_;refine bR λe=>?_;refine ao (ar Js (DZ b a h)) ?_;refine ao (aK Jr (E0 n)) ?_;apply ap<;>intro f;refine ag ?_;have c:kx a n p=1:=by
  grind[kx]
 exact⟨_,⟨by simp[bY,c],by rw[gX,c,Qab cl]⟩,IO⟩;have g:oH n=true:=mv;refine ao (aK call269 (a8B p)) ?_;apply ap<;>intro j;refine ag ?_;have c:kx a n p=1:=by
  grind[kx]
 exact⟨_,⟨by simp[bY,c],by rw[gX,c,Qab cl]⟩,IO⟩;have o:nO p=true:=mv;refine ao (ar XY (KE b a h n)) ?_;apply ap<;>intro k;refine ag ?_;have c:kx a n p=5:=by
  grind[kx]
 exact⟨_,⟨by simp[bY,c],by rw[gX,c,Qab cl]⟩,IO⟩;have q:bG a n=false:=mv;have c:kx a n p=0:=by grind[kx]
 obtain⟨i,rfl,l⟩:=nP g;refine bH [e] 7 λd=>?_;refine aj 0 5 d ?_;refine aE 5 d (iy l) ?_;refine cp 6 (kh (by grind[QW]) (QV aq)) λd=>?_;refine aS (ag ?_);rw[show gX a i p=a.set i p by simp[gX,c]];exact⟨_,⟨by simp[bY,c],Z⟩,IO⟩
theorem a8C(b:Nat)(a:List Pl)(h:Pgs a):sQ W0 176 [pQ b,iQ 12] (pt b (bM a)::R) (iQ 1) (pt b (bM a)::R):=by refine am XZ ntmps176 ?_;refine ao (ar Js (DZ b a h)) ?_;refine ao (aK Jr (E0 12)) ?_;apply ap<;>intro c;exact ag ax;exact absurd c cl
def xM(n:Int)(p:Pl)(kind:Int):Bool:=decide (kind=0/\n<8\/kind=1/\p.2 %2=1\/kind=2/\2≤p.2)
theorem a8D{p}:nO p=true↔0≤p.1/\p.1<32/\1≤p.2/\p.2≤3:=by simp[nO]
theorem a8E{r}(h:1≤r/\r≤3):iF .i64 r 1=r %2:=by have:r=1\/r=2\/r=3:=aq;rcases this with rfl|rfl|rfl<;>decide
theorem a8F{r}(h:1≤r/\r≤3):iF .i64 r 2=r/2*2:=by have:r=1\/r=2\/r=3:=aq;rcases this with rfl|rfl|rfl<;>decide
theorem a8G(n:Int)(p:Pl)(c:nO p=true)(a:Int):sQ W0 439 [iQ n,.agg (rp p).toArray,iQ a] R (.bool (xM n p a)) R:=by have b:=a8D.1 c;refine am func439 ntmps439 ?_;refine bR λg=>?_;apply ap<;>intro d;refine ag (aP (Qak Value.bool ?_));exact acn;apply ap<;>intro e;refine ac (iT Z Z (a8E ⟨b.2.2.1,b.2.2.2⟩)) ?_;refine ag (aP (Qak Value.bool ?_));exact acn;apply ap<;>intro f;refine ac (iT Z Z (a8F ⟨b.2.2.1,b.2.2.2⟩)) ?_;refine ag (aP (Qak Value.bool ?_));exact acn;refine ag (aP (Qak Value.bool ?_));exact acn
def kS(pg:List Pl)(n kind:Int):Int:=if bG pg n then(if xM n (lj pg n.toNat) kind then 0 else 6)else 7
theorem a8H{pg n}(h:Pgs pg)(a:bG pg n=true):nO (cB pg n)=true:=by simp only[cB,a,QbT];simp only[bG,Qam,Qas]at a;obtain⟨i,rfl,b⟩:=nP a.1;exact h.ok _ aq a.2
theorem QX(b:Nat)(c:List Pl)(h:Pgs c)(n a:Int):sQ W0 392 [pQ b,iQ n,iQ a] (pt b (bM c)::R) (iQ (kS c n a)) (pt b (bM c)::R):=by
 refine am func392 ntmps392 ?_;refine ao (ar D6 (zM b c h n)) ?_;refine bU λi=>?_;refine aJ aR (ap (λf=>?_) λf=>?_);refine ag (aP ?_);have d:bG c n=false:=mv;simp[bY,kS,d];have d:bG c n=true:=mv;refine ao (aK call439 (a8G n (cB c n) (a8H h d) a)) ?_;apply ap<;>intro g;refine ag (aP ?_);have e:xM n (lj c n.toNat) a=false:=by grind[cB]
 simp[bY,kS,d,e];refine ag (aP ?_);have e:xM n (lj c n.toNat) a=true:=by grind[cB]
 simp[bY,kS,d,e]
end
variable {pg:List Pl}{fr:List az}
section
class Hk (α : Type) extends Inhabited α where
  ky : α → Int
namespace Hp
variable{α:Type}[Hk α]
def us(l:List α)(i:Nat):Int:=Hk.ky (l.getD i default)
theorem us_eq{l:List α}(h:i<l.length):us l i=Hk.ky l[i]:=by simp[us,List.getD,h]
def swapL(l:List α)(i j:Nat):List α:=(l.set i (l.getD j default)).set j (l.getD i default)
theorem E2(l:List α)i j:(swapL l i j).length=l.length:=by simp[swapL]
theorem wd{l:List α}(a:i<l.length)(b:j<l.length)(x:Nat):(swapL l i j).getD x default=if x=i then l.getD j default else if x=j then l.getD i default else l.getD x default:=by grind[swapL]
theorem mD{l:List α}(a:i<l.length)(b:j<l.length)(x:Nat):us (swapL l i j) x=if x=i then us l j else if x=j then us l i else us l x:=by grind[us,wd]
theorem KG{β:Type}:∀(l:List β) (i j:Nat) (a:i<l.length) (b:j<l.length),((l.set i l[j]).set j l[i]).Perm l:=by grind[List.set_set_perm]
theorem nQ{l:List α}(a:i<l.length)(b:j<l.length):(swapL l i j).Perm l:=by grind[KG,swapL]
def Heap(l:List α)(n:Nat):Prop:=∀c,c<n->0<c->us l ((c-1)/2)≤us l c
def lm(l:List α)(i n:Nat):Prop:=∀c,c<n->0<c->(c≠i->(c-1)/2≠i->us l ((c-1)/2)≤us l c)/\((c-1)/2=i->0<i->us l ((i-1)/2)≤us l c)
def Up(l:List α)(j n:Nat):Prop:=∀c,c<n->0<c->(c≠j->us l ((c-1)/2)≤us l c)/\((c-1)/2=j->0<j->us l ((j-1)/2)≤us l c)
theorem KH{l:List α}{i j n}(h:lm l i n)(t:n≤l.length)(p:j<n)(g:(j-1)/2=i)(q:0<j)(r:us l j<us l i)
    (k:∀c,c<n->0<c->(c-1)/2=i->us l j≤us l c):lm (swapL l i j) j n/\us (swapL l i j) ((j-1)/2)≤us (swapL l i j) j:=by have s:i<j:=aq;have d:=mD (l:=l) (i:=i) (j:=j) aq aq;refine⟨λc a b=>⟨λe m=>?_,λe m=>?_⟩,?_⟩;rw[d,d];by_cases f:c=i;subst f;have:=(h j p q).2 g aq;rw[Qab aq,Qab aq,Qad Z];exact this;by_cases o:(c-1)/2=i;grind;rw[Qab o,Qab m,Qab f,Qab e];exact(h c a b).1 f o;rw[g,d,d,Qad Z,Qab aq,Qab aq];rw[<-e];exact(h c a b).1 aq aq;grind
theorem E4{l:List α}(h:lm l i n)(a:∀c,c<n->0<c->(c-1)/2=i->us l i≤us l c)(g:0<i->us l ((i-1)/2)≤us l i):Heap l n:=λc b d=>by
 by_cases e:(c-1)/2=i;grind;by_cases f:c=i;grind;exact(h c b d).1 f e
theorem GY{l:List α}(h:lm l i n)(a:∀c,c<n->0<c->(c-1)/2=i->us l i≤us l c):Up l i n:=λc b d=>⟨λe=>by
 by_cases f:(c-1)/2=i;grind
 exact(h c b d).1 e f,(h c b d).2⟩
theorem KI{l:List α}{j n}(h:Up l j n)(q:n≤l.length)(r:j<n)(m:0<j)(o:us l j<us l ((j-1)/2)):Up (swapL l ((j-1)/2) j) ((j-1)/2) n:=by have d:=mD (l:=l) (i:=(j-1)/2) (j:=j) aq aq;intro c e a;refine⟨λf=>?_,λf p=>?_⟩;rw[d,d];by_cases b:c=j;omega;by_cases g:(c-1)/2=(j-1)/2;rw[Qad g,Qab aq,Qab b];have:=(h c e a).1 b;rw[g]at this;omega;by_cases k:(c-1)/2=j;rw[Qab g,Qad k,Qab f,Qab b];exact(h c e a).2 k m;rw[Qab g,Qab k,Qab f,Qab b];exact(h c e a).1 b;rw[d,d,Qab aq,Qab aq];have s:=(h ((j-1)/2) aq p).1 aq;by_cases b:c=j;omega;rw[Qab aq,Qab b];have:=(h c e a).1 b;rw[f]at this;omega
theorem E5{l:List α}(h:Up l j n)(d:0<j->us l ((j-1)/2)≤us l j):Heap l n:=λc a b=>by
 by_cases e:c=j;grind;exact(h c a b).1 e
theorem heap_min{l:List α}{n}(h:Heap l n):∀c,c<n->us l 0≤us l c:=by
 intro c
 induction c using Nat.strongRecOn with
 |_ c a=>
  intro b;by_cases d:c=0;grind;have:=h c b aq;have:=a ((c-1)/2) aq aq;omega
theorem KJ{l i}{x:α}{n}(h:Heap l n)(j:i<l.length):lm (l.set i x) i n:=λc d f=>by
 have e:∀y,y≠i->us (l.set i x) y=us l y:=λy k=>by
  unfold us;simp only[Qao];rw[Qbb aq]
 refine⟨λa b=>?_,λa b=>?_⟩;rw[e _ a,e _ b];exact h c d f;rw[e _ aq,e _ aq];have g:=h c d f;have m:=h i aq b;rw[a]at g;omega
theorem E6{l a:List α}(h:∀i,i<n->l.getD i default=a.getD i default)(b:i<n):us l i=us a i:=by unfold us;rw[h i b]
theorem KL{l a:List α}{n}(h:∀i,i<n->l.getD i default=a.getD i default)(k:Heap l n):Heap a n:=λc b d=>by
 rw[<-E6 h b, <-E6 h (i:=(c-1)/2) aq];exact k c b d
theorem KM{l:List α}{n m}(h:Heap l n)(k:m≤n):Heap l m:=λc b a=>h c aq a
structure Down (its l : List α) (i0 n : Nat) (moved : Bool) : Prop where
  perm : l.Perm its
  tail : ∀ x, n ≤ x → l.getD x default = its.getD x default
  no : moved = false → l = its ∧ ∀ c, c < n → 0 < c → (c - 1) / 2 = i0 → us its i0 ≤ us its c
  yes : moved = true → Heap l n
theorem E7{l a:List α}{i i0 n}(d:l.Perm a)(k:i0≤i)(e:lm l i n)(f:∀x,n≤x->l.getD x default=a.getD x default)(g:i=i0->l=a)
    (j:i0<i->us l ((i-1)/2)≤us l i)(b:∀c,c<n->0<c->(c-1)/2=i->us l i≤us l c):Down a l i0 n (decide (i0<i)):=
  ⟨d,f,λh=>by
 have:i=i0:=mv;subst this;obtain rfl:=g Z;exact⟨Z,b⟩,λh=>by
 have:i0<i:=aaa
 exact E4 e b λ_=>j this⟩
theorem E8{l a:List α}{i j n}(c:i<n)(d:j<n)(e:n≤l.length)(h:∀x,n≤x->l.getD x default=a.getD x default):∀x,n≤x->(swapL l i j).getD x default=a.getD x default:=λx b=>by
 rw[wd aq aq,Qab aq,Qab aq];exact h x b
end Hp
instance c4b:Hk Nat:={ ky:=λn=>(n:Int) }
abbrev Po:=List (Int×Bool)
variable {po:Po}
def dw(po:Po)(f:Nat):Int×Bool:=po.getD f (-1,true)
def cG(po:Po)(w:Nat):List Nat:=(List.range po.length).filter λf=>dw po f==((w:Int),false)
theorem kT(a:f<po.length)(g:Nat):dw (po.set f x) g=if g=f then x else dw po g:=by grind[dw]
theorem nR:f∈cG po w↔f<po.length/\dw po f=((w:Int),false):=by grind[cG]
theorem KN po w:(cG po w).Pairwise (· < ·):=List.pairwise_lt_range.filter _
theorem QY po w:(cG po w).Nodup:=(KN po w).imp (λh e=>aq)
theorem a8I(a:l.Nodup)(h:∀f,f∈l↔f<po.length/\dw po f=((w:Int),false)):l.Perm (cG po w):=
  (List.perm_ext_iff_of_nodup a (QY po w)).2 λf=>by rw[h,nR]
theorem a8J{u:Int}(a:f<po.length)(w:Nat):cG (po.set f (u,true)) w=(cG po w).filter (· != f):=by simp only[cG,Qal,List.filter_filter];apply Qci;intro g _;rw[kT a];by_cases h:g=f;subst h;simp;simp[h]
theorem a8K{po f}{w:Nat}(d:f<po.length)(h:dw po f≠((w:Int),false)):(cG po w++[f]).Perm (cG (po.set f (w,false)) w):=by refine a8I ?_ λg=>?_;rw[QbK];refine⟨QY po w,n4,λa i b c e=>?_⟩;rw[Qbw]at c;subst c;subst e;exact h (nR.1 i).2;rw[Qba,Qbw,nR,Qal,kT d];by_cases e:g=f;grind;simp[e]
theorem KO(a:f<po.length)(b:dw po f≠((w:Int),false))(c:x≠((w:Int),false)):cG (po.set f x) w=cG po w:=by simp only[cG,Qal];apply Qci;intro g _;rw[kT a];by_cases h:g=f;grind;rw[Qab h]
theorem KP{po w x l}(hp:(l++[x]).Perm (cG po w))(hm:∀y∈cG po w,x≤y):cG po w=x::cG (po.set x (w,true)) w:=by
 have a:x∈cG po w:=hp.mem_iff.1 n4;have b:=KN po w;rw[a8J (nR.1 a).1];generalize cG po w=m at a hm b
 cases m with
 |nil=>cases a
 |cons y t=>
  rw[Qcf]at b;have:x=y:=by
   rcases QaX.1 a with e|e;exact e;have:=b.1 x e;have:=hm y n4;omega
  subst this;congr 1;rw[List.filter_cons,Qab n4];refine(Qbp.2 λz c=>?_).symm;have:=b.1 z c;simp;omega
theorem a8L{x:Nat}(a:(l++[x]).Perm (cG po w))(b:∀y∈cG po w,x≤y):l.Perm (cG (po.set x ((w:Int),true)) w):=by have h:=KP a b;rw[h]at a;exact((QaQ (l₁:=[x]) (l₂:=l)).trans a).cons_inv
structure LsOk (po : Po) (Ls : List (List Nat)) : Prop where
  len : Ls.length = 16
  row : ∀ w, w < 16 → (Ls.getD w []).Perm (cG po w) ∧ Hp.Heap (Ls.getD w []) (Ls.getD w []).length
structure PoOk (po : Po) : Prop where
  len : po.length ≤ 32
  who : ∀ f, f < po.length → -1 ≤ (dw po f).1 ∧ (dw po f).1 < 16 ∧ ((dw po f).1 = -1 → (dw po f).2 = false)
theorem PoOk.set(h:PoOk po)(b:f<po.length)(c:0≤x.1)(d:x.1<16):PoOk (po.set f x):=⟨by rw[Qal];exact h.len,λg a=>by
 rw[Qal]at a;rw[kT b];split;omega
 exact h.who g a⟩
theorem a8M(h:PoOk po)w:(cG po w).length≤32:=by have:=QaW (λf=>dw po f==((w:Int),false)) (List.range po.length);rw[List.length_range]at this;have:=h.len;unfold cG;omega
theorem LsOk.rlen(h:LsOk po Ls)(a:PoOk po)(b:w<16):(Ls.getD w []).length≤32:=by rw[(h.row w b).1.length_eq];exact a8M a w
theorem LsOk.set{a:Po}(h:LsOk po Ls)(c:w<16)(f:l.Perm (cG a w))(g:Hp.Heap l l.length)(d:∀u,u<16->u≠w->cG a u=cG po u):LsOk a (Ls.set w l):=⟨by rw[Qal];exact h.len,λu b=>by
 have e:(Ls.set w l).getD u []=if u=w then l else Ls.getD u []:=by
  simp only[Qao,List.getElem?_set];by_cases k:w=u;subst k;simp[h.len,c];grind
 rw[e];split;grind
 rename_i k;rw[d u b k];exact h.row u b⟩
theorem LsOk.new n:LsOk (List.replicate n (-1,false)) (List.replicate 16 []):=⟨n4,λw g=>by
 have e:cG (List.replicate n (-1,false)) w=[]:=by
  rw[List.eq_nil_iff_forall_not_mem];intro f a;have:=(nR.1 a)
  rw[Qbz]at this;have b:=this.2;simp[dw,List.getD,this.1]at b
 rw[e,show(List.replicate 16 ([]:List Nat)).getD w []=[] by rw[Qao,List.getElem?_replicate];split<;>rfl]
 exact⟨QaS _,λc d _=>absurd d (QbD _)⟩⟩
structure Im where
  fr : List az
  po : Po
  pg : List Pl
def nS(f:Nat):List Nat->Nat->List az->List az
 |[],_,fr=>fr
 |x::t,k,fr=>nS f t (k+1) (jn fr f (4*k:Nat) 4 x)
theorem QZ f x:∀(l:List Nat) (k:Nat) (a:List az),nS f (l++[x]) k a=jn (nS f l k a) f (4*(k+l.length):Nat) 4 x
 |[],k,a=>by simp[nS]
 |y::t,k,a=>by
  rw[Qau,nS,nS,QZ f x t (k+1)];congr 3;simp only[QaK];omega
theorem zN{f}:∀{l:List Nat} {k:Nat} {a:List az},bD a->bD (nS f l k a)/\(nS f l k a).length=a.length
 |[],_,_,h=>⟨h,Z⟩
 |x::t,k,a,h=>by
  obtain⟨b,c⟩:=zN (f:=f) (l:=t) (k:=k+1) (vd (f:=f) (off:=(4*k:Nat)) (w:=4) (v:=x) h);exact⟨b,by rw[nS,c,tP]⟩
def iz(words:List Nat)(i:Nat):List Nat:=(words.drop (16*i)).take 16
def lK(who:Nat)(words:List Nat)(x:Im)(i:Nat):Im:=
  match cG x.po who with
 |f::_=>⟨nS f (iz words i) 0 x.fr,x.po.set f ((who:Int),true),gX x.pg i ((f:Int),3)⟩
 |[]=>x
def dV(who:Nat)(words:List Nat):Nat->Im->Im
 |0,x=>x
 |n+1,x=>lK who words (dV who words n x) n
structure ImOk (x : Im) : Prop where
  fr : bD x.fr
  po : PoOk x.po
  pg : Pgs x.pg
  len : x.po.length = x.fr.length
theorem a8N{who i words x}(h:ImOk x)(d:who<16):ImOk (lK who words x i):=by
 unfold lK
 cases e:cG x.po who with
 |nil=>exact h
 |cons f t=>
  have a:=nR.1 (show f∈cG x.po who by rw[e];simp);obtain⟨b,c⟩:=zN (f:=f) (l:=iz words i) (k:=0) h.fr;exact⟨b,h.po.set a.1 n4 aac,E1 h.pg,by rw[Qal,c];exact h.len⟩
theorem BM(a:who<16):∀{n:Nat} {x:Im},ImOk x->ImOk (dV who words n x)
 |0,_,h=>h
 |n+1,_,h=>a8N (BM a h) a
theorem a8O{who i words x}:(cG (lK who words x i).po who).length=(cG x.po who).length-1:=by
 unfold lK
 cases e:cG x.po who with
 |nil=>simp[e]
 |cons f t=>
  have c:=nR.1 (show f∈cG x.po who by rw[e];simp);dsimp only;have b:∀y∈cG x.po who,f≤y:=λy a=>by
   have:=KN x.po who;rw[e]at a this;rw[Qcf]at this;rcases QaX.1 a with rfl|k;omega;grind
  have:=KP (l:=t) mv b;rw[e]at this;have:=(List.cons.inj this).2;rw[<-this,QaK];omega
theorem GZ{x:Im}:∀n:Nat,(cG (dV who words n x).po who).length=(cG x.po who).length-n
 |0=>Z
 |n+1=>by rw[dV,a8O,GZ n];omega
def we(pg:List Pl)(n m:Nat):Prop:=∀i,n≤i->i<m->bG pg (i:Nat)=false
theorem KQ{who words x}(h:we x.pg 0 8)(hl:x.pg.length=12):∀n,n≤8->we (dV who words n x).pg n 8/\(dV who words n x).pg.length=12
 |0,_=>⟨h,hl⟩
 |n+1,g=>by
  obtain⟨a,c⟩:=KQ h hl n aq;rw[dV];generalize dV who words n x=y at a c;unfold lK
  cases e:cG y.po who with
  |nil=>exact⟨λi d b=>a i aq b,c⟩
  |cons f t=>
   dsimp only;refine⟨λi d b=>?_,?_⟩;have:=a i aq b;unfold gX;split;grind[bG,lj];exact this;grind[gX]
end
variable {po:Po}
section
open Go.RowKit
def pF(T E:TypeId)(sz:Nat){α:Type}(f:α->List Value)(o b:Nat)(x:List α×List Value):HP:=chk (λC=>o<x.2.length/\∃a c,C=[pt b (ae (x.2.set o (.slice a x.1.length c)) T),osl E sz (.slice a x.1.length c) (x.1.flatMap f)])
theorem eA{l:List Value}(h:o<l.length):(l.set o v)[o]?=some v:=by simp[h]
theorem set_set{l:List Value}{u:Value}:(l.set o v).set o u=l.set o u:=Qdb ..
section
variable{P:Program}{W0:World}{N:FSz}{K:Act->World->Prop}{e:bK}{R A B R1 R2:List HP}{T E:TypeId}{sz o b n:Nat}{α:Type}{f:α->List Value}{its:List α}{cs cs':List Value}{fn:FuncId}{args:List Value}{Post:Value->List HP->Prop}
theorem ve(h:∀a c,o<cs.length->bE P W0 fn args (pt b (ae (cs.set o (.slice a its.length c)) T)::osl E sz (.slice a its.length c) (its.flatMap f)::R) Post):bE P W0 fn args (pF T E sz f o b (its,cs)::R) Post:=
  uP λC d=>by obtain⟨e,a,c,rfl⟩:=d;exact h a c e
theorem xN[i:Tk (pF T E sz f o) b A (its,cs) R](h:∀a c,o<cs.length->aC W0 N K e (pt b (ae (cs.set o (.slice a its.length c)) T)::osl E sz (.slice a its.length c) (its.flatMap f)::R)):aC W0 N K e A:=
  ix (r:=pF T E sz f o) (b:=b) (oz λC d=>by obtain⟨g,a,c,rfl⟩:=d;exact h a c g)
theorem kz[d:Tk pt b A (ae cs' T) R1][e:Tk (osl E sz) (.slice a n c) R1 xs R2](g:xs=its.flatMap f)(h:cs'=cs.set o (.slice a n c))(i:o<cs.length)(j:n=its.length)[k:Ent R2 B]:Ent A (pF T E sz f o b (its,cs)::B):=by subst j;subst h;subst g;exact(Ent.ofPerm (d.perm.trans (e.perm.cons _))).trans ((Ent.cons (Ent.cons k)).trans (fT (R:=B) (C:=[_,_]) ⟨i,a,c,Z⟩))
theorem ru(k:∀x,(f x).length=sz)(l:its≠[])(r:0<sz)(h:∀g c d,o<cs.length->its.length≤c->c≤maxLen->(its.flatMap f++d).length=c*sz->bE P W0 fn args (pt b (ae (cs.set o (.slice (some ⟨g,0,none⟩) its.length c)) T)::pt g (ae (its.flatMap f++d) E)::R) Post):bE P W0 fn args (pF T E sz f o b (its,cs)::R) Post:=
  ve λa c m=>eR (List.Perm.swap _ _ _) (Ds (λj e=>by
      have:=dy k its;rw[e]at this;have i:its.length=0:=by
        grind
      exact absurd (QaF i) l)
    (λg n p d j e i s q=>by
      cases j
      exact eR (List.Perm.swap _ _ _) (h g _ d m e i q)))
theorem jJ[d:Tk pt b A (ae cs' T) R1][r:Tk pt g R1 (ae (xs++sp) E) R2](h:∀x,(f x).length=sz)(i:xs=its.flatMap f)(a:cs'=cs.set o (.slice (some ⟨g,0,none⟩) n c))(j:o<cs.length)(l:n=its.length)(m:n≤c)(p:c≤maxLen)(q:(xs++sp).length=c*sz)[k:Ent R2 B]:Ent A (pF T E sz f o b (its,cs)::B):=by subst l;subst i;subst a;have e:Ent R1 (osl E sz (.slice (some ⟨g,0,none⟩) its.length c) (its.flatMap f)::B):=jG m p (dy h its) q;exact(Ent.ofPerm d.perm).trans ((Ent.cons e).trans (fT (R:=B) (C:=[_,_]) ⟨j,_,c,Z⟩))
theorem E9[k:Tk (pF T E sz f o) b A (its,cs) R]{i v}(l:i≠o)(h:cs[i]?=some v):lF (aQ W0 A) b i v:=λw (e:Own W0 w A)=>by
 obtain⟨C,⟨m,a,c,rfl⟩,d⟩:=(e.tk (r:=pF T E sz f o) (b:=b)).chk;have g:Own W0 w (pt b (ae (cs.set o (.slice a its.length c)) T)::(osl E sz (.slice a its.length c) (its.flatMap f)::R)):=d;have j:lF (aQ W0 (pt b (ae (cs.set o (.slice a its.length c)) T)::(osl E sz (.slice a its.length c) (its.flatMap f)::R))) b i v:=aO mv;exact j w g
theorem KR[d:Tk (pF T E sz f o) b A (its,cs) R](c:i≠o)(h:cs[i]?=some v):bF (aQ W0 A) b i [v]:=λj u a=>by
 match j,a with
 |0,a=>rw[<-Qbn a];exact E9 (o:=o) (f:=f) (T:=T) (E:=E) (sz:=sz) c h
 |j+1,a=>cases a
end
theorem Ea{α:Type}(f:α->Value)(l:List α):(l.flatMap λx=>[f x])=l.map f:=by
 induction l with
 |nil=>rfl
 |cons x l a=>rw[QaT,a];rfl
theorem a8P{α:Type}{f k}(b:∀x,(f x).length=k)(a:List α)(c:List Value)i(d:i<a.length):i*k+k≤(a.flatMap f++c).length:=by have:=QcM k (show i+1≤a.length by omega);rw[Qck]at this;rw[Qaf,dy b];omega
structure HpO (W0 : World) (α : Type) [Hk α] where
  T : TypeId
  p : Value
  el : α → Value
  H : List α → HP
  fL : FuncId
  fE : FuncId
  fS : FuncId
  fU : FuncId
  fO : FuncId
  mL : ∀ w, (method (Tryz.prog.types.size + Made.depth) T p "Len").run Tryz.prog w = .ok (fL, p) w
  mE : ∀ w, (method (Tryz.prog.types.size + Made.depth) T p "Less").run Tryz.prog w = .ok (fE, p) w
  mS : ∀ w, (method (Tryz.prog.types.size + Made.depth) T p "Swap").run Tryz.prog w = .ok (fS, p) w
  mU : ∀ w, (method (Tryz.prog.types.size + Made.depth) T p "Push").run Tryz.prog w = .ok (fU, p) w
  mO : ∀ w, (method (Tryz.prog.types.size + Made.depth) T p "Pop").run Tryz.prog w = .ok (fO, p) w
  cL : ∀ args w, (callFunc fL args).run Tryz.prog w = .ok (.enter fL args) w
  cE : ∀ args w, (callFunc fE args).run Tryz.prog w = .ok (.enter fE args) w
  cS : ∀ args w, (callFunc fS args).run Tryz.prog w = .ok (.enter fS args) w
  cU : ∀ args w, (callFunc fU args).run Tryz.prog w = .ok (.enter fU args) w
  cO : ∀ args w, (callFunc fO args).run Tryz.prog w = .ok (.enter fO args) w
  sL : ∀ R l, bE Tryz.prog W0 fL [p] (kH 0 (H l) :: R) (fun v B => v = .int .i64 (l.length : Nat) ∧ B = kH 0 (H l) :: R)
  sE : ∀ R l (i j : Nat), i < l.length → j < l.length → bE Tryz.prog W0 fE [p, .int .i64 i, .int .i64 j] (kH 0 (H l) :: R) (fun v B => v = .bool (decide (Hp.us l i < Hp.us l j)) ∧ B = kH 0 (H l) :: R)
  sS : ∀ R l (i j : Nat), i < l.length → j < l.length → bE Tryz.prog W0 fS [p, .int .i64 i, .int .i64 j] (kH 0 (H l) :: R) (fun v B => v = .tuple #[] ∧ B = kH 0 (H (Hp.swapL l i j)) :: R)
  sU : ∀ R l x, l.length < 1000 → bE Tryz.prog W0 fU [p, el x] (kH 0 (H l) :: R) (fun v B => v = .tuple #[] ∧ B = kH 0 (H (l ++ [x])) :: R)
  sO : ∀ R l x, bE Tryz.prog W0 fO [p] (kH 0 (H (l ++ [x])) :: R) (fun v B => v = el x ∧ B = kH 0 (H l) :: R)
namespace Hp
variable{W0:World}{α:Type}[Hk α](o:HpO W0 α)
def iv:Value:=.iface o.T o.p
theorem KS(h:j<1000):IntKind.wrap .i64 (Int.tdiv (j-1) 2)=((j-1)/2:Nat):=by grind[Int.tdiv_eq_ediv_of_nonneg,bS]
theorem BN R its j n(i:n≤its.length)(k:n<1000)(f:j<n)(b:Up its j n):sP W0 94 [iv o,iQ j] (kH 0 (o.H its)::R) (λv B=>v=.tuple #[]/\∃a,B=kH 0 (o.H a)::R/\a.Perm its/\Heap a n/\∀x,n≤x->a.getD x default=its.getD x default):=by refine am func94 ntmps94 ?_;refine eC (λX:List α×Nat=>X.1.Perm its/\X.2<n/\Up X.1 X.2 n/\∀x,n≤x->X.1.getD x default=its.getD x default) (λX=>[(0,iv o),(1,iQ X.2)]) (λX=>kH 0 (o.H X.1)::R) (λX=>X.2) (its,j) ?_ ?_;simp_all;intro ⟨l,j⟩ ⟨c,f,b,g⟩;have d:=c.length_eq;simp only at f b g c d ⊢;refine aw (ac jt (ac (qT Z Z cl (KS aq)) ?_));apply fC<;>intro e;refine bP (.inr Z) .nil ?_;exact⟨_,⟨Z,l,Z,c,E5 b aq,g⟩,IO⟩;refine ao (gQ Z o.mE o.cE Z (o.sE _ l j ((j-1)/2) aq aq)) ?_;apply aB Z<;>intro h;refine au 5 (bP (.inr Z) .nil ?_);exact⟨_,⟨Z,l,Z,c,E5 b aq,g⟩,IO⟩;replace h:us l j<us l ((j-1)/2):=aq;refine aw (ao (gQ Z o.mS o.cS Z (o.sS _ l ((j-1)/2) j aq aq)) ?_);exact d8 (swapL l ((j-1)/2) j,(j-1)/2) (⟨(nQ aq aq).trans c,by show(j-1)/2<n;omega,KI b aq f aq h,E8 aq f aq g⟩)
theorem BO R its i0 n(G:n≤its.length)(I:n<1000)(J:i0≤n)(K:lm its i0 n):sP W0 187 [iv o,iQ i0,iQ n] (kH 0 (o.H its)::R) (λv B=>∃l m,v=.bool m/\B=kH 0 (o.H l)::R/\Down its l i0 n m):=by
 refine am Y0 ntmps187 ?_;refine eC (λX:List α×Nat=>X.1.Perm its/\i0≤X.2/\lm X.1 X.2 n/\(∀x,n≤x->X.1.getD x default=its.getD x default)/\(X.2=i0->X.1=its)/\(i0<X.2->us X.1 ((X.2-1)/2)≤us X.1 X.2)/\X.2≤n) (λX=>[(0,iv o),(1,iQ i0),(2,iQ n),(7,iQ X.2)]) (λX=>kH 0 (o.H X.1)::R) (λX=>n-X.2) (its,i0) ?_ ?_;simp_all;intro ⟨l,i⟩ ⟨h,f,s,t,y,A,C⟩;have k:=h.length_eq;simp only at h f s t y A C k ⊢;refine aw (ac zm (ac (eX (2*i+1)) ?_));apply fC<;>intro p;refine ag ?_;refine⟨_,⟨l,decide (i0<i),abh,Z,E7 h f s t y A ?_⟩,IO⟩
 first|(intro c b d e;exfalso;omega)|(intro c b d e;have:=a c b d e;simp at g;omega)
 apply aB Z<;>intro u;omega;refine au 8 (fA (λj:Nat=>(j-1)/2=i/\0<j/\j<n/\∀c,c<n->0<c->(c-1)/2=i->us l j≤us l c) (λj=>[(0,iv o),(1,iQ i0),(2,iQ n),(7,iQ i),(9,iQ j)]) (λj=>kH 0 (o.H l)::R) ?_ ?_);refine au 3 (ac (eX (2*i+2)) ?_);apply e9<;>intro q;refine ao (gQ Z o.mE o.cE Z (o.sE _ l (2*i+2) (2*i+1) aq aq)) ?_;apply ap<;>intro w;refine cZ (2*i+2) ?_;refine⟨aq,aq,aq,λc b d e=>?_⟩;have:c=2*i+1\/c=2*i+2:=aq;exact acb;refine cZ (2*i+1) ?_;refine⟨aq,aq,aq,λc b d e=>?_⟩;have:c=2*i+1\/c=2*i+2:=aq;exact acb;refine cZ (2*i+1) ?_;refine⟨aq,aq,aq,λc b d e=>?_⟩;have:c=2*i+1\/c=2*i+2:=aq;exact acb;intro j ⟨F,D,r,a⟩;refine aw (ao (gQ Z o.mE o.cE Z (o.sE _ l j i aq aq)) ?_);apply aB Z<;>intro g;refine au 15 (ag ⟨_,⟨l,decide (i0<i),abh,Z,E7 h f s t y A ?_⟩,IO⟩)
 first|(intro c b d e;exfalso;omega)|(intro c b d e;have:=a c b d e;simp at g;omega)
 replace g:us l j<us l i:=by simpa using g
 refine aw (ao (gQ Z o.mS o.cS Z (o.sS _ l i j aq aq)) ?_);refine d8 (swapL l i j,j) ?_ (hμ:=?_);have E:=KH s aq r F D g a;exact⟨(nQ aq aq).trans h,by show i0≤j;omega,E.1,E8 aq r aq t,by show j=i0->_;omega,λ_=>E.2,by show j≤n;omega⟩;show n-j<n-i;omega
theorem KT{its}{x:α}(h:Heap its its.length):Up (its++[x]) its.length (its.length+1):=by
 have e:∀c,c<its.length->us (its++[x]) c=us its c:=λc a=>by
  unfold us;simp only[Qao];rw[QaO a]
 intro c a b;refine⟨λd=>?_,λd f=>aq⟩;rw[e c aq,e _ aq];exact h c aq b
theorem heapPush_spec R its x(g:its.length<900)(d:Heap its its.length):sP W0 50 [iv o,o.el x] (kH 0 (o.H its)::R) (λv B=>v=.tuple #[]/\∃a,B=kH 0 (o.H a)::R/\a.Perm (its++[x])/\Heap a a.length):=by have e:(its++[x]).length=its.length+1:=n4;refine am func50 ntmps50 ?_;refine ao (gQ Z o.mU o.cU Z (o.sU _ its x aq)) ?_;refine ao (gQ Z o.mL o.cL Z (o.sL _ (its++[x]))) ?_;refine ac (mt its.length) ?_;refine aF Z (ar Jt (BN o _ (its++[x]) its.length (its.length+1) aq aq aq (KT d))) ?_;rintro _ _ ⟨rfl,f,rfl,c,b,_⟩;refine aw (bP (.inr Z) .nil ?_);exact⟨_,⟨Z,f,Z,c,by rw[c.length_eq,e];exact b⟩,IO⟩
theorem Eb{l:List α}(h:l.length=n+1):∃b x,l=b++[x]/\b.length=n/\x=l.getD n default:=by
 have a:l≠[]:=λe=>by rw[e]at h;simp at h
 refine⟨l.dropLast,l.getLast a,(List.dropLast_concat_getLast a).symm,by simp[h],?_⟩;rw[List.getLast_eq_getElem];simp[List.getD,h]
theorem Ec{l}{x:α}{n}(h:Heap (l++[x]) n)(a:n≤l.length):Heap l n:=
  KL (λi b=>by simp only[Qao];rw[QaO aq]) h
theorem heapPop_spec R its(E:its.length<900)(g:its≠[])(p:Heap its its.length):sP W0 117 [iv o] (kH 0 (o.H its)::R) (λv B=>∃x a,v=o.el x/\B=kH 0 (o.H a)::R/\(a++[x]).Perm its/\Heap a a.length/\∀y∈its,Hk.ky x≤Hk.ky y):=by
 obtain⟨n,F⟩:∃n,its.length=n+1:=⟨its.length-1,by have:=Qcy.2 g;omega⟩
 have q:lm (swapL its 0 n) 0 n:=λc i g=>⟨λr s=>by
  rw[mD aq aq,mD aq aq,Qab s,Qab r,Qab aq,Qab aq]
  exact p c aq g,λ_ h=>aq⟩
 have t:=E2 its 0 n;refine am func117 ntmps117 ?_;refine ao (gQ Z o.mL o.cL Z (o.sL _ its)) ?_;refine ac (mt n) ?_;refine ao (gQ Z o.mS o.cS Z (o.sS _ its 0 n aq aq)) ?_;refine aF Z (ar FZ (BO o _ (swapL its 0 n) 0 n aq aq aq q)) ?_;rintro _ _ ⟨l,m,rfl,rfl,b⟩;have u:=b.perm.length_eq;obtain⟨f,x,rfl,j,w⟩:=Eb (l:=l) (n:=n) aq;have k:x=its.getD 0 default:=by
  rw[w,b.tail n (Qai _),wd aq aq];split
  rename_i e;subst e;rfl
  rw[Qad Z]
 have A:(f++[x]).Perm its:=b.perm.trans (nQ aq aq);have C:Heap (f++[x]) n:=by
  cases m with
  |true=>exact b.yes Z
  |false=>
   obtain⟨e,d⟩:=b.no Z;rw[e];exact E4 q d (λh=>absurd h aq)
 refine aw (ao (gQ Z o.mO o.cO Z (o.sO _ f x)) ?_);refine ag ?_;refine⟨_,⟨x,f,Z,Z,A,by rw[j];exact Ec C (by omega),λy D=>?_⟩,IO⟩;obtain⟨c,i,rfl⟩:=Qbi.1 D;have:=heap_min p c i;rw[us_eq i]at this;rw[k];exact this
end Hp
def sV(s:ByteArray):Value:=.string s
def iZ(l:List ByteArray):List Value:=l.map sV
theorem R0 l:(iZ l).length=l.length:=by simp[iZ]
theorem Ed:∀l,iZ l=l.flatMap λs=>[sV s]
 |[]=>Z
 |s::l=>by rw[QaT, <-Ed l];rfl
theorem a8Q l:gO (iZ l)=true:=by simp[iZ,gO,sV,Value.oneCell']
theorem a8R l m:iZ (l++m)=iZ l++iZ m:=by simp[iZ]
structure Prt where
  lab : Int
  gu : Int
  l : List ByteArray
variable {ps:List Prt}
instance:Inhabited Prt:=⟨⟨0,0,[]⟩⟩
def kA(p:Value×Prt):List Value:=[.int .i64 p.2.lab,.int .i64 p.2.gu,p.1]
theorem BQ p:(kA p).length=3:=Z
def j0(p:Value×Prt):HP:=osl 9 1 p.1 (iZ p.2.l)
def dC(p:Nat)(ps:List Prt):HP:=chk (λC=>∃a c,∃vs:List Value,vs.length=ps.length/\C=[pt p (ae [.slice a ps.length c,.bool true] 209),osl 212 3 (.slice a ps.length c) ((vs.zip ps).flatMap kA),kH 2 (bB ((vs.zip ps).map j0))])
section
variable{W0:World}{N:FSz}{K:Act->World->Prop}{e:bK}{A B R R1 R2 R3 R4:List HP}{p g n:Nat}{ps:List Prt}{f:FuncId}
theorem R8{α:Type}:∀(l:List α) (i:Nat) (h:i<l.length),l.Perm (l[i]::l.eraseIdx i)
 |x::l,0,h=>n4
 |x::l,i+1,h=>by
  simp only[List.getElem_cons_succ,List.eraseIdx_cons_succ];exact((R8 l i aaa).cons x).trans (List.Perm.swap _ _ _)
theorem R9{α:Type}:∀(l:List α) (i:Nat) (x:α) (h:i<l.length),(x::l.eraseIdx i).Perm (l.set i x)
 |y::l,0,x,h=>n4
 |y::l,i+1,x,h=>by
  simp only[List.set_cons_succ,List.eraseIdx_cons_succ];exact(List.Perm.swap _ _ _).trans ((R9 l i x aaa).cons y)
theorem Ra{L:List HP}(h:i<L.length):Ent (kH 2 (bB L)::R) (L[i]::kH 3 (bB (L.eraseIdx i))::R):=by refine(kd (A:=L) (R:=R)).trans ?_;refine(Ent.ofPerm ((R8 L i h).append_right R)).trans ?_;exact Ent.cons ke
theorem Rb{L:List HP}{x:HP}(h:i<L.length):Ent (x::kH 3 (bB (L.eraseIdx i))::R) (kH 2 (bB (L.set i x))::R):=by refine(Ent.cons kd).trans ?_;exact(Ent.ofPerm ((R9 L i x h).append_right R)).trans ke
theorem Ee[i:Tk dC p A ps R](h:∀a c (d:List Value),d.length=ps.length->aC W0 N K e (pt p (ae [.slice a ps.length c,.bool true] 209)::osl 212 3 (.slice a ps.length c) ((d.zip ps).flatMap kA)::kH 2 (bB ((d.zip ps).map j0))::R)):aC W0 N K e A:=
  ix (r:=dC) (b:=p) (oz λC f=>by obtain⟨a,c,d,g,rfl⟩:=f;exact h a c d g)
theorem BR[b:Tk pt p A (ae [.slice a n c,.bool true] 209) R1][d:Tk (osl 212 3) (.slice a n c) R1 ((vs.zip ps).flatMap kA) R2][e:Tk kH 2 R2 (bB ((vs.zip ps).map j0)) R3](f:vs.length=ps.length)(g:n=ps.length)[k:Ent R3 B]:Ent A (dC p ps::B):=by subst g;have h:A.Perm ([pt p (ae [.slice a ps.length c,.bool true] 209),osl 212 3 (.slice a ps.length c) ((vs.zip ps).flatMap kA),kH 2 (bB ((vs.zip ps).map j0))]++R3):=b.perm.trans ((d.perm.trans (e.perm.cons _)).cons _);exact(Ent.ofPerm h).trans ((fT (R:=R3) ⟨a,c,vs,f,Z⟩).trans (Ent.cons k))
theorem a8S{E:Nat}{vi xs}[h:Tk (osl E 1) vi A xs R](k:∀a c,vi=.slice a xs.length c->aC W0 N K e A):aC W0 N K e A:=λd w j f=>by
 rcases(f.tk (r:=osl E 1) (b:=vi)).osl with ⟨l,m,_⟩|⟨g,n,i,o,l,_,_,p,_,_⟩;exact k none 0 mv d w j f;exact k (some ⟨g,0,none⟩) i mv d w j f
theorem vg[D:Tk dC p A ps R]{i}(v:i<ps.length)(h:∀g c (j d:List Value) (k:Option Addr) (m:Nat),d.length=ps.length->d[i]?=some (.slice k (ps.getD i default).l.length m)->ps.length≤c->c≤maxLen->((d.zip ps).flatMap kA++j).length=c*3->
      aC W0 N K e (pt p (ae [.slice (some ⟨g,0,none⟩) ps.length c,.bool true] 209)::pt g (ae ((d.zip ps).flatMap kA++j) 212)::osl 9 1 (.slice k (ps.getD i default).l.length m) (iZ (ps.getD i default).l)::kH 3 (bB (((d.zip ps).map j0).eraseIdx i))::R)):aC W0 N K e A:=by
 refine Ee (p:=p) λa c d s=>?_;have t:((d.zip ps).map j0).length=ps.length:=by simp[s]
 have o:i<d.length:=aq;have w:((d.zip ps).map j0)[i]' aq=osl 9 1 d[i] (iZ (ps.getD i default).l):=by simp[j0,List.getD,v]
 refine ix (r:=osl 212 3) (b:=.slice a ps.length c) (qf (λq _=>by have:=(Value.slice.inj q).2.1;omega) λg n x j q y B F C=>?_);cases q;have u:=Ra (L:=(d.zip ps).map j0) (R:=R) (i:=i) aq;rw[w]at u;refine gK ((Ent.ofPerm (List.Perm.swap _ _ _)).trans (Ent.cons (Ent.cons u))) ?_;refine a8S (E:=9) (vi:=d[i]) (xs:=iZ (ps.getD i default).l) λk m f=>?_;rw[R0]at f;rw[f];exact h g _ j d k m s (by rw[<-f];simp[o]) y B C
theorem H0{c i}{vs d a:List Value}{sp vi x}[h1:Tk pt p A (ae [.slice (some ⟨g,0,none⟩) n c,.bool true] 209) R1][h2:Tk pt g R1 (ae a 212) R2][h3:Tk (osl 9 1) vi R2 d R3][h4:Tk kH 3 R3 (bB (((vs.zip ps).map j0).eraseIdx i)) R4]
    (o:a=((vs.set i vi).zip (ps.set i x)).flatMap kA++sp)(q:d=iZ x.l)(b:vs.length=ps.length)(f:n=ps.length)(D:i<ps.length)(r:n≤c)(s:c≤maxLen)(t:a.length=c*3)[k:Ent R4 B]:Ent A (dC p (ps.set i x)::B):=by
 subst o;subst q;have m:((vs.zip ps).map j0).length=ps.length:=by simp[b]
 have u:A.Perm (pt p (ae [.slice (some ⟨g,0,none⟩) n c,.bool true] 209)::pt g (ae (((vs.set i vi).zip (ps.set i x)).flatMap kA++sp) 212)::j0 (vi,x)::kH 3 (bB (((vs.zip ps).map j0).eraseIdx i))::R4):=h1.perm.trans ((h2.perm.trans ((h3.perm.trans (h4.perm.cons _)).cons _)).cons _);have v:((vs.set i vi).zip (ps.set i x)).map j0=((vs.zip ps).map j0).set i (j0 (vi,x)):=by
  apply QaV;simp;intro j h1 h2;by_cases e:j=i;subst e;simp;have w:¬i=j:=λh=>e h.symm;simp[QcQ,w]
 have y:Ent (j0 (vi,x)::kH 3 (bB (((vs.zip ps).map j0).eraseIdx i))::R4) (kH 2 (bB (((vs.set i vi).zip (ps.set i x)).map j0))::R4):=by
  rw[v];exact Rb aq
 have C:Ent (pt g (ae (((vs.set i vi).zip (ps.set i x)).flatMap kA++sp) 212)::kH 2 (bB (((vs.set i vi).zip (ps.set i x)).map j0))::R4) (osl 212 3 (.slice (some ⟨g,0,none⟩) n c) (((vs.set i vi).zip (ps.set i x)).flatMap kA)::kH 2 (bB (((vs.set i vi).zip (ps.set i x)).map j0))::R4):=
   jG r s (by rw[dy BQ];simp[b,f]) t
 exact(Ent.ofPerm u).trans ((Ent.cons ((Ent.cons y).trans C)).trans (BR (vs:=vs.set i vi) (by simp[b]) (by simp[f])))
end
theorem Rc(a:i<ps.length):ps.set i (ps.getD i default)=ps:=by simp_all
theorem KU(h:vs[i]?=some v):vs.set i v=vs:=by
 have a:i<vs.length:=by
  rcases Qaz i vs.length with k|k;exact k;rw[QaU k]at h;cases h
 have:vs[i]=v:=by simpa[a]using h
 rw[<-this];exact Qcs _
theorem wi{a:List Value}{ps sp i vi}(c:a.length=ps.length)(b:i<ps.length)(d:a[i]?=some vi):(((a.zip ps).flatMap kA++sp).drop (i*3)).take 3=kA (vi,ps.getD i default):=by rw[uM BQ (a.zip ps) i sp (by simp[c,b])];have f:i<a.length:=aq;have e:a[i]=vi:=mv;simp[List.getD,b,e]
theorem KV{a:List Value}{ps sp i b l}(c:a.length=ps.length)(d:i<ps.length):
    ((a.zip ps).flatMap kA++sp).set (i*3+2) b=((a.set i b).zip (ps.set i { ps.getD i default with l:=l })).flatMap kA++sp:=by
 have e:(a.set i b).zip (ps.set i { ps.getD i default with l:=l })=(a.zip ps).set i (b,{ ps.getD i default with l:=l }):=by
  apply QaV;simp;grind
 rw[e];exact vT BQ (a.zip ps) i 2 _ _ sp (by simp[c,d]) cl (by grind[kA])
theorem tQ{B d e f h:List HP}{p:Nat}[j:Tk pt p A (ae [.slice (some ⟨g,0,none⟩) n c,.bool true] 209) d][m:Tk pt g d (ae ((vs.zip ps).flatMap kA++sp) 212) e][o:Tk (osl 9 1) vi e (iZ (ps.getD i default).l) f][q:Tk kH 3 f (bB (((vs.zip ps).map j0).eraseIdx i)) h]
    (r:vs.length=ps.length)(a:vs[i]?=some vi)(s:n=ps.length)(b:i<ps.length)(t:n≤c)(u:c≤maxLen)(v:((vs.zip ps).flatMap kA++sp).length=c*3)[k:Ent h B]:Ent A (dC p ps::B):=by
 have:=H0 (A:=A) (B:=B) (p:=p) (g:=g) (n:=n) (ps:=ps) (i:=i) (x:=ps.getD i default) (vs:=vs) (sp:=sp) (vi:=vi) (h1:=j) (h2:=m) (h3:=o) (h4:=q) (by rw[KU a,Rc b]) Z r s b t u v
 rwa[Rc b]at this
@[reducible] def gE(x:Int×Bool):List Value:=[.int .i64 x.1,.bool x.2]
theorem H1 x:(gE x).length=2:=Z
@[reducible] def mF(n:Nat):List Value:=[.int .i64 (n:Int)]
theorem qu n:(mF n).length=1:=Z
def fB(p:Value×List Nat):HP:=osl 3 1 p.1 (p.2.flatMap mF)
@[reducible] def ik(ps:Nat)(sv:Value)(vs:List Value):List Value:=.pointer (some ⟨ps,0,none⟩)::sv::vs
theorem Re ps w sv v vs:(ik ps sv vs).set (2+w*1) v=ik ps sv (vs.set w v):=by grind
abbrev kB(w:Nat):Nat->List Nat×List Value->HP:=pF 284 3 1 mF (2+w*1)
def cz(pb:Nat)(x:Nat×Po):HP:=chk (λC=>∃a c vs Ls,vs.length=16/\LsOk x.2 Ls/\C=[pt pb (ae (ik x.1 (.slice a x.2.length c) vs) 284),osl 286 2 (.slice a x.2.length c) (x.2.flatMap gE),kH 2 (bB ((vs.zip Ls).map fB))])
theorem Rf{F R B}(h:∀C,F C->Ent (C++R) B):Ent (chk F::R) B:=⟨λl a=>by
 obtain⟨l1,l2,rfl,⟨C,hC,hs⟩,h2⟩:=a
 exact(h C hC).out _ (gi.append.2 ⟨l1,l2,Z,hs,h2⟩)⟩
section
variable{P:Program}{W0:World}{N:FSz}{K:Act->World->Prop}{e:bK}{A B R R1 R2 R3:List HP}{pb ps w n:Nat}{po:Po}{f:FuncId}{args:List Value}{Post:Value->List HP->Prop}
theorem BS[k:Tk cz pb A (ps,po) R](h:∀a c d f,d.length=16->LsOk po f->aC W0 N K e (pt pb (ae (ik ps (.slice a po.length c) d) 284)::osl 286 2 (.slice a po.length c) (po.flatMap gE)::kH 2 (bB ((d.zip f).map fB))::R)):aC W0 N K e A:=
  ix (r:=cz) (b:=pb) (oz λC g=>by obtain⟨a,c,d,f,i,j,rfl⟩:=g;exact h a c d f i j)
theorem Rh(h:∀a c b d,b.length=16->LsOk po d->bE P W0 f args (pt pb (ae (ik ps (.slice a po.length c) b) 284)::osl 286 2 (.slice a po.length c) (po.flatMap gE)::kH 2 (bB ((b.zip d).map fB))::R) Post):bE P W0 f args (cz pb (ps,po)::R) Post:=
  uP λC e=>by obtain⟨a,c,b,d,g,i,rfl⟩:=e;exact h a c b d g i
theorem BU[b:Tk pt pb A (ae (ik ps sv vs) 284) R1][d:Tk (osl 286 2) sv R1 xs R2][e:Tk kH 2 R2 (bB ((vs.zip Ls).map fB)) R3]
    (f:sv=.slice a n c)(g:vs.length=16)(h:LsOk po Ls)(i:n=po.length)(j:xs=po.flatMap gE)[k:Ent R3 B]:Ent A (cz pb (ps,po)::B):=by subst f;subst i;subst j;exact(Ent.ofPerm (b.perm.trans ((d.perm.trans (e.perm.cons _)).cons _))).trans ((Ent.cons (Ent.cons (Ent.cons k))).trans (fT (R:=B) (C:=[_,_,_]) ⟨a,c,vs,Ls,g,h,Z⟩))
theorem H2{sv vs Ls}(H:w<16)(p:vs.length=16)(x:Ls.length=16):
    Ent (pt pb (ae (ik ps sv vs) 284)::kH 2 (bB ((vs.zip Ls).map fB))::R) (kB w pb (Ls.getD w [],ik ps sv vs)::kH 3 (bB (((vs.zip Ls).map fB).eraseIdx w))::R):=by
 have q:((vs.zip Ls).map fB).length=16:=by simp[p,x]
 have y:((vs.zip Ls).map fB)[w]' aq=osl 3 1 (vs.getD w undef) ((Ls.getD w []).flatMap mF):=by
  grind[fB]
 have s:=Ra (L:=(vs.zip Ls).map fB) (R:=R) (i:=w) aq;rw[y]at s;refine(Ent.cons s).trans ?_;generalize A:vs.getD w undef=v;have B:vs[w]?=some v:=mv;refine⟨λl C=>?_⟩;obtain⟨f,I,rfl,D,d,h,rfl,t,E⟩:=C;have e:∀a c,v=.slice a (Ls.getD w []).length c->∃u r,gi (kB w pb (Ls.getD w [],ik ps sv vs)::kH 3 (bB (((vs.zip Ls).map fB).eraseIdx w))::R) u/\(f++(d++h)).Perm (u++r):=λa c j=>by
  have k:(ik ps sv vs).set (2+w*1) (.slice a (Ls.getD w []).length c)=ik ps sv vs:=by
   grind[Re,KU]
  refine⟨(f++d)++h,[],⟨f++d,h,Z,⟨_,⟨by simp[ik,p];omega,a,c,Z⟩,?_⟩,E⟩,n4⟩;rw[k, <-j];exact⟨f,d,Z,D,d,[],n4,t,Z⟩
 rcases id t with ⟨m,F,_⟩|⟨g,n,o,J,m,_,_,G,_,_⟩;have b:(Ls.getD w []).length=0:=by
  have:=Qak List.length F;rw[dy qu]at this;simpa using this
 exact e none 0 (by rw[m,b]);have b:(Ls.getD w []).length=n:=by rw[dy qu]at G;omega
 exact e (some ⟨g,0,none⟩) o (by rw[m,b])
theorem H3{a c sv vs Ls l po'}(q:w<16)(h:vs.length=16)(i:sv=.slice a n c)(j:n=po'.length)(k:Ls.length=16)(m:LsOk po' (Ls.set w l)):
    Ent (kB w pb (l,ik ps sv vs)::osl 286 2 sv (po'.flatMap gE)::kH 3 (bB (((vs.zip Ls).map fB).eraseIdx w))::R) (cz pb (ps,po')::R):=by
 refine Rf λC o=>?_;obtain⟨r,b,d,rfl⟩:=o;have e:(ik ps sv vs).set (2+w*1) (.slice b l.length d)=ik ps sv (vs.set w (.slice b l.length d)):=Re ..;dsimp only;rw[e];have f:((vs.zip Ls).map fB).length=16:=by simp[h,k]
 have g:((vs.set w (.slice b l.length d)).zip (Ls.set w l)).map fB=((vs.zip Ls).map fB).set w (fB (.slice b l.length d,l)):=by
  apply QaV;simp;grind
 have p:Ent (fB (.slice b l.length d,l)::kH 3 (bB (((vs.zip Ls).map fB).eraseIdx w))::R) (kH 2 (bB (((vs.set w (.slice b l.length d)).zip (Ls.set w l)).map fB))::R):=by
  grind[Rb]
 refine(Ent.ofPerm ((List.Perm.swap _ _ _).cons _)).trans ?_;refine(Ent.cons (Ent.cons p)).trans ?_;exact BU (vs:=vs.set w (.slice b l.length d)) i mv m j Z
end
theorem KW po sp i j(a:i<po.length)(b:j<2):(po.flatMap gE++sp)[i*2+j]?=(gE (dw po i))[j]?:=by simp_all[tE,H1,dw]
theorem a8T(a:Po)sp i v(b:i<a.length):(a.flatMap gE++sp).set (i*2+0) (iQ v)=(a.set i (v,(dw a i).2)).flatMap gE++sp:=
  vT H1 a i 0 _ _ sp b cl (by grind[dw])
theorem Ri(a:Po)sp i v(b:i<a.length):(a.flatMap gE++sp).set (i*2+1) (.bool v)=(a.set i ((dw a i).1,v)).flatMap gE++sp:=
  vT H1 a i 1 _ _ sp b cl (by grind[dw])
theorem vh(a:Po):(a.flatMap gE).length=a.length*2:=dy H1 a
abbrev xO(pb w:Nat):Value:=.pointer (some ⟨pb,2+w*1,none⟩)
theorem zO{its:List Nat}{sp i}(a:i<its.length):(its.flatMap mF++sp)[i*1]?=some (iQ (its.getD i default)):=by have:=tE qu its i 0 sp a cl;rw[QbW]at this;rw[this];simp[mF,List.getD,a]
theorem H4{a:List Nat}{sp}{i x:Nat}(b:i<a.length):(a.flatMap mF++sp).set (i*1) (iQ x)=(a.set i x).flatMap mF++sp:=by
 have:=vT qu a i 0 (iQ (x:Int)) x sp b cl (by simp[mF])
 rwa[QbW]at this
theorem H5(a:i<its.length):i*1+1≤(its.flatMap mF++sp).length:=a8P qu its sp i a
theorem H6(d w:Nat)(b:List Nat)(e:List Value):sQ W0 264 [xO d w] (kB w d (b,e)::R) (iQ (b.length:Nat)) (kB w d (b,e)::R):=by refine ve λa c f=>?_;refine am func264 ntmps264 ?_;refine ac (aY (aO (eA f))) ?_;exact ag ⟨_,⟨Z,Z⟩,kz Z Z f Z⟩
theorem a8U(d w:Nat)(a:List Nat)(f:List Value)(i k:Nat)(h:i<a.length)(j:k<a.length):sQ W0 551 [xO d w,iQ i,iQ k] (kB w d (a,f)::R) (.bool (decide (Hp.us a i<Hp.us a k))) (kB w d (a,f)::R):=by refine ru qu mv cl λg c o e l m n=>?_;refine am func551 ntmps551 ?_;refine bH [d,g] 16 λb=>?_;refine aj 0 3 b ?_;refine aE 3 b (aY (d6 (k:=0) Z (eA e))) ?_;refine aj 4 1 b ?_;refine aE 5 b (cu h) ?_;refine aE 6 b (aY (d6 (k:=1) Z (zO h))) ?_;refine aj 7 3 b ?_;refine aE 10 b (aY (d6 (k:=0) Z (eA e))) ?_;refine aj 11 1 b ?_;refine aE 12 b (cu j) ?_;refine aE 13 b (aY (d6 (k:=1) Z (zO j))) ?_;refine aj 14 2 b ?_;exact aS (ag ⟨_,⟨Z,Z⟩,jJ qu Z Z e Z l m n⟩)
theorem a8V(h w:Nat)(b:List Nat)(l:List Value)(i k:Nat)(d:i<b.length)(f:k<b.length):sQ W0 554 [xO h w,iQ i,iQ k] (kB w h (b,l)::R) (.tuple #[]) (kB w h (Hp.swapL b i k,l)::R):=by refine ru qu mv cl λg c n e o m j=>?_;refine am func554 ntmps554 ?_;refine bH [h] 28 λa=>?_;refine aj 0 3 a ?_;refine aE 3 a (aY (d6 (k:=0) Z (eA e))) ?_;refine aj 4 4 a ?_;refine aE 8 a (aY (d6 (k:=0) Z (eA e))) ?_;refine aj 9 4 a ?_;refine aE 13 a (aY (d6 (k:=0) Z (eA e))) ?_;refine aj 14 1 a ?_;refine aE 15 a (cu f) ?_;refine aj 17 3 a ?_;refine aE 20 a (aY (d6 (k:=0) Z (eA e))) ?_;refine aj 21 1 a ?_;refine aE 22 a (cu d) ?_;refine fp (is:=[16,23]) ld Z ⟨?_,?_,trivial⟩;refine dB (dJ (aY (aO (zO f)))) ?_;clear a;rintro _ _ ⟨rfl,rfl⟩;refine⟨aW,λa=>?_⟩;refine bQ 23 (dJ (aY (aO (zO d)))) λa=>?_;refine aE 24 a (cu d) ?_;refine cp 25 (fg (H5 d) (H4 d)) λa=>?_;refine aE 26 a (cu f) ?_;refine cp 27 (fg (H5 mv) (H4 mv)) λa=>?_;refine aS (bP (.inr Z) .nil ?_);exact acm;skip;refine dB (dJ (aY (aO (zO d)))) ?_;clear a;rintro _ _ ⟨rfl,rfl⟩;refine⟨aW,λa=>?_⟩;refine bQ 16 (dJ (aY (aO (zO f)))) λa=>?_;refine aE 24 a (cu d) ?_;refine cp 25 (fg (H5 d) (H4 d)) λa=>?_;refine aE 26 a (cu f) ?_;refine cp 27 (fg (H5 mv) (H4 mv)) λa=>?_;refine aS (bP (.inr Z) .nil ?_);exact acm
theorem a8W(pb w:Nat)(its:List Nat)(x:Nat)(cs:List Value):sQ W0 552 [xO pb w] (kB w pb (its++[x],cs)::R) (.iface 3 (iQ (x:Int))) (kB w pb (its,cs)::R):=by refine ru qu n4 cl λg c sp ho h1 h2 h3=>?_;have hl:(its++[x]).length=its.length+1:=n4;rw[hl]at h1 ⊢;have hg:(its++[x]).getD its.length default=x:=mv;have he:(its++[x]).flatMap mF++sp=its.flatMap mF++(mF x++sp):=n4;have hget:=zO (its:=its++[x]) (sp:=sp) (i:=its.length) aq;rw[hg]at hget;refine am func552 ntmps552 ?_;refine ac (aY (aO (eA ho))) ?_;refine ac (mY Z Z (aai:IntKind.wrap .i64 (((its.length+1:Nat):Int)-1)=((its.length:Nat):Int))) ?_;refine ac (aY (aO (eA ho))) ?_;refine ac (cu aq) ?_;refine ac (aY (aO hget)) ?_;refine ac (aY (aO (eA ho))) ?_;refine ac (qd jE bu Z Z Z aq) ?_;refine aJ (fg (by rw[Qal];exact ho) set_set) ?_;refine ag ?_;rw[he];exact⟨_,⟨Z,Z⟩,jJ (sp:=mF x++sp) qu Z Z ho Z (by omega) h2 (by rw[<-he];exact h3)⟩
theorem a8X(f w:Nat)(d:List Nat)(x:Nat)(g:List Value)(m:d.length<1000):sQ W0 553 [xO f w,.iface 3 (iQ (x:Int))] (kB w f (d,g)::R) (.tuple #[]) (kB w f (d++[x],g)::R):=by refine ve λa c e=>?_;have i:d.flatMap mF++[Value.int .i64 (x:Int)]=(d++[x]).flatMap mF:=n4;refine iW func553 ntmps553 Z Z ?_;refine bH [] 12 λb=>?_;refine aj 0 4 b ?_;refine aj 5 1 b ?_;refine aE 6 b (uN ez (λ_ h=>n8) Z) ?_;refine fp (is:=[4,7]) ld Z ⟨?_,?_,trivial⟩;refine dB (dJ (aY (aO (eA e)))) ?_;clear b;rintro _ _ ⟨rfl,rfl⟩;refine⟨aW,λb=>?_⟩;refine iw 7 ld Z Z (lG jE bu pq Z Z Z Z Z cl cl) Z ?_;clear b;rintro _ _ ⟨j,rfl,rfl⟩;refine⟨aW,λb=>?_⟩;refine co 8 (fR (sz:=1) (by_:=8) (info:=Tryz.t3) jE ld Z Z Z Z cl Z Z eQ Z Z n5 aq) ?_;clear b;rintro _ _ ⟨k,l,rfl,rfl⟩;refine⟨aW,λb=>?_⟩;refine aj 9 2 b ?_;refine cp 11 (fg mv set_set) λb=>?_;refine eY (bP (.inr Z) .nil ?_);exact⟨_,⟨Z,Z⟩,kz (its:=d++[x]) i Z e n4⟩;skip;refine lH Z Z (lG jE bu pq Z Z Z Z Z cl cl) Z ?_;clear b;rintro _ _ ⟨j,rfl,rfl⟩;refine⟨aW,λb=>?_⟩;refine bQ 4 (dJ (aY (aO (eA e)))) λb=>?_;refine co 8 (fR (sz:=1) (by_:=8) (info:=Tryz.t3) jE ld Z Z Z Z cl Z Z eQ Z Z n5 aq) ?_;clear b;rintro _ _ ⟨k,l,rfl,rfl⟩;refine⟨aW,λb=>?_⟩;refine aj 9 2 b ?_;refine cp 11 (fg mv set_set) λb=>?_;refine aS (bP (.inr Z) .nil ?_);exact⟨_,⟨Z,Z⟩,kz (its:=d++[x]) i Z e n4⟩
section
variable(w:World)(a:Addr)
theorem a8Y:(method (Tryz.prog.types.size+Made.depth) 407 (.pointer (some a)) "Len").run Tryz.prog w=.ok (264,.pointer (some a)) w:=ld
theorem a8Z:(method (Tryz.prog.types.size+Made.depth) 407 (.pointer (some a)) "Less").run Tryz.prog w=.ok (551,.pointer (some a)) w:=ld
theorem a80:(method (Tryz.prog.types.size+Made.depth) 407 (.pointer (some a)) "Swap").run Tryz.prog w=.ok (554,.pointer (some a)) w:=ld
theorem a81:(method (Tryz.prog.types.size+Made.depth) 407 (.pointer (some a)) "Push").run Tryz.prog w=.ok (553,.pointer (some a)) w:=ld
theorem a82:(method (Tryz.prog.types.size+Made.depth) 407 (.pointer (some a)) "Pop").run Tryz.prog w=.ok (552,.pointer (some a)) w:=ld
end
def Rj(W0:World)(pb w:Nat)(cs:List Value):HpO W0 Nat where
  T:=407
  p:=xO pb w
  el:=λx=>.iface 3 (.int .i64 (x:Int))
  H:=λl=>kB w pb (l,cs)
  fL:=264
  fE:=551
  fS:=554
  fU:=553
  fO:=552
  mL:=λu=>a8Y u _
  mE:=λu=>a8Z u _
  mS:=λu=>a80 u _
  mU:=λu=>a81 u _
  mO:=λu=>a82 u _
  cL:=Ov
  cE:=call551
  cS:=call554
  cU:=call553
  cO:=call552
  sL:=λR l=>H6 pb w l cs
  sE:=λR l i j hi hj=>a8U pb w l cs i j hi hj
  sS:=λR l i j hi hj=>a8V pb w l cs i j hi hj
  sU:=λR l x hl=>a8X pb w l x cs hl
  sO:=λR l x=>a8W pb w l x cs
theorem a83(c w:Nat)(b:List Nat)(x:Nat)(d:List Value)(e:b.length<900)(f:Hp.Heap b b.length):sP W0 50 [.iface 407 (xO c w),.iface 3 (iQ (x:Int))] (kB w c (b,d)::R) (λv B=>v=.tuple #[]/\∃a,B=kB w c (a,d)::R/\a.Perm (b++[x])/\Hp.Heap a a.length):=
  Hp.heapPush_spec (Rj W0 c w d) R b x e f
theorem a84(c w:Nat)(a:List Nat)(d:List Value)(e:a.length<900)(f:a≠[])(g:Hp.Heap a a.length):sP W0 117 [.iface 407 (xO c w)] (kB w c (a,d)::R) (λv B=>∃x b,v=.iface 3 (iQ ((x:Nat):Int))/\B=kB w c (b,d)::R/\(b++[x]).Perm a/\Hp.Heap b b.length/\∀y∈a,(x:Int)≤(y:Int)):=
  Hp.heapPop_spec (Rj W0 c w d) R a e f g
theorem KX(l:List ByteArray)(a:Option Addr)(n c:Nat)(j:l.length=n)(u:n<1000)(f:bZ (aQ W0 R) a 1 (λs=>[sV s]) l):sP W0 184 [.slice a n c] R (λv B=>∃g i,v=.slice g n i/\B=osl 9 1 (.slice g n i) (iZ l)::R):=by
 subst j;refine am func184 ntmps184 ?_;refine ac (zo tu Z Z) ?_;apply aB Z<;>intro e;refine au 7 (ag ?_);have k:l=[]:=by
  rcases l with _|⟨x,l⟩;rfl;obtain⟨b,o,h,_⟩:=f 0 x Z;rw[e]at h;cases h
 subst k;exact acj;have d:=f.src (λ_=>Z) (λ_=>trivial);rw[<-Ed]at d;refine fH (aA (aG (aM (aF Z (zp tu tt Z) ?_))));rintro _ _ ⟨w,rfl,rfl⟩;refine aw ?_
 refine aF Z (zv (sz:=1) (by_:=16) (info:=Tryz.t9) tu ld Z Z Z Z cl Z Z (news:=iZ l) (by
 rcases d with h|⟨m,p,q,r⟩;left;rw[h];rfl
 right;exact⟨m,p,q,r.weak⟩) (by rw[R0,QaP]) (a8Q l) n5 aq) ?_
 rintro _ _ ⟨t,e,rfl,rfl⟩;refine aw (ag ?_);rw[Qac,Qar];exact⟨_,⟨t,e,Z,Z⟩,IO⟩
theorem BV(p g n c i:Nat)(d:i<n):sQ W0 335 [pQ p,iQ i] (pt p (ae [.slice (some ⟨g,0,none⟩) n c,.bool true] 209)::R) (.pointer (some ⟨g,i*3,none⟩)) (pt p (ae [.slice (some ⟨g,0,none⟩) n c,.bool true] 209)::R):=by refine am func335 ntmps335 ?_;apply d7 Z Z Z<;>intro a;cases a;refine aw (d7 Z Z Z (λb=>?_) λb=>?_);omega;refine aw (aB Z (λe=>?_) λe=>?_);omega;refine aw (ac (cu d) ?_);exact ag ax
theorem Ef(p n c:Nat)(a:Option Addr)(i:Int)(f:¬(0≤i/\i<n)):sQ W0 335 [pQ p,iQ i] (pt p (ae [.slice a n c,.bool true] 209)::R) (.pointer none) (pt p (ae [.slice a n c,.bool true] 209)::R):=by refine am func335 ntmps335 ?_;apply d7 Z Z Z<;>intro b;cases b;refine aw ?_;apply fC<;>intro d;exact ag ax;apply aB Z<;>intro e;exact au 7 (ag ax);omega
abbrev H7(W0:World)(R:List HP)(g i:Nat)(x:Prt)(vi:Value):Prop:=bF (aQ W0 R) g (i*3) [.int .i64 x.lab,.int .i64 x.gu,vi]
theorem H8(p g n c i:Nat)(d:i<n)(x:Prt)(e:Value)(f:H7 W0 (pt p (ae [.slice (some ⟨g,0,none⟩) n c,.bool true] 209)::R) g i x e)(h:x.gu≠ -1):sQ W0 275 [pQ p,iQ i] (pt p (ae [.slice (some ⟨g,0,none⟩) n c,.bool true] 209)::R) (.pointer (some ⟨g,i*3,none⟩)) (pt p (ae [.slice (some ⟨g,0,none⟩) n c,.bool true] 209)::R):=by refine am Y1 ntmps275 ?_;refine ao (ar vL (BV p g n c i d)) ?_;apply d7 Z Z Z<;>intro a;cases a;refine aw (ac (aY (bF.weak f 1 _ Z)) ?_);apply ap<;>intro b;exact absurd b h;exact ag ax
theorem KY(p g n c i:Nat)(d:i<n)(x:Prt)(e:Value)(f:H7 W0 (pt p (ae [.slice (some ⟨g,0,none⟩) n c,.bool true] 209)::R) g i x e)(h:x.gu= -1):sQ W0 275 [pQ p,iQ i] (pt p (ae [.slice (some ⟨g,0,none⟩) n c,.bool true] 209)::R) (.pointer none) (pt p (ae [.slice (some ⟨g,0,none⟩) n c,.bool true] 209)::R):=by refine am Y1 ntmps275 ?_;refine ao (ar vL (BV p g n c i d)) ?_;apply d7 Z Z Z<;>intro a;cases a;refine aw (ac (aY (bF.weak f 1 _ Z)) ?_);apply ap<;>intro b;exact ag ax;exact absurd h b
theorem KZ(p n c:Nat)(a:Option Addr)(i:Int)(d:¬(0≤i/\i<n)):sQ W0 275 [pQ p,iQ i] (pt p (ae [.slice a n c,.bool true] 209)::R) (.pointer none) (pt p (ae [.slice a n c,.bool true] 209)::R):=by refine am Y1 ntmps275 ?_;refine ao (ar vL (Ef p n c a i d)) ?_;apply fC<;>intro b;exact ag ax;exact absurd Z b
def nT(x:Prt):Nat:=if x.gu= -1 then 64 else 4
def xP(x:Prt):Bool:=decide (nT x≤x.l.length)
theorem a85(g i:Nat)(x:Prt)(vi:Value)(hc:H7 W0 R g i x vi):sQ W0 336 [.pointer (some ⟨g,i*3,none⟩)] R (iQ (nT x:Nat)) R:=by refine am func336 ntmps336 ?_;refine ac (aY (bF.weak hc 1 _ Z)) ?_;apply ap<;>intro a;refine ag (aP ?_);rw[nT,Qad a];rfl;refine ag (aP ?_);rw[nT,Qab a];rfl
theorem Rk(g i:Nat)(x:Prt)(a:Option Addr)(c:Nat)(d:H7 W0 R g i x (.slice a x.l.length c)):sQ W0 276 [.pointer (some ⟨g,i*3,none⟩)] R (.bool (xP x)) R:=by refine am func276 ntmps276 ?_;refine dY [(g,i*3,[iQ x.lab,iQ x.gu,.slice a x.l.length c])] 9 mixed Z (dA d bI) (λb=>?_);refine aj 0 3 b ?_;refine aE 3 b (aY (n0 (k:=0) (j:=2) Z Z)) ?_;refine aj 4 2 b ?_;refine iX 6 Z Z (aK call336 (a85 g i x _ d)) (dA d bI) λb=>?_;refine aj 7 2 b ?_;refine aS (ag (aP (Qak Value.bool ?_)));rw[xP,Qah,Qag,Qag];omega
def kC(x:Prt)(s:ByteArray):Prt:=if xP x then x else { x with l:=x.l++[s] }
theorem Rl(g i:Nat)(x:Prt)(a:Option Addr)(c:Nat)(b:List Value)(s:ByteArray)(d:(b.drop (i*3)).take 3=[iQ x.lab,iQ x.gu,.slice a x.l.length c])(r:x.l.length<1000)(n:i*3+3≤b.length):sP W0 277 [.pointer (some ⟨g,i*3,none⟩),sV s] (pt g (ae b 212)::osl 9 1 (.slice a x.l.length c) (iZ x.l)::R) (λv B=>v=.tuple #[]/\∃k m,B=pt g (ae (b.set (i*3+2) (.slice k (kC x s).l.length m)) 212)::osl 9 1 (.slice k (kC x s).l.length m) (iZ (kC x s).l)::R):=by
 have e:b[i*3+2]?=some (.slice a x.l.length c):=by
  have:=Qak (λl=>l[2]?) d;simpa[List.getElem?_take,QbP]using this
 refine am func277 ntmps277 ?_;refine ao (aK call276 (Rk g i x a c (cT d Z))) ?_;apply ap<;>intro f;have h:xP x=false:=by simpa using f
 have j:kC x s={ x with l:=x.l++[s] }:=by rw[kC,h,Qab cl]
 refine ac (aY (aO e)) ?_;refine dh (lG tu tt zeroValue9 Z Z Z Z Z cl cl) λt=>?_;refine aF Z (fR (sz:=1) (by_:=16) (info:=Tryz.t9) tu ld Z Z Z Z cl Z Z eQ Z Z n5 aq) ?_;rintro _ _ ⟨o,p,rfl,rfl⟩;refine aw (aJ (fg aq Z) ?_);refine bP (.inr Z) .nil ?_;rw[j];have q:(x.l++[s]).length=x.l.length+1:=n4;refine⟨_,⟨Z,o,p,Z⟩,?_⟩;dsimp only;rw[q,a8R,show iZ [s]=[sV s]from Z];exact IO;have h:xP x=true:=by simpa using f
 have j:kC x s=x:=by rw[kC,Qad h]
 refine bP (.inr Z) .nil ?_;rw[j];refine⟨_,⟨Z,a,c,Z⟩,?_⟩;rw[KU e];exact IO
def rz(ps:List Prt)(i:Int):Bool:=decide (0≤i/\i<ps.length)
theorem qv{i}:rz ps i=true↔0≤i/\i<ps.length:=by simp[rz]
def nU(ps:List Prt)(i:Int):Prt:=ps.getD i.toNat default
def vj(ps:List Prt):Prop:=ps.length≤8/\∀x∈ps,x.l.length≤nT x
theorem vj.at_(h:vj ps)(a:i<ps.length):(ps.getD i default).l.length≤nT (ps.getD i default):=by rw[show ps.getD i default=ps[i] by simp[List.getD,a]];exact h.2 _ (QaC a)
theorem L6 x:nT x≤64:=by unfold nT;split<;>omega
theorem vj.set(h:vj ps){x:Prt}(a:x.l.length≤nT x):vj (ps.set i x):=⟨by simpa using h.1,λy b=>by
 rcases Qbm b with q|q;exact h.2 y q
 rw[q];exact a⟩
theorem a86{x:Prt}(h:x.l.length≤nT x):(kC x s).l.length≤nT (kC x s):=by grind[kC,nT,xP]
theorem Rm x s:{ x with l:=(kC x s).l }=kC x s:=by unfold kC;split<;>rfl
def wj(ps:List Prt)(f t:Int)(s:ByteArray):Bool:=rz ps f&&rz ps t&&decide (s.size≤32)&&qY (nU ps f).lab (nU ps t).lab
def rA(ps:List Prt)(f t:Int)(s:ByteArray):List Prt:=if wj ps f t s then ps.set t.toNat (kC (nU ps t) s)else ps
theorem a87(p:Nat)(d:List Prt)(f t:Int)(s:ByteArray)(h:¬(rz d f=true/\rz d t=true)):sQ W0 380 [pQ p,iQ f,iQ t,sV s] (dC p d::R) (.tuple #[]) (dC p d::R):=by
 by_cases r:rz d f=true;have m:¬rz d t=true:=λq=>h ⟨r,q⟩;obtain⟨i,rfl,j⟩:∃i:Nat,f=(i:Int)/\i<d.length:=⟨f.toNat,by have:=qv.1 r;omega,by have:=qv.1 r;omega⟩
 have k:¬(0≤t/\t<d.length):=λq=>m (qv.2 q);refine am Ow ntmps380 ?_;refine vg (p:=p) j λg c y x A B n l u v w=>?_;refine aw (ao (ar vL (BV p g d.length c i j)) ?_);refine ao (ar vL (Ef p d.length c (some ⟨g,0,none⟩) t k)) ?_;apply d7 Z Z Z<;>intro b;cases b;refine aw ?_;apply fC<;>intro e;refine bP (.inl Z) .nil ?_;exact⟨_,⟨Z,Z⟩,tQ n l Z j u v w⟩;exact absurd Z e;have o:¬(0≤f/\f<d.length):=λq=>r (qv.2 q);by_cases m:rz d t=true;obtain⟨i,rfl,j⟩:∃i:Nat,t=(i:Int)/\i<d.length:=⟨t.toNat,by have:=qv.1 m;omega,by have:=qv.1 m;omega⟩
 refine am Ow ntmps380 ?_;refine vg (p:=p) j λg c y x A B n l u v w=>?_;refine aw (ao (ar vL (Ef p d.length c (some ⟨g,0,none⟩) f o)) ?_);refine ao (ar vL (BV p g d.length c i j)) ?_;apply fC<;>intro b;refine bP (.inl Z) .nil ?_;exact⟨_,⟨Z,Z⟩,tQ n l Z j u v w⟩;exact absurd Z b;have k:¬(0≤t/\t<d.length):=λq=>m (qv.2 q);refine am Ow ntmps380 ?_;refine Ee (p:=p) λa c x n=>?_;refine aw (ao (ar vL (Ef p d.length c a f o)) ?_);refine ao (ar vL (Ef p d.length c a t k)) ?_;apply fC<;>intro b;refine bP (.inl Z) .nil ?_;exact⟨_,⟨Z,Z⟩,BR n Z⟩;exact absurd Z b
theorem a88(p:Nat)(a:List Prt)(y:vj a)(f t:Int)(s:ByteArray)(P:s.size<9223372036854775808):sQ W0 380 [pQ p,iQ f,iQ t,sV s] (dC p a::R) (.tuple #[]) (dC p (rA a f t s)::R):=by
 by_cases h:rz a f=true/\rz a t=true;obtain⟨A,B⟩:=h;obtain⟨i,rfl,C⟩:∃i:Nat,f=(i:Int)/\i<a.length:=⟨f.toNat,by have:=qv.1 A;omega,by have:=qv.1 A;omega⟩
 obtain⟨j,rfl,b⟩:∃j:Nat,t=(j:Int)/\j<a.length:=⟨t.toNat,by have:=qv.1 B;omega,by have:=qv.1 B;omega⟩
 have Q:=y.at_ b;have S:=L6 (a.getD j default);have D:¬s.size≤32->rA a i j s=a:=λq=>by rw[rA,wj,Qat q];simp
 have E:¬qY (a.getD i default).lab (a.getD j default).lab=true->rA a i j s=a:=λq=>by
  have:wj a i j s=false:=by
   rw[<-QaI];intro k;simp only[wj,Qam]at k;exact q k.2
  rw[rA,this,Qab cl]
 have F:s.size≤32->qY (a.getD i default).lab (a.getD j default).lab=true->rA a i j s=a.set j (kC (a.getD j default) s):=λT U=>by
  have:wj a i j s=true:=by
   simp only[wj,Qam,Qag];exact⟨⟨⟨A,B⟩,T⟩,U⟩
  rw[rA,Qad this];rfl
 refine am Ow ntmps380 ?_;refine vg (p:=p) b λg c w x N O d n G H I=>?_;have o:=wi (sp:=w) d b n;obtain⟨J,K⟩:∃J,x[i]?=some J:=⟨x[i]' aq,by simp[d,C]⟩
 have r:=wi (sp:=w) d C K;refine aw (ao (ar vL (BV p g a.length c i C)) ?_);refine ao (ar vL (BV p g a.length c j b)) ?_;apply d7 ρ ρ ρ<;>intro e;cases e;refine aw (d7 ρ ρ ρ (λm=>?_) λm=>?_);cases m;refine aw (ac (pZ mr ρ) ?_);apply ap<;>intro V;rw[D aq];refine bP (.inl ρ) .nil ?_;exact⟨_,⟨ρ,ρ⟩,tQ d n ρ b G H I⟩;have u:s.size≤32:=aq;refine dY [(g,i*3,[iQ (a.getD i default).lab,iQ (a.getD i default).gu,J]),(g,j*3,[iQ (a.getD j default).lab,iQ (a.getD j default).gu,.slice N (a.getD j default).l.length O])] 11 mixed ρ (dA (cT r ρ) (dA (cT o ρ) bI)) (λv=>?_);refine aj 0 4 v ?_;refine aE 4 v (aY (n0 (k:=0) (j:=0) ρ ρ)) ?_;refine aj 5 4 v ?_;refine aE 9 v (aY (n0 (k:=1) (j:=0) ρ ρ)) ?_;refine iX 10 ρ ρ (aK Oo (GE (a.getD i default).lab (a.getD j default).lab)) (dA (cT r ρ) (dA (cT o ρ) bI)) λv=>?_;refine aS (ap (λL=>?_) λL=>?_);refine aF ρ (dj call277 (Rl g j (a.getD j default) N O ((x.zip a).flatMap kA++w) s o aq (by rw[Qaf,dy BQ];simp[d];omega))) ?_;rintro _ Z ⟨rfl,W,X,M⟩;subst M;refine aw (bP (.inr ρ) .nil ?_);rw[F u L, <-Rm];exact⟨_,⟨ρ,ρ⟩,H0 (p:=p) (g:=g) (ps:=a) (i:=j) (vs:=x) (sp:=w) (vi:=.slice W (kC (a.getD j default) s).l.length X) (KV d b) ρ d ρ b G H (by rw[Qal];exact I)⟩;refine bP (.inr ρ) .nil ?_;rw[E L];exact⟨_,⟨ρ,ρ⟩,tQ d n ρ b G H I⟩;have Y:rA a f t s=a:=by
  have:wj a f t s=false:=by
   rw[<-QaI];intro k;simp only[wj,Qam]at k;exact h ⟨k.1.1.1,k.1.1.2⟩
  rw[rA,this,Qab cl]
 rw[Y];exact a87 p a f t s h
def tT(ps:List Prt)(i:Int):Bool:=rz ps i&&decide ((nU ps i).gu≠ -1)
theorem BW{ps i}(h:tT ps i=true):∃k:Nat,i=k/\k<ps.length/\(ps.getD k default).gu≠ -1:=by simp only[tT,Qam,Qag]at h;have:=qv.1 h.1;exact⟨i.toNat,aq,aq,h.2⟩
theorem L8{ps i}(h:¬tT ps i=true):(¬(0≤i/\i<ps.length))\/∃k:Nat,i=k/\k<ps.length/\(ps.getD k default).gu= -1:=by by_cases q:0≤i/\i<ps.length;right;refine⟨i.toNat,aq,aq,?_⟩;apply QbG;intro a;exact h (by simp only[tT,Qam,Qag];exact⟨qv.2 q,a⟩);exact .inl q
def qw(ps:List Prt)(i:Int)(s:ByteArray):Int:=if tT ps i then(if 32<s.size then 10 else if xP (nU ps i)then 2 else 0)else 3
def qx(ps:List Prt)(i:Int)(s:ByteArray):List Prt:=if qw ps i s=0 then ps.set i.toNat (kC (nU ps i) s)else ps
theorem a89(p:Nat)(d:List Prt)(i:Int)(s:ByteArray)(h:¬tT d i=true):sQ W0 189 [pQ p,iQ i,sV s] (dC p d::R) (iQ 3) (dC p d::R):=by rcases L8 h with hi|⟨k,rfl,l,o⟩;refine am Y2 ntmps189 ?_;refine Ee (p:=p) λa c q m=>?_;refine aw (d7 Z Z Z (λb=>?_) λb=>?_);cases b;refine aw (ap (λe=>?_) λe=>?_);exact absurd Z e;refine cW 12 (ar xm (KZ p d.length c a i hi)) ?_;apply ap<;>intro f;exact ag ⟨_,⟨Z,Z⟩,BR m Z⟩;exact absurd Z f;skip;refine am Y2 ntmps189 ?_;refine vg (p:=p) l λg c r q w x m j t u v=>?_;have n:=wi (sp:=r) m l j;refine aw (d7 Z Z Z (λb=>?_) λb=>?_);cases b;refine aw (ap (λe=>?_) λe=>?_);exact absurd Z e;refine cW 12 (ar xm (KY p g d.length c k l (d.getD k default) _ (cT n Z) o)) ?_;apply ap<;>intro f;exact ag ⟨_,⟨Z,Z⟩,tQ m j Z l t u v⟩;exact absurd Z f
theorem a9a(p:Nat)(a:List Prt)(n:vj a)(i:Int)(s:ByteArray)(D:s.size<9223372036854775808):sQ W0 189 [pQ p,iQ i,sV s] (dC p a::R) (iQ (qw a i s)) (dC p (qx a i s)::R):=by
 by_cases h:tT a i=true;obtain⟨k,rfl,b,E⟩:=BW h;have F:=n.at_ b;have G:=L6 (a.getD k default);have o:qw a k s=if 32<s.size then 10 else if xP (a.getD k default)then 2 else 0:=by rw[qw,Qad h];rfl
 refine am Y2 ntmps189 ?_;refine vg (p:=p) b λg c q x y A m e r t u=>?_;have f:=wi (sp:=q) m b e;refine aw (d7 Z Z Z (λd=>?_) λd=>?_);cases d;refine aw (ap (λB=>?_) λB=>?_);exact absurd Z B;refine cW 12 (ar xm (H8 p g a.length c k b (a.getD k default) _ (cT f Z) E)) ?_;apply aB Z<;>intro C;cases C;refine aw (jU 4 (pZ mr Z) ?_);apply ap<;>intro H;refine ag ?_;have j:qw a k s=10:=by rw[o,Qad aq]
 rw[qx,j,Qab cl];exact⟨_,⟨Z,Z⟩,tQ m e Z b r t u⟩;refine ao (aK call276 (Rk g k (a.getD k default) y A (cT f Z))) ?_;apply ap<;>intro v;refine ag ?_;have j:qw a k s=2:=by rw[o,Qab aq,Qad v]
 rw[qx,j,Qab cl];exact⟨_,⟨Z,Z⟩,tQ m e Z b r t u⟩;refine aF Z (dj call277 (Rl g k (a.getD k default) y A ((x.zip a).flatMap kA++q) s f aq (by rw[Qaf,dy BQ];simp[m];omega))) ?_;rintro _ K ⟨rfl,I,J,w⟩;subst w;refine aw (ag ?_);have j:qw a k s=0:=by rw[o,Qab aq,Qab v]
 rw[qx,j,Qad Z,show a.set (k:Int).toNat (kC (nU a k) s)=a.set k { a.getD k default with l:=(kC (a.getD k default) s).l } by rw[Rm];rfl];exact⟨_,⟨Z,Z⟩,H0 (p:=p) (g:=g) (ps:=a) (i:=k) (vs:=x) (sp:=q) (vi:=.slice I (kC (a.getD k default) s).l.length J) (KV m b) Z m Z b r t (by rw[Qal];exact u)⟩;have j:qw a i s=3:=by rw[qw,Qab h]
 rw[qx,j,Qab cl];exact a89 p a i s h
def H9(ps:List Prt)(i:Int):Nat:=if tT ps i then(nU ps i).l.length else 0
theorem a9b(p:Nat)(ps:List Prt)(i:Int):sQ W0 192 [pQ p,iQ i] (dC p ps::R) (iQ (H9 ps i:Nat)) (dC p ps::R):=by by_cases h:tT ps i=true;obtain⟨k,rfl,d,o⟩:=BW h;rw[H9,Qad h];refine am Y3 ntmps192 ?_;refine vg (p:=p) d λg c m n q r j b s t u=>?_;have e:=wi (sp:=m) j d b;have v:bF (aQ W0 (pt p (ae [.slice (some ⟨g,0,none⟩) ps.length c,.bool true] 209)::pt g (ae ((n.zip ps).flatMap kA++m) 212)::osl 9 1 (.slice q (ps.getD k default).l.length r) (iZ (ps.getD k default).l)::kH 3 (bB (((n.zip ps).map j0).eraseIdx k))::R)) g (k*3) [iQ (ps.getD k default).lab,iQ (ps.getD k default).gu,.slice q (ps.getD k default).l.length r]:=cT e Z;refine aw (cW 10 (ar xm (H8 p g ps.length c k d (ps.getD k default) _ (cT e Z) o)) ?_);apply aB Z<;>intro f;cases f;refine aw (jU 5 (aY (bF.weak v 2 _ Z)) ?_);exact ag ⟨_,⟨Z,Z⟩,tQ j b Z d s t u⟩;rw[H9,Qab h];rcases L8 h with hi|⟨k,rfl,d,o⟩;refine am Y3 ntmps192 ?_;refine Ee (p:=p) λa c n j=>?_;refine aw (cW 10 (ar xm (KZ p ps.length c a i hi)) ?_);apply ap<;>intro f;exact ag ⟨_,⟨Z,Z⟩,BR j Z⟩;exact absurd Z f;skip;refine am Y3 ntmps192 ?_;refine vg (p:=p) d λg c m n q r j b s t u=>?_;have e:=wi (sp:=m) j d b;refine aw (cW 10 (ar xm (KY p g ps.length c k d (ps.getD k default) _ (cT e Z) o)) ?_);apply ap<;>intro f;exact ag ⟨_,⟨Z,Z⟩,tQ j b Z d s t u⟩;exact absurd Z f
def tU(ps:List Prt)(i:Int):Bool:=tT ps i&&decide ((nU ps i).l≠[])
def oI(ps:List Prt)(i:Int):ByteArray:=if tU ps i then(nU ps i).l.headD ByteArray.empty else ByteArray.empty
def xQ(ps:List Prt)(i:Int):List Prt:=if tU ps i then ps.set i.toNat { nU ps i with l:=(nU ps i).l.tail }else ps
theorem a9c(p:Nat)(b:List Prt)(K:vj b)(i:Int):sQ W0 195 [pQ p,iQ i] (dC p b::R) (.tuple #[sV (oI b i),.bool (tU b i)]) (dC p (xQ b i)::R):=by
 by_cases h:tT b i=true;obtain⟨k,rfl,e,I⟩:=BW h;have T:=K.at_ e;have U:=L6 (b.getD k default);have B:nU b k=b.getD k default:=ρ;by_cases J:(b.getD k default).l=[];have C:tU b k=false:=by rw[tU,B,Qat (λq=>q J),QcO]
 rw[oI,xQ,C,Qab cl,Qab cl];refine am Ox ntmps195 ?_;refine vg (p:=p) e λg c w x y u o f D F G=>?_;have m:=wi (sp:=w) o e f;have r:bF (aQ W0 (pt p (ae [.slice (some ⟨g,0,none⟩) b.length c,.bool true] 209)::pt g (ae ((x.zip b).flatMap kA++w) 212)::osl 9 1 (.slice y (b.getD k default).l.length u) (iZ (b.getD k default).l)::kH 3 (bB (((x.zip b).map j0).eraseIdx k))::R)) g (k*3) [iQ (b.getD k default).lab,iQ (b.getD k default).gu,.slice y (b.getD k default).l.length u]:=cT m ρ;have X:(b.getD k default).l.length=0:=by rw[J];rfl
 refine aw (ao (ar xm (H8 p g b.length c k e (b.getD k default) _ (cT m ρ) I)) ?_);apply d7 ρ ρ ρ<;>intro d;cases d;refine aw (ac (aY (bF.weak r 2 _ ρ)) ?_);apply aB ρ<;>intro L;exact au 8 (aZ ⟨_,⟨ρ,ρ⟩,tQ o f ρ e D F G⟩);omega;obtain⟨s,t,v⟩:∃s t,(b.getD k default).l=s::t:=by
  cases V:(b.getD k default).l with
  |nil=>exact absurd V J
  |cons s t=>exact⟨s,t,ρ⟩
 have C:tU b k=true:=by rw[tU,B,h,Qav J];rfl
 have W:(b.getD k default).l.length=t.length+1:=by rw[v];rfl
 rw[oI,xQ,C,Qad ρ,Qad ρ,B,v,show b.set (k:Int).toNat { b.getD k default with l:=(s::t).tail }=b.set k { b.getD k default with l:=t }from ρ];refine am Ox ntmps195 ?_;refine vg (p:=p) e λg c w x y u o f D F G=>?_;have m:=wi (sp:=w) o e f;have r:bF (aQ W0 (pt p (ae [.slice (some ⟨g,0,none⟩) b.length c,.bool true] 209)::pt g (ae ((x.zip b).flatMap kA++w) 212)::osl 9 1 (.slice y (b.getD k default).l.length u) (iZ (b.getD k default).l)::kH 3 (bB (((x.zip b).map j0).eraseIdx k))::R)) g (k*3) [iQ (b.getD k default).lab,iQ (b.getD k default).gu,.slice y (b.getD k default).l.length u]:=cT m ρ;refine aw (ao (ar xm (H8 p g b.length c k e (b.getD k default) _ (cT m ρ) I)) ?_);apply d7 ρ ρ ρ<;>intro d;cases d;refine aw (ac (aY (bF.weak r 2 _ ρ)) ?_);apply aB ρ<;>intro L;omega;refine aw (jV (E:=9) (sz:=1) (a:=y) (n:=(b.getD k default).l.length) (c:=u) (λs=>[sV s]) (b.getD k default).l (λ_=>ρ) cl (Ed _) (λO=>?_));refine qZ (E:=9) (sz:=1) (a:=y) (c:=u) (n:=(b.getD k default).l.length) (λP=>?_);obtain⟨Y,Z,rfl,H⟩:=O.at_ (i:=0) aq;have M:(b.getD k default).l[0]' aq=s:=by simp only[v];rfl
 rw[M]at H;refine aw (ac (aY (bF.weak r 2 _ ρ)) ?_);refine ac (kP tu tt ρ ρ (j:=0) ρ aq dg) ?_;refine ac (aY (bF.weak H 0 _ ρ)) ?_;refine ac (aY (bF.weak r 2 _ ρ)) ?_;refine ac (qm tu tt ρ (i:=1) ρ ρ aq ρ) ?_;refine aF ρ (aK Y4 (KX t _ ((b.getD k default).l.length-1) (u-1) aq aq (by have A:=O.sub (c:=u) (i:=1) (k:=t.length) aq aq;rw[show((b.getD k default).l.drop 1).take t.length=t by rw[v];simp]at A;exact A))) ?_;rintro _ B_ ⟨Q,S,rfl,N⟩;subst N;refine aw (aJ (fg (by rw[Qaf,dy BQ];simp[o];omega) ρ) ?_);exact aZ ⟨_,⟨ρ,ρ⟩,(Ent.ofPerm (qi (r1:=pt) (b1:=p) (r2:=pt) (b2:=g) (r3:=osl 9 1) (b3:=.slice Q ((b.getD k default).l.length-1) S))).trans (H0 (p:=p) (g:=g) (ps:=b) (i:=k) (vs:=x) (sp:=w) (vi:=.slice Q ((b.getD k default).l.length-1) S) (KV o e) ρ o ρ e D F (by rw[Qal];exact G))⟩;have C:tU b i=false:=by simp[tU,h]
 rw[oI,xQ,C,Qab cl,Qab cl];rcases L8 h with hi|⟨k,rfl,e,I⟩;refine am Ox ntmps195 ?_;refine Ee (p:=p) λa c x o=>?_;refine aw (ao (ar xm (KZ p b.length c a i hi)) ?_);apply fC<;>intro d;exact aZ ⟨_,⟨ρ,ρ⟩,BR o ρ⟩;exact absurd ρ d;skip;refine am Ox ntmps195 ?_;refine vg (p:=p) e λg c w x y u o f D F G=>?_;have m:=wi (sp:=w) o e f;refine aw (ao (ar xm (KY p g b.length c k e (b.getD k default) _ (cT m ρ) I)) ?_);apply fC<;>intro d;exact aZ ⟨_,⟨ρ,ρ⟩,tQ o f ρ e D F G⟩;exact absurd ρ d
abbrev tV:=Int×Int
@[reducible] def a9d(x:tV):List Value:=[.int .i64 x.1,.int .i64 x.2]
def pG(l:List tV):List Prt:=l.map λx=>⟨x.1,x.2,[]⟩
theorem L9 l:(pG l).length=l.length:=by simp[pG]
theorem a9e{l}(h:l.length≤8):vj (pG l):=⟨by rw[L9];exact h,λx a=>by
 obtain⟨y,_,rfl⟩:=QaZ.1 a
 exact Qay _⟩
def iA:Value:=.slice none 0 0
theorem Ro{R}:∀l,Ent R (kH 2 (bB (((List.replicate l.length iA).zip (pG l)).map j0))::R)
 |[]=>ke (A:=[])
 |x::l=>by
  have a:=Ro (R:=R) l;refine a.trans ?_;refine(kd (A:=((List.replicate l.length iA).zip (pG l)).map j0) (R:=R)).trans ?_;refine(eW (E:=9) (sz:=1) (B:=((List.replicate l.length iA).zip (pG l)).map j0++R)).trans ?_;exact ke (A:=j0 (iA,⟨x.1,x.2,[]⟩)::((List.replicate l.length iA).zip (pG l)).map j0) (R:=R)
theorem a9f l:((List.replicate l.length iA).zip (pG l)).flatMap kA=l.flatMap λx=>[iQ x.1,iQ x.2,iA]:=by
 induction l with
 |nil=>rfl
 |cons x l a=>
  rw[QaT, <-a];rfl
theorem a9g(l:List tV)(a:Option Addr)(n c:Nat)(k:l.length=n)(G:n≤8)(w:bZ (aQ W0 R) a 2 a9d l)(h:∀x∈l,kR x.1=true):sP W0 55 [.slice a n c] R (λv B=>∃p,v=.tuple #[pQ p,iQ 0]/\B=dC p (pG l)::R):=by
 subst k;refine am func55 ntmps55 ?_;apply aB Z<;>intro y;omega;refine aw ?_;refine bR λp=>?_;refine fI (λX:Nat×Option Addr×Nat=>X.1≤l.length) (λX=>[(4,pQ p),(12,.slice a l.length c),(13,iQ (l.length:Nat)),(14,iQ X.1)]) (λX=>pt p (ae [.slice X.2.1 X.1 X.2.2,.bool true] 209)::osl 212 3 (.slice X.2.1 X.1 X.2.2) ((l.take X.1).flatMap λx=>[iQ x.1,iQ x.2,iA])::R) (λX=>l.length-X.1) (0,none,0) ?_ ?_ ?_ ?_;exact Qay _
 · exact eb
 exact(Ent.cons (eW (E:=212) (sz:=3)));intro ⟨i,H,I⟩ hi;dsimp only at hi ⊢;refine aw (aB Z (λA=>?_) λA=>?_);have d:i<l.length:=aq;obtain⟨g,o,rfl,C⟩:=w.at_ d;have q:=h _ (QaC d);have j:l.take (i+1)=l.take i++[l[i]]:=Qap d;refine fH (aA (aG (jR (aG (aM (aa Z (cu d) ?_))))));refine aa Z (cV C.weak) ?_;refine dT (cP c2q) λD=>?_;refine eM (eN AV Z Z Z Z Z) ?_;rintro _ _ rfl;refine aI (aA (aG (aG (aM ?_))));refine aa Z (bT Z XA Z bu Z dg) ?_;refine aa Z (bO cM Z (aO Z)) ?_;refine aF Z (aK call102 (PV l[i].1)) ?_;rintro _ J ⟨m,rfl,t,r⟩;subst r;rw[q]at t;have s:¬m<0:=by simpa using t
 refine aa Z (tB Z Z) (aI (aA ?_));apply aB Z<;>intro u;exact absurd u s;refine fH (aA ?_);refine bH [D] 12 λb=>?_;refine aj 0 4 b ?_;refine aj 5 1 b ?_;refine aE 6 b (eH c1R Y5 (aT AV (aT sizeOf210 eG)) (iU Z AV Z Z (Qaa Z) SetRL.eq eE)) ?_;refine fp (is:=[4,7]) ld Z ⟨?_,?_,trivial⟩;refine dB (dJ (aY (aO Z))) ?_;clear b;rintro _ _ ⟨rfl,rfl⟩;refine⟨aW,λb=>?_⟩;refine iw 7 ld Z Z (ji Jf Xj Y5 Z (fK Z Z iH) Z cl cl cl) Z ?_;clear b;rintro _ _ ⟨F,rfl,rfl⟩;refine⟨aW,λb=>?_⟩;refine co 8 (fR (sz:=3) (by_:=40) (info:=Tryz.t212) Jf ld Z Z Z Z cl Z Z eQ Z Z n5 aq) ?_;clear b;rintro _ _ ⟨e,f,rfl,rfl⟩;refine⟨aW,λb=>?_⟩;refine aj 9 2 b ?_;refine cp 11 dr λb=>?_;refine eY (lY (aA (aM ?_)));refine aa Z (dI Z Z ph) ?_;refine aa Z (aV Z) (aI (aA ?_));refine d8 (i+1,e,f) ?_ (he:=?_);omega;dsimp only;rw[j,Qbg];show Ent _ (pt p (ae [.slice e (i+1) f,.bool true] 209)::osl 212 3 (.slice e (i+1) f) (((l.take i).flatMap λx=>[iQ x.1,iQ x.2,iA])++[[iQ l[i].1,iQ l[i].2,.slice none 0 0]].flatten)::R);exact IO;skip;refine lH Z Z (ji Jf Xj Y5 Z (fK Z Z iH) Z cl cl cl) Z ?_;clear b;rintro _ _ ⟨F,rfl,rfl⟩;refine⟨aW,λb=>?_⟩;refine bQ 4 (dJ (aY (aO Z))) λb=>?_;refine co 8 (fR (sz:=3) (by_:=40) (info:=Tryz.t212) Jf ld Z Z Z Z cl Z Z eQ Z Z n5 aq) ?_;clear b;rintro _ _ ⟨e,f,rfl,rfl⟩;refine⟨aW,λb=>?_⟩;refine aj 9 2 b ?_;refine cp 11 dr λb=>?_;refine aS (ac cK (d8 (i+1,e,f) ?_ (he:=?_)));omega;dsimp only;rw[j,Qbg];show Ent _ (pt p (ae [.slice e (i+1) f,.bool true] 209)::osl 212 3 (.slice e (i+1) f) (((l.take i).flatMap λx=>[iQ x.1,iQ x.2,iA])++[[iQ l[i].1,iQ l[i].2,.slice none 0 0]].flatten)::R);exact IO;refine aw (aZ ?_);obtain rfl:i=l.length:=aq;rw[QaJ (Qai _), <-a9f l];refine⟨_,⟨p,Z,Z⟩,?_⟩;exact(Ent.cons (Ent.cons (Ro (R:=R) l))).trans (BR (by rw[Qbz,L9]) (L9 l).symm)
end
variable {ps:List Prt}
end Go.Proofs.YtjaalpinjajaoaaGreatDoor
