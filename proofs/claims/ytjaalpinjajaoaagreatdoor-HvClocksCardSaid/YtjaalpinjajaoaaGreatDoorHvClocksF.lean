/-
  Part 6 of the proof of HvClocks: rules, and walks of functions. Conditions: none.
-/
import Derived.Test.YtjaalpinjajaoaaGreatDoorHvClocksE
namespace Go.Proofs.YtjaalpinjajaoaaGreatDoor
open Go.Proofs.Tryz
set_option linter.unusedSimpArgs false
set_option linter.unusedVariables false
set_option maxRecDepth 20000
set_option linter.defProp false
set_option synthInstance.maxSize 8192
set_option synthInstance.maxHeartbeats 2000000
variable{W0:World}{R:List HP}
variable {on tx user:Bool}{c:Cfg}{now p port root t w who:Int}{us:List Bool}{l:List Dsc}{A R:List HP}{D bs words ws:List Nat}{pg:List Pl}{its:List VIt}{xs:List Value}{fr:List az}{N b d f i k len n va:Nat}{a:Option Addr}{po:Po}{s:QS}{v:Value}{W0:World}
section
open Go.RowKit
structure Li where
  w : Bool
  m : Bool
  p : Int
  s : Int
  hs : 0 ≤ s ∧ s < 10000000000000000000
variable {ls:List Li}
instance:Inhabited Li:=⟨⟨false,false,0,0,by decide⟩⟩
@[reducible] def uf(x:Li):List Value:=[.bool x.w,.bool x.m,.int .i64 x.p,.int .i64 x.s]
theorem yp x:(uf x).length=4:=Z
def dN(ls:List Li)(now:Int):List Value:=ls.flatMap uf++[.slice none 0 0,.int .i64 now,.bool true]
theorem wO(h:ls.length=8):(dN ls now).length=35:=by rw[dN,Qaf,dy yp,h];rfl
theorem b5p(h:ls.length=8):(dN ls now)[34]?=some (.bool true):=by rw[dN,Qbj (by rw[dy yp,h];decide),dy yp,h];rfl
theorem UW(h:ls.length=8):(dN ls now)[33]?=some (iQ now):=by rw[dN,Qbj (by rw[dy yp,h];decide),dy yp,h];rfl
theorem b5q{j:Nat}(a:n<ls.length)(b:j<4):(dN ls now)[n*4+j]?=(uf (ls.getD n default))[j]?:=by simp_all[dN,tE,yp]
theorem UX{T E:TypeId}{sz o a:Nat}{α:Type}{f:α->List Value}{its:List α}{cs vs:List Value}[hk:Tk (pF T E sz f o) b A (its,cs) R](h:∀j v,vs[j]?=some v->a+j≠o/\cs[a+j]?=some v):bF (aQ W0 A) b a vs:=
  λj v c=>E9 (o:=o) (f:=f) (T:=T) (E:=E) (sz:=sz) (h j v c).1 (h j v c).2
theorem UY(b:Nat)(c:List VIt)(e:List Li)(d:Int)(h:e.length=8):sQ W0 201 [pV b] (eu b (c,dN e d)::R) (.bool false) (eu b (c,dN e d)::R):=by refine am func201 ntmps201 ?_;apply d7 Z Z Z<;>intro a;cases a;refine aw (ac (aY (E9 (b:=b) (T:=324) (E:=348) (sz:=3) (f:=iC) (o:=32) cl (b5p h))) ?_);exact ki
def dR(n:Int):Bool:=decide (0≤n/\n<8)
theorem yq(b:Nat)(a:List VIt)(d:List Li)(c:Int)(h:d.length=8)(n:Int):sQ W0 185 [pV b,iQ n] (eu b (a,dN d c)::R) (iQ (if dR n then 0 else 1)) (eu b (a,dN d c)::R):=by refine am func185 ntmps185 ?_;refine ao (ar call201 (UY b a d c h)) ?_;apply ap<;>intro e;refine ag ?_;rw[Qab (by grind[dR])];exact ax;apply ap<;>intro f;refine ag ?_;rw[Qab (by grind[dR])];exact ax;refine ag ?_;rw[Qad (by grind[dR])];exact ax
theorem b5r(b:Nat)(a:List VIt)(d:List Value)(i:Nat)(e:a.length<900)(f:i<a.length)(g:Hp.Heap a a.length):sP W0 334 [.iface 349 (wN b),iQ i] (eu b (a,d)::R) (λv B=>∃c,v=.iface 348 (.agg (iC (a.getD i default)).toArray)/\B=eu b (c,d)::R/\(c++[a.getD i default]).Perm a/\Hp.Heap c c.length):=
  Hp.heapRemove_spec (Mz W0 b d) R a i e f g
theorem UZ{a:List VIt}{x:VIt}{n:Int}(d:(a++[x]).Perm its)(f:x.n=n)(b:(its.map (·.n)).Nodup):a.Perm (its.filter λy=>y.n != n):=by
 have c:=d.filter (λy=>y.n != n);have g:((a++[x]).map (·.n)).Nodup:=(d.map (·.n)).symm.nodup b;have h:∀y∈a,(y.n != n)=true:=λy i=>by
  rw[QaN,QbK]at g;have:=g.2.2 _ (List.mem_map_of_mem i) _ (Qbw.2 Z);simp only[Qcr,ne_eq];intro e;exact this (by rw[e, <-f])
 rw[QbQ,Qbp.2 h]at c;have j:[x].filter (λy=>y.n != n)=[]:=by simp[f]
 rw[j,Qaq]at c;exact c
theorem b5s(b:Nat)(d:List VIt)(i:List Li)(f:Int)(h:i.length=8)(n:Int)(G:d.length<900)(p:Hp.Heap d d.length)(q:(d.map (·.n)).Nodup):sP W0 274 [pV b,iQ n] (eu b (d,dN i f)::R) (λv B=>v=.tuple #[]/\∃e,B=eu b (e,dN i f)::R/\e.Perm (d.filter λy=>y.n != n)/\Hp.Heap e e.length):=by
 by_cases t:d=[];subst t;refine ve λa c m=>?_;refine am func274 ntmps274 ?_;refine ac (aY (aO (eA m))) ?_;refine eC (λ_:Unit=>True) (λ_=>[(11,iQ 0),(12,iQ 0)]) (λ_=>pt b (ae ((dN i f).set 32 (.slice a ([]:List VIt).length c)) 324)::osl 348 3 (.slice a ([]:List VIt).length c) (([]:List VIt).flatMap iC)::R) (λ_=>0) () ?_ ?_;trivial;intro _ _;refine aw (aB Z (λr=>?_) λr=>?_);omega;refine aw (bP (.inr Z) .nil ?_);exact⟨_,⟨Z,[],Z,QaS _,p⟩,kz Z Z m Z⟩;refine ru np t cl λg c u m w A C=>?_;refine am func274 ntmps274 ?_;refine ac (aY (aO (eA m))) ?_;refine eC (λk:Nat=>k≤d.length/\∀j,j<k->(d.getD j default).n≠n) (λk=>[(0,pV b),(1,iQ n),(10,.slice (some ⟨g,0,none⟩) d.length c),(11,iQ (d.length:Nat)),(12,iQ k)]) (λk=>pt b (ae ((dN i f).set 32 (.slice (some ⟨g,0,none⟩) d.length c)) 324)::pt g (ae (d.flatMap iC++u) 348)::R) (λk=>d.length-k) 0 ?_ ?_;grind;intro k ⟨M,H⟩;refine aw (ap (λr=>?_) λr=>?_);have l:k<d.length:=aq;obtain⟨x,D⟩:∃x,d.getD k default=x:=⟨_,Z⟩
 have E:=yo d u k l;rw[D]at E;refine ac (cu l) ?_;refine ac (cV (cT E Z)) ?_;refine bU λI=>?_;refine aJ aR (ap (λJ=>?_) λJ=>?_);refine gK (B:=eu b (d,dN i f)::pt I (ae (iC x) 348)::R) (jJ np Z Z m Z w A C) ?_;refine aw (aF Z (ar call334 (b5r b d (dN i f) k G l p)) ?_);rintro _ N ⟨e,rfl,s,F,K⟩;subst s;refine aw (bP (.inl Z) .nil ?_);rw[D]at F;exact⟨_,⟨Z,e,Z,UZ F aq q,K⟩,IO⟩;refine ac cK (d8 (k+1) ?_);grind;refine bP (.inr Z) .nil ?_;obtain rfl:k=d.length:=aq;refine⟨_,⟨Z,d,Z,?_,p⟩,jJ np Z Z m Z w A C⟩;rw[Qbp.2 λy L=>?_];obtain⟨j,o,rfl⟩:=Qbi.1 L;have:=H j o;rw[Qao,QbN o]at this;simpa using this
theorem MB{W0 A R b its ls now n}[a:Tk eu b A (its,dN ls now) R](c:ls.length=8)(g:n<8):bF (aQ W0 A) b (n*4) (uf (ls.getD n default)):=
  UX (T:=324) (E:=348) (sz:=3) (o:=32) (f:=iC) (its:=its) (cs:=dN ls now) (R:=R) (hk:=a) λj v d=>by
 have e:j<4:=by
  grind
 exact⟨aq,(b5q aq e).trans d⟩
def ug(n:Int)(x:Li):List VIt:=if x.w&& !x.m then[⟨n,x.p,x.s,x.hs⟩]else[]
theorem MC(b:Nat)(a:List VIt)(g:List Li)(e:Int)(h:g.length=8)(n:Nat)(u:n<8)(G:a.length<800)(w:Hp.Heap a a.length)(o:(a.map (·.n)).Nodup):sP W0 186 [pV b,iQ n] (eu b (a,dN g e)::R) (λv B=>v=.tuple #[]/\∃d,B=eu b (d,dN g e)::R/\d.Perm ((a.filter λy=>y.n != (n:Int))++ug n (g.getD n default))/\Hp.Heap d d.length):=by
 obtain⟨x,A⟩:∃x,g.getD n default=x:=⟨_,Z⟩
 rw[A];refine am func186 ntmps186 ?_;refine aF Z (ar call274 (b5s b a g e h (n:Int) aq w o)) ?_;rintro _ C ⟨rfl,c,i,f,j⟩;subst i;have D:c.length≤a.length:=by rw[f.length_eq];exact QaW _ _
 have k:bF (aQ W0 (eu b (c,dN g e)::R)) b (n*4) (uf x):=by grind[MB]
 refine aw (ac (iy u) ?_);refine ac (cV k) ?_;refine bU λE=>?_;refine aJ aR ?_;apply e9<;>intro l;apply ap<;>intro F;refine bH [E] 12 λq=>?_;refine aj 0 11 q ?_;refine co 11 (ar Ju (b5n b c ⟨n,x.p,x.s,x.hs⟩ (dN g e) aq j)) ?_;clear q;rintro _ C ⟨rfl,m,i,r,t⟩;subst i;refine⟨aW,λq=>?_⟩;refine aS (bP (.inr Z) .nil ?_);refine⟨_,⟨Z,m,Z,?_,t⟩,IO⟩;rw[ug,Qad ro];exact r.trans (f.append_right _);refine bP (.inr Z) .nil ?_;refine⟨_,⟨Z,c,Z,?_,j⟩,IO⟩;rw[ug,Qab ro,Qaq];exact f;refine bP (.inr Z) .nil ?_;refine⟨_,⟨Z,c,Z,?_,j⟩,IO⟩;rw[ug,Qab ro,Qaq];exact f
theorem b5t{ls now x v}(h:ls.length=8):((dN ls now).set 32 v).set 33 (iQ x)=(dN ls x).set 32 v:=by
 have e:(ls.flatMap uf).length=32:=by rw[dy yp,h]
 have g:∀y:Int,(dN ls y).set 32 v=ls.flatMap uf++[v,iQ y,.bool true]:=λy=>by
  rw[dN,Qcc _ _ aq,e];rfl
 rw[g,g,Qcc _ _ aq,e];rfl
theorem F0{ls now v u n j y}(h:ls.length=8)(c:n<8)(a:j<4)(b:uf y=(uf (ls.getD n default)).set j u):((dN ls now).set 32 v).set (n*4+j) u=(dN (ls.set n y) now).set 32 v:=by rw[List.set_comm _ _ aq];rw[dN,vT yp ls n j u y _ (by omega) a (by rw[b];simp[List.getD,show n<ls.length by omega])];rfl
theorem MD{W0 A R b ls now v}[c:Tk pt b A (ae ((dN ls now).set 32 v) 324) R](h:ls.length=8):bF (aQ W0 A) b 33 [iQ now]:=λj u a=>by
 match j,a with
 |0,a=>
  rw[<-Qbn a];exact aO (by rw[Qbb cl];exact UW h)
 |j+1,a=>cases a
theorem b5u(b:Nat)(e:List VIt)(i:List Li)(d:Int)(h:i.length=8)(n:Nat)(r:n<8)(I:e.length<800)(J:Hp.Heap e e.length)(t:(e.map (·.n)).Nodup)(D:(i.getD n default).w=false)(l:0≤d+1/\d+1<10000000000000000000)(K:0≤d/\d<4611686018427387904):sP W0 115 [pV b,iQ n] (eu b (e,dN i d)::R) (λv B=>v=iQ 0/\∃g,B=eu b (g,dN (i.set n ⟨true,(i.getD n default).m,(i.getD n default).p,d+1,l⟩) (d+1))::R/\g.Perm ((e.filter λy=>y.n != (n:Int))++ug n ⟨true,(i.getD n default).m,(i.getD n default).p,d+1,l⟩)/\Hp.Heap g g.length):=by
 obtain⟨x,F⟩:∃x,i.getD n default=x:=⟨_,Z⟩
 have u:n<i.length:=by omega
 have A:dR (n:Int)=true:=by grind[dR]
 rw[F]at D ⊢;refine am Yy ntmps115 ?_;refine eS (ar Bc (yq b e i d h (n:Int))) ?_;rw[Qad A];have q:bF (aQ W0 (eu b (e,dN i d)::R)) b (n*4) (uf x):=by grind[MB]
 refine au 9 (et (jU 1 (iy r) ?_));refine ac (aY (q 0 _ Z)) ?_;apply ap<;>intro G;refine xN (b:=b) (T:=324) (E:=348) (sz:=3) (f:=iC) (o:=32) λa c M=>?_;refine aw (ac (aY (aO (by rw[Qbb (by decide)];exact UW h))) ?_);refine ac cK (aJ (fg (by grind[Qal,wO]) (b5t h)) ?_);refine dY [(b,33,[iQ (d+1)])] 18 mixed Z (dA (MD (by simp[h])) bI) (λj=>?_);refine aj 0 7 j ?_;refine aE 7 j (aY (K0 (k:=0) Z)) ?_;refine aj 8 2 j ?_;refine aE 10 j (iy r) ?_;refine aj 11 1 j ?_;refine aj 13 2 j ?_;refine lI 12 Z Z (fg (by grind[wO]) (F0 (y:=⟨true,x.m,x.p,x.s,x.hs⟩) h r (by decide) (by rw[F];rfl))) (dA (MD (by simp[h])) bI) λj=>?_;refine aE 15 j (iy r) ?_;refine aj 16 1 j ?_;refine lI 17 Z Z (fg (by grind[Qal,wO]) (F0 (y:=⟨true,x.m,x.p,d+1,l⟩) (by simp[h]) r (by decide) (by grind))) (dA (MD (by simp[h])) bI) λj=>?_;refine aS ?_;rw[Qdb];refine gK (B:=eu b (e,dN (i.set n ⟨true,x.m,x.p,d+1,l⟩) (d+1))::R) (kz Z Z (by grind[wO]) Z) ?_;refine aw (aF Z (ar Yz (MC b e (i.set n ⟨true,x.m,x.p,d+1,l⟩) (d+1) (by simp[h]) n r I J t)) ?_);rintro _ N ⟨rfl,g,C,H,L⟩;subst C;rw[show(i.set n ⟨true,x.m,x.p,d+1,l⟩).getD n default=⟨true,x.m,x.p,d+1,l⟩ by simp[List.getD,u]]at H;exact aw (ag ⟨_,⟨Z,g,Z,H,L⟩,IO⟩);exact absurd (by rw[D];decide) G
theorem b5v(b:Nat)(a:List VIt)(d:List Li)(c:Int)(h:d.length=8)(n:Nat)(j:n<8)(g:(d.getD n default).w=true):sQ W0 115 [pV b,iQ n] (eu b (a,dN d c)::R) (iQ 0) (eu b (a,dN d c)::R):=by
 obtain⟨x,k⟩:∃x,d.getD n default=x:=⟨_,Z⟩
 have f:dR (n:Int)=true:=by grind[dR]
 rw[k]at g;refine am Yy ntmps115 ?_;refine eS (ar Bc (yq b a d c h (n:Int))) ?_;rw[Qad f];have e:bF (aQ W0 (eu b (a,dN d c)::R)) b (n*4) (uf x):=by grind[MB]
 refine au 9 (et (jU 1 (iy j) ?_));refine ac (aY (e 0 _ Z)) ?_;apply ap<;>intro i;exact absurd i (by rw[g];decide);exact ki
theorem b5w(b:Nat)(a:List VIt)(d:List Li)(c:Int)(h:d.length=8)(n:Int)(f:dR n=false):sQ W0 115 [pV b,iQ n] (eu b (a,dN d c)::R) (iQ 1) (eu b (a,dN d c)::R):=by refine am Yy ntmps115 ?_;refine eS (ar Bc (yq b a d c h n)) ?_;rw[Qab mv];refine aw (ap (λe=>?_) λe=>?_);exact ki;exact absurd cl e
end
variable {ls:List Li}
section
def mf(ls:List Li)(n:Nat):Bool:=(ls.getD n default).w&& !(ls.getD n default).m
def uh(ls:List Li)(n:Nat):VIt:=⟨n,(ls.getD n default).p,(ls.getD n default).s,(ls.getD n default).hs⟩
def o9(ls:List Li):List VIt:=((List.range 8).filter (mf ls)).map (uh ls)
theorem b5x ls(n:Nat):ug n (ls.getD n default)=if mf ls n then[uh ls n]else[]:=Z
theorem ME{y}:y∈o9 ls↔∃n,n<8/\mf ls n=true/\uh ls n=y:=by simp only[o9,QaZ,QaG,QbX];exact⟨λ⟨n,⟨a,b⟩,c⟩=>⟨n,a,b,c⟩,λ⟨n,a,b,c⟩=>⟨n,⟨a,b⟩,c⟩⟩
theorem I3 ls:(o9 ls).length≤8:=by rw[o9,QaD];exact Qbe (QaW _ _) n4
theorem V0{α β:Type}{f:α->β}(c:∀a b,f a=f b->a=b):∀{l:List α},l.Nodup->(l.map f).Nodup
 |[],_=>QcY
 |a::l,h=>by
  rw[QbO]at h;rw[QaE,QbO];refine⟨λd=>?_,V0 c h.2⟩;obtain⟨b,g,e⟩:=QaZ.1 d;exact h.1 (c _ _ e▸g)
theorem b5y ls:((o9 ls).map (·.n)).Nodup:=by rw[o9,QcE];refine V0 (λa b e=>?_) (QcS.sublist QbJ);have:((a:Nat):Int)=((b:Nat):Int):=e;omega
theorem b5z n(f:n<8):(List.range 8).Perm ((List.range 8).filter (· != n)++[n]):=by refine(List.perm_ext_iff_of_nodup QcS ?_).2 λa=>?_;rw[QbK];refine⟨QcS.sublist QbJ,n4,λa d b c e=>?_⟩;rw[Qbw]at c;have:=(QaG.1 d).2;subst c;subst e;simp at this;simp only[Qba,QaG,QbX,Qbw,Qcr,ne_eq];omega
theorem b5A ls(n:Nat):((o9 ls).filter λy=>y.n != (n:Int))=(((List.range 8).filter (· != n)).filter (mf ls)).map (uh ls):=by
 rw[o9,List.filter_map,List.filter_filter,List.filter_filter];congr 1;apply Qci;intro a _;have:((λy:VIt=>y.n != (n:Int))∘uh ls) a=(a != n):=by
  show(((a:Nat):Int) != ((n:Nat):Int))=(a != n);rw[Qah,Qcr,Qcr];omega
 rw[this,Bool.and_comm]
theorem F1{α:Type}[Inhabited α]{l:List α}{x:α}(h:k≠n):(l.set n x).getD k default=l.getD k default:=by simp only[Qao];rw[Qbb (λe=>h e.symm)]
theorem I4{α:Type}[Inhabited α]{l:List α}{x:α}(h:n<l.length):(l.set n x).getD n default=x:=by simp[List.getD,h]
theorem b5B{b:List Li}(h:∀k,k≠n->b.getD k default=ls.getD k default):(((List.range 8).filter (· != n)).filter (mf b)).map (uh b)=(((List.range 8).filter (· != n)).filter (mf ls)).map (uh ls):=by
 have e:((List.range 8).filter (· != n)).filter (mf b)=((List.range 8).filter (· != n)).filter (mf ls):=by
  apply Qci;intro a c;have:a≠n:=by simpa using(QaG.1 c).2
  unfold mf;rw[h a this]
 rw[e];apply QbY;intro a c;have:a≠n:=by simpa using(QaG.1 (QaG.1 c).1).2
 unfold uh;congr 1<;>rw[h a this]
theorem I5{ls}{n:Nat}{x}(a:n<8)(d:ls.length=8):(((o9 ls).filter λy=>y.n != (n:Int))++ug n x).Perm (o9 (ls.set n x)):=by
 have e:=(((b5z n a).filter (mf (ls.set n x))).map (uh (ls.set n x))).symm;rw[QbQ,QaN,b5B (λk b=>F1 b), <-b5A]at e;have c:(([n]:List Nat).filter (mf (ls.set n x))).map (uh (ls.set n x))=ug n x:=by
  have:=b5x (ls.set n x) n;rw[I4 aq]at this;rw[this,List.filter_cons,List.filter_nil];split<;>rfl
 rw[c]at e;exact e
def wP(ls:List Li)(n:Nat):Int:=(ls.getD n default).s-(ls.getD n default).p*100000000000000000000
def Am(ls:List Li)(n:Nat):Bool:=mf ls n&&(List.range 8).all λk=> !mf ls k||decide (wP ls n≤wP ls k)
def mg(ls:List Li):Option Nat:=(List.range 8).find? (Am ls)
structure VOk (ls : List Li) (now : Int) : Prop where
  len : ls.length = 8
  nn : 0 ≤ now
  le : ∀ n, n < 8 → (ls.getD n default).s ≤ now
  ne : ∀ n m, n < 8 → m < 8 → n ≠ m → (ls.getD n default).w = true → (ls.getD m default).w = true → (ls.getD n default).s ≠ (ls.getD m default).s
theorem b5C(h:VOk ls now){m:Nat}(c:n<8)(d:m<8)(a:mf ls n=true)(b:mf ls m=true)(e:wP ls n=wP ls m):n=m:=by rcases Nat.decEq n m with q|q;have f:=(ls.getD n default).hs;have g:=(ls.getD m default).hs;simp only[mf,Qam]at a b;have:=h.ne n m c d q a.1 b.1;unfold wP at e;omega;exact q
theorem b5D{ls now}(h:VOk ls now)(hr:o9 ls=[]):mg ls=none:=by unfold mg;rw[Qch];intro n hn hf;simp only[Am,Qam]at hf;have:uh ls n∈o9 ls:=ME.2 ⟨n,abc,hf.1,Z⟩;rw[hr]at this;cases this
theorem b5E{ls now}(h:VOk ls now){n}(hn:n<8)(hu:mf ls n=true)(hm:∀k,k<8->mf ls k=true->wP ls n≤wP ls k):mg ls=some n:=by
 have hf:Am ls n=true:=by
  simp only[Am,Qam,Qbx];refine⟨hu,λk hk=>?_⟩
  cases q:mf ls k with
  |false=>rfl
  |true=>simpa using hm k abx q
 unfold mg
 cases q:(List.range 8).find? (Am ls)with
 |none=>
  rw[Qch]at q;exact absurd hf (q n abc)
 |some m=>
  have h1:=QcW q;have h2:m<8:=by simpa using QbI q
  simp only[Am,Qam,Qbx]at h1;have h3:wP ls m≤wP ls n:=by
   have:=h1.2 n abc;simpa[hu]using this
  rw[b5C h hn h2 hu h1.1 (Int.le_antisymm (hm m h2 h1.1) h3)]
theorem I6(h:mg ls=some n):n<8/\mf ls n=true:=by unfold mg at h;have a:=QcW h;simp only[Am,Qam]at a;exact⟨by simpa using QbI h,a.1⟩
def jb(ls:List Li)(now:Int)(n:Nat):List Li:=if h:(ls.getD n default).w=false/\0≤now+1/\now+1<10000000000000000000 then ls.set n ⟨true,(ls.getD n default).m,(ls.getD n default).p,now+1,h.2⟩else ls
def gz(ls:List Li)(now:Int)(n:Nat):Int:=if (ls.getD n default).w=false then now+1 else now
def Cv(ls:List Li)(n:Nat):List Li:=ls.set n ⟨false,(ls.getD n default).m,(ls.getD n default).p,(ls.getD n default).s,(ls.getD n default).hs⟩
theorem VOk.set{ls now now' n x}(h:VOk ls now)(u:now≤now')(t:x.s≤now')(p:x.w=true->now<x.s\/(ls.getD n default).w=true/\x.s=(ls.getD n default).s):VOk (ls.set n x) now':=by refine⟨by rw[Qal,h.len],abv,λk r=>?_,λa b g i f d c=>?_⟩;by_cases q:k=n;subst q;rw[I4 (by rw[h.len];exact r)];exact t;rw[F1 q];have:=h.le k r;omega;by_cases l:a=n;have j:b≠n:=λe=>f (l.trans e.symm);subst l;rw[I4 (by rw[h.len];exact g)]at d ⊢;rw[F1 j]at c ⊢;rcases p d with q|⟨m,o⟩;have:=h.le b i;omega;rw[o];exact h.ne a b g i f m c;rw[F1 l]at d ⊢;by_cases j:b=n;subst j;rw[I4 (by rw[h.len];exact i)]at c ⊢;rcases p c with q|⟨m,o⟩;have:=h.le a g;omega;rw[o];exact h.ne a b g i f d m;rw[F1 j]at c ⊢;exact h.ne a b g i f d c
theorem VOk.raise{ls now n}(h:VOk ls now):VOk (jb ls now n) (gz ls now n):=by
 unfold jb gz;split
 rename_i q
 rw[Qad q.1];exact h.set aq (Qan _) λ_=>.inl (by show now<now+1;omega);split;exact⟨h.len,abv,λk hk=>by have:=h.le k hk;omega,h.ne⟩;exact h
theorem VOk.take(h:VOk ls now)(a:n<8):VOk (Cv ls n) now:=h.set (Qan _) (h.le n a) λe=>by cases e
end
section
open Go.RowKit
theorem b5F(b:Nat)(a:List VIt)(d:List Li)(c:Int)(h:d.length=8)(n:Int)(f:Bool)(g:dR n=false):sQ W0 323 [pV b,iQ n,.bool f] (eu b (a,dN d c)::R) (iQ 1) (eu b (a,dN d c)::R):=by refine am func323 ntmps323 ?_;refine eS (ar Bc (yq b a d c h n)) ?_;rw[Qab (by rw[g];decide)];refine aw (ap (λe=>?_) λe=>?_);exact ki;exact absurd cl e
theorem b5G(b:Nat)(e:List VIt)(i:List Li)(g:Int)(h:i.length=8)(n:Nat)(k:n<8)(A:e.length<800)(C:Hp.Heap e e.length)(l:(e.map (·.n)).Nodup)(j:Bool)(x:Li)(D:i.getD n default=x):sP W0 323 [pV b,iQ n,.bool j] (eu b (e,dN i g)::R) (λv B=>v=iQ 0/\∃d,B=eu b (d,dN (i.set n ⟨x.w,j,x.p,x.s,x.hs⟩) g)::R/\d.Perm ((e.filter λy=>y.n != (n:Int))++ug n ⟨x.w,j,x.p,x.s,x.hs⟩)/\Hp.Heap d d.length):=by
 have m:n<i.length:=aq;have q:dR (n:Int)=true:=by simp only[dR,Qas];omega
 refine am func323 ntmps323 ?_;refine eS (ar Bc (yq b e i g h (n:Int))) ?_;rw[Qad q];refine au 9 (aB Z (λt=>?_) λt=>?_);exact absurd t cl;refine au 3 (xN (b:=b) (T:=324) (E:=348) (sz:=3) (f:=iC) (o:=32) λa c G=>?_);refine aM (aa Z (aV Z) (aa Z (aV Z) (aa Z (aV Z) (aa Z (fJ Z) ?_))));refine aa Z (bT Z c1X Z sizeOf319 Z dg) ?_;refine aa Z (dW c1V sizeOf318 Z Z Z k dg) ?_;refine aa Z (bT Z c1U Z l6 Z dg) ?_;refine aJ (fg (by rw[Qal,wO h];omega) (F0 (y:=⟨x.w,j,x.p,x.s,x.hs⟩) h k cl (by rw[D];rfl))) ?_;refine gK (B:=eu b (e,dN (i.set n ⟨x.w,j,x.p,x.s,x.hs⟩) g)::R) (kz Z Z (by rw[wO aaq];decide) Z) ?_;refine aw (aF Z (ar Yz (MC b e (i.set n ⟨x.w,j,x.p,x.s,x.hs⟩) g aaq n k A C l)) ?_);rintro _ H ⟨rfl,d,r,u,F⟩;subst r;rw[show(i.set n ⟨x.w,j,x.p,x.s,x.hs⟩).getD n default=⟨x.w,j,x.p,x.s,x.hs⟩ by simp[List.getD,m]]at u;exact aw (ag ⟨_,⟨Z,d,Z,u,F⟩,IO⟩)
theorem b5H(b:Nat)(a:List VIt)(d:List Li)(c:Int)(h:d.length=8)(n p:Int)(f:dR n=false):sQ W0 324 [pV b,iQ n,iQ p] (eu b (a,dN d c)::R) (iQ 1) (eu b (a,dN d c)::R):=by refine am YA ntmps324 ?_;refine eS (ar Bc (yq b a d c h n)) ?_;rw[Qab (by rw[f];decide)];refine aw (ap (λe=>?_) λe=>?_);exact ki;exact absurd cl e
theorem b5I(b:Nat)(e:List VIt)(i:List Li)(g:Int)(h:i.length=8)(n:Nat)(k:n<8)(A:e.length<800)(C:Hp.Heap e e.length)(l:(e.map (·.n)).Nodup)(p:Int)(D:0≤p/\p≤3)(x:Li)(F:i.getD n default=x):sP W0 324 [pV b,iQ n,iQ p] (eu b (e,dN i g)::R) (λv B=>v=iQ 0/\∃d,B=eu b (d,dN (i.set n ⟨x.w,x.m,p,x.s,x.hs⟩) g)::R/\d.Perm ((e.filter λy=>y.n != (n:Int))++ug n ⟨x.w,x.m,p,x.s,x.hs⟩)/\Hp.Heap d d.length):=by
 have q:n<i.length:=aq;have r:dR (n:Int)=true:=by simp only[dR,Qas];omega
 refine am YA ntmps324 ?_;refine eS (ar Bc (yq b e i g h (n:Int))) ?_;rw[Qad r];refine au 9 (et (d7 Z Z Z (λj=>?_) λj=>?_));simp_all<;>omega;refine aw (aB Z (λG=>?_) λG=>?_);simp_all<;>omega;refine aw (xN (b:=b) (T:=324) (E:=348) (sz:=3) (f:=iC) (o:=32) λa c I=>?_);refine aw (ac (iy k) ?_);refine aJ (fg (by rw[Qal,wO h];omega) (F0 (y:=⟨x.w,x.m,p,x.s,x.hs⟩) h k cl (by rw[F];rfl))) ?_;refine gK (B:=eu b (e,dN (i.set n ⟨x.w,x.m,p,x.s,x.hs⟩) g)::R) (kz Z Z (by rw[wO aaq];decide) Z) ?_;refine aw (aF Z (ar Yz (MC b e (i.set n ⟨x.w,x.m,p,x.s,x.hs⟩) g aaq n k A C l)) ?_);rintro _ J ⟨rfl,d,t,u,H⟩;subst t;rw[show(i.set n ⟨x.w,x.m,p,x.s,x.hs⟩).getD n default=⟨x.w,x.m,p,x.s,x.hs⟩ by simp[List.getD,q]]at u;exact aw (ag ⟨_,⟨Z,d,Z,u,H⟩,IO⟩)
theorem b5J(b:Nat)(a:List VIt)(e:List Li)(c:Int)(h:e.length=8)(n p:Int)(f:dR n=true)(g:p<0\/3<p):sQ W0 324 [pV b,iQ n,iQ p] (eu b (a,dN e c)::R) (iQ 1) (eu b (a,dN e c)::R):=by
 refine am YA ntmps324 ?_;refine eS (ar Bc (yq b a e c h n)) ?_;rw[Qad f];refine au 9 (et (d7 Z Z Z (λd=>?_) λd=>?_));exact au 12 (ag ax);refine aw (aB Z (λi=>?_) λi=>?_);exact au 7 (ag ax)
 first|omega|(simp_all<;>omega)
def ew(b:Nat)(x:List Li×Int):HP:=chk (λC=>∃its:List VIt,its.Perm (o9 x.1)/\Hp.Heap its its.length/\VOk x.1 x.2/\C=[eu b (its,dN x.1 x.2)])
section
variable{P:Program}{W0:World}{e:bK}{A R B:List HP}{b:Nat}{ls:List Li}{now:Int}{f:FuncId}{args:List Value}{Post:Value->List HP->Prop}
theorem I7(h:∀a,a.Perm (o9 ls)->Hp.Heap a a.length->VOk ls now->bE P W0 f args (eu b (a,dN ls now)::R) Post):bE P W0 f args (ew b (ls,now)::R) Post:=
  uP λC c=>by obtain⟨a,d,e,g,rfl⟩:=c;exact h a d e g
theorem vv[h:Tk eu b A (its,dN ls now) R](a:its.Perm (o9 ls))(c:Hp.Heap its its.length)(d:VOk ls now)[k:Ent R B]:Ent A (ew b (ls,now)::B):=
  (Ent.ofPerm h.perm).trans ((Ent.cons k).trans (fT (R:=B) (C:=[_]) ⟨its,a,c,d,Z⟩))
theorem b5K:Ent (pt b (ae ((dN (List.replicate 8 default) 0).set 32 iA) 324)::R) (ew b (List.replicate 8 default,0)::R):=by
 have e:Ent (pt b (ae ((dN (List.replicate 8 default) 0).set 32 iA) 324)::R) (eu b ([],dN (List.replicate 8 default) 0)::R):=
   (Ent.cons (eW (E:=348) (sz:=3) (A:=R) (B:=R))).trans (fT (R:=R) (C:=[_,_]) ⟨cl,none,0,Z⟩)
 refine e.trans (fT (R:=R) (C:=[_]) ⟨[],?_,λc a=>absurd a (QbD c),?_,Z⟩);exact QaS _;refine⟨Z,Qan _,λn d=>?_,λn m d f _ h=>?_⟩;have:n=0\/n=1\/n=2\/n=3\/n=4\/n=5\/n=6\/n=7:=aq;rcases this with rfl|rfl|rfl|rfl|rfl|rfl|rfl|rfl<;>decide;have:n=0\/n=1\/n=2\/n=3\/n=4\/n=5\/n=6\/n=7:=aq;rcases this with rfl|rfl|rfl|rfl|rfl|rfl|rfl|rfl<;>exact absurd h cl
end
theorem MF{n}(h:dR n=true):∃k:Nat,n=k/\k<8:=by have:=Qaw h;exact⟨n.toNat,aq,aq⟩
theorem I8(h:its.Perm (o9 ls)):(its.map (·.n)).Nodup:=(h.map (·.n)).symm.nodup (b5y ls)
theorem ui(b:Nat)(ls:List Li)(now:Int)(n:Int)(hb:now<4000000000000000000):sQ W0 115 [pV b,iQ n] (ew b (ls,now)::R) (iQ (if dR n then 0 else 1)) (ew b (if dR n then jb ls now n.toNat else ls,if dR n then gz ls now n.toNat else now)::R):=by
 refine I7 λits h1 h2 h3=>?_;have hN:its.length≤8:=abf;have h0:=h3.nn;by_cases hn:dR n=true;obtain⟨k,rfl,hk⟩:=MF hn;rw[Qad hn,Qad hn,Qad hn,Qae];by_cases hw:(ls.getD k default).w=true;refine cF (b5v b its ls now h3.len k hk hw) λv B hB=>?_;obtain⟨rfl,rfl⟩:=hB;have e1:jb ls now k=ls:=by rw[jb,dif_neg (by rw[hw];simp)]
 have e2:gz ls now k=now:=by rw[gz,Qab (by rw[hw];decide)]
 rw[e1,e2];exact qj;have hw2:(ls.getD k default).w=false:=by simpa using hw
 have hs:0≤now+1/\now+1<10000000000000000000:=aq;have hR:=h3.raise (n:=k);refine cF (b5u b its ls now h3.len k hk aq h2 (I8 h1) hw2 hs aq) λv B hB=>?_;obtain⟨rfl,its',rfl,hp,hH⟩:=hB;have e1:jb ls now k=ls.set k ⟨true,(ls.getD k default).m,(ls.getD k default).p,now+1,hs⟩:=by rw[jb,dif_pos ⟨hw2,hs⟩]
 have e2:gz ls now k=now+1:=by rw[gz,Qad hw2]
 rw[e1,e2]at hR;rw[e1,e2];refine⟨_,⟨Z,Z⟩,vv (hp.trans ?_) hH hR⟩;exact((h1.filter _).append_right _).trans (I5 hk h3.len);rw[Qab hn,Qab hn,Qab hn];refine cF (b5w b its ls now h3.len n abc) λv B hB=>?_;obtain⟨rfl,rfl⟩:=hB;exact qj
def uj(ls:List Li):List Li:=match mg ls with |some n=>Cv ls n|none=>ls
theorem b5L(h:VOk ls now):VOk (uj ls) now:=by
 unfold uj
 cases q:mg ls with
 |none=>exact h
 |some n=>exact h.take (I6 q).1
theorem b5M(b:Nat)(ls:List Li)(now:Int):sQ W0 129 [pV b] (ew b (ls,now)::R) (.tuple #[iQ (((mg ls).getD 0:Nat):Int),.bool (mg ls).isSome]) (ew b (uj ls,now)::R):=by
 refine I7 λits h1 h2 h3=>?_;have hN:its.length≤8:=abf;have hT:=b5L h3;refine am func129 ntmps129 ?_;refine cW 1 (ar call201 (UY b its ls now h3.len)) ?_;apply d7 Z Z Z<;>intro g1_3
 first|exact absurd g1_3 (by decide)|cases g1_3
 refine aw (ao (ar call202 (UV b its (dN ls now))) ?_);apply ap<;>intro c1;refine aZ ?_;have h0:its=[]:=QbA.1 aq;have hb:mg ls=none:=b5D h3 ro;have ht:uj ls=ls:=by grind[uj]
 rw[hb,ht];exact qj;refine aF Z (ar Jv (b5o b its (dN ls now) aq (λe=>by subst e;exact c1 Z) h2)) ?_;rintro _ B_ ⟨x,its',rfl,hB_,hp,hH,hmin⟩;subst hB_;obtain⟨n,hn,hu,rfl⟩:=ME.1 ((hp.trans h1).mem_iff.1 (show x∈its'++[x] by simp));have hbest:mg ls=some n:=b5E h3 hn hu λk hk hku=>hmin _ (h1.mem_iff.2 (ME.2 ⟨k,hk,hku,Z⟩));have ht:uj ls=Cv ls n:=by grind[uj]
 rw[ht]at hT;have hperm:its'.Perm (o9 (Cv ls n)):=by
  have e1:=(UZ hp (n:=(n:Int)) Z (I8 h1)).trans (h1.filter _);have e2:=I5 (x:=⟨false,(ls.getD n default).m,(ls.getD n default).p,(ls.getD n default).s,(ls.getD n default).hs⟩) hn h3.len;rw[show ug (n:Int) ⟨false,(ls.getD n default).m,(ls.getD n default).p,(ls.getD n default).s,(ls.getD n default).hs⟩=[]from Z,Qaq]at e2;exact e1.trans e2
 refine ac (uN XG (λ_ h=>n8) Z) ?_;refine bU λb4=>?_;refine aJ aR (xN (b:=b) (T:=324) (E:=348) (sz:=3) (f:=iC) (o:=32) λa c ho=>?_);refine bH [b4] 8 λhS=>?_;refine aj 0 5 hS ?_;refine aE 5 hS (iy hn) ?_;refine aj 6 1 hS ?_;refine cp 7 (fg mv (F0 (j:=0) (y:=⟨false,(ls.getD n default).m,(ls.getD n default).p,(ls.getD n default).s,(ls.getD n default).hs⟩) h3.len hn cl Z)) λhS=>?_;refine aS (aZ ?_);rw[hbest,ht];refine⟨_,⟨Z,Z⟩,?_⟩;refine Ent.trans (B:=eu b (its',dN (Cv ls n) now)::R) (kz Z Z (by rw[wO (by simp[Cv,h3.len])];decide) Z) ?_;exact vv hperm hH hT
structure TIt where
  d : Int
  s : Int
  i : Int
  hs : 0 ≤ s ∧ s < 10000000000000000000
instance:Hk TIt where
  default:=⟨0,0,0,by decide⟩
  ky:=λx=>x.s+x.d*100000000000000000000
@[reducible] def jr(x:TIt):List Value:=[.int .i64 x.d,.int .i64 x.s,.int .i64 x.i]
theorem oc x:(jr x).length=3:=Z
theorem b5N(a:List TIt)sp i j(b:i<a.length)(c:j<3):(a.flatMap jr++sp)[i*3+j]?=(jr (a.getD i default))[j]?:=by simp_all[tE,oc,List.getD]
theorem An(a:List TIt)sp i(b:i<a.length):((a.flatMap jr++sp).drop (i*3)).take 3=jr (a.getD i default):=by simp_all[uM,oc,List.getD]
theorem I9(a:List TIt)sp i x(b:i<a.length):ee (a.flatMap jr++sp) (i*3) (jr x)=(a.set i x).flatMap jr++sp:=zj oc a i x sp b
theorem Ia(a:List TIt)sp i(b:i<a.length):i*3+3≤(a.flatMap jr++sp).length:=by rw[Qaf,dy oc];omega
theorem V1{a:List TIt}(h:i<a.length):a≠[]:=λe=>by rw[e]at h;simp at h
abbrev gF:Nat->List TIt×List Value->HP:=pF 340 344 3 jr 0
abbrev nq(b:Nat):Value:=.pointer (some ⟨b,0,none⟩)
theorem V2(b:Nat)(d:List TIt)(e:List Value):sQ W0 198 [nq b] (gF b (d,e)::R) (iQ (d.length:Nat)) (gF b (d,e)::R):=by refine ve λa c f=>?_;refine am func198 ntmps198 ?_;refine ac (aY (aO (eA f))) ?_;exact ag ⟨_,⟨Z,Z⟩,kz Z Z f Z⟩
theorem V3(x y:TIt):sQ W0 540 [.agg #[iQ x.d,iQ x.s],.agg #[iQ y.d,iQ y.s]] R (.bool (decide (Hk.ky x<Hk.ky y))) R:=by have a:Hk.ky x=x.s+x.d*100000000000000000000:=Z;have b:Hk.ky y=y.s+y.d*100000000000000000000:=Z;have c:=x.hs;have e:=y.hs;refine am func540 ntmps540 ?_;refine bR λc=>?_;refine bR λe=>?_;apply ap<;>intro f;refine ag ?_;rw[a,b];refine⟨_,⟨Qak Value.bool ?_,Z⟩,IO⟩;rw[Qah,Qag,Qag];have:x.d≠y.d:=aq;omega;refine ag ?_;rw[a,b];refine⟨_,⟨Qak Value.bool ?_,Z⟩,IO⟩;rw[Qah,Qag,Qag];have:x.d=y.d:=aq;omega
theorem b5O(b:Nat)(a:List TIt)(n:List Value)(i k:Nat)(h:i<a.length)(o:k<a.length):sQ W0 541 [nq b,iQ i,iQ k] (gF b (a,n)::R) (.bool (decide (Hp.us a i<Hp.us a k))) (gF b (a,n)::R):=by
 refine ru oc (V1 h) cl λg c p f q r t=>?_;obtain⟨x,u⟩:∃x,a.getD i default=x:=⟨_,Z⟩
 obtain⟨y,v⟩:∃y,a.getD k default=y:=⟨_,Z⟩
 have j:=Qak (λl=>l.take 2) (An a p i h);have m:=Qak (λl=>l.take 2) (An a p k o);rw[u,List.take_take]at j;rw[v,List.take_take]at m;rw[show Hp.us a i=Hk.ky x by rw[Hp.us,u],show Hp.us a k=Hk.ky y by rw[Hp.us,v]];refine am func541 ntmps541 ?_;refine bH [b,g] 18 λe=>?_;refine aj 0 3 e ?_;refine aE 3 e (aY (d6 (k:=0) Z (eA f))) ?_;refine aj 4 1 e ?_;refine aE 5 e (cu h) ?_;refine aj 6 1 e ?_;refine aj 8 3 e ?_;refine aE 11 e (aY (d6 (k:=0) Z (eA f))) ?_;refine aj 12 1 e ?_;refine aE 13 e (cu o) ?_;refine aj 14 1 e ?_;refine fp (is:=[7,15]) ld Z ⟨?_,?_,trivial⟩;refine dB (dJ (cV (cT (vs:=[iQ x.d,iQ x.s]) j Z))) ?_;clear e;rintro _ _ ⟨rfl,rfl⟩;refine⟨aW,λe=>?_⟩;refine bQ 15 (dJ (cV (cT (vs:=[iQ y.d,iQ y.s]) m Z))) λe=>?_;refine bQ 16 (aK call540 (V3 x y)) λe=>?_;refine aj 17 1 e ?_;exact aS (ag ⟨_,⟨Z,Z⟩,jJ oc Z Z f Z q r t⟩);skip;refine dB (dJ (cV (cT (vs:=[iQ y.d,iQ y.s]) m Z))) ?_;clear e;rintro _ _ ⟨rfl,rfl⟩;refine⟨aW,λe=>?_⟩;refine bQ 7 (dJ (cV (cT (vs:=[iQ x.d,iQ x.s]) j Z))) λe=>?_;refine bQ 16 (aK call540 (V3 x y)) λe=>?_;refine aj 17 1 e ?_;exact aS (ag ⟨_,⟨Z,Z⟩,jJ oc Z Z f Z q r t⟩)
theorem b5P(b:Nat)(a:List TIt)(m:List Value)(i k:Nat)(f:i<a.length)(j:k<a.length):sQ W0 544 [nq b,iQ i,iQ k] (gF b (a,m)::R) (.tuple #[]) (gF b (Hp.swapL a i k,m)::R):=by refine ru oc (V1 f) cl λg c e h o n l=>?_;refine am func544 ntmps544 ?_;refine bH [b] 28 λd=>?_;refine aj 0 3 d ?_;refine aE 3 d (aY (d6 (k:=0) Z (eA h))) ?_;refine aj 4 4 d ?_;refine aE 8 d (aY (d6 (k:=0) Z (eA h))) ?_;refine aj 9 4 d ?_;refine aE 13 d (aY (d6 (k:=0) Z (eA h))) ?_;refine aj 14 1 d ?_;refine aE 15 d (cu j) ?_;refine aj 17 3 d ?_;refine aE 20 d (aY (d6 (k:=0) Z (eA h))) ?_;refine aj 21 1 d ?_;refine aE 22 d (cu f) ?_;refine fp (is:=[16,23]) ld Z ⟨?_,?_,trivial⟩;refine dB (dJ (cV (cT (An a e k j) Z))) ?_;clear d;rintro _ _ ⟨rfl,rfl⟩;refine⟨aW,λd=>?_⟩;refine bQ 23 (dJ (cV (cT (An a e i f) Z))) λd=>?_;refine aE 24 d (cu f) ?_;refine cp 25 (kh (Ia a e i f) (I9 a e i (a.getD k default) f)) λd=>?_;refine aE 26 d (cu j) ?_;refine cp 27 (kh (Ia (a.set i (a.getD k default)) e k mv) (I9 (a.set i (a.getD k default)) e k (a.getD i default) mv)) λd=>?_;refine aS (bP (.inr Z) .nil ?_);exact vf;skip;refine dB (dJ (cV (cT (An a e i f) Z))) ?_;clear d;rintro _ _ ⟨rfl,rfl⟩;refine⟨aW,λd=>?_⟩;refine bQ 16 (dJ (cV (cT (An a e k j) Z))) λd=>?_;refine aE 24 d (cu f) ?_;refine cp 25 (kh (Ia a e i f) (I9 a e i (a.getD k default) f)) λd=>?_;refine aE 26 d (cu j) ?_;refine cp 27 (kh (Ia (a.set i (a.getD k default)) e k mv) (I9 (a.set i (a.getD k default)) e k (a.getD i default) mv)) λd=>?_;refine aS (bP (.inr Z) .nil ?_);exact vf
theorem b5Q(b:Nat)(its:List TIt)(x:TIt)(cs:List Value):sQ W0 542 [nq b] (gF b (its++[x],cs)::R) (.iface 344 (.agg (jr x).toArray)) (gF b (its,cs)::R):=by refine ru oc n4 cl λg c sp ho h1 h2 h3=>?_;have hl:(its++[x]).length=its.length+1:=n4;rw[hl]at h1 ⊢;have hg:(its++[x]).getD its.length default=x:=mv;have hr:=An (its++[x]) sp its.length aq;rw[hg]at hr;have he:(its++[x]).flatMap jr++sp=its.flatMap jr++(jr x++sp):=n4;refine am func542 ntmps542 ?_;refine ac (aY (aO (eA ho))) ?_;refine ac (mY Z Z (aai:IntKind.wrap .i64 (((its.length+1:Nat):Int)-1)=((its.length:Nat):Int))) ?_;refine ac (aY (aO (eA ho))) ?_;refine ac (cu aq) ?_;refine ac (cV (cT hr Z)) ?_;refine bU λb1=>?_;refine aJ aR (ac (aY (aO (eA ho))) ?_);refine ac (qd D3 J9 Z Z Z aq) ?_;refine aJ (fg (by rw[Qal];exact ho) set_set) ?_;refine ag ?_;rw[he];exact⟨_,⟨Z,Z⟩,jJ (sp:=jr x++sp) oc Z Z ho Z (by omega) h2 (by rw[<-he];exact h3)⟩
theorem b5R(b:Nat)(e:List TIt)(x:TIt)(g:List Value)(m:e.length<1000):sQ W0 543 [nq b,.iface 344 (.agg (jr x).toArray)] (gF b (e,g)::R) (.tuple #[]) (gF b (e++[x],g)::R):=by refine ve λa c f=>?_;have i:e.flatMap jr++[jr x].flatten=(e++[x]).flatMap jr:=n4;refine iW func543 ntmps543 Z Z ?_;refine bH [] 12 λd=>?_;refine aj 0 4 d ?_;refine aj 5 1 d ?_;refine aE 6 d (uN O9 (λ_ h=>n8) Z) ?_;refine fp (is:=[4,7]) ld Z ⟨?_,?_,trivial⟩;refine dB (dJ (aY (aO (eA f)))) ?_;clear d;rintro _ _ ⟨rfl,rfl⟩;refine⟨aW,λd=>?_⟩;refine iw 7 ld Z Z (ji D3 J9 Oh Z (fK Z Z iH) Z cl cl cl) Z ?_;clear d;rintro _ _ ⟨j,rfl,rfl⟩;refine⟨aW,λd=>?_⟩;refine co 8 (fR (sz:=3) (by_:=24) (info:=Tryz.t344) D3 ld Z Z Z Z cl Z Z eQ Z Z n5 aq) ?_;clear d;rintro _ _ ⟨k,l,rfl,rfl⟩;refine⟨aW,λd=>?_⟩;refine aj 9 2 d ?_;refine cp 11 (fg mv set_set) λd=>?_;refine eY (bP (.inr Z) .nil ?_);exact qk;skip;refine lH Z Z (ji D3 J9 Oh Z (fK Z Z iH) Z cl cl cl) Z ?_;clear d;rintro _ _ ⟨j,rfl,rfl⟩;refine⟨aW,λd=>?_⟩;refine bQ 4 (dJ (aY (aO (eA f)))) λd=>?_;refine co 8 (fR (sz:=3) (by_:=24) (info:=Tryz.t344) D3 ld Z Z Z Z cl Z Z eQ Z Z n5 aq) ?_;clear d;rintro _ _ ⟨k,l,rfl,rfl⟩;refine⟨aW,λd=>?_⟩;refine aj 9 2 d ?_;refine cp 11 (fg mv set_set) λd=>?_;refine aS (bP (.inr Z) .nil ?_);exact qk
section
variable(w:World)(a:Addr)
theorem b5S:(method (Tryz.prog.types.size+Made.depth) 345 (.pointer (some a)) "Len").run Tryz.prog w=.ok (198,.pointer (some a)) w:=ld
theorem b5T:(method (Tryz.prog.types.size+Made.depth) 345 (.pointer (some a)) "Less").run Tryz.prog w=.ok (541,.pointer (some a)) w:=ld
theorem b5U:(method (Tryz.prog.types.size+Made.depth) 345 (.pointer (some a)) "Swap").run Tryz.prog w=.ok (544,.pointer (some a)) w:=ld
theorem b5V:(method (Tryz.prog.types.size+Made.depth) 345 (.pointer (some a)) "Push").run Tryz.prog w=.ok (543,.pointer (some a)) w:=ld
theorem b5W:(method (Tryz.prog.types.size+Made.depth) 345 (.pointer (some a)) "Pop").run Tryz.prog w=.ok (542,.pointer (some a)) w:=ld
end
def V4(W0:World)(b:Nat)(cs:List Value):HpO W0 TIt where
  T:=345
  p:=nq b
  el:=λx=>.iface 344 (.agg (jr x).toArray)
  H:=λl=>gF b (l,cs)
  fL:=198
  fE:=541
  fS:=544
  fU:=543
  fO:=542
  mL:=λu=>b5S u _
  mE:=λu=>b5T u _
  mS:=λu=>b5U u _
  mU:=λu=>b5V u _
  mO:=λu=>b5W u _
  cL:=call198
  cE:=call541
  cS:=call544
  cU:=call543
  cO:=call542
  sL:=λR l=>V2 b l cs
  sE:=λR l i j hi hj=>b5O b l cs i j hi hj
  sS:=λR l i j hi hj=>b5P b l cs i j hi hj
  sU:=λR l x hl=>b5R b l x cs hl
  sO:=λR l x=>b5Q b l x cs
theorem b5X(b:Nat)(c:List TIt)(x:TIt)(d:List Value)(e:c.length<900)(f:Hp.Heap c c.length):sP W0 50 [.iface 345 (nq b),.iface 344 (.agg (jr x).toArray)] (gF b (c,d)::R) (λv B=>v=.tuple #[]/\∃a,B=gF b (a,d)::R/\a.Perm (c++[x])/\Hp.Heap a a.length):=
  Hp.heapPush_spec (V4 W0 b d) R c x e f
theorem b5Y(b:Nat)(a:List TIt)(d:List Value)(e:a.length<900)(f:a≠[])(g:Hp.Heap a a.length):sP W0 117 [.iface 345 (nq b)] (gF b (a,d)::R) (λv B=>∃x c,v=.iface 344 (.agg (jr x).toArray)/\B=gF b (c,d)::R/\(c++[x]).Perm a/\Hp.Heap c c.length/\∀y∈a,Hk.ky x≤Hk.ky y):=
  Hp.heapPop_spec (V4 W0 b d) R a e f g
def gG(us:List Bool)(now:Int):List Value:=.slice none 0 0::(us.map Value.bool++[.int .i64 now,.bool true])
theorem F2(h:us.length=4):(gG us now).length=7:=by simp[gG,h]
theorem b5Z(h:us.length=4):(gG us now)[6]?=some (.bool true):=by
 obtain⟨a,b,c,d,rfl⟩:∃a b c d,us=[a,b,c,d]:=by
  match us,h with
  |[a,b,c,d],_=>exact⟨a,b,c,d,Z⟩
 rfl
theorem V5(h:us.length=4):(gG us now)[5]?=some (iQ now):=by
 obtain⟨a,b,c,d,rfl⟩:∃a b c d,us=[a,b,c,d]:=by
  match us,h with
  |[a,b,c,d],_=>exact⟨a,b,c,d,Z⟩
 rfl
theorem b50(h:us.length=4)(j:Nat)(v:Value)(e:(us.map Value.bool)[j]?=some v):(gG us now)[1+j]?=some v:=by
 obtain⟨a,b,c,d,rfl⟩:∃a b c d,us=[a,b,c,d]:=by
  match us,h with
  |[a,b,c,d],_=>exact⟨a,b,c,d,Z⟩
 match j,e with
 |0,e=>exact e
 |1,e=>exact e
 |2,e=>exact e
 |3,e=>exact e
 |j+4,e=>cases e
theorem b51{x:Int}(h:us.length=4):((gG us now).set 0 v).set 5 (iQ x)=(gG us x).set 0 v:=by
 obtain⟨a,b,c,d,rfl⟩:∃a b c d,us=[a,b,c,d]:=by
  match us,h with
  |[a,b,c,d],_=>exact⟨a,b,c,d,Z⟩
 rfl
theorem V6{u:Bool}(h:us.length=4)(e:n<4):((gG us now).set 0 v).set (1+n*1) (.bool u)=(gG (us.set n u) now).set 0 v:=by
 obtain⟨a,b,c,d,rfl⟩:∃a b c d,us=[a,b,c,d]:=by
  match us,h with
  |[a,b,c,d],_=>exact⟨a,b,c,d,rfl⟩
 match n,e with
 |0,_=>rfl
 |1,_=>rfl
 |2,_=>rfl
 |3,_=>rfl
theorem Ib(b:Nat)(c:List TIt)(e:List Bool)(d:Int)(h:e.length=4):sQ W0 197 [nq b] (gF b (c,gG e d)::R) (.bool false) (gF b (c,gG e d)::R):=by refine am func197 ntmps197 ?_;apply d7 Z Z Z<;>intro a;cases a;refine aw (ac (aY (E9 (b:=b) (T:=340) (E:=344) (sz:=3) (f:=jr) (o:=0) cl (b5Z h))) ?_);exact ki
def od:List Bool->Option Nat
 |[]=>none
 |u::us=>if u then(od us).map (· +1)else some 0
theorem b52{us k}(hk:k<us.length)(h1:∀j,j<k->us.getD j false=true)(h2:us.getD k false=false):od us=some k:=by
 induction us generalizing k with
 |nil=>exact absurd hk (QbD k)
 |cons u us a=>
  match k with
  |0=>rw[od,Qab mv]
  |k+1=>
   have b:u=true:=h1 0 (Nat.succ_pos k);rw[od,Qad b,a abx (λj c=>by simpa using h1 (j+1) aq) mv];rfl
theorem b53{us}(a:∀j,j<us.length->us.getD j false=true):od us=none:=by
 induction us with
 |nil=>rfl
 |cons u us b=>
  have c:u=true:=a 0 n4;rw[od,Qad c,b (λj d=>by simpa using a (j+1) mv)];rfl
theorem V7(h:od us=some k):k<us.length:=by
 induction us generalizing k with
 |nil=>cases h
 |cons u us b=>
  rw[od]at h;by_cases c:u=true;rw[Qad c]at h
  cases a:od us with
  |none=>rw[a]at h;cases h
  |some q=>rw[a]at h;have:=b a;cases h;simpa using this
  grind
theorem V8(b:Nat)(n:List TIt)(p:List Bool)(q:Int)(h:p.length=4):sQ W0 385 [nq b] (gF b (n,gG p q)::R) (.tuple #[iQ (((od p).getD 0:Nat):Int),.bool (od p).isSome]) (gF b (n,gG p q)::R):=by
 obtain⟨g,i,l,m,rfl⟩:∃a b c d,p=[a,b,c,d]:=by
  match p,h with
  |[a,b,c,d],_=>exact⟨a,b,c,d,Z⟩
 refine am func385 ntmps385 ?_;refine ac (cV (UX (T:=340) (E:=344) (sz:=3) (f:=jr) (o:=0) (vs:=[.bool g,.bool i,.bool l,.bool m]) λj v w=>⟨aq,b50 h j v w⟩)) ?_;refine eC (λk:Nat=>k≤4/\∀j,j<k->[g,i,l,m].getD j false=true) (λk=>[(0,nq b),(9,.agg ([g,i,l,m].map Value.bool).toArray),(10,iQ k)]) (λ_=>gF b (n,gG [g,i,l,m] q)::R) (λk=>4-k) 0 ?_ ?_;grind;intro k ⟨B,t⟩;refine aw (ap (λx=>?_) λx=>?_);have r:k<4:=aq;obtain⟨u,C⟩:∃u,[g,i,l,m].getD k false=u:=⟨_,Z⟩
 have s:([g,i,l,m].map Value.bool)[k]?=some (.bool u):=by
  grind
 refine ac (Kh XF l6 pU Z Z Z r s) ?_;apply ap<;>intro y;refine aZ ?_;have e:=b52 (us:=[g,i,l,m]) (k:=k) aq t mv;refine aP ?_;rw[e];rfl;refine ac cK (d8 (k+1) ?_);grind;refine aZ ?_;have e:=b53 (us:=[g,i,l,m]) λj A=>t j aq;refine aP ?_;rw[e];rfl
theorem b54(b:Nat)(a:List TIt)(e:List Bool)(c:Int)(h:e.length=4)(d:Int)(g:d<0):sQ W0 326 [nq b,iQ d] (gF b (a,gG e c)::R) (.tuple #[iQ 0,iQ 1]) (gF b (a,gG e c)::R):=by refine am YB ntmps326 ?_;refine ao (ar OV (Ib b a e c h)) ?_;apply aB Z<;>intro f;exact au 9 (aZ ax);omega
theorem b55(b:Nat)(a:List TIt)(e:List Bool)(c:Int)(h:e.length=4)(d:Int)(j:0≤d)(g:od e=none):sQ W0 326 [nq b,iQ d] (gF b (a,gG e c)::R) (.tuple #[iQ 0,iQ 2]) (gF b (a,gG e c)::R):=by refine am YB ntmps326 ?_;refine ao (ar OV (Ib b a e c h)) ?_;apply aB Z<;>intro i;omega;refine aw (eS (ar call385 (V8 b a e c h)) ?_);rw[g];refine aw (ap (λf=>?_) λf=>?_);exact aZ ax;exact absurd cl f
theorem b56(b:Nat)(g:List TIt)(j:List Bool)(e:Int)(h:j.length=4)(d:Int)(D:0≤d)(k:Nat)(u:od j=some k)(F:g.length<800)(y:Hp.Heap g g.length)(w:0≤e+1/\e+1<10000000000000000000)(A:0≤e/\e<4611686018427387904):sP W0 326 [nq b,iQ d] (gF b (g,gG j e)::R) (λv B=>v=.tuple #[iQ k,iQ 0]/\∃i,B=gF b (i,gG (j.set k true) (e+1))::R/\i.Perm (g++[⟨d,e+1,k,w⟩])/\Hp.Heap i i.length):=by
 have p:k<4:=by rw[<-h];exact V7 u
 refine am YB ntmps326 ?_;refine ao (ar OV (Ib b g j e h)) ?_;apply aB Z<;>intro C;omega;refine aw (eS (ar call385 (V8 b g j e h)) ?_);rw[u,Option.getD_some,Option.isSome_some];refine au 14 (aB Z (λx=>?_) λx=>?_);exact absurd x cl;refine au 3 (xN (b:=b) (T:=340) (E:=344) (sz:=3) (f:=jr) (o:=0) λa c G=>?_);refine aM (aa Z (aV Z) (aa Z (fJ Z) ?_));refine aa Z (bT Z c1Y Z bu Z dg) ?_;refine aa Z (bO cM Z (aO (by rw[Qbb cl];exact V5 h))) ?_;refine ac cK (aJ (fg (by grind[Qal,F2]) (b51 h)) ?_);refine ac (iy p) ?_;refine aJ (fg (by grind[F2]) (V6 h p)) ?_;refine gK (B:=gF b (g,gG (j.set k true) (e+1))::R) (kz Z Z (by grind[F2]) Z) ?_;have m:∀l:List TIt,bF (aQ W0 (gF b (l,gG (j.set k true) (e+1))::R)) b 5 [iQ (e+1)]:=λl=>KR (its:=l) (T:=340) (E:=344) (sz:=3) (f:=jr) (o:=0) cl (V5 aaq);refine dY [(b,5,[iQ (e+1)])] 14 mixed Z (dA (m _) bI) (λn=>?_);refine aj 0 8 n ?_;refine aE 8 n (aY (K0 (k:=0) Z)) ?_;refine aj 9 2 n ?_;refine aE 11 n (eH O9 Oh (aT Xn (aT bu eG)) (iU Z Xn Z Z (Qaa Z) SetRL.eq (cJ Z bu Z Z (Qaa Z) SetL.eq eE))) ?_;refine aj 12 1 n ?_;refine co 13 (ar Ju (b5X b g ⟨d,e+1,k,w⟩ (gG (j.set k true) (e+1)) aq y)) ?_;clear n;rintro _ H ⟨rfl,q,r,s,t⟩;subst r;refine⟨(dA (m _) bI),λn=>?_⟩;exact aS (aZ ⟨_,⟨Z,q,Z,s,t⟩,IO⟩)
theorem b57{N:FSz}{K:Act->World->Prop}{e:bK}{T E:TypeId}{sz o:Nat}{α:Type}{f:α->List Value}{d:List α}{j:List Value}[v:Tk (pF T E sz f o) b A (d,j) R](m:∀x,(f x).length=sz)(p:d≠[])(w:0<sz)
    (h:∀g c i,o<j.length->d.length≤c->c≤maxLen->(d.flatMap f++i).length=c*sz->aC W0 N K e (pt b (ae (j.set o (.slice (some ⟨g,0,none⟩) d.length c)) T)::pt g (ae (d.flatMap f++i) E)::R)):aC W0 N K e A:=
  xN (b:=b) (T:=T) (E:=E) (sz:=sz) (f:=f) (o:=o) λa c q=>ix (r:=osl E sz) (b:=.slice a d.length c) (qf (λ_ k=>by
      have:=dy m d;rw[k]at this;have l:d.length=0:=by
        grind
      exact absurd (QbA.1 l) p) λg n s i t k l y u=>by
    cases t
    exact uF (List.Perm.swap _ _ _) (h g c i q k l u))
structure TOk (us : List Bool) (now : Int) (ti : List TIt) : Prop where
  len : us.length = 4
  nn : (ti.length : Int) ≤ now
  id : ∀ x ∈ ti, 0 ≤ x.i ∧ x.i < 4
structure Tm where
  us : List Bool
  now : Int
  ti : List TIt
def mQ(b:Nat)(x:Tm):HP:=chk (λC=>∃its:List TIt,its.Perm x.ti/\Hp.Heap its its.length/\TOk x.us x.now x.ti/\C=[gF b (its,gG x.us x.now)])
section
variable{P:Program}{W0:World}{e:bK}{A R B:List HP}{b:Nat}{x:Tm}{f:FuncId}{args:List Value}{Post:Value->List HP->Prop}
theorem V9(h:∀a,a.Perm x.ti->Hp.Heap a a.length->TOk x.us x.now x.ti->bE P W0 f args (gF b (a,gG x.us x.now)::R) Post):bE P W0 f args (mQ b x::R) Post:=
  uP λC c=>by obtain⟨a,d,e,g,rfl⟩:=c;exact h a d e g
theorem F3{a c:List TIt}[h:Tk gF b A (a,gG us now) R](d:a.Perm c)(e:Hp.Heap a a.length)(f:TOk us now c)[k:Ent R B]:Ent A (mQ b ⟨us,now,c⟩::B):=
  (Ent.ofPerm h.perm).trans ((Ent.cons k).trans (fT (R:=B) (C:=[_]) ⟨a,d,e,f,Z⟩))
theorem b58:Ent (pt b (ae ((gG [false,false,false,false] 0).set 0 iA) 340)::R) (mQ b ⟨[false,false,false,false],0,[]⟩::R):=by
 have e:Ent (pt b (ae ((gG [false,false,false,false] 0).set 0 iA) 340)::R) (gF b ([],gG [false,false,false,false] 0)::R):=
   (Ent.cons (eW (E:=344) (sz:=3) (A:=R) (B:=R))).trans (fT (R:=R) (C:=[_,_]) ⟨cl,none,0,Z⟩)
 exact e.trans (fT (R:=R) (C:=[_]) ⟨[],QaS _,λc hc=>absurd hc (QbD c),⟨Z,Qan _,λx hx=>aa2⟩,Z⟩)
end
def vx(x:Tm)(d:Int):Int:=if d<0 then 1 else if od x.us=none then 2 else 0
def Cx(x:Tm)(d:Int):Nat:=if d<0 then 0 else(od x.us).getD 0
def yr(x:Tm)(d:Int):Tm:=
  if h:0≤d/\0≤x.now+1/\x.now+1<10000000000000000000 then(match od x.us with |some k=>⟨x.us.set k true,x.now+1,x.ti++[⟨d,x.now+1,k,h.2⟩]⟩|none=>x)else x
theorem b59(b:Nat)(x:Tm)(d:Int)(hb:x.now<700):sQ W0 326 [nq b,iQ d] (mQ b x::R) (.tuple #[iQ ((Cx x d:Nat):Int),iQ (vx x d)]) (mQ b (yr x d)::R):=by
 obtain⟨i,a,u⟩:=x;refine V9 λe f j c=>?_;dsimp only at f j c hb ⊢;have o:0≤a:=by have:=c.nn;omega
 have w:=f.length_eq;by_cases g:d<0;rw[vx,Cx,yr,Qad g,Qad g,dif_neg aq];refine cF (b54 b e i a c.len d g) λv B h=>?_;obtain⟨rfl,rfl⟩:=h;exact⟨_,⟨Z,Z⟩,F3 f j c⟩;have m:0≤d/\0≤a+1/\a+1<10000000000000000000:=aq;rw[vx,Cx,yr,Qab g,Qab g,dif_pos m];dsimp only
 cases l:od i with
 |none=>
  refine cF (b55 b e i a c.len d aq l) λv B h=>?_;obtain⟨rfl,rfl⟩:=h;exact⟨_,⟨Z,Z⟩,F3 f j c⟩
 |some k=>
  have p:k<4:=by rw[<-c.len];exact V7 l
  have:=c.nn;refine cF (b56 b e i a c.len d aq k l aq j m.2 aq) λv B h=>?_;obtain⟨rfl,n,rfl,r,s⟩:=h;refine⟨_,⟨Z,Z⟩,F3 (r.trans (f.append_right _)) s ⟨by rw[Qal];exact c.len,?_,λy t=>?_⟩⟩;grind;rcases Qba.1 t with q|q;exact c.id y q;grind
def lR(us:List Bool)(F:List TIt):List Bool:=us.mapIdx λj u=>u&& !(F.any λx=>x.i==(j:Int))
theorem Cy us F:(lR us F).length=us.length:=by simp[lR]
theorem b6a us:lR us []=us:=by apply QaV (by simp[lR]);intro i a b;simp[lR]
theorem Va us F(i:Nat)h:(lR us F)[i]'(by rw[Cy];exact h)=(us[i]&& !(F.any λx=>x.i==i)):=by simp[lR]
theorem b6b{F:List TIt}{x:TIt}(c:x.i=(k:Int)):(lR us F).set k false=lR us (F++[x]):=by
 apply QaV (by simp[lR]);intro i d e;have a:i<us.length:=by grind[Cy]
 have b:((F++[x]).any λy=>y.i==(i:Int))=((F.any λy=>y.i==(i:Int))||decide (k=i)):=by
  grind
 rw[QcQ,Va us (F++[x]) i a,Va us F i a,b];by_cases q:k=i;grind;grind
theorem Vb{F F'}(h:F.Perm F'):lR us F=lR us F':=by grind[lR]
def rO(now:Int)(x:TIt):Bool:=decide (x.d≤now)
def Cz(x:Tm)(now:Int):Tm:=⟨lR x.us (x.ti.filter (rO now)),x.now,x.ti.filter λy=> !rO now y⟩
def yt(x:Tm)(now:Int):Nat:=(x.ti.filter (rO now)).length
theorem Vd{c F e:List TIt}(f:(c++F).Perm e)(g:∀y∈F,rO now y=true)(h:∀y∈c,rO now y=false):F.Perm (e.filter (rO now))/\c.Perm (e.filter λy=> !rO now y):=by have a:=f.filter (rO now);have b:=f.filter (λy=> !rO now y);rw[QbQ,List.filter_eq_nil_iff.2 (λy d=>by rw[h y d];decide),Qbp.2 g,Qar]at a;rw[QbQ,Qbp.2 (λy d=>by rw[h y d];rfl),List.filter_eq_nil_iff.2 (λy d=>by rw[g y d];decide),Qaq]at b;exact⟨a,b⟩
theorem Ve{x y:TIt}(h:Hk.ky x≤Hk.ky y):x.d≤y.d:=by have a:Hk.ky x=x.s+x.d*100000000000000000000:=Z;have b:Hk.ky y=y.s+y.d*100000000000000000000:=Z;have c:=x.hs;have e:=y.hs;omega
structure Fr29 where
  its : List TIt
  F : List TIt
  a : Option Addr
  c : Nat
theorem b6c(b:Nat)(x:Tm)(d:Int)(hb:x.now<700):sP W0 126 [nq b,iQ d] (mQ b x::R) (λv B=>∃a c,v=.slice a (yt x d) c/\B=mQ b (Cz x d)::R):=by
 obtain⟨s,t,A⟩:=x;refine V9 λC h1 h2 m=>?_;dsimp only at h1 h2 m hb ⊢;have x0:A.length<800:=by have:=m.nn;omega
 refine am func126 ntmps126 ?_;refine ao (ar OV (Ib b C s t m.len)) ?_;refine fI (λX:Fr29=>(X.its++X.F).Perm A/\Hp.Heap X.its X.its.length/\∀y∈X.F,rO d y=true) (λX=>[(0,nq b),(1,iQ d),(5,.slice X.a X.F.length X.c)]) (λX=>gF b (X.its,gG (lR s X.F) t)::osl 3 1 (.slice X.a X.F.length X.c) (X.F.map λy=>Value.int .i64 y.i)::R) (λX=>X.its.length) ⟨C,[],none,0⟩ ?_ ?_ ?_ ?_;grind
 · exact ai
 grind[b6a,Ent.cons,eW];intro ⟨l,F,a,c⟩ ⟨w,D,N⟩;dsimp only at w D N ⊢;have O:(lR s F).length=4:=by rw[Cy];exact m.len
 have P:=w.length_eq;rw[Qaf]at P;refine aw (ao (ar call198 (V2 b l (gG (lR s F) t))) ?_);apply e9<;>intro n;have p:l≠[]:=λe=>by rw[e]at n;exact absurd n cl
 have r:0<l.length:=Qcy.2 p;have G:=b5N l;refine b57 (b:=b) (T:=340) (E:=344) (sz:=3) (f:=jr) (o:=0) oc p cl λg cc sp Q k1 k2 k3=>?_;refine aw (ac (aY (aO (eA Q))) ?_);refine ac (kP D3 J9 ρ ρ (i:=0) ρ r dg) ?_;refine ac (aY (aO (G sp 0 0 r cl))) ?_;apply ap<;>intro S;refine gK (B:=gF b (l,gG (lR s F) t)::osl 3 1 (.slice a F.length c) (F.map λy=>Value.int .i64 y.i)::R) (jJ oc ρ ρ Q ρ k1 k2 k3) ?_;refine aw (aF ρ (ar Jv (b5Y b l (gG (lR s F) t) aq p D)) ?_);rintro _ B_ ⟨y,H,rfl,U,u,V,I⟩;subst U;have W:y∈l:=u.mem_iff.1 n4;have Y:y∈A:=w.mem_iff.1 (List.mem_append_left _ W);have x2:=m.id y Y;obtain⟨k,hk⟩:∃k:Nat,y.i=(k:Int):=⟨y.i.toNat,aq⟩
 have J:k<4:=aq;have x1:rO d y=true:=by
  have:=I (l.getD 0 default) (by
    rw[Qao,QbN r]
    exact QaC r)
  exact Qav (Int.le_trans (Ve this) S)
 refine ac (uN O9 (λ_ h=>n8) ρ) ?_;refine bU λb6=>?_;refine aJ aR (xN (b:=b) (T:=340) (E:=344) (sz:=3) (f:=jr) (o:=0) λa2 c2 x3=>?_);refine bH [b6] 7 λZ=>?_;refine aj 0 5 Z ?_;refine aE 5 Z (dW XF l6 ρ ρ hk J dg) ?_;refine cp 6 (fg (by grind[Qal,F2]) ((V6 O J).trans (by rw[b6b hk]))) λZ=>?_;refine aS (gK (B:=gF b (H,gG (lR s (F++[y])) t)::pt b6 (ae (jr y) 344)::osl 3 1 (.slice a F.length c) (F.map λy=>Value.int .i64 y.i)::R) (kz ρ ρ (by grind[F2,Cy]) ρ) ?_);refine aw ?_;refine dh (lG jE bu pq ρ ρ ρ ρ ρ cl cl) λb2=>?_;refine aF ρ (fR (sz:=1) (by_:=8) (info:=Tryz.t3) jE ld ρ ρ ρ ρ cl ρ ρ eQ ρ ρ n5 aq) ?_;rintro _ _ ⟨a3,c3,rfl,rfl⟩;refine aw (nE ⟨H,F++[y],a3,c3⟩ ?_ ?_ ?_ ?_);refine⟨?_,V,λz M=>?_⟩;refine List.Perm.trans ?_ w;show(H++(F++[y])).Perm (l++F);refine List.Perm.trans ?_ (u.append_right F);rw[QaM];exact QaQ.append_left H;grind;show H.length<l.length;have:=u.length_eq;rw[Qaf]at this;simp only[QaK,Qca]at this;omega
 · dsimp only
   rw[show(F++[y]).length=F.length+1 by simp];exact ai
 dsimp only;rw[show(F++[y]).length=F.length+1 by simp,QaN,QaE,QbE];exact IO;refine ag ?_
 obtain⟨K,L⟩:=Vd (now:=d) w N (λy hy=>by
  refine Qat λq=>S ?_;obtain⟨j,hj,rfl⟩:=Qbi.1 hy;have:=Hp.heap_min D j hj;rw[Hp.us,Hp.us_eq hj]at this
  exact Int.le_trans (Ve this) q)
 refine⟨_,⟨a,c,?_,ρ⟩,?_⟩;show Value.slice a _ c=Value.slice a (A.filter (rO d)).length c;rw[K.length_eq];rw[Cz, <-Vb K];refine Ent.trans (B:=gF b (l,gG (lR s F) t)::R) (jJ oc ρ ρ Q ρ k1 k2 k3) ?_;exact z3;refine ag ?_;have p:l=[]:=QbA.1 aq;subst p;obtain⟨K,L⟩:=Vd w N (λy hy=>by cases hy);refine⟨_,⟨a,c,?_,ρ⟩,?_⟩;show Value.slice a _ c=Value.slice a (A.filter (rO d)).length c;rw[K.length_eq];rw[Cz, <-Vb K];exact z3
structure Gu where
  c : Cpu
  qa : QS
  qb : QS
  qc : QS
  ls : List Li
  ln : Int
  tm : Tm
  halted : Bool
  rd : List Nat
  clock : Nat
  es : List Evt
  bud : Nat
variable {g:Gu}
structure Gz where
  x : Bd
  q0 : Nat
  q1 : Nat
  q2 : Nat
  pv : Nat
  ps : Nat
  pm : Nat
  pb : Nat
  bx : Nat
  tr : Nat
  wv : Value
  i : Nat
  c : Cfg
variable {z:Gz}
@[reducible] def lu(z:Gz)(g:Gu):List Value:=[pV z.x.r,pV z.x.c,pV z.x.m,pV z.q0,pV z.q1,pV z.q2,pV z.x.v,pV z.x.t,.bool g.halted,wV (cn g.rd 0),wV (cn g.rd 1),wV (cn g.rd 2),wV (cn g.rd 3)]++dU z.c++[.int .i64 z.i,z.wv,pV z.pb,pV z.pv,pV z.bx,pV z.tr,.int .i64 g.clock]
abbrev bN(z:Gz)(g:Gu):Obj:=ae (lu z g) 98
def fF(n:Nat):Nat:=n-1
def yu(es:List Evt)(e:Evt):List Evt:=if es.length<4096 then es++[e]else es
abbrev t6(g:Gu)(k:Int)(a b p:Nat):Gu:={ g with es:=yu g.es ⟨k,((fF g.clock:Nat):Int),a,b,p,g.c.rl⟩ }
abbrev yw(g:Gu)(pc:Nat):Gu:={ g with c:=⟨g.c.rl,pc,g.c.cs⟩ }
abbrev qG(g:Gu):Gu:={ g with halted:=true }
abbrev lS(g:Gu):Gu:={ g with bud:=g.bud+3 }
abbrev Ic(g:Gu)(cause tval:Nat):Gu:={ g with c:=⟨g.c.rl,fV g.c.cs 1,zK g.c.cs g.c.pc cause tval⟩ }
def gH(g:Gu)(cause tval:Nat):Int×Gu:=
  if fV g.c.cs 1=0 then(4,t6 (qG g) 6 cause tval g.c.pc)else(1,t6 (Ic g cause tval) 1 cause tval g.c.pc)
def Ao(c:Nat)(f:Int):Nat:=u32 ((c:Int)+((u32 (16*((u32 f:Nat):Int)):Nat):Int))
def wQ(w:Nat)(n:Int):Nat:=if n=1 then u32 (IntKind.wrap .i32 (IntKind.wrap .i8 (w:Int)))else if n=2 then u32 (IntKind.wrap .i32 (IntKind.wrap .i16 (w:Int)))else w
theorem b6d{w n}(h:w<4294967296):wQ w n<4294967296:=by grind[wQ,fy]
abbrev vy(g:Gu)(fr:List az)(pg:List Pl)(a:Nat)(w k:Int):Nat:=yn fr pg (oD g.c.cs) (oE g.c.cs) (!ii g.c.cs) a w k
abbrev wR(g:Gu)(fr:List az)(pg:List Pl)(a:Nat)(w k:Int):Int:=vu fr pg (oD g.c.cs) (oE g.c.cs) (!ii g.c.cs) a w k
abbrev Ie(g:Gu)(fr:List az)(pg:List Pl)(a:Nat)(w:Int)(x:Nat):List az:=qF fr pg (oD g.c.cs) (oE g.c.cs) (!ii g.c.cs) a w x
abbrev Vf(g:Gu)(d v pc:Nat):Gu:={ g with c:=⟨sH g.c.rl d v,pc,g.c.cs⟩ }
def uk(g:Gu)(fr:List az)(pg:List Pl)(e:Eff):Int×Gu:=
  if wR g fr pg e.addr e.width 1≠0 then gH (lS g) (Ao 4 (wR g fr pg e.addr e.width 1)) e.addr
  else(0,Vf (lS g) e.d (if e.signed then wQ (vy g fr pg e.addr e.width 1) e.width else vy g fr pg e.addr e.width 1) e.pc)
def ul(g:Gu)(fr:List az)(pg:List Pl)(e:Eff):Int×Gu:=
  if wR g fr pg e.addr e.width 2≠0 then gH (lS g) (Ao 5 (wR g fr pg e.addr e.width 2)) e.addr else(0,yw (lS g) e.pc)
def kY(g:Gu)(fr:List az)(pg:List Pl)(e:Eff):(Int×Gu)×List az:=
  if e.k=1 then(uk g fr pg e,fr)
  else if e.k=2 then(ul g fr pg e,Ie g fr pg e.addr e.width e.val)
  else if e.k=3 then(gH g e.cause e.tval,fr)
  else if e.k=6 then((0,yw g e.pc),fr)
  else if e.k=5 then((4,t6 (yw (qG g) e.pc) 4 0 0 g.c.pc),fr)
  else if e.k=4 then((3,g),fr)
  else((0,g),fr)
abbrev CB(g:Gu)(c:Cpu):Gu:={ g with c:=c }
def kt(i:Nat)(g:Gu)(fr:List az)(pg:List Pl):(Int×Gu)×List az:=
  if wR g fr pg g.c.pc 4 0≠0 then(gH (lS g) (Ao 3 (wR g fr pg g.c.pc 4 0)) g.c.pc,fr)
  else if nN (kl (vy g fr pg g.c.pc 4 0))=false then(gH (lS g) 1 (vy g fr pg g.c.pc 4 0),fr)
  else kY (CB (lS g) (sI i (fF g.clock) (kl (vy g fr pg g.c.pc 4 0)) g.c).2) fr pg (sI i (fF g.clock) (kl (vy g fr pg g.c.pc 4 0)) g.c).1
abbrev kJ(g:Gu):Gu:={ g with tm:=Cz g.tm ((fF g.clock:Nat):Int),ls:=if yt g.tm ((fF g.clock:Nat):Int)=0 then g.ls else jb g.ls g.ln 7,ln:=if yt g.tm ((fF g.clock:Nat):Int)=0 then g.ln else gz g.ls g.ln 7 }
abbrev b6e(g:Gu):Gu:={ g with ls:=uj g.ls }
def jc(g:Gu):Bool×Gu:=
  if zJ g.c.cs then(match mg g.ls with
    |some n=>(true,t6 (Ic (b6e g) (256+n) 0) 3 (256+n) 0 g.c.pc)
    |none=>(false,g))else(false,g)
abbrev kK(g:Gu):Gu:={ g with clock:=g.clock+1 }
def gB(i:Nat)(g:Gu)(fr:List az)(pg:List Pl):(Int×Gu)×List az:=
  if g.halted then((5,kK g),fr)
  else if (jc (kJ (kK g))).1 then((2,(jc (kJ (kK g))).2),fr)
  else kt i (jc (kJ (kK g))).2 fr pg
theorem b6f(b:Nat)(d:List Evt)(k f:Int)(x y z:Nat)(e:List Nat)(h:e.length=16):sP W0 205 [pV b,.agg ([Value.int .i64 k,iQ f,wV x,wV y,wV z]++e.map wV).toArray] (ie b d::R) (λv B=>∃q,v=iQ q/\B=ie b (yu d ⟨k,f,x,y,z,e⟩)::R):=by by_cases g:d.length<4096;rw[yu,Qad g];refine cF (b2r b d k f x y z e h g) λv B i=>?_;obtain⟨rfl,rfl⟩:=i;exact⟨_,⟨0,Z,Z⟩,ent_refl⟩;rw[yu,Qab g];refine am func205 ntmps205 ?_;refine bR λl=>?_;refine ao (ar call157 (SP b d)) ?_;refine LJ (b:=b) λa c=>?_;refine aw (aB Z (λj=>?_) λj=>?_);exact au 8 (ag ⟨_,⟨2,Z,Z⟩,Hq Z Z⟩);omega
structure GOk (z : Gz) (g : Gu) (N : Nat) : Prop where
  c : CpOk g.c
  i : z.i < 4
  clk : g.clock ≤ N
  bud : g.bud ≤ 16 * N
  ln : g.ln ≤ 1000 * N
  tn : g.tm.now ≤ N
theorem GOk.k {z g N} (h : GOk z g N) (hN : N ≤ 700) : g.clock < 1000000000 := by have := h.clk; omega
theorem GOk.cpu{a:Gu}(h:GOk z g N)(b:CpOk a.c)(e:a.clock=g.clock)(f:a.bud≤g.bud+6)(j:a.ln=g.ln)(d:a.tm=g.tm):GOk z a (N+1):=
  ⟨b,h.i,by have:=h.clk;omega,by have:=h.bud;omega,by have:=h.ln;omega,by rw[d];have:=h.tn;omega⟩
abbrev gN(gb:Nat)(z:Gz)(g:Gu)(R:List HP):List HP:=pt gb (bN z g)::pt z.x.r (eJ g.c.rl g.c.pc)::ie z.tr g.es::R
abbrev gT(gb:Nat)(z:Gz)(g:Gu)(R:List HP):List HP:=pt gb (bN z g)::pt z.x.r (eJ g.c.rl g.c.pc)::pt z.x.c (fj g.c.cs z.i)::ie z.tr g.es::R
abbrev gM(gb:Nat)(z:Gz)(g:Gu)(fr:List az)(pg:List Pl)(R:List HP):List HP:=pt gb (bN z g)::pt z.x.r (eJ g.c.rl g.c.pc)::pt z.x.c (fj g.c.cs z.i)::ie z.tr g.es::cR z.x.m ⟨z.pv,z.ps,z.pm,g.bud,fr,pg⟩::aH z.ps fr::R
section
variable(W0:World)(R:List HP)(gb:Nat)(z:Gz)(g:Gu)(N:Nat)(fr:List az)(pg:List Pl)
theorem pP:sQ W0 33 [pV gb] (pt gb (bN z g)::R) (.bool false) (pt gb (bN z g)::R):=by refine am func33 ntmps33 ?_;apply d7 Z Z Z<;>intro a;cases a;exact aw (ag ax)
theorem If(a:g.clock<1000000000):sQ W0 127 [pV gb] (pt gb (bN z g)::R) (iQ (fF g.clock)) (pt gb (bN z g)::R):=by refine am func127 ntmps127 ?_;refine ac jt (ac (xD Z Z (show _=((fF g.clock:Nat):Int) by unfold fF;split<;>omega)) ?_);exact ki
theorem yx(e:g.clock<1000000000)(b:g.c.rl.length=16)k x y w:sQ W0 133 [pV gb,iQ k,wV x,wV y,wV w] (gN gb z g R) (.tuple #[]) (gN gb z (t6 g k x y w) R):=by refine am func133 ntmps133 ?_;refine bH [gb] 18 λa=>?_;refine aj 0 6 a ?_;refine aj 7 8 a ?_;refine bQ 6 (ar OW (If W0 _ gb z g e)) λa=>?_;refine bQ 15 (ar call206 (SN z.x.r g.c.rl g.c.pc b)) λa=>?_;refine aE 16 a (b2q b Z Z Z Z Z Z) ?_;refine co 17 (ar call205 (b6f z.tr g.es k ((fF g.clock:Nat):Int) x y w g.c.rl b)) ?_;clear a;rintro _ f ⟨q,rfl,d⟩;subst d;refine⟨aW,λa=>?_⟩;refine aS (bP (.inr Z) .nil ?_);exact ax
theorem F4(h:GOk z g N)(hN:N≤700)cause tval(h1:cause<4294967296)(h2:tval<4294967296):sQ W0 136 [pV gb,wV cause,wV tval] (gT gb z g R) (iQ (gH g cause tval).1) (gT gb z (gH g cause tval).2 R):=by
 obtain⟨tv,htv⟩:∃t,(fV g.c.cs 1 != 0)=t:=⟨_,Z⟩
 have hz:fV g.c.cs 1=0↔tv=false:=mv;rw[gH];refine am func136 ntmps136 ?_;refine ao (ar yX (wD z.x.r g.c.rl g.c.pc h.c.r.len)) ?_;refine ao (ar call199 (Ut z.x.c h.c.cs)) ?_;rw[htv];apply ap<;>intro c2;rw[Qad (hz.2 mv)];refine aJ (tG (aas:(lu z g).set 8 (.bool true)=lu z (qG g))) ?_;refine ao (dF Be (yx W0 _ gb z (qG g) (h.k hN) h.c.r.len 6 cause tval g.c.pc)) ?_;exact ki;rw[Qab (λq=>by have:=hz.1 q;simp_all)];refine ao (ar call131 (Uv z.x.c g.c.pc cause tval h.c.cs h.c.pc h1 h2)) ?_;refine ao (ar JC (Ey z.x.r g.c.rl g.c.pc (fV g.c.cs 1) h.c.r.len)) ?_;refine ao (dF Be (yx W0 _ gb z (Ic g cause tval) (h.k hN) h.c.r.len 1 cause tval g.c.pc)) ?_;exact ki
theorem Vg g a b:(gH g a b).2.bud=g.bud:=by unfold gH;split<;>rfl
theorem MG{W0 R}c f:sQ W0 137 [wV c,iQ f] R (wV (Ao c f)) R:=by refine am func137 ntmps137 ?_;refine ac (cv (iK f)) ?_;refine ac (Bf Z Z (iK _)) ?_;refine ac (dI Z Z (iK _)) ?_;exact ki
theorem Ig(a:g.c.rl.length=16)pc:sQ W0 303 [pV gb,wV pc] (pt gb (bN z g)::pt z.x.r (eJ g.c.rl g.c.pc)::R) (iQ 0) (pt gb (bN z g)::pt z.x.r (eJ g.c.rl pc)::R):=by refine am func303 ntmps303 ?_;refine ao (ar JC (Ey z.x.r g.c.rl g.c.pc pc a)) ?_;exact ki
theorem b6g{W0 R}w n:sQ W0 302 [wV w,iQ n] R (wV (wQ w n)) R:=by refine am func302 ntmps302 ?_;apply ap<;>intro a;refine ac (cv Z) ?_;refine ac (cv Z) ?_;refine ac (cv (iK _)) ?_;refine ag ?_;rw[wQ,Qad aq];exact ax;apply ap<;>intro b;refine ac (cv Z) ?_;refine ac (cv Z) ?_;refine ac (cv (iK _)) ?_;refine ag ?_;rw[wQ,Qab aq,Qad aq];exact ax;refine ag ?_;rw[wQ,Qab aq,Qab aq];exact ax
theorem GOk.tick{z g N}(h:GOk z g N):GOk z (lS g) (N+1):=h.cpu h.c Z mv Z Z
theorem F5{c:List az}{d:List Pl}{a:Int}(e:bD c):yn c d on root user va w a<4294967296:=by
 unfold yn;split;split;unfold gW;split
 rename_i f
 obtain⟨i,g,b⟩:=wc f;rw[g,Qae];exact Ks (e.get b).2;decide;decide;decide
theorem Vh{a:List az}{b:List Pl}{x:Nat}(c:bD a):bD (qF a b on root user va w x):=by grind[qF,vd]
theorem Vi{a:List az}{b:List Pl}{x:Nat}:(qF a b on root user va w x).length=a.length:=by grind[qF,tP]
theorem b6h(q:∀A,bF (aQ W0 A) 1 0 ja)(h:GOk z g N)(v:N≤690)(B:bD fr)e(l:EfOk e):sQ W0 220 [pV gb,.agg (eU e).toArray] (gM gb z g fr pg R) (iQ (uk g fr pg e).1) (gM gb z (uk g fr pg e).2 fr pg R):=by
 obtain⟨F,f⟩:∃F,wR g fr pg e.addr e.width 1=F:=⟨_,Z⟩
 obtain⟨w,i⟩:∃w,vy g fr pg e.addr e.width 1=w:=⟨_,Z⟩
 have C:w<4294967296:=by grind[F5]
 have s:=h.tick;have t:=h.bud;rw[uk,f,i];refine iW func220 ntmps220 Z Z ?_;refine aG (aM ?_);refine dT (l8 Z) λj=>?_;refine aa Z (aU Z) (aI (aA (aG ?_)));refine bH [gb,j] 21 λa=>?_;refine aj 0 10 a ?_;refine aj 11 4 a ?_;refine bQ 10 (ar JF (EX z.x.c h.c.cs)) λa=>?_;refine co 15 (dj call134 (UT W0 _ z.x.m z.pv z.ps z.pm g.bud fr pg q aq (oD g.c.cs) (oE g.c.cs) (!ii g.c.cs) e.addr l.addr e.width 1)) ?_;clear a;rintro _ p ⟨rfl,b⟩;subst b;rw[show vu fr pg (oD g.c.cs) (oE g.c.cs) (!ii g.c.cs) e.addr e.width 1=F from f,show yn fr pg (oD g.c.cs) (oE g.c.cs) (!ii g.c.cs) e.addr e.width 1=w from i];refine⟨aW,λa=>?_⟩;refine aj 16 5 a ?_;refine eY (aA (aG (aG (aM (aa Z (aV Z) (aa Z (nI Z Z) (aI (aA ?_))))))));apply aB Z<;>intro n;refine aG (bH [j] 7 λa=>?_);refine aj 0 2 a ?_;refine aj 3 2 a ?_;refine bQ 2 (aK YC (MG 4 F)) λa=>?_;refine iw 5 ld Z Z (gU JH Z (F4 W0 _ gb z (lS g) (N+1) s aq (Ao 4 F) e.addr (fy _) l.addr)) Z ?_;clear a;rintro _ p ⟨rfl,b⟩;subst b;refine⟨(bj bI),λa=>?_⟩;refine aj 6 1 a ?_;refine aS (ag ?_);rw[Qad n];unfold gM;rw[Vg];exact ax;refine au 2 (fA (λ_:Unit=>True) (λ_=>[(0,pV gb),(3,pV j),(5,wV (if e.signed then wQ w e.width else w))]) (λ_=>pt j (ae (eU e) 255)::gM gb z (lS g) fr pg R) ?_ ?_);refine au 6 (ap (λo=>?_) λo=>?_);refine ao (aK call302 (b6g w e.width)) ?_;refine jF () ?_ ?_ ?_;trivial
 · rw[Qad o]
   exact ai
 exact IO;refine jF () ?_ ?_ ?_;trivial
 · rw[Qab o]
   exact ai
 exact IO;intro _ _;rw[Qab n];obtain⟨y,u⟩:∃y,(if e.signed then wQ w e.width else w)=y:=⟨_,Z⟩
 rw[u];have k:pK (e.d:Int)=true:=by have:=l.d;simp only[pK,Qas];omega
 refine aw (bH [gb,j] 9 λa=>?_);refine aj 0 8 a ?_;refine co 8 (ar OR (Uq z.x.r g.c.rl g.c.pc y e.d h.c.r.len)) ?_;clear a;rintro _ p ⟨rfl,b⟩;subst b;rw[Qad k,Qad k,Qae];refine⟨aW,λa=>?_⟩;refine aS (ao (dj OX (Ig W0 _ gb z (Vf (lS g) e.d y g.c.pc) (by show(sH g.c.rl e.d y).length=16;unfold sH;split<;>simp[h.c.r.len]) e.pc)) ?_);exact ki
theorem b6i(o:∀A,bF (aQ W0 A) 1 0 ja)(h:GOk z g N)(t:N≤690)(u:bD fr)e(j:EfOk e):sQ W0 221 [pV gb,.agg (eU e).toArray] (gM gb z g fr pg R) (iQ (ul g fr pg e).1) (gM gb z (ul g fr pg e).2 (Ie g fr pg e.addr e.width e.val) pg R):=by
 obtain⟨F,i⟩:∃F,wR g fr pg e.addr e.width 2=F:=⟨_,Z⟩
 obtain⟨k,b⟩:∃f,Ie g fr pg e.addr e.width e.val=f:=⟨_,Z⟩
 have p:=h.tick;have q:=h.bud;rw[ul,i,b];refine iW func221 ntmps221 Z Z ?_;refine aG (aM ?_);refine dT (l8 Z) λn=>?_;refine aa Z (aU Z) (aI (aA (aG (aG ?_))));refine bH [gb,n] 19 λa=>?_;refine aj 0 10 a ?_;refine aj 11 6 a ?_;refine bQ 10 (ar JF (EX z.x.c h.c.cs)) λa=>?_;refine co 17 (dj call304 (b5c W0 _ z.x.m z.pv z.ps z.pm g.bud fr pg o aq (oD g.c.cs) (oE g.c.cs) (!ii g.c.cs) e.addr j.addr e.width e.val j.val)) ?_;clear a;rintro _ s ⟨rfl,d⟩;subst d;rw[show vu fr pg (oD g.c.cs) (oE g.c.cs) (!ii g.c.cs) e.addr e.width 2=F from i,show qF fr pg (oD g.c.cs) (oE g.c.cs) (!ii g.c.cs) e.addr e.width e.val=k from b];refine⟨aW,λa=>?_⟩;refine aj 18 1 a ?_;refine eY (aA (aG (aM (aa Z (aV Z) (aa Z (nI Z Z) (aI (aA ?_)))))));apply aB Z<;>intro l;refine aG (bH [n] 7 λa=>?_);refine aj 0 2 a ?_;refine aj 3 2 a ?_;refine bQ 2 (aK YC (MG 5 F)) λa=>?_;refine iw 5 ld Z Z (gU JH Z (F4 W0 _ gb z (lS g) (N+1) p aq (Ao 5 F) e.addr (fy _) j.addr)) Z ?_;clear a;rintro _ s ⟨rfl,d⟩;subst d;refine⟨(bj bI),λa=>?_⟩;refine aj 6 1 a ?_;refine aS (ag ?_);rw[Qad l];unfold gM;rw[Vg];exact ax;refine aw (ao (dj OX (Ig W0 _ gb z (lS g) h.c.r.len e.pc)) ?_);refine ag ?_;rw[Qab l];exact ax
theorem b6j(h:GOk z g N)(c:N≤690)e(b:EfOk e):sQ W0 222 [pV gb,.agg (eU e).toArray] (gM gb z g fr pg R) (.int .i64 (gH g e.cause e.tval).1) (gM gb z (gH g e.cause e.tval).2 fr pg R):=by
 have a:(gH g e.cause e.tval).2.bud=g.bud:=by grind[gH]
 refine jj 2 func222 ntmps222 ?_;refine dT (l8 Z) λd=>?_;refine au 10 (cW 4 (gU JH Z (F4 W0 _ gb z g N h aq e.cause e.tval (by have:=b.cause;omega) b.tval)) ?_);refine ag ?_;unfold gM;rw[a];exact gj
theorem b6k(b:g.c.rl.length=16)e:sQ W0 223 [pV gb,.agg (eU e).toArray] (gM gb z g fr pg R) (iQ 0) (gM gb z (yw g e.pc) fr pg R):=by refine am func223 ntmps223 ?_;refine bR λd=>?_;refine aF Z (ar call305 (b5d W0 _ z.x.m z.pv z.ps z.pm g.bud fr pg)) ?_;rintro _ f ⟨q,rfl,a⟩;subst a;refine aw (ao (dj OX (Ig W0 _ gb z g b e.pc)) ?_);exact ki
theorem b6l(hk:g.clock<1000000000)(hl:g.c.rl.length=16)e:sQ W0 224 [pV gb,.agg (eU e).toArray] (gM gb z g fr pg R) (iQ 4) (gM gb z (t6 (yw (qG g) e.pc) 4 0 0 g.c.pc) fr pg R):=by refine am func224 ntmps224 ?_;refine bR λb3=>?_;refine ao (ar yX (wD z.x.r g.c.rl g.c.pc hl)) ?_;refine aJ (tG (aas:(lu z g).set 8 (.bool true)=lu z (qG g))) ?_;refine ao (dj OX (Ig W0 _ gb z (qG g) hl e.pc)) ?_;refine ao (dF Be (yx W0 _ gb z (yw (qG g) e.pc) hk hl 4 0 0 g.c.pc)) ?_;exact ki
def Vj(f:FuncId)(e:Eff)(o:(Int×Gu)×List az):Prop:=(∀args w,(callFunc f args).run Tryz.prog w=.ok (.enter f args) w)/\∀R,bE Tryz.prog W0 f ([pV gb]++[.agg (eU e).toArray]++[]) (gM gb z g fr pg R) (λv B=>v=.int .i64 o.1.1/\B=gM gb z o.1.2 o.2 pg R)
theorem Ap{f e o o'}(b:∀a w,(callFunc f a).run Tryz.prog w=.ok (.enter f a) w)(c:o=o')(h:∀R,bE Tryz.prog W0 f [pV gb,.agg (eU e).toArray] (gM gb z g fr pg R) (λv B=>v=iQ o'.1.1/\B=gM gb z o'.1.2 o'.2 pg R)):Vj W0 gb z g fr pg f e o:=⟨b,by rw[c];exact h⟩
theorem b6m e:sQ W0 225 [pV gb,.agg (eU e).toArray] R (iQ 3) R:=by refine am func225 ntmps225 ?_;refine bR λa=>?_;exact ki
theorem b6n e:sQ W0 226 [pV gb,.agg (eU e).toArray] R (iQ 0) R:=by refine am func226 ntmps226 ?_;refine bR λa=>?_;exact ki
theorem MH(j:∀A,bF (aQ W0 A) 1 0 ja)(h:GOk z g N)(a:N≤690)(l:bD fr)e(b:EfOk e):sP W0 140 [pV gb,iQ e.k] R (λv B=>∃f,v=.func (.func f) #[pV gb] #[]/\B=R/\Vj W0 gb z g fr pg f e (kY g fr pg e)):=by refine am func140 ntmps140 ?_;apply ap<;>intro m;refine ag ⟨_,⟨_,Z,Z,Ap W0 gb z g fr pg (o':=(uk g fr pg e,fr)) call220 ?_ λR=>b6h W0 R gb z g N fr pg j h a l e b⟩,IO⟩;rw[kY,Qad aq];apply ap<;>intro n;refine ag ⟨_,⟨_,Z,Z,Ap W0 gb z g fr pg (o':=(ul g fr pg e,Ie g fr pg e.addr e.width e.val)) call221 ?_ λR=>b6i W0 R gb z g N fr pg j h a l e b⟩,IO⟩;rw[kY,Qab aq,Qad aq];apply ap<;>intro o;refine ag ⟨_,⟨_,Z,Z,Ap W0 gb z g fr pg (o':=(gH g e.cause e.tval,fr)) call222 ?_ λR=>b6j W0 R gb z g N fr pg h a e b⟩,IO⟩;rw[kY,Qab aq,Qab aq,Qad aq];apply ap<;>intro p;refine ag ⟨_,⟨_,Z,Z,Ap W0 gb z g fr pg (o':=((0,yw g e.pc),fr)) call223 ?_ λR=>b6k W0 R gb z g fr pg h.c.r.len e⟩,IO⟩;rw[kY,Qab aq,Qab aq,Qab aq,Qad aq];apply ap<;>intro d;refine ag ⟨_,⟨_,Z,Z,Ap W0 gb z g fr pg (o':=((4,t6 (yw (qG g) e.pc) 4 0 0 g.c.pc),fr)) call224 ?_ λR=>b6l W0 R gb z g fr pg (h.k aq) h.c.r.len e⟩,IO⟩;rw[kY,Qab aq,Qab aq,Qab aq,Qab aq,Qad aq];apply ap<;>intro i;refine ag ⟨_,⟨_,Z,Z,Ap W0 gb z g fr pg (o':=((3,g),fr)) call225 ?_ λR=>b6m W0 _ gb e⟩,IO⟩;rw[kY,Qab aq,Qab aq,Qab aq,Qab aq,Qab aq,Qad aq];refine ag ⟨_,⟨_,Z,Z,Ap W0 gb z g fr pg (o':=((0,g),fr)) call226 ?_ λR=>b6n W0 _ gb e⟩,IO⟩;rw[kY,Qab aq,Qab aq,Qab aq,Qab aq,Qab aq,Qab aq]
theorem b6o(D:∀A,bF (aQ W0 A) 1 0 ja)(E:∀A,bF (aQ W0 A) 0 0 ko)(h:GOk z g N)(P:N≤680)(G:bD fr):sQ W0 73 [pV gb] (gM gb z g fr pg R) (iQ (kt z.i g fr pg).1.1) (gM gb z (kt z.i g fr pg).1.2 (kt z.i g fr pg).2 pg R):=by
 obtain⟨F,v⟩:∃F,wR g fr pg g.c.pc 4 0=F:=⟨_,Z⟩
 obtain⟨w,y⟩:∃w,vy g fr pg g.c.pc 4 0=w:=⟨_,Z⟩
 have I:w<4294967296:=by grind[F5]
 have t:=h.tick;have K:=h.bud;obtain⟨L,j⟩:∃b,nN (kl w)=b:=⟨_,Z⟩
 have B:=QI w;obtain⟨o,C⟩:∃o,sI z.i (fF g.clock) (kl w) g.c=o:=⟨_,Z⟩
 have n:EfOk o.1/\CpOk o.2:=by rw[<-C];exact QM h.c B.2.1 h.i
 have u:GOk z (CB (lS g) o.2) (N+1):=⟨n.2,t.i,t.clk,t.bud,t.ln,t.tn⟩
 have p:∀(a b:Nat),(gH (lS g) a b).2.bud=g.bud+3:=λa b=>by unfold gH;split<;>rfl
 rw[kt,v,y,j,C];refine am func73 ntmps73 ?_;refine ao (ar yX (wD z.x.r g.c.rl g.c.pc h.c.r.len)) ?_;refine bH [gb] 18 λe=>?_;refine aj 0 10 e ?_;refine aj 11 1 e ?_;refine bQ 10 (ar JF (EX z.x.c h.c.cs)) λe=>?_;refine co 12 (dj call134 (UT W0 _ z.x.m z.pv z.ps z.pm g.bud fr pg D aq (oD g.c.cs) (oE g.c.cs) (!ii g.c.cs) g.c.pc h.c.pc 4 0)) ?_;clear e;rintro _ l ⟨rfl,d⟩;subst d;rw[show vu fr pg (oD g.c.cs) (oE g.c.cs) (!ii g.c.cs) g.c.pc 4 0=F from v,show yn fr pg (oD g.c.cs) (oE g.c.cs) (!ii g.c.cs) g.c.pc 4 0=w from y];refine⟨aW,λe=>?_⟩;refine aj 13 5 e ?_;refine aS (ap (λH=>?_) λH=>?_);refine aF Z (gx YC Z (MG 3 F)) ?_;rintro _ l ⟨rfl,d⟩;subst d;refine aa Z (aV Z) ?_;refine aF Z (gU JH Z (F4 W0 _ gb z (lS g) (N+1) t aq (Ao 3 F) g.c.pc (fy _) h.c.pc)) ?_;rintro _ l ⟨rfl,d⟩;subst d;refine aa Z (aU Z) (aI (aA (dX (jS (ag ?_)))));rw[Qad H];unfold gM;rw[p];exact ax;rw[Qab H];refine ao (aK call138 (b4z E w I)) ?_;rw[j];refine bU λM=>?_;refine aJ aR (aB Z (λO=>?_) λO=>?_);refine aG (aM (aa Z (aV Z) (aa Z (aV Z) ?_)));refine aF Z (gU JH Z (F4 W0 _ gb z (lS g) (N+1) t aq 1 w cl I)) ?_;rintro _ l ⟨rfl,d⟩;subst d;refine aa Z (aU Z) (aI (aA (dX (jS (ag ?_)))));rw[Qad mv];unfold gM;rw[p];exact ax;refine aw ?_;obtain rfl:L=true:=mv;rw[Qab cl];refine bH [gb,M] 20 λe=>?_;refine aj 0 12 e ?_;refine fp (is:=[12,17]) ld Z ⟨?_,?_,trivial⟩;refine dB (ar OW (If W0 _ gb z g (h.k aq))) ?_;clear e;rintro _ l ⟨rfl,d⟩;subst d;refine⟨aW,λe=>?_⟩;refine fp (is:=[13,17]) ld Z ⟨?_,?_,trivial⟩;refine dB (dj YD (Mv W0 _ (kl w) z.x.r z.x.c ((fF g.clock:Nat):Int) g.c z.i E h.c j h.i aq)) ?_;clear e;rintro _ l ⟨rfl,d⟩;subst d;rw[Qae,C];refine⟨aW,λe=>?_⟩;refine aj 14 3 e ?_;refine co 17 (cP vK) ?_;clear e;rintro _ _ ⟨J,rfl,rfl⟩;refine⟨aW,λe=>?_⟩;refine cp 18 aR λe=>?_;refine aj 19 1 e ?_;refine aS (ap (λq=>?_) λq=>?_);exact absurd Z q;refine aF Z (aK YE (MH W0 _ gb z (CB (lS g) o.2) (N+1) fr pg D u aq G o.1 n.1)) ?_;rintro _ l ⟨f,rfl,d,s⟩;subst d;refine aw (ao (kO xz (iV (us:=[pV gb]) (cs:=[]) Z s.1 Z (s.2 _))) ?_);exact ki;skip;refine dB (cP vK) ?_;clear e;rintro _ _ ⟨J,rfl,rfl⟩;refine⟨aW,λe=>?_⟩;refine co 13 (dj YD (Mv W0 _ (kl w) z.x.r z.x.c ((fF g.clock:Nat):Int) g.c z.i E h.c j h.i aq)) ?_;clear e;rintro _ l ⟨rfl,d⟩;subst d;rw[Qae,C];refine⟨aW,λe=>?_⟩;refine aj 14 3 e ?_;refine cp 18 aR λe=>?_;refine aj 19 1 e ?_;refine aS (ap (λq=>?_) λq=>?_);exact absurd Z q;refine aF Z (aK YE (MH W0 _ gb z (CB (lS g) o.2) (N+1) fr pg D u aq G o.1 n.1)) ?_;rintro _ l ⟨f,rfl,d,s⟩;subst d;refine aw (ao (kO xz (iV (us:=[pV gb]) (cs:=[]) Z s.1 Z (s.2 _))) ?_);exact ki;skip;refine dB (cP vK) ?_;clear e;rintro _ _ ⟨J,rfl,rfl⟩;refine⟨aW,λe=>?_⟩;refine bQ 12 (ar OW (If W0 _ gb z g (h.k aq))) λe=>?_;refine co 13 (dj YD (Mv W0 _ (kl w) z.x.r z.x.c ((fF g.clock:Nat):Int) g.c z.i E h.c j h.i aq)) ?_;clear e
 rintro _ l ⟨rfl,d⟩;subst d;rw[Qae,C];refine⟨aW,λe=>?_⟩;refine aj 14 3 e ?_;refine cp 18 aR λe=>?_;refine aj 19 1 e ?_;refine aS (ap (λq=>?_) λq=>?_);exact absurd Z q;refine aF Z (aK YE (MH W0 _ gb z (CB (lS g) o.2) (N+1) fr pg D u aq G o.1 n.1)) ?_;rintro _ l ⟨f,rfl,d,s⟩;subst d;refine aw (ao (kO xz (iV (us:=[pV gb]) (cs:=[]) Z s.1 Z (s.2 _))) ?_);exact ki
end
abbrev gI(gb:Nat)(z:Gz)(g:Gu)(R:List HP):List HP:=pt gb (bN z g)::pt z.x.r (eJ g.c.rl g.c.pc)::pt z.x.c (fj g.c.cs z.i)::ie z.tr g.es::ew z.x.v (g.ls,g.ln)::mQ z.x.t g.tm::R
abbrev gS(gb:Nat)(z:Gz)(g:Gu)(fr:List az)(pg:List Pl)(R:List HP):List HP:=pt gb (bN z g)::pt z.x.r (eJ g.c.rl g.c.pc)::pt z.x.c (fj g.c.cs z.i)::ie z.tr g.es::ew z.x.v (g.ls,g.ln)::mQ z.x.t g.tm::cR z.x.m ⟨z.pv,z.ps,z.pm,g.bud,fr,pg⟩::aH z.ps fr::R
theorem CpOk.enter(h:CpOk g.c){cause tval}(a:cause<4294967296)(b:tval<4294967296):CpOk (Ic g cause tval).c:=⟨h.r,h.cs.at_ 1,h.cs.enter h.pc a b⟩
theorem F6 ls n k:gz ls n k≤n+1:=by unfold gz;split<;>omega
theorem GOk.fired{z g N}(h:GOk z g N):GOk z (kJ g) (N+1):=by refine⟨h.c,h.i,by have:=h.clk;show g.clock≤N+1;omega,by have:=h.bud;show g.bud≤_;omega,?_,ab0⟩;have:=h.ln;have:=F6 g.ls g.ln 7;show(if _ then g.ln else gz g.ls g.ln 7)≤_;split<;>omega
theorem GOk.le{M:Nat}(h:GOk z g N)(a:N≤M):GOk z g M:=⟨h.c,h.i,by have:=h.clk;omega,by have:=h.bud;omega,by have:=h.ln;omega,by have:=h.tn;omega⟩
theorem GOk.int{z g N}(h:GOk z g N):GOk z (jc g).2 (N+1):=by
 unfold jc;split
 cases q:mg g.ls with
 |none=>exact h.le (Qdd N)
 |some n=>
  have:=(I6 q).1;exact⟨h.c.enter aq cl,h.i,by have:=h.clk;show g.clock≤_;omega,by have:=h.bud;show g.bud≤_;omega,by have:=h.ln;show g.ln≤_;omega,ab0⟩
 exact h.le (Qdd N)
theorem GOk.clock{z g N}(h:GOk z g N):GOk z (kK g) (N+1):=⟨h.c,h.i,by have:=h.clk;show g.clock+1≤_;omega,by have:=h.bud;show g.bud≤_;omega,by have:=h.ln;show g.ln≤_;omega,ab0⟩
theorem F7 g a b:(gH g a b).2.ls=g.ls/\(gH g a b).2.ln=g.ln/\(gH g a b).2.tm=g.tm:=by grind[gH]
theorem Vk i g fr pg:(kt i g fr pg).1.2.ls=g.ls/\(kt i g fr pg).1.2.ln=g.ln/\(kt i g fr pg).1.2.tm=g.tm:=by
 unfold kt
 split; · exact F7 _ _ _
 split; · exact F7 _ _ _
 unfold kY
 split
 grind[uk,F7]
 split
 grind[ul,F7]
 split; · exact F7 _ _ _
 split; · exact⟨Z,Z,Z⟩
 split; · exact⟨Z,Z,Z⟩
 split; · exact⟨Z,Z,Z⟩
 exact⟨Z,Z,Z⟩
section
variable(W0:World)(R:List HP)(gb:Nat)(z:Gz)(g:Gu)(N:Nat)(fr:List az)(pg:List Pl)
theorem b6p(h:GOk z g N)(hN:N≤690):sQ W0 72 [pV gb] (gI gb z g R) (.bool (jc (kJ g)).1) (gI gb z (jc (kJ g)).2 R):=by
 have htn:=h.tn;have hln:=h.ln;obtain⟨ob,hob⟩:∃b,zJ g.c.cs=b:=⟨_,Z⟩
 obtain⟨K,hK⟩:∃K,yt g.tm ((fF g.clock:Nat):Int)=K:=⟨_,Z⟩
 obtain⟨q,hq⟩:∃q,kJ g=q:=⟨_,Z⟩
 have hqc:q.c=g.c:=by rw[<-hq]
 have hqo:lu z q=lu z g:=by rw[<-hq]
 have hqe:q.es=g.es:=by rw[<-hq]
 have hqk:q.clock=g.clock:=by rw[<-hq]
 rw[hq,jc,hqc,hob];refine jj 5 func72 ntmps72 ?_;refine fA (λ_:Unit=>True) (λ_=>[(0,pV gb)]) (λ_=>pt gb (bN z q)::pt z.x.r (eJ q.c.rl q.c.pc)::pt z.x.c (fj q.c.cs z.i)::ie z.tr q.es::ew z.x.v (q.ls,q.ln)::mQ z.x.t q.tm::R) ?_ ?_;refine au 1 (bH [gb] 10 λhS=>?_);refine aj 0 6 hS ?_;refine bQ 6 (ar OW (If W0 _ gb z g (h.k aq))) λhS=>?_;refine co 7 (ar call126 (b6c z.x.t g.tm ((fF g.clock:Nat):Int) aq)) ?_;clear hS;rintro _ B_ ⟨fa,fc,rfl,hB_⟩;subst hB_;rw[hK];refine⟨aW,λhS=>?_⟩;refine aj 8 2 hS ?_;refine aS (ap (λc1=>?_) λc1=>?_);refine ao (ar vM (ui z.x.v g.ls g.ln 7 aq)) ?_;rw[Qad (show dR 7=true by decide),Qad (show dR 7=true by decide),Qad (show dR 7=true by decide),show(7:Int).toNat=7 from Z];refine cZ () ?_ (he:=?_);trivial;rw[<-hq];show Ent _ (pt gb (bN z g)::pt z.x.r (eJ g.c.rl g.c.pc)::pt z.x.c (fj g.c.cs z.i)::ie z.tr g.es::ew z.x.v (if yt g.tm ((fF g.clock:Nat):Int)=0 then g.ls else jb g.ls g.ln 7,if yt g.tm ((fF g.clock:Nat):Int)=0 then g.ln else gz g.ls g.ln 7)::mQ z.x.t (Cz g.tm ((fF g.clock:Nat):Int))::R);rw[hK,Qab aq,Qab aq];exact IO;refine cZ () ?_ (he:=?_);trivial;rw[<-hq];show Ent _ (pt gb (bN z g)::pt z.x.r (eJ g.c.rl g.c.pc)::pt z.x.c (fj g.c.cs z.i)::ie z.tr g.es::ew z.x.v (if yt g.tm ((fF g.clock:Nat):Int)=0 then g.ls else jb g.ls g.ln 7,if yt g.tm ((fF g.clock:Nat):Int)=0 then g.ln else gz g.ls g.ln 7)::mQ z.x.t (Cz g.tm ((fF g.clock:Nat):Int))::R);rw[hK,Qad aq,Qad aq];exact IO;intro _ _;clear hq;obtain⟨qc,qa,qb,qcc,qls,qln,qtm,qh,qrd,qclk,qes,qbud⟩:=q;dsimp only at hqc hqo hqe hqk ⊢;subst hqc;subst hqe;subst hqk;have hcs:=h.c;refine aw (ao (ar call128 (b35 z.x.c h.c.cs)) ?_);rw[hob];apply ap<;>intro c3;refine ag ?_;rw[Qab aa4];exact ax;rw[Qad aa4];refine ao (ar call129 (b5M z.x.v qls qln)) ?_;obtain⟨bo,hbo⟩:∃b,mg qls=b:=⟨_,Z⟩
 rw[hbo];have htk:bo=none->uj qls=qls:=λe=>by unfold uj;rw[hbo,e]
 have hlt:∀n,bo=some n->n<8:=λn e=>(I6 (hbo.trans e)).1;apply ap<;>intro c6;refine ag ?_
 cases bo with
 |some n=>exact absurd Z c6
 |none=>
  rw[htk Z];exact ax
 obtain⟨n,rfl⟩:∃n,bo=some n:=by
  cases bo with
  |some n=>exact⟨n,Z⟩
  |none=>simp at c6
 have hn8:=hlt n Z;rw[Option.getD_some];refine ao (ar yX (wD z.x.r g.c.rl g.c.pc h.c.r.len)) ?_;refine ac (cv (eh aq)) ?_;refine ac (eX (256+n)) ?_;refine ao (ar call131 (Uv z.x.c g.c.pc (256+n) 0 h.c.cs h.c.pc aq cl)) ?_;refine ao (ar JC (Ey z.x.r g.c.rl g.c.pc (fV g.c.cs 1) h.c.r.len)) ?_;refine ao (dF Be (yx W0 _ gb z ⟨⟨g.c.rl,fV g.c.cs 1,zK g.c.cs g.c.pc (256+n) 0⟩,qa,qb,qcc,uj qls,qln,qtm,qh,qrd,g.clock,g.es,qbud⟩ (h.k aq) h.c.r.len 3 (256+n) 0 g.c.pc)) ?_;exact ki
theorem b6q(hK:∀A,bF (aQ W0 A) 1 0 ja)(hH:∀A,bF (aQ W0 A) 0 0 ko)(h:GOk z g N)(hN:N≤600)(hF:bD fr):sQ W0 30 [pV gb] (gS gb z g fr pg R) (iQ (gB z.i g fr pg).1.1) (gS gb z (gB z.i g fr pg).1.2 (gB z.i g fr pg).2 pg R):=by
 have hck:=h.clk;have h1:=h.clock;have h2:=(h1.fired).int;obtain⟨q,hq⟩:∃q,jc (kJ (kK g))=q:=⟨_,Z⟩
 have hqb:q.2.bud=g.bud:=by
  grind[jc]
 rw[hq]at h2;rw[gB,hq];refine am func30 ntmps30 ?_;refine ao (ar qR (pP W0 _ gb z g)) ?_;refine ac (eX (g.clock+1)) ?_;refine aJ (tG (aas:(lu z g).set 27 (iQ ((g.clock+1:Nat):Int))=lu z (kK g))) ?_;apply ap<;>intro c4;refine ag ?_;rw[Qad c4];exact ax;rw[Qab c4];refine ao (Dw call72 Z (b6p W0 _ gb z (kK g) (N+1) h1 aq)) ?_;rw[hq];apply ap<;>intro c6;refine ag ?_;rw[Qad c6];unfold gS;rw[<-hqb];exact ax;rw[Qab c6, <-hqb];refine ao (Dw call73 Z (b6o W0 _ gb z q.2 (N+1+1+1) fr pg hK hH h2 aq hF)) ?_;have hxv:=Vk z.i q.2 fr pg;refine ag ⟨_,⟨Z,Z⟩,?_⟩;unfold gS;rw[hxv.1,hxv.2.1,hxv.2.2];exact IO
end
theorem b6r{po Ls}{f w:Nat}(h:LsOk po Ls)(a:f<po.length)(c:dw po f=((w:Int),true)):LsOk (po.set f (-1,false)) Ls:=by refine⟨h.len,λu b=>?_⟩;rw[KO a mv mv];exact h.row u b
theorem Vl(pb ps:Nat)(po:Po)(fr:List az)(f w:Nat)(hf:f<po.length)(hff:f<fr.length)(hw:w<16)(hP:PoOk po)(ha:dw po f=((w:Int),true)):sQ W0 328 [pV pb,.int .i64 f] (cz pb (ps,po)::aH ps fr::R) (.int .i64 0) (cz pb (ps,po.set f ((w:Int),false))::aH ps (fr.set f gy)::R):=by refine jj 10 func328 ntmps328 ?_;refine cW 3 (eg G0 Z (BX pb ps po aq)) ?_;apply aB Z<;>intro c1;exact absurd c1 cl;refine au 4 (cW 4 (eg Y6 Z (La pb ps po (f:Int))) ?_);apply aB Z<;>intro c3;exact absurd c3 (by rw[show jm po.length (f:Int)=true from by simp[jm];omega];decide);refine aG (BS (pb:=pb) λa c vs Ls hv hL=>?_);refine ix (r:=osl 286 2) (b:=.slice a po.length c) (qf (λh1 h2=>aak) λg n cap sp h1 h2 h3 h4 h5=>?_);cases h1;have hst:=KW po sp f 1 hf cl;rw[ha]at hst;refine au 6 (aa Z (kP FO J8 Z Z Z hf dg) ?_);refine aa Z (Kb O5 l6) ?_;refine jU 4 (bO pU Z (aO hst)) ?_;apply aB Z<;>intro c5;simp at c5;refine au 4 (gK (B:=pt pb (ae (ik ps (.slice (some ⟨g,0,none⟩) po.length c) vs) 284)::osl 286 2 (.slice (some ⟨g,0,none⟩) po.length c) (po.flatMap gE)::kH 2 (bB ((vs.zip Ls).map fB))::aH ps fr::R) ?_ ?_);refine Ent.trans (B:=pt g (ae (po.flatMap gE++sp) 286)::pt pb (ae (ik ps (.slice (some ⟨g,0,none⟩) po.length c) vs) 284)::kH 2 (bB ((vs.zip Ls).map fB))::aH ps fr::R) inferInstance ?_;refine(jG (g:=g) (E:=286) (sz:=2) (B:=pt pb (ae (ik ps (.slice (some ⟨g,0,none⟩) po.length c) vs) 284)::kH 2 (bB ((vs.zip Ls).map fB))::aH ps fr::R) h2 h3 (vh po) h5).trans inferInstance;refine au 3 (cW 4 (gU call164 Z (Rq pb ps po fr f w true hf hff hw hP ha (some ⟨g,0,none⟩) c vs Ls hv (b6r hL hf ha))) ?_);exact ki
theorem b6s(d f:Nat)(b:Po)(w:Nat)(q:0<b.length)(j:w<16)(s:PoOk b)(r:cG b w=[]):sQ W0 170 [pV d,iQ w] (cz d (f,b)::R) (.tuple #[iQ 0,iQ 2]) (cz d (f,b)::R):=by
 have k:tW w=true:=by grind[tW]
 refine am func170 ntmps170 ?_;refine ao (ar G0 (BX d f b q)) ?_;refine ao (aK Oy (Ha w)) ?_;apply aB Z<;>intro m;exact absurd m (by simp[k]);refine au 1 (BS (pb:=d) λa c g e n l=>?_);have h:=l.row w j;refine gK (B:=kB w d (e.getD w [],ik f (.slice a b.length c) g)::kH 3 (bB (((g.zip e).map fB).eraseIdx w))::osl 286 2 (.slice a b.length c) (b.flatMap gE)::R) ?_ ?_;exact(Ent.cons (Ent.ofPerm (List.Perm.swap _ _ _))).trans (H2 j n l.len);refine aw (ac (iy j) ?_);refine ao (ar Ov (H6 d w (e.getD w []) (ik f (.slice a b.length c) g))) ?_;apply ap<;>intro o;refine aZ ⟨_,⟨Z,Z⟩,?_⟩;have p:e.set w (e.getD w [])=e:=by
  apply QaV n4;intro i t u;rw[QcQ];split;grind;rfl
 exact Ent.trans (B:=kB w d (e.getD w [],ik f (.slice a b.length c) g)::osl 286 2 (.slice a b.length c) (b.flatMap gE)::kH 3 (bB (((g.zip e).map fB).eraseIdx w))::R) inferInstance (H3 j n Z Z l.len mv);exact absurd (by rw[h.1.length_eq,r];rfl) o
structure Mm where
  fr : List az
  pg : List Pl
  po : Po
variable {x:Mm}
structure GMem (i : Nat) (x : Mm) : Prop where
  fr : bD x.fr
  po : PoOk x.po
  pg : Pgs x.pg
  len : x.po.length = x.fr.length
  pl : PlOk x.fr.length x.pg
  own : ∀ t : Nat, t < 8 → bG x.pg t = true → dw x.po (cB x.pg t).1.toNat = ((i : Int), true)
  all : ∀ f, f < x.po.length → dw x.po f = ((i : Int), true) → ∃ t : Nat, t < 8 ∧ bG x.pg t = true ∧ (cB x.pg t).1 = (f : Int)
  far : ∀ t : Nat, 8 ≤ t → bG x.pg t = true → (dw x.po (cB x.pg t).1.toNat).1 ≠ (i : Int)
  nul : ∀ f, f < x.po.length → dw x.po f = ((i : Int), false) → x.fr.getD f [] = gy
theorem MOk.frame{fr fr' pg d L T}(h:MOk fr pg d L T)(b:fr'.length=fr.length)(c:bD fr')(e:∀t:Nat,t<8->bG pg t=true->fr'.getD (cB pg t).1.toNat []=fr.getD (cB pg t).1.toNat []):MOk fr' pg d L T:=by
 refine⟨c,h.dl,h.P,by rw[b];exact h.pl,h.ti,λx f=>?_⟩;have a:=h.ln x f;refine a.move a.at_.1 Z λt g i=>⟨i,λq=>HU b Z Z λ_ o m=>?_⟩
 have j:=a.own;obtain⟨k,rfl⟩:∃k:Nat,t=(k:Int):=⟨t.toNat,by rcases g with rfl|rfl<;>omega⟩
 have l:k<8:=aq;have:=e k l q;unfold gW;rw[b,this]
theorem Aq(h:Pgs pg)(b:bG pg t=true):0≤(cB pg t).1/\(cB pg t).1<32:=by have a:=b;simp only[bG,Qam,Qas]at a;obtain⟨i,rfl,c⟩:=nP a.1;rw[Qae]at a;rw[cB,Qad b,Qae];have:=h.ok i c a.2;simp only[nO,Qas]at this;omega
theorem GMem.at_{i x}(h:GMem i x){t}(a:bG x.pg t=true):∃f:Nat,(cB x.pg t).1=f/\f<x.fr.length/\f<x.po.length:=by have b:=Aq h.pg a;have c:=h.pl.rng t a;exact⟨(cB x.pg t).1.toNat,aq,aq,by rw[h.len];omega⟩
def pR(i n:Nat)(x:Mm):Mm:=⟨x.fr.set (cB x.pg n).1.toNat gy,j9 x.pg n,x.po.set (cB x.pg n).1.toNat ((i:Int),false)⟩
theorem MI(h:bD fr)f:bD (fr.set f gy):=λy a=>by
 rcases Qbm a with q|q;exact h y q;rw[q];exact QQ
theorem F8{pg}{n:Nat}(d:pg.length=12){t}:bG (j9 pg n) t=(bG pg t&&decide (t≠n)):=by
 unfold j9;by_cases a:bG pg n=true;rw[Qad a,Qae];by_cases e:t=(n:Int);subst e;rw[Qat n4,QcO];unfold bG;rw[Qae];have b:=Ua a;obtain⟨j,f,c⟩:=nP b;have:lj (pg.set n (0,0)) n=(0,0):=by grind[lj]
 rw[this];simp;grind[fY];grind
theorem Ih(e:t≠(n:Int)):cB (j9 pg n) t=cB pg t:=by unfold j9;split;rw[Qae];exact(fY e).2;rfl
theorem Ar{α:Type}{l:List α}{x d:α}(h:k≠n):(l.set n x).getD k d=l.getD k d:=by grind
theorem ML{α:Type}{l:List α}{x d:α}(h:n<l.length):(l.set n x).getD n d=x:=by grind
theorem GMem.give{i n:Nat}{x}(h:GMem i x)(hn:n<8)(ht:bG x.pg n=true)(hi:i<16):GMem i (pR i n x):=by
 obtain⟨f,hf,hff,hfp⟩:=h.at_ ht;have ho:=h.own n hn ht;rw[hf,Qae]at ho;have hg:pR i n x=⟨x.fr.set f gy,j9 x.pg n,x.po.set f ((i:Int),false)⟩:=by grind[pR]
 rw[hg];have ne:∀t:Nat,bG (j9 x.pg n) t=true->bG x.pg t=true/\t≠n/\cB (j9 x.pg n) t=cB x.pg t/\(cB x.pg t).1.toNat≠f:=λt q=>by
  rw[F8 h.pg.len,Qam,Qag]at q;have e:(t:Int)≠(n:Int):=q.2;refine⟨q.1,λe2=>e (by rw[e2]),Ih e,λe2=>e ?_⟩;have h1:=Aq h.pg q.1;exact h.pl.inj _ _ q.1 ht aq
 refine⟨MI h.fr f,h.po.set hfp n4 aac,Ub h.pg,by rw[Qal,Qal];exact h.len,?_,λt h8 q=>?_,λk hk q=>?_,λt h8 q=>?_,λk hk q=>?_⟩;rw[Qal];exact US (n:=n) h.pg.len h.pl;obtain⟨q1,q2,q3,q4⟩:=ne t q;dsimp only at q ⊢;rw[q3,kT hfp,Qab q4];exact h.own t h8 q1;dsimp only at hk q ⊢;rw[Qal]at hk;rw[kT hfp]at q;split at q;grind
 rename_i e
 obtain⟨t,h8,h1,h2⟩:=h.all k hk q;have hne:t≠n:=λe2=>e mv;refine⟨t,h8,?_,?_⟩;rw[F8 h.pg.len,h1,QbU,Qag];intro e2;exact hne aq;grind[Ih];obtain⟨q1,q2,q3,q4⟩:=ne t q;dsimp only at q ⊢;rw[q3,kT hfp,Qab q4];exact h.far t h8 q1;dsimp only at hk q ⊢;rw[Qal]at hk;rw[kT hfp]at q;by_cases e:k=f;grind;rw[Qab e]at q;rw[Ar e];exact h.nul k hk q
def qH(i n:Nat)(x:Mm):Mm:=if bG x.pg n then pR i n x else x
def dK(i:Nat):Nat->Mm->Mm
 |0,x=>x
 |n+1,x=>qH i n (dK i n x)
theorem GMem.strip{i x}(h:GMem i x)(a:i<16):∀n,n≤8->GMem i (dK i n x)
 |0,_=>h
 |n+1,c=>by
  have b:=h.strip a n aq;rw[dK,qH];split
  rename_i q;exact b.give aq q a
  exact b
theorem b6t(h:bG pg n=true):Co pg n=0:=by rw[Co,Qad (Ua h),Qad h]
theorem b6u(pb ps pm i:Nat)(x:Mm)(h:GMem i x)(hi:i<16):sP W0 251 [pV pb,pV pm] (cz pb (ps,x.po)::aH ps x.fr::pt pm (bM x.pg)::R) (λv B=>∃k:Nat,v=iQ k/\B=cz pb (ps,(dK i 8 x).po)::aH ps (dK i 8 x).fr::pt pm (bM (dK i 8 x).pg)::R):=by
 refine am func251 ntmps251 ?_;refine eC (λX:Nat×Nat=>X.1≤8/\X.2≤X.1) (λX=>[(0,pV pb),(1,pV pm),(5,iQ X.2),(9,iQ X.1)]) (λX=>cz pb (ps,(dK i X.1 x).po)::aH ps (dK i X.1 x).fr::pt pm (bM (dK i X.1 x).pg)::R) (λX=>8-X.1) (0,0) ?_ ?_;omega;intro ⟨n,m⟩ ⟨hn,hm⟩;dsimp only at hn hm ⊢;have hg:=h.strip hi n hn;have hs:dK i (n+1) x=qH i n (dK i n x):=Z;obtain⟨y,hy⟩:∃y,dK i n x=y:=⟨_,Z⟩
 rw[hy]at hg hs ⊢;refine aw (aB Z (λc3=>?_) λc3=>?_);refine au 2 (fA (λX:Nat=>n<8/\X≤n+1) (λX=>[(0,pV pb),(1,pV pm),(5,iQ X),(9,iQ n)]) (λX=>cz pb (ps,(qH i n y).po)::aH ps (qH i n y).fr::pt pm (bM (qH i n y).pg)::R) ?_ ?_);refine au 11 (ao (ar D6 (zM pm y.pg hg.pg n)) ?_);refine bU λb1=>?_;refine aJ aR ?_;apply fC<;>intro g6_3;have hth:bG y.pg n=false:=mv;have e1:qH i n y=y:=by grind[qH]
 refine cZ m ?_ (he:=?_);omega;rw[e1];exact IO;have hth:bG y.pg n=true:=mv;obtain⟨f,hf,hff,hfp⟩:=hg.at_ hth;have ho:=hg.own n aq hth;rw[hf,Qae]at ho;have e1:qH i n y=⟨y.fr.set f gy,j9 y.pg n,y.po.set f ((i:Int),false)⟩:=by
  grind[qH,pR]
 refine ao (ar OA (Uc pm y.pg hg.pg n)) ?_;apply aB Z<;>intro c6;exact absurd c6 (by rw[b6t hth];decide);refine au 6 (aa Z (aY (aO (v:=iQ f) mv)) ?_);refine ao (dj call328 (Vl pb ps y.po y.fr f i hfp hff hi hg.po ho)) ?_;refine ac (eX (m+1)) ?_;refine cZ (m+1) ?_ (he:=?_);omega;rw[e1];exact IO;intro X ⟨hn8,hX⟩;refine aw (ac cK (d8 (n+1,X) ?_ (he:=?_)));omega;show Ent _ (cz pb (ps,(dK i (n+1) x).po)::aH ps (dK i (n+1) x).fr::pt pm (bM (dK i (n+1) x).pg)::R);rw[hs];exact IO;refine aw (ag ?_);obtain rfl:n=8:=aq;rw[hy];exact⟨_,⟨m,Z,Z⟩,IO⟩
theorem Ii(a:pg.length=12)(b:n<8):bG (pg.set n ((f:Int),3)) t=(bG pg t||decide (t=(n:Int))):=by by_cases e:t=(n:Int);grind[Al];grind[fY]
theorem GMem.come{i n f:Nat}{x}(h:GMem i x)(hi:i<16)(hn:n<8)(ht:bG x.pg n=false)(hf:f<x.po.length)(hfo:dw x.po f=((i:Int),false))fr'(hF:bD fr')(hl:fr'.length=x.fr.length)(hs:∀k,k≠f->fr'.getD k []=x.fr.getD k []):
    GMem i ⟨fr',gX x.pg n (f,3),x.po.set f (i,true)⟩/\kx x.pg n (f,3)=0:=by
 have hf32:f<32:=by have:=h.po.len;omega
 have hE:=SF hn hf32 ht;have hP:gX x.pg n ((f:Int),3)=x.pg.set n ((f:Int),3):=by grind[gX]
 have hpl:=h.pg.len;have hgn:=(Al (p:=((f:Int),3)) hpl (show n<12 by omega) (by grind)).2;have hne:∀t:Int,bG x.pg t=true->(cB x.pg t).1≠(f:Int):=λt q e=>by
  have ht2:=q;simp only[bG,Qam]at ht2;obtain⟨k,rfl,hk⟩:=nP ht2.1;rcases Qaz k 8 with h8|h8;have:=h.own k h8 q;rw[e,Qae,hfo]at this;have:=(QcX this).2;cases this;have:=h.far k h8 q;rw[e,Qae,hfo]at this;exact this Z
 refine⟨?_,hE⟩;rw[hP];refine⟨hF,h.po.set hf n4 aac,?_,by rw[Qal,hl];exact h.len,?_,λt h8 q=>?_,λk hk q=>?_,λt h8 q=>?_,λk hk q=>?_⟩;have:=E1 (n:=(n:Int)) (p:=((f:Int),3)) h.pg
 rwa[hP]at this
 rw[hl];exact h.pl.set hpl aq mv (by have:=h.len;omega) λt q e=>hne t q e;dsimp only at q ⊢;rw[Ii hpl hn]at q;by_cases e:(t:Int)=(n:Int);grind[Qae,kT];rw[Qat e,QcK]at q;have h1:=Aq h.pg q;rw[(fY e).2,kT hf,Qab (λe2=>hne t q aq)];exact h.own t h8 q;dsimp only at hk q ⊢;rw[Qal]at hk;rw[kT hf]at q;by_cases e:k=f;grind[Ii];rw[Qab e]at q;obtain⟨t,h8,h1,h2⟩:=h.all k hk q;have e2:(t:Int)≠(n:Int):=λe2=>by rw[e2,ht]at h1;cases h1
 exact⟨t,h8,by rw[Ii hpl hn,h1,QcD],by rw[(fY e2).2];exact h2⟩;dsimp only at q ⊢;rw[Ii hpl hn]at q;have e:(t:Int)≠(n:Int):=aq;rw[Qat e,QcK]at q;have h1:=Aq h.pg q;rw[(fY e).2,kT hf,Qab (λe2=>hne t q aq)];exact h.far t h8 q;dsimp only at hk q ⊢;rw[Qal]at hk;rw[kT hf]at q;by_cases e:k=f;grind;rw[Qab e]at q;rw[hs k e];exact h.nul k hk q
theorem MM{o:Int}{x:Nat}(a:k≠f):(jn fr f o w x).getD k []=fr.getD k []:=by grind[jn]
theorem MN:∀{l:List Nat} {j:Nat} {a:List az} {k:Nat},k≠f->(nS f l j a).getD k []=a.getD k []
 |[],_,_,_,_=>Z
 |y::t,j,a,k,h=>by rw[nS,MN h,MM h]
def As(x:Im):Mm:=⟨x.fr,x.pg,x.po⟩
theorem GMem.lay{i words x}(h:GMem i (As x))(a:i<16)(b:we x.pg 0 8):∀n,n≤8->n≤(cG x.po i).length->GMem i (As (dV i words n x))
 |0,_,_=>h
 |n+1,q,r=>by
  have c:=h.lay (words:=words) a b n aq aq;have j:=(KQ (who:=i) (words:=words) b h.pg.len n aq).1 n (Qai _) aq;have d:=GZ (who:=i) (words:=words) (x:=x) n;rw[dV,lK]
  cases e:cG (dV i words n x).po i with
  |nil=>rw[e]at d;simp at d;omega
  |cons f l=>
   have g:=nR.1 (show f∈cG (dV i words n x).po i by rw[e];simp);obtain⟨m,o⟩:=zN (f:=f) (l:=iz words n) (k:=0) c.fr;exact(c.come a aq j g.1 g.2 _ m o (λk p=>MN p)).1
abbrev Vm(g:Gu)(e w:Nat):Gu:={ g with c:=⟨EI g.c.rl e w,ec g.c.pc,g.c.cs⟩ }
abbrev Av(g:Gu)(e w:Nat):Gu:=t6 (Vm g e w) 2 (cn g.c.rl 1) e g.c.pc
section
variable(W0:World)(R:List HP)(gb:Nat)(z:Gz)(g:Gu)(N:Nat)
theorem b6v(hk:g.clock<1000000000)(hl:g.c.rl.length=16):sQ W0 150 [pV gb] (gN gb z g R) (iQ 0) (gN gb z (t6 (qG g) 4 0 0 g.c.pc) R):=by refine am func150 ntmps150 ?_;refine ao (ar qR (pP W0 _ gb z g)) ?_;refine aJ (tG (aas:(lu z g).set 8 (.bool true)=lu z (qG g))) ?_;refine ao (ar yX (wD z.x.r g.c.rl g.c.pc hl)) ?_;refine ao (dF Be (yx W0 _ gb z (qG g) hk hl 4 0 0 g.c.pc)) ?_;exact ki
theorem b6w(f:g.clock<1000000000)(a:g.c.rl.length=16)n w e(d:u32 n=e):sQ W0 77 [pV gb,iQ n,wV w] (gN gb z g R) (iQ 0) (gN gb z (Av g e w) R):=by
 have b:(EI g.c.rl e w).length=16:=by simp[EI,a]
 refine am func77 ntmps77 ?_;refine ao (ar qR (pP W0 _ gb z g)) ?_;refine ao (ar Yu (M1 z.x.r g.c.rl g.c.pc 1 a cl)) ?_;refine ao (ar yX (wD z.x.r g.c.rl g.c.pc a)) ?_;refine ac (cv (by rw[iK,d]:IntKind.wrap .u32 n=((e:Nat):Int))) ?_;refine ao (ar OR (LH W0 _ z.x.r g.c.rl g.c.pc 1 e a cl cl)) ?_;refine ao (ar OR (LH W0 _ z.x.r (g.c.rl.set 1 e) g.c.pc 2 w (by simp[a]) cl cl)) ?_;refine ac (dI Z Z (iK _)) ?_;refine ao (ar JC (Ey z.x.r (EI g.c.rl e w) g.c.pc (ec g.c.pc) b)) ?_;refine ac (cv (by rw[iK,d]:IntKind.wrap .u32 n=((e:Nat):Int))) ?_;refine ao (dF Be (yx W0 _ gb z (Vm g e w) f b 2 (cn g.c.rl 1) e g.c.pc)) ?_;exact ki
theorem b6x(a:g.clock<1000000000)(b:g.c.rl.length=16)(e w:Nat)(d:e<4294967296):sQ W0 77 [pV gb,iQ e,wV w] (gN gb z g R) (iQ 0) (gN gb z (Av g e w) R):=
  b6w W0 R gb z g a b e w e (by unfold u32;omega)
theorem b6y(a:g.c.rl.length=16):sQ W0 141 [pV gb] (pt gb (bN z g)::pt z.x.r (eJ g.c.rl g.c.pc)::R) (.agg (g.c.rl.map wV).toArray) (pt gb (bN z g)::pt z.x.r (eJ g.c.rl g.c.pc)::R):=by refine am func141 ntmps141 ?_;refine bU λb=>?_;refine ao (ar qR (pP W0 _ gb z g)) ?_;refine ao (ar call206 (SN z.x.r g.c.rl g.c.pc a)) ?_;refine aJ (eN yN Z Z mv (LG g.c.rl) Z) ?_;exact bJ (.cons (bX Yc yN Z mv) .nil) ax
theorem rP:sQ W0 123 [pV gb] (pt gb (bN z g)::R) (pV z.pv) (pt gb (bN z g)::R):=by refine am func123 ntmps123 ?_;refine ao (ar qR (pP W0 _ gb z g)) ?_;exact ki
theorem t7:bE Tryz.prog W0 114 [pV gb] (pt gb (bN z g)::R) (λv B=>v=pV z.x.v/\B=pt gb (bN z g)::R):=by refine am func114 ntmps114 ?_;refine ao (ar qR (pP W0 _ gb z g)) ?_;exact ki
theorem b6z:sQ W0 325 [pV gb] (pt gb (bN z g)::R) (nq z.x.t) (pt gb (bN z g)::R):=by refine am func325 ntmps325 ?_;refine ao (ar qR (pP W0 _ gb z g)) ?_;exact ki
theorem MO:sQ W0 112 [pV gb] (pt gb (bN z g)::R) (pV z.bx) (pt gb (bN z g)::R):=by refine am func112 ntmps112 ?_;refine ao (ar qR (pP W0 _ gb z g)) ?_;exact ki
theorem Vn:sQ W0 12 [pV gb] (pt gb (bN z g)::R) (iQ g.clock) (pt gb (bN z g)::R):=by refine am func12 ntmps12 ?_;refine ao (ar qR (pP W0 _ gb z g)) ?_;exact ki
theorem Vo{W0 R}p:sQ W0 382 [iQ p] R (.bool (decide (0≤p/\p<8))) R:=by refine am func382 ntmps382 ?_;apply e9<;>intro a;rw[show decide (0≤p/\p<8)=decide (p<8) by apply QaY.2;omega];exact ki;rw[show decide (0≤p/\p<8)=false by apply Qat;omega];exact ki
end
def Aw(p:Int):Bool:=decide (0≤p/\p<8)
theorem yy{p}(h:Aw p=true):∃n:Nat,p=n/\n<8:=by have:=Qaw h;exact⟨p.toNat,aq,aq⟩
def wS(i:Nat)(p:Int)(x:Mm):Int:=if Aw p then(if bG x.pg p then 5 else(if cG x.po i=[]then 2 else 0))else 1
def lT(i:Nat)(p:Int)(x:Mm):Mm:=
  if Aw p&& !bG x.pg p then(match cG x.po i with |f::_=>⟨x.fr,gX x.pg p ((f:Int),3),x.po.set f ((i:Int),true)⟩|[]=>x)else x
def wT(p:Int)(x:Mm):Int:=if Aw p then(if bG x.pg p then 0 else 3)else 1
def mh(i:Nat)(p:Int)(x:Mm):Mm:=if Aw p&&bG x.pg p then pR i p.toNat x else x
theorem GMem.take(h:GMem i x)(b:i<16):GMem i (lT i p x):=by
 unfold lT;split
 rename_i q
 simp only[Qam,Bool.not_eq_true']at q;obtain⟨n,rfl,c⟩:=yy q.1
 cases e:cG x.po i with
 |nil=>exact h
 |cons f l=>
  have a:=nR.1 (show f∈cG x.po i by rw[e];simp);exact(h.come b c q.2 a.1 a.2 x.fr h.fr Z (λ_ _=>Z)).1
 exact h
theorem GMem.gave(h:GMem i x)(a:i<16):GMem i (mh i p x):=by
 unfold mh;split
 rename_i q
 simp only[Qam]at q;obtain⟨n,rfl,b⟩:=yy q.1;rw[Qae];exact h.give b q.2 a;exact h
section
variable(W0:World)(R:List HP)(gb:Nat)(z:Gz)(g:Gu)(N:Nat)
theorem b6A(hi:z.i<4)p x(h:GMem z.i x)(W:0<x.po.length):sQ W0 320 [pV gb,iQ p] (pt gb (bN z g)::cR z.x.m ⟨z.pv,z.ps,z.pm,g.bud,x.fr,x.pg⟩::cz z.pb (z.ps,x.po)::R) (iQ (wS z.i p x)) (pt gb (bN z g)::cR z.x.m ⟨z.pv,z.ps,z.pm,g.bud,(lT z.i p x).fr,(lT z.i p x).pg⟩::cz z.pb (z.ps,(lT z.i p x).po)::R):=by
 obtain⟨Y,s⟩:∃b,bG x.pg p=b:=⟨_,ρ⟩
 obtain⟨G,w⟩:∃b,Aw p=b:=⟨_,ρ⟩
 have y:decide (0≤p/\p<8)=G:=w;rw[wS,lT,w,s];refine eR (List.Perm.swap _ _ _) (rN λo r c T L j d N O P Q=>?_);have a:∀X:List HP,Ent (pt gb (bN z g)::pt z.x.m (cX z.pv o r)::bC o (c,dt 4 j)::cj r L::pt z.pv (cg z.ps z.pm d)::pt z.pm (bM x.pg)::X) (pt gb (bN z g)::cR z.x.m ⟨z.pv,z.ps,z.pm,g.bud,x.fr,x.pg⟩::X):=λX=>Ent.cons (p8 N O P Q);refine am func320 ntmps320 ?_;refine ao (ar qR (pP W0 _ gb z g)) ?_;refine ao (aK call382 (Vo p)) ?_;rw[y];apply ap<;>intro S;refine ag ?_;rw[show G=false by simpa using S];exact eo;have U:G=true:=mv;rw[U];obtain⟨n,rfl,Z⟩:=yy (w.trans U);refine ao (ar Ba (xR z.pv z.ps z.pm d)) ?_;refine ao (ar D6 (zM z.pm x.pg h.pg n)) ?_;rw[s];refine bU λb5=>?_;refine aJ aR (ap (λV=>?_) λV=>?_);refine ag ?_;rw[V];exact eo;have A:Y=false:=mv;rw[A];rw[A]at s;obtain⟨F,u⟩:∃l,cG x.po z.i=l:=⟨_,ρ⟩
 rw[u];obtain⟨e,f,H⟩:∃e f,(∀R,bE Tryz.prog W0 170 [pV z.pb,iQ z.i] (cz z.pb (z.ps,x.po)::R) (λv B=>v=.tuple #[iQ ((f:Nat):Int),iQ e]/\B=cz z.pb (z.ps,if e=0 then x.po.set f ((z.i:Int),true)else x.po)::R))/\(e=0/\(∃l,F=f::l)\/e=2/\F=[]):=by
  cases F with
  |nil=>exact⟨2,0,λR=>by rw[Qab cl];exact b6s z.pb z.ps x.po z.i W aq h.po u,.inr ⟨ρ,ρ⟩⟩
  |cons f l=>exact⟨0,f,λR=>by rw[Qad ρ];exact Rr z.pb z.ps x.po z.i f l aq h.po u,.inl ⟨ρ,l,ρ⟩⟩
 obtain⟨I,J⟩:=H;refine bH [gb] 14 λK=>?_;refine aj 0 8 K ?_;refine bQ 8 (ar call170 (I _)) λK=>?_;refine aj 9 5 K ?_;refine aS (aB ρ (λc9=>?_) λc9=>?_);refine au 8 (ag ?_);rcases J with ⟨q,_⟩|⟨rfl,rfl⟩;omega;rw[Qab (show ¬((2:Int)=0) by decide)];exact eo;refine au 3 ?_;obtain⟨rfl,l,rfl⟩:e=0/\∃l,F=f::l:=by
  grind
 rw[Qad (show(0:Int)=0 from ρ)];have C:=nR.1 (show f∈cG x.po z.i by rw[u];simp);obtain⟨hG,hE⟩:=h.come aq Z s C.1 C.2 x.fr h.fr ρ (λ_ _=>ρ);have D:=Q.come (n:=n) (p:=((f:Int),3)) (by have:=C.1;have:=h.len;show(f:Int)<_;omega) λt q e=>by
  have E:=q;simp only[bG,Qam]at E;obtain⟨k,rfl,hk⟩:=nP E.1;rcases Qaz k 8 with M|M;have:=h.own k M q;rw[e,Qae,C.2]at this;have:=(QcX this).2;cases this;have:=h.far k M q;rw[e,Qae,C.2]at this;exact this ρ
 refine aw (ao (ar Ba (xR z.pv z.ps z.pm d)) ?_);refine ao (ar Ya (KF z.pm x.pg h.pg n ((f:Int),3))) ?_;rw[hE];refine ag ⟨_,⟨ρ,ρ⟩,?_⟩;exact Ent.trans (B:=pt gb (bN z g)::pt z.x.m (cX z.pv o r)::bC o (c,dt 4 j)::cj r L::pt z.pv (cg z.ps z.pm d)::pt z.pm (bM (gX x.pg n ((f:Int),3)))::cz z.pb (z.ps,x.po.set f ((z.i:Int),true))::R) inferInstance (Ent.cons (p8 N O P D))
theorem b6B(hi:z.i<4)p x(h:GMem z.i x):sQ W0 321 [pV gb,.int .i64 p] (pt gb (bN z g)::cR z.x.m ⟨z.pv,z.ps,z.pm,g.bud,x.fr,x.pg⟩::cz z.pb (z.ps,x.po)::aH z.ps x.fr::R) (.int .i64 (wT p x)) (pt gb (bN z g)::cR z.x.m ⟨z.pv,z.ps,z.pm,g.bud,(mh z.i p x).fr,(mh z.i p x).pg⟩::cz z.pb (z.ps,(mh z.i p x).po)::aH z.ps (mh z.i p x).fr::R):=by
 obtain⟨th,hth⟩:∃b,bG x.pg p=b:=⟨_,Z⟩
 obtain⟨ow,how⟩:∃b,Aw p=b:=⟨_,Z⟩
 have how2:decide (0≤p/\p<8)=ow:=how;rw[wT,mh,how,hth];refine eR (List.Perm.swap _ _ _) (rN λbt bs its T L now d h1 h2 h3 h4=>?_);have hclose:∀X:List HP,Ent (pt gb (bN z g)::pt z.x.m (cX z.pv bt bs)::bC bt (its,dt 4 now)::cj bs L::pt z.pv (cg z.ps z.pm d)::pt z.pm (bM x.pg)::X) (pt gb (bN z g)::cR z.x.m ⟨z.pv,z.ps,z.pm,g.bud,x.fr,x.pg⟩::X):=λX=>Ent.cons (p8 h1 h2 h3 h4);refine jj 10 func321 ntmps321 ?_;refine cW 3 (eg qR Z (pP W0 _ gb z g)) ?_;apply aB Z<;>intro c1;exact absurd c1 cl;refine au 3 (eS (gx call382 Z (Vo p)) ?_);rw[how2];refine au 4 (aB Z (λc3=>?_) λc3=>?_);refine au 8 (ag ?_);rw[show ow=false by simpa using c3];exact kb;refine au 4 ?_;have ho:ow=true:=mv;rw[ho];obtain⟨n,rfl,hn⟩:=yy (how.trans ho);refine au 5 (eS (eg Ba Z (xR z.pv z.ps z.pm d)) ?_);refine aa Z (aV Z) (eS (eg D6 Z (zM z.pm x.pg h.pg n)) ?_);rw[hth];refine au 3 (dT (cP c2s) λb5=>?_);refine fw 10 (eN NX Z Z Z Z Z) ?_;apply aB Z<;>intro c6;refine au 7 (ag ?_);rw[show th=false by simpa using c6];exact kb;refine au 3 ?_;have ht1:th=true:=mv;rw[ht1];rw[ht1]at hth;obtain⟨f,hf,hff,hfp⟩:=h.at_ hth;have hown:=h.own n hn hth;rw[hf,Qae]at hown;have hgv:pR z.i n x=⟨x.fr.set f gy,j9 x.pg n,x.po.set f ((z.i:Int),false)⟩:=by grind[pR]
 have hne:∀t:Nat,t<8->bG (j9 x.pg n) t=true->(x.fr.set f gy).getD (cB (j9 x.pg n) t).1.toNat []=x.fr.getD (cB (j9 x.pg n) t).1.toNat []:=λt h8 q=>by
  rw[F8 h.pg.len,Qam,Qag]at q;have h5:=Aq h.pg q.1;rw[Ih q.2];exact Ar λe2=>q.2 (h.pl.inj _ _ q.1 hth aq)
 refine au 5 (eS (eg Ba Z (xR z.pv z.ps z.pm d)) ?_);refine aa Z (aV Z) (cW 10 (eg OA Z (Uc z.pm x.pg h.pg n)) ?_);refine aF Z (gU call383 Z (b5a z.x.m z.pv bt bs z.ps z.pm d its 4 now T L x.fr x.pg h1 h2 cl n h4)) ?_;rintro _ B_ ⟨rfl,its2,T2,L2,hB_,k1,k2,k3⟩;subst hB_;have k4:=k3.frame (fr':=x.fr.set f gy) n4 (MI h.fr f) hne;refine au 3 (dY [(gb,0,_),(b5,0,_)] 8 mixed Z (bj (bj bI)) (λhS=>?_));refine aj 0 5 hS ?_;refine cI 5 Z Z Z hS (bO cM Z (d6 (j:=0) (k:=1) (v:=.int .i64 f) Z mv)) ?_;refine iX 6 Z Z (Gg call328 Z (Vl z.pb z.ps x.po x.fr f z.i hfp hff aq h.po hown)) (bj (bj bI)) λhS=>?_;refine aj 7 1 hS ?_;refine eY (au 2 (ag ?_));rw[Qad Z,Qad aae,Qae,hgv];refine⟨_,⟨Z,Z⟩,?_⟩;exact Ent.trans (B:=pt gb (bN z g)::pt z.x.m (cX z.pv bt bs)::bC bt (its2,dt 4 now)::cj bs L2::pt z.pv (cg z.ps z.pm 0)::pt z.pm (bM (j9 x.pg n))::cz z.pb (z.ps,x.po.set f ((z.i:Int),false))::aH z.ps (x.fr.set f gy)::R) inferInstance (Ent.cons (p8 k1 k2 h3 k4))
end
abbrev Ij:Tm:=⟨[false,false,false,false],0,[]⟩
abbrev Ik:List Nat:=[0,0,0,0,0,4,0]
abbrev F9:List Li:=List.replicate 8 default
theorem b6C:Ent (pt b (ae [iA,.bool true] 482)::R) (cj b []::R):=
  (Ent.cons (eW (E:=551) (sz:=7) (A:=R) (B:=R))).trans (fT (R:=R) (C:=[_,_]) ⟨none,0,Z⟩)
theorem Vp(a:bD fr)(b:Pgs pg)(c:PlOk fr.length pg):MOk fr pg 0 [] []:=⟨a,by decide,b,c,TI.nil,λx d=>by simp at d⟩
abbrev Il(x:Bd)(q0 q1 q2 i pv ps pm:Nat)(fr:List az)(pg:List Pl)(R:List HP):List HP:=pt x.r (eJ (List.replicate 16 0) 0)::pt x.c (fj Ik i)::cR x.m ⟨pv,ps,pm,0,fr,pg⟩::ew x.v (F9,0)::mQ x.t Ij::pt q0 (qO true dS)::pt q1 (qO true dS)::pt q2 (qO true dS)::R
abbrev Vq(x:Bd)(bt bs q0 q1 q2 i pv ps pm:Nat)(pg:List Pl)(R:List HP):List HP:=pt x.r (eJ (List.replicate 16 0) 0)::pt x.c (fj Ik i)::pt x.m (cX pv bt bs)::bC bt ([],dt 4 0)::cj bs []::pt pv (cg ps pm 0)::pt pm (bM pg)::ew x.v (F9,0)::mQ x.t Ij::pt q0 (qO true dS)::pt q1 (qO true dS)::pt q2 (qO true dS)::R
theorem MP{x:Bd}{c d e f g a h b:Nat}:Ent (wG x i c d a (kH 6 (bB [pt e (qO true dS),pt f (qO true dS),pt g (qO true dS)])::pt a (cg h b 0)::pt b (bM pg)::R)) (Vq x c d e f g i a h b pg R):=by
 refine Ent.cons (Ent.cons ?_);show Ent (pt x.m (Ch a c d)::bC c ([],dt 4 0)::pt d (ae [iA,.bool true] 482)::pt x.v A6::pt x.t A7::kH 6 (bB [pt e (qO true dS),pt f (qO true dS),pt g (qO true dS)])::pt a (cg h b 0)::pt b (bM pg)::R) _
 have j:Ent (pt x.m (Ch a c d)::bC c ([],dt 4 0)::pt d (ae [iA,.bool true] 482)::pt x.v A6::pt x.t A7::kH 6 (bB [pt e (qO true dS),pt f (qO true dS),pt g (qO true dS)])::pt a (cg h b 0)::pt b (bM pg)::R)
     (kH 6 (bB [pt e (qO true dS),pt f (qO true dS),pt g (qO true dS)])::pt d (ae [iA,.bool true] 482)::pt x.m (Ch a c d)::bC c ([],dt 4 0)::pt a (cg h b 0)::pt b (bM pg)::pt x.v A6::pt x.t A7::R):=inferInstance
 refine j.trans ((kd (A:=[pt e (qO true dS),pt f (qO true dS),pt g (qO true dS)])).trans ?_);refine Ent.trans (B:=pt e (qO true dS)::pt f (qO true dS)::pt g (qO true dS)::cj d []::pt x.m (Ch a c d)::bC c ([],dt 4 0)::pt a (cg h b 0)::pt b (bM pg)::pt x.v A6::pt x.t A7::R) (Ent.cons (Ent.cons (Ent.cons b6C))) ?_;refine Ent.trans (B:=pt x.m (cX a c d)::bC c ([],dt 4 0)::cj d []::pt a (cg h b 0)::pt b (bM pg)::pt x.v A6::pt x.t A7::pt e (qO true dS)::pt f (qO true dS)::pt g (qO true dS)::R) inferInstance ?_;refine Ent.cons (Ent.cons (Ent.cons (Ent.cons (Ent.cons ?_))));refine Ent.trans (B:=pt x.v (ae ((dN F9 0).set 32 iA) 324)::pt x.t (ae ((gG [false,false,false,false] 0).set 0 iA) 340)::pt e (qO true dS)::pt f (qO true dS)::pt g (qO true dS)::R) ent_refl ?_;exact b5K.trans (Ent.cons b58)
theorem b6D{x:Bd}{g j c d e a f b:Nat}(h:MOk fr pg 0 [] []):Ent (wG x i g j a (kH 6 (bB [pt c (qO true dS),pt d (qO true dS),pt e (qO true dS)])::pt a (cg f b 0)::pt b (bM pg)::R)) (Il x c d e i a f b fr pg R):=
  MP.trans (Ent.cons (Ent.cons (p8 (bud:=0) Rep.nil (Qay _) (Qai _) h)))
abbrev Fa(g:Gu):Gu:=⟨⟨List.replicate 16 0,0,Ik⟩,dS,dS,dS,F9,0,Ij,false,[0,0,0,0],g.clock,g.es,0⟩
abbrev oe(g:Gu):Gu:=t6 (Fa g) 5 0 0 0
def jN(i n:Nat)(ws:List Nat)(x:Mm):Mm:=As (dV i (dm ws n) n ⟨(dK i 8 x).fr,(dK i 8 x).po,(dK i 8 x).pg⟩)
theorem MQ{i x}(h:GMem i x)(a:i<16):∀n,n≤8->∀t,t<n->bG (dK i n x).pg t=false
 |0,_,t,b=>absurd b (QbD t)
 |n+1,d,t,b=>by
  have c:=h.strip a n aq;rw[dK,qH];by_cases q:bG (dK i n x).pg n=true;rw[Qad q];show bG (j9 (dK i n x).pg n) (t:Nat)=false;rw[F8 c.pg.len];by_cases e:t=n;subst e;simp;rw[MQ h a n aq t aq];rfl;rw[Qab q];by_cases e:t=n;grind;exact MQ h a n aq t aq
theorem Io(h:GMem i x)(a:i<16):we (dK i 8 x).pg 0 8:=λt _ b=>MQ h a 8 (Qai _) t b
def rQ(i:Nat)(po:Po):Nat:=((List.range po.length).filter λf=>(dw po f).1==(i:Int)).length
theorem Ip{i x}(h:GMem i x)(c:i<16):∀n,n≤8->(dK i n x).po.length=x.po.length/\∀f,(dw (dK i n x).po f).1=(dw x.po f).1
 |0,_=>⟨Z,λ_=>Z⟩
 |n+1,o=>by
  obtain⟨e,g⟩:=Ip h c n aq;have d:=h.strip c n aq;rw[dK,qH];split
  rename_i q
  obtain⟨f,j,l,a⟩:=d.at_ q;have m:=d.own n aq q;rw[j,Qae]at m;have b:(pR i n (dK i n x)).po=(dK i n x).po.set f ((i:Int),false):=by grind[pR]
  rw[b];refine⟨by rw[Qal];exact e,λk=>?_⟩;rw[kT a];split;grind;exact g k;grind
attribute [local irreducible] dK
theorem MR{i x}(h:GMem i x)(a:i<16):(cG (dK i 8 x).po i).length=rQ i x.po:=by
 have c:=h.strip a 8 (Qai _);obtain⟨d,g⟩:=Ip h a 8 (Qai _);have j:=Io h a;unfold rQ cG;rw[d];refine Qak List.length (Qci λf m=>?_);have b:f<(dK i 8 x).po.length:=mv;rw[<-g f,Qah,Qbv,Qbv];constructor;grind;intro e
 cases k:(dw (dK i 8 x).po f).2 with
 |false=>rw[<-e, <-k]
 |true=>
  obtain⟨t,l,q,_⟩:=c.all f b mv;rw[j t (Qay _) l]at q;cases q
theorem GMem.anew(h:GMem i x)(a:i<16)(b:n≤8)(d:n≤rQ i x.po):GMem i (jN i n ws x):=by have c:=h.strip a 8 (Qai _);exact GMem.lay (x:=⟨(dK i 8 x).fr,(dK i 8 x).po,(dK i 8 x).pg⟩) c a (Io h a) n b (by grind[MR])
section
variable(W0:World)(R:List HP)(gb:Nat)(z:Gz)(g:Gu)(N:Nat)
theorem b6E(hc:CfK W0 z.c)(hr:rt z.c=true)(hi:z.i<z.c.gl.length)(hk:g.clock<1000000000)x(h:GMem z.i x)(h0:0<x.po.length)(n:Nat)(hn:(cC z.c z.i).2.1=n)(hpar:n≤rQ z.i x.po)a cap ws(hw:z.wv=.slice a ws.length cap)(hs:∀A,Ent A R->bZ (aQ W0 A) a 1 pJ ws)(hb:∀y∈ws,y<4294967296)(hwl:ws.length≤128):sP W0 151 [pV gb] (pt gb (bN z g)::ie z.tr g.es::cR z.x.m ⟨z.pv,z.ps,z.pm,g.bud,x.fr,x.pg⟩::cz z.pb (z.ps,x.po)::aH z.ps x.fr::R) (λv B=>∃y bt2 bs2 q0 q1 q2,v=iQ 0/\B=pt gb (bN { z with x:=y,q0:=q0,q1:=q1,q2:=q2 } (oe g))::ie z.tr (oe g).es::cz z.pb (z.ps,(jN z.i n ws x).po)::aH z.ps (jN z.i n ws x).fr::Vq y bt2 bs2 q0 q1 q2 z.i z.pv z.ps z.pm (jN z.i n ws x).pg R):=by
 have hR:=eI hr;have hg4:=hR.g4;have hgs:=hR.gs z.i hi;rw[hn]at hgs;obtain⟨ga,o,hga,hcc⟩:=(hc.ok.g []).at_ hi;obtain⟨u,hu⟩:∃u,z.c.gl[z.i]=u:=⟨_,Z⟩
 have hA:cC z.c z.i=u:=by grind[cC]
 rw[hu]at hcc;have hun:u.2.1=(n:Int):=mv;have hst:=h.strip (show z.i<16 by omega) 8 (Qai _);have hfree:=Io h (show z.i<16 by omega);have hfre:=MR h (show z.i<16 by omega);have hand:=h.anew (n:=n) (ws:=ws) (show z.i<16 by omega) (by omega) hpar;have hIm:ImOk ⟨(dK z.i 8 x).fr,(dK z.i 8 x).po,(dK z.i 8 x).pg⟩:=⟨hst.fr,hst.po,hst.pg,hst.len⟩
 have hsl:=(Ip h (show z.i<16 by omega) 8 (Qai _)).1;obtain⟨y2,hy2⟩:∃y,dV z.i (dm ws n) n ⟨(dK z.i 8 x).fr,(dK z.i 8 x).po,(dK z.i 8 x).pg⟩=y:=⟨_,Z⟩
 have hy3:jN z.i n ws x=As y2:=by rw[jN,hy2]
 rw[hy3]at hand ⊢;refine eR (B:=cR z.x.m ⟨z.pv,z.ps,z.pm,g.bud,x.fr,x.pg⟩::pt gb (bN z g)::ie z.tr g.es::cz z.pb (z.ps,x.po)::aH z.ps x.fr::R) uO (rN λbt bs its T L now d h1 h2 h3 h4=>?_);have hx:bF (aQ W0 (pt gb (bN z g)::R)) ga (o+z.i*3) (jW u):=hcc.weak;refine am func151 ntmps151 ?_;refine ao (ar qR (pP W0 _ gb z g)) ?_;refine bH [gb] 10 λhS=>?_;refine aj 0 8 hS ?_;refine bQ 8 (ar Ba (xR z.pv z.ps z.pm d)) λhS=>?_;refine co 9 (dF call251 (b6u z.pb z.ps z.pm z.i x h aq)) ?_;clear hS;rintro _ B_ ⟨q,rfl,hB_⟩;subst hB_;refine⟨aW,λhS=>?_⟩;refine aS (dY [(gb,0,lu z g),(ga,o+z.i*3,jW u)] 36 mixed Z (bj (dA hcc.weak bI)) (λhS=>?_));refine aj 0 8 hS ?_;refine aj 9 4 hS ?_;refine aj 14 13 hS ?_;refine aE 27 hS (g7 xk uz Z hga Z Z hi dg) ?_;refine aj 28 1 hS ?_;refine aE 29 hS (aY (n0 (j:=1) (k:=1) (v:=iQ n) Z (by rw[<-hun];rfl))) ?_;refine aj 30 3 hS ?_;refine aE 33 hS (aY (d6 (k:=0) (v:=.slice a ws.length cap) Z (by rw[<-hw];rfl))) ?_;refine iX 8 Z Z (ar Yx (Lc z.pv z.ps z.pm d)) (bj (dA hcc.weak bI)) λhS=>?_;refine iX 13 Z Z (ar Ba (xR z.pv z.ps z.pm d)) (bj (dA hcc.weak bI)) λhS=>?_;refine co 34 (dF call105 (SG z.pb z.ps z.pm z.i n ⟨(dK z.i 8 x).fr,(dK z.i 8 x).po,(dK z.i 8 x).pg⟩ hIm (by have:=hst.len;show 0<(dK z.i 8 x).fr.length;omega) a cap ws aq aq aq hfree mv (by intro A hA;exact hs A (hA.trans inferInstance)) hb aq)) ?_;clear hS;rintro _ B_ ⟨rfl,hB_⟩;subst hB_;rw[hy2];refine⟨(bj (dA hcc.weak bI)),λhS=>?_⟩;refine aj 35 1 hS ?_;refine aS (ap (λc5=>?_) λc5=>?_);exact absurd Z c5;refine aF Z (ar call253 (RJ z.pv z.ps z.pm d h4.dl)) ?_;rintro _ B_ ⟨da,dc,rfl,hB_⟩;subst hB_;refine aw (bH [gb] 15 λhS=>?_);refine aj 0 8 hS ?_;refine fp (is:=[8,12]) ld Z ⟨?_,?_,trivial⟩;refine dB (ar Yh (LN z.i z.pv z.ps z.pm 0 aq)) ?_;clear hS;rintro _ B_ ⟨y,bt2,bs2,q0,q1,q2,rfl,hB_⟩;subst hB_;refine⟨aW,λhS=>?_⟩;refine aj 9 3 hS ?_;refine co 12 (cP XT) ?_;clear hS;rintro _ _ ⟨b4,rfl,rfl⟩;refine⟨aW,λhS=>?_⟩;refine cp 13 aR λhS=>?_;refine aj 14 1 hS ?_;refine aS (ap (λc9=>?_) λc9=>?_);exact absurd Z c9;refine aJ (kh (Qaa Z) (aas:ee (lu z g) 0 (Hu y q0 q1 q2)=lu { z with x:=y,q0:=q0,q1:=q1,q2:=q2 } (Fa g))) ?_;refine ao (dF Be (yx W0 _ gb { z with x:=y,q0:=q0,q1:=q1,q2:=q2 } (Fa g) hk Z 5 0 0 0)) ?_;refine ag ⟨_,⟨y,bt2,bs2,q0,q1,q2,Z,Z⟩,?_⟩;refine Ent.trans (B:=pt gb (bN { z with x:=y,q0:=q0,q1:=q1,q2:=q2 } (oe g))::ie z.tr (oe g).es::cz z.pb (z.ps,y2.po)::aH z.ps y2.fr::wG y z.i bt2 bs2 z.pv (kH 6 (bB [pt q0 (qO true dS),pt q1 (qO true dS),pt q2 (qO true dS)])::pt z.pv (cg z.ps z.pm 0)::pt z.pm (bM y2.pg)::R)) inferInstance ?_;exact Ent.cons (Ent.cons (Ent.cons (Ent.cons MP)));skip;refine dB (cP XT) ?_;clear hS;rintro _ _ ⟨b4,rfl,rfl⟩;refine⟨aW,λhS=>?_⟩;refine co 8 (ar Yh (LN z.i z.pv z.ps z.pm 0 aq)) ?_;clear hS
 rintro _ B_ ⟨y,bt2,bs2,q0,q1,q2,rfl,hB_⟩;subst hB_;refine⟨aW,λhS=>?_⟩;refine aj 9 3 hS ?_;refine cp 13 aR λhS=>?_;refine aj 14 1 hS ?_;refine aS (ap (λc9=>?_) λc9=>?_);exact absurd Z c9;refine aJ (kh (Qaa Z) (aas:ee (lu z g) 0 (Hu y q0 q1 q2)=lu { z with x:=y,q0:=q0,q1:=q1,q2:=q2 } (Fa g))) ?_;refine ao (dF Be (yx W0 _ gb { z with x:=y,q0:=q0,q1:=q1,q2:=q2 } (Fa g) hk Z 5 0 0 0)) ?_;refine ag ⟨_,⟨y,bt2,bs2,q0,q1,q2,Z,Z⟩,?_⟩;refine Ent.trans (B:=pt gb (bN { z with x:=y,q0:=q0,q1:=q1,q2:=q2 } (oe g))::ie z.tr (oe g).es::cz z.pb (z.ps,y2.po)::aH z.ps y2.fr::wG y z.i bt2 bs2 z.pv (kH 6 (bB [pt q0 (qO true dS),pt q1 (qO true dS),pt q2 (qO true dS)])::pt z.pv (cg z.ps z.pm 0)::pt z.pm (bM y2.pg)::R)) inferInstance ?_;exact Ent.cons (Ent.cons (Ent.cons (Ent.cons MP)))
theorem Vr(hc:CfK W0 z.c)(hr:rt z.c=true)(hi:z.i<z.c.gl.length)(hk:g.clock<1000000000)x(h:GMem z.i x)(h0:0<x.po.length)(n:Nat)(hn:(cC z.c z.i).2.1=n)(hpar:n≤rQ z.i x.po)a cap ws(hw:z.wv=.slice a ws.length cap)(hs:∀A,Ent A R->bZ (aQ W0 A) a 1 pJ ws)(hb:∀y∈ws,y<4294967296)(hwl:ws.length≤128):sP W0 151 [pV gb] (pt gb (bN z g)::ie z.tr g.es::cR z.x.m ⟨z.pv,z.ps,z.pm,g.bud,x.fr,x.pg⟩::cz z.pb (z.ps,x.po)::aH z.ps x.fr::R) (λv B=>∃y q0 q1 q2,v=iQ 0/\B=pt gb (bN { z with x:=y,q0:=q0,q1:=q1,q2:=q2 } (oe g))::ie z.tr (oe g).es::cz z.pb (z.ps,(jN z.i n ws x).po)::aH z.ps (jN z.i n ws x).fr::Il y q0 q1 q2 z.i z.pv z.ps z.pm (jN z.i n ws x).fr (jN z.i n ws x).pg R):=by have e:=eI hr;have f:=e.g4;have d:=e.gs z.i hi;rw[hn]at d;have b:=h.anew (n:=n) (ws:=ws) (show z.i<16 by omega) (by omega) hpar;refine cF (b6E W0 R gb z g hc hr hi hk x h h0 n hn hpar a cap ws hw hs hb hwl) λv B j=>?_;obtain⟨y,k,l,q0,q1,q2,rfl,rfl⟩:=j;exact⟨_,⟨y,q0,q1,q2,Z,Z⟩,Ent.cons (Ent.cons (Ent.cons (Ent.cons (Ent.cons (Ent.cons (p8 (bud:=0) Rep.nil (Qay _) (Qai _) (Vp b.fr b.pg b.pl)))))))⟩
end
end
variable {g:Gu}{z:Gz}{x:Mm}
section
open Go.RowKit
theorem yz t:bG gd t=false:=by
 cases q:bG gd t with
 |false=>rfl
 |true=>
  have h:=q;simp only[bG,Qam]at h;obtain⟨k,rfl,a⟩:=nP h.1;have:k=0\/k=1\/k=2\/k=3\/k=4\/k=5\/k=6\/k=7\/k=8\/k=9\/k=10\/k=11:=aq;rcases this with rfl|rfl|rfl|rfl|rfl|rfl|rfl|rfl|rfl|rfl|rfl|rfl<;>exact absurd q cl
theorem GMem.none(b:bD fr)(c:PoOk po)(d:po.length=fr.length)(g:∀f,f<po.length->dw po f≠((i:Int),true))(h:∀f,f<po.length->dw po f=((i:Int),false)->fr.getD f []=gy):GMem i ⟨fr,gd,po⟩:=
  ⟨b,c,Hw,d,⟨λt a=>absurd a (by rw[yz];decide),λs t j=>absurd j (by rw[yz];decide)⟩,λt _ a=>absurd a (by rw[yz];decide),λf k e=>absurd e (g f k),λt _ a=>absurd a (by rw[yz];decide),h⟩
theorem b6F{who:Nat}{x:Im}:(lK who words x i).po.length=x.po.length/\(∀f,(dw (lK who words x i).po f).1=(dw x.po f).1):=by
 unfold lK
 cases e:cG x.po who with
 |nil=>exact⟨Z,λ_=>Z⟩
 |cons f l=>
  have a:=nR.1 (show f∈cG x.po who by rw[e];simp);refine⟨Qal ..,λk=>?_⟩;dsimp only;rw[kT a.1];split;grind;rfl
theorem Iq{who words x}:∀n,(dV who words n x).po.length=x.po.length/\(∀f,(dw (dV who words n x).po f).1=(dw x.po f).1)
 |0=>⟨Z,λ_=>Z⟩
 |n+1=>by
  obtain⟨a,b⟩:=Iq (who:=who) (words:=words) (x:=x) n;obtain⟨c,d⟩:=b6F (who:=who) (i:=n) (words:=words) (x:=dV who words n x);exact⟨c.trans a,λf=>(d f).trans (b f)⟩
theorem Ir{who words x}:∀n,n≤8->∀t:Nat,8≤t->bG (dV who words n x).pg t=bG x.pg t
 |0,_,_,_=>Z
 |n+1,b,t,a=>by
  rw[dV,lK]
  cases e:cG (dV who words n x).po who with
  |nil=>exact Ir n aq t a
  |cons f l=>
   dsimp only;unfold gX;split;rw[Qae,(fY aq).1];exact Ir n aq t a;exact Ir n aq t a
theorem GMem.ring{i k fr pg po f r}(h:GMem i ⟨fr,pg,po⟩)(w:k<4)(d:bG pg (8+k:Nat)=false)(x:f<fr.length)(y:1≤r/\r≤3)(A:(dw po f).1≠i)(s:∀t,bG pg t=true->(cB pg t).1≠f):
    GMem i ⟨fr,gX pg (8+k:Nat) (f,r),po⟩/\(∀t,bG (gX pg (8+k:Nat) (f,r)) t=(bG pg t||decide (t=(8+k:Nat))))/\(∀t,t≠((8+k:Nat):Int)->cB (gX pg (8+k:Nat) (f,r)) t=cB pg t)/\cB (gX pg (8+k:Nat) (f,r)) (8+k:Nat)=((f:Int),r):=by
 have l:f<32:=by have:=h.po.len;have:=h.len;dsimp only at *;omega
 have B:kx pg ((8+k:Nat):Int) ((f:Int),r)=0:=by
  rw[kx,Qad ⟨Qav aq,Qav aq⟩,d];rfl
 have m:gX pg ((8+k:Nat):Int) ((f:Int),r)=pg.set (8+k) ((f:Int),r):=by grind[gX]
 have b:(((f:Int),r):Pl)≠(0,0):=λe=>by have:=(QcX e).2;omega
 have u:=Al (p:=((f:Int),r)) h.pg.len (show 8+k<12 by omega) b;have a:∀t,bG (pg.set (8+k) ((f:Int),r)) t=(bG pg t||decide (t=((8+k:Nat):Int))):=λt=>by
  by_cases e:t=((8+k:Nat):Int);grind;grind[fY]
 rw[m];refine⟨⟨h.fr,h.po,?_,h.len,h.pl.set h.pg.len aq b mv s,λt c q=>?_,λg j q=>?_,λt c q=>?_,h.nul⟩,a,λt e=>(fY e).2,u.2⟩;have:=E1 (n:=((8+k:Nat):Int)) (p:=((f:Int),r)) h.pg
 rwa[m]at this
 have e:(t:Int)≠((8+k:Nat):Int):=aq;dsimp only at q ⊢;rw[a,Qat e,QcK]at q;rw[(fY e).2];exact h.own t c q;obtain⟨t,c,o,v⟩:=h.all g j q;have e:(t:Int)≠((8+k:Nat):Int):=aq;exact⟨t,c,by dsimp only;rw[a];dsimp only at o;rw[o];rfl,by dsimp only;rw[(fY e).2];exact v⟩;dsimp only at q ⊢;by_cases e:(t:Int)=((8+k:Nat):Int);grind;rw[a,Qat e,QcK]at q;rw[(fY e).2];exact h.far t c q
theorem GMem.rings{c i fr pg po}(n:rt c=true)(h:GMem i ⟨fr,pg,po⟩)(a:∀t:Nat,8≤t->bG pg t=false)(b:Nat)(u:eT c c.gl.length=b)(g:∀k,k<c.nl.length->(dw po (b+k)).1≠i)(v:b+c.nl.length≤fr.length):
    ∀k,k≤c.nl.length->GMem i ⟨fr,fz c i k pg,po⟩/\(∀t:Nat,8≤t->bG (fz c i k pg) t=true->t<8+k/\(cB (fz c i k pg) t).1=(b+(t-8):Nat))/\(∀t:Nat,t<8->bG (fz c i k pg) t=bG pg t/\cB (fz c i k pg) t=cB pg t)
 |0,_=>⟨h,λt d q=>absurd (show bG pg t=true from q) mv,λt _=>⟨rfl,rfl⟩⟩
 |k+1,B=>by
  obtain⟨o,w,C⟩:=h.rings n a b u g v k aq;have x:=(eI n).nn;rw[fz];split;grind
  rename_i D
  have j:jK c (k:Int)=((b+k:Nat):Int):=by grind[jK]
  have l:1≤j5 (eB c k) i/\j5 (eB c k) i≤3:=by
   grind[j5]
  have m:bG (fz c i k pg) ((8+k:Nat):Int)=false:=by
   cases q:bG (fz c i k pg) ((8+k:Nat):Int)with
   |false=>rfl
   |true=>have:=(w (8+k) aq q).1;omega
  rw[j];obtain⟨y,A,E,F⟩:=o.ring (k:=k) (f:=b+k) (r:=j5 (eB c k) i) aq m aq l (g k aq) λt q e=>by
   have p:=q;simp only[bG,Qam]at p;obtain⟨s,rfl,G⟩:=nP p.1;rcases Qaz s 8 with d|d;have:=o.own s d q;dsimp only at this;rw[e,Qae]at this;exact g k aq (by rw[this]);grind
  refine⟨y,λt d q=>?_,λt d=>?_⟩;rw[A]at q;by_cases e:(t:Int)=((8+k:Nat):Int);grind;grind;grind
def jy(c:Cfg)(i:Nat)(ws:List Nat)(fr:List az)(po:Po):Mm:=⟨(laid c i ws fr po).fr,fz c i c.nl.length (laid c i ws fr po).pg,(laid c i ws fr po).po⟩
theorem b6G(a:bD fr)(b:PoOk po)(d:po.length=fr.length)(e:i<16):(laid c i ws fr po).fr.length=fr.length:=by have g:=(BM (who:=i) (words:=dm ws (cC c i).2.1.toNat) (x:=⟨fr,po,gd⟩) e (n:=(cC c i).2.1.toNat) ⟨a,b,Hw,d⟩).len;have f:=(Iq (who:=i) (words:=dm ws (cC c i).2.1.toNat) (x:=⟨fr,po,gd⟩) (cC c i).2.1.toNat).1;have h:(dV i (dm ws (cC c i).2.1.toNat) (cC c i).2.1.toNat ⟨fr,po,gd⟩).po.length=po.length:=f;unfold laid;omega
theorem GMem.made{c i ws fr po}(g:rt c=true)(o:i<c.gl.length)(h:bD fr)(j:PoOk po)(l:po.length=fr.length)(m:(cC c i).2.1≤((cG po i).length))(p:∀f,f<po.length->dw po f≠((i:Int),true))(q:∀f,f<po.length->dw po f=((i:Int),false)->fr.getD f []=gy)
    (r:∀b k:Nat,eT c c.gl.length=b->k<c.nl.length->(dw po (b+k)).1≠i)(D:fr.length=dG c):GMem i (jy c i ws fr po):=by
 have a:=eI g;have s:=a.g4;have u:=a.gs i o;have v:=GMem.none h j l p q;have d:=GMem.lay (words:=dm ws (cC c i).2.1.toNat) (x:=⟨fr,po,gd⟩) v (show i<16 by omega) LO (cC c i).2.1.toNat (by omega) (by grind);have w:=wA a.gs c.gl.length (Qai _);obtain⟨b,n⟩:∃b:Nat,eT c c.gl.length=(b:Int):=⟨(eT c c.gl.length).toNat,aq⟩
 have y:=b6G (ws:=ws) (c:=c) h j l (show i<16 by omega);have A:=y3 c c.gl.length;have e:b+c.nl.length≤(laid c i ws fr po).fr.length:=by grind[dG]
 exact(d.rings g (λt B=>by
  show bG (dV i (dm ws (cC c i).2.1.toNat) (cC c i).2.1.toNat ⟨fr,po,gd⟩).pg t=false
  rw[Ir _ aq t B];exact yz _) b n (λk C=>by
  show(dw (dV i (dm ws (cC c i).2.1.toNat) (cC c i).2.1.toNat ⟨fr,po,gd⟩).po (b+k)).1≠_
  rw[(Iq _).2];exact r b k n C) e c.nl.length (Qai _)).1
abbrev g0:Gu:=⟨⟨List.replicate 16 0,0,Ik⟩,dS,dS,dS,F9,0,Ij,false,[0,0,0,0],0,[],0⟩
abbrev gA(gb:Nat)(z:Gz)(g:Gu)(x:Mm)(R:List HP):List HP:=pt gb (bN z g)::pt z.x.r (eJ g.c.rl g.c.pc)::pt z.x.c (fj g.c.cs z.i)::ie z.tr g.es::ew z.x.v (g.ls,g.ln)::mQ z.x.t g.tm::cR z.x.m ⟨z.pv,z.ps,z.pm,g.bud,x.fr,x.pg⟩::pt z.q0 (qO true g.qa)::pt z.q1 (qO true g.qb)::pt z.q2 (qO true g.qc)::R
theorem b6H W0 R c(h:CfK W0 c)(r:rt c=true)i(s:i<c.gl.length)ps pb fr po(t:bD fr)(u:PoOk po)(w:po.length=fr.length)(C:0<fr.length)(g:(cC c i).2.1≤((cG po i).length))
    a cap ws(D:∀A,bZ (aQ W0 A) a 1 pJ ws)(E:∀y∈ws,y<4294967296)(F:ws.length<9223372036854775808)(q:GMem i (jy c i ws fr po)):
    bE Tryz.prog W0 60 [.agg (dU c).toArray,.int .i64 i,pV ps,pV pb,.slice a ws.length cap] (cz pb (ps,po)::aH ps fr::R)
      (λv B=>∃e z b,v=.tuple #[pV e,.int .i64 0]/\z.c=c/\z.i=i/\z.ps=ps/\z.pb=pb/\z.wv=.slice (some ⟨b,0,none⟩) (dm ws 8).length (dm ws 8).length/\B=gA e z g0 (jy c i ws fr po) (pt z.bx wE::pt b (ae ((dm ws 8).map wV) 62)::cz pb (ps,(jy c i ws fr po).po)::aH ps (jy c i ws fr po).fr::R)):=by
 refine cF (b1I c h r i s ps pb fr po t u w C g a cap ws D E F) λv B G=>?_;obtain⟨e,x,H,I,j,k,l,b,f,n,o,p,rfl,rfl⟩:=G;refine⟨_,⟨e,⟨x,j,k,l,f,ps,n,pb,o,p,.slice (some ⟨b,0,none⟩) (dm ws 8).length (dm ws 8).length,i,c⟩,b,Z,Z,Z,Z,Z,Z,Z⟩,?_⟩;have J:=Vp q.fr q.pg q.pl;refine Ent.trans (B:=pt e (ae (Hy x j k l c i (.slice (some ⟨b,0,none⟩) (dm ws 8).length (dm ws 8).length) pb f o p) 98)::wG x i H I f (kH 6 (bB [pt j (qO true dS),pt k (qO true dS),pt l (qO true dS)])::pt f (cg ps n 0)::pt n (bM (fz c i c.nl.length (laid c i ws fr po).pg))::pt o wE::ie p []::pt b (ae ((dm ws 8).map wV) 62)::cz pb (ps,(laid c i ws fr po).po)::aH ps (laid c i ws fr po).fr::R)) inferInstance ?_;refine(Ent.cons (b6D J)).trans ?_;obtain⟨m,d⟩:∃m,jy c i ws fr po=m:=⟨_,Z⟩
 have K:(laid c i ws fr po).fr=m.fr:=by rw[<-d];rfl
 have L:fz c i c.nl.length (laid c i ws fr po).pg=m.pg:=by rw[<-d];rfl
 have M:(laid c i ws fr po).po=m.po:=by rw[<-d];rfl
 rw[d,K]
 try rw[L]
 try rw[M]
 exact Ent.trans (B:=pt e (bN ⟨x,j,k,l,f,ps,n,pb,o,p,.slice (some ⟨b,0,none⟩) (dm ws 8).length (dm ws 8).length,i,c⟩ g0)::Il x j k l i f ps n m.fr m.pg (pt o wE::ie p []::pt b (ae ((dm ws 8).map wV) 62)::cz pb (ps,m.po)::aH ps m.fr::R)) ent_refl inferInstance
def Fb(ls:List Li)(n:Nat)(on:Bool):List Li:=ls.set n ⟨(ls.getD n default).w,on,(ls.getD n default).p,(ls.getD n default).s,(ls.getD n default).hs⟩
def Vs(ls:List Li)(n:Nat)(p:Int):List Li:=ls.set n ⟨(ls.getD n default).w,(ls.getD n default).m,p,(ls.getD n default).s,(ls.getD n default).hs⟩
theorem VOk.mask(h:VOk ls now)(a:n<8):VOk (Fb ls n on) now:=h.set (Qan _) (h.le n a) λe=>.inr ⟨e,Z⟩
theorem VOk.prio(h:VOk ls now)(a:n<8):VOk (Vs ls n p) now:=h.set (Qan _) (h.le n a) λe=>.inr ⟨e,Z⟩
theorem b6I W0 R b ls now n on:
    bE Tryz.prog W0 323 [pV b,.int .i64 n,.bool on] (ew b (ls,now)::R) (λv B=>v=.int .i64 (if dR n then 0 else 1)/\B=ew b (if dR n then Fb ls n.toNat on else ls,now)::R):=by refine I7 λits h1 h2 h3=>?_;have hN:its.length≤8:=abf;by_cases hn:dR n=true;obtain⟨k,rfl,hk⟩:=MF hn;rw[Qad hn,Qad hn,Qae];refine cF (b5G b its ls now h3.len k hk aq h2 (I8 h1) on (ls.getD k default) Z) λv B hB=>?_;obtain⟨rfl,its',rfl,hp,hH⟩:=hB;exact⟨_,⟨Z,Z⟩,vv (hp.trans (((h1.filter _).append_right _).trans (I5 hk h3.len))) hH (h3.mask hk)⟩;rw[Qab hn,Qab hn];refine cF (b5F b its ls now h3.len n on abc) λv B hB=>?_;obtain⟨rfl,rfl⟩:=hB;exact qj
def um(n p:Int):Int:=if dR n=true/\0≤p/\p≤3 then 0 else 1
def Ax(ls:List Li)(n p:Int):List Li:=if dR n=true/\0≤p/\p≤3 then Vs ls n.toNat p else ls
theorem b6J W0 R b ls now n p:
    bE Tryz.prog W0 324 [pV b,.int .i64 n,.int .i64 p] (ew b (ls,now)::R) (λv B=>v=.int .i64 (um n p)/\B=ew b (Ax ls n p,now)::R):=by refine I7 λits h1 h2 h3=>?_;have hN:its.length≤8:=abf;by_cases hn:dR n=true;by_cases hp0:0≤p/\p≤3;rw[um,Ax,Qad ⟨hn,hp0⟩,Qad ⟨hn,hp0⟩];obtain⟨k,rfl,hk⟩:=MF hn;rw[Qae];refine cF (b5I b its ls now h3.len k hk aq h2 (I8 h1) p hp0 (ls.getD k default) Z) λv B hB=>?_;obtain⟨rfl,its',rfl,hp,hH⟩:=hB;exact⟨_,⟨Z,Z⟩,vv (hp.trans (((h1.filter _).append_right _).trans (I5 hk h3.len))) hH (h3.prio hk)⟩;rw[um,Ax,Qab (λq=>hp0 q.2),Qab (λq=>hp0 q.2)];refine cF (b5J b its ls now h3.len n p hn aq) λv B hB=>?_;obtain⟨rfl,rfl⟩:=hB;exact qj;rw[um,Ax,Qab (λq=>hn q.1),Qab (λq=>hn q.1)];refine cF (b5H b its ls now h3.len n p abc) λv B hB=>?_;obtain⟨rfl,rfl⟩:=hB;exact qj
end
section
open Go.RowKit
set_option synthInstance.maxSize 1000
set_option synthInstance.maxHeartbeats 400000
structure Cw where
  gb : Nat
  i : Nat
  n : Nat
  a : Nat
  b : Nat
  c : Nat
  d : Nat
  w : Int
  hb : Nat
  la : Option Addr
  ln : Nat
  lc : Nat
@[reducible] def cwV(q:Cw):List Value:=[pV q.gb,.int .i64 q.i,wV q.n,wV q.a,wV q.b,wV q.c,wV q.d,.int .i64 q.w,pV q.hb,.slice q.la q.ln q.lc]
abbrev cy(q:Cw):Obj:=ae (cwV q) 167
structure CwOk (q : Cw) : Prop where
  i : q.i < 4
  n : q.n < 4294967296
  a : q.a < 4294967296
  b : q.b < 4294967296
  c : q.c < 4294967296
  d : q.d < 4294967296
section
variable(W0:World)(R:List HP)(cb:Nat)(q:Cw)(z:Gz)(g:Gu)
theorem b6L:sQ W0 240 ([pV cb]++[]++[]) R (.tuple #[iQ 0,wV 0]) R:=by simp only[Qaq];refine am func240 ntmps240 ?_;exact aZ ax
theorem b6M:sQ W0 248 ([pV cb]++[]++[]) R (.tuple #[iQ 1,wV 0]) R:=by simp only[Qaq];refine am func248 ntmps248 ?_;exact aZ ax
theorem Vt(a:g.clock<1000000000):sQ W0 319 [pV cb] (pt cb (cy q)::pt q.gb (bN z g)::R) (iQ (fF g.clock)) (pt cb (cy q)::pt q.gb (bN z g)::R):=by refine am func319 ntmps319 ?_;refine ao (ar call12 (Vn W0 _ q.gb z g)) ?_;refine ac jt (ac (xD Z Z (show _=((fF g.clock:Nat):Int) by unfold fF;split<;>omega)) ?_);exact ki
theorem b6N(a:g.clock<1000000000):sQ W0 239 ([pV cb]++[]++[]) (pt cb (cy q)::pt q.gb (bN z g)::R) (.tuple #[iQ 0,wV (fF g.clock)]) (pt cb (cy q)::pt q.gb (bN z g)::R):=by
 simp only[Qaq];have b:fF g.clock<4294967296:=by unfold fF;omega
 refine am func239 ntmps239 ?_;refine ao (dj call319 (Vt W0 _ cb q z g a)) ?_;refine ac (cv (eh aq)) ?_;exact aZ ax
theorem b6O(c:CwOk q)(d:z.i<4)x(h:GMem z.i x)(e:0<x.po.length):sQ W0 241 ([pV cb]++[]++[]) (pt cb (cy q)::pt q.gb (bN z g)::cR z.x.m ⟨z.pv,z.ps,z.pm,g.bud,x.fr,x.pg⟩::cz z.pb (z.ps,x.po)::R) (.tuple #[iQ (wS z.i q.a x),wV 0]) (pt cb (cy q)::pt q.gb (bN z g)::cR z.x.m ⟨z.pv,z.ps,z.pm,g.bud,(lT z.i q.a x).fr,(lT z.i q.a x).pg⟩::cz z.pb (z.ps,(lT z.i q.a x).po)::R):=by simp only[Qaq];have f:=c.a;refine am func241 ntmps241 ?_;refine bH [cb] 15 λb=>?_;refine aj 0 9 b ?_;refine aE 9 b (dW fP aX Z Z (i:=0) Z cl dg) ?_;refine aj 10 1 b ?_;refine aE 11 b (cv (bS aq)) ?_;refine bQ 12 (dF call320 (b6A W0 _ q.gb z g d q.a x h e)) λb=>?_;refine aj 13 2 b ?_;exact aS (aZ ax)
theorem b6P(c:CwOk q)(d:z.i<4)x(h:GMem z.i x):sQ W0 242 ([pV cb]++[]++[]) (pt cb (cy q)::pt q.gb (bN z g)::cR z.x.m ⟨z.pv,z.ps,z.pm,g.bud,x.fr,x.pg⟩::cz z.pb (z.ps,x.po)::aH z.ps x.fr::R) (.tuple #[.int .i64 (wT q.a x),wV 0]) (pt cb (cy q)::pt q.gb (bN z g)::cR z.x.m ⟨z.pv,z.ps,z.pm,g.bud,(mh z.i q.a x).fr,(mh z.i q.a x).pg⟩::cz z.pb (z.ps,(mh z.i q.a x).po)::aH z.ps (mh z.i q.a x).fr::R):=by simp only[Qaq];have e:=c.a;refine jj 7 func242 ntmps242 ?_;refine dY [(cb,0,_)] 15 mixed Z (bj bI) (λb=>?_);refine aj 0 9 b ?_;refine cI 9 Z Z Z b (dW fP aX Z Z (i:=0) Z cl dg) ?_;refine aj 10 1 b ?_;refine cI 11 Z Z Z b (uK uC ez Z (bS aq)) ?_;refine iX 12 Z Z (gU call321 Z (b6B W0 _ q.gb z g d q.a x h)) (bj bI) λb=>?_;refine aj 13 2 b ?_;exact eY (au 2 (aZ ax))
theorem b6Q(d:CwOk q):bE Tryz.prog W0 244 ([pV cb]++[]++[]) (pt cb (cy q)::pt q.gb (bN z g)::ew z.x.v (g.ls,g.ln)::R)
    (λv B=>v=.tuple #[iQ (if dR q.a then 0 else 1),wV 0]/\B=pt cb (cy q)::pt q.gb (bN z g)::ew z.x.v (if dR q.a then Fb g.ls q.a (decide (q.b≠0))else g.ls,g.ln)::R):=by simp only[Qaq];have e:=d.a;refine iW func244 ntmps244 Z Z ?_;refine aG (aM (aa Z (aU Z) (aa Z (aU Z) (aI (aA (aG ?_))))));refine bH [cb] 23 λc=>?_;refine aj 0 5 c ?_;refine aj 6 4 c ?_;refine aE 10 c (dW fP aX Z Z (i:=0) Z cl dg) ?_;refine aj 11 1 c ?_;refine aE 12 c (cv (bS aq)) ?_;refine aj 13 4 c ?_;refine aE 17 c (dW fP aX Z Z (i:=1) Z cl dg) ?_;refine cI 18 Z Z Z c (bO jP Z (d6 (k:=0) Z Z)) ?_;refine cI 19 Z Z Z c (nI Z Z) ?_;refine bQ 5 (ar uE (t7 W0 _ q.gb z g)) λc=>?_;refine bQ 20 (ar call323 (b6I W0 _ z.x.v g.ls g.ln q.a _)) λc=>?_;refine aj 21 2 c ?_;refine aS (aZ ?_);rw[Qae,show((((q.b:Nat):Int) != 0)=decide (q.b≠0)) by rw[Qah];simp];exact ax
theorem b6R(d:CwOk q):bE Tryz.prog W0 245 ([pV cb]++[]++[]) (pt cb (cy q)::pt q.gb (bN z g)::ew z.x.v (g.ls,g.ln)::R)
    (λv B=>v=.tuple #[iQ (um q.a q.b),wV 0]/\B=pt cb (cy q)::pt q.gb (bN z g)::ew z.x.v (Ax g.ls q.a q.b,g.ln)::R):=by simp only[Qaq];have e:=d.a;have f:=d.b;refine am func245 ntmps245 ?_;refine bH [cb] 23 λc=>?_;refine aj 0 5 c ?_;refine aj 6 4 c ?_;refine aE 10 c (dW fP aX Z Z (i:=0) Z cl dg) ?_;refine aj 11 1 c ?_;refine aE 12 c (cv (bS aq)) ?_;refine aj 13 4 c ?_;refine aE 17 c (dW fP aX Z Z (i:=1) Z cl dg) ?_;refine aj 18 1 c ?_;refine aE 19 c (cv (bS aq)) ?_;refine bQ 5 (ar uE (t7 W0 _ q.gb z g)) λc=>?_;refine bQ 20 (ar call324 (b6J W0 _ z.x.v g.ls g.ln q.a q.b)) λc=>?_;refine aj 21 2 c ?_;exact aS (aZ ax)
theorem b6S(c:CwOk q)(d:g.ln<4000000000000000000):bE Tryz.prog W0 246 ([pV cb]++[]++[]) (pt cb (cy q)::pt q.gb (bN z g)::ew z.x.v (g.ls,g.ln)::R)
    (λv B=>v=.tuple #[iQ (if dR q.a then 0 else 1),wV 0]/\B=pt cb (cy q)::pt q.gb (bN z g)::ew z.x.v (if dR q.a then jb g.ls g.ln q.a else g.ls,if dR q.a then gz g.ls g.ln q.a else g.ln)::R):=by simp only[Qaq];have e:=c.a;refine am func246 ntmps246 ?_;refine bH [cb] 16 λb=>?_;refine aj 0 5 b ?_;refine aj 6 4 b ?_;refine aE 10 b (dW fP aX Z Z (i:=0) Z cl dg) ?_;refine aj 11 1 b ?_;refine aE 12 b (cv (bS aq)) ?_;refine bQ 5 (ar uE (t7 W0 _ q.gb z g)) λb=>?_;refine bQ 13 (ar vM (ui z.x.v g.ls g.ln q.a d)) λb=>?_;refine aj 14 2 b ?_;refine aS (aZ ?_);rw[Qae];exact ax
theorem b6T(c:CwOk q)(d:g.clock<1000000000)(e:g.tm.now<700):sQ W0 247 ([pV cb]++[]++[]) (pt cb (cy q)::pt q.gb (bN z g)::mQ z.x.t g.tm::R) (.tuple #[iQ (vx g.tm (fF g.clock+q.a:Nat)),wV (u32 (Cx g.tm (fF g.clock+q.a:Nat)))]) (pt cb (cy q)::pt q.gb (bN z g)::mQ z.x.t (yr g.tm (fF g.clock+q.a:Nat))::R):=by
 simp only[Qaq];have f:=c.a;have h:fF g.clock<1000000000:=by unfold fF;omega
 refine am func247 ntmps247 ?_;refine bH [cb] 22 λb=>?_;refine aj 0 5 b ?_;refine aj 6 1 b ?_;refine aj 8 4 b ?_;refine aE 12 b (dW fP aX Z Z (i:=0) Z cl dg) ?_;refine aj 13 1 b ?_;refine aE 14 b (cv (bS aq)) ?_;refine bQ 5 (ar call325 (b6z W0 _ q.gb z g)) λb=>?_;refine bQ 7 (dj call319 (Vt W0 _ cb q z g d)) λb=>?_;refine aE 15 b (eX (fF g.clock+q.a)) ?_;refine bQ 16 (ar call326 (b59 z.x.t g.tm ((fF g.clock+q.a:Nat):Int) e)) λb=>?_;refine aj 17 5 b ?_;refine aS (ac (cv (iK _)) ?_);exact aZ ax
end
end
section
open Go.RowKit
set_option synthInstance.maxSize 1000
set_option synthInstance.maxHeartbeats 400000
def oi(b:Nat)(l:List ByteArray):HP:=chk (λC=>∃a c,C=[pt b (ae [.slice a l.length c,.bool true] 314),osl 9 1 (.slice a l.length c) (iZ l)])
section
variable{W0:World}{N:FSz}{K:Act->World->Prop}{e:bK}{A B R R1 R2:List HP}{b n:Nat}{l:List ByteArray}
theorem MS[hk:Tk oi b A l R](h:∀a c,aC W0 N K e (pt b (ae [.slice a l.length c,.bool true] 314)::osl 9 1 (.slice a l.length c) (iZ l)::R)):aC W0 N K e A:=
  ix (r:=oi) (b:=b) (oz λC hC=>qr)
theorem CC{c:Nat}[d:Tk pt b A (ae [.slice a n c,.bool true] 314) R1][e:Tk (osl 9 1) (.slice a n c) R1 xs R2](f:n=l.length)(g:xs=iZ l)[k:Ent R2 B]:Ent A (oi b l::B):=by subst f;subst g;exact gk
theorem b6U:Ent (pt b wE::R) (oi b []::R):=
  (Ent.cons (eW (E:=9) (sz:=1) (A:=R) (B:=R))).trans (fT (R:=R) (C:=[_,_]) ⟨none,0,Z⟩)
end
theorem MU(b n c:Nat)(a:Option Addr):sQ W0 183 [pV b] (pt b (ae [.slice a n c,.bool true] 314)::R) (.bool false) (pt b (ae [.slice a n c,.bool true] 314)::R):=by refine am func183 ntmps183 ?_;apply d7 Z Z Z<;>intro d;cases d;exact aw (ag ax)
theorem b6V(b:Nat):sQ W0 236 [pV b] (oi b []::R) (.tuple #[sV ByteArray.empty,.bool false]) (oi b []::R):=by refine am func236 ntmps236 ?_;refine MS (b:=b) λa c=>?_;refine aw (cW 1 (ar YF (MU b _ c a)) ?_);apply d7 Z Z Z<;>intro d;exact absurd d cl;refine aw (ap (λe=>?_) λe=>?_);exact aZ ⟨_,⟨Z,Z⟩,CC Z Z⟩;exact absurd Z e
theorem b6W(b:Nat)(s:ByteArray)(d:List ByteArray)(q:d.length<900):sQ W0 236 [pV b] (oi b (s::d)::R) (.tuple #[sV s,.bool true]) (oi b d::R):=by have o:(s::d).length=d.length+1:=Z;refine am func236 ntmps236 ?_;refine MS (b:=b) λa c=>?_;refine aw (cW 1 (ar YF (MU b _ c a)) ?_);apply d7 Z Z Z<;>intro e;exact absurd e cl;refine aw (aB Z (λp=>?_) λp=>?_);omega;refine aw (jV (E:=9) (sz:=1) (a:=a) (n:=(s::d).length) (c:=c) (λs=>[sV s]) (s::d) (λ_=>Z) cl (Ed _) (λl=>?_));refine qZ (E:=9) (sz:=1) (a:=a) (c:=c) (n:=(s::d).length) (λm=>?_);obtain⟨r,t,rfl,g⟩:=l.at_ (i:=0) n4;rw[show(s::d)[0]' n4=s from Z]at g;refine aw (ac (kP tu tt Z Z (j:=0) Z aq dg) ?_);refine ac (aY (bF.weak g 0 _ Z)) ?_;refine ac (qm tu tt Z (i:=1) Z Z aq Z) ?_;refine aF Z (aK Y4 (KX d _ ((s::d).length-1) (c-1) (by omega) (by omega) (by have f:=l.sub (c:=c) (i:=1) (k:=d.length) (by omega) (by omega);rw[show((s::d).drop 1).take d.length=d by simp]at f;exact f))) ?_;rintro _ u ⟨v,w,rfl,h⟩;subst h;exact aw (aJ dr (aZ ⟨_,⟨Z,Z⟩,CC n4 Z⟩))
end
section
open Go.RowKit
set_option synthInstance.maxSize 1000
set_option synthInstance.maxHeartbeats 400000
structure Rls where
  s : ByteArray
  l : Int
  f : Int
@[reducible] def lv(x:Rls):List Value:=[sV x.s,.int .i64 x.l,.int .i64 x.f]
structure Gt where
  l : List Rls
  fm : Int
  fn : Int
  us : Int
  cats : Int
  who : Int
  quota : Int
@[reducible] def wU(x:Gt)(a:Option Addr)(n c:Nat):List Value:=[.slice a n c,.int .i64 x.fm,.int .i64 x.fn,.int .i64 x.us,.int .i64 x.cats,.int .i64 x.who,.int .i64 x.quota,.bool true]
def jO(b:Nat)(x:Gt):HP:=chk (λC=>∃a c,C=[pt b (ae (wU x a x.l.length c) 190),osl 155 3 (.slice a x.l.length c) (x.l.flatMap lv)])
section
variable{W0:World}{N:FSz}{K:Act->World->Prop}{e:bK}{A B R R1 R2:List HP}{b n:Nat}{x:Gt}
theorem Iu[hk:Tk jO b A x R](h:∀a c,aC W0 N K e (pt b (ae (wU x a x.l.length c) 190)::osl 155 3 (.slice a x.l.length c) (x.l.flatMap lv)::R)):aC W0 N K e A:=
  ix (r:=jO) (b:=b) (oz λC hC=>qr)
theorem CE{c:Nat}[d:Tk pt b A (ae (wU x a n c) 190) R1][e:Tk (osl 155 3) (.slice a n c) R1 xs R2](f:n=x.l.length)(g:xs=x.l.flatMap lv)[k:Ent R2 B]:Ent A (jO b x::B):=by subst f;subst g;exact gk
theorem b6X{c a:Int}:Ent (pt b (Ez c who a)::R) (jO b ⟨[],0,0,0,c,who,a⟩::R):=
  (Ent.cons (eW (E:=155) (sz:=3) (A:=R) (B:=R))).trans (fT (R:=R) (C:=[_,_]) ⟨none,0,Z⟩)
end
section
variable(W0:World)(R:List HP)(b n c:Nat)(a:Option Addr)(x:Gt)
theorem Vu:sQ W0 92 [pV b] (pt b (ae (wU x a n c) 190)::R) (.bool false) (pt b (ae (wU x a n c) 190)::R):=by refine am func92 ntmps92 ?_;apply d7 Z Z Z<;>intro d;cases d;exact aw (ag ax)
def mi(x:Gt)(i l:Int)(k:Nat):Int:=if x.who= -1\/i≠x.who then 4 else if jH l x.cats=false then 1 else if k<1\/16<k then 10 else if x.quota-x.us<(k:Int)then 9 else 0
theorem b6Y(q:0≤x.us/\x.us≤1000/\0≤x.quota/\x.quota≤64)i l s(r:s.size<1000):sQ W0 314 [pV b,iQ i,iQ l,sV s] (pt b (ae (wU x a n c) 190)::R) (iQ (mi x i l s.size)) (pt b (ae (wU x a n c) 190)::R):=by
 obtain⟨f,d⟩:∃v,jH l x.cats=v:=⟨_,Z⟩
 have g:mi x i l s.size=if x.who= -1\/i≠x.who then 4 else if f=false then 1 else if s.size<1\/16<s.size then 10 else if x.quota-x.us<(s.size:Int)then 9 else 0:=by rw[mi,d]
 rw[g];refine am func314 ntmps314 ?_;apply ap<;>intro h
 · refine ag (aP (Qak (Value.int .i64) ?_))
   exact bf
 apply ap<;>intro j
 · refine ag (aP (Qak (Value.int .i64) ?_))
   exact bf
 refine ao (aK On (GF l x.cats)) ?_;rw[d];apply ap<;>intro k
 · refine ag (aP (Qak (Value.int .i64) ?_))
   exact bf
 refine ac (pZ mr Z) ?_;apply ap<;>intro m
 · refine ag (aP (Qak (Value.int .i64) ?_))
   exact bf
 refine ac (pZ mr Z) ?_;apply ap<;>intro o
 · refine ag (aP (Qak (Value.int .i64) ?_))
   exact bf
 refine bH [b] 14 λe=>?_;refine aj 0 1 e ?_;refine aE 1 e (pZ mr Z) ?_;refine aj 2 9 e ?_;refine aE 11 e jt ?_;refine aj 12 2 e ?_;refine aS (ap (λp=>?_) λp=>?_)
 · refine ag (aP (Qak (Value.int .i64) ?_))
   exact bf
 refine ag (aP (Qak (Value.int .i64) ?_));exact bf
end
abbrev CF(x:Gt)(s:ByteArray)(l:Int):Gt:={ x with l:=x.l++[⟨s,l,x.fn⟩],us:=x.us+s.size }
theorem b6Z(b:Nat)(x:Gt)(i:x.l.length<100000)(j:0≤x.us/\x.us≤1000)(l:Int)(s:ByteArray)(k:s.size<1000):sQ W0 315 [pV b,sV s,iQ l] (jO b x::R) (.tuple #[]) (jO b (CF x s l)::R):=by
 have e:x.l.flatMap lv++[lv (⟨s,l,x.fn⟩:Rls)].flatten=(x.l++[(⟨s,l,x.fn⟩:Rls)]).flatMap lv:=n4;refine iW func315 ntmps315 Z Z ?_;refine aG (Iu (b:=b) λa c=>?_);refine bH [] 17 λd=>?_;refine aj 0 4 d ?_;refine aj 5 5 d ?_;refine fp (is:=[4,10]) ld Z ⟨?_,?_,trivial⟩;refine dB (dJ (aY (aO Z))) ?_;clear d;rintro _ _ ⟨rfl,rfl⟩;refine⟨aW,λd=>?_⟩;refine bQ 10 (dJ (aY (aO Z))) λd=>?_;refine cI 11 Z Z Z d (eH Xz FU (aT tt (aT bu (aT bu eG))) (cJ Z tt Z Z (Qaa Z) SetL.eq (cJ Z bu Z Z (Qaa Z) SetL.eq (cJ Z bu Z Z (Qaa Z) SetL.eq eE)))) ?_;refine iw 12 ld Z Z (ji uB CX FU Z (fK Z Z iH) Z cl cl cl) Z ?_;clear d;rintro _ _ ⟨f,rfl,rfl⟩;refine⟨aW,λd=>?_⟩;refine co 13 (fR (sz:=3) (by_:=32) (info:=Tryz.t155) uB ld Z Z Z Z cl Z Z eQ Z Z n5 aq) ?_;clear d;rintro _ _ ⟨g,h,rfl,rfl⟩;refine⟨aW,λd=>?_⟩;refine aj 14 2 d ?_;refine cp 16 dr λd=>?_;refine eY (aA (aM (aa Z (aV Z) (aa Z (fJ Z) ?_))));refine aa Z (bT Z Je Z bu Z dg) ?_;refine aa Z (bO cM Z (aO Z)) ?_;refine aa Z (aV Z) (aa Z (pZ mr Z) ?_);refine aa Z (dI Z Z (bS aq)) ?_;refine aa Z (fJ Z) ?_;refine aa Z (bT Z Je Z bu Z dg) ?_;refine eM (iG bu Z Z Z (Qaa Z) SetL.eq) ?_;rintro _ _ rfl;refine aI (bP (.inr Z) .nil ?_);exact⟨_,⟨Z,Z⟩,CE (x:=CF x s l) n4 e⟩;skip;refine dB (dJ (aY (aO Z))) ?_;clear d;rintro _ _ ⟨rfl,rfl⟩;refine⟨aW,λd=>?_⟩;refine cI 11 Z Z Z d (eH Xz FU (aT tt (aT bu (aT bu eG))) (cJ Z tt Z Z (Qaa Z) SetL.eq (cJ Z bu Z Z (Qaa Z) SetL.eq (cJ Z bu Z Z (Qaa Z) SetL.eq eE)))) ?_;refine fp (is:=[4,12]) ld Z ⟨?_,?_,trivial⟩;refine dB (dJ (aY (aO Z))) ?_;clear d;rintro _ _ ⟨rfl,rfl⟩;refine⟨aW,λd=>?_⟩;refine iw 12 ld Z Z (ji uB CX FU Z (fK Z Z iH) Z cl cl cl) Z ?_;clear d;rintro _ _ ⟨f,rfl,rfl⟩;refine⟨aW,λd=>?_⟩;refine co 13 (fR (sz:=3) (by_:=32) (info:=Tryz.t155) uB ld Z Z Z Z cl Z Z eQ Z Z n5 aq) ?_;clear d;rintro _ _ ⟨g,h,rfl,rfl⟩;refine⟨aW,λd=>?_⟩;refine aj 14 2 d ?_;refine cp 16 dr λd=>?_;refine eY (aA (aM (aa Z (aV Z) (aa Z (fJ Z) ?_))));refine aa Z (bT Z Je Z bu Z dg) ?_;refine aa Z (bO cM Z (aO Z)) ?_;refine aa Z (aV Z) (aa Z (pZ mr Z) ?_);refine aa Z (dI Z Z (bS aq)) ?_;refine aa Z (fJ Z) ?_;refine aa Z (bT Z Je Z bu Z dg) ?_;refine eM (iG bu Z Z Z (Qaa Z) SetL.eq) ?_;rintro _ _ rfl;refine aI (bP (.inr Z) .nil ?_);exact⟨_,⟨Z,Z⟩,CE (x:=CF x s l) n4 e⟩;skip;refine lH Z Z (ji uB CX FU Z (fK Z Z iH) Z cl cl cl) Z ?_;clear d;rintro _ _ ⟨f,rfl,rfl⟩;refine⟨aW,λd=>?_⟩;refine bQ 4 (dJ (aY (aO Z))) λd=>?_;refine co 13 (fR (sz:=3) (by_:=32) (info:=Tryz.t155) uB ld Z Z Z Z cl Z Z eQ Z Z n5 aq) ?_;clear d;rintro _ _ ⟨g,h,rfl,rfl⟩;refine⟨aW,λd=>?_⟩;refine aj 14 2 d ?_
 refine cp 16 dr λd=>?_;refine aS (ac (pZ mr Z) ?_);refine ac cK (aJ dr (bP (.inr Z) .nil ?_));exact⟨_,⟨Z,Z⟩,CE (x:=CF x s l) n4 e⟩
def nr(x:Gt)(i l:Int)(s:ByteArray):Gt:=if mi x i l s.size=0 then CF x s l else x
theorem b60(b:Nat)(x:Gt)(hN:x.l.length<100000)(hu:0≤x.us/\x.us≤1000/\0≤x.quota/\x.quota≤64)(i l:Int)(s:ByteArray)(hs:s.size<1000):sQ W0 234 [pV b,iQ i,iQ l,sV s] (jO b x::R) (iQ (mi x i l s.size)) (jO b (nr x i l s)::R):=by
 refine am func234 ntmps234 ?_;refine Iu (b:=b) λa c=>?_;refine aw (ao (ar call92 (Vu W0 _ b _ c a x)) ?_);refine ao (ar call314 (b6Y W0 _ b _ c a x hu i l s hs)) ?_;refine gK (B:=jO b x::R) (CE Z Z) ?_;refine aw (ap (λc4=>?_) λc4=>?_);have hT:nr x i l s=CF x s l:=by rw[nr,Qad sm]
 refine ao (ar call315 (b6Z b x hN aq l s hs)) ?_;refine ag ?_;rw[hT];exact ax;have hT:nr x i l s=x:=by rw[nr,Qab sm]
 refine ag ?_;rw[hT];exact ax
end
section
open Go.RowKit
set_option synthInstance.maxSize 1000
set_option synthInstance.maxHeartbeats 400000
def t8(z:Gz):Nat->Nat
 |0=>z.q0
 |1=>z.q1
 |_=>z.q2
theorem b61{z g d}(a:d<3):(lu z g)[3+d*1]?=some (pV (t8 z d)):=by have:d=0\/d=1\/d=2:=aq;rcases this with rfl|rfl|rfl<;>rfl
theorem b62{z g k}(a:k<4):(lu z g)[9+k*1]?=some (wV (cn g.rd k)):=by have:k=0\/k=1\/k=2\/k=3:=aq;exact s0
abbrev CG(g:Gu)(k w:Nat):Gu:={ g with rd:=g.rd.set k w }
theorem b63{z g k w}(i:k<4)(f:g.rd.length=4):(lu z g).set (9+k*1) (wV w)=lu z (CG g k w):=by
 obtain⟨a,b,c,d,h⟩:∃a b c d,g.rd=[a,b,c,d]:=by
  match e:g.rd,f with
  |[a,b,c,d],_=>exact⟨a,b,c,d,Z⟩
 have:k=0\/k=1\/k=2\/k=3:=aq;rcases this with rfl|rfl|rfl|rfl<;>(unfold lu;rw[show(CG g _ w).rd=g.rd.set _ w from Z,h];rfl)
section
variable(W0:World)(R:List HP)(gb:Nat)(z:Gz)(g:Gu)
theorem Ay(d:Nat)(c:d<3):sQ W0 124 [pV gb,iQ d] (pt gb (bN z g)::R) (pV (t8 z d)) (pt gb (bN z g)::R):=by refine am func124 ntmps124 ?_;refine cW 1 (ar qR (pP W0 _ gb z g)) ?_;apply d7 Z Z Z<;>intro a;exact absurd a cl;refine aw (d7 Z Z Z (λb=>?_) λb=>?_);omega;refine aw (aB Z (λe=>?_) λe=>?_);omega;refine aw (ac (dW c2k Xu Z Z (i:=d) Z c dg) ?_);refine ac (aY (aO (b61 c))) ?_;exact ki
theorem Vv k:sQ W0 311 [iQ k] R (.bool (decide (0≤k/\k<4))) R:=by refine am func311 ntmps311 ?_;apply e9<;>intro a;rw[show decide (0≤k/\k<4)=decide (k<4) by apply QaY.2;omega];exact ki;rw[show decide (0≤k/\k<4)=false by apply Qat;omega];exact ki
theorem Iv(k:Nat)(b:k<4):sQ W0 231 [pV gb,iQ k] (pt gb (bN z g)::R) (wV (cn g.rd k)) (pt gb (bN z g)::R):=by refine am func231 ntmps231 ?_;refine cW 1 (ar qR (pP W0 _ gb z g)) ?_;apply d7 Z Z Z<;>intro a;exact absurd a cl;refine aw (eS (aK call311 (Vv W0 _ k)) ?_);rw[Qav (show 0≤(k:Int)/\(k:Int)<4 by omega)];refine au 5 (et (aa Z (dW fP aX Z Z (i:=k) Z b dg) ?_));refine ac (aY (aO (b62 b))) ?_;exact ki
theorem MV(b:g.rd.length=4)(k w:Nat)(a:k<4):sQ W0 232 [pV gb,iQ k,wV w] (pt gb (bN z g)::R) (iQ 0) (pt gb (bN z (CG g k w))::R):=by refine am func232 ntmps232 ?_;refine ao (ar qR (pP W0 _ gb z g)) ?_;refine eS (aK call311 (Vv W0 _ k)) ?_;rw[Qav (show 0≤(k:Int)/\(k:Int)<4 by omega)];refine au 4 (et (aa Z (dW fP aX Z Z (i:=k) Z a dg) ?_));refine aJ (fg (by simp[lu,dU];omega) (b63 a b)) ?_;exact ki
end
end
section
open Go.RowKit
set_option synthInstance.maxSize 1000
set_option synthInstance.maxHeartbeats 400000
theorem b64(b c f g d:Nat)(e:List az)(a:List Pl)(h:Pgs a)(s:QS)(r:Rg3)(j:r.ok)(k:u7 e.length a r=false):sQ W0 322 [pQ b,pQ c,.agg (xH r).toArray] (pt b (qO true s)::df c f g d e a R) (iQ 1) (pt b (qO true s)::df c f g d e a R):=by refine am func322 ntmps322 ?_;refine bR λl=>?_;refine cW 3 (ar B8 (xW b true s)) ?_;refine et (eS (dF call384 (Sf c f g d e a h r j)) ?_);rw[k];refine aw (ap (λi=>?_) λi=>?_);exact ki;exact absurd cl i
def wW(n:Nat)(pg:List Pl)(r:Rg3):Int:=if u7 n pg r then 0 else 1
def pS(n:Nat)(pg:List Pl)(r:Rg3)(s:QS):QS:=if u7 n pg r then⟨r,true,0,0,0⟩else s
theorem b65(l c e h i:Nat)(a:List az)(f:List Pl)(b:Nat)(s:QS)(r:Rg3)(u:r.ok):sQ W0 322 [pV b,pV c,.agg (xH r).toArray] (pt b (qO true s)::cR l ⟨c,e,h,i,a,f⟩::aH e a::R) (iQ (wW a.length f r)) (pt b (qO true (pS a.length f r s))::cR l ⟨c,e,h,i,a,f⟩::aH e a::R):=by
 refine eR (List.Perm.swap _ _ _) (rN λm n j T L k d w x y p=>?_);refine ig (B:=pt b (qO true s)::df c e h d a f (pt l (cX c m n)::bC m (j,dt 4 k)::cj n L::R)) inferInstance ?_;have g:∀q,Ent (pt b (qO true q)::df c e h d a f (pt l (cX c m n)::bC m (j,dt 4 k)::cj n L::R)) (pt b (qO true q)::cR l ⟨c,e,h,i,a,f⟩::aH e a::R):=λq=>
  Ent.cons (Ent.trans (B:=pt l (cX c m n)::bC m (j,dt 4 k)::cj n L::pt c (cg e h d)::pt h (bM f)::aH e a::R) inferInstance (p8 w x y p))
 cases o:u7 a.length f r with
 |true=>
  rw[wW,pS,o];refine cF (b0s b c e h d a f p.P s r u o) λv B t=>?_;obtain⟨rfl,rfl⟩:=t;exact⟨_,⟨Z,Z⟩,g _⟩
 |false=>
  rw[wW,pS,o];refine cF (b64 b c e h d a f p.P s r u o) λv B t=>?_;obtain⟨rfl,rfl⟩:=t;exact⟨_,⟨Z,Z⟩,g _⟩
end
section
open Go.RowKit
structure Touch (pg : List Pl) (fr : List az) (d : Nat) (fr' : List az) (d' : Nat) : Prop where
  F : bD fr'
  l : fr'.length = fr.length
  dl : d' < 4096
  k : ∀ t : Nat, Nat.testBit d' t = false → Nat.testBit d t = false
  s : ∀ t : Nat, Nat.testBit d' t = false → bG pg t = true → fr'.getD (cB pg t).1.toNat [] = fr.getD (cB pg t).1.toNat []
  n : ∀ f : Nat, (∀ t, bG pg t = true → (cB pg t).1 ≠ (f : Int)) → fr'.getD f [] = fr.getD f []
theorem Touch.rfl'(a:bD fr)(b:d<4096):Touch pg fr d fr d:=⟨a,Z,b,λ_ h=>h,λ_ _ _=>Z,λ_ _=>Z⟩
theorem Touch.trans{f1 f2 f3 d1 d2 d3}(a:Touch pg f1 d1 f2 d2)(b:Touch pg f2 d2 f3 d3):Touch pg f1 d1 f3 d3:=
  ⟨b.F,b.l.trans a.l,b.dl,λt h=>a.k t (b.k t h),λt h c=>(b.s t h c).trans (a.s t (b.k t h) c),λf h=>(b.n f h).trans (a.n f h)⟩
theorem Touch.ok{c:List az}{e:Nat}{L:List Ln}{T:List It}(a:Touch pg fr d c e)(h:MOk fr pg d L T):MOk c pg e L T:=by
 refine⟨a.F,a.dl,h.P,by rw[a.l];exact h.pl,h.ti,λx g=>?_⟩;have b:=h.ln x g;refine b.move b.at_.1 Z λt i f=>⟨a.k _ f,λq=>HU a.l Z Z λ_ o m=>?_⟩
 have j:=b.own;obtain⟨k,rfl⟩:∃k:Nat,t=(k:Int):=⟨t.toNat,by rcases i with rfl|rfl<;>omega⟩
 have:=a.s k f q;unfold gW;rw[a.l,this]
theorem b66{pg fr d}(i:Pgs pg)(j:PlOk fr.length pg)(k:bD fr)(l:d<4096){p:Nat}(a:p<12)(b:bG pg p=true)o w x:Touch pg fr d (jn fr (cB pg p).1 o w x) (d|||2^p):=by
 have r:=Aq i b;obtain⟨f,c⟩:∃f:Nat,(cB pg p).1=(f:Int):=⟨(cB pg p).1.toNat,aq⟩
 refine⟨vd k,tP,Qcv (n:=12) l (Nat.pow_lt_pow_right cl a),λt h=>(I0 h).1,λt h q=>?_,λs h=>?_⟩;have g:=(I0 h).2;rw[c];refine MM λe=>g ?_;have m:=Aq i q;have:=j.inj t p q b aq;omega;rw[c];refine MM λe=>h p b ?_;rw[c,e]
theorem MW{pg fr d}(g:Pgs pg)(h:PlOk fr.length pg)(e:bD fr)(f:d<4096){pa bs}:Touch pg fr d (kU fr pg pa bs) (oJ fr pg pa d bs.length):=by
 unfold kU oJ;split
 rename_i b
 obtain⟨m,b⟩:=xT.1 b;have c:∀k,k≤bs.length->Touch pg fr d (zR fr pg pa bs k) (C0 d pa k):=λk=>by
  induction k with
  |zero=>intro _;exact Touch.rfl' e f
  |succ k i=>
   intro j;have a:=i aq;refine a.trans ?_;exact b66 g (by rw[a.l];exact h) a.F a.dl (p:=(pa+k)/64) aq (by have q:=b k aq;simp only[rB,Qam]at q;exact q.1.1) _ _ _
 exact c _ (Qai _);exact Touch.rfl' e f
section
variable(W0:World)(R:List HP)(bm pv ps pm bud:Nat)(fr:List az)(pg:List Pl)
theorem MX(c:Nat)(g:c<4294967296)n:bE Tryz.prog W0 235 [pV pv,.int .u32 c,.int .i64 n] (cR bm ⟨pv,ps,pm,bud,fr,pg⟩::aH ps fr::R) (λv B=>v=.bool (d9 fr.length pg c n)/\B=cR bm ⟨pv,ps,pm,bud,fr,pg⟩::aH ps fr::R):=by refine rN λe f a T L b d i j k h=>?_;refine ig (B:=pt pv (cg ps pm d)::aH ps fr::pt pm (bM pg)::pt bm (cX pv e f)::bC e (a,dt 4 b)::cj f L::R) inferInstance ?_;refine cF (xU pv ps pm d fr pg h.P c g n) λv B l=>?_;obtain⟨rfl,rfl⟩:=l;exact⟨_,⟨Z,Z⟩,Ent.trans (B:=pt bm (cX pv e f)::bC e (a,dt 4 b)::cj f L::pt pv (cg ps pm d)::pt pm (bM pg)::aH ps fr::R) inferInstance (p8 i j k h)⟩
theorem Vw(b:Nat)(i:b<4294967296)n:bE Tryz.prog W0 233 [pV pv,.int .u32 b,.int .i64 n] (cR bm ⟨pv,ps,pm,bud,fr,pg⟩::aH ps fr::R)
    (λv B=>∃a c,v=.tuple #[.slice a (jX fr pg b n).length c,.bool (d9 fr.length pg b n)]/\B=osl 5 1 (.slice a (jX fr pg b n).length c) (bW (jX fr pg b n))::cR bm ⟨pv,ps,pm,bud,fr,pg⟩::aH ps fr::R):=by refine rN λg h e T L f d k l m j=>?_;refine ig (B:=pt pv (cg ps pm d)::aH ps fr::pt pm (bM pg)::pt bm (cX pv g h)::bC g (e,dt 4 f)::cj h L::R) inferInstance ?_;refine cF (El pv ps pm d fr pg j.P j.F b i n) λv B o=>?_;obtain⟨a,c,rfl,rfl⟩:=o;exact⟨_,⟨a,c,Z,Z⟩,Ent.cons (Ent.trans (B:=pt bm (cX pv g h)::bC g (e,dt 4 f)::cj h L::pt pv (cg ps pm d)::pt pm (bM pg)::aH ps fr::R) inferInstance (p8 k l m j))⟩
theorem Vx(e:Nat)(k:e<4294967296)a c bs(l:By bs)(m:∀A,Ent A R->bZ (aQ W0 A) a 1 (λx=>[bV x]) bs)(g:bs.length<9223372036854775808):bE Tryz.prog W0 237 [pV pv,.int .u32 e,.slice a bs.length c] (cR bm ⟨pv,ps,pm,bud,fr,pg⟩::aH ps fr::R)
    (λv B=>v=.bool (d9 fr.length pg e bs.length)/\B=cR bm ⟨pv,ps,pm,bud,kU fr pg e bs,pg⟩::aH ps (kU fr pg e bs)::R):=by refine rN λj b h T L i d n o p f=>?_;refine ig (B:=pt pv (cg ps pm d)::aH ps fr::pt pm (bM pg)::pt bm (cX pv j b)::bC j (h,dt 4 i)::cj b L::R) inferInstance ?_;refine cF (RG pv ps pm d c a fr pg f.P f.F f.dl e k bs l (m _ inferInstance) g) λv B q=>?_;obtain⟨rfl,rfl⟩:=q;exact⟨_,⟨Z,Z⟩,Ent.trans (B:=pt bm (cX pv j b)::bC j (h,dt 4 i)::cj b L::pt pv (cg ps pm (oJ fr pg e d bs.length))::pt pm (bM pg)::aH ps (kU fr pg e bs)::R) inferInstance (p8 n o p ((MW f.P f.pl f.F f.dl).ok f))⟩
end
end
section
open Go.RowKit
set_option synthInstance.maxSize 1000
set_option synthInstance.maxHeartbeats 400000
abbrev Vy(q:Cw)(w:Int):Cw:={ q with w:=w }
theorem b67(d:Nat)(q:Cw)(z:Gz)(g:Gu)(j:CwOk q)(c:List az)(e:List Pl)(k:d9 c.length e q.a 16=false):sQ W0 146 ([pV d]++[]++[]) (pt d (cy q)::pt q.gb (bN z g)::cR z.x.m ⟨z.pv,z.ps,z.pm,g.bud,c,e⟩::aH z.ps c::R) (.tuple #[iQ 1,wV 0]) (pt d (cy q)::pt q.gb (bN z g)::cR z.x.m ⟨z.pv,z.ps,z.pm,g.bud,c,e⟩::aH z.ps c::R):=by simp only[Qaq];have l:=j.a;refine am YG ntmps146 ?_;refine bH [d] 14 λb=>?_;refine aj 0 5 b ?_;refine aj 6 4 b ?_;refine aE 10 b (dW fP aX Z Z (i:=0) Z cl dg) ?_;refine aj 11 1 b ?_;refine bQ 5 (ar tA (rP W0 _ q.gb z g)) λb=>?_;refine co 12 (dj xn (MX W0 _ z.x.m z.pv z.ps z.pm g.bud c e q.a l 16)) ?_;clear b;rintro _ n ⟨rfl,f⟩;subst f;rw[k];refine⟨aW,λb=>?_⟩;refine aj 13 1 b ?_;refine eY (aw (ap (λh=>?_) λh=>?_));exact aZ ax;exact absurd cl h
theorem b68(d:Nat)(q:Cw)(z:Gz)(g:Gu)(j:CwOk q)(c:List az)(e:List Pl)(k:d9 c.length e q.a 16=true):sQ W0 146 ([pV d]++[]++[]) (pt d (cy q)::pt q.gb (bN z g)::cR z.x.m ⟨z.pv,z.ps,z.pm,g.bud,c,e⟩::aH z.ps c::oi z.bx []::R) (.tuple #[iQ 3,wV 0]) (pt d (cy q)::pt q.gb (bN z g)::cR z.x.m ⟨z.pv,z.ps,z.pm,g.bud,c,e⟩::aH z.ps c::oi z.bx []::R):=by simp only[Qaq];have l:=j.a;refine am YG ntmps146 ?_;refine bH [d] 14 λb=>?_;refine aj 0 5 b ?_;refine aj 6 4 b ?_;refine aE 10 b (dW fP aX Z Z (i:=0) Z cl dg) ?_;refine aj 11 1 b ?_;refine bQ 5 (ar tA (rP W0 _ q.gb z g)) λb=>?_;refine co 12 (dj xn (MX W0 _ z.x.m z.pv z.ps z.pm g.bud c e q.a l 16)) ?_;clear b;rintro _ n ⟨rfl,f⟩;subst f;rw[k];refine⟨aW,λb=>?_⟩;refine aj 13 1 b ?_;refine eY (au 1 (et (eS (ar YH (MO W0 _ q.gb z g)) ?_)));refine cW 14 (ar call236 (b6V z.bx)) ?_;apply ap<;>intro h;exact aZ ax;exact absurd cl h
theorem b69(o:Nat)(q:Cw)(z:Gz)(g:Gu)(w:CwOk q)(f:List az)(h:List Pl)(s:ByteArray)(l:List ByteArray)(y:l.length<900)(D:s.size≤16)(B:d9 f.length h q.a 16=true):sQ W0 146 ([pV o]++[]++[]) (pt o (cy q)::pt q.gb (bN z g)::cR z.x.m ⟨z.pv,z.ps,z.pm,g.bud,f,h⟩::aH z.ps f::oi z.bx (s::l)::R) (.tuple #[iQ 0,wV s.size]) (pt o (cy (Vy q s.size))::pt q.gb (bN z g)::cR z.x.m ⟨z.pv,z.ps,z.pm,g.bud,kU f h q.a (bL s),h⟩::aH z.ps (kU f h q.a (bL s))::oi z.bx l::R):=by simp only[Qaq];have p:=w.a;have e:=Es s;refine am YG ntmps146 ?_;refine bH [o] 14 λc=>?_;refine aj 0 5 c ?_;refine aj 6 4 c ?_;refine aE 10 c (dW fP aX Z Z (i:=0) Z cl dg) ?_;refine aj 11 1 c ?_;refine bQ 5 (ar tA (rP W0 _ q.gb z g)) λc=>?_;refine co 12 (dj xn (MX W0 _ z.x.m z.pv z.ps z.pm g.bud f h q.a p 16)) ?_;clear c;rintro _ r ⟨rfl,d⟩;subst d;rw[B];refine⟨aW,λc=>?_⟩;refine aj 13 1 c ?_;refine eY (au 1 (et (eS (ar YH (MO W0 _ q.gb z g)) ?_)));refine cW 14 (ar call236 (b6W z.bx s l y)) ?_;refine et (bH [o] 15 λc=>?_);refine aj 0 5 c ?_;refine aj 6 4 c ?_;refine aE 10 c (dW fP aX Z Z (i:=0) Z cl dg) ?_;refine aj 11 2 c ?_;refine fp (is:=[5,13]) ld Z ⟨?_,?_,trivial⟩;refine dB (ar tA (rP W0 _ q.gb z g)) ?_;clear c;rintro _ r ⟨rfl,d⟩;subst d;refine⟨aW,λc=>?_⟩;refine co 13 (Ly mr jf AS Z) ?_;clear c;rintro _ r ⟨b,t,u,C,rfl,j,n,d⟩;subst d;rw[<-e]at j ⊢;refine⟨aW,λc=>?_⟩;refine bQ 14 (dj OC (Vx W0 _ z.x.m z.pv z.ps z.pm g.bud f h q.a p (some ⟨b,0,none⟩) t (bL s) (Lx s) (by intro A v;exact bZ.weak (k:=v) (Eu (Lw n))) aq)) λc=>?_;refine aS (ac (pZ mr Z) ?_);refine aJ dr (ac (pZ mr Z) ?_);refine ac (cv (eh aq)) ?_;refine aZ ?_;rw[e];exact ax;skip;refine dB (Ly mr jf AS Z) ?_;clear c;rintro _ r ⟨b,t,u,C,rfl,j,n,d⟩;subst d;rw[<-e]at j ⊢;refine⟨aW,λc=>?_⟩;refine bQ 5 (ar tA (rP W0 _ q.gb z g)) λc=>?_;refine bQ 14 (dj OC (Vx W0 _ z.x.m z.pv z.ps z.pm g.bud f h q.a p (some ⟨b,0,none⟩) t (bL s) (Lx s) (by intro A v;exact bZ.weak (k:=v) (Eu (Lw n))) aq)) λc=>?_;refine aS (ac (pZ mr Z) ?_);refine aJ dr (ac (pZ mr Z) ?_);refine ac (cv (eh aq)) ?_;refine aZ ?_;rw[e];exact ax
end
section
open Go.RowKit
set_option synthInstance.maxSize 1000
set_option synthInstance.maxHeartbeats 400000
abbrev cY(c:Cfg)(ps pb db qb gb:Nat):Obj:=ae (A9 c ps pb db qb gb) 133
def oj(c:Cfg)(q:Cw)(fr:List az)(pg:List Pl):Int:=if (q.i:Int)≠c.gate then 4 else if q.c<1\/16<q.c then 10 else if d9 fr.length pg q.b q.c=false then 1 else 0
theorem b7a(h:Nat)(q:Cw)(z:Gz)(g:Gu)(n:CwOk q)(c:Cfg)(o p r s t:Nat)(d:List az)(f:List Pl)(u:oj c q d f≠0):sQ W0 145 ([pV h]++[]++[]) (pt h (cy q)::pt q.hb (cY c o p r s t)::pt q.gb (bN z g)::cR z.x.m ⟨z.pv,z.ps,z.pm,g.bud,d,f⟩::aH z.ps d::R) (.tuple #[iQ (oj c q d f),wV 0]) (pt h (cy q)::pt q.hb (cY c o p r s t)::pt q.gb (bN z g)::cR z.x.m ⟨z.pv,z.ps,z.pm,g.bud,d,f⟩::aH z.ps d::R):=by
 simp only[Qaq];have v:=n.b;have E:=n.c;obtain⟨w,j⟩:∃b,d9 d.length f q.b q.c=b:=⟨_,Z⟩
 have y:oj c q d f=if (q.i:Int)≠c.gate then 4 else if q.c<1\/16<q.c then 10 else if w=false then 1 else 0:=by rw[oj,j]
 rw[y]at u ⊢;refine am func145 ntmps145 ?_;refine bH [h] 21 λe=>?_;refine aj 0 4 e ?_;refine aE 4 e (dW fP aX Z Z (i:=0) Z cl dg) ?_;refine aj 5 5 e ?_;refine aE 10 e (dW fP aX Z Z (i:=1) Z cl dg) ?_;refine aj 11 5 e ?_;refine aE 16 e (dW fP aX Z Z (i:=2) Z cl dg) ?_;refine aj 17 4 e ?_;refine aS (dY [(h,0,_),(q.hb,0,_)] 15 mixed Z (bj (bj bI)) (λe=>?_));refine aj 0 15 e ?_;refine aS (aB Z (λA=>?_) λA=>?_)
 · refine au 9 (aZ (aP (Qak (λx=>bY [Value.int .i64 x,wV 0]) ?_)))
   exact bf
 refine aG (aG (aM (aa Z (aV Z) (aa Z (tB Z Z) (aa Z (aU Z) (aI (aA ?_)))))));apply aB Z<;>intro B
 · refine au 12 (aZ (aP (Qak (λx=>bY [Value.int .i64 x,wV 0]) ?_)))
   exact bf
 refine aM (aa Z (aV Z) (aa Z (xp Z Z) (aa Z (aU Z) (aI (aA ?_)))));apply aB Z<;>intro C
 · refine au 9 (aZ (aP (Qak (λx=>bY [Value.int .i64 x,wV 0]) ?_)))
   exact bf
 refine aw (ao (ar tA (rP W0 _ q.gb z g)) ?_);refine ac (cv (bS aq)) ?_;refine aF Z (dj G2 (Vw W0 _ z.x.m z.pv z.ps z.pm g.bud d f q.b v q.c)) ?_;rintro _ F ⟨a,k,rfl,l⟩;subst l;rw[j];refine aw (aB Z (λD=>?_) λD=>?_)
 · refine au 8 (aZ (aP (Qak (λx=>bY [Value.int .i64 x,wV 0]) ?_)))
   exact bf
 exfalso;apply u;rw[Qab aq,Qab aq,Qab ro]
abbrev Fc(x:Gt)(q:Cw)(n:Nat):Cw:={ q with w:=if mi x q.i q.a n=0 then(n:Int)else q.w }
theorem b7b(p:Nat)(q:Cw)(z:Gz)(g:Gu)(t:CwOk q)(c:Cfg)(A B C D s:Nat)(f:List az)(h:List Pl)(Q:bD f)(r:oj c q f h=0)(x:Gt)(I:x.l.length<100000)(J:0≤x.us/\x.us≤1000/\0≤x.quota/\x.quota≤64)(l:List Nat)(F:jX f h q.b q.c=l):sQ W0 145 ([pV p]++[]++[]) (pt p (cy q)::pt q.hb (cY c A B C D s)::pt q.gb (bN z g)::cR z.x.m ⟨z.pv,z.ps,z.pm,g.bud,f,h⟩::aH z.ps f::jO s x::R) (.tuple #[iQ (mi x q.i q.a l.length),wV 0]) (pt p (cy (Fc x q l.length))::pt q.hb (cY c A B C D s)::pt q.gb (bN z g)::cR z.x.m ⟨z.pv,z.ps,z.pm,g.bud,f,h⟩::aH z.ps f::jO s (nr x q.i q.a (m8 l))::R):=by
 simp only[Qaq];have S:=t.a;have K:=t.b;have T:=t.c;have u:¬(q.i:Int)≠c.gate:=λe=>by rw[oj,Qad e]at r;exact absurd r cl
 have L:¬(q.c<1\/16<q.c):=λe=>by rw[oj,Qab u,Qad e]at r;exact absurd r cl
 have G:d9 f.length h q.b q.c=true:=by
  cases e:d9 f.length h q.b q.c with
  |true=>rfl
  |false=>rw[oj,Qab u,Qab L,Qad e]at r;exact absurd r cl
 have M:l.length≤q.c:=by rw[<-F,jX,Qad G,wn];omega
 have v:(m8 l).size=l.length:=Et l;refine am func145 ntmps145 ?_;refine bH [p] 21 λd=>?_;refine aj 0 4 d ?_;refine aE 4 d (dW fP aX rfl rfl (i:=0) rfl cl dg) ?_;refine aj 5 5 d ?_;refine aE 10 d (dW fP aX rfl rfl (i:=1) rfl cl dg) ?_;refine aj 11 5 d ?_;refine aE 16 d (dW fP aX rfl rfl (i:=2) rfl cl dg) ?_;refine aj 17 4 d ?_;refine aS (dY [(p,0,_),(q.hb,0,_)] 15 mixed rfl (bj (bj bI)) (λd=>?_));refine aj 0 15 d ?_;refine aS (aB rfl (λH=>?_) λH=>?_);exact absurd H u;refine aG (aG (aM (aa rfl (aV rfl) (aa rfl (tB rfl rfl) (aa rfl (aU rfl) (aI (aA ?_)))))));apply aB rfl<;>intro N;omega;refine aM (aa rfl (aV rfl) (aa rfl (xp rfl rfl) (aa rfl (aU rfl) (aI (aA ?_)))));apply aB rfl<;>intro O;omega;refine aw (ao (ar tA (rP W0 _ q.gb z g)) ?_);refine ac (cv (bS aq)) ?_;refine aF rfl (dj G2 (Vw W0 _ z.x.m z.pv z.ps z.pm g.bud f h q.b K q.c)) ?_;rintro _ P ⟨a,k,rfl,j⟩;subst j;rw[F,G];refine au 14 (et (oB (E:=5) (sz:=1) (a:=a) (c:=k) (n:=l.length) (λw=>?_)));refine dY [(p,0,_),(q.hb,0,_),(GA a,0,bW l)] 18 mixed rfl (bj (bj (dA (mw (E:=5) (sz:=1) (a:=a) (c:=k) (n:=l.length)) bI))) (λd=>?_);refine aj 0 13 d ?_;refine aE 13 d (cv (bS aq)) ?_;refine aj 14 1 d ?_;refine aE 15 d (QG jf AS mr rfl rfl (tI w (i6 (k:=2) rfl) (λ_=>rfl) (tL _).symm cl)) ?_;refine co 16 (ar call234 (b60 s x I J q.i q.a (m8 l) aq)) ?_;clear d;rintro _ P ⟨rfl,j⟩;subst j;rw[v];refine⟨(bj (bj (dA (mw (E:=5) (sz:=1) (a:=a) (c:=k) (n:=l.length)) bI))),λd=>?_⟩;refine aj 17 1 d ?_;refine aS (ap (λo=>?_) λo=>?_);have y:Fc x q l.length=Vy q l.length:=by unfold Fc;rw[Qad (by simpa using o)]
 refine aJ dr (aZ ?_);rw[y];exact ax;have y:Fc x q l.length=q:=by unfold Fc;rw[Qab (by simpa using o)]
 refine aZ ?_;rw[y];exact ax
end
section
open Go.RowKit
def MY(c:Cfg)(k:Nat):Int×Int:=c.pl.getD k (0,0)
def CH(c:Cfg)(i:Int)(k:Nat):Bool:=decide ((MY c k).2=i)
def du(c:Cfg)(i:Int):Option Nat:=if rt c=true/\0≤i then r9 (CH c i) c.pl.length else none
theorem b7c W0 b1 b3 c i(d:∀A,bZ (aQ W0 A) c.pa 2 fZ c.pl):
    WF W0 190 [pQ b1,pQ b3] c.pl.length (λ_=>bB [pt b1 (kj c),pt b3 (ae [iQ i] 3)]) (CH c i):=⟨call190,λk b R=>by
 refine qW ?_;simp only[Qau,Qar];obtain⟨g,o,hra,hc⟩:=(d (pt b1 (kj c)::R)).at_ b;obtain⟨x,hx⟩:∃x,c.pl[k]=x:=⟨_,Z⟩
 have e:MY c k=x:=by simp[MY,List.getD,b,hx]
 rw[hx]at hc;rw[CH,e];refine am func190 ntmps190 ?_;refine dY [(b1,0,dU c),(b3,0,_),(g,o+k*2,fZ x)] 9 mixed Z (bj (bj (dA hc.weak bI))) (λa=>?_);refine aj 0 3 a ?_;refine aE 3 a (g7 FM AV Z hra Z Z b dg) ?_;refine aj 4 1 a ?_;refine aE 5 a (aY (n0 (k:=2) (j:=1) Z Z)) ?_;refine aj 6 3 a ?_;exact aS (ag ax)
 ⟩
theorem Az(c:Cfg)(h:CfOk W0 c)(i:Int):sQ W0 121 [.agg (dU c).toArray,iQ i] R (iQ (dP (du c i))) R:=by
 obtain⟨w,f⟩:∃w,rt c=w:=⟨_,rfl⟩
 have q:du c i=if w=true/\0≤i then r9 (CH c i) c.pl.length else none:=by rw[du,f]
 rw[q];refine am func121 ntmps121 ?_;refine bR λd=>?_;refine dh (fQ rfl rfl) λe=>?_;refine ao (aK OG (GO c h)) ?_;rw[f];apply fC<;>intro a;refine ag ?_;rw[Qab (by first|(rintro⟨g,j⟩;omega)|(rintro⟨g,j⟩;simp_all))];exact ax;apply ap<;>intro r;refine ag ?_;rw[Qab (by first|(rintro⟨g,j⟩;omega)|(rintro⟨g,j⟩;simp_all))];exact ax;have b:w=true:=by
  cases w with
  |true=>rfl
  |false=>first|exact absurd rfl a|exact absurd cl a
 have l:0≤i:=aq;rw[Qad ⟨b,l⟩];have s:c.pl.length≤8:=by
  obtain⟨_,_,_,_,t,_⟩:=vZ (f.trans b);simp only[xF,Qbh,Qbc]at t;omega
 obtain⟨o,n⟩:∃o,r9 (CH c i) c.pl.length=o:=⟨_,rfl⟩
 rw[n];refine ao (qe (B:=kH 0 (bB [pt d (kj c),pt e (ae [iQ i] 3)])::R) inferInstance (aK FV (Q2 190 [pQ d,pQ e] c.pl.length (λ_=>bB [pt d (kj c),pt e (ae [iQ i] 3)]) (CH c i) (b7c W0 d e c i h.p) aq))) ?_;rw[n];apply ap<;>intro m;refine ag ?_;obtain⟨k,rfl⟩:∃k,o=some k:=Option.isSome_iff_exists.1 m;exact ax;refine ag ?_;have u:o=none:=by
  cases o with
  |none=>rfl
  |some k=>exact absurd rfl m
 subst u;exact ax
theorem b7d{x:Dsc}{s t:Cb}(h:s.1=t.1/\s.2.1=t.2.1/\s.2.2.1=t.2.2.1):(qA pg bs x s).1=(qA pg bs x t).1/\(qA pg bs x s).2.1=(qA pg bs x t).2.1/\(qA pg bs x s).2.2.1=(qA pg bs x t).2.2.1:=by obtain⟨a,b,c,d⟩:=s;obtain⟨i,j,k,l⟩:=t;obtain⟨e,f,g⟩:=h;dsimp only at e f g;subst e f g;unfold qA;dsimp only;split<;>exact⟨Z,Z,Z⟩
theorem yA{o:Int}(d e:Nat):∀k,(eZ fr pg d l o bs k).1=(eZ fr pg e l o bs k).1/\(eZ fr pg d l o bs k).2.1=(eZ fr pg e l o bs k).2.1/\(eZ fr pg d l o bs k).2.2.1=(eZ fr pg e l o bs k).2.2.1
 |0=>⟨Z,Z,Z⟩
 |k+1=>b7d (yA d e k)
theorem Vz{h:Nat}(d e:Nat):(fD fr pg d s h n).c=(fD fr pg e s h n).c/\(fD fr pg d s h n).s=(fD fr pg e s h n).s/\(fD fr pg d s h n).fr=(fD fr pg e s h n).fr:=by
 unfold fD
 repeat' split
 all_goals exact⟨Z,Z,Z⟩
theorem b7e{at_:Int}{what room:Nat}{x:Dk}(d e:Nat):(mc pg who at_ what room l D x fr d).how=(mc pg who at_ what room l D x fr e).how/\(mc pg who at_ what room l D x fr d).m=(mc pg who at_ what room l D x fr e).m/\(mc pg who at_ what room l D x fr d).t=(mc pg who at_ what room l D x fr e).t/\(mc pg who at_ what room l D x fr d).fr=(mc pg who at_ what room l D x fr e).fr/\(mc pg who at_ what room l D x fr d).x=(mc pg who at_ what room l D x fr e).x:=by
 unfold mc;split;unfold oT;split
 cases mJ x who at_ ((room-1)/16)with
 |none=>exact⟨Z,Z,Z,Z,Z⟩
 |some all=>exact⟨Z,(yA d e _).2.1,(yA d e _).2.1,(yA d e _).2.2,Z⟩
 exact⟨Z,Z,Z,Z,Z⟩;split;unfold nj;split
 cases ni x who at_ D (D.length/16)with
 |mk y o=>cases o<;>exact⟨Z,Z,Z,Z,Z⟩
 exact⟨Z,Z,Z,Z,Z⟩;exact⟨Z,Z,Z,Z,Z⟩
theorem b7f{h:Nat}{x:Dk}(d e:Nat):(lM pg who h l s x fr d).m=(lM pg who h l s x fr e).m/\(lM pg who h l s x fr d).w=(lM pg who h l s x fr e).w/\(lM pg who h l s x fr d).fr=(lM pg who h l s x fr e).fr/\(lM pg who h l s x fr d).s=(lM pg who h l s x fr e).s/\(lM pg who h l s x fr d).x=(lM pg who h l s x fr e).x:=by
 unfold lM;split;obtain⟨g,i,j,k,p⟩:=b7e (pg:=pg) (who:=who) (at_:=(jv ((oV fr pg l).take 8) 1:Nat)) (what:=jv ((oV fr pg l).take 8) 0) (room:=g8 l true) (l:=l) (D:=(oV fr pg l).drop 8) (x:=x) (fr:=fr) d e;have q:=yA (fr:=(fX pg who l x fr e).fr) (pg:=pg) (l:=l) (o:=((g8 l true-1:Nat):Int)) (bs:=[(fX pg who l x fr e).how]) (fX pg who l x fr d).d (fX pg who l x fr e).d l.length;have r:(pM pg l (fX pg who l x fr d)).2.2.1=(pM pg l (fX pg who l x fr e)).2.2.1:=by
  show(eZ (fX pg who l x fr d).fr pg (fX pg who l x fr d).d l _ [(fX pg who l x fr d).how] l.length).2.2.1=_;rw[show(fX pg who l x fr d).fr=(fX pg who l x fr e).fr from k,show(fX pg who l x fr d).how=(fX pg who l x fr e).how from g];exact q.2.2
 have a:∀b,fD (pM pg l (fX pg who l x fr d)).2.2.1 pg b s (ed (h:Nat)) (ed (((fX pg who l x fr d).t+1:Nat):Int))=fD (pM pg l (fX pg who l x fr e)).2.2.1 pg b s (ed (h:Nat)) (ed (((fX pg who l x fr e).t+1:Nat):Int)):=λb=>by
  rw[r,show(fX pg who l x fr d).t=(fX pg who l x fr e).t from j]
 have f:=Vz (fr:=(pM pg l (fX pg who l x fr e)).2.2.1) (pg:=pg) (s:=s) (h:=ed (h:Nat)) (n:=ed (((fX pg who l x fr e).t+1:Nat):Int)) (pM pg l (fX pg who l x fr d)).2.2.2 (pM pg l (fX pg who l x fr e)).2.2.2;refine⟨i,?_,?_,?_,p⟩;show(fD _ pg _ s _ _).c=_;rw[a];exact f.1;show(fD _ pg _ s _ _).fr=_;rw[a];exact f.2.2;show(fD _ pg _ s _ _).s=_;rw[a];exact f.2.1;exact⟨Z,Z,Z,Z,Z⟩
def yB(X Y:SbS):Prop:=X.fr=Y.fr/\X.s=Y.s/\X.x=Y.x/\X.c=Y.c/\X.n=Y.n/\X.b=Y.b/\X.w=Y.w
theorem b7g{X Y:SbS}(h:yB X Y):(lN pg who X).1=(lN pg who Y).1/\yB (lN pg who X).2 (lN pg who Y).2:=by obtain⟨a,d,s,x,c,n,b,w⟩:=X;obtain⟨q,e,y,A,B,C,D,E⟩:=Y;obtain⟨f,g,i,j,k,m,o⟩:=h;dsimp only at f g i j k m o;subst f g i j k m o;obtain⟨r,p,t,u,v⟩:=b7f (pg:=pg) (who:=who) (h:=(fh a pg s).1) (l:=(fh a pg s).2.1) (s:=kW a pg s) (x:=x) (fr:=a) d e;unfold lN oW;dsimp only;split;exact⟨by rw[p],t,u,v,Z,Z,by show b+_=b+_;rw[r],p⟩;exact⟨Z,Z,Z,Z,Z,Z,Z,Z⟩
theorem VA:∀(k:Nat) {X Y:SbS},yB X Y->yB (kI pg who k X) (kI pg who k Y)
 |0,_,_,h=>h
 |k+1,X,Y,h=>by
  obtain⟨b,a⟩:=b7g (pg:=pg) (who:=who) h;rw[kI,kI,b];split;exact VA k a;exact a
theorem b7h{ps:List Prt}(d e:Nat):(ip tx pg port ps fr d l).m=(ip tx pg port ps fr e l).m/\(ip tx pg port ps fr d l).t=(ip tx pg port ps fr e l).t/\(ip tx pg port ps fr d l).fr=(ip tx pg port ps fr e l).fr/\(ip tx pg port ps fr d l).ps=(ip tx pg port ps fr e l).ps:=by unfold ip;split;split<;>exact⟨Z,Z,Z,Z⟩;exact⟨(yA d e _).2.1,(yA d e _).2.1,(yA d e _).2.2,Z⟩
def rR(X Y:SvS):Prop:=X.fr=Y.fr/\X.s=Y.s/\X.ps=Y.ps/\X.c=Y.c/\X.n=Y.n/\X.b=Y.b/\X.w=Y.w
theorem b7i{X Y:SvS}(h:rR X Y):(kG tx pg port X).1=(kG tx pg port Y).1/\rR (kG tx pg port X).2 (kG tx pg port Y).2:=by
 obtain⟨a,d,s,x,c,n,b,w⟩:=X;obtain⟨u,e,F,G,H,I,J,K⟩:=Y;obtain⟨i,j,k,m,o,p,q⟩:=h;dsimp only at i j k m o p q;subst i j k m o p q;obtain⟨v,y,A,B⟩:=b7h (tx:=tx) (pg:=pg) (port:=port) (ps:=x) (fr:=a) (l:=(fh a pg s).2.1) d e;unfold kG sY oS;dsimp only;split;split;have f:∀g,fD (ip tx pg port x a d (fh a pg s).2.1).fr pg g (kW a pg s) (ed ((fh a pg s).1:Nat)) (ed ((ip tx pg port x a d (fh a pg s).2.1).t:Nat))=fD (ip tx pg port x a e (fh a pg s).2.1).fr pg g (kW a pg s) (ed ((fh a pg s).1:Nat)) (ed ((ip tx pg port x a e (fh a pg s).2.1).t:Nat)):=λg=>by rw[y,A]
 have C:=Vz (fr:=(ip tx pg port x a e (fh a pg s).2.1).fr) (pg:=pg) (s:=kW a pg s) (h:=ed ((fh a pg s).1:Nat)) (n:=ed ((ip tx pg port x a e (fh a pg s).2.1).t:Nat)) (ip tx pg port x a d (fh a pg s).2.1).d (ip tx pg port x a e (fh a pg s).2.1).d;obtain⟨r,D,E⟩:=C;refine⟨?_,?_,?_,B,Z,Z,?_,?_⟩;show zB (fD _ pg _ _ _ _).c=_;rw[f,r];show(fD _ pg _ _ _ _).fr=_;rw[f];exact E;show(fD _ pg _ _ _ _).s=_;rw[f];exact D;show b+_=b+_;rw[v];show(fD _ pg _ _ _ _).c=_;rw[f];exact r;exact⟨Z,Z,Z,Z,Z,Z,Z,Z⟩;exact⟨Z,Z,Z,Z,Z,Z,Z,Z⟩
theorem MZ:∀(k:Nat) {X Y:SvS},rR X Y->rR (jL tx pg port k X) (jL tx pg port k Y)
 |0,_,_,h=>h
 |k+1,X,Y,h=>by
  obtain⟨b,a⟩:=b7i (tx:=tx) (pg:=pg) (port:=port) h;rw[jL,jL,b];split;exact MZ k a;exact a
section
variable{pg:List Pl}(hP:Pgs pg)
include hP
theorem Iw(b:PlOk fr.length pg)(c:bD fr)(e:d<4096){a:Nat}(f:bs.length=n):Touch pg fr d (kU fr pg a bs) (oJ fr pg a d n):=by subst f;exact MW hP b c e
theorem Ix{fr d}(c:PlOk fr.length pg)(a:bD fr)(b:d<4096){l o bs}:∀k,Touch pg fr d (eZ fr pg d l o bs k).2.2.1 (eZ fr pg d l o bs k).2.2.2
 |0=>Touch.rfl' a b
 |k+1=>by
  have h:=Ix c a b (l:=l) (o:=o) (bs:=bs) k;have e:=zZ (pg:=pg) (l:=l) (from_:=o) (bs:=bs) a b k;rw[eZ,qA];split;refine h.trans (Iw hP (by rw[h.l];exact c) h.F h.dl ?_);have:=e.dn;rw[QaB,QaL];omega;exact h
theorem VB(c:PlOk fr.length pg)(e:bD fr)(f:d<4096)(s:QS)(h n:Nat):Touch pg fr d (fD fr pg d s h n).fr (fD fr pg d s h n).d:=by have a:Touch pg fr d (xX fr pg s h) (C6 fr pg d s):=Iw hP c e f Z;have b:Touch pg fr d (xY fr pg s h n) (C7 fr pg d s h):=a.trans (Iw hP (by rw[a.l];exact c) a.F a.dl Z);have g:Touch pg fr d (C8 fr pg s h n) (Er fr pg d s h n):=b.trans (Iw hP (by rw[b.l];exact c) b.F b.dl Z);unfold fD;split;split;split;split;exact g;exact g;exact b;exact a;exact Touch.rfl' e f
theorem b7j(hp:PlOk fr.length pg)(hF:bD fr)(hd:d<4096){at_:Int}{what room:Nat}{x:Dk}:Touch pg fr d (mc pg who at_ what room l D x fr d).fr (mc pg who at_ what room l D x fr d).d:=by
 have h0:Touch pg fr d fr d:=Touch.rfl' hF hd;unfold mc;split;unfold oT;split
 cases mJ x who at_ ((room-1)/16)with
 |none=>exact h0
 |some all=>exact Ix hP hp hF hd _
 exact h0;split;unfold nj;split
 cases ni x who at_ D (D.length/16)with
 |mk y o=>cases o<;>exact h0
 exact h0;exact h0
theorem b7k(c:PlOk fr.length pg)(e:bD fr)(f:d<4096){h:Nat}{x:Dk}:Touch pg fr d (lM pg who h l s x fr d).fr (lM pg who h l s x fr d).d:=by unfold lM;split;have a:Touch pg fr d (fX pg who l x fr d).fr (fX pg who l x fr d).d:=b7j hP c e f;have b:Touch pg fr d (pM pg l (fX pg who l x fr d)).2.2.1 (pM pg l (fX pg who l x fr d)).2.2.2:=a.trans (Ix hP (by rw[a.l];exact c) a.F a.dl _);exact b.trans (VB hP (by rw[b.l];exact c) b.F b.dl _ _ _);exact Touch.rfl' e f
theorem N0(e:PlOk len pg):∀(k:Nat) {X:SbS},bD X.fr->X.fr.length=len->X.d<4096->Touch pg X.fr X.d (kI pg who k X).fr (kI pg who k X).d
 |0,X,b,_,c=>Touch.rfl' b c
 |k+1,X,b,f,c=>by
  have a:Touch pg X.fr X.d (lN pg who X).2.fr (lN pg who X).2.d:=by
   unfold lN;split;exact b7k hP (by rw[f];exact e) b c;exact Touch.rfl' b c
  rw[kI];split;exact a.trans (N0 e k a.F (a.l.trans f) a.dl);exact a
theorem CI(f:PlOk len pg):∀(k:Nat) {X:SvS},bD X.fr->X.fr.length=len->X.d<4096->Touch pg X.fr X.d (jL tx pg port k X).fr (jL tx pg port k X).d
 |0,X,a,_,b=>Touch.rfl' a b
 |k+1,X,a,g,b=>by
  have e:Touch pg X.fr X.d (oS tx pg port X).fr (oS tx pg port X).d:=by
   unfold oS ip;split;split<;>exact Touch.rfl' a b;exact Ix hP (by rw[g];exact f) a b _
  have c:Touch pg X.fr X.d (kG tx pg port X).2.fr (kG tx pg port X).2.d:=by
   unfold kG;split;split;exact e.trans (VB hP (by rw[e.l,g];exact f) e.F e.dl _ _ _);exact Touch.rfl' a b;exact Touch.rfl' a b
  rw[jL];split;exact c.trans (CI f k c.F (c.l.trans g) c.dl);exact c
end
structure QL (s : QS) : Prop where
  ok : QOk s
  r : Rg3.ok s.r
  n : 0 ≤ s.r.n ∧ s.r.n ≤ 8
theorem N1{r:Rg3}:∀(k:Nat) {x:SbS},SbOk len r x->SbOk len r (kI pg who k x)
 |0,x,h=>h
 |k+1,x,h=>by
  have a:=(LX (pg:=pg) (who:=who) h).1;rw[kI];split;exact N1 k a;exact a
theorem Iy{r:Rg3}:∀(k:Nat) {x:SvS},SvOk len r x->SvOk len r (jL tx pg port k x)
 |0,x,h=>h
 |k+1,x,h=>by
  have a:=(LR (tx:=tx) (pg:=pg) (port:=port) h).1;rw[jL];split;exact Iy k a;exact a
@[reducible] def ml(fr:List az)(pg:List Pl)(who:Int)(s:QS)(x:Dk):SbS:=kI pg who s.r.n.toNat ⟨fr,0,s,x,0,0,0,0⟩
@[reducible] def fM(tx:Bool)(fr:List az)(pg:List Pl)(port:Int)(s:QS)(q:List Prt):SvS:=jL tx pg port s.r.n.toNat ⟨fr,0,s,q,0,0,0,0⟩
theorem b7l{fr}(a:bD fr)pg who{s}(b:QL s){x}(c:DkOk x):SbOk fr.length s.r (ml fr pg who s x):=N1 _ ⟨a,Z,aag,b.ok,Z,c⟩
theorem N2{fr}(a:bD fr)pg tx port{s}(b:QL s){q}(c:jp q):SvOk fr.length s.r (fM tx fr pg port s q):=Iy _ ⟨a,Z,aag,b.ok,Z,c⟩
section
variable(W0:World)(R:List HP)(bm pv ps pm bud:Nat)(fr:List az)(pg:List Pl)(bq:Nat)(s:QS)(hs:QL s)
include hs
theorem b7m dd x(w:DkOk x)who:bE Tryz.prog W0 306 [pV pv,pV bq,pV dd,.int .i64 who]
    (cR bm ⟨pv,ps,pm,bud,fr,pg⟩::aH ps fr::pt bq (qO true s)::dQ dd x::R)
    (λv B=>∃y,yB y (ml fr pg who s x)/\SbOk fr.length s.r y/\v=.agg (SbS.v y).toArray/\B=cR bm ⟨pv,ps,pm,bud,y.fr,pg⟩::aH ps y.fr::pt bq (qO true y.s)::dQ dd y.x::R):=by
 refine rN λk l e T L f d A C D c=>?_;obtain⟨⟨g,h,i,p⟩,m,o,a,b⟩:=s;obtain⟨n,rfl⟩:∃n:Nat,p=(n:Int):=⟨p.toNat,abu⟩
 have E:n≤8:=abt;have q:SbOk fr.length ⟨g,h,i,n⟩ ⟨fr,d,⟨⟨g,h,i,n⟩,m,o,a,b⟩,x,0,0,0,0⟩:=⟨c.F,Z,c.dl,hs.ok,Z,w⟩
 refine ig (B:=pt bq (qO true ⟨⟨g,h,i,n⟩,m,o,a,b⟩)::dQ dd x::df pv ps pm d fr pg (pt bm (cX pv k l)::bC k (e,dt 4 f)::cj l L::R)) inferInstance ?_;refine cF (b2c bq pv dd ps pm pg c.P who fr d g h i n a b m o x E hs.r fr.length q) λv B G=>?_;obtain⟨y,t,rfl,rfl⟩:=G;have j:=N1 (pg:=pg) (who:=who) n q;have u:=N0 c.P (who:=who) c.pl n (X:=⟨fr,d,⟨⟨g,h,i,n⟩,m,o,a,b⟩,x,0,0,0,0⟩) c.F Z c.dl;rw[<-t]at j u;refine⟨_,⟨y,?_,j,Z,Z⟩,Ent.trans (B:=pt bm (cX pv k l)::bC k (e,dt 4 f)::cj l L::pt pv (cg ps pm y.d)::pt pm (bM pg)::aH ps y.fr::pt bq (qO true y.s)::dQ dd y.x::R) inferInstance (p8 A C D (u.ok c))⟩;rw[t];exact VA n ⟨Z,Z,Z,Z,Z,Z,Z⟩
theorem b7n p q(A:jp q)port:bE Tryz.prog W0 307 [pV pv,pV bq,pV p,.int .i64 port]
    (cR bm ⟨pv,ps,pm,bud,fr,pg⟩::aH ps fr::pt bq (qO true s)::dC p q::R)
    (λv B=>∃y,rR y (fM true fr pg port s q)/\SvOk fr.length s.r y/\v=.agg (SvS.v y).toArray/\B=cR bm ⟨pv,ps,pm,bud,y.fr,pg⟩::aH ps y.fr::pt bq (qO true y.s)::dC p y.ps::R):=by
 refine rN λk l e T L f d C D E c=>?_;obtain⟨⟨g,h,i,t⟩,m,o,a,b⟩:=s;obtain⟨n,rfl⟩:∃n:Nat,t=(n:Int):=⟨t.toNat,abu⟩
 have G:n≤8:=abt;have u:SvOk fr.length ⟨g,h,i,n⟩ ⟨fr,d,⟨⟨g,h,i,n⟩,m,o,a,b⟩,q,0,0,0,0⟩:=⟨c.F,Z,c.dl,hs.ok,Z,A⟩
 refine ig (B:=pt bq (qO true ⟨⟨g,h,i,n⟩,m,o,a,b⟩)::pt pv (cg ps pm d)::aH ps fr::pt pm (bM pg)::dC p q::pt bm (cX pv k l)::bC k (e,dt 4 f)::cj l L::R) inferInstance ?_;refine cF (b1T bq p pv ps pm pg c.P port fr d g h i n a b m o q G hs.r fr.length u) λv B H=>?_;obtain⟨y,w,rfl,rfl⟩:=H;have j:=Iy (tx:=true) (pg:=pg) (port:=port) n u;have x:=CI c.P (tx:=true) (port:=port) c.pl n (X:=⟨fr,d,⟨⟨g,h,i,n⟩,m,o,a,b⟩,q,0,0,0,0⟩) c.F Z c.dl;rw[<-w]at j x;refine⟨_,⟨y,?_,j,Z,Z⟩,Ent.trans (B:=pt bm (cX pv k l)::bC k (e,dt 4 f)::cj l L::pt pv (cg ps pm y.d)::pt pm (bM pg)::aH ps y.fr::pt bq (qO true y.s)::dC p y.ps::R) inferInstance (p8 C D E (x.ok c))⟩;rw[w];exact MZ n ⟨Z,Z,Z,Z,Z,Z,Z⟩
theorem Fe p q(A:jp q)port:bE Tryz.prog W0 122 [pV pv,pV bq,pV p,.int .i64 port]
    (cR bm ⟨pv,ps,pm,bud,fr,pg⟩::aH ps fr::pt bq (qO true s)::dC p q::R)
    (λv B=>∃y,rR y (fM false fr pg port s q)/\SvOk fr.length s.r y/\v=.agg (SvS.v y).toArray/\B=cR bm ⟨pv,ps,pm,bud,y.fr,pg⟩::aH ps y.fr::pt bq (qO true y.s)::dC p y.ps::R):=by
 refine rN λk l e T L f d C D E c=>?_;obtain⟨⟨g,h,i,t⟩,m,o,a,b⟩:=s;obtain⟨n,rfl⟩:∃n:Nat,t=(n:Int):=⟨t.toNat,abu⟩
 have G:n≤8:=abt;have u:SvOk fr.length ⟨g,h,i,n⟩ ⟨fr,d,⟨⟨g,h,i,n⟩,m,o,a,b⟩,q,0,0,0,0⟩:=⟨c.F,Z,c.dl,hs.ok,Z,A⟩
 refine ig (B:=pt bq (qO true ⟨⟨g,h,i,n⟩,m,o,a,b⟩)::pt pv (cg ps pm d)::aH ps fr::pt pm (bM pg)::dC p q::pt bm (cX pv k l)::bC k (e,dt 4 f)::cj l L::R) inferInstance ?_;refine cF (b1U bq p pv ps pm pg c.P port fr d g h i n a b m o q G hs.r fr.length u) λv B H=>?_;obtain⟨y,w,rfl,rfl⟩:=H;have j:=Iy (tx:=false) (pg:=pg) (port:=port) n u;have x:=CI c.P (tx:=false) (port:=port) c.pl n (X:=⟨fr,d,⟨⟨g,h,i,n⟩,m,o,a,b⟩,q,0,0,0,0⟩) c.F Z c.dl;rw[<-w]at j x;refine⟨_,⟨y,?_,j,Z,Z⟩,Ent.trans (B:=pt bm (cX pv k l)::bC k (e,dt 4 f)::cj l L::pt pv (cg ps pm y.d)::pt pm (bM pg)::aH ps y.fr::pt bq (qO true y.s)::dC p y.ps::R) inferInstance (p8 C D E (x.ok c))⟩;rw[w];exact MZ n ⟨Z,Z,Z,Z,Z,Z,Z⟩
end
end
section
open Go.RowKit
set_option synthInstance.maxSize 1000
set_option synthInstance.maxHeartbeats 400000
theorem Ff(c n b:Nat)(w:Int)(a:n<1000000000)(d:b<1000000000):bE Tryz.prog W0 125 [.agg #[.int .i64 c,.int .i64 n,.int .i64 b,.int .i64 w]] R (λv B=>v=.int .i64 ((n+b:Nat):Int)/\B=R):=by refine vP func125 ntmps125 Z Z ?_;refine aG (aM (aF Z (l8 Z) ?_));rintro _ _ ⟨e,rfl,rfl⟩;refine aa Z (aU Z) (aI (aA (aG (aM ?_))));refine aa Z (bT Z nB Z bu Z dg) ?_;refine aa Z (bO cM Z (aO Z)) ?_;refine aa Z (bT Z nB Z bu Z dg) ?_;refine aa Z (bO cM Z (aO Z)) ?_;refine aa Z (dI Z Z (bS aq)) ?_;refine aa Z (aU Z) (aI (aA (dX (bP (.inl Z) (.cons (bA Z) .nil) ?_))));refine⟨_,⟨?_,Z⟩,IO⟩;rw[show((n+b:Nat):Int)=(n:Int)+b by omega];rfl
section
variable(W0:World)(R:List HP)(cb:Nat)(q:Cw)(z:Gz)(g:Gu)(cf:Cfg)(ps pb db qb tb:Nat)(fr:List az)(pg:List Pl)(s:QS)(hs:QL s)(port:Int)
include hs
theorem b7o(l:q.a=1)u(f:jp u):sP W0 227 [pV cb,iQ port] (pt cb (cy q)::pt q.hb (cY cf ps pb db qb tb)::pt q.gb (bN z g)::pt z.q1 (qO true s)::cR z.x.m ⟨z.pv,z.ps,z.pm,g.bud,fr,pg⟩::aH z.ps fr::dC qb u::R) (λv B=>∃y,rR y (fM true fr pg port s u)/\SvOk fr.length s.r y/\v=.tuple #[.agg (SvS.v y).toArray,iQ 2]/\B=pt cb (cy q)::pt q.hb (cY cf ps pb db qb tb)::pt q.gb (bN z g)::pt z.q1 (qO true y.s)::cR z.x.m ⟨z.pv,z.ps,z.pm,g.bud,y.fr,pg⟩::aH z.ps y.fr::dC qb y.ps::R):=by refine am YI ntmps227 ?_;refine dT (cP vJ) λn=>?_;refine aa Z (aU Z) (aI (aA (aG (aG (aM (aa Z (aV Z) (aa Z (fJ Z) ?_)))))));refine aa Z (bT Z lX Z mX Z dg) ?_;refine aa Z (bT Z nz Z vH Z dg) ?_;refine aa Z (dW fP aX Z Z (i:=0) Z cl dg) ?_;refine aa Z (bO jP Z (aO Z)) ?_;refine aI (aA (jR (aG (aM (aa Z (gL Z Z) (aa Z (aU Z) (aI (aA ?_))))))));apply aB Z<;>intro h;omega;refine aG (aM (aa Z (gL Z Z) (aa Z (aU Z) (aI (aA ?_)))));apply aB Z<;>intro j;refine aG (dY [(cb,0,_),(q.hb,0,_)] 23 mixed Z (bj (bj bI)) (λb=>?_));refine aj 0 5 b ?_;refine aj 6 5 b ?_;refine aj 12 8 b ?_;refine bQ 5 (ar tA (rP W0 _ q.gb z g)) λb=>?_;refine co 11 (ar D9 (Ay W0 _ q.gb z g 1 cl)) ?_;clear b;rintro _ k ⟨rfl,c⟩;subst c;rw[show t8 z 1=z.q1 from Z];refine⟨aW,λb=>?_⟩;refine iw 20 ld Z Z (gU call307 Z (b7n W0 _ z.x.m z.pv z.ps z.pm g.bud fr pg z.q1 s hs qb u f port)) Z ?_;clear b;rintro _ k ⟨y,d,e,rfl,c⟩;subst c;refine⟨aW,λb=>?_⟩;refine cp 21 aR λb=>?_;refine aj 22 1 b ?_;refine aS (bJ (.cons (bX uy ny Z Z) (.cons (bA Z) .nil)) ?_);exact⟨_,⟨y,d,e,Z,Z⟩,IO⟩;omega
theorem b7p(l:q.a=2)u(h:jp u):bE Tryz.prog W0 227 [pV cb,.int .i64 port]
    (pt cb (cy q)::pt q.hb (cY cf ps pb db qb tb)::pt q.gb (bN z g)::pt z.q2 (qO true s)::cR z.x.m ⟨z.pv,z.ps,z.pm,g.bud,fr,pg⟩::aH z.ps fr::dC qb u::R)
    (λv B=>∃y,rR y (fM false fr pg port s u)/\SvOk fr.length s.r y/\v=.tuple #[.agg (SvS.v y).toArray,.int .i64 3]/\B=pt cb (cy q)::pt q.hb (cY cf ps pb db qb tb)::pt q.gb (bN z g)::pt z.q2 (qO true y.s)::cR z.x.m ⟨z.pv,z.ps,z.pm,g.bud,y.fr,pg⟩::aH z.ps y.fr::dC qb y.ps::R):=by refine vP YI ntmps227 Z Z ?_;refine aG (aM (aF Z (cP vJ) ?_));rintro _ _ ⟨n,rfl,rfl⟩;refine aa Z (aU Z) (aI (aA (aG (aG (aM (aa Z (aV Z) (aa Z (fJ Z) ?_)))))));refine aa Z (bT Z lX Z mX Z dg) ?_;refine aa Z (bT Z nz Z vH Z dg) ?_;refine aa Z (dW fP aX Z Z (i:=0) Z cl dg) ?_;refine aa Z (bO jP Z (aO Z)) ?_;refine aI (aA (jR (aG (aM (aa Z (gL Z Z) (aa Z (aU Z) (aI (aA ?_))))))));refine aB Z ?_ ?_;intro j;omega;intro j;refine aG (aM (aa Z (gL Z Z) (aa Z (aU Z) (aI (aA ?_)))));refine aB Z ?_ ?_;intro k;omega;intro k;refine fH (lY (aA (aG ?_)));refine dY [(cb,0,_),(q.hb,0,_)] 23 mixed Z (bj (bj bI)) (λb=>?_);refine dZ 0 Z Z ld ld ld Z b (aV Z) ?_;refine dZ 1 Z Z ld ld ld Z b (fJ Z) ?_;refine dZ 2 Z Z ld ld ld Z b (bT Z lX Z mX Z dg) ?_;refine dZ 3 Z Z ld ld ld Z b (bT Z nz Z qP Z dg) ?_;refine dZ 4 Z Z ld ld ld Z b (bO NT Z n6) ?_;refine dZ 6 Z Z ld ld ld Z b (aV Z) ?_;refine dZ 7 Z Z ld ld ld Z b (fJ Z) ?_;refine dZ 8 Z Z ld ld ld Z b (bT Z lX Z mX Z dg) ?_;refine dZ 9 Z Z ld ld ld Z b (bT Z nz Z qP Z dg) ?_;refine dZ 10 Z Z ld ld ld Z b (bO NT Z n6) ?_;refine dZ 12 Z Z ld ld ld Z b (aV Z) ?_;refine dZ 13 Z Z ld ld ld Z b (fJ Z) ?_;refine dZ 14 Z Z ld ld ld Z b (bT Z lX Z AY Z dg) ?_;refine dZ 15 Z Z ld ld ld Z b (bO NU Z n6) ?_;refine dZ 16 Z Z ld ld ld Z b (fJ Z) ?_;refine dZ 17 Z Z ld ld ld Z b (bT Z Jd Z Xi Z dg) ?_;refine dZ 18 Z Z ld ld ld Z b (bO J2 Z n6) ?_;refine dZ 19 Z Z ld ld ld Z b (aV Z) ?_;refine iw 5 ld Z Z (eg tA Z (rP W0 _ q.gb z g)) Z ?_;clear b;rintro _ f ⟨rfl,c⟩;subst c;refine⟨(bj (bj bI)),λb=>?_⟩;refine iw 11 ld Z Z (eg D9 Z (Ay W0 _ q.gb z g 2 cl)) Z ?_;clear b;rintro _ f ⟨rfl,c⟩;subst c;rw[show t8 z 2=z.q2 from Z];refine⟨(bj (bj bI)),λb=>?_⟩;refine iw 20 ld Z Z (gU JI Z (Fe W0 _ z.x.m z.pv z.ps z.pm g.bud fr pg z.q2 s hs qb u h port)) Z ?_;clear b;rintro _ f ⟨y,d,e,rfl,c⟩;subst c;refine⟨(bj (bj bI)),λb=>?_⟩;refine iw 21 ld Z Z (eN ny Z Z Z Z Z) Z ?_;clear b;rintro _ _ rfl;refine⟨(bj (bj bI)),λb=>?_⟩;refine dZ 22 Z Z ld ld ld Z b (aU Z) ?_;refine zh ld ?_;clear b;refine aA (dX (bP (.inl Z) (.cons (bX uy ny Z Z) (.cons (bA Z) .nil)) ?_));exact⟨_,⟨y,d,e,Z,Z⟩,IO⟩
theorem b7q(E:q.a=0)x(t:DkOk x)(h:CfK W0 cf)(e:q.i<cf.gl.length)(u:q.i<4):sP W0 227 [pV cb,iQ port] (pt cb (cy q)::pt q.hb (cY cf ps pb db qb tb)::pt q.gb (bN z g)::pt z.q0 (qO true s)::cR z.x.m ⟨z.pv,z.ps,z.pm,g.bud,fr,pg⟩::aH z.ps fr::dQ db x::R) (λv B=>∃y,yB y (ml fr pg (cC cf q.i).1 s x)/\SbOk fr.length s.r y/\v=.tuple #[.agg (SbS.v y).toArray,iQ 1]/\B=pt cb (cy q)::pt q.hb (cY cf ps pb db qb tb)::pt q.gb (bN z g)::pt z.q0 (qO true y.s)::cR z.x.m ⟨z.pv,z.ps,z.pm,g.bud,y.fr,pg⟩::aH z.ps y.fr::dQ db y.x::R):=by
 obtain⟨A,o,f,d⟩:=(h.ok.g []).at_ e;obtain⟨w,p⟩:∃w,cf.gl[q.i]=w:=⟨_,Z⟩
 rw[p]at d;rw[show cC cf q.i=w by simp[cC,List.getD,e,p]];refine iW YI ntmps227 Z Z ?_;refine aG (aM ?_);refine dT (cP vJ) λF=>?_;refine aa Z (aU Z) (aI (aA (aG (aG (aM (aa Z (aV Z) (aa Z (fJ Z) ?_)))))));refine aa Z (bT Z lX Z mX Z dg) ?_;refine aa Z (bT Z nz Z vH Z dg) ?_;refine aa Z (dW fP aX Z Z (i:=0) Z cl dg) ?_;refine aa Z (bO jP Z (aO Z)) ?_;refine aI (aA (jR (aG (aM (aa Z (gL Z Z) (aa Z (aU Z) (aI (aA ?_))))))));apply aB Z<;>intro C;refine aG (dY [(cb,0,_),(q.hb,0,_),(A,o+q.i*3,jW w)] 38 mixed Z (bj (bj (dA d.weak bI))) (λb=>?_));refine aj 0 5 b ?_;refine aj 6 5 b ?_;refine aj 12 20 b ?_;refine aE 32 b (g7 xk uz Z f Z Z e dg) ?_;refine aj 33 1 b ?_;refine aE 34 b (aY (n0 (k:=2) (j:=0) Z Z)) ?_;refine iX 5 Z Z (ar tA (rP W0 _ q.gb z g)) (bj (bj (dA d.weak bI))) λb=>?_;refine co 11 (ar D9 (Ay W0 _ q.gb z g 0 cl)) ?_;clear b;rintro _ D ⟨rfl,c⟩;subst c;rw[show t8 z 0=z.q0 from Z];refine⟨(bj (bj (dA d.weak bI))),λb=>?_⟩;refine iw 35 ld Z Z (gU call306 Z (b7m W0 _ z.x.m z.pv z.ps z.pm g.bud fr pg z.q0 s hs db x t w.1)) Z ?_;clear b;rintro _ D ⟨y,l,n,rfl,c⟩;subst c;refine⟨(bj (bj (dA d.weak bI))),λb=>?_⟩;refine lI 36 Z Z aR (bj (bj (dA d.weak bI))) λb=>?_;refine aj 37 1 b ?_;refine aS (bJ (.cons (bX uy ny Z Z) (.cons (bA Z) .nil)) ?_);exact⟨_,⟨y,l,n,Z,Z⟩,IO⟩;omega
end
end
section
open Go.RowKit
set_option synthInstance.maxSize 1000
set_option synthInstance.maxHeartbeats 400000
theorem b7r(d:Nat)(q:Cw)(n:CwOk q)(b:Cfg)(e f g j l:Nat)(h:CfK W0 b)(o:3≤q.a):sQ W0 142 ([pV d]++[]++[]) (pt d (cy q)::pt q.hb (cY b e f g j l)::R) (.tuple #[iQ 1,wV 0]) (pt d (cy q)::pt q.hb (cY b e f g j l)::R):=by simp only[Qaq];refine am YJ ntmps142 ?_;refine dY [(d,0,_),(q.hb,0,_)] 14 mixed Z (bj (bj bI)) (λc=>?_);refine aj 0 6 c ?_;refine aE 6 c (cV (tK (l1:=dU b) (l2:=[pV e,pV f,pV g,pV j,pV l]) (i6 (k:=1) Z))) ?_;refine aj 7 5 c ?_;refine bQ 12 (aK Da (Az b h.ok q.i)) λc=>?_;refine aj 13 1 c ?_;refine aS (aa Z (dW fP aX Z Z (i:=0) Z cl dg) ?_);refine aa Z (bO jP Z (aO Z)) ?_;refine aa Z (z8 Z Z) (aa Z (aU Z) (aI (aA ?_)));apply aB Z<;>intro m;exact au 9 (aZ ax);omega
theorem b7s(e:Nat)(q:Cw)(t:CwOk q)(b:Cfg)(f g j l m:Nat)(h:CfK W0 b)(u:q.a<3)(p:q.a≠0)(r:du b q.i=none):sQ W0 142 ([pV e]++[]++[]) (pt e (cy q)::pt q.hb (cY b f g j l m)::R) (.tuple #[iQ 3,wV 0]) (pt e (cy q)::pt q.hb (cY b f g j l m)::R):=by simp only[Qaq];refine am YJ ntmps142 ?_;refine dY [(e,0,_),(q.hb,0,_)] 14 mixed Z (bj (bj bI)) (λc=>?_);refine aj 0 6 c ?_;refine aE 6 c (cV (tK (l1:=dU b) (l2:=[pV f,pV g,pV j,pV l,pV m]) (i6 (k:=1) Z))) ?_;refine aj 7 5 c ?_;refine co 12 (aK Da (Az b h.ok q.i)) ?_;clear c;rintro _ v ⟨rfl,n⟩;subst n;rw[r,show dP none= -1 from Z];refine⟨aW,λc=>?_⟩;refine aj 13 1 c ?_;refine aS (aa Z (dW fP aX Z Z (i:=0) Z cl dg) ?_);refine aa Z (bO jP Z (aO Z)) ?_;refine aa Z (z8 Z Z) (aa Z (aU Z) (aI (aA ?_)));apply aB Z<;>intro s;omega;refine aw (aa Z (dW fP aX Z Z (i:=0) Z cl dg) ?_);refine aa Z (bO jP Z (aO Z)) ?_;refine aa Z (nI Z Z) (aa Z (aV Z) ?_);apply so Z Z Z<;>intro d;refine au 7 (ap (λo=>?_) λo=>?_);exact aZ ax;exact absurd Z o;omega
def yC(c:Nat)(w:Int):Value:=if w≠0 then .tuple #[.int .i64 11,wV (ed w)]else .tuple #[.int .i64 0,wV c]
theorem N3 W0 R cb q(K:CwOk q)z g cf ps pb db qb tb(h:CfK W0 cf)(L:q.a<3)(A:q.a=0\/du cf q.i≠none)(E:g.ln<4000000000000000000)(k:Nat)(m:dR k=true)
    C(P:Nat->Nat->Nat->Int->HP->Prop)(F:∀{c n b w D},P c n b w D->c<1000/\n<1000000000/\b<1000000000)
    (o:∀R,bE Tryz.prog W0 227 [pV cb,.int .i64 (dP (du cf q.i))] (pt cb (cy q)::pt q.hb (cY cf ps pb db qb tb)::pt q.gb (bN z g)::kH 0 C::R)
      (λv B=>∃c n b w D,P c n b w D/\v=.tuple #[.agg #[.int .i64 c,.int .i64 n,.int .i64 b,.int .i64 w],.int .i64 k]/\B=pt cb (cy q)::pt q.hb (cY cf ps pb db qb tb)::pt q.gb (bN z g)::kH 0 D::R)):
    bE Tryz.prog W0 142 ([pV cb]++[]++[]) (pt cb (cy q)::pt q.hb (cY cf ps pb db qb tb)::pt q.gb (bN z g)::ew z.x.v (g.ls,g.ln)::kH 0 C::R)
      (λv B=>∃c n b w D,P c n b w D/\v=yC c w/\B=pt cb (cy { q with w:=(n+b:Nat) })::pt q.hb (cY cf ps pb db qb tb)::pt q.gb (bN z g)::ew z.x.v (if 0<c then jb g.ls g.ln k else g.ls,if 0<c then gz g.ls g.ln k else g.ln)::kH 0 D::R):=by
 simp only[Qaq];refine vP YJ ntmps142 Z Z ?_;refine aG (aM (aa Z (aU Z) (aa Z (aU Z) (aI (aA (aG ?_))))));refine dY [(cb,0,_),(q.hb,0,_)] 14 mixed Z (bj (bj bI)) (λd=>?_);refine dZ 0 Z Z ld ld ld Z d (aV Z) ?_;refine dZ 1 Z Z ld ld ld Z d (fJ Z) ?_;refine dZ 2 Z Z ld ld ld Z d (bT Z lX Z AY Z dg) ?_;refine dZ 3 Z Z ld ld ld Z d (bO NU Z n6) ?_;refine dZ 4 Z Z ld ld ld Z d (fJ Z) ?_;refine dZ 5 Z Z ld ld ld Z d (bT Z Jd Z tq Z dg) ?_;refine dZ 6 Z Z ld ld ld Z d (jg J3 tq Z (tK (l1:=dU cf) (l2:=[pV ps,pV pb,pV db,pV qb,pV tb]) (i6 (k:=1) Z)) Z) ?_;refine dZ 7 Z Z ld ld ld Z d (aV Z) ?_;refine dZ 8 Z Z ld ld ld Z d (fJ Z) ?_;refine dZ 9 Z Z ld ld ld Z d (bT Z lX Z mX Z dg) ?_;refine dZ 10 Z Z ld ld ld Z d (bT Z nz Z bu Z dg) ?_;refine dZ 11 Z Z ld ld ld Z d (bO cM Z n6) ?_;refine iw 12 ld Z Z (gx Da Z (Az cf h.ok q.i)) Z ?_;clear d;rintro _ l ⟨rfl,e⟩;obtain rfl:=e.symm;refine⟨(bj (bj bI)),λd=>?_⟩;refine dZ 13 Z Z ld ld ld Z d (aU Z) ?_;refine zh ld ?_;clear d;refine aA (fA (λ_:Unit=>True) (λ_=>[(0,pV cb),(4,.int .i64 (dP (du cf q.i)))]) (λ_=>pt cb (cy q)::pt q.hb (cY cf ps pb db qb tb)::pt q.gb (bN z g)::ew z.x.v (g.ls,g.ln)::kH 0 C::R) ?_ ?_);skip;refine jR (aG (aM (aa Z (aV Z) (aa Z (fJ Z) ?_))));refine aa Z (bT Z lX Z mX Z dg) ?_;refine aa Z (bT Z nz Z vH Z dg) ?_;refine aa Z (dW fP aX Z Z (i:=0) Z cl dg) ?_;refine aa Z (bO jP Z (aO Z)) ?_;refine aa Z (z8 Z Z) (aa Z (aU Z) (aI (aA ?_)));refine aB Z ?_ ?_;intro G;omega;intro G;refine aG (aM (aa Z (aV Z) (aa Z (fJ Z) ?_)));refine aa Z (bT Z lX Z mX Z dg) ?_;refine aa Z (bT Z nz Z vH Z dg) ?_;refine aa Z (dW fP aX Z Z (i:=0) Z cl dg) ?_;refine aa Z (bO jP Z (aO Z)) ?_;refine aa Z (nI Z Z) (aa Z (aV Z) ?_);refine so Z Z Z ?_ ?_;intro f;refine aa Z (aV Z) (iu Z Z (aa Z (gL Z Z) (aa Z (z6 Z Z) (aa Z (aU Z) (aI (aA ?_))))));refine aB Z ?_ ?_;intro p;rcases A with u|u<;>first|omega|(obtain⟨j,H⟩:=Option.ne_none_iff_exists'.1 u;rw[H]at p;simp only[dP]at p;omega)
 intro p;refine fH (lY (aA ?_));refine jF () ?_ ?_ ?_;trivial
 · repeat (first|exact cQ|refine cA rfl ?_)
 exact IO;intro f;refine qS Z Z Z Z (aa Z (uG Z Z) (aa Z (aU Z) (aI (aA (Pi Z (fH (lY (aA ?_))))))));refine jF () ?_ ?_ ?_;trivial
 · repeat (first|exact cQ|refine cA rfl ?_)
 exact IO;intro _ _;refine aG (aM (aa Z (aV Z) (aa Z (aV Z) (aF Z (gU call227 Z (o _)) ?_))));rintro _ l ⟨c,n,b,w,D,r,rfl,e⟩;obtain rfl:=e.symm;obtain⟨M,I,s⟩:=F r;refine aa Z (aV Z) (aa Z (jT Z Z) (aa Z (jT Z Z) (aF Z (cP vJ) ?_)));rintro _ _ ⟨y,rfl,rfl⟩;refine eM (eN ny Z Z Z Z Z) ?_;rintro _ _ rfl;refine aa Z (aU Z) (aI (aA (aG (aM (aa Z (aV Z) (aa Z (q9 uy ny Z Z) ?_))))));refine aF Z (gx JJ Z (Ff c n b w I s)) ?_;rintro _ l ⟨rfl,e⟩;obtain rfl:=e.symm;refine aa Z (fJ Z) ?_;refine aa Z (bT Z lX Z mX Z dg) ?_;refine aa Z (bT Z nz Z bu Z dg) ?_;refine eM (iG bu Z Z Z (Qaa Z) SetL.eq) ?_;rintro _ _ rfl;refine aI (aA ?_);refine fA (λ_:Unit=>True) (λ_=>[(5,pV y)]) (λ_=>pt y (ae [.int .i64 (c:Nat),.int .i64 (n:Nat),.int .i64 (b:Nat),.int .i64 w] 230)::pt cb (cy { q with w:=((n+b:Nat):Int) })::pt q.hb (cY cf ps pb db qb tb)::pt q.gb (bN z g)::ew z.x.v (if 0<c then jb g.ls g.ln k else g.ls,if 0<c then gz g.ls g.ln k else g.ln)::kH 0 D::R) ?_ ?_;skip;refine aG (aM ?_);refine aa Z (bT Z nB Z bu Z dg) ?_;refine aa Z (bO cM Z (aO Z)) ?_;refine aa Z (xp Z Z) (aI (aA ?_));refine aB Z ?_ ?_;intro J;refine aM (aa Z (aV Z) (aa Z (fJ Z) ?_));refine aa Z (bT Z lX Z mX Z dg) ?_;refine aa Z (bT Z nz Z qP Z dg) ?_;refine aa Z (bO NT Z (aO Z)) ?_;refine aF Z (eg uE Z (t7 W0 _ q.gb z g)) ?_;rintro _ l ⟨rfl,e⟩;obtain rfl:=e.symm;refine aa Z (aV Z) (aF Z (eg vM Z (ui z.x.v g.ls g.ln k E)) ?_);rintro _ l ⟨rfl,e⟩;obtain rfl:=e.symm;rw[Qad m,Qad m,Qad m,Qae];refine aI (aA ?_);refine jF () ?_ ?_ ?_;trivial
 · repeat (first|exact cQ|refine cA rfl ?_)
 first|rw[Qad (show 0<c by omega),Qad (show 0<c by omega)]|rw[Qab (show ¬0<c by omega),Qab (show ¬0<c by omega)]
 exact IO;intro J;refine fH (aA ?_);refine jF () ?_ ?_ ?_;trivial
 · repeat (first|exact cQ|refine cA rfl ?_)
 first|rw[Qad (show 0<c by omega),Qad (show 0<c by omega)]|rw[Qab (show ¬0<c by omega),Qab (show ¬0<c by omega)]
 exact IO;intro _ _;refine aG (aG (aM ?_));refine aa Z (bT Z nB Z bu Z dg) ?_;refine aa Z (bO cM Z (aO Z)) ?_;refine aa Z (nI Z Z) (aI (aA ?_));refine aB Z ?_ ?_;intro t;refine aG (dY [] 5 mixed Z bI (λd=>?_));refine dZ 0 Z Z ld ld ld Z d (bT Z nB Z bu Z dg) ?_;refine dZ 3 Z Z ld ld ld Z d (aU Z) ?_;refine iw 1 ld Z Z (dJ (bO cM Z (aO Z))) Z ?_;clear d;rintro _ _ ⟨rfl,rfl⟩;refine⟨bI,λd=>?_⟩;refine dZ 2 Z Z ld ld ld Z d (uK ez uC Z (Lq w)) ?_;refine dZ 4 Z Z ld ld ld Z d (aU Z) ?_;refine zh ld ?_;clear d;refine aA (dX (jS (bP (.inl Z) (.cons (bA Z) (.cons (bA Z) .nil)) ?_)));refine⟨_,⟨c,n,b,w,D,r,?_,Z⟩,IO⟩;unfold yC
 first|(rw[Qad (by assumption)];rfl)|(rw[Qab (by assumption)];rfl)
 intro t;refine fH (aA (aG ?_));refine dY [] 5 mixed Z bI (λd=>?_);refine dZ 0 Z Z ld ld ld Z d (bT Z nB Z bu Z dg) ?_;refine dZ 3 Z Z ld ld ld Z d (aU Z) ?_;refine iw 1 ld Z Z (dJ (bO cM Z (aO Z))) Z ?_;clear d;rintro _ _ ⟨rfl,rfl⟩;refine⟨bI,λd=>?_⟩;refine dZ 2 Z Z ld ld ld Z d (uK ez uC Z (eh aq)) ?_;refine dZ 4 Z Z ld ld ld Z d (aU Z) ?_;refine zh ld ?_;clear d;refine aA (dX (bP (.inl Z) (.cons (bA Z) (.cons (bA Z) .nil)) ?_));refine⟨_,⟨c,n,b,w,D,r,?_,Z⟩,IO⟩;unfold yC
 first|(rw[Qad (by assumption)];rfl)|(rw[Qab (by assumption)];rfl)
end
section
open Go.RowKit
theorem VC(h:f<n):jm n f=true:=by simp only[jm,Qas];omega
theorem VD(c:bD fr)(b:f<fr.length)(a:Nat)(d:a+4≤64):BL fr f a 4=0:=by rw[BL,Qad (VC b),sD,Qad];rw[kQ];have:=(c.get b).1;rw[show((f:Int).toNat)=f by omega,this];omega
theorem b7t(h:Nat):IntKind.wrap .u32 (h+1)=((h+1)%4294967296:Nat):=by rw[show(h:Int)+1=((h+1:Nat):Int) by omega];exact PX _
theorem VE(b:Nat)(a:List az)(f:Nat)(c:bD a)(d:f<a.length):sQ W0 308 [pQ b,iQ f] (aH b a::R) (.tuple #[.int .u32 (gW a f 0 4:Nat),iQ 0]) (aH b a::R):=by have e:BL a f 0 4=0:=VD c d 0 cl;refine am func308 ntmps308 ?_;refine ao (ar OB (GX W0 _ b a f 0 4 c)) ?_;rw[e];exact aZ ax
theorem VF(i:Nat):sQ W0 309 [wV i] R (iQ ((4+4*(i %8):Nat):Int)) R:=by refine am func309 ntmps309 ?_;refine ac (kg Z Z cl (by rw[show(8:Int)=((8:Nat):Int)from Z,Qbd aq, <-Int.natCast_emod]:Int.tmod (i:Int) 8=((i %8:Nat):Int))) ?_;refine ac (cv (bS aq)) ?_;refine ac zm (ac (eX (4+4*(i %8))) ?_);exact ki
theorem VG{a:Nat}{off x:Nat}(b:bD fr)(c:f<fr.length)(g:off+4≤64)(d:x<4294967296):sQ W0 172 ([pQ a]++[iQ f,iQ off,iQ 4,wV x]++[]) (aH a fr::R) (iQ 0) (aH a (jn fr f off 4 x)::R):=by
 have e:rk fr f off 4=true:=by
  simp only[rk,Qam];exact⟨VC c,by rw[kQ];omega⟩
 have:=DW (W0:=W0) (R:=R) a fr f off 4 x d b;rw[e]at this;exact this
def yD(fr:List az)(f w:Nat):List az:=jn (jn fr f ((4+4*(gW fr f 0 4%8):Nat):Int) 4 w) f ((0:Nat):Int) 4 ((gW fr f 0 4+1)%4294967296)
theorem b7u(a:Nat)(b:List az)(f w:Nat)(c:bD b)(d:f<b.length)(h:w<4294967296):sQ W0 229 [pQ a,iQ f,wV w] (aH a b::R) (iQ 0) (aH a (yD b f w)::R):=by refine am func229 ntmps229 ?_;refine ao (ar call308 (VE a b f c d)) ?_;apply ap<;>intro e;exact absurd Z e;refine ao (aK call309 (VF _)) ?_;refine ao (sq (us:=[pQ a]) (cs:=[]) Z G1 Z (VG c d aq h)) ?_;apply ap<;>intro g;exact absurd Z g;refine ac (dI Z Z (b7t _)) ?_;refine ao (sq (us:=[pQ a]) (cs:=[]) Z G1 Z (VG (off:=0) (vd c) (by rw[tP];exact d) cl (Qbq _ cl))) ?_;refine ag ⟨_,⟨Z,Z⟩,?_⟩;unfold yD;exact IO
theorem b7v{b:Nat}{a:Nat}(c:bD fr)(d:f<fr.length)(e:a+4≤64):sQ W0 211 ([pQ b]++[iQ f,iQ a,iQ 4]++[]) (aH b fr::R) (.tuple #[wV (gW fr f a 4),iQ 0]) (aH b fr::R):=by have:=GX (W0:=W0) (R:=R) b fr f a 4 c;rw[VD c d a e]at this;exact this
def Iz(x:Nat):Nat:=if 8<x then x-8 else 0
theorem b7w(x:Nat)(b:x<4294967296):sQ W0 310 [wV x] R (wV (Iz x)) R:=by refine iW func310 ntmps310 Z Z ?_;refine aG (aM (aa Z (aU Z) (aI (aA (aG (aG (aM (aa Z (aV Z) (aa Z (xp Z Z) (aI (aA ?_)))))))))));apply aB Z<;>intro a;refine au 3 (ac (mt (x-8)) ?_);refine ag ?_;rw[Iz,Qad aq];exact ax;refine aw (ag ?_);rw[Iz,Qab aq];exact ax
def VH(h n:Nat):Nat:=Iz (u32 ((h:Int)-n))
def IA(h n:Nat):Nat:=u32 ((n:Int)+(VH h n:Nat))
@[reducible] def yE(fr:List az)(f n:Nat):List Value:=
  if gW fr f 0 4=n then[wV 0,wV n,wV 0,.bool false]else[wV (gW fr f ((4+4*(IA (gW fr f 0 4) n %8):Nat):Int) 4),wV (u32 (((IA (gW fr f 0 4) n:Nat):Int)+1)),wV (VH (gW fr f 0 4) n),.bool true]
theorem CJ(b:Nat)(a:List az)(f n:Nat)(d:bD a)(e:f<a.length)(k:n<4294967296):sQ W0 230 [pQ b,iQ f,wV n] (aH b a::R) (.tuple #[.agg (yE a f n).toArray,iQ 0]) (aH b a::R):=by
 obtain⟨h,g⟩:∃h,gW a f 0 4=h:=⟨_,Z⟩
 rw[yE,g];refine am func230 ntmps230 ?_;refine bU λl=>?_;refine ao (ar call308 (VE b a f d e)) ?_;rw[g];apply aB Z<;>intro i;exact absurd Z i;refine aG (aM (aa Z (aV Z) (aa Z (aV Z) (aa Z (gL Z Z) (aa Z (aU Z) (aI (aA ?_)))))));apply aB Z<;>intro j;refine aG (aM (aa Z (aV Z) (aa Z (eH XH yV (aT aX (aT aX (aT aX (aT l6 eG)))) (cJ Z aX Z Z (Qaa Z) SetL.eq eE)) ?_)));refine eM (eN Ja Z Z Z Z Z) ?_;rintro _ _ rfl;refine aa Z (aU Z) (aI (aA (dX (pr (jS (bJ (.cons (bX isAgg389 Ja Z Z) (.cons (bA Z) .nil)) ?_))))));rw[Qad aq];exact ax;refine aw (ac (mY Z Z (iK _)) ?_);refine ao (aK call310 (b7w _ (fy _))) ?_;refine ac (dI Z Z (iK _)) ?_;refine ao (aK call309 (VF _)) ?_;refine ao (sq (us:=[pQ b]) (cs:=[]) Z OB Z (b7v d e aq)) ?_;apply ap<;>intro c;exact absurd Z c;refine aa Z (dI Z Z (iK _)) ?_;refine aa Z (aV Z) (aa Z (eH XH yV (aT aX (aT aX (aT aX (aT l6 eG)))) (cJ Z aX Z Z (Qaa Z) SetL.eq (cJ Z aX Z Z (Qaa Z) SetL.eq (cJ Z aX Z Z (Qaa Z) SetL.eq (cJ Z l6 Z Z (Qaa Z) SetL.eq eE))))) ?_);refine eM (eN Ja Z Z Z Z Z) ?_;rintro _ _ rfl;refine aa Z (aU Z) (aI (aA (dX (bJ (.cons (bX isAgg389 Ja Z Z) (.cons (bA Z) .nil)) ?_))));rw[Qab aq];exact ax
end
end Go.Proofs.YtjaalpinjajaoaaGreatDoor
