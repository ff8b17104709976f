/-
  Part 5 of the proof of HvClocks: rules, and walks of functions. Conditions: none.
-/
import Derived.Test.YtjaalpinjajaoaaGreatDoorHvClocksD
namespace Go.Proofs.YtjaalpinjajaoaaGreatDoor
open Go.Proofs.Tryz
set_option linter.unusedSimpArgs false
set_option linter.unusedVariables false
set_option maxRecDepth 20000
set_option linter.defProp false
set_option synthInstance.maxSize 8192
set_option synthInstance.maxHeartbeats 2000000
variable{W0:World}{R:List HP}
variable{user:Bool}{kind root t:Int}{R:List HP}{l:List Int}{T its:List It}{L:List Ln}{pg pg':List Pl}{fr fr':List az}{ks:List dL}{x:Ln}{d i j n now va w:Nat}{fx:Operand}{p:Pl}{W0:World}
section
open Go.RowKit
@[reducible] def iI(x:Int):List Value:=[.int .i64 x]
theorem vp x:(iI x).length=1:=Z
theorem U0(l:List Int)sp i(h:i<l.length):(l.flatMap iI++sp)[i*1]?=some (iQ (l.getD i 0)):=by have:=tE vp l i 0 sp h cl;rw[QbW]at this;rw[this];simp[List.getD,h]
theorem b3n(l:List Int)sp i x(h:i<l.length):(l.flatMap iI++sp).set (i*1) (iQ x)=(l.set i x).flatMap iI++sp:=
  vT vp l i 0 _ _ sp h cl n4
structure PFI (W0 : World) (fn : FuncId) (us cs : List Value) (C : HP) (p : Int → Bool) : Prop where
  call : ∀ args w, (callFunc fn args).run Tryz.prog w = .ok (.enter fn args) w
  spec : ∀ x R, bE Tryz.prog W0 fn (us ++ [.int .i64 x] ++ cs) (kH 0 C :: R) (fun v B => v = .bool (p x) ∧ B = kH 0 C :: R)
def b3o(l:List Int)(p:Int->Bool)(r:Int):Prop:=(r= -1/\∀i,i<l.length->p (l.getD i 0)=false)\/∃i:Nat,r=(i:Int)/\i<l.length/\p (l.getD i 0)=true/\∀j,j<i->p (l.getD j 0)=false
theorem b3p(l:List Int)(g c:Nat)(b:List Value)(f:FuncId)(d e:List Value)(C:HP)(p:Int->Bool)(h:PFI W0 f d e C p)(n:l.length<1000):sP W0 486 [.slice (some ⟨g,0,none⟩) l.length c,.func (.func f) d.toArray e.toArray] (pt g (ae (l.flatMap iI++b) 3)::kH 0 C::R) (λv B=>∃r,v=iQ r/\B=pt g (ae (l.flatMap iI++b) 3)::kH 0 C::R/\b3o l p r):=by refine am func486 ntmps486 ?_;refine eC (λX:Nat=>X≤l.length/\∀i,i<X->p (l.getD i 0)=false) (λX=>[(0,.slice (some ⟨g,0,none⟩) l.length c),(1,.func (.func f) d.toArray e.toArray),(7,iQ (l.length:Nat)),(8,iQ X)]) (λX=>pt g (ae (l.flatMap iI++b) 3)::kH 0 C::R) (λX=>l.length-X) 0 ?_ ?_;grind;intro j ⟨o,a⟩;refine aw (ap (λm=>?_) λm=>?_);refine ac (cu aq) ?_;refine ac (aY (aO (U0 l b j aq))) ?_;refine ao (sq (us:=d) (cs:=e) Z h.call Z (h.spec (l.getD j 0) _)) ?_;apply ap<;>intro k;exact ag ⟨_,⟨_,Z,Z,.inr ⟨j,Z,aq,k,a⟩⟩,IO⟩;refine ac cK (d8 (j+1) ?_);grind;exact ag ⟨_,⟨-1,Z,Z,.inl ⟨Z,λi q=>a i aq⟩⟩,IO⟩
def rK(p:Int->Bool)(l:List Int):List Int:=l.filter (λx=> !p x)
theorem U1{p:Int->Bool}(h:∀i,i<l.length->p (l.getD i 0)=false):rK p l=l:=Qbp.2 λx b=>by
 obtain⟨i,a,rfl⟩:=Qbi.1 b;have:=h i a;simpa[List.getD,a]using this
theorem Mf{p:Int->Bool}(h:j<l.length):rK p (l.take (j+1))=rK p (l.take j)++(if p (l.getD j 0)then[]else[l.getD j 0]):=by grind[Qap,rK]
structure DelN (p : Int → Bool) (its l : List Int) (i j : Nat) : Prop where
  len : l.length = its.length
  ij : i < j
  jl : j ≤ its.length
  front : l.take i = rK p (its.take j)
  back : ∀ k, j ≤ k → l.getD k 0 = its.getD k 0
theorem b3q{p:Int->Bool}(h:i<l.length)(b:p (l.getD i 0)=true)(a:∀j,j<i->p (l.getD j 0)=false):rK p (l.take (i+1))=l.take i:=by grind[Mf,Qaq,U1]
theorem DelN.skip{p its l i j}(h:DelN p its l i j)(b:j<its.length)(a:p (l.getD j 0)=true):DelN p its l i (j+1):=by refine⟨h.len,by have:=h.ij;omega,aq,?_,λk c=>h.back k aq⟩;rw[h.back j (Qai _)]at a;rw[Mf b,a,Qad Z,Qaq];exact h.front
theorem DelN.move{p its l i j}(h:DelN p its l i j)(b:j<its.length)(a:p (l.getD j 0)=false):DelN p its (l.set i (l.getD j 0)) (i+1) (j+1):=by have c:=h.ij;have d:=h.len;have e:=h.back j (Qai _);rw[e]at a ⊢;refine⟨by rw[Qal];exact d,aq,aq,?_,λk f=>?_⟩;rw[Mf b,a,Qab (by decide), <-h.front,Qap (by rw[Qal];omega),List.getElem_set_self,List.take_set_of_le (Qai _)];rw[<-h.back k aq];simp only[Qao];rw[Qbb aq]
theorem b3r(a:List Int)(g c:Nat)(b:List Value)(f:FuncId)(q s:List Value)(C:HP)(p:Int->Bool)(w:PFI W0 f q s C p)(I:a.length<1000)(J:a.length≤c)(D:c≤maxLen)(E:(a.flatMap iI++b).length=c*1):sP W0 474 [.slice (some ⟨g,0,none⟩) a.length c,.func (.func f) q.toArray s.toArray] (pt g (ae (a.flatMap iI++b) 3)::kH 0 C::R) (λv B=>∃F G,v=.slice F (rK p a).length G/\B=osl 3 1 (.slice F (rK p a).length G) ((rK p a).flatMap iI)::kH 0 C::R):=by
 refine am func474 ntmps474 ?_;refine aF ρ (dj call486 (b3p a g c b f q s C p w I)) ?_;rintro _ K ⟨r,rfl,d,H⟩;subst d;refine aw (aB ρ (λL=>?_) λL=>?_);refine au 8 (ag ?_);have e:∀i,i<a.length->p (a.getD i 0)=false:=by
  rcases H with ⟨_,h⟩|⟨i,h,_⟩;exact h;omega
 rw[U1 e];exact⟨_,⟨_,c,ρ,ρ⟩,jG J D (dy vp a) E⟩;obtain⟨i,rfl,M,x,e⟩:∃i:Nat,r=(i:Int)/\i<a.length/\p (a.getD i 0)=true/\∀j,j<i->p (a.getD j 0)=false:=by
  rcases H with ⟨h,_⟩|h;omega;exact h
 refine aw (ac (eX (i+1)) ?_);refine eC (λX:List Int×Nat×Nat=>DelN p a X.1 X.2.1 X.2.2) (λX=>[(0,.slice (some ⟨g,0,none⟩) a.length c),(1,.func (.func f) q.toArray s.toArray),(5,iQ X.2.1),(6,iQ X.2.2)]) (λX=>pt g (ae (X.1.flatMap iI++b) 3)::kH 0 C::R) (λX=>a.length-X.2.2) (a,i,i+1) ?_ ?_;exact⟨ρ,Nat.lt_succ_self _,by show i+1≤a.length;omega,(b3q M x e).symm,λ_ _=>ρ⟩;intro ⟨l,m,j⟩ hD;dsimp only at hD ⊢;have T:=hD.len;have N:=hD.ij;have O:=hD.jl;refine aw (aB ρ (λP=>?_) λP=>?_);refine au 2 (fA (λZ:List Int×Nat=>DelN p a Z.1 Z.2 (j+1)) (λZ=>[(0,.slice (some ⟨g,0,none⟩) a.length c),(1,.func (.func f) q.toArray s.toArray),(5,iQ Z.2),(6,iQ j)]) (λZ=>pt g (ae (Z.1.flatMap iI++b) 3)::kH 0 C::R) ?_ ?_);refine au 5 (ac (cu aq) ?_);refine ac (aY (aO (U0 l b j aq))) ?_;refine ao (sq (us:=q) (cs:=s) ρ w.call ρ (w.spec (l.getD j 0) _)) ?_;apply ap<;>intro y;have k:p (l.getD j 0)=false:=by simpa using y
 refine ac (cu aq) ?_;refine aJ (fg (by rw[Qaf,dy vp];omega) (b3n l b m (l.getD j 0) aq)) ?_;refine ac (eX (m+1)) ?_;exact cZ (l.set m (l.getD j 0),m+1) (hD.move aq k);have k:p (l.getD j 0)=true:=by simpa using y
 exact cZ (l,m) (hD.skip aq k);intro ⟨Q,S⟩ hD2;refine aw (ac (eX (j+1)) ?_);refine d8 (Q,S,j+1) ?_ (hμ:=?_);exact hD2;show a.length-(j+1)<a.length-j;omega;refine aw ?_;obtain rfl:j=a.length:=aq;have n:=hD.front;rw[QaJ (Qai _)]at n;have A:(rK p a).length=m:=by rw[<-n,QaB];omega
 refine ac (DC jE bu ρ ρ ρ aq aq (Qac _)) ?_;refine eM (Kl jE pq (by simp[Value.cells,Value.oneCell']) ρ aq (by rw[Qaf,dy vp];show m*1+(a.length-m)*1≤_;omega)) ?_;rintro _ K ⟨u,o,rfl,d⟩;subst d;replace o:u.length=(a.length-m)*1:=o;have t:ee (l.flatMap iI++b) (m*1) u=(rK p a).flatMap iI++(u++b):=by
  rw[vS _ _ _ (by rw[Qaf,dy vp];omega),K9 vp l m b (by omega),n,show m*1+u.length=l.length*1 by omega,Dq vp l l.length b (Qai _)];simp
 rw[t];refine aw (ac (qd jE bu ρ ρ ρ aq) ?_);refine ag ?_;rw[A];exact⟨_,⟨_,_,ρ,ρ⟩,jG aq D (by rw[dy vp,A]) (by rw[<-E];simp only[Qaf,dy vp,A,o];omega)⟩
theorem b3s(g:Nat)(x y:Int):sP W0 475 [.slice (some ⟨g,0,none⟩) 2 2] (pt g (ae [iQ x,iQ y] 3)::R) (λv B=>∃(l:List Int) (sp:List Value),v=.slice (some ⟨g,0,none⟩) l.length 2/\l=(if x=y then[x]else[x,y])/\(l.flatMap iI++sp).length=2/\B=pt g (ae (l.flatMap iI++sp) 3)::R):=by
 refine jj 13 func475 ntmps475 ?_;refine et (eC (λk:Nat=>k=1\/(k=2/\x≠y)) (λk=>[(0,.slice (some ⟨g,0,none⟩) 2 2),(3,iQ k)]) (λk=>pt g (ae [iQ x,iQ y] 3)::R) (λk=>2-k) 1 ?_ ?_);omega;intro k hk;refine aw (ap (λc4=>?_) λc4=>?_);obtain rfl:k=1:=by
  omega
 refine bH [g] 10 λhS=>?_;refine aj 0 2 hS ?_;refine aE 2 hS (kP jE bu Z Z (j:=1) Z cl dg) ?_;refine aj 3 3 hS ?_;refine aE 6 hS jt ?_;refine aE 7 hS (kP jE bu Z Z (j:=0) Z cl dg) ?_;refine aj 8 2 hS ?_;refine aS (ap (λc6=>?_) λc6=>?_);refine ac (DC jE bu Z Z (i:=1) Z cl cl (Qac _)) ?_;refine eC (λj:Nat=>j=1) (λj=>[(0,.slice (some ⟨g,0,none⟩) 2 2),(3,iQ 1),(4,.slice (some ⟨g,1,none⟩) 1 1),(5,iQ j)]) (λj=>pt g (ae [iQ x,iQ y] 3)::R) (λj=>2-j) 1 ?_ ?_;rfl;intro j hj;refine aw (aB Z (λc9=>?_) λc9=>?_);omega;refine aw (ac (DC jE bu Z Z (i:=1) Z cl cl (Qac _)) ?_);refine eM (Kl jE pq (by simp[Value.cells,Value.oneCell']) Z cl (Qaa Z)) ?_;rintro _ B_ ⟨vs,hvs,rfl,hB_⟩;subst hB_;obtain⟨v,rfl⟩:∃v,vs=[v]:=by
  rcases vs with _|⟨v,_|⟨w,vs⟩⟩;exact absurd hvs cl;grind;exact absurd hvs (by simp[Value.cells])
 refine aw (ac (qd jE bu Z Z (h:=1) Z cl) ?_);refine ag ?_;have hxy:x=y:=aq;exact⟨_,⟨[x],[v],Z,by rw[Qad hxy],Z,Z⟩,(inferInstance:Ent (pt g (ae [iQ x,v] 3)::R) (pt g (ae [iQ x,v] 3)::R))⟩;refine ac (dI Z Z (by rw[bS aq];rfl:IntKind.wrap .i64 (1+1)=((2:Nat):Int))) ?_;exact d8 2 (.inr ⟨Z,aq⟩);refine ag ?_;have hxy:x≠y:=by
  rcases hk with h|h;omega;exact h.2
 exact⟨_,⟨[x,y],[],Z,by rw[Qab hxy],Z,Z⟩,(inferInstance:Ent (pt g (ae [iQ x,iQ y] 3)::R) (pt g (ae [iQ x,iQ y] 3)::R))⟩
theorem b3t W0 b L(a:L.length≤1000):PFI W0 476 [pQ b] [] (bB [cj b L]) (j6 L):=⟨call476,λx R=>by
 refine qW ?_;simp only[Qau,Qar];refine cF (b2W b L a x) λv B c=>?_;obtain⟨rfl,rfl⟩:=c
 exact⟨_,⟨Z,Z⟩,inferInstance⟩⟩
theorem b3u(b:Nat)(L:List Ln)(j:L.length≤1000)(r l:Int):sP W0 446 [pQ b,iQ r,iQ l] (cj b L::R) (λv B=>∃a c,v=.slice a (oY L r l).length c/\B=osl 3 1 (.slice a (oY L r l).length c) ((oY L r l).flatMap iI)::cj b L::R):=by
 refine am func446 ntmps446 ?_;refine ac (uT Z Z (r:=min r l) aq) ?_;refine ac (xD Z Z (r:=max r l) aq) ?_;refine dh (lG jE bu pq Z Z Z Z Z cl cl) λg=>?_;refine aF Z (ar call475 (b3s g (min r l) (max r l))) ?_;rintro _ k ⟨f,i,rfl,m,e,d⟩;subst d;have h:rK (j6 L) f=oY L r l:=by
  grind[oY,rK]
 have n:f.length≤2:=mv;refine aw (aF Z (qe (B:=pt g (ae (f.flatMap iI++i) 3)::kH 0 (bB [cj b L])::R) inferInstance (aK call474 (b3r f g 2 i 476 [pQ b] [] _ _ (b3t W0 b L j) aq n n5 e))) ?_);rintro _ k ⟨a,c,rfl,d⟩;subst d;rw[h];refine Gx ?_;simp only[Qau,Qar];exact aw (ag ⟨_,⟨a,c,Z,Z⟩,IO⟩)
theorem b3v(L:List Ln)sp i hi:((L.flatMap dM++sp).drop (i*7)).take 7=dM L[i]:=uM rJ L i sp hi
theorem U2(L:List Ln)sp i j hi(a:j<7):(L.flatMap dM++sp)[i*7+j]?=(dM L[i])[j]?:=tE rJ L i j sp hi a
theorem U3(L:List Ln)sp i hi:(L.flatMap dM++sp).set (i*7+4) (iQ (jx L[i].e.2.2))=(L.set i L[i].nar).flatMap dM++sp:=
  vT rJ L i 4 _ _ sp hi cl Z
theorem b3w{A:List HP}{g:Nat}{sp:List Value}[h:Tk pt g A (ae (L.flatMap dM++sp) 551) R]:bZ (aQ W0 A) (some ⟨g,0,none⟩) 7 dM L:=λi x a=>by
 obtain⟨b,rfl⟩:=QbH.1 a;refine⟨g,0,Z,?_⟩;rw[Qac];exact cT (b3v L sp i b) Z
theorem b3x(b:Nat)(c:Value):sQ W0 402 [pQ b] (pt b (ae [c,.bool true] 482)::R) (.bool false) (pt b (ae [c,.bool true] 482)::R):=by refine am func402 ntmps402 ?_;apply d7 Z Z Z<;>intro a;cases a;exact aw (ag ax)
theorem b3y(b:Nat)(L:List Ln)(B:L.length≤1000)(a:Option Addr)(n c:Nat)(r:L.length=n)(s:bZ (aQ W0 (pt b (ae [.slice a n c,.bool true] 482)::R)) a 7 dM L)(p:Int):sQ W0 476 [pQ b,iQ p] (pt b (ae [.slice a n c,.bool true] 482)::R) (.bool (j6 L p)) (pt b (ae [.slice a n c,.bool true] 482)::R):=by
 subst r;refine am func476 ntmps476 ?_;refine ao (ar D8 (b3x b _)) ?_;refine eC (λi:Nat=>i≤L.length/\∀j (f:j<L.length),j<i->L[j].thr p=false) (λi=>[(0,pQ b),(1,iQ p),(12,iQ (L.length:Nat)),(13,iQ i)]) (λ_=>pt b (ae [.slice a L.length c,.bool true] 482)::R) (λi=>L.length-i) 0 ?_ ?_;grind;intro i ⟨C,t⟩;refine aw (aB Z (λu=>?_) λu=>?_);refine au 11 ?_;have d:i<L.length:=aq;obtain⟨g,o,k,l⟩:=s.at_ d;obtain⟨x,h⟩:∃x,L[i]=x:=⟨_,Z⟩
 have e:x.thr p=true->j6 L p=true:=λq=>Ab.2 ⟨x,by rw[<-h];exact QaC d,q⟩;have v:x.thr p=false->∀j (f:j<L.length),j<i+1->L[j].thr p=false:=λq j f w=>by
  rcases Qaz j i with y|y;grind;grind
 rw[h]at l;refine aw (ac (g7 qQ xj Z k Z Z d dg) ?_);refine ao (aK OK (HK g (o+i*7) x l p)) ?_;apply ap<;>intro m;refine ag ?_;rw[e m];exact ax;refine ac cK (d8 (i+1) ?_);grind;refine aw (ag ?_);have A:j6 L p=false:=by
  rw[<-QaI,Ab];rintro⟨x,h,q⟩;obtain⟨j,f,rfl⟩:=Qby h;rw[t j f aq]at q;cases q
 rw[A];exact ax
def me(r l:Int)(L:List Ln)(i:Nat):List Ln:=(L.take i).map (eK r l)++L.drop i
theorem U4 r l L i(a:i≤L.length):(me r l L i).length=L.length:=by simp[me];omega
theorem b3z{r l:Int}(a:i<L.length):(me r l L i)[i]'(by grind[U4])=L[i]:=by grind[me]
theorem b3A{r l L i}hi:me r l L (i+1)=(me r l L i).set i (eK r l L[i]):=by have a:((L.take i).map (eK r l)).length=i:=aac;unfold me;rw[Qap hi,QaN,QcH,Qbt hi (l:=L),Qcc _ _ aq,a,Nat.sub_self,List.set_cons_zero];simp
theorem b3B(b:Nat)(L:List Ln)(z:Ln)(K:(L++[z]).length≤1000)(C:∀x∈L++[z],i64 x.e.2.2)(r l:Int):sQ W0 449 [pQ b,iQ r,iQ l] (cj b (L++[z])::R) (.tuple #[]) (cj b (Ck ((L++[z]).map (eK r l)))::R):=by
 have h:Ck ((L++[z]).map (eK r l))=L.map (eK r l)++[if j6 ((L++[z]).map (eK r l)) (eK r l z).e.1 then(eK r l z).nar else eK r l z]:=by
  rw[QaN,QcH,TE]
 have k:me r l (L++[z]) (L++[z]).length=(L++[z]).map (eK r l):=by unfold me;rw[QbF,List.drop_length,Qaq]
 obtain⟨M,t⟩:∃M,L++[z]=M:=⟨_,Z⟩
 have u:M.length=L.length+1:=by rw[<-t];simp
 rw[t]at h k K C ⊢;have D:i64 (eK r l z).e.2.2:=by
  have:=C z (by rw[<-t];simp);unfold eK;split;show i64 (jx z.e.2.2);obtain⟨N,O⟩:=this;unfold jx;split
  rename_i P
  have:=Qaw P;exact⟨aq,aq⟩;exact⟨N,O⟩;exact this
 refine am func449 ntmps449 ?_;refine b2U (b:=b) (by intro q;rw[q]at u;simp at u) λg c m U H I=>?_;refine aw (fI (λi:Nat=>i≤M.length) (λi=>[(0,pQ b),(1,iQ r),(2,iQ l),(13,iQ (M.length:Nat)),(14,iQ i)]) (λi=>pt b (ae [.slice (some ⟨g,0,none⟩) M.length c,.bool true] 482)::pt g (ae ((me r l M i).flatMap dM++m) 551)::R) (λi=>M.length-i) 0 ?_ ?_ ?_ ?_);exact Qay _
 · exact ai
 rw[show me r l M 0=M by simp[me]];exact IO;intro i Q;refine aw (aB Z (λS=>?_) λS=>?_);refine au 2 (fA (λ_:Unit=>True) (λ_=>[(0,pQ b),(1,iQ r),(2,iQ l),(13,iQ (M.length:Nat)),(14,iQ i)]) (λ_=>pt b (ae [.slice (some ⟨g,0,none⟩) M.length c,.bool true] 482)::pt g (ae ((me r l M (i+1)).flatMap dM++m) 551)::R) ?_ ?_);refine au 8 ?_;have a:i<M.length:=aq;have p:=U4 r l M i Q;have n:(me r l M i)[i]'(by rw[p];exact a)=M[i]:=b3z a;have o:=b3A (r:=r) (l:=l) a;have s:=C _ (QaC a);have d:=λj E=>U2 (me r l M i) m i j (by rw[p];exact a) E;have f:=U3 (me r l M i) m i (by rw[p];exact a);rw[n]at d f;obtain⟨x,J⟩:∃x,M[i]=x:=⟨_,Z⟩
 rw[J]at o s d f;refine aw (ac (cu a) ?_);refine ac (aY (aO ((d 2 cl).trans Z))) ?_;apply fC<;>intro v;refine ac (cu a) ?_;refine ao (ar Yo (Md g (i*7) ((me r l M i).flatMap dM++m) x.e.2.2 s ((d 4 cl).trans Z))) ?_;rw[f];refine cZ () ?_ (he:=?_);trivial;rw[o,show eK r l x=x.nar from Qad aq];exact IO;apply ap<;>intro T;refine ac (cu a) ?_;refine ao (ar Yo (Md g (i*7) ((me r l M i).flatMap dM++m) x.e.2.2 s ((d 4 cl).trans Z))) ?_;rw[f];refine cZ () ?_ (he:=?_);trivial;rw[o,show eK r l x=x.nar from Qad aq];exact IO;refine cZ () ?_ (he:=?_);trivial;rw[o,show eK r l x=x from Qab aq,show(me r l M i).set i x=me r l M i by rw[<-J, <-n,Qcs]];exact IO;intro _ _;exact aw (ac cK (d8 (i+1) aq));refine aw ?_;obtain rfl:i=M.length:=aq;rw[k];have w:(M.map (eK r l)).length=M.length:=QaD _;have y:L.length<(M.map (eK r l)).length:=aq;have n:(M.map (eK r l))[L.length]=eK r l z:=by simp[<-t]
 have d:=λj E=>U2 (M.map (eK r l)) m L.length j y E;have f:=U3 (M.map (eK r l)) m L.length y;have F:(M.map (eK r l)).set L.length (eK r l z).nar=L.map (eK r l)++[(eK r l z).nar]:=by
  rw[<-t,QaN,Qcc _ _ n4];simp
 have A:M.map (eK r l)=L.map (eK r l)++[eK r l z]:=by rw[<-t,QaN];rfl
 rw[n]at d f;refine bH [b] 12 λB=>?_;refine aj 0 9 B ?_;refine aE 9 B (mt L.length) ?_;refine aE 10 B (cu aq) ?_;refine aj 11 1 B ?_;refine aS (ac (aY (aO ((d 2 cl).trans Z))) ?_);refine ao (ar call476 (b3y b (M.map (eK r l)) aq (some ⟨g,0,none⟩) M.length c w (b3w (g:=g) (sp:=m)) (eK r l z).e.1)) ?_;apply ap<;>intro G;refine ao (ar Yo (Md g (L.length*7) ((M.map (eK r l)).flatMap dM++m) (eK r l z).e.2.2 D ((d 4 cl).trans Z))) ?_;rw[f,F];refine bP (.inr Z) .nil ?_;rw[h,Qad G];exact⟨_,⟨Z,Z⟩,TQ (b:=b) Z aac aq H (by rw[<-I];simp only[Qaf,dy rJ,QaD,QaR];omega)⟩;refine bP (.inr Z) .nil ?_;rw[h,Qab G, <-A];exact⟨_,⟨Z,Z⟩,TQ (b:=b) Z w.symm aq H (by rw[<-I];simp only[Qaf,dy rJ,QaD])⟩
theorem b3C(l:List Ln)(a:Option Addr)(n c:Nat)(j:l.length=n)(t:n≤1000)(f:bZ (aQ W0 R) a 7 dM l):sP W0 448 [.slice a n c] R (λv B=>∃g i,v=.slice g n i/\B=osl 551 7 (.slice g n i) (l.flatMap dM)::R):=by
 subst j;refine am func448 ntmps448 ?_;refine ac (zo qQ Z Z) ?_;apply aB Z<;>intro e;refine au 7 (ag ?_);have k:l=[]:=by
  rcases l with _|⟨x,l⟩;rfl;obtain⟨b,o,h,_⟩:=f 0 x Z;rw[e]at h;cases h
 subst k;exact g3;have d:=f.src rJ (λ_=>trivial);refine fH (aA (aG (aM (aF Z (zp qQ xj Z) ?_))));rintro _ _ ⟨u,rfl,rfl⟩;refine aw ?_
 refine aF Z (zv (sz:=7) (by_:=56) (info:=Tryz.t551) qQ ld Z Z Z Z cl Z Z (news:=l.flatMap dM) (by
 rcases d with h|⟨m,p,q,r⟩;grind
 right;exact⟨m,p,q,r.weak⟩) (dy rJ l) (M6 TB l) n5 aq) ?_
 rintro _ _ ⟨s,e,rfl,rfl⟩;refine aw (ag ?_);rw[Qac,Qar];exact⟨_,⟨s,e,Z,Z⟩,IO⟩
theorem b3D k e r l L:EM (EL k e r l L)=mM k L++[⟨k,e,r,l⟩]:=by grind[EM,EL,mM]
theorem b3E{α S a g o sz f}{c:List α}(h:bZ S a sz f c)(d:a=some ⟨g,o,none⟩):bZ S (some ⟨g,o+sz,none⟩) sz f c.tail:=λi x l=>by
 obtain⟨b,j,e,k⟩:=h (i+1) x mv;rw[d]at e;cases e;exact⟨g,o+sz,Z,by rw[show o+sz+i*sz=o+(i+1)*sz by rw[Qck];omega];exact k⟩
theorem b3F(b:Nat)(L:List Ln)(O:L.length≤32)(hr:∀x∈L,i64 x.e.2.2)(k:dL)(e:lO)(he:i64 e.2.2)(r l:Int)(P:Ad r=true)(Q:Ad l=true):sP W0 412 [pQ b,.agg (jo k).toArray,.agg (pL e).toArray,iQ r,iQ l] (cj b L::R) (λv B=>∃a c,v=.tuple #[.slice a (oY L r l).length c,iQ 0]/\B=osl 3 1 (.slice a (oY L r l).length c) ((oY L r l).flatMap iI)::cj b (oZ k e r l L)::R):=by
 have u:L.filter (λx=> !(decide (x.k=k)))=L.filter λx=>decide (x.k≠k):=by
  grind
 obtain⟨M,G⟩:∃M,(L.filter λx=>decide (x.k≠k))=M:=⟨_,ρ⟩
 have S:M.length≤32:=mv;have H:mM k L=if 31<M.length then M.tail else M:=by rw[mM,G]
 have T:=TN (k:=k) O;have C:∀x∈mM k L++[(⟨k,e,r,l⟩:Ln)],i64 x.e.2.2:=λx U=>by
  rcases Qba.1 U with q|q;grind[M8];grind
 have V:oZ k e r l L=Ck ((mM k L++[(⟨k,e,r,l⟩:Ln)]).map (eK r l)):=by rw[oZ,b3D]
 obtain⟨j,w⟩:∃f,oY L r l=f:=⟨_,ρ⟩
 rw[w,V];refine am func412 ntmps412 ?_;refine bR λA=>?_;refine bR λI=>?_;refine ao (ar D8 (Cl b L)) ?_;refine ao (aK call445 (TR r)) ?_;rw[P];apply ap<;>intro h;exact absurd ρ h;refine ao (aK call445 (TR l)) ?_;rw[Q];apply aB ρ<;>intro y;exact absurd ρ y;refine fH (lY (aA (aG (aM (aa ρ (aV ρ) (aa ρ (aV ρ) (aa ρ (aV ρ) ?_)))))));refine aF ρ (ar call446 (b3u b L aq r l)) ?_;rintro _ J ⟨o,p,rfl,m⟩;subst m;rw[w];refine aa ρ (aU ρ) (aI (aA (aG (aM (aa ρ (aV ρ) (aa ρ (Bn ρ ρ) ?_))))));refine aF ρ (qe (B:=cj b L::kH 0 (bB [pt A (ae (jo k) 504)])::osl 3 1 (.slice o j.length p) (j.flatMap iI)::pt I (ae (pL e) 500)::R) inferInstance (aK OL (HM b L aq 447 [pQ A] _ _ (b2X W0 A k)))) ?_;rintro _ J ⟨ak,ck,rfl,m⟩;subst m;rw[u,G];refine Gx ?_;simp only[Qau,Qar];refine EN (b:=b) λa c=>?_;refine aI (aA ?_);refine fA (λX:Option Addr×Nat=>True) (λX=>[(0,pQ b),(3,iQ r),(4,iQ l),(12,.slice o j.length p)]) (λX=>pt b (ae [.slice X.1 (M.length+1) X.2,.bool true] 482)::osl 551 7 (.slice X.1 (M.length+1) X.2) (M.flatMap dM++dM (⟨k,e,r,l⟩:Ln))::osl 3 1 (.slice o j.length p) (j.flatMap iI)::R) ?_ ?_;refine bH [A,I] 16 λd=>?_;refine aj 0 4 d ?_;refine aj 5 2 d ?_;refine aE 7 d (eH XK Ol (aT vG (aT xh eG)) (iU ρ vG ρ ρ (Qaa ρ) SetRL.eq (iU ρ xh ρ ρ (Qaa ρ) SetRL.eq eE))) ?_;refine aj 8 2 d ?_;refine aE 10 d (eH c2g Jo (aT xi (aT bu (aT bu eG))) (iU ρ xi ρ ρ (Qaa ρ) SetRL.eq (cJ ρ bu ρ ρ (Qaa ρ) SetL.eq (cJ ρ bu ρ ρ (Qaa ρ) SetL.eq eE)))) ?_;refine fp (is:=[4,11]) ld ρ ⟨?_,?_,trivial⟩;refine dB (dJ (aY (aO ρ))) ?_;clear d;rintro _ _ ⟨rfl,rfl⟩;refine⟨aW,λd=>?_⟩;refine iw 11 ld ρ ρ (ji qQ xj Jo ρ (fK ρ ρ iH) ρ cl cl cl) ρ ?_;clear d;rintro _ _ ⟨W,rfl,rfl⟩;rw[show([dM (⟨k,e,r,l⟩:Ln)]:List (List Value)).flatten=dM (⟨k,e,r,l⟩:Ln)from Qaq _];refine⟨aW,λd=>?_⟩;refine co 12 (fR (sz:=7) (by_:=56) (info:=Tryz.t551) qQ ld ρ ρ ρ ρ cl ρ ρ eQ ρ ρ n5 aq) ?_;clear d;rintro _ _ ⟨s,h,rfl,rfl⟩;refine⟨aW,λd=>?_⟩;refine aj 13 2 d ?_;refine cp 15 dr λd=>?_;exact eY (aA (cZ (s,h) trivial));skip;refine lH ρ ρ (ji qQ xj Jo ρ (fK ρ ρ iH) ρ cl cl cl) ρ ?_;clear d;rintro _ _ ⟨W,rfl,rfl⟩;rw[show([dM (⟨k,e,r,l⟩:Ln)]:List (List Value)).flatten=dM (⟨k,e,r,l⟩:Ln)from Qaq _];refine⟨aW,λd=>?_⟩;refine bQ 4 (dJ (aY (aO ρ))) λd=>?_;refine co 12 (fR (sz:=7) (by_:=56) (info:=Tryz.t551) qQ ld ρ ρ ρ ρ cl ρ ρ eQ ρ ρ n5 aq) ?_;clear d;rintro _ _ ⟨s,h,rfl,rfl⟩;refine⟨aW,λd=>?_⟩;refine aj 13 2 d ?_;refine cp 15 dr λd=>?_;exact aS (cZ (s,h) trivial);intro ⟨s,h⟩ _;dsimp only;refine fA (λ_:Unit=>True) (λ_=>[(0,pQ b),(3,iQ r),(4,iQ l),(12,.slice o j.length p)]) (λ_=>cj b (mM k L++[(⟨k,e,r,l⟩:Ln)])::osl 3 1 (.slice o j.length p) (j.flatMap iI)::R) ?_ ?_
 refine au 10 (ap (λY=>?_) λY=>?_);have t:(M.flatMap dM++dM (⟨k,e,r,l⟩:Ln))=(M++[(⟨k,e,r,l⟩:Ln)]).flatMap dM:=mv;refine oB (E:=551) (sz:=7) (a:=s) (c:=h) (n:=M.length+1) (ys:=M.flatMap dM++dM (⟨k,e,r,l⟩:Ln)) (λZ=>?_);obtain⟨g,rfl⟩:=BA Z (by simp[dM]);refine qZ (E:=551) (sz:=7) (a:=some ⟨g,0,none⟩) (c:=h) (n:=M.length+1) (λK=>?_);refine jV (E:=551) (sz:=7) (a:=some ⟨g,0,none⟩) (c:=h) (n:=M.length+1) dM (M++[(⟨k,e,r,l⟩:Ln)]) rJ cl t (λhs=>?_);refine aw (ac (DC (o':=0+7) qQ xj ρ ρ (i:=1) ρ aq aq ρ) ?_);refine aF ρ (aK call448 (b3C ((M++[(⟨k,e,r,l⟩:Ln)]).tail) (some ⟨g,0+7,none⟩) (M.length+1-1) (h-1) n4 aq (b3E hs ρ))) ?_;rintro _ J ⟨N,y,rfl,m⟩;subst m;refine aw (aJ dr (cZ () ?_ (he:=?_)));trivial;have D:M≠[]:=mv;have F:(M++[(⟨k,e,r,l⟩:Ln)]).tail=M.tail++[(⟨k,e,r,l⟩:Ln)]:=List.tail_append_of_ne_nil D;rw[H,Qad aq, <-F];exact Ent.trans (B:=pt b (ae [.slice N (M.length+1-1) y,.bool true] 482)::osl 551 7 (.slice N (M.length+1-1) y) ((M++[(⟨k,e,r,l⟩:Ln)]).tail.flatMap dM)::osl 3 1 (.slice o j.length p) (j.flatMap iI)::R) inferInstance (Ac (b:=b) n4);refine cZ () ?_ (he:=?_);trivial;rw[H,Qab aq];have t:(M.flatMap dM++dM (⟨k,e,r,l⟩:Ln))=(M++[(⟨k,e,r,l⟩:Ln)]).flatMap dM:=mv;rw[t];exact Ent.trans (B:=pt b (ae [.slice s (M.length+1) h,.bool true] 482)::osl 551 7 (.slice s (M.length+1) h) ((M++[(⟨k,e,r,l⟩:Ln)]).flatMap dM)::osl 3 1 (.slice o j.length p) (j.flatMap iI)::R) inferInstance (Ac (b:=b) n4);intro _ _;refine aw (ao (ar call449 (b3B b (mM k L) (⟨k,e,r,l⟩:Ln) aac C r l)) ?_);exact aZ ⟨_,⟨o,p,ρ,ρ⟩,IO⟩
structure WS where
  on : Bool
  r : Int
  p : Int
  fault : Int
  root : Int
  leaf : Int
@[reducible] def yi(s:WS):List Value:=[.bool s.on,.int .i64 s.r,.int .i64 s.p,.int .i64 s.fault,.int .i64 s.root,.int .i64 s.leaf]
def wI:WS:=⟨false,0,0,0, -1, -1⟩
abbrev yj(pv va:Nat)(s:WS):Obj:=ae (.pointer (some ⟨pv,0,none⟩)::.int .u32 va::yi s) 537
theorem U5(x:Int):(x != 0)= !decide (x=0):=by by_cases q:x=0<;>simp[q]
theorem EQ(a b c:Nat)(s:WS)(f:Int):sQ W0 394 [pQ a,iQ f] (pt a (yj b c s)::R) (.bool (f != 0)) (pt a (yj b c { s with fault:=f })::R):=by refine am func394 ntmps394 ?_;exact aJ dr (ag ax)
def pO(fr:List az)(pg:List Pl)(va:Nat)(a:Int)(s:WS):WS:=
  if j4 fr.length pg a (va/1024)then { s with root:=a,fault:=zT (iM fr pg a (va/1024)) }else { s with fault:=3 }
def jq(fr:List az)(pg:List Pl)(va:Nat)(a:Int):Int:=if j4 fr.length pg a (va/1024)then Eo (iM fr pg a (va/1024))else 0
def mP(fr:List az)(pg:List Pl)(va:Nat)(a:Int):Bool:=j4 fr.length pg a (va/1024)&&decide (zT (iM fr pg a (va/1024))=0)
theorem U6{w:Nat}:pY .u32 w 10=(w/1024:Nat):=uV (s:=10) cl
theorem U7{w:Nat}:pY .u32 w 6=(w/64:Nat):=uV (s:=6) cl
theorem b3G(i g m n d:Nat)(c:List az)(e:List Pl)(h:Pgs e)(o:bD c)(b:Nat)(p:b<4294967296)(s:WS)(a:Int):sQ W0 396 [pQ i,iQ a] (pt i (yj g b s)::df g m n d c e R) (.tuple #[iQ (jq c e b a),.bool (mP c e b a)]) (pt i (yj g b (pO c e b a s))::df g m n d c e R):=by by_cases j:j4 c.length e a (b/1024)=true;rw[jq,Qad j,pO,Qad j,mP,j,QbU];refine am func396 ntmps396 ?_;refine bH [i] 16 λf=>?_;refine aj 0 9 f ?_;refine aE 9 f (pu Z Z cl U6) ?_;refine bQ 10 (dF OM (Hh g m n d c e h o a (b/1024) aq)) λf=>?_;refine aj 11 5 f ?_;refine aS (ap (λk=>?_) λk=>?_);exact absurd j k;refine aJ dr (ao (aK call441 (b0e (iM c e a (b/1024)) (S7 o _ _ _))) ?_);refine ao (ar JA (EQ i g b { s with root:=a } _)) ?_;refine aZ (aP ?_);simp[bY];exact U5 _;have l:j4 c.length e a (b/1024)=false:=mv;rw[jq,Qab j,pO,Qab j,mP,l,Qda];refine am func396 ntmps396 ?_;refine bH [i] 16 λf=>?_;refine aj 0 9 f ?_;refine aE 9 f (pu Z Z cl U6) ?_;refine bQ 10 (dF OM (Hh g m n d c e h o a (b/1024) aq)) λf=>?_;refine aj 11 5 f ?_;refine aS (ap (λk=>?_) λk=>?_);refine ao (ar JA (EQ i g b _ _)) ?_;exact aZ ax;exact absurd (by rw[l];decide) k
def wJ(fr:List az)(pg:List Pl)(va:Nat)(a:Int)(s:WS):WS:=
  if j4 fr.length pg a (va/64)then { s with leaf:=a,on:=wq (iM fr pg a (va/64)),r:=wt (iM fr pg a (va/64)),p:=wu (iM fr pg a (va/64)),fault:=ww (iM fr pg a (va/64)) }else { s with fault:=3 }
def HO(fr:List az)(pg:List Pl)(va:Nat)(a:Int):Bool:=j4 fr.length pg a (va/64)&&decide (ww (iM fr pg a (va/64))=0)
theorem b3H(i g l m d:Nat)(c:List az)(e:List Pl)(h:Pgs e)(o:bD c)(b:Nat)(q:b<4294967296)(s:WS)(a:Int):sQ W0 398 [pQ i,iQ a] (pt i (yj g b s)::df g l m d c e R) (.bool (HO c e b a)) (pt i (yj g b (wJ c e b a s))::df g l m d c e R):=by by_cases n:j4 c.length e a (b/64)=true;rw[wJ,Qad n,HO,n,QbU];refine am func398 ntmps398 ?_;refine bH [i] 16 λf=>?_;refine aj 0 9 f ?_;refine aE 9 f (pu Z Z cl U7) ?_;refine bQ 10 (dF OM (Hh g l m d c e h o a (b/64) aq)) λf=>?_;refine aj 11 5 f ?_;refine aS (ap (λj=>?_) λj=>?_);exact absurd n j;refine aJ dr (ao (aK call442 (b0g (iM c e a (b/64)) (S7 o _ _ _))) ?_);rw[Ep];refine bU λt=>?_;refine aJ aR (aJ (kh (Qaa Z) SetRL.eq) ?_);refine ao (ar JA (EQ i g b { s with leaf:=a,on:=wq (iM c e a (b/64)),r:=wt (iM c e a (b/64)),p:=wu (iM c e a (b/64)) } _)) ?_;refine ag (aP ?_);simp[bY];exact U5 _;have k:j4 c.length e a (b/64)=false:=mv;rw[wJ,Qab n,HO,k,Qda];refine am func398 ntmps398 ?_;refine bH [i] 16 λf=>?_;refine aj 0 9 f ?_;refine aE 9 f (pu Z Z cl U7) ?_;refine bQ 10 (dF OM (Hh g l m d c e h o a (b/64) aq)) λf=>?_;refine aj 11 5 f ?_;refine aS (ap (λj=>?_) λj=>?_);refine ao (ar JA (EQ i g b _ _)) ?_;exact ki;exact absurd (by rw[k];decide) j
def j7(fr:List az)(pg:List Pl)(root:Int)(va:Nat):Nat->WS×Int
 |0=>(wI,root)
 |1=>(if va<16384 then wI else { wI with fault:=2 },root)
 |2=>(pO fr pg va root wI,jq fr pg va root)
 |_=>(wJ fr pg va (jq fr pg va root) (pO fr pg va root wI),jq fr pg va root)
def o8(fr:List az)(pg:List Pl)(root:Int)(va:Nat):Nat->Bool
 |0=>decide (va<16384)
 |1=>mP fr pg va root
 |_=>HO fr pg va (jq fr pg va root)
def dp(fr:List az)(pg:List Pl)(root:Int)(va:Nat):WS:=
  if va<16384 then(if mP fr pg va root then(j7 fr pg root va 3).1 else(j7 fr pg root va 2).1)else(j7 fr pg root va 1).1
abbrev wK(bva bwp bat bw pv ps pm d:Nat)(fr:List az)(pg:List Pl)(va:Nat)(q:WS×Int)(R:List HP):List HP:=
  pt bva (ae [.int .u32 va] 62)::pt bwp (ae [.pointer (some ⟨bw,0,none⟩)] 535)::pt bat (ae [.int .i64 q.2] 3)::pt bw (yj pv va q.1)::df pv ps pm d fr pg R
theorem b3I W0 R bva bwp bat bw pv ps pm d fr pg root va:
    bE Tryz.prog W0 393 [.pointer (some ⟨bva, 0, none⟩), .pointer (some ⟨bwp, 0, none⟩)] (wK bva bwp bat bw pv ps pm d fr pg va (j7 fr pg root va 0) R)
      (λv B=>v=.bool (o8 fr pg root va 0)/\B=wK bva bwp bat bw pv ps pm d fr pg va (j7 fr pg root va 1) R):=by
 refine iW func393 ntmps393 rfl rfl ?_;refine aG (aM (aa rfl (aU rfl) (aI (aA (aG (aM (aa rfl (bO jP rfl (aO rfl)) ?_)))))));refine aa rfl (tB rfl rfl) (aa rfl (aV rfl) ?_);apply d7 rfl rfl rfl<;>intro b;refine qS rfl rfl rfl rfl ?_;refine qS rfl rfl rfl rfl (aa rfl (z6 rfl rfl) (aa rfl (aU rfl) (aI (aA (dX (bP (.inl rfl) (.cons (bA rfl) .nil) ?_))))))
 first
   | (have a : va < 16384 := by omega
      simp only[j7,o8,Qad a,Qav a]
      exact⟨_,⟨rfl,rfl⟩,inferInstance⟩)
   | (have a : ¬ va < 16384 := by omega
      simp only[j7,o8,Qab a,Qat a]
      exact⟨_,⟨rfl,rfl⟩,inferInstance⟩)
 refine aa rfl (bO isAgg535 rfl (aO rfl)) ?_;refine iu rfl rfl (aF rfl (eg JA rfl (EQ bw pv va wI 2)) ?_);rintro _ e ⟨rfl,c⟩;subst c;refine iu rfl rfl (aa rfl (vN rfl) (aa rfl (uG rfl rfl) (aa rfl (aU rfl) (aI (aA (dX (bP (.inl rfl) (.cons (bA rfl) .nil) ?_)))))))
 first
   | (have a : va < 16384 := by omega
      simp only[j7,o8,Qad a,Qav a]
      exact⟨_,⟨rfl,rfl⟩,inferInstance⟩)
   | (have a : ¬ va < 16384 := by omega
      simp only[j7,o8,Qab a,Qat a]
      exact⟨_,⟨rfl,rfl⟩,inferInstance⟩)
theorem b3J(i b c j k l m d:Nat)(e:List az)(f:List Pl)(h:Pgs f)(o:bD e)(a:Int)(g:Nat)(n:g<16384):sQ W0 395 [.pointer (some ⟨b,0,none⟩),.pointer (some ⟨c,0,none⟩)] (wK i b c j k l m d e f g (j7 e f a g 1) R) (.bool (o8 e f a g 1)) (wK i b c j k l m d e f g (j7 e f a g 2) R):=by simp only[j7,o8,Qad n];refine jj 9 func395 ntmps395 ?_;refine cW 10 (gU call396 Z (b3G j k l m d e f h o g aq wI a)) ?_;refine fw 9 (iG bu Z Z Z (Qaa Z) SetL.eq) ?_;exact ki
theorem b3K(i f g j k l m d:Nat)(b:List az)(c:List Pl)(h:Pgs c)(n:bD b)(a:Int)(e:Nat)(o:e<16384):sQ W0 397 [.pointer (some ⟨f,0,none⟩),.pointer (some ⟨g,0,none⟩)] (wK i f g j k l m d b c e (j7 b c a e 2) R) (.bool (o8 b c a e 2)) (wK i f g j k l m d b c e (j7 b c a e 3) R):=by simp only[j7,o8];refine jj 9 func397 ntmps397 ?_;refine cW 4 (gU call398 Z (b3H j k l m d b c h n e aq _ (jq b c e a))) ?_;exact ki
def Cn(bva bwp bat:Nat):List Value:=[.func (.func 393) #[] #[.pointer (some ⟨bva,0,none⟩),.pointer (some ⟨bwp,0,none⟩)],.func (.func 395) #[] #[.pointer (some ⟨bwp,0,none⟩),.pointer (some ⟨bat,0,none⟩)],.func (.func 397) #[] #[.pointer (some ⟨bwp,0,none⟩),.pointer (some ⟨bat,0,none⟩)]]
theorem b3L{W0 N e R bva bwp bat bw pv ps pm d fr pg root va i fx v}(h:Pgs pg)(g:bD fr)(k:i<3)(b:∀m,m<i->o8 fr pg root va m=true)(c:(Cn bva bwp bat)[i]?=some v)(f:ev e fx=some v):
    dq Tryz.prog W0 N e (wK bva bwp bat bw pv ps pm d fr pg va (j7 fr pg root va i) R) (.call { callee:=.value fx,args:= #[],argTypes:= #[] }) (λv B=>v=.bool (o8 fr pg root va i)/\B=wK bva bwp bat bw pv ps pm d fr pg va (j7 fr pg root va (i+1)) R):=by have j:i=0\/i=1\/i=2:=aq;rcases j with rfl|rfl|rfl;cases c;exact iV (us:=[]) (vs:=[]) (cs:=[pQ bva,pQ bwp]) f call393 Z (b3I W0 R bva bwp bat bw pv ps pm d fr pg root va);cases c;have a:va<16384:=Qaw (b 0 cl);exact iV (us:=[]) (vs:=[]) (cs:=[pQ bwp,pQ bat]) f call395 Z (b3J bva bwp bat bw pv ps pm d fr pg h g root va a);cases c;have a:va<16384:=Qaw (b 0 cl);exact iV (us:=[]) (vs:=[]) (cs:=[pQ bwp,pQ bat]) f call397 Z (b3K bva bwp bat bw pv ps pm d fr pg h g root va a)
theorem b3M{fr pg root va i}(e:i<3)(a:∀m,m<i->o8 fr pg root va m=true)(c:o8 fr pg root va i=false):dp fr pg root va=(j7 fr pg root va (i+1)).1:=by
 have d:i=0\/i=1\/i=2:=aq;rcases d with rfl|rfl|rfl;have:¬va<16384:=of_decide_eq_false c;rw[dp,Qab this];have b:va<16384:=Qaw (a 0 cl);have:¬mP fr pg va root=true:=by rw[show mP fr pg va root=false from c];decide
 rw[dp,Qad b,Qab this];have b:va<16384:=Qaw (a 0 cl);rw[dp,Qad b,Qad (show mP fr pg va root=true from a 1 cl)]
theorem b3N{fr pg root va}(a:∀m,m<3->o8 fr pg root va m=true):dp fr pg root va=(j7 fr pg root va 3).1:=by have b:va<16384:=Qaw (a 0 cl);rw[dp,Qad b,Qad (show mP fr pg va root=true from a 1 cl)]
theorem Mg(l o p d:Nat)(b:List az)(c:List Pl)(h:Pgs c)(x:bD b)(a:Int)(e:Nat)(y:e<4294967296):sQ W0 345 [pQ l,iQ a,.int .u32 e] (df l o p d b c R) (.agg (yi (dp b c a e)).toArray) (df l o p d b c R):=by
 refine am func345 ntmps345 ?_;refine dh (fQ Z Z) λj=>?_;refine dT (cP Oj) λs=>?_;refine au 2 (Dz (aw ?_));refine ac (eH c2e zeroValue537 (aT D1 (aT aX (aT CZ eG))) (cJ Z D1 Z Z (Qaa Z) SetL.eq (cJ Z aX Z Z (Qaa Z) SetL.eq (iU Z CZ Z Z (Qaa Z) SetRL.eq eE)))) ?_;refine bR λt=>?_;refine dh (pw zeroValue535 Z) λg=>?_;refine aJ dr (dh (pw pq Z) λk=>?_);refine aJ dr ?_;refine dT (lG c2f sizeOf36 zeroValue36 Z Z Z Z Z cl cl) λu=>?_;refine au 4 (De (aw ?_));refine fI (λi:Nat=>i≤3/\∀m,m<i->o8 b c a e m=true) (λi=>[(6,pQ s),(7,pQ g),(22,.slice (some ⟨u,0,none⟩) 3 3),(23,iQ 3),(24,iQ i)]) (λi=>pt u (ae (Cn j g k) 36)::pt s (ae (yi ⟨false,0,0,0,0,0⟩) 493)::wK j g k t l o p d b c e (j7 b c a e i) R) (λi=>3-i) 0 ?_ ?_ ?_ ?_;grind
 · exact ai
 show Ent (pt u (ae (Cn j g k) 36)::pt k (ae [iQ (j7 b c a e 0).2] 3)::pt g (ae [pQ t] 535)::pt t (yj l e (j7 b c a e 0).1)::pt s (ae (yi ⟨false,0,0,0,0,0⟩) 493)::pt j (ae [.int .u32 e] 62)::df l o p d b c R) _;exact IO;intro i ⟨B,n⟩;refine aw (ap (λA=>?_) λA=>?_);obtain⟨C,q⟩:∃v,(Cn j g k)[i]?=some v:=⟨(Cn j g k)[i]'(by show i<3;omega),n4⟩
 refine ac (cu aq) ?_;refine ac (aY (aO (by rw[QaP];exact q))) ?_;refine ao (qe inferInstance (b3L (R:=pt u (ae (Cn j g k) 36)::pt s (ae (yi ⟨false,0,0,0,0,0⟩) 493)::R) (bva:=j) (bwp:=g) (bat:=k) (bw:=t) (pv:=l) (ps:=o) (pm:=p) (d:=d) h x aq n q Z)) ?_;apply ap<;>intro w;have r:o8 b c a e i=false:=mv;have f:=b3M aq n r;refine ac (vO ON CZ Z TakeL.eq Z) ?_;refine fw 3 aR ?_;refine pB (bJ (.cons (bX ON CZ Z Z) .nil) ?_);rw[f];exact ax;have r:o8 b c a e i=true:=QaH.1 w;refine ac cK (d8 (i+1) ?_);grind;obtain rfl:i=3:=aq;have f:=b3N n;refine ac (vO ON CZ Z TakeL.eq Z) ?_;refine fw 3 aR ?_;refine pB (bJ (.cons (bX ON CZ Z Z) .nil) ?_);rw[f];exact ax
theorem b3O w:gP w<32:=by unfold gP;split<;>omega
theorem b3P w:wu w<32:=by unfold wu;split;decide;exact b3O w
theorem b3Q fr pg va a:(pO fr pg va a wI).p=0:=by unfold pO;split<;>rfl
theorem HQ fr pg root va:∃k:Nat,(dp fr pg root va).p=k/\k<32:=by unfold dp;split;grind[j7,wJ,b3P,b3Q];simp only[j7];split<;>exact⟨0,Z,cl⟩
def vq(s:WS)(kind:Int)(user:Bool):Bool:=u6 kind&&(i9 s.r (mI kind)&&(!user||i9 s.r 8))&&s.on
theorem U8{s:WS}:vq s kind user=true↔(u6 kind=true/\i9 s.r (mI kind)=true/\(¬user=true\/i9 s.r 8=true))/\s.on=true:=by simp[vq]
def p7(s:WS)(va:Nat):Nat:=64*s.p.toNat+va %64
def kX(fr:List az)(pg:List Pl)(on:Bool)(root:Int)(user:Bool)(va:Nat)(kind:Int):Int:=
  if on then(if (dp fr pg root va).fault≠0 then(dp fr pg root va).fault else if vq (dp fr pg root va) kind user then io fr.length pg (p7 (dp fr pg root va) va) 1 kind else 6)else io fr.length pg va 1 kind
def j8(g:Nat->List Pl->Nat->Int->Int->Int)(fr:List az)(pg:List Pl)(on:Bool)(root:Int)(user:Bool)(va:Nat)(kind:Int):Int:=
  if on then(if (dp fr pg root va).fault≠0 then 0 else if vq (dp fr pg root va) kind user then g fr.length pg (p7 (dp fr pg root va) va) 1 kind else 0)else g fr.length pg va 1 kind
@[reducible] def ER(fr:List az)(pg:List Pl)(on:Bool)(root:Int)(user:Bool)(va:Nat)(kind:Int):List Value:=
  [.int .i64 (j8 sN fr pg on root user va kind),.int .i64 (j8 rD fr pg on root user va kind),.int .i64 (j8 rE fr pg on root user va kind),.bool false]
theorem U9{w:Nat}(h:w<4294967296):iF .u32 w 63=(w %64:Nat):=by have:=pz (a:=w) (b:=63) h cl;rw[show w&&&63=w %64 from xB (n:=6)]at this;exact this
@[reducible] def Ai(on:Bool)(root:Int)(user:Bool):List Value:=[.bool on,.int .i64 root,.bool user]
theorem HR(pv ps pm d:Nat)(fr:List az)(pg:List Pl)(h:Pgs pg)(hF:bD fr)(on:Bool)(root:Int)(user:Bool)(va:Nat)(hva:va<4294967296)(kind:Int):sQ W0 283 [pQ pv,.agg (Ai on root user).toArray,.int .u32 va,iQ kind] (df pv ps pm d fr pg R) (.tuple #[.agg (ER fr pg on root user va kind).toArray,iQ (kX fr pg on root user va kind)]) (df pv ps pm d fr pg R):=by
 obtain⟨s,hs⟩:∃s,dp fr pg root va=s:=⟨_,Z⟩
 obtain⟨k,hk,hk32⟩:=HQ fr pg root va;rw[hs]at hk;simp only[ER,j8,kX,hs];refine am func283 ntmps283 ?_;refine bR λb1=>?_;refine bU λb2=>?_;apply ap<;>intro c1;refine ao (dF Oz (He pv ps pm d fr pg h va hva 1 kind)) ?_;rw[RX];refine aJ aR (bJ (.cons (bX lW kc Z Z) (.cons (bA Z) .nil)) ?_);refine aP ?_;have ho:on=false:=mv;subst ho;rfl;refine ao (dF Yp (Mg pv ps pm d fr pg h hF root va hva)) ?_;rw[hs];have ho:on=true:=mv;subst ho;refine bU λb3=>?_;refine aJ aR (ap (λc4=>?_) λc4=>?_);refine bH [b3] 5 λhS=>?_;refine aj 0 3 hS ?_;refine cp 3 aR λhS=>?_;refine aj 4 1 hS ?_;refine aS (bJ (.cons (bX lW kc Z Z) (.cons (bA Z) .nil)) ?_);refine aP ?_;rw[Qad Z,Qad Z,Qad Z,Qad Z,Qad c4,Qad c4,Qad c4,Qad c4];rfl;refine ac (vO AT AX Z TakeL.eq Z) ?_;refine ao (aK call346 (S6 s.on s.r s.p kind user)) ?_;apply ap<;>intro c6;refine aJ aR (bJ (.cons (bX lW kc Z Z) (.cons (bA Z) .nil)) ?_);refine aP ?_;have ha:¬vq s kind user=true:=λq=>c6 (U8.1 q);rw[Qad Z,Qad Z,Qad Z,Qad Z,Qab c4,Qab c4,Qab c4,Qab c4,Qab ha,Qab ha,Qab ha,Qab ha];rfl;have hpa:p7 s va=64*k+va %64:=by rw[p7,hk];rfl
 rw[show yi s=[.bool s.on,iQ s.r,iQ (k:Int),iQ s.fault,iQ s.root,iQ s.leaf] by rw[<-hk]];refine ac (mu (64*k)) ?_;refine ac (cv (eh aq)) ?_;refine ac (iT Z Z (U9 hva)) ?_;refine ac (dI Z Z (by rw[eh aq,hpa];omega:IntKind.wrap .u32 (((64*k:Nat):Int)+((va %64:Nat):Int))=((p7 s va:Nat):Int))) ?_;refine ao (dF Oz (He pv ps pm d fr pg h (p7 s va) aq 1 kind)) ?_;rw[RX];refine aJ aR (bJ (.cons (bX lW kc Z Z) (.cons (bA Z) .nil)) ?_);refine aP ?_;have ha:vq s kind user=true:=U8.2 (QaH.1 c6);rw[Qad Z,Qad Z,Qad Z,Qad Z,Qab c4,Qab c4,Qab c4,Qab c4,Qad ha,Qad ha,Qad ha,Qad ha];rfl
def Co(pg:List Pl)(n:Int):Int:=if oH n then(if bG pg n then 0 else 3)else 1
def j9(pg:List Pl)(n:Int):List Pl:=if bG pg n then pg.set n.toNat (0,0)else pg
theorem Ua{n}(h:bG pg n=true):oH n=true:=by grind[bG]
theorem Ub{n}(h:Pgs pg):Pgs (j9 pg n):=by unfold j9;split;refine⟨by simp[h.len],λm b a=>?_⟩;unfold lj at a ⊢;by_cases e:n.toNat=m;grind;simp only[Qao,Qbb e]at a ⊢;have:=h.ok m b;unfold lj at this;simp only[Qao]at this;exact this a;exact h
theorem Uc(b:Nat)(a:List Pl)(h:Pgs a)(n:Int):sQ W0 176 [pQ b,iQ n] (pt b (bM a)::R) (iQ (Co a n)) (pt b (bM (j9 a n))::R):=by
 have j:=h.len;refine am XZ ntmps176 ?_;refine ao (ar Js (DZ b a h)) ?_;refine ao (aK Jr (E0 n)) ?_;apply ap<;>intro e;refine ag ?_;have d:oH n=false:=mv;have c:bG a n=false:=by simp[bG,d]
 exact⟨_,⟨by simp[bY,Co,d],by rw[j9,c,Qab cl]⟩,IO⟩;have d:oH n=true:=mv;refine ao (ar XY (KE b a h n)) ?_;apply ap<;>intro f;refine ag ?_;have c:bG a n=false:=mv;exact⟨_,⟨by simp[bY,Co,d,c],by rw[j9,c,Qab cl]⟩,IO⟩;have c:bG a n=true:=mv;obtain⟨i,rfl,g⟩:=nP d;refine ac (iy g) ?_;refine aJ (kh (by grind[QW]) (QV (p:=(0,0)) aq)) ?_;refine ag ?_;rw[show j9 a i=a.set i (0,0) by rw[j9,Qad c,Qae]];exact⟨_,⟨by simp[bY,Co,d,c],Z⟩,IO⟩
theorem HS{a:Int}:mP fr pg va a=true↔j4 fr.length pg a (va/1024)=true/\zT (iM fr pg a (va/1024))=0:=by simp[mP]
structure WkOkM (fr : List az) (pg : List Pl) (root : Int) (va : Nat) : Prop where
  lim : va < 16384
  rb : mP fr pg va root = true
  lt : j4 fr.length pg (jq fr pg va root) (va / 64) = true
  eq : dp fr pg root va = ⟨wq (iM fr pg (jq fr pg va root) (va / 64)), wt (iM fr pg (jq fr pg va root) (va / 64)), wu (iM fr pg (jq fr pg va root) (va / 64)), 0, root, jq fr pg va root⟩
  lf : ww (iM fr pg (jq fr pg va root) (va / 64)) = 0
theorem HT(h:(dp fr pg root va).fault=0):WkOkM fr pg root va:=by unfold dp at h;by_cases c:va<16384;rw[Qad c]at h;by_cases a:mP fr pg va root=true;rw[Qad a]at h;have d:=HS.1 a;simp only[j7,wJ]at h;by_cases b:j4 fr.length pg (jq fr pg va root) (va/64)=true;rw[Qad b]at h;refine⟨c,a,b,?_,h⟩;rw[dp,Qad c,Qad a];simp only[j7,wJ];rw[Qad b,pO,Qad d.1];simp only[wI];rw[show ww (iM fr pg (jq fr pg va root) (va/64))=0 from h];grind;rw[Qab a]at h;simp only[j7,pO]at h;by_cases b:j4 fr.length pg root (va/1024)=true;rw[Qad b]at h;exact absurd (HS.2 ⟨b,h⟩) a;grind;grind[j7]
def ES(fr:List az)(pg:List Pl)(fr':List az)(pg':List Pl)(t:Int):Prop:=∀i,j4 fr'.length pg' t i=j4 fr.length pg t i/\iM fr' pg' t i=iM fr pg t i
theorem b3R(h:WkOkM fr pg root va)(a:ES fr pg fr' pg' root)(b:ES fr pg fr' pg' (jq fr pg va root)):dp fr' pg' root va=dp fr pg root va:=by
 have c:jq fr' pg' va root=jq fr pg va root:=by unfold jq;rw[(a _).1,(a _).2]
 have d:mP fr' pg' va root=mP fr pg va root:=by unfold mP;rw[(a _).1,(a _).2]
 have e:∀s,pO fr' pg' va root s=pO fr pg va root s:=λs=>by unfold pO;rw[(a _).1,(a _).2]
 rw[dp,dp,Qad h.lim,Qad h.lim,d,h.rb,Qad Z,Qad Z];simp only[j7];rw[c,e];unfold wJ;rw[(b _).1,(b _).2]
theorem Ud{t i j}(h:j<4):(64*t+4*(i %16)+j)/64=t:=aq
theorem Mh{a:List az}{pg t i}(h:j4 a.length pg t i=true):bG pg t=true:=by
 obtain⟨c,b⟩:=zU.1 h;obtain⟨k,rfl⟩:∃k:Nat,t=(k:Int):=⟨t.toNat,aq⟩
 have:=(xT.1 b).2 0 cl;rw[show tY (jY (k:Int) i+0)=(k:Int) by rw[show jY (k:Int) i=64*k+4*(i %16)from Z,tY,Ud cl]]at this;exact(a93.1 this).1
theorem HU{fr fr' pg pg' t}(m:fr'.length=fr.length)(q:bG pg' t=bG pg t)(g:cB pg' t=cB pg t)(r:bG pg t=true->∀o:Nat,o<64->gW fr' (cB pg t).1 o 1=gW fr (cB pg t).1 o 1):ES fr pg fr' pg' t:=by
 intro i;by_cases s:0≤t/\t<8
 · obtain⟨k,rfl⟩:∃k:Nat,t=(k:Int):=⟨t.toNat,by omega⟩
   have f:jY (k:Int) i=64*k+4*(i %16):=Z;have c:∀j,j<4->tY (jY (k:Int) i+j)=(k:Int):=λj a=>by
    rw[f,tY,Ud a]
   have h:d9 fr'.length pg' (jY (k:Int) i) 4=d9 fr.length pg (jY (k:Int) i) 4:=by
    have e:∀j,j<4->rB fr'.length pg' (tY (jY (k:Int) i+j))=rB fr.length pg (tY (jY (k:Int) i+j)):=λj a=>by
     rw[c j a,rB,rB,q,g,m]
    unfold d9;congr 1;apply QaY.2;unfold tZ;constructor;grind;grind
   have l:j4 fr'.length pg' (k:Int) i=j4 fr.length pg (k:Int) i:=by grind[j4]
   refine⟨l,?_⟩;unfold iM;rw[l];by_cases b:j4 fr.length pg (k:Int) i=true
   case neg=>rw[Qab b,Qab b]
   have u:jw fr' pg' (jY (k:Int) i) 4=jw fr pg (jY (k:Int) i) 4:=by
    unfold jw;apply QbY;intro j a;have a:=QbX.1 a;unfold wm sJ;rw[c j a,g];exact r (Mh b) _ (Qbq _ cl)
   rw[u]
 have d:∀n p,j4 n p t i=false:=λn p=>by unfold j4;rw[Qat s,Qda]
 refine⟨by rw[d,d],?_⟩;unfold iM;rw[d,d,Qab cl,Qab cl]
theorem b3S{f f' off w o k x}(h:f'≠f):gW (jn fr f off w x) f' o k=gW fr f' o k:=by
 unfold jn;split
 rename_i a
 simp only[rk,Qam]at a;obtain⟨i,rfl,b⟩:=wc a.1;unfold gW;rw[Qal];split;grind[wc];rfl;rfl
structure LOk (fr : List az) (pg : List Pl) (d : Nat) (x : Ln) : Prop where
  own : (0 ≤ x.rt ∧ x.rt < 8) ∧ (0 ≤ x.lf ∧ x.lf < 8)
  at_ : bG pg x.e.1 = true ∧ (cB pg x.e.1).1 = x.e.2.1
  al : ∀ k, u6 k = true → i9 x.e.2.2 (mI k) = true → kS pg x.e.1 k = 0
  r : 0 ≤ x.e.2.2 ∧ x.e.2.2 < 16
  wk : Nat.testBit d x.rt.toNat = false → Nat.testBit d x.lf.toNat = false → ∀ va, va < 16384 → ((va / 64 : Nat) : Int) = x.k.2 → WkOkM fr pg x.k.1 va ∧ x.k.1 = x.rt ∧ jq fr pg va x.k.1 = x.lf ∧ (dp fr pg x.k.1 va).on = true ∧ (dp fr pg x.k.1 va).p = x.e.1 ∧ ∀ c, c = 1 ∨ c = 2 ∨ c = 4 ∨ c = 8 → i9 x.e.2.2 c = true → i9 (dp fr pg x.k.1 va).r c = true
theorem b3T{n}(b:bG pg n=true)(a:bG pg' n=true)(c:cB pg' n=cB pg n)k:kS pg' n k=kS pg n k:=by grind[cB,kS]
theorem LOk.move{l:Nat}(h:LOk fr pg d x)(m:bG pg' x.e.1=true)(n:cB pg' x.e.1=cB pg x.e.1)
    (o:∀t,t=x.rt\/t=x.lf->Nat.testBit l t.toNat=false->Nat.testBit d t.toNat=false/\(bG pg t=true->ES fr pg fr' pg' t)):LOk fr' pg' l x:=by
 refine⟨h.own,⟨m,by rw[n];exact h.at_.2⟩,λk b f=>?_,h.r,λu v p g b=>?_⟩;rw[b3T h.at_.1 m n];exact h.al k b f;obtain⟨w,y⟩:=o x.rt (.inl Z) u;obtain⟨A,B⟩:=o x.lf (.inr Z) v;obtain⟨a,i,j,C,D,E⟩:=h.wk w A p g b;have e:=b3R a (by rw[i];exact y (by rw[<-i];exact Mh (HS.1 a.rb).1)) (by rw[j];exact B (by rw[<-j];exact Mh a.lt));have q:(dp fr' pg' x.k.1 p).fault=0:=by rw[e,a.eq]
 refine⟨HT q,i,?_,by rw[e];exact C,by rw[e];exact D,λc F f=>by rw[e];exact E c F f⟩;have s:=(HT q).eq;rw[e,a.eq]at s;have:=Qak WS.leaf s;rw[<-j];exact this.symm
theorem LOk.clean(h:LOk fr pg d x)(a:∀n∈kV d 12,x.thr ((n:Nat):Int)=false):LOk fr pg 0 x:=by refine⟨h.own,h.at_,h.al,h.r,λ_ _=>h.wk ?_ ?_⟩;rw[<-QaI];intro q;have:=a x.rt.toNat (by rw[kV,QaG,QbX];exact⟨by have:=h.own;omega,q⟩);rw[<-QaI,yg]at this;exact this (.inl (by have:=h.own;omega));rw[<-QaI];intro q;have:=a x.lf.toNat (by rw[kV,QaG,QbX];exact⟨by have:=h.own;omega,q⟩);rw[<-QaI,yg]at this;exact this (.inr (by have:=h.own;omega))
theorem LOk.nar{fr pg d x}(h:LOk fr pg d x):LOk fr pg d x.nar:=by
 have m:∀c,c=1\/c=2\/c=4\/c=8->i9 x.nar.e.2.2 c=true->i9 x.e.2.2 c=true:=λc a b=>by
  obtain⟨n,g⟩:∃n:Nat,x.e.2.2=(n:Int):=⟨x.e.2.2.toNat,by have:=h.r;omega⟩
  have i:n<16:=by have:=h.r;omega
  have o:x.nar.e.2.2=jx x.e.2.2:=Z;rw[o,g]at b;rw[g];have j:∀n:Nat,n<16->∀c:Int,c=1\/c=2\/c=4\/c=8->i9 (jx (n:Int)) c=true->i9 (n:Int) c=true:=by
   intro n g c a;have:n=0\/n=1\/n=2\/n=3\/n=4\/n=5\/n=6\/n=7\/n=8\/n=9\/n=10\/n=11\/n=12\/n=13\/n=14\/n=15:=aq;rcases this with rfl|rfl|rfl|rfl|rfl|rfl|rfl|rfl|rfl|rfl|rfl|rfl|rfl|rfl|rfl|rfl<;>rcases a with rfl|rfl|rfl|rfl<;>decide
  exact j n i c a b
 refine⟨h.own,h.at_,λk f b=>h.al k f (m _ ?_ b),?_,λp q s l f=>?_⟩;unfold mI;have:=Qaw f;rcases this with rfl|rfl|rfl;omega;omega;omega;show 0≤jx x.e.2.2/\jx x.e.2.2<16;have:=h.r;unfold jx;split
 rename_i t
 have:=Qaw t;omega;exact h.r;obtain⟨u,v,w,y,A,B⟩:=h.wk p q s l f;exact⟨u,v,w,y,A,λc a b=>B c a (m c a b)⟩
structure PlOk (n : Nat) (pg : List Pl) : Prop where
  rng : ∀ t, bG pg t = true → (cB pg t).1 < (n : Int)
  inj : ∀ s t, bG pg s = true → bG pg t = true → (cB pg s).1 = (cB pg t).1 → s = t
structure MOk (fr : List az) (pg : List Pl) (d : Nat) (L : List Ln) (TL : List It) : Prop where
  F : bD fr
  dl : d < 4096
  P : Pgs pg
  pl : PlOk fr.length pg
  ti : TI L TL
  ln : ∀ x ∈ L, LOk fr pg d x
theorem MOk.save{a:Nat}{i:List It}(h:MOk fr pg d L i){p:Int}(l:bG pg p=true)(c w:Int)(x:Nat)(f:a<4096)
    (m:∀t:Nat,Nat.testBit a t=false->Nat.testBit d t=false)(g:∀y∈L,∀t,t=y.rt\/t=y.lf->Nat.testBit a t.toNat=false->t≠p):MOk (jn fr (cB pg p).1 c w x) pg a L i:=by
 refine⟨vd h.F,f,h.P,by rw[tP];exact h.pl,h.ti,λy j=>?_⟩;have b:=h.ln y j;by_cases n:Nat.testBit a y.rt.toNat=false/\Nat.testBit a y.lf.toNat=false;refine b.move b.at_.1 Z λt s k=>⟨m _ k,λ_=>?_⟩
 refine HU tP Z Z λq o A=>?_;apply b3S;intro e;exact g y j t s k (h.pl.inj _ _ q l e);refine⟨b.own,b.at_,b.al,b.r,λu v=>absurd ⟨u,v⟩ n⟩
abbrev cX(pv bt bs:Nat):Obj:=ae [.pointer (some ⟨pv,0,none⟩),.pointer (some ⟨bt,0,none⟩),.pointer (some ⟨bs,0,none⟩)] 369
theorem ET(b c d e:Nat):sQ W0 207 [pQ b] (pt b (cX c d e)::R) (.bool false) (pt b (cX c d e)::R):=by refine am func207 ntmps207 ?_;apply d7 Z Z Z<;>intro a;cases a;exact aw (ag ax)
def qE(ks:List dL)(T:List It):List It:=ks.foldl (λT k=>lP k T) T
theorem Ue{a}:∀{T:List It} {y:It},y∈qE a T->y∈T/\y.key∉a:=by
 induction a with
 |nil=>intro T y h;exact⟨h,n4⟩
 |cons k a b=>
  intro T y h;obtain⟨c,d⟩:=b (T:=lP k T) h;obtain⟨e,f⟩:=yd.1 c;refine⟨e,λq=>?_⟩;rcases QaX.1 q with q|q;exact f q;exact d q
theorem Mi:∀{T:List It},(qE ks T).length≤T.length:=by
 induction ks with
 |nil=>intro T;exact Qai _
 |cons k ks a=>intro T;exact Qbe (a (T:=lP k T)) (HD k T)
theorem b3U ks k T:qE (ks++[k]) T=lP k (qE ks T):=by simp[qE,Qcw]
theorem Uf(m u h w:Nat)(j:List It)(r s:Value)(d:Nat)(T:List It)(D:Rep j d T)(M:T.length≤100)(a:Option Addr)(c:Nat)(b:List dL)(N:b.length≤1000):sP W0 347 [pQ m,.slice a b.length c] (pt m (cX u h w)::bC h (j,[r,s,.bool true])::osl 504 2 (.slice a b.length c) (b.flatMap jo)::R) (λv B=>v=.tuple #[]/\∃e,B=pt m (cX u h w)::bC h (e,[r,s,.bool true])::osl 504 2 (.slice a b.length c) (b.flatMap jo)::R/\Rep e d (qE b T)):=by
 refine am func347 ntmps347 ?_;refine eC (λX:Nat×List It=>X.1≤b.length/\Rep X.2 d (qE (b.take X.1) T)) (λX=>[(0,pQ m),(6,.slice a b.length c),(7,iQ (b.length:Nat)),(8,iQ X.1)]) (λX=>pt m (cX u h w)::bC h (X.2,[r,s,.bool true])::osl 504 2 (.slice a b.length c) (b.flatMap jo)::R) (λX=>b.length-X.1) (0,j) ?_ ?_;exact⟨Qay _,D⟩;intro ⟨i,f⟩ ⟨F,t⟩;dsimp only at F t ⊢;refine aw (ap (λG=>?_) λG=>?_);have l:i<b.length:=aq;refine jV (E:=504) (sz:=2) (a:=a) (c:=c) (n:=b.length) jo b (λ_=>Z) cl Z (λH=>?_);obtain⟨g,o,x,C⟩:=H.at_ l;obtain⟨k,p⟩:∃k,b[i]=k:=⟨_,Z⟩
 have I:b.take (i+1)=b.take i++[k]:=by rw[Qap l,p]
 have J:=Mi (ks:=b.take i) (T:=T);rw[p]at C;refine aw (ac (g7 Od vG Z x Z Z l dg) ?_);refine ac (cV C.weak) ?_;refine bU λK=>?_;refine aJ aR (bH [m,K] 6 λy=>?_);refine aj 0 5 y ?_;refine co 5 (ar Yq (M5 h f r d (qE (b.take i) T) k t aq s)) ?_;clear y;rintro _ O ⟨rfl,q,A,L⟩;subst A;refine⟨aW,λy=>?_⟩;refine aS (ac cK (d8 (i+1,q) ?_));grind[b3U];refine bP (.inr Z) .nil ?_;obtain rfl:i=b.length:=aq;rw[QbF]at t;exact⟨_,⟨Z,f,Z,t⟩,IO⟩
@[reducible] def asV(bm:Nat)(on:Bool)(root:Int)(user:Bool)(va:Nat)(kind:Int):List Value:=[.pointer (some ⟨bm,0,none⟩),.bool on,.int .i64 root,.bool user,.int .u32 va,.int .i64 kind]
abbrev jZ(bm:Nat)(on:Bool)(root:Int)(user:Bool)(va:Nat)(kind:Int):Obj:=ae (asV bm on root user va kind) 442
def fu(root:Int)(va:Nat):dL:=(root,((va/64:Nat):Int))
theorem wL(f g:Nat)(h:Bool)(a:Int)(b:Bool)(d:Nat)(i:d<4294967296)(c:Int):sQ W0 350 [pQ f] (pt f (jZ g h a b d c)::R) (.agg (jo (fu a d)).toArray) (pt f (jZ g h a b d c)::R):=by refine am func350 ntmps350 ?_;refine bU λj=>?_;refine bH [f] 13 λe=>?_;refine aj 0 9 e ?_;refine aE 9 e (qT Z Z cl ((Qak (IntKind.wrap .u32) (uW d 64)).trans (eh aq))) ?_;refine aE 10 e (cv (bS aq)) ?_;refine aj 11 1 e ?_;refine cp 12 aR λe=>?_;exact aS (bJ (.cons (bX J4 vG Z Z) .nil) ax)
def sZ(e:lO)(kind:Int)(user:Bool):Bool:=u6 kind&&(i9 e.2.2 (mI kind)&&(!user||i9 e.2.2 8))&&true
theorem Ug(d g:Nat)(h:Bool)(c:Int)(a:Bool)(i:Nat)(b:Int)(e:lO):sQ W0 351 [pQ d,.agg (pL e).toArray] (pt d (jZ g h c a i b)::R) (.bool (sZ e b a)) (pt d (jZ g h c a i b)::R):=by refine am func351 ntmps351 ?_;refine bR λj=>?_;refine bH [j,d] 16 λf=>?_;refine aj 0 14 f ?_;refine bQ 14 (aK call346 (S6 true e.2.2 e.1 b a)) λf=>?_;refine aj 15 1 f ?_;exact aS (ag ax)
@[reducible] def Uh(p f:Int)(o:Nat)(fast:Bool):List Value:=[.int .i64 p,.int .i64 f,.int .i64 (o:Nat),.bool fast]
theorem Ui(g j:Nat)(k:Bool)(a:Int)(b:Bool)(h:Nat)(i:h<4294967296)(c:Int)(e:lO)(d:Bool):sQ W0 352 [pQ g,.agg (pL e).toArray,.bool d] (pt g (jZ j k a b h c)::R) (.agg (Uh e.1 e.2.1 (h %64) d).toArray) (pt g (jZ j k a b h c)::R):=by refine am func352 ntmps352 ?_;refine bR λl=>?_;refine bU λm=>?_;refine bH [l,g] 13 λf=>?_;refine aj 0 8 f ?_;refine aE 8 f (iT Z Z (U9 i)) ?_;refine aE 9 f (cv (bS aq)) ?_;refine aj 10 2 f ?_;refine cp 12 aR λf=>?_;exact aS (bJ (.cons (bX lW kc Z Z) .nil) ax)
theorem Uj(l:List Ln):l.flatMap Ae=(l.map Ln.k).flatMap jo:=by rw[List.flatMap_map]
theorem MOk.drop(h:MOk fr pg d L T)(p:Ln->Bool):MOk fr pg d (L.filter λx=> !p x) (qE ((L.filter p).map Ln.k) T):=
  ⟨h.F,h.dl,h.P,h.pl,h.ti.drop p λy b=>by
 obtain⟨c,f⟩:=Ue b
 exact⟨c,λx a g e=>f (QaZ.2 ⟨x,QaG.2 ⟨a,g⟩,e.symm⟩)⟩,λx a=>h.ln x (QaG.1 a).1⟩
theorem MOk.clean{fr pg d L T}(h:MOk fr pg d L T)(b:∀x∈L,∀n∈kV d 12,x.thr n=false):MOk fr pg 0 L T:=
  ⟨h.F,cl,h.P,h.pl,h.ti,λx a=>(h.ln x a).clean (b x a)⟩
theorem b3W l:C1 l=l.flatMap λn=>[En n]:=by
 induction l with
 |nil=>rfl
 |cons n l a=>rw[QaT, <-a];rfl
theorem Uk(bm pv bt bs ps pm d:Nat)(its:List It)(tr tw:Value)(now room:Nat)(T:List It)(L:List Ln)(hR:Rep its now T)(hT:T.length≤room)(hr:room≤4)(hd:d<4096)(I:List Ln->List It->Prop)(hIl:∀L T,I L T->L.length≤1000)(hId:∀L T p,I L T->I (L.filter λx=> !p x) (qE ((L.filter p).map Ln.k) T))(h:I L T):sP W0 284 [pQ bm] (pt bm (cX pv bt bs)::bC bt (its,[tr,tw,.bool true])::cj bs L::pt pv (cg ps pm d)::R) (λv B=>v=.tuple #[]/\∃its' T' L',B=pt bm (cX pv bt bs)::bC bt (its',[tr,tw,.bool true])::cj bs L'::pt pv (cg ps pm 0)::R/\Rep its' now T'/\T'.length≤room/\I L' T'/\(∀x∈L',∀n∈kV d 12,x.thr ((n:Nat):Int)=false)/\(∀x∈L',x∈L)/\(kV d 12=[]->L'=L)):=by
 obtain⟨ds,hds⟩:∃l,kV d 12=l:=⟨_,Z⟩
 have hdl:ds.length≤12:=by grind[RI]
 refine am func284 ntmps284 ?_;refine aF Z (ar call253 (RJ pv ps pm d hd)) ?_;rintro _ B_ ⟨ad,cd,rfl,hB_⟩;subst hB_;rw[hds];refine aw (eC (λX:Nat×List It×List It×List Ln=>X.1≤ds.length/\Rep X.2.1 now X.2.2.1/\X.2.2.1.length≤room/\I X.2.2.2 X.2.2.1/\(∀x∈X.2.2.2,∀n∈ds.take X.1,x.thr ((n:Nat):Int)=false)/\(∀x∈X.2.2.2,x∈L)/\(X.1=0->X.2.2.2=L)) (λX=>[(0,pQ bm),(8,.slice ad ds.length cd),(9,iQ (ds.length:Nat)),(10,iQ X.1)]) (λX=>pt bm (cX pv bt bs)::bC bt (X.2.1,[tr,tw,.bool true])::cj bs X.2.2.2::pt pv (cg ps pm 0)::osl 3 1 (.slice ad ds.length cd) (C1 ds)::R) (λX=>ds.length-X.1) (0,its,T,L) ?_ ?_);grind;intro ⟨i,its1,T1,L1⟩ ⟨hi,hR1,hT1,h1,hc1,hs1,hz1⟩;dsimp only at hi hR1 hT1 h1 hc1 hs1 hz1 ⊢;refine aw (ap (λc1=>?_) λc1=>?_);have hi1:i<ds.length:=aq;refine jV (E:=3) (sz:=1) (a:=ad) (c:=cd) (n:=ds.length) (λn=>[En n]) ds (λ_=>Z) cl (b3W ds) (λhs=>?_);obtain⟨g,o,hga,hc⟩:=hs.at_ hi1;obtain⟨q,hq⟩:∃q,ds[i]=q:=⟨_,Z⟩
 have htk:ds.take (i+1)=ds.take i++[q]:=by rw[Qap hi1,hq]
 have hll:=hIl L1 T1 h1;obtain⟨ks,hks⟩:∃ks,(L1.filter λx=>x.thr (q:Int)).map Ln.k=ks:=⟨_,Z⟩
 have hkl:(L1.filter λx=>x.thr (q:Int)).length=ks.length:=mv;have hkn:ks.length≤1000:=mv;have hdr:=hId L1 T1 (λx=>x.thr (q:Int)) h1;rw[hks]at hdr;rw[hq]at hc;refine aw (ac (g7 jE bu Z hga Z Z hi1 dg) ?_);refine ac (aY (bF.weak hc 0 _ Z)) ?_;refine aF Z (ar call348 (b3i bs L1 aq (q:Int))) ?_;rintro _ B_ ⟨aw,cw,rfl,hB_⟩;subst hB_;rw[Uj,hks,hkl];refine aF Z (dF call347 (Uf bm pv bt bs its1 tr tw now T1 hR1 aq aw cw ks hkn)) ?_;rintro _ B_ ⟨rfl,its2,hB_,hR2⟩;subst hB_;refine au 4 (ac cK (d8 (i+1,its2,qE ks T1,L1.filter λx=> !x.thr (q:Int)) ?_));grind[Qbe,Mi];refine bP (.inr Z) .nil ?_;obtain rfl:i=ds.length:=aq;rw[QbF]at hc1;exact⟨_,⟨Z,its1,T1,L1,Z,hR1,hT1,h1,hc1,hs1,λq=>hz1 (by rw[q];rfl)⟩,IO⟩
theorem Ul(k f g i m n d:Nat)(c:List It)(o q:Value)(e a:Nat)(T:List It)(L:List Ln)(r:List az)(s:List Pl)(u:Rep c e T)(w:T.length≤a)(y:a≤4)(h:MOk r s d L T):sP W0 284 [pQ k] (pt k (cX f g i)::bC g (c,[o,q,.bool true])::cj i L::pt f (cg m n d)::R) (λv B=>v=.tuple #[]/\∃b t l,B=pt k (cX f g i)::bC g (b,[o,q,.bool true])::cj i l::pt f (cg m n 0)::R/\Rep b e t/\t.length≤a/\MOk r s 0 l t/\(∀x∈l,x∈L)/\(kV d 12=[]->l=L)):=
  cF (Uk k f g i m n d c o q e a T L u w y h.dl (MOk r s d) (λL T h=>Qbe h.ti.len cl) (λL T p h=>h.drop p) h) λv B A=>by
 obtain⟨rfl,j,C,D,rfl,E,F,G,H,I⟩:=A;exact⟨_,⟨Z,j,C,D,Z,E,F,G.clean H,I⟩,ent_refl⟩
def yk:Option Ln->lO
 |none=>(0,0,0)
 |some x=>x.e
theorem yl k L:EP k L=.tuple #[.agg (pL (yk (mK k L))).toArray,.bool (mK k L).isSome]:=by unfold EP;cases mK k L<;>rfl
theorem TI.sub'{a:List It}(h:TI L T)(b:∀y∈a,y∈T):TI L a:=⟨h.keys,h.len,h.nowr,λy c=>h.sub y (b y c)⟩
theorem b3X(m N l p:Nat)(r:List It)(A C:Value)(j e:Nat)(T:List It)(L:List Ln)(Z:Rep r j T)(hT:T.length≤e)(hr:e≤4)(hl:L.length≤32):sP W0 414 [pQ m] (pt m (cX N l p)::bC l (r,[A,C,.bool true])::cj p L::R) (λv B=>v=.tuple #[]/\∃w P,B=pt m (cX N l p)::bC l (w,[A,C,.bool true])::cj p L::R/\Rep w j P/\P.length≤e/\∀y∈P,y∈T/\(mK y.key L).isSome=true):=by
 refine am func414 ntmps414 ?_;refine aF ρ (ar call450 (b3h l r A C j T Z aq)) ?_;rintro _ O ⟨I,J,rfl,d⟩;subst d;refine aw (eC (λX:Nat×List It×List It=>X.1≤T.length/\Rep X.2.1 j X.2.2/\X.2.2.length≤e/\∀y∈X.2.2,y∈T/\(y∈T.take X.1->(mK y.key L).isSome=true)) (λX=>[(0,pQ m),(10,.slice I T.length J),(11,iQ (T.length:Nat)),(12,iQ X.1)]) (λX=>pt m (cX N l p)::bC l (X.2.1,[A,C,.bool true])::cj p L::osl 546 5 (.slice I T.length J) (T.flatMap Ah)::R) (λX=>T.length-X.1) (0,r,T) ?_ ?_);grind;intro ⟨i,f,D⟩ ⟨hi,s,t,F⟩;dsimp only at hi s t F ⊢;refine aw (aB ρ (λc1=>?_) λc1=>?_);refine au 2 (fA (λX:List It×List It=>Rep X.1 j X.2/\X.2.length≤e/\∀y∈X.2,y∈T/\(y∈T.take (i+1)->(mK y.key L).isSome=true)) (λX=>[(0,pQ m),(10,.slice I T.length J),(11,iQ (T.length:Nat)),(12,iQ i)]) (λX=>pt m (cX N l p)::bC l (X.1,[A,C,.bool true])::cj p L::osl 546 5 (.slice I T.length J) (T.flatMap Ah)::R) ?_ ?_);refine au 2 ?_;have G:i<T.length:=aq;refine jV (E:=546) (sz:=5) (a:=I) (c:=J) (n:=T.length) Ah T b3g cl ρ (λhs=>?_);obtain⟨g,o,Q,W⟩:=hs.at_ G;obtain⟨x,Y⟩:∃x,T[i]=x:=⟨_,ρ⟩
 have K:T.take (i+1)=T.take i++[x]:=by rw[Qap G,Y]
 rw[Y]at W;obtain⟨gt,M⟩:∃o,mK x.key L=o:=⟨_,ρ⟩
 refine aw (ac (g7 Of xi ρ Q ρ ρ G dg) ?_);refine ac (cV W.weak) ?_;refine bU λS=>?_;refine aJ aR (bH [m,S] 13 λb=>?_);refine aj 0 5 b ?_;refine aE 5 b (cV (EO (us:=jo x.key) (ws:=[iQ x.ep,iQ x.ef,iQ x.er]) (i6 (k:=1) ρ) ρ)) ?_;refine fp (is:=[6,10]) ld ρ ⟨?_,?_,trivial⟩;refine dB (ar Bb (yh p L aq x.key)) ?_;clear b;rintro _ O ⟨rfl,d⟩;subst d;rw[yl,M];refine⟨aW,λb=>?_⟩;refine aj 7 3 b ?_;refine co 10 (cP sf) ?_;clear b;rintro _ _ ⟨b2,rfl,rfl⟩;refine⟨aW,λb=>?_⟩;refine cp 11 aR λb=>?_;refine aj 12 1 b ?_;refine aS (ap (λU=>?_) λU=>?_);refine bH [m,S] 7 λb=>?_;refine aj 0 5 b ?_;refine aE 5 b (cV (EO (us:=jo x.key) (ws:=[iQ x.ep,iQ x.ef,iQ x.er]) (i6 (k:=1) ρ) ρ)) ?_;refine co 6 (ar Yq (M5 l f A j D x.key s aq C)) ?_;clear b;rintro _ O ⟨rfl,h,d,u⟩;subst d;refine⟨aW,λb=>?_⟩;refine aS (cZ (h,lP x.key D) ?_);refine⟨u,Qbe (HD _ _) t,λy H=>?_⟩;obtain⟨V,h2⟩:=yd.1 H;refine⟨(F y V).1,λq=>?_⟩;rw[K]at q;rcases Qba.1 q with z|z;grind;grind;refine cZ (f,D) ?_;grind;skip;refine dB (cP sf) ?_;clear b;rintro _ _ ⟨b2,rfl,rfl⟩;refine⟨aW,λb=>?_⟩;refine co 6 (ar Bb (yh p L aq x.key)) ?_;clear b;rintro _ O ⟨rfl,d⟩;subst d;rw[yl,M];refine⟨aW,λb=>?_⟩;refine aj 7 3 b ?_;refine cp 11 aR λb=>?_;refine aj 12 1 b ?_;refine aS (ap (λU=>?_) λU=>?_);refine bH [m,S] 7 λb=>?_;refine aj 0 5 b ?_;refine aE 5 b (cV (EO (us:=jo x.key) (ws:=[iQ x.ep,iQ x.ef,iQ x.er]) (i6 (k:=1) ρ) ρ)) ?_;refine co 6 (ar Yq (M5 l f A j D x.key s aq C)) ?_;clear b;rintro _ O ⟨rfl,h,d,u⟩;subst d;refine⟨aW,λb=>?_⟩;refine aS (cZ (h,lP x.key D) ?_);refine⟨u,Qbe (HD _ _) t,λy H=>?_⟩;obtain⟨V,h2⟩:=yd.1 H;refine⟨(F y V).1,λq=>?_⟩;rw[K]at q;rcases Qba.1 q with z|z;grind;grind;refine cZ (f,D) ?_;grind;intro ⟨h,T2⟩ ⟨u,x0,x1⟩;refine aw (ac cK (d8 (i+1,h,T2) ?_));grind;refine aw (bP (.inr ρ) .nil ?_);obtain rfl:i=T.length:=aq;rw[QbF]at F;exact⟨_,⟨ρ,f,D,ρ,s,t,λy H=>⟨(F y H).1,(F y H).2 (F y H).1⟩⟩,IO⟩
def EU:Option It->lO
 |none=>(0,0,0)
 |some y=>y.ent
theorem Mj k T:EJ k T=.tuple #[.agg (pL (EU (qD k T))).toArray,.bool (qD k T).isSome]:=by unfold EJ;cases qD k T<;>rfl
def oP:Option Ln->Int
 |none=>0
 |some x=>x.e.1
def oF:Option Ln->Int
 |none=>0
 |some x=>x.e.2.1
def oO(o:Option Ln)(va:Nat):Nat:=match o with
 |none=>0
 |some _=>va %64
@[reducible] def Mk(o:Option Ln)(va:Nat):List Value:=[.int .i64 (oP o),.int .i64 (oF o),.int .i64 (oO o va:Nat),.bool o.isSome]
def Ml(L:List Ln)(k:dL)(kind:Int)(user:Bool)(o:Option Ln):Prop:=∀x,o=some x->x∈L/\x.k=k/\sZ x.e kind user=true
theorem b3Y(t p K u F:Nat)(A:Bool)(a:Int)(b:Bool)(m:Nat)(C:m<4294967296)(c:Int)(r:List It)(d i:Nat)(T:List It)(L:List Ln)(M:Rep r i T)(G:T.length≤d)(N:d≤4)(O:i<1000000)(S:TI L T):sP W0 285 [pQ t] (pt t (jZ p A a b m c)::pt p (cX K u F)::bC u (r,dt d i)::cj F L::R) (λv B=>∃o w P s,v=.tuple #[.agg (Mk o m).toArray,.bool o.isSome]/\Ml L (fu a m) c b o/\Rep w s P/\P.length≤d/\TI L P/\s≤i+1/\B=pt t (jZ p A a b m c)::pt p (cX K u F)::bC u (w,dt d s)::cj F L::R):=by
 obtain⟨y,J⟩:∃y,qD (fu a m) T=y:=⟨_,ρ⟩
 have D:=b2v (now:=i) (k:=fu a m) (L:=T);have E:=S.getT i (fu a m);refine am func285 ntmps285 ?_;refine dT (cP B5) λU=>?_;refine au 3 (fA (λX:Nat×List It×Nat=>X.2.2≤i+1/\Rep X.2.1 X.2.2 (yf i (fu a m) T)) (λX=>[(0,pQ t),(2,pQ U),(4,.pointer (some ⟨X.1,0,none⟩)),(5,.bool y.isSome)]) (λX=>pt U (ae [iQ 0,iQ 0,iQ 0,.bool false] 363)::pt X.1 (ae (pL (EU y)) 500)::pt t (jZ p A a b m c)::pt p (cX K u F)::bC u (X.2.1,dt d X.2.2)::cj F L::R) ?_ ?_);refine bH [t,p] 16 λh=>?_;refine aj 0 8 h ?_;refine fp (is:=[8,13]) ld ρ ⟨?_,?_,trivial⟩;refine dB (ar yW (wL t p A a b m C c)) ?_;clear h;rintro _ Q ⟨rfl,n⟩;subst n;refine⟨aW,λh=>?_⟩;refine fp (is:=[9,13]) ld ρ ⟨?_,?_,trivial⟩;refine dB (ar Yr (M4 u r d i T (fu a m) M G N O)) ?_;clear h;rintro _ Q ⟨rfl,f,g,j,n,l⟩;subst n;rw[Mj,J];refine⟨aW,λh=>?_⟩;refine aj 10 3 h ?_;refine co 13 (cP sf) ?_;clear h;rintro _ _ ⟨H,rfl,rfl⟩;refine⟨aW,λh=>?_⟩;refine cp 14 aR λh=>?_;refine aj 15 1 h ?_;exact aS (cZ (H,f,g) (⟨j,l⟩));skip;refine dB (cP sf) ?_;clear h;rintro _ _ ⟨H,rfl,rfl⟩;refine⟨aW,λh=>?_⟩;refine co 9 (ar Yr (M4 u r d i T (fu a m) M G N O)) ?_;clear h;rintro _ Q ⟨rfl,f,g,j,n,l⟩;subst n;rw[Mj,J];refine⟨aW,λh=>?_⟩;refine aj 10 3 h ?_;refine cp 14 aR λh=>?_;refine aj 15 1 h ?_;exact aS (cZ (H,f,g) (⟨j,l⟩));skip;refine dB (cP sf) ?_;clear h;rintro _ _ ⟨H,rfl,rfl⟩;refine⟨aW,λh=>?_⟩;refine bQ 8 (ar yW (wL t p A a b m C c)) λh=>?_;refine co 9 (ar Yr (M4 u r d i T (fu a m) M G N O)) ?_;clear h;rintro _ Q ⟨rfl,f,g,j,n,l⟩;subst n;rw[Mj,J];refine⟨aW,λh=>?_⟩;refine aj 10 3 h ?_;refine cp 14 aR λh=>?_;refine aj 15 1 h ?_;exact aS (cZ (H,f,g) (⟨j,l⟩));intro ⟨H,f,g⟩ ⟨j,l⟩;dsimp only at j l ⊢;refine aw ?_;apply fC<;>intro I;refine aJ aR (bJ (.cons (bX lW kc ρ ρ) (.cons (bA ρ) .nil)) ?_);exact⟨_,⟨none,f,_,g,ρ,λx q=>(by cases q),l,Qbe D G,E,j,ρ⟩,IO⟩;refine ao (ar call351 (Ug t p A a b m c (EU y))) ?_;apply ap<;>intro V;refine aJ aR (bJ (.cons (bX lW kc ρ ρ) (.cons (bA ρ) .nil)) ?_);exact⟨_,⟨none,f,_,g,ρ,λx q=>(by cases q),l,Qbe D G,E,j,ρ⟩,IO⟩;refine ao (ar call352 (Ui t p A a b m C c (EU y) true)) ?_;refine aJ aR (bJ (.cons (bX lW kc ρ ρ) (.cons (bA ρ) .nil)) ?_);obtain⟨z,rfl⟩:∃z,y=some z:=by cases y<;>simp_all
 have Z:sZ z.ent c b=true:=by simp_all[EU]
 obtain⟨W,q2⟩:=HC J;obtain⟨x,hx,e1,Y⟩:=S.sub z W;refine⟨_,⟨some x,f,_,g,?_,λx' q=>?_,l,Qbe D G,E,j,ρ⟩,IO⟩;show _=Value.tuple #[.agg (Uh x.e.1 x.e.2.1 (m %64) true).toArray,.bool true];rw[Y];rfl;grind
theorem b3Z(m j K w r:Nat)(t:Bool)(a:Int)(b:Bool)(i:Nat)(s:i<4294967296)(c:Int)(l:List It)(f g:Nat)(T:List It)(L:List Ln)(M:Rep l g T)(I:T.length≤f)(W:f≤4)(X:g<1000000)(A:TI L T):sP W0 286 [pQ m] (pt m (jZ j t a b i c)::pt j (cX K w r)::bC w (l,dt f g)::cj r L::R) (λv B=>∃o u N p,v=.tuple #[.agg (Mk o i).toArray,.bool o.isSome]/\Ml L (fu a i) c b o/\(o=none->∀x∈L,x.k=fu a i->sZ x.e c b=false)/\Rep u p N/\N.length≤f/\TI L N/\p≤g+1/\B=pt m (jZ j t a b i c)::pt j (cX K w r)::bC w (u,dt f p)::cj r L::R):=by
 obtain⟨y,C⟩:∃y,mK (fu a i) L=y:=⟨_,ρ⟩
 have Y:=A.len;refine am func286 ntmps286 ?_;refine dT (cP B5) λS=>?_;refine au 3 (fA (λn:Nat=>True) (λn=>[(0,pQ m),(2,pQ S),(4,pQ n),(5,.bool y.isSome)]) (λn=>pt S (ae [iQ 0,iQ 0,iQ 0,.bool false] 363)::pt n (ae (pL (yk y)) 500)::pt m (jZ j t a b i c)::pt j (cX K w r)::bC w (l,dt f g)::cj r L::R) ?_ ?_);refine bH [m,j] 16 λd=>?_;refine aj 0 8 d ?_;refine fp (is:=[8,13]) ld ρ ⟨?_,?_,trivial⟩;refine dB (ar yW (wL m j t a b i s c)) ?_;clear d;rintro _ J ⟨rfl,h⟩;subst h;refine⟨aW,λd=>?_⟩;refine fp (is:=[9,13]) ld ρ ⟨?_,?_,trivial⟩;refine dB (ar Bb (yh r L aq (fu a i))) ?_;clear d;rintro _ J ⟨rfl,h⟩;subst h;rw[yl,C];refine⟨aW,λd=>?_⟩;refine aj 10 3 d ?_;refine co 13 (cP sf) ?_;clear d;rintro _ _ ⟨n,rfl,rfl⟩;refine⟨aW,λd=>?_⟩;refine cp 14 aR λd=>?_;refine aj 15 1 d ?_;exact aS (cZ n trivial);skip;refine dB (cP sf) ?_;clear d;rintro _ _ ⟨n,rfl,rfl⟩;refine⟨aW,λd=>?_⟩;refine co 9 (ar Bb (yh r L aq (fu a i))) ?_;clear d;rintro _ J ⟨rfl,h⟩;subst h;rw[yl,C];refine⟨aW,λd=>?_⟩;refine aj 10 3 d ?_;refine cp 14 aR λd=>?_;refine aj 15 1 d ?_;exact aS (cZ n trivial);skip;refine dB (cP sf) ?_;clear d;rintro _ _ ⟨n,rfl,rfl⟩;refine⟨aW,λd=>?_⟩;refine bQ 8 (ar yW (wL m j t a b i s c)) λd=>?_;refine co 9 (ar Bb (yh r L aq (fu a i))) ?_;clear d;rintro _ J ⟨rfl,h⟩;subst h;rw[yl,C];refine⟨aW,λd=>?_⟩;refine aj 10 3 d ?_;refine cp 14 aR λd=>?_;refine aj 15 1 d ?_;exact aS (cZ n trivial);intro n _;refine aw ?_;apply fC<;>intro D;refine aJ aR (bJ (.cons (bX lW kc ρ ρ) (.cons (bA ρ) .nil)) ?_)
 exact⟨_,⟨none,l,T,g,ρ,λx q=>(by cases q),λ_ x O P=>(by
   have E:=Mb A.keys O;rw[P,C]at E;subst E
   simp_all[yk]),M,I,A,aq,ρ⟩,IO⟩
 refine ao (ar call351 (Ug m j t a b i c (yk y))) ?_;apply ap<;>intro Z;refine aJ aR (bJ (.cons (bX lW kc ρ ρ) (.cons (bA ρ) .nil)) ?_)
 exact⟨_,⟨none,l,T,g,ρ,λx q=>(by cases q),λ_ x O P=>(by
   have E:=Mb A.keys O;rw[P,C]at E;subst E
   simp_all[yk]),M,I,A,aq,ρ⟩,IO⟩
 obtain⟨x,rfl⟩:∃x,y=some x:=by cases y<;>simp_all
 have hm:sZ x.e c b=true:=by simp_all[yk]
 obtain⟨U,V⟩:=HJ C;have F:=A.putT f g U;have G:=Tr (now:=g) (k:=x.k) (e:=x.e) I;rw[V]at F G;rw[show yk (some x)=x.e from ρ];refine bH [m,j,n] 11 λd=>?_;refine aj 0 8 d ?_;refine aj 9 1 d ?_;refine bQ 8 (ar yW (wL m j t a b i s c)) λd=>?_;refine co 10 (ar call354 (Ts w l f g T (fu a i) x.e M I W X)) ?_;clear d;rintro _ J ⟨rfl,H,h,Q⟩;subst h;refine⟨aW,λd=>?_⟩;refine aS (ao (ar call352 (Ui m j t a b i s c x.e true)) ?_);refine aJ aR (bJ (.cons (bX lW kc ρ ρ) (.cons (bA ρ) .nil)) ?_);refine⟨_,⟨some x,H,_,g+1,ρ,λx' q=>?_,λq=>(by cases q),Q,G,F,by omega,ρ⟩,IO⟩;cases q;exact⟨U,V,hm⟩
section
variable{P:Program}{S:World->Prop}{N:FSz}{e:bK}{t:TypeId}{x y:Operand}
theorem Um{E b c j:Nat}{k i cs}{d:List Value}(g:P.underlying t=some (.array b E))(h:∀w,(isAgg E).run P w=.ok true w)(l:∀w,(sizeOf E).run P w=.ok c w)(m:ev e x=some (.agg cs))(n:ev e y=some (.int k i))
    (o:i=j)(r:j<b)(p:cs.extract (j*c) (j*c+c)=d.toArray):cr P S N e (.index t x y) (.agg d.toArray):=λa w _ _ _ _ _ f _=>by
 subst o;have q:(0:Int)≤(j:Int)/\(j:Int)<(b:Int):=aq;simp only[execOp,Instr.index,Sem.run_bind,f.eval m,f.eval n,asIntOf,Sem.run_pure,Result.andThen_ok,eV g,Qad q,Qae,l,part,h,p,QbT]
end
def ja:List Value:=[.int .i64 0,.int .i64 4,.int .i64 1,.int .i64 1,.int .i64 2,.int .i64 2]
def vr(i:Nat):Int×Int:=if i=0 then(0,4)else if i=1 then(1,1)else(2,2)
def jM(pg:List Pl)(r p:Int):Nat->Int
 |0=>iF .i64 r 8
 |i+1=>if iF .i64 r (vr i).2≠0/\kS pg p (vr i).1=0 then nH .i64 (jM pg r p i) (vr i).2 else jM pg r p i
theorem Un(x:∀A,bF (aQ W0 A) 1 0 ja)(h f o s l e d:Nat)(u:Bool)(r p:Int)(a:List Pl)(y:Pgs a):sQ W0 411 [pQ h,.agg #[.bool u,iQ r,iQ p]] (pt h (cX f o s)::pt f (cg l e d)::pt e (bM a)::R) (iQ (jM a r p 3)) (pt h (cX f o s)::pt f (cg l e d)::pt e (bM a)::R):=by
 refine am func411 ntmps411 ?_;refine bR λm=>?_;refine ac (iT Z Z Z) ?_;refine ac (cV (x _)) ?_;refine eC (λi:Nat=>i≤3) (λi=>[(0,pQ h),(3,pQ m),(5,iQ (jM a r p i)),(11,.agg ja.toArray),(12,iQ i)]) (λi=>pt m (ae [.bool u,iQ r,iQ p] 491)::pt h (cX f o s)::pt f (cg l e d)::pt e (bM a)::R) (λi=>3-i) 0 ?_ ?_;omega;intro i E;refine aw (aB Z (λB=>?_) λB=>?_);refine au 2 (fA (λ_:Unit=>True) (λ_=>[(0,pQ h),(3,pQ m),(5,iQ (jM a r p (i+1))),(11,.agg ja.toArray),(12,iQ i)]) (λ_=>pt m (ae [.bool u,iQ r,iQ p] 491)::pt h (cX f o s)::pt f (cg l e d)::pt e (bM a)::R) ?_ ?_);refine au 2 ?_;have v:i<3:=aq;have j:ja.toArray.extract (i*2) (i*2+2)=([iQ (vr i).1,iQ (vr i).2]:List Value).toArray:=by
  have:i=0\/i=1\/i=2:=aq;rcases this with rfl|rfl|rfl<;>rfl
 have b:jM a r p (i+1)=if iF .i64 r (vr i).2≠0/\kS a p (vr i).1=0 then nH .i64 (jM a r p i) (vr i).2 else jM a r p i:=Z;obtain⟨⟨k,c⟩,w⟩:∃q,vr i=q:=⟨_,Z⟩
 rw[w]at j b;dsimp only at j b;refine aw (ac (Um c2z isAgg584 sizeOf584 Z Z Z v j) ?_);refine bU λC=>?_;refine aJ aR (bH [m,C,h] 19 λg=>?_);refine aj 0 4 g ?_;refine aE 4 g (iT Z Z Z) ?_;refine aj 5 2 g ?_;refine vQ (t:=21) Z ?_ ?_;intro n;refine aj 7 4 g ?_;refine aj 12 4 g ?_;refine bQ 11 (ar Ba (xR f l e d)) λg=>?_;refine bQ 16 (ar call392 (QX e a y p k)) λg=>?_;refine aj 17 2 g ?_;refine aS (ap (λD=>?_) λD=>?_);refine ac (uI Z Z Z) ?_;refine jF () ?_ ?_ ?_;trivial
 · rw[b,Qad (by omega)]
   exact ai
 exact IO;refine jF () ?_ ?_ ?_;trivial
 · rw[b,Qab (by omega)]
   exact ai
 exact IO;intro n;refine aj 7 12 g ?_;refine aS (jF () ?_ ?_ ?_);trivial
 · rw[b,Qab (by omega)]
   exact ai
 exact IO;intro _ _;exact aw (ac cK (d8 (i+1) aq));refine aw (ag ?_);obtain rfl:i=3:=aq;exact ax
section
variable{P:Program}{S:World->Prop}{N:FSz}{e:bK}{t:TypeId}{l:List Value}{v:Value}
theorem Uo{E n k:Nat}{ps rs}(o:P.underlying t=some (.array n E))(p:∀w,(sizeOf E).run P w=.ok k w)(q:∀w,(zeroValue t).run P w=.ok (.agg l.toArray) w)
    (m:zk k e 0 ps.toList rs)(r:l.length=rs.length*k):cr P S N e (.build t ps) (.agg rs.flatten.toArray):=λa w _ _ _ _ _ s _=>by
 have g:=Ka (k:=k) (λx v h=>s.eval h) ps.toList rs [] l 0 n4 m r;simp only[Qar]at g
 have u:Instr.build t (ps.map λ(i,x)=>(i,a.eval x))=(do
     let zero:=(<-zeroValue t).cells
     match <-underlying t with
     | .struct c=>
       let d <-c.mapM xq
       let some b:=Instr.fill (d[·]?) zero (ps.map λ(i,x)=>(i,a.eval x)).toList|stuck "build: no such field, or a part of the wrong size"
       pure (.agg b)
     | .array _ j=>
       let f <-sizeOf j
       let some b:=Instr.fill (λi=>some (i*f,f)) zero (ps.map λ(i,x)=>(i,a.eval x)).toList|stuck "build: a part of the wrong size"
       pure (.agg b)
     |_=>stuck "build: struct or array type expected"):=Z
 simp only[execOp,u,Sem.run_bind,q,eV o,p,Result.andThen_ok,Value.cells,Sem.run_pure,Qco];rw[g];rfl
end
theorem HV n:(((n:Nat):Int) != 0)=(n != 0):=by grind
theorem Uq(b:Nat)(c:List Nat)(d x:Nat)(i:Int)(h:c.length=16):sQ W0 149 [pQ b,iQ i,wV x] (pt b (eJ c d)::R) (iQ (if pK i then 0 else 1)) (pt b (eJ (if pK i then sH c i.toNat x else c) d)::R):=by
 by_cases a:pK i=true;have k:0≤i/\i<16:=Qaw a;obtain⟨n,rfl⟩:∃n:Nat,i=(n:Int):=⟨i.toNat,aq⟩
 rw[Qad a,Qad a,Qae];by_cases l:n=0;subst l;rw[sH,Qad Z];have e:∀R,bE Tryz.prog W0 250 [pQ b,iQ ((0:Nat):Int),wV x] (pt b (eJ c d)::R) (λv B=>v=.tuple #[]/\B=pt b (eJ c d)::R):=λR=>by
  refine am func250 ntmps250 ?_;apply ap<;>intro j;exact absurd Z j;refine bP (.inr Z) .nil ?_;exact ax
 refine jj 12 Yd ntmps149 ?_;apply aB Z<;>intro f;cases f;refine aw (cW 10 (ar OH (Ho b c d h ((0:Nat):Int))) ?_);apply ap<;>intro g;refine ao (ar call250 (e _)) ?_;refine ag ?_;rw[a];exact ax;exact absurd (by rw[a];rfl) g;grind[sH,LH];rw[Qab a,Qab a];refine jj 12 Yd ntmps149 ?_;apply aB Z<;>intro f;cases f;refine aw (cW 10 (ar OH (Ho b c d h i)) ?_);apply ap<;>intro g;exact absurd g (by rw[Qab a];decide);refine ag ?_;rw[Qab a];exact ax
abbrev fj(cs:List Nat)(id:Nat):Obj:=ae (cs.map wV++[.int .i64 id,.bool true]) 356
section
variable{cs:List Nat}{id:Nat}
theorem EV(h:CsOk cs):(cs.map wV++[Value.int .i64 id,.bool true]).length=9:=by simp[h.len]
theorem Aj(h:CsOk cs){n}(a:n<7):(cs.map wV++[Value.int .i64 id,.bool true])[n*1]?=some (wV (fV cs n)):=by
 have:n<cs.length:=by rw[h.len];exact a
 rw[QaP,QaO mv];simp[fV,List.getD,this]
theorem b30(h:CsOk cs):(cs.map wV++[Value.int .i64 id,.bool true])[8]?=some (.bool true):=by rw[Qbj (by rw[QaD,h.len];decide),QaD,h.len];rfl
theorem b31(h:CsOk cs):(cs.map wV++[Value.int .i64 id,.bool true])[7]?=some (iQ id):=by rw[Qbj (by rw[QaD,h.len];decide),QaD,h.len];rfl
theorem EW(h:cs.length=7){v:Nat}(a:n<7):(cs.map wV++[Value.int .i64 id,.bool true]).set (n*1) (wV v)=(cs.set n v).map wV++[iQ id,.bool true]:=by simp_all
theorem b32(h:CsOk cs):((cs.map wV++[Value.int .i64 id,.bool true]).drop 0).take 7=cs.map wV:=by rw[List.drop_zero,List.take_left' (by rw[QaD,h.len])]
theorem Cp(b:Nat)(h:CsOk cs):sQ W0 203 [pV b] (pt b (fj cs id)::R) (.bool false) (pt b (fj cs id)::R):=by refine am func203 ntmps203 ?_;apply d7 Z Z Z<;>intro a;cases a;refine aw (ac (aY (aO (b30 h))) ?_);exact ki
theorem HW(b:Nat)(h:CsOk cs)(k:Nat)(a:k<4294967296):sQ W0 200 [pV b,wV k] (pt b (fj cs id)::R) (.bool (xI cs k)) (pt b (fj cs id)::R):=by refine am func200 ntmps200 ?_;refine ac (dW se aX Z Z (i:=5) Z cl dg) ?_;refine ac (aY (aO (Aj h (n:=5) cl))) ?_;refine ac (iT Z Z (pz (h.at_ 5) a)) ?_;exact ag ⟨_,⟨Qak Value.bool (HV _),Z⟩,IO⟩
theorem Ur(b:Nat)(h:CsOk cs):sQ W0 357 [pV b] (pt b (fj cs id)::R) (iQ (if ii cs then 0 else 4)) (pt b (fj cs id)::R):=by refine am func357 ntmps357 ?_;refine ao (ar G6 (Cp b h)) ?_;refine ao (ar OO (HW b h 4 cl)) ?_;apply ap<;>intro c3;refine ag ?_;rw[ii,Qab aa4];exact ax;refine ag ?_;rw[ii,Qad aa4];exact ax
theorem Us(b:Nat)(h:CsOk cs)(d:id<4)(n:Nat)(k:n<9)(a:Int)(l:0≤a):sQ W0 293 [pV b,iQ n,iQ a] (pt b (fj cs id)::R) (.tuple #[wV (if ii cs then xK cs id a.toNat n else 0),iQ (if ii cs then 0 else 4)]) (pt b (fj cs id)::R):=by
 obtain⟨q,rfl⟩:∃q:Nat,a=(q:Int):=⟨a.toNat,aq⟩
 rw[Qae];refine am func293 ntmps293 ?_;refine ao (ar call357 (Ur b h)) ?_;apply ap<;>intro e;refine aZ ?_;have c:ii cs=false:=by
  grind
 rw[c];exact ax;have c:ii cs=true:=by
  grind
 rw[c];apply aB Z<;>intro f;omega;refine aw (aB Z (λg=>?_) λg=>?_);omega;refine aw (ap (λi=>?_) λi=>?_);refine ac (cv (iK (q:Int))) ?_;refine aZ ?_;obtain rfl:n=7:=aq;exact ax;apply ap<;>intro j;refine ac (aY (aO (b31 h))) ?_;refine ac (cv (eh aq)) ?_;refine aZ ?_;obtain rfl:n=8:=aq;exact ax;refine ac (iy aq) ?_;refine ac (aY (aO (Aj h (n:=n) aq))) ?_;refine aZ ?_;rw[Qad Z,xK,Qab aq,Qab aq];exact ax
theorem b33(b:Nat)(h:CsOk cs)(n v:Nat)(o:n<9)(i:v<4294967296)(k:ii cs=true):sP W0 420 [pV b,iQ n,wV v] (pt b (fj cs id)::R) (λr B=>r=iQ (if n≤6 then 0 else 1)/\B=pt b (fj (if n≤6 then cs.set n (qq n v)else cs) id)::R):=by
 refine am func420 ntmps420 ?_;refine ao (ar call357 (Ur b h)) ?_;rw[k,Qad Z];refine aB Z (λj=>?_) λj=>?_;exact absurd Z j;refine au 2 (fA (λ_:Unit=>n≤6) (λ_=>[(0,pV b),(1,iQ n),(2,wV (qq n v))]) (λ_=>pt b (fj cs id)::R) ?_ ?_);refine au 12 (ap (λl=>?_) λl=>?_);refine ac (iT Z Z (pz i cl)) ?_;refine jF () ?_ ?_ ?_;omega
 · rw[qq,Qad (by omega)]
   repeat (first|exact cQ|refine cA rfl ?_)
 exact IO;refine ap (λm=>?_) λm=>?_;refine ac (iT Z Z (pz i cl)) ?_;refine jF () ?_ ?_ ?_;omega
 · rw[qq,Qab (by omega),Qad (by omega)]
   repeat (first|exact cQ|refine cA rfl ?_)
 exact IO;refine ap (λc=>?_) λc=>?_;refine jF () ?_ ?_ ?_;omega
 · rw[qq,Qab (by omega),Qab (by omega)]
   repeat (first|exact cQ|refine cA rfl ?_)
 exact IO;refine ap (λd=>?_) λd=>?_;refine jF () ?_ ?_ ?_;omega
 · rw[qq,Qab (by omega),Qab (by omega)]
   repeat (first|exact cQ|refine cA rfl ?_)
 exact IO;refine ap (λe=>?_) λe=>?_;refine jF () ?_ ?_ ?_;omega
 · rw[qq,Qab (by omega),Qab (by omega)]
   repeat (first|exact cQ|refine cA rfl ?_)
 exact IO;refine ap (λf=>?_) λf=>?_;refine jF () ?_ ?_ ?_;omega
 · rw[qq,Qab (by omega),Qab (by omega)]
   repeat (first|exact cQ|refine cA rfl ?_)
 exact IO;refine ap (λg=>?_) λg=>?_;refine jF () ?_ ?_ ?_;omega
 · rw[qq,Qab (by omega),Qab (by omega)]
   repeat (first|exact cQ|refine cA rfl ?_)
 exact IO;refine ag ?_;rw[Qab aq,Qab aq];exact ax;intro _ a;rw[Qad a,Qad a];refine aw (ac (iy aq) ?_);refine aJ (fg (by rw[EV h];omega) (EW h.len aq)) ?_;exact ag ax
theorem b34(b:Nat)(h:CsOk cs):sQ W0 214 [pV b] (pt b (fj cs id)::R) (.agg (cs.map wV).toArray) (pt b (fj cs id)::R):=by refine am func214 ntmps214 ?_;refine bU λa=>?_;refine ao (ar G6 (Cp b h)) ?_;refine ac (jg Ye CY Z (cT (b:=b) (b32 h) (by rw[QaD,h.len])) (by rw[QaD,h.len])) ?_;refine aJ (eN CY Z Z (by rw[QaD,h.len]) (LG cs) Z) ?_;exact bJ (.cons (bX Ye CY Z (by rw[QaD,h.len])) .nil) ax
@[reducible] def Cq(cs:List Nat):List Value:=[.bool (oD cs),.int .i64 (oE cs),.bool (!ii cs)]
theorem EX(b:Nat)(h:CsOk cs):sQ W0 135 [pV b] (pt b (fj cs id)::R) (.agg (Cq cs).toArray) (pt b (fj cs id)::R):=by
 have d:=h.at_ 0;have e:fV cs 0/256<4294967296:=aq;obtain⟨c,a⟩:∃r,fV cs 0/256&&&31=r:=⟨_,Z⟩
 have f:c<4294967296:=by grind[Qbf,Qcb]
 refine am func135 ntmps135 ?_;refine bU λg=>?_;refine ao (ar G6 (Cp b h)) ?_;refine ac (dW se aX Z Z (i:=0) Z cl dg) ?_;refine ac (aY (aO (Aj h (n:=0) cl))) ?_;refine ac (iT Z Z (pz d cl (b:=1))) ?_;refine ac (pu Z Z cl (uV (k:=.u32) (s:=8) cl)) ?_;refine ac (iT Z Z (show _=((c:Nat):Int) by rw[<-a];exact pz e cl (b:=31))) ?_;refine ac (cv (bS aq)) ?_;refine ao (ar OO (HW b h 4 cl)) ?_;refine aJ aR (bJ (.cons (bX NM FI Z Z) .nil) ?_);refine aP ?_;rw[Cq,oD,oE,a,ii, <-HV];rfl
theorem Ut(b:Nat)(h:CsOk cs):sQ W0 199 [pV b] (pt b (fj cs id)::R) (.bool (fV cs 1 != 0)) (pt b (fj cs id)::R):=by refine am func199 ntmps199 ?_;refine ao (ar G6 (Cp b h)) ?_;apply e9<;>intro a;refine ac (dW se aX Z Z (i:=1) Z cl dg) ?_;refine aa Z (bO jP Z (aO (Aj h (n:=1) cl))) ?_;refine iu Z Z (aa Z (nI Z Z) (aa Z (z6 Z Z) (aa Z (aU Z) (aI (aA (dX (bP (.inl Z) (.cons (bA Z) .nil) ?_)))))));exact⟨_,⟨Qak Value.bool (HV _),Z⟩,IO⟩;exact absurd cl a
theorem b35(b:Nat)(h:CsOk cs):sQ W0 128 [pV b] (pt b (fj cs id)::R) (.bool (zJ cs)) (pt b (fj cs id)::R):=by
 obtain⟨z,c⟩:∃z,(fV cs 1 != 0)=z:=⟨_,Z⟩
 refine am func128 ntmps128 ?_;refine ao (ar call199 (Ut b h)) ?_;rw[c];apply e9<;>intro a;rw[show zJ cs=xI cs 1 by rw[zJ,c,a,QbU]];refine ao (ar OO (HW b h 1 cl)) ?_;exact ki;rw[show zJ cs=false by rw[zJ,c,show z=false by simpa using a,Qda]];exact ki
def Mn(f0 t0 f1 t1:Nat):List Value:=[wV f0,wV t0,wV f1,wV t1]
theorem b36(b a c s f t:Nat)(h:CsOk cs)(e:f<4294967296)(g:s<4294967296)(i:t<4294967296):sQ W0 282 [wV f,wV t,pV a,pV c] (pt a (ae [pV b] 84)::pt c (ae [wV s] 62)::pt b (fj cs id)::R) (.tuple #[]) (pt a (ae [pV b] 84)::pt c (ae [wV (v6 cs s f t)] 62)::pt b (fj cs id)::R):=by refine am func282 ntmps282 ?_;refine ao (ar OO (HW b h f e)) ?_;apply ap<;>intro d;rw[v6,Qad d];refine ac (show cr _ _ _ _ _ (wV (s|||t))from uI Z Z (Bv g i)) ?_;refine aJ dr (bP (.inr Z) .nil ?_);exact ax;rw[v6,Qab d];refine bP (.inr Z) .nil ?_;exact ax
def Cr(cs:List Nat)(s f0 t0 f1 t1:Nat):Nat->Nat
 |0=>s
 |1=>v6 cs s f0 t0
 |_=>v7 cs s f0 t0 f1 t1
theorem Uu W0 R b s f0 t0 f1 t1(h:CsOk cs)(f:s<4294967296)(p:f0<4294967296)(g:t0<4294967296)(q:f1<4294967296)(o:t1<4294967296):sQ W0 204 [pV b,wV s,.agg (Mn f0 t0 f1 t1).toArray] (pt b (fj cs id)::R) (.tuple #[]) (pt b (fj (cs.set 5 (v7 cs s f0 t0 f1 t1)) id)::R):=by
 have j:∀k,Cr cs s f0 t0 f1 t1 k<4294967296:=λk=>by
  match k with
  |0=>exact f
  |1=>exact Kz f g
  |k+2=>exact KA f g o
 refine am func204 ntmps204 ?_;refine dh (fQ Z Z) λa=>?_;refine bR λv=>?_;refine dh (pw Oq Z) λc=>?_;refine eM (iG aX Z Z Z (Qaa Z) SetL.eq) ?_;rintro _ _ rfl;refine aI (aA (aG (aM (aa Z (Bn Z Z) ?_))));refine aa Z (aU Z) (aI (aA (aG (aG (aM (aa Z (q9 isAgg359 sizeOf359 Z Z) ?_))))));refine aa Z (aV Z) (aI (aA (jR ?_)));refine fI (λk:Nat=>k≤2) (λk=>[(3,pV a),(6,pV c),(7,.func (.func 282) #[] #[pV a,pV c]),(12,.agg (Mn f0 t0 f1 t1).toArray),(13,.int .i64 k)]) (λk=>pt a (ae [pV b] 84)::pt c (ae [wV (Cr cs s f0 t0 f1 t1 k)] 62)::pt b (fj cs id)::R) (λk=>2-k) 0 ?_ ?_ ?_ ?_;omega
 · exact ai
 exact(show Ent _ (pt a (ae [pV b] 84)::pt c (ae [wV s] 62)::pt b (fj cs id)::R)from inferInstance);intro k w;refine aw (ap (λr=>?_) λr=>?_);have e:k<2:=aq;obtain⟨x,y,t,u,l,d⟩:∃x y,x<4294967296/\y<4294967296/\((Mn f0 t0 f1 t1).toArray.extract (k*2) (k*2+2)=[wV x,wV y].toArray)/\v6 cs (Cr cs s f0 t0 f1 t1 k) x y=Cr cs s f0 t0 f1 t1 (k+1):=by
  match k,e with
  |0,_=>exact⟨f0,t0,p,g,Z,Z⟩
  |1,_=>exact⟨f1,t1,q,o,Z,Z⟩
 refine ac (Um Ys isAgg358 NY Z Z Z e l) ?_;refine bU λA=>?_;refine aJ aR (ac (dW G7 aX Z Z (i:=0) Z cl dg) ?_);refine ac (dW G7 aX Z Z (i:=1) Z cl dg) ?_;refine ao (kO qi (iV (us:=[]) (cs:=[pV a,pV c]) Z call282 Z (b36 b a c (Cr cs s f0 t0 f1 t1 k) x y h t (j k) u))) ?_;rw[d];exact ac cK (d8 (k+1) aq);obtain rfl:k=2:=aq;refine bH [a,c] 6 λm=>?_;refine aj 0 4 m ?_;refine aE 4 m (dW se aX Z Z (i:=5) Z cl dg) ?_;refine cp 5 (fg (by grind[EV]) (EW (n:=5) h.len cl)) λm=>?_;refine aS (bP (.inr Z) .nil ?_);exact⟨_,⟨Z,Z⟩,(show Ent _ (pt b (fj (cs.set 5 (Cr cs s f0 t0 f1 t1 2)) id)::R)from inferInstance)⟩
theorem Uv(b d a c:Nat)(h:CsOk cs)(f:d<4294967296)(g:a<4294967296)(j:c<4294967296):sQ W0 131 [pV b,wV d,wV a,wV c] (pt b (fj cs id)::R) (.tuple #[wV (fV cs 1),iQ 0]) (pt b (fj (zK cs d a c) id)::R):=by
 have k:=h.trap f g j;have l:=h.enter f g j;have m:fV (zK cs d a c) 1=fV cs 1:=by grind[zK,w9,fV]
 refine am func131 ntmps131 ?_;refine ao (ar G6 (Cp b h)) ?_;refine bH [] 18 λe=>?_;refine aj 0 8 e ?_;refine aE 8 e (dW se aX Z Z (i:=2) Z cl dg) ?_;refine aj 10 2 e ?_;refine aj 14 2 e ?_;refine cp 9 (fg (by grind[EV]) (EW (n:=2) h.len cl)) λe=>?_;refine aE 12 e (dW se aX Z Z (i:=3) Z cl dg) ?_;refine cp 13 (fg (by rw[EV (h.set 2 d f)];decide) (EW (n:=3) (h.set 2 d f).len cl)) λe=>?_;refine aE 16 e (dW se aX Z Z (i:=4) Z cl dg) ?_;refine cp 17 (fg (by rw[EV ((h.set 2 d f).set 3 a g)];decide) (EW (n:=4) ((h.set 2 d f).set 3 a g).len cl)) λe=>?_;refine aS ?_;refine ac (zu G7 aX Jm Z Z Z Z) ?_;refine ac (zu G7 aX Jm Z Z Z Z) ?_;refine ac (Uo (rs:=[[wV 1,wV 2],[wV 4,wV 8]]) Ys NY c2A (fK Z Z (fK Z Z iH)) Z) ?_;refine ao (ar call204 (Uu (cs:=w9 cs d a c) W0 _ b 4 1 2 4 8 k cl cl cl cl cl)) ?_;rw[a8s,show(w9 cs d a c).set 5 (v7 cs 4 1 2 4 8)=zK cs d a c from Z];refine ac (dW se aX Z Z (i:=1) Z cl dg) ?_;refine ac (aY (aO (Aj l (n:=1) cl))) ?_;refine aZ ?_;rw[m];exact ax
theorem b37(b:Nat)(h:CsOk cs):sQ W0 419 [pV b] (pt b (fj cs id)::R) (.tuple #[wV (fV cs 2),iQ 0]) (pt b (fj (xJ cs) id)::R):=by
 have a:=h.leave;have c:fV (xJ cs) 2=fV cs 2:=by grind[xJ,fV]
 have d:fV cs 5&&&10<4294967296:=Qbf Qcb (h.at_ 5);refine am func419 ntmps419 ?_;refine ao (ar G6 (Cp b h)) ?_;refine ac (dW se aX Z Z (i:=5) Z cl dg) ?_;refine ac (aY (aO (Aj h (n:=5) cl))) ?_;refine ac (iT Z Z (pz (h.at_ 5) cl (b:=10))) ?_;refine ac (zu G7 aX Jm Z Z Z Z) ?_;refine ac (zu G7 aX Jm Z Z Z Z) ?_;refine ac (Uo (rs:=[[wV 2,wV 1],[wV 8,wV 4]]) Ys NY c2A (fK Z Z (fK Z Z iH)) Z) ?_;refine ao (ar call204 (Uu W0 _ b (fV cs 5&&&10) 2 1 8 4 h d cl cl cl cl)) ?_;rw[show cs.set 5 (v7 cs (fV cs 5&&&10) 2 1 8 4)=xJ cs from Z];refine ac (dW se aX Z Z (i:=2) Z cl dg) ?_;refine ac (aY (aO (Aj a (n:=2) cl))) ?_;refine aZ ?_;rw[c];exact ax
end
theorem Mo(a:Nat):IntKind.wrap .i32 a=tN a:=Z
section
variable(W0:World)(R:List HP)(a b:Nat)
theorem b38:sQ W0 457 [.agg #[wV a,wV b]] R (wV (u32 (a+b))) R:=by refine am func457 ntmps457 ?_;refine bR λc=>?_;refine ac (dI Z Z (iK _)) ?_;exact ki
theorem b39:sQ W0 458 [.agg #[wV a,wV b]] R (wV (u32 (a-b))) R:=by refine am func458 ntmps458 ?_;refine bR λc=>?_;refine ac (mY Z Z (iK _)) ?_;exact ki
theorem b4a(c:a<4294967296)(d:b<4294967296):sQ W0 451 [.agg #[wV a,wV b]] R (wV (a&&&b)) R:=by refine am func451 ntmps451 ?_;refine bR λe=>?_;refine ac (iT Z Z (pz c d)) ?_;exact ki
theorem b4b(c:a<4294967296)(d:b<4294967296):sQ W0 452 [.agg #[wV a,wV b]] R (wV (a|||b)) R:=by refine am func452 ntmps452 ?_;refine bR λe=>?_;refine ac (uI Z Z (Bv c d)) ?_;exact ki
theorem b4c:z7 .u32 a b=(u32 (z7 .u32 a b)):=by grind[z7,iK,fy,Ky]
theorem b4d:sQ W0 453 [.agg #[wV a,wV b]] R (wV (u32 (z7 .u32 a b))) R:=by refine am func453 ntmps453 ?_;refine bR λc=>?_;refine ac (YV Z Z (b4c a b)) ?_;exact ki
theorem Uw x n:mZ .u32 x n=(u32 (mZ .u32 x n)):=by grind[mZ,iK,Ky,fy]
theorem b4e:sQ W0 454 [.agg #[wV a,wV b]] R (wV (u32 (mZ .u32 a (b %32:Nat)))) R:=by refine am func454 ntmps454 ?_;refine bR λc=>?_;refine ac (kg Z Z cl (oC b 32)) ?_;refine ac (uJ Z Z aq (Uw _ _)) ?_;exact ki
theorem b4f:sQ W0 455 [.agg #[wV a,wV b]] R (wV (a/2^(b %32))) R:=by
 have c:b %32≤(IntKind.bits .u32):=by
  have:=Qbq b (show 0<32 by decide);show b %32≤32;omega
 refine am func455 ntmps455 ?_;refine bR λd=>?_;refine ac (kg Z Z cl (oC b 32)) ?_;refine ac (pu Z Z aq (uV (k:=.u32) (s:=b %32) c)) ?_;exact ki
theorem b4g:sQ W0 456 [.agg #[wV a,wV b]] R (wV (u32 (pY .i32 (tN a) (b %32:Nat)))) R:=by refine am func456 ntmps456 ?_;refine bR λc=>?_;refine ac (cv (Mo a)) ?_;refine ac (kg Z Z cl (oC b 32)) ?_;refine ac (pu Z Z aq Z) ?_;refine ac (cv (iK _)) ?_;exact ki
theorem b4h:sQ W0 459 [.agg #[wV a,wV b]] R (wV (u32 (a*b))) R:=by refine am func459 ntmps459 ?_;refine bR λc=>?_;refine ac (Bf Z Z (iK _)) ?_;exact ki
theorem Ux x:sQ W0 462 [.bool x] R (wV (w8 x)) R:=by refine am func462 ntmps462 ?_;apply ap<;>intro a;rw[show w8 x=1 by rw[a];rfl];exact ki;rw[show w8 x=0 by rw[show x=false by simpa using a];rfl];exact ki
theorem Uy:sQ W0 417 [.agg #[wV a,wV b]] R (wV (w8 (decide (tN a<tN b)))) R:=by refine am func417 ntmps417 ?_;refine bR λc=>?_;refine ac (cv (Mo a)) ?_;refine ac (cv (Mo b)) ?_;refine ao (aK call462 (Ux W0 _ (decide (tN a<tN b)))) ?_;exact ki
theorem Uz:(decide (a<(b:Int)))=decide (a<b):=by grind
theorem UA:sQ W0 418 [.agg #[wV a,wV b]] R (wV (w8 (decide (a<b)))) R:=by rw[<-Uz];refine am func418 ntmps418 ?_;refine dT (l8 Z) λd=>?_;refine aa Z (aU Z) (aI (aA (aG (aM ?_))));refine aa Z (bT Z yT Z aX Z dg) ?_;refine aa Z (bO jP Z (aO Z)) ?_;refine aa Z (bT Z yT Z aX Z dg) ?_;refine aa Z (bO jP Z (aO Z)) ?_;refine aa Z (tB Z Z) (aF Z (gx call462 Z (Ux W0 _ (decide ((a:Int)<(b:Int))))) ?_);rintro _ e ⟨rfl,c⟩;subst c;refine aa Z (aU Z) (aI (aA (dX ?_)));exact ki
theorem b4i(d:a<4294967296):sQ W0 460 [.agg #[wV a,wV b]] R (wV (if b=0 then 4294967295 else a/b)) R:=by have e:a/b<4294967296:=Qbf (Qct _ _) d;refine am func460 ntmps460 ?_;refine dT (l8 Z) λg=>?_;refine aa Z (aU Z) (aI (aA (aG (aG (aM ?_)))));refine aa Z (bT Z yT Z aX Z dg) ?_;refine aa Z (bO jP Z (aO Z)) ?_;refine aa Z (gL Z Z) (aI (aA ?_));apply aB Z<;>intro f;refine au 7 (ag ?_);rw[Qad aq];exact ax;refine aw ?_;have c:b≠0:=aq;rw[Qab c];refine ac (qT Z Z aq (by rw[uW];exact eh ⟨Int.natCast_nonneg _,Int.ofNat_lt.2 e⟩:IntKind.wrap .u32 (Int.tdiv (a:Int) (b:Int))=((a/b:Nat):Int))) ?_;exact ki
theorem b4j(e:a<4294967296):sQ W0 461 [.agg #[wV a,wV b]] R (wV (if b=0 then a else a %b)) R:=by refine am func461 ntmps461 ?_;refine dT (l8 Z) λf=>?_;refine aa Z (aU Z) (aI (aA (aG (aG (aM ?_)))));refine aa Z (bT Z yT Z aX Z dg) ?_;refine aa Z (bO jP Z (aO Z)) ?_;refine aa Z (gL Z Z) (aI (aA ?_));apply aB Z<;>intro d;refine au 9 (ag ?_);rw[Qad aq];exact ax;refine aw ?_;have c:b≠0:=aq;rw[Qab c];refine ac (kg Z Z aq (oC a b)) ?_;exact ki
def Mp(f:FuncId)(op:Nat):Prop:=(∀args w,(callFunc f args).run Tryz.prog w=.ok (.enter f args) w)/\∀R,bE Tryz.prog W0 f ([]++[.agg #[wV a,wV b]]++[]) R (λv B=>v=wV (ri op a b)/\B=R)
theorem rL{f:FuncId}{d:Nat}(g:∀c w,(callFunc f c).run Tryz.prog w=.ok (.enter f c) w)(e:ri d a b=n)(h:∀R,bE Tryz.prog W0 f [.agg #[wV a,wV b]] R (λv B=>v=wV n/\B=R)):Mp W0 a b f d:=⟨g,by rw[e];exact h⟩
theorem b4k(c:Nat)(h:3≤c/\c≤8)(e:a<4294967296)(g:b<4294967296):sP W0 415 [iQ c] R (λv B=>∃f,v=.func (.func f) #[] #[]/\B=R/\Mp W0 a b f c):=by refine am func415 ntmps415 ?_;apply ap<;>intro i;refine ag ?_;obtain rfl:c=3:=aq;exact⟨_,⟨_,Z,Z,rL W0 a b call451 Z λR=>b4a W0 R a b e g⟩,IO⟩;apply ap<;>intro j;refine ag ?_;obtain rfl:c=4:=aq;exact⟨_,⟨_,Z,Z,rL W0 a b call452 Z λR=>b4b W0 R a b e g⟩,IO⟩;apply ap<;>intro k;refine ag ?_;obtain rfl:c=5:=aq;exact⟨_,⟨_,Z,Z,rL W0 a b call453 Z λR=>b4d W0 R a b⟩,IO⟩;apply ap<;>intro l;refine ag ?_;obtain rfl:c=6:=aq;exact⟨_,⟨_,Z,Z,rL W0 a b call454 Z λR=>b4e W0 R a b⟩,IO⟩;apply ap<;>intro d;refine ag ?_;obtain rfl:c=7:=aq;exact⟨_,⟨_,Z,Z,rL W0 a b call455 Z λR=>b4f W0 R a b⟩,IO⟩;refine ag ?_;obtain rfl:c=8:=aq;exact⟨_,⟨_,Z,Z,rL W0 a b call456 Z λR=>b4g W0 R a b⟩,IO⟩
theorem UB(c:Nat)(h:1≤c/\c≤13/\(c<3\/8<c))(g:a<4294967296):sP W0 416 [iQ c] R (λv B=>∃f,v=.func (.func f) #[] #[]/\B=R/\Mp W0 a b f c):=by refine am func416 ntmps416 ?_;apply ap<;>intro i;refine ag ?_;obtain rfl:c=1:=aq;exact⟨_,⟨_,Z,Z,rL W0 a b call457 Z λR=>b38 W0 R a b⟩,IO⟩;apply ap<;>intro j;refine ag ?_;obtain rfl:c=2:=aq;exact⟨_,⟨_,Z,Z,rL W0 a b call458 Z λR=>b39 W0 R a b⟩,IO⟩;apply ap<;>intro k;refine ag ?_;obtain rfl:c=9:=aq;exact⟨_,⟨_,Z,Z,rL W0 a b call417 Z λR=>Uy W0 R a b⟩,IO⟩;apply ap<;>intro l;refine ag ?_;obtain rfl:c=10:=aq;exact⟨_,⟨_,Z,Z,rL W0 a b call418 Z λR=>UA W0 R a b⟩,IO⟩;apply ap<;>intro d;refine ag ?_;obtain rfl:c=11:=aq;exact⟨_,⟨_,Z,Z,rL W0 a b call459 Z λR=>b4h W0 R a b⟩,IO⟩;apply ap<;>intro e;refine ag ?_;obtain rfl:c=12:=aq;exact⟨_,⟨_,Z,Z,rL W0 a b call460 Z λR=>b4i W0 R a b g⟩,IO⟩;refine ag ?_;obtain rfl:c=13:=aq;exact⟨_,⟨_,Z,Z,rL W0 a b call461 Z λR=>b4j W0 R a b g⟩,IO⟩
theorem UC(e:Nat)(h:1≤e/\e≤13)(j:a<4294967296)(k:b<4294967296):sQ W0 358 [iQ e,wV a,wV b] R (.tuple #[wV (ri e a b),iQ 0]) R:=by refine am func358 ntmps358 ?_;apply aB Z<;>intro l;omega;refine aw (aB Z (λm=>?_) λm=>?_);omega;refine aw ?_;apply e9<;>intro g;apply ap<;>intro n;refine aF Z (aK call415 (b4k W0 _ a b e aq j k)) ?_;rintro _ i ⟨f,rfl,c,d⟩;subst c;refine aa Z (aV Z) (aa Z (aV Z) (aa Z (eH yT JB (aT aX (aT aX eG)) (cJ Z aX Z Z (Qaa Z) SetL.eq (cJ Z aX Z Z (Qaa Z) SetL.eq eE))) ?_));refine aF Z (iV (us:=[]) (cs:=[]) Z d.1 Z (d.2 _)) ?_;rintro _ i ⟨rfl,c⟩;subst c;refine aa Z (aU Z) (aa Z (aU Z) (aI (aA (dX (pr (jS ?_))))));exact aZ ax;refine aF Z (aK call416 (UB W0 _ a b e aq j)) ?_;rintro _ i ⟨f,rfl,c,d⟩;subst c;refine aa Z (aV Z) (aa Z (aV Z) (aa Z (eH yT JB (aT aX (aT aX eG)) (cJ Z aX Z Z (Qaa Z) SetL.eq (cJ Z aX Z Z (Qaa Z) SetL.eq eE))) ?_));refine aF Z (iV (us:=[]) (cs:=[]) Z d.1 Z (d.2 _)) ?_;rintro _ i ⟨rfl,c⟩;subst c;refine aa Z (aU Z) (aa Z (aU Z) (aI (aA (dX ?_))));exact aZ ax;refine aF Z (aK call416 (UB W0 _ a b e aq j)) ?_;rintro _ i ⟨f,rfl,c,d⟩;subst c;refine aa Z (aV Z) (aa Z (aV Z) (aa Z (eH yT JB (aT aX (aT aX eG)) (cJ Z aX Z Z (Qaa Z) SetL.eq (cJ Z aX Z Z (Qaa Z) SetL.eq eE))) ?_));refine aF Z (iV (us:=[]) (cs:=[]) Z d.1 Z (d.2 _)) ?_;rintro _ i ⟨rfl,c⟩;subst c;refine aa Z (aU Z) (aa Z (aU Z) (aI (aA (dX ?_))));exact aZ ax
theorem UD p:(((w8 p):Int)==1)=p:=by cases p<;>rfl
theorem UE:(a==(b:Int))=decide (a=b):=by grind
theorem b4l:(a != (b:Int))=decide (a≠b):=by grind
theorem b4m(c:Nat)(h:28≤c/\c≤31):sQ W0 365 [iQ c,wV a,wV b] R (.tuple #[.bool (DN c a b),iQ 0]) R:=by refine iW func365 ntmps365 Z Z ?_;refine aG (aM (aa Z (aU Z) (aa Z (aU Z) (aI (aA (aG (aM (aa Z (aV Z) (aa Z (aV Z) (aa Z (eH yT JB (aT aX (aT aX eG)) (cJ Z aX Z Z (Qaa Z) SetL.eq (cJ Z aX Z Z (Qaa Z) SetL.eq eE))) ?_))))))))));refine aF Z (cP JB) ?_;rintro _ _ ⟨k,rfl,rfl⟩;refine aJ aR (aB Z (λe=>?_) λe=>?_);refine aG (aM (aa Z (aV Z) (aa Z (aV Z) (aa Z (gL Z Z) (aa Z (aU Z) (aa Z (aU Z) (aI (aA (dX (pr (jS (bP (.inl Z) (.cons (bA Z) (.cons (bA Z) .nil)) ?_))))))))))));obtain rfl:c=28:=aq;exact⟨_,⟨by rw[UE];rfl,Z⟩,IO⟩;refine aw (aB Z (λf=>?_) λf=>?_);refine aG (aM (aa Z (aV Z) (aa Z (aV Z) (aa Z (nI Z Z) (aa Z (aU Z) (aa Z (aU Z) (aI (aA (dX (pr (jS (bP (.inl Z) (.cons (bA Z) (.cons (bA Z) .nil)) ?_))))))))))));obtain rfl:c=29:=aq;exact⟨_,⟨by rw[b4l];rfl,Z⟩,IO⟩;refine aw (ap (λg=>?_) λg=>?_);refine aF Z (gx call417 Z (Uy W0 _ a b)) ?_;rintro _ i ⟨rfl,d⟩;subst d;refine aa Z (gL Z Z) (aa Z (aU Z) (aa Z (aU Z) (aI (aA (dX (pr (jS (bP (.inl Z) (.cons (bA Z) (.cons (bA Z) .nil)) ?_))))))));obtain rfl:c=30:=aq;exact⟨_,⟨by rw[UD];rfl,Z⟩,IO⟩;apply aB Z<;>intro j;refine au 3 (aF Z (gx call418 Z (UA W0 _ a b)) ?_);rintro _ i ⟨rfl,d⟩;subst d;refine aa Z (gL Z Z) (aa Z (aU Z) (aa Z (aU Z) (aI (aA (dX (pr (jS (bP (.inl Z) (.cons (bA Z) (.cons (bA Z) .nil)) ?_))))))));obtain rfl:c=31:=aq;exact⟨_,⟨by rw[UD];rfl,Z⟩,IO⟩;omega
theorem b4n(op:Nat)(h:14≤op/\op≤21):sQ W0 362 [iQ op] R (.tuple #[iQ (lJ op),.bool true]) R:=by refine am func362 ntmps362 ?_;apply ap<;>intro c2;refine aZ ?_;obtain rfl:op=14:=aq;exact ax;apply ap<;>intro c4;refine aZ ?_;obtain rfl:op=21:=aq;exact ax;apply ap<;>intro c6;refine ac jt (ac (dI Z Z (ur:IntKind.wrap .i64 (((op:Int)-15)+3)=((lJ op:Nat):Int))) ?_);exact aZ ax;apply ap<;>intro c7;refine ac jt (ac (dI Z Z (ur:IntKind.wrap .i64 (((op:Int)-15)+3)=((lJ op:Nat):Int))) ?_);exact aZ ax;apply ap<;>intro c8;refine ac jt (ac (dI Z Z (ur:IntKind.wrap .i64 (((op:Int)-15)+3)=((lJ op:Nat):Int))) ?_);exact aZ ax;apply ap<;>intro c9;refine ac jt (ac (dI Z Z (ur:IntKind.wrap .i64 (((op:Int)-15)+3)=((lJ op:Nat):Int))) ?_);exact aZ ax;apply ap<;>intro c10;refine ac jt (ac (dI Z Z (ur:IntKind.wrap .i64 (((op:Int)-15)+3)=((lJ op:Nat):Int))) ?_);exact aZ ax;apply aB Z<;>intro c11;refine au 3 (ac jt (ac (dI Z Z (ur:IntKind.wrap .i64 (((op:Int)-15)+3)=((lJ op:Nat):Int))) ?_));exact aZ ax;omega
theorem b4o im:sQ W0 363 [iQ im] R (wV (DO im)) R:=by refine am func363 ntmps363 ?_;refine ac (cv (iK im)) ?_;refine ac (uJ Z Z cl (Uw _ _)) ?_;exact ki
end
@[reducible] def Ak(i:Ins):List Value:=[.int .i64 i.op,.int .i64 i.d,.int .i64 i.a,.int .i64 i.b,.int .i64 i.im]
def ko:List Value:=DL.map λn=>.int .i64 ((n:Nat):Int)
section
variable{W0:World}
theorem UF(hH:∀A,bF (aQ W0 A) 0 0 ko){op:Nat}(h:op<42):lF (aQ W0 R) 0 (op*1) (iQ ((sG op:Nat):Int)):=by
 have a:op<DL.length:=h
 have:=hH R op (iQ ((sG op:Nat):Int)) (by
   unfold ko;rw[QbL,QbN a]
   simp[sG,List.getD,a])
 rw[Qac]at this;rw[QaP];exact this
theorem b4p{c:World}(a:Nat):sQ c 290 [iQ a] R (.bool (w6 a)) R:=by refine am func290 ntmps290 ?_;apply e9<;>intro b;rw[show w6 a=decide ((a:Int)≤41) by unfold w6;apply QaY.2;omega];exact ki;rw[show w6 a=false by unfold w6;apply Qat;omega];exact ki
theorem Mq{W0 R}may(n:Nat):sQ W0 291 [.bool may,iQ n] R (.bool (w7 may n)) R:=by
 cases may with
 |false=>
  refine am func291 ntmps291 ?_;refine aB Z ?_ ?_;intro b;exact aw (ag ⟨_,⟨Qak Value.bool (UE n 0),Z⟩,IO⟩);intro b;exact absurd cl b
 |true=>
  refine jj 12 func291 ntmps291 ?_;refine et (so Z Z Z (λa=>?_) λa=>?_);exact au 8 (ag ⟨_,⟨Qak Value.bool (Uz n 16),Z⟩,IO⟩);omega
theorem b4q:∀n,n<16->iF .i64 (n:Nat) 8=(n/8%2*8:Nat):=by decide+kernel
theorem b4r:∀n,n<16->iF .i64 (n:Nat) 1=(n %2:Nat):=by decide+kernel
theorem b4s:∀n,n<16->iF .i64 (n:Nat) 2=(n/2%2*2:Nat):=by decide+kernel
theorem b4t:∀n,n<16->iF .i64 (n:Nat) 4=(n/4%2*4:Nat):=by decide+kernel
theorem b4u n:(((n/2%2*2:Nat):Int) != 0)=(n/2%2 != 0):=by grind
theorem b4v n:(((n/4%2*4:Nat):Int) != 0)=(n/4%2 != 0):=by grind
theorem UG:∀a,a<42->sG a<16:=by decide+kernel
theorem b4w{e:World}(f:∀A,bF (aQ e A) 0 0 ko)(b:Nat)(h:b<42)(n:Int):sQ e 292 [iQ b,iQ n] R (.bool (iY b n)) R:=by have g:=UG b h;have i:=UF (R:=R) f h;refine am func292 ntmps292 ?_;refine ap (λj=>?_) λj=>?_;refine e9 (λa=>?_) λa=>?_;rw[show iY b n=decide (n≤31) by rw[iY,Qad (by omega)];apply QaY.2;omega];exact ag ax;rw[show iY b n=false by rw[iY,Qad (by omega)];apply Qat;omega];exact ag ax;refine ap (λk=>?_) λk=>?_;refine e9 (λa=>?_) λa=>?_;rw[show iY b n=decide (n≤31) by rw[iY,Qad (by omega)];apply QaY.2;omega];exact ag ax;rw[show iY b n=false by rw[iY,Qad (by omega)];apply Qat;omega];exact ag ax;refine ap (λl=>?_) λl=>?_;refine e9 (λa=>?_) λa=>?_;rw[show iY b n=decide (n≤31) by rw[iY,Qad (by omega)];apply QaY.2;omega];exact ag ax;rw[show iY b n=false by rw[iY,Qad (by omega)];apply Qat;omega];exact ag ax;refine ap (λm=>?_) λm=>?_;refine e9 (λc=>?_) λc=>?_;rw[show iY b n=decide (n<9) by rw[iY,Qab (by omega),Qad (by omega)];apply QaY.2;omega];exact ag ax;rw[show iY b n=false by rw[iY,Qab (by omega),Qad (by omega)];apply Qat;omega];exact ag ax;refine ap (λo=>?_) λo=>?_;refine e9 (λc=>?_) λc=>?_;rw[show iY b n=decide (n<9) by rw[iY,Qab (by omega),Qad (by omega)];apply QaY.2;omega];exact ag ax;rw[show iY b n=false by rw[iY,Qab (by omega),Qad (by omega)];apply Qat;omega];exact ag ax;refine ac (iy h) ?_;refine ac (aY i) ?_;refine ac (iT Z Z (b4q _ g)) ?_;refine ap (λp=>?_) λp=>?_;refine ag ?_;rw[iY,Qab (by omega),Qab (by omega),Qad (by omega)];exact⟨_,⟨Qak Value.bool (by grind),Z⟩,IO⟩;refine e9 (λd=>?_) λd=>?_;rw[show iY b n=decide (n≤8191) by rw[iY,Qab (by omega),Qab (by omega),Qab (by omega)];apply QaY.2;omega];exact ag ax;rw[show iY b n=false by rw[iY,Qab (by omega),Qab (by omega),Qab (by omega)];apply Qat;omega];exact ag ax
theorem HX{W0 R}(n:∀A,bF (aQ W0 A) 0 0 ko)i:sQ W0 213 [.agg (Ak i).toArray] R (.bool (nN i)) R:=by
 obtain⟨x,D⟩:∃x,sG i.op=x:=⟨_,Z⟩
 obtain⟨r,s⟩:∃p,(sG i.op %2 != 0)=p:=⟨_,Z⟩
 obtain⟨t,u⟩:∃p,(sG i.op/2%2 != 0)=p:=⟨_,Z⟩
 obtain⟨v,w⟩:∃p,(sG i.op/4%2 != 0)=p:=⟨_,Z⟩
 obtain⟨e,y⟩:∃p,w7 r i.d=p:=⟨_,Z⟩
 obtain⟨h,B⟩:∃p,w7 t i.a=p:=⟨_,Z⟩
 obtain⟨k,C⟩:∃p,w7 v i.b=p:=⟨_,Z⟩
 have f:nN i=(w6 i.op&&e&&h&&k&&iY i.op i.im):=by
  grind[nN]
 rw[f];refine am func213 ntmps213 ?_;refine bR λE=>?_;refine ao (aK call290 (b4p i.op)) ?_;apply ap<;>intro o;refine ag ?_;rw[show w6 i.op=false by simpa using o];exact ax;have q:w6 i.op=true:=mv;have F:=Qaw q;have c:i.op<42:=aq;have l:=UG i.op c;rw[q,QbU];refine ac (iy c) ?_;refine ac (aY (UF n c)) ?_;refine ac (iT Z Z (b4r _ l)) ?_;refine ao (aK Yt (Mq _ i.d)) ?_;rw[HV,s,y];apply ap<;>intro g;refine ag ?_;rw[show e=false by simpa using g];exact ax;refine ac (iT Z Z (b4s _ l)) ?_;refine ao (aK Yt (Mq _ i.a)) ?_;rw[b4u,u,B];apply ap<;>intro j;refine ag ?_;rw[show e=true by simpa using g,show h=false by simpa using j];exact ax;refine ac (iT Z Z (b4t _ l)) ?_;refine ao (aK Yt (Mq _ i.b)) ?_;rw[b4v,w,C];apply ap<;>intro m;refine ag ?_;rw[show e=true by simpa using g,show h=true by simpa using j,show k=false by simpa using m];exact ax;refine ao (aK call292 (b4w n i.op c i.im)) ?_;refine ag ?_;rw[show e=true by simpa using g,show h=true by simpa using j,show k=true by simpa using m];exact ax
theorem HY{W0 R}(w k n:Nat)(e:w<4294967296)(f:k≤32)(g:n<32):sQ W0 212 [wV w,iQ k,iQ n] R (iQ (w/2^k %2^n:Nat)) R:=by
 have i:2^n<4294967296:=Nat.pow_lt_pow_right cl (show n<32 from g) (a:=2);have c:0<2^n:=Nat.two_pow_pos n;have h:w/2^k<4294967296:=Qbf (Qct _ _) e;have j:w/2^k %2^n<2^n:=Qbq _ c;have d:mZ .u32 1 ((n:Nat):Int)=((2^n:Nat):Int):=by
  unfold mZ;rw[Qae,Qbo (show n≤IntKind.bits .u32 by show n≤32;omega),Int.one_mul];rw[show((2:Int)^n)=((2^n:Nat):Int) by push_cast;rfl];exact eh aq
 refine am func212 ntmps212 ?_;refine bH [] 9 λb=>?_;refine aj 0 2 b ?_;refine aE 2 b (pu Z Z aq (uV (k:=.u32) f)) ?_;refine aj 3 1 b ?_;refine aE 4 b (uJ Z Z aq d) ?_;refine aE 5 b (mY Z Z (by rw[show((2^n:Nat):Int)-1=((2^n-1:Nat):Int) by omega];exact eh (by omega):IntKind.wrap .u32 (((2^n:Nat):Int)-1)=((2^n-1:Nat):Int))) ?_;refine aE 6 b (iT Z Z (by rw[pz h aq,xB])) ?_;refine aE 7 b (cv (bS aq)) ?_;refine aj 8 1 b ?_;exact aS (ag ax)
theorem b4x{w:Nat}(a:w<4294967296):pY .i32 (IntKind.wrap .i32 w) 18=zI w:=by
 have e:IntKind.wrap .i32 (w:Int)=if w<2147483648 then(w:Int)else(w:Int)-4294967296:=by
  simp only[IntKind.wrap,IntKind.bits,IntKind.signed];simp;omega
 rw[e];unfold pY zI;rw[show min (18:Int).toNat (IntKind.bits .i32)=18 by decide];rw[Int.fdiv_eq_ediv_of_nonneg _ cl];split;omega;omega
abbrev b4y:Ins:=⟨0,0,0,0,0⟩
theorem b4z{W0 R}(l:∀A,bF (aQ W0 A) 0 0 ko)w(c:w<4294967296):sQ W0 138 [wV w] R (.tuple #[.agg (Ak (if nN (kl w)then kl w else b4y)).toArray,.bool (nN (kl w))]) R:=by
 have f:w/2^0%2^6=(kl w).op:=by simp[kl]
 have g:w/2^6%2^4=(kl w).d:=Z;have h:w/2^10%2^4=(kl w).a:=Z;have j:w/2^14%2^4=(kl w).b:=Z;have k:zI w=(kl w).im:=Z;have o:=a8o c;obtain⟨i,m⟩:∃i,kl w=i:=⟨_,Z⟩
 rw[m]at f g h j k ⊢;obtain⟨z,n⟩:∃z,nN i=z:=⟨_,Z⟩
 refine am func138 ntmps138 ?_;refine bU λp=>?_;refine ao (aK OP (HY w 0 6 c cl cl)) ?_;rw[f];refine ao (aK OP (HY w 6 4 c cl cl)) ?_;rw[g];refine ao (aK OP (HY w 10 4 c cl cl)) ?_;rw[h];refine ao (aK OP (HY w 14 4 c cl cl)) ?_;rw[j];refine ac (cv Z) ?_;refine ac (pu Z Z cl ((b4x c).trans k)) ?_;refine ac (cv (bS aq)) ?_;refine bU λq=>?_;refine aJ aR (ao (aK OQ (HX l i)) ?_);rw[n];apply ap<;>intro e;refine aJ aR (bJ (.cons (bX Xc vF Z Z) (.cons (bA Z) .nil)) ?_);rw[show z=false by simpa using e];exact ax;refine aJ aR (bJ (.cons (bX Xc vF Z Z) (.cons (bA Z) .nil)) ?_);rw[show z=true by simpa using e];exact ax
theorem UH{W0 R}(a:Nat):sQ W0 216 [iQ a] R (.bool (oG a)) R:=by refine am func216 ntmps216 ?_;refine ap (λb=>?_) λb=>?_;refine ag ?_;rw[show oG a=true from Qav aq];exact ax;refine ap (λc=>?_) λc=>?_;refine ag ?_;rw[show oG a=true from Qav aq];exact ax;refine ap (λd=>?_) λd=>?_;refine ag ?_;rw[show oG a=true from Qav aq];exact ax;refine ap (λe=>?_) λe=>?_;refine ag ?_;rw[show oG a=true from Qav aq];exact ax;refine ap (λf=>?_) λf=>?_;refine ag ?_;rw[show oG a=true from Qav aq];exact ax;refine ap (λg=>?_) λg=>?_;refine ag ?_;rw[show oG a=true from Qav aq];exact ax;refine ag ?_;rw[show oG a=false from Qat aq];exact ax
theorem b4A x y:nH .u32 x y=(u32 (nH .u32 x y)):=by grind[nH,iK,Ky,fy]
theorem b4B{W0 R}(c:∀A,bF (aQ W0 A) 0 0 ko)i(b:nN i=true):sQ W0 294 [.agg (Ak i).toArray] R (.tuple #[wV (wa i),iQ 0]) R:=by obtain⟨d,e,f,g,h⟩:=GU b;refine am func294 ntmps294 ?_;refine bR λj=>?_;refine ao (aK OQ (HX c i)) ?_;apply aB Z<;>intro a;rw[b]at a;exact absurd a cl;refine aw (ac (cv (eh aq)) ?_);refine ac (cv (eh aq)) ?_;refine ac (uJ Z Z cl Z) ?_;refine ac (uI Z Z Z) ?_;refine ac (cv (eh aq)) ?_;refine ac (uJ Z Z cl Z) ?_;refine ac (uI Z Z Z) ?_;refine ac (cv (eh aq)) ?_;refine ac (uJ Z Z cl Z) ?_;refine ac (uI Z Z Z) ?_;refine ac (cv (iK i.im)) ?_;refine ac (uJ Z Z cl Z) ?_;refine ac (uI Z Z (b4A _ _)) ?_;exact aZ ax
end
@[reducible] def eU(e:Eff):List Value:=[.int .i64 e.k,wV e.pc,wV e.addr,.int .i64 e.width,.bool e.signed,.int .i64 e.d,wV e.val,wV e.cause,wV e.tval]
@[reducible] def coV(i:Ins)(rb cb:Nat)(clock:Int):List Value:=Ak i++[pV rb,pV cb,.int .i64 clock]
abbrev rM(i:Ins)(rb cb:Nat)(clock:Int):Obj:=ae (coV i rb cb clock) 380
abbrev ir(sb:Nat)(i:Ins)(rb cb:Nat)(clock:Int)(x:Cpu)(id:Nat)(R:List HP):List HP:=pt sb (rM i rb cb clock)::pt rb (eJ x.rl x.pc)::pt cb (fj x.cs id)::R
section
variable(W0:World)(R:List HP)(sb:Nat)(i:Ins)(rb cb:Nat)(clock:Int)(x:Cpu)(id:Nat)
theorem vt(a:CpOk x)(n:Nat)(b:n<16):sQ W0 359 [pV sb,iQ n] (pt sb (rM i rb cb clock)::pt rb (eJ x.rl x.pc)::R) (wV (cn x.rl n)) (pt sb (rM i rb cb clock)::pt rb (eJ x.rl x.pc)::R):=by refine am func359 ntmps359 ?_;refine ao (ar Yu (M1 rb x.rl x.pc n a.r.len b)) ?_;exact ki
theorem wM(a:CpOk x):sQ W0 361 [pV sb] (pt sb (rM i rb cb clock)::pt rb (eJ x.rl x.pc)::R) (wV (ec x.pc)) (pt sb (rM i rb cb clock)::pt rb (eJ x.rl x.pc)::R):=by refine am func361 ntmps361 ?_;refine ao (ar yX (wD rb x.rl x.pc a.r.len)) ?_;refine ac (dI Z Z (iK _)) ?_;exact ki
theorem UI(b:CpOk x):sQ W0 367 [pV sb] (pt sb (rM i rb cb clock)::pt rb (eJ x.rl x.pc)::R) (wV (farN x.pc i.im)) (pt sb (rM i rb cb clock)::pt rb (eJ x.rl x.pc)::R):=by refine am func367 ntmps367 ?_;refine bH [sb] 14 λa=>?_;refine aj 0 4 a ?_;refine aj 5 5 a ?_;refine aE 10 a (cv (iK i.im)) ?_;refine aE 11 a (Bf Z Z (iK _)) ?_;refine bQ 4 (ar yX (wD rb x.rl x.pc b.r.len)) λa=>?_;refine aE 12 a (dI Z Z (iK _)) ?_;refine aj 13 1 a ?_;exact aS (ag ax)
theorem EY(b:CpOk x)pc:sQ W0 366 [pV sb,wV pc] (pt sb (rM i rb cb clock)::pt rb (eJ x.rl x.pc)::R) (.agg (eU (pE x pc).1).toArray) (pt sb (rM i rb cb clock)::pt rb (eJ (pE x pc).2.rl (pE x pc).2.pc)::R):=by refine am func366 ntmps366 ?_;refine bU λc=>?_;refine aF Z (eg JC Z (Ey rb x.rl x.pc pc b.r.len)) ?_;rintro _ d ⟨rfl,a⟩;subst a;refine aI (aA (aG (aM (aa Z (aV Z) (aa Z (eH Jg vK (aT bu (aT aX (aT aX (aT bu (aT l6 (aT bu (aT aX (aT aX (aT aX eG))))))))) (cJ Z bu Z Z (Qaa Z) SetL.eq (cJ Z aX Z Z (Qaa Z) SetL.eq eE))) ?_)))));refine eM (eN jQ Z Z Z Z Z) ?_;rintro _ _ rfl;refine aI (aA (dX ?_));exact bJ (.cons (bX kN jQ Z Z) .nil) ax
theorem EZ(b:CpOk x)(g:i.d<16)v pc(f:v<4294967296):sP W0 360 [pV sb,wV v,wV pc] (pt sb (rM i rb cb clock)::pt rb (eJ x.rl x.pc)::R) (λr B=>r=.agg (eU (m9 i x v pc).1).toArray/\B=pt sb (rM i rb cb clock)::pt rb (eJ (m9 i x v pc).2.rl (m9 i x v pc).2.pc)::R):=by
 have a:pK (i.d:Int)=true:=by grind[pK]
 refine am func360 ntmps360 ?_;refine bU λh=>?_;refine bH [sb] 11 λc=>?_;refine aj 0 10 c ?_;refine co 10 (ar OR (Uq rb x.rl x.pc v i.d b.r.len)) ?_;clear c;rintro _ j ⟨rfl,e⟩;subst e;rw[Qad a,Qad a,Qae];refine⟨aW,λc=>?_⟩;refine aS (ao (dj JD (EY W0 _ sb i rb cb clock { x with rl:=sH x.rl i.d v } ⟨b.r.set i.d v f,b.pc,b.cs⟩ pc)) ?_);exact ek
theorem Cs{W0 R}c t:sQ W0 217 [wV c,wV t] R (.agg (eU (pD c t)).toArray) R:=by refine am func217 ntmps217 ?_;refine dT (cP vK) λa=>?_;refine aI (aA (aG (aM (aa Z (aV Z) (aa Z (aV Z) (aa Z (eH Jg vK (aT bu (aT aX (aT aX (aT bu (aT l6 (aT bu (aT aX (aT aX (aT aX eG))))))))) (cJ Z bu Z Z (Qaa Z) SetL.eq (cJ Z aX Z Z (Qaa Z) SetL.eq (cJ Z aX Z Z (Qaa Z) SetL.eq eE)))) ?_))))));refine eM (eN jQ Z Z Z Z Z) ?_;rintro _ _ rfl;refine aI (aA (dX ?_));exact bJ (.cons (bX kN jQ Z Z) .nil) ax
theorem b4D:sQ W0 364 [pV sb] (pt sb (rM i rb cb clock)::R) (iQ (rj i.op)) (pt sb (rM i rb cb clock)::R):=by refine am func364 ntmps364 ?_;apply fC<;>intro a;refine ag ?_;rw[rj,Qad aq];exact ax;apply ap<;>intro b;refine ag ?_;rw[rj,Qad aq];exact ax;refine ag ?_;rw[rj,Qab aq];exact ax
def Mr(f:FuncId)(o:Eff×Cpu):Prop:=(∀args w,(callFunc f args).run Tryz.prog w=.ok (.enter f args) w)/\∀R,bE Tryz.prog W0 f ([pV sb]++[]++[]) (ir sb i rb cb clock x id R) (λv B=>v=.agg (eU o.1).toArray/\B=ir sb i rb cb clock o.2 id R)
theorem b4E(c:CpOk x)(j:i.d<16)(k:i.a<16)(l:i.b<16)(h:1≤i.op/\i.op≤13):sQ W0 295 [pV sb] (ir sb i rb cb clock x id R) (.agg (eU (m9 i x (ri i.op (cn x.rl i.a) (cn x.rl i.b)) (ec x.pc)).1).toArray) (ir sb i rb cb clock (m9 i x (ri i.op (cn x.rl i.a) (cn x.rl i.b)) (ec x.pc)).2 id R):=by have f:=c.r.at_ i.a;have g:=c.r.at_ i.b;refine am func295 ntmps295 ?_;refine bU λm=>?_;refine bH [sb] 25 λe=>?_;refine aj 0 11 e ?_;refine aj 12 6 e ?_;refine bQ 11 (dj xo (vt W0 _ sb i rb cb clock x c i.a k)) λe=>?_;refine bQ 18 (dj xo (vt W0 _ sb i rb cb clock x c i.b l)) λe=>?_;refine bQ 19 (aK call358 (UC W0 _ (cn x.rl i.a) (cn x.rl i.b) i.op h f g)) λe=>?_;refine aj 20 5 e ?_;refine aS (ao (dj yY (wM W0 _ sb i rb cb clock x c)) ?_);refine ao (dj JE (EZ W0 _ sb i rb cb clock x c j (ri i.op (cn x.rl i.a) (cn x.rl i.b)) (ec x.pc) (GV f g))) ?_;exact ek
theorem b4F(g:CpOk x)(j:i.d<16)(k:i.a<16)(h:14≤i.op/\i.op≤21):sQ W0 296 [pV sb] (ir sb i rb cb clock x id R) (.agg (eU (m9 i x (ri (lJ i.op) (cn x.rl i.a) (u32 i.im)) (ec x.pc)).1).toArray) (ir sb i rb cb clock (m9 i x (ri (lJ i.op) (cn x.rl i.a) (u32 i.im)) (ec x.pc)).2 id R):=by
 have c:=g.r.at_ i.a;have e:1≤lJ i.op/\lJ i.op≤13:=by
  grind[lJ]
 refine am func296 ntmps296 ?_;refine bU λf=>?_;refine ao (aK call362 (b4n W0 _ i.op h)) ?_;refine bH [sb] 20 λb=>?_;refine aj 0 7 b ?_;refine aj 8 5 b ?_;refine aE 13 b (cv (iK i.im)) ?_;refine bQ 7 (dj xo (vt W0 _ sb i rb cb clock x g i.a k)) λb=>?_;refine bQ 14 (aK call358 (UC W0 _ (cn x.rl i.a) (u32 i.im) (lJ i.op) e c (fy _))) λb=>?_;refine aj 15 5 b ?_;refine aS (ao (dj yY (wM W0 _ sb i rb cb clock x g)) ?_);refine ao (dj JE (EZ W0 _ sb i rb cb clock x g j (ri (lJ i.op) (cn x.rl i.a) (u32 i.im)) (ec x.pc) (GV c (fy _)))) ?_;exact ek
theorem b4G(a:CpOk x)(b:i.d<16):sQ W0 297 [pV sb] (ir sb i rb cb clock x id R) (.agg (eU (m9 i x (DO i.im) (ec x.pc)).1).toArray) (ir sb i rb cb clock (m9 i x (DO i.im) (ec x.pc)).2 id R):=by refine am func297 ntmps297 ?_;refine bU λc=>?_;refine ao (aK call363 (b4o W0 _ i.im)) ?_;refine ao (dj yY (wM W0 _ sb i rb cb clock x a)) ?_;refine ao (dj JE (EZ W0 _ sb i rb cb clock x a b (DO i.im) (ec x.pc) (fy _))) ?_;exact ek
theorem b4H(hx:CpOk x)(ha:i.a<16)(hb:i.b<16)(h:23≤i.op/\i.op≤27):sQ W0 298 [pV sb] (ir sb i rb cb clock x id R) (.agg (eU (BI i x)).toArray) (ir sb i rb cb clock x id R):=by
 have hw:rj i.op<4294967296:=by grind[KB]
 have hw0:rj i.op≠0:=by grind[rj]
 obtain⟨at_,hat⟩:∃a,v8 (cn x.rl i.a) i.im=a:=⟨_,Z⟩
 obtain⟨m,hm⟩:∃m,rj i.op=m:=⟨_,Z⟩
 rw[BI,hat,hm];rw[hm]at hw hw0;refine am func298 ntmps298 ?_;refine bU λb2=>?_;refine py (b:=b2) (o':=ae (eU BH) 255) Z ?_;refine bH [sb] 18 λhS=>?_;refine aj 0 6 hS ?_;refine aj 7 5 hS ?_;refine aE 12 hS (cv (iK i.im)) ?_;refine aj 14 1 hS ?_;refine bQ 6 (dj xo (vt W0 _ sb i rb cb clock x hx i.a ha)) λhS=>?_;refine aE 13 hS (dI Z Z (show _=((at_:Nat):Int) by rw[<-hat];exact iK _)) ?_;refine co 15 (ar call364 (b4D W0 _ sb i rb cb clock)) ?_;clear hS;rintro _ B_ ⟨rfl,hB_⟩;subst hB_;rw[hm];refine⟨aW,λhS=>?_⟩;refine aj 16 2 hS ?_;refine aS (ac (cv (eh aq)) ?_);refine ac (kg Z Z aq (oC at_ m)) ?_;apply ap<;>intro c2;refine ao (aK G8 (Cs 2 at_)) ?_;refine aJ aR (bJ (.cons (bX kN jQ Z Z) .nil) ?_);rw[Qad aq];exact ax;rw[Qab aq];refine aF Z (Gg yY Z (wM W0 _ sb i rb cb clock x hx)) ?_;rintro _ B_ ⟨rfl,hB_⟩;subst hB_;refine aa Z (eH Jg vK (aT bu (aT aX (aT aX (aT bu (aT l6 (aT bu (aT aX (aT aX (aT aX eG))))))))) (cJ Z bu Z Z (Qaa Z) SetL.eq (cJ Z aX Z Z (Qaa Z) SetL.eq (cJ Z bu Z Z (Qaa Z) SetL.eq (cJ Z aX Z Z (Qaa Z) SetL.eq eE))))) ?_;refine aF Z (cP vK) ?_;rintro _ _ ⟨b5,rfl,rfl⟩;refine fw 2 aR ?_;refine fA (λ_:Unit=>True) (λ_=>[(2,pV b2),(5,pV b5)]) (λ_=>pt b2 (ae (eU BH) 255)::pt b5 (ae (eU (if i.op=26\/i.op=27 then⟨2,ec x.pc,at_,m,false,0,cn x.rl i.b,0,0⟩else⟨1,ec x.pc,at_,m,decide (i.op=24),i.d,0,0,0⟩)) 255)::ir sb i rb cb clock x id R) ?_ ?_;refine au 1 (py (b:=b5) (o':=ae (eU ⟨1,ec x.pc,at_,m,false,0,0,0,0⟩) 255) Z ?_);refine aw (ap (λc6=>?_) λc6=>?_);refine ao (dj xo (vt W0 _ sb i rb cb clock x hx i.b hb)) ?_;refine aJ (tG (aas:(eU ⟨1,ec x.pc,at_,m,false,0,0,0,0⟩).set 0 (iQ 2)=eU ⟨2,ec x.pc,at_,m,false,0,0,0,0⟩)) ?_;refine aJ (tG (aas:(eU ⟨2,ec x.pc,at_,m,false,0,0,0,0⟩).set 6 (wV (cn x.rl i.b))=eU ⟨2,ec x.pc,at_,m,false,0,cn x.rl i.b,0,0⟩)) ?_;refine cZ () ?_ (he:=?_);trivial;rw[Qad aq];exact IO;apply ap<;>intro c7;refine ao (dj xo (vt W0 _ sb i rb cb clock x hx i.b hb)) ?_;refine aJ (tG (aas:(eU ⟨1,ec x.pc,at_,m,false,0,0,0,0⟩).set 0 (iQ 2)=eU ⟨2,ec x.pc,at_,m,false,0,0,0,0⟩)) ?_;refine aJ (tG (aas:(eU ⟨2,ec x.pc,at_,m,false,0,0,0,0⟩).set 6 (wV (cn x.rl i.b))=eU ⟨2,ec x.pc,at_,m,false,0,cn x.rl i.b,0,0⟩)) ?_;refine cZ () ?_ (he:=?_);trivial;rw[Qad aq];exact IO;apply ap<;>intro c8;refine aJ (tG (aas:(eU ⟨1,ec x.pc,at_,m,false,0,0,0,0⟩).set 4 (.bool true)=eU ⟨1,ec x.pc,at_,m,true,0,0,0,0⟩)) ?_;refine aJ (tG (aas:(eU ⟨1,ec x.pc,at_,m,true,0,0,0,0⟩).set 5 (iQ i.d)=eU ⟨1,ec x.pc,at_,m,true,i.d,0,0,0⟩)) ?_;refine cZ () ?_ (he:=?_);trivial;rw[Qab aq,Qav aq];exact IO;refine aJ (tG (aas:(eU ⟨1,ec x.pc,at_,m,false,0,0,0,0⟩).set 5 (iQ i.d)=eU ⟨1,ec x.pc,at_,m,false,i.d,0,0,0⟩)) ?_;refine cZ () ?_ (he:=?_);trivial;rw[Qab aq,Qat aq]
 exact IO;intro _ _;exact aw (aJ aR (bJ (.cons (bX kN jQ Z Z) .nil) ax))
theorem b4I(d:CpOk x)(g:i.a<16)(j:i.b<16)(h:28≤i.op/\i.op≤31):sQ W0 299 [pV sb] (ir sb i rb cb clock x id R) (.agg (eU (pE x (if DN i.op (cn x.rl i.a) (cn x.rl i.b)then farN x.pc i.im else ec x.pc)).1).toArray) (ir sb i rb cb clock (pE x (if DN i.op (cn x.rl i.a) (cn x.rl i.b)then farN x.pc i.im else ec x.pc)).2 id R):=by
 obtain⟨z,k⟩:∃z,DN i.op (cn x.rl i.a) (cn x.rl i.b)=z:=⟨_,Z⟩
 refine am func299 ntmps299 ?_;refine bU λl=>?_;refine bH [sb] 25 λc=>?_;refine aj 0 11 c ?_;refine aj 12 6 c ?_;refine bQ 11 (dj xo (vt W0 _ sb i rb cb clock x d i.a g)) λc=>?_;refine bQ 18 (dj xo (vt W0 _ sb i rb cb clock x d i.b j)) λc=>?_;refine co 19 (aK call365 (b4m W0 _ (cn x.rl i.a) (cn x.rl i.b) i.op h)) ?_;clear c;rintro _ m ⟨rfl,e⟩;subst e;rw[k];refine⟨aW,λc=>?_⟩;refine aj 20 5 c ?_;refine aS (ap (λf=>?_) λf=>?_);rw[Qad f];refine ao (dj call367 (UI W0 _ sb i rb cb clock x d)) ?_;refine ao (dj JD (EY W0 _ sb i rb cb clock x d (farN x.pc i.im))) ?_;exact ek;rw[Qab f];refine ao (dj yY (wM W0 _ sb i rb cb clock x d)) ?_;refine ao (dj JD (EY W0 _ sb i rb cb clock x d (ec x.pc))) ?_;exact ek
theorem b4J(e:CpOk x)(g:i.d<16)(h:i.a<16):sQ W0 300 [pV sb] (ir sb i rb cb clock x id R) (.agg (eU (m9 i x (ec x.pc) (if i.op=33 then v8 (cn x.rl i.a) i.im else farN x.pc i.im)).1).toArray) (ir sb i rb cb clock (m9 i x (ec x.pc) (if i.op=33 then v8 (cn x.rl i.a) i.im else farN x.pc i.im)).2 id R):=by
 refine am func300 ntmps300 ?_;refine bU λf=>?_;refine py (b:=f) (o':=ae (eU BH) 255) Z ?_;refine aw (cW 3 (dj call367 (UI W0 _ sb i rb cb clock x e)) ?_);refine fA (λ_:Unit=>True) (λ_=>[(0,pV sb),(2,pV f),(3,wV (if i.op=33 then v8 (cn x.rl i.a) i.im else farN x.pc i.im))]) (λ_=>pt f (ae (eU BH) 255)::ir sb i rb cb clock x id R) ?_ ?_;refine au 10 (ap (λj=>?_) λj=>?_);refine bH [sb] 15 λc=>?_;refine aj 0 6 c ?_;refine aj 7 5 c ?_;refine aE 12 c (cv (iK i.im)) ?_;refine bQ 6 (dj xo (vt W0 _ sb i rb cb clock x e i.a h)) λc=>?_;refine aE 13 c (dI Z Z (iK _)) ?_;refine aj 14 1 c ?_;refine aS (jF () ?_ ?_ ?_);trivial
 · rw[Qad (by omega)]
   exact ai
 exact IO;refine jF () ?_ ?_ ?_;trivial
 · rw[Qab (by omega)]
   exact ai
 exact IO;intro _ _;refine aw (ao (dj yY (wM W0 _ sb i rb cb clock x e)) ?_);refine ao (dj JE (EZ W0 _ sb i rb cb clock x e g (ec x.pc) (if i.op=33 then v8 (cn x.rl i.a) i.im else farN x.pc i.im) (fy _))) ?_;exact ek
theorem b4K(d:CpOk x):sQ W0 372 [pV sb] (ir sb i rb cb clock x id R) (.agg (eU ⟨zL i.op,ec x.pc,0,0,false,0,0,0,0⟩).toArray) (ir sb i rb cb clock x id R):=by
 refine am func372 ntmps372 ?_;refine dT (cP vK) λa=>?_;refine au 3 (py (b:=a) (o':=ae (eU BH) 255) Z ?_);refine au 4 (fA (λ_:Unit=>True) (λ_=>[(0,pV sb),(2,pV a),(3,iQ ((zL i.op:Nat):Int))]) (λ_=>pt a (ae (eU BH) 255)::ir sb i rb cb clock x id R) ?_ ?_);refine au 16 (ap (λe=>?_) λe=>?_);refine jF () ?_ ?_ ?_;trivial
 · rw[zL,Qad (by omega)]
   exact ai
 exact IO;apply ap<;>intro f;refine jF () ?_ ?_ ?_;trivial
 · rw[zL,Qab (by omega),Qad (by omega)]
   exact ai
 exact IO;refine jF () ?_ ?_ ?_;trivial
 · rw[zL,Qab (by omega),Qab (by omega)]
   exact ai
 exact IO;intro _ _;refine aw (aF Z (Gg yY Z (wM W0 _ sb i rb cb clock x d)) ?_);rintro _ g ⟨rfl,c⟩;subst c;refine aa Z (eH Jg vK (aT bu (aT aX (aT aX (aT bu (aT l6 (aT bu (aT aX (aT aX (aT aX eG))))))))) (cJ Z bu Z Z (Qaa Z) SetL.eq (cJ Z aX Z Z (Qaa Z) SetL.eq eE))) ?_;refine eM (eN jQ Z Z Z Z Z) ?_;rintro _ _ rfl;refine aI (aA (dX ?_));exact bJ (.cons (bX kN jQ Z Z) .nil) ax
theorem UJ(a:CpOk x)(h:i.op=34\/i.op=41):sQ W0 368 [pV sb] (ir sb i rb cb clock x id R) (.agg (eU (if i.op=34 then pD 6 0 else pD 8 x.pc)).toArray) (ir sb i rb cb clock x id R):=by refine am func368 ntmps368 ?_;refine bU λc=>?_;apply ap<;>intro b;refine ao (ar yX (wD rb x.rl x.pc a.r.len)) ?_;refine ao (aK G8 (Cs 8 x.pc)) ?_;refine aJ aR (bJ (.cons (bX kN jQ Z Z) .nil) ?_);rw[Qab aq];exact ax;refine ao (aK G8 (Cs 6 0)) ?_;refine aJ aR (bJ (.cons (bX kN jQ Z Z) .nil) ?_);rw[Qad aq];exact ax
theorem b4L(a:CpOk x):sQ W0 369 [pV sb] (ir sb i rb cb clock x id R) (.agg (eU (pE { x with cs:=xJ x.cs } (fV x.cs 2)).1).toArray) (ir sb i rb cb clock (pE { x with cs:=xJ x.cs } (fV x.cs 2)).2 id R):=by refine am func369 ntmps369 ?_;refine bU λb=>?_;refine ao (ar call419 (b37 cb a.cs)) ?_;refine ao (dj JD (EY W0 _ sb i rb cb clock x a (fV x.cs 2))) ?_;exact ek
theorem b4M(e:CpOk x)(h:i.d<16)(c:id<4)(l:0≤clock)(m:ii x.cs=true)(n:Nat)(j:i.im=n)(o:n<9):sQ W0 370 [pV sb] (ir sb i rb cb clock x id R) (.agg (eU (m9 i x (xK x.cs id clock.toNat n) (ec x.pc)).1).toArray) (ir sb i rb cb clock (m9 i x (xK x.cs id clock.toNat n) (ec x.pc)).2 id R):=by obtain⟨k,d,a,b,p⟩:=i;dsimp only at j h;subst j;refine am func370 ntmps370 ?_;refine bU λq=>?_;refine bH [sb] 19 λf=>?_;refine aj 0 13 f ?_;refine co 13 (ar call293 (Us cb e.cs c n o clock l)) ?_;clear f;rintro _ r ⟨rfl,g⟩;subst g;rw[m,Qad Z];refine⟨aW,λf=>?_⟩;refine aj 14 5 f ?_;refine aS (ao (dj yY (wM W0 _ sb ⟨k,d,a,b,n⟩ rb cb clock x e)) ?_);refine ao (dj JE (EZ W0 _ sb ⟨k,d,a,b,n⟩ rb cb clock x e h (xK x.cs id clock.toNat n) (ec x.pc) (QK e.cs c))) ?_;exact ek
theorem Mt{W0 R}(a:∀A,bF (aQ W0 A) 0 0 ko)i(b:nN i=true):sQ W0 218 [.agg (Ak i).toArray] R (wV (wa i)) R:=by refine am func218 ntmps218 ?_;refine bR λc=>?_;refine ao (aK call294 (b4B a i b)) ?_;exact ki
theorem b4N(l:∀A,bF (aQ W0 A) 0 0 ko)(e:CpOk x)(m:nN i=true)(j:i.a<16)(o:ii x.cs=true)(n:Nat)(k:i.im=n)(p:n<9):sQ W0 371 [pV sb] (ir sb i rb cb clock x id R) (.agg (eU (if n≤6 then pE { x with cs:=x.cs.set n (qq n (cn x.rl i.a)) } (ec x.pc)else(pD 1 (wa i),x)).1).toArray) (ir sb i rb cb clock (if n≤6 then pE { x with cs:=x.cs.set n (qq n (cn x.rl i.a)) } (ec x.pc)else(pD 1 (wa i),x)).2 id R):=by
 obtain⟨c,d,a,b,s⟩:=i;dsimp only at k j ⊢;subst k;refine am func371 ntmps371 ?_;refine bU λt=>?_;refine bH [sb] 18 λf=>?_;refine aj 0 15 f ?_;refine bQ 15 (dj xo (vt W0 _ sb ⟨c,d,a,b,n⟩ rb cb clock x e a j)) λf=>?_;refine bQ 16 (ar call420 (b33 cb e.cs n (cn x.rl a) p (e.r.at_ a) o)) λf=>?_;refine aj 17 1 f ?_;refine aS (ap (λg=>?_) λg=>?_);have h:¬n≤6:=λq=>by rw[Qad q]at g;exact absurd Z g
 simp only[Qab h];refine ac (cV (tC (vs:=Ak ⟨c,d,a,b,n⟩) Z)) ?_;refine ao (aK Yv (Mt l ⟨c,d,a,b,n⟩ m)) ?_;refine ao (aK G8 (Cs 1 (wa ⟨c,d,a,b,n⟩))) ?_;exact ek;have h:n≤6:=by
  omega
 simp only[Qad h];refine ao (dj yY (wM W0 _ sb ⟨c,d,a,b,n⟩ rb cb clock x e)) ?_;refine ao (dj JD (EY W0 _ sb ⟨c,d,a,b,n⟩ rb cb clock x e (ec x.pc))) ?_;exact ek
theorem t4{f o o'}(b:∀a w,(callFunc f a).run Tryz.prog w=.ok (.enter f a) w)(e:o=o')(h:∀R,bE Tryz.prog W0 f [pV sb] (ir sb i rb cb clock x id R) (λv B=>v=.agg (eU o'.1).toArray/\B=ir sb i rb cb clock o'.2 id R)):Mr W0 sb i rb cb clock x id f o:=⟨b,by rw[e];exact h⟩
theorem UK{i}(a:nN i=true)(h:i.op=37\/i.op=38):∃n:Nat,i.im=n/\n<9:=by have:=(GU a).2.2.2.2;rw[iY,Qab aq,Qad h]at this;have:=Qaw this;exact⟨i.im.toNat,aq,aq⟩
theorem b4O(j:∀A,bF (aQ W0 A) 0 0 ko)(a:CpOk x)(c:nN i=true)(d:id<4)(k:0≤clock)(h:34≤i.op)(g:oG i.op=true->ii x.cs=true):sP W0 301 [pV sb] (ir sb i rb cb clock x id R) (λv B=>∃f,v=.func (.func f) #[pV sb] #[]/\B=ir sb i rb cb clock x id R/\Mr W0 sb i rb cb clock x id f (v9 id clock.toNat i x)):=by obtain⟨u,l,m,w,o⟩:=GU c;refine am func301 ntmps301 ?_;apply ap<;>intro p;refine ag ⟨_,⟨_,Z,Z,t4 W0 sb i rb cb clock x id (o':=(if i.op=34 then pD 6 0 else pD 8 x.pc,x)) call368 ?_ λR=>UJ W0 R sb i rb cb clock x id a aq⟩,IO⟩;unfold v9;split;rfl;rw[Qad aq];apply ap<;>intro q;refine ag ⟨_,⟨_,Z,Z,t4 W0 sb i rb cb clock x id (o':=(if i.op=34 then pD 6 0 else pD 8 x.pc,x)) call368 ?_ λR=>UJ W0 R sb i rb cb clock x id a aq⟩,IO⟩;unfold v9;split;rfl;rw[Qad aq];apply ap<;>intro r;refine ag ⟨_,⟨_,Z,Z,t4 W0 sb i rb cb clock x id call369 ?_ λR=>b4L W0 R sb i rb cb clock x id a⟩,IO⟩;rw[v9,Qab aq,Qab aq,Qad aq];apply ap<;>intro s;refine ag ?_;obtain⟨n,b,e⟩:=UK c aq;refine⟨_,⟨_,Z,Z,t4 W0 sb i rb cb clock x id call370 ?_ λR=>b4M W0 R sb i rb cb clock x id a l d k (g (Qav aq)) n b e⟩,IO⟩;rw[v9,Qab aq,Qab aq,Qab aq,Qad aq,b,Qae];apply ap<;>intro t;refine ag ?_;obtain⟨n,b,e⟩:=UK c aq;refine⟨_,⟨_,Z,Z,t4 W0 sb i rb cb clock x id call371 ?_ λR=>b4N W0 R sb i rb cb clock x id j a c m (g (Qav aq)) n b e⟩,IO⟩;rw[v9,Qab aq,Qab aq,Qab aq,Qab aq,Qad aq,b,Qae];refine ag ⟨_,⟨_,Z,Z,t4 W0 sb i rb cb clock x id (o':=(⟨zL i.op,ec x.pc,0,0,false,0,0,0,0⟩,x)) call372 ?_ λR=>b4K W0 R sb i rb cb clock x id a⟩,IO⟩;rw[v9,Qab aq,Qab aq,Qab aq,Qab aq,Qab aq]
theorem HZ(m:∀A,bF (aQ W0 A) 0 0 ko)(a:CpOk x)(k:nN i=true)(d:id<4)(n:0≤clock)(o:oG i.op=true->ii x.cs=true):sP W0 219 [pV sb] (ir sb i rb cb clock x id R) (λv B=>∃f,v=.func (.func f) #[pV sb] #[]/\B=ir sb i rb cb clock x id R/\Mr W0 sb i rb cb clock x id f (tO id clock.toNat i x)):=by obtain⟨u,c,b,e,p⟩:=GU k;refine am func219 ntmps219 ?_;apply ap<;>intro q;refine ag ⟨_,⟨_,Z,Z,t4 W0 sb i rb cb clock x id call295 ?_ λR=>b4E W0 R sb i rb cb clock x id a c b e aq⟩,IO⟩;rw[tO,Qad aq];apply ap<;>intro r;refine ag ⟨_,⟨_,Z,Z,t4 W0 sb i rb cb clock x id call296 ?_ λR=>b4F W0 R sb i rb cb clock x id a c b aq⟩,IO⟩;rw[tO,Qab aq,Qad aq];apply ap<;>intro s;refine ag ⟨_,⟨_,Z,Z,t4 W0 sb i rb cb clock x id call297 ?_ λR=>b4G W0 R sb i rb cb clock x id a c⟩,IO⟩;rw[tO,Qab aq,Qab aq,Qad aq];apply ap<;>intro t;refine ag ⟨_,⟨_,Z,Z,t4 W0 sb i rb cb clock x id (o':=(BI i x,x)) call298 ?_ λR=>b4H W0 R sb i rb cb clock x id a b e aq⟩,IO⟩;rw[tO,Qab aq,Qab aq,Qab aq,Qad aq];apply ap<;>intro g;refine ag ⟨_,⟨_,Z,Z,t4 W0 sb i rb cb clock x id call299 ?_ λR=>b4I W0 R sb i rb cb clock x id a b e aq⟩,IO⟩;rw[tO,Qab aq,Qab aq,Qab aq,Qab aq,Qad aq];apply ap<;>intro h;refine ag ⟨_,⟨_,Z,Z,t4 W0 sb i rb cb clock x id call300 ?_ λR=>b4J W0 R sb i rb cb clock x id a c b⟩,IO⟩;rw[tO,Qab aq,Qab aq,Qab aq,Qab aq,Qab aq,Qad aq];refine aF Z (dF call301 (b4O W0 _ sb i rb cb clock x id m a k d n aq o)) ?_;rintro _ w ⟨f,rfl,j,l⟩;subst j;rw[show v9 id clock.toNat i x=tO id clock.toNat i x by rw[tO,Qab aq,Qab aq,Qab aq,Qab aq,Qab aq,Qab aq]]at l;exact aw (ag ⟨_,⟨f,Z,Z,l⟩,IO⟩)
theorem b4P{W0 R}cb cs id(h:CsOk cs)(a:id<4):sQ W0 215 [pV cb] (pt cb (fj cs id)::R) (.bool false) (pt cb (fj cs id)::R):=by refine am func215 ntmps215 ?_;refine ao (ar call293 (Us cb h a 0 cl 0 cl)) ?_;refine ag (aP ?_);cases ii cs<;>rfl
theorem Mv(n:∀A,bF (aQ W0 A) 0 0 ko)(m:CpOk x)(o:nN i=true)(h:id<4)(v:0≤clock):sQ W0 139 [.agg (Ak i).toArray,pV rb,pV cb,iQ clock] (pt rb (eJ x.rl x.pc)::pt cb (fj x.cs id)::R) (.tuple #[.agg (eU (sI id clock.toNat i x).1).toArray,iQ 0]) (pt rb (eJ (sI id clock.toNat i x).2.rl (sI id clock.toNat i x).2.pc)::pt cb (fj (sI id clock.toNat i x).2.cs id)::R):=by
 obtain⟨t,b⟩:∃k,ii x.cs=k:=⟨_,Z⟩
 obtain⟨w,c⟩:∃k,oG i.op=k:=⟨_,Z⟩
 have D:∀z:Bool,(z&&false)=false:=λz=>by cases z<;>rfl
 rw[sI,b,c];refine am func139 ntmps139 ?_;refine bR λE=>?_;refine bU λF=>?_;refine ao (ar Yu (M1 rb x.rl x.pc 0 m.r.len cl)) ?_;apply ap<;>intro C;exact absurd Z C;refine ao (ar call214 (b34 cb m.cs)) ?_;refine ac (Kf se aX XP Z) ?_;refine ac (zb Tryz.eqGuardType354 Z Z (Rw (i:=Tryz.t62) (ms:=x.cs.map Int.ofNat) (ns:=[0,0,0,0,0,0,0]) se ld ld uC jP (by rw[QcE];rfl) Z (by rw[QaD];exact m.cs.len) Z)) ?_;apply e9<;>intro u;refine cW 3 (ar call215 (b4P cb x.cs id m.cs h)) ?_;apply aB Z<;>intro y
 first|exact absurd y (by decide)|(cases y)
 refine aw (ao (aK OQ (HX n i)) ?_);apply aB Z<;>intro p;rw[o]at p;exact absurd p cl;refine aw (ao (aK call216 (UH i.op)) ?_);rw[c];apply e9<;>intro a;refine ao (ar JF (EX cb m.cs)) ?_;rw[show Cq x.cs=[.bool (oD x.cs),iQ (oE x.cs),.bool (!t)] by rw[Cq,b]];refine ac (Hz Z XC Z pU Z) ?_;apply ap<;>intro s;refine ao (aK Yv (Mt n i o)) ?_;refine ao (aK G8 (Cs 7 (wa i))) ?_;refine aJ aR (bJ (.cons (bX kN jQ Z Z) (.cons (bA Z) .nil)) ?_);rw[Qad mv];exact ax;have d:oG i.op=true->ii x.cs=true:=λq=>by
  rw[c]at q;rw[b];exact m4
 have e:(w&& !t)=false:=by
  grind
 rw[e,Qab cl];refine ac (eH Jj OS (aT vF (aT yP (aT yQ (aT bu eG)))) (iU Z vF Z Z (Qaa Z) SetRL.eq (cJ Z yP Z Z (Qaa Z) SetL.eq (cJ Z yQ Z Z (Qaa Z) SetL.eq (cJ Z bu Z Z (Qaa Z) SetL.eq eE))))) ?_;refine bR λj=>?_;refine aF Z (dF OT (HZ W0 _ j i rb cb clock x id n m o h v d)) ?_;rintro _ B ⟨f,rfl,g,l⟩;subst g;refine aw (ao (kO qi (iV (us:=[pV j]) (cs:=[]) Z l.1 Z (l.2 _))) ?_);exact m6;have d:oG i.op=true->ii x.cs=true:=λq=>by
  rw[c]at q;rw[b];exact m4
 have e:(w&& !t)=false:=by
  grind
 rw[e,Qab cl];refine ac (eH Jj OS (aT vF (aT yP (aT yQ (aT bu eG)))) (iU Z vF Z Z (Qaa Z) SetRL.eq (cJ Z yP Z Z (Qaa Z) SetL.eq (cJ Z yQ Z Z (Qaa Z) SetL.eq (cJ Z bu Z Z (Qaa Z) SetL.eq eE))))) ?_;refine bR λj=>?_;refine aF Z (dF OT (HZ W0 _ j i rb cb clock x id n m o h v d)) ?_;rintro _ B ⟨f,rfl,g,l⟩;subst g;refine aw (ao (kO qi (iV (us:=[pV j]) (cs:=[]) Z l.1 Z (l.2 _))) ?_);exact m6;refine ao (aK OQ (HX n i)) ?_;apply aB Z<;>intro p;rw[o]at p;exact absurd p cl;refine aw (ao (aK call216 (UH i.op)) ?_);rw[c];apply e9<;>intro a;refine ao (ar JF (EX cb m.cs)) ?_;rw[show Cq x.cs=[.bool (oD x.cs),iQ (oE x.cs),.bool (!t)] by rw[Cq,b]];refine ac (Hz Z XC Z pU Z) ?_;apply ap<;>intro s;refine ao (aK Yv (Mt n i o)) ?_;refine ao (aK G8 (Cs 7 (wa i))) ?_;refine aJ aR (bJ (.cons (bX kN jQ Z Z) (.cons (bA Z) .nil)) ?_);rw[Qad mv];exact ax;have d:oG i.op=true->ii x.cs=true:=λq=>by
  rw[c]at q;rw[b];exact m4
 have e:(w&& !t)=false:=by
  grind
 rw[e,Qab cl];refine ac (eH Jj OS (aT vF (aT yP (aT yQ (aT bu eG)))) (iU Z vF Z Z (Qaa Z) SetRL.eq (cJ Z yP Z Z (Qaa Z) SetL.eq (cJ Z yQ Z Z (Qaa Z) SetL.eq (cJ Z bu Z Z (Qaa Z) SetL.eq eE))))) ?_;refine bR λj=>?_;refine aF Z (dF OT (HZ W0 _ j i rb cb clock x id n m o h v d)) ?_;rintro _ B ⟨f,rfl,g,l⟩;subst g;refine aw (ao (kO qi (iV (us:=[pV j]) (cs:=[]) Z l.1 Z (l.2 _))) ?_);exact m6;have d:oG i.op=true->ii x.cs=true:=λq=>by
  rw[c]at q;rw[b];exact m4
 have e:(w&& !t)=false:=by
  grind
 rw[e,Qab cl];refine ac (eH Jj OS (aT vF (aT yP (aT yQ (aT bu eG)))) (iU Z vF Z Z (Qaa Z) SetRL.eq (cJ Z yP Z Z (Qaa Z) SetL.eq (cJ Z yQ Z Z (Qaa Z) SetL.eq (cJ Z bu Z Z (Qaa Z) SetL.eq eE))))) ?_;refine bR λj=>?_;refine aF Z (dF OT (HZ W0 _ j i rb cb clock x id n m o h v d)) ?_;rintro _ B ⟨f,rfl,g,l⟩;subst g;refine aw (ao (kO qi (iV (us:=[pV j]) (cs:=[]) Z l.1 Z (l.2 _))) ?_);exact m6
end
def ym(r:Int)(a0 a1 a2:Bool):Int:=
  let x0:=iF .i64 r 8
  let x1:=if iF .i64 r 4≠0/\a0=true then nH .i64 x0 4 else x0
  let x2:=if iF .i64 r 1≠0/\a1=true then nH .i64 x1 1 else x1
  if iF .i64 r 2≠0/\a2=true then nH .i64 x2 2 else x2
theorem b4Q pg r p:jM pg r p 3=ym r (decide (kS pg p 0=0)) (decide (kS pg p 1=0)) (decide (kS pg p 2=0)):=by grind[jM,ym,vr]
theorem b4R:∀n:Nat,n<16->∀a b c,(0≤ym n a b c/\ym n a b c<16)/\(i9 (ym n a b c) 1=true->i9 n 1=true/\b=true)/\(i9 (ym n a b c) 2=true->i9 n 2=true/\c=true)/\(i9 (ym n a b c) 4=true->i9 n 4=true/\a=true)/\(i9 (ym n a b c) 8=true->i9 n 8=true):=by decide+kernel
theorem b4S pg(n:Nat)(d:n<16)p:(0≤jM pg n p 3/\jM pg n p 3<16)/\(∀k,u6 k=true->i9 (jM pg n p 3) (mI k)=true->kS pg p k=0)/\∀c,c=1\/c=2\/c=4\/c=8->i9 (jM pg n p 3) c=true->i9 n c=true:=by obtain⟨e,f,g,h,i⟩:=b4R n d (decide (kS pg p 0=0)) (decide (kS pg p 1=0)) (decide (kS pg p 2=0));rw[b4Q];refine⟨e,λk b a=>?_,λc j a=>?_⟩;have b:=Qaw b;rcases b with rfl|rfl|rfl;exact Qaw (h a).2;exact Qaw (f a).2;exact Qaw (g a).2;grind
theorem b4T{a b}(h:a/64=b/64):a/1024=b/1024:=aq
theorem b4U{a:Nat}(h:WkOkM fr pg root va)(d:a<16384)(b:a/64=va/64):dp fr pg root a=dp fr pg root va/\jq fr pg a root=jq fr pg va root:=by
 have e:=b4T b;have c:jq fr pg a root=jq fr pg va root:=by grind[jq]
 have f:mP fr pg a root=mP fr pg va root:=by grind[mP]
 have g:∀s,pO fr pg a root s=pO fr pg va root s:=λs=>by unfold pO;rw[e]
 refine⟨?_,c⟩;rw[dp,dp,Qad d,Qad h.lim,f,h.rb,Qad Z,Qad Z];simp only[j7];rw[c,g];unfold wJ;rw[b]
theorem b4V{fr pg root va}(h:WkOkM fr pg root va)(k:bG pg (dp fr pg root va).p=true):
    LOk fr pg 0 ⟨fu root va,((dp fr pg root va).p,(cB pg (dp fr pg root va).p).1,jM pg (dp fr pg root va).r (dp fr pg root va).p 3),(dp fr pg root va).root,(dp fr pg root va).leaf⟩:=by
 obtain⟨s,l⟩:∃s,dp fr pg root va=s:=⟨_,Z⟩
 have b:=h.eq;rw[l]at b k ⊢;have g:∃n:Nat,s.r=(n:Int)/\n<16:=⟨wt (iM fr pg (jq fr pg va root) (va/64)),by rw[b],by unfold wt;split;decide;exact S4 _⟩
 obtain⟨n,g,d⟩:=g;obtain⟨m,o,q⟩:=b4S pg n d s.p;rw[<-g]at m o q;have i:s.on=true:=by
  rw[b];have t:=h.lf;unfold ww at t;show wq _=true;unfold wq;split at t;omega;grind[C3]
 have e:s.root=root:=by rw[b]
 have f:s.leaf=jq fr pg va root:=by rw[b]
 refine⟨⟨?_,?_⟩,⟨k,Z⟩,o,m,λ_ _ a u v=>?_⟩;show 0≤s.root/\s.root<8;rw[e];exact(zU.1 (HS.1 h.rb).1).1;show 0≤s.leaf/\s.leaf<8;rw[f];exact(zU.1 h.lt).1;have j:a/64=va/64:=by
  have:((a/64:Nat):Int)=((va/64:Nat):Int):=v;omega
 obtain⟨w,x⟩:=b4U h u j;show WkOkM fr pg root a/\root=s.root/\jq fr pg a root=s.leaf/\(dp fr pg root a).on=true/\(dp fr pg root a).p=s.p/\∀c,c=1\/c=2\/c=4\/c=8->i9 (jM pg s.r s.p 3) c=true->i9 (dp fr pg root a).r c=true;rw[w,x,l];refine⟨HT mv,e.symm,f.symm,i,Z,λc y A=>?_⟩;exact q c y A
theorem MOk.fill{fr pg L T T'}(h:MOk fr pg 0 L T){k e r l}room now(c:LOk fr pg 0 ⟨k,e,r,l⟩)
    (d:∀y∈T',y∈rI room now k (nk k e r l L).e (mN (oY L r l) T)/\(mK y.key (oZ k e r l L)).isSome=true):MOk fr pg 0 (oZ k e r l L) T':=by
 refine⟨h.F,cl,h.P,h.pl,(h.ti.fill k e r l room now).sub' λy f=>QaG.2 (d y f),λx b=>?_⟩;rw[M9 k e r l L h.ti.len]at b;rcases Qba.1 b with q|q;obtain⟨z,a,rfl⟩:=QaZ.1 q;have:=h.ln z (M8 a).1;unfold eK;split;exact this.nar;exact this;obtain rfl:x=nk k e r l L:=by simpa using q
 rcases Ma k e r l L with z|z;grind;rw[z];exact c.nar
theorem b4W(l:List Int):∀{its T:List It},Rep its now T->Rep (mN l its) now (mN l T):=by
 induction l with
 |nil=>exact λh=>h
 |cons p l a=>exact λh=>a (h.nar p)
theorem UL l:∀T,(mN l T).length=T.length:=by
 induction l with
 |nil=>exact λ_=>Z
 |cons p l a=>exact λT=>(a _).trans (QaD _)
theorem b4X l p T:mN (l++[p]) T=(mN l T).map (lr p):=by simp[mN,Qcw]
theorem b4Y l:∀{T:List It},(∀y∈T,i64 y.er)->∀y∈mN l T,i64 y.er:=by
 induction l with
 |nil=>exact λh=>h
 |cons p l a=>
  intro T h;refine a λy b=>?_;obtain⟨z,c,rfl⟩:=QaZ.1 b;exact b2I (h z c)
theorem MOk.er{fr pg d L T}(h:MOk fr pg d L T){its now}(a:Rep its now T):∀y∈its,i64 y.er:=λy b=>by
 obtain⟨x,c,_,e⟩:=h.ti.sub y (a.perm.mem_iff.1 b);have:=(h.ln x c).r;have f:y.er=x.e.2.2:=by rw[e];rfl
 rw[f];exact⟨aq,aq⟩
theorem MOk.ei{fr pg d L T}(h:MOk fr pg d L T):∀x∈L,i64 x.e.2.2:=λx a=>by
 have:=(h.ln x a).r;exact⟨aq,aq⟩
theorem b4Z W0 R(hK:∀A,bF (aQ W0 A) 1 0 ja)ba bm pv bt bs ps pm on root user va(u:va<4294967296)kind its room now T L fr pg(hR:Rep its now T)(hT:T.length≤room)(hr:room≤4)(hn:now<1000000)(h:MOk fr pg 0 L T)(hw:WkOkM fr pg root va)(hp:bG pg (dp fr pg root va).p=true)o fast:sP W0 355 [pQ ba,.agg #[iQ (dp fr pg root va).p,iQ (cB pg (dp fr pg root va).p).1,iQ o,.bool fast]] (pt ba (jZ bm on root user va kind)::pt bm (cX pv bt bs)::bC bt (its,dt room now)::cj bs L::df pv ps pm 0 fr pg R) (λv B=>v=.tuple #[]/\∃K Q L' C,Rep K C Q/\Q.length≤room/\MOk fr pg 0 L' Q/\C≤now+1/\(∃x∈L',x.k=fu root va/\(x.e.2.2=jM pg (dp fr pg root va).r (dp fr pg root va).p 3\/x.e.2.2=jx (jM pg (dp fr pg root va).r (dp fr pg root va).p 3)))/\B=pt ba (jZ bm on root user va kind)::pt bm (cX pv bt bs)::bC bt (K,dt room C)::cj bs L'::df pv ps pm 0 fr pg R):=by
 have w:=b4V hw hp;obtain⟨s,S⟩:∃s,dp fr pg root va=s:=⟨_,ρ⟩
 rw[S]at w hp ⊢;obtain⟨f,hf⟩:∃f,(cB pg s.p).1=f:=⟨_,ρ⟩
 obtain⟨t,I⟩:∃g,jM pg s.r s.p 3=g:=⟨_,ρ⟩
 rw[hf,I]at w;rw[hf,I];have x1:i64 t:=by
  have:0≤t/\t<16:=w.r;exact⟨aq,aq⟩
 have x2:Ad s.root=true:=Qav w.own.1;have x3:Ad s.leaf=true:=Qav w.own.2;have x4:=h.ti.len;have M:=h.ti.fill (fu root va) (s.p,f,t) s.root s.leaf room now;have D:mK (fu root va) (oZ (fu root va) (s.p,f,t) s.root s.leaf L)=some (nk (fu root va) (s.p,f,t) s.root s.leaf L):=by
  have hm:nk (fu root va) (s.p,f,t) s.root s.leaf L∈oZ (fu root va) (s.p,f,t) s.root s.leaf L:=by grind[M9]
  have:=Mb M.keys hm
  rwa[HI]at this
 have U:=λQ q=>h.fill (T':=Q) room now w q;have V:(nk (fu root va) (s.p,f,t) s.root s.leaf L).e.2.2=t\/(nk (fu root va) (s.p,f,t) s.root s.leaf L).e.2.2=jx t:=by
  rcases Ma (fu root va) (s.p,f,t) s.root s.leaf L with q|q;grind;rw[q];exact .inr ρ
 obtain⟨N,J⟩:∃l,oZ (fu root va) (s.p,f,t) s.root s.leaf L=l:=⟨_,ρ⟩
 obtain⟨z,hz⟩:∃z,nk (fu root va) (s.p,f,t) s.root s.leaf L=z:=⟨_,ρ⟩
 obtain⟨j,W⟩:∃l,oY L s.root s.leaf=l:=⟨_,ρ⟩
 rw[J,hz]at D;rw[hz]at V;have X:=HJ D;rw[J,hz,W]at U;rw[J]at M;have x5:=M.len;have xk:j.length≤2:=by
  grind[oY]
 have x6:=λl=>b4W (its:=its) (T:=T) l hR;have x7:=λl=>UL l its;have x8:=λl=>UL l T;have x9:=λl=>b4Y l (h.er hR);have xl:=hR.length;refine am func355 ntmps355 ?_;refine dT (l8 ρ) λb3=>?_;refine au 11 (fA (λy:Nat=>True) (λy=>[(0,pQ ba),(3,pQ b3),(4,pQ bm),(5,pQ y)]) (λy=>pt b3 (ae [iQ s.p,iQ f,iQ o,.bool fast] 363)::pt y (ae (yi s) 493)::pt ba (jZ bm on root user va kind)::pt bm (cX pv bt bs)::bC bt (its,dt room now)::cj bs L::df pv ps pm 0 fr pg R) ?_ ?_);refine bH [ba,bm] 16 λb=>?_;refine aj 0 13 b ?_;refine fp (is:=[13,14]) ld ρ ⟨?_,?_,trivial⟩;refine dB (dF Yp (Mg pv ps pm 0 fr pg h.P h.F root va u)) ?_;clear b;rintro _ G ⟨rfl,d⟩;subst d;rw[S];refine⟨aW,λb=>?_⟩;refine co 14 (cP Oj) ?_;clear b;rintro _ _ ⟨y,rfl,rfl⟩;refine⟨aW,λb=>?_⟩;refine cp 15 aR λb=>?_;exact aS (cZ y trivial);skip;refine dB (cP Oj) ?_;clear b;rintro _ _ ⟨y,rfl,rfl⟩;refine⟨aW,λb=>?_⟩;refine co 13 (dF Yp (Mg pv ps pm 0 fr pg h.P h.F root va u)) ?_;clear b;rintro _ G ⟨rfl,d⟩;subst d;rw[S];refine⟨aW,λb=>?_⟩;refine cp 15 aR λb=>?_;exact aS (cZ y trivial);intro y _;refine fA (λH:Nat=>True) (λH=>[(0,pQ ba),(3,pQ b3),(4,pQ bm),(5,pQ y),(6,pQ H)]) (λH=>pt H (ae [iQ s.p,iQ f,iQ t] 500)::pt y (ae (yi s) 493)::pt ba (jZ bm on root user va kind)::pt bm (cX pv bt bs)::bC bt (its,dt room now)::cj bs L::df pv ps pm 0 fr pg R) ?_ ?_;refine bH [b3,y] 11 λb=>?_;refine aj 0 6 b ?_;refine aE 6 b (cV (EO (us:=[.bool s.on,iQ s.r,iQ s.p]) (ws:=[iQ s.fault,iQ s.root,iQ s.leaf]) (i6 (k:=1) ρ) ρ)) ?_;refine fp (is:=[7,9]) ld ρ ⟨?_,?_,trivial⟩;refine dB (dF call411 (Un hK bm pv bt bs ps pm 0 s.on s.r s.p pg h.P)) ?_;clear b;rintro _ G ⟨rfl,d⟩;subst d;rw[I];refine⟨aW,λb=>?_⟩;refine aj 8 1 b ?_;refine co 9 (cP sf) ?_;clear b;rintro _ _ ⟨H,rfl,rfl⟩;refine⟨aW,λb=>?_⟩;refine cp 10 aR λb=>?_;exact aS (cZ H trivial);skip;refine dB (cP sf) ?_;clear b;rintro _ _ ⟨H,rfl,rfl⟩;refine⟨aW,λb=>?_⟩;refine co 7 (dF call411 (Un hK bm pv bt bs ps pm 0 s.on s.r s.p pg h.P)) ?_;clear b;rintro _ G ⟨rfl,d⟩;subst d;rw[I];refine⟨aW,λb=>?_⟩;refine aj 8 1 b ?_;refine cp 10 aR λb=>?_;exact aS (cZ H trivial);intro H _;refine aw (bH [bm,ba,H,y] 17 λb=>?_);refine aj 0 5 b ?_;refine aj 6 5 b ?_;refine bQ 5 (ar yW (wL ba bm on root user va u kind)) λb=>?_;refine co 11 (ar call412 (b3F bs L x4 h.ei (fu root va) (s.p,f,t) x1 s.root s.leaf x2 x3)) ?_;clear b;rintro _ G ⟨af,cf,rfl,d⟩;subst d;rw[J,W];refine⟨aW,λb=>?_⟩;refine aj 12 5 b ?_;refine aS (ap (λc5=>?_) λc5=>?_);exact absurd ρ c5;refine fI (λi:Nat=>i≤j.length) (λi=>[(0,pQ ba),(4,pQ bm),(57,.slice af j.length cf),(58,iQ (j.length:Nat)),(59,iQ i)]) (λi=>pt ba (jZ bm on root user va kind)::pt bm (cX pv bt bs)::bC bt (mN (j.take i) its,dt room now)::cj bs N::osl 3 1 (.slice af j.length cf) (j.flatMap iI)::df pv ps pm 0 fr pg R) (λi=>j.length-i) 0 ?_ ?_ ?_ ?_
 omega
 · exact ai
 rw[show mN (j.take 0) its=its from ρ];exact IO;intro i hi;refine aw (aB ρ (λc7=>?_) λc7=>?_);refine au 5 ?_;have O:i<j.length:=aq;refine jV (E:=3) (sz:=1) (a:=af) (c:=cf) (n:=j.length) iI j (λ_=>ρ) cl ρ (λS=>?_);obtain⟨g,o,xa,hc⟩:=S.at_ O;obtain⟨q,hq⟩:∃q,j[i]=q:=⟨_,ρ⟩
 have xb:j.take (i+1)=j.take i++[q]:=by rw[Qap O,hq]
 have xc:mN (j.take (i+1)) its=(mN (j.take i) its).map (lr q):=by rw[xb,b4X]
 have xm:=x7 (j.take i);have xd:=x9 (j.take i);rw[hq]at hc;refine aw (ac (g7 jE bu ρ xa ρ ρ O dg) ?_);refine ac (aY (bF.weak hc 0 _ ρ)) ?_;refine ao (ar call413 (b2L bt (mN (j.take i) its) (iQ room) (iQ now) q aq xd)) ?_;refine ac cK (d8 (i+1) ?_ (he:=?_));omega;rw[xc];exact IO;obtain rfl:i=j.length:=aq;have Y:=x6 (j.take j.length);have xe:=x8 (j.take j.length);rw[QbF]at Y xe ⊢;refine au 6 (fA (λm:Nat=>True) (λm=>[(0,pQ ba),(4,pQ bm),(11,pQ m),(12,.bool true)]) (λm=>pt m (ae (pL (yk (some z))) 500)::pt ba (jZ bm on root user va kind)::pt bm (cX pv bt bs)::bC bt (mN j its,dt room now)::cj bs N::df pv ps pm 0 fr pg R) ?_ ?_);refine bH [bm,ba] 13 λb=>?_;refine aj 0 5 b ?_;refine fp (is:=[5,10]) ld ρ ⟨?_,?_,trivial⟩;refine dB (ar yW (wL ba bm on root user va u kind)) ?_;clear b;rintro _ G ⟨rfl,d⟩;subst d;refine⟨aW,λb=>?_⟩;refine fp (is:=[6,10]) ld ρ ⟨?_,?_,trivial⟩;refine dB (ar Bb (yh bs N aq (fu root va))) ?_;clear b;rintro _ G ⟨rfl,d⟩;subst d;rw[yl,D];refine⟨aW,λb=>?_⟩;refine aj 7 3 b ?_;refine co 10 (cP sf) ?_;clear b;rintro _ _ ⟨m,rfl,rfl⟩;refine⟨aW,λb=>?_⟩;refine cp 11 aR λb=>?_;refine aj 12 1 b ?_;exact aS (cZ m trivial);skip;refine dB (cP sf) ?_;clear b;rintro _ _ ⟨m,rfl,rfl⟩;refine⟨aW,λb=>?_⟩;refine co 6 (ar Bb (yh bs N aq (fu root va))) ?_;clear b;rintro _ G ⟨rfl,d⟩;subst d;rw[yl,D];refine⟨aW,λb=>?_⟩;refine aj 7 3 b ?_;refine cp 11 aR λb=>?_;refine aj 12 1 b ?_;exact aS (cZ m trivial);skip;refine dB (cP sf) ?_;clear b;rintro _ _ ⟨m,rfl,rfl⟩;refine⟨aW,λb=>?_⟩;refine bQ 5 (ar yW (wL ba bm on root user va u kind)) λb=>?_;refine co 6 (ar Bb (yh bs N aq (fu root va))) ?_;clear b;rintro _ G ⟨rfl,d⟩;subst d;rw[yl,D];refine⟨aW,λb=>?_⟩;refine aj 7 3 b ?_;refine cp 11 aR λb=>?_;refine aj 12 1 b ?_;exact aS (cZ m trivial);intro m _;refine aw (bH [bm,ba,m] 8 λb=>?_);refine aj 0 5 b ?_;refine aj 6 1 b ?_;refine bQ 5 (ar yW (wL ba bm on root user va u kind)) λb=>?_;refine co 7 (ar call354 (Ts bt (mN j its) room now (mN j T) (fu root va) z.e Y aq hr hn)) ?_;clear b;rintro _ G ⟨rfl,Z,d,xf⟩;subst d;have xg:=Tr (now:=now) (k:=fu root va) (e:=z.e) (show(mN j T).length≤room by omega);refine⟨aW,λb=>?_⟩;refine aS (aF ρ (dF call414 (b3X bm pv bt bs Z (iQ room) (iQ ((now+1:Nat):Int)) (now+1) room _ N xf xg hr x5)) ?_);rintro _ G ⟨rfl,x0,T3,d,xh,xi,xj⟩;subst d;refine aw (bP (.inr ρ) .nil ?_);exact⟨_,⟨ρ,x0,T3,N,now+1,xh,xi,U T3 xj,aq,⟨z,X.1,X.2,V⟩,ρ⟩,IO⟩
theorem My k va:(64*k+va %64)/64=k/\(64*k+va %64)%64=va %64:=aq
structure FnOk (fr : List az) (pg : List Pl) (root : Int) (user : Bool) (va : Nat) (kind : Int) : Prop where
  wk : WkOkM fr pg root va
  th : bG pg (dp fr pg root va).p = true
  P : j8 sN fr pg true root user va kind = (dp fr pg root va).p
  F : j8 rD fr pg true root user va kind = (cB pg (dp fr pg root va).p).1
  O : j8 rE fr pg true root user va kind = ((va % 64 : Nat) : Int)
theorem UM{fr pg root user va kind}(h:kX fr pg true root user va kind=0):FnOk fr pg root user va kind:=by
 obtain⟨s,a⟩:∃s,dp fr pg root va=s:=⟨_,Z⟩
 obtain⟨k,d,e⟩:=HQ fr pg root va;unfold kX at h;rw[Qad Z,a]at h;by_cases f:s.fault≠0;omega;rw[Qab f]at h;by_cases b:vq s kind user=true
 case neg=>rw[Qab b]at h;exact absurd h cl
 rw[Qad b]at h;rw[a]at d;have i:p7 s va=64*k+va %64:=by rw[p7,d];rfl
 obtain⟨j,l⟩:=My k va;have c:bG pg s.p=true:=by
  grind[io,kS]
 have m:∀g,j8 g fr pg true root user va kind=g fr.length pg (p7 s va) 1 kind:=λg=>by
  unfold j8;rw[Qad Z,a,Qab f,Qad b]
 refine⟨HT mv,by rw[a];exact c,?_,?_,?_⟩;grind[sN];grind[rD];grind[rE]
theorem b40{fr pg L T}(h:MOk fr pg 0 L T){x}(y:x∈L){root user va kind}(A:va<16384)(j:x.k=fu root va)(l:sZ x.e kind user=true):
    kX fr pg true root user va kind=0/\j8 sN fr pg true root user va kind=x.e.1/\j8 rD fr pg true root user va kind=x.e.2.1/\j8 rE fr pg true root user va kind=(va %64:Nat):=by
 have d:=h.ln x y;obtain⟨m,J,K,n,o,p⟩:=d.wk n4 n4 va A (by rw[j];rfl);have B:x.k.1=root:=by rw[j];rfl
 rw[B]at m n o p;obtain⟨s,f⟩:∃s,dp fr pg root va=s:=⟨_,Z⟩
 obtain⟨k,c,q⟩:=HQ fr pg root va;have C:s.fault=0:=by rw[<-f,m.eq]
 rw[f]at n o p c;have g:p7 s va=64*k+va %64:=by grind[p7]
 obtain⟨D,M⟩:=My k va;have a:x.e.1=(k:Int):=aq;simp only[sZ,Qam,Bool.and_true]at l;obtain⟨r,E,N⟩:=l;have F:mI kind=1\/mI kind=2\/mI kind=4\/mI kind=8:=by
  unfold mI;rcases Qaw r with rfl|rfl|rfl;omega;omega;omega
 have G:vq s kind user=true:=by
  grind[vq]
 have b:=d.at_.1;rw[a]at b;have t:k<12:=by
  simp only[bG,Qam]at b;obtain⟨i,O,H⟩:=nP b.1;omega
 have P:io fr.length pg (p7 s va) 1 kind=0:=by
  unfold io;rw[g,D,Qad (by grind[kE]),Qad aq,Qad (by rw[<-a];exact d.al kind r E),Qad (h.pl.rng _ b)]
 have u:kX fr pg true root user va kind=0:=by
  grind[kX]
 obtain⟨_,_,v,w,I⟩:=UM u;rw[f,c]at v w;exact⟨u,by rw[v,a],by rw[w, <-d.at_.2,a],I⟩
theorem b41{S b off k us vs}(h:bF S b off vs)(e:(vs.drop k).take us.length=us):bF S b (off+k) us:=λi v a=>by
 have c:=(QbH.1 a).1
 have:=h (k+i) v (by
   rw[<-e,List.getElem?_take]at a;rw[Qad c,QbP]at a
   exact a)
 rwa[<-Qcm]at this
theorem b42(J:∀A,bF (aQ W0 A) 1 0 ja)(C t u w y F G:Nat)(H:Bool)(a:Int)(l:Bool)(d:Nat)(I:d<4294967296)(m:Int)(q:List It)(b j:Nat)(T:List It)(L:List Ln)(g:List az)(c:List Pl)(K:Rep q j T)(M:T.length≤b)(N:b≤4)(O:j<1000000)(h:MOk g c 0 L T)(P:WkOkM g c a d)(Q:bG c (dp g c a d).p=true)(p f:Int)(S:p=(dp g c a d).p)(U:f=(cB c (dp g c a d).p).1)(o:Int)(s:Bool):sP W0 355 [pQ C,.agg #[iQ p,iQ f,iQ o,.bool s]] (pt C (jZ t H a l d m)::pt t (cX u w y)::bC w (q,dt b j)::cj y L::df u F G 0 g c R) (λv B=>v=.tuple #[]/\∃n D E i,Rep n i D/\D.length≤b/\MOk g c 0 E D/\i≤j+1/\(∃x∈E,x.k=fu a d/\(x.e.2.2=jM c (dp g c a d).r (dp g c a d).p 3\/x.e.2.2=jx (jM c (dp g c a d).r (dp g c a d).p 3)))/\B=pt C (jZ t H a l d m)::pt t (cX u w y)::bC w (n,dt b i)::cj y E::df u F G 0 g c R):=by grind[b4Z]
theorem b43 W0 R(G:∀A,bF (aQ W0 A) 1 0 ja)ba bm pv bt bs ps pm root user va(i:va<4294967296)kind its room now T L fr pg(H:Rep its now T)(I:T.length≤room)(J:room≤4)(K:now<1000000)(h:MOk fr pg 0 L T):
    bE Tryz.prog W0 287 [pQ ba] (pt ba (jZ bm true root user va kind)::pt bm (cX pv bt bs)::bC bt (its,dt room now)::cj bs L::df pv ps pm 0 fr pg R)
      (λv B=>v=.tuple #[.agg (ER fr pg true root user va kind).toArray,iQ (kX fr pg true root user va kind)]/\∃g t u b,Rep g b t/\t.length≤room/\MOk fr pg 0 u t/\b≤now+1/\(kX fr pg true root user va kind=0->∃x∈u,x.k=fu root va/\(x.e.2.2=jM pg (dp fr pg root va).r (dp fr pg root va).p 3\/x.e.2.2=jx (jM pg (dp fr pg root va).r (dp fr pg root va).p 3)))/\B=pt bm (cX pv bt bs)::bC bt (g,dt room b)::cj bs u::df pv ps pm 0 fr pg R):=by have w:=λq=>UM (fr:=fr) (pg:=pg) (root:=root) (user:=user) (va:=va) (kind:=kind) q;refine am func287 ntmps287 ?_;refine dT (cP B5) λs=>?_;refine au 3 (fA (λc:Nat=>True) (λc=>[(0,pQ ba),(2,pQ s),(4,pQ c),(5,iQ (kX fr pg true root user va kind))]) (λc=>pt s (ae [iQ 0,iQ 0,iQ 0,.bool false] 363)::pt c (ae (ER fr pg true root user va kind) 363)::pt ba (jZ bm true root user va kind)::pt bm (cX pv bt bs)::bC bt (its,dt room now)::cj bs L::df pv ps pm 0 fr pg R) ?_ ?_);refine bH [ba,bm] 26 λa=>?_;refine aj 0 10 a ?_;refine aE 10 a (cV (b41 (k:=1) (us:=Ai true root user) (i6 (k:=0) Z) Z)) ?_;refine aj 11 8 a ?_;refine fp (is:=[19,23]) ld Z ⟨?_,?_,trivial⟩;refine dB (dF OU (HR pv ps pm 0 fr pg h.P h.F true root user va i kind)) ?_;clear a;rintro _ M ⟨rfl,j⟩;subst j;refine⟨aW,λa=>?_⟩;refine aj 20 3 a ?_;refine co 23 (cP B5) ?_;clear a;rintro _ _ ⟨c,rfl,rfl⟩;refine⟨aW,λa=>?_⟩;refine cp 24 aR λa=>?_;refine aj 25 1 a ?_;exact aS (cZ c trivial);skip;refine dB (cP B5) ?_;clear a;rintro _ _ ⟨c,rfl,rfl⟩;refine⟨aW,λa=>?_⟩;refine bQ 19 (dF OU (HR pv ps pm 0 fr pg h.P h.F true root user va i kind)) λa=>?_;refine aj 20 3 a ?_;refine cp 24 aR λa=>?_;refine aj 25 1 a ?_;exact aS (cZ c trivial);intro c _;refine fA (λX:List It×List It×List Ln×Nat=>Rep X.1 X.2.2.2 X.2.1/\X.2.1.length≤room/\MOk fr pg 0 X.2.2.1 X.2.1/\X.2.2.2≤now+1/\(kX fr pg true root user va kind=0->∃x∈X.2.2.1,x.k=fu root va/\(x.e.2.2=jM pg (dp fr pg root va).r (dp fr pg root va).p 3\/x.e.2.2=jx (jM pg (dp fr pg root va).r (dp fr pg root va).p 3)))) (λX=>[(2,pQ s),(4,pQ c),(5,iQ (kX fr pg true root user va kind))]) (λX=>pt s (ae [iQ 0,iQ 0,iQ 0,.bool false] 363)::pt c (ae (ER fr pg true root user va kind) 363)::pt bm (cX pv bt bs)::bC bt (X.1,dt room X.2.2.2)::cj bs X.2.2.1::df pv ps pm 0 fr pg R) ?_ ?_;refine au 6 (ap (λE=>?_) λE=>?_);obtain⟨N,O,Q,S,U⟩:=w E;refine aF Z (Q7 call355 Z (b42 G ba bm pv bt bs ps pm true root user va i kind its room now T L fr pg H I J K h N O (j8 sN fr pg true root user va kind) (j8 rD fr pg true root user va kind) Q S (j8 rE fr pg true root user va kind) false)) ?_;rintro _ M ⟨rfl,d,y,C,f,l,m,D,n,o,j⟩;subst j;refine aw (cZ (d,y,C,f) ?_);grind;refine cZ (its,T,L,now) ?_;grind;intro ⟨d,y,C,f⟩ ⟨l,m,D,n,o⟩;dsimp only at l m D n o ⊢;refine aw (aJ aR (bJ (.cons (bX lW kc Z Z) (.cons (bA Z) .nil)) ?_));exact⟨_,⟨Z,d,y,C,f,l,m,D,n,o,Z⟩,IO⟩
theorem MOk.tl{a:List It}(h:MOk fr pg d L T)(b:TI L a):MOk fr pg d L a:=⟨h.F,h.dl,h.P,h.pl,b,h.ln⟩
@[reducible] def Cu(ba:Nat):List Value:=[.func (.func 285) #[.pointer (some ⟨ba,0,none⟩)] #[],.func (.func 286) #[.pointer (some ⟨ba,0,none⟩)] #[]]
theorem b44{W0 N e R ba bm pv bt bs on root user va kind its room now i T L fx v}(d:va<4294967296)(m:Rep its now T)(n:T.length≤room)(p:room≤4)(r:now<1000000)(f:TI L T)(y:i<2)(s:(Cu ba)[i]?=some v)(t:ev e fx=some v):
    dq Tryz.prog W0 N e (pt ba (jZ bm on root user va kind)::pt bm (cX pv bt bs)::bC bt (its,dt room now)::cj bs L::R) (.call { callee:=.value fx,args:= #[],argTypes:= #[] })
      (λv B=>∃o b c a,v=.tuple #[.agg (Mk o va).toArray,.bool o.isSome]/\Ml L (fu root va) kind user o/\(i=1->o=none->∀x∈L,x.k=fu root va->sZ x.e kind user=false)/\Rep b a c/\c.length≤room/\TI L c/\a≤now+1/\B=pt ba (jZ bm on root user va kind)::pt bm (cX pv bt bs)::bC bt (b,dt room a)::cj bs L::R):=by
 have u:i=0\/i=1:=aq;rcases u with rfl|rfl;cases s
 exact iV (us:=[pQ ba]) (vs:=[]) (cs:=[]) t call285 Z (cF (b3Y ba bm pv bt bs on root user va d kind its room now T L m n p r f) λv B g=>by
  obtain⟨o,b,c,a,h,j,l⟩:=g
  exact⟨B,⟨o,b,c,a,h,j,λq=>(by cases q),l⟩,ent_refl⟩)
 cases s
 exact iV (us:=[pQ ba]) (vs:=[]) (cs:=[]) t call286 Z (cF (b3Z ba bm pv bt bs on root user va d kind its room now T L m n p r f) λv B g=>by
  obtain⟨o,b,c,a,h,j,l,w⟩:=g
  exact⟨B,⟨o,b,c,a,h,j,λ_=>l,w⟩,ent_refl⟩)
structure FnX (fr : List az) (pg : List Pl) (d : Nat) (on : Bool) (root : Int) (user : Bool) (va : Nat) (kind : Int) (L L' : List Ln) (fast : Bool) (d' : Nat) : Prop where
  hit : fast = true → (on = true ∧ kX fr pg on root user va kind = 0) ∧ ∃ x ∈ L', x.e.1 = j8 sN fr pg on root user va kind ∧ sZ x.e kind user = true
  old : fast = true → ∃ x ∈ L, x.k = fu root va
  new : fast = false → on = true → va < 16384 → kX fr pg on root user va kind = 0 → ∃ x ∈ L', x.k = fu root va ∧ (x.e.2.2 = jM pg (dp fr pg root va).r (dp fr pg root va).p 3 ∨ x.e.2.2 = jx (jM pg (dp fr pg root va).r (dp fr pg root va).p 3))
  can : d = 0 → on = true → va < 16384 → ∀ x ∈ L, x.k = fu root va → sZ x.e kind user = true → fast = true
  dz : on = true → va < 16384 → d' = 0
theorem UN(hK:∀A,bF (aQ W0 A) 1 0 ja)(r m s t E G d:Nat)(C:Bool)(a:Int)(b:Bool)(p:Nat)(H:p<4294967296)(c:Int)(u:List It)(f g:Nat)(T:List It)(L:List Ln)(j:List az)(l:List Pl)(hR:Rep u g T)(hT:T.length≤f)(hr:f≤4)(hn:g<900000)(h:MOk j l d L T):sP W0 209 [.pointer (some ⟨r,0,none⟩),.agg (Ai C a b).toArray,.int .u32 p,.int .i64 c] (pt r (cX m s t)::bC s (u,dt f g)::cj t L::df m E G d j l R) (λv B=>∃I J T' L' w d',v=.tuple #[.agg #[.int .i64 (j8 sN j l C a b p c),.int .i64 (j8 rD j l C a b p c),.int .i64 (j8 rE j l C a b p c),.bool I],.int .i64 (kX j l C a b p c)]/\FnX j l d C a b p c L L' I d'/\Rep J w T'/\T'.length≤f/\MOk j l d' L' T'/\w≤g+3/\B=pt r (cX m s t)::bC s (J,dt f w)::cj t L'::df m E G d' j l R):=by
 refine jj 2 func209 ntmps209 ?_;refine dT (l8 ρ) λb5=>?_;refine dT (cP B5) λb8=>?_;refine au 7 (cW 2 (eg JG ρ (ET r m s t)) ?_);apply aB ρ<;>intro c1;exact absurd c1 cl;refine au 9 (d7 ρ ρ ρ (λx0=>?_) λx0=>?_);refine au 6 (dY [(r,0,_),(b5,0,_)] 12 mixed ρ (bj (bj bI)) (λn=>?_));refine aj 0 4 n ?_;refine cI 4 ρ ρ ρ n (jg NM FI ρ rg ρ) ?_;refine aj 5 2 n ?_;refine iX 7 ρ ρ (xt OU ρ (HR m E G d j l h.P h.F C a b p H c)) (bj (bj bI)) λn=>?_;refine aj 8 2 n ?_;refine lI 10 ρ ρ (eN kc ρ ρ ρ ρ ρ) (bj (bj bI)) λn=>?_;refine aj 11 1 n ?_;refine eY (au 3 (bJ (.cons (bX lW kc ρ ρ) (.cons (bA ρ) .nil)) ?_));exact g6;refine au 6 (aB ρ (λc3=>?_) λc3=>?_);refine aG (dY [(r,0,_),(b5,0,_)] 12 mixed ρ (bj (bj bI)) (λn=>?_));refine aj 0 4 n ?_;refine cI 4 ρ ρ ρ n (jg NM FI ρ rg ρ) ?_;refine aj 5 2 n ?_;refine iX 7 ρ ρ (xt OU ρ (HR m E G d j l h.P h.F C a b p H c)) (bj (bj bI)) λn=>?_;refine aj 8 2 n ?_;refine lI 10 ρ ρ (eN kc ρ ρ ρ ρ ρ) (bj (bj bI)) λn=>?_;refine aj 11 1 n ?_;refine eY (au 3 (bJ (.cons (bX lW kc ρ ρ) (.cons (bA ρ) .nil)) ?_));exact g6;refine au 3 ?_;obtain rfl:C=true:=by cases C<;>simp_all
 have xb:p<16384:=aq;refine au 2 (aF ρ (gU Yw ρ (Ul r m s t E G d u (.int .i64 f) (.int .i64 g) g f T L j l hR hT hr h)) ?_);rintro _ B_ ⟨rfl,K,T1,M,y,xc,xd,h1,x1,U⟩;subst y;have xe:d=0->M=L:=λq=>U (by rw[q];decide);refine au 8 (aa ρ (eH c2a zeroValue442 (aT Xt (aT FI (aT aX (aT bu eG)))) (cJ ρ Xt ρ ρ (Qaa ρ) SetL.eq (iU ρ FI ρ ρ (Qaa ρ) SetRL.eq (cJ ρ aX ρ ρ (Qaa ρ) SetL.eq (cJ ρ bu ρ ρ (Qaa ρ) SetL.eq eE))))) ?_);refine dT (l8 ρ) λD=>?_;refine au 7 (aa ρ (Bn ρ ρ) ?_);refine aa ρ (aV ρ) (aa ρ (Bn ρ ρ) ?_);refine dT (lG XJ sizeOf443 zeroValue443 ρ ρ ρ ρ ρ cl cl) λbl=>?_;refine au 5 (fI (λX:Nat×List It×List It×Nat=>X.1≤2/\Rep X.2.1 X.2.2.2 X.2.2.1/\X.2.2.1.length≤f/\TI M X.2.2.1/\X.2.2.2≤g+X.1/\(X.1=2->∀x∈M,x.k=fu a p->sZ x.e c b=false)) (λX=>[(8,.pointer (some ⟨b8,0,none⟩)),(10,.pointer (some ⟨D,0,none⟩)),(47,.slice (some ⟨bl,0,none⟩) 2 2),(48,.int .i64 2),(49,.int .i64 X.1)]) (λX=>pt bl (ae (Cu D) 443)::pt b8 (ae [.int .i64 0,.int .i64 0,.int .i64 0,.bool false] 363)::pt D (jZ r true a b p c)::pt r (cX m s t)::bC s (X.2.1,dt f X.2.2.2)::cj t M::df m E G 0 j l R) (λX=>2-X.1) (0,K,T1,g) ?_ ?_ ?_ ?_);exact⟨Qay _,xc,xd,h1.ti,Qai _,λq=>absurd (show(0:Nat)=2 from q) cl⟩
 · exact ai
 show Ent _ (pt bl (ae (Cu D) 443)::pt b8 (ae [.int .i64 0,.int .i64 0,.int .i64 0,.bool false] 363)::pt D (jZ r true a b p c)::pt r (cX m s t)::bC s (K,dt f g)::cj t M::df m E G 0 j l R);exact IO;intro ⟨i,N,T2,x2⟩ ⟨hi,V,W,Y,xf,O⟩;dsimp only at hi V W Y xf O ⊢;refine au 6 (aB ρ (λc8=>?_) λc8=>?_);refine au 5 ?_;have Z:i<2:=aq;have xg:i<(Cu D).length:=Z;obtain⟨fv,x3⟩:∃v,(Cu D)[i]?=some v:=⟨_,QbN xg⟩
 refine aM (aa ρ (kP XJ sizeOf443 ρ ρ ρ Z dg) ?_);refine jU 6 (bO isAgg443 ρ (aO (by rw[QaP];exact x3))) ?_;refine aF ρ (qe inferInstance (b44 (R:=pt bl (ae (Cu D) 443)::pt b8 (ae [.int .i64 0,.int .i64 0,.int .i64 0,.bool false] 363)::df m E G 0 j l R) (ba:=D) (bm:=r) (pv:=m) (bt:=s) (bs:=t) (on:=true) (root:=a) (user:=b) (kind:=c) (its:=N) (L:=M) H V W hr aq Y Z x3 ρ)) ?_;rintro _ B_ ⟨o,Q,T3,S,rfl,xh,xi,x4,x5,x6,xn,y⟩;subst y;refine au 3 (dT (cP B5) λxo=>?_);refine fw 8 (eN kc ρ ρ ρ ρ ρ) ?_;apply aB ρ<;>intro xj;refine au 3 (fw 9 (eN kc ρ ρ ρ ρ ρ) ?_);refine bJ (.cons (bX lW kc ρ ρ) (.cons (bA ρ) .nil)) ?_;obtain⟨x,rfl⟩:∃x,o=some x:=by cases o<;>simp_all
 obtain⟨hx,x7,x8⟩:=xh x ρ;obtain⟨e0,e1,e2,e3⟩:=b40 h1 hx xb x7 x8;refine⟨_,⟨true,Q,T3,M,S,0,?_,⟨λ_=>⟨⟨ρ,e0⟩,x,hx,e1.symm,x8⟩,λ_=>⟨x,x1 x hx,x7⟩,λq=>(by cases q),λ_ _ _ _ _ _ _=>ρ,λ_ _=>ρ⟩,x4,x5,h1.tl x6,by omega,ρ⟩,IO⟩;rw[e0,e1,e2,e3];rfl;refine au 4 (jU 3 (Px ρ ρ) ?_);exact d8 (i+1,Q,T3,S) (⟨aq,x4,x5,x6,by dsimp only;omega,λq=>xi (by dsimp only at q;omega) (by cases o<;>simp_all)⟩);refine au 6 ?_;obtain rfl:i=2:=aq;have h2:=h1.tl Y;refine au 2 (aF ρ (Q7 call287 ρ (b43 W0 _ hK D r m s t E G a b p H c N f x2 T2 M j l V W hr aq h2)) ?_);rintro _ B_ ⟨rfl,x9,T4,L4,xa,xk,xl,h4,xp,xm,y⟩;subst y;refine au 2 (fw 4 (eN kc ρ ρ ρ ρ ρ) ?_);refine bJ (.cons (bX lW kc ρ ρ) (.cons (bA ρ) .nil)) ?_
 exact⟨_,⟨false,x9,T4,L4,xa,0,ρ,⟨λq=>(by cases q),λq=>(by cases q),λ_ _ _ q=>xm q,λq _ _ x hx hk hm=>(by
   rw[O ρ x (by rw[xe q];exact hx) hk]at hm;cases hm),λ_ _=>ρ⟩,xk,xl,h4,aq,ρ⟩,IO⟩
theorem UO{fr pg on root user va kind}(h:kX fr pg on root user va kind=0):
    ∃b,b<768/\b %64=va %64/\io fr.length pg b 1 kind=0/\j8 sN fr pg on root user va kind=(b/64:Nat)/\j8 rD fr pg on root user va kind=(cB pg (b/64:Nat)).1/\j8 rE fr pg on root user va kind=(b %64:Nat):=by
 cases on with
 |false=>
  have a:∀g,j8 g fr pg false root user va kind=g fr.length pg va 1 kind:=λg=>by unfold j8;rw[Qab cl]
  have h:io fr.length pg va 1 kind=0:=by grind[kX]
  exact⟨va,(Lb h).1,Z,h,by rw[a,sN,Qad h],by rw[a,rD,Qad h],by rw[a,rE,Qad h]⟩
 |true=>
  obtain⟨s,c⟩:∃s,dp fr pg root va=s:=⟨_,Z⟩
  obtain⟨k,f,i⟩:=HQ fr pg root va;unfold kX at h;rw[Qad Z,c]at h;by_cases j:s.fault≠0;omega;rw[Qab j]at h;by_cases d:vq s kind user=true
  case neg=>rw[Qab d]at h;exact absurd h cl
  rw[Qad d]at h;rw[c]at f;have e:p7 s va=64*k+va %64:=by rw[p7,f];rfl
  obtain⟨m,l⟩:=My k va;have a:∀g,j8 g fr pg true root user va kind=g fr.length pg (p7 s va) 1 kind:=λg=>by
   unfold j8;rw[Qad Z,c,Qab j,Qad d]
  exact⟨p7 s va,(Lb h).1,by rw[e,l],h,by rw[a,sN,Qad h],by rw[a,rD,Qad h],by rw[a,rE,Qad h]⟩
theorem b45{a:Nat}{w:Int}(h:io n pg a 1 kind=0)(b:kE va w=true)(e:a %64=va %64):io n pg a w kind=0:=by grind[kE,io]
theorem UP{a:Nat}(h:io n pg a 1 kind=0):bG pg ((a/64:Nat):Int)=true:=by grind[kE,io,kS]
def yn(fr:List az)(pg:List Pl)(on:Bool)(root:Int)(user:Bool)(va:Nat)(w kind:Int):Nat:=if kE va w then(if kX fr pg on root user va kind=0 then gW fr (j8 rD fr pg on root user va kind) (j8 rE fr pg on root user va kind) w else 0)else 0
def vu(fr:List az)(pg:List Pl)(on:Bool)(root:Int)(user:Bool)(va:Nat)(w kind:Int):Int:=if kE va w then kX fr pg on root user va kind else 1
def qF(fr:List az)(pg:List Pl)(on:Bool)(root:Int)(user:Bool)(va:Nat)(w:Int)(x:Nat):List az:=if kE va w then(if kX fr pg on root user va 2=0 then jn fr (j8 rD fr pg on root user va 2) (j8 rE fr pg on root user va 2) w x else fr)else fr
theorem UQ(d:Nat)(e:d<4294967296)(w:Int):sQ W0 208 [.int .u32 d,iQ w] R (.bool (kE d w)) R:=by
 refine am func208 ntmps208 ?_;apply fC<;>intro b;refine ac (cv (eh aq)) ?_;refine ac (kg Z Z aq (Qbd aq)) ?_;refine ag (aP (Qak Value.bool ?_));rw[Qah];simp only[kE,Qas,Qbv]
 first
   |omega
   |(simp only[QaA,QbB];omega)
   |(constructor<;>intro q<;>simp_all<;>omega)
 apply fC<;>intro c;refine ac (cv (eh aq)) ?_;refine ac (kg Z Z aq (Qbd aq)) ?_;refine ag (aP (Qak Value.bool ?_));rw[Qah];simp only[kE,Qas,Qbv]
 first
   |omega
   |(simp only[QaA,QbB];omega)
   |(constructor<;>intro q<;>simp_all<;>omega)
 apply e9<;>intro a;refine ac (cv (eh aq)) ?_;refine ac (kg Z Z aq (Qbd aq)) ?_;refine ag (aP (Qak Value.bool ?_));rw[Qah];simp only[kE,Qas,Qbv]
 first
   |omega
   |(simp only[QaA,QbB];omega)
   |(constructor<;>intro q<;>simp_all<;>omega)
 refine ag (aP (Qak Value.bool ?_));rw[Qah];simp only[kE,Qas,Qbv]
 first
   |omega
   |(simp only[QaA,QbB];omega)
   |(constructor<;>intro q<;>simp_all<;>omega)
theorem b46 W0 R(K:∀A,bF (aQ W0 A) 1 0 ja)bm pv bt bs ps pm d on root user(c:Nat)(i:c<4294967296)w kind its room now T L fr pg(u:Rep its now T)(x:T.length≤room)(M:room≤4)(N:now<900000)(h:MOk fr pg d L T):
    bE Tryz.prog W0 134 [pQ bm,.agg (Ai on root user).toArray,.int .u32 c,iQ w,iQ kind] (pt bm (cX pv bt bs)::bC bt (its,dt room now)::cj bs L::df pv ps pm d fr pg R)
      (λv B=>v=.tuple #[.int .u32 (yn fr pg on root user c w kind),iQ (vu fr pg on root user c w kind)]/\∃e o y b C,Rep e b o/\o.length≤room/\MOk fr pg C y o/\b≤now+3/\B=pt bm (cX pv bt bs)::bC bt (e,dt room b)::cj bs y::df pv ps pm C fr pg R):=by
 obtain⟨D,j⟩:∃a,kE c w=a:=⟨_,Z⟩
 rw[yn,vu,j];refine am func134 ntmps134 ?_;refine bR λP=>?_;refine ao (ar JG (ET bm pv bt bs)) ?_;refine ao (aK call208 (UQ c i w)) ?_;rw[j];apply ap<;>intro O;refine aZ ?_;have p:D=false:=mv;rw[p,Qab cl,Qab cl];exact⟨_,⟨Z,its,T,L,now,d,u,x,h,aq,Z⟩,IO⟩;have p:D=true:=mv;rw[p,Qad Z,Qad Z];refine aF Z (Dw call209 Z (UN K bm pv bt bs ps pm d on root user c i kind its room now T L fr pg u x M N h)) ?_;rintro _ Q ⟨E,f,G,H,g,q,rfl,r,k,l,I,m,s⟩;subst s;refine aw ?_;refine bU λt=>?_;refine aJ aR (ap (λJ=>?_) λJ=>?_);refine aZ ?_;rw[Qab J];exact⟨_,⟨Z,f,G,H,g,q,k,l,I,m,Z⟩,IO⟩;rw[Qad aq];refine bH [bm,t] 16 λn=>?_;refine aj 0 4 n ?_;refine aj 5 5 n ?_;refine bQ 4 (ar Yx (Lc pv ps pm q)) λn=>?_;refine bQ 10 (ar OB (GX W0 _ ps fr _ _ w h.F)) λn=>?_;refine aj 11 5 n ?_;exact aS (aZ ⟨_,⟨by rw[show kX fr pg on root user c kind=0 by omega]<;>rfl,f,G,H,g,q,k,l,I,m,Z⟩,IO⟩)
theorem b47(h:n<16)(b:i9 n 2=true):wB n=true:=by
 have a:∀n:Nat,n<16->i9 (n:Int) 2=true->wB (n:Int)=true:=by decide+kernel
 exact a n h b
theorem I0{p t}(h:Nat.testBit (d|||2^p) t=false):Nat.testBit d t=false/\t≠p:=by grind
theorem b48 W0 R(hK:∀A,bF (aQ W0 A) 1 0 ja)bm pv bt bs ps pm d on root user(l:Nat)(H:l<4294967296)w(x:Nat)(hx:x<4294967296)its room now T L fr pg(hR:Rep its now T)(hT:T.length≤room)(hr:room≤4)(U:now<900000)(h:MOk fr pg d L T):
    bE Tryz.prog W0 304 [pQ bm,.agg (Ai on root user).toArray,.int .u32 l,iQ w,.int .u32 x] (pt bm (cX pv bt bs)::bC bt (its,dt room now)::cj bs L::df pv ps pm d fr pg R)
      (λv B=>v=iQ (vu fr pg on root user l w 2)/\∃m V L' i d',Rep m i V/\V.length≤room/\MOk (qF fr pg on root user l w x) pg d' L' V/\i≤now+3/\B=pt bm (cX pv bt bs)::bC bt (m,dt room i)::cj bs L'::df pv ps pm d' (qF fr pg on root user l w x) pg R):=by
 obtain⟨al,p⟩:∃a,kE l w=a:=⟨_,ρ⟩
 rw[qF,vu,p];have I:=λq=>UO (fr:=fr) (pg:=pg) (on:=on) (root:=root) (user:=user) (va:=l) (kind:=2) q;obtain⟨E,N⟩:∃e,kX fr pg on root user l 2=e:=⟨_,ρ⟩
 rw[N]at I;refine am func304 ntmps304 ?_;refine bR λb6=>?_;refine ao (ar JG (ET bm pv bt bs)) ?_;refine ao (aK call208 (UQ l H w)) ?_;rw[p];apply ap<;>intro c3;refine ag ?_;have O:al=false:=mv;rw[O,Qab cl,Qab cl];exact⟨_,⟨ρ,its,T,L,now,d,hR,hT,h,aq,ρ⟩,IO⟩;have O:al=true:=mv;rw[O,Qad ρ,Qad ρ,N];refine aF ρ (Dw call209 ρ (UN hK bm pv bt bs ps pm d on root user l H 2 its room now T L fr pg hR hT hr U h)) ?_;rintro _ B_ ⟨x4,j,W,Q,k,o,rfl,b,s,u,g,C,D⟩;subst D;rw[N];replace b:=b.hit;rw[N]at b;refine aw ?_;refine bU λJ=>?_;refine aJ aR (ap (λc6=>?_) λc6=>?_);refine ag ?_;rw[Qab c6];exact⟨_,⟨ρ,j,W,Q,k,o,s,u,g,C,ρ⟩,IO⟩;obtain rfl:E=0:=aq;rw[Qad ρ];obtain⟨f,p1,p2,p3,p4,p5,p6⟩:=I ρ;have K:=UP p3;have X:=b45 (w:=w) p3 (p.trans O) p2;rw[p4,p5,p6];rw[p4]at b;apply ap<;>intro c8;have Y:∀y∈Q,∀t,t=y.rt\/t=y.lf->Nat.testBit o t.toNat=false->t≠((f/64:Nat):Int):=λy Z t ht _ e=>by
  obtain⟨_,z,hz,e1,hm⟩:=b ro;simp only[sZ,Qam]at hm;have x5:=(g.ln z hz).r;have S:i9 z.e.2.2 2=true:=hm.1.2.1;have hw:wB z.e.2.2=true:=by
   obtain⟨n,U⟩:∃n:Nat,z.e.2.2=(n:Int):=⟨z.e.2.2.toNat,aq⟩
   rw[U]at S ⊢;exact b47 aq S
  have M:=g.ti.nowr z hz hw;rw[<-QaI,Ab]at M;exact M ⟨y,Z,by rw[yg,e1, <-e];exact ht.imp Qcz Qcz⟩
 have G:=g.save K ((f %64:Nat):Int) w x g.dl (λt q=>q) Y;refine bH [bm,J] 12 λc=>?_;refine aj 0 4 c ?_;refine aj 5 6 c ?_;refine bQ 4 (ar Yx (Lc pv ps pm o)) λc=>?_;refine bQ 11 (ar G1 (DW W0 _ ps fr _ _ w x hx g.F)) λc=>?_;exact aS (ag ⟨_,⟨ρ,j,W,Q,k,o,s,u,G,C,ρ⟩,IO⟩);have x0:f/64<12:=aq;have x1:o|||2^(f/64)<4096:=Qcv (n:=12) g.dl (Hf x0)
 have G:=g.save K ((f %64:Nat):Int) w x x1 (λt q=>(I0 q).1) (λy Z t ht S e=>by
  have h1:=(g.ln y Z).own;have h3:=(I0 S).2
  rcases ht with rfl|rfl<;>omega)
 have x2:Ej fr pg f w x=jn fr (cB pg ((f/64:Nat):Int)).1 ((f %64:Nat):Int) w x:=by grind[Ej]
 have x3:Ek fr pg f w o=o|||2^(f/64):=by grind[Ek]
 refine bH [bm,J] 15 λc=>?_;refine aj 0 6 c ?_;refine aE 6 c (mu (64*(f/64))) ?_;refine aj 7 2 c ?_;refine aE 9 c (eX f) ?_;refine aE 10 c (cv (eh aq)) ?_;refine aj 11 2 c ?_;refine co 13 (dF call373 (a9E pv ps pm o fr pg g.P g.F g.dl f aq w x hx)) ?_;clear c;rintro _ B_ ⟨rfl,D⟩;subst D;rw[x2,x3,X];refine⟨aW,λc=>?_⟩;refine aj 14 1 c ?_;exact aS (ag ⟨_,⟨ρ,j,W,Q,k,_,s,u,G,C,ρ⟩,IO⟩)
theorem UR{m:Nat}(h:m≠n):lj (pg.set n p) m=lj pg m:=by grind[lj]
theorem fY{pg}{n:Nat}{t p}(h:t≠(n:Int)):bG (pg.set n p) t=bG pg t/\cB (pg.set n p) t=cB pg t:=by
 have b:bG (pg.set n p) t=bG pg t:=by
  unfold bG
  cases c:oH t with
  |false=>rfl
  |true=>
   obtain⟨i,rfl,d⟩:=nP c;rw[Qae,UR aq]
 refine⟨b,?_⟩;unfold cB;rw[b];by_cases a:bG pg t=true;rw[Qad a,Qad a];simp only[bG,Qam]at a;obtain⟨i,rfl,d⟩:=nP a.1;rw[Qae,UR aq];grind
theorem b49(h:t≠(n:Int)):ES fr pg fr (pg.set n p) t:=
  HU Z (fY h).1 (fY h).2 λ_ _ _=>Z
theorem LOk.set(h:LOk fr pg d x)(a:x.e.1≠(n:Int))(b:∀t,t=x.rt\/t=x.lf->bG pg t=true->t≠(n:Int)):LOk fr (pg.set n p) d x:=
  h.move ((fY a).1.trans h.at_.1) (fY a).2 λt c f=>⟨f,λq=>b49 (b t c q)⟩
theorem Al{a:List Pl}{n}{p:Pl}(e:a.length=12)(f:n<12)(d:p≠(0,0)):bG (a.set n p) n=true/\cB (a.set n p) n=p:=by
 have b:lj (a.set n p) n=p:=by grind[lj]
 have c:bG (a.set n p) (n:Int)=true:=by
  unfold bG;rw[Qae,b,Qam];exact⟨Qav aq,by simpa using d⟩
 exact⟨c,by rw[cB,Qad c,Qae,b]⟩
theorem PlOk.set{N:Nat}(h:PlOk N pg)(c:pg.length=12)(d:n<12)(f:p≠(0,0))(g:p.1<(N:Int))(i:∀t,bG pg t=true->(cB pg t).1≠p.1):PlOk N (pg.set n p):=by have j:=Al c d f;refine⟨λt a=>?_,λs t b a e=>?_⟩;by_cases q:t=(n:Int);grind;rw[(fY q).1]at a;rw[(fY q).2];exact h.rng t a;by_cases q:s=(n:Int);grind[fY];rw[(fY q).1]at b;by_cases r:t=(n:Int);simp_all[fY];rw[(fY r).1]at a;rw[(fY q).2,(fY r).2]at e;exact h.inj s t b a e
theorem PlOk.drop{N:Nat}(h:PlOk N pg)(f:pg.length=12):PlOk N (pg.set n (0,0)):=by
 have d:bG (pg.set n (0,0)) (n:Int)=false:=by
  grind[bG,Qae,lj]
 have b:∀t,bG (pg.set n (0,0)) t=true->t≠(n:Int):=λt a e=>by rw[e,d]at a;cases a
 refine⟨λt a=>?_,λs t c a e=>?_⟩;have q:=b t a;rw[(fY q).1]at a;rw[(fY q).2];exact h.rng t a;have q:=b s c;have r:=b t a;rw[(fY q).1]at c;rw[(fY r).1]at a;rw[(fY q).2,(fY r).2]at e;exact h.inj s t c a e
theorem MOk.come{fr pg}{d n:Nat}{L T p}(h:MOk fr pg d L T)(j:p.1<(fr.length:Int))(k:∀t,bG pg t=true->(cB pg t).1≠p.1):MOk fr (gX pg n p) d L T:=by
 unfold gX;split
 case isFalse=>exact h
 case isTrue hz=>
  have l:=hz;have a:bG pg (n:Int)=false:=by
   grind[kx]
  have f:oH (n:Int)=true/\nO p=true:=by
   grind[kx]
  obtain⟨i,o,m⟩:=nP f.1;have b:p≠(0,0):=λe=>by
   have:=f.2;rw[e]at this;exact absurd this cl
  have c:=E1 (n:=(n:Int)) (p:=p) h.P;rw[gX,Qad hz]at c;rw[Qae]at c ⊢;refine⟨h.F,h.dl,c,h.pl.set h.P.len aq b j k,h.ti,λx g=>(h.ln x g).set (λe=>?_) λt _ q e=>?_⟩;have:=(h.ln x g).at_.1;rw[e,a]at this;cases this;grind
theorem LOk.go(h:LOk fr pg d x)(a:pN (n:Int) x=false):LOk fr (j9 pg (n:Int)) d x:=by unfold j9;split;rw[Qae];simp only[pN,Qbh,Qbc]at a;refine h.set a.2 λt b _ e=>?_;have c:=a.1;rw[<-QaI,yg]at c;rcases b with rfl|rfl;omega;omega;exact h
theorem US{N:Nat}(a:pg.length=12)(h:PlOk N pg):PlOk N (j9 pg (n:Int)):=by unfold j9;split;rw[Qae];exact h.drop a;exact h
theorem b5a(t l m g M N d:Nat)(o:List It)(a b:Nat)(T:List It)(L:List Ln)(H:List az)(J:List Pl)(hR:Rep o b T)(hT:T.length≤a)(hr:a≤4)(n:Nat)(h:MOk H J d L T):sP W0 383 [.pointer (some ⟨t,0,none⟩),.int .i64 n] (pt t (cX l m g)::bC m (o,dt a b)::cj g L::pt l (cg M N d)::R) (λv B=>v=.int .i64 0/\∃i O L',B=pt t (cX l m g)::bC m (i,dt a b)::cj g L'::pt l (cg M N 0)::R/\Rep i b O/\O.length≤a/\MOk H (j9 J (n:Int)) 0 L' O):=by
 obtain⟨I,K⟩:∃I:List Ln->List It->Prop,(λL T=>TI L T/\∀x∈L,pN (n:Int) x=false->LOk H (j9 J (n:Int)) d x)=I:=⟨_,ρ⟩
 have Q:I L T:=by
  rw[<-K];exact⟨h.ti,λx j q=>(h.ln x j).go q⟩
 have u:∀L T,I L T->L.length≤1000:=λL T q=>by
  rw[<-K]at q;exact Qbe q.1.len cl
 have w:∀L T p,I L T->I (L.filter λx=> !p x) (qE ((L.filter p).map Ln.k) T):=λL T p q=>by
  rw[<-K]at q ⊢
  exact⟨q.1.drop p λy hy=>by
   obtain⟨h1,h2⟩:=Ue hy
   exact⟨h1,λx j hf e=>h2 (QaZ.2 ⟨x,QaG.2 ⟨j,hf⟩,e.symm⟩)⟩,λx j=>q.2 x (QaG.1 j).1⟩
 refine jj 9 func383 ntmps383 ?_;refine cW 2 (eg JG ρ (ET t l m g)) ?_;apply aB ρ<;>intro c1;exact absurd c1 cl;refine au 5 (aF ρ (gU Yw ρ (Uk t l m g M N d o (.int .i64 a) (.int .i64 b) b a T L hR hT hr h.dl I u w Q)) ?_);rintro _ B_ ⟨rfl,A,C,r,c,S,U,D,V,_⟩;subst c;have W:=u r C D;have f:=w r C (pN (n:Int)) D;obtain⟨s,E⟩:∃s,(r.filter (pN (n:Int))).map Ln.k=s:=⟨_,ρ⟩
 have X:(r.filter (pN (n:Int))).length=s.length:=mv;have Y:s.length≤1000:=mv;rw[E]at f;refine au 10 (aF ρ (eg call430 ρ (b3j g r W (n:Int))) ?_);rintro _ B_ ⟨aw,cw,rfl,c⟩;subst c;rw[Uj,E,X];refine aF ρ (xt call347 ρ (Uf t l m g A (.int .i64 a) (.int .i64 b) b C S aq aw cw s Y)) ?_;rintro _ B_ ⟨rfl,G,c,Z⟩;subst c;refine au 8 (ag ?_);rw[<-K]at f
 have hm:MOk H (j9 J (n:Int)) 0 (r.filter λx=> !pN (n:Int) x) (qE s C):=⟨h.F,cl,Ub h.P,US h.P.len h.pl,f.1,λx j=>by
  obtain⟨hx1,hx2⟩:=QaG.1 j
  exact(f.2 x j mv).clean (V x hx1)⟩
 exact⟨_,⟨ρ,G,qE s C,r.filter λx=> !pN (n:Int) x,ρ,Z,Qbe Mi U,hm⟩,IO⟩
theorem MOk.flush(h:MOk fr pg 0 L T):MOk fr pg 0 [] []:=⟨h.F,h.dl,h.P,h.pl,TI.nil,λx a=>by simp at a⟩
theorem b5b(l j e f p q d:Nat)(g:List It)(a b:Nat)(T:List It)(L:List Ln)(r:List az)(s:List Pl)(x:Rep g b T)(y:T.length≤a)(A:a≤4)(h:MOk r s d L T):sP W0 305 [.pointer (some ⟨l,0,none⟩)] (pt l (cX j e f)::bC e (g,dt a b)::cj f L::pt j (cg p q d)::R) (λv B=>∃k c,v=.int .i64 k/\B=pt l (cX j e f)::bC e (c,dt a b)::cj f []::pt j (cg p q 0)::R/\Rep c b []/\MOk r s 0 [] []):=by refine jj 9 func305 ntmps305 ?_;refine cW 2 (eg JG Z (ET l j e f)) ?_;apply aB Z<;>intro u;exact absurd u cl;refine au 5 (aF Z (gU Yw Z (Ul l j e f p q d g (.int .i64 a) (.int .i64 b) b a T L r s x y A h)) ?_);rintro _ C ⟨rfl,m,D,E,i,n,F,w,_⟩;subst i;have G:=n.length;have H:=w.ti.len;refine au 8 (aF Z (eg call374 Z (b2P e m (.int .i64 a) (.int .i64 b) b D n aq)) ?_);rintro _ C ⟨rfl,o,i,t⟩;subst i;refine au 8 (cW 4 (eg call375 Z (b3k f E aq)) ?_);exact ag ⟨_,⟨_,o,Z,Z,t,w.flush⟩,IO⟩
structure Mu where
  pv : Nat
  ps : Nat
  pm : Nat
  bud : Nat
  fr : List az
  pg : List Pl
def cR(bm:Nat)(x:Mu):HP:=chk (λC=>∃bt bs its T L now d,Rep its now T/\T.length≤4/\now≤x.bud/\MOk x.fr x.pg d L T/\C=[pt bm (cX x.pv bt bs),bC bt (its,dt 4 now),cj bs L,pt x.pv (cg x.ps x.pm d),pt x.pm (bM x.pg)])
section
variable{P:Program}{W0:World}{e:bK}{R:List HP}{bm pv ps pm bud:Nat}{fr:List az}{pg:List Pl}{f:FuncId}{args:List Value}{Post:Value->List HP->Prop}
theorem rN(h:∀c e b T L a d,Rep b a T->T.length≤4->a≤bud->MOk fr pg d L T->bE P W0 f args (pt bm (cX pv c e)::bC c (b,dt 4 a)::cj e L::pt pv (cg ps pm d)::pt pm (bM pg)::R) Post):bE P W0 f args (cR bm ⟨pv,ps,pm,bud,fr,pg⟩::R) Post:=
  uP λC g=>by obtain⟨c,e,b,T,L,a,d,i,j,k,l,rfl⟩:=g;exact h c e b T L a d i j k l
theorem p8{a b:Nat}(c:Rep its now T)(e:T.length≤4)(f:now≤bud)(g:MOk fr pg d L T):Ent (pt bm (cX pv a b)::bC a (its,dt 4 now)::cj b L::pt pv (cg ps pm d)::pt pm (bM pg)::R) (cR bm ⟨pv,ps,pm,bud,fr,pg⟩::R):=
  fT (R:=R) (C:=[_,_,_,_,_]) ⟨a,b,its,T,L,now,d,c,e,f,g,Z⟩
end
section
variable(W0:World)(R:List HP)(bm pv ps pm bud:Nat)(fr:List az)(pg:List Pl)
theorem UT(j:∀A,bF (aQ W0 A) 1 0 ja)(t:bud<800000)on root user(a:Nat)(i:a<4294967296)w kind:
    bE Tryz.prog W0 134 [pV bm,.agg (Ai on root user).toArray,.int .u32 a,.int .i64 w,.int .i64 kind] (cR bm ⟨pv,ps,pm,bud,fr,pg⟩::aH ps fr::R)
      (λv B=>v=.tuple #[wV (yn fr pg on root user a w kind),.int .i64 (vu fr pg on root user a w kind)]/\B=cR bm ⟨pv,ps,pm,bud+3,fr,pg⟩::aH ps fr::R):=by refine rN λb c e T L f d k l u m=>?_;refine ig (B:=pt bm (cX pv b c)::bC b (e,dt 4 f)::cj c L::df pv ps pm d fr pg R) inferInstance ?_;refine cF (b46 W0 R j bm pv b c ps pm d on root user a i w kind e 4 f T L fr pg k l cl aq m) λv B n=>?_;obtain⟨rfl,g,x,o,h,p,q,r,s,y,rfl⟩:=n;refine⟨_,⟨Z,Z⟩,?_⟩;exact Ent.trans (B:=pt bm (cX pv b c)::bC b (g,dt 4 h)::cj c o::pt pv (cg ps pm p)::pt pm (bM pg)::aH ps fr::R) inferInstance (p8 q r aq s)
theorem b5c(j:∀A,bF (aQ W0 A) 1 0 ja)(u:bud<800000)on root user(a:Nat)(i:a<4294967296)w(x:Nat)(k:x<4294967296):
    bE Tryz.prog W0 304 [pV bm,.agg (Ai on root user).toArray,.int .u32 a,.int .i64 w,.int .u32 x] (cR bm ⟨pv,ps,pm,bud,fr,pg⟩::aH ps fr::R)
      (λv B=>v=.int .i64 (vu fr pg on root user a w 2)/\B=cR bm ⟨pv,ps,pm,bud+3,qF fr pg on root user a w x,pg⟩::aH ps (qF fr pg on root user a w x)::R):=by refine rN λb c e T L f d l m y n=>?_;refine ig (B:=pt bm (cX pv b c)::bC b (e,dt 4 f)::cj c L::df pv ps pm d fr pg R) inferInstance ?_;refine cF (b48 W0 R j bm pv b c ps pm d on root user a i w x k e 4 f T L fr pg l m cl aq n) λv B o=>?_;obtain⟨rfl,g,C,p,h,q,r,s,t,D,rfl⟩:=o;refine⟨_,⟨Z,Z⟩,?_⟩;exact Ent.trans (B:=pt bm (cX pv b c)::bC b (g,dt 4 h)::cj c p::pt pv (cg ps pm q)::pt pm (bM pg)::aH ps (qF fr pg on root user a w x)::R) inferInstance (p8 r s aq t)
theorem b5d:bE Tryz.prog W0 305 [pV bm] (cR bm ⟨pv,ps,pm,bud,fr,pg⟩::R) (λv B=>∃k,v=.int .i64 k/\B=cR bm ⟨pv,ps,pm,bud,fr,pg⟩::R):=by refine rN λe f a T L b d g h i j=>?_;refine cF (b5b bm pv e f ps pm d a 4 b T L fr pg g h cl j) λv B l=>?_;obtain⟨k,c,rfl,rfl,m,n⟩:=l;exact⟨_,⟨k,Z,Z⟩,p8 m cl i n⟩
end
structure VIt where
  n : Int
  p : Int
  s : Int
  hs : 0 ≤ s ∧ s < 10000000000000000000
instance:Hk VIt where
  default:=⟨0,0,0,by decide⟩
  ky:=λx=>x.s-x.p*100000000000000000000
@[reducible] def iC(x:VIt):List Value:=[.int .i64 x.n,.int .i64 x.p,.int .i64 x.s]
theorem np x:(iC x).length=3:=Z
theorem yo(a:List VIt)sp i(b:i<a.length):((a.flatMap iC++sp).drop (i*3)).take 3=iC (a.getD i default):=by simp_all[uM,np,List.getD]
theorem I1(a:List VIt)sp i x(b:i<a.length):ee (a.flatMap iC++sp) (i*3) (iC x)=(a.set i x).flatMap iC++sp:=zj np a i x sp b
theorem I2(a:List VIt)sp i(b:i<a.length):i*3+3≤(a.flatMap iC++sp).length:=by rw[Qaf,dy np];omega
theorem UU{a:List VIt}(h:i<a.length):a≠[]:=λe=>by rw[e]at h;simp at h
abbrev eu:Nat->List VIt×List Value->HP:=pF 324 348 3 iC 32
abbrev wN(b:Nat):Value:=.pointer (some ⟨b,32,none⟩)
theorem UV(b:Nat)(d:List VIt)(e:List Value):sQ W0 202 [wN b] (eu b (d,e)::R) (iQ (d.length:Nat)) (eu b (d,e)::R):=by refine ve λa c f=>?_;refine am func202 ntmps202 ?_;refine ac (aY (aO (eA f))) ?_;exact ag ⟨_,⟨Z,Z⟩,kz Z Z f Z⟩
theorem b5e(b:Nat)(a:List VIt)(u:List Value)(i k:Nat)(q:i<a.length)(v:k<a.length):sQ W0 545 [wN b,iQ i,iQ k] (eu b (a,u)::R) (.bool (decide (Hp.us a i<Hp.us a k))) (eu b (a,u)::R):=by
 refine ru np (UU q) cl λg c w h j l m=>?_;obtain⟨x,A⟩:∃x,a.getD i default=x:=⟨_,Z⟩
 obtain⟨y,B⟩:∃y,a.getD k default=y:=⟨_,Z⟩
 have e:=yo a w i q;have f:=yo a w k v;rw[A]at e;rw[B]at f;have n:Hp.us a i=x.s-x.p*100000000000000000000:=by rw[Hp.us,A];rfl
 have o:Hp.us a k=y.s-y.p*100000000000000000000:=by rw[Hp.us,B];rfl
 have D:=x.hs;have E:=y.hs;refine iW func545 ntmps545 Z Z ?_;refine aG (aM (aa Z (aU Z) (aI (aA (aG ?_)))));refine dY [(b,0,_),(g,i*3,iC x),(g,k*3,iC y)] 18 mixed Z (bj (dA (cT e Z) (dA (cT f Z) bI))) (λd=>?_);refine aj 0 3 d ?_;refine aE 3 d (aY (d6 (k:=0) Z (eA h))) ?_;refine aj 4 1 d ?_;refine aE 5 d (cu q) ?_;refine cI 6 Z Z Z d (jg Xe FJ Z (i6 (k:=1) Z) Z) ?_;refine cI 7 Z Z Z d (aV Z) ?_;refine cI 8 Z Z Z d (fJ Z) ?_;refine cI 9 Z Z Z d (bT Z c1W Z sizeOf320 Z dg) ?_;refine aE 10 d (aY (d6 (k:=0) Z (eA h))) ?_;refine aj 11 1 d ?_;refine aE 12 d (cu v) ?_;refine cI 13 Z Z Z d (jg Xe FJ Z (i6 (k:=2) Z) Z) ?_;refine fp (is:=[14,15]) ld Z ⟨?_,?_,trivial⟩;refine dB (cP D4) ?_;clear d;rintro _ _ ⟨C,rfl,rfl⟩;refine⟨(bj (dA (cT e Z) (dA (cT f Z) bI))),λd=>?_⟩;refine co 15 (cP D4) ?_;clear d;rintro _ _ ⟨r,rfl,rfl⟩;refine⟨(bj (dA (cT e Z) (dA (cT f Z) bI))),λd=>?_⟩;refine lI 16 Z Z aR (bj (dA (cT e Z) (dA (cT f Z) bI))) λd=>?_;refine lI 17 Z Z aR (bj (dA (cT e Z) (dA (cT f Z) bI))) λd=>?_;refine aS (ap (λt=>?_) λt=>?_);refine ag ?_;rw[n,o];refine⟨_,⟨Qak Value.bool ?_,Z⟩,jJ np Z Z h Z j l m⟩;rw[Qah,Qag,Qag];have:x.p≠y.p:=aq;omega;refine ag ?_;rw[n,o];refine⟨_,⟨Qak Value.bool ?_,Z⟩,jJ np Z Z h Z j l m⟩;rw[Qah,Qag,Qag];have:x.p=y.p:=aq;omega;skip;refine dB (cP D4) ?_;clear d;rintro _ _ ⟨r,rfl,rfl⟩;refine⟨(bj (dA (cT e Z) (dA (cT f Z) bI))),λd=>?_⟩;refine co 14 (cP D4) ?_;clear d;rintro _ _ ⟨C,rfl,rfl⟩;refine⟨(bj (dA (cT e Z) (dA (cT f Z) bI))),λd=>?_⟩;refine lI 16 Z Z aR (bj (dA (cT e Z) (dA (cT f Z) bI))) λd=>?_;refine lI 17 Z Z aR (bj (dA (cT e Z) (dA (cT f Z) bI))) λd=>?_;refine aS (ap (λt=>?_) λt=>?_);refine ag ?_;rw[n,o];refine⟨_,⟨Qak Value.bool ?_,Z⟩,jJ np Z Z h Z j l m⟩;rw[Qah,Qag,Qag];have:x.p≠y.p:=aq;omega;refine ag ?_;rw[n,o];refine⟨_,⟨Qak Value.bool ?_,Z⟩,jJ np Z Z h Z j l m⟩;rw[Qah,Qag,Qag];have:x.p=y.p:=aq;omega
theorem b5f(b:Nat)(a:List VIt)(m:List Value)(i k:Nat)(f:i<a.length)(j:k<a.length):sQ W0 548 [wN b,iQ i,iQ k] (eu b (a,m)::R) (.tuple #[]) (eu b (Hp.swapL a i k,m)::R):=by refine ru np (UU f) cl λg c e h o n l=>?_;refine am func548 ntmps548 ?_;refine bH [b] 28 λd=>?_;refine aj 0 3 d ?_;refine aE 3 d (aY (d6 (k:=0) Z (eA h))) ?_;refine aj 4 4 d ?_;refine aE 8 d (aY (d6 (k:=0) Z (eA h))) ?_;refine aj 9 4 d ?_;refine aE 13 d (aY (d6 (k:=0) Z (eA h))) ?_;refine aj 14 1 d ?_;refine aE 15 d (cu j) ?_;refine aj 17 3 d ?_;refine aE 20 d (aY (d6 (k:=0) Z (eA h))) ?_;refine aj 21 1 d ?_;refine aE 22 d (cu f) ?_;refine fp (is:=[16,23]) ld Z ⟨?_,?_,trivial⟩;refine dB (dJ (cV (cT (yo a e k j) Z))) ?_;clear d;rintro _ _ ⟨rfl,rfl⟩;refine⟨aW,λd=>?_⟩;refine bQ 23 (dJ (cV (cT (yo a e i f) Z))) λd=>?_;refine aE 24 d (cu f) ?_;refine cp 25 (kh (I2 a e i f) (I1 a e i (a.getD k default) f)) λd=>?_;refine aE 26 d (cu j) ?_;refine cp 27 (kh (I2 (a.set i (a.getD k default)) e k mv) (I1 (a.set i (a.getD k default)) e k (a.getD i default) mv)) λd=>?_;refine aS (bP (.inr Z) .nil ?_);exact w3;skip;refine dB (dJ (cV (cT (yo a e i f) Z))) ?_;clear d;rintro _ _ ⟨rfl,rfl⟩;refine⟨aW,λd=>?_⟩;refine bQ 16 (dJ (cV (cT (yo a e k j) Z))) λd=>?_;refine aE 24 d (cu f) ?_;refine cp 25 (kh (I2 a e i f) (I1 a e i (a.getD k default) f)) λd=>?_;refine aE 26 d (cu j) ?_;refine cp 27 (kh (I2 (a.set i (a.getD k default)) e k mv) (I1 (a.set i (a.getD k default)) e k (a.getD i default) mv)) λd=>?_;refine aS (bP (.inr Z) .nil ?_);exact w3
theorem b5g(b:Nat)(its:List VIt)(x:VIt)(cs:List Value):sQ W0 546 [wN b] (eu b (its++[x],cs)::R) (.iface 348 (.agg (iC x).toArray)) (eu b (its,cs)::R):=by refine ru np n4 cl λg c sp ho h1 h2 h3=>?_;have hl:(its++[x]).length=its.length+1:=n4;rw[hl]at h1 ⊢;have hg:(its++[x]).getD its.length default=x:=mv;have hr:=yo (its++[x]) sp its.length aq;rw[hg]at hr;have he:(its++[x]).flatMap iC++sp=its.flatMap iC++(iC x++sp):=n4;refine am func546 ntmps546 ?_;refine ac (aY (aO (eA ho))) ?_;refine ac (mY Z Z (aai:IntKind.wrap .i64 (((its.length+1:Nat):Int)-1)=((its.length:Nat):Int))) ?_;refine ac (aY (aO (eA ho))) ?_;refine ac (cu aq) ?_;refine ac (cV (cT hr Z)) ?_;refine bU λb1=>?_;refine aJ aR (ac (aY (aO (eA ho))) ?_);refine ac (qd FQ FJ Z Z Z aq) ?_;refine aJ (fg (by rw[Qal];exact ho) set_set) ?_;refine ag ?_;rw[he];exact⟨_,⟨Z,Z⟩,jJ (sp:=iC x++sp) np Z Z ho Z (by omega) h2 (by rw[<-he];exact h3)⟩
theorem b5h(b:Nat)(e:List VIt)(x:VIt)(g:List Value)(m:e.length<1000):sQ W0 547 [wN b,.iface 348 (.agg (iC x).toArray)] (eu b (e,g)::R) (.tuple #[]) (eu b (e++[x],g)::R):=by refine ve λa c f=>?_;have i:e.flatMap iC++[iC x].flatten=(e++[x]).flatMap iC:=n4;refine iW func547 ntmps547 Z Z ?_;refine bH [] 12 λd=>?_;refine aj 0 4 d ?_;refine aj 5 1 d ?_;refine aE 6 d (uN XG (λ_ h=>n8) Z) ?_;refine fp (is:=[4,7]) ld Z ⟨?_,?_,trivial⟩;refine dB (dJ (aY (aO (eA f)))) ?_;clear d;rintro _ _ ⟨rfl,rfl⟩;refine⟨aW,λd=>?_⟩;refine iw 7 ld Z Z (ji FQ FJ D4 Z (fK Z Z iH) Z cl cl cl) Z ?_;clear d;rintro _ _ ⟨j,rfl,rfl⟩;refine⟨aW,λd=>?_⟩;refine co 8 (fR (sz:=3) (by_:=24) (info:=Tryz.t348) FQ ld Z Z Z Z cl Z Z eQ Z Z n5 aq) ?_;clear d;rintro _ _ ⟨k,l,rfl,rfl⟩;refine⟨aW,λd=>?_⟩;refine aj 9 2 d ?_;refine cp 11 (fg mv set_set) λd=>?_;refine eY (bP (.inr Z) .nil ?_);exact qk;skip;refine lH Z Z (ji FQ FJ D4 Z (fK Z Z iH) Z cl cl cl) Z ?_;clear d;rintro _ _ ⟨j,rfl,rfl⟩;refine⟨aW,λd=>?_⟩;refine bQ 4 (dJ (aY (aO (eA f)))) λd=>?_;refine co 8 (fR (sz:=3) (by_:=24) (info:=Tryz.t348) FQ ld Z Z Z Z cl Z Z eQ Z Z n5 aq) ?_;clear d;rintro _ _ ⟨k,l,rfl,rfl⟩;refine⟨aW,λd=>?_⟩;refine aj 9 2 d ?_;refine cp 11 (fg mv set_set) λd=>?_;refine aS (bP (.inr Z) .nil ?_);exact qk
section
variable(w:World)(a:Addr)
theorem b5i:(method (Tryz.prog.types.size+Made.depth) 349 (.pointer (some a)) "Len").run Tryz.prog w=.ok (202,.pointer (some a)) w:=ld
theorem b5j:(method (Tryz.prog.types.size+Made.depth) 349 (.pointer (some a)) "Less").run Tryz.prog w=.ok (545,.pointer (some a)) w:=ld
theorem b5k:(method (Tryz.prog.types.size+Made.depth) 349 (.pointer (some a)) "Swap").run Tryz.prog w=.ok (548,.pointer (some a)) w:=ld
theorem b5l:(method (Tryz.prog.types.size+Made.depth) 349 (.pointer (some a)) "Push").run Tryz.prog w=.ok (547,.pointer (some a)) w:=ld
theorem b5m:(method (Tryz.prog.types.size+Made.depth) 349 (.pointer (some a)) "Pop").run Tryz.prog w=.ok (546,.pointer (some a)) w:=ld
end
def Mz(W0:World)(b:Nat)(cs:List Value):HpO W0 VIt where
  T:=349
  p:=wN b
  el:=λx=>.iface 348 (.agg (iC x).toArray)
  H:=λl=>eu b (l,cs)
  fL:=202
  fE:=545
  fS:=548
  fU:=547
  fO:=546
  mL:=λu=>b5i u _
  mE:=λu=>b5j u _
  mS:=λu=>b5k u _
  mU:=λu=>b5l u _
  mO:=λu=>b5m u _
  cL:=call202
  cE:=call545
  cS:=call548
  cU:=call547
  cO:=call546
  sL:=λR l=>UV b l cs
  sE:=λR l i j hi hj=>b5e b l cs i j hi hj
  sS:=λR l i j hi hj=>b5f b l cs i j hi hj
  sU:=λR l x hl=>b5h b l x cs hl
  sO:=λR l x=>b5g b l x cs
theorem b5n(b:Nat)(c:List VIt)(x:VIt)(d:List Value)(e:c.length<900)(f:Hp.Heap c c.length):sP W0 50 [.iface 349 (wN b),.iface 348 (.agg (iC x).toArray)] (eu b (c,d)::R) (λv B=>v=.tuple #[]/\∃a,B=eu b (a,d)::R/\a.Perm (c++[x])/\Hp.Heap a a.length):=
  Hp.heapPush_spec (Mz W0 b d) R c x e f
theorem b5o(b:Nat)(a:List VIt)(d:List Value)(e:a.length<900)(f:a≠[])(g:Hp.Heap a a.length):sP W0 117 [.iface 349 (wN b)] (eu b (a,d)::R) (λv B=>∃x c,v=.iface 348 (.agg (iC x).toArray)/\B=eu b (c,d)::R/\(c++[x]).Perm a/\Hp.Heap c c.length/\∀y∈a,Hk.ky x≤Hk.ky y):=
  Hp.heapPop_spec (Mz W0 b d) R a e f g
namespace Hp
variable{W0:World}{α:Type}[Hk α](o:HpO W0 α)
theorem heapRemove_spec (R : List HP) (its : List α) (i : Nat) (hN : its.length < 900) (hi : i < its.length) (hh : Heap its its.length) : sP W0 334 [iv o, iQ i] (kH 0 (o.H its) :: R) (fun v B => ∃ its', v = o.el (its.getD i default) ∧ B = kH 0 (o.H its') :: R ∧ (its' ++ [its.getD i default]).Perm its ∧ Heap its' its'.length) := by
 obtain ⟨n, hn⟩ : ∃ n, its.length = n + 1 := ⟨its.length - 1, by omega⟩
 have hs : i ≠ n → lm (swapL its i n) i n := fun hin c hc h0 => ⟨fun h1 h2 => by
  rw [mD (by omega) (by omega), mD (by omega) (by omega), Qab h2, Qab h1, Qab (by omega), Qab (by omega)]
  exact hh c (by omega) h0, fun h1 h2 => by
  rw [mD (by omega) (by omega), mD (by omega) (by omega), Qab (by omega), Qab (by omega), Qab (by omega), Qab (by omega)]
  have k1 := hh c (by omega) h0
  have k2 := hh i (by omega) h2
  rw [h1] at k1; omega⟩
 have hsl := E2 its i n
 have fin : ∀ l : List α, l.Perm its → Heap l n → l.getD n default = its.getD i default → ∃ l', l = l' ++ [its.getD i default] ∧ l'.length = n ∧ Heap l' l'.length := fun l hp hH hx => by
  have := hp.length_eq
  obtain ⟨l', x, rfl, hl', hx'⟩ := Eb (l := l) (n := n) (by omega)
  rw [hx] at hx'; subst hx'
  exact ⟨l', rfl, hl', by rw [hl']; exact Ec hH (by omega)⟩
 have hend : i ≠ n → (swapL its i n).getD n default = its.getD i default := fun h => by
  rw [wd (by omega) (by omega), Qab (by omega), Qad rfl]
 refine am func334 ntmps334 ?_
 refine ao (gQ rfl o.mL o.cL rfl (o.sL _ its)) ?_
 refine ac (mt n) ?_
 refine ap (fun c2 => ?_) fun c2 => ?_
 have hin : i ≠ n := by omega
 refine ao (gQ rfl o.mS o.cS rfl (o.sS _ its i n (by omega) (by omega))) ?_
 refine aF rfl (ar FZ (BO o _ (swapL its i n) i n (by omega) (by omega) (by omega) (hs hin))) ?_
 rintro _ _ ⟨l, m, rfl, rfl, hD⟩
 have hll := hD.perm.length_eq
 refine aw ?_
 refine ap (fun c4 => ?_) fun c4 => ?_
 have hm : m = false := by simpa using c4
 obtain ⟨rfl, hmin⟩ := hD.no hm
 refine aF rfl (ar Jt (BN o _ (swapL its i n) i n (by omega) (by omega) (by omega) (GY (hs hin) hmin))) ?_
 rintro _ _ ⟨rfl, l, rfl, hp, hH, ht⟩
 obtain ⟨l', rfl, hl', hH⟩ := fin l (hp.trans (nQ (by omega) (by omega))) hH ((ht n (Qai _)).trans (hend hin))
 replace hp := hp.trans (nQ (by omega) (by omega))
 generalize its.getD i default = x at hp ⊢
 refine aw ?_
 refine ao (gQ rfl o.mO o.cO rfl (o.sO _ l' x)) ?_
 refine ag ?_
 exact ⟨_, ⟨l', rfl, rfl, by first | exact hp | exact QaS _, hH⟩, IO⟩
 have hm : m = true := by simpa using c4
 obtain ⟨l', rfl, hl', hH⟩ := fin l (hD.perm.trans (nQ (by omega) (by omega))) (hD.yes hm) ((hD.tail n (Qai _)).trans (hend hin))
 have hp := hD.perm.trans (nQ (l := its) (i := i) (j := n) (by omega) (by omega))
 generalize its.getD i default = x at hp ⊢
 refine ao (gQ rfl o.mO o.cO rfl (o.sO _ l' x)) ?_
 refine ag ?_
 exact ⟨_, ⟨l', rfl, rfl, by first | exact hp | exact QaS _, hH⟩, IO⟩
 obtain rfl : n = i := by omega
 obtain ⟨l', hl, hl', hH⟩ := fin its (QaS _) (KM hh (by omega)) rfl
 have hp : (l' ++ [its.getD n default]).Perm its := by rw [← hl]
 generalize hx : its.getD n default = x at hl hp ⊢
 rw [hl]
 refine ao (gQ rfl o.mO o.cO rfl (o.sO _ l' x)) ?_
 refine ag ?_
 exact ⟨_, ⟨l', rfl, rfl, by first | exact hp | exact QaS _, hH⟩, IO⟩
end Hp
end
end Go.Proofs.YtjaalpinjajaoaaGreatDoor
