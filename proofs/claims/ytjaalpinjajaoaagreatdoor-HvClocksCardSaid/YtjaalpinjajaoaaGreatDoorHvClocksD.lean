/-
  Part 4 of the proof of HvClocks: rules, and walks of functions. Conditions: none.
-/
import Derived.Test.YtjaalpinjajaoaaGreatDoorHvClocksC
namespace Go.Proofs.YtjaalpinjajaoaaGreatDoor
open Go.Proofs.Tryz
set_option linter.unusedSimpArgs false
set_option linter.unusedVariables false
set_option maxRecDepth 20000
set_option linter.defProp false
set_option synthInstance.maxSize 8192
set_option synthInstance.maxHeartbeats 2000000
variable{W0:World}{R:List HP}
variable {tx:Bool}{c:Cfg}{N:FSz}{at_ page port r who:Int}{x y:It}{R1 R2:List HP}{L TL its its' l:List It}{D:List Nat}{pg:List Pl}{ps:List Prt}{rs:List Rn}{sp xs:List Value}{fr:List az}{d i j lo n now:Nat}{a:Option Addr}{e:bK}
section
open Go.RowKit
def bC(b:Nat)(x:List It×List Value):HP:=chk (λC=>∃a c,C=[pt b (ae (.slice a x.1.length c::x.2) 479),osl 548 6 (.slice a x.1.length c) (x.1.flatMap cq)])
section
variable{P:Program}{W0:World}{R A:List HP}{b:Nat}{its:List It}{tl:List Value}{f:FuncId}{args:List Value}{Post:Value->List HP->Prop}
theorem Ce(h:∀a c,bE P W0 f args (pt b (ae (.slice a its.length c::tl) 479)::osl 548 6 (.slice a its.length c) (its.flatMap cq)::R) Post):bE P W0 f args (bC b (its,tl)::R) Post:=
  uP λC hC=>qr
theorem wF{c:Nat}{B:List HP}[d:Tk pt b A (ae (.slice a n c::tl) 479) R1][e:Tk (osl 548 6) (.slice a n c) R1 (its.flatMap cq) R2](f:n=its.length)[k:Ent R2 B]:Ent A (bC b (its,tl)::B):=by subst f;exact gk
theorem LK(j:its≠[])(h:∀g c d,its.length≤c->c≤maxLen->(its.flatMap cq++d).length=c*6->bE P W0 f args (pt b (ae (.slice (some ⟨g,0,none⟩) its.length c::tl) 479)::pt g (ae (its.flatMap cq++d) 548)::R) Post):bE P W0 f args (bC b (its,tl)::R) Post:=
  Ce λa c=>eR (List.Perm.swap _ _ _) (Ds (λi e=>by
      have:=dy km its;rw[e]at this
      exact absurd (QaF mv) j)
    (λg n k d i e l o m=>by
      cases i
      exact eR (List.Perm.swap _ _ _) (h g _ d e l m)))
theorem Hr{N K e}[hk:Tk bC b A (its,tl) R](h:∀a c,aC W0 N K e (pt b (ae (.slice a its.length c::tl) 479)::osl 548 6 (.slice a its.length c) (its.flatMap cq)::R)):aC W0 N K e A:=
  ix (r:=bC) (b:=b) (oz λC hC=>qr)
theorem LL{N K e}[o:Tk bC b A (its,tl) R](j:its≠[])(h:∀g c d,its.length≤c->c≤maxLen->(its.flatMap cq++d).length=c*6->aC W0 N K e (pt b (ae (.slice (some ⟨g,0,none⟩) its.length c::tl) 479)::pt g (ae (its.flatMap cq++d) 548)::R)):aC W0 N K e A:=
  Hr (b:=b) λa c=>uF (List.Perm.swap _ _ _) (qf (λi f=>by
      have:=dy km its;rw[f]at this
      exact absurd (QaF mv) j)
    (λg n k d i f l p m=>by
      cases i
      exact uF (List.Perm.swap _ _ _) (h g _ d f l m)))
theorem SQ[h:Tk bC b A (its,tl) R]:bF (aQ W0 A) b 1 tl:=λi v j w (e:Own W0 w A)=>by
 obtain⟨C,⟨a,c,rfl⟩,d⟩:=(e.tk (r:=bC) (b:=b)).chk;have f:Own W0 w (pt b (ae (.slice a its.length c::tl) 479)::(osl 548 6 (.slice a its.length c) (its.flatMap cq)::R)):=d;have g:lF (aQ W0 (pt b (ae (.slice a its.length c::tl) 479)::(osl 548 6 (.slice a its.length c) (its.flatMap cq)::R))) b (1+i) v:=aO mv;exact g w f
theorem y5{g c:Nat}{B:List HP}[a:Tk pt b A (ae (.slice (some ⟨g,0,none⟩) n c::tl) 479) R1][l:Tk pt g R1 (ae (xs++sp) 548) R2](d:xs=its.flatMap cq)(f:n=its.length)(h:n≤c)(i:c≤maxLen)(j:(xs++sp).length=c*6)[k:Ent R2 B]:Ent A (bC b (its,tl)::B):=by subst f;subst d;have e:Ent R1 (osl 548 6 (.slice (some ⟨g,0,none⟩) its.length c) (its.flatMap cq)::B):=jG h i (dy km its) j;exact(Ent.ofPerm a.perm).trans ((Ent.cons e).trans (fT (R:=B) (C:=[_,_]) ⟨_,c,Z⟩))
theorem SR{K:Act->World->Prop}{g c:Nat}[j:Tk pt b A (ae (.slice (some ⟨g,0,none⟩) n c::tl) 479) R1][l:Tk pt g R1 (ae (xs++sp) 548) R2](a:xs=its.flatMap cq)(d:n=its.length)(f:n≤c)(h:c≤maxLen)(i:(xs++sp).length=c*6)
    (k:aC W0 N K e (bC b (its,tl)::R2)):aC W0 N K e A:=gK (y5 (b:=b) a d f h i) k
end
theorem EA(a:List It)sp i j(b:i<a.length)(c:j<6):(a.flatMap cq++sp)[i*6+j]?=(cq (a.getD i default))[j]?:=by rw[tE km a i j sp b c];simp[List.getD,b]
theorem nX(a:List It)sp i(b:i<a.length):((a.flatMap cq++sp).drop (i*6)).take 6=cq (a.getD i default):=by rw[uM km a i sp b];simp[List.getD,b]
theorem vo(a:List It)sp i x(b:i<a.length):ee (a.flatMap cq++sp) (i*6) (cq x)=(a.set i x).flatMap cq++sp:=zj km a i x sp b
theorem b1s(a:List It)sp i(b:i<a.length):((a.flatMap cq++sp).drop (i*6+2)).take 3=[iQ (a.getD i default).ep,iQ (a.getD i default).ef,iQ (a.getD i default).er]:=by have:=Qak (λl=>(l.drop 2).take 3) (nX a sp i b);simp only[List.drop_take,List.take_take,QcZ]at this;exact this
theorem b1t(a:List It)sp i u(b:i<a.length):(a.flatMap cq++sp).set (i*6+5) (iQ u)=(a.set i { a.getD i default with u:=u }).flatMap cq++sp:=
  vT km a i 5 _ _ sp b cl (by simp[List.getD,b,cq])
theorem ue(a:List It)sp i(b:i<a.length):i*6+6≤(a.flatMap cq++sp).length:=by rw[Qaf,dy km];omega
theorem Cf(h:i<its.length):its≠[]:=λe=>by rw[e]at h;simp at h
theorem y8 b its tl:sQ W0 410 [pQ b] (bC b (its,tl)::R) (iQ its.length) (bC b (its,tl)::R):=by refine Ce λa c=>?_;refine am func410 ntmps410 ?_;exact ag ⟨_,⟨Z,Z⟩,wF Z⟩
theorem EB b its tl(i k:Nat)(d:i<its.length)(e:k<its.length):sQ W0 555 [pQ b,iQ i,iQ k] (bC b (its,tl)::R) (.bool (decide (us its i<us its k))) (bC b (its,tl)::R):=by refine LK (Cf d) λg c f h j l=>?_;refine am func555 ntmps555 ?_;refine bH [b,g] 18 λa=>?_;refine aj 0 5 a ?_;refine aE 5 a (cu d) ?_;refine aj 6 1 a ?_;refine aE 7 a (aY (d6 (k:=1) Z ((EA its f i 5 d cl).trans Z))) ?_;refine aj 8 5 a ?_;refine aE 13 a (cu e) ?_;refine aj 14 1 a ?_;refine aE 15 a (aY (d6 (k:=1) Z ((EA its f k 5 e cl).trans Z))) ?_;refine aj 16 2 a ?_;exact aS (ag ⟨_,⟨Z,Z⟩,y5 Z Z h j l⟩)
theorem EC b its tl(i k:Nat)(e:i<its.length)(f:k<its.length):sQ W0 558 [pQ b,iQ i,iQ k] (bC b (its,tl)::R) (.tuple #[]) (bC b (swapL its i k,tl)::R):=by refine LK (Cf e) λg c d l h j=>?_;refine am func558 ntmps558 ?_;refine bH [b] 28 λa=>?_;refine aj 0 15 a ?_;refine aE 15 a (cu f) ?_;refine aj 17 5 a ?_;refine aE 22 a (cu e) ?_;refine fp (is:=[16,23]) ld Z ⟨?_,?_,trivial⟩;refine dB (dJ (cV (cT (nX its d k f) Z))) ?_;clear a;rintro _ _ ⟨rfl,rfl⟩;refine⟨aW,λa=>?_⟩;refine bQ 23 (dJ (cV (cT (nX its d i e) Z))) λa=>?_;refine aE 24 a (cu e) ?_;refine cp 25 (kh (ue its d i e) (vo its d i (its.getD k default) e)) λa=>?_;refine aE 26 a (cu f) ?_;refine cp 27 (kh (ue (its.set i (its.getD k default)) d k mv) (vo (its.set i (its.getD k default)) d k (its.getD i default) mv)) λa=>?_;refine aS (bP (.inr Z) .nil ?_);exact⟨_,⟨Z,Z⟩,y5 Z (by simp[swapL]) aq h (by simpa[swapL,dy km]using j)⟩;skip;refine dB (dJ (cV (cT (nX its d i e) Z))) ?_;clear a;rintro _ _ ⟨rfl,rfl⟩;refine⟨aW,λa=>?_⟩;refine bQ 16 (dJ (cV (cT (nX its d k f) Z))) λa=>?_;refine aE 24 a (cu e) ?_;refine cp 25 (kh (ue its d i e) (vo its d i (its.getD k default) e)) λa=>?_;refine aE 26 a (cu f) ?_;refine cp 27 (kh (ue (its.set i (its.getD k default)) d k mv) (vo (its.set i (its.getD k default)) d k (its.getD i default) mv)) λa=>?_;refine aS (bP (.inr Z) .nil ?_);exact⟨_,⟨Z,Z⟩,y5 Z (by simp[swapL]) aq h (by simpa[swapL,dy km]using j)⟩
theorem Hs b its x tl:sQ W0 556 [pQ b] (bC b (its++[x],tl)::R) (.iface 548 (.agg (cq x).toArray)) (bC b (its,tl)::R):=by refine LK n4 λg c sp h1 h2 h3=>?_;have hl:(its++[x]).length=its.length+1:=n4;rw[hl]at h1 ⊢;have hg:(its++[x]).getD its.length default=x:=mv;have hr:=nX (its++[x]) sp its.length aq;rw[hg]at hr;have he:(its++[x]).flatMap cq++sp=its.flatMap cq++(cq x++sp):=n4;refine am func556 ntmps556 ?_;refine ac (mY Z Z (aai:IntKind.wrap .i64 (((its.length+1:Nat):Int)-1)=((its.length:Nat):Int))) ?_;refine ac (cu aq) ?_;refine ac (cV (cT hr Z)) ?_;refine bU λb1=>?_;refine aJ aR (ac (qd lE gD Z Z Z aq) ?_);refine eM (iG Xq Z Z Z (Qaa Z) SetL.eq) ?_;rintro _ _ rfl;refine aI (aA (aG (aM (aa Z (q9 pX gD Z Z) ?_))));refine aa Z (Dr yS (λ_ h=>n8) Z) ?_;refine aa Z (aU Z) (aI (aA (dX (bP (.inl Z) (.cons (bA Z) .nil) ?_))));rw[he];exact⟨_,⟨Z,Z⟩,y5 (sp:=cq x++sp) Z Z (by omega) h2 (by rw[<-he];exact h3)⟩
theorem b1u b its x tl(j:its.length<1000):sQ W0 557 [pQ b,.iface 548 (.agg (cq x).toArray)] (bC b (its,tl)::R) (.tuple #[]) (bC b (its++[x],tl)::R):=by refine Ce λa c=>?_;have e:its.flatMap cq++[cq x].flatten=(its++[x]).flatMap cq:=n4;refine iW func557 ntmps557 Z Z ?_;refine bH [] 12 λd=>?_;refine aj 0 4 d ?_;refine aj 5 1 d ?_;refine aE 6 d (uN yS (λ_ h=>n8) Z) ?_;refine fp (is:=[4,7]) ld Z ⟨?_,?_,trivial⟩;refine dB (dJ (aY (aO Z))) ?_;clear d;rintro _ _ ⟨rfl,rfl⟩;refine⟨aW,λd=>?_⟩;refine iw 7 ld Z Z (ji lE gD xl Z (fK Z Z iH) Z cl cl cl) Z ?_;clear d;rintro _ _ ⟨f,rfl,rfl⟩;refine⟨aW,λd=>?_⟩;refine co 8 (fR (sz:=6) (by_:=48) (info:=Tryz.t548) lE ld Z Z Z Z cl Z Z eQ Z Z n5 aq) ?_;clear d;rintro _ _ ⟨g,i,rfl,rfl⟩;refine⟨aW,λd=>?_⟩;refine aj 9 2 d ?_;refine cp 11 dr λd=>?_;refine eY (bP (.inr Z) .nil ?_);rw[e];exact⟨_,⟨Z,Z⟩,wF (its:=its++[x]) n4⟩;skip;refine lH Z Z (ji lE gD xl Z (fK Z Z iH) Z cl cl cl) Z ?_;clear d;rintro _ _ ⟨f,rfl,rfl⟩;refine⟨aW,λd=>?_⟩;refine bQ 4 (dJ (aY (aO Z))) λd=>?_;refine co 8 (fR (sz:=6) (by_:=48) (info:=Tryz.t548) lE ld Z Z Z Z cl Z Z eQ Z Z n5 aq) ?_;clear d;rintro _ _ ⟨g,i,rfl,rfl⟩;refine⟨aW,λd=>?_⟩;refine aj 9 2 d ?_;refine cp 11 dr λd=>?_;refine aS (bP (.inr Z) .nil ?_);rw[e];exact⟨_,⟨Z,Z⟩,wF (its:=its++[x]) n4⟩
section
variable(w:World)(a:Addr)
theorem ED:(method (Tryz.prog.types.size+Made.depth) 549 (.pointer (some a)) "Len").run Tryz.prog w=.ok (410,.pointer (some a)) w:=ld
theorem EE:(method (Tryz.prog.types.size+Made.depth) 549 (.pointer (some a)) "Less").run Tryz.prog w=.ok (555,.pointer (some a)) w:=ld
theorem EF:(method (Tryz.prog.types.size+Made.depth) 549 (.pointer (some a)) "Swap").run Tryz.prog w=.ok (558,.pointer (some a)) w:=ld
theorem b1v:(method (Tryz.prog.types.size+Made.depth) 549 (.pointer (some a)) "Push").run Tryz.prog w=.ok (557,.pointer (some a)) w:=ld
theorem Ht:(method (Tryz.prog.types.size+Made.depth) 549 (.pointer (some a)) "Pop").run Tryz.prog w=.ok (556,.pointer (some a)) w:=ld
end
def qB(b:Nat):Value:=.iface 549 (.pointer (some ⟨b,0,none⟩))
theorem KS(h:j<1000):IntKind.wrap .i64 (Int.tdiv (j-1) 2)=((j-1)/2:Nat):=by grind[Int.tdiv_eq_ediv_of_nonneg,bS]
theorem E8{l a:List It}{i j n}(c:i<n)(d:j<n)(e:n≤l.length)(h:∀x,n≤x->l.getD x default=a.getD x default):∀x,n≤x->(swapL l i j).getD x default=a.getD x default:=λx b=>by
 rw[wd aq aq,Qab aq,Qab aq];exact h x b
theorem BN W0 R b its tl j n(k:n≤its.length)(m:n<1000)(g:j<n)(c:Up its j n):sP W0 94 [qB b,iQ j] (bC b (its,tl)::R) (λv B=>v=.tuple #[]/\∃a,B=bC b (a,tl)::R/\a.Perm its/\Heap a n/\∀x,n≤x->a.getD x default=its.getD x default):=by refine am func94 ntmps94 ?_;refine eC (λX:List It×Nat=>X.1.Perm its/\X.2<n/\Up X.1 X.2 n/\∀x,n≤x->X.1.getD x default=its.getD x default) (λX=>[(0,qB b),(1,iQ X.2)]) (λX=>bC b (X.1,tl)::R) (λX=>X.2) (its,j) ?_ ?_;grind;intro ⟨l,j⟩ ⟨d,g,c,h⟩;have e:=d.length_eq;simp only at g c h d e ⊢;refine aw (ac jt (ac (qT Z Z cl (KS aq)) ?_));apply fC<;>intro f;refine bP (.inr Z) .nil ?_;exact⟨_,⟨Z,l,Z,d,E5 c aq,h⟩,IO⟩;refine ao (gQ Z ((λw=>EE w _)) Jy Z (EB b l tl j ((j-1)/2) aq aq)) ?_;apply aB Z<;>intro i;refine au 5 (bP (.inr Z) .nil ?_);exact⟨_,⟨Z,l,Z,d,E5 c aq,h⟩,IO⟩;replace i:us l j<us l ((j-1)/2):=aq;refine aw (ao (gQ Z ((λw=>EF w _)) Jz Z (EC b l tl ((j-1)/2) j aq aq)) ?_);exact d8 (swapL l ((j-1)/2) j,(j-1)/2) (⟨(nQ aq aq).trans d,by show(j-1)/2<n;omega,KI c aq g aq i,E8 aq g aq h⟩)
theorem BO W0 R b its tl i0 n(H:n≤its.length)(I:n<1000)(J:i0≤n)(K:lm its i0 n):sP W0 187 [qB b,iQ i0,iQ n] (bC b (its,tl)::R) (λv B=>∃l m,v=.bool m/\B=bC b (l,tl)::R/\Down its l i0 n m):=by
 refine am Y0 ntmps187 ?_;refine eC (λX:List It×Nat=>X.1.Perm its/\i0≤X.2/\lm X.1 X.2 n/\(∀x,n≤x->X.1.getD x default=its.getD x default)/\(X.2=i0->X.1=its)/\(i0<X.2->us X.1 ((X.2-1)/2)≤us X.1 X.2)/\X.2≤n) (λX=>[(0,qB b),(1,iQ i0),(2,iQ n),(7,iQ X.2)]) (λX=>bC b (X.1,tl)::R) (λX=>n-X.2) (its,i0) ?_ ?_;grind;intro ⟨l,i⟩ ⟨k,g,s,t,u,y,A⟩;have o:=k.length_eq;simp only at k g s t u y A o ⊢;refine aw (ac zm (ac (eX (2*i+1)) ?_));apply fC<;>intro p;refine ag ?_;refine⟨_,⟨l,decide (i0<i),abh,Z,E7 k g s t u y ?_⟩,IO⟩
 first|(intro c d e f;exfalso;omega)|(intro c d e f;have:=a c d e f;simp at h;omega)
 apply aB Z<;>intro E;omega;refine au 8 (fA (λj:Nat=>(j-1)/2=i/\0<j/\j<n/\∀c,c<n->0<c->(c-1)/2=i->us l j≤us l c) (λj=>[(0,qB b),(1,iQ i0),(2,iQ n),(7,iQ i),(9,iQ j)]) (λj=>bC b (l,tl)::R) ?_ ?_);refine au 3 (ac (eX (2*i+2)) ?_);apply e9<;>intro q;refine ao (gQ Z ((λw=>EE w _)) Jy Z (EB b l tl (2*i+2) (2*i+1) aq aq)) ?_;apply ap<;>intro F;refine cZ (2*i+2) ?_;refine⟨aq,aq,aq,λc d e f=>?_⟩;have:c=2*i+1\/c=2*i+2:=aq;exact u0;refine cZ (2*i+1) ?_;refine⟨aq,aq,aq,λc d e f=>?_⟩;have:c=2*i+1\/c=2*i+2:=aq;exact u0;refine cZ (2*i+1) ?_;refine⟨aq,aq,aq,λc d e f=>?_⟩;have:c=2*i+1\/c=2*i+2:=aq;exact u0;intro j ⟨G,C,r,a⟩;refine aw (ao (gQ Z ((λw=>EE w _)) Jy Z (EB b l tl j i aq aq)) ?_);apply aB Z<;>intro h;refine au 15 (ag ⟨_,⟨l,decide (i0<i),abh,Z,E7 k g s t u y ?_⟩,IO⟩)
 first|(intro c d e f;exfalso;omega)|(intro c d e f;have:=a c d e f;simp at h;omega)
 replace h:us l j<us l i:=by simpa using h
 refine aw (ao (gQ Z ((λw=>EF w _)) Jz Z (EC b l tl i j aq aq)) ?_);refine d8 (swapL l i j,j) ?_ (hμ:=?_);have D:=KH s aq r G C h a;exact⟨(nQ aq aq).trans k,by show i0≤j;omega,D.1,E8 aq r aq t,by show j=i0->_;omega,λ_=>D.2,by show j≤n;omega⟩;show n-j<n-i;omega
theorem SS b its tl i(e:its.length<1000)(g:i<its.length)(f:lm its i its.length):sP W0 409 [qB b,iQ i] (bC b (its,tl)::R) (λv B=>v=.tuple #[]/\∃a,B=bC b (a,tl)::R/\a.Perm its/\Heap a its.length):=by refine am func409 ntmps409 ?_;refine ao (gQ Z ((λw=>ED w _)) B9 Z (y8 b its tl)) ?_;refine aF Z (ar FZ (BO W0 _ b its tl i its.length (Qai _) e aq f)) ?_;rintro _ _ ⟨l,m,rfl,rfl,d⟩;refine aw (ap (λh=>?_) λh=>?_);have j:m=false:=mv;obtain⟨rfl,c⟩:=d.no j;refine aF Z (ar Jt (BN W0 _ b l tl i l.length (Qai _) e g (GY f c))) ?_;rintro _ _ ⟨rfl,k,rfl,n,o,_⟩;refine aw (bP (.inr Z) .nil ?_);exact⟨_,⟨Z,k,Z,n,o⟩,IO⟩;refine bP (.inr Z) .nil ?_;exact⟨_,⟨Z,l,Z,d.perm,d.yes mv⟩,IO⟩
theorem KT{its x}(h:Heap its its.length):Up (its++[x]) its.length (its.length+1):=by
 have e:∀c,c<its.length->us (its++[x]) c=us its c:=λc a=>by
  unfold us;simp only[Qao];rw[QaO a]
 intro c a b;refine⟨λd=>?_,λd f=>aq⟩;rw[e c aq,e _ aq];exact h c aq b
theorem heapPush_spec b its x tl(h:its.length<900)(e:Heap its its.length):sP W0 50 [qB b,.iface 548 (.agg (cq x).toArray)] (bC b (its,tl)::R) (λv B=>v=.tuple #[]/\∃a,B=bC b (a,tl)::R/\a.Perm (its++[x])/\Heap a a.length):=by have f:(its++[x]).length=its.length+1:=n4;refine am func50 ntmps50 ?_;refine ao (gQ Z ((λw=>b1v w _)) call557 Z (b1u b its x tl aq)) ?_;refine ao (gQ Z ((λw=>ED w _)) B9 Z (y8 b (its++[x]) tl)) ?_;refine ac (mt its.length) ?_;refine aF Z (ar Jt (BN W0 _ b (its++[x]) tl its.length (its.length+1) aq aq aq (KT e))) ?_;rintro _ _ ⟨rfl,g,rfl,d,c,_⟩;refine aw (bP (.inr Z) .nil ?_);exact⟨_,⟨Z,g,Z,d,by rw[d.length_eq,f];exact c⟩,IO⟩
theorem Eb(h:l.length=n+1):∃b x,l=b++[x]/\b.length=n/\x=l.getD n default:=by
 have a:l≠[]:=λe=>by rw[e]at h;simp at h
 refine⟨l.dropLast,l.getLast a,(List.dropLast_concat_getLast a).symm,by simp[h],?_⟩;rw[List.getLast_eq_getElem];simp[List.getD,h]
theorem Ec{l x n}(h:Heap (l++[x]) n)(a:n≤l.length):Heap l n:=
  KL (λi b=>by simp only[Qao];rw[QaO aq]) h
theorem heapPop_spec b its tl(G:its.length<900)(i:its≠[])(p:Heap its its.length):sP W0 117 [qB b] (bC b (its,tl)::R) (λv B=>∃x a,v=.iface 548 (.agg (cq x).toArray)/\B=bC b (a,tl)::R/\(a++[x]).Perm its/\Heap a a.length/\∀y∈its,x.u≤y.u):=by
 obtain⟨n,H⟩:∃n,its.length=n+1:=⟨its.length-1,by have:=Qcy.2 i;omega⟩
 have q:lm (swapL its 0 n) 0 n:=λc j i=>⟨λr s=>by
  rw[mD aq aq,mD aq aq,Qab s,Qab r,Qab aq,Qab aq]
  exact p c aq i,λ_ h=>aq⟩
 have t:=E2 its 0 n;refine am func117 ntmps117 ?_;refine ao (gQ Z ((λw=>ED w _)) B9 Z (y8 b its tl)) ?_;refine ac (mt n) ?_;refine ao (gQ Z ((λw=>EF w _)) Jz Z (EC b its tl 0 n aq aq)) ?_;refine aF Z (ar FZ (BO W0 _ b (swapL its 0 n) tl 0 n aq aq aq q)) ?_;rintro _ _ ⟨l,m,rfl,rfl,d⟩;have A:=d.perm.length_eq;obtain⟨g,x,rfl,k,C⟩:=Eb (l:=l) (n:=n) aq;have o:x=its.getD 0 default:=by
  rw[C,d.tail n (Qai _),wd aq aq];split
  rename_i e;subst e;rfl
  rw[Qad Z]
 have D:(g++[x]).Perm its:=d.perm.trans (nQ aq aq);have E:Heap (g++[x]) n:=by
  cases m with
  |true=>exact d.yes Z
  |false=>
   obtain⟨e,f⟩:=d.no Z;rw[e];exact E4 q f (λh=>absurd h aq)
 refine aw (ao (gQ Z ((λw=>Ht w _)) OI Z (Hs b g x tl)) ?_);refine ag ?_;refine⟨_,⟨x,g,Z,Z,D,by rw[k];exact Ec E (by omega),λy F=>?_⟩,IO⟩;obtain⟨c,j,rfl⟩:=Qbi.1 F;have:=heap_min p c j;rw[us_eq j]at this;rw[o];exact this
theorem heapRemove_spec b a tl(i:Nat)(N:a.length<900)(O:i<a.length)(u:Heap a a.length):sP W0 334 [qB b,iQ i] (bC b (a,tl)::R) (λv B=>∃e,v=.iface 548 (.agg (cq (a.getD i default)).toArray)/\B=bC b (e,tl)::R/\(e++[a.getD i default]).Perm a/\Heap e e.length):=by
 obtain⟨n,P⟩:∃n,a.length=n+1:=⟨a.length-1,by omega⟩
 have F:i≠n->lm (swapL a i n) i n:=λg c Q G=>⟨λy A=>by
  rw[mD (by omega) (by omega),mD (by omega) (by omega),Qab A,Qab y,Qab (by omega),Qab (by omega)];exact u c (by omega) G,λy A=>by
  rw[mD (by omega) (by omega),mD (by omega) (by omega),Qab (by omega),Qab (by omega),Qab (by omega),Qab (by omega)];have I:=u c (by omega) G;have S:=u i (by omega) A
  rw[y]at I;omega⟩
 have J:=E2 a i n;have q:∀l:List It,l.Perm a->Heap l n->l.getD n default=a.getD i default->∃d,l=d++[a.getD i default]/\d.length=n/\Heap d d.length:=λl f o H=>by
  have:=f.length_eq;obtain⟨d,x,rfl,k,s⟩:=Eb (l:=l) (n:=n) (by omega);rw[H]at s;subst s;exact⟨d,Z,k,by rw[k];exact Ec o (by omega)⟩
 have p:i≠n->(swapL a i n).getD n default=a.getD i default:=λh=>by
  rw[wd (by omega) (by omega),Qab (by omega),Qad Z]
 refine am func334 ntmps334 ?_;refine ao (gQ Z ((λw=>ED w _)) B9 Z (y8 b a tl)) ?_;refine ac (mt n) ?_;apply ap<;>intro K;have g:i≠n:=by omega
 refine ao (gQ Z ((λw=>EF w _)) Jz Z (EC b a tl i n (by omega) (by omega))) ?_;refine aF Z (ar FZ (BO W0 _ b (swapL a i n) tl i n (by omega) (by omega) (by omega) (F g))) ?_;rintro _ _ ⟨l,m,rfl,rfl,r⟩;have L:=r.perm.length_eq;refine aw (ap (λC=>?_) λC=>?_);have D:m=false:=by simpa using C
 obtain⟨rfl,t⟩:=r.no D;refine aF Z (ar Jt (BN W0 _ b (swapL a i n) tl i n (by omega) (by omega) (by omega) (GY (F g) t))) ?_;rintro _ _ ⟨rfl,l,rfl,f,o,M⟩;obtain⟨d,rfl,k,o⟩:=q l (f.trans (nQ (by omega) (by omega))) o ((M n (Qai _)).trans (p g));replace f:=f.trans (nQ (by omega) (by omega));generalize a.getD i default=x at f ⊢;refine aw (ao (gQ Z ((λw=>Ht w _)) OI Z (Hs b d x tl)) ?_);exact u2;have D:m=true:=by simpa using C
 obtain⟨d,rfl,k,o⟩:=q l (r.perm.trans (nQ (by omega) (by omega))) (r.yes D) ((r.tail n (Qai _)).trans (p g));have f:=r.perm.trans (nQ (l:=a) (i:=i) (j:=n) (by omega) (by omega));generalize a.getD i default=x at f ⊢;refine ao (gQ Z ((λw=>Ht w _)) OI Z (Hs b d x tl)) ?_;exact u2;obtain rfl:n=i:=by omega
 obtain⟨d,E,k,o⟩:=q a (QaS _) (KM u (by omega)) Z;have f:(d++[a.getD n default]).Perm a:=by rw[<-E]
 generalize H:a.getD n default=x at E f ⊢;rw[E];refine ao (gQ Z ((λw=>Ht w _)) OI Z (Hs b d x tl)) ?_;exact u2
@[reducible] def jo(k:Int×Int):List Value:=[.int .i64 k.1,.int .i64 k.2]
@[reducible] def pL(e:Int×Int×Int):List Value:=[.int .i64 e.1,.int .i64 e.2.1,.int .i64 e.2.2]
theorem b1w x bk k:sQ W0 444 [.agg (cq x).toArray,pQ bk] (pt bk (ae (jo k) 504)::R) (.bool (decide (x.key=k))) (pt bk (ae (jo k) 504)::R):=by refine am func444 ntmps444 ?_;refine bR λa=>?_;refine aa Z (cV (cT (vs:=[iQ x.kr,iQ x.kp]) Z Z)) ?_;refine aa Z (cV (cT (vs:=[iQ k.1,iQ k.2]) Z Z)) ?_;refine ac (zb Tryz.eqGuardType504 Z Z (za Jl Tryz.stoodInHeld504 (oy Z cM Z Z (ov ez) (oy Z cM Z Z (ov ez) z9)))) ?_;refine ag (aP ?_);simp[bY,It.key,Prod.ext_iff];rw[Qah];simp
def SU(its:List It)(k:Int×Int)(r:Int):Prop:=(r= -1/\∀x∈its,x.key≠k)\/∃i:Nat,r=(i:Int)/\i<its.length/\(its.getD i default).key=k
theorem b1x{k}(h:∀i,i<its.length->(its.getD i default).key≠k):∀x∈its,x.key≠k:=λx b=>by
 obtain⟨c,a,rfl⟩:=Qbi.1 b;have:=h c a;simpa[List.getD,a]using this
theorem b1y its a c bk k(u:its.length<1000):sP W0 443 [.slice a its.length c,.func (.func 444) #[] #[pQ bk]] (osl 548 6 (.slice a its.length c) (its.flatMap cq)::pt bk (ae (jo k) 504)::R) (λv B=>∃r,v=iQ r/\B=osl 548 6 (.slice a its.length c) (its.flatMap cq)::pt bk (ae (jo k) 504)::R/\SU its k r):=by refine Ds (λb d=>?_) λg n q l b d m o p=>?_;have s:its.length=0:=mv;obtain rfl:its=[]:=QaF s;cases b;refine am OJ ntmps443 ?_;refine eC (λX:Nat=>True) (λX=>[(7,iQ 0),(8,iQ X)]) (λX=>pt bk (ae (jo k) 504)::R) (λX=>X) 0 ?_ ?_;trivial;intro j t;refine aw (aB Z (λe=>?_) λe=>?_);omega;exact aw (ag ⟨_,⟨-1,Z,Z,.inl ⟨Z,n4⟩⟩,eW⟩);cases b;refine am OJ ntmps443 ?_;refine eC (λX:Nat=>X≤its.length/\∀i,i<X->(its.getD i default).key≠k) (λX=>[(0,.slice (some ⟨g,0,none⟩) its.length c),(1,.func (.func 444) #[] #[pQ bk]),(7,iQ (its.length:Nat)),(8,iQ X)]) (λX=>pt g (ae (its.flatMap cq++l) 548)::pt bk (ae (jo k) 504)::R) (λX=>its.length-X) 0 ?_ ?_;grind;intro j ⟨t,f⟩;refine aw (ap (λe=>?_) λe=>?_);refine ac (cu aq) ?_;refine ac (cV (cT (nX its l j aq) Z)) ?_;refine ao (sq Z call444 Z (b1w (its.getD j default) bk k)) ?_;apply aB Z<;>intro h;replace h:(its.getD j default).key=k:=aq;exact aw (ag ⟨_,⟨_,Z,Z,.inr ⟨j,Z,aq,h⟩⟩,jG d m o p⟩);refine aw (ac cK (d8 (j+1) ?_));grind;exact ag ⟨_,⟨-1,Z,Z,.inl ⟨Z,b1x λi w=>f i aq⟩⟩,jG d m o p⟩
theorem Cg b its rm nw:sQ W0 406 [pQ b] (bC b (its,[rm,nw,.bool true])::R) (.bool false) (bC b (its,[rm,nw,.bool true])::R):=by refine Ce λa c=>?_;refine am func406 ntmps406 ?_;apply d7 Z Z Z<;>intro d;cases d;exact aw (ag ⟨_,⟨abh,Z⟩,wF Z⟩)
theorem SV b v0 rm(a:Nat)(c:a<1000000):sQ W0 408 [pQ b] (pt b (ae [v0,rm,iQ a,.bool true] 479)::R) (iQ (a+1:Nat)) (pt b (ae [v0,rm,iQ (a+1:Nat),.bool true] 479)::R):=by refine am func408 ntmps408 ?_;refine ac (eX (a+1)) ?_;exact aJ dr (ag ax)
theorem SX b its rm(d:Nat)(e:d<1000000):sQ W0 408 [pQ b] (bC b (its,[rm,iQ d,.bool true])::R) (iQ (d+1:Nat)) (bC b (its,[rm,iQ (d+1:Nat),.bool true])::R):=by refine Ce λa c=>cF (SV b _ rm d e) ?_;rintro _ _ ⟨rfl,rfl⟩;exact⟨_,⟨Z,Z⟩,wF Z⟩
theorem LM b its tl k(d:its.length<1000):sP W0 407 [pQ b,.agg (jo k).toArray] (bC b (its,tl)::R) (λv B=>∃r,v=iQ r/\B=bC b (its,tl)::R/\SU its k r):=by refine Ce λa c=>?_;refine am func407 ntmps407 ?_;refine bR λe=>?_;refine aF Z (dj call443 (b1y its a c e k d)) ?_;rintro _ _ ⟨r,rfl,rfl,f⟩;exact aw (ag ⟨_,⟨r,Z,Z,f⟩,wF Z⟩)
theorem b1z(a:Nat)(h:a≤4):sP W0 272 [iQ a] R (λv B=>∃b,v=.tuple #[pQ b,iQ 0]/\B=bC b ([],[iQ a,iQ 0,.bool true])::R):=by refine am func272 ntmps272 ?_;apply d7 Z Z Z<;>intro c;omega;refine aw (aB Z (λd=>?_) λd=>?_);omega;refine aw ?_;refine bR λe=>?_;exact aZ ⟨_,⟨e,Z,Z⟩,(Ent.cons (eW (B:=R))).trans (fT (R:=R) (C:=[_,_]) ⟨none,0,Z⟩)⟩
abbrev Ch(pv bt bs:Nat):Obj:=ae [.pointer (some ⟨pv,0,none⟩),.pointer (some ⟨bt,0,none⟩),.pointer (some ⟨bs,0,none⟩)] 369
theorem b1A:sP W0 273 [] R (λv B=>∃b,v=pQ b/\B=pt b (ae [iA,.bool true] 482)::R):=by refine am func273 ntmps273 ?_;refine bR λa=>?_;exact s6
theorem b1B(c h i d a:Nat)(l:a≤4):sP W0 178 [pQ c,iQ a] (pt c (cg h i d)::R) (λv B=>∃e f g,v=.tuple #[pQ e,iQ 0]/\B=pt e (Ch c f g)::bC f ([],[iQ a,iQ 0,.bool true])::pt g (ae [iA,.bool true] 482)::pt c (cg h i d)::R):=by refine am func178 ntmps178 ?_;refine ao (ar Ba (xR c h i d)) ?_;apply ap<;>intro j;exact absurd j n4;refine aF Z (aK call272 (b1z a l)) ?_;rintro _ m ⟨f,rfl,b⟩;subst b;refine aw (ap (λk=>?_) λk=>?_);exact absurd Z k;refine aF Z (aK call273 (b1A)) ?_;rintro _ m ⟨g,rfl,b⟩;subst b;refine aw ?_;refine bR λe=>?_;exact aZ ⟨_,⟨e,f,g,Z,Z⟩,IO⟩
abbrev pV(b:Nat):Value:=.pointer (some ⟨b,0,none⟩)
structure Bd where
  r : Nat
  c : Nat
  m : Nat
  v : Nat
  t : Nat
@[reducible] def A8(x:Bd)(qs:List Nat):List Value:=[pV x.r,pV x.c,pV x.m]++(qs.map pV++List.replicate (3-qs.length) (.pointer none))++[pV x.v,pV x.t,.bool false,.int .u32 0,.int .u32 0,.int .u32 0,.int .u32 0]
theorem b1C{x q}:∀{c:List Nat},c.length<3->(A8 x c).set (3+c.length*1) (pV q)=A8 x (c++[q])
 |[],_=>Z
 |[a],_=>Z
 |[a,b],_=>Z
abbrev wG(x:Bd)(i bt bs pv:Nat)(T:List HP):List HP:=pt x.r (eJ (List.replicate 16 0) 0)::pt x.c (SO i)::pt x.m (Ch pv bt bs)::bC bt ([],[.int .i64 ((4:Nat):Int),.int .i64 0,.bool true])::pt bs (ae [iA,.bool true] 482)::pt x.v A6::pt x.t A7::T
theorem b1D{l x R}:Ent (x::kH 6 (bB l)::R) (kH 6 (bB (l++[x]))::R):=
  (Ent.cons (kd (A:=l) (R:=R))).trans ((Ent.ofPerm (by
    show(x::(l++R)).Perm ((l++[x])++R);rw[QaM]
    exact(List.perm_middle).symm)).trans ke)
@[reducible] def Hu(x:Bd)(q0 q1 q2:Nat):List Value:=[pV x.r,pV x.c,pV x.m,pV q0,pV q1,pV q2,pV x.v,pV x.t,.bool false,.int .u32 0,.int .u32 0,.int .u32 0,.int .u32 0]
theorem LN(i g s t d:Nat)(E:i<4):sP W0 108 [iQ i,pV g] (pt g (cg s t d)::R) (λv B=>∃x u w j k l,v=.tuple #[.agg (Hu x j k l).toArray,iQ 0]/\B=wG x i u w g (kH 6 (bB [pt j (qO true dS),pt k (qO true dS),pt l (qO true dS)])::pt g (cg s t d)::R)):=by
 refine am func108 ntmps108 ?_;refine bU λC=>?_;refine aF Z (aK call177 (b1j i E)) ?_;rintro _ y ⟨m,rfl,e⟩;subst e;refine au 14 (et (aF Z (ar call178 (b1B g s t d 4 cl)) ?_));rintro _ y ⟨n,u,w,rfl,e⟩;subst e;refine au 14 (et (aF Z (aK call179 (b1g)) ?_));rintro _ y ⟨o,rfl,e⟩;subst e;refine aw (aF Z (aK call180 (b1k)) ?_);rintro _ y ⟨p,rfl,e⟩;subst e;refine aF Z (aK call181 (b1l)) ?_;rintro _ y ⟨r,rfl,e⟩;subst e;refine aw ?_;refine bU λD=>?_;refine aJ aR (fI (λf:List Nat=>f.length≤3) (λf=>[(4,pV C),(9,pV D),(35,iQ f.length)]) (λf=>pt D (ae (A8 ⟨o,m,n,p,r⟩ f) 92)::kH 6 (bB (f.map λq=>pt q (qO true dS)))::pt C (ae [.pointer none,.pointer none,.pointer none,.pointer none,.pointer none,.pointer none,.pointer none,.pointer none,.bool false,.int .u32 0,.int .u32 0,.int .u32 0,.int .u32 0] 92)::wG ⟨o,m,n,p,r⟩ i u w g (pt g (cg s t d)::R)) (λf=>3-f.length) [] ?_ ?_ ?_ ?_);grind
 · exact ai
 refine Ent.trans (B:=pt D (ae (A8 ⟨o,m,n,p,r⟩ []) 92)::pt C (ae [.pointer none,.pointer none,.pointer none,.pointer none,.pointer none,.pointer none,.pointer none,.pointer none,.bool false,.int .u32 0,.int .u32 0,.int .u32 0,.int .u32 0] 92)::wG ⟨o,m,n,p,r⟩ i u w g (pt g (cg s t d)::R)) ?_ ?_;rw[show A8 ⟨o,m,n,p,r⟩ []=[pV o,pV m,pV n,.pointer none,.pointer none,.pointer none,pV p,pV r,.bool false,.int .u32 0,.int .u32 0,.int .u32 0,.int .u32 0]from Z];exact IO;exact Ent.cons (ke (A:=[]));intro f G;refine aw (aB Z (λF=>?_) λF=>?_);refine au 10 ?_;have h:f.length<3:=aq;refine aw (aF Z (aK call182 (b0k)) ?_);rintro _ y ⟨q,rfl,e⟩;subst e;refine aa Z (bT Z c2l Z sizeOf87 Z dg) ?_;refine aa Z (iy h) ?_;refine eM (iG Xu Z Z Z mv (b1C h)) ?_;rintro _ _ rfl;refine aI (lY (aA (aM ?_)));refine aa Z (dI Z Z ph) ?_;refine aa Z (aV Z) (aI (aA ?_));refine nE (f++[q]) ?_ ?_ ?_ ?_;grind;grind
 · rw[show((f++[q]).length:Int)=((f.length:Nat):Int)+1 by simp]
   exact ai
 grind[QaN,Ent.cons,b1D];refine au 6 ?_;have h:f.length=3:=aq;obtain⟨j,k,l,rfl⟩:∃j k l,f=[j,k,l]:=by
  match f,h with
  |[a,b,c],_=>exact⟨a,b,c,Z⟩
 refine aM (aa Z (q9 Xf FL Z Z) ?_);refine eM (eN FL Z Z Z Z Z) ?_;rintro _ _ rfl;refine aa Z (aU Z) (aI (aA (dX (bJ (.cons (bX Xf FL Z Z) (.cons (bA Z) .nil)) ?_))));refine⟨_,⟨⟨o,m,n,p,r⟩,u,w,j,k,l,Z,Z⟩,?_⟩;rw[show[j,k,l].map (λq=>pt q (qO true dS))=[pt j (qO true dS),pt k (qO true dS),pt l (qO true dS)]from Z];exact IO
def j5(r:Int×Int)(i:Int):Int:=if i=r.1 then 3 else if i=r.2 then 1 else 0
theorem b1E r i:sQ W0 174 [.agg (fZ r).toArray,iQ i] R (iQ (j5 r i)) R:=by refine am func174 ntmps174 ?_;refine bR λc=>?_;apply ap<;>intro a;refine ag ?_;rw[j5,Qad aq];exact ax;apply ap<;>intro b;refine ag ?_;rw[j5,Qab aq,Qad aq];exact ax;refine ag ?_;rw[j5,Qab aq,Qab aq];exact ax
def eB(c:Cfg)(k:Nat):Int×Int:=c.nl.getD k (0,0)
def fz(c:Cfg)(i:Int):Nat->List Pl->List Pl
 |0,pg=>pg
 |k+1,pg=>if j5 (eB c k) i=0 then fz c i k pg else gX (fz c i k pg) ((8+k:Nat):Int) (jK c k,j5 (eB c k) i)
theorem Hv{i:Int}(h:Pgs pg):∀k,Pgs (fz c i k pg)
 |0=>h
 |k+1=>by
  rw[fz];split;exact Hv h k;exact E1 (Hv h k)
theorem b1F c(h:CfK W0 c)i pm pg(hp:Pgs pg)(hn:c.nl.length≤4):sQ W0 106 [.agg (dU c).toArray,iQ i,pV pm] (pt pm (bM pg)::R) (.tuple #[]) (pt pm (bM (fz c i c.nl.length pg))::R):=by
 refine am func106 ntmps106 ?_;refine bR λb3=>?_;refine fI (λk:Nat=>k≤c.nl.length) (λk=>[(1,iQ i),(2,pV pm),(3,pV b3),(10,.slice c.na c.nl.length c.nc),(11,iQ (c.nl.length:Nat)),(12,iQ k)]) (λk=>pt b3 (kj c)::pt pm (bM (fz c i k pg))::R) (λk=>c.nl.length-k) 0 ?_ ?_ ?_ ?_;omega
 · exact ai
 rw[show fz c i 0 pg=pg from Z];exact IO;intro k hk;refine aw (aB Z (λc2=>?_) λc2=>?_);refine au 2 (fA (λ_:Unit=>k<c.nl.length) (λ_=>[(1,iQ i),(2,pV pm),(3,pV b3),(10,.slice c.na c.nl.length c.nc),(11,iQ (c.nl.length:Nat)),(12,iQ k)]) (λ_=>pt b3 (kj c)::pt pm (bM (fz c i (k+1) pg))::R) ?_ ?_);refine au 2 ?_;have hk1:k<c.nl.length:=aq;obtain⟨g,o,hga,hc⟩:=(h.ok.n []).at_ hk1;obtain⟨x,hx⟩:∃x,c.nl[k]=x:=⟨_,Z⟩
 rw[hx]at hc;have hA:eB c k=x:=by grind[eB]
 have hpk:=Hv (c:=c) (i:=i) hp k;refine aw (ac (g7 O4 FG Z hga Z Z hk1 dg) ?_);refine ac (cV hc.weak) ?_;refine bU λb7=>?_;refine aJ aR (ao (aK call174 (b1E x i)) ?_);apply ap<;>intro c5;refine ac (eX (8+k)) ?_;refine ao (aK call175 (SK c h k)) ?_;refine ao (ar Ya (KF pm (fz c i k pg) hpk (8+k:Nat) (jK c k,j5 x i))) ?_;refine cZ () ?_ (he:=?_);exact hk1;rw[fz,hA,Qab aat];exact IO;refine cZ () ?_ (he:=?_);exact hk1;rw[fz,hA,Qad aat];exact IO;intro _ hk1;exact aw (ac cK (d8 (k+1) aq));refine aw (bP (.inr Z) .nil ?_);obtain rfl:k=c.nl.length:=aq;exact ax
theorem b1G{a:List Nat}(h:n≤8):dm (dm a 8) n=dm a n:=by grind[dm]
abbrev gd:List Pl:=List.replicate 12 (0,0)
theorem Hw:Pgs gd:=⟨Z,λn a h=>absurd (by
  have:n=0\/n=1\/n=2\/n=3\/n=4\/n=5\/n=6\/n=7\/n=8\/n=9\/n=10\/n=11:=aq
  rcases this with rfl|rfl|rfl|rfl|rfl|rfl|rfl|rfl|rfl|rfl|rfl|rfl<;>rfl) h⟩
theorem LO:we gd 0 8:=λi _ a=>by
 have:i=0\/i=1\/i=2\/i=3\/i=4\/i=5\/i=6\/i=7:=aq;rcases this with rfl|rfl|rfl|rfl|rfl|rfl|rfl|rfl<;>decide
@[reducible] def Hy(x:Bd)(q0 q1 q2:Nat)(c:Cfg)(i:Nat)(wv:Value)(pb pv bx tr:Nat):List Value:=
  [pV x.r,pV x.c,pV x.m,pV q0,pV q1,pV q2,pV x.v,pV x.t,.bool false,.int .u32 0,.int .u32 0,.int .u32 0,.int .u32 0]++dU c++[.int .i64 i,wv,pV pb,pV pv,pV bx,pV tr,.int .i64 0]
theorem b1H{S:World->Prop}{l n o p q s u w:Operand}{x:Bd}{a b d g h j k:Nat}{f:Value}(y:f.oneCell'=true)(A:ev e l=some (.agg (Hu x a b d).toArray))(B:ev e n=some (.agg (dU c).toArray))(C:ev e o=some (iQ i))(D:ev e p=some f)(E:ev e q=some (pV g))(F:ev e s=some (pV h))(G:ev e u=some (pV j))(H:ev e w=some (pV k)):
    cr Tryz.prog S N e (.build 98 #[(0,l),(1,n),(2,o),(3,p),(4,q),(5,s),(6,u),(7,w)]) (.agg (Hy x a b d c i f g h j k).toArray):=
  eH (l':=Hy x a b d c i f g h j k) c2m zeroValue98 (aT FL (aT tq (aT bu (aT Jb (aT O0 (aT D1 (aT Xv (aT Xw (aT bu eG)))))))))
    (iU (l':=[pV x.r,pV x.c,pV x.m,pV a,pV b,pV d,pV x.v,pV x.t,.bool false,.int .u32 0,.int .u32 0,.int .u32 0,.int .u32 0,iQ 0,.slice none 0 0,.slice none 0 0,.slice none 0 0,.slice none 0 0,.slice none 0 0,iQ 0,iQ 0,iQ 0,.slice none 0 0,.pointer none,.pointer none,.pointer none,.pointer none,iQ 0]) Z FL A Z (Qaa Z) Z
    (iU (l':=[pV x.r,pV x.c,pV x.m,pV a,pV b,pV d,pV x.v,pV x.t,.bool false,.int .u32 0,.int .u32 0,.int .u32 0,.int .u32 0,iQ c.cats,.slice c.ga c.gl.length c.gc,.slice c.ra c.rl.length c.rc,.slice c.pa c.pl.length c.pc,.slice c.na c.nl.length c.nc,.slice c.sa c.sl.length c.sc,iQ c.gate,iQ c.quota,iQ 0,.slice none 0 0,.pointer none,.pointer none,.pointer none,.pointer none,iQ 0]) Z tq B Z (Qaa Z) Z
    (cJ (l':=[pV x.r,pV x.c,pV x.m,pV a,pV b,pV d,pV x.v,pV x.t,.bool false,.int .u32 0,.int .u32 0,.int .u32 0,.int .u32 0,iQ c.cats,.slice c.ga c.gl.length c.gc,.slice c.ra c.rl.length c.rc,.slice c.pa c.pl.length c.pc,.slice c.na c.nl.length c.nc,.slice c.sa c.sl.length c.sc,iQ c.gate,iQ c.quota,iQ i,.slice none 0 0,.pointer none,.pointer none,.pointer none,.pointer none,iQ 0]) Z bu C Z (Qaa Z) Z
    (cJ (l':=[pV x.r,pV x.c,pV x.m,pV a,pV b,pV d,pV x.v,pV x.t,.bool false,.int .u32 0,.int .u32 0,.int .u32 0,.int .u32 0,iQ c.cats,.slice c.ga c.gl.length c.gc,.slice c.ra c.rl.length c.rc,.slice c.pa c.pl.length c.pc,.slice c.na c.nl.length c.nc,.slice c.sa c.sl.length c.sc,iQ c.gate,iQ c.quota,iQ i,f,.pointer none,.pointer none,.pointer none,.pointer none,iQ 0]) Z Jb D y (Qaa Z) Z
    (cJ (l':=[pV x.r,pV x.c,pV x.m,pV a,pV b,pV d,pV x.v,pV x.t,.bool false,.int .u32 0,.int .u32 0,.int .u32 0,.int .u32 0,iQ c.cats,.slice c.ga c.gl.length c.gc,.slice c.ra c.rl.length c.rc,.slice c.pa c.pl.length c.pc,.slice c.na c.nl.length c.nc,.slice c.sa c.sl.length c.sc,iQ c.gate,iQ c.quota,iQ i,f,pV g,.pointer none,.pointer none,.pointer none,iQ 0]) Z O0 E Z (Qaa Z) Z
    (cJ (l':=[pV x.r,pV x.c,pV x.m,pV a,pV b,pV d,pV x.v,pV x.t,.bool false,.int .u32 0,.int .u32 0,.int .u32 0,.int .u32 0,iQ c.cats,.slice c.ga c.gl.length c.gc,.slice c.ra c.rl.length c.rc,.slice c.pa c.pl.length c.pc,.slice c.na c.nl.length c.nc,.slice c.sa c.sl.length c.sc,iQ c.gate,iQ c.quota,iQ i,f,pV g,pV h,.pointer none,.pointer none,iQ 0]) Z D1 F Z (Qaa Z) Z
    (cJ (l':=[pV x.r,pV x.c,pV x.m,pV a,pV b,pV d,pV x.v,pV x.t,.bool false,.int .u32 0,.int .u32 0,.int .u32 0,.int .u32 0,iQ c.cats,.slice c.ga c.gl.length c.gc,.slice c.ra c.rl.length c.rc,.slice c.pa c.pl.length c.pc,.slice c.na c.nl.length c.nc,.slice c.sa c.sl.length c.sc,iQ c.gate,iQ c.quota,iQ i,f,pV g,pV h,pV j,.pointer none,iQ 0]) Z Xv G Z (Qaa Z) Z
    (cJ (l':=[pV x.r,pV x.c,pV x.m,pV a,pV b,pV d,pV x.v,pV x.t,.bool false,.int .u32 0,.int .u32 0,.int .u32 0,.int .u32 0,iQ c.cats,.slice c.ga c.gl.length c.gc,.slice c.ra c.rl.length c.rc,.slice c.pa c.pl.length c.pc,.slice c.na c.nl.length c.nc,.slice c.sa c.sl.length c.sc,iQ c.gate,iQ c.quota,iQ i,f,pV g,pV h,pV j,pV k,iQ 0]) Z Xw H Z (Qaa Z) Z
    eE))))))))
def laid(c:Cfg)(i:Nat)(ws:List Nat)(fr:List az)(po:Po):Im:=dV i (dm ws (cC c i).2.1.toNat) (cC c i).2.1.toNat ⟨fr,po,gd⟩
theorem b1I c(h:CfK W0 c)(U:rt c=true)i(M:i<c.gl.length)ps pb fr po(hF:bD fr)(hP:PoOk po)(hl:po.length=fr.length)(V:0<fr.length)(t:(cC c i).2.1≤((cG po i).length))a cap ws(hs:∀A,bZ (aQ W0 A) a 1 pJ ws)(hb:∀y∈ws,y<4294967296)(hn:ws.length<9223372036854775808):sP W0 60 [.agg (dU c).toArray,iQ i,pV ps,pV pb,.slice a ws.length cap] (cz pb (ps,po)::aH ps fr::R) (λv B=>∃F x N O G H I q r j J K,v=.tuple #[pV F,iQ 0]/\B=pt F (ae (Hy x G H I c i (.slice (some ⟨q,0,none⟩) (dm ws 8).length (dm ws 8).length) pb r J K) 98)::wG x i N O r (kH 6 (bB [pt G (qO true dS),pt H (qO true dS),pt I (qO true dS)])::pt r (cg ps j 0)::pt J wE::ie K []::pt q (ae ((dm ws 8).map wV) 62)::pt j (bM (fz c i c.nl.length (laid c i ws fr po).pg))::cz pb (ps,(laid c i ws fr po).po)::aH ps (laid c i ws fr po).fr::R)):=by
 have P:mB c=0:=Qaw U;have Q:=eI U;have x0:=Q.g4;have u:=Q.gs i M;obtain⟨g,o,S,W⟩:=(h.ok.g []).at_ M;obtain⟨x,hx⟩:∃x,c.gl[i]=x:=⟨_,rfl⟩
 have L:cC c i=x:=by grind[cC]
 obtain⟨n,w⟩:∃n:Nat,x.2.1=(n:Int):=⟨x.2.1.toNat,by rw[L]at u;omega⟩
 have x1:(cC c i).2.1.toNat=n:=mv;have m:laid c i ws fr po=dV i (dm (dm ws 8) n) n ⟨fr,po,gd⟩:=by grind[laid,b1G]
 rw[m];rw[hx]at W;rw[L,w]at u t;have p:ImOk ⟨fr,po,gd⟩:=⟨hF,hP,Hw,hl⟩
 have e:=BM (who:=i) (words:=dm (dm ws 8) n) (n:=n) aq p;have x2:=Hm ws 8;have X:=e.len;have C:0<(dV i (dm (dm ws 8) n) n ⟨fr,po,gd⟩).fr.length:=by
  have:∀k,(dV i (dm (dm ws 8) n) k ⟨fr,po,gd⟩).fr.length=fr.length:=λk=>by
   induction k with
   |zero=>rfl
   |succ k Y=>
    rw[dV,lK];split;rw[(zN (BM aq p).fr).2];exact Y;exact Y
  rw[this];exact V
 refine am func60 ntmps60 ?_;refine bR λb5=>?_;refine aF rfl (aK FX (BE c h.ok)) ?_;rintro _ s ⟨x3,rfl,d⟩;subst d;rw[P];refine aw ?_;apply fC<;>intro l;exact absurd l cl;apply d7 rfl rfl rfl<;>intro D;omega;refine aw (aB rfl (λc2=>?_) λc2=>?_);omega;refine aw (aF rfl (aK call103 (a8A)) ?_);rintro _ s ⟨j,rfl,d⟩;subst d;refine aw (ao (ar B7 (xL ps fr)) ?_);apply d7 rfl rfl rfl<;>intro E;omega;refine au 6 (aB rfl (λZ=>?_) λZ=>?_);cases Z;refine aw (aF rfl (aK call104 (SD a cap 8 ws (hs _) cl hn)) ?_);rintro _ s ⟨q,rfl,d⟩;subst d;refine aw (ac (g7 xk uz rfl S rfl rfl M dg) ?_);refine ac (aY (W.weak 1 _ (by rw[<-w];rfl:(jW x)[1]?=some (iQ (n:Int))))) ?_;refine cW 9 (dF call105 (SG pb ps j i n ⟨fr,po,gd⟩ p V (some ⟨q,0,none⟩) (dm ws 8).length (dm ws 8) aq aq aq LO (by show n≤(cG po i).length;omega) (by intro A L;exact(uU (b:=q) LA (LB _).symm).weak (k:=L)) (λy hy=>hb y (Qbs hy)) aq)) ?_;refine et (cW 6 (ar call106 (b1F c h i j _ e.pg Q.nn)) ?_);refine aF rfl (dj call107 (a9F ps j _ _ (Hv e.pg _) C)) ?_;rintro _ s ⟨r,rfl,d⟩;subst d;refine au 14 (et (aF rfl (ar Yh (LN i r ps j 0 aq)) ?_));rintro _ s ⟨x_,N,O,G,H,I,rfl,d⟩;subst d;refine aw ?_;refine bU λT=>?_;refine fw 10 aR ?_;refine et (bH [T,b5] 12 λf=>?_);refine aj 0 6 f ?_;refine co 6 (aK call109 (b1m)) ?_;clear f;rintro _ s ⟨J,rfl,d⟩;subst d;refine⟨aW,λf=>?_⟩;refine co 7 (aK call110 (b1p)) ?_;clear f;rintro _ s ⟨K,rfl,d⟩;subst d;refine⟨aW,λf=>?_⟩;refine aE 8 f (b1H rfl rfl rfl rfl rfl rfl rfl rfl rfl) ?_;refine co 9 (l8 rfl) ?_;clear f;rintro _ _ ⟨F,rfl,rfl⟩;refine⟨aW,λf=>?_⟩;refine aj 10 2 f ?_;exact aS (aZ ⟨_,⟨F,x_,N,O,G,H,I,q,r,j,J,K,rfl,rfl⟩,IO⟩)
theorem Hz{P S N e x v}{l:List Value}{T fs nm}{i b c:Nat}{em tg pk bo}(f:ev e x=some (.agg l.toArray))(g:P.underlying T=some (.struct fs))(m:fs.toList[i]?=some ⟨nm,b,c,em,tg,pk,bo⟩)
    (h:∀w,(isAgg b).run P w=.ok false w)(j:l[c]?=some v):cr P S N e (.field T x i) v:=λa w _ _ _ _ _ k _=>by
 have d:fs[i]?=some ⟨nm,b,c,em,tg,pk,bo⟩:=mv;simp only[execOp,Instr.field,k.eval f,Sem.run_bind,eV g,d,Result.andThen_ok,asAgg,Sem.run_pure];rw[Bh h j];rfl
def jp(ps:List Prt):Prop:=vj ps/\∀x∈ps,∀s∈x.l,s.size≤32
theorem jp.at_ {ps} (h : jp ps) {i} (hi : i < ps.length) : ∀ s ∈ (ps.getD i default).l, s.size ≤ 32 := by
 rw [show ps.getD i default = ps[i] by simp [List.getD, hi]]; exact h.2 _ (QaC hi)
theorem jp.set(h:jp ps){x:Prt}(a:x.l.length≤nT x)(b:∀s∈x.l,s.size≤32):jp (ps.set i x):=⟨h.1.set a,λy c=>by
 rcases Qbm c with q|q;exact h.2 y q
 rw[q];exact b⟩
theorem b1J{x s}(h:∀t∈x.l,t.size≤32)(a:s.size≤32):∀t∈(kC x s).l,t.size≤32:=by grind[kC]
theorem b1K{ps i}(h:rz ps i=true):∃k:Nat,i=k/\k<ps.length:=by have:=qv.1 h;exact⟨i.toNat,aq,aq⟩
theorem b1L(h:jp ps)f t s:jp (rA ps f t s):=by
 unfold rA;split
 rename_i a
 simp only[wj,Qam,Qag]at a;obtain⟨k,rfl,b⟩:=b1K a.1.1.2;exact h.set (a86 (h.1.at_ b)) (b1J (h.at_ b) a.1.2);exact h
theorem b1M(h:jp ps)i:jp (xQ ps i):=by
 unfold xQ;split
 rename_i a
 simp only[tU,Qam]at a;obtain⟨k,rfl,b,_⟩:=BW a.1;refine h.set ?_ λs c=>h.at_ b s (List.mem_of_mem_tail c);have:=h.1.at_ b;show(nU ps k).l.tail.length≤nT (nU ps k);rw[List.length_tail];show(ps.getD k default).l.length-1≤nT (ps.getD k default);omega;exact h
theorem SY(h:jp ps)i:(oI ps i).size≤32:=by
 unfold oI;split
 rename_i a
 simp only[tU,Qam,Qag]at a;obtain⟨k,rfl,b,_⟩:=BW a.1;have c:=h.at_ b;show((ps.getD k default).l.headD ByteArray.empty).size≤32
 cases q:(ps.getD k default).l with
 |nil=>simp
 |cons s l=>exact c s (by rw[q];simp)
 simp
theorem b1N{l}(h:l.length≤8):jp (pG l):=⟨a9e h,λx a s b=>by
 obtain⟨y,_,rfl⟩:=QaZ.1 a
 simp at b⟩
structure SvR where
  m : Nat
  t : Nat
  fr : List az
  d : Nat
  ps : List Prt
def ip(tx:Bool)(pg:List Pl)(port:Int)(ps:List Prt)(fr:List az)(d:Nat)(l:List Dsc):SvR:=
  if tx then(if uc fr pg l then⟨4+(sW fr pg l).size,0,fr,d,rA ps port (vm fr pg l:Nat) (sW fr pg l)⟩else⟨0,0,fr,d,ps⟩)
  else
    ⟨(eZ fr pg d l 0 (bL (oI ps port)) l.length).2.1,(eZ fr pg d l 0 (bL (oI ps port)) l.length).2.1,(eZ fr pg d l 0 (bL (oI ps port)) l.length).2.2.1,(eZ fr pg d l 0 (bL (oI ps port)) l.length).2.2.2,xQ ps port⟩
def Ci(tx:Bool)(ps:List Prt)(port:Int):Bool:=tx||decide (0<H9 ps port)
structure DoOk (fr : List az) (x : SvR) : Prop where
  frs : bD x.fr
  len : x.fr.length = fr.length
  d : x.d < 4096
  ps : jp x.ps
  m : x.m ≤ 36
  t : x.t ≤ 36
theorem SZ{tx pg port ps fr d l}(a:jp ps)(b:bD fr)(c:d<4096):DoOk fr (ip tx pg port ps fr d l):=by
 unfold ip
 cases tx with
 |true=>
  rw[Qad Z];have:=Sr fr pg l;split;exact⟨b,Z,c,b1L a _ _ _,aaw,n4⟩;exact⟨b,Z,c,a,n4,n4⟩
 |false=>
  rw[Qab cl];have h:=zZ (pg:=pg) (l:=l) (from_:=0) (bs:=bL (oI ps port)) b c l.length;have e:=h.dn;rw[Es]at e;have f:=SY a port;exact⟨h.frs,h.len,h.d,b1M a _,aaw,aaw⟩
@[reducible] def HA(p bv pv bp bi:Nat)(port:Int)(ps:List Prt):HP:=bB [dC p ps,pt bv (ae [.pointer (some ⟨pv,0,none⟩)] 94),pt bp (ae [.pointer (some ⟨p,0,none⟩)] 131),pt bi (ae [.int .i64 port] 3)]
structure SvF (W0 : World) (tx : Bool) (pv ps_ pm : Nat) (pg : List Pl) (E : List Prt → HP) (port : Int) (fm : FuncId) (cm : List Value) (fd : FuncId) (cd : List Value) : Prop where
  callm : ∀ args w, (callFunc fm args).run Tryz.prog w = .ok (.enter fm args) w
  calld : ∀ args w, (callFunc fd args).run Tryz.prog w = .ok (.enter fd args) w
  more : ∀ ps R, jp ps → bE Tryz.prog W0 fm ([] ++ [] ++ cm) (kH 0 (E ps) :: R) (fun v B => v = .bool (Ci tx ps port) ∧ B = kH 0 (E ps) :: R)
  dos : ∀ ps fr d l a c R, jp ps → bD fr → d < 4096 → (∀ x ∈ l, x.ok) → l.length ≤ 9 → bE Tryz.prog W0 fd ([] ++ [.slice a l.length c] ++ cd) (osl 436 4 (.slice a l.length c) (l.flatMap fq) :: pt pv (cg ps_ pm d) :: aH ps_ fr :: pt pm (bM pg) :: kH 0 (E ps) :: R)
    (fun v B => v = .tuple #[.int .i64 (ip tx pg port ps fr d l).m, .int .i64 (ip tx pg port ps fr d l).t] ∧ B = pt pv (cg ps_ pm (ip tx pg port ps fr d l).d) :: aH ps_ (ip tx pg port ps fr d l).fr :: pt pm (bM pg) :: kH 0 (E (ip tx pg port ps fr d l).ps) :: R)
theorem b1O W0 p bv pv bp bi ps_ pm pg(h:Pgs pg)port:
    SvF W0 true pv ps_ pm pg (HA p bv pv bp bi port) port 377 [] 378 [.pointer (some ⟨bv,0,none⟩),.pointer (some ⟨bp,0,none⟩),.pointer (some ⟨bi,0,none⟩)]:=⟨call377,call378,λps R hp=>by
 refine vP func377 ntmps377 Z Z ?_;refine aG (aM (aa Z (aU Z) (aI (aA (aG (aM (aa Z (aU Z) (aI (aA (dX (bP (.inl Z) (.cons (bA Z) .nil) ?_)))))))))));exact gj
 ,λps fr d l a c R hp hF hd hl hn=>by
 have hT:=b0D hF pg l;have hS:=Sr fr pg l;refine ig (B:=osl 436 4 (.slice a l.length c) (l.flatMap fq)::pt pv (cg ps_ pm d)::aH ps_ fr::pt pm (bM pg)::dC p ps::pt bv (ae [.pointer (some ⟨pv,0,none⟩)] 94)::pt bp (ae [.pointer (some ⟨p,0,none⟩)] 131)::pt bi (ae [.int .i64 port] 3)::R) (Ent.cons (Ent.cons (Ent.cons (Ent.cons kd)))) ?_;refine vP func378 ntmps378 Z Z ?_;refine aG (aM (aa Z (aU Z) (aa Z (aU Z) (aI (aA (aG (aM (aa Z (bO J5 Z (aO Z)) ?_))))))));refine aa Z (aV Z) ?_;refine aF Z (gU call379 Z (b0E pv ps_ pm d c a fr pg h hF l hl aq)) ?_;rintro _ B_ ⟨rfl,hB_⟩;subst hB_;refine aa Z (aV Z) (aa Z (jT Z Z) (aa Z (jT Z Z) (aa Z (jT Z Z) (aa Z (aU Z) (aa Z (aU Z) (aa Z (aU Z) (aI (aA (aG (aG (aM (aa Z (aV Z) (aa Z (vN Z) (aI (aA ?_)))))))))))))));refine aB Z ?_ ?_;intro c2;refine aG (aM (aa Z (aU Z) (aa Z (aU Z) (aI (aA (dX (jS (bP (.inl Z) (.cons (bA Z) (.cons (bA Z) .nil)) ?_))))))));have hb:¬uc fr pg l=true:=aam;have hD:ip true pg port ps fr d l=⟨0,0,fr,d,ps⟩:=by rw[ip,Qad Z,Qab hb]
 rw[hD];exact gj;intro c2;have hb:uc fr pg l=true:=aam;have hD:ip true pg port ps fr d l=⟨4+(sW fr pg l).size,0,fr,d,rA ps port (vm fr pg l:Nat) (sW fr pg l)⟩:=by rw[ip,Qad Z,Qad hb]
 rw[hD];refine fH (aA (aG (aM (aa Z (bO J2 Z (aO Z)) ?_))));refine aa Z (bO cM Z (aO Z)) ?_;refine aa Z (aV Z) (aa Z (aV Z) ?_);refine aF Z (eg call380 Z (a88 p ps hp.1 port (vm fr pg l:Nat) (sW fr pg l) aq)) ?_;rintro _ B_ ⟨rfl,hB_⟩;subst hB_;refine aI (aA (aG (aM (aa Z (aV Z) (aa Z (pZ mr Z) ?_)))));refine aa Z (dI Z Z (bS aq)) ?_;refine aa Z (aU Z) (aa Z (aU Z) (aI (aA (dX (bP (.inl Z) (.cons (bA Z) (.cons (bA Z) .nil)) ?_)))));exact gj
 ⟩
theorem b1P W0 p bv pv bp bi ps_ pm pg(h:Pgs pg)port:
    SvF W0 false pv ps_ pm pg (HA p bv pv bp bi port) port 191 [pQ bp,pQ bi] 194 [pQ bp,pQ bi,pQ bv]:=⟨call191,call194,λe R g=>by
 refine ig (B:=dC p e::pt bv (ae [pQ pv] 94)::pt bp (ae [pQ p] 131)::pt bi (ae [iQ port] 3)::R) kd ?_;refine iW func191 ntmps191 Z Z ?_;refine aG (aM (aa Z (aU Z) (aI (aA (aG (aM (aa Z (bO J2 Z (aO Z)) ?_)))))));refine aa Z (bO cM Z (aO Z)) ?_;refine aF Z (eg call192 Z (a9b p e port)) ?_;rintro _ m ⟨rfl,hB_⟩;subst hB_;refine aa Z (xp Z Z) (aa Z (aU Z) (aI (aA (dX (ag ?_)))));refine aP (Qak Value.bool ?_);rw[Qah,Ci,Qcl];simp
 ,λe f d l a c R g o q r u=>by
 have i:=SY g port;have t:ip false pg port e f d l=⟨(eZ f pg d l 0 (bL (oI e port)) l.length).2.1,(eZ f pg d l 0 (bL (oI e port)) l.length).2.1,(eZ f pg d l 0 (bL (oI e port)) l.length).2.2.1,(eZ f pg d l 0 (bL (oI e port)) l.length).2.2.2,xQ e port⟩:=by rw[ip,Qab cl]
 rw[t];obtain⟨s,hs⟩:∃s,oI e port=s:=⟨_,Z⟩
 rw[hs]at i ⊢;have j:=Es s;refine ig (B:=osl 436 4 (.slice a l.length c) (l.flatMap fq)::pt pv (cg ps_ pm d)::aH ps_ f::pt pm (bM pg)::dC p e::pt bv (ae [pQ pv] 94)::pt bp (ae [pQ p] 131)::pt bi (ae [iQ port] 3)::R) (Ent.cons (Ent.cons (Ent.cons (Ent.cons kd)))) ?_;refine iW func194 ntmps194 Z Z ?_;refine aG (aM (aa Z (aU Z) (aa Z (aU Z) (aI (aA (aG (aM (aa Z (bO J2 Z (aO Z)) ?_))))))));refine aa Z (bO cM Z (aO Z)) ?_;refine aF Z (eg call195 Z (a9c p e g.1 port)) ?_;rintro _ m ⟨rfl,hB_⟩;subst hB_;rw[hs];refine au 8 (oB (E:=436) (sz:=4) (a:=a) (c:=c) (n:=l.length) (ys:=l.flatMap fq) (λk=>?_));refine aM (aa Z (bO J5 Z (aO Z)) ?_);refine aa Z (aV Z) (aa Z (aV Z) (aF Z (Ly mr jf AS Z) ?_));rintro _ m ⟨b,cb,arr,mk,rfl,hcb,har,hB_⟩;subst hB_;rw[<-j]at hcb ⊢;refine ao (dF Yi (Lv pv ps_ pm d c cb a (some ⟨b,0,none⟩) f pg h o q l (tI k (mw (E:=436) (sz:=4) (a:=a) (n:=l.length) (c:=c)) (λ_=>Z) Z cl) r aq 0 cl (bL s) (Lx s) (Eu (Lw har)) aq hcb)) ?_;exact aZ ax
 ⟩
structure SvS where
  fr : List az
  d : Nat
  s : QS
  ps : List Prt
  c : Nat
  n : Nat
  b : Nat
  w : Int
@[reducible] def SvS.v(x:SvS):List Value:=[.int .i64 x.c,.int .i64 x.n,.int .i64 x.b,.int .i64 x.w]
@[reducible] def oS(tx:Bool)(pg:List Pl)(port:Int)(x:SvS):SvR:=ip tx pg port x.ps x.fr x.d (fh x.fr pg x.s).2.1
@[reducible] def sY(tx:Bool)(pg:List Pl)(port:Int)(x:SvS):DnR:=fD (oS tx pg port x).fr pg (oS tx pg port x).d (kW x.fr pg x.s) (ed ((fh x.fr pg x.s).1:Nat)) (ed ((oS tx pg port x).t:Nat))
def zB(c:Int):Bool:=decide (c=0)
def kG(tx:Bool)(pg:List Pl)(port:Int)(x:SvS):Bool×SvS:=
  if Ci tx x.ps port then
    (if (fh x.fr pg x.s).2.2.1 then(zB (sY tx pg port x).c,⟨(sY tx pg port x).fr,(sY tx pg port x).d,(sY tx pg port x).s,(oS tx pg port x).ps,x.c+1,x.n+(fh x.fr pg x.s).2.1.length,x.b+(oS tx pg port x).m,(sY tx pg port x).c⟩)
      else(false,{ x with s:=kW x.fr pg x.s,w:=(fh x.fr pg x.s).2.2.2 }))
  else(false,x)
theorem b1Q{x:SvS}(a:Ci tx x.ps port=true):kG tx pg port x=(if (fh x.fr pg x.s).2.2.1 then(zB (sY tx pg port x).c,⟨(sY tx pg port x).fr,(sY tx pg port x).d,(sY tx pg port x).s,(oS tx pg port x).ps,x.c+1,x.n+(fh x.fr pg x.s).2.1.length,x.b+(oS tx pg port x).m,(sY tx pg port x).c⟩)
      else(false,{ x with s:=kW x.fr pg x.s,w:=(fh x.fr pg x.s).2.2.2 })):=by grind[kG]
def jL(tx:Bool)(pg:List Pl)(port:Int):Nat->SvS->SvS
 |0,x=>x
 |k+1,x=>if (kG tx pg port x).1 then jL tx pg port k (kG tx pg port x).2 else(kG tx pg port x).2
theorem LP{tx pg port k x}(a:0<k)(h:(kG tx pg port x).1=false):jL tx pg port k x=(kG tx pg port x).2:=by
 obtain⟨j,rfl⟩:∃j,k=j+1:=⟨k-1,aq⟩
 rw[jL,h];rfl
theorem b1R{tx pg port k x}(a:0<k)(h:(kG tx pg port x).1=true):jL tx pg port k x=jL tx pg port (k-1) (kG tx pg port x).2:=by
 obtain⟨j,rfl⟩:∃j,k=j+1:=⟨k-1,aq⟩
 rw[jL,h];rfl
theorem LQ fr pg s:(kW fr pg s).r=s.r:=by grind[Sk,kW]
theorem T5 fr pg d s h n:(fD fr pg d s h n).s.r=s.r:=by grind[fD]
theorem HB(a:bD fr)pg s:(∀x∈(fh fr pg s).2.1,x.ok)/\(fh fr pg s).2.1.length≤9:=by have h:=a98 a pg s.r (sR fr pg s).1;unfold fh;split;split;grind;exact h;grind
structure SvOk (len : Nat) (r : Rg3) (x : SvS) : Prop where
  frs : bD x.fr
  len : x.fr.length = len
  d : x.d < 4096
  s : QOk x.s
  r : x.s.r = r
  ps : jp x.ps
theorem LR{len:Nat}{r:Rg3}{x:SvS}(h:SvOk len r x):SvOk len r (kG tx pg port x).2/\(kG tx pg port x).2.c≤x.c+1/\(kG tx pg port x).2.n≤x.n+9/\(kG tx pg port x).2.b≤x.b+36:=by have g:=HB h.frs pg x.s;have a:=SZ (tx:=tx) (pg:=pg) (port:=port) (l:=(fh x.fr pg x.s).2.1) h.ps h.frs h.d;have e:=Si (pg:=pg) (s:=kW x.fr pg x.s) (h:=ed ((fh x.fr pg x.s).1:Nat)) (n:=ed ((oS tx pg port x).t:Nat)) a.frs a.d (zY h.s);have f:=T5 (oS tx pg port x).fr pg (oS tx pg port x).d (kW x.fr pg x.s) (ed ((fh x.fr pg x.s).1:Nat)) (ed ((oS tx pg port x).t:Nat));rw[LQ]at f;unfold kG;split;split;exact⟨⟨e.1,e.2.1.trans (a.len.trans h.len),e.2.2.1,e.2.2.2,f.trans h.r,a.ps⟩,Qai _,QcU g.2 _,QcU a.m _⟩;exact⟨⟨h.frs,h.len,h.d,zY h.s,(LQ _ _ _).trans h.r,h.ps⟩,Qdd _,Nat.le_add_right _ _,Nat.le_add_right _ _⟩;grind
theorem b1S tx bq pv ps_ pm pg(h:Pgs pg)E port fm cm fd cd(hV:SvF W0 tx pv ps_ pm pg E port fm cm fd cd)fr d(sd sa su n last put:Nat)on br ps(hn:n≤8)(hr:Rg3.ok ⟨sd,sa,su,n⟩)len(hx:SvOk len ⟨sd,sa,su,n⟩ ⟨fr,d,⟨⟨sd,sa,su,n⟩,on,br,last,put⟩,ps,0,0,0,0⟩):sP W0 193 [pQ pv,pQ bq,.func (.func fm) #[] cm.toArray,.func (.func fd) #[] cd.toArray] (pt bq (qO true ⟨⟨sd,sa,su,n⟩,on,br,last,put⟩)::pt pv (cg ps_ pm d)::aH ps_ fr::pt pm (bM pg)::kH 0 (E ps)::R) (λv B=>∃y,y=jL tx pg port n ⟨fr,d,⟨⟨sd,sa,su,n⟩,on,br,last,put⟩,ps,0,0,0,0⟩/\v=.agg (SvS.v y).toArray/\B=pt bq (qO true y.s)::pt pv (cg ps_ pm y.d)::aH ps_ y.fr::pt pm (bM pg)::kH 0 (E y.ps)::R):=by
 obtain⟨x0,hx0⟩:∃x0:SvS,x0=⟨fr,d,⟨⟨sd,sa,su,n⟩,on,br,last,put⟩,ps,0,0,0,0⟩:=⟨_,rfl⟩
 rw[<-hx0]at hx ⊢;refine am func193 ntmps193 ?_;refine dT (cP vJ) λb8=>?_;refine au 2 (Dz (aw ?_));refine dT (cP vJ) λb9=>?_;refine au 3 (De (au 1 ?_));refine fA (λx:SvS=>x=jL tx pg port n x0) (λx=>[(8,pQ b8),(9,pQ b9)]) (λx=>pt b8 (ae [iQ 0,iQ 0,iQ 0,iQ 0] 230)::pt b9 (ae x.v 230)::pt bq (qO true x.s)::pt pv (cg ps_ pm x.d)::aH ps_ x.fr::pt pm (bM pg)::kH 0 (E x.ps)::R) ?_ ?_;refine au 3 (ao (ar call278 (Sb bq ⟨⟨sd,sa,su,n⟩,on,br,last,put⟩)) ?_);refine ac (Sq rfl Ob rfl NP AW TakeL.eq) ?_;refine ac (Hz rfl Oa rfl cM rfl) ?_;refine fI (λX:Nat×SvS=>X.1≤n/\jL tx pg port (n-X.1) X.2=jL tx pg port n x0/\SvOk len ⟨sd,sa,su,n⟩ X.2/\X.2.c≤X.1/\X.2.n≤9*X.1/\X.2.b≤36*X.1) (λX=>[(0,pQ pv),(1,pQ bq),(2,.func (.func fm) #[] cm.toArray),(3,.func (.func fd) #[] cd.toArray),(8,pQ b8),(9,pQ b9),(19,iQ n),(20,iQ X.1)]) (λX=>pt b8 (ae [iQ 0,iQ 0,iQ 0,iQ 0] 230)::pt b9 (ae X.2.v 230)::pt bq (qO true X.2.s)::pt pv (cg ps_ pm X.2.d)::aH ps_ X.2.fr::pt pm (bM pg)::kH 0 (E X.2.ps)::R) (λX=>n-X.1) (0,x0) ?_ ?_ ?_ ?_;exact⟨Qay _,rfl,hx,aa0,aa0,aa0⟩
 · exact ai
 subst hx0;exact inferInstance;intro ⟨i,x⟩ ⟨hi,hgo,hok,hc,hnn,hb⟩;dsimp only at hi hgo hok hc hnn hb ⊢;obtain⟨fx,dx,sx,px,cx,nx,bx,wx⟩:=x;obtain⟨hF,hlen,hd,hs,hsr,hps⟩:=hok;dsimp only at hF hlen hd hs hsr hps hc hnn hb ⊢;refine aw (ap (λc3=>?_) λc3=>?_);refine ao (sq (us:=[]) (cs:=cm) rfl hV.callm rfl (hV.more px _ hps)) ?_;apply aB rfl<;>intro c4;have hm:¬Ci tx px port=true:=sm;have hst:kG tx pg port ⟨fx,dx,sx,px,cx,nx,bx,wx⟩=(false,⟨fx,dx,sx,px,cx,nx,bx,wx⟩):=by rw[kG,Qab hm]
 rw[LP aq (by rw[hst]),hst]at hgo;have hfin:=hgo;refine aw (cZ ⟨fx,dx,sx,px,cx,nx,bx,wx⟩ ?_)
 first
   |exact hfin
   | (have h0 : n - i = 0 := by omega
      rw[h0]at hgo;exact hgo)
 have hm:Ci tx px port=true:=sm;obtain⟨hl9,hl8⟩:=HB hF pg sx;have hst1:=b1Q (pg:=pg) (x:=⟨fx,dx,sx,px,cx,nx,bx,wx⟩) hm;have hokn:=LR (tx:=tx) (pg:=pg) (port:=port) (x:=⟨fx,dx,sx,px,cx,nx,bx,wx⟩) (len:=len) (r:=⟨sd,sa,su,n⟩) ⟨hF,hlen,hd,hs,hsr,hps⟩;refine fH (aA (aG (aM (aa rfl (aV rfl) (aa rfl (aV rfl) ?_)))));refine aF rfl (gU call279 rfl (Sl bq pv ps_ pm dx fx pg h hF sx hs (by rw[hsr];exact hr))) ?_;rintro _ B_ ⟨a,c,rfl,hB_⟩;subst hB_;dsimp only[oS,sY]at hst1;obtain⟨r,hr⟩:∃r,fh fx pg sx=r:=⟨_,rfl⟩
 rw[hr]at hl9 hl8 hst1 ⊢;refine aw (aB rfl (λc6=>?_) λc6=>?_);have ht:¬r.2.2.1=true:=by simpa using c6
 rw[Qab ht]at hst1;rw[LP aq (by rw[hst1]),hst1]at hgo;have hfin:=hgo;refine aw (eM (iG bu rfl rfl rfl (Qaa rfl) SetL.eq) ?_);rintro _ _ rfl;refine aI (aA (Dd (Df (Dg rfl (Df (Df (Gc (aA (cZ ⟨fx,dx,kW fx pg sx,px,cx,nx,bx,r.2.2.2⟩ ?_)))))))))
 first
   |exact hfin
   | (have h0 : n - i = 0 := by omega
      rw[h0]at hgo;exact hgo)
 have ht:r.2.2.1=true:=by simpa using c6
 rw[Qad ht]at hst1;have hdo:=SZ (tx:=tx) (pg:=pg) (port:=port) (l:=r.2.1) hps hF hd;refine fH (aA (aG (aM ?_)));refine aa rfl (bT rfl nB rfl bu rfl dg) ?_;refine aa rfl (bO cM rfl (aO rfl)) ?_;refine aa rfl (dI rfl rfl (n7:IntKind.wrap .i64 ((cx:Int)+1)=((cx+1:Nat):Int))) ?_;refine aa rfl (bT rfl nB rfl bu rfl dg) ?_;refine eM (iG bu rfl rfl rfl (Qaa rfl) SetL.eq) ?_;rintro _ _ rfl;refine aI (aA (aG (aM ?_)));refine aa rfl (bT rfl nB rfl bu rfl dg) ?_;refine aa rfl (bO cM rfl (aO rfl)) ?_;refine aa rfl (aV rfl) (aa rfl (Dl Ji rfl) ?_);refine aa rfl (dI rfl rfl (n7:IntKind.wrap .i64 ((nx:Int)+(r.2.1.length:Int))=((nx+r.2.1.length:Nat):Int))) ?_;refine aa rfl (bT rfl nB rfl bu rfl dg) ?_;refine aJ dr (eS (Lo (us:=[]) (cs:=cd) rfl hV.calld rfl (hV.dos px fx dx r.2.1 a c _ hps hF hd hl9 hl8)) ?_);obtain⟨y,hy⟩:∃y,ip tx pg port px fx dx r.2.1=y:=⟨_,rfl⟩
 rw[hy]at hdo hst1 ⊢;have hym:=hdo.m;refine aa rfl (aV rfl) (aa rfl (jT rfl rfl) (aa rfl (jT rfl rfl) (aa rfl (aU rfl) (aa rfl (aU rfl) (aI (aA (aG (aM ?_))))))));refine aa rfl (bT rfl nB rfl bu rfl dg) ?_;refine aa rfl (bO cM rfl (aO rfl)) ?_;refine aa rfl (aV rfl) ?_;refine aa rfl (dI rfl rfl (n7:IntKind.wrap .i64 ((bx:Int)+(y.m:Int))=((bx+y.m:Nat):Int))) ?_;refine aa rfl (bT rfl nB rfl bu rfl dg) ?_;refine eM (iG bu rfl rfl rfl (Qaa rfl) SetL.eq) ?_;rintro _ _ rfl;refine aI (aA (aG (aM (aa rfl (aV rfl) (aa rfl (aV rfl) (aa rfl (aV rfl) (aa rfl (aV rfl) (aF rfl (gU call280 rfl (Sj bq pv ps_ pm y.d y.fr pg h hdo.frs hdo.d (kW fx pg sx) (zY hs) (r.1:Nat) (y.t:Nat))) ?_))))))));rintro _ B_ ⟨rfl,hB_⟩;subst hB_;obtain⟨z,hz⟩:∃z,fD y.fr pg y.d (kW fx pg sx) (ed (r.1:Nat)) (ed (y.t:Nat))=z:=⟨_,rfl⟩
 rw[hz]at hst1 ⊢;refine aw (aJ dr (ap (λc13=>?_) λc13=>?_));have hzc:zB z.c=false:=Qat c13;rw[hzc]at hst1;rw[LP aq (by rw[hst1]),hst1]at hgo;have hfin:=hgo;refine cZ ⟨z.fr,z.d,z.s,y.ps,cx+1,nx+r.2.1.length,bx+y.m,z.c⟩ ?_
 first
   |exact hfin
   | (have h0 : n - i = 0 := by omega
      rw[h0]at hgo;exact hgo)
 have hzc:zB z.c=true:=Qav (QaH.1 c13);rw[hzc]at hst1;rw[b1R aq (by rw[hst1]),hst1]at hgo;rw[hst1]at hokn;refine ac cK (d8 (i+1,⟨z.fr,z.d,z.s,y.ps,cx+1,nx+r.2.1.length,bx+y.m,z.c⟩) ?_);refine⟨aq,?_,hokn.1,by show cx+1≤i+1;omega,by show nx+r.2.1.length≤9*(i+1);omega,by show bx+y.m≤36*(i+1);omega⟩;rw[show n-(i+1)=n-i-1 by omega];exact hgo;refine cZ ⟨fx,dx,sx,px,cx,nx,bx,wx⟩ ?_
 first
   |exact hfin
   | (have h0 : n - i = 0 := by omega
      rw[h0]at hgo;exact hgo)
 intro x rfl;refine aw (fw 3 aR ?_);refine pB (bJ (.cons (bX uy ny rfl rfl) .nil) ?_);exact⟨_,⟨_,rfl,rfl,rfl⟩,IO⟩
theorem T6 tx bq p bv pv bp bi ps_ pm pg(h:Pgs pg)port fm cm fd cd(j:SvF W0 tx pv ps_ pm pg (HA p bv pv bp bi port) port fm cm fd cd)fr d(c e f n a b:Nat)g i ps(k:n≤8)(l:Rg3.ok ⟨c,e,f,n⟩)len(m:SvOk len ⟨c,e,f,n⟩ ⟨fr,d,⟨⟨c,e,f,n⟩,g,i,a,b⟩,ps,0,0,0,0⟩):sP W0 193 [pQ pv,pQ bq,.func (.func fm) #[] cm.toArray,.func (.func fd) #[] cd.toArray] (pt bq (qO true ⟨⟨c,e,f,n⟩,g,i,a,b⟩)::pt pv (cg ps_ pm d)::aH ps_ fr::pt pm (bM pg)::dC p ps::pt bv (ae [pQ pv] 94)::pt bp (ae [pQ p] 131)::pt bi (ae [iQ port] 3)::R) (λv B=>∃y,y=jL tx pg port n ⟨fr,d,⟨⟨c,e,f,n⟩,g,i,a,b⟩,ps,0,0,0,0⟩/\v=.agg (SvS.v y).toArray/\B=pt bq (qO true y.s)::pt pv (cg ps_ pm y.d)::aH ps_ y.fr::pt pm (bM pg)::dC p y.ps::R):=
  ig (B:=pt bq (qO true ⟨⟨c,e,f,n⟩,g,i,a,b⟩)::pt pv (cg ps_ pm d)::aH ps_ fr::pt pm (bM pg)::kH 0 (HA p bv pv bp bi port ps)::R) (Ent.cons (Ent.cons (Ent.cons (Ent.cons (ke (A:=[_,_,_,_])))))) <|
  cF (b1S tx bq pv ps_ pm pg h _ port fm cm fd cd j fr d c e f n a b g i ps k l len m) λv B o=>by
 obtain⟨y,q,r,rfl⟩:=o;refine⟨_,⟨y,q,r,Z⟩,Ent.cons (Ent.cons (Ent.cons (Ent.cons (kd.trans ?_))))⟩;show Ent (dC p y.ps::pt bv (ae [pQ pv] 94)::pt bp (ae [pQ p] 131)::pt bi (ae [iQ port] 3)::R) (dC p y.ps::R);exact IO
theorem b1T bq p pv ps_ pm pg(h:Pgs pg)port fr d(c e f n a b:Nat)on br ps(l:n≤8)(m:Rg3.ok ⟨c,e,f,n⟩)len(o:SvOk len ⟨c,e,f,n⟩ ⟨fr,d,⟨⟨c,e,f,n⟩,on,br,a,b⟩,ps,0,0,0,0⟩):sP W0 307 [pQ pv,pQ bq,pQ p,iQ port] (pt bq (qO true ⟨⟨c,e,f,n⟩,on,br,a,b⟩)::pt pv (cg ps_ pm d)::aH ps_ fr::pt pm (bM pg)::dC p ps::R) (λv B=>∃y,y=jL true pg port n ⟨fr,d,⟨⟨c,e,f,n⟩,on,br,a,b⟩,ps,0,0,0,0⟩/\v=.agg (SvS.v y).toArray/\B=pt bq (qO true y.s)::pt pv (cg ps_ pm y.d)::aH ps_ y.fr::pt pm (bM pg)::dC p y.ps::R):=by refine am func307 ntmps307 ?_;refine dh (fQ Z Z) λg=>?_;refine dh (fQ Z Z) λi=>?_;refine dh (fQ Z Z) λj=>?_;refine bU λr=>?_;refine aF Z (Q8 call193 Z (T6 true bq p g pv i j ps_ pm pg h port _ [] _ [pQ g,pQ i,pQ j] (b1O W0 p g pv i j ps_ pm pg h port) fr d c e f n a b on br ps l m len o)) ?_;rintro _ t ⟨y,q,rfl,k⟩;subst k;refine aJ aR (bJ (.cons (bX uy ny Z Z) .nil) ?_);exact⟨_,⟨y,q,Z,Z⟩,IO⟩
theorem b1U bq p pv ps_ pm pg(h:Pgs pg)port fr d(c e f n a b:Nat)on br ps(l:n≤8)(m:Rg3.ok ⟨c,e,f,n⟩)len(o:SvOk len ⟨c,e,f,n⟩ ⟨fr,d,⟨⟨c,e,f,n⟩,on,br,a,b⟩,ps,0,0,0,0⟩):sP W0 122 [pQ pv,pQ bq,pQ p,iQ port] (pt bq (qO true ⟨⟨c,e,f,n⟩,on,br,a,b⟩)::pt pv (cg ps_ pm d)::aH ps_ fr::pt pm (bM pg)::dC p ps::R) (λv B=>∃y,y=jL false pg port n ⟨fr,d,⟨⟨c,e,f,n⟩,on,br,a,b⟩,ps,0,0,0,0⟩/\v=.agg (SvS.v y).toArray/\B=pt bq (qO true y.s)::pt pv (cg ps_ pm y.d)::aH ps_ y.fr::pt pm (bM pg)::dC p y.ps::R):=by refine am func122 ntmps122 ?_;refine dh (fQ Z Z) λj=>?_;refine dh (fQ Z Z) λg=>?_;refine dh (fQ Z Z) λi=>?_;refine bU λr=>?_;refine aF Z (Q8 call193 Z (T6 false bq p j pv g i ps_ pm pg h port _ [pQ g,pQ i] _ [pQ g,pQ i,pQ j] (b1P W0 p j pv g i ps_ pm pg h port) fr d c e f n a b on br ps l m len o)) ?_;rintro _ t ⟨y,q,rfl,k⟩;subst k;refine aJ aR (bJ (.cons (bX uy ny Z Z) .nil) ?_);exact⟨_,⟨y,q,Z,Z⟩,IO⟩
def mJ(x:Dk)(who at_:Int):Nat->Option (List Nat)
 |0=>some []
 |k+1=>(mJ x who at_ k).bind λl=>if mb x who (at_+k)=0 then some (l++lq x.ss (at_+k).toNat)else none
theorem T7{x:Dk}(h:mJ x who at_ i=none):∀{k:Nat},i≤k->mJ x who at_ k=none:=by
 intro k a
 induction k with
 |zero=>rwa[show i=0 by omega]at h
 |succ k b=>
  rcases Qaz i (k+1)with q|q;grind[mJ];grind
theorem LS{x}(hx:DkOk x){who at_}:∀{k:Nat} {l:List Nat},mJ x who at_ k=some l->l.length=16*k/\By l
 |0,l,h=>by cases h;exact⟨Z,λx hx=>abb⟩
 |k+1,l,h=>by
  rw[mJ]at h
  cases e:mJ x who at_ k with
  |none=>rw[e]at h;cases h
  |some b=>
   rw[e]at h;obtain⟨c,d⟩:=LS hx e;have a:(if mb x who (at_+k)=0 then some (b++lq x.ss (at_+k).toNat)else none)=some l:=h;split at a;cases a;obtain⟨f,g⟩:=hx.sec (at_+k).toNat;exact⟨by rw[Qaf,f,c];omega,d.append g⟩;cases a
theorem LU{x:Dk}(h:mb x who at_=0):0≤at_/\at_<32:=by grind[mb,Hl]
def ni(x:Dk)(who at_:Int)(D:List Nat):Nat->Dk×Option Nat
 |0=>(x,none)
 |k+1=>match ni x who at_ D k with
   |(y,some f)=>(y,some f)
   |(y,none)=>if pI y who (at_+k) ((D.drop (16*k)).take 16).length=0 then(sX y who (at_+k) ((D.drop (16*k)).take 16),none)else(y,some (16*k))
theorem b1V{x y:Dk}{f:Nat}(h:ni x who at_ D i=(y,some f)):∀{k:Nat},i≤k->ni x who at_ D k=(y,some f):=by
 intro k a
 induction k with
 |zero=>rwa[show i=0 by omega]at h
 |succ k b=>
  rcases Qaz i (k+1)with q|q;grind[ni];grind
theorem LV{x}(hx:DkOk x)who at_{D}(hD:By D):∀k,DkOk (ni x who at_ D k).1/\∀f,(ni x who at_ D k).2=some f->f<16*k/\16∣f
 |0=>⟨hx,λf hf=>by cases hf⟩
 |k+1=>by
  obtain⟨h1,h2⟩:=LV hx who at_ hD k;rw[ni]
  cases e:ni x who at_ D k with
  |mk y o=>
   rw[e]at h1 h2
   cases o with
   |some f=>exact⟨h1,λg hg=>by obtain⟨a,b⟩:=h2 g hg;exact⟨aq,b⟩⟩
   |none=>
    dsimp only;split;exact⟨b0M h1 _ _ ((hD.drop _).take _),λg hg=>by cases hg⟩;grind
structure BlR where
  how : Nat
  m : Nat
  t : Nat
  fr : List az
  d : Nat
  x : Dk
def oT(pg:List Pl)(who at_:Int)(room:Nat)(l:List Dsc)(x:Dk)(fr:List az)(d:Nat):BlR:=
  if (room-1)%16=0 then(match mJ x who at_ ((room-1)/16)with
    |none=>⟨1,0,0,fr,d,x⟩
    |some all=>⟨0,(eZ fr pg d l 0 all l.length).2.1,(eZ fr pg d l 0 all l.length).2.1,(eZ fr pg d l 0 all l.length).2.2.1,(eZ fr pg d l 0 all l.length).2.2.2,x⟩)
  else⟨1,0,0,fr,d,x⟩
def nj(who at_:Int)(D:List Nat)(x:Dk)(fr:List az)(d:Nat):BlR:=
  if D.length %16=0 then(match ni x who at_ D (D.length/16)with
    |(y,some f)=>⟨1,f,0,fr,d,y⟩
    |(y,none)=>⟨0,D.length,0,fr,d,y⟩)
  else⟨1,0,0,fr,d,x⟩
def mc(pg:List Pl)(who at_:Int)(what room:Nat)(l:List Dsc)(D:List Nat)(x:Dk)(fr:List az)(d:Nat):BlR:=
  if what=0 then oT pg who at_ room l x fr d else if what=1 then nj who at_ D x fr d else⟨2,0,0,fr,d,x⟩
structure BlOk (fr : List az) (r : BlR) : Prop where
  frs : bD r.fr
  len : r.fr.length = fr.length
  d : r.d < 4096
  x : DkOk r.x
  how : r.how ≤ 2
  m : r.m ≤ 512
  t : r.t ≤ 512
theorem T8{x}(f:DkOk x){who at_ k l}(h:mJ x who at_ k=some l):l.length≤512:=by
 have n:=(LS f h).1;rcases QcC k with q|q;omega;obtain⟨j,rfl⟩:∃j,k=j+1:=⟨k-1,aq⟩
 have g:mb x who at_=0:=by
  by_cases c:mb x who at_=0;exact c;exfalso;have:mJ x who at_ 1=none:=by
   show(if mb x who (at_+((0:Nat):Int))=0 then some ([]++lq x.ss (at_+((0:Nat):Int)).toNat)else none)=none;rw[show at_+((0:Nat):Int)=at_ by omega,Qab c]
  rw[T7 this aq]at h;cases h
 have i:mb x who (at_+j)=0:=by
  rw[mJ]at h
  cases e:mJ x who at_ j with
  |none=>rw[e]at h;cases h
  |some m=>
   rw[e]at h;have d:(if mb x who (at_+j)=0 then some (m++lq x.ss (at_+j).toNat)else none)=some l:=h;split at d;assumption;cases d
 have a:=LU g;have b:=LU i;omega
theorem T9{pg who at_ what room l D x fr d}(a:DkOk x)(b:bD fr)(c:d<4096)(k:By D)(m:D.length≤512):BlOk fr (mc pg who at_ what room l D x fr d):=by
 unfold mc;split;unfold oT;split;split;exact⟨b,Z,c,a,n4,n4,n4⟩
 rename_i i e
 have h:=zZ (pg:=pg) (l:=l) (from_:=0) (bs:=i) b c l.length;have g:=h.dn;have j:=T8 a e;exact⟨h.frs,h.len,h.d,a,n4,aaw,aaw⟩;exact⟨b,Z,c,a,n4,n4,n4⟩;split;unfold nj;split;obtain⟨g,j⟩:=LV a who at_ k (D.length/16);split
 rename_i y f e
 rw[e]at g j;have:=(j f Z).1;exact⟨b,Z,c,g,n4,aaw,n4⟩
 rename_i y e
 rw[e]at g;exact⟨b,Z,c,g,n4,m,n4⟩;exact⟨b,Z,c,a,n4,n4,n4⟩;exact⟨b,Z,c,a,n4,n4,n4⟩
theorem Ta(n:Nat):sQ W0 482 [iQ n] R (.bool (decide (n %16=0))) R:=by refine am func482 ntmps482 ?_;refine ac (kg Z Z cl (oC n 16)) ?_;refine ag (aP (Qak Value.bool ?_));rw[Qah,Qbv,Qag];omega
@[reducible] def oU(pv d:Nat)(aL:Option Addr)(nL cL:Nat)(who:Int)(what:Nat)(at_:Nat)(aD:Option Addr)(nD cD room:Nat):Obj:=ae [.pointer (some ⟨pv,0,none⟩),.pointer (some ⟨d,0,none⟩),.slice aL nL cL,.int .i64 who,.int .u32 what,.int .i64 at_,.slice aD nD cD,.int .i64 room] 597
abbrev y9(a b c:Nat):List Value:=[.int .i64 a,.int .i64 b,.int .i64 c]
theorem b1W rq pv dd ps pm d c cD nD room a aD fr pg(h:Pgs pg)(hF:bD fr)(hd:d<4096)l(hl:∀y∈l,y.ok)(hn:l.length≤9)x(hx:DkOk x)who at_(hat:at_<4294967296)(hr:1≤room/\room≤38654705664):sQ W0 467 [pQ rq] (pt rq (oU pv dd a l.length c who 0 at_ aD nD cD room)::osl 436 4 (.slice a l.length c) (l.flatMap fq)::dQ dd x::df pv ps pm d fr pg R) (.agg (y9 (oT pg who at_ room l x fr d).how (oT pg who at_ room l x fr d).m (oT pg who at_ room l x fr d).t).toArray) (pt rq (oU pv dd a l.length c who 0 at_ aD nD cD room)::osl 436 4 (.slice a l.length c) (l.flatMap fq)::dQ dd (oT pg who at_ room l x fr d).x::df pv ps pm (oT pg who at_ room l x fr d).d (oT pg who at_ room l x fr d).fr pg R):=by
 refine am func467 ntmps467 ?_;refine bU λbo=>?_;refine ac (mt (room-1)) ?_;refine ao (aK call482 (Ta (room-1))) ?_;apply ap<;>intro c2;refine aJ aR (bJ (.cons (bX AU yO Z Z) .nil) ?_);have hw:¬(room-1)%16=0:=aam;have hB:oT pg who at_ room l x fr d=⟨1,0,0,fr,d,x⟩:=by rw[oT,Qab hw]
 rw[hB];exact ax;have hw:(room-1)%16=0:=aam;refine ac (qT Z Z cl ((Qak (IntKind.wrap .i64) (uW (room-1) 16)).trans (bS aq))) ?_;refine fI (λX:Nat×Option Addr×Nat×List Nat=>X.1≤(room-1)/16/\mJ x who at_ X.1=some X.2.2.2/\X.2.2.2.length≤512) (λX=>[(0,pQ rq),(2,pQ bo),(4,.slice X.2.1 X.2.2.2.length X.2.2.1),(19,iQ ((room-1)/16:Nat)),(20,iQ X.1)]) (λX=>osl 5 1 (.slice X.2.1 X.2.2.2.length X.2.2.1) (bW X.2.2.2)::pt bo (ae (y9 0 0 0) 568)::pt rq (oU pv dd a l.length c who 0 at_ aD nD cD room)::osl 436 4 (.slice a l.length c) (l.flatMap fq)::dQ dd x::df pv ps pm d fr pg R) (λX=>(room-1)/16-X.1) (0,none,0,[]) ?_ ?_ ?_ ?_;exact⟨Qay _,Z,Qay _⟩
 · exact ai
 exact eW;intro ⟨i,a0,c0,all⟩ ⟨hi,hall,hlen⟩;dsimp only at hi hall hlen ⊢;obtain⟨hl16,hby⟩:=LS hx hall;refine aw (ap (λc6=>?_) λc6=>?_);refine bH [rq] 20 λhS=>?_;refine aj 0 13 hS ?_;refine aE 13 hS cK ?_;refine co 14 (ar call483 (b0L dd x hx who ((at_:Int)+(i:Int)))) ?_;clear hS;rintro _ B_ ⟨a2,n2,c2',rfl,hn2,hB_⟩;subst hB_;subst hn2;refine⟨aW,λhS=>?_⟩;refine aj 15 5 hS ?_;refine aS (aB Z (λc9=>?_) λc9=>?_);refine au 3 (aJ aR (bJ (.cons (bX AU yO Z Z) .nil) ?_));have hq:¬mb x who (at_+i)=0:=by first|exact c9|simpa using c9
 have hs:mJ x who at_ (i+1)=none:=by
  rw[mJ,hall];exact Qab hq
 have hB:oT pg who at_ room l x fr d=⟨1,0,0,fr,d,x⟩:=by rw[oT,Qad hw,T7 hs aq]
 rw[hB];exact ax;refine au 2 ?_;have hq:mb x who (at_+i)=0:=by first|exact QaH.1 c9|simpa using c9
 have hlt:=LU hq;have hs:mJ x who at_ (i+1)=some (all++lq x.ss ((at_:Int)+(i:Int)).toNat):=by
  rw[mJ,hall];exact Qad hq
 have hsl:=T8 hx hs;rw[Qaf]at hsl;obtain⟨s1,s2⟩:=hx.sec ((at_:Int)+(i:Int)).toNat;rw[hq];simp only[QbT];refine b0G (E:=5) (sz:=1) (vi:=.slice a2 (lq x.ss ((at_:Int)+(i:Int)).toNat).length c2') (ys:=bW (lq x.ss ((at_:Int)+(i:Int)).toNat)) (b0z aq) (λg n3 c3 e3 _=>?_);cases e3;refine aw (aF Z (fR (sz:=1) (by_:=1) (info:=Tryz.t5) jf ld Z Z Z Z cl Z Z (mw (E:=5) (sz:=1) (a:=some ⟨g,0,none⟩) (c:=c2') (n:=(lq x.ss ((at_:Int)+(i:Int)).toNat).length)) (by rw[iJ,QaP]) (zq _) n5 aq) ?_);rintro _ _ ⟨a4,c4',rfl,rfl⟩;rw[<-Dy, <-Qaf];exact aw (ac cK (d8 (i+1,a4,c4',all++lq x.ss ((at_:Int)+(i:Int)).toNat) (⟨aq,hs,by rw[Qaf];exact hsl⟩)));obtain rfl:i=(room-1)/16:=aq;have hB:oT pg who at_ room l x fr d=⟨0,(eZ fr pg d l 0 all l.length).2.1,(eZ fr pg d l 0 all l.length).2.1,(eZ fr pg d l 0 all l.length).2.2.1,(eZ fr pg d l 0 all l.length).2.2.2,x⟩:=by rw[oT,Qad hw,hall]
 rw[hB];refine oB (E:=5) (sz:=1) (a:=a0) (c:=c0) (n:=all.length) (ys:=bW all) (λhf2=>?_);refine qZ (E:=5) (sz:=1) (a:=a0) (c:=c0) (n:=all.length) (λhcap=>?_);refine oB (E:=436) (sz:=4) (a:=a) (c:=c) (n:=l.length) (ys:=l.flatMap fq) (λhf1=>?_);refine bH [rq] 11 λhS=>?_;refine aj 0 9 hS ?_;refine bQ 9 (dF Yi (Lv pv ps pm d c c0 a a0 fr pg h hF hd l (tI hf1 (mw (E:=436) (sz:=4) (a:=a) (n:=l.length) (c:=c)) (λ_=>Z) Z cl) hl aq 0 cl all hby (tI hf2 (mw (E:=5) (sz:=1) (a:=a0) (n:=all.length) (c:=c0)) (λ_=>Z) (tL all).symm cl) aq hcap.1)) λhS=>?_;refine aj 10 1 hS ?_;exact aS (aJ aR (bJ (.cons (bX AU yO Z Z) .nil) ax))
theorem b1X rq pv dd c cD room a aD nL what x(hx:DkOk x)who at_(hat:at_<4294967296)D(hD:By D)(hn:D.length≤512)(hcD:D.length≤cD/\cD≤maxLen)(pg:List Pl)(l:List Dsc)fr d(hs:bZ (aQ W0 R) aD 1 (λx=>[bV x]) D):sQ W0 468 [pQ rq] (pt rq (oU pv dd a nL c who what at_ aD D.length cD room)::dQ dd x::R) (.agg (y9 (nj who at_ D x fr d).how (nj who at_ D x fr d).m (nj who at_ D x fr d).t).toArray) (pt rq (oU pv dd a nL c who what at_ aD D.length cD room)::dQ dd (nj who at_ D x fr d).x::R):=by
 refine am func468 ntmps468 ?_;refine bU λbo=>?_;refine ao (aK call482 (Ta D.length)) ?_;apply ap<;>intro c1;refine aJ aR (bJ (.cons (bX AU yO Z Z) .nil) ?_);have hw:¬D.length %16=0:=abe;have hB:nj who at_ D x fr d=⟨1,0,0,fr,d,x⟩:=by rw[nj,Qab hw]
 rw[hB];exact ax;have hw:D.length %16=0:=abe;refine ac (qT Z Z cl ((Qak (IntKind.wrap .i64) (uW D.length 16)).trans (bS aq))) ?_;refine fI (λi:Nat=>i≤D.length/16/\(ni x who at_ D i).2=none) (λi=>[(0,pQ rq),(2,pQ bo),(18,iQ (D.length/16:Nat)),(19,iQ i)]) (λi=>pt bo (ae (y9 0 0 0) 568)::pt rq (oU pv dd a nL c who what at_ aD D.length cD room)::dQ dd (ni x who at_ D i).1::R) (λi=>D.length/16-i) 0 ?_ ?_ ?_ ?_;exact⟨Qay _,Z⟩
 · exact ai
 show Ent _ (pt bo (ae (y9 0 0 0) 568)::pt rq (oU pv dd a nL c who what at_ aD D.length cD room)::dQ dd x::R);exact IO;intro i ⟨hi,hno⟩;obtain⟨y,hy⟩:∃y,(ni x who at_ D i).1=y:=⟨_,Z⟩
 have hwi:ni x who at_ D i=(y,none):=by rw[<-hy, <-hno]
 have hyk:DkOk y:=by rw[<-hy];exact(LV hx who at_ hD i).1
 rw[hy];refine aw (ap (λc4=>?_) λc4=>?_);have hi1:i<D.length/16:=aq;obtain⟨E,hE⟩:∃E,(D.drop (16*i)).take 16=E:=⟨_,Z⟩
 have hEl:E.length=16:=by rw[<-hE,QaB,QaL];omega
 have hEb:By E:=by rw[<-hE];exact(hD.drop _).take _
 have hEs:bZ (aQ W0 R) (jk aD cD (16*i) 1) 1 (λx=>[bV x]) E:=by rw[<-hE];exact hs.sub aq hcD.1
 have hnx:ni x who at_ D (i+1)=if pI y who (at_+i) 16=0 then(sX y who (at_+i) E,none)else(y,some (16*i)):=by
  rw[ni,hwi];dsimp only;rw[hE,hEl]
 refine ac (mu (16*i)) ?_;refine bH [rq] 24 λhS=>?_;refine aj 0 13 hS ?_;refine aE 13 hS cK ?_;refine aj 14 6 hS ?_;refine aE 20 hS (eX (16*i+16)) ?_;refine aE 21 hS (Kj jf ku Z (i:=16*i) (h:=16*i+16) Z Z Z Z aq aq) ?_;rw[show 16*i+16-16*i=E.length by omega];refine co 22 (ar call484 (b0N dd y hyk who ((at_:Int)+(i:Int)) (jk aD cD (16*i) 1) (cD-16*i) E hEb aq hEs.weak)) ?_;clear hS;rintro _ B_ ⟨rfl,hB_⟩;subst hB_;rw[hEl];refine⟨aW,λhS=>?_⟩;refine aj 23 1 hS ?_;refine aS (ap (λc7=>?_) λc7=>?_);refine aJ aR (bJ (.cons (bX AU yO Z Z) .nil) ?_);have hq:¬pI y who (at_+i) 16=0:=by first|exact c7|simpa using c7
 rw[Qab hq]at hnx;have hB:nj who at_ D x fr d=⟨1,16*i,0,fr,d,y⟩:=by rw[nj,Qad hw,b1V hnx aq]
 have hWD:sX y who (at_+i) E=y:=by rw[sX,hEl,Qab hq]
 rw[hB,hWD];exact ax;have hq:pI y who (at_+i) 16=0:=by first|exact QaH.1 c7|simpa using c7
 rw[Qad hq]at hnx;have hn1:(ni x who at_ D (i+1)).1=sX y who (at_+i) E:=by rw[hnx]
 rw[<-hn1];exact ac cK (d8 (i+1) (⟨aq,by rw[hnx]⟩));obtain rfl:i=D.length/16:=aq;have hB:nj who at_ D x fr d=⟨0,D.length,0,fr,d,y⟩:=by rw[nj,Qad hw,hwi]
 rw[hB];exact aJ aR (bJ (.cons (bX AU yO Z Z) .nil) ax)
theorem b1Y p:sQ W0 469 [p] R (.agg (y9 2 0 0).toArray) R:=by refine am func469 ntmps469 ?_;refine bU λa=>?_;exact aJ aR (bJ (.cons (bX AU yO Z Z) .nil) ax)
def wH(what:Nat):FuncId:=if what=0 then 467 else if what=1 then 468 else 469
theorem b1Z what:∀a w,(callFunc (wH what) a).run Tryz.prog w=.ok (.enter (wH what) a) w:=by unfold wH;split;exact call467;split;exact call468;exact call469
theorem b10 rq pv dd nL c nD cD room what a aD who at_:sQ W0 426 [pQ rq] (pt rq (oU pv dd a nL c who what at_ aD nD cD room)::R) (.func (.func (wH what)) #[pQ rq] #[]) (pt rq (oU pv dd a nL c who what at_ aD nD cD room)::R):=by refine am func426 ntmps426 ?_;apply ap<;>intro e;refine ag ?_;have b:what=0:=aq;rw[wH,Qad b];exact ax;apply ap<;>intro f;refine ag ?_;have b:¬what=0:=aq;have d:what=1:=aq;rw[wH,Qab b,Qad d];exact ax;refine ag ?_;have b:¬what=0:=aq;have d:¬what=1:=aq;rw[wH,Qab b,Qab d];exact ax
theorem b15 W0 R rq pv dd ps pm d c cb room what a ab fr pg(h:Pgs pg)(u:bD fr)(w:d<4096)l(A:∀y∈l,y.ok)(C:l.length≤9)x(s:DkOk x)who(b:Nat)(e:b<4294967296)(F:1≤room/\room≤38654705664)
    G(H:By G)(M:8≤G.length/\G.length≤512)(g:G.length≤cb/\cb≤maxLen)(I:Dx ab (bW G))r(i:mc pg who b what room l (G.drop 8) x fr d=r):
    bE Tryz.prog W0 (wH what) ([pQ rq]++[]++[]) (pt rq (oU pv dd a l.length c who what b (jk ab cb 8 1) (G.length-8) (cb-8) room)::osl 5 1 (.slice ab G.length cb) (bW G)::osl 436 4 (.slice a l.length c) (l.flatMap fq)::dQ dd x::df pv ps pm d fr pg R)
      (λv B=>v=.agg (y9 r.how r.m r.t).toArray/\B=pt rq (oU pv dd a l.length c who what b (jk ab cb 8 1) (G.length-8) (cb-8) room)::osl 5 1 (.slice ab G.length cb) (bW G)::osl 436 4 (.slice a l.length c) (l.flatMap fq)::dQ dd r.x::df pv ps pm r.d r.fr pg R):=by
 subst i;have f:(G.drop 8).length=G.length-8:=QaL ..;unfold wH mc;by_cases j:what=0;subst j;rw[Qad Z,Qad Z];refine ig (B:=pt rq (oU pv dd a l.length c who 0 b (jk ab cb 8 1) (G.length-8) (cb-8) room)::osl 436 4 (.slice a l.length c) (l.flatMap fq)::dQ dd x::df pv ps pm d fr pg (osl 5 1 (.slice ab G.length cb) (bW G)::R)) inferInstance ?_;refine cF (b1W rq pv dd ps pm d c (cb-8) (G.length-8) room a (jk ab cb 8 1) fr pg h u w l A C x s who b e F) λv B k=>?_;obtain⟨rfl,rfl⟩:=k;exact ax;rw[Qab j,Qab j];by_cases o:what=1
 · subst o
   rw[Qad Z,Qad Z];obtain⟨D,p⟩:∃D,G.drop 8=D:=⟨_,Z⟩
   have q:By D:=by rw[<-p];exact H.drop 8
   have J:bZ (aQ W0 (osl 5 1 (.slice ab G.length cb) (bW G)::osl 436 4 (.slice a l.length c) (l.flatMap fq)::df pv ps pm d fr pg R)) (jk ab cb 8 1) 1 (λx=>[bV x]) D:=by
    rw[<-p];exact Sp (tI I (mw (E:=5) (sz:=1) (a:=ab) (n:=G.length) (c:=cb)) (λ_=>Z) (tL G).symm cl) g.1 aq
   rw[p]at f ⊢;rw[<-f];refine ig (B:=pt rq (oU pv dd a l.length c who 1 b (jk ab cb 8 1) D.length (cb-8) room)::dQ dd x::osl 5 1 (.slice ab G.length cb) (bW G)::osl 436 4 (.slice a l.length c) (l.flatMap fq)::df pv ps pm d fr pg R) inferInstance ?_;refine cF (b1X rq pv dd c (cb-8) room a (jk ab cb 8 1) l.length 1 x s who b e D q aq ⟨aq,aq⟩ pg l fr d J) λv B k=>?_;obtain⟨rfl,rfl⟩:=k;have K:(nj who b D x fr d).fr=fr:=by unfold nj;split<;>(try split)<;>rfl
   have L:(nj who b D x fr d).d=d:=by unfold nj;split<;>(try split)<;>rfl
   rw[K,L];exact ax
 rw[Qab o,Qab o];exact b1Y _
theorem b16 rq pv dd ps pm d c cD nD room what a aD fr pg(h:Pgs pg)(i:bD fr)(j:d<4096)l(k:∀y∈l,y.ok)(q:l.length≤9)who at_(r:1≤room/\room≤38654705664)how m t(s:how≤2):sQ W0 427 [pQ rq,.agg (y9 how m t).toArray] (osl 436 4 (.slice a l.length c) (l.flatMap fq)::pt rq (oU pv dd a l.length c who what at_ aD nD cD room)::df pv ps pm d fr pg R) (.tuple #[]) (osl 436 4 (.slice a l.length c) (l.flatMap fq)::pt rq (oU pv dd a l.length c who what at_ aD nD cD room)::df pv ps pm (eZ fr pg d l (room-1:Nat) [how] l.length).2.2.2 (eZ fr pg d l (room-1:Nat) [how] l.length).2.2.1 pg R):=by refine iW func427 ntmps427 Z Z ?_;refine aG (aM ?_);refine dT (l8 Z) λo=>?_;refine aI (aA ?_);refine oB (E:=436) (sz:=4) (a:=a) (c:=c) (n:=l.length) (ys:=l.flatMap fq) (λf=>?_);refine bH [rq,o] 18 λe=>?_;refine aj 0 12 e ?_;refine aE 12 e (mt (room-1)) ?_;refine aj 13 2 e ?_;refine aE 15 e (cv (JY aq)) ?_;refine iw 16 ld Z Z (lG jf ku zeroValue5 Z Z Z Z Z cl cl) Z ?_;clear e;rintro _ _ ⟨g,rfl,rfl⟩;refine⟨aW,λe=>?_⟩;refine bQ 17 (dF Yi (Lv pv ps pm d c 1 a (some ⟨g,0,none⟩) fr pg h i j l (tI f (mw (E:=436) (sz:=4) (a:=a) (n:=l.length) (c:=c)) (λ_=>Z) Z cl) k aq ((room-1:Nat):Int) aq [how] (λy p=>by simp at p;omega) (Eu (eQ (b:=g))) n4 n4)) λe=>?_;refine aS (bP (.inr Z) .nil ?_);exact ax
def oV(fr:List az)(pg:List Pl)(l:List Dsc):List Nat:=iN fr pg l 512 l.length
def rH(fr:List az)(pg:List Pl)(l:List Dsc):Bool:=decide (8≤(oV fr pg l).length/\1≤g8 l true)
@[reducible] def LW(rq pv dd c cb:Nat)(a ab:Option Addr)(who:Int)(l:List Dsc)(G:List Nat):List HP:=[pt rq (oU pv dd a l.length c who (jv (G.take 8) 0) (jv (G.take 8) 1) (jk ab cb 8 1) (G.length-8) (cb-8) (g8 l true)),osl 5 1 (.slice ab G.length cb) (bW G)]
theorem b17 pv dd ps pm d c a fr pg(h:Pgs pg)(hF:bD fr)l(hl:∀y∈l,y.ok)(hn:l.length≤9)who G(hG:oV fr pg l=G):sP W0 424 [pQ pv,pQ dd,.slice a l.length c,iQ who] (osl 436 4 (.slice a l.length c) (l.flatMap fq)::df pv ps pm d fr pg R) (λv B=>∃p Y,v=.tuple #[.pointer p,.bool (rH fr pg l)]/\B=Y++(osl 436 4 (.slice a l.length c) (l.flatMap fq)::df pv ps pm d fr pg R)/\(rH fr pg l=false->Y=[])/\(rH fr pg l=true->∃rq ab cb,p=some ⟨rq,0,none⟩/\Dx ab (bW G)/\G.length≤cb/\cb≤maxLen/\Y=LW rq pv dd c cb a ab who l G)):=by
 have hGb:By G:=by rw[<-hG];exact C9 hF pg l 512 l.length
 have hGl:G.length≤512:=by
  have:=(Ca fr pg l 512 l.length).2;rw[<-hG,oV];omega
 have hlw:g8 l true≤38654705664:=by
  have:=Ll hl true;omega
 have hX:rH fr pg l=decide (8≤G.length/\1≤g8 l true):=by rw[rH,hG]
 refine am func424 ntmps424 ?_;refine oB (E:=436) (sz:=4) (a:=a) (c:=c) (n:=l.length) (ys:=l.flatMap fq) (λhf1=>?_);refine aw (aF Z (dF call429 (Sn pv ps pm d c a fr pg h hF l (tI hf1 (mw (E:=436) (sz:=4) (a:=a) (n:=l.length) (c:=c)) (λ_=>Z) Z cl) hl aq 512 cl)) ?_);rintro _ B_ ⟨ab,cb,rfl,hB_⟩;subst hB_;rw[show iN fr pg l 512 l.length=G from hG];refine aw (ao (ar call428 (RS a c l true hl aq)) ?_);apply fC<;>intro g3_4;refine aZ ?_;have hb:rH fr pg l=false:=by rw[hX];exact Qat aq
 rw[hb];refine⟨_,⟨none,[],Z,Z,(λ_=>Z),(λq=>aap)⟩,?_⟩;simp only[Qar];exact IO;apply ap<;>intro c3;refine aZ ?_;have hb:rH fr pg l=false:=by rw[hX];exact Qat aq
 rw[hb];refine⟨_,⟨none,[],Z,Z,(λ_=>Z),(λq=>aap)⟩,?_⟩;simp only[Qar];exact IO;have hb:rH fr pg l=true:=by rw[hX];exact Qav aq
 have h8:8≤G.length:=aq;have e8:(G.take 8).length=8:=aaz;have hw1:=BF (hGb.take 8) 1;refine oB (E:=5) (sz:=1) (a:=ab) (c:=cb) (n:=G.length) (ys:=bW G) (λhf2=>?_);refine qZ (E:=5) (sz:=1) (a:=ab) (c:=cb) (n:=G.length) (λhcap=>?_);refine aw (ac (qd jf ku Z Z (h:=8) Z aq) ?_);refine aF Z (aK call466 (e8▸Qy ab cb (G.take 8) ((tI (xs:=G) (f:=λx=>[bV x]) hf2 (mw (E:=5) (sz:=1) (a:=ab) (n:=G.length) (c:=cb)) (λ_=>Z) (tL G).symm cl).take 8) (hGb.take 8) aq aq)) ?_;rintro _ B_ ⟨aw,cw,rfl,hB_⟩;subst hB_;rw[show 8/4=2 from Z];refine oB (E:=62) (sz:=1) (a:=aw) (c:=cw) (n:=2) (λhf3=>?_);obtain⟨gw,rfl⟩:=BA hf3 (by simp[w0]);refine aw (dY [(gw,0,[.int .u32 (jv (G.take 8) 0:Nat),.int .u32 (jv (G.take 8) 1:Nat)])] 18 mixed Z (dA (mw (E:=62) (sz:=1) (a:=some ⟨gw,0,none⟩) (n:=2) (c:=cw)) bI) (λhS=>?_));refine aj 0 5 hS ?_;refine aE 5 hS (kP uD aX Z Z (i:=0) Z cl dg) ?_;refine aj 6 2 hS ?_;refine aE 8 hS (kP uD aX Z Z (i:=1) Z cl dg) ?_;refine aj 9 1 hS ?_;refine aE 10 hS (cv (bS aq)) ?_;refine aj 11 1 hS ?_;refine aE 12 hS (qm jf ku Z (i:=8) Z Z aq Z) ?_;refine aj 13 2 hS ?_;refine co 15 (l8 Z) ?_;clear hS;rintro _ _ ⟨rq,rfl,rfl⟩;refine⟨(dA (mw (E:=62) (sz:=1) (a:=some ⟨gw,0,none⟩) (n:=2) (c:=cw)) bI),λhS=>?_⟩;refine aj 16 2 hS ?_;refine aS (aZ ?_);rw[hb];refine⟨_,⟨_,LW rq pv dd c cb a ab who l G,Z,Z,(λq=>aap),(λ_=>⟨rq,ab,cb,Z,hf2,hcap.1,hcap.2,Z⟩)⟩,?_⟩;simp only[LW,Qau,Qar];exact IO
structure BoR where
  m : Nat
  w : Int
  fr : List az
  d : Nat
  s : QS
  x : Dk
@[reducible] def fX(pg:List Pl)(who:Int)(l:List Dsc)(x:Dk)(fr:List az)(d:Nat):BlR:=mc pg who (jv ((oV fr pg l).take 8) 1:Nat) (jv ((oV fr pg l).take 8) 0) (g8 l true) l ((oV fr pg l).drop 8) x fr d
@[reducible] def pM(pg:List Pl)(l:List Dsc)(r:BlR):Cb:=eZ r.fr pg r.d l ((g8 l true-1:Nat):Int) [r.how] l.length
@[reducible] def ya(pg:List Pl)(h:Nat)(l:List Dsc)(r:BlR)(s:QS):DnR:=fD (pM pg l r).2.2.1 pg (pM pg l r).2.2.2 s (ed (h:Nat)) (ed ((r.t+1:Nat):Int))
def lM(pg:List Pl)(who:Int)(h:Nat)(l:List Dsc)(s:QS)(x:Dk)(fr:List az)(d:Nat):BoR:=
  if rH fr pg l then⟨(fX pg who l x fr d).m,(ya pg h l (fX pg who l x fr d) s).c,(ya pg h l (fX pg who l x fr d) s).fr,(ya pg h l (fX pg who l x fr d) s).d,(ya pg h l (fX pg who l x fr d) s).s,(fX pg who l x fr d).x⟩
  else⟨0,4,fr,d,sT s 4,x⟩
theorem Tb(a:bD fr)pg l:By (oV fr pg l):=C9 a pg l 512 l.length
theorem Tc fr pg l:(oV fr pg l).length≤512:=by grind[Ca,oV]
structure BoOk (fr : List az) (s : QS) (o : BoR) : Prop where
  frs : bD o.fr
  len : o.fr.length = fr.length
  d : o.d < 4096
  qs : QOk o.s
  r : o.s.r = s.r
  x : DkOk o.x
  m : o.m ≤ 512
theorem Td{pg who h l s x fr d}(c:QOk s)(f:DkOk x)(a:bD fr)(i:d<4096):BoOk fr s (lM pg who h l s x fr d):=by unfold lM;split;have g:=Tc fr pg l;have b:=T9 (pg:=pg) (who:=who) (at_:=(jv ((oV fr pg l).take 8) 1:Nat)) (what:=jv ((oV fr pg l).take 8) 0) (room:=g8 l true) (l:=l) (D:=(oV fr pg l).drop 8) f a i ((Tb a pg l).drop 8) mv;have e:=zZ (pg:=pg) (l:=l) (from_:=((g8 l true-1:Nat):Int)) (bs:=[(fX pg who l x fr d).how]) b.frs b.d l.length;have z:=Si (pg:=pg) (s:=s) (h:=ed (h:Nat)) (n:=ed (((fX pg who l x fr d).t+1:Nat):Int)) e.frs e.d c;have j:=T5 (pM pg l (fX pg who l x fr d)).2.2.1 pg (pM pg l (fX pg who l x fr d)).2.2.2 s (ed (h:Nat)) (ed (((fX pg who l x fr d).t+1:Nat):Int));exact⟨z.1,z.2.1.trans (e.len.trans b.len),z.2.2.1,z.2.2.2,j,b.x,b.m⟩;exact⟨a,Z,i,b0v c 4,by unfold sT;split<;>(try split)<;>rfl,f,Qay _⟩
theorem b18 bq pv dd ps pm d c hd_ a fr pg(h:Pgs pg)(hF:bD fr)(hd:d<4096)l(hl:∀y∈l,y.ok)(hn:l.length≤9)s(hs:QOk s)x(hx:DkOk x)who o(ho:lM pg who hd_ l s x fr d=o):sQ W0 376 [.pointer (some ⟨pv,0,none⟩),.pointer (some ⟨bq,0,none⟩),.pointer (some ⟨dd,0,none⟩),.int .i64 who,.int .i64 hd_,.slice a l.length c] (osl 436 4 (.slice a l.length c) (l.flatMap fq)::pt bq (qO true s)::dQ dd x::df pv ps pm d fr pg R) (.tuple #[.int .i64 o.m,.int .i64 o.w]) (pt bq (qO true o.s)::dQ dd o.x::df pv ps pm o.d o.fr pg R):=by
 obtain⟨G,hG⟩:∃G,oV fr pg l=G:=⟨_,Z⟩
 have hGb:By G:=by rw[<-hG];exact Tb hF pg l
 have hGl:G.length≤512:=by rw[<-hG];exact Tc fr pg l
 have hX:rH fr pg l=decide (8≤G.length/\1≤g8 l true):=by rw[rH,hG]
 have hlw:g8 l true≤38654705664:=by
  have:=Ll hl true;omega
 refine jj 12 func376 ntmps376 ?_;refine aF Z (gU call424 Z (b17 pv dd ps pm d c a fr pg h hF l hl hn who G hG)) ?_;rintro _ B_ ⟨p,Y,rfl,hB_,hno,hye⟩;subst hB_;refine au 14 (aB Z (λc2=>?_) λc2=>?_);have hb:rH fr pg l=false:=aam;obtain rfl:=hno hb;simp only[Qar];have hO:o=⟨0,4,fr,d,sT s 4,x⟩:=by rw[<-ho,lM,hb];rfl
 subst hO;refine au 3 (cW 10 (eg call425 Z (b0x bq s 4)) ?_);exact aZ ax;have hb:rH fr pg l=true:=aam;obtain⟨rq,ab,cb,rfl,hf,hc1,hc2,rfl⟩:=hye hb;simp only[Qau,Qar];have hbb:8≤G.length/\1≤g8 l true:=by rw[hX]at hb;exact Qaw hb
 have hw1:=BF (hGb.take 8) 1;obtain⟨r,hr⟩:∃r,mc pg who (jv (G.take 8) 1:Nat) (jv (G.take 8) 0) (g8 l true) l (G.drop 8) x fr d=r:=⟨_,Z⟩
 have hrk:BlOk fr r:=by rw[<-hr];exact T9 hx hF hd (hGb.drop 8) abq
 have hO:o=⟨r.m,(ya pg hd_ l r s).c,(ya pg hd_ l r s).fr,(ya pg hd_ l r s).d,(ya pg hd_ l r s).s,r.x⟩:=by
  rw[<-ho,lM,Qad hb];unfold fX;rw[hG,hr]
 subst hO;have hrm:=hrk.m;have hrt:=hrk.t;have hsc:=zZ (pg:=pg) (l:=l) (from_:=((g8 l true-1:Nat):Int)) (bs:=[r.how]) hrk.frs hrk.d l.length;refine au 5 (cW 6 (eg call426 Z (b10 rq pv dd l.length c (G.length-8) (cb-8) (g8 l true) (jv (G.take 8) 0) a (jk ab cb 8 1) who (jv (G.take 8) 1))) ?_);refine eS (a7y (us:=[.pointer (some ⟨rq,0,none⟩)]) (cs:=[]) Z (b1Z _) Z (b15 W0 _ rq pv dd ps pm d c cb (g8 l true) (jv (G.take 8) 0) a ab fr pg h hF hd l hl hn x hx who (jv (G.take 8) 1) hw1 ⟨hbb.2,hlw⟩ G hGb ⟨hbb.1,hGl⟩ ⟨hc1,hc2⟩ hf r hr)) ?_;refine dT (cP c2v) λbt=>?_;refine fw 6 (eN yO Z Z Z Z Z) ?_;refine cW 3 (PI call427 Z (b16 rq pv dd ps pm r.d c (cb-8) (G.length-8) (g8 l true) (jv (G.take 8) 0) a (jk ab cb 8 1) r.fr pg h hrk.frs hrk.d l hl hn who (jv (G.take 8) 1) ⟨hbb.2,hlw⟩ r.how r.m r.t hrk.how)) ?_;refine dY [(bt,0,_)] 11 mixed Z (bj bI) (λhS=>?_);refine aj 0 7 hS ?_;refine cI 7 Z Z Z hS (dI Z Z (n7:IntKind.wrap .i64 ((r.t:Int)+1)=((r.t+1:Nat):Int))) ?_;refine iX 8 Z Z (gU call280 Z (Sj bq pv ps pm (pM pg l r).2.2.2 (pM pg l r).2.2.1 pg h hsc.frs hsc.d s hs (hd_:Nat) ((r.t+1:Nat):Int))) (bj bI) λhS=>?_;refine aj 9 2 hS ?_;exact eY (au 2 (aZ ax))
structure SbS where
  fr : List az
  d : Nat
  s : QS
  x : Dk
  c : Nat
  n : Nat
  b : Nat
  w : Int
@[reducible] def SbS.v(x:SbS):List Value:=[.int .i64 x.c,.int .i64 x.n,.int .i64 x.b,.int .i64 x.w]
@[reducible] def oW(pg:List Pl)(who:Int)(X:SbS):BoR:=lM pg who (fh X.fr pg X.s).1 (fh X.fr pg X.s).2.1 (kW X.fr pg X.s) X.x X.fr X.d
def lN(pg:List Pl)(who:Int)(X:SbS):Bool×SbS:=
  if (fh X.fr pg X.s).2.2.1 then(zB (oW pg who X).w,⟨(oW pg who X).fr,(oW pg who X).d,(oW pg who X).s,(oW pg who X).x,X.c+1,X.n+(fh X.fr pg X.s).2.1.length,X.b+(oW pg who X).m,(oW pg who X).w⟩)
  else(false,{ X with s:=kW X.fr pg X.s,w:=(fh X.fr pg X.s).2.2.2 })
theorem b2a pg who X:lN pg who X=if (fh X.fr pg X.s).2.2.1 then(zB (oW pg who X).w,⟨(oW pg who X).fr,(oW pg who X).d,(oW pg who X).s,(oW pg who X).x,X.c+1,X.n+(fh X.fr pg X.s).2.1.length,X.b+(oW pg who X).m,(oW pg who X).w⟩)
  else(false,{ X with s:=kW X.fr pg X.s,w:=(fh X.fr pg X.s).2.2.2 }):=Z
def kI(pg:List Pl)(who:Int):Nat->SbS->SbS
 |0,x=>x
 |k+1,x=>if (lN pg who x).1 then kI pg who k (lN pg who x).2 else(lN pg who x).2
theorem Te{pg who k x}(a:0<k)(h:(lN pg who x).1=false):kI pg who k x=(lN pg who x).2:=by
 obtain⟨j,rfl⟩:∃j,k=j+1:=⟨k-1,aq⟩
 rw[kI,h];rfl
theorem b2b{pg who k x}(a:0<k)(h:(lN pg who x).1=true):kI pg who k x=kI pg who (k-1) (lN pg who x).2:=by
 obtain⟨j,rfl⟩:∃j,k=j+1:=⟨k-1,aq⟩
 rw[kI,h];rfl
structure SbOk (len : Nat) (r : Rg3) (X : SbS) : Prop where
  frs : bD X.fr
  len : X.fr.length = len
  d : X.d < 4096
  qs : QOk X.s
  r : X.s.r = r
  x : DkOk X.x
theorem LX{len:Nat}{r:Rg3}{X:SbS}(h:SbOk len r X):SbOk len r (lN pg who X).2/\(lN pg who X).2.c≤X.c+1/\(lN pg who X).2.n≤X.n+9/\(lN pg who X).2.b≤X.b+512:=by have f:=HB h.frs pg X.s;have a:=Td (pg:=pg) (who:=who) (h:=(fh X.fr pg X.s).1) (l:=(fh X.fr pg X.s).2.1) (zY (fr:=X.fr) (pg:=pg) h.qs) h.x h.frs h.d;have e:=LQ X.fr pg X.s;unfold lN;split;exact⟨⟨a.frs,a.len.trans h.len,a.d,a.qs,a.r.trans (e.trans h.r),a.x⟩,Qai _,QcU f.2 _,QcU a.m _⟩;exact⟨⟨h.frs,h.len,h.d,zY h.qs,e.trans h.r,h.x⟩,Qdd _,Nat.le_add_right _ _,Nat.le_add_right _ _⟩
theorem b2c bq pv dd ps_ pm pg(h:Pgs pg)who fr d(sd sa su n last put:Nat)on br x(hn:n≤8)(hr:Rg3.ok ⟨sd,sa,su,n⟩)len(hx:SbOk len ⟨sd,sa,su,n⟩ ⟨fr,d,⟨⟨sd,sa,su,n⟩,on,br,last,put⟩,x,0,0,0,0⟩):sP W0 306 [pQ pv,pQ bq,pQ dd,iQ who] (pt bq (qO true ⟨⟨sd,sa,su,n⟩,on,br,last,put⟩)::dQ dd x::df pv ps_ pm d fr pg R) (λv B=>∃y,y=kI pg who n ⟨fr,d,⟨⟨sd,sa,su,n⟩,on,br,last,put⟩,x,0,0,0,0⟩/\v=.agg (SbS.v y).toArray/\B=pt bq (qO true y.s)::dQ dd y.x::df pv ps_ pm y.d y.fr pg R):=by
 obtain⟨x0,hx0⟩:∃x0:SbS,x0=⟨fr,d,⟨⟨sd,sa,su,n⟩,on,br,last,put⟩,x,0,0,0,0⟩:=⟨_,Z⟩
 rw[<-hx0]at hx ⊢;refine am func306 ntmps306 ?_;refine bU λb8=>?_;refine bU λb9=>?_;refine ao (ar call278 (Sb bq ⟨⟨sd,sa,su,n⟩,on,br,last,put⟩)) ?_;refine ac (Sq Z Ob Z NP AW TakeL.eq) ?_;refine ac (Hz Z Oa Z cM Z) ?_;refine fI (λX:Nat×SbS=>X.1≤n/\kI pg who (n-X.1) X.2=kI pg who n x0/\SbOk len ⟨sd,sa,su,n⟩ X.2/\X.2.c≤X.1/\X.2.n≤9*X.1/\X.2.b≤512*X.1/\X.2.w=0) (λX=>[(0,pQ pv),(1,pQ bq),(2,pQ dd),(3,iQ who),(8,pQ b8),(9,pQ b9),(18,iQ n),(19,iQ X.1)]) (λX=>pt b8 (ae [iQ 0,iQ 0,iQ 0,iQ 0] 230)::pt b9 (ae X.2.v 230)::pt bq (qO true X.2.s)::dQ dd X.2.x::df pv ps_ pm X.2.d X.2.fr pg R) (λX=>n-X.1) (0,x0) ?_ ?_ ?_ ?_;exact⟨Qay _,Z,hx,aa0,aa0,aa0,by subst hx0;rfl⟩
 · exact ai
 subst hx0;exact inferInstance;intro ⟨i,X⟩ ⟨hi,hgo,hok,hc,hnn,hb,hwx⟩;dsimp only at hi hgo hok hc hnn hb hwx ⊢;obtain⟨fx,dx,sx,px,cx,nx,bx,wx⟩:=X;obtain⟨hF,hlen,hd,hs,hsr,hps⟩:=hok;dsimp only at hF hlen hd hs hsr hps hc hnn hb hwx ⊢;subst hwx;refine aw (aB Z (λc3=>?_) λc3=>?_);refine au 5 ?_;obtain⟨hl9,hl8⟩:=HB hF pg sx;have hst1:=b2a pg who ⟨fx,dx,sx,px,cx,nx,bx,0⟩;have hokn:=LX (pg:=pg) (who:=who) (X:=⟨fx,dx,sx,px,cx,nx,bx,0⟩) (len:=len) (r:=⟨sd,sa,su,n⟩) ⟨hF,hlen,hd,hs,hsr,hps⟩;dsimp only[oW]at hst1;refine aM (aa Z (aV Z) (aa Z (aV Z) ?_));refine aF Z (gU call279 Z (Sl bq pv ps_ pm dx fx pg h hF sx hs (by rw[hsr];exact hr))) ?_;rintro _ B_ ⟨a,c,rfl,hB_⟩;subst hB_;obtain⟨r,hr⟩:∃r,fh fx pg sx=r:=⟨_,Z⟩
 rw[hr]at hl9 hl8 hst1 ⊢;refine aw (aB Z (λc5=>?_) λc5=>?_);have ht:¬r.2.2.1=true:=aat;rw[Qab ht]at hst1;rw[Te aq (by rw[hst1]),hst1]at hgo;refine aw (eM (iG bu Z Z Z (Qaa Z) SetL.eq) ?_);rintro _ _ rfl;refine aI (aA (aG (aM (aa Z (q9 uy ny Z Z) ?_))));refine eM (eN ny Z Z Z Z Z) ?_;rintro _ _ rfl;refine aI (aA (dX (jS (pr (jS (jS (pr (jS (bJ (.cons (bX uy ny Z Z) .nil) ?_)))))))));exact⟨_,⟨_,hgo,Z,Z⟩,IO⟩;have ht:r.2.2.1=true:=aat;rw[Qad ht]at hst1;obtain⟨o,ho⟩:∃o,lM pg who r.1 r.2.1 (kW fx pg sx) px fx dx=o:=⟨_,Z⟩
 have hdo:=Td (pg:=pg) (who:=who) (h:=r.1) (l:=r.2.1) (zY (fr:=fx) (pg:=pg) hs) hps hF hd;rw[ho]at hst1 hdo;have hom:=hdo.m;refine fH (aA (aG (aM ?_)));refine aa Z (bT Z nB Z bu Z dg) ?_;refine aa Z (bO cM Z (aO Z)) ?_;refine aa Z (dI Z Z (n7:IntKind.wrap .i64 ((cx:Int)+1)=((cx+1:Nat):Int))) ?_;refine aa Z (bT Z nB Z bu Z dg) ?_;refine eM (iG bu Z Z Z (Qaa Z) SetL.eq) ?_;rintro _ _ rfl;refine aI (aA (aG (aM ?_)));refine aa Z (bT Z nB Z bu Z dg) ?_;refine aa Z (bO cM Z (aO Z)) ?_;refine aa Z (aV Z) (aa Z (Dl Ji Z) ?_);refine aa Z (dI Z Z (n7:IntKind.wrap .i64 ((nx:Int)+(r.2.1.length:Int))=((nx+r.2.1.length:Nat):Int))) ?_;refine aa Z (bT Z nB Z bu Z dg) ?_;refine aJ dr (aF Z (Dw call376 Z (b18 bq pv dd ps_ pm dx c r.1 a fx pg h hF hd r.2.1 hl9 hl8 (kW fx pg sx) (zY hs) px hps who o ho)) ?_);rintro _ B_ ⟨rfl,hB_⟩;subst hB_;refine aa Z (aV Z) (aa Z (jT Z Z) (aa Z (jT Z Z) (aa Z (aU Z) (aa Z (aU Z) (aI (aA (aG (aM ?_))))))));refine aa Z (bT Z nB Z bu Z dg) ?_;refine aa Z (bO cM Z (aO Z)) ?_;refine aa Z (aV Z) ?_;refine aa Z (dI Z Z (n7:IntKind.wrap .i64 ((bx:Int)+(o.m:Int))=((bx+o.m:Nat):Int))) ?_;refine aa Z (bT Z nB Z bu Z dg) ?_;refine aJ dr (ap (λc12=>?_) λc12=>?_);have hzc:zB o.w=false:=Qat c12;rw[hzc]at hst1;rw[Te aq (by rw[hst1]),hst1]at hgo;refine aJ dr (aJ aR (bJ (.cons (bX uy ny Z Z) .nil) ?_));exact⟨_,⟨_,hgo,Z,Z⟩,IO⟩;have hzc:zB o.w=true:=Qav (QaH.1 c12);have hw0:o.w=0:=QaH.1 c12;rw[hzc,hw0]at hst1;rw[b2b aq (by rw[hst1]),hst1]at hgo;rw[hst1]at hokn;refine ac cK (d8 (i+1,⟨o.fr,o.d,o.s,o.x,cx+1,nx+r.2.1.length,bx+o.m,0⟩) ?_);refine⟨aq,?_,hokn.1,by show cx+1≤i+1;omega,by show nx+r.2.1.length≤9*(i+1);omega,by show bx+o.m≤512*(i+1);omega,Z⟩;rw[show n-(i+1)=n-i-1 by omega];exact hgo;refine aw (aJ aR (bJ (.cons (bX uy ny Z Z) .nil) ?_));have h0:n-i=0:=aq;rw[h0]at hgo;have hgo0:(⟨fx,dx,sx,px,cx,nx,bx,0⟩:SbS)=kI pg who n x0:=hgo;exact⟨_,⟨_,hgo0,Z,Z⟩,IO⟩
def b2d(x:Rn):List Value:=[.int .i64 x.1,.int .i64 x.2.1,.int .i64 x.2.2]
def nY(rs:List Rn):Nat->Option (List Rn×List Int)
 |0=>some ([],[])
 |k+1=>(nY rs k).bind λy=>if kR (rs.getD k (0,0,0)).1=true/\ju y.1 32 (rs.getD k (0,0,0)).2.1 (rs.getD k (0,0,0)).2.2 k=0 then some (kw y.1 32 (rs.getD k (0,0,0)).2.1 (rs.getD k (0,0,0)).2.2 k,y.2++[(rs.getD k (0,0,0)).1])else none
def md(rs:List Rn):Option Dk:=if 8<rs.length then none else(nY rs rs.length).map λy=>⟨y.1,y.2,List.replicate 32 nW⟩
theorem Tf(h:nY rs i=none):∀{k:Nat},i≤k->nY rs k=none:=by
 intro k a
 induction k with
 |zero=>rwa[show i=0 by omega]at h
 |succ k b=>
  rcases Qaz i (k+1)with q|q;grind[nY];grind
theorem b2e{n f k w m}(h:∀x∈rs,0≤x.2.2/\x.2.2<m)(a:0≤w/\w≤m):∀x∈kw rs n f k w,0≤x.2.2/\x.2.2<m+1:=by grind[kw,ng]
structure DnOk (k : Nat) (y : List Rn × List Int) : Prop where
  tb : v4 y.1
  rl : y.1.length ≤ k
  ll : y.2.length = k
  wh : ∀ x ∈ y.1, 0 ≤ x.2.2 ∧ x.2.2 < (k : Int)
theorem LY rs:∀{k:Nat} {y:List Rn×List Int},nY rs k=some y->DnOk k y
 |0,y,h=>by cases h;exact⟨λx a=>by simp at a,Qai _,Z,λx a=>by simp at a⟩
 |k+1,y,h=>by
  rw[nY]at h
  cases e:nY rs k with
  |none=>rw[e]at h;cases h
  |some z=>
   rw[e]at h;obtain⟨c,g,d,f⟩:=LY rs e;have b:(if kR (rs.getD k (0,0,0)).1=true/\ju z.1 32 (rs.getD k (0,0,0)).2.1 (rs.getD k (0,0,0)).2.2 k=0 then some (kw z.1 32 (rs.getD k (0,0,0)).2.1 (rs.getD k (0,0,0)).2.2 k,z.2++[(rs.getD k (0,0,0)).1])else none)=some y:=h;split at b;cases b;refine⟨Qg c cl,Qbe Qh aq,by rw[Qaf,d];rfl,λx a=>?_⟩;have:=b2e f aq x a;omega;cases b
theorem b2f{i w}(h:qn rs i=some w):∃x∈rs,x.2.2=w:=by
 induction rs with
 |nil=>cases h
 |cons y l a=>
  rw[qn]at h;split at h;grind;grind
theorem LZ{x}(h:md rs=some x):DkOk x:=by
 unfold md at h;split at h;cases h
 rename_i c
 cases e:nY rs rs.length with
 |none=>rw[e]at h;cases h
 |some y=>
  rw[e]at h;cases h;obtain⟨a,d,f,g⟩:=LY rs e;refine⟨a,by show y.1.length≤8;omega,by show y.2.length≤8;omega,λi w j=>?_,Z,λb k=>?_⟩;grind[b2f];grind[Ss]
theorem b2g:rF (List.replicate 32 nW)=λ_=>none:=by grind[rF,lq]
theorem b2h a c rs(hs:bZ (aQ W0 R) a 3 b2d rs)(hl:rs.length<9223372036854775808):sP W0 100 [.slice a rs.length c] R (λv B=>∃p Y,v=.tuple #[.pointer p,iQ (if (md rs).isSome then 0 else 14)]/\B=Y++R/\(md rs=none->p=none/\Y=[])/\(∀x,md rs=some x->∃d,p=some ⟨d,0,none⟩/\Y=[dQ d x])):=by
 have hno:∀{p:Option Addr} {Y:List HP} (h:md rs=none),p=none->Y=[]->(md rs=none->p=none/\Y=[])/\(∀x,md rs=some x->∃d,p=some ⟨d,0,none⟩/\Y=[dQ d x]):=λh h1 h2=>⟨λ_=>⟨h1,h2⟩,λx hx=>by rw[h]at hx;cases hx⟩
 refine am func100 ntmps100 ?_;refine ap (λc1=>?_) λc1=>?_;refine aZ ?_;have hN:md rs=none:=by rw[md,Qad aq]
 rw[hN];refine⟨_,⟨none,[],Z,Z,hno hN Z Z |>.1 |> λq=>(λ_=>⟨Z,Z⟩),(λx hx=>aa2)⟩,?_⟩;simp only[Qar];exact IO;have h8:rs.length≤8:=aq;have hD:md rs=(nY rs rs.length).map λy=>⟨y.1,y.2,List.replicate 32 nW⟩:=by rw[md,Qab aq]
 refine aF Z (aK call82 (Qf 32 cl)) ?_;rintro _ B_ ⟨bt,rfl,hB_⟩;obtain rfl:=hB_.symm;refine aw (dT (a9w) λbm=>?_);refine aa Z (eH O6 zeroValue289 (aT NV (aT Xk (aT Xl eG))) (cJ Z NV Z Z (Qaa Z) SetL.eq (cJ Z Xl Z Z (Qaa Z) SetL.eq eE))) ?_;refine aF Z (l8 Z) ?_;rintro _ _ ⟨d,rfl,rfl⟩;refine aw (fI (λX:Nat×List Rn×List Int×Option Addr×Nat=>X.1≤rs.length/\nY rs X.1=some (X.2.1,X.2.2.1)) (λX=>[(4,pQ bt),(6,pQ d),(20,.slice a rs.length c),(21,iQ rs.length),(22,iQ X.1)]) (λX=>pt d (wy bt bm X.2.2.2.1 X.2.2.1.length X.2.2.2.2)::my bt (X.2.1,32)::osl 3 1 (.slice X.2.2.2.1 X.2.2.1.length X.2.2.2.2) (X.2.2.1.flatMap tJ)::mH bm (λ_=>none)::R) (λX=>rs.length-X.1) (0,[],[],none,0) ?_ ?_ ?_ ?_);exact⟨Qay _,Z⟩
 · repeat (first|exact cQ|refine cA rfl ?_)
 show Ent _ (pt d (wy bt bm none 0 0)::my bt ([],32)::osl 3 1 (.slice none 0 0) []::mH bm (λ_=>none)::R);exact(eW (E:=3) (sz:=1) (k:=ent_refl)).trans inferInstance;intro ⟨k,t,lb,aL,cL⟩ ⟨hk,hdn⟩;dsimp only at hk hdn ⊢;obtain⟨h1,h2,h3,h4⟩:=LY rs hdn;dsimp only at h1 h2 h3 h4;refine aw (ap (λc6=>?_) λc6=>?_);have hk1:k<rs.length:=aq;obtain⟨g,o,rfl,hc⟩:=hs.at_ hk1;have hgk:rs.getD k (0,0,0)=rs[k]:=by simp[List.getD,hk1]
 obtain⟨x,hx⟩:∃x,rs[k]=x:=⟨_,Z⟩
 rw[hx]at hc hgk;have hst:nY rs (k+1)=if kR x.1=true/\ju t 32 x.2.1 x.2.2 k=0 then some (kw t 32 x.2.1 x.2.2 k,lb++[x.1])else none:=by
  rw[nY,hdn,hgk];rfl
 refine ac (cu hk1) ?_;refine ac (cV hc.weak) ?_;refine bU λbr=>?_;refine eM (eN NW Z Z Z Z Z) ?_;rintro _ _ rfl;refine aI (aA (aG (aG (aM ?_))));refine aa Z (bT Z B6 Z bu Z dg) ?_;refine aa Z (bO cM Z (aO Z)) ?_;refine aF Z (gx call102 Z (PV x.1)) ?_;rintro _ B_ ⟨m,rfl,hm,hB_⟩;obtain rfl:=hB_.symm;refine aw (d7 Z Z Z (λg8_5=>?_) λg8_5=>?_);refine au 24 (aZ ?_);have hS:nY rs (k+1)=none:=by
  rw[hst,Qab];rintro⟨q1,q2⟩
  first
    |exact absurd q2 c8
    |(rw[q1]at hm;simp at hm;omega)
 have hN:md rs=none:=by rw[hD,Tf hS hk1];rfl
 rw[hN];refine⟨_,⟨none,[],Z,Z,(λ_=>⟨Z,Z⟩),(λx hx=>aa2)⟩,?_⟩;simp only[Qar];exact IO;refine aa Z (aV Z) (iu Z Z ?_);refine aa Z (bT Z B6 Z bu Z dg) ?_;refine iu Z Z (aa Z (bO cM Z (aO Z)) ?_);refine iu Z Z ?_;refine aa Z (bT Z B6 Z bu Z dg) ?_;refine iu Z Z (aa Z (bO cM Z (aO Z)) ?_);refine iu Z Z (aa Z (aV Z) (iu Z Z ?_));refine aF Z (eg call84 Z (Qi bt t 32 cl h1 aq x.2.1 x.2.2 k)) ?_;rintro _ B_ ⟨rfl,hB_⟩;obtain rfl:=hB_.symm;refine iu Z Z (aa Z (nI Z Z) (aa Z (uG Z Z) (aI (aA ?_))));refine aB Z (λc8=>?_) λc8=>?_;refine aG (aM (aa Z (aU Z) (aa Z (aU Z) (aI (aA (dX (jS (pr (jS (jS (pr (jS (aZ ?_)))))))))))));have hS:nY rs (k+1)=none:=by
  rw[hst,Qab];rintro⟨q1,q2⟩
  first
    |exact absurd q2 c8
    |(rw[q1]at hm;simp at hm;omega)
 have hN:md rs=none:=by rw[hD,Tf hS hk1];rfl
 rw[hN];refine⟨_,⟨none,[],Z,Z,(λ_=>⟨Z,Z⟩),(λx hx=>aa2)⟩,?_⟩;simp only[Qar];exact IO;refine fH (aA ?_);have hgo:kR x.1=true/\ju t 32 x.2.1 x.2.2 k=0:=by
  refine⟨?_,by first|exact QaH.1 c8|simpa using c8⟩;rw[<-Bool.not_eq_false];intro q;rw[q]at hm;simp at hm;omega
 rw[Qad hgo]at hst;refine bH [br] 12 λhS=>?_;refine aj 0 4 hS ?_;refine cI 5 Z Z Z hS (bT Z B6 Z bu Z dg) ?_;refine cI 6 Z Z Z hS (bO cM Z (d6 (k:=0) Z Z)) ?_;refine fp (is:=[4,7]) ld Z ⟨?_,?_,trivial⟩;refine dB (dJ (aY (aO Z))) ?_;clear hS;rintro _ _ ⟨rfl,rfl⟩;refine⟨aW,λhS=>?_⟩;refine iw 7 ld Z Z (lG jE bu pq Z Z Z Z Z cl cl) Z ?_;clear hS;rintro _ _ ⟨b4,rfl,rfl⟩;refine⟨aW,λhS=>?_⟩;refine co 8 (fR (sz:=1) (by_:=8) (info:=Tryz.t3) jE ld Z Z Z Z cl Z Z eQ Z Z n5 aq) ?_;clear hS;rintro _ _ ⟨aN,cN,rfl,rfl⟩;refine⟨aW,λhS=>?_⟩;refine aj 9 2 hS ?_;refine cp 11 dr λhS=>?_;refine eY (lY (aA (aM ?_)));refine aa Z (dI Z Z ph) ?_;refine aa Z (aV Z) (aI (aA ?_));refine d8 (k+1,kw t 32 x.2.1 x.2.2 k,lb++[x.1],aN,cN) ?_ (he:=?_);exact⟨aq,hst⟩;dsimp only;rw[show(lb++[x.1]).length=lb.length+1 from Qaf ..,show(lb++[x.1]).flatMap tJ=lb.flatMap tJ++[Value.int .i64 x.1] by rw[Qbg];rfl];exact IO;skip;refine lH Z Z (lG jE bu pq Z Z Z Z Z cl cl) Z ?_;clear hS;rintro _ _ ⟨b4,rfl,rfl⟩;refine⟨aW,λhS=>?_⟩;refine bQ 4 (dJ (aY (aO Z))) λhS=>?_;refine co 8 (fR (sz:=1) (by_:=8) (info:=Tryz.t3) jE ld Z Z Z Z cl Z Z eQ Z Z n5 aq) ?_;clear hS;rintro _ _ ⟨aN,cN,rfl,rfl⟩;refine⟨aW,λhS=>?_⟩;refine aj 9 2 hS ?_;refine cp 11 dr λhS=>?_;refine aS (ac cK (d8 (k+1,kw t 32 x.2.1 x.2.2 k,lb++[x.1],aN,cN) ?_ (he:=?_)));exact⟨aq,hst⟩;dsimp only;rw[show(lb++[x.1]).length=lb.length+1 from Qaf ..,show(lb++[x.1]).flatMap tJ=lb.flatMap tJ++[Value.int .i64 x.1] by rw[Qbg];rfl];exact IO;refine aZ ?_;obtain rfl:k=rs.length:=aq;have hN:md rs=some ⟨t,lb,List.replicate 32 nW⟩:=by rw[hD,hdn];rfl
 rw[hN];refine⟨_,⟨_,[dQ d ⟨t,lb,List.replicate 32 nW⟩],Z,Z,(λq=>by cases q),(λx hx=>by cases hx;exact⟨d,Z,Z⟩)⟩,?_⟩;simp only[Qau,Qar];exact Ev (x:=⟨t,lb,List.replicate 32 nW⟩) Z Z b2g.symm Z
def EG(l:List tV):Bool:=decide (l.length≤8)&&l.all λx=>kR x.1
theorem Tg{l}(h:EG l=true):l.length≤8/\∀x∈l,kR x.1=true:=by grind[EG]
theorem b2i{l}(b:l.length≤8)(c:∀i (a:i<l.length),kR l[i].1=true):EG l=true:=by rw[EG,Qam,Qag,Qbx];refine⟨b,λx d=>?_⟩;obtain⟨i,a,rfl⟩:=Qby d;exact c i a
theorem Ti{c}(h:v5 c=false):∀k,k≤c.rl.length->∃y,nY c.rl k=some (mz c k,y)
 |0,_=>⟨[],Z⟩
 |k+1,g=>by
  obtain⟨y,b⟩:=Ti h k aq;simp only[v5,Qbh,Qbc]at h;have a:=zH h.2 (i:=k) aq;rw[zF,Qcq,Qam,Qag]at a;obtain⟨d,e⟩:=a;have f:kR (pC c k).1=true:=by
   grind[jH]
  refine⟨y++[(pC c k).1],?_⟩;rw[nY,b,mz,Qad d];show(if kR (pC c k).1=true/\ju (mz c k) 32 (pC c k).2.1 (pC c k).2.2 k=0 then _ else _)=_;rw[Qad ⟨f,e⟩];rfl
theorem b2j{c}(h:rt c=true):∃x,md c.rl=some x:=by obtain⟨_,_,_,a,_⟩:=vZ h;obtain⟨y,b⟩:=Ti a c.rl.length (Qai _);have:=(Qq a).1;exact⟨_,by rw[md,Qab aq,b];rfl⟩
theorem Tj{c}(h:rt c=true):EG c.pl=true:=by obtain⟨_,_,_,_,a,_⟩:=vZ h;simp only[xF,Qbh,Qbc]at a;refine b2i aq λi b=>?_;have d:=zH a.2 b;simp only[BC,Qbh,Qcq]at d;have:=d.1;rw[show c.pl.getD i (0,0)=c.pl[i] by simp[List.getD,b]]at this;simp only[jH,Qam]at this;exact this.1.2
theorem EH(h:rt c=true):(0≤c.cats/\c.cats≤8)/\(-1≤c.gate/\c.gate<4)/\(0≤c.quota/\c.quota≤64):=by have b:=(eI h).g4;obtain⟨d,e,_,_,_,_,_,a,_⟩:=vZ h;refine⟨⟨d,e⟩,?_⟩;unfold re at a;split at a;grind;grind[m0]
theorem b2k{f}:(List.replicate n a).set f a=List.replicate n a:=by simp_all
theorem M0{c f i}(a:rt c=true)(b:f<dG c)(h:lL c f=some i):vn c f=(1,(i:Int)):=by rw[vn,Qad ⟨a,aq,by have:=(eI a).nd;rw[dG]at b;omega⟩,h];rfl
theorem b2l{c f}(a:rt c=true)(b:f<dG c)(h:lL c f=none):(vn c f).1=2:=by rw[vn,Qad ⟨a,aq,by have:=(eI a).nd;rw[dG]at b;omega⟩,h];rfl
theorem b2m c(h:CfK W0 c)(hr:rt c=true)ps:sP W0 53 [.agg (dU c).toArray,pV ps] (aH ps (List.replicate (dG c) gy)::R) (λv B=>∃pb,v=.tuple #[pV pb,iQ 0]/\B=cz pb (ps,iB c (dG c))::aH ps (List.replicate (dG c) gy)::R):=by
 have j:=eI hr;have p:=j.nd;have q:=j.g4;have u:0<dG c/\dG c≤32:=by rw[dG];omega
 have b:(List.replicate (dG c) gy).length=dG c:=n4;refine am func53 ntmps53 ?_;refine bR λk=>?_;refine aF rfl (ar call96 (a9k ps (List.replicate (dG c) gy) (by rw[b];omega) (by rw[b];omega))) ?_;rintro _ w ⟨pb,rfl,l⟩;subst l;rw[b, <-b03];refine au 14 (et (eS (ar B7 (xL ps (List.replicate (dG c) gy))) ?_));rw[b];refine aw (eC (λf:Nat=>f≤dG c) (λf=>[(2,pV k),(6,pV pb),(19,iQ (dG c:Nat)),(20,iQ f)]) (λf=>pt k (kj c)::cz pb (ps,iB c f)::aH ps (List.replicate (dG c) gy)::R) (λf=>dG c-f) 0 ?_ ?_);exact Qay _;intro f x;refine aw (aB rfl (λr=>?_) λr=>?_);refine au 2 (fA (λ_:Unit=>f<dG c) (λ_=>[(2,pV k),(6,pV pb),(19,iQ (dG c:Nat)),(20,iQ f)]) (λ_=>pt k (kj c)::cz pb (ps,iB c (f+1))::aH ps (List.replicate (dG c) gy)::R) ?_ ?_);refine au 8 ?_;have a:f<dG c:=aq;have s:=M0 (i:=(lL c f).getD 0) hr a;have m:=b2l hr a;refine aw (ao (aK call98 (b1a c h f)) ?_);refine bU λy=>?_;refine aJ aR (aB rfl (λg=>?_) λg=>?_);obtain⟨i,n⟩:∃i,lL c f=some i:=by
  cases e:lL c f with
  |some i=>exact⟨i,rfl⟩
  |none=>have:=m e;rw[this]at g;exact absurd g cl
 have o:=M0 hr a n;have t:=((Ew j).1 n).1;have d:=b04 a n;refine au 4 (aa rfl (aY (aO (by rw[o];rfl:(SJ (vn c f))[1]?=some (iQ (i:Int))))) ?_);refine ao (dj call99 (a9l pb ps (iB c f) (List.replicate (dG c) gy) f i (by rw[wC];exact a) (by rw[b];exact a) aq (LD j f) (by rw[Cd a,Qab aq]))) ?_;rw[b2k, <-d];exact cZ () (a);have d:iB c (f+1)=iB c f:=by
  cases e:lL c f with
  |none=>exact b05 e
  |some i=>have:=M0 hr a e;rw[this]at g;exact absurd rfl g
 refine aw (cZ () ?_ (he:=?_));exact a;rw[d];exact IO;intro _ a;exact aw (ac cK (d8 (f+1) aq));refine aw (aZ ?_);obtain rfl:f=dG c:=aq;exact⟨_,⟨pb,rfl,rfl⟩,IO⟩
@[reducible] def A9(c:Cfg)(ps pb db qb gb:Nat):List Value:=dU c++[pV ps,pV pb,pV db,pV qb,pV gb]
def f16(b:List Nat):List Value:=(List.range 16).map λi=>bV (b.getD i 0)
theorem Aa hb c ps pb db qb gb:sQ W0 74 [pV hb] (pt hb (ae (A9 c ps pb db qb gb) 133)::R) (.bool false) (pt hb (ae (A9 c ps pb db qb gb) 133)::R):=by refine am func74 ntmps74 ?_;apply d7 Z Z Z<;>intro a;cases a;exact aw (ag ax)
theorem b2n hb c ps pb db qb gb:sQ W0 61 [pV hb] (pt hb (ae (A9 c ps pb db qb gb) 133)::R) (pV ps) (pt hb (ae (A9 c ps pb db qb gb) 133)::R):=by refine am func61 ntmps61 ?_;refine ao (ar D7 (Aa hb c ps pb db qb gb)) ?_;exact ki
theorem b2o hb c ps pb db qb gb:sQ W0 62 [pV hb] (pt hb (ae (A9 c ps pb db qb gb) 133)::R) (pV pb) (pt hb (ae (A9 c ps pb db qb gb) 133)::R):=by refine am func62 ntmps62 ?_;refine ao (ar D7 (Aa hb c ps pb db qb gb)) ?_;exact ki
section
theorem M1 b rl(a i:Nat)(f:rl.length=16)(g:i<16):sQ W0 148 [pV b,iQ i] (pt b (eJ rl a)::R) (.tuple #[wV (rl.getD i 0),iQ 0]) (pt b (eJ rl a)::R):=by
 have c:pK i=true:=by grind[pK]
 have h:(rl.map wV++[Value.bool true,wV a])[i*1]?=some (wV (rl.getD i 0)):=by
  grind
 refine jj 13 func148 ntmps148 ?_;apply aB Z<;>intro d;cases d;refine aw (cW 9 (ar OH (Ho b rl a f i)) ?_);apply ap<;>intro e;exact absurd e (by rw[c];decide);refine ac (iy g) ?_;refine ac (aY (aO h)) ?_;exact aZ ax
theorem b2p k ck a b d(c:List Nat)(h:c.length=16)zs(e:zs.length=16):ee ([iQ k,iQ ck,wV a,wV b,wV d]++zs) 5 (c.map wV)=[iQ k,iQ ck,wV a,wV b,wV d]++c.map wV:=
  Bi (c.map wV) zs [iQ k,iQ ck,wV a,wV b,wV d] mv
theorem b2q{S N e o0 o1 o2 o3 o4 o5 k ck a b d}{c:List Nat}(f:c.length=16)(g:ev e o0=some (iQ k))(h:ev e o1=some (iQ ck))(i:ev e o2=some (wV a))(j:ev e o3=some (wV b))(l:ev e o4=some (wV d))(m:ev e o5=some (.agg (c.map wV).toArray)):
    cr Tryz.prog S N e (.build 275 #[(0,o0),(1,o1),(2,o2),(3,o3),(4,o4),(5,o5)]) (.agg ([Value.int .i64 k,iQ ck,wV a,wV b,wV d]++c.map wV).toArray):=
  eH (l':=[Value.int .i64 k,iQ ck,wV a,wV b,wV d]++c.map wV) underlying275 Yg (aT bu (aT bu (aT aX (aT aX (aT aX (aT yN eG))))))
    (cJ (l':=[iQ k,iQ 0,.int .u32 0,.int .u32 0,.int .u32 0]++List.replicate 16 (.int .u32 0)) Z bu g Z (Qaa Z) Z
    (cJ (l':=[iQ k,iQ ck,.int .u32 0,.int .u32 0,.int .u32 0]++List.replicate 16 (.int .u32 0)) Z bu h Z (Qaa Z) Z
    (cJ (l':=[iQ k,iQ ck,wV a,.int .u32 0,.int .u32 0]++List.replicate 16 (.int .u32 0)) Z aX i Z (Qaa Z) Z
    (cJ (l':=[iQ k,iQ ck,wV a,wV b,.int .u32 0]++List.replicate 16 (.int .u32 0)) Z aX j Z (Qaa Z) Z
    (cJ (l':=[iQ k,iQ ck,wV a,wV b,wV d]++List.replicate 16 (.int .u32 0)) Z aX l Z (Qaa Z) Z
    (iU Z yN m mv n4 (b2p k ck a b d c f _ n4) eE))))))
theorem b2r b es k ck x y z rl(a:rl.length=16)(c:es.length<4096):sQ W0 205 [pV b,.agg ([Value.int .i64 k,iQ ck,wV x,wV y,wV z]++rl.map wV).toArray] (ie b es::R) (iQ 0) (ie b (es++[⟨k,ck,x,y,z,rl⟩])::R):=by
 have:=b1q W0 R b es ⟨k,ck,x,y,z,rl⟩ c
 rwa[b1o (e:=⟨k,ck,x,y,z,rl⟩) a]at this
def EI(rl:List Nat)(e w:Nat):List Nat:=(rl.set 1 e).set 2 w
theorem b2s{l:List Nat}(h:l.length=16):∃g i j k m n o p q r a b c d e f,l=[g,i,j,k,m,n,o,p,q,r,a,b,c,d,e,f]:=by
 match l,h with
 |[g,i,j,k,m,n,o,p,q,r,a,b,c,d,e,f],_=>exact⟨g,i,j,k,m,n,o,p,q,r,a,b,c,d,e,f,Z⟩
end
end
section
abbrev dL:=Int×Int
variable {k:dL}
abbrev lO:=Int×Int×Int
def oX(k:dL)(e:lO)(u:Int):It:=⟨k.1,k.2,e.1,e.2.1,e.2.2,u⟩
def lP(k:dL)(l:List It):List It:=l.filter (λx=>decide (x.key≠k))
theorem yd:x∈lP k l↔x∈l/\x.key≠k:=by simp[lP]
theorem M2(h:∀x∈l,x.key≠k):lP k l=l:=Qbp.2 λx a=>by simpa using h x a
structure Rep (its : List It) (now : Nat) (L : List It) : Prop where
  perm : its.Perm L
  heap : Heap its its.length
  sort : L.Pairwise (fun x y => x.u < y.u)
  le : ∀ x ∈ L, x.u ≤ (now : Int)
  keys : (L.map It.key).Nodup
theorem Rep.nil:Rep [] 0 []:=⟨List.Perm.nil,λc a=>by simp at a,List.Pairwise.nil,λ_ h=>by simp at h,QcY⟩
theorem Rep.length(h:Rep its now L):its.length=L.length:=h.perm.length_eq
theorem Rep.keysI(h:Rep its now L):(its.map It.key).Nodup:=(h.perm.map It.key).symm.nodup h.keys
def nZ(k:dL)(x:It)(L:List It):List It:=lP k L++[x]
theorem Tl{L k x}{a:Nat}(b:L.Pairwise (λx y=>x.u<y.u))(c:∀x∈L,x.u≤(a:Int))(e:x.u=(a:Int)+1):(nZ k x L).Pairwise (λx y=>x.u<y.u):=by refine List.pairwise_append.2 ⟨b.filter _,List.pairwise_singleton _ _,λy d z f=>?_⟩;obtain rfl:z=x:=mv;have:=c y (yd.1 d).1;omega
theorem To{L}{k:dL}{x:It}(h:(L.map It.key).Nodup)(c:x.key=k):((nZ k x L).map It.key).Nodup:=by unfold nZ;rw[QaN];refine QbK.2 ⟨?_,n4,λa d b f=>?_⟩;exact QcG (QcR _ QbJ) h;obtain rfl:b=x.key:=mv;obtain⟨y,e,rfl⟩:=QaZ.1 d;rw[c];exact(yd.1 e).2
theorem Tp(hl:∀x∈L,x.u≤(now:Int))(hx:x.u=(now:Int)+1):∀y∈nZ k x L,y.u≤((now+1:Nat):Int):=λy a=>by
 rcases Qba.1 a with h|h;have:=hl y (yd.1 h).1;omega;grind
theorem b2t{a:List It}{k:dL}{i x}(m:(a.map It.key).Nodup)(r:i<a.length)(c:(a.getD i default).key=k):(a.set i x).Perm (nZ k x a):=by
 have n:a.getD i default=a[i]:=mv;rw[n]at c;have e:a=a.take i++a[i]::a.drop (i+1):=ro;have o:a.set i x=a.take i++x::a.drop (i+1):=mv;have p:lP k a=a.take i++a.drop (i+1):=by
  have f:=m;rw[e,QaN,QaE]at f;have b:=QbK.1 f;have q:=QbO.1 b.2.1
  conv=>lhs;rw[e]
  unfold lP;rw[QbQ,QcA (by simp[c])];have g:=M2 (k:=k) (l:=a.take i) (λy d h=>b.2.2 y.key (List.mem_map_of_mem d) a[i].key n4 (by rw[h,c]));have j:=M2 (k:=k) (l:=a.drop (i+1)) (λy d h=>q.1 (by rw[c, <-h];exact List.mem_map_of_mem d));unfold lP at g j;rw[g,j]
 rw[o,nZ,p];exact List.perm_middle.trans (List.perm_append_singleton x _).symm
theorem Rep.setI(h:Rep its now L)(hi:i<its.length)(he:(its.getD i default).key=k)(hx:x.key=k)(hu:x.u=(now:Int)+1)
    (hp:its'.Perm (its.set i x))(hh:Heap its' its'.length):Rep its' (now+1) (nZ k x L):=
  ⟨hp.trans ((b2t h.keysI hi he).trans ((h.perm.filter _).append_right _)),hh,Tl h.sort h.le hu,Tp h.le hu,To h.keys hx⟩
def qD(k:dL)(L:List It):Option It:=L.find? (λx=>decide (x.key=k))
theorem Rep.noneI(h:Rep its now L)(b:∀x∈its,x.key≠k):qD k L=none/\lP k L=L:=
  ⟨Qch.2 λx a=>by simpa using b x (h.perm.mem_iff.2 a),M2 λx a=>b x (h.perm.mem_iff.2 a)⟩
theorem HC(h:qD k L=some y):y∈L/\y.key=k:=⟨QbI h,by simpa using QcW h⟩
theorem b2u(d:(L.map It.key).Nodup)(b:y∈L)(e:y.key=k):qD k L=some y:=by
 cases c:qD k L with
 |none=>exact absurd e (by simpa using Qch.1 c y b)
 |some z=>
  obtain⟨h,f⟩:=HC c;have:z=y:=by
   clear c
   induction L with
   |nil=>simp at b
   |cons a L i=>
    simp only[QaE,QbO]at d;rcases QaX.1 b with j|g;grind;grind
  rw[this]
theorem Rep.someI{its L now i}{k:dL}(h:Rep its now L)(a:i<its.length)(b:(its.getD i default).key=k):qD k L=some (its.getD i default):=by have c:its.getD i default=its[i]:=mv;refine b2u h.keys (h.perm.mem_iff.1 ?_) b;rw[c];exact QaC a
theorem Rep.dropI(h:Rep its now L)(f:y.key=k)(a:(its'++[y]).Perm its)(c:Heap its' its'.length):Rep its' now (lP k L):=by
 have b:((its'++[y]).map It.key).Nodup:=(a.map _).symm.nodup h.keysI;rw[QaN]at b;have g:=QbK.1 b;have e:lP k (its'++[y])=its':=by
  simp_all[lP,QbQ,QcA]
 refine⟨?_,c,h.sort.filter _,λx d=>h.le x (yd.1 d).1,QcG (QcR _ QbJ) h.keys⟩;have:=(a.trans h.perm).filter (λx=>decide (x.key≠k));rw[<-e];exact this
theorem Rep.pushI(h:Rep its now L)(hn:∀y∈its,y.key≠k)(hx:x.key=k)(hu:x.u=(now:Int)+1)(hp:its'.Perm (its++[x]))(hh:Heap its' its'.length):Rep its' (now+1) (nZ k x L):=
  ⟨by unfold nZ;rw[(h.noneI hn).2];exact hp.trans (h.perm.append_right _),hh,Tl h.sort h.le hu,Tp h.le hu,To h.keys hx⟩
theorem Rep.popI{its its' L now y}(h:Rep its now L)(f:(its'++[y]).Perm its)(i:Heap its' its'.length)(a:∀z∈its,y.u≤z.u):Rep its' now L.tail:=by
 have b:y∈L:=(f.trans h.perm).mem_iff.1 n4
 cases L with
 |nil=>simp at b
 |cons z T=>
  have g:=Qcf.1 h.sort;have c:y=z:=by
   rcases QaX.1 b with e|j;exact e;have l:=g.1 y j;have m:=a z (h.perm.mem_iff.2 n4);omega
  subst c;have d:(y::its').Perm (y::T):=(List.perm_append_singleton y its').symm.trans (f.trans h.perm);exact⟨List.Perm.cons_inv d,i,g.2,λx k=>h.le x (Qaj _ k),(QbO.1 (by simpa using h.keys)).2⟩
def rI(room now:Nat)(k:dL)(e:lO)(L:List It):List It:=
  if room<(nZ k (oX k e (now+1:Nat)) L).length then(nZ k (oX k e (now+1:Nat)) L).tail else nZ k (oX k e (now+1:Nat)) L
def yf(now:Nat)(k:dL)(L:List It):List It:=match qD k L with |none=>L|some y=>nZ k (oX k y.ent (now+1:Nat)) L
theorem HD k L:(lP k L).length≤L.length:=QaW _ _
theorem M3 k x L:(nZ k x L).length=(lP k L).length+1:=by simp[nZ]
theorem Tq(h:qD k L=some y):(lP k L).length<L.length:=by obtain⟨a,b⟩:=HC h;exact List.length_filter_lt_length_iff_exists.2 ⟨y,a,by simpa using b⟩
theorem Tr{a:Nat}{e:lO}(h:L.length≤a):(rI a now k e L).length≤a:=by grind[HD,rI,List.length_tail,M3]
theorem b2v:(yf now k L).length≤L.length:=by
 unfold yf;split;omega
 rename_i y a;rw[M3];exact Tq a
end
variable {k:dL}
section
open Go.RowKit
@[reducible] def dt(room now:Nat):List Value:=[.int .i64 room,.int .i64 now,.bool true]
theorem Ts b its room now L(k:dL)(e:lO)(o:Rep its now L)(V:L.length≤room)(W:room≤4)(H:now<1000000):sP W0 354 [pQ b,.agg (jo k).toArray,.agg (pL e).toArray] (bC b (its,dt room now)::R) (λv B=>v=iQ 0/\∃d,B=bC b (d,dt room (now+1))::R/\Rep d (now+1) (rI room now k e L)):=by
 have I:=o.length;refine am func354 ntmps354 ?_;refine bR λw=>?_;refine bR λN=>?_;refine cW 5 (ar G5 (Cg b its _ _)) ?_;refine fA (λl:Nat=>True) (λl=>[(0,pQ b),(4,pQ w),(7,pQ l)]) (λl=>pt l (ae (cq (oX k e (now+1:Nat))) 548)::pt w (ae (jo k) 504)::bC b (its,dt room (now+1))::R) ?_ ?_;refine bH [w,N] 8 λa=>?_;refine aj 0 2 a ?_;refine aE 2 a (eH XK Ol (aT vG (aT xh eG)) (iU Z vG Z Z (Qaa Z) SetRL.eq (iU Z xh Z Z (Qaa Z) SetRL.eq eE))) ?_;refine aj 3 1 a ?_;refine fp (is:=[4,6]) ld Z ⟨?_,?_,trivial⟩;refine dB (ar Yj (SX b its _ now H)) ?_;clear a;rintro _ X ⟨rfl,A⟩;subst A;refine⟨aW,λa=>?_⟩;refine aE 5 a (eH yS xl (aT xi (aT bu eG)) (iU Z xi Z Z (Qaa Z) SetRL.eq (cJ Z bu Z Z (Qaa Z) SetL.eq eE))) ?_;refine co 6 (cP xl) ?_;clear a;rintro _ _ ⟨l,rfl,rfl⟩;refine⟨aW,λa=>?_⟩;refine cp 7 aR λa=>?_;refine aS (cZ l ?_ (he:=?_));trivial;show Ent (pt l (ae (cq (oX k e (now+1:Nat))) _)::_) _;exact IO;skip;refine dB (cP xl) ?_;clear a;rintro _ _ ⟨l,rfl,rfl⟩;refine⟨aW,λa=>?_⟩;refine bQ 4 (ar Yj (SX b its _ now H)) λa=>?_;refine aE 5 a (eH yS xl (aT xi (aT bu eG)) (iU Z xi Z Z (Qaa Z) SetRL.eq (cJ Z bu Z Z (Qaa Z) SetL.eq eE))) ?_;refine cp 7 aR λa=>?_;refine eY (aA (cZ l ?_ (he:=?_)));trivial;show Ent (pt l (ae (cq (oX k e (now+1:Nat))) _)::_) _;exact IO;intro l _;refine aG (aG (aM (aa Z (aV Z) (aa Z (q9 J4 vG Z Z) ?_))));refine aF Z (ar Yk (LM b its _ k aq)) ?_;rintro _ _ ⟨r,rfl,rfl,J⟩;refine aa Z (aU Z) (aI (aA (aG (aM (aa Z (aV Z) (aa Z (z8 Z Z) (aI (aA ?_))))))));apply aB Z<;>intro O;obtain⟨i,rfl,n,K⟩:∃i:Nat,r=(i:Int)/\i<its.length/\(its.getD i default).key=k:=by
  rcases J with ⟨h,_⟩|h;omega;exact h
 refine aG (LL (b:=b) (Cf n) λg c M P Q S=>?_);refine bH [b,l] 9 λa=>?_;refine cI 0 Z Z Z a (aV Z) ?_;refine cI 1 Z Z Z a (fJ Z) ?_;refine cI 2 Z Z Z a (bT Z Oc Z NZ Z dg) ?_;refine cI 3 Z Z Z a (bT Z c2c Z Xq Z dg) ?_;refine cI 4 Z Z Z a (bO NS Z n6) ?_;refine cI 5 Z Z Z a (aV Z) ?_;refine cI 6 Z Z Z a (jg pX gD Z rg Z) ?_;refine aE 7 a (cu n) ?_;refine cp 8 (kh (ue its M i n) (vo its M i (oX k e (now+1:Nat)) n)) λa=>?_;refine eY (aA (aG ?_));refine SR (b:=b) (its:=its.set i (oX k e (now+1:Nat))) Z n4 P Q (by simpa[dy km]using S) ?_;refine aM (aa Z (aV Z) (aa Z (fJ Z) ?_));refine aa Z (bT Z Oc Z NZ Z dg) ?_;refine aa Z (Dr XL (λ_ h=>n8) Z) ?_;refine aa Z (aV Z) ?_;refine aF Z (ar call409 (SS b (its.set i (oX k e (now+1:Nat))) _ i aac mv (by rw[Qal];exact KJ o.heap n))) ?_;rintro _ _ ⟨rfl,d,rfl,p,u⟩;refine aI (aA (aG (aM (aa Z (aU Z) (aI (aA (dX (jS (ag ?_)))))))));refine⟨_,⟨Z,d,Z,?_⟩,IO⟩;have T:=Tq (o.someI n K);rw[rI,Qab (by rw[M3];omega)];exact o.setI n K Z (by simp[oX]) p (by rw[p.length_eq];exact u);have C:∀x∈its,x.key≠k:=by
  rcases J with ⟨_,h⟩|⟨i,h,_⟩;exact h;omega
 refine fH (aA (aG ?_));refine bH [l] 7 λa=>?_;refine cI 0 Z Z Z a (aV Z) ?_;refine cI 1 Z Z Z a (fJ Z) ?_;refine cI 2 Z Z Z a (bT Z Oc Z NZ Z dg) ?_;refine cI 3 Z Z Z a (Dr XL (λ_ h=>n8) Z) ?_;refine cI 4 Z Z Z a (jg pX gD Z (i6 (k:=0) Z) Z) ?_;refine cI 5 Z Z Z a (Dr yS (λ_ h=>n8) Z) ?_;refine co 6 (ar Ju (heapPush_spec b its (oX k e (now+1:Nat)) _ aq o.heap)) ?_;clear a;rintro _ _ ⟨rfl,f,rfl,p,u⟩;have q:=o.pushI C (x:=oX k e (now+1:Nat)) Z (by simp[oX]) p u;have D:=q.length;have U:f.length=its.length+1:=by rw[p.length_eq];simp
 refine⟨aW,λa=>?_⟩;refine aS (dY [(b,1,dt room (now+1))] 9 mixed Z (dA SQ bI) (λa=>?_));refine aj 0 3 a ?_;refine aj 4 3 a ?_;refine aE 7 a (aY (n0 (k:=0) (j:=0) Z Z)) ?_;refine iX 3 Z Z (ar B9 (y8 b f _)) (dA SQ bI) λa=>?_;refine aj 8 1 a ?_;refine aS (ap (λE=>?_) λE=>?_);refine aF Z (ar Jv (heapPop_spec b f _ aq (Cf (i:=0) aq) u)) ?_;rintro _ _ ⟨y,s,rfl,rfl,F,G,t⟩;have m:Rep s (now+1) (rI room now k e L):=by
  rw[rI,Qad aq];exact q.popI F G t
 exact aw (ag ⟨_,⟨Z,_,Z,m⟩,IO⟩);have m:Rep f (now+1) (rI room now k e L):=by
  grind[rI]
 exact ag ⟨_,⟨Z,_,Z,m⟩,IO⟩
def EJ(k:dL)(L:List It):Value:=match qD k L with
 |none=>.tuple #[.agg (pL (0,0,0)).toArray,.bool false]
 |some y=>.tuple #[.agg (pL y.ent).toArray,.bool true]
theorem M4 b its room now L(k:dL)(f:Rep its now L)(E:L.length≤room)(F:room≤4)(t:now<1000000):sP W0 349 [pQ b,.agg (jo k).toArray] (bC b (its,dt room now)::R) (λv B=>v=EJ k L/\∃a d,d≤now+1/\B=bC b (a,dt room d)::R/\Rep a d (yf now k L)):=by
 have n:=f.length;refine am func349 ntmps349 ?_;refine bR λG=>?_;refine bU λH=>?_;refine ao (ar G5 (Cg b its _ _)) ?_;refine aF Z (ar Yk (LM b its _ k aq)) ?_;rintro _ _ ⟨r,rfl,rfl,o⟩;refine aw (aB Z (λw=>?_) λw=>?_);have j:∀x∈its,x.key≠k:=by
  rcases o with ⟨_,h⟩|⟨i,h,_⟩;exact h;omega
 refine aw (aJ aR (bJ (.cons (bX FE xh Z Z) (.cons (bA Z) .nil)) ?_));refine⟨_,⟨?_,its,now,aq,Z,?_⟩,IO⟩;simp[bY,EJ,(f.noneI j).1];rw[yf,(f.noneI j).1];exact f;obtain⟨i,rfl,e,p⟩:∃i:Nat,r=(i:Int)/\i<its.length/\(its.getD i default).key=k:=by
  rcases o with ⟨h,_⟩|h;omega;exact h
 refine aw (LL (b:=b) (Cf e) λg c q y A C=>?_);refine aw (ac (cu e) ?_);refine ac (cV (cT (b1s its q i e) Z)) ?_;refine bU λI=>?_;refine aJ aR (dY [(b,0,[.slice (some ⟨g,0,none⟩) its.length c])] 11 mixed Z (dA (tC Z) bI) (λl=>?_));refine aj 0 7 l ?_;refine iX 7 Z Z (ar Yj (SV b _ _ now t)) (dA (tC Z) bI) λl=>?_;refine aE 8 l (cu e) ?_;refine aj 9 1 l ?_;refine lI 10 Z Z (fg aq (b1t its q i _ e)) (dA (tC Z) bI) λl=>?_;refine aS (SR (b:=b) (its:=its.set i { its.getD i default with u:=(now+1:Nat) }) Z n4 y A (by simpa[dy km]using C) ?_);refine aw (aF Z (ar call409 (SS b (its.set i { its.getD i default with u:=(now+1:Nat) }) _ i aac mv (by rw[Qal];exact KJ f.heap e))) ?_);rintro _ _ ⟨rfl,a,rfl,s,D⟩;refine aw (aJ aR (bJ (.cons (bX FE xh Z Z) (.cons (bA Z) .nil)) ?_));have m:=f.someI e p;refine⟨_,⟨?_,a,now+1,aq,Z,?_⟩,IO⟩;simp[bY,EJ,m,It.ent];rw[yf,m];subst p;exact f.setI e Z Z (by simp[oX]) s (by rw[s.length_eq];exact D)
theorem M5 b its tr now L(k:dL)(c:Rep its now L)(p:L.length≤100)tw:sP W0 401 [pQ b,.agg (jo k).toArray] (bC b (its,[tr,tw,.bool true])::R) (λv B=>v=.bool (qD k L).isSome/\∃a,B=bC b (a,[tr,tw,.bool true])::R/\Rep a now (lP k L)):=by
 have g:=c.length;refine am func401 ntmps401 ?_;refine bR λq=>?_;refine ao (ar G5 (Cg b its _ _)) ?_;refine aF Z (ar Yk (LM b its _ k aq)) ?_;rintro _ _ ⟨r,rfl,rfl,j⟩;refine aw (aB Z (λm=>?_) λm=>?_);have d:∀x∈its,x.key≠k:=by
  rcases j with ⟨_,h⟩|⟨i,h,_⟩;exact h;omega
 refine aw (ag ⟨_,⟨?_,its,Z,?_⟩,IO⟩);simp[bY,(c.noneI d).1];rw[(c.noneI d).2];exact c;obtain⟨i,rfl,l,e⟩:∃i:Nat,r=(i:Int)/\i<its.length/\(its.getD i default).key=k:=by
  rcases j with ⟨h,_⟩|h;omega;exact h
 refine aw (aF Z (ar call334 (heapRemove_spec b its _ i aq l c.heap)) ?_);rintro _ _ ⟨a,rfl,rfl,n,o⟩;refine ac (uN yS (λ_ h=>n8) Z) ?_;refine bU λs=>?_;refine aJ aR (ac (cV (cT (vs:=[iQ (its.getD i default).kr,iQ (its.getD i default).kp]) Z Z)) ?_);refine ac (zb Tryz.eqGuardType504 Z Z (za Jl Tryz.stoodInHeld504 (oy Z cM Z Z (ov ez) (oy Z cM Z Z (ov ez) z9)))) ?_;refine ag ?_;have f:=c.someI l e;refine⟨_,⟨?_,a,Z,c.dropI e n o⟩,IO⟩;rw[f];subst e;simp[bY,It.key]
def HE(lo:Nat)(l:List It)(n:Nat):Prop:=∀c,c<n->0<c->lo≤(c-1)/2->us l ((c-1)/2)≤us l c
def Cj(lo:Nat)(l:List It)(i n:Nat):Prop:=∀c,c<n->0<c->(lo≤(c-1)/2->c≠i->(c-1)/2≠i->us l ((c-1)/2)≤us l c)/\((c-1)/2=i->lo<i->us l ((i-1)/2)≤us l c)
theorem b2w{lo l i j n}(h:Cj lo l i n)(p:lo≤i)(v:n≤l.length)(q:j<n)(g:(j-1)/2=i)(r:0<j)(s:us l j<us l i)
    (k:∀c,c<n->0<c->(c-1)/2=i->us l j≤us l c):Cj lo (swapL l i j) j n/\us (swapL l i j) ((j-1)/2)≤us (swapL l i j) j:=by have t:i<j:=aq;have d:=mD (l:=l) (i:=i) (j:=j) aq aq;refine⟨λc a b=>⟨λu e m=>?_,λe m=>?_⟩,?_⟩;rw[d,d];by_cases f:c=i;subst f;have:=(h j q r).2 g aq;rw[Qab aq,Qab aq,Qad Z];exact this;by_cases o:(c-1)/2=i;grind;rw[Qab o,Qab m,Qab f,Qab e];exact(h c a b).1 u f o;rw[g,d,d,Qad Z,Qab aq,Qab aq];rw[<-e];exact(h c a b).1 aq aq aq;grind
theorem Tt(h:Cj lo l i n)(a:∀c,c<n->0<c->(c-1)/2=i->us l i≤us l c)(j:lo<i->us l ((i-1)/2)≤us l i):HE lo l n:=λc b d e=>by
 by_cases f:(c-1)/2=i;grind;by_cases g:c=i;grind;exact(h c b d).1 e g f
theorem b2x{lo l n}(h:HE (lo+1) l n):Cj lo l lo n:=λc a b=>⟨λd _ e=>h c a b aq,λ_ h=>absurd h (Nat.lt_irrefl _)⟩
theorem b2y b its tl i0 n(E:n≤its.length)(F:n<1000)(G:i0≤n)(H:Cj i0 its i0 n):sP W0 187 [qB b,iQ i0,iQ n] (bC b (its,tl)::R) (λv B=>∃l m,v=.bool m/\B=bC b (l,tl)::R/\l.Perm its/\HE i0 l n):=by
 refine am Y0 ntmps187 ?_;refine eC (λX:List It×Nat=>X.1.Perm its/\i0≤X.2/\Cj i0 X.1 X.2 n/\(i0<X.2->us X.1 ((X.2-1)/2)≤us X.1 X.2)/\X.2≤n) (λX=>[(0,qB b),(1,iQ i0),(2,iQ n),(7,iQ X.2)]) (λX=>bC b (X.1,tl)::R) (λX=>n-X.2) (its,i0) ?_ ?_;grind;intro ⟨l,i⟩ ⟨h,k,r,s,t⟩;have o:=h.length_eq;simp only at h k r s t o ⊢;refine aw (ac zm (ac (eX (2*i+1)) ?_));apply fC<;>intro p;refine ag ?_;refine⟨_,⟨l,decide (i0<i),abh,Z,h,Tt r ?_ s⟩,IO⟩
 first|(intro c d e f;exfalso;omega)|(intro c d e f;have:=a c d e f;simp at g;omega)
 apply aB Z<;>intro A;omega;refine au 8 (fA (λj:Nat=>(j-1)/2=i/\0<j/\j<n/\∀c,c<n->0<c->(c-1)/2=i->us l j≤us l c) (λj=>[(0,qB b),(1,iQ i0),(2,iQ n),(7,iQ i),(9,iQ j)]) (λj=>bC b (l,tl)::R) ?_ ?_);refine au 3 (ac (eX (2*i+2)) ?_);apply e9<;>intro q;refine ao (gQ Z ((λw=>EE w _)) Jy Z (EB b l tl (2*i+2) (2*i+1) aq aq)) ?_;apply ap<;>intro C;refine cZ (2*i+2) ?_;refine⟨aq,aq,aq,λc d e f=>?_⟩;have:c=2*i+1\/c=2*i+2:=aq;exact u0;refine cZ (2*i+1) ?_;refine⟨aq,aq,aq,λc d e f=>?_⟩;have:c=2*i+1\/c=2*i+2:=aq;exact u0;refine cZ (2*i+1) ?_;refine⟨aq,aq,aq,λc d e f=>?_⟩;have:c=2*i+1\/c=2*i+2:=aq;exact u0;intro j ⟨D,u,x,a⟩;refine aw (ao (gQ Z ((λw=>EE w _)) Jy Z (EB b l tl j i aq aq)) ?_);apply aB Z<;>intro g;refine au 15 (ag ⟨_,⟨l,decide (i0<i),abh,Z,h,Tt r ?_ s⟩,IO⟩)
 first|(intro c d e f;exfalso;omega)|(intro c d e f;have:=a c d e f;simp at g;omega)
 replace g:us l j<us l i:=by simpa using g
 refine aw (ao (gQ Z ((λw=>EF w _)) Jz Z (EC b l tl i j aq aq)) ?_);refine d8 (swapL l i j,j) ?_ (hμ:=?_);have y:=b2w r k aq x D u g a;exact⟨(nQ aq aq).trans h,by show i0≤j;omega,y.1,λ_=>y.2,by show j≤n;omega⟩;show n-j<n-i;omega
theorem b2z b its tl(h:its.length<1000):sP W0 465 [qB b] (bC b (its,tl)::R) (λv B=>∃l,v=.tuple #[]/\B=bC b (l,tl)::R/\l.Perm its/\Heap l l.length):=by
 refine am func465 ntmps465 ?_;refine ao (gQ Z ((λw=>ED w _)) B9 Z (y8 b its tl)) ?_;refine ac (qT Z Z cl ((Qak (IntKind.wrap .i64) (uW its.length 2)).trans (bS aq))) ?_;refine ac jt (eC (λX:List It×Nat=>X.1.Perm its/\X.2≤its.length/2/\HE X.2 X.1 its.length) (λX=>[(0,qB b),(2,iQ (its.length:Nat)),(3,iQ ((X.2:Int)-1))]) (λX=>bC b (X.1,tl)::R) (λX=>X.2) (its,its.length/2) ?_ ?_);exact⟨QaS _,Qai _,λc j f n=>by dsimp only at n;omega⟩;intro ⟨l,k⟩ ⟨a,o,d⟩;dsimp only at a o d ⊢;have g:=a.length_eq;refine aw (ap (λp=>?_) λp=>?_);obtain⟨i,rfl⟩:∃i,k=i+1:=⟨k-1,aq⟩
 have e:(((i+1:Nat):Int)-1)=(i:Int):=aq;rw[e];refine aF Z (ar FZ (b2y b l tl i its.length aq h aq (b2x d))) ?_;rintro _ _ ⟨q,m,rfl,rfl,r,s⟩;refine aw (ac jt (d8 (q,i) ?_));grind;refine bP (.inr Z) .nil ?_;obtain rfl:k=0:=aq;exact⟨_,⟨l,Z,Z,a,λc j f=>d c aq f (Qay _)⟩,IO⟩
structure PF (W0 : World) (f : FuncId) (cs : List Value) (C : HP) (p : It → Bool) : Prop where
  call : ∀ args w, (callFunc f args).run Tryz.prog w = .ok (.enter f args) w
  spec : ∀ x R, bE Tryz.prog W0 f ([] ++ [.agg (cq x).toArray] ++ cs) (kH 0 C :: R) (fun v B => v = .bool (p x) ∧ B = kH 0 C :: R)
theorem M6{α:Type}{f}(h:∀x,gO (f x)=true):∀l:List α,gO (l.flatMap f)=true
 |[]=>Z
 |x::l=>by
  have a:=h x;have b:=M6 h l;simp only[gO,QaT,List.all_append,Qam]at a b ⊢;exact⟨a,b⟩
theorem b2A x:gO (cq x)=true:=Z
theorem b2B its a c(r:its.length<1000)(f:bZ (aQ W0 R) a 6 cq its):sP W0 464 [.slice a its.length c] R (λv B=>∃g i,v=.slice g its.length i/\B=osl 548 6 (.slice g its.length i) (its.flatMap cq)::R):=by
 refine am func464 ntmps464 ?_;refine ac (zo lE Z Z) ?_;apply aB Z<;>intro e;refine au 7 (ag ?_);have j:its=[]:=by
  rcases its with _|⟨x,l⟩;rfl;obtain⟨b,o,h,_⟩:=f 0 x Z;rw[e]at h;cases h
 subst j;exact g3;have d:=f.src km (λ_=>trivial);refine fH (aA (aG (aM (aF Z (zp lE gD Z) ?_))));rintro _ _ ⟨s,rfl,rfl⟩;refine aw ?_
 refine aF Z (zv (sz:=6) (by_:=48) (info:=Tryz.t548) lE ld Z Z Z Z cl Z Z (news:=its.flatMap cq) (by
 rcases d with h|⟨k,m,n,p⟩;grind
 right;exact⟨k,m,n,p.weak⟩) (dy km its) (M6 b2A its) n5 aq) ?_
 rintro _ _ ⟨q,e,rfl,rfl⟩;refine aw (ag ?_);rw[Qac,Qar];exact⟨_,⟨q,e,Z,Z⟩,IO⟩
def b2C(its:List It)(p:It->Bool)(r:Int):Prop:=(r= -1/\∀i,i<its.length->p (its.getD i default)=false)\/∃i:Nat,r=(i:Int)/\i<its.length/\p (its.getD i default)=true/\∀j,j<i->p (its.getD j default)=false
theorem b2D its a c f cs C p(k:PF W0 f cs C p)(x:its.length<1000):sP W0 443 [.slice a its.length c,.func (.func f) #[] cs.toArray] (osl 548 6 (.slice a its.length c) (its.flatMap cq)::kH 0 C::R) (λv B=>∃r,v=iQ r/\B=osl 548 6 (.slice a its.length c) (its.flatMap cq)::kH 0 C::R/\b2C its p r):=by refine Ds (λd e=>?_) λg n t l d e m o q=>?_;have u:its.length=0:=mv;obtain rfl:its=[]:=QaF u;cases d;refine am OJ ntmps443 ?_;refine eC (λX:Nat=>True) (λX=>[(7,iQ 0),(8,iQ X)]) (λX=>kH 0 C::R) (λX=>X) 0 ?_ ?_;trivial;intro j w;refine aw (aB Z (λh=>?_) λh=>?_);omega;exact aw (ag ⟨_,⟨-1,Z,Z,.inl ⟨Z,n4⟩⟩,eW⟩);cases d;refine am OJ ntmps443 ?_;refine eC (λX:Nat=>X≤its.length/\∀i,i<X->p (its.getD i default)=false) (λX=>[(0,.slice (some ⟨g,0,none⟩) its.length c),(1,.func (.func f) #[] cs.toArray),(7,iQ (its.length:Nat)),(8,iQ X)]) (λX=>pt g (ae (its.flatMap cq++l) 548)::kH 0 C::R) (λX=>its.length-X) 0 ?_ ?_;grind;intro j ⟨w,b⟩;refine aw (ap (λh=>?_) λh=>?_);refine ac (cu aq) ?_;refine ac (cV (cT (nX its l j aq) Z)) ?_;refine ao (sq (us:=[]) (cs:=cs) Z k.call Z (k.spec (its.getD j default) _)) ?_;apply ap<;>intro s;exact ag ⟨_,⟨_,Z,Z,.inr ⟨j,Z,aq,s,b⟩⟩,jG e m o q⟩;refine ac cK (d8 (j+1) ?_);grind;exact ag ⟨_,⟨-1,Z,Z,.inl ⟨Z,λi y=>b i aq⟩⟩,jG e m o q⟩
def lQ(p:It->Bool)(l:List It):List It:=l.filter (λx=> !p x)
theorem Tu{p:It->Bool}(h:∀i,i<l.length->p (l.getD i default)=false):lQ p l=l:=Qbp.2 λx b=>by
 obtain⟨i,a,rfl⟩:=Qbi.1 b;have:=h i a;simpa[List.getD,a]using this
theorem M7{p:It->Bool}(h:j<l.length):lQ p (l.take (j+1))=lQ p (l.take j)++(if p (l.getD j default)then[]else[l.getD j default]):=by grind[Qap,lQ]
structure DelI (p : It → Bool) (its l : List It) (i j : Nat) : Prop where
  len : l.length = its.length
  ij : i < j
  jl : j ≤ its.length
  front : l.take i = lQ p (its.take j)
  back : ∀ k, j ≤ k → l.getD k default = its.getD k default
theorem b2E{p:It->Bool}(h:i<l.length)(b:p (l.getD i default)=true)(a:∀j,j<i->p (l.getD j default)=false):lQ p (l.take (i+1))=l.take i:=by grind[M7,Qaq,Tu]
theorem DelI.skip{p its l i j}(h:DelI p its l i j)(b:j<its.length)(a:p (l.getD j default)=true):DelI p its l i (j+1):=by refine⟨h.len,by have:=h.ij;omega,aq,?_,λk c=>h.back k aq⟩;rw[h.back j (Qai _)]at a;rw[M7 b,a,Qad Z,Qaq];exact h.front
theorem DelI.move{p its l i j}(h:DelI p its l i j)(b:j<its.length)(a:p (l.getD j default)=false):DelI p its (l.set i (l.getD j default)) (i+1) (j+1):=by have c:=h.ij;have d:=h.len;have e:=h.back j (Qai _);rw[e]at a ⊢;refine⟨by rw[Qal];exact d,aq,aq,?_,λk f=>?_⟩;rw[M7 b,a,Qab (by decide), <-h.front,Qap (by rw[Qal];omega),List.getElem_set_self,List.take_set_of_le (Qai _)];rw[<-h.back k aq];simp only[Qao];rw[Qbb aq]
theorem b2F its a c f cs C p(w:PF W0 f cs C p)(I:its.length<1000):sP W0 463 [.slice a its.length c,.func (.func f) #[] cs.toArray] (osl 548 6 (.slice a its.length c) (its.flatMap cq)::kH 0 C::R) (λv B=>∃E F,v=.slice E (lQ p its).length F/\B=osl 548 6 (.slice E (lQ p its).length F) ((lQ p its).flatMap cq)::kH 0 C::R):=by
 refine am func463 ntmps463 ?_;refine aF ρ (dj call443 (b2D its a c f cs C p w I)) ?_;rintro _ G ⟨r,rfl,d,H⟩;subst d;refine aw (aB ρ (λJ=>?_) λJ=>?_);refine au 8 (ag ?_);have k:∀i,i<its.length->p (its.getD i default)=false:=by
  rcases H with ⟨_,h⟩|⟨i,h,_⟩;exact h;omega
 rw[Tu k];exact ab4;obtain⟨i,rfl,K,x,k⟩:∃i:Nat,r=(i:Int)/\i<its.length/\p (its.getD i default)=true/\∀j,j<i->p (its.getD j default)=false:=by
  rcases H with ⟨h,_⟩|h;omega;exact h
 refine ix (r:=osl 548 6) (b:=.slice a its.length c) ?_;refine qf (λy _=>by have:=(Value.slice.inj y).2.1;omega) λg n L e y U M V N=>?_;cases y;refine aw (ac (eX (i+1)) ?_);refine eC (λX:List It×Nat×Nat=>DelI p its X.1 X.2.1 X.2.2) (λX=>[(0,.slice (some ⟨g,0,none⟩) its.length c),(1,.func (.func f) #[] cs.toArray),(5,iQ X.2.1),(6,iQ X.2.2)]) (λX=>pt g (ae (X.1.flatMap cq++e) 548)::kH 0 C::R) (λX=>its.length-X.2.2) (its,i,i+1) ?_ ?_;exact⟨ρ,Nat.lt_succ_self _,by show i+1≤its.length;omega,(b2E K x k).symm,λ_ _=>ρ⟩;intro ⟨l,m,j⟩ hD;dsimp only at hD ⊢;have W:=hD.len;have O:=hD.ij;have P:=hD.jl;refine aw (aB ρ (λQ=>?_) λQ=>?_);refine au 2 (fA (λZ:List It×Nat=>DelI p its Z.1 Z.2 (j+1)) (λZ=>[(0,.slice (some ⟨g,0,none⟩) its.length c),(1,.func (.func f) #[] cs.toArray),(5,iQ Z.2),(6,iQ j)]) (λZ=>pt g (ae (Z.1.flatMap cq++e) 548)::kH 0 C::R) ?_ ?_);refine au 5 (ac (cu (by omega)) ?_);refine ac (cV (cT (nX l e j (by omega)) ρ)) ?_;refine bU λY=>?_;refine eM (eN gD ρ ρ ρ ρ ρ) ?_;rintro _ _ rfl;refine aI (aA (aG (aM (aa ρ (aV ρ) (aa ρ (q9 pX gD ρ ρ) ?_)))));refine aF ρ (sq (us:=[]) (cs:=cs) ρ w.call ρ (w.spec (l.getD j default) _)) ?_;rintro _ G ⟨rfl,d⟩;subst d;refine aa ρ (vN ρ) (aI (aA ?_));apply aB ρ<;>intro A;have o:p (l.getD j default)=false:=by simpa using A
 refine aG (aM (aa ρ (aV ρ) (aa ρ (aV ρ) (aa ρ (q9 pX gD ρ ρ) ?_))));refine aa ρ (kP lE gD ρ ρ ρ (by omega) (by first|exact Qac _|rfl)) ?_;refine aJ (kh (ue l e m (by omega)) (vo l e m (l.getD j default) (by omega))) ?_;refine ac (eX (m+1)) ?_;exact cZ (l.set m (l.getD j default),m+1) (hD.move (by omega) o);have o:p (l.getD j default)=true:=by simpa using A
 exact aw (cZ (l,m) (hD.skip (by omega) o));intro ⟨S,T⟩ hD2;refine aw (ac (eX (j+1)) ?_);refine d8 (S,T,j+1) ?_ (hμ:=?_);exact hD2;show its.length-(j+1)<its.length-j;omega;refine aw ?_;obtain rfl:j=its.length:=by omega
 have q:=hD.front;rw[QaJ (Qai _)]at q;have D:(lQ p its).length=m:=by rw[<-q,QaB];omega
 refine ac (DC lE gD ρ ρ ρ (by omega) (by omega) (Qac _)) ?_;refine eM (Kl lE xl (by simp[Value.cells,Value.oneCell']) ρ (by omega) (by rw[Qaf,dy km];show m*6+(its.length-m)*6≤_;omega)) ?_;rintro _ G ⟨u,s,rfl,d⟩;subst d;replace s:u.length=(its.length-m)*6:=s;have t:ee (l.flatMap cq++e) (m*6) u=(lQ p its).flatMap cq++(u++e):=by
  rw[vS _ _ _ (by rw[Qaf,dy km];omega),K9 km l m e (by omega),q,show m*6+u.length=l.length*6 by omega,Dq km l l.length e (Qai _)];simp
 rw[t];refine aw (ac (qd lE gD ρ ρ ρ (by omega)) ?_);refine ag ?_;rw[D];exact⟨_,⟨_,_,ρ,ρ⟩,jG (by omega) M (by rw[dy km,D]) (by rw[<-N];simp only[Qaf,dy km,D,s];omega)⟩
def i64(r:Int):Prop:= -9223372036854775808≤r/\r<9223372036854775808
theorem Tv r:((BitVec.ofInt 64 r).toNat)=r %18446744073709551616:=by rw[BitVec.toNat_ofInt];omega
theorem Tw n:n&&&2=2*(n/2%2):=by apply Nat.eq_of_testBit_eq;intro i;rw[Nat.testBit_and,show(2:Nat)=2^1 from Z,Nat.testBit_two_pow,Nat.testBit_two_pow_mul];by_cases h:i=1;grind;grind[Qcp,Qbq,QcN,Nat.testBit_lt_two_pow]
theorem b2G{r}(h:i64 r):iF .i64 r 2=2*(r/2%2):=by
 have a:=Tv r;show IntKind.wrap .i64 ((BitVec.ofInt 64 r&&&BitVec.ofInt 64 2).toNat:Int)=_;rw[BitVec.toNat_and,show(BitVec.ofInt 64 2).toNat=2 from Z,Tw,bS aq]
 push_cast
 omega
theorem b2H(h:i64 r):uH .i64 r 2=r-2*(r/2%2):=by
 have d:=Tv r;generalize f:BitVec.ofInt 64 r=x at d;have e:(x&&& ~~~ BitVec.ofInt 64 2).toNat=x.toNat-(x.toNat&&&2):=by
  have a:(x&&& ~~~ BitVec.ofInt 64 2)&&&(x&&&BitVec.ofInt 64 2)=0#64:=by
   ext i hi;simp only[BitVec.getElem_and,BitVec.getElem_not,BitVec.getElem_zero];cases x[i]<;>cases(BitVec.ofInt 64 2)[i]<;>rfl
  have b:(x&&& ~~~ BitVec.ofInt 64 2)+(x&&&BitVec.ofInt 64 2)=x:=by
   rw[BitVec.add_eq_or_of_and_eq_zero _ _ a];ext i hi;simp only[BitVec.getElem_or,BitVec.getElem_and,BitVec.getElem_not];cases x[i]<;>cases(BitVec.ofInt 64 2)[i]<;>rfl
  have c:=Qak BitVec.toNat b;rw[BitVec.toNat_add_of_and_eq_zero a,BitVec.toNat_and x (BitVec.ofInt 64 2),show(BitVec.ofInt 64 2).toNat=2 from Z]at c;omega
 show IntKind.wrap .i64 ((BitVec.ofInt 64 r&&& ~~~ BitVec.ofInt 64 2).toNat:Int)=_;rw[f,e,Tw];have g:=x.isLt;obtain⟨b,c⟩:=h;simp only[IntKind.wrap,IntKind.bits,IntKind.signed];simp;omega
def wB(r:Int):Bool:=decide (r/2%2=1)
theorem HF(h:i64 r):(iF .i64 r 2≠0)↔wB r=true:=by rw[b2G h,wB,Qag];omega
theorem Tx(h:i64 r):uH .i64 r 2=if wB r then r-2 else r:=by grind[b2H,wB]
def hit(page:Int)(x:It):Bool:=decide (x.ep=page)&&wB x.er
def lr(page:Int)(x:It):It:=if hit page x then { x with er:=x.er-2 }else x
theorem Tz page x:(lr page x).key=x.key:=by unfold lr;split<;>rfl
theorem EK page x:(lr page x).u=x.u:=by unfold lr;split<;>rfl
theorem b2I(h:i64 x.er):i64 (lr page x).er:=by
 unfold lr;split
 rename_i a
 simp only[hit,wB,Qam,Qag]at a;obtain⟨b,c⟩:=h;refine⟨?_,?_⟩;grind;grind;exact h
theorem b2J(a:List It)sp i r(b:i<a.length):(a.flatMap cq++sp).set (i*6+4) (iQ r)=(a.set i { a.getD i default with er:=r }).flatMap cq++sp:=
  vT km a i 4 _ _ sp b cl (by simp[List.getD,b,cq])
structure NarI (page : Int) (its l : List It) (i n : Nat) : Prop where
  len : l.length = its.length
  il : i ≤ its.length
  front : l.take i = (its.take i).map (lr page)
  back : ∀ k, i ≤ k → l.getD k default = its.getD k default
  cnt : n = ((its.take i).filter (hit page)).length
theorem NarI.step{page its l i n}(h:NarI page its l i n)(a:i<its.length):NarI page its (l.set i (lr page (l.getD i default))) (i+1) (n+if hit page (l.getD i default)then 1 else 0):=by have d:=h.len;have b:=h.back i (Qai _);have c:its.getD i default=its[i]:=mv;refine⟨by rw[Qal];exact d,aq,?_,λk f=>?_,?_⟩;rw[Qap (by rw[Qal];omega),List.getElem_set_self,List.take_set_of_le (Qai _),h.front,Qap a,QaN,b,c];rfl;rw[<-h.back k aq];simp only[Qao];rw[Qbb aq];rw[Qap a,QbQ,Qaf, <-h.cnt,b,c];cases e:hit page its[i]<;>simp[e]
theorem NarI.skip{page its l i n}(h:NarI page its l i n)(a:i<its.length)(b:hit page (l.getD i default)=false):NarI page its l (i+1) n:=by
 have:=h.step a;rw[lr,b,Qab cl,Qab cl,QbW]at this;have c:l.set i (l.getD i default)=l:=by
  have d:i<l.length:=by rw[h.len];exact a
  rw[show l.getD i default=l[i] by simp[List.getD,d],Qcs]
 rwa[c]at this
theorem NarI.hits(h:NarI page its l i n)(a:i<its.length)(b:hit page (l.getD i default)=true):NarI page its (l.set i { l.getD i default with er:=(l.getD i default).er-2 }) (i+1) (n+1):=by have:=h.step a;rw[lr,b,Qad Z,Qad Z]at this;exact this
def nrN(page:Int)(L:List It):Nat:=(L.filter (hit page)).length
theorem TA{f:It->It}(a:∀x,(f x).u=x.u)(b:i<l.length):us (l.map f) i=us l i:=by grind[us_eq]
theorem Rep.nar{its L now}(h:Rep its now L)page:Rep (its.map (lr page)) now (L.map (lr page)):=by
 refine⟨h.perm.map _,λc d f=>?_,?_,λx g=>?_,?_⟩;rw[QaD]at d;rw[TA (EK page) aq,TA (EK page) d];exact h.heap c d f;rw[List.pairwise_map];exact h.sort.imp λ{a b} e=>by rw[EK,EK];exact e
 obtain⟨y,i,rfl⟩:=QaZ.1 g;rw[EK];exact h.le y i;rw[QcE,show It.key∘lr page=It.key from funext λx=>Tz page x];exact h.keys
theorem b2L b its rm nw page(C:its.length<1000)(t:∀x∈its,i64 x.er):sQ W0 413 [pQ b,iQ page] (bC b (its,[rm,nw,.bool true])::R) (iQ (nrN page its)) (bC b (its.map (lr page),[rm,nw,.bool true])::R):=by
 refine am func413 ntmps413 ?_;refine ao (ar G5 (Cg b its rm nw)) ?_;refine Hr (b:=b) λD E=>?_;refine aw (fI (λX:List It×Nat×Nat=>NarI page its X.1 X.2.1 X.2.2) (λX=>[(0,pQ b),(1,iQ page),(5,iQ X.2.2),(15,iQ (its.length:Nat)),(16,iQ X.2.1)]) (λX=>bC b (X.1,[rm,nw,.bool true])::R) (λX=>its.length-X.2.1) (its,0,0) ?_ ?_ ?_ ?_);exact⟨rfl,Qay _,n4,λ_ _=>rfl,n4⟩
 · exact ai
 exact wF rfl;intro ⟨l,i,n⟩ hD;dsimp only at hD ⊢;have F:=hD.len;have u:=hD.il;have v:n≤its.length:=by
  rw[hD.cnt];exact Qbe (QaW _ _) mv
 refine aw (aB rfl (λw=>?_) λw=>?_);have a:i<l.length:=aq;have d:i64 (l.getD i default).er:=by
  rw[hD.back i (Qai _)];have h:i<its.length:=aq;have:=t _ (QaC h)
  rwa[show its.getD i default=its[i] by simp[List.getD,h]]
 refine LL (b:=b) (Cf a) λg c j G r s=>?_;refine au 2 (fA (λZ:List It×Nat=>NarI page its Z.1 (i+1) Z.2) (λZ=>[(0,pQ b),(1,iQ page),(5,iQ Z.2),(15,iQ (its.length:Nat)),(16,iQ i)]) (λZ=>bC b (Z.1,[rm,nw,.bool true])::R) ?_ ?_);refine au 15 (ac (cu a) ?_);refine ac (aY (aO ((EA l j i 2 a cl).trans rfl))) ?_;apply e9<;>intro k;refine ac (aY (aO ((EA l j i 4 a cl).trans rfl))) ?_;refine ac (iT rfl rfl rfl) ?_;apply ap<;>intro y;refine ac (aY (aO ((EA l j i 4 a cl).trans rfl))) ?_;refine ac (Di rfl rfl (by rw[Tx d,Qad ((HF d).1 aq)]:uH .i64 (l.getD i default).er 2=(l.getD i default).er-2)) ?_;refine aJ (fg (by have:=ue l j i a;omega) (b2J l j i ((l.getD i default).er-2) a)) ?_;refine ac (eX (n+1)) ?_;refine cZ (l.set i { l.getD i default with er:=(l.getD i default).er-2 },n+1) ?_ (he:=?_);have m:=(HF d).1 aq;exact hD.hits aq (by simp only[hit,Qam,Qag];exact⟨aq,m⟩);exact y5 (b:=b) rfl (by rw[Qal]) aq r (by rw[<-s];simp[dy km]);refine cZ (l,n) ?_ (he:=?_);refine hD.skip aq ?_
 first
   | (have e : ¬ (l.getD i default).ep = page := by omega
      rw[hit,Qat e];rfl)
   | (have m : ¬ wB (l.getD i default).er = true := fun q => absurd ((HF d).2 q) (by omega)
      have f:wB (l.getD i default).er=false:=by simpa using m
      rw[hit,f,QcO])
 exact y5 (b:=b) rfl rfl aq r s;refine cZ (l,n) ?_ (he:=?_);refine hD.skip aq ?_
 first
   | (have e : ¬ (l.getD i default).ep = page := by omega
      rw[hit,Qat e];rfl)
   | (have m : ¬ wB (l.getD i default).er = true := fun q => absurd ((HF d).2 q) (by omega)
      have f:wB (l.getD i default).er=false:=by simpa using m
      rw[hit,f,QcO])
 exact y5 (b:=b) rfl rfl aq r s;intro ⟨A,B⟩ hD2;refine aw (ac cK (d8 (A,i+1,B) ?_ (hμ:=?_)));exact hD2;show its.length-(i+1)<its.length-i;omega;refine aw (ag ?_);obtain rfl:i=its.length:=aq;have o:=hD.front;have p:=hD.cnt;rw[QaJ aq,QaJ (Qai _)]at o;rw[QaJ (Qai _)]at p;rw[p,o];exact ax
theorem Rep.keep{p:It->Bool}(h:Rep its now L)(a:its'.Perm (lQ p its))(b:Heap its' its'.length):Rep its' now (lQ p L):=
  ⟨a.trans (h.perm.filter _),b,h.sort.filter _,λx c=>h.le x (QaG.1 c).1,QcG (QcR _ QbJ) h.keys⟩
theorem b2M p l:(lQ p l).length≤l.length:=QaW _ _
theorem b2N b its tl f cs C p(i:PF W0 f cs C p)(g:its.length<1000):sP W0 421 [pQ b,.func (.func f) #[] cs.toArray] (bC b (its,tl)::kH 0 C::R) (λv B=>∃l,v=iQ (its.length-(lQ p its).length:Nat)/\B=bC b (l,tl)::kH 0 C::R/\l.Perm (lQ p its)/\Heap l l.length):=by have j:=b2M p its;refine am func421 ntmps421 ?_;refine ao (ar B9 (y8 b its tl)) ?_;refine Hr (b:=b) λa c=>?_;refine jV (E:=548) (sz:=6) (a:=a) (n:=its.length) (c:=c) cq its km cl Z (λk=>?_);refine aw (aF Z (aK call464 (b2B its a c g k)) ?_);rintro _ h ⟨m,o,rfl,d⟩;subst d;refine aw (aF Z (dj call463 (b2F its m o f cs C p i g)) ?_);rintro _ h ⟨s,t,rfl,d⟩;subst d;refine aw (aJ dr (gK (B:=bC b (lQ p its,tl)::kH 0 C::R) (wF Z) ?_));refine aw (aF Z (ar call465 (b2z b (lQ p its) tl aq)) ?_);rintro _ h ⟨l,rfl,d,e,q⟩;subst d;have r:=e.length_eq;refine aw (ao (ar B9 (y8 b l tl)) ?_);refine ac (mt (its.length-(lQ p its).length)) ?_;exact ag ⟨_,⟨l,Z,Z,e,q⟩,IO⟩
theorem b2O W0:PF W0 422 [] (bB []) (λ_=>true):=⟨call422,λx R=>by
 refine am func422 ntmps422 ?_;refine bR λa=>?_;exact ki
 ⟩
theorem HG l:lQ (λ_=>true) l=[]:=by simp[lQ]
theorem b2P b its rm nw now L(e:Rep its now L)(g:its.length<1000):sP W0 374 [pQ b] (bC b (its,[rm,nw,.bool true])::R) (λv B=>v=iQ L.length/\∃a,B=bC b (a,[rm,nw,.bool true])::R/\Rep a now []):=by have c:=e.length;refine am func374 ntmps374 ?_;refine ao (ar G5 (Cg b its rm nw)) ?_;refine gK (B:=bC b (its,[rm,nw,.bool true])::kH 0 (bB [])::R) inferInstance ?_;refine aw (aF Z (dj call421 (b2N b its _ 422 [] _ _ (b2O W0) g)) ?_);rintro _ j ⟨l,rfl,d,h,i⟩;subst d;rw[HG]at h;rw[HG,c];refine aw (ag ?_);have f:=e.keep (p:=λ_=>true) (by grind[HG]) i;rw[HG]at f;exact⟨_,⟨Z,l,Z,f⟩,IO⟩
structure Ln where
  k : dL
  e : lO
  rt : Int
  lf : Int
instance:Inhabited Ln:=⟨⟨(0,0),(0,0,0),0,0⟩⟩
@[reducible] def dM(x:Ln):List Value:=[.int .i64 x.k.1,.int .i64 x.k.2,.int .i64 x.e.1,.int .i64 x.e.2.1,.int .i64 x.e.2.2,.int .i64 x.rt,.int .i64 x.lf]
theorem rJ x:(dM x).length=7:=Z
theorem TB x:gO (dM x)=true:=Z
def Ln.thr(x:Ln)(p:Int):Bool:=decide (x.rt=p)||decide (x.lf=p)
theorem yg{x:Ln}{p}:x.thr p=true↔x.rt=p\/x.lf=p:=by simp[Ln.thr]
def j6(L:List Ln)(p:Int):Bool:=L.any λx=>x.thr p
theorem Ab{L p}:j6 L p=true↔∃x∈L,x.thr p=true:=by simp[j6]
def jx(r:Int):Int:=if wB r then r-2 else r
theorem HH r:wB (jx r)=false:=by grind[jx,wB]
def Ln.nar(x:Ln):Ln:={ x with e:=(x.e.1,x.e.2.1,jx x.e.2.2) }
theorem TC{x:Ln}(h:wB x.e.2.2=false):x.nar=x:=by obtain⟨k,⟨a,b,c⟩,r,l⟩:=x;simp only[Ln.nar,jx]at h ⊢;rw[h];rfl
def oY(L:List Ln)(r l:Int):List Int:=(if r=l then[r]else[min r l,max r l]).filter λp=> !j6 L p
theorem TD{L:List Ln}{l p:Int}:p∈oY L r l↔(p=r\/p=l)/\j6 L p=false:=by grind[oY]
def eK(r l:Int)(x:Ln):Ln:=if x.e.1=r\/x.e.1=l then x.nar else x
def Ck(L:List Ln):List Ln:=match L.getLast? with
 |none=>[]
 |some y=>L.dropLast++[if j6 L y.e.1 then y.nar else y]
def EL(k:dL)(e:lO)(r l:Int)(L:List Ln):List Ln:=L.filter (λx=>decide (x.k≠k))++[⟨k,e,r,l⟩]
def EM(L:List Ln):List Ln:=if 32<L.length then L.tail else L
def oZ(k:dL)(e:lO)(r l:Int)(L:List Ln):List Ln:=Ck ((EM (EL k e r l L)).map (eK r l))
def mK(k:dL)(L:List Ln):Option Ln:=L.find? λx=>decide (x.k=k)
theorem TE L y:Ck (L++[y])=L++[if j6 (L++[y]) y.e.1 then y.nar else y]:=by grind[Ck]
theorem b2Q(x:Ln)p:x.nar.thr p=x.thr p:=Z
theorem TF r l x p:(eK r l x).thr p=x.thr p:=by unfold eK;split<;>rfl
theorem TG r l x:(eK r l x).k=x.k:=by unfold eK;split<;>rfl
theorem TH r l x:(eK r l x).e.1=x.e.1:=by unfold eK;split<;>rfl
theorem TJ{f}(h:∀x p,(f x).thr p=x.thr p)L p:j6 (L.map f) p=j6 L p:=by grind[j6]
theorem TK A B p:j6 (A++B) p=(j6 A p||j6 B p):=by simp[j6]
def mM(k:dL)(L:List Ln):List Ln:=if 31<(L.filter λx=>decide (x.k≠k)).length then(L.filter λx=>decide (x.k≠k)).tail else L.filter λx=>decide (x.k≠k)
theorem TM k L:(mM k L).Sublist (L.filter λx=>decide (x.k≠k)):=by grind[mM]
theorem M8{L x}(h:x∈mM k L):x∈L/\x.k≠k:=by grind[TM]
theorem TN{L}(h:L.length≤32):(mM k L).length≤31:=by grind[QaW,mM]
def nk(k:dL)(e:lO)(r l:Int)(L:List Ln):Ln:=
  if j6 (mM k L) e.1||(⟨k,e,r,l⟩:Ln).thr e.1 then(⟨k,e,r,l⟩:Ln).nar else⟨k,e,r,l⟩
theorem b2R(x:Ln):x.nar.nar=x.nar:=TC (HH _)
theorem M9 k e r l L(h:L.length≤32):oZ k e r l L=(mM k L).map (eK r l)++[nk k e r l L]:=by
 have a:EM (EL k e r l L)=mM k L++[⟨k,e,r,l⟩]:=by
  grind[EM,EL,mM]
 unfold oZ;rw[a,QaN,QcH,TE];congr 1;rw[<-QcH (f:=eK r l), <-QaN,TJ (TF r l),TK,TH];have b:j6 [(⟨k,e,r,l⟩:Ln)] e.1=(⟨k,e,r,l⟩:Ln).thr e.1:=by simp[j6]
 rw[b];unfold nk;by_cases q:e.1=r\/e.1=l;have c:eK r l ⟨k,e,r,l⟩=(⟨k,e,r,l⟩:Ln).nar:=Qad q;have d:(⟨k,e,r,l⟩:Ln).thr e.1=true:=by
  grind[yg]
 rw[c,d,Bool.or_true,Qad Z,Qad Z,b2R];grind[eK]
theorem HI k e r l L:(nk k e r l L).k=k:=by unfold nk;split<;>rfl
theorem Ma k e r l L:nk k e r l L=⟨k,e,r,l⟩\/nk k e r l L=(⟨k,e,r,l⟩:Ln).nar:=by unfold nk;split<;>simp
structure TI (L : List Ln) (TL : List It) : Prop where
  keys : (L.map Ln.k).Nodup
  len : L.length ≤ 32
  nowr : ∀ x ∈ L, wB x.e.2.2 = true → j6 L x.e.1 = false
  sub : ∀ y ∈ TL, ∃ x ∈ L, x.k = y.key ∧ x.e = y.ent
theorem TI.nil:TI [] []:=⟨QcY,Qay _,λx a=>by simp at a,λy b=>by simp at b⟩
theorem HJ{L x}(h:mK k L=some x):x∈L/\x.k=k:=⟨QbI h,by simpa using QcW h⟩
theorem TO{L:List Ln}(h:(L.map Ln.k).Nodup){x y}(b:x∈L)(d:y∈L)(e:x.k=y.k):x=y:=by
 induction L with
 |nil=>simp at b
 |cons a L f=>
  simp only[QaE,QbO]at h;rcases QaX.1 b with rfl|c;grind;grind
theorem Mb{L}(h:(L.map Ln.k).Nodup){x}(a:x∈L):mK x.k L=some x:=by
 cases b:mK x.k L with
 |none=>
  have:=Qch.1 b x a;simp at this
 |some z=>
  obtain⟨c,d⟩:=HJ b;rw[TO h c a d]
theorem TI.drop{L:List Ln}{b:List It}(h:TI L TL)(f:Ln->Bool)(e:∀y∈b,y∈TL/\∀x∈L,f x=true->y.key≠x.k):TI (L.filter λx=> !f x) b:=by
 refine⟨QcG (QcR _ QbJ) h.keys,Qbe (QaW _ _) h.len,λx a g=>?_,λy i=>?_⟩;have a:=(QaG.1 a).1;have:=h.nowr x a g;rw[<-QaI,Ab]at this ⊢;rintro⟨z,j,c⟩;exact this ⟨z,(QaG.1 j).1,c⟩;obtain⟨l,m⟩:=e y i;obtain⟨x,a,d,n⟩:=h.sub y l;refine⟨x,QaG.2 ⟨a,?_⟩,d,n⟩
 cases o:f x with
 |false=>rfl
 |true=>exact absurd d.symm (m x a o)
theorem Mc:y∈nZ k x L↔(y∈L/\y.key≠k)\/y=x:=by simp[nZ,yd]
theorem TI.getT{L:List Ln}(h:TI L TL)(b:Nat)(k:dL):TI L (yf b k TL):=by
 refine⟨h.keys,h.len,h.nowr,λy a=>?_⟩;unfold yf at a
 cases c:qD k TL with
 |none=>rw[c]at a;exact h.sub y a
 |some z=>
  rw[c]at a;obtain⟨d,e⟩:=HC c;rcases Mc.1 a with ⟨q,_⟩|rfl;exact h.sub y q;obtain⟨x,f,g,i⟩:=h.sub z d;exact⟨x,f,by rw[g,e];rfl,by rw[i];rfl⟩
theorem TP{a:Nat}{e:lO}(h:y∈rI a now k e L):(y∈L/\y.key≠k)\/y=oX k e (now+1:Nat):=by unfold rI at h;split at h;exact Mc.1 (List.mem_of_mem_tail h);exact Mc.1 h
theorem TI.putT{L:List Ln}(h:TI L TL)(a b:Nat){x:Ln}(c:x∈L):TI L (rI a b x.k x.e TL):=by refine⟨h.keys,h.len,h.nowr,λy d=>?_⟩;rcases TP d with ⟨q,_⟩|rfl;exact h.sub y q;exact⟨x,c,Z,Z⟩
def mN(l:List Int)(TL:List It):List It:=l.foldl (λA p=>A.map (lr p)) TL
theorem b2S p y:(lr p y).ent=if y.ep=p then(y.ent.1,y.ent.2.1,jx y.ent.2.2)else y.ent:=by unfold lr hit jx;by_cases q:y.ep=p;rw[Qav q,QbU,Qad q];show _=(y.ep,y.ef,if wB y.er=true then y.er-2 else y.er);cases a:wB y.er<;>rfl;grind
theorem b2T{l}:∀{TL:List It} {y:It},y∈mN l TL->∃z∈TL,y.key=z.key/\y.ent=if z.ep∈l then(z.ent.1,z.ent.2.1,jx z.ent.2.2)else z.ent:=by
 induction l with
 |nil=>intro TL y h;exact⟨y,h,Z,n4⟩
 |cons p l b=>
  intro TL y h;obtain⟨z,c,d,e⟩:=b (TL:=TL.map (lr p)) h;obtain⟨w,f,rfl⟩:=QaZ.1 c;refine⟨w,f,by rw[d,Tz],?_⟩;have a:(lr p w).ep=w.ep:=by grind[lr]
  rw[e,a,b2S];by_cases g:w.ep=p;grind[QaX.2,HH,jx];grind
theorem TI.fill{L TL}(h:TI L TL)k e r l room now:
    TI (oZ k e r l L) ((rI room now k (nk k e r l L).e (mN (oY L r l) TL)).filter λy=>(mK y.key (oZ k e r l L)).isSome):=by
 have i:=M9 k e r l L h.len;have c:∀x∈mM k L,x∈L/\x.k≠k:=λx d=>M8 d;have w:∀p,j6 (oZ k e r l L) p=(j6 (mM k L) p||(⟨k,e,r,l⟩:Ln).thr p):=λp=>by
  rw[i,TK,TJ (TF r l)];congr 1;rcases Ma k e r l L with q|q<;>rw[q]<;>simp[j6,b2Q]
 have f:((oZ k e r l L).map Ln.k).Nodup:=by
  rw[i,QaN,QcE,show Ln.k∘eK r l=Ln.k from funext λx=>TG r l x,QcH,HI];refine QbK.2 ⟨QcG (QcR _ ((TM k L).trans QbJ)) h.keys,n4,λa K b R=>?_⟩;obtain rfl:b=k:=mv;obtain⟨x,d,rfl⟩:=QaZ.1 K;exact(c x d).2
 have m:nk k e r l L∈oZ k e r l L:=by rw[i];simp
 refine⟨f,?_,λx d g=>?_,λy M=>?_⟩;rw[i,Qaf,QaD,QaR];have:=TN (k:=k) h.len;omega;rw[w];rw[i]at d;rcases Qba.1 d with d|d;obtain⟨z,A,rfl⟩:=QaZ.1 d;obtain⟨B,_⟩:=c z A;rw[TH];by_cases q:z.e.1=r\/z.e.1=l;rw[eK,Qad q]at g;rw[show z.nar.e.2.2=jx z.e.2.2 from Z,HH]at g;cases g;rw[eK,Qab q]at g;have S:=h.nowr z B g;rw[Qbh];refine⟨?_,?_⟩;grind[Ab];rw[<-QaI,yg];rintro(G|G);grind;grind;grind[nk,Ln.nar,jx,HH];obtain⟨C,n⟩:=QaG.1 M;rcases TP C with ⟨q,N⟩|rfl;obtain⟨z,A,T,O⟩:=b2T q;obtain⟨x,d,G,t⟩:=h.sub z A
 cases H:mK y.key (oZ k e r l L)with
 |none=>rw[H]at n;cases n
 |some P=>
  obtain⟨j,I⟩:=HJ H;refine⟨P,j,I,?_⟩;rw[i]at j;rcases Qba.1 j with j|j;obtain⟨u,Q,rfl⟩:=QaZ.1 j;obtain⟨o,_⟩:=c u Q;rw[TG]at I;have D:u=x:=TO h.keys o d mv;subst D;have E:z.ep=u.e.1:=by rw[t];rfl
  rw[O,E];by_cases v:u.e.1=r\/u.e.1=l;rw[eK,Qad v];by_cases s:u.e.1∈oY L r l;rw[Qad s, <-t];rfl;rw[Qab s];have J:j6 L u.e.1=true:=by
   rw[<-Bool.not_eq_false];intro F;exact s (TD.2 ⟨v,F⟩)
  have g:wB u.e.2.2=false:=by
   rw[<-QaI];intro F;rw[h.nowr u o F]at J;cases J
  rw[TC g,t];rw[eK,Qab v,Qab (λs=>v (TD.1 s).1),t];grind[nk,HI]
 exact⟨_,m,HI k e r l L,Z⟩
def cj(b:Nat)(L:List Ln):HP:=chk (λC=>∃a c,C=[pt b (ae [.slice a L.length c,.bool true] 482),osl 551 7 (.slice a L.length c) (L.flatMap dM)])
section
variable{W0:World}{R A:List HP}{b:Nat}{L:List Ln}{f:FuncId}
theorem Ac{c:Nat}{B:List HP}[d:Tk pt b A (ae [.slice a n c,.bool true] 482) R1][e:Tk (osl 551 7) (.slice a n c) R1 (L.flatMap dM) R2](f:n=L.length)[k:Ent R2 B]:Ent A (cj b L::B):=by subst f;exact gk
theorem EN{N K e}[hk:Tk cj b A L R](h:∀a c,aC W0 N K e (pt b (ae [.slice a L.length c,.bool true] 482)::osl 551 7 (.slice a L.length c) (L.flatMap dM)::R)):aC W0 N K e A:=
  ix (r:=cj) (b:=b) (oz λC hC=>qr)
theorem b2U{N K e}[o:Tk cj b A L R](j:L≠[])(h:∀g c d,L.length≤c->c≤maxLen->(L.flatMap dM++d).length=c*7->aC W0 N K e (pt b (ae [.slice (some ⟨g,0,none⟩) L.length c,.bool true] 482)::pt g (ae (L.flatMap dM++d) 551)::R)):aC W0 N K e A:=
  EN (b:=b) λa c=>uF (List.Perm.swap _ _ _) (qf (λi f=>by
      have:=dy rJ L;rw[f]at this
      exact absurd (QaF mv) j)
    (λg n k d i f l p m=>by
      cases i
      exact uF (List.Perm.swap _ _ _) (h g _ d f l m)))
theorem TQ{g c:Nat}{B:List HP}[a:Tk pt b A (ae [.slice (some ⟨g,0,none⟩) n c,.bool true] 482) R1][l:Tk pt g R1 (ae (xs++sp) 551) R2](d:xs=L.flatMap dM)(f:n=L.length)(h:n≤c)(i:c≤maxLen)(j:(xs++sp).length=c*7)[k:Ent R2 B]:Ent A (cj b L::B):=by subst f;subst d;have e:Ent R1 (osl 551 7 (.slice (some ⟨g,0,none⟩) L.length c) (L.flatMap dM)::B):=jG h i (dy rJ L) j;exact(Ent.ofPerm a.perm).trans ((Ent.cons e).trans (fT (R:=B) (C:=[_,_]) ⟨_,c,Z⟩))
theorem b2V[g:Tk cj b A L R]:lF (aQ W0 A) b 1 (.bool true):=λw (e:Own W0 w A)=>by
 obtain⟨C,⟨a,c,rfl⟩,d⟩:=(e.tk (r:=cj) (b:=b)).chk;have f:lF (aQ W0 (pt b (ae [.slice a L.length c,.bool true] 482)::(osl 551 7 (.slice a L.length c) (L.flatMap dM)::R))) b 1 (.bool true):=aO Z;exact f w d
end
theorem Cl b L:sQ W0 402 [pQ b] (cj b L::R) (.bool false) (cj b L::R):=by refine am func402 ntmps402 ?_;apply d7 Z Z Z<;>intro a;cases a;refine aw (ac (aY b2V) ?_);exact ki
def Ad(p:Int):Bool:=decide (0≤p/\p<8)
theorem TR p:sQ W0 445 [iQ p] R (.bool (Ad p)) R:=by
 refine am func445 ntmps445 ?_;apply e9<;>intro a;refine ag (aP (Qak Value.bool ?_));rw[Qah,Ad,Qag]
 first
   |(rw[Qag];constructor<;>(intro q;omega))
   | (constructor
      · intro q;first|omega|(cases q)
      intro q;omega)
 refine ag (aP (Qak Value.bool ?_));rw[Qah,Ad,Qag]
 first
   |(rw[Qag];constructor<;>(intro q;omega))
   | (constructor
      · intro q;first|omega|(cases q)
      intro q;omega)
theorem HK g o x(b:bF (aQ W0 R) g o (dM x))p:sQ W0 405 [.pointer (some ⟨g,o,none⟩),iQ p] R (.bool (x.thr p)) R:=by
 refine am func405 ntmps405 ?_;refine ac (aY (bF.weak b 5 _ Z)) ?_;apply fC<;>intro a;refine ag (aP (Qak Value.bool ?_));rw[Qah,yg]
 first
   |(simp;omega)
   |(simp only[Qbv,true_iff];omega)
   |simp_all
 refine ac (aY (bF.weak b 6 _ Z)) ?_;refine ag (aP (Qak Value.bool ?_));rw[Qah,yg]
 first
   |(simp;omega)
   |(simp only[Qbv,true_iff];omega)
   |simp_all
theorem Md g o vs r(hr:i64 r)(hv:vs[o+4]?=some (iQ r)):sQ W0 477 [.pointer (some ⟨g,o,none⟩)] (pt g (ae vs 551)::R) (.tuple #[]) (pt g (ae (vs.set (o+4) (iQ (jx r))) 551)::R):=by refine am func477 ntmps477 ?_;refine ac (aY (aO hv)) ?_;refine ac (Di Z Z (Tx hr:uH .i64 r 2=jx r)) ?_;refine aJ (fg mv (Z:vs.set (o+4) (iQ (if wB r then r-2 else r))=vs.set (o+4) (iQ (jx r)))) ?_;refine bP (.inr Z) .nil ?_;rw[show jx r=if wB r then r-2 else r from Z];exact ax
theorem b2W b L(A:L.length≤1000)p:sQ W0 476 [pQ b,iQ p] (cj b L::R) (.bool (j6 L p)) (cj b L::R):=by
 refine am func476 ntmps476 ?_;refine ao (ar D8 (Cl b L)) ?_;refine EN (b:=b) λa c=>?_;refine aw (eC (λi:Nat=>i≤L.length/\∀j (f:j<L.length),j<i->L[j].thr p=false) (λi=>[(0,pQ b),(1,iQ p),(12,iQ (L.length:Nat)),(13,iQ i)]) (λ_=>pt b (ae [.slice a L.length c,.bool true] 482)::osl 551 7 (.slice a L.length c) (L.flatMap dM)::R) (λi=>L.length-i) 0 ?_ ?_);grind;intro i ⟨B,r⟩;refine aw (aB Z (λs=>?_) λs=>?_);refine au 11 ?_;have d:i<L.length:=aq;refine jV (E:=551) (sz:=7) (a:=a) (c:=c) (n:=L.length) dM L rJ cl Z (λt=>?_);obtain⟨g,o,k,l⟩:=t.at_ d;obtain⟨x,h⟩:∃x,L[i]=x:=⟨_,Z⟩
 have e:x.thr p=true->j6 L p=true:=λq=>Ab.2 ⟨x,by rw[<-h];exact QaC d,q⟩;have u:x.thr p=false->∀j (f:j<L.length),j<i+1->L[j].thr p=false:=λq j f v=>by
  rcases Qaz j i with w|w;grind;grind
 rw[h]at l;refine aw (ac (g7 qQ xj Z k Z Z d dg) ?_);refine ao (aK OK (HK g (o+i*7) x l p)) ?_;apply ap<;>intro m;refine ag ?_;rw[e m];exact⟨_,⟨Z,Z⟩,Ac (b:=b) Z⟩;refine ac cK (d8 (i+1) ?_);grind;refine aw (ag ?_);have y:j6 L p=false:=by
  rw[<-QaI,Ab];rintro⟨x,h,q⟩;obtain⟨j,f,rfl⟩:=Qby h;rw[r j f aq]at q;cases q
 rw[y];exact⟨_,⟨Z,Z⟩,Ac (b:=b) Z⟩
theorem EO{S b off us ws vs}(h:bF S b off vs)(e:vs=us++ws):bF S b off us:=λi v a=>h i v mv
structure PLn (W0 : World) (fn : FuncId) (cs : List Value) (C : HP) (p : Ln → Bool) : Prop where
  call : ∀ args w, (callFunc fn args).run Tryz.prog w = .ok (.enter fn args) w
  spec : ∀ x b R, bE Tryz.prog W0 fn ([] ++ [.pointer (some ⟨b, 0, none⟩)] ++ cs) (pt b (ae (dM x) 551) :: kH 0 C :: R) (fun v B => v = .bool (p x) ∧ B = pt b (ae (dM x) 551) :: kH 0 C :: R)
theorem b2X W0 bk(k:dL):PLn W0 447 [pQ bk] (bB [pt bk (ae (jo k) 504)]) (λx=>decide (x.k=k)):=⟨call447,λx b R=>by
 refine eR (uO (r1:=kH) (b1:=0)) (qW ?_);simp only[Qau,Qar];refine am func447 ntmps447 ?_;refine bH [b,bk] 8 λa=>?_;refine aj 0 4 a ?_;refine aE 4 a (cV (EO (us:=jo x.k) (ws:=[iQ x.e.1,iQ x.e.2.1,iQ x.e.2.2,iQ x.rt,iQ x.lf]) (i6 (k:=0) Z) Z)) ?_;refine aj 5 1 a ?_;refine aE 6 a (zb Tryz.eqGuardType504 Z Z (za Jl Tryz.stoodInHeld504 (oy Z cM Z Z (ov ez) (oy Z cM Z Z (ov ez) z9)))) ?_;refine aj 7 1 a ?_;refine aS (ag (aP (Qak Value.bool ?_)));rw[Qah];simp[Prod.ext_iff]
 ⟩
theorem b2Y W0 bp page:PLn W0 404 [pQ bp] (bB [pt bp (ae [iQ page] 3)]) (λx=>x.thr page):=⟨call404,λx b R=>by
 refine eR (uO (r1:=kH) (b1:=0)) (qW ?_);simp only[Qau,Qar];refine am func404 ntmps404 ?_;refine ao (aK OK (HK b 0 x eQ page)) ?_;exact ki
 ⟩
def pN(page:Int)(x:Ln):Bool:=x.thr page||decide (x.e.1=page)
theorem b2Z W0 bp page:PLn W0 470 [pQ bp] (bB [pt bp (ae [iQ page] 3)]) (pN page):=⟨call470,λx b R=>by
 refine eR (uO (r1:=kH) (b1:=0)) (qW ?_);simp only[Qau,Qar];obtain⟨q,hq⟩:∃q,x.thr page=q:=⟨_,Z⟩
 rw[show pN page x=(q||decide (x.e.1=page)) by rw[pN,hq]];refine am func470 ntmps470 ?_;refine bH [b,bp] 14 λa=>?_;refine aj 0 2 a ?_;refine co 2 (aK OK (HK b 0 x eQ page)) ?_;clear a;rintro _ d ⟨rfl,hB_⟩;subst hB_;rw[hq];refine⟨aW,λa=>?_⟩;refine aj 3 1 a ?_;refine vQ (t:=7) Z ?_ ?_;intro c;refine aj 4 10 a ?_;refine aS (ag (aP (Qak Value.bool ?_)));rw[Qah];simp_all;intro c;refine aj 4 10 a ?_;refine aS (ag (aP (Qak Value.bool ?_)));rw[Qah];simp_all
 ⟩
theorem b20 W0:PLn W0 423 [] (bB []) (λ_=>true):=⟨call423,λx b R=>by
 refine am func423 ntmps423 ?_;exact ki
 ⟩
theorem TS{α:Type}{p:α->Bool}{l:List α}{x:α}(a:i<l.length)(b:l[i]=x)(h:p x=true):(l.take (i+1)).filter p=(l.take i).filter p++[x]:=by grind[Qap]
theorem TT{α:Type}{p:α->Bool}{l:List α}{x:α}(a:i<l.length)(b:l[i]=x)(h:¬p x=true):(l.take (i+1)).filter p=(l.take i).filter p:=by grind[Qap]
theorem TU{α:Type}{p}{l:List α}{i}:((l.take i).filter p).length≤i:=
  Qbe (QaW _ _) mv
@[reducible] def Ae(x:Ln):List Value:=jo x.k
theorem HM b L(hl:L.length≤1000)fn cs C p(hp:PLn W0 fn cs C p):sP W0 403 [pQ b,.func (.func fn) #[] cs.toArray] (cj b L::kH 0 C::R) (λv B=>∃a c,v=.slice a (L.filter p).length c/\B=osl 504 2 (.slice a (L.filter p).length c) ((L.filter p).flatMap Ae)::cj b (L.filter λx=> !p x)::kH 0 C::R):=by
 obtain⟨n,hn⟩:∃n:Ln->Bool,(λx=> !p x)=n:=⟨_,Z⟩
 have hnx:∀x,n x= !p x:=λx=>by rw[<-hn]
 rw[hn];refine am func403 ntmps403 ?_;refine EN (b:=b) λa c=>?_;refine aw (fI (λX:Nat×(Option Addr×Nat)×Option Addr×Nat=>X.1≤L.length) (λX=>[(0,pQ b),(1,.func (.func fn) #[] cs.toArray),(5,.slice X.2.1.1 ((L.take X.1).filter p).length X.2.1.2),(6,.slice X.2.2.1 ((L.take X.1).filter n).length X.2.2.2),(13,iQ (L.length:Nat)),(14,iQ X.1)]) (λX=>osl 504 2 (.slice X.2.1.1 ((L.take X.1).filter p).length X.2.1.2) (((L.take X.1).filter p).flatMap Ae)::osl 551 7 (.slice X.2.2.1 ((L.take X.1).filter n).length X.2.2.2) (((L.take X.1).filter n).flatMap dM)::pt b (ae [.slice a L.length c,.bool true] 482)::osl 551 7 (.slice a L.length c) (L.flatMap dM)::kH 0 C::R) (λX=>L.length-X.1) (0,(none,0),none,0) ?_ ?_ ?_ ?_);omega
 · exact ai
 show Ent _ (osl 504 2 (.slice none 0 0) []::osl 551 7 (.slice none 0 0) []::pt b (ae [.slice a L.length c,.bool true] 482)::osl 551 7 (.slice a L.length c) (L.flatMap dM)::kH 0 C::R);exact eW (k:=eW);intro ⟨i,⟨a1,c1⟩,a2,c2⟩ hi;dsimp only at hi ⊢;have hlp:=TU (p:=p) (l:=L) (i:=i);have hln:=TU (p:=n) (l:=L) (i:=i);refine aw (aB Z (λc4=>?_) λc4=>?_);refine au 2 (fA (λX:(Option Addr×Nat)×Option Addr×Nat=>True) (λX=>[(0,pQ b),(1,.func (.func fn) #[] cs.toArray),(5,.slice X.1.1 ((L.take (i+1)).filter p).length X.1.2),(6,.slice X.2.1 ((L.take (i+1)).filter n).length X.2.2),(13,iQ (L.length:Nat)),(14,iQ i)]) (λX=>osl 504 2 (.slice X.1.1 ((L.take (i+1)).filter p).length X.1.2) (((L.take (i+1)).filter p).flatMap Ae)::osl 551 7 (.slice X.2.1 ((L.take (i+1)).filter n).length X.2.2) (((L.take (i+1)).filter n).flatMap dM)::pt b (ae [.slice a L.length c,.bool true] 482)::osl 551 7 (.slice a L.length c) (L.flatMap dM)::kH 0 C::R) ?_ ?_);refine au 8 ?_;have hi1:i<L.length:=aq;refine jV (E:=551) (sz:=7) (a:=a) (c:=c) (n:=L.length) dM L rJ cl Z (λhs=>?_);obtain⟨g,o,hga,hc⟩:=hs.at_ hi1;obtain⟨x,hx⟩:∃x,L[i]=x:=⟨_,Z⟩
 rw[hx]at hc;refine aw (ac (g7 qQ xj Z hga Z Z hi1 dg) ?_);refine ac (cV hc.weak) ?_;refine bU λbx=>?_;refine aJ aR (ao (Zd (us:=[]) (cs:=cs) Z hp.call Z (hp.spec x bx _)) ?_);apply ap<;>intro c7;have e1:=TS (p:=p) hi1 hx c7;have e2:=TT (p:=n) hi1 hx mv;refine ac (vO J4 vG Z TakeL.eq Z) ?_;refine dh (ji Od vG c2u Z (fK Z Z iH) Z cl cl cl) λbb=>?_;rw[show([jo x.k]:List (List Value)).flatten=jo x.k from Qaq _];refine aF Z (fR (sz:=2) (by_:=16) (info:=Tryz.t504) Od ld Z Z Z Z cl Z Z eQ Z Z n5 aq) ?_;rintro _ _ ⟨a3,c3,rfl,rfl⟩;refine aw (jF ((a3,c3),a2,c2) ?_ ?_ ?_);trivial
 · rw[e1,e2,Qaf]
   exact ai
 dsimp only;rw[e1,e2,Qaf,QaR,Qbg,List.flatMap_singleton];exact IO;have e1:=TT (p:=p) hi1 hx c7;have e2:=TS (p:=n) hi1 hx mv;refine dh (ji qQ xj Jo Z (fK Z Z iH) Z cl cl cl) λbb=>?_;rw[show([dM x]:List (List Value)).flatten=dM x from Qaq _];refine aF Z (fR (sz:=7) (by_:=56) (info:=Tryz.t551) qQ ld Z Z Z Z cl Z Z eQ Z (by grind[TB]) n5 aq) ?_;rintro _ _ ⟨a3,c3,rfl,rfl⟩;refine aw (jF ((a1,c1),a3,c3) ?_ ?_ ?_);trivial
 · rw[e1,e2,Qaf]
   exact ai
 dsimp only;rw[e1,e2,Qaf,QaR,Qbg,List.flatMap_singleton];exact IO;intro ⟨⟨a4,c4⟩,a5,c5⟩ _;exact aw (ac cK (d8 (i+1,(a4,c4),a5,c5) aq));refine aw (aJ dr (ag ?_));obtain rfl:i=L.length:=aq;rw[QbF];exact⟨_,⟨a1,c1,Z,Z⟩,Ent.trans (B:=osl 504 2 (.slice a1 (L.filter p).length c1) ((L.filter p).flatMap Ae)::pt b (ae [.slice a2 (L.filter n).length c2,.bool true] 482)::osl 551 7 (.slice a2 (L.filter n).length c2) ((L.filter n).flatMap dM)::kH 0 C::R) inferInstance (Ent.cons (Ac (b:=b) Z))⟩
theorem b21 a n c:sP W0 479 [.slice a n c] R (λv B=>∃b,v=.func (.func 489) #[] #[pQ b]/\B=pt b (ae [.slice a n c] 475)::R):=by refine am func479 ntmps479 ?_;refine dh (fQ Z Z) λd=>?_;exact ag ⟨_,⟨d,Z,Z⟩,IO⟩
theorem b22 W0 bs L c a(b:List It)(p:b.length<1000)(C:Nat->List HP)(j:∀i R,i<b.length->sr Tryz.prog W0 L [.agg (cq (b.getD i default)).toArray] (C i++R) (λv B=>v=.bool true/\B=C (i+1)++R)):sQ W0 489 [.func (.yield L) #[] #[],pQ bs] (pt bs (ae [.slice a b.length c] 475)::osl 548 6 (.slice a b.length c) (b.flatMap cq)::C 0) (.tuple #[]) (pt bs (ae [.slice a b.length c] 475)::osl 548 6 (.slice a b.length c) (b.flatMap cq)::C b.length):=by refine am func489 ntmps489 ?_;refine eC (λi:Nat=>i≤b.length) (λi=>[(0,.func (.yield L) #[] #[]),(5,.slice a b.length c),(6,iQ (b.length:Nat)),(7,iQ i)]) (λi=>pt bs (ae [.slice a b.length c] 475)::osl 548 6 (.slice a b.length c) (b.flatMap cq)::C i) (λi=>b.length-i) 0 ?_ ?_;omega;intro i q;refine aw (ap (λk=>?_) λk=>?_);have d:i<b.length:=aq;refine jV (E:=548) (sz:=6) (a:=a) (n:=b.length) (c:=c) cq b km cl Z (λl=>?_);obtain⟨g,o,rfl,m⟩:=l.at_ d;have e:b.getD i default=b[i]:=mv;refine aw (ac (cu d) ?_);refine ac (cV m) ?_;refine bU λr=>?_;refine eM (eN gD Z Z Z Z Z) ?_;rintro _ _ rfl;refine aI (aA (aG (aM (aa Z (aV Z) (aa Z (q9 pX gD Z Z) ?_)))));refine Gs Z Z Z (Gw (QaQ (l₁:=[_,_,_])) (e▸j i [_,_,_] d)) ?_;rintro _ s ⟨rfl,f⟩;subst f;refine uF QaQ ?_;simp only[Qau,Qar];refine aw (ap (λh=>?_) λh=>?_);exact absurd Z h;exact y1;refine bP (.inr Z) .nil ?_;obtain rfl:i=b.length:=aq;exact ax
theorem b23{l:World}{A:List HP}{g L D k c:Nat}{h:Array Tmp}{f d:Code}{n j:List HP->Prop}(b:List It)(r:b.length<1000)(C:Nat->List HP)
    (s:A.Perm (pt k (ae [.slice a b.length c] 475)::osl 548 6 (.slice a b.length c) (b.flatMap cq)::C 0))
    (m:n (pt k (ae [.slice a b.length c] 475)::osl 548 6 (.slice a b.length c) (b.flatMap cq)::C b.length))
    (t:∀i R,i<b.length->sr Tryz.prog l L [.agg (cq (b.getD i default)).toArray] (dO L ⟨e,g,h,f,d,.ready,none,D⟩::pt D (.deferred (some []))::(C i++R))
      (λv B=>v=.bool true/\B=dO L ⟨e,g,h,f,d,.ready,none,D⟩::pt D (.deferred (some []))::(C (i+1)++R))):
    bE Tryz.prog l 489 (.func (.yield L) #[] #[]::[pQ k]) (dO L ⟨e,g,h,f,d,.ready,none,D⟩::pt D (.deferred (some []))::A)
      (λ_ B=>(∃C,B=dO L ⟨e,g,h,f,d,.ready,none,D⟩::pt D (.deferred (some []))::C/\n C)\/(∃C,B=dO L ⟨e,g,h,f,d,.done,some .ret,D⟩::pt D (.deferred (some []))::C/\j C)):=by
 have o:∀(x y p q:HP) (Z:List HP),(x::y::p::q::Z).Perm (p::q::x::y::Z):=λx y p q Z=>
  (((List.Perm.swap _ _ _).trans ((List.Perm.swap _ _ _).cons _)).cons _).trans ((List.Perm.swap _ _ _).trans ((List.Perm.swap _ _ _).cons _))
 refine eR (((s.cons _).cons _).trans (o _ _ _ _ _)) (cF (b22 l k L c a b r (λi=>dO L ⟨e,g,h,f,d,.ready,none,D⟩::pt D (.deferred (some []))::C i) (λi R u=>t i R u)) ?_);rintro v B ⟨_,rfl⟩;exact⟨_,.inl ⟨_,J,m⟩,Ent.ofPerm (o _ _ _ _ _)⟩
def Af(b:Nat)(l:List It):HP:=chk (λC=>∃a c,C=[pt b (ae [.slice a l.length c] 475),osl 548 6 (.slice a l.length c) (l.flatMap cq)])
section
variable{W0:World}{N:FSz}{K:Act->World->Prop}{e:bK}{A R R1:List HP}{b n c:Nat}{l:List It}{a:Option Addr}{ys:List Value}
theorem TV[hk:Tk Af b A l R](h:∀a c,aC W0 N K e (pt b (ae [.slice a l.length c] 475)::osl 548 6 (.slice a l.length c) (l.flatMap cq)::R)):aC W0 N K e A:=
  ix (r:=Af) (b:=b) (oz λC hC=>qr)
theorem b24 l[d:Tk pt b A (ae [.slice a n c] 475) R1][f:Tk (osl 548 6) (.slice a n c) R1 ys R](g:n=l.length)(h:ys=l.flatMap cq)(k:aC W0 N K e (Af b l::R)):aC W0 N K e A:=by subst g;subst h;exact gK ((Ent.ofPerm (d.perm.trans (f.perm.cons _))).trans (fT (R:=R) (C:=[_,_]) ⟨a,c,Z⟩)) k
theorem b25[a:Tk pt b A (ae [.slice none 0 0] 475) R](k:aC W0 N K e (Af b []::R)):aC W0 N K e A:=
  gK ((Ent.ofPerm a.perm).trans ((Ent.cons (eW (E:=548) (sz:=6) (B:=R))).trans (fT (R:=R) (C:=[pt b (ae [.slice none 0 0] 475),osl 548 6 (.slice none 0 0) []]) ⟨none,0,Z⟩))) k
end
theorem b26 bs c a(d:List It)(n:d.length<900):sP W0 493 [.slice none 0 0,.func (.func 489) #[] #[pQ bs]] (pt bs (ae [.slice a d.length c] 475)::osl 548 6 (.slice a d.length c) (d.flatMap cq)::R) (λv B=>∃f g,v=.slice f d.length g/\B=osl 548 6 (.slice f d.length g) (d.flatMap cq)::osl 548 6 (.slice a d.length c) (d.flatMap cq)::R):=by refine am func493 ntmps493 ?_;refine dT (fQ Z Z) λe=>?_;refine au 5 (b25 (b:=e) ?_);refine au 5 (Gv (λC=>C=pt bs (ae [.slice a d.length c] 475)::osl 548 6 (.slice a d.length c) (d.flatMap cq)::Af e d::R) (λC=>False) Z call489 ?_ ?_ ?_);intro L D;refine b23 d aq (λi=>Af e (d.take i)::R) (by rw[List.take_zero];exact qi (r1:=pt) (b1:=bs) (r2:=osl 548 6) (b2:=.slice a d.length c) (r3:=Af) (b3:=e)) mv ?_;intro i o p;simp only[Qau,Qar];have k:d.take (i+1)=d.take i++[d.getD i default]:=ro;have l:(d.take i).length=i:=mv;refine Br Z Z ?_;refine aM (aF Z (cP xl) ?_);rintro _ _ ⟨q,rfl,rfl⟩;refine fw 1 aR ?_;refine Bp Z (au 1 (TV (b:=e) λh j=>?_));refine aM (aa Z (bO NS Z (aO Z)) ?_);refine aa Z (q9 pX gD Z Z) ?_;refine aF Z (ji lE gD xl Z (fK Z Z iH) Z cl cl cl) ?_;rintro _ _ ⟨r,rfl,rfl⟩;refine aF Z (fR (sz:=6) (by_:=48) (info:=Tryz.t548) lE ld Z Z Z Z cl Z Z eQ Z Z n5 aq) ?_;rintro _ _ ⟨s,t,rfl,rfl⟩;refine fw 2 dr ?_;refine b24 (b:=e) (d.take (i+1)) mv mv ?_;exact zn ax;intro D C m;subst m;refine au 3 (TV (b:=e) λh j=>?_);refine aM (aa Z (bO NS Z (aO Z)) ?_);refine aa Z (aU Z) (aI (aA (dX (sj (.inl Z) (.cons (bA Z) .nil) ?_))));exact⟨_,⟨h,j,Z,Z⟩,IO⟩;grind
theorem b27 bs c a(b:List It)(g:b.length<900):sP W0 487 [.func (.func 489) #[] #[pQ bs]] (pt bs (ae [.slice a b.length c] 475)::osl 548 6 (.slice a b.length c) (b.flatMap cq)::R) (λv B=>∃e f,v=.slice e b.length f/\B=osl 548 6 (.slice e b.length f) (b.flatMap cq)::osl 548 6 (.slice a b.length c) (b.flatMap cq)::R):=by refine am func487 ntmps487 ?_;refine aF Z (dj call493 (b26 bs c a b g)) ?_;rintro _ j ⟨h,i,rfl,d⟩;subst d;exact aw (ag ⟨_,⟨h,i,Z,Z⟩,IO⟩)
theorem TW x:sQ W0 490 [iQ x] R (.bool false) R:=by refine am func490 ntmps490 ?_;refine ag (aP ?_);simp[bY]
def Ag(x y:Int):Int:=if x<y then-1 else if x>y then 1 else 0
theorem b28 x y:sQ W0 481 [iQ x,iQ y] R (iQ (Ag x y)) R:=by refine am func481 ntmps481 ?_;refine ao (aK call490 (TW x)) ?_;refine ao (aK call490 (TW y)) ?_;apply ap<;>intro a;refine ag (aP ?_);rw[Ag,Qad a]<;>rfl;apply ap<;>intro b;refine ag (aP ?_);rw[Ag,Qab a,Qad aq]<;>rfl;refine ag (aP ?_);rw[Ag,Qab a,Qab aq]<;>rfl
theorem TX x y:sQ W0 480 [.agg (cq x).toArray,.agg (cq y).toArray] R (iQ (Ag x.u y.u)) R:=by refine am func480 ntmps480 ?_;refine bR λb=>?_;refine dT (l8 Z) λc=>?_;refine aa Z (aU Z) (aI (aA (aG (aM ?_))));refine aa Z (bT Z yS Z bu Z dg) ?_;refine aa Z (bO cM Z (aO Z)) ?_;refine aa Z (bT Z yS Z bu Z dg) ?_;refine aa Z (bO cM Z (aO Z)) ?_;refine aF Z (gx call481 Z (b28 x.u y.u)) ?_;rintro _ d ⟨rfl,a⟩;subst a;refine aa Z (aU Z) (aI (aA (dX ?_)));exact ki
theorem Cm x y:Ag x y<0↔x<y:=by unfold Ag;split;omega;split<;>omega
def HN(l:List It)(j i:Nat):Prop:=∀p q,p<q->q≤i->q≠j->us l p≤us l q
theorem b29{l j i}(h:HN l j i)(o:0<j)(k:j≤i)(r:i<l.length)(m:us l j<us l (j-1)):HN (swapL l j (j-1)) (j-1) i:=by have f:=mD (l:=l) (i:=j) (j:=j-1) aq aq;intro p q c d e;rw[f,f];have n:¬j-1=j:=aq;by_cases a:q=j;subst a;rw[Qad (Z:q=q)];by_cases b:p=q-1;omega;rw[Qab aq,Qab b];exact h p (q-1) aq aq aq;rw[Qab a,Qab e];by_cases b:p=j;rw[Qad b];exact h (j-1) q aq d a;rw[Qab b];by_cases g:p=j-1;rw[Qad g];exact h j q aq d a;rw[Qab g];exact h p q c d a
theorem b3a{l j i}(h:HN l j i)(b:j=0\/us l (j-1)≤us l j):∀p q,p<q->q≤i->us l p≤us l q:=λp q a c=>by
 by_cases e:q=j;subst e;rcases b with d|f;omega;by_cases g:p=q-1;grind;have:=h p (q-1) aq aq aq;omega;exact h p q a c e
theorem b3b g c its sp(hN:its.length<900)(h0:0<its.length):sP W0 496 [.slice (some ⟨g,0,none⟩) its.length c,.int .i64 0,.int .i64 its.length,.func (.func 480) #[] #[]] (pt g (ae (its.flatMap cq++sp) 548)::R) (λv B=>∃l,v=.tuple #[]/\B=pt g (ae (l.flatMap cq++sp) 548)::R/\l.Perm its/\∀p q,p<q->q<its.length->us l p≤us l q):=by
 refine jj 3 func496 ntmps496 ?_;refine jU 4 (dI Z Z (bS aq)) ?_;refine eC (λX:List It×Nat=>X.1.Perm its/\0<X.2/\X.2≤its.length/\∀p q,p<q->q<X.2->us X.1 p≤us X.1 q) (λX=>[(0,.slice (some ⟨g,0,none⟩) its.length c),(1,.int .i64 0),(2,.int .i64 (its.length:Nat)),(3,.func (.func 480) #[] #[]),(8,.int .i64 X.2)]) (λX=>pt g (ae (X.1.flatMap cq++sp) 548)::R) (λX=>its.length-X.2) (its,1) ?_ ?_;grind;intro ⟨l,i⟩ ⟨hp,hi0,hi,hS⟩;dsimp only at hp hi0 hi hS ⊢;refine au 8 (aB Z (λc1=>?_) λc1=>?_);refine au 11 (eC (λX:List It×Nat=>X.1.Perm its/\X.2≤i/\HN X.1 X.2 i) (λX=>[(0,.slice (some ⟨g,0,none⟩) its.length c),(1,.int .i64 0),(2,.int .i64 (its.length:Nat)),(3,.func (.func 480) #[] #[]),(8,.int .i64 i),(9,.int .i64 X.2)]) (λX=>pt g (ae (X.1.flatMap cq++sp) 548)::R) (λX=>X.2) (l,i) ?_ ?_);exact⟨hp,Qai _,λp q h1 h2 h3=>hS p q h1 aq⟩;intro ⟨l2,j⟩ ⟨hp2,hj,hS2⟩;dsimp only at hp2 hj hS2 ⊢;have hl2:=hp2.length_eq;refine aG (fA (λ_:Unit=>True) (λ_=>[(0,.slice (some ⟨g,0,none⟩) its.length c),(1,.int .i64 0),(2,.int .i64 (its.length:Nat)),(3,.func (.func 480) #[] #[]),(8,.int .i64 i),(9,.int .i64 j),(34,.bool (decide (0<j/\us l2 j<us l2 (j-1))))]) (λ_=>pt g (ae (l2.flatMap cq++sp) 548)::R) ?_ ?_);skip;refine dY [(g,0,_)] 17 mixed Z (bj bI) (λhS=>?_);refine aj 0 4 hS ?_;refine vQ (t:=21) Z ?_ ?_;intro c4g;have hj0:0<j:=aq;have hjl:j<l2.length:=aq;have hjm:(j:Int)-1=((j-1:Nat):Int):=aq;refine aj 4 3 hS ?_;refine cI 7 Z Z Z hS (kP lE gD Z Z Z aq dg) ?_;refine aj 9 2 hS ?_;refine cI 11 Z Z Z hS (mY Z Z (n7:IntKind.wrap .i64 ((j:Int)-1)=((j-1:Nat):Int))) ?_;refine cI 12 Z Z Z hS (kP lE gD Z Z Z aq dg) ?_;refine fp (is:=[8,13]) ld Z ⟨?_,?_,trivial⟩;skip;refine lH Z Z (dJ (jg pX gD Z (cT (nX l2 sp j hjl) Z) Z)) Z ?_;clear hS;rintro _ _ ⟨rfl,rfl⟩;refine⟨(bj bI),λhS=>?_⟩;refine iX 13 Z Z (dJ (jg pX gD Z (cT (nX l2 sp (j-1) aq) Z) Z)) (bj bI) λhS=>?_;refine iX 14 Z Z (iV Z call480 Z (TX (l2.getD j default) (l2.getD (j-1) default))) (bj bI) λhS=>?_;refine aj 15 2 hS ?_;refine eY (aA (jF () ?_ ?_ ?_));trivial
 · exact ej
 exact IO;skip;refine lH Z Z (dJ (jg pX gD Z (cT (nX l2 sp (j-1) aq) Z) Z)) Z ?_;clear hS;rintro _ _ ⟨rfl,rfl⟩;refine⟨(bj bI),λhS=>?_⟩;refine iX 8 Z Z (dJ (jg pX gD Z (cT (nX l2 sp j hjl) Z) Z)) (bj bI) λhS=>?_;refine iX 14 Z Z (iV Z call480 Z (TX (l2.getD j default) (l2.getD (j-1) default))) (bj bI) λhS=>?_;refine aj 15 2 hS ?_;refine eY (aA (jF () ?_ ?_ ?_));trivial
 · exact ej
 exact IO;intro c4g;refine aj 4 13 hS ?_;refine eY (aA (jF () ?_ ?_ ?_));trivial
 · exact ej
 exact IO;intro _ _;apply aB Z<;>intro c4;obtain⟨hj0,c4⟩:=c4;have hjl:j<l2.length:=aq;have hjm:(j:Int)-1=((j-1:Nat):Int):=aq;refine au 2 (fA (λ_:Unit=>True) (λ_=>[(0,.slice (some ⟨g,0,none⟩) its.length c),(1,.int .i64 0),(2,.int .i64 (its.length:Nat)),(3,.func (.func 480) #[] #[]),(8,.int .i64 i),(9,.int .i64 j)]) (λ_=>pt g (ae ((swapL l2 j (j-1)).flatMap cq++sp) 548)::R) ?_ ?_);skip;refine jR (dY [] 18 mixed Z bI (λhS=>?_));refine aj 0 4 hS ?_;refine cI 4 Z Z Z hS (mY Z Z (n7:IntKind.wrap .i64 ((j:Int)-1)=((j-1:Nat):Int))) ?_;refine aj 5 2 hS ?_;refine cI 7 Z Z Z hS (mY Z Z (n7:IntKind.wrap .i64 ((j:Int)-1)=((j-1:Nat):Int))) ?_;refine cI 8 Z Z Z hS (kP lE gD Z Z Z aq dg) ?_;refine aj 10 2 hS ?_;refine cI 12 Z Z Z hS (kP lE gD Z Z Z aq dg) ?_;refine fp (is:=[9,13]) ld Z ⟨?_,?_,trivial⟩;skip;refine lH Z Z (dJ (jg pX gD Z (cT (nX l2 sp (j-1) aq) Z) Z)) Z ?_;clear hS;rintro _ _ ⟨rfl,rfl⟩;refine⟨bI,λhS=>?_⟩;refine iX 13 Z Z (dJ (jg pX gD Z (cT (nX l2 sp j hjl) Z) Z)) bI λhS=>?_;refine cI 14 Z Z Z hS (kP lE gD Z Z Z aq dg) ?_;refine lI 15 Z Z (Bj gD Z Z Z Z (ue l2 sp j hjl) (vo l2 sp j (l2.getD (j-1) default) hjl)) bI λhS=>?_;refine cI 16 Z Z Z hS (kP lE gD Z Z Z aq dg) ?_;refine lI 17 Z Z (Bj gD Z Z Z Z (ue (l2.set j (l2.getD (j-1) default)) sp (j-1) (by rw[Qal];omega)) (vo (l2.set j (l2.getD (j-1) default)) sp (j-1) (l2.getD j default) (by rw[Qal];omega))) bI λhS=>?_;refine eY (au 2 (cZ () ?_ (he:=?_)));trivial;show Ent _ (pt g (ae ((swapL l2 j (j-1)).flatMap cq++sp) 548)::R);unfold swapL;exact IO;skip;refine lH Z Z (dJ (jg pX gD Z (cT (nX l2 sp j hjl) Z) Z)) Z ?_;clear hS;rintro _ _ ⟨rfl,rfl⟩;refine⟨bI,λhS=>?_⟩;refine iX 9 Z Z (dJ (jg pX gD Z (cT (nX l2 sp (j-1) aq) Z) Z)) bI λhS=>?_;refine cI 14 Z Z Z hS (kP lE gD Z Z Z aq dg) ?_;refine lI 15 Z Z (Bj gD Z Z Z Z (ue l2 sp j hjl) (vo l2 sp j (l2.getD (j-1) default) hjl)) bI λhS=>?_;refine cI 16 Z Z Z hS (kP lE gD Z Z Z aq dg) ?_;refine lI 17 Z Z (Bj gD Z Z Z Z (ue (l2.set j (l2.getD (j-1) default)) sp (j-1) (by rw[Qal];omega)) (vo (l2.set j (l2.getD (j-1) default)) sp (j-1) (l2.getD j default) (by rw[Qal];omega))) bI λhS=>?_;refine eY (au 2 (cZ () ?_ (he:=?_)));trivial;show Ent _ (pt g (ae ((swapL l2 j (j-1)).flatMap cq++sp) 548)::R);unfold swapL;exact IO;intro _ _;refine au 2 (jU 3 (mY Z Z (n7:IntKind.wrap .i64 ((j:Int)-1)=((j-1:Nat):Int))) ?_);refine d8 (swapL l2 j (j-1),j-1) ?_ (hμ:=?_);exact⟨(nQ hjl aq).trans hp2,by show j-1≤i;omega,b29 hS2 hj0 hj aq c4⟩;show j-1<j;omega;refine au 6 ?_
 have hS3:∀p q,p<q->q≤i->us l2 p≤us l2 q:=b3a hS2 (by
   by_cases q:0<j
   · exact .inr (Int.not_lt.1 λe=>c4 ⟨q,e⟩)
   left;omega)
 refine au 2 (jU 3 (dI Z Z (n7:IntKind.wrap .i64 ((i:Int)+1)=((i+1:Nat):Int))) ?_);refine d8 (l2,i+1) ?_ (hμ:=?_);exact⟨hp2,Nat.succ_pos _,by show i+1≤its.length;omega,λp q h1 h2=>hS3 p q h1 (by dsimp only at h2;omega)⟩;show its.length-(i+1)<its.length-i;omega;refine au 4 (bP (.inr Z) .nil ?_);obtain rfl:i=its.length:=aq;exact⟨_,⟨l,Z,Z,hp,hS⟩,IO⟩
theorem b3c(x:Nat)(f:x<60000):sP W0 505 [.int .u64 x] R (λv B=>∃r:Nat,v=iQ r/\B=R):=by refine am func505 ntmps505 ?_;apply aB Z<;>intro b;omega;refine aw (aB Z (λc=>?_) λc=>?_);omega;refine au 2 (fA (λz:Nat×Nat=>z.1<256/\z.2≤8) (λz=>[(0,.int .u64 z.1),(2,iQ z.2)]) (λ_=>R) ?_ ?_);refine au 6 (ap (λd=>?_) λd=>?_);refine ac (pu Z Z cl (uV (s:=8) cl)) ?_;exact ac cK (cZ (x/2^8,8) aq);exact cZ (x,0) aq;intro ⟨y,n⟩ ⟨a,e⟩;dsimp only at a e ⊢;refine aw (aa Z (cv (JY aq)) ?_);refine a7x (j:=y) Z mr Z Z Z (by show y<256;exact a) λm g=>?_;refine ac (cv (bS aq)) ?_;refine ac (eX (n+m)) ?_;exact ag ⟨_,⟨n+m,Z,Z⟩,IO⟩
theorem Me(x:Nat)(b:x<60000):sP W0 495 [.int .u64 x] R (λv B=>∃r:Nat,v=iQ r/\B=R):=by refine jj 6 func495 ntmps495 ?_;refine a7v (aw (aF Z (aK call505 (b3c x b)) ?_));rintro _ c ⟨r,rfl,a⟩;subst a;exact aw (ag ⟨_,⟨r,Z,Z⟩,IO⟩)
theorem b3d g c its sp k(h:its.length≤12)(b:0<its.length):sP W0 494 [.slice (some ⟨g,0,none⟩) its.length c,iQ 0,iQ its.length,iQ k,.func (.func 480) #[] #[]] (pt g (ae (its.flatMap cq++sp) 548)::R) (λv B=>∃l,v=.tuple #[]/\B=pt g (ae (l.flatMap cq++sp) 548)::R/\l.Perm its/\∀p q,p<q->q<its.length->us l p≤us l q):=by refine am func494 ntmps494 ?_;refine eC (λ_:Unit=>True) (λ_=>[(0,.slice (some ⟨g,0,none⟩) its.length c),(1,iQ 0),(2,iQ (its.length:Nat)),(3,iQ k),(4,.func (.func 480) #[] #[])]) (λ_=>pt g (ae (its.flatMap cq++sp) 548)::R) (λ_=>0) () ?_ ?_;trivial;intro u i;refine aw (ac (mt its.length) ?_);apply aB Z<;>intro d;refine au 6 (aF Z (ar call496 (b3b g c its sp aq b)) ?_);rintro _ j ⟨l,rfl,a,e,f⟩;subst a;refine aw (bP (.inl Z) .nil ?_);exact⟨_,⟨l,Z,Z,e,f⟩,IO⟩;omega
theorem TY a c k:sQ W0 494 [.slice a 0 c,iQ 0,iQ 0,iQ k,.func (.func 480) #[] #[]] R (.tuple #[]) R:=by
 have b:bE Tryz.prog W0 496 [.slice a 0 c,iQ 0,iQ 0,.func (.func 480) #[] #[]] R (λv B=>v=.tuple #[]/\B=R):=by
  refine am func496 ntmps496 ?_;refine ac cK (eC (λ_:Unit=>True) (λ_=>[(2,iQ 0),(8,iQ 1)]) (λ_=>R) (λ_=>0) () ?_ ?_);trivial;intro u d;refine aw (aB Z (λe=>?_) λe=>?_);omega;refine aw (bP (.inr Z) .nil ?_);exact ax
 refine am func494 ntmps494 ?_;refine eC (λ_:Unit=>True) (λ_=>[(0,.slice a 0 c),(1,iQ 0),(2,iQ 0),(3,iQ k),(4,.func (.func 480) #[] #[])]) (λ_=>R) (λ_=>0) () ?_ ?_;trivial;intro u d;refine aw (ac jt (aB Z (λf=>?_) λf=>?_));refine au 6 (ao (aK call496 (b)) ?_);refine bP (.inl Z) .nil ?_;exact ax;omega
theorem b3e a c its(k:its.length≤12):sP W0 488 [.slice a its.length c,.func (.func 480) #[] #[]] (osl 548 6 (.slice a its.length c) (its.flatMap cq)::R) (λv B=>∃l,v=.tuple #[]/\B=osl 548 6 (.slice a its.length c) (l.flatMap cq)::R/\l.Perm its/\∀p q,p<q->q<its.length->us l p≤us l q):=by refine Ds (λd e=>?_) λg n m o d e i s t=>?_;have u:its.length=0:=mv;obtain rfl:its=[]:=QaF u;cases d;refine am Yl ntmps488 ?_;refine ac (cv (show IntKind.wrap .u64 ((0:Nat):Int)=((0:Nat):Int)from Z)) ?_;refine aF Z (aK Ym (Me 0 cl)) ?_;rintro _ f ⟨r,rfl,b⟩;subst b;refine aw (ao (aK Yn (TY none 0 r)) ?_);refine bP (.inr Z) .nil ?_;exact⟨_,⟨[],Z,Z,QaS _,λp q _ h=>by simp at h⟩,eW⟩;cases d;by_cases w:its.length=0;obtain rfl:its=[]:=QaF w;refine am Yl ntmps488 ?_;refine ac (cv (show IntKind.wrap .u64 ((0:Nat):Int)=((0:Nat):Int)from Z)) ?_;refine aF Z (aK Ym (Me 0 cl)) ?_;rintro _ f ⟨r,rfl,b⟩;subst b;refine aw (ao (aK Yn (TY _ c r)) ?_);refine bP (.inr Z) .nil ?_;exact⟨_,⟨[],Z,Z,QaS _,λp q _ h=>by simp at h⟩,jG e i s t⟩;skip;refine am Yl ntmps488 ?_;refine ac (cv (show IntKind.wrap .u64 ((its.length:Nat):Int)=((its.length:Nat):Int)from by simp only[IntKind.wrap,IntKind.bits,IntKind.signed];simp;omega)) ?_;refine aF Z (aK Ym (Me its.length aq)) ?_;rintro _ f ⟨r,rfl,b⟩;subst b;refine aw (aF Z (ar Yn (b3d g c its o r k aq)) ?_);rintro _ f ⟨l,rfl,b,j,x⟩;subst b;have y:=j.length_eq;refine aw (bP (.inr Z) .nil ?_);exact⟨_,⟨l,Z,Z,j,x⟩,jG e i mv mv⟩
theorem b3f bs c a its(k:its.length≤12):sP W0 478 [.func (.func 489) #[] #[pQ bs],.func (.func 480) #[] #[]] (pt bs (ae [.slice a its.length c] 475)::osl 548 6 (.slice a its.length c) (its.flatMap cq)::R) (λv B=>∃(l:List It) (e:Option Addr) (f:Nat),v=.slice e l.length f/\B=osl 548 6 (.slice e l.length f) (l.flatMap cq)::osl 548 6 (.slice a its.length c) (its.flatMap cq)::R/\l.Perm its/\∀p q,p<q->q<its.length->us l p≤us l q):=by refine am func478 ntmps478 ?_;refine aF Z (dj call487 (b27 bs c a its aq)) ?_;rintro _ m ⟨g,h,rfl,b⟩;subst b;refine aw (aF Z (ar call488 (b3e g h its k)) ?_);rintro _ m ⟨l,rfl,b,i,j⟩;subst b;have d:=i.length_eq;refine aw (ag ?_);rw[<-d]at j ⊢;exact⟨_,⟨l,g,h,Z,Z,i,j⟩,IO⟩
theorem TZ:∀{l L:List It},l.Perm L->(∀p q,p<q->q<l.length->us l p≤us l q)->L.Pairwise (λx y=>x.u<y.u)->l=L
 |[],L,a,_,_=>a.nil_eq
 |x::l,[],a,_,_=>by have:=a.length_eq;simp at this
 |x::l,y::L,a,c,d=>by
  have k:∀z∈l,x.u≤z.u:=λz f=>by
   obtain⟨i,g,rfl⟩:=Qbi.1 f;have:=c 0 (i+1) aq aac;simpa[us,g]using this
  obtain⟨h,b⟩:=Qcf.1 d;have m:x∈y::L:=a.subset (Qax ..);have n:y∈x::l:=a.symm.subset (Qax ..);have e:x=y:=by
   grind
  subst e
  rw[TZ (a.cons_inv) (λp q j o=>by
   have:=c (p+1) (q+1) aq aac
   simpa[us]using this) b]
def Ah(x:It):List Value:=[.int .i64 x.kr,.int .i64 x.kp,.int .i64 x.ep,.int .i64 x.ef,.int .i64 x.er]
theorem b3g x:(Ah x).length=5:=Z
theorem b3h b its rm nw now L(j:Rep its now L)(N:L.length≤12):sP W0 450 [pQ b] (bC b (its,[rm,nw,.bool true])::R) (λv B=>∃a c,v=.slice a L.length c/\B=osl 546 5 (.slice a L.length c) (L.flatMap Ah)::bC b (its,[rm,nw,.bool true])::R):=by
 have m:=j.length;refine am func450 ntmps450 ?_;refine cW 2 (ar G5 (Cg b its rm nw)) ?_;apply aB Z<;>intro d;exact absurd d cl;refine aw (Hr (b:=b) λr s=>?_);refine aw (aF Z (aK call479 (b21 r its.length s)) ?_);rintro _ y ⟨A,rfl,e⟩;subst e;refine aF Z (dj call478 (b3f A s r its aq)) ?_;rintro _ y ⟨l,h,d,rfl,e,t,C⟩;subst e;have D:=t.length_eq;obtain rfl:l=L:=TZ (t.trans j.perm) (λp q F O=>C p q F aq) j.sort;refine gK (B:=bC b (its,[rm,nw,.bool true])::osl 548 6 (.slice h l.length d) (l.flatMap cq)::R) (wF Z) ?_;refine aw (fI (λX:Nat×Option Addr×Nat=>X.1≤l.length) (λX=>[(4,.slice X.2.1 X.1 X.2.2),(16,.slice h l.length d),(17,iQ (l.length:Nat)),(18,iQ X.1)]) (λX=>osl 546 5 (.slice X.2.1 X.1 X.2.2) ((l.take X.1).flatMap Ah)::bC b (its,[rm,nw,.bool true])::osl 548 6 (.slice h l.length d) (l.flatMap cq)::R) (λX=>l.length-X.1) (0,none,0) ?_ ?_ ?_ ?_);omega
 · exact ai
 exact eW;intro ⟨i,G,H⟩ hi;dsimp only at hi ⊢;refine aw (ap (λI=>?_) λI=>?_);have f:i<l.length:=aq;refine jV (E:=548) (sz:=6) (a:=h) (n:=l.length) (c:=d) cq l km cl Z (λJ=>?_);obtain⟨g,o,rfl,K⟩:=J.at_ f;have k:l.take (i+1)=l.take i++[l[i]]:=Qap f;refine aw (ac (cu f) ?_);refine ac (cV K) ?_;refine bU λM=>?_;refine aJ aR (py (b:=M) (o':=ae [iQ l[i].kr,iQ l[i].kp,iQ l[i].ep,iQ l[i].ef,iQ l[i].er,iQ l[i].u] 548) Z ?_);refine aw (ac (vO isAgg546 xi Z TakeL.eq Z) ?_);refine dh (ji Of xi Ol Z (fK Z Z iH) Z cl cl cl) λP=>?_;refine aF Z (fR (sz:=5) (by_:=40) (info:=Tryz.t546) Of ld Z Z Z Z cl Z Z eQ Z Z n5 aq) ?_;rintro _ _ ⟨w,x,rfl,rfl⟩;refine aw (ac cK (d8 (i+1,w,x) ?_ (he:=?_)));omega;dsimp only;rw[k,Qbg];show Ent _ (osl 546 5 (.slice w (i+1) x) ((l.take i).flatMap Ah++[[iQ l[i].kr,iQ l[i].kp,iQ l[i].ep,iQ l[i].ef,iQ l[i].er]].flatten)::_);exact IO;refine ag ?_;obtain rfl:i=l.length:=aq;rw[QaJ (Qai _)];exact⟨_,⟨G,H,Z,Z⟩,IO⟩
theorem b3i b L(f:L.length≤1000)page:sP W0 348 [pQ b,iQ page] (cj b L::R) (λv B=>∃a c,v=.slice a (L.filter λx=>x.thr page).length c/\B=osl 504 2 (.slice a (L.filter λx=>x.thr page).length c) ((L.filter λx=>x.thr page).flatMap Ae)::cj b (L.filter λx=> !x.thr page)::R):=by refine am func348 ntmps348 ?_;refine dh (fQ Z Z) λd=>?_;refine ao (ar D8 (Cl b L)) ?_;refine aF Z (qe (B:=cj b L::kH 0 (bB [pt d (ae [iQ page] 3)])::R) inferInstance (aK OL (HM b L f 404 [pQ d] _ _ (b2Y W0 d page)))) ?_;rintro _ g ⟨a,c,rfl,e⟩;subst e;exact aw (ag ⟨_,⟨a,c,Z,Z⟩,IO⟩)
theorem b3j b L(f:L.length≤1000)page:sP W0 430 [pQ b,iQ page] (cj b L::R) (λv B=>∃a c,v=.slice a (L.filter (pN page)).length c/\B=osl 504 2 (.slice a (L.filter (pN page)).length c) ((L.filter (pN page)).flatMap Ae)::cj b (L.filter λx=> !pN page x)::R):=by refine am func430 ntmps430 ?_;refine dh (fQ Z Z) λd=>?_;refine ao (ar D8 (Cl b L)) ?_;refine aF Z (qe (B:=cj b L::kH 0 (bB [pt d (ae [iQ page] 3)])::R) inferInstance (aK OL (HM b L f 470 [pQ d] _ _ (b2Z W0 d page)))) ?_;rintro _ g ⟨a,c,rfl,e⟩;subst e;exact aw (ag ⟨_,⟨a,c,Z,Z⟩,IO⟩)
theorem b3k b L(e:L.length≤1000):sQ W0 375 [pQ b] (cj b L::R) (iQ L.length) (cj b []::R):=by have f:L.filter (λ_=>true)=L:=Qbp.2 λ_ _=>Z;have g:L.filter (λx=> !(λ_=>true) x)=[]:=n4;refine am func375 ntmps375 ?_;refine ao (ar D8 (Cl b L)) ?_;refine aF Z (qe (B:=cj b L::kH 0 (bB [])::R) inferInstance (aK OL (HM b L e 423 [] _ _ (b20 W0)))) ?_;rintro _ h ⟨a,c,rfl,d⟩;subst d;rw[f,g];exact aw (ag ax)
def EP(k:dL)(L:List Ln):Value:=match mK k L with
 |none=>.tuple #[.agg (pL (0,0,0)).toArray,.bool false]
 |some x=>.tuple #[.agg (pL x.e).toArray,.bool true]
theorem b3l{L}(h:∀j (a:j<L.length),L[j].k≠k):mK k L=none:=Qch.2 λx b=>by
 obtain⟨j,a,rfl⟩:=Qby b;simpa using h j a
theorem b3m{k L i}hi(h:L[i].k=k)(a:∀j (a:j<L.length),j<i->L[j].k≠k):mK k L=some L[i]:=by rw[mK,Qce];exact⟨aaa,i,hi,Z,λj b=>by simpa using a j aq b⟩
theorem yh b L(D:L.length≤1000)(k:dL):sQ W0 353 [pQ b,.agg (jo k).toArray] (cj b L::R) (EP k L) (cj b L::R):=by
 refine am func353 ntmps353 ?_;refine bR λm=>?_;refine bU λp=>?_;refine ao (ar D8 (Cl b L)) ?_;refine EN (b:=b) λa c=>?_;refine aw (eC (λi:Nat=>i≤L.length/\∀j (f:j<L.length),j<i->L[j].k≠k) (λi=>[(3,pQ m),(4,pQ p),(14,.slice a L.length c),(15,iQ (L.length:Nat)),(16,iQ i)]) (λ_=>pt b (ae [.slice a L.length c,.bool true] 482)::osl 551 7 (.slice a L.length c) (L.flatMap dM)::pt m (ae (jo k) 504)::pt p (ae (pL (0,0,0)) 500)::R) (λi=>L.length-i) 0 ?_ ?_);grind;intro i ⟨F,r⟩;refine aw (aB Z (λu=>?_) λu=>?_);refine au 5 ?_;have d:i<L.length:=aq;refine jV (E:=551) (sz:=7) (a:=a) (c:=c) (n:=L.length) dM L rJ cl Z (λv=>?_);obtain⟨g,o,h,s⟩:=v.at_ d;have e:=λq=>b3m (k:=k) d q r;have l:L[i].k≠k->∀j (f:j<L.length),j<i+1->L[j].k≠k:=λq j f w=>by
  rcases Qaz j i with y|y;grind;grind
 obtain⟨x,A⟩:∃x,L[i]=x:=⟨_,Z⟩
 rw[A]at s e l;refine aw (ac (g7 qQ xj Z h Z Z d dg) ?_);refine ac (cV s.weak) ?_;refine bU λG=>?_;refine aJ aR (ac (vO J4 vG Z TakeL.eq Z) ?_);refine ac (zb Tryz.eqGuardType504 Z Z (za Jl Tryz.stoodInHeld504 (oy Z cM Z Z (ov ez) (oy Z cM Z Z (ov ez) z9)))) ?_;apply ap<;>intro C;have t:x.k=k:=mv;refine ac (vO FE xh Z TakeL.eq Z) ?_;refine aJ aR (bJ (.cons (bX FE xh Z Z) (.cons (bA Z) .nil)) ?_);rw[EP,e t];exact o7;have t:x.k≠k:=mv;refine ac cK (d8 (i+1) ?_);grind;refine aw (aJ aR (bJ (.cons (bX FE xh Z Z) (.cons (bA Z) .nil)) ?_));rw[EP,b3l λj f=>r j f aq];exact o7
end
end Go.Proofs.YtjaalpinjajaoaaGreatDoor
