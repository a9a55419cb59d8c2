/- What the law wants alone. No conditions. -/
import Derived.Test.YtmbaofiahlcnhaaGreatDoorCB
import Derived.Test.YtmbaofiahlcnhaaGreatDoorCD
import Derived.Test.YtmbaofiahlcnhaaGreatDoorCE
import Derived.Test.YtmbaofiahlcnhaaGreatDoorCF
import Derived.Test.YtmbaofiahlcnhaaGreatDoorTI
import Derived.Test.YtmbaofiahlcnhaaGreatDoorEC
import Derived.Test.YtmbaofiahlcnhaaGreatDoorProg
import Derived.Test.YtmbaofiahlcnhaaGreatDoorTH
import Derived.Test.YtmbaofiahlcnhaaGreatDoorTB
set_option linter.unusedVariables false
set_option linter.unusedSimpArgs false
set_option linter.defProp false
namespace Go.Ev
open Go.IntKind renaming i64→r
open Option renaming some→J, none→U
open Bool renaming false→eF, true→eT
open List renaming length→z
set_option maxRecDepth 1000000
abbrev qP:FuncId:=3
noncomputable section
end
set_option maxRecDepth 100000
variable{C:Ctx}
def Ak(nm:List UInt8)(f:bD):List AV:=[.cV nm,.cV f.E,.cU r f.cq,.cU r f.al]
def aiU (H:TelHas C) {Y:St} (j:Ok Y) {s m:Nat} {fv ov:AV} {nm:List UInt8} {F:List bD} (hs:Y[s]?=J (.cH [.cV nm,fv,.ec m,ov] ⟨eF,U⟩)) (l:Y[m]?=J (.ec (F.map bD.cG))) (f:bD) (hf:F.find? (λg=>decide (g.E=f.E))=J f):
  ai C GN [.c8 s 0,.cV f.E] Y=J (.df [.da (Ak nm f),.cX eT],Y):=by
 have n:hand eF [.c8 s 0,.cV f.E] Y=J ([.c8 s 0,.cV f.E],Y):=rfl;obtain⟨k,q2⟩:=(O5 f.E F 0).1 f hf;have i:=λL=>aj hs L;have h:=λL=>aj l L;have o:=λ(a b:List UInt8) (c d:Int) (e:Bool)=>bz j (vs:=[.da [.cV a,.cV b,.cU r c,.cU r d],.cX e]) rfl;have p:=λL:St=>aF Y (.cH [.cV [],.cV [],.cU r 0,.cU r 0] ⟨eF,U⟩::L);have q:=λ(L:St) (y:AO)=>dm Y (.cH [.cV [],.cV [],.cU r 0,.cU r 0] ⟨eF,U⟩::L) y;have q1:=λL:St=>LC H.toStoHas (Y:=Y++L) (aj hs L);rw[H.told.go n];unfold bD.bp at q2;unfold Ak;simp only[F8,q1,q2,i,h,mapOf,o,p,q,aN,fF,aU,bG,AV.cH,AV.C,splice,EVX,seval]
def adQ (H:TelHas C) (n0:Nat) (s m:Nat) (I:s<n0) (B:m<n0) (fv ov:AV) (nm:List UInt8) (F:List bD) (oo:Option Nat) (E:∀q,oo=J q->q<n0) (X:Uniq F) (hF:z F<=1000000):∀(n i:Nat) (acc:AV) (ao:Option Nat) (T:St),i+n=z F->Ok T->n0<=z T->T[s]?=J (.cH [.cV nm,fv,.ec m,ov] ⟨eF,U⟩)->T[m]?=J (.ec (F.map bD.cG))->atq T ov F oo->abe T acc 4 (Ak nm) (F.take i) ao->(∀q,ao=J q->n0<=q)->
  ∃(g:AV) (l:Option Nat) (o:St),aH C (ai C) 33 [0,3,14,15,16] iY [(0,.c8 s 0),(3,acc),(14,ov),(15,.cU r (z F)),(16,.cU r i)] T=J (.dq 0,[(3,g)],o)/\Ok o/\abe o g 4 (Ak nm) F l/\(∀q,l=J q->n0<=q)/\n0<=z o/\∀k,k<n0->o[k]?=T[k]?:=by
 intro n
 induction n with
 |zero=>intro i acc ao T hi t O hs A D hr v;rw[aA (he:=rfl)];have h:¬((i:Int)<(z F:Int)):=(by omega);refine⟨acc,ao,T,by simp only[iY,h,EVX,seval],t,?_,v,O,λ_ _=>rfl⟩;rwa[a95 (by omega)]at hr
 |succ n ih=>
  intro i acc ao T hi t O hs A D hr v;have j:i<z F:=(by omega);have W:=D;rcases D with⟨rfl,_,_⟩|⟨q,e1,e2,rfl,P⟩;·simp at j
  have w:F[i]∈F:=aB3 j;have q1:=aiU H t hs A F[i] (X _ w);have N:=kK (f:=λf:bD=>[AV.cV f.E]) (k:=1) (λ_=>rfl) (a02 j);have fl:=bZ (f:=λf:bD=>[AV.cV f.E]) (k:=1) (λ_=>rfl) F;have tk:F.take (i+1)=F.take i++[F[i]]:=aC5 j;generalize F[i]=f at*;have M:Ok (T++[.cH (Ak nm f) ⟨eF,U⟩]):=t.H rfl;have G:abe (T++[.cH (Ak nm f) ⟨eF,U⟩]) acc 4 (Ak nm) (F.take i) ao:=by
   rcases hr with h|⟨p,a,b,c,d⟩;·exact .inl h
   ·exact .inr ⟨p,a,b,c,aj d _⟩
  have tl:z (F.take i)=i:=by rw[aB1];omega
  obtain⟨S,a1,l1,n1,k1,L⟩:=aes (c:=Ak nm) (sz:=4) (bytes:=48) M (λ_=>rfl) (λ_=>rfl) G (by omega) (by omega) f;rw[<-tk]at n1;have keep:∀k,k<n0->S[k]?=T[k]?:=λk u=>by have:T[k]?=J T[k]:=a02 (by omega);rw[this];exact k1 k _ (λe=>by have:=v k e;omega) (aj this _)
  have lX:z (T++[AO.cH (Ak nm f) ⟨eF,U⟩])=z T+1:=(by simp);rw[lX]at a1 l1 n1;rw[tl]at a1;obtain⟨g,l,o,x,R,h2,h3,h4,h5⟩:=ih (i+1) (.dj (z T+1) 0 (i+1) 4) (J (z T+1)) S (by omega) L (by omega) (by rw[keep s I];exact hs) (by rw[keep m B];exact A) (.inr ⟨q,e1,e2,rfl,by rw[keep q (E q e1)];exact P⟩) (.inr ⟨_,rfl,by intro e;rw[e]at tk;simp at tk,by rw[aB1];congr 1;omega,n1⟩) (λk e=>by cases e;omega);refine⟨g,l,o,?_,R,h2,h3,h4,λk u=>by rw[h5 k u,keep k u]⟩;rw[<-x,aA (he:=rfl)];generalize u:aH C (ai C) 33 [0,3,14,15,16] iY=K at*;have h:((i:Int)<(z F:Int)):=(by omega);have Z:(0:Int)<=i:=(by omega);have Y:=wrS i (by omega);simp only[aB5,a09,a98]at N fl;have z0:=aF T (.cH [.cV [],.cV [],.cU r 0,.cU r 0] ⟨eF,U⟩::[]);have z1:=λy:AO=>dm T (.cH [.cV [],.cV [],.cU r 0,.cU r 0] ⟨eF,U⟩::[]) y;have Q:=aF T (.cH (Ak nm f) ⟨eF,U⟩::[]);unfold Ak at q1 a1 Q;simp only[iY,h,Z,Y,j,N,P,q1,a1,z0,z1,Q,AV.cH,AV.C,splice,EVX,seval]
def anu(nm:List UInt8)(F:List bD):z (F.flatMap (Ak nm))=z F*4:=bZ (f:=Ak nm) (k:=4) (λ_=>rfl) F
def afE(nm:List UInt8):∀F:List bD,NVs (F.flatMap (Ak nm))|[]=>.de|_::F=>by rw[aC7];exact .cW (.cV _) (.cW (.cV _) (.cW (.cU _ _) (.cW (.cU _ _) (afE nm F))))
def ant(nm:List UInt8)(F:List bD):ae 0 (F.flatMap (Ak nm))=eT:=gu (λ_=>rfl) F
def abx (H:TelHas C) {Y:St} (b:Ok Y) {nm fs F s m fo oo} (h:kH Y nm fs F s m fo oo) (w:Uniq F):
  ai C CU [.c8 s 0] Y=J (.sl (z F) (F.flatMap (Ak nm)),Y):=by
 have u:=jM s Y;obtain⟨n,ov,hs,t,a⟩:=h.st;have j:=h.mp;have q1:=LC H.toStoHas hs;have sl:s<z Y:=(a00.mp hs).1;have ml:m<z Y:=(a00.mp j).1;have ol:∀q,oo=J q->q<z Y:=by
  rcases a with⟨_,rfl,_⟩|⟨q,rfl,_,_,d⟩;·exactλq e=>by cases e
  ·exactλB e=>by cases e;exact(a00.mp d).1
 have g:bP Y 1 ov=J (z F):=by
  rcases a with⟨rfl,_,rfl⟩|⟨q,_,_,rfl,d⟩;·rfl
  ·rfl
 obtain⟨v,ao,T,l,A,h2,h3,h4,h5⟩:=adQ H (z Y) s m sl ml n ov nm F oo ol w h.dt.1 (z F) 0 .cY U Y (by omega) b (a06 _) hs j a (.inl ⟨by simp,rfl,rfl⟩) (λq e=>by cases e);rw[show((0:Nat):Int)=0 from rfl]at l;have tk:T.take (z Y)=Y:=by
  refine aA9 λk=>?_;rw[aA4];split;·next c=>exact h5 k c
  ·next c=>exact(aA1 (by omega)).symm
 rw[H.m0.go u];have hb:ae 0 [AV.sl (z F) (F.flatMap (Ak nm))]=eT:=by rw[ae,below,ant];rfl
 obtain⟨f,p,i⟩:∃f,hand eF [v] T=J ([.sl (z F) (F.flatMap (Ak nm))],f)/\f.take (z Y)=Y:=by
  rcases h2 with⟨rfl,rfl,rfl⟩|⟨q,rfl,e2,rfl,e4⟩;·exact⟨T,rfl,tk⟩
  ·have:=h3 q rfl;refine⟨T.set q (.cH (F.flatMap (Ak nm)) ⟨eT,U⟩),?_,by rw[dK _ _ _ (by omega),tk]⟩;rw[lF,aO,G8 e4 (anu nm F) (afE nm F),qY,<-tu e4];rfl
 have x:=pG (vs:=[.sl (z F) (F.flatMap (Ak nm))]) b hb i;generalize o:mD=y;simp only[CP,q1,hs,g,l,EVX,seval];rw[<-o,vO (vs:=[v]) rfl p,x];rfl
end Go.Ev
namespace Go.Ev
open Go.IntKind renaming i64→r
open Option renaming some→J, none→U
open Bool renaming false→eF, true→eT
open List renaming length→z
set_option maxRecDepth 100000
variable{C C1:Ctx}
def ahh (H:adh C) {h l R now rc sc nm fs F f s m o fo oo} {O:St} (b:Ok O) (a:bF O h l R now rc sc nm fs F f s m o fo oo) (d:Uniq F):
  ai C o9 [.c8 f 0] O=J (.sl (z F) (F.flatMap (Ak nm)),O):=by
 have c:=jM f O;have rp:=a.rp;have mk:=Py H.ki a;have q:=abx H.toTelHas b a.st d;unfold Eu at rp;rw[H.oA.go c];simp only[EQ,mk,q,rp,bi,EVX,seval]
def ajH(nm:List UInt8)(f:bD):z (Ak nm f)=4:=rfl
def anv(nm:List UInt8)(F:List bD):NV (.sl (z F) (F.flatMap (Ak nm))):=.sl _ (gu (λ_=>rfl) F)
def XN (nm:List UInt8) (F:List bD) (c:z F<=1000000) (O:St):∀(n i:Nat),i+n=z F->
  aH C (ai C) 26 [0,1,5] nT [(0,.sl (z F) (F.flatMap (Ak nm))),(1,.sl (z F) (F.flatMap (Ak nm))),(5,.cU r i)] O=J (.dq 0,[],O)
 |0,i,hi=>by rw[aA (he:=rfl)];have h:¬((i:Int)<(z F:Int)):=(by omega);simp only[nT,h,bP,EVX,seval]
 |n+1,i,hi=>by rw[aA (he:=rfl)];have h:((i:Int)<(z F:Int)):=(by omega);have h2:i<z F:=(by omega);have hb:F[i]?=J F[i]:=a02 h2;have e:=wrS i (by omega);have b:(0:Int)<=i:=(by omega);have fl:=bZ (ajH nm) F;have fd:=kK (ajH nm) hb;generalize F[i]=f at*;have pc:Ak nm f=[.cV nm,.cV f.E,.cU r f.cq,.cU r f.al]:=rfl;have g:=XN nm F c O n (i+1) (by omega);have a:kJ 72 [.cV nm,.cV f.E,.cU r f.cq,.cU r f.al] [.cV nm,.cV f.E,.cU r f.cq,.cU r f.al]=J eT:=(by simp[kJ,kZ]);generalize j:aH C (ai C) 26 [0,1,5] nT=k at*;simp only[nT,h,h2,b,e,g,a,az2,fl,fd,pc,bP,EVX,seval]
def aiz(b:Has C Ai zY)(nm:List UInt8)(F:List bD)(c:z F<=1000000)(O:St):ai C Ai [.sl (z F) (F.flatMap (Ak nm)),.sl (z F) (F.flatMap (Ak nm))] O=J (.cX eT,O):=by rw[b.go (NVs.e (.cW (anv nm F) (.cW (anv nm F) .de)) _)];have a:=XN (C:=C) nm F c O (z F) 0 (by omega);simp only[ay1]at a;simp only[zY,a,bP,EVX,seval]
def YK(H:adh C){p:Rp}{S:St}(b:Ok S)(a:p.bh S)(c:QI p.F):ai C o9 [.c8 p.r 0] S=J (.sl (z p.F) (p.F.flatMap (Ak p.nm)),S):=ahh H b a c.hy
end Go.Ev
namespace Go.Ev
open Go.IntKind renaming i64→r
open Option renaming some→J, none→U
open Bool renaming false→eF, true→eT
open List renaming length→z
set_option maxRecDepth 1000000
noncomputable section
def dF:KC:=(.mk ?k:LsA 3 [] 0).1
attribute [local irreducible] dF
def aS:KF:=(.mk ?k:KsA 3 [dF]).1
end
set_option maxRecDepth 100000
def Abt(x:jY):Prop:=x.fj=3/\x.jf≠4
structure GrB(dr dd:Prop)(x:jY)(F':List bD)(y:jY)(F'':List bD):Prop where
 cE:¬Abt x->y=x/\F''=F'
 b3:∃L,y.b3=x.b3++L
 oT:Abt x->x.jf=2->dr->y.jf=2
 hk:Abt x->x.jf=3->dd->y.jf=3
def GrB.oS{b a:Prop}(x:jY)(F:List bD):GrB b a x F x F:=⟨λ_=>⟨rfl,rfl⟩,⟨[],by simp⟩,λ_ h _=>h,λ_ h _=>h⟩
def XZ(R c:Bo)(H:c.K=R.K)(i:c.fs=R.fs)(k:c.rc=R.rc)(l:c.sc=R.sc)(j:c.go=R.go)(g:c.fd=R.fd)(hr:R.ap<=c.ap)(K:R.ad<=c.ad):∀(n m:Nat) (f:List Wp) (vs:List (List UInt8)) (F:List bD) (x y:jY) (o d:List bD),vK R n f vs F=J (x,o)->vK c m f vs F=J (y,d)->GrB (c.ap=R.ap) (c.ad=R.ad) x o y d
 |0,_,_,_,_,_,_,_,_,h,_=>by cases h
 |_+1,0,_,_,_,_,_,_,_,_,h=>by cases h
 |n+1,m+1,f,vs,F,x,y,o,d,h,b=>by
  have A:=XZ R c H i k l j g hr K n m;have hv:=ab6 c (m+1) f vs F y d b;unfold vK at h b;by_cases B:tooBig f vs F=eT;·rw[if_pos B]at h;cases h
  rw[if_neg B]at h b;rw[H,i,k,l,j,g]at b;cases I:f.getLast? with
  |none=>rw[I]at h b;cases h;cases b;exact .oS _ _
  |some w=>
   rw[I]at h b;dsimp only at h b;by_cases C:w.E∈vs;·rw[if_pos C]at h b;exact A _ _ _ _ _ _ _ h b
   rw[if_neg C]at h b;by_cases p:R.ap<=z vs;·rw[if_pos p]at h;cases h;refine⟨λa=>absurd ⟨rfl,show(2:Int)≠4 by decide⟩ a,hv,λ_ _ e=>?_,λ_ e=>absurd e (show(2:Int)≠3 by decide)⟩;rw[e,if_pos p]at b;injection b with b;injection b with v _;rw[<-v]
   rw[if_neg p]at h;by_cases q:c.ap<=z vs;·omega
   rw[if_neg q]at b;by_cases s:R.ad<w.ad;·rw[if_pos s]at h;cases h;refine⟨λa=>absurd ⟨rfl,show(3:Int)≠4 by decide⟩ a,hv,λ_ e=>absurd e (show(3:Int)≠2 by decide),λ_ _ e=>?_⟩;rw[e,if_pos s]at b;injection b with b;injection b with v _;rw[<-v]
   rw[if_neg s]at h;by_cases u:c.ad<w.ad;·omega
   rw[if_neg u]at b;generalize dG R.K R.fs R.rc R.sc w.E w.W w.ak (if vs=[]then(bg R.K R.fs R.sc F).2 else F)=t at h b;by_cases D:vs=[]/\(bg R.K R.fs R.sc F).1.2≠0;·rw[if_pos D]at h b;cases h;cases b;exact .oS _ _
   rw[if_neg D]at h b;by_cases E:t.1.2≠0
   ·rw[if_pos E]at h b;by_cases G:w.E≠yL/\skp t.1.2=eT;·rw[if_pos G]at h b;exact A _ _ _ _ _ _ _ h b
    ·rw[if_neg G]at h b;cases h;cases b;exact .oS _ _
   ·rw[if_neg E]at h b;cases hf:R.fd t.1.1 with|some N=>rw[hf]at h b;cases h;cases b;exact .oS _ _|none=>rw[hf]at h b;exact A _ _ _ _ _ _ _ h b
variable{C C1:Ctx}
def aup (H:adn C C1) {c:Bc} {path:List UInt8} (cl:Xp c path=eF):∃(R:lN) (e:Int) (d:CG),R.ok/\(∀(now:Int),Jn C1 c.h c.l R now (d.K now))/\∀(Y:St),Ok Y->
  (Es c.nm c.fs c.rc c.sc e≠0/\ai C gX [.da c.B] Y=J (.df [.ev,.cU r (Es c.nm c.fs c.rc c.sc e)],Y))\/
  (Es c.nm c.fs c.rc c.sc e=0/\∃(p:Rp) (T:St),ai C gX [.da c.B] Y=J (.df [.c8 p.r 0,.cU r 0],T)/\af4 C1 d c R Y T p):=by
 obtain⟨v1,v2,v3,v4,v5,v6⟩:=UU cl;obtain⟨R,e,d,a,b,k⟩:=ak7 H cl;exact⟨R,e,d,a,b,k c.bm c.fs v3 v5⟩
end Go.Ev
namespace Go.Ev
open Go.IntKind renaming i64→r
open Option renaming some→J, none→U
open Bool renaming false→eF, true→eT
open List renaming length→z
set_option maxRecDepth 100000
def agY(N a:Bo)(o:a.K=N.K)(f:a.fs=N.fs)(i:a.rc=N.rc)(j:a.sc=N.sc)(g:a.go=N.go)(e:a.fd=N.fd)(hr:N.ap<=a.ap)(p:N.ad<=a.ad){c:Bool}{R:lN}{now:Int}{n q:Nat}{F k d:List bD}{x y:jY}(h:JQ c R now N n F=J (x,k))(b:JQ c R now a q F=J (y,d)):GrB (a.ap=N.ap) (a.ad=N.ad) x k y d:=by
 unfold JQ at h b;by_cases l:c=eF;·rw[if_pos l]at h b;cases h;cases b;exact .oS _ _
 rw[if_neg l]at h b;by_cases m:R.bw<=now;·rw[if_pos m]at h b;cases h;cases b;exact .oS _ _
 rw[if_neg m]at h b;exact XZ N a o f i j g e hr p _ _ _ _ _ _ _ _ _ h b
set_option maxHeartbeats 4000000
variable{C C1:Ctx}
def aql (Y:St) (c d:Nat) (a0 a1 a2 a3 a4 a5 a6 a7 a8 a9 a10 b0 b1 j k l m o p q t b v3 v4:AV) (xs a L:List (List UInt8)) (g:a=xs++L) (B:z a<=80000000) (f:Y[c]?=J (.cH [a0,a1,a2,a3,a4,a5,a6,a7,a8,a9,a10,.sl (z xs) (xs.flatMap sC)] ⟨eF,U⟩)) (x:Y[d]?=J (.cH [b0,b1,j,k,l,m,o,p,q,t,b,.sl (z a) (a.flatMap sC)] ⟨eF,U⟩)):∀(n i:Nat),i+n=z xs->
  aH C (ai C) 160 [3,4,15,16,17] dF [(3,v3),(4,v4),(15,.c8 c 0),(16,.c8 d 0),(17,.cU r i)] Y=J (.dq 0,[(3,v3),(4,v4),(15,.c8 c 0),(16,.c8 d 0)],Y)
 |0,i,hi=>by have h:¬((i:Int)<(z xs:Int)):=(by omega);rw[aA (he:=rfl)];simp only[dF,h,f,bP,AV.cH,EVX,seval]
 |n+1,i,hi=>by have h:((i:Int)<(z xs:Int)):=(by omega);have h2:i<z xs:=(by omega);have K:z a=z xs+z L:=(by rw[g,a04]);have e:i<z a:=(by omega);have h3:(0:Int)<=i:=(by omega);have D:=wrS i (by omega);have sl:∀s,z (sC s)=1:=λ_=>rfl;have u:=kK sl (a02 h2);have y:a[i]?=J xs[i]:=(by rw[g,aA3 h2,a02 h2]);have v:=kK sl y;have G:=bZ sl xs;have F:=bZ sl a;generalize xs[i]=w at*;rw[show sC w=[.cV w]from rfl,aB5]at u v;have E:=aql Y c d a0 a1 a2 a3 a4 a5 a6 a7 a8 a9 a10 b0 b1 j k l m o p q t b v3 v4 xs a L g B f x n (i+1) (by omega);rw[aA (he:=rfl)];generalize H:aH C (ai C) 160 [3,4,15,16,17] dF=I at*;simp only[dF,h,h2,e,h3,D,u,v,G,F,f,x,E,bP,AV.cH,a09,a98,EVX,seval]
def Ru (H:amu C C1) (hO:Has C qP aS) (c:Bc) (path:List UInt8) (b:QH) (B A:Nat) (be:B<256) (bd:A<256) (O:St) (ac:Ok O):
  ai C qP [.da c.B,.cV path,.da b.B,.cU .u8 B,.cU .u8 A] O=J (.cX eT,O):=by
 have cb:AO.below 0 (.cH c.B ⟨eF,U⟩)=eT:=c.af.cl;have bb:AO.below 0 (.cH b.B ⟨eF,U⟩)=eT:=rfl;have ad:Ok (O++[.cH c.B ⟨eF,U⟩,.cH b.B ⟨eF,U⟩]):=ac.H (by simp only[a07,az6,cb,bb,az9]);have ty:=λb=>bz ac (vs:=[.cX b]) rfl;have d:=ak2 H.m5 c path _ ad;have f:=H.nB _ ad;have bc:b.B=[.cU r b.ap,.cU r b.ad,.cU r b.rc,.cU r b.sc]:=rfl;have cc:c.B=[.cV c.nm,.cV c.am,.sl (z c.fs) (c.fs.flatMap pC),.cX c.h,.sl (z c.l) (c.l.flatMap iK.B),.cU r c.bm,.cU r c.b0,.cU r c.b1,.cU r c.rc,.cU r c.sc]:=rfl;have hn:hand eF [.da c.B,.cV path,.da b.B,.cU .u8 B,.cU .u8 A] O=J ([.da c.B,.cV path,.da b.B,.cU .u8 B,.cU .u8 A],O):=NVs.e (.cW (.da c.af) (.cW (.cV _) (.cW (.da (ajm b)) (.cW (.cU _ _) (.cW (.cU _ _) .de))))) O;rw[hO.go hn];cases cl:Xp c path
 case true=>rw[cl]at d;rw[bc]at d f⊢;rw[cc]at d f⊢;simp only[aS,d,f,ty,aF,aN,AV.cH,AV.C,EVX,seval]
 rw[cl]at d;by_cases E:b.ap>1073741824;·rw[bc]at d f⊢;rw[cc]at d f⊢;simp only[aS,d,f,E,ty,aF,aN,AV.cH,AV.C,EVX,seval]
 by_cases G:b.ad>1073741824;·rw[bc]at d f⊢;rw[cc]at d f⊢;simp only[aS,d,f,E,G,ty,aF,aN,AV.cH,AV.C,EVX,seval]
 by_cases I:b.ap<0;·rw[bc]at d f⊢;rw[cc]at d f⊢;simp only[aS,d,f,E,G,I,ty,aF,aN,AV.cH,AV.C,EVX,seval]
 by_cases S:b.ad<0;·rw[bc]at d f⊢;rw[cc]at d f⊢;simp only[aS,d,f,E,G,I,S,ty,aF,aN,AV.cH,AV.C,EVX,seval]
 obtain⟨v1,v2,v3,v4,v5,v6⟩:=UU cl;obtain⟨R,e,bv,bm,hK,mk⟩:=aup H.eN cl;rcases mk _ ad with⟨m1,k⟩|⟨m1,p,T,k,F⟩;·have ax:(Es c.nm c.fs c.rc c.sc e !=0)=eT:=(by simpa using m1);rw[bc]at d f k⊢;rw[cc]at d f k⊢;simp only[aS,d,f,E,G,I,S,ax,k,ty,aF,aN,AV.cH,AV.C,beq_self_eq_true,EVX,seval]
 rcases mk T F.ok with⟨n1,K⟩|⟨n1,q,a,K,ns⟩;·exact absurd m1 n1
 obtain⟨p1,p2,p3,p4,p5,p6,p7,p8⟩:=F.of;obtain⟨q1,q2,q3,q4,q5,q6,q7,q8⟩:=ns.of;have lT:=F.dt;have lU:=ns.dt;have l1:z (O++[AO.cH c.B ⟨eF,U⟩,.cH b.B ⟨eF,U⟩])=z O+2:=by simp
 rw[l1]at lT;have pl:∀i,p.dg i->z O+2<=i/\i<z T:=λi hi=>⟨by have:=F.ac i hi;rw[l1]at this;exact this,Rp.lt F.bh hi⟩;have ql:∀i,q.dg i->z T<=i/\i<z a:=λi hi=>⟨ns.ac i hi,Rp.lt ns.bh hi⟩;have TU:∀i x,T[i]?=J x->a[i]?=J x:=λi x e=>by rw[JR ns.b4 (a00.mp e).1];exact e
 have pU:p.bh a:=F.bh.bo λi x _ e=>TU i x e;have al:ahg p q:=λi h1 h2=>by have:=(pl i h1).2;have:=(ql i h2).1;omega
 have bT:T[z O+1]?=J (.cH b.B ⟨eF,U⟩):=by rw[JR F.b4 (by rw[l1];omega),aN];rfl
 obtain⟨bk,go,fd,step⟩:=XO H.oR path v6;obtain⟨x,F1,D,ak,k1,s1,t1,an,h1,sm1⟩:=step F.c1 (by rw[F.F];decide) ns.ok pU b;have bh:=t1.dt;have b1:D[z O+1]?=J (.cH b.B ⟨eF,U⟩):=t1.bv _ _ (λh=>by have:=(pl _ h).1;omega) (TU _ _ bT);obtain⟨aD,d1⟩:=t1.n8 ns.bh al;have nx:=jY.af x sm1.du.af;have xb:AO.below 0 (.cH x.B ⟨eF,U⟩)=eT:=nx.cl;obtain⟨w,W⟩:∃w:QH,w=⟨b.ap+B,b.ad+A,b.rc,b.sc⟩:=⟨_,rfl⟩;have aa:w.B=[.cU r (b.ap+B),.cU r (b.ad+A),.cU r b.rc,.cU r b.sc]:=by rw[W];rfl
 have ay:Ok (D.set (z O+1) (.cH w.B ⟨eF,U⟩)++[.cH x.B ⟨eF,U⟩]):=(Ok.bd t1.ok _ (by rw[aa];rfl)).H (by rw[a07,xb];rfl);have qA:q.bh (D.set (z O+1) (.cH w.B ⟨eF,U⟩)++[.cH x.B ⟨eF,U⟩]):=aD.bo λi y hi e=>aj (aG e (by have:=(ql i hi).1;omega) _) _;have az:∀i,(p.to F1 ak).dg i->(z O+2<=i/\i<z T)\/(z a<=i/\i<z D):=λi hi=>by
  rcases t1.eN i hi with h|h;·exact .inl (pl i h)
  ·exact .inr ⟨h,Rp.lt t1.bh hi⟩
 have pA:(p.to F1 ak).bh (D.set (z O+1) (.cH w.B ⟨eF,U⟩)++[.cH x.B ⟨eF,U⟩]):=t1.bh.bo λi y hi e=>aj (aG e (by have:=az i hi;omega) _) _;obtain⟨y,F2,Z,bj,k2,s3,t3,aq,h3,af⟩:=step ns.c1 (by rw[ns.F];decide) ay qA w;have au:=t3.dt;rw[a04,a96,a90,a94]at au;have x3:Z[z D]?=J (.cH x.B ⟨eF,U⟩):=t3.bv _ _ (λh=>by have:=(ql _ h).2;omega) (by rw[bK (by simp)];rfl);obtain⟨ah,d3⟩:=t3.n8 pA (λi h1 h2=>d1 i h2 h1);have ny:=jY.af y af.du.af;have yb:AO.below 0 (.cH y.B ⟨eF,U⟩)=eT:=ny.cl;have Y:Ok (Z++[.cH y.B ⟨eF,U⟩]):=t3.ok.H (by rw[a07,yb];rfl);rw[p3,p4,F.F]at h1;rw[q3,q4,ns.F]at h3;have gr:=agY (Vh (bv.K c.bm) p b go fd) (Vh (bv.K c.bm) q w go fd) rfl (by show q.fs=p.fs;rw[p8,q8]) (by show q.rc=p.rc;rw[p5,q5]) (by show q.sc=p.sc;rw[p6,q6]) rfl rfl (by show Rx b.ap<=Rx w.ap;rw[W];unfold Rx;dsimp only;split<;>split<;>omega) (by show Rx b.ad<=Rx w.ad;rw[W];unfold Rx;dsimp only;split<;>split<;>omega) h1 h3;have cT:T[z O]?=J (.cH c.B ⟨eF,U⟩):=by rw[JR F.b4 (by rw[l1];omega),aF];rfl
 have P:=TU _ _ bT;have so:=λL (du:AO)=>aD2 (s:=D) (t:=L) (z O+1) du (by omega);have V:=λL=>aj b1 L;have j:=λ(du:AO) L=>aj (aX b1 du) L;have l:∀(du z':AO) (L:St),(D.set (z O+1) du++L).set (z O+1) z'=D.set (z O+1) z'++L:=λdu z' L=>by rw[aD2 _ _ (by rw[a96];omega),aB8]
 have gx:=λL=>bK (rfl:z D=_) L;have sx:=λL du=>iF (rfl:z D=_) L du;have gy:=λL=>bK (rfl:z Z=_) L;have m:=λL du=>iF (rfl:z Z=_) L du;have x4:=λL=>aj x3 L;have n:IntKind.i64.wrap (B:Int)=(B:Int):=by rw[IntKind.wrap_i64];omega
 have o:IntKind.i64.wrap (A:Int)=(A:Int):=by rw[IntKind.wrap_i64];omega
 have u:IntKind.i64.wrap (b.ap+(B:Int))=b.ap+B:=by rw[IntKind.wrap_i64];omega
 have v:IntKind.i64.wrap (b.ad+(A:Int))=b.ad+A:=by rw[IntKind.wrap_i64];omega
 have aE:∀T',T'.take (z O)=O->tidy (z O) [.cX eT] T'=O:=λT' h=>pG ac rfl h;have k4:(Z++[AO.cH y.B ⟨eF,U⟩]).take (z O)=O:=by
  apply aA9;intro i;by_cases h:i<z O
  ·rw[List.getElem?_take_of_lt h];have e0:O[i]?=J O[i]:=a02 h;have e1:T[i]?=J O[i]:=by rw[JR F.b4 (by rw[l1];omega)];exact aj e0 _
   have e2:=t1.bv i _ (λhh=>by have:=(pl _ hh).1;omega) (TU _ _ e1);have e3:=t3.bv i _ (λhh=>by have:=(ql _ hh).1;omega) (aj (aG e2 (by omega) (.cH w.B ⟨eF,U⟩)) [.cH x.B ⟨eF,U⟩]);rw[aj e3 _,e0]
  ·rw[aA1 (by rw[aB1];omega),aA1 (by omega)]
 have g:=aE _ k4;by_cases ab:Abt x
 ·obtain⟨L,hv⟩:=gr.b3;have ly:z y.b3=z x.b3+z L:=(by rw[hv,a04]);have nl:¬(z y.b3:Int)<(z x.b3:Int):=(by omega);obtain⟨w1,w2⟩:=ab;have ba:(x.jf==4)=eF:=(by simpa using w2);obtain⟨a1,a2,a3,a4,a5,a6,a7,xc,z1,z2,z3,z4,z5,z6,z7⟩:=aau x sm1.du;obtain⟨d1,d2,d3,d4,d5,d6,d7,yc,u1,u2,u3,u4,u5,u6,u7⟩:=aau y af.du;have X:=aql (C:=C) (Z++[.cH y.B ⟨eF,U⟩]) (z D) (z Z) (.cU .u8 x.fj) (.cU .u8 x.jf) (.cU .u8 x.e6) (.cV x.b6) a1 a2 a3 a4 a5 a6 a7 (.cU .u8 y.fj) (.cU .u8 y.jf) (.cU .u8 y.e6) (.cV y.b6) d1 d2 d3 d4 d5 d6 d7 (.cU .u8 B) (.cU .u8 A) x.b3 y.b3 L hv af.b3 (by rw[<-xc];exact x4 _) (by rw[gy,yc];rfl) (z x.b3) 0 (by omega);simp only[ay1]at X;have N:=gr.oT ⟨w1,w2⟩;have Q:=gr.hk ⟨w1,w2⟩;change x.jf=2->Rx w.ap=Rx b.ap->y.jf=2 at N;change x.jf=3->Rx w.ad=Rx b.ad->y.jf=3 at Q;rw[W]at N Q;dsimp only at N Q;rw[xc]at s1 s3 x4;rw[yc]at s3 X g;rw[w1]at s1 s3 x4;rw[aa]at s3;rw[bc]at d f k s1 V P⊢;rw[cc]at d f k K cT⊢;by_cases v2:x.jf=2
  ·rw[v2]at s1 s3 x4;by_cases v5:(B:Int)>0;·simp only[aS,d,f,E,G,I,S,k,K,cT,P,s1,s3,so,V,j,l,gx,sx,gy,m,x4,n,o,u,v,nl,X,v5,bP,g,z1,z2,z3,z4,z5,z6,z7,u1,u2,u3,u4,u5,u6,u7,aF,aN,AV.cH,fl5,splice,EVX,seval]
   ·have e0:B=0:=(by omega);have yw:=N v2 (by rw[e0];simp);rw[yw]at s3 X g;simp only[aS,d,f,E,G,I,S,k,K,cT,P,s1,s3,so,V,j,l,gx,sx,gy,m,x4,n,o,u,v,nl,X,v5,bP,g,z1,z2,z3,z4,z5,z6,z7,u1,u2,u3,u4,u5,u6,u7,aF,aN,AV.cH,fl5,splice,EVX,seval]
  ·have aL:(x.jf !=2)=eT:=(by simpa using v2);by_cases v3:x.jf=3
   ·rw[v3]at s1 s3 x4;by_cases v5:(A:Int)>0;·simp only[aS,d,f,E,G,I,S,k,K,cT,P,s1,s3,so,V,j,l,gx,sx,gy,m,x4,n,o,u,v,nl,X,v5,bP,g,z1,z2,z3,z4,z5,z6,z7,u1,u2,u3,u4,u5,u6,u7,aF,aN,AV.cH,fl5,splice,EVX,seval]
    ·have e0:A=0:=(by omega);have yw:=Q v3 (by rw[e0];simp);rw[yw]at s3 X g;simp only[aS,d,f,E,G,I,S,k,K,cT,P,s1,s3,so,V,j,l,gx,sx,gy,m,x4,n,o,u,v,nl,X,v5,bP,g,z1,z2,z3,z4,z5,z6,z7,u1,u2,u3,u4,u5,u6,u7,aF,aN,AV.cH,fl5,splice,EVX,seval]
   ·have aM:(x.jf !=3)=eT:=(by simpa using v3);simp only[aS,d,f,E,G,I,S,k,K,cT,P,s1,s3,so,V,j,l,gx,sx,gy,m,x4,n,o,u,v,ba,aL,aM,nl,X,bP,g,z1,z2,z3,z4,z5,z6,z7,u1,u2,u3,u4,u5,u6,u7,aF,aN,AV.cH,fl5,splice,EVX,seval]
 ·obtain⟨rfl,rfl⟩:=gr.cE ab;have f1:=akG H.told y sm1.du _ Y;have f2:=aas H.cE y sm1.du (by have:=sm1.b3;omega) _ Y;have f3:=YK H.gk Y (Rp.eG ah [.cH y.B ⟨eF,U⟩]) an.hy;have f4:=YK H.gk Y (Rp.eG t3.bh [.cH y.B ⟨eF,U⟩]) aq.hy;change ai C o9 [.c8 p.r 0] _=J (.sl (z F2) (F2.flatMap (Ak p.nm)),_)at f3;change ai C o9 [.c8 q.r 0] _=J (.sl (z F2) (F2.flatMap (Ak q.nm)),_)at f4;rw[p7]at f3;rw[q7]at f4;have f5:=aiz H.oJ c.nm F2 ah.st.dt.1 (Z++[.cH y.B ⟨eF,U⟩]);obtain⟨a1,a2,a3,a4,a5,a6,a7,yc,z1,z2,z3,z4,z5,z6,z7⟩:=aau y sm1.du;rw[yc]at s1 s3 x4 f1 f2 f3 f4 f5 g;rw[aa]at s3;rw[bc]at d f k s1 V P⊢;rw[cc]at d f k K cT⊢;by_cases w1:y.fj=3;·have w2:y.jf=4:=Decidable.byContradiction λh=>ab ⟨w1,h⟩;rw[w1,w2]at s1 s3 x4 f1 f2 f3 f4 f5 g;simp only[aS,d,f,E,G,I,S,k,K,cT,P,s1,s3,so,V,j,l,gx,sx,gy,m,x4,n,o,u,v,f1,f2,f3,f4,f5,g,agB,afq,yG,z1,z2,z3,z4,z5,z6,z7,aF,aN,AV.cH,fl5,splice,EVX,seval]
  ·have aR:(y.fj !=3)=eT:=(by simpa using w1);simp only[aS,d,f,E,G,I,S,k,K,cT,P,s1,s3,so,V,j,l,gx,sx,gy,m,x4,n,o,u,v,aR,f1,f2,f3,f4,f5,g,agB,afq,yG,z1,z2,z3,z4,z5,z6,z7,aF,aN,AV.cH,fl5,splice,EVX,seval]
end Go.Ev
namespace Go.Proofs.YtmbaofiahlcnhaaGreatDoor
open Go.IntKind renaming i64→r
open Option renaming some→J, none→U
open Bool renaming false→eF, true→eT
open List renaming length→z
open Go.Ev Go.RowKit
set_option maxRecDepth 1000000
noncomputable section
variable{u1 u2:TypeId}{b:Bool}
def akW(u1 u2:TypeId)(c:Bc)(p:List UInt8)(b:QH)(x:Int)(a:0<=x/\x<=255)(y:Int)(d:0<=y/\y<=255):ai (CL u1 u2) qP [.da c.B,.cV p,.da b.B,.cU .u8 x,.cU .u8 y] []=J (.cX eT,[]):=by obtain⟨n,rfl⟩:∃n:Nat,x=n:=⟨x.toNat,by omega⟩;obtain⟨m,rfl⟩:∃m:Nat,y=m:=⟨y.toNat,by omega⟩;exact Ru law9 (pR (b:=eT)) c p b n m (by omega) (by omega) [] ok0
end
end Go.Proofs.YtmbaofiahlcnhaaGreatDoor
